import PyProof.Rows.All
import HandS.ForMost
import HandS.ForExc
import HandS.WordsExc
import HandS.CallSlots
import HandS.Wide
import HandS.AnyAll
import HandS.GenList
import PyProof.CodeObjX
import KE.DataAny
import HandS.ExcCtx
import HandS.IsInst
import HandS.Style
import HandS.TupMul
import HandS.TupAny
import HandS.Deep
import PyProof.Rows.SeqMore
import HandS.HotCalls
import HandS.ExcIs
import HandS.ExcOwn
import PyProof.Rows.FactsN_isinstance
import HandS.Dict
import HandS.DictTup
import HandS.Remove
import HandS.More
import KE.DataMinMax
import KE.DataFind
import HandS.Text
import HandS.Gcd
import HandS.Rev
import KE.KTupSum
import HandS.WideBits
import HandS.Words
import HandS.EndTab
import KE.KNest
import HandS.RevTup
import HandS.Zip
import HandS.Star
import KE.SortData
import HandS.Strs
import KE.GoesEnum
import KE.GoesMore
import HandS.Conv
import PySem.Challenge.RW_shardsheld_k26_whole_cones_and_plans
set_option Elab.async false
set_option linter.all false
set_option maxRecDepth 100000
set_option maxHeartbeats 8000000
section
set_option Elab.async false
set_option linter.all false
set_option maxRecDepth 100000
set_option maxHeartbeats 1000000
/-! all, any of a generator expression, over anything that is walked, its names captured. -/
namespace Qd
open PySem PySem.Spec PyProof.Rows L2 GenW

/-- a code object's table, whatever stands in it -/
def tabO (a : Addr) : HO := .ext fun h => ∃ ps : Array Value, h.get? a = some { cls := .none, data := .fields ps } ∧ TriplesOk ps.toList
/-- the context of a generator expression's frame: s, H at its making -/
abbrev gxC (X : Cx) (A : Around) (s : Shared) (H : Hp) (cenv : Env) (fp : List Addr) (pn : List (Addr × Obj)) : Cx :=
  { X with A := A, s_0 := s, H_0 := H, env := cenv, outer := X.stack, stack := cenv :: X.stack, ex := fp, fn := fun _ => false, pn := pn, xe := fun _ _ => False }
section
variable {X : Cx} {pins : List (Addr × Obj)} {σ : L2.St} {H : Hp} {s : Shared}
theorem over_gx {B : Around} {elt tg iter : Expr} {ifs : List Expr} {scope : Scope} {pos : Pos} {it acc : Value} {cenv : Env} : B.over (.compLoop (.GeneratorExp elt [⟨tg, iter, ifs, 0⟩] scope pos) 0 it acc cenv) [] = B.deeper cenv := by
  first
    | rfl
    | (obtain ⟨hd, d, fr, gs, u⟩ := B; simp [Around.over, Around.deeper, marksOver, frameCount, unitsOf, envsOf, guardsOf, pushEnvs, pushGuards, Code.envs, Code.env?, Code.isFrame, Code.guards, Code.isGuard, Code.weight, Code.frames, Code.isCreation, Code.isCaller, Code.cUnits])
theorem over_gx0 {B : Around} {elt tg iter : Expr} {ifs : List Expr} {scope : Scope} {pos : Pos} {it acc : Value} {cenv : Env} : B.over (.compStart (.GeneratorExp elt [⟨tg, iter, ifs, 0⟩] scope pos) 0 it acc cenv) [] = B.deeper cenv := by
  first
    | rfl
    | (obtain ⟨hd, d, fr, gs, u⟩ := B; simp [Around.over, Around.deeper, marksOver, frameCount, unitsOf, envsOf, guardsOf, pushEnvs, pushGuards, Code.envs, Code.env?, Code.isFrame, Code.guards, Code.isGuard, Code.weight, Code.frames, Code.isCreation, Code.isCaller, Code.cUnits])
theorem room_gx {k : Nat} {A : Around} (r : Room (k + 1) A) (env : Env) : Room k (A.in1.in1.deeper env) :=
  ⟨r.hd, by have := r.dp; show A.depth + 1 + 3 * k + 5 < _; omega, by have := r.un; show A.units + 1 + 1 + 3 + 16 * k + 200 < _; omega⟩
/-- a generator expression's scope -/
structure GxScope (X : Cx) (scope : Scope) (own : List (Str × Nat)) : Prop where
  blk : BlkOk X.N X.env.scope scope own
  co : scope.isCoroutine = false
  cell : ∀ y ∈ scope.names, y.2 ≠ .cell
  dot : scope.names.lookup (".0" : Str) = some NameKind.local
theorem gx_start {A : Around} {scope : Scope} {own : List (Str × Nat)} {fp : List Addr} {code : Value} {C : Addr} {pn : List (Addr × Obj)} {s5 : Shared} {mm : Str → Option Value} (I : Inv X pins σ H s) (S : GxScope X scope own) (hN : X.N.Nodup) (hfp : ∀ b ∈ fp, FpOk X pins H b ∧ b < s.heap.objs.size)
    (hC : s.heap.objs.size ≤ C) (hns : s5.heap.Ns C mm) (kp : ∀ b o, s.heap.get? b = some o → H b = none → s5.heap.get? b = some o) (th : ∀ b o, s.heap.get? b = some o → ∃ o', s5.heap.get? b = some o') (hok : HOk X.prog X.w H s5.heap) (os : s5.os = s.os) (bare : AllBare s5.gens)
    (hd : A.handled = none) (hfr : A.frames = some (genEnv scope (cloFrom X.env.cells scope.names []) C code builtinsNs X.env :: X.stack))
    (hpn : ∀ p ∈ pn, s5.heap.get? p.1 = some p.2 ∧ H p.1 = none ∧ p.1 ≠ C ∧ p.1 ∉ frs X.stack ∧ ∀ v, p.2.data ≠ .cell v) :
    Inv (gxC X A s H (genEnv scope (cloFrom X.env.cells scope.names []) C code builtinsNs X.env) fp pn) [] (wipe σ (own.map (·.2))) H s5 := by
  have ok := S.blk
  have hfree : ∀ y ∈ scope.names, y.2 = .free → ∃ c, X.env.cells.lookup y.1 = some c := fun y hy e => by
    rcases ok.free y hy e with k | k
    · exact I.ok.has _ (.inl k)
    · exact I.ok.has _ (.inr k)
  generalize hcenv : genEnv scope (cloFrom X.env.cells scope.names []) C code builtinsNs X.env = cenv at hfr ⊢
  have hL : cenv.locals = C := by rw [← hcenv]; rfl
  have hcl : cenv.cells = cloFrom X.env.cells scope.names [] := by rw [← hcenv]; rfl
  have hsc : cenv.scope = scope := by rw [← hcenv]; rfl
  have cm : ∀ {y c}, cenv.cells.lookup y = some c → X.env.cells.lookup y = some c ∧ c < s.heap.objs.size ∧ scope.names.lookup y = some .free := fun {y c} e => by
    rw [hcl] at e
    rcases cloFrom_mem (PySem.mem_of_lookup e) with hm | ⟨h1, rfl⟩
    · cases hm
    · obtain ⟨c, hc⟩ := hfree _ h1 rfl
      rw [hc]
      obtain ⟨w, z⟩ := I.cell _ _ hc
      exact ⟨rfl, z.lt, ok.uniq _ h1⟩
  have look : ∀ {y}, scope.names.lookup y = some .free → ∃ c, cenv.cells.lookup y = some c ∧ X.env.cells.lookup y = some c := fun {y} hl => by
    have hy : (y, NameKind.free) ∈ scope.names := PySem.mem_of_lookup hl
    obtain ⟨c', e'⟩ := mem_lookup (cloFrom_has (cells := X.env.cells) (acc := []) hy)
    rw [← hcl] at e'
    exact ⟨c', e', (cm e').1⟩
  have kof : ∀ y, cenv.kindOf y = scope.names.lookup y := fun y => by unfold Env.kindOf; rw [hsc]
  have hgl : cenv.globals = X.env.globals := by rw [← hcenv]; rfl
  have hbl : cenv.builtins = builtinsNs := by rw [← hcenv]; rfl
  have hff : cenv.frame = some cenv.locals := by rw [← hcenv]; rfl
  have okB : (gxC X A s H cenv fp pn).Ok := by
    refine ⟨I.ok.mod, by show cenv.scope.kind = _; rw [hsc]; exact ok.kind, by show cenv.globals = _; rw [hgl]; exact I.ok.glob, hbl, by show s.heap.objs.size ≤ cenv.locals; rw [hL]; exact hC,
      fun y z c e1 e2 => I.ok.inj y z c (cm e1).1 (cm e2).1, fun y hy => ?_, fun y c z _ => (Bool.noConfusion z), fun _ => hd, hfr, .inr ⟨rfl, hff⟩, fun b hb => ⟨?_, fun y c e => ?_⟩, I.bs, Nat.le_trans I.ok.bsz I.sz, fun b o e hb => ?_, fun b hb z => ?_, I.stack, I.stkFree⟩
    · show ∃ c, cenv.cells.lookup y = some c
      have hy : cenv.kindOf y = some .cell ∨ cenv.kindOf y = some .free := hy
      rw [kof] at hy
      rcases hy with hy | hy
      · exact absurd rfl (S.cell _ (PySem.mem_of_lookup hy))
      · obtain ⟨c, h1, _⟩ := look hy
        exact ⟨c, h1⟩
    · show b ≠ cenv.locals
      rw [hL]
      exact Nat.ne_of_lt (Nat.lt_of_lt_of_le (hfp b hb).2 hC)
    · exact (hfp b hb).1.2.2.2.2.1 y c (cm e).1
    · rcases (hfp b hb).1.2.2.2.1 with z | z
      · exact I.ok.noex b o e z
      · exact absurd (Nat.lt_of_lt_of_le (Heap.lt_size e) (Nat.le_trans I.ok.bsz z)) (Nat.lt_irrefl _)
    · rcases List.mem_cons.mp (I.stkSub b z) with z | z
      · exact (hfp b hb).1.2.1 z
      · exact (hfp b hb).1.2.2.1 z
  refine ⟨okB, os, bare, ⟨fun b o e n _ _ => kp b o e n, fun b o e n _ _ => ⟨o.slots, kp b o e n⟩, fun _ _ _ n _ => n, fun b o e _ => th b o e, fun _ _ e => e, fun _ _ _ e => e, fun b ps e => ⟨#[], by have e : H b = some (.tbl ps) := e; show H b = _; rw [e]; simp⟩⟩,
    ⟨mm, by show Heap.Ns _ cenv.locals _; rw [hL]; exact hns, fun i y av e1 e2 e3 => ?_⟩, fun y c e => ?_, ?_, fun y c e => I.freeC y c (cm e).1, fun p hp => ?_, hok, by rw [wipe_length]; exact I.len⟩
  · obtain ⟨e2, hne⟩ := wipe_some e2
    have hfr : scope.names.lookup y = some .free := by
      have no : ∀ k, scope.names.lookup y = some k → ¬ (k = .local ∨ k = .cell) := fun k e hh => by
        rcases ok.own _ (PySem.mem_of_lookup e) hh with e' | e'
        · obtain ⟨p, hp, hpy⟩ := List.mem_map.mp e'
          have e3 := ok.ix p hp
          have : p.1 = y := hpy
          rw [this] at e3
          exact hne (List.mem_map.mpr ⟨p, hp, nodup_ix hN e3 e1⟩)
        · exact e' (List.mem_of_getElem? e1)
      have e3 : Vis cenv.scope y := e3
      rw [hsc] at e3
      rcases e3 with e3 | e3 | e3
      · exact absurd (.inl rfl) (no _ e3)
      · exact absurd (.inr rfl) (no _ e3)
      · exact e3
    obtain ⟨m, hn, hl⟩ := I.loc
    have hvis : Vis X.env.scope y := (ok.free _ (PySem.mem_of_lookup hfr) rfl).elim (fun k => .inr (.inl k)) (fun k => .inr (.inr k))
    obtain ⟨w, r, q⟩ := hl i y av e1 e2 hvis
    refine ⟨w, r, .inr ⟨.inr ((kof y).trans hfr), ?_⟩⟩
    obtain ⟨c, h1, h2⟩ := look hfr
    rcases q with ⟨k, _⟩ | ⟨_, c', e', z⟩
    · have k : X.env.scope.names.lookup y = some .local := k
      rcases ok.free _ (PySem.mem_of_lookup hfr) rfl with k' | k' <;> rw [show X.env.scope.names.lookup y = _ from k'] at k <;> cases k
    · rw [h2] at e'; cases e'
      obtain ⟨o, ho, rr⟩ := z
      exact ⟨c, h1, o, kp _ _ ho (I.freeC y c h2), rr⟩
  · obtain ⟨w, o, ho, rr⟩ := I.cell y c (cm e).1
    exact ⟨w, o, kp _ _ ho (I.freeC y c (cm e).1), rr⟩
  · show H cenv.locals = none
    rw [hL]; exact I.hok.fresh hC
  · have hp : p ∈ pn := by simpa using hp
    obtain ⟨a1, a2, a3, a4, a5⟩ := hpn p hp
    exact ⟨a1, a2, by show p.1 ≠ cenv.locals; rw [hL]; exact a3, a4, a5⟩
end

/-! ### the protocol: a truth is handed out -/
/-- while the generator sleeps nothing that lies in the heap is changed -/
structure Slp (s s' : Shared) : Prop where
  os : s'.os = s.os
  bare : AllBare s'.gens
  keep : ∀ b o, s.heap.get? b = some o → s'.heap.get? b = some o
def GxY (a : Addr) (g : Nat) (stop : Bool) (Fin : Bool → Shared → Prop) : Protocol := fun _ _ v s kap => ∃ b : Bool, v = .bool b ∧ s.heap.NoLimit ∧ s.heap.IsGen a g ∧ AllBare s.gens ∧
  if b = stop then ∀ s', Slp s s' → Fin stop s' else ∀ s', Slp s s' → kap (.send .none) s'
def GxF (stop : Bool) (Fin : Bool → Shared → Prop) : Nat → Shared → Shared → Prop := fun _ _ s => AllBare s.gens ∧ ∀ s', Slp s s' → Fin (!stop) s'
section
variable {P : Program} {w : World}
/-- the consumer's loop -/
theorem all_gx {A : Around} {a : Addr} {g : Nat} {Fin : Bool → Shared → Prop} {R : Result → Shared → Prop} (hh : A.handled = none) (hd : A.depth < recursionLimit) (hR : ∀ b s, Fin b s → R (.ok (.ret (.bool b))) s) :
    ∀ (n : Nat) (s : Shared), s.heap.IsGen a g → s.heap.NoLimit →
      (∃ gs, s.gens[g]? = some gs ∧ gs.Goes (model P w) A.in1.in1 (fun n s₀ r s₁ => r = .ok .next ∧ GxF false Fin n s₀ s₁) (GxY a g false Fin) n (.send .none) (s.setGen g .running)) →
      codeAny (model P w) A (.builtin "all.loop" ⟨[.ref a], []⟩) R s := by
  intro n
  induction n with
  | zero =>
    intro s hg hl ⟨gs, hgs, hgo⟩
    refine codeAny_builtin F.entry_all_loop ?_
    rw [Around.under_plainId F.plain_all_loop _]
    show wpAny _ A.in1 (pyNext (.ref a) >>= _) _ _ s
    refine wpAny_bind (wpAny_pyNext_genexpQ (A := A.in1) (P := GxF false Fin) hh hl hd hg hgs hgo (fun v s₁ gs' hb hv => ?_) fun s₁ hp h' hk => ?_)
    · obtain ⟨b, rfl, hl1, hg1, hb1, hv⟩ := hv
      refine wpAny_bind (wpAny_holding (wpAny_truthy_bool (wpAny_bind (wpAny_letGo ?_))))
      cases b with
      | true =>
        rw [if_neg (by decide)] at hv
        exact False.elim (hv s₁ ⟨rfl, hb1, fun _ _ e => e⟩)
      | false =>
        rw [if_pos rfl] at hv
        simp only [Bool.false_eq_true, if_false]
        refine wpAny_bind (wpAny_rule (wpAny_pure (hR false _ (hv _ ⟨rfl, allBare_setGen hb1 hb, fun _ _ e => e⟩))))
    · obtain ⟨hb1, hp⟩ := hp
      refine wpAny_bind (wpAny_rule (wpAny_pure (hR true _ (hp _ ⟨rfl, allBare_setGen hb1 rfl, hk⟩))))
  | succ n ih =>
    intro s hg hl ⟨gs, hgs, hgo⟩
    have hgl : g < s.gens.size := (Array.getElem?_eq_some_iff.mp hgs).1
    refine codeAny_builtin F.entry_all_loop ?_
    rw [Around.under_plainId F.plain_all_loop _]
    show wpAny _ A.in1 (pyNext (.ref a) >>= _) _ _ s
    refine wpAny_bind (wpAny_gsz (n := g + 1) hgl (wpAny_pyNext_genexpQ (A := A.in1) (P := GxF false Fin) hh hl hd hg hgs hgo (fun v s₁ gs' hb hv => ?_) fun s₁ hp h' hk => ?_))
    · intro hsz
      obtain ⟨b, rfl, hl1, hg1, hb1, hv⟩ := hv
      refine wpAny_bind (wpAny_holding (wpAny_truthy_bool (wpAny_bind (wpAny_letGo ?_))))
      cases b with
      | true =>
        rw [if_neg (by decide)] at hv
        simp only [if_true]
        have hsz' : g < s₁.gens.size := by
          rw [setGen_size] at hsz
          exact hsz
        refine wpAny_pure ⟨plainId_quiet F.plain_all_loop _, ih _ hg1 hl1 ⟨gs', setGen_at hsz', ?_⟩⟩
        exact hv _ ⟨rfl, allBare_setGen (allBare_setGen hb1 hb) rfl, fun _ _ e => e⟩
      | false =>
        rw [if_pos rfl] at hv
        simp only [Bool.false_eq_true, if_false]
        refine wpAny_bind (wpAny_rule (wpAny_pure (hR false _ (hv _ ⟨rfl, allBare_setGen hb1 hb, fun _ _ e => e⟩))))
    · intro _
      obtain ⟨hb1, hp⟩ := hp
      refine wpAny_bind (wpAny_rule (wpAny_pure (hR true _ (hp _ ⟨rfl, allBare_setGen hb1 rfl, hk⟩))))
theorem any_gx {A : Around} {a : Addr} {g : Nat} {Fin : Bool → Shared → Prop} {R : Result → Shared → Prop} (hh : A.handled = none) (hd : A.depth < recursionLimit) (hR : ∀ b s, Fin b s → R (.ok (.ret (.bool b))) s) :
    ∀ (n : Nat) (s : Shared), s.heap.IsGen a g → s.heap.NoLimit →
      (∃ gs, s.gens[g]? = some gs ∧ gs.Goes (model P w) A.in1.in1 (fun n s₀ r s₁ => r = .ok .next ∧ GxF true Fin n s₀ s₁) (GxY a g true Fin) n (.send .none) (s.setGen g .running)) →
      codeAny (model P w) A (.builtin "any.loop" ⟨[.ref a], []⟩) R s := by
  intro n
  induction n with
  | zero =>
    intro s hg hl ⟨gs, hgs, hgo⟩
    refine codeAny_builtin F.entry_any_loop ?_
    rw [Around.under_plainId F.plain_any_loop _]
    show wpAny _ A.in1 (pyNext (.ref a) >>= _) _ _ s
    refine wpAny_bind (wpAny_pyNext_genexpQ (A := A.in1) (P := GxF true Fin) hh hl hd hg hgs hgo (fun v s₁ gs' hb hv => ?_) fun s₁ hp h' hk => ?_)
    · obtain ⟨b, rfl, hl1, hg1, hb1, hv⟩ := hv
      refine wpAny_bind (wpAny_holding (wpAny_truthy_bool (wpAny_bind (wpAny_letGo ?_))))
      cases b with
      | false =>
        rw [if_neg (by decide)] at hv
        exact False.elim (hv s₁ ⟨rfl, hb1, fun _ _ e => e⟩)
      | true =>
        rw [if_pos rfl] at hv
        simp only [if_true]
        refine wpAny_bind (wpAny_rule (wpAny_pure (hR true _ (hv _ ⟨rfl, allBare_setGen hb1 hb, fun _ _ e => e⟩))))
    · obtain ⟨hb1, hp⟩ := hp
      refine wpAny_bind (wpAny_rule (wpAny_pure (hR false _ (hp _ ⟨rfl, allBare_setGen hb1 rfl, hk⟩))))
  | succ n ih =>
    intro s hg hl ⟨gs, hgs, hgo⟩
    have hgl : g < s.gens.size := (Array.getElem?_eq_some_iff.mp hgs).1
    refine codeAny_builtin F.entry_any_loop ?_
    rw [Around.under_plainId F.plain_any_loop _]
    show wpAny _ A.in1 (pyNext (.ref a) >>= _) _ _ s
    refine wpAny_bind (wpAny_gsz (n := g + 1) hgl (wpAny_pyNext_genexpQ (A := A.in1) (P := GxF true Fin) hh hl hd hg hgs hgo (fun v s₁ gs' hb hv => ?_) fun s₁ hp h' hk => ?_))
    · intro hsz
      obtain ⟨b, rfl, hl1, hg1, hb1, hv⟩ := hv
      refine wpAny_bind (wpAny_holding (wpAny_truthy_bool (wpAny_bind (wpAny_letGo ?_))))
      cases b with
      | false =>
        rw [if_neg (by decide)] at hv
        simp only [Bool.false_eq_true, if_false]
        have hsz' : g < s₁.gens.size := by
          rw [setGen_size] at hsz
          exact hsz
        refine wpAny_pure ⟨plainId_quiet F.plain_any_loop _, ih _ hg1 hl1 ⟨gs', setGen_at hsz', ?_⟩⟩
        exact hv _ ⟨rfl, allBare_setGen (allBare_setGen hb1 hb) rfl, fun _ _ e => e⟩
      | true =>
        rw [if_pos rfl] at hv
        simp only [if_true]
        refine wpAny_bind (wpAny_rule (wpAny_pure (hR true _ (hv _ ⟨rfl, allBare_setGen hb1 hb, fun _ _ e => e⟩))))
    · intro _
      obtain ⟨hb1, hp⟩ := hp
      refine wpAny_bind (wpAny_rule (wpAny_pure (hR false _ (hp _ ⟨rfl, allBare_setGen hb1 rfl, hk⟩))))
end

/-! ### the generator's own run -/
section
variable {X : Cx} {pins : List (Addr × Obj)} {σ : L2.St} {H₁ : Hp} {s₁ : Shared}
/-- by turns, as a list comprehension's; stop: at which truth the consumer stops -/
def tGx (P : Addr) (stop : Bool) (wi : TI) (g : TG) (tt : TT) (te : TE) (vs : List Nat) : TE := fun σ H Q => wi σ H fun J H1 => H1 P = some (tabO P) ∧ ∃ W : Nat → Nat → Hp → Prop, (∃ m, W 0 m H1) ∧ ∀ i m H, W i m H →
  (J.stop i H ∧ Q (.bl (!stop)) H) ∨ (J.go i H ∧ ∃ Nx : Hp → Prop, (∀ H', Nx H' → ∃ m', m' < m ∧ W (i + 1) m' H') ∧ ∀ x H', J.yld i H x H' → g x (wipe σ vs) H' fun σ2 H2 => wipe σ2 vs = wipe σ vs ∧ tt σ2 H2 fun b H3 =>
    if b = true then te σ2 H3 fun y H4 => ∃ k : Bool, y = .bl k ∧ if k = stop then Q (.bl stop) H4 else Nx H4 else Nx H3)
/-- the end: in the def's context again -/
def GxFin (X : Cx) (pins : List (Addr × Obj)) (σ : L2.St) (Q : VK) (b : Bool) (s : Shared) : Prop := ∃ H', Inv X pins σ H' s ∧ Q (.bl b) H'
theorem slp_inv {X : Cx} {pins : List (Addr × Obj)} {σ : L2.St} {H : Hp} {s s' : Shared} (I : Inv X pins σ H s) (z : Slp s s') : Inv X pins σ H s' :=
  I.call' (ch := []) z.os (Un.kept z.keep) (I.hok.kept z.keep) z.bare fun b hb => absurd hb (by simp)
theorem gx_back {A : Around} {cenv : Env} {fp : List Addr} {pn pins' : List (Addr × Obj)} {σ' : L2.St} {H : Hp} {s s' : Shared} (I₁ : Inv X pins σ H₁ s₁) (hf : ∀ b ∈ fp, FpOk X pins H₁ b) (I : Inv (gxC X A s₁ H₁ cenv fp pn) pins' σ' H s) (z : Slp s s') : Inv X pins σ H s' := by
  have J := slp_inv I z
  exact I₁.call' (ch := fp) J.os J.base J.hok J.bare fun b hb => ⟨(hf b hb).2.2.2.1, (hf b hb).2.1, (hf b hb).2.2.2.2.1, (hf b hb).2.2.2.2.2⟩
theorem seg_gx {B : Around} {elt tg iter : Expr} {ifs : List Expr} {scope : Scope} {pos : Pos} {cenv : Env} {it a : Addr} {gn : Nat} {go : Obj} {fp : List Addr} {tn : Nat → Heap → Prop} {J : It} {stop : Bool} {g : TG} {tt : TT} {te : TE} {vs : List Nat} {Q : VK} {W : Nat → Nat → Hp → Prop}
    (hc : X.calm = true) (I₁ : Inv X pins σ H₁ s₁) (hf : ∀ b ∈ fp, FpOk X pins H₁ b) (T : Turn X.prog X.w X.K tg J fp it tn) (hgo : ∀ h : Heap, h.get? a = some go → h.IsGen a gn) (hafp : a ∉ fp)
    (hco : cenv.scope.isCoroutine = false)
    (hg : PG (gxC X (B.deeper cenv) s₁ H₁ cenv fp [(a, go)]) tg g) (ht : PTs (gxC X (B.deeper cenv) s₁ H₁ cenv fp [(a, go)]) ifs tt) (he : PE (gxC X (B.deeper cenv) s₁ H₁ cenv fp [(a, go)]) elt te)
    (turn : ∀ i m H, W i m H →
      (J.stop i H ∧ Q (.bl (!stop)) H) ∨ (J.go i H ∧ ∃ Nx : Hp → Prop, (∀ H', Nx H' → ∃ m', m' < m ∧ W (i + 1) m' H') ∧ ∀ x H', J.yld i H x H' → g x (wipe σ vs) H' fun σ2 H2 => wipe σ2 vs = wipe σ vs ∧ tt σ2 H2 fun b H3 =>
        if b = true then te σ2 H3 fun y H4 => ∃ k : Bool, y = .bl k ∧ if k = stop then Q (.bl stop) H4 else Nx H4 else Nx H3)) :
    ∀ (m n i : Nat) (s₀ s : Shared) (H : Hp), m < n → Inv (gxC X (B.deeper cenv) s₁ H₁ cenv fp [(a, go)]) [] (wipe σ vs) H s → tn i s.heap → (∀ b ∈ fp, H b = none) → W i m H →
      Seg (model X.prog X.w) B (fun n s₀ r s₁ => r = .ok .next ∧ GxF stop (GxFin X pins σ Q) n s₀ s₁) (GxY a gn stop (GxFin X pins σ Q)) n s₀
        (.compLoop (.GeneratorExp elt [⟨tg, iter, ifs, 0⟩] scope pos) 0 (.ref it) .none cenv)
        ((model X.prog X.w).den (.compLoop (.GeneratorExp elt [⟨tg, iter, ifs, 0⟩] scope pos) 0 (.ref it) .none cenv)) [] s := by
  intro m
  induction m using Nat.strongRecOn with
  | ind m ih =>
    intro n i s₀ s H hmn I st nf w
    have stat : ∀ {σ' : L2.St} {H' : Hp} {s' : Shared}, Inv (gxC X (B.deeper cenv) s₁ H₁ cenv fp [(a, go)]) [] σ' H' s' → (∀ b ∈ fp, H' b = none) → ∀ b ∈ fp, FpOk (gxC X (B.deeper cenv) s₁ H₁ cenv fp [(a, go)]) [] H' b := fun {σ' H' s'} I' hn b hb =>
      ⟨hn b hb, (I'.ok.exf b hb).1, I'.ok.exfs b hb, .inl hb, fun x c e => (I'.ok.exf b hb).2 x c e, fun p hp => by
        have hp : p ∈ [(a, go)] := by simpa using hp
        rw [List.mem_singleton.mp hp]
        exact fun z => hafp (by rw [show a = b from z]; exact hb)⟩
    have ov := @over_gx B elt tg iter ifs scope pos (.ref it) .none cenv
    show Seg _ B _ _ _ s₀ _ ((compTurn (.GeneratorExp elt [⟨tg, iter, ifs, 0⟩] scope pos) 0 (.ref it) .none cenv).onRaise (leaving cenv)) [] s
    rw [compTurn_gen, Sem.onRaise_eq_wrap]
    refine seg_bind_wrap (wpAny_standAt ?_)
    rcases turn i m H w with ⟨hstop, qq⟩ | ⟨hgo2, Nx, hNx, step⟩
    · have td := T.done (gxC X (B.deeper cenv) s₁ H₁ cenv fp [(a, go)]) rfl rfl rfl hc i [] s _ H (fun _ _ => False) I (stat I nf) st hstop
      refine seg_bind_wrap ?_
      rw [ov]
      refine thnF td fun r s6 ⟨hr, I6⟩ => ?_
      subst hr
      exact seg_end (.ok .next) ⟨rfl, I6.bare, fun s' z => ⟨H, gx_back I₁ hf I6 z, qq⟩⟩
    · have ti := T.item (gxC X (B.deeper cenv) s₁ H₁ cenv fp [(a, go)]) rfl rfl rfl hc i [] s _ H (fun _ _ => False) I (stat I nf) st hgo2
      refine seg_bind_wrap ?_
      rw [ov]
      refine thnF ti fun r s6 ⟨u, hr, h6⟩ => ?_
      subst hr
      dsimp only
      refine seg_bind_wrap ?_
      rw [ov]
      refine thnF h6 fun _ s7 ⟨x, H7, I7, r7, y7, st7, n7⟩ => ?_
      have I7' := I7.pinned (stat I7 n7) (T.obj _ _ st7)
      refine seg_bind_wrap ?_
      rw [ov]
      refine thnF (hg.run _ s7 _ H7 x u _ I7' r7 (step x H7 y7)) fun _ s8 ⟨σ8, H8, I8, hw8, q8⟩ => ?_
      refine seg_bind_wrap ?_
      rw [ov]
      refine thnF (ht.run _ s8 σ8 H8 _ I8 q8) fun b s9 ⟨H9, I9, q9⟩ => ?_
      -- the next turn
      have fin : ∀ {s' : Shared} {H' : Hp} {n' : Nat} {s₀' : Shared}, m ≤ n' → Inv (gxC X (B.deeper cenv) s₁ H₁ cenv fp [(a, go)]) ([] ++ pinsAt fp s7.heap) σ8 H' s' → Nx H' →
          Seg (model X.prog X.w) B (fun n s₀ r s₁ => r = .ok .next ∧ GxF stop (GxFin X pins σ Q) n s₀ s₁) (GxY a gn stop (GxFin X pins σ Q)) n' s₀'
            (.compLoop (.GeneratorExp elt [⟨tg, iter, ifs, 0⟩] scope pos) 0 (.ref it) .none cenv)
            ((model X.prog X.w).den (.compLoop (.GeneratorExp elt [⟨tg, iter, ifs, 0⟩] scope pos) 0 (.ref it) .none cenv)) [] s' := fun {s' H' n' s₀'} hle I' nx => by
        obtain ⟨m', hm, w'⟩ := hNx H' nx
        have pin' : ∀ b ∈ fp, ∀ o, s7.heap.get? b = some o → s'.heap.get? b = some o ∧ H' b = none := fun b hb o e =>
          let z := I'.pin (b, o) (List.mem_append_right _ (List.mem_append_right _ (mem_pinsAt hb e)))
          ⟨z.1, z.2.1⟩
        have hl : (wipe σ vs).length = σ8.length := by rw [← hw8, wipe_length]
        refine ih m' hm n' (i + 1) s₀' s' H' (by omega) ((I'.unpinned (pins := [])).weak hl fun j v e => ?_) (T.keep _ _ _ st7 fun b hb o e => (pin' b hb o e).1) (fun b hb => ?_) w'
        · rw [← hw8] at e
          exact (wipe_some e).1
        · obtain ⟨o, e, _⟩ := T.obj _ _ st7 b hb
          exact (pin' b hb o e).2
      cases b with
      | false =>
        simp only [Bool.false_eq_true, if_false] at q9 ⊢
        exact seg_again rfl (fin (by omega) I9 q9)
      | true =>
        simp only [if_true] at q9 ⊢
        have hy : ∀ v, yieldOut cenv v = yieldValue v := fun v => by simp only [yieldOut, hco, Bool.false_eq_true, if_false]
        simp only [hy]
        rw [Sem.bind_eq_wrap', Sem.bind_eq_wrap', Sem.wrap_wrap, Sem.wrap_wrap]
        refine seg_wrap ?_
        rw [ov]
        refine thnF (he.run _ s9 σ8 H9 _ I9 q9) fun z s10 ⟨yv, H10, I10, r10, k, ey, nx⟩ => ?_
        subst ey
        obtain rfl : z = Value.bool k := r10
        obtain ⟨n, rfl⟩ : ∃ n', n = n' + 1 := ⟨n - 1, by omega⟩
        have hgen : s10.heap.IsGen a gn := hgo _ (I10.pin (a, go) (List.mem_append_left _ (List.mem_singleton.mpr rfl))).1
        refine seg_at (seg_yield rfl rfl rfl ⟨k, rfl, I10.nolimit, hgen, I10.bare, ?_⟩)
        by_cases hk : k = stop
        · rw [if_pos hk] at nx ⊢
          exact fun s' zz => ⟨H10, gx_back I₁ hf I10 zz, nx⟩
        · rw [if_neg hk] at nx ⊢
          exact fun s' zz => seg_again rfl (fin (by omega) (slp_inv I10 zz) nx)
end

section
variable {X : Cx} {pins : List (Addr × Obj)} {σ : L2.St} {H : Hp} {s : Shared}
/-- what the consumer gets -/
def GxReady (X : Cx) (pins : List (Addr × Obj)) (σ : L2.St) (stop : Bool) (Q : VK) (a : Addr) (s : Shared) : Prop :=
  ∃ (g n : Nat) (gs : GenState), s.heap.IsGen a g ∧ s.heap.NoLimit ∧ s.gens[g]? = some gs ∧ gs.Goes (model X.prog X.w) X.A.in1.in1 (fun n s₀ r s₁ => r = .ok .next ∧ GxF stop (GxFin X pins σ Q) n s₀ s₁) (GxY a g stop (GxFin X pins σ Q)) n (.send .none) (s.setGen g .running)
theorem tabO_ok {P : Program} {w : World} {H : Hp} {h : Heap} {a : Addr} {ps : Array Value} (e : h.get? a = some { cls := .none, data := .fields ps }) (ht : TriplesOk ps.toList) : ObjOk P w H h a (tabO a) :=
  ⟨⟨ps, e, ht⟩, ⟨_, e⟩, fun h1 h2 ⟨qs, e1, t1⟩ k => ⟨qs, k _ e1, t1⟩⟩
theorem gx_make {c P : Addr} {k : Nat} {elt tg iter : Expr} {ifs : List Expr} {scope : Scope} {own : List (Str × Nat)} {gpos : Pos} {stop : Bool} {wi : TI} {g : TG} {tt : TT} {te : TE} {Q : VK} {Q' : Value → Shared → Prop}
    (hr : Room (k + 1) X.A) (TB : GxR.TabB X.base X.mg c P) (hcode : X.env.code = .ref c) (S : GxScope X scope own) (hN : X.N.Nodup) (hc : X.calm = true) (hi : PI X tg iter wi)
    (hg : ∀ (A : Around) (s : Shared) (H : Hp) (cl : List (Str × Addr)) (C : Addr) (code : Value) (fp : List Addr) (pn : List (Addr × Obj)), Room k A → PG (gxC X A s H (genEnv scope cl C code builtinsNs X.env) fp pn) tg g)
    (ht : ∀ (A : Around) (s : Shared) (H : Hp) (cl : List (Str × Addr)) (C : Addr) (code : Value) (fp : List Addr) (pn : List (Addr × Obj)), Room k A → PTs (gxC X A s H (genEnv scope cl C code builtinsNs X.env) fp pn) ifs tt)
    (he : ∀ (A : Around) (s : Shared) (H : Hp) (cl : List (Str × Addr)) (C : Addr) (code : Value) (fp : List Addr) (pn : List (Addr × Obj)), Room k A → PE (gxC X A s H (genEnv scope cl C code builtinsNs X.env) fp pn) elt te)
    (hs : ∀ v, genFold iter X.env v = pure v) (I : Inv X pins σ H s) (h : tGx P stop wi g tt te (own.map (·.2)) σ H Q) (hQ : ∀ a s5, GxReady X pins σ stop Q a s5 → Q' (.ref a) s5) :
    wpAny (model X.prog X.w) X.A (eval (.GeneratorExp elt [⟨tg, iter, ifs, 0⟩] scope gpos) X.env) Q' X.xe s := by
  have hfree : ∀ y ∈ scope.names, y.2 = .free → ∃ c, X.env.cells.lookup y.1 = some c := fun y hy e => by
    rcases S.blk.free y hy e with k | k
    · exact I.ok.has _ (.inl k)
    · exact I.ok.has _ (.inr k)
  refine wpAny_GeneratorExp_make S.co (closure_ok hfree) S.cell S.dot S.blk.kind (by have := hr.dp; omega) ?_ hs
  refine thn (hi.run pins s σ H _ I h) fun xv s1 h1 => thn h1 fun itv s2 h2 => ?_
  obtain ⟨it, fp, tn, J, H2, e, I2, T, st2, f2, hP, W, ⟨m0, w0⟩, turn⟩ := h2
  subst e
  refine ⟨I2.nolimit, ?_⟩
  obtain ⟨⟨ps, hPs, htr⟩, _, _⟩ := I2.hok P _ hP
  have cd : PySem.W.CodeHd s2.heap c P := TB.code.keeps I2.bk
  have sz : ∀ b ∈ fp, b < s2.heap.objs.size := fun b hb => by
    obtain ⟨o, e, _⟩ := T.obj _ _ st2 b hb
    exact Heap.lt_size e
  have hcP : cStatics ≠ P := fun e => by
    obtain ⟨_, hns, _⟩ := I2.nolimit
    obtain ⟨o', es, ep, ho, hd, _⟩ := hns
    rw [e, hPs] at ho
    cases ho
    cases hd
  have hfpP : ∀ b ∈ fp, b ≠ P := fun b hb z => by
    have q := (f2 b hb).1
    rw [z, hP] at q
    cases q
  have cont : ∀ (code : Value) (h3 : Heap) (tk : Nat) (ps' : Array Value), Heap.ExtBut P s2.heap h3 → s2.heap.objs.size ≤ h3.objs.size → h3.get? P = some { cls := .none, data := .fields ps' } → TriplesOk ps'.toList →
      wpAny (model X.prog X.w) X.A (builtinsFor X.env.globals X.env.builtins) (fun bi s₄ =>
        ∀ h', h'.Ns s₄.heap.objs.size (fun y => if y = ".0" then some (.ref it) else none) → Heap.SameBut s₄.heap.objs.size (s₄.heap.push { cls := .type "frame", data := .dict #[] }) h' →
          Q' (.ref h'.objs.size) { s₄ with
            gens := s₄.gens.push (.fresh (.compStart (.GeneratorExp elt [⟨tg, iter, ifs, 0⟩] scope gpos) 0 (.ref it) .none (genEnv scope (cloFrom X.env.cells scope.names []) s₄.heap.objs.size code bi X.env))),
            toks := s₄.toks + 1 + 1 + 1,
            heap := h'.push { cls := .type "generator", data := .fields #[.int s₄.gens.size 0, .str "<genexpr>" (s₄.toks + 1), .str (X.env.qual ++ "<genexpr>") (s₄.toks + 1 + 1)] } }) X.xe { s2 with heap := h3, toks := tk } := by
    intro code h3 tk ps' hx hsz hP3 ht3
    obtain ⟨bm, ob, e1, e2, e3, e4, e5, e6, e7, e8⟩ := TB.bm
    have keep3 : ∀ b u, b ≠ P → s2.heap.get? b = some u → h3.get? b = some u := fun b u hb e => hx b u hb e
    refine wpAny_builtinsFor (m := X.mg) (by rw [I2.ok.glob]; exact (I2.mod.glob.keeps I2.bk).extBut hx TB.gP) e1 e2 (keep3 _ _ e4 (I2.bk _ _ e5)) e6 e7 e8 ?_
    intro h' hn' hs'
    have hsz' : h'.objs.size = h3.objs.size + 1 := by rw [hs'.1, Heap.size_push]
    have keep' : ∀ b o, h3.get? b = some o → h'.get? b = some o := fun b o e => hs'.extBut b o (Nat.ne_of_lt (Heap.lt_size e)) (Heap.get?_push_of_some _ e)
    refine hQ _ _ ?_
    have main : ∀ (go : Obj), go.data = .fields #[.int s2.gens.size 0, .str "<genexpr>" (tk + 1), .str (X.env.qual ++ "<genexpr>") (tk + 1 + 1)] → go.cls = .type "generator" → go.slots = #[] → (h'.push go).get? h'.objs.size = some go →
        GxReady X pins σ stop Q h'.objs.size { s2 with gens := s2.gens.push (.fresh (.compStart (.GeneratorExp elt [⟨tg, iter, ifs, 0⟩] scope gpos) 0 (.ref it) .none (genEnv scope (cloFrom X.env.cells scope.names []) h3.objs.size code builtinsNs X.env))), toks := tk + 1 + 1 + 1, heap := h'.push go } := by
      intro go hgd hgc hgs hgp
      have keep5 : ∀ b o, h3.get? b = some o → (h'.push go).get? b = some o := fun b o e => Heap.get?_push_of_some _ (keep' b o e)
      have keep25 : ∀ b o, b ≠ P → s2.heap.get? b = some o → (h'.push go).get? b = some o := fun b o hb e => keep5 b o (keep3 b o hb e)
      have nP : ∀ b u, H2 b = some u → b ≠ P → ∀ d v, (d = b ∨ H2 d = some (.own b)) → s2.heap.get? d = some v → (h'.push go).get? d = some v := fun b u e hb d v hd q => by
        refine keep25 d v (fun z => ?_) q
        rcases hd with y | y
        · exact hb (by rw [← y]; exact z)
        · rw [z, hP] at y
          cases y
      have hok5 : HOk X.prog X.w H2 (h'.push go) := fun b u e => by
        by_cases hb : b = P
        · rw [hb, hP] at e
          cases e
          rw [hb]
          exact tabO_ok (keep5 _ _ hP3) ht3
        · exact (I2.hok b u e).stay (nP b u e hb) (fun _ q => q) fun _ _ q => q
      have hgen : ∀ h : Heap, h.get? h'.objs.size = some go → h.IsGen h'.objs.size s2.gens.size := fun h e => ⟨go, _, _, e, hgc, hgd, hgs⟩
      have hlt2 : s2.heap.objs.size ≤ h'.objs.size := by omega
      have lim5 : (h'.push go).NoLimit := let ⟨mc, a, b⟩ := I2.nolimit; ⟨mc, a.at' fun o e => keep25 _ o hcP e, b⟩
      have bare5 : AllBare (s2.gens.push (.fresh (.compStart (.GeneratorExp elt [⟨tg, iter, ifs, 0⟩] scope gpos) 0 (.ref it) .none (genEnv scope (cloFrom X.env.cells scope.names []) h3.objs.size code builtinsNs X.env)))) := AllBare.push I2.bare rfl
      have hr2 := room_gx hr (genEnv scope (cloFrom X.env.cells scope.names []) h3.objs.size code builtinsNs X.env)
      have I5 : Inv (gxC X (X.A.in1.in1.deeper (genEnv scope (cloFrom X.env.cells scope.names []) h3.objs.size code builtinsNs X.env)) s2 H2 (genEnv scope (cloFrom X.env.cells scope.names []) h3.objs.size code builtinsNs X.env) fp [(h'.objs.size, go)]) [] (wipe σ (own.map (·.2))) H2
          { s2 with gens := s2.gens.push (.fresh (.compStart (.GeneratorExp elt [⟨tg, iter, ifs, 0⟩] scope gpos) 0 (.ref it) .none (genEnv scope (cloFrom X.env.cells scope.names []) h3.objs.size code builtinsNs X.env))), toks := tk + 1 + 1 + 1, heap := h'.push go } := by
        refine gx_start I2 S hN (fun b hb => ⟨f2 b hb, sz b hb⟩) hsz (hn'.push _) (fun b o e n => keep25 b o (fun z => by rw [z, hP] at n; cases n) e) (fun b o e => ?_) hok5 rfl bare5 hr2.hd (Around.frames_deeper (show X.A.in1.in1.frames = some X.stack from I2.ok.frames)) fun p hp => ?_
        · by_cases hb : b = P
          · rw [hb]; exact ⟨_, keep5 _ _ hP3⟩
          · exact ⟨o, keep25 b o hb e⟩
        · rw [List.mem_singleton.mp hp]
          exact ⟨hgp, I2.hok.fresh hlt2, by show h'.objs.size ≠ h3.objs.size; omega, fun z => by
            rcases List.mem_cons.mp (I2.stkSub _ z) with z | z
            · exact absurd I2.lt (by rw [← z]; exact Nat.not_lt.mpr hlt2)
            · exact I2.nofs hlt2 z, fun v q => by rw [hgd] at q; cases q⟩
      refine ⟨s2.gens.size, m0 + 1, _, hgen _ hgp, lim5, Array.getElem?_push_size .., rfl, ?_⟩
      have zz : Slp ({ s2 with gens := s2.gens.push (.fresh (.compStart (.GeneratorExp elt [⟨tg, iter, ifs, 0⟩] scope gpos) 0 (.ref it) .none (genEnv scope (cloFrom X.env.cells scope.names []) h3.objs.size code builtinsNs X.env))), toks := tk + 1 + 1 + 1, heap := h'.push go } : Shared)
          (Shared.setGen { s2 with gens := s2.gens.push (.fresh (.compStart (.GeneratorExp elt [⟨tg, iter, ifs, 0⟩] scope gpos) 0 (.ref it) .none (genEnv scope (cloFrom X.env.cells scope.names []) h3.objs.size code builtinsNs X.env))), toks := tk + 1 + 1 + 1, heap := h'.push go } s2.gens.size .running) := ⟨rfl, allBare_setGen bare5 rfl, fun _ _ e => e⟩
      have I6 := slp_inv I5 zz
      generalize hs6 : Shared.setGen { s2 with gens := s2.gens.push (.fresh (.compStart (.GeneratorExp elt [⟨tg, iter, ifs, 0⟩] scope gpos) 0 (.ref it) .none (genEnv scope (cloFrom X.env.cells scope.names []) h3.objs.size code builtinsNs X.env))), toks := tk + 1 + 1 + 1, heap := h'.push go } s2.gens.size .running = s6 at I6 ⊢
      have st6 : tn 0 s6.heap := by
        rw [← hs6]
        exact T.keep _ _ _ st2 fun b hb o e => keep25 b o (hfpP b hb) e
      have loop := seg_gx (B := X.A.in1.in1) (pos := gpos) (scope := scope) (iter := iter) (gn := s2.gens.size) hc I2 f2 T hgen (fun z => absurd (sz _ z) (Nat.not_lt.mpr hlt2)) S.co
        (hg _ s2 H2 _ _ _ fp [(h'.objs.size, go)] hr2) (ht _ s2 H2 _ _ _ fp [(h'.objs.size, go)] hr2) (he _ s2 H2 _ _ _ fp [(h'.objs.size, go)] hr2) turn m0 (m0 + 1) 0 s6 s6 H2 (Nat.lt_succ_self _) I6 st6 (fun b hb => (f2 b hb).1) w0
      show Seg _ X.A.in1.in1 _ _ _ s6 _ ((compStart (.GeneratorExp elt [⟨tg, iter, ifs, 0⟩] scope gpos) 0 (.ref it) .none (genEnv scope (cloFrom X.env.cells scope.names []) h3.objs.size code builtinsNs X.env)).onRaise (leaving (genEnv scope (cloFrom X.env.cells scope.names []) h3.objs.size code builtinsNs X.env))) [] s6
      unfold compStart
      rw [Sem.onRaise_eq_wrap]
      show Seg _ X.A.in1.in1 _ _ _ s6 _ ((ask >>= _).wrap _ _ _ _) [] s6
      refine seg_bind_wrap (wpAny_askSetting ?_)
      split
      · exact seg_again rfl loop
      · first
          | exact seg_bind_wrap (wpAny_rule (seg_bind_wrap (wpAny_standAt (seg_bind_wrap (T.self _ 0 s6 _ _ st6 (seg_again rfl loop))))))
          | (refine seg_bind_wrap (wpAny_rule ?_); show Seg _ X.A.in1.in1 _ _ _ s6 _ ((standAt iter.pos >>= _).wrap _ _ _ _) [] s6; exact seg_bind_wrap (wpAny_standAt (seg_bind_wrap (T.self _ 0 s6 _ _ st6 (seg_again rfl loop)))))
    exact main _ rfl rfl rfl (Heap.get?_push_size _ rfl)
  cases hf : codeAmong gpos ps.toList with
  | none =>
    refine wpAny_genexprCodeX hcode (cd.code hPs htr) (cd.tab hPs) hf fun c' h' tk hx hge hlt hco' _ htab' _ => ?_
    obtain ⟨o1, vs, f1, tf, fl, tg, inF, tx, tt, op, _, _, _, _, _, _, _, _, _, htr', _⟩ := hco'
    exact cont _ h' tk _ hx (Nat.le_trans hge (Nat.le_of_lt hlt)) htab'.2 htr'
  | some cv =>
    refine wpAny_genexprCode_hit hcode (cd.code hPs htr) hf ?_
    exact cont cv s2.heap s2.toks ps (Heap.ExtBut.refl _ _) (Nat.le_refl _) hPs htr
/-- all(elt for tg in iter if ..) -/
theorem pe_allG {c P : Addr} {k : Nat} {elt tg iter : Expr} {ifs : List Expr} {scope : Scope} {own : List (Str × Nat)} {p pos gpos : Pos} {wi : TI} {g : TG} {tt : TT} {te : TE}
    (hr : Room (k + 1) X.A) (hm : X.mg "all" = none) (TB : GxR.TabB X.base X.mg c P) (hcode : X.env.code = .ref c) (S : GxScope X scope own) (hN : X.N.Nodup) (hc : X.calm = true) (hi : PI X tg iter wi)
    (hg : ∀ (A : Around) (s : Shared) (H : Hp) (cl : List (Str × Addr)) (C : Addr) (code : Value) (fp : List Addr) (pn : List (Addr × Obj)), Room k A → PG (gxC X A s H (genEnv scope cl C code builtinsNs X.env) fp pn) tg g)
    (ht : ∀ (A : Around) (s : Shared) (H : Hp) (cl : List (Str × Addr)) (C : Addr) (code : Value) (fp : List Addr) (pn : List (Addr × Obj)), Room k A → PTs (gxC X A s H (genEnv scope cl C code builtinsNs X.env) fp pn) ifs tt)
    (he : ∀ (A : Around) (s : Shared) (H : Hp) (cl : List (Str × Addr)) (C : Addr) (code : Value) (fp : List Addr) (pn : List (Addr × Obj)), Room k A → PE (gxC X A s H (genEnv scope cl C code builtinsNs X.env) fp pn) elt te)
    (hgl : Gl X "all" := by rfl) (hs : ∀ v, genFold iter X.env v = pure v := by intro _; rfl)
    (hst : starEach [.GeneratorExp elt [⟨tg, iter, ifs, 0⟩] scope gpos] X.env = (false, eval (.GeneratorExp elt [⟨tg, iter, ifs, 0⟩] scope gpos) X.env) :: starEach [] X.env := by rfl) :
    PE X (.Call (.Name "all" p) [.GeneratorExp elt [⟨tg, iter, ifs, 0⟩] scope gpos] [] pos) (tGx P false wi g tt te (own.map (·.2))) := by
  refine ⟨fun pins s σ H Q I h => ?_⟩
  refine wpAny_Call_Name_kw (ld_blt I hgl hm boot_all ?_)
  refine PyProof.Rows.callWith_builtin1 ?_ hst (by rfl)
  rw [hst]
  show wpAny _ _ (spliced ((false, eval (.GeneratorExp elt [⟨tg, iter, ifs, 0⟩] scope gpos) X.env) :: backTo pos (starEach [] X.env))) _ _ s
  refine Calls.spliced_cons (gx_make hr TB hcode S hN hc hi hg ht he hs I h fun a s5 hG => ?_)
  obtain ⟨g', n, gs, hgen, hl, hgs, hgo⟩ := hG
  refine Calls.spliced_nil ?_
  refine call_function_tree F.kind_all F.plain_all F.entry_all (F.args_all1 _) ?_
  unfold Builtin.«all»
  refine wpAny_bind (m := oneArg "all" _) (wpAny_pure ?_)
  refine wpAny_bind (wpAny_pyIter_gen hgen ?_)
  refine wpAny_pure ⟨plainId_quiet F.plain_all_loop _, ?_⟩
  exact all_gx (A := X.A) (Fin := GxFin X pins σ Q) hr.hd (by have := hr.dp; omega) (fun b s ⟨H', I', q⟩ => ⟨.bl b, H', I', rfl, q⟩) n s5 hgen hl ⟨gs, hgs, hgo⟩
theorem pe_anyG {c P : Addr} {k : Nat} {elt tg iter : Expr} {ifs : List Expr} {scope : Scope} {own : List (Str × Nat)} {p pos gpos : Pos} {wi : TI} {g : TG} {tt : TT} {te : TE}
    (hr : Room (k + 1) X.A) (hm : X.mg "any" = none) (TB : GxR.TabB X.base X.mg c P) (hcode : X.env.code = .ref c) (S : GxScope X scope own) (hN : X.N.Nodup) (hc : X.calm = true) (hi : PI X tg iter wi)
    (hg : ∀ (A : Around) (s : Shared) (H : Hp) (cl : List (Str × Addr)) (C : Addr) (code : Value) (fp : List Addr) (pn : List (Addr × Obj)), Room k A → PG (gxC X A s H (genEnv scope cl C code builtinsNs X.env) fp pn) tg g)
    (ht : ∀ (A : Around) (s : Shared) (H : Hp) (cl : List (Str × Addr)) (C : Addr) (code : Value) (fp : List Addr) (pn : List (Addr × Obj)), Room k A → PTs (gxC X A s H (genEnv scope cl C code builtinsNs X.env) fp pn) ifs tt)
    (he : ∀ (A : Around) (s : Shared) (H : Hp) (cl : List (Str × Addr)) (C : Addr) (code : Value) (fp : List Addr) (pn : List (Addr × Obj)), Room k A → PE (gxC X A s H (genEnv scope cl C code builtinsNs X.env) fp pn) elt te)
    (hgl : Gl X "any" := by rfl) (hs : ∀ v, genFold iter X.env v = pure v := by intro _; rfl)
    (hst : starEach [.GeneratorExp elt [⟨tg, iter, ifs, 0⟩] scope gpos] X.env = (false, eval (.GeneratorExp elt [⟨tg, iter, ifs, 0⟩] scope gpos) X.env) :: starEach [] X.env := by rfl) :
    PE X (.Call (.Name "any" p) [.GeneratorExp elt [⟨tg, iter, ifs, 0⟩] scope gpos] [] pos) (tGx P true wi g tt te (own.map (·.2))) := by
  refine ⟨fun pins s σ H Q I h => ?_⟩
  refine wpAny_Call_Name_kw (ld_blt I hgl hm boot_any ?_)
  refine PyProof.Rows.callWith_builtin1 ?_ hst (by rfl)
  rw [hst]
  show wpAny _ _ (spliced ((false, eval (.GeneratorExp elt [⟨tg, iter, ifs, 0⟩] scope gpos) X.env) :: backTo pos (starEach [] X.env))) _ _ s
  refine Calls.spliced_cons (gx_make hr TB hcode S hN hc hi hg ht he hs I h fun a s5 hG => ?_)
  obtain ⟨g', n, gs, hgen, hl, hgs, hgo⟩ := hG
  refine Calls.spliced_nil ?_
  refine call_function_tree F.kind_any F.plain_any F.entry_any (F.args_any1 _) ?_
  unfold Builtin.«any»
  refine wpAny_bind (m := oneArg "any" _) (wpAny_pure ?_)
  refine wpAny_bind (wpAny_pyIter_gen hgen ?_)
  refine wpAny_pure ⟨plainId_quiet F.plain_any_loop _, ?_⟩
  exact any_gx (A := X.A) (Fin := GxFin X pins σ Q) hr.hd (by have := hr.dp; omega) (fun b s ⟨H', I', q⟩ => ⟨.bl b, H', I', rfl, q⟩) n s5 hgen hl ⟨gs, hgs, hgo⟩
end
end Qd
end
section
set_option Elab.async false
set_option linter.all false
set_option maxRecDepth 100000
/-! Data without addresses over HandS: a value v of the abstract heap H stands for the data w; O: the addresses that somebody may still write. -/
namespace Qd
open PySem PySem.Spec PyProof.Rows L2

abbrev W := PyData
abbrev St := L2.St
/-- a caught error of the class with number c -/
abbrev exD (c : Nat) : W := PyData.dict [(PyData.none, PyData.int c)]
def keyD : Key → W
  | .inl i => .int i
  | .inr x => .str x
theorem keyD_inj : ∀ {k l : Key}, keyD k = keyD l → k = l
  | .inl i, .inl j, h => by injection h with h; rw [h]
  | .inr i, .inr j, h => by injection h with h; rw [h]
  | .inl i, .inr j, h => by cases h
  | .inr i, .inl j, h => by cases h

/-- ahead of the items of a dict whose keys are tuples -/
abbrev tagT : W × W := (.none, .none)
def noH : Hp := fun _ => none
section
variable (K : PySem.W.Frag) (Ex : Addr → Nat → Prop) (O : Addr → Prop) (H : Hp)
/-- Ex a cN: the module's written tuples and lists may be read -/
abbrev cN : Nat := 1000
/-- Ex a tN: the table of a code object lies at a -/
abbrev tN : Nat := 2000
def LAt (a : Addr) (xs : List V) : Prop := (¬ O a ∧ Rd H a (.lst xs)) ∨ SqL K noH a xs
def TAt (a : Addr) (xs : List V) : Prop := (¬ O a ∧ H a = some (.tup xs)) ∨ (Ex a cN ∧ SqT K noH a xs)
mutual
inductive Rp : V → W → Prop
  | non : Rp .non .none
  | bl (b : Bool) : Rp (.bl b) (.bool b)
  | int (i : Int) : Rp (.int i) (.int i)
  | str (x : Str) : Rp (.str x) (.str x)
  | lst {a : Addr} {xs : List V} {ds : List W} : LAt K O H a xs → RpA xs ds → Rp (.ref a) (.list ds)
  | tup {a : Addr} {xs : List V} {ds : List W} : TAt K Ex O H a xs → RpA xs ds → Rp (.ref a) (.tuple ds)
  | dK {a : Addr} {kvs : List (Key × V)} {ds : List (W × W)} : ¬ O a → Rd H a (.dK kvs) → RpK kvs ds → Rp (.ref a) (.dict ds)
  | dT {a : Addr} {kvs : List (List Key × V)} {ds : List (W × W)} : ¬ O a → Rd H a (.dT kvs) → RpT kvs ds → Rp (.ref a) (.dict (tagT :: ds))
  | exc {a : Addr} {c : Nat} : Ex a c → Rp (.ref a) (exD c)
inductive RpA : List V → List W → Prop
  | nil : RpA [] []
  | cons {v : V} {w : W} {vs : List V} {ws : List W} : Rp v w → RpA vs ws → RpA (v :: vs) (w :: ws)
inductive RpK : List (Key × V) → List (W × W) → Prop
  | nil : RpK [] []
  | cons {k : Key} {v : V} {w : W} {vs : List (Key × V)} {ws : List (W × W)} : Rp v w → RpK vs ws → RpK ((k, v) :: vs) ((keyD k, w) :: ws)
inductive RpT : List (List Key × V) → List (W × W) → Prop
  | nil : RpT [] []
  | cons {k : List Key} {v : V} {w : W} {vs : List (List Key × V)} {ws : List (W × W)} : Rp v w → RpT vs ws → RpT ((k, v) :: vs) ((.tuple (k.map keyD), w) :: ws)
end
/-- an object that may be written, by its data -/
def Ob (p : Addr) : W → Prop
  | .list ds => ∃ xs, H p = some (.lst xs) ∧ RpA K Ex O H xs ds
  | .dict ds => (∃ kvs, H p = some (.dK kvs) ∧ RpK K Ex O H kvs ds) ∨ ∃ kvs ds', ds = tagT :: ds' ∧ H p = some (.dT kvs) ∧ RpT K Ex O H kvs ds'
  | _ => False
end

section
variable {K : PySem.W.Frag} {Ex Ex' : Addr → Nat → Prop} {O O' : Addr → Prop} {H H' : Hp}
/-- what is fixed at (O, H) is so at (O', H') -/
def Ke (O : Addr → Prop) (H : Hp) (O' : Addr → Prop) (H' : Hp) : Prop := ∀ a u, ¬ O a → H a = some u → ¬ O' a ∧ H' a = some u
theorem Ke.refl : Ke O H O H := fun _ _ h e => ⟨h, e⟩
theorem Ke.trans {O2 : Addr → Prop} {H2 : Hp} (a : Ke O H O' H') (b : Ke O' H' O2 H2) : Ke O H O2 H2 := fun x u h e => let ⟨h1, e1⟩ := a x u h e; b x u h1 e1
theorem Ke.rd (k : Ke O H O' H') {a : Addr} {u : HO} (h : ¬ O a) (r : Rd H a u) : ¬ O' a ∧ Rd H' a u := by
  rcases r with r | ⟨o, r⟩
  · exact ⟨(k a _ h r).1, .inl (k a _ h r).2⟩
  · exact ⟨(k a _ h r).1, .inr ⟨o, (k a _ h r).2⟩⟩
theorem LAt.mono {a : Addr} {xs : List V} (k : Ke O H O' H') (h : LAt K O H a xs) : LAt K O' H' a xs := by
  rcases h with ⟨h, r⟩ | h
  · exact .inl (k.rd h r)
  · exact .inr h
theorem TAt.mono {a : Addr} {xs : List V} (k : Ke O H O' H') (x : ∀ a c, Ex a c → Ex' a c) (h : TAt K Ex O H a xs) : TAt K Ex' O' H' a xs := by
  rcases h with ⟨h, r⟩ | h
  · exact .inl (k _ _ h r)
  · exact .inr ⟨x _ _ h.1, h.2⟩
theorem no_rd {a : Addr} {u : HO} (h : Rd noH a u) : False := by
  rcases h with h | ⟨_, h⟩ <;> cases h
theorem LAt.sq {a : Addr} {xs : List V} (h : LAt K O H a xs) : SqL K H a xs := by
  rcases h with ⟨_, r⟩ | h
  · exact .inl r
  · exact .inr (h.resolve_left no_rd)
theorem TAt.sq {a : Addr} {xs : List V} (h : TAt K Ex O H a xs) : SqT K H a xs := by
  rcases h with ⟨_, r⟩ | h
  · exact .inl (.inl r)
  · exact .inr (h.2.resolve_left no_rd)
mutual
theorem Rp.mono (k : Ke O H O' H') (x : ∀ a c, Ex a c → Ex' a c) : ∀ {v : V} {w : W}, Rp K Ex O H v w → Rp K Ex' O' H' v w
  | _, _, .non => .non
  | _, _, .bl b => .bl b
  | _, _, .int i => .int i
  | _, _, .str i => .str i
  | _, _, .lst h r => .lst (h.mono k) (RpA.mono k x r)
  | _, _, .tup h r => .tup (h.mono k x) (RpA.mono k x r)
  | _, _, .dK h r t => .dK (k.rd h r).1 (k.rd h r).2 (RpK.mono k x t)
  | _, _, .dT h r t => .dT (k.rd h r).1 (k.rd h r).2 (RpT.mono k x t)
  | _, _, .exc h => .exc (x _ _ h)
theorem RpA.mono (k : Ke O H O' H') (x : ∀ a c, Ex a c → Ex' a c) : ∀ {v : List V} {w : List W}, RpA K Ex O H v w → RpA K Ex' O' H' v w
  | _, _, .nil => .nil
  | _, _, .cons a b => .cons (Rp.mono k x a) (RpA.mono k x b)
theorem RpK.mono (k : Ke O H O' H') (x : ∀ a c, Ex a c → Ex' a c) : ∀ {v : List (Key × V)} {w : List (W × W)}, RpK K Ex O H v w → RpK K Ex' O' H' v w
  | _, _, .nil => .nil
  | _, _, .cons a b => .cons (Rp.mono k x a) (RpK.mono k x b)
theorem RpT.mono (k : Ke O H O' H') (x : ∀ a c, Ex a c → Ex' a c) : ∀ {v : List (List Key × V)} {w : List (W × W)}, RpT K Ex O H v w → RpT K Ex' O' H' v w
  | _, _, .nil => .nil
  | _, _, .cons a b => .cons (Rp.mono k x a) (RpT.mono k x b)
end
/-- a change that keeps the object at p -/
theorem Ob.mono {p : Addr} {w : W} (k : Ke O H O' H') (x : ∀ a c, Ex a c → Ex' a c) (e : H' p = H p) (h : Ob K Ex O H p w) : Ob K Ex' O' H' p w := by
  cases w with
  | list ds => obtain ⟨xs, h1, h2⟩ := h; exact ⟨xs, e.trans h1, h2.mono k x⟩
  | dict ds =>
    rcases h with ⟨xs, h1, h2⟩ | ⟨xs, ds', h0, h1, h2⟩
    · exact .inl ⟨xs, e.trans h1, h2.mono k x⟩
    · exact .inr ⟨xs, ds', h0, e.trans h1, h2.mono k x⟩
  | none => exact h.elim
  | bool b => exact h.elim
  | int i => exact h.elim
  | str s => exact h.elim
  | tuple t => exact h.elim
/-- an object that nobody writes any more -/
theorem Ob.rp {p : Addr} {w : W} (n : ¬ O p) (h : Ob K Ex O H p w) : Rp K Ex O H (.ref p) w := by
  cases w with
  | list ds => obtain ⟨xs, h1, h2⟩ := h; exact .lst (.inl ⟨n, .inl h1⟩) h2
  | dict ds =>
    rcases h with ⟨xs, h1, h2⟩ | ⟨xs, ds', rfl, h1, h2⟩
    · exact .dK n (.inl h1) h2
    · exact .dT n (.inl h1) h2
  | none => exact h.elim
  | bool b => exact h.elim
  | int i => exact h.elim
  | str s => exact h.elim
  | tuple t => exact h.elim
theorem Ob.at {p : Addr} {w : W} (h : Ob K Ex O H p w) : ∃ u, H p = some u := by
  cases w with
  | list ds => obtain ⟨xs, h1, h2⟩ := h; exact ⟨_, h1⟩
  | dict ds =>
    rcases h with ⟨xs, h1, h2⟩ | ⟨xs, ds', rfl, h1, h2⟩
    · exact ⟨_, h1⟩
    · exact ⟨_, h1⟩
  | none => exact h.elim
  | bool b => exact h.elim
  | int i => exact h.elim
  | str s => exact h.elim
  | tuple t => exact h.elim
theorem RpA.length : ∀ {vs : List V} {ws : List W}, RpA K Ex O H vs ws → vs.length = ws.length
  | _, _, .nil => rfl
  | _, _, .cons _ b => by rw [List.length_cons, List.length_cons, b.length]
theorem RpA.get : ∀ {vs : List V} {ws : List W} {i : Nat} {w : W}, RpA K Ex O H vs ws → ws[i]? = some w → ∃ v, vs[i]? = some v ∧ Rp K Ex O H v w
  | _, _, _, _, .nil, e => by simp at e
  | _, _, 0, _, .cons a b, e => by simp at e; subst e; exact ⟨_, rfl, a⟩
  | _, _, i + 1, w, .cons a b, e => by
    obtain ⟨v, h1, h2⟩ := b.get (i := i) (w := w) (by simpa using e)
    exact ⟨v, by simpa using h1, h2⟩
theorem RpA.get' : ∀ {vs : List V} {ws : List W} {i : Nat} {v : V}, RpA K Ex O H vs ws → vs[i]? = some v → ∃ w, ws[i]? = some w ∧ Rp K Ex O H v w
  | _, _, _, _, .nil, e => by simp at e
  | _, _, 0, _, .cons a b, e => by simp at e; subst e; exact ⟨_, rfl, a⟩
  | _, _, i + 1, w, .cons a b, e => by
    obtain ⟨v, h1, h2⟩ := b.get' (i := i) (v := w) (by simpa using e)
    exact ⟨v, by simpa using h1, h2⟩
theorem RpA.append : ∀ {vs us : List V} {ws ts : List W}, RpA K Ex O H vs ws → RpA K Ex O H us ts → RpA K Ex O H (vs ++ us) (ws ++ ts)
  | _, _, _, _, .nil, s => s
  | _, _, _, _, .cons a b, s => .cons a (b.append s)
theorem RpA.take : ∀ {vs : List V} {ws : List W} (n : Nat), RpA K Ex O H vs ws → RpA K Ex O H (vs.take n) (ws.take n)
  | _, _, 0, _ => .nil
  | _, _, _ + 1, .nil => .nil
  | _, _, n + 1, .cons a b => .cons a (b.take n)
theorem RpA.drop : ∀ {vs : List V} {ws : List W} (n : Nat), RpA K Ex O H vs ws → RpA K Ex O H (vs.drop n) (ws.drop n)
  | _, _, 0, h => h
  | _, _, _ + 1, .nil => .nil
  | _, _, n + 1, .cons a b => b.drop n
theorem RpA.set {v : V} {w : W} (r : Rp K Ex O H v w) : ∀ {vs : List V} {ws : List W} (i : Nat), RpA K Ex O H vs ws → RpA K Ex O H (vs.set i v) (ws.set i w)
  | _, _, _, .nil => .nil
  | _, _, 0, .cons a b => .cons r b
  | _, _, i + 1, .cons a b => .cons a (RpA.set r i b)
theorem RpA.eraseIdx : ∀ {vs : List V} {ws : List W} (i : Nat), RpA K Ex O H vs ws → RpA K Ex O H (vs.eraseIdx i) (ws.eraseIdx i)
  | _, _, _, .nil => .nil
  | _, _, 0, .cons a b => b
  | _, _, i + 1, .cons a b => .cons a (b.eraseIdx i)
theorem RpA.reverse : ∀ {vs : List V} {ws : List W}, RpA K Ex O H vs ws → RpA K Ex O H vs.reverse ws.reverse
  | _, _, .nil => .nil
  | _, _, .cons a b => by rw [List.reverse_cons, List.reverse_cons]; exact b.reverse.append (.cons a .nil)
theorem RpA.dropLast : ∀ {vs : List V} {ws : List W}, RpA K Ex O H vs ws → RpA K Ex O H vs.dropLast ws.dropLast
  | _, _, h => by
    rw [List.dropLast_eq_take, List.dropLast_eq_take, h.length]
    exact h.take _
theorem RpA.rep {vs : List V} {ws : List W} (h : RpA K Ex O H vs ws) : ∀ n : Nat, RpA K Ex O H (List.replicate n vs).flatten (List.replicate n ws).flatten
  | 0 => .nil
  | n + 1 => by
    rw [List.replicate_succ, List.replicate_succ, List.flatten_cons, List.flatten_cons]
    exact h.append (RpA.rep h n)
/-- lists of ints -/
theorem RpA.ints : ∀ {ns : List Int} {vs : List V}, RpA K Ex O H vs (ns.map PyData.int) → vs = ns.map V.int
  | [], _, h => by cases h; rfl
  | n :: ns, _, h => by
    cases h with
    | cons a b => cases a; rw [b.ints]; rfl
theorem RpA.of_ints : ∀ (ns : List Int), RpA K Ex O H (ns.map V.int) (ns.map PyData.int)
  | [] => .nil
  | n :: ns => .cons (.int n) (RpA.of_ints ns)
theorem RpA.bools : ∀ {ns : List Bool} {vs : List V}, RpA K Ex O H vs (ns.map PyData.bool) → vs = ns.map V.bl
  | [], _, h => by cases h; rfl
  | n :: ns, _, h => by
    cases h with
    | cons a b => cases a; rw [b.bools]; rfl
/-! data without dicts (and errors) -/
mutual
def noD : W → Bool
  | .list ds => noDs ds
  | .tuple ds => noDs ds
  | .dict _ => false
  | _ => true
def noDs : List W → Bool
  | [] => true
  | d :: r => noD d && noDs r
end
mutual
theorem Rp.dp : ∀ {v : V} {w : W}, Rp K Ex O H v w → noD w = true → Dp K H v w
  | _, _, .non, _ => .non
  | _, _, .bl b, _ => .bl b
  | _, _, .int i, _ => .int i
  | _, _, .str i, _ => .str i
  | _, _, .lst h r, n => .lst h.sq (RpA.dp r (by simpa [noD] using n))
  | _, _, .tup h r, n => .tup h.sq (RpA.dp r (by simpa [noD] using n))
  | _, _, .dK h r t, n => by simp [noD] at n
  | _, _, .dT h r t, n => by simp [noD] at n
  | _, _, .exc h, n => by simp [noD] at n
theorem RpA.dp : ∀ {v : List V} {w : List W}, RpA K Ex O H v w → noDs w = true → DpAll K H v w
  | _, _, .nil, _ => .nil
  | _, _, .cons a b, n => by
    simp only [noDs, Bool.and_eq_true] at n
    exact .cons (Rp.dp a n.1) (RpA.dp b n.2)
end
/-! without errors, whatever errors are caught -/
mutual
theorem Rp.anyEx (x : ∀ a, Ex a cN → Ex' a cN) : ∀ {v : V} {w : W}, Rp K Ex O H v w → noD w = true → Rp K Ex' O H v w
  | _, _, .non, _ => .non
  | _, _, .bl b, _ => .bl b
  | _, _, .int i, _ => .int i
  | _, _, .str i, _ => .str i
  | _, _, .lst h r, n => .lst h (RpA.anyEx x r (by simpa [noD] using n))
  | _, _, .tup h r, n => .tup (h.imp id fun z => ⟨x _ z.1, z.2⟩) (RpA.anyEx x r (by simpa [noD] using n))
  | _, _, .dK h r t, n => by simp [noD] at n
  | _, _, .dT h r t, n => by simp [noD] at n
  | _, _, .exc h, n => by simp [noD] at n
theorem RpA.anyEx (x : ∀ a, Ex a cN → Ex' a cN) : ∀ {v : List V} {w : List W}, RpA K Ex O H v w → noDs w = true → RpA K Ex' O H v w
  | _, _, .nil, _ => .nil
  | _, _, .cons a b, n => by
    simp only [noDs, Bool.and_eq_true] at n
    exact .cons (Rp.anyEx x a n.1) (RpA.anyEx x b n.2)
end
end
end Qd
end
section
set_option Elab.async false
set_option linter.all false
set_option maxRecDepth 100000
/-! The data of a def's names; what a step of the walk may change. -/
namespace Qd
open PySem PySem.Spec PyProof.Rows L2

/-- decided, in a way that the kernel does not reckon out -/
noncomputable def cdec (p : Prop) : Bool := @decide p (Classical.propDecidable p)
theorem cdec_iff {p : Prop} : cdec p = true ↔ p := @decide_eq_true_iff p (Classical.propDecidable p)
@[simp] theorem cdec_eq (p : Prop) [inst : Decidable p] : cdec p = decide p := by
  by_cases h : p
  · rw [cdec_iff.mpr h, decide_eq_true h]
  · rw [decide_eq_false h]
    cases e : cdec p with
    | false => rfl
    | true => exact absurd (cdec_iff.mp e) h
/-- what a name holds: a fixed value; an own object that may be written; such an object that the caller gave -/
inductive Slot where
  | val (w : W) | own (w : W) | par (w : W)
abbrev SD := List (Option Slot)
def Slot.mine? : Slot → Option W
  | .own w => some w
  | .par w => some w
  | .val _ => none
inductive Out (α : Type) where
  | ok (a : α) (d : SD) | exc (c : Nat) (d : SD) | bad
abbrev M (α : Type) := SD → Out α
def Out.bind {α β : Type} (o : Out α) (f : α → SD → Out β) : Out β := match o with
  | .ok a d => f a d
  | .exc c d => .exc c d
  | .bad => .bad
@[simp] theorem Out.bind_ok {α β : Type} (a : α) (d : SD) (f : α → SD → Out β) : (Out.ok a d).bind f = f a d := rfl
@[simp] theorem Out.bind_exc {α β : Type} (c : Nat) (d : SD) (f : α → SD → Out β) : (Out.exc c d : Out α).bind f = .exc c d := rfl
@[simp] theorem Out.bind_bad {α β : Type} (f : α → SD → Out β) : (Out.bad : Out α).bind f = .bad := rfl
def ofOpt {α : Type} (o : Option α) (d : SD) : Out α := match o with
  | some a => .ok a d
  | none => .bad
@[simp] theorem ofOpt_some {α : Type} (a : α) (d : SD) : ofOpt (some a) d = .ok a d := rfl
@[simp] theorem ofOpt_none {α : Type} (d : SD) : (ofOpt none d : Out α) = .bad := rfl

def Mine (d : SD) (σ : St) (a : Addr) : Prop := ∃ (i : Nat) (s : Slot) (w : W), d[i]? = some (some s) ∧ Slot.mine? s = some w ∧ σ[i]? = some (some (.ref a))
def Ow (Oc : Addr → Prop) (d : SD) (σ : St) (a : Addr) : Prop := Oc a ∨ Mine d σ a
/-- others' objects lie in the heap; the tables are there, nobody's -/
structure Thr (Ex : Addr → Nat → Prop) (Oc : Addr → Prop) (H : Hp) : Prop where
  at_ : ∀ a, Oc a → ∃ o, H a = some o
  tb : ∀ a, Ex a tN → H a = some (tabO a) ∧ ¬ Oc a
theorem Thr.same {Ex : Addr → Nat → Prop} {Oc : Addr → Prop} {H H' : Hp} (t : Thr Ex Oc H) (s : Same H H') : Thr Ex Oc H' := ⟨fun a h => let ⟨o, e⟩ := t.at_ a h; ⟨o, s a o e⟩, fun a h => ⟨s _ _ (t.tb a h).1, (t.tb a h).2⟩⟩
theorem Thr.sub {Ex : Addr → Nat → Prop} {Oc Oc' : Addr → Prop} {H : Hp} (t : Thr Ex Oc H) (s : ∀ a, Oc' a → Oc a) : Thr Ex Oc' H := ⟨fun a h => t.at_ a (s a h), fun a h => ⟨(t.tb a h).1, fun z => (t.tb a h).2 (s a z)⟩⟩
section
variable (K : PySem.W.Frag) (Ex : Addr → Nat → Prop) (Oc : Addr → Prop)
structure RS (H : Hp) (d : SD) (σ : St) : Prop where
  len : d.length = σ.length
  val : ∀ (i : Nat) (w : W), d[i]? = some (some (.val w)) → ∃ v, σ[i]? = some (some v) ∧ Rp K Ex (Ow Oc d σ) H v w
  own : ∀ (i : Nat) (s : Slot) (w : W), d[i]? = some (some s) → Slot.mine? s = some w → ∃ p, σ[i]? = some (some (.ref p)) ∧ ¬ Oc p ∧ Ob K Ex (Ow Oc d σ) H p w
  sep : ∀ (i j : Nat) (s t : Slot) (w u : W) (p : Addr), i ≠ j → d[i]? = some (some s) → Slot.mine? s = some w → d[j]? = some (some t) → Slot.mine? t = some u → σ[i]? = some (some (.ref p)) → σ[j]? ≠ some (some (.ref p))
  oc : Thr Ex Oc H
/-- the same names hold own objects, the others hold what they held -/
def SlotLike : Option (Option Slot) → Option (Option Slot) → Prop
  | some (some (.own _)), some (some (.own _)) => True
  | some (some (.par _)), some (some (.par _)) => True
  | a, b => a = b
def Sim (d d' : SD) : Prop := d.length = d'.length ∧ ∀ i : Nat, SlotLike d[i]? d'[i]?
/-- a step within an expression -/
structure Go (pu : Bool) (σ : St) (d : SD) (H : Hp) (d' : SD) (H' : Hp) : Prop where
  rs : RS K Ex Oc H' d' σ
  fr : ∀ a o, H a = some o → ¬ Mine d σ a → H' a = some o
  sim : Sim d d'
  pur : pu = true → Same H H' ∧ d' = d
/-- a step of statements -/
structure GoS (d : SD) (σ : St) (H : Hp) (d' : SD) (σ' : St) (H' : Hp) : Prop where
  rs : RS K Ex Oc H' d' σ'
  fr : ∀ a o, H a = some o → ¬ Mine d σ a → H' a = some o
  mine : ∀ a, Mine d' σ' a → Mine d σ a ∨ H a = none
  par : ∀ (i : Nat) (w : W), d[i]? = some (some (.par w)) → (∃ w', d'[i]? = some (some (.par w'))) ∧ σ'[i]? = σ[i]?
end
theorem SlotLike.refl (a : Option (Option Slot)) : SlotLike a a := by
  rcases a with _ | _ | (w | w | w) <;> first | rfl | trivial
theorem SlotLike.trans {a b c : Option (Option Slot)} (h : SlotLike a b) (g : SlotLike b c) : SlotLike a c := by
  rcases a with _ | _ | (w | w | w) <;> rcases b with _ | _ | (w | w | w) <;> rcases c with _ | _ | (w | w | w) <;>
    simp_all [SlotLike]
theorem SlotLike.mine {a b : Option (Option Slot)} (h : SlotLike a b) : (∃ s w, a = some (some s) ∧ Slot.mine? s = some w) ↔ ∃ s w, b = some (some s) ∧ Slot.mine? s = some w := by
  rcases a with _ | _ | (w | w | w) <;> rcases b with _ | _ | (w' | w' | w') <;> simp_all [SlotLike, Slot.mine?]
theorem Sim.refl (d : SD) : Sim d d := ⟨rfl, fun _ => .refl _⟩
theorem Sim.trans {a b c : SD} (h : Sim a b) (g : Sim b c) : Sim a c := ⟨h.1.trans g.1, fun i => (h.2 i).trans (g.2 i)⟩
theorem Sim.mine {d d' : SD} {σ : St} {a : Addr} (h : Sim d d') : Mine d' σ a ↔ Mine d σ a := by
  constructor
  · rintro ⟨i, s, w, h1, h2, h3⟩
    obtain ⟨s', w', e1, e2⟩ := (h.2 i).mine.mpr ⟨s, w, h1, h2⟩
    exact ⟨i, s', w', e1, e2, h3⟩
  · rintro ⟨i, s, w, h1, h2, h3⟩
    obtain ⟨s', w', e1, e2⟩ := (h.2 i).mine.mp ⟨s, w, h1, h2⟩
    exact ⟨i, s', w', e1, e2, h3⟩
section
variable {K : PySem.W.Frag} {Ex : Addr → Nat → Prop} {Oc : Addr → Prop} {σ σ' σ2 : St} {d d' d2 : SD} {H H' H2 : Hp}
theorem Go.ke {pu : Bool} (g : Go K Ex Oc pu σ d H d' H') : Ke (Ow Oc d σ) H (Ow Oc d' σ) H' := fun a u n e => by
  refine ⟨fun z => ?_, g.fr a u e fun z => n (.inr z)⟩
  rcases z with z | z
  · exact n (.inl z)
  · exact n (.inr (g.sim.mine.mp z))
theorem Go.rp {pu : Bool} {v : V} {w : W} (g : Go K Ex Oc pu σ d H d' H') (h : Rp K Ex (Ow Oc d σ) H v w) : Rp K Ex (Ow Oc d' σ) H' v w := h.mono g.ke fun _ _ z => z
theorem Go.rpA {pu : Bool} {v : List V} {w : List W} (g : Go K Ex Oc pu σ d H d' H') (h : RpA K Ex (Ow Oc d σ) H v w) : RpA K Ex (Ow Oc d' σ) H' v w := h.mono g.ke fun _ _ z => z
theorem Go.refl {pu : Bool} (rs : RS K Ex Oc H d σ) : Go K Ex Oc pu σ d H d H := ⟨rs, fun _ _ e _ => e, .refl _, fun _ => ⟨fun _ _ e => e, rfl⟩⟩
theorem Go.trans {p q : Bool} (a : Go K Ex Oc p σ d H d' H') (b : Go K Ex Oc q σ d' H' d2 H2) : Go K Ex Oc (p && q) σ d H d2 H2 :=
  ⟨b.rs, fun x o e n => b.fr x o (a.fr x o e n) fun z => n (a.sim.mine.mp z), a.sim.trans b.sim, fun z => by
    rw [Bool.and_eq_true] at z
    obtain ⟨s1, e1⟩ := a.pur z.1
    obtain ⟨s2, e2⟩ := b.pur z.2
    exact ⟨fun x o e => s2 x o (s1 x o e), e2.trans e1⟩⟩
theorem Go.weak {p q : Bool} (a : Go K Ex Oc p σ d H d' H') (h : q = true → p = true := by intro z; first | exact z | (cases z)) : Go K Ex Oc q σ d H d' H' := ⟨a.rs, a.fr, a.sim, fun z => a.pur (h z)⟩
/-- all owned addresses are there -/
theorem RS.there (rs : RS K Ex Oc H d σ) {a : Addr} (h : Ow Oc d σ a) : ∃ o, H a = some o := by
  rcases h with h | ⟨i, s, w, h1, h2, h3⟩
  · exact rs.oc.at_ a h
  · obtain ⟨p, e, _, ob⟩ := rs.own i s w h1 h2
    rw [h3] at e; cases e
    exact ob.at
/-- an object that may be written is no table -/
theorem Ob.noTab {K : PySem.W.Frag} {Ex : Addr → Nat → Prop} {O : Addr → Prop} {H : Hp} {p : Addr} {w : W} (h : Ob K Ex O H p w) : H p ≠ some (tabO p) := fun e => by
  cases w with
  | list ds => obtain ⟨xs, e', _⟩ := h; rw [e] at e'; cases e'
  | dict ds => rcases h with ⟨k, e', _⟩ | ⟨k, d, _, e', _⟩ <;> (rw [e] at e'; cases e')
  | _ => exact h
theorem RS.noTab (rs : RS K Ex Oc H d σ) {a : Addr} (h : Ex a tN) : ¬ Ow Oc d σ a := fun z => by
  rcases z with z | ⟨i, s, w, h1, h2, h3⟩
  · exact (rs.oc.tb a h).2 z
  · obtain ⟨p, e, _, ob⟩ := rs.own i s w h1 h2
    rw [h3] at e; cases e
    exact ob.noTab (rs.oc.tb _ h).1
/-- what a callee may know -/
theorem RS.thr (rs : RS K Ex Oc H d σ) : Thr Ex (Ow Oc d σ) H := ⟨fun _ h => rs.there h, fun a h => ⟨(rs.oc.tb a h).1, rs.noTab h⟩⟩
theorem RS.same (rs : RS K Ex Oc H d σ) (s : Same H H') : RS K Ex Oc H' d σ := by
  have ke : Ke (Ow Oc d σ) H (Ow Oc d σ) H' := fun a u n e => ⟨n, s a u e⟩
  refine ⟨rs.len, fun i w h => ?_, fun i t w h1 h2 => ?_, rs.sep, rs.oc.same s⟩
  · obtain ⟨v, e, r⟩ := rs.val i w h
    exact ⟨v, e, r.mono ke fun _ _ z => z⟩
  · obtain ⟨p, e, n, ob⟩ := rs.own i t w h1 h2
    obtain ⟨u, hu⟩ := ob.at
    exact ⟨p, e, n, ob.mono ke (fun _ _ z => z) ((s _ _ hu).trans hu.symm)⟩
/-- new objects alone -/
theorem Go.same {pu : Bool} (rs : RS K Ex Oc H d σ) (s : Same H H') : Go K Ex Oc pu σ d H d H' := ⟨rs.same s, fun a o e _ => s a o e, .refl _, fun _ => ⟨s, rfl⟩⟩
theorem GoS.ke (g : GoS K Ex Oc d σ H d' σ' H') : Ke (Ow Oc d σ) H (Ow Oc d' σ') H' := fun a u n e => by
  refine ⟨fun z => ?_, g.fr a u e fun z => n (.inr z)⟩
  rcases z with z | z
  · exact n (.inl z)
  · rcases g.mine a z with z | z
    · exact n (.inr z)
    · rw [e] at z; cases z
theorem GoS.refl (rs : RS K Ex Oc H d σ) : GoS K Ex Oc d σ H d σ H := ⟨rs, fun _ _ e _ => e, fun _ z => .inl z, fun i w e => ⟨⟨w, e⟩, rfl⟩⟩
theorem GoS.trans (a : GoS K Ex Oc d σ H d' σ' H') (b : GoS K Ex Oc d' σ' H' d2 σ2 H2) : GoS K Ex Oc d σ H d2 σ2 H2 where
  rs := b.rs
  fr := fun x o e n => b.fr x o (a.fr x o e n) fun z => by
    rcases a.mine x z with z | z
    · exact n z
    · rw [e] at z; cases z
  mine := fun x z => by
    rcases b.mine x z with z | z
    · exact a.mine x z
    · by_cases m : Mine d σ x
      · exact .inl m
      · refine .inr ?_
        cases q : H x with
        | none => rfl
        | some o => rw [a.fr x o q m] at z; cases z
  par := fun i w e => by
    obtain ⟨⟨w', e'⟩, s⟩ := a.par i w e
    obtain ⟨⟨w2, e2⟩, s2⟩ := b.par i w' e'
    exact ⟨⟨w2, e2⟩, s2.trans s⟩
theorem Go.toS {pu : Bool} (g : Go K Ex Oc pu σ d H d' H') : GoS K Ex Oc d σ H d' σ H' where
  rs := g.rs
  fr := g.fr
  mine := fun a z => .inl (g.sim.mine.mp z)
  par := fun i w e => by
    have h := g.sim.2 i
    rw [e] at h
    refine ⟨?_, rfl⟩
    generalize d'[i]? = x at h
    rcases x with _ | _ | (w' | w' | w') <;> simp_all [SlotLike]
end

/-! ### the readings -/
/-- what goes with a context: the caught errors that are at hand, the classes by number, what is wished of an error -/
structure Yx where
  Ex : Addr → Nat → Prop
  T : Nat → Value
  W : WX
def Po {α : Type} (X : Cx) (Y : Yx) (pu : Bool) (Oc : Addr → Prop) (σ : St) (d : SD) (H : Hp) (o : Out α) (k : α → SD → Hp → Prop) : Prop := match o with
  | .ok a d' => ∀ H', Go X.K Y.Ex Oc pu σ d H d' H' → k a d' H'
  | .exc c d' => ∀ H', Go X.K Y.Ex Oc false σ d H d' H' → Y.W (Y.T c) none σ H'
  | .bad => False
section
variable {X : Cx} {Y : Yx} {Oc : Addr → Prop} {σ : St} {d : SD} {H : Hp} {p q : Bool}
theorem Po.bind {α β : Type} {o : Out α} {f : α → SD → Out β} {k : β → SD → Hp → Prop} (h : Po X Y (p && q) Oc σ d H (o.bind f) k) : Po X Y p Oc σ d H o (fun a d1 H1 => Po X Y q Oc σ d1 H1 (f a d1) k) := by
  cases o with
  | ok a d1 =>
    intro H1 g1
    show Po X Y q Oc σ d1 H1 (f a d1) k
    have h : Po X Y (p && q) Oc σ d H (f a d1) k := h
    cases e : f a d1 with
    | ok b d2 => rw [e] at h; exact fun H2 g2 => h H2 (g1.trans g2)
    | exc c d2 => rw [e] at h; exact fun H2 g2 => h H2 (g1.trans g2).weak
    | bad => rw [e] at h; exact h
  | exc c d1 => exact h
  | bad => exact h
theorem Po.imp {α : Type} {o : Out α} {k k' : α → SD → Hp → Prop} (h : Po X Y p Oc σ d H o k) (f : ∀ a d' H', Go X.K Y.Ex Oc p σ d H d' H' → k a d' H' → k' a d' H') : Po X Y p Oc σ d H o k' := by
  cases o with
  | ok a d1 => exact fun H1 g1 => f _ _ _ g1 (h H1 g1)
  | exc c d1 => exact h
  | bad => exact h
theorem Po.opt {α : Type} {o : Option α} {k : α → SD → Hp → Prop} (h : Po X Y p Oc σ d H (ofOpt o d) k) : ∃ a, o = some a ∧ ∀ H', Go X.K Y.Ex Oc p σ d H d H' → k a d H' := by
  cases o with
  | none => exact h.elim
  | some a => exact ⟨a, rfl, h⟩
theorem Po.weak {α : Type} {o : Out α} {k : α → SD → Hp → Prop} (h : Po X Y q Oc σ d H o k) (w : q = true → p = true) : Po X Y p Oc σ d H o k := by
  cases o with
  | ok a d1 => exact fun H1 g1 => h H1 (g1.weak w)
  | exc c d1 => exact h
  | bad => exact h
/-- one step alone, that makes new objects at most -/
theorem Po.bind1 {α β : Type} {o : Out α} {f : α → SD → Out β} {k : β → SD → Hp → Prop} (h : Po X Y p Oc σ d H (o.bind f) k) : Po X Y p Oc σ d H o (fun a d1 H1 => Po X Y true Oc σ d1 H1 (f a d1) k) := by
  have h : Po X Y (p && true) Oc σ d H (o.bind f) k := by rw [Bool.and_true]; exact h
  exact Po.bind h
theorem Po.bindF {α β : Type} {o : Out α} {f : α → SD → Out β} {k : β → SD → Hp → Prop} (h : Po X Y false Oc σ d H (o.bind f) k) : Po X Y p Oc σ d H o (fun a d1 H1 => Po X Y false Oc σ d1 H1 (f a d1) k) := by
  have h : Po X Y (p && false) Oc σ d H (o.bind f) k := by rw [Bool.and_false]; exact h
  exact Po.bind h
/-- a first step that makes new objects at most -/
theorem Po.bind0 {α β : Type} {o : Out α} {f : α → SD → Out β} {k : β → SD → Hp → Prop} (h : Po X Y q Oc σ d H (o.bind f) k) : Po X Y true Oc σ d H o (fun a d1 H1 => Po X Y q Oc σ d1 H1 (f a d1) k) := by
  have h : Po X Y (true && q) Oc σ d H (o.bind f) k := by rw [Bool.true_and]; exact h
  exact Po.bind h
end
def tE (X : Cx) (Y : Yx) (pu : Bool) (m : M W) : TE := fun σ H Q => ∃ Oc d, RS X.K Y.Ex Oc H d σ ∧ Po X Y pu Oc σ d H (m d) fun w d' H' => ∀ v, Rp X.K Y.Ex (Ow Oc d' σ) H' v w → Q v H'
def tT (X : Cx) (Y : Yx) (pu : Bool) (m : M Bool) : TT := fun σ H Q => ∃ Oc d, RS X.K Y.Ex Oc H d σ ∧ Po X Y pu Oc σ d H (m d) fun b d' H' => RS X.K Y.Ex Oc H' d' σ → Q b H'
def tL (X : Cx) (Y : Yx) (pu : Bool) (m : M (List W)) : TA := fun σ H Q => ∃ Oc d, RS X.K Y.Ex Oc H d σ ∧ Po X Y pu Oc σ d H (m d) fun w d' H' => ∀ v, RpA X.K Y.Ex (Ow Oc d' σ) H' v w → Q v H'
structure DE (X : Cx) (Y : Yx) (pu : Bool) (e : Expr) (m : M W) : Prop where
  pe : PE X e (tE X Y pu m)
structure DT (X : Cx) (Y : Yx) (pu : Bool) (e : Expr) (m : M Bool) : Prop where
  pt : PT X e (tT X Y pu m)
structure DL (X : Cx) (Y : Yx) (pu : Bool) (es : List Expr) (m : M (List W)) : Prop where
  pa : PA X es (tL X Y pu m)
theorem pe_weak {X : Cx} {e : Expr} {t t' : TE} (h : PE X e t) (w : ∀ σ H Q, t' σ H Q → t σ H Q) : PE X e t' := ⟨fun pins s σ H Q I q => h.run pins s σ H Q I (w σ H Q q)⟩
theorem pt_weak {X : Cx} {e : Expr} {t t' : TT} (h : PT X e t) (w : ∀ σ H Q, t' σ H Q → t σ H Q) : PT X e t' := ⟨fun pins s σ H Q I q => h.run pins s σ H Q I (w σ H Q q)⟩
theorem pw_weak {X : Cx} {e : Expr} {t t' : TT} (h : PW X e t) (w : ∀ σ H Q, t' σ H Q → t σ H Q) : PW X e t' := ⟨fun wh pins s σ H Q I q => h.run wh pins s σ H Q I (w σ H Q q)⟩
theorem pa_weak {X : Cx} {e : List Expr} {t t' : TA} (h : PA X e t) (w : ∀ σ H Q, t' σ H Q → t σ H Q) : PA X e t' := ⟨fun pos pins s σ H Q I q => h.run pos pins s σ H Q I (w σ H Q q)⟩

/-! ### names and constants -/
section
variable {X : Cx} {Y : Yx}
def mVar (i : Nat) : M W := fun d => match d[i]? with
  | some (some (.val w)) => .ok w d
  | _ => .bad
def mC (w : W) : M W := fun d => .ok w d
theorem d_var (i : Nat) {x : Str} {pos : Pos} (hN : X.N[i]? = some x := by rfl) (hv : Vis X.env.scope x := by first | exact Or.inl rfl | exact Or.inr (Or.inl rfl) | exact Or.inr (Or.inr rfl)) (hd : (x == ("__debug__" : Str)) = false := by decide)
    (hcd : (x == ("__classdict__" : Str)) = false := by decide) : DE X Y true (.Name x pos) (mVar i) := ⟨by
  refine pe_weak (pe_var hN hv hd hcd) fun σ H Q h => ?_
  obtain ⟨Oc, d, rs, h⟩ := h
  unfold mVar at h
  split at h
  · rename_i w e
    obtain ⟨v, ev, r⟩ := rs.val i w e
    exact ⟨v, ev, h H (.refl rs) v r⟩
  · exact h.elim⟩
/-- a constant value -/
def atom : W → V → Prop
  | .none, v => v = .non
  | .bool b, v => v = .bl b
  | .int i, v => v = .int i
  | .str x, v => v = .str x
  | _, _ => False
theorem rp_atom {K : PySem.W.Frag} {Ex : Addr → Nat → Prop} {O : Addr → Prop} {H : Hp} {w : W} {v : V} (h : atom w v) : Rp K Ex O H v w := by
  cases w with
  | none => cases h; exact .non
  | bool b => cases h; exact .bl b
  | int i => cases h; exact .int i
  | str s => cases h; exact .str s
  | list _ => exact h.elim
  | tuple _ => exact h.elim
  | dict _ => exact h.elim
theorem d_const {e : Expr} {v : V} {w : W} (h : PE X e (tC v)) (a : atom w v) : DE X Y true e (mC w) := ⟨by
  refine pe_weak h fun σ H Q h => ?_
  obtain ⟨Oc, d, rs, h⟩ := h
  exact h H (.refl rs) v (rp_atom a)⟩
theorem d_int {i : Int} {j : Nat} {pos : Pos} : DE X Y true (.Constant (.int i) j pos) (mC (.int i)) := d_const pe_int rfl
theorem d_bl {i : Bool} {j : Nat} {pos : Pos} : DE X Y true (.Constant (.bool i) j pos) (mC (.bool i)) := d_const pe_bl rfl
theorem d_non {j : Nat} {pos : Pos} : DE X Y true (.Constant .none j pos) (mC .none) := d_const pe_non rfl
theorem d_str {i : Str} {j : Nat} {pos : Pos} : DE X Y true (.Constant (.str i) j pos) (mC (.str i)) := d_const pe_str rfl
/-- a module's constant -/
theorem d_glob {x : Str} {v : V} {w : W} {u : Value} {pos : Pos} (hm : X.mg x = some u) (r : RelV v u) (a : atom w v) (hg : Gl X x := by rfl) (hd : (x == ("__debug__" : Str)) = false := by decide) : DE X Y true (.Name x pos) (mC w) := d_const (pe_glob hg hm r hd) a
end

/-! ### operators on values -/
section
variable {X : Cx} {Y : Yx}
/-- a rule on two values by their data -/
def OpD (X : Cx) (f : Value → Value → Sem Value) (g : W → W → Option W) : Prop :=
  ∃ r, OpR X f r ∧ ∀ (Ex : Addr → Nat → Prop) (O : Addr → Prop) (H : Hp) (x y : V) (a b c : W) (Q : VK), (∀ p, O p → ∃ o, H p = some o) → g a b = some c → Rp X.K Ex O H x a → Rp X.K Ex O H y b →
    (∀ H' v, Same H H' → Rp X.K Ex O H' v c → Q v H') → r x y H Q
def UnD (X : Cx) (f : Value → Sem Value) (g : W → Option W) : Prop :=
  ∃ r, UnR X f r ∧ ∀ (Ex : Addr → Nat → Prop) (O : Addr → Prop) (H : Hp) (x : V) (a c : W) (Q : VK), (∀ p, O p → ∃ o, H p = some o) → g a = some c → Rp X.K Ex O H x a →
    (∀ H' v, Same H H' → Rp X.K Ex O H' v c → Q v H') → r x H Q
def CallD (X : Cx) (f : Value) (g : List W → Option W) : Prop :=
  ∃ r, CallR X f r ∧ ∀ (Ex : Addr → Nat → Prop) (O : Addr → Prop) (H : Hp) (xs : List V) (as : List W) (c : W) (Q : VK), (∀ p, O p → ∃ o, H p = some o) → g as = some c → RpA X.K Ex O H xs as →
    (∀ H' v, Same H H' → Rp X.K Ex O H' v c → Q v H') → r xs H Q
def mBin (g : W → W → Option W) (a b : M W) : M W := fun d => (a d).bind fun x d1 => (b d1).bind fun y d2 => ofOpt (g x y) d2
def mUn (g : W → Option W) (a : M W) : M W := fun d => (a d).bind fun x d1 => ofOpt (g x) d1
def mNil : M (List W) := fun d => .ok [] d
def mCons (a : M W) (r : M (List W)) : M (List W) := fun d => (a d).bind fun x d1 => (r d1).bind fun xs d2 => .ok (x :: xs) d2
def mCallB (g : List W → Option W) (as : M (List W)) : M W := fun d => (as d).bind fun xs d1 => ofOpt (g xs) d1
theorem t_bin {pa pb : Bool} {f : Value → Value → Sem Value} {r : R2} {g : W → W → Option W} {ma mb : M W} (ho : ∀ (Ex : Addr → Nat → Prop) (O : Addr → Prop) (H : Hp) (x y : V) (a b c : W) (Q : VK), (∀ p, O p → ∃ o, H p = some o) → g a b = some c → Rp X.K Ex O H x a → Rp X.K Ex O H y b →
    (∀ H' v, Same H H' → Rp X.K Ex O H' v c → Q v H') → r x y H Q) (σ : St) (H : Hp) (Q : VK) (h : tE X Y (pa && pb) (mBin g ma mb) σ H Q) : tOp r (tE X Y pa ma) (tE X Y pb mb) σ H Q := by
  obtain ⟨Oc, d, rs, h⟩ := h
  refine ⟨Oc, d, rs, (Po.bind h).imp fun w d1 H1 g1 h1 v r1 => ⟨Oc, d1, g1.rs, (Po.bind1 h1).imp fun w2 d2 H2 g2 h2 v2 r2 => ?_⟩⟩
  obtain ⟨c, ec, k⟩ := Po.opt h2
  exact ho Y.Ex (Ow Oc d2 σ) H2 v v2 w w2 c Q (fun p hp => g2.rs.there hp) ec (g2.rp r1) r2 fun H' v' s r' => k H' (.same g2.rs s) v' r'
theorem d_op {pa pb : Bool} {op : Operator} {g : W → W → Option W} {a b : Expr} {pos : Pos} {ma mb : M W} (ho : OpD X (binaryOp op) g) (ha : DE X Y pa a ma) (hb : DE X Y pb b mb) : DE X Y (pa && pb) (.BinOp a op b pos) (mBin g ma mb) :=
  let ⟨_, hr, hd⟩ := ho
  ⟨pe_weak (pe_op hr ha.pe hb.pe) (t_bin (f := binaryOp op) hd)⟩
theorem d_cmp {pa pb : Bool} {op : CmpOp} {g : W → W → Option W} {a b : Expr} {pos : Pos} {ma mb : M W} (ho : OpD X (compareOp op) g) (ha : DE X Y pa a ma) (hb : DE X Y pb b mb) (hm : behindInMarks op b = false := by first | exact nomark _ | rfl) : DE X Y (pa && pb) (.Compare a [op] [b] pos) (mBin g ma mb) :=
  let ⟨_, hr, hd⟩ := ho
  ⟨pe_weak (pe_cmpR hr ha.pe hb.pe hm) (t_bin (f := compareOp op) hd)⟩
theorem d_un {pa : Bool} {op : UnaryOp} {g : W → Option W} {a : Expr} {pos : Pos} {ma : M W} (ho : UnD X (unaryOp op) g) (ha : DE X Y pa a ma) : DE X Y pa (.UnaryOp op a pos) (mUn g ma) := by
  obtain ⟨r, hr, hd⟩ := ho
  refine ⟨pe_weak (pe_un hr ha.pe) fun σ H Q h => ?_⟩
  obtain ⟨Oc, d, rs, h⟩ := h
  refine ⟨Oc, d, rs, (Po.bind1 h).imp fun w d1 H1 g1 h1 v r1 => ?_⟩
  obtain ⟨c, ec, k⟩ := Po.opt h1
  exact hd Y.Ex (Ow Oc d1 σ) H1 v w c Q (fun p hp => g1.rs.there hp) ec r1 fun H' v' s r' => k H' (.same g1.rs s) v' r'
theorem d_nil : DL X Y true [] mNil := ⟨by
  refine pa_weak pa_nil fun σ H Q h => ?_
  obtain ⟨Oc, d, rs, h⟩ := h
  exact h H (.refl rs) [] .nil⟩
theorem d_cons {pa pb : Bool} {e : Expr} {es : List Expr} {a : M W} {r : M (List W)} (ha : DE X Y pa e a) (hr : DL X Y pb es r) (hs : starEach (e :: es) X.env = (false, eval e X.env) :: starEach es X.env := by rfl) : DL X Y (pa && pb) (e :: es) (mCons a r) := ⟨by
  refine pa_weak (pa_cons ha.pe hr.pa hs) fun σ H Q h => ?_
  obtain ⟨Oc, d, rs, h⟩ := h
  refine ⟨Oc, d, rs, (Po.bind h).imp fun w d1 H1 g1 h1 v r1 => ⟨Oc, d1, g1.rs, (Po.bind1 h1).imp fun w2 d2 H2 g2 h2 v2 r2 => ?_⟩⟩
  exact h2 H2 (.refl g2.rs) (v :: v2) (.cons (g2.rp r1) r2)⟩
theorem t_callB {pu : Bool} {f : Value} {r : List V → Hp → VK → Prop} {g : List W → Option W} {as : M (List W)} (hd : ∀ (Ex : Addr → Nat → Prop) (O : Addr → Prop) (H : Hp) (xs : List V) (as : List W) (c : W) (Q : VK), (∀ p, O p → ∃ o, H p = some o) → g as = some c → RpA X.K Ex O H xs as →
    (∀ H' v, Same H H' → Rp X.K Ex O H' v c → Q v H') → r xs H Q) (σ : St) (H : Hp) (Q : VK) (h : tE X Y pu (mCallB g as) σ H Q) : tCB r (tL X Y pu as) σ H Q := by
  obtain ⟨Oc, d, rs, h⟩ := h
  refine ⟨Oc, d, rs, (Po.bind1 h).imp fun w d1 H1 g1 h1 v r1 => ?_⟩
  obtain ⟨c, ec, k⟩ := Po.opt h1
  exact hd Y.Ex (Ow Oc d1 σ) H1 v w c Q (fun p hp => g1.rs.there hp) ec r1 fun H' v' s r' => k H' (.same g1.rs s) v' r'
theorem d_callB {pu : Bool} {x : Str} {p pos : Pos} {e : Expr} {es : List Expr} {id : String} {g : List W → Option W} {as : M (List W)} (hc : CallD X (.builtin id) g) (hm : X.mg x = none) (hv : bootBuiltins x = some (.builtin id)) (ha : DL X Y pu (e :: es) as) (hg : Gl X x := by rfl) (hn : x ≠ "__name__" := by decide) (hdb : (x == ("__debug__" : Str)) = false := by decide)
    (he : starEach (e :: es) X.env = (false, eval e X.env) :: starEach es X.env := by rfl) (hpl : (backTo pos (starEach es X.env)).any (·.1) = false := by rfl) : DE X Y pu (.Call (.Name x p) (e :: es) [] pos) (mCallB g as) :=
  let ⟨_, hr, hd⟩ := hc
  ⟨pe_weak (pe_callB hr hg hm hv ha.pa hn hdb he hpl) (t_callB (f := .builtin id) hd)⟩
theorem d_callTy {pu : Bool} {x : Str} {p pos : Pos} {e : Expr} {es : List Expr} {id : String} {g : List W → Option W} {as : M (List W)} (hc : CallD X (.type id) g) (hm : X.mg x = none) (hv : bootBuiltins x = some (.type id)) (ha : DL X Y pu (e :: es) as) (hg : Gl X x := by rfl) (hn : x ≠ "__name__" := by decide) (hdb : (x == ("__debug__" : Str)) = false := by decide)
    (he : starEach (e :: es) X.env = (false, eval e X.env) :: starEach es X.env := by rfl) (hpl : (backTo pos (starEach es X.env)).any (·.1) = false := by rfl) : DE X Y pu (.Call (.Name x p) (e :: es) [] pos) (mCallB g as) :=
  let ⟨_, hr, hd⟩ := hc
  ⟨pe_weak (pe_callTy hr hg hm hv ha.pa hn hdb he hpl) (t_callB (f := .type id) hd)⟩
end
end Qd
end
section
set_option Elab.async false
set_option linter.all false
set_option maxRecDepth 100000
/-! Tests, statements, loops by their data. -/
namespace Qd
open PySem PySem.Spec PyProof.Rows L2

/-! ### tests -/
section
variable {X : Cx} {Y : Yx}
structure DW (X : Cx) (Y : Yx) (pu : Bool) (e : Expr) (m : M Bool) : Prop where
  pw : PW X e (tT X Y pu m)
theorem DW.dt {pu : Bool} {e : Expr} {m : M Bool} (h : DW X Y pu e m) : DT X Y pu e m := ⟨h.pw.pt⟩
def mAndT (a b : M Bool) : M Bool := fun d => (a d).bind fun x d1 => if x = true then b d1 else .ok false d1
def mOrT (a b : M Bool) : M Bool := fun d => (a d).bind fun x d1 => if x = true then .ok true d1 else b d1
def mNotT (a : M Bool) : M Bool := fun d => (a d).bind fun x d1 => .ok (!x) d1
theorem dw_and1 {pa : Bool} {a : Expr} {pos : Pos} {t : M Bool} (ha : DT X Y pa a t) : DW X Y pa (.BoolOp .And [a] pos) t := ⟨pw_and1 ha.pt⟩
theorem dw_or1 {pa : Bool} {a : Expr} {pos : Pos} {t : M Bool} (ha : DT X Y pa a t) : DW X Y pa (.BoolOp .Or [a] pos) t := ⟨pw_or1 ha.pt⟩
theorem dw_and {pa pb : Bool} {a b : Expr} {rest : List Expr} {pos : Pos} {t u : M Bool} (ha : DT X Y pa a t) (hb : DW X Y pb (.BoolOp .And (b :: rest) pos) u) : DW X Y (pa && pb) (.BoolOp .And (a :: b :: rest) pos) (mAndT t u) := ⟨by
  refine pw_weak (pw_and ha.pt hb.pw) fun σ H Q h => ?_
  obtain ⟨Oc, d, rs, h⟩ := h
  refine ⟨Oc, d, rs, (Po.bind h).imp fun c d1 H1 g1 h1 rs1 => ?_⟩
  cases c with
  | true => exact iteT ⟨Oc, d1, rs1, h1⟩
  | false => exact iteF (h1 H1 (.refl rs1) rs1)⟩
theorem dw_or {pa pb : Bool} {a b : Expr} {rest : List Expr} {pos : Pos} {t u : M Bool} (ha : DT X Y pa a t) (hb : DW X Y pb (.BoolOp .Or (b :: rest) pos) u) : DW X Y (pa && pb) (.BoolOp .Or (a :: b :: rest) pos) (mOrT t u) := ⟨by
  refine pw_weak (pw_or ha.pt hb.pw) fun σ H Q h => ?_
  obtain ⟨Oc, d, rs, h⟩ := h
  refine ⟨Oc, d, rs, (Po.bind h).imp fun c d1 H1 g1 h1 rs1 => ?_⟩
  cases c with
  | true => exact iteT (h1 H1 (.refl rs1) rs1)
  | false => exact iteF ⟨Oc, d1, rs1, h1⟩⟩
theorem dt_not {pa : Bool} {a : Expr} {pos : Pos} {t : M Bool} (ha : DT X Y pa a t) : DT X Y pa (.UnaryOp .Not a pos) (mNotT t) := ⟨by
  refine pt_weak (pt_not ha.pt) fun σ H Q h => ?_
  obtain ⟨Oc, d, rs, h⟩ := h
  exact ⟨Oc, d, rs, (Po.bind1 h).imp fun c d1 H1 g1 h1 rs1 => h1 H1 (.refl rs1) rs1⟩⟩
/-- a comparison as a test -/
def mTest (a : M W) : M Bool := fun d => (a d).bind fun x d1 => match x with
  | .bool b => .ok b d1
  | _ => .bad
theorem tTest_of {pu : Bool} {t : TE} {m : M W} {σ : St} {H : Hp} {Q : Bool → Hp → Prop} (w : ∀ Q, tE X Y pu m σ H Q → t σ H Q) (h : tT X Y pu (mTest m) σ H Q) : tTest t σ H Q := by
  obtain ⟨Oc, d, rs, h⟩ := h
  refine w _ ⟨Oc, d, rs, (Po.bind1 h).imp fun x d1 H1 g1 h1 v r => ?_⟩
  cases x with
  | bool b => cases r; exact ⟨b, rfl, h1 H1 (.refl g1.rs) g1.rs⟩
  | none => exact h1.elim
  | int i => exact h1.elim
  | str s => exact h1.elim
  | tuple t => exact h1.elim
  | list l => exact h1.elim
  | dict l => exact h1.elim
theorem dt_cmp {pa pb : Bool} {op : CmpOp} {g : W → W → Option W} {a b : Expr} {pos : Pos} {ma mb : M W} (ho : OpD X (compareOp op) g) (ha : DE X Y pa a ma) (hb : DE X Y pb b mb) (hm : behindInMarks op b = false := by first | exact nomark _ | rfl) : DT X Y (pa && pb) (.Compare a [op] [b] pos) (mTest (mBin g ma mb)) := by
  obtain ⟨r, hr, hd⟩ := ho
  exact ⟨pt_weak (pt_cmpR hr ha.pe hb.pe hm) fun σ H Q h => tTest_of (fun Q q => t_bin (f := compareOp op) hd σ H Q q) h⟩
/-- a < b < c -/
def mChain (g g' : W → W → Option W) (a b c : M W) : M W := fun d => (a d).bind fun x d1 => (b d1).bind fun y d2 => (ofOpt (g x y) d2).bind fun z d3 => match z with
  | .bool true => (c d3).bind fun u d4 => ofOpt (g' y u) d4
  | .bool false => .ok (.bool false) d3
  | _ => .bad
theorem t_chain {pa pb pc : Bool} {op op' : CmpOp} {r r' : R2} {g g' : W → W → Option W} {ma mb mc : M W} (h1 : ∀ (Ex : Addr → Nat → Prop) (O : Addr → Prop) (H : Hp) (x y : V) (a b c : W) (Q : VK), (∀ p, O p → ∃ o, H p = some o) → g a b = some c → Rp X.K Ex O H x a → Rp X.K Ex O H y b →
    (∀ H' v, Same H H' → Rp X.K Ex O H' v c → Q v H') → r x y H Q) (h2 : ∀ (Ex : Addr → Nat → Prop) (O : Addr → Prop) (H : Hp) (x y : V) (a b c : W) (Q : VK), (∀ p, O p → ∃ o, H p = some o) → g' a b = some c → Rp X.K Ex O H x a → Rp X.K Ex O H y b →
    (∀ H' v, Same H H' → Rp X.K Ex O H' v c → Q v H') → r' x y H Q) (σ : St) (H : Hp) (Q : VK) (h : tE X Y (pa && (pb && pc)) (mChain g g' ma mb mc) σ H Q) : tChain r r' (tE X Y pa ma) (tE X Y pb mb) (tE X Y pc mc) σ H Q := by
  obtain ⟨Oc, d, rs, h⟩ := h
  refine ⟨Oc, d, rs, (Po.bind h).imp fun x d1 H1 g1 q1 v1 r1 => ⟨Oc, d1, g1.rs, (Po.bind q1).imp fun y d2 H2 g2 q2 v2 r2 => ?_⟩⟩
  obtain ⟨z, ez, k⟩ := Po.opt (Po.bind0 q2)
  refine h1 Y.Ex (Ow Oc d2 σ) H2 v1 v2 x y z _ (fun p hp => g2.rs.there hp) ez (g2.rp r1) r2 fun H3 v3 s3 r3 => ?_
  have g3 : Go X.K Y.Ex Oc true σ d2 H2 d2 H3 := .same g2.rs s3
  have k3 := k H3 g3
  cases z with
  | bool b =>
    cases r3
    cases b with
    | true =>
      refine ⟨true, rfl, ?_⟩
      rw [if_pos rfl]
      refine ⟨Oc, d2, g3.rs, (Po.bind1 k3).imp fun u d4 H4 g4 q4 v4 r4 => ?_⟩
      obtain ⟨c, ec, k5⟩ := Po.opt q4
      exact h2 Y.Ex (Ow Oc d4 σ) H4 v2 v4 y u c Q (fun p hp => g4.rs.there hp) ec (g4.rp (g3.rp r2)) r4 fun H5 v5 s5 r5 => k5 H5 (.same g4.rs s5) v5 r5
    | false =>
      refine ⟨false, rfl, ?_⟩
      rw [if_neg Bool.false_ne_true]
      exact k3 H3 (.refl g3.rs) (.bl false) (.bl false)
  | none => exact k3.elim
  | int i => exact k3.elim
  | str s => exact k3.elim
  | tuple t => exact k3.elim
  | list l => exact k3.elim
  | dict l => exact k3.elim
theorem d_chain {pa pb pc : Bool} {op op' : CmpOp} {g g' : W → W → Option W} {a b c : Expr} {pos : Pos} {ma mb mc : M W} (ho : OpD X (compareOp op) g) (ho' : OpD X (compareOp op') g') (ha : DE X Y pa a ma) (hb : DE X Y pb b mb) (hc : DE X Y pc c mc)
    (hm : lastMarks [op, op'] [b, c] = false := by rfl) : DE X Y (pa && (pb && pc)) (.Compare a [op, op'] [b, c] pos) (mChain g g' ma mb mc) :=
  let ⟨_, hr, hd⟩ := ho
  let ⟨_, hr', hd'⟩ := ho'
  ⟨pe_weak (pe_chain hr hr' ha.pe hb.pe hc.pe hm) (t_chain (op := op) (op' := op') hd hd')⟩
theorem dt_chain {pa pb pc : Bool} {op op' : CmpOp} {g g' : W → W → Option W} {a b c : Expr} {pos : Pos} {ma mb mc : M W} (ho : OpD X (compareOp op) g) (ho' : OpD X (compareOp op') g') (ha : DE X Y pa a ma) (hb : DE X Y pb b mb) (hc : DE X Y pc c mc)
    (hm : lastMarks [op, op'] [b, c] = false := by rfl) : DT X Y (pa && (pb && pc)) (.Compare a [op, op'] [b, c] pos) (mTest (mChain g g' ma mb mc)) := by
  obtain ⟨r, hr, hd⟩ := ho
  obtain ⟨r', hr', hd'⟩ := ho'
  exact ⟨pt_weak (pt_chain hr hr' ha.pe hb.pe hc.pe hm) fun σ H Q h => tTest_of (fun Q q => t_chain (op := op) (op' := op') hd hd' σ H Q q) h⟩
/-- the truth of a value -/
def truth : W → Option Bool
  | .none => some false
  | .bool b => some b
  | .int i => some (i != 0)
  | .str x => if x.length ≤ sizeLine then some ((x.length : Int) != 0) else none
  | .list ds => some (!ds.isEmpty)
  | .tuple ds => some (!ds.isEmpty)
  | .dict _ => none
def mTruth (a : M W) : M Bool := fun d => (a d).bind fun x d1 => ofOpt (truth x) d1
theorem RpA.empty {K : PySem.W.Frag} {Ex : Addr → Nat → Prop} {O : Addr → Prop} {H : Hp} {vs : List V} {ws : List W} (h : RpA K Ex O H vs ws) : vs.isEmpty = ws.isEmpty := by cases h <;> rfl
theorem tru_of {K : PySem.W.Frag} {Ex : Addr → Nat → Prop} {O : Addr → Prop} {H : Hp} {v : V} {w : W} {b : Bool} (r : Rp K Ex O H v w) (h : truth w = some b) : TruV K v H b := by
  cases r with
  | non => cases h; rfl
  | bl b => cases h; rfl
  | int i => cases h; rfl
  | str x =>
    have h : (if x.length ≤ sizeLine then some ((x.length : Int) != 0) else none) = some b := h
    by_cases z : x.length ≤ sizeLine
    · rw [if_pos z] at h
      cases h; exact ⟨z, rfl⟩
    · rw [if_neg z] at h
      cases h
  | lst l r => cases h; exact .inl ⟨_, l.sq, by rw [r.empty]⟩
  | tup l r => cases h; exact .inr (.inl ⟨_, l.sq, by rw [r.empty]⟩)
  | dK _ _ _ => cases h
  | dT _ _ _ => cases h
  | exc _ => cases h
theorem dt_val {pa : Bool} {a : Expr} {m : M W} (ha : DE X Y pa a m) (he : ∀ whole, isTrue a X.env whole = (do let v ← whole; standAt a.pos; holding [v] (truthy v)) := by intro _; rfl) : DT X Y pa a (mTruth m) := ⟨by
  refine pt_weak (pt_truth ha.pe he) fun σ H Q h => ?_
  obtain ⟨Oc, d, rs, h⟩ := h
  refine ⟨Oc, d, rs, (Po.bind1 h).imp fun x d1 H1 g1 h1 v r => ?_⟩
  obtain ⟨b, eb, k⟩ := Po.opt h1
  exact ⟨b, tru_of r eb, k H1 (.refl g1.rs) g1.rs⟩⟩
/-! values of and, or, not, if .. else -/
def mBoolV (a : M Bool) : M W := fun d => (a d).bind fun b d1 => .ok (.bool b) d1
def mIfE (t : M Bool) (a b : M W) : M W := fun d => (t d).bind fun c d1 => if c = true then a d1 else b d1
theorem d_ifE {pt pa pb : Bool} {c a b : Expr} {pos : Pos} {t : M Bool} {ma mb : M W} (hc : DT X Y pt c t) (ha : DE X Y pa a ma) (hb : DE X Y pb b mb) : DE X Y (pt && (pa && pb)) (.IfExp c a b pos) (mIfE t ma mb) := ⟨by
  refine pe_weak (pe_ifExp hc.pt ha.pe hb.pe) fun σ H Q h => ?_
  obtain ⟨Oc, d, rs, h⟩ := h
  refine ⟨Oc, d, rs, (Po.bind h).imp fun c d1 H1 g1 h1 rs1 => ?_⟩
  cases c with
  | true => exact iteT ⟨Oc, d1, rs1, Po.weak h1 fun z => (Bool.and_eq_true _ _ ▸ z).1⟩
  | false => exact iteF ⟨Oc, d1, rs1, Po.weak h1 fun z => (Bool.and_eq_true _ _ ▸ z).2⟩⟩
def asB (x : W) : Option Bool := match x with
  | .bool b => some b
  | _ => none
/-- and, or between truth values -/
def mAndV (a b : M W) : M W := fun d => (a d).bind fun x d1 => (ofOpt (asB x) d1).bind fun k d2 => if k = true then b d2 else .ok (.bool false) d2
def mOrV (a b : M W) : M W := fun d => (a d).bind fun x d1 => (ofOpt (asB x) d1).bind fun k d2 => if k = true then .ok (.bool true) d2 else b d2
def mNotV (a : M W) : M W := fun d => (a d).bind fun x d1 => (ofOpt (asB x) d1).bind fun k d2 => .ok (.bool (!k)) d2
theorem rp_asB {K : PySem.W.Frag} {Ex : Addr → Nat → Prop} {O : Addr → Prop} {H : Hp} {v : V} {w : W} {b : Bool} (r : Rp K Ex O H v w) (h : asB w = some b) : v = .bl b := by
  cases r <;> cases h
  rfl
theorem d_one {pa : Bool} {op : BoolOp} {a : Expr} {pos : Pos} {m : M W} (h : DE X Y pa a m) : DE X Y pa (.BoolOp op [a] pos) m := ⟨pe_one h.pe⟩
theorem d_and {pa pb : Bool} {a b : Expr} {rest : List Expr} {pos : Pos} {ma mb : M W} (ha : DE X Y pa a ma) (hb : DE X Y pb (.BoolOp .And (b :: rest) pos) mb) : DE X Y (pa && pb) (.BoolOp .And (a :: b :: rest) pos) (mAndV ma mb) := ⟨by
  refine pe_weak (pe_and ha.pe hb.pe) fun σ H Q h => ?_
  obtain ⟨Oc, d, rs, h⟩ := h
  refine ⟨Oc, d, rs, (Po.bind h).imp fun x d1 H1 g1 h1 v r => ?_⟩
  obtain ⟨c, ec, k⟩ := Po.opt (Po.bind0 h1)
  refine ⟨c, rp_asB r ec, ?_⟩
  have k := k H1 (.refl g1.rs)
  cases c with
  | true => exact iteT ⟨Oc, d1, g1.rs, k⟩
  | false => exact iteF (k H1 (.refl g1.rs) (.bl false) (.bl false))⟩
theorem d_or {pa pb : Bool} {a b : Expr} {rest : List Expr} {pos : Pos} {ma mb : M W} (ha : DE X Y pa a ma) (hb : DE X Y pb (.BoolOp .Or (b :: rest) pos) mb) : DE X Y (pa && pb) (.BoolOp .Or (a :: b :: rest) pos) (mOrV ma mb) := ⟨by
  refine pe_weak (pe_or ha.pe hb.pe) fun σ H Q h => ?_
  obtain ⟨Oc, d, rs, h⟩ := h
  refine ⟨Oc, d, rs, (Po.bind h).imp fun x d1 H1 g1 h1 v r => ?_⟩
  obtain ⟨c, ec, k⟩ := Po.opt (Po.bind0 h1)
  refine ⟨c, rp_asB r ec, ?_⟩
  have k := k H1 (.refl g1.rs)
  cases c with
  | true => exact iteT (k H1 (.refl g1.rs) (.bl true) (.bl true))
  | false => exact iteF ⟨Oc, d1, g1.rs, k⟩⟩
theorem d_not {pa : Bool} {a : Expr} {pos : Pos} {ma : M W} (ha : DE X Y pa a ma) : DE X Y pa (.UnaryOp .Not a pos) (mNotV ma) := ⟨by
  refine pe_weak (pe_not ha.pe) fun σ H Q h => ?_
  obtain ⟨Oc, d, rs, h⟩ := h
  refine ⟨Oc, d, rs, (Po.bind1 h).imp fun x d1 H1 g1 h1 v r => ?_⟩
  obtain ⟨c, ec, k⟩ := Po.opt (Po.bind1 h1)
  exact ⟨c, rp_asB r ec, k H1 (.refl g1.rs) H1 (.refl g1.rs) (.bl (!c)) (.bl (!c))⟩⟩
end

/-! ### what a name is given -/
def store (i : Nat) (w : W) (d : SD) : Option SD := match d[i]? with
  | some (some (.par _)) => none
  | some _ => some (d.set i (some (.val w)))
  | none => none
section
variable {K : PySem.W.Frag} {Ex : Addr → Nat → Prop} {Oc : Addr → Prop} {σ : St} {d d' : SD} {H : Hp}
theorem store_lt {i : Nat} {w : W} (h : store i w d = some d') : i < d.length ∧ d' = d.set i (some (.val w)) ∧ ∀ u, d[i]? ≠ some (some (.par u)) := by
  unfold store at h
  cases q : d[i]? with
  | none => rw [q] at h; cases h
  | some x =>
    obtain ⟨lt, _⟩ := List.getElem?_eq_some_iff.mp q
    rw [q] at h
    rcases x with _ | (w' | w' | w')
    · exact ⟨lt, (Option.some.inj h).symm, fun u e => nomatch e⟩
    · exact ⟨lt, (Option.some.inj h).symm, fun u e => nomatch e⟩
    · exact ⟨lt, (Option.some.inj h).symm, fun u e => nomatch e⟩
    · cases h
/-- a slot is set to s (with σ's to v), the rest stands -/
theorem mine_set {i : Nat} {w : W} {v : V} {a : Addr} (h : Mine (d.set i (some (.val w))) (σ.set i (some v)) a) : Mine d σ a := by
  obtain ⟨j, s, u, h1, h2, h3⟩ := h
  by_cases e : i = j
  · subst e
    rw [List.getElem?_set] at h1
    simp only [if_true] at h1
    split at h1
    · cases h1; cases h2
    · cases h1
  · rw [List.getElem?_set_ne e] at h1 h3
    exact ⟨j, s, u, h1, h2, h3⟩
theorem store_go {i : Nat} {w : W} {v : V} (rs : RS K Ex Oc H d σ) (r : Rp K Ex (Ow Oc d σ) H v w) (h : store i w d = some d') : GoS K Ex Oc d σ H d' (σ.set i (some v)) H := by
  obtain ⟨lt, rfl, np⟩ := store_lt h
  have ltσ : i < σ.length := by rw [← rs.len]; exact lt
  have ow : ∀ a, Ow Oc (d.set i (some (.val w))) (σ.set i (some v)) a → Ow Oc d σ a := fun a z => z.imp id mine_set
  have ke : Ke (Ow Oc d σ) H (Ow Oc (d.set i (some (.val w))) (σ.set i (some v))) H := fun a u n e => ⟨fun z => n (ow a z), e⟩
  refine ⟨⟨by rw [List.length_set, List.length_set]; exact rs.len, fun j u e => ?_, fun j s u e1 e2 => ?_, fun j k s t u u' p ne e1 e2 e3 e4 e5 => ?_, rs.oc⟩, fun _ _ e _ => e, fun a z => .inl (mine_set z), fun j u e => ?_⟩
  · by_cases ej : i = j
    · subst ej
      rw [List.getElem?_set_self lt] at e
      cases e
      exact ⟨v, List.getElem?_set_self ltσ, r.mono ke fun _ _ z => z⟩
    · rw [List.getElem?_set_ne ej] at e
      obtain ⟨v', e', r'⟩ := rs.val j u e
      exact ⟨v', by rw [List.getElem?_set_ne ej]; exact e', r'.mono ke fun _ _ z => z⟩
  · by_cases ej : i = j
    · subst ej
      rw [List.getElem?_set_self lt] at e1
      cases e1; cases e2
    · rw [List.getElem?_set_ne ej] at e1
      obtain ⟨p, e', n, ob⟩ := rs.own j s u e1 e2
      exact ⟨p, by rw [List.getElem?_set_ne ej]; exact e', n, ob.mono ke (fun _ _ z => z) rfl⟩
  · by_cases ej : i = j
    · subst ej
      rw [List.getElem?_set_self lt] at e1
      cases e1; cases e2
    · by_cases ek : i = k
      · subst ek
        rw [List.getElem?_set_self lt] at e3
        cases e3; cases e4
      · rw [List.getElem?_set_ne ej] at e1 e5
        rw [List.getElem?_set_ne ek] at e3 ⊢
        exact rs.sep j k s t u u' p ne e1 e2 e3 e4 e5
  · have ne : i ≠ j := fun z => by
      subst z
      exact np u e
    exact ⟨⟨u, by rw [List.getElem?_set_ne ne]; exact e⟩, by rw [List.getElem?_set_ne ne]⟩
end

/-! ### targets -/
abbrev GW := W → SD → Option SD
abbrev GWs := List W → SD → Option SD
/-- the names at the places is alone are given something -/
def Out1 (is : List Nat) (σ σ' : St) : Prop := σ'.length = σ.length ∧ ∀ j : Nat, j ∉ is → σ'[j]? = σ[j]?
def Only (is : List Nat) (d d' : SD) : Prop := d'.length = d.length ∧ (∀ j : Nat, j ∉ is → d'[j]? = d[j]?) ∧ ∀ j : Nat, d'[j]? = d[j]? ∨ ∃ w, d'[j]? = some (some (.val w))
def tG (K : PySem.W.Frag) (Y : Yx) (g : GW) (is : List Nat) : TG := fun v σ H Q => ∃ Oc d w d', RS K Y.Ex Oc H d σ ∧ Rp K Y.Ex (Ow Oc d σ) H v w ∧ g w d = some d' ∧ ∀ σ', GoS K Y.Ex Oc d σ H d' σ' H → Out1 is σ σ' → Q σ' H
def tGs (K : PySem.W.Frag) (Y : Yx) (g : GWs) (is : List Nat) : TGs := fun v σ H Q => ∃ Oc d w d', RS K Y.Ex Oc H d σ ∧ RpA K Y.Ex (Ow Oc d σ) H v w ∧ g w d = some d' ∧ ∀ σ', GoS K Y.Ex Oc d σ H d' σ' H → Out1 is σ σ' → Q σ' H
structure DG (X : Cx) (Y : Yx) (tg : Expr) (g : GW) (is : List Nat) : Prop where
  only : ∀ w d d', g w d = some d' → Only is d d'
  pg : PG X tg (tG X.K Y g is)
structure DGs (X : Cx) (Y : Yx) (tgs : List Expr) (g : GWs) (is : List Nat) : Prop where
  only : ∀ w d d', g w d = some d' → Only is d d'
  pg : PGs X tgs (tGs X.K Y g is)
section
variable {X : Cx} {Y : Yx}
theorem pg_weak {e : Expr} {t t' : TG} (h : PG X e t) (w : ∀ v σ H Q, t' v σ H Q → t v σ H Q) : PG X e t' := ⟨fun pins s σ H v u Q I r q => h.run pins s σ H v u Q I r (w v σ H Q q)⟩
theorem pgs_weak {e : List Expr} {t t' : TGs} (h : PGs X e t) (w : ∀ v σ H Q, t' v σ H Q → t v σ H Q) : PGs X e t' := ⟨fun pins s σ H v u Q I r q => h.run pins s σ H v u Q I r (w v σ H Q q)⟩
theorem Only.refl (d : SD) : Only [] d d := ⟨rfl, fun _ _ => rfl, fun _ => .inl rfl⟩
theorem only_store {i : Nat} {w : W} {d d' : SD} (h : store i w d = some d') : Only [i] d d' := by
  obtain ⟨lt, rfl, _⟩ := store_lt h
  refine ⟨List.length_set, fun j hj => List.getElem?_set_ne fun e => hj ?_, fun j => ?_⟩
  · rw [e]; exact List.mem_singleton.mpr rfl
  · by_cases e : i = j
    · subst e
      exact .inr ⟨w, List.getElem?_set_self lt⟩
    · exact .inl (List.getElem?_set_ne e)
theorem out1_set (i : Nat) (v : Option V) (σ : St) : Out1 [i] σ (σ.set i v) := by
  refine ⟨List.length_set, fun j hj => List.getElem?_set_ne fun e => hj ?_⟩
  rw [e]; exact List.mem_singleton.mpr rfl
theorem Out1.trans {is js : List Nat} {a b c : St} (h : Out1 is a b) (g : Out1 js b c) : Out1 (is ++ js) a c :=
  ⟨g.1.trans h.1, fun j hj => (g.2 j fun z => hj (List.mem_append_right _ z)).trans (h.2 j fun z => hj (List.mem_append_left _ z))⟩
theorem Only.trans {is js : List Nat} {a b c : SD} (h : Only is a b) (g : Only js b c) : Only (is ++ js) a c :=
  ⟨g.1.trans h.1, fun j hj => (g.2.1 j fun z => hj (List.mem_append_right _ z)).trans (h.2.1 j fun z => hj (List.mem_append_left _ z)), fun j => by
    rcases g.2.2 j with e | e
    · rw [e]; exact h.2.2 j
    · exact .inr e⟩
theorem dg_name (i : Nat) {x : Str} {pos : Pos} (hN : X.N.Nodup) (hi : X.N[i]? = some x := by rfl) (hx : Loc X.env.scope x := by first | exact .inl rfl | exact .inr rfl) (hf : X.fn x = true ∨ X.env.scope.names.lookup x = some .local := by first | exact .inl rfl | exact .inr rfl | assumption) :
    DG X Y (.Name x pos) (store i) [i] :=
  ⟨fun _ _ _ h => only_store h, pg_weak (pg_name hN hi hx hf) fun v σ H Q ⟨Oc, d, w, d', rs, r, e, k⟩ => k _ (store_go rs r e) (out1_set _ _ _)⟩
def gsNil : GWs := fun ws d => match ws with
  | [] => some d
  | _ => none
def gsCons (g : GW) (r : GWs) : GWs := fun ws d => match ws with
  | w :: ws => (g w d).bind fun d1 => r ws d1
  | [] => none
theorem dgs_nil : DGs X Y [] gsNil [] := by
  refine ⟨fun w d d' h => ?_, pgs_weak pgs_nil fun v σ H Q ⟨Oc, d, w, d', rs, r, e, k⟩ => ?_⟩
  · cases w with
    | nil => cases h; exact .refl _
    | cons _ _ => cases h
  · cases r with
    | nil => cases e; exact ⟨rfl, k _ (.refl rs) ⟨rfl, fun _ _ => rfl⟩⟩
    | cons _ _ => cases e
theorem dgs_cons {e : Expr} {es : List Expr} {g : GW} {r : GWs} {is js : List Nat} (h1 : DG X Y e g is) (h2 : DGs X Y es r js) (hs : (assignEach (e :: es) X.env).map (·.2) = assign e X.env :: (assignEach es X.env).map (·.2) := by rfl) : DGs X Y (e :: es) (gsCons g r) (is ++ js) := by
  refine ⟨fun w d d' h => ?_, pgs_weak (pgs_cons h1.pg h2.pg hs) fun v σ H Q ⟨Oc, d, w, d', rs, ra, e, k⟩ => ?_⟩
  · cases w with
    | nil => cases h
    | cons a b =>
      obtain ⟨d1, e1, e2⟩ := Option.bind_eq_some_iff.mp (show (g _ d).bind _ = some d' from h)
      exact (h1.only _ _ _ e1).trans (h2.only _ _ _ e2)
  · cases ra with
    | nil => cases e
    | cons a b =>
      obtain ⟨d1, e1, e2⟩ := Option.bind_eq_some_iff.mp (show (g _ d).bind _ = some d' from e)
      refine ⟨_, _, rfl, Oc, d, _, d1, rs, a, e1, fun σ1 g1 o1 => ?_⟩
      exact ⟨Oc, d1, _, d', g1.rs, b.mono g1.ke fun _ _ z => z, e2, fun σ2 g2 o2 => k σ2 (g1.trans g2) (o1.trans o2)⟩
/-- (a, b, ..) = a tuple -/
def gTupW (n : Nat) (g : GWs) : GW := fun w d => match w with
  | .tuple ws => if ws.length = n then g ws d else none
  | _ => none
/-- (a, b, ..) = a list -/
def gLstW (n : Nat) (g : GWs) : GW := fun w d => match w with
  | .list ws => if ws.length = n then g ws d else none
  | _ => none
theorem gTupW_some {n : Nat} {g : GWs} {w : W} {d d' : SD} (h : gTupW n g w d = some d') : ∃ ws, w = .tuple ws ∧ ws.length = n ∧ g ws d = some d' := by
  cases w with
  | tuple ws =>
    have h : (if ws.length = n then g ws d else none) = some d' := h
    by_cases z : ws.length = n
    · rw [if_pos z] at h; exact ⟨ws, rfl, z, h⟩
    · rw [if_neg z] at h; cases h
  | _ => cases h
theorem gLstW_some {n : Nat} {g : GWs} {w : W} {d d' : SD} (h : gLstW n g w d = some d') : ∃ ws, w = .list ws ∧ ws.length = n ∧ g ws d = some d' := by
  cases w with
  | list ws =>
    have h : (if ws.length = n then g ws d else none) = some d' := h
    by_cases z : ws.length = n
    · rw [if_pos z] at h; exact ⟨ws, rfl, z, h⟩
    · rw [if_neg z] at h; cases h
  | _ => cases h
theorem dg_tup {es : List Expr} {k : Nat} {pos : Pos} {g : GWs} {n : Nat} {is : List Nat} (hc : X.calm = true) (h : DGs X Y es g is) (hn : (assignEach es X.env).length = n := by rfl) (hst : (assignEach es X.env).findIdx? (·.1) = none := by rfl) : DG X Y (.Tuple es k pos) (gTupW n g) is := by
  refine ⟨fun w d d' e => ?_, pg_weak (pg_tup hc h.pg hn hst) fun v σ H Q ⟨Oc, d, w, d', rs, r, e, k⟩ => ?_⟩
  · obtain ⟨ws, rfl, _, e⟩ := gTupW_some e
    exact h.only _ _ _ e
  · obtain ⟨ws, rfl, el, e⟩ := gTupW_some e
    cases r with
    | tup a b => exact ⟨_, _, rfl, a.sq, b.length.trans el, Oc, d, _, d', rs, b, e, k⟩
theorem dg_lst {es : List Expr} {k : Nat} {pos : Pos} {g : GWs} {n : Nat} {is : List Nat} (hc : X.calm = true) (h : DGs X Y es g is) (hn : (assignEach es X.env).length = n := by rfl) (hst : (assignEach es X.env).findIdx? (·.1) = none := by rfl) : DG X Y (.Tuple es k pos) (gLstW n g) is := by
  refine ⟨fun w d d' e => ?_, pg_weak (pg_lst hc h.pg hn hst) fun v σ H Q ⟨Oc, d, w, d', rs, r, e, k⟩ => ?_⟩
  · obtain ⟨ws, rfl, _, e⟩ := gLstW_some e
    exact h.only _ _ _ e
  · obtain ⟨ws, rfl, el, e⟩ := gLstW_some e
    cases r with
    | lst a b => exact ⟨_, _, rfl, a.sq, b.length.trans el, Oc, d, _, d', rs, b, e, k⟩
end

/-! ### statements -/
inductive SOut where
  | next (d : SD) | ret (r : Slot) (d : SD) | brk (d : SD) | cont (d : SD) | exc (c : Nat) (d : SD) | bad
abbrev MS := SD → SOut
def SOut.seq (o : SOut) (f : MS) : SOut := match o with
  | .next d => f d
  | o => o
@[simp] theorem SOut.seq_next (d : SD) (f : MS) : (SOut.next d).seq f = f d := rfl
@[simp] theorem SOut.seq_ret (r : Slot) (d : SD) (f : MS) : (SOut.ret r d).seq f = .ret r d := rfl
@[simp] theorem SOut.seq_brk (d : SD) (f : MS) : (SOut.brk d).seq f = .brk d := rfl
@[simp] theorem SOut.seq_cont (d : SD) (f : MS) : (SOut.cont d).seq f = .cont d := rfl
@[simp] theorem SOut.seq_exc (c : Nat) (d : SD) (f : MS) : (SOut.exc c d).seq f = .exc c d := rfl
@[simp] theorem SOut.seq_bad (f : MS) : SOut.bad.seq f = .bad := rfl
def Out.toS {α : Type} (o : Out α) (f : α → SD → SOut) : SOut := match o with
  | .ok a d => f a d
  | .exc c d => .exc c d
  | .bad => .bad
@[simp] theorem Out.toS_ok {α : Type} (a : α) (d : SD) (f : α → SD → SOut) : (Out.ok a d).toS f = f a d := rfl
@[simp] theorem Out.toS_exc {α : Type} (c : Nat) (d : SD) (f : α → SD → SOut) : (Out.exc c d : Out α).toS f = .exc c d := rfl
@[simp] theorem Out.toS_bad {α : Type} (f : α → SD → SOut) : (Out.bad : Out α).toS f = .bad := rfl
def sOpt (o : Option SD) : SOut := match o with
  | some d => .next d
  | none => .bad
@[simp] theorem sOpt_some (d : SD) : sOpt (some d) = .next d := rfl
@[simp] theorem sOpt_none : sOpt none = .bad := rfl
def With (O : Addr → Prop) (p : Addr) (a : Addr) : Prop := O a ∨ a = p
def PoS (X : Cx) (Y : Yx) (Oc : Addr → Prop) (d : SD) (σ : St) (H : Hp) (o : SOut) (D : Ends) : Prop := match o with
  | .next d' => ∀ σ' H', GoS X.K Y.Ex Oc d σ H d' σ' H' → D.nx σ' H'
  | .brk d' => ∀ σ' H', GoS X.K Y.Ex Oc d σ H d' σ' H' → D.bk σ' H'
  | .cont d' => ∀ σ' H', GoS X.K Y.Ex Oc d σ H d' σ' H' → D.ct σ' H'
  | .ret (.val w) d' => ∀ σ' H' v, GoS X.K Y.Ex Oc d σ H d' σ' H' → Rp X.K Y.Ex (Ow Oc d' σ') H' v w → D.rt v H'
  | .ret (.own w) d' => ∀ σ' H' p, GoS X.K Y.Ex Oc d σ H d' σ' H' → (H p = none ∨ Mine d σ p) → RS X.K Y.Ex (With Oc p) H' d' σ' → Ob X.K Y.Ex (Ow (With Oc p) d' σ') H' p w → D.rt (.ref p) H'
  | .ret (.par w) _ => False
  | .exc c d' => ∀ σ' H', GoS X.K Y.Ex Oc d σ H d' σ' H' → Y.W (Y.T c) none σ' H'
  | .bad => False
def tS (X : Cx) (Y : Yx) (m : MS) : TS := fun D σ H => ∃ Oc d, RS X.K Y.Ex Oc H d σ ∧ PoS X Y Oc d σ H (m d) D
structure DS (X : Cx) (Y : Yx) (st : Stmt) (m : MS) : Prop where
  ps : PS X st (tS X Y m)
structure DSs (X : Cx) (Y : Yx) (st : List Stmt) (m : MS) : Prop where
  ps : PSs X st (tS X Y m)
theorem ps_weak {X : Cx} {e : Stmt} {t t' : TS} (h : PS X e t) (w : ∀ D σ H, t' D σ H → t D σ H) : PS X e t' := ⟨fun pins s σ H D I q => h.run pins s σ H D I (w D σ H q)⟩
theorem pss_weak {X : Cx} {e : List Stmt} {t t' : TS} (h : PSs X e t) (w : ∀ D σ H, t' D σ H → t D σ H) : PSs X e t' := ⟨fun pins s σ H D I q => h.run pins s σ H D I (w D σ H q)⟩
section
variable {X : Cx} {Y : Yx} {Oc : Addr → Prop} {σ σ' : St} {d d' : SD} {H H' : Hp}
theorem PoS.from {o : SOut} {D : Ends} (g : GoS X.K Y.Ex Oc d σ H d' σ' H') (h : PoS X Y Oc d σ H o D) : PoS X Y Oc d' σ' H' o D := by
  cases o with
  | next d2 => exact fun σ2 H2 g2 => h σ2 H2 (g.trans g2)
  | brk d2 => exact fun σ2 H2 g2 => h σ2 H2 (g.trans g2)
  | cont d2 => exact fun σ2 H2 g2 => h σ2 H2 (g.trans g2)
  | exc c d2 => exact fun σ2 H2 g2 => h σ2 H2 (g.trans g2)
  | bad => exact h
  | ret r d2 =>
    cases r with
    | val w => exact fun σ2 H2 v g2 => h σ2 H2 v (g.trans g2)
    | par w => exact h
    | own w =>
      refine fun σ2 H2 p g2 n => h σ2 H2 p (g.trans g2) ?_
      rcases n with n | n
      · by_cases m : Mine d σ p
        · exact .inr m
        · refine .inl ?_
          cases q : H p with
          | none => rfl
          | some o => rw [g.fr p o q m] at n; cases n
      · exact (g.mine p n).symm
/-- what follows may be asked for what is reached -/
theorem PoS.ends {o : SOut} {D D' : Ends} (h : PoS X Y Oc d σ H o D) (n : ∀ d' σ' H', o = .next d' → GoS X.K Y.Ex Oc d σ H d' σ' H' → D.nx σ' H' → D'.nx σ' H') (b : ∀ d' σ' H', o = .brk d' → GoS X.K Y.Ex Oc d σ H d' σ' H' → D.bk σ' H' → D'.bk σ' H')
    (c : ∀ d' σ' H', o = .cont d' → GoS X.K Y.Ex Oc d σ H d' σ' H' → D.ct σ' H' → D'.ct σ' H') (r : ∀ v H, D.rt v H → D'.rt v H) : PoS X Y Oc d σ H o D' := by
  cases o with
  | next d2 => exact fun σ2 H2 g2 => n _ _ _ rfl g2 (h σ2 H2 g2)
  | brk d2 => exact fun σ2 H2 g2 => b _ _ _ rfl g2 (h σ2 H2 g2)
  | cont d2 => exact fun σ2 H2 g2 => c _ _ _ rfl g2 (h σ2 H2 g2)
  | exc c d2 => exact h
  | bad => exact h
  | ret s d2 =>
    cases s with
    | val w => exact fun σ2 H2 v g2 z => r _ _ (h σ2 H2 v g2 z)
    | par w => exact h
    | own w => exact fun σ2 H2 p g2 a b c => r _ _ (h σ2 H2 p g2 a b c)
theorem PoS.seq {o : SOut} {f : MS} {D : Ends} (h : PoS X Y Oc d σ H (o.seq f) D) : PoS X Y Oc d σ H o { D with nx := tS X Y f D } := by
  cases o with
  | next d2 => exact fun σ2 H2 g2 => ⟨Oc, d2, g2.rs, PoS.from g2 h⟩
  | brk d2 => exact h
  | cont d2 => exact h
  | exc c d2 => exact h
  | bad => exact h
  | ret s d2 => cases s <;> exact h
theorem Po.toS {α : Type} {p : Bool} {o : Out α} {f : α → SD → SOut} {D : Ends} (h : PoS X Y Oc d σ H (o.toS f) D) : Po X Y p Oc σ d H o fun a d1 H1 => PoS X Y Oc d1 σ H1 (f a d1) D := by
  cases o with
  | ok a d1 => exact fun H1 g1 => PoS.from g1.toS h
  | exc c d1 => exact fun H1 g1 => h σ H1 g1.toS
  | bad => exact h
end
section
variable {X : Cx} {Y : Yx}
def mSkip : MS := fun d => .next d
def mSeq (a b : MS) : MS := fun d => (a d).seq b
theorem ds_nil : DSs X Y [] mSkip := ⟨pss_weak pss_nil fun D σ H h => by
  obtain ⟨Oc, d, rs, h⟩ := h
  exact h σ H (.refl rs)⟩
theorem ds_cons {st : Stmt} {rest : List Stmt} {a b : MS} (h1 : DS X Y st a) (h2 : DSs X Y rest b) : DSs X Y (st :: rest) (mSeq a b) := ⟨pss_weak (pss_cons h1.ps h2.ps) fun D σ H h => by
  obtain ⟨Oc, d, rs, h⟩ := h
  exact ⟨Oc, d, rs, h.seq⟩⟩
theorem ds_one {st : Stmt} {a : MS} (h1 : DS X Y st a) : DSs X Y [st] a := ⟨pss_one h1.ps⟩
theorem ds_pass {pos : Pos} : DS X Y (.Pass pos) mSkip := ⟨ps_weak ps_pass fun D σ H h => by
  obtain ⟨Oc, d, rs, h⟩ := h
  exact h σ H (.refl rs)⟩
def mBrk : MS := fun d => .brk d
def mCont : MS := fun d => .cont d
theorem ds_break {pos : Pos} : DS X Y (.Break pos) mBrk := ⟨ps_weak ps_break fun D σ H h => by
  obtain ⟨Oc, d, rs, h⟩ := h
  exact h σ H (.refl rs)⟩
theorem ds_continue {pos : Pos} : DS X Y (.Continue pos) mCont := ⟨ps_weak ps_continue fun D σ H h => by
  obtain ⟨Oc, d, rs, h⟩ := h
  exact h σ H (.refl rs)⟩
theorem ds_doc {x : Str} {j : Nat} {pos pos' : Pos} : DS X Y (.Expr (.Constant (.str x) j pos) pos') mSkip := ⟨ps_weak ps_doc fun D σ H h => by
  obtain ⟨Oc, d, rs, h⟩ := h
  exact h σ H (.refl rs)⟩
def mDrop (a : M W) : MS := fun d => (a d).toS fun _ d1 => .next d1
theorem ds_expr {pu : Bool} {e : Expr} {pos : Pos} {m : M W} (he : DE X Y pu e m) (hs : swapsWith e none pos.line X.env = pure false := by rfl) : DS X Y (.Expr e pos) (mDrop m) := ⟨ps_weak (ps_expr he.pe hs) fun D σ H h => by
  obtain ⟨Oc, d, rs, h⟩ := h
  exact ⟨Oc, d, rs, (Po.toS h).imp fun w d1 H1 g1 h1 v r => h1 σ H1 (.refl g1.rs)⟩⟩
def mRet (a : M W) : MS := fun d => (a d).toS fun w d1 => .ret (.val w) d1
theorem ds_ret {pu : Bool} {e : Expr} {pos : Pos} {m : M W} (he : DE X Y pu e m) : DS X Y (.Return (some e) pos) (mRet m) := ⟨ps_weak (ps_ret he.pe) fun D σ H h => by
  obtain ⟨Oc, d, rs, h⟩ := h
  exact ⟨Oc, d, rs, (Po.toS h).imp fun w d1 H1 g1 h1 v r => h1 σ H1 v (.refl g1.rs) r⟩⟩
def mIf (t : M Bool) (a b : MS) : MS := fun d => (t d).toS fun c d1 => if c = true then a d1 else b d1
theorem ds_if {pu : Bool} {c : Expr} {sa sb : List Stmt} {pos : Pos} {t : M Bool} {a b : MS} (hc : DT X Y pu c t) (ha : DSs X Y sa a) (hb : DSs X Y sb b) : DS X Y (.If c sa sb pos) (mIf t a b) := ⟨ps_weak (ps_if hc.pt ha.ps hb.ps) fun D σ H h => by
  obtain ⟨Oc, d, rs, h⟩ := h
  refine ⟨Oc, d, rs, (Po.toS h).imp fun c d1 H1 g1 h1 rs1 => ?_⟩
  cases c with
  | true => exact iteT ⟨Oc, d1, rs1, h1⟩
  | false => exact iteF ⟨Oc, d1, rs1, h1⟩⟩
/-- target = value -/
def mAsg (g : GW) (a : M W) : MS := fun d => (a d).toS fun w d1 => sOpt (g w d1)
theorem ds_asg {pu : Bool} {tg e : Expr} {pos : Pos} {g : GW} {m : M W} {is : List Nat} (hg : DG X Y tg g is) (he : DE X Y pu e m) (hs : swapsWithSole [tg] e pos.line X.env = pure false := by rfl) (hw : swappedStores [tg] e X.env = pure none := by rfl)
    (h1 : (assignEach [tg] X.env).map (·.2) = [assign tg X.env] := by rfl) : DS X Y (.Assign [tg] e pos) (mAsg g m) := by
  refine ⟨ps_weak (ps_asg he.pe hg.pg hs hw h1) fun D σ H h => ?_⟩
  obtain ⟨Oc, d, rs, h⟩ := h
  refine ⟨Oc, d, rs, (Po.toS h).imp fun w d1 H1 g1 h1 v r => ?_⟩
  cases q : g w d1 with
  | none => rw [q] at h1; exact h1.elim
  | some d2 =>
    rw [q] at h1
    exact ⟨Oc, d1, w, d2, g1.rs, r, q, fun σ' gs _ => h1 σ' H1 gs⟩
/-- name = value -/
theorem ds_ofE {pu : Bool} {i : Nat} {st : Stmt} {m : M W} (hp : PS X st (tAsg (tE X Y pu m) (gName i))) : DS X Y st (mAsg (store i) m) := by
  refine ⟨ps_weak hp fun D σ H h => ?_⟩
  obtain ⟨Oc, d, rs, h⟩ := h
  refine ⟨Oc, d, rs, (Po.toS h).imp fun w d1 H1 g1 h1 v r => ?_⟩
  cases q : store i w d1 with
  | none => rw [q] at h1; exact h1.elim
  | some d2 =>
    rw [q] at h1
    exact h1 _ H1 (store_go g1.rs r q)
theorem ds_set {pu : Bool} {i : Nat} {x : Str} {e : Expr} {pos pos' : Pos} {m : M W} (hN : X.N.Nodup) (he : DE X Y pu e m) (hi : X.N[i]? = some x := by rfl) (hx : Loc X.env.scope x := by first | exact .inl rfl | exact .inr rfl) (hs : swapsWith e (some (.Name x pos')) pos.line X.env = pure false := by rfl)
    (hf : X.fn x = true ∨ X.env.scope.names.lookup x = some .local := by first | exact .inl rfl | exact .inr rfl | assumption) : DS X Y (.Assign [.Name x pos'] e pos) (mAsg (store i) m) := ds_ofE (ps_set hN hi hx he.pe hs hf)
end
end Qd
end
section
set_option Elab.async false
set_option linter.all false
set_option maxRecDepth 100000
/-! Loops and list comprehensions by their data. -/
namespace Qd
open PySem PySem.Spec PyProof.Rows L2

/-! ### what is walked -/
/-- the iterator J hands out the data ws wherever S holds -/
structure Wk (K : PySem.W.Frag) (Ex : Addr → Nat → Prop) (J : It) (S : (Addr → Prop) → Hp → Prop) (ws : List W) : Prop where
  keep : ∀ O H O' H', Ke O H O' H' → S O H → S O' H'
  go : ∀ O H i, S O H → i < ws.length → J.go i H
  yld : ∀ O H i x H', (∀ a, O a → ∃ o, H a = some o) → S O H → J.yld i H x H' → Same H H' ∧ ∀ w, ws[i]? = some w → Rp K Ex O H' x w
  stop : ∀ O H i, S O H → ws.length ≤ i → J.stop i H
def tI (X : Cx) (Y : Yx) (pu : Bool) (m : M (List W)) : TI := fun σ H R => ∃ Oc d, RS X.K Y.Ex Oc H d σ ∧ Po X Y pu Oc σ d H (m d) fun ws d' H' => ∀ J S, Wk X.K Y.Ex J S ws → S (Ow Oc d' σ) H' → R J H'
structure DI (X : Cx) (Y : Yx) (pu : Bool) (tg e : Expr) (m : M (List W)) : Prop where
  pi : ∃ wi, PI X tg e wi ∧ ∀ σ H R, tI X Y pu m σ H R → wi σ H R
section
variable {X : Cx} {Y : Yx} {tg : Expr}
theorem wk_list {K : PySem.W.Frag} {Ex : Addr → Nat → Prop} {a : Addr} {ws : List W} : Wk K Ex (Itl K a) (fun O H => ∃ xs, LAt K O H a xs ∧ RpA K Ex O H xs ws) ws where
  keep := fun O H O' H' k ⟨xs, l, r⟩ => ⟨xs, l.mono k, r.mono k fun _ _ z => z⟩
  go := fun O H i ⟨xs, l, r⟩ hi => by
    have : i < xs.length := by rw [r.length]; exact hi
    exact ⟨xs, xs[i], l.sq, List.getElem?_eq_getElem this⟩
  yld := fun O H i x H' _ ⟨xs, l, r⟩ ⟨e, y⟩ => by
    subst e
    refine ⟨.refl _, fun w hw => ?_⟩
    obtain ⟨v, hv, rv⟩ := r.get hw
    rw [y xs l.sq] at hv
    cases hv
    exact rv
  stop := fun O H i ⟨xs, l, r⟩ hi => ⟨xs, l.sq, by rw [r.length]; exact hi⟩
theorem wk_tup {K : PySem.W.Frag} {Ex : Addr → Nat → Prop} {a : Addr} {ws : List W} : Wk K Ex (Itt K a) (fun O H => ∃ xs, TAt K Ex O H a xs ∧ RpA K Ex O H xs ws) ws where
  keep := fun O H O' H' k ⟨xs, l, r⟩ => ⟨xs, l.mono k (fun _ _ z => z), r.mono k fun _ _ z => z⟩
  go := fun O H i ⟨xs, l, r⟩ hi => by
    have : i < xs.length := by rw [r.length]; exact hi
    exact ⟨xs, xs[i], l.sq, List.getElem?_eq_getElem this⟩
  yld := fun O H i x H' _ ⟨xs, l, r⟩ ⟨e, y⟩ => by
    subst e
    refine ⟨.refl _, fun w hw => ?_⟩
    obtain ⟨v, hv, rv⟩ := r.get hw
    rw [y xs l.sq] at hv
    cases hv
    exact rv
  stop := fun O H i ⟨xs, l, r⟩ hi => ⟨xs, l.sq, by rw [r.length]; exact hi⟩
def rangeW (lo : Int) (n : Nat) : List W := (List.range n).map fun (i : Nat) => PyData.int (lo + (i : Int))
theorem rangeW_length (lo : Int) (n : Nat) : (rangeW lo n).length = n := by unfold rangeW; simp
theorem rangeW_get {lo : Int} {n i : Nat} {w : W} (h : (rangeW lo n)[i]? = some w) : w = .int (lo + (i : Int)) := by
  unfold rangeW at h
  rw [List.getElem?_map] at h
  cases q : (List.range n)[i]? with
  | none => rw [q] at h; cases h
  | some j =>
    rw [q] at h
    obtain ⟨hj, e⟩ := List.getElem?_eq_some_iff.mp q
    rw [List.getElem_range] at e
    subst e
    exact (Option.some.inj h).symm
theorem wk_range {K : PySem.W.Frag} {Ex : Addr → Nat → Prop} {lo : Int} {n : Nat} : Wk K Ex (Itr lo n) (fun _ _ => True) (rangeW lo n) where
  keep := fun _ _ _ _ _ _ => trivial
  go := fun O H i _ hi => by rw [rangeW_length] at hi; exact hi
  yld := fun O H i x H' _ _ ⟨e, y⟩ => by
    subst e
    refine ⟨.refl _, fun w hw => ?_⟩
    rw [rangeW_get hw, y]
    exact .int _
  stop := fun O H i _ hi => by rw [rangeW_length] at hi; exact hi
def listOf? : W → Option (List W)
  | .list ws => some ws
  | _ => none
def tupOf? : W → Option (List W)
  | .tuple ws => some ws
  | _ => none
def mItL (a : M W) : M (List W) := fun d => (a d).bind fun w d1 => ofOpt (listOf? w) d1
def mItT (a : M W) : M (List W) := fun d => (a d).bind fun w d1 => ofOpt (tupOf? w) d1
theorem di_list {pu : Bool} {e : Expr} {m : M W} (h : DE X Y pu e m) : DI X Y pu tg e (mItL m) := by
  refine ⟨_, pi_list h.pe, fun σ H R h => ?_⟩
  obtain ⟨Oc, d, rs, h⟩ := h
  refine ⟨Oc, d, rs, (Po.bind1 h).imp fun w d1 H1 g1 h1 v r => ?_⟩
  obtain ⟨ws, ew, k⟩ := Po.opt h1
  cases r with
  | lst l r =>
    cases ew
    exact ⟨_, rfl, ⟨_, l.sq⟩, k H1 (.refl g1.rs) _ _ wk_list ⟨_, l, r⟩⟩
  | _ => cases ew
theorem di_tup {pu : Bool} {e : Expr} {m : M W} (h : DE X Y pu e m) : DI X Y pu tg e (mItT m) := by
  refine ⟨_, pi_tup h.pe, fun σ H R h => ?_⟩
  obtain ⟨Oc, d, rs, h⟩ := h
  refine ⟨Oc, d, rs, (Po.bind1 h).imp fun w d1 H1 g1 h1 v r => ?_⟩
  obtain ⟨ws, ew, k⟩ := Po.opt h1
  cases r with
  | tup l r =>
    cases ew
    exact ⟨_, rfl, ⟨_, l.sq⟩, k H1 (.refl g1.rs) _ _ wk_tup ⟨_, l, r⟩⟩
  | _ => cases ew
noncomputable def small62 (i : Int) : Bool := cdec (-4611686018427387904 ≤ i ∧ i < 4611686018427387904)
theorem small62_of {i : Int} (h : small62 i = true) : -(2 ^ 62) ≤ i ∧ i < 2 ^ 62 := by
  have h := cdec_iff.mp h
  omega
theorem small62_mk {i : Int} (h : -4611686018427387904 ≤ i) (h2 : i < 4611686018427387904) : small62 i = true := cdec_iff.mpr ⟨h, h2⟩
noncomputable def range1? : List W → Option (List W)
  | [.int j] => if small62 j = true then some (rangeW 0 j.toNat) else none
  | _ => none
noncomputable def range2? : List W → Option (List W)
  | [.int i, .int j] => if (small62 i && small62 j) = true then some (rangeW i (j - i).toNat) else none
  | _ => none
noncomputable def mRng1 (a : M (List W)) : M (List W) := fun d => (a d).bind fun w d1 => ofOpt (range1? w) d1
noncomputable def mRng2 (a : M (List W)) : M (List W) := fun d => (a d).bind fun w d1 => ofOpt (range2? w) d1
theorem range1_some {w u : List W} (h : range1? w = some u) : ∃ j : Int, w = [.int j] ∧ -(2 ^ 62) ≤ j ∧ j < 2 ^ 62 ∧ u = rangeW 0 j.toNat := by
  unfold range1? at h
  split at h
  · split at h
    · rename_i z
      cases h
      exact ⟨_, rfl, (small62_of z).1, (small62_of z).2, rfl⟩
    · cases h
  · cases h
theorem range2_some {w u : List W} (h : range2? w = some u) : ∃ i j : Int, w = [.int i, .int j] ∧ (-(2 ^ 62) ≤ i ∧ i < 2 ^ 62 ∧ -(2 ^ 62) ≤ j ∧ j < 2 ^ 62) ∧ u = rangeW i (j - i).toNat := by
  unfold range2? at h
  split at h
  · split at h
    · rename_i z
      cases h
      rw [Bool.and_eq_true] at z
      exact ⟨_, _, rfl, ⟨(small62_of z.1).1, (small62_of z.1).2, (small62_of z.2).1, (small62_of z.2).2⟩, rfl⟩
    · cases h
  · cases h
theorem rp_int {K : PySem.W.Frag} {Ex : Addr → Nat → Prop} {O : Addr → Prop} {H : Hp} {v : V} {i : Int} (r : Rp K Ex O H v (.int i)) : v = .int i := by cases r; rfl
theorem rpA1 {K : PySem.W.Frag} {Ex : Addr → Nat → Prop} {O : Addr → Prop} {H : Hp} {vs : List V} {a : W} (r : RpA K Ex O H vs [a]) : ∃ v, vs = [v] ∧ Rp K Ex O H v a := by
  cases r with
  | cons x y => cases y; exact ⟨_, rfl, x⟩
theorem rpA2 {K : PySem.W.Frag} {Ex : Addr → Nat → Prop} {O : Addr → Prop} {H : Hp} {vs : List V} {a b : W} (r : RpA K Ex O H vs [a, b]) : ∃ v u, vs = [v, u] ∧ Rp K Ex O H v a ∧ Rp K Ex O H u b := by
  cases r with
  | cons x y =>
    obtain ⟨u, rfl, r⟩ := rpA1 y
    exact ⟨_, _, rfl, x, r⟩
theorem di_range1 {pu : Bool} {a : Expr} {p pos : Pos} {m : M (List W)} (hm : X.mg "range" = none) (ha : DL X Y pu [a] m) (hg : Gl X "range" := by rfl) (hs : starEach [a] X.env = [(false, eval a X.env)] := by rfl) : DI X Y pu tg (.Call (.Name "range" p) [a] [] pos) (mRng1 m) := by
  refine ⟨_, pi_range1 hg hm ha.pa hs, fun σ H R h => ?_⟩
  obtain ⟨Oc, d, rs, h⟩ := h
  refine ⟨Oc, d, rs, (Po.bind1 h).imp fun w d1 H1 g1 h1 v r => ?_⟩
  obtain ⟨ws, ew, k⟩ := Po.opt h1
  obtain ⟨j, rfl, b1, b2, rfl⟩ := range1_some ew
  obtain ⟨u, rfl, r1⟩ := rpA1 r
  exact ⟨j, by rw [rp_int r1], b1, b2, k H1 (.refl g1.rs) _ _ wk_range trivial⟩
theorem di_range2 {pu : Bool} {a b : Expr} {p pos : Pos} {m : M (List W)} (hm : X.mg "range" = none) (ha : DL X Y pu [a, b] m) (hg : Gl X "range" := by rfl) (hs : starEach [a, b] X.env = [(false, eval a X.env), (false, eval b X.env)] := by rfl) (hs2 : starEach [b] X.env = [(false, eval b X.env)] := by rfl) :
    DI X Y pu tg (.Call (.Name "range" p) [a, b] [] pos) (mRng2 m) := by
  refine ⟨_, pi_range2 hg hm ha.pa hs hs2, fun σ H R h => ?_⟩
  obtain ⟨Oc, d, rs, h⟩ := h
  refine ⟨Oc, d, rs, (Po.bind1 h).imp fun w d1 H1 g1 h1 v r => ?_⟩
  obtain ⟨ws, ew, k⟩ := Po.opt h1
  obtain ⟨i, j, rfl, b1, rfl⟩ := range2_some ew
  obtain ⟨u, u2, rfl, r1, r2⟩ := rpA2 r
  exact ⟨i, j, by rw [rp_int r1, rp_int r2], b1, k H1 (.refl g1.rs) _ _ wk_range trivial⟩
end

/-! ### for -/
def forD (g : GW) (body : MS) : List W → MS
  | [], d => .next d
  | w :: ws, d => match g w d with
    | none => .bad
    | some d1 => match body d1 with
      | .next d2 => forD g body ws d2
      | .cont d2 => forD g body ws d2
      | .brk d2 => .next d2
      | .ret r d2 => .ret r d2
      | .exc c d2 => .exc c d2
      | .bad => .bad
def mFor (it : M (List W)) (g : GW) (body : MS) : MS := fun d => (it d).toS fun ws d1 => forD g body ws d1
section
variable {X : Cx} {Y : Yx}
theorem ds_for {pu : Bool} {tg iter : Expr} {body : List Stmt} {pos : Pos} {mi : M (List W)} {g : GW} {is : List Nat} {b : MS} (hp : PassesOwn (model X.prog X.w) X.A X.env X.xe) (hc : X.calm = true) (hi : DI X Y pu tg iter mi) (hg : DG X Y tg g is) (hb : DSs X Y body b)
    (hs : ∀ x, foldedSetIterable iter X.env x = pure x := by intro _; rfl) : DS X Y (.For tg iter body [] pos) (mFor mi g b) := by
  obtain ⟨wi, pi, hwi⟩ := hi.pi
  refine ⟨ps_weak (ps_for hp hc pi hg.pg hb.ps hs) fun D σ H h => ?_⟩
  obtain ⟨Oc, d, rs, h⟩ := h
  refine hwi σ H _ ⟨Oc, d, rs, (Po.toS h).imp fun ws d1 H1 g1 h1 J S wk hS => ?_⟩
  refine ⟨fun i m σ' H' => m = ws.length - i ∧ i ≤ ws.length ∧ ∃ d', RS X.K Y.Ex Oc H' d' σ' ∧ S (Ow Oc d' σ') H' ∧ PoS X Y Oc d' σ' H' (forD g b (ws.drop i) d') D, ⟨ws.length, by simp, Nat.zero_le _, d1, g1.rs, hS, h1⟩, ?_⟩
  rintro i m σ' H' ⟨rfl, hi, d', rs', hS', h'⟩
  by_cases lt : i < ws.length
  · refine .inr ⟨wk.go _ _ _ hS' lt, fun σ2 H2 => ∃ d2, RS X.K Y.Ex Oc H2 d2 σ2 ∧ S (Ow Oc d2 σ2) H2 ∧ PoS X Y Oc d2 σ2 H2 (forD g b (ws.drop (i + 1)) d2) D, fun σ2 H2 ⟨d2, a1, a2, a3⟩ => ⟨ws.length - (i + 1), by omega, rfl, lt, d2, a1, a2, a3⟩, fun x H2 y => ?_⟩
    obtain ⟨sm, hr⟩ := wk.yld (Ow Oc d' σ') H' i x H2 (fun a z => rs'.there z) hS' y
    have rx := hr _ (List.getElem?_eq_getElem lt)
    have go2 : GoS X.K Y.Ex Oc d' σ' H' d' σ' H2 := (Go.same (pu := true) rs' sm).toS
    have hS2 := wk.keep _ _ _ _ go2.ke hS'
    have h2 := PoS.from go2 h'
    rw [List.drop_eq_getElem_cons lt] at h2
    unfold forD at h2
    cases q : g ws[i] d' with
    | none => rw [q] at h2; exact h2.elim
    | some d1' =>
      rw [q] at h2
      refine ⟨Oc, d', _, d1', go2.rs, rx, q, fun σ3 g3 _ => ⟨Oc, d1', g3.rs, ?_⟩⟩
      have h3 := PoS.from g3 h2
      dsimp only at h3
      have hS3 := wk.keep _ _ _ _ g3.ke hS2
      cases qb : b d1' with
      | next d2 => rw [qb] at h3; exact fun σ4 H4 g4 => ⟨d2, g4.rs, wk.keep _ _ _ _ g4.ke hS3, PoS.from g4 h3⟩
      | cont d2 => rw [qb] at h3; exact fun σ4 H4 g4 => ⟨d2, g4.rs, wk.keep _ _ _ _ g4.ke hS3, PoS.from g4 h3⟩
      | brk d2 => rw [qb] at h3; exact h3
      | ret r d2 => rw [qb] at h3; cases r <;> exact h3
      | exc c d2 => rw [qb] at h3; exact h3
      | bad => rw [qb] at h3; exact h3
  · have e : i = ws.length := by omega
    subst e
    rw [List.drop_length] at h'
    exact .inl ⟨wk.stop _ _ _ hS' (Nat.le_refl _), h' σ' H' (.refl rs')⟩

/-! ### while -/
def whileF (t : M Bool) (b : MS) : Nat → SD → Option SOut
  | 0, _ => none
  | n + 1, d => match t d with
    | .ok true d1 => match b d1 with
      | .next d2 => whileF t b n d2
      | .cont d2 => whileF t b n d2
      | .brk d2 => some (.next d2)
      | .ret r d2 => some (.ret r d2)
      | .exc c d2 => some (.exc c d2)
      | .bad => some .bad
    | .ok false d1 => some (.next d1)
    | .exc c d1 => some (.exc c d1)
    | .bad => some .bad
open Classical in
noncomputable def mWhile (t : M Bool) (b : MS) : MS := fun d => if h : ∃ n o, whileF t b n d = some o then h.choose_spec.choose else .bad
theorem whileF_mono {t : M Bool} {b : MS} {o : SOut} : ∀ {n : Nat} {d : SD} (m : Nat), whileF t b n d = some o → whileF t b (n + m) d = some o
  | 0, _, _, h => by cases h
  | n + 1, d, m, h => by
    rw [show n + 1 + m = (n + m) + 1 by omega]
    unfold whileF at h ⊢
    cases q : t d with
    | bad => rw [q] at h; exact h
    | exc c d1 => rw [q] at h; exact h
    | ok k d1 =>
      rw [q] at h
      cases k with
      | false => exact h
      | true =>
        dsimp only at h ⊢
        cases qb : b d1 with
        | next d2 => rw [qb] at h; exact whileF_mono m h
        | cont d2 => rw [qb] at h; exact whileF_mono m h
        | brk d2 => rw [qb] at h; exact h
        | ret r d2 => rw [qb] at h; exact h
        | exc c d2 => rw [qb] at h; exact h
        | bad => rw [qb] at h; exact h
theorem mWhile_eq {t : M Bool} {b : MS} {o : SOut} {n : Nat} {d : SD} (h : whileF t b n d = some o) : mWhile t b d = o := by
  unfold mWhile
  have hh : ∃ n o, whileF t b n d = some o := ⟨n, o, h⟩
  rw [dif_pos hh]
  have e := hh.choose_spec.choose_spec
  have e1 := whileF_mono n e
  have e2 := whileF_mono hh.choose h
  rw [Nat.add_comm] at e2
  exact Option.some.inj (e1.symm.trans e2)
theorem ds_while {pu : Bool} {c : Expr} {body : List Stmt} {pos : Pos} {t : M Bool} {b : MS} (hp : PassesOwn (model X.prog X.w) X.A X.env X.xe) (hc : DT X Y pu c t) (hb : DSs X Y body b) : DS X Y (.While c body [] pos) (mWhile t b) := by
  refine ⟨ps_weak (ps_while hp hc.pt hb.ps) fun D σ H h => ?_⟩
  obtain ⟨Oc, d, rs, h⟩ := h
  by_cases hh : ∃ n o, whileF t b n d = some o
  · obtain ⟨n, o, hn⟩ := hh
    rw [mWhile_eq hn] at h
    refine ⟨fun m σ' H' => ∃ d', RS X.K Y.Ex Oc H' d' σ' ∧ ∃ o, whileF t b m d' = some o ∧ PoS X Y Oc d' σ' H' o D, ⟨n, d, rs, o, hn, h⟩, ?_⟩
    rintro m σ' H' ⟨d', rs', o', hm, h'⟩
    cases m with
    | zero => cases hm
    | succ m =>
      unfold whileF at hm
      refine ⟨Oc, d', rs', ?_⟩
      cases q : t d' with
      | bad => rw [q] at hm; cases hm; exact h'
      | exc c d1 => rw [q] at hm; cases hm; exact fun H1 g1 => h' σ' H1 g1.toS
      | ok k d1 =>
        rw [q] at hm
        intro H1 g1 rs1
        have h1 := PoS.from g1.toS h'
        cases k with
        | false => cases hm; exact iteF (h1 σ' H1 (.refl rs1))
        | true =>
          dsimp only at hm
          refine iteT ⟨fun σ2 H2 => ∃ d2, RS X.K Y.Ex Oc H2 d2 σ2 ∧ ∃ o, whileF t b m d2 = some o ∧ PoS X Y Oc d2 σ2 H2 o D, fun σ2 H2 z => ⟨m, Nat.lt_succ_self _, z⟩, Oc, d1, rs1, ?_⟩
          cases qb : b d1 with
          | next d2 => rw [qb] at hm; exact fun σ4 H4 g4 => ⟨d2, g4.rs, o', hm, PoS.from g4 h1⟩
          | cont d2 => rw [qb] at hm; exact fun σ4 H4 g4 => ⟨d2, g4.rs, o', hm, PoS.from g4 h1⟩
          | brk d2 => rw [qb] at hm; cases hm; exact h1
          | ret r d2 => rw [qb] at hm; cases hm; cases r <;> exact h1
          | exc c d2 => rw [qb] at hm; cases hm; exact h1
          | bad => rw [qb] at hm; cases hm; exact h1
  · unfold mWhile at h
    rw [dif_neg hh] at h
    exact h.elim
end
end Qd
end
section
set_option Elab.async false
set_option linter.all false
set_option maxRecDepth 100000
/-! New objects; list comprehensions by their data. -/
namespace Qd
open PySem PySem.Spec PyProof.Rows L2

section
variable {K : PySem.W.Frag} {Ex : Addr → Nat → Prop} {Oc : Addr → Prop} {H H' : Hp} {d d' : SD} {σ : St} {p : Addr}
theorem same_new {o : HO} (np : H p = none) : Same H (upd H p o) := fun b x e => by rw [upd_ne (ne_of_none e np)]; exact e
theorem RS.nOw (rs : RS K Ex Oc H d σ) (np : H p = none) : ¬ Ow Oc d σ p := fun q => by
  obtain ⟨o, e⟩ := rs.there q
  rw [np] at e; cases e
/-- a place that was free, before -/
theorem Go.free {pu : Bool} (g : Go K Ex Oc pu σ d H d' H') (np : H' p = none) : H p = none := by
  cases q : H p with
  | none => rfl
  | some o =>
    by_cases m : Mine d σ p
    · obtain ⟨o', e⟩ := g.rs.there (.inr (g.sim.mine.mpr m))
      rw [np] at e; cases e
    · rw [g.fr p o q m] at np; cases np
theorem ow_with {a : Addr} : Ow (With Oc p) d σ a ↔ Ow Oc d σ a ∨ a = p := by
  constructor
  · rintro ((h | h) | h)
    · exact .inl (.inl h)
    · exact .inr h
    · exact .inl (.inr h)
  · rintro ((h | h) | h)
    · exact .inl (.inl h)
    · exact .inr h
    · exact .inl (.inr h)
theorem ke_with : Ke (Ow (With Oc p) d σ) H (Ow Oc d σ) H := fun a u n e => ⟨fun z => n (ow_with.mpr (.inl z)), e⟩
theorem ke_new {o : HO} (np : H p = none) : Ke (Ow Oc d σ) H (Ow (With Oc p) d σ) (upd H p o) := fun a u n e => by
  have ne : a ≠ p := ne_of_none e np
  exact ⟨fun z => (ow_with.mp z).elim n ne, by rw [upd_ne ne]; exact e⟩
theorem Thr.new {o : HO} (t : Thr Ex Oc H) (np : H p = none) : Thr Ex (With Oc p) (upd H p o) := ⟨fun a h => by
    rcases h with h | h
    · obtain ⟨u, e⟩ := t.at_ a h
      have ne : a ≠ p := ne_of_none e np
      exact ⟨u, by rw [upd_ne ne]; exact e⟩
    · rw [h]; exact ⟨o, upd_same⟩, fun a h => by
    obtain ⟨e, n⟩ := t.tb a h
    have ne : a ≠ p := ne_of_none e np
    exact ⟨by rw [upd_ne ne]; exact e, fun z => z.elim n ne⟩⟩
theorem Thr.poke {o : HO} (t : Thr Ex Oc H) (hp : Oc p) : Thr Ex Oc (upd H p o) := ⟨fun a h => by
    by_cases e : a = p
    · rw [e]; exact ⟨o, upd_same⟩
    · rw [upd_ne e]; exact t.at_ a h, fun a h => by
    obtain ⟨e, n⟩ := t.tb a h
    exact ⟨by rw [upd_ne fun z => n (by rw [z]; exact hp)]; exact e, n⟩⟩
/-- a new object, not yet anybody's -/
theorem RS.withNew {o : HO} (rs : RS K Ex Oc H d σ) (np : H p = none) : RS K Ex (With Oc p) (upd H p o) d σ := by
  have nw := rs.nOw np
  refine ⟨rs.len, fun i w h => ?_, fun i s w h1 h2 => ?_, rs.sep, rs.oc.new np⟩
  · obtain ⟨v, e, r⟩ := rs.val i w h
    exact ⟨v, e, r.mono (ke_new np) fun _ _ z => z⟩
  · obtain ⟨q, e, n, ob⟩ := rs.own i s w h1 h2
    have ne : q ≠ p := fun z => nw (.inr ⟨i, s, w, h1, h2, by rw [← z]; exact e⟩)
    exact ⟨q, e, fun z => z.elim n ne, ob.mono (ke_new np) (fun _ _ z => z) (upd_ne ne)⟩
/-- an object of somebody else's is written -/
theorem RS.poke {o : HO} (rs : RS K Ex Oc H d σ) (hp : Oc p) : RS K Ex Oc (upd H p o) d σ := by
  have ke : Ke (Ow Oc d σ) H (Ow Oc d σ) (upd H p o) := fun a u n e => ⟨n, by rw [upd_ne fun z => n (.inl (by rw [z]; exact hp))]; exact e⟩
  refine ⟨rs.len, fun i w h => ?_, fun i s w h1 h2 => ?_, rs.sep, rs.oc.poke hp⟩
  · obtain ⟨v, e, r⟩ := rs.val i w h
    exact ⟨v, e, r.mono ke fun _ _ z => z⟩
  · obtain ⟨q, e, n, ob⟩ := rs.own i s w h1 h2
    exact ⟨q, e, n, ob.mono ke (fun _ _ z => z) (upd_ne fun z => n (by rw [z]; exact hp))⟩
theorem RS.less (rs : RS K Ex (With Oc p) H d σ) : RS K Ex Oc H d σ := by
  refine ⟨rs.len, fun i w h => ?_, fun i s w h1 h2 => ?_, rs.sep, rs.oc.sub fun a h => .inl h⟩
  · obtain ⟨v, e, r⟩ := rs.val i w h
    exact ⟨v, e, r.mono ke_with fun _ _ z => z⟩
  · obtain ⟨q, e, n, ob⟩ := rs.own i s w h1 h2
    exact ⟨q, e, fun z => n (.inl z), ob.mono ke_with (fun _ _ z => z) rfl⟩
end

/-! ### expressions whose value is a new object that nobody else holds -/
def tF (X : Cx) (Y : Yx) (pu : Bool) (m : M W) : TE := fun σ H Q => ∃ Oc d, RS X.K Y.Ex Oc H d σ ∧ Po X Y pu Oc σ d H (m d) fun w d' H' => ∀ p, H p = none → RS X.K Y.Ex (With Oc p) H' d' σ → Ob X.K Y.Ex (Ow (With Oc p) d' σ) H' p w → Q (.ref p) H'
structure DF (X : Cx) (Y : Yx) (pu : Bool) (e : Expr) (m : M W) : Prop where
  pe : PE X e (tF X Y pu m)
theorem RS.nMine {K : PySem.W.Frag} {Ex : Addr → Nat → Prop} {Oc : Addr → Prop} {H : Hp} {d : SD} {σ : St} {p : Addr} (rs : RS K Ex Oc H d σ) (h : Oc p) : ¬ Mine d σ p := fun ⟨i, s, w, h1, h2, h3⟩ => by
  obtain ⟨q, e, n, _⟩ := rs.own i s w h1 h2
  rw [h3] at e; cases e
  exact n h
section
variable {X : Cx} {Y : Yx}
theorem tF_of {pu : Bool} {m : M W} (σ : St) (H : Hp) (Q : VK) (h : tE X Y pu m σ H Q) : tF X Y pu m σ H Q := by
  obtain ⟨Oc, d, rs, h⟩ := h
  refine ⟨Oc, d, rs, h.imp fun w d1 H1 g1 k p np rs1 ob => k _ ?_⟩
  refine (ob.mono ke_with (fun _ _ z => z) rfl).rp fun z => ?_
  rcases z with z | z
  · obtain ⟨o, e⟩ := rs.oc.at_ p z
    rw [np] at e; cases e
  · exact rs1.nMine (.inr rfl) z
theorem DF.e {pu : Bool} {e : Expr} {m : M W} (h : DF X Y pu e m) : DE X Y pu e m := ⟨pe_weak h.pe tF_of⟩
def mLst (a : M (List W)) : M W := fun d => (a d).bind fun ws d1 => if ws.length ≤ sizeLine then .ok (.list ws) d1 else .bad
def mTup (a : M (List W)) : M W := fun d => (a d).bind fun ws d1 => if ws.length ≤ sizeLine then .ok (.tuple ws) d1 else .bad
theorem d_tup {pu : Bool} {es : List Expr} {j : Nat} {pos : Pos} {a : M (List W)} (h : DL X Y pu es a) : DE X Y pu (.Tuple es j pos) (mTup a) := ⟨by
  refine pe_weak (pe_tup h.pa) fun σ H Q h => ?_
  obtain ⟨Oc, d, rs, h⟩ := h
  refine ⟨Oc, d, rs, (Po.bind1 h).imp fun ws d1 H1 g1 h1 v r => ?_⟩
  by_cases z : ws.length ≤ sizeLine
  · rw [if_pos z] at h1
    refine ⟨by rw [r.length]; exact z, fun p np => ?_⟩
    have sm : Same H1 (upd H1 p (.tup v)) := same_new np
    exact h1 _ (.same g1.rs sm) _ (.tup (.inl ⟨g1.rs.nOw np, upd_same⟩) (r.mono (fun a u n e => ⟨n, sm a u e⟩) fun _ _ z => z))
  · rw [if_neg z] at h1; exact h1.elim⟩
theorem df_lst {pu : Bool} {es : List Expr} {pos : Pos} {a : M (List W)} (h : DL X Y pu es a) : DF X Y pu (.List es pos) (mLst a) := ⟨by
  refine pe_weak (pe_lst h.pa) fun σ H Q h => ?_
  obtain ⟨Oc, d, rs, h⟩ := h
  refine ⟨Oc, d, rs, (Po.bind1 h).imp fun ws d1 H1 g1 h1 v r => ?_⟩
  by_cases z : ws.length ≤ sizeLine
  · rw [if_pos z] at h1
    refine ⟨by rw [r.length]; exact z, fun p np => ?_⟩
    exact h1 _ (.same g1.rs (same_new np)) p (g1.free np) (g1.rs.withNew np) ⟨v, upd_same, r.mono (ke_new np) fun _ _ z => z⟩
  · rw [if_neg z] at h1; exact h1.elim⟩
end
/-- name = a new object of its own -/
def storeOwn (i : Nat) (w : W) (d : SD) : Option SD := match d[i]? with
  | some (some (.par _)) => none
  | some _ => some (d.set i (some (.own w)))
  | none => none
def mAsgOwn (i : Nat) (a : M W) : MS := fun d => (a d).toS fun w d1 => sOpt (storeOwn i w d1)
theorem storeOwn_lt {i : Nat} {w : W} {d d' : SD} (h : storeOwn i w d = some d') : i < d.length ∧ d' = d.set i (some (.own w)) ∧ ∀ u, d[i]? ≠ some (some (.par u)) := by
  unfold storeOwn at h
  cases q : d[i]? with
  | none => rw [q] at h; cases h
  | some x =>
    obtain ⟨lt, _⟩ := List.getElem?_eq_some_iff.mp q
    rw [q] at h
    rcases x with _ | (w' | w' | w')
    · exact ⟨lt, (Option.some.inj h).symm, fun u e => nomatch e⟩
    · exact ⟨lt, (Option.some.inj h).symm, fun u e => nomatch e⟩
    · exact ⟨lt, (Option.some.inj h).symm, fun u e => nomatch e⟩
    · cases h
theorem storeOwn_go {K : PySem.W.Frag} {Ex : Addr → Nat → Prop} {Oc : Addr → Prop} {H : Hp} {d d' : SD} {σ : St} {i : Nat} {w : W} {p : Addr} (no : ¬ Oc p) (rs : RS K Ex (With Oc p) H d σ) (ob : Ob K Ex (Ow (With Oc p) d σ) H p w) (h : storeOwn i w d = some d') :
    RS K Ex Oc H d' (σ.set i (some (.ref p))) ∧ (∀ a, Mine d' (σ.set i (some (.ref p))) a → Mine d σ a ∨ a = p) ∧ ∀ (j : Nat) (u : W), d[j]? = some (some (.par u)) → (∃ w', d'[j]? = some (some (.par w'))) ∧ (σ.set i (some (V.ref p)))[j]? = σ[j]? := by
  obtain ⟨lt, rfl, npar⟩ := storeOwn_lt h
  have ltσ : i < σ.length := by rw [← rs.len]; exact lt
  have mi : ∀ a, Mine (d.set i (some (.own w))) (σ.set i (some (.ref p))) a → Mine d σ a ∨ a = p := by
    rintro a ⟨j, s, u, h1, h2, h3⟩
    by_cases e : i = j
    · subst e
      rw [List.getElem?_set_self ltσ] at h3
      cases h3; exact .inr rfl
    · rw [List.getElem?_set_ne e] at h1 h3
      exact .inl ⟨j, s, u, h1, h2, h3⟩
  have ke : Ke (Ow (With Oc p) d σ) H (Ow Oc (d.set i (some (.own w))) (σ.set i (some (.ref p)))) H := fun a u n e => ⟨fun z => n (by
    rcases z with z | z
    · exact .inl (.inl z)
    · rcases mi a z with z | z
      · exact .inr z
      · exact .inl (.inr z)), e⟩
  have np : ∀ (j : Nat) (s : Slot) (u : W), d[j]? = some (some s) → Slot.mine? s = some u → σ[j]? ≠ some (some (.ref p)) := fun j s u e1 e2 e3 => rs.nMine (.inr rfl) ⟨j, s, u, e1, e2, e3⟩
  refine ⟨⟨by rw [List.length_set, List.length_set]; exact rs.len, fun j u e => ?_, fun j s u e1 e2 => ?_, fun j k s t u u' q ne e1 e2 e3 e4 e5 => ?_, rs.oc.sub fun a h => .inl h⟩, mi, fun j u e => ?_⟩
  · by_cases ej : i = j
    · subst ej
      rw [List.getElem?_set_self lt] at e
      cases e
    · rw [List.getElem?_set_ne ej] at e
      obtain ⟨v, e', r⟩ := rs.val j u e
      exact ⟨v, by rw [List.getElem?_set_ne ej]; exact e', r.mono ke fun _ _ z => z⟩
  · by_cases ej : i = j
    · subst ej
      rw [List.getElem?_set_self lt] at e1
      cases e1; cases e2
      exact ⟨p, List.getElem?_set_self ltσ, no, ob.mono ke (fun _ _ z => z) rfl⟩
    · rw [List.getElem?_set_ne ej] at e1
      obtain ⟨q, e', n, ob'⟩ := rs.own j s u e1 e2
      exact ⟨q, by rw [List.getElem?_set_ne ej]; exact e', fun z => n (.inl z), ob'.mono ke (fun _ _ z => z) rfl⟩
  · by_cases ej : i = j
    · subst ej
      rw [List.getElem?_set_self ltσ] at e5
      cases e5
      have ek : i ≠ k := ne
      rw [List.getElem?_set_ne ek] at e3 ⊢
      exact np k t u' e3 e4
    · rw [List.getElem?_set_ne ej] at e1 e5
      by_cases ek : i = k
      · subst ek
        rw [List.getElem?_set_self ltσ]
        intro z
        cases z
        exact np j s u e1 e2 e5
      · rw [List.getElem?_set_ne ek] at e3 ⊢
        exact rs.sep j k s t u u' q ne e1 e2 e3 e4 e5
  · have ne : i ≠ j := fun z => by
      subst z
      exact npar u e
    exact ⟨⟨u, by rw [List.getElem?_set_ne ne]; exact e⟩, by rw [List.getElem?_set_ne ne]⟩
theorem ds_ofF {X : Cx} {Y : Yx} {pu : Bool} {i : Nat} {st : Stmt} {m : M W} (hp : PS X st (tAsg (tF X Y pu m) (gName i))) : DS X Y st (mAsgOwn i m) := by
  refine ⟨ps_weak hp fun D σ H h => ?_⟩
  obtain ⟨Oc, d, rs, h⟩ := h
  cases q0 : m d with
  | bad => unfold mAsgOwn at h; rw [q0] at h; exact h.elim
  | exc c d1 =>
    unfold mAsgOwn at h; rw [q0] at h
    refine ⟨Oc, d, rs, ?_⟩
    rw [q0]
    exact fun H1 g1 => h σ H1 g1.toS
  | ok w d1 =>
    unfold mAsgOwn at h; rw [q0] at h
    refine ⟨Oc, d, rs, ?_⟩
    rw [q0]
    intro H1 g1 p np rs1 ob
    have h : PoS X Y Oc d σ H (sOpt (storeOwn i w d1)) D := h
    cases q : storeOwn i w d1 with
    | none => rw [q] at h; exact h.elim
    | some d2 =>
      rw [q] at h
      have no : ¬ Oc p := fun z => by
        obtain ⟨o, e⟩ := rs.oc.at_ p z
        rw [np] at e; cases e
      obtain ⟨a1, a2, a3⟩ := storeOwn_go no rs1 ob q
      refine h _ H1 ⟨a1, g1.fr, fun a z => ?_, fun j u e => ?_⟩
      · rcases a2 a z with z | z
        · exact .inl (g1.sim.mine.mp z)
        · rw [z]; exact .inr np
      · obtain ⟨⟨w', e'⟩, _⟩ := g1.toS.par j u e
        obtain ⟨b1, b2⟩ := a3 j w' e'
        exact ⟨b1, b2⟩
theorem ds_setOwn {X : Cx} {Y : Yx} {pu : Bool} {i : Nat} {x : Str} {e : Expr} {pos pos' : Pos} {m : M W} (hN : X.N.Nodup) (he : DF X Y pu e m) (hi : X.N[i]? = some x := by rfl) (hx : Loc X.env.scope x := by first | exact .inl rfl | exact .inr rfl) (hs : swapsWith e (some (.Name x pos')) pos.line X.env = pure false := by rfl)
    (hf : X.fn x = true ∨ X.env.scope.names.lookup x = some .local := by first | exact .inl rfl | exact .inr rfl | assumption) : DS X Y (.Assign [.Name x pos'] e pos) (mAsgOwn i m) := ds_ofF (ps_set hN hi hx he.pe hs hf)

/-! ### list comprehensions -/
def wipeD (d : SD) : List Nat → SD
  | [] => d
  | v :: vs => (wipeD d vs).set v none
def backD (d0 : SD) : List Nat → SD → SD
  | [], d => d
  | v :: vs, d => (backD d0 vs d).set v (d0.getD v none)
def cleanD (d : SD) : List Nat → Bool
  | [] => true
  | v :: vs => (match d[v]? with
    | some (some (.own _)) => false
    | some (some (.par _)) => false
    | _ => true) && cleanD d vs
def lcD (vs : List Nat) (g : GW) (t : M Bool) (e : M W) : List W → M (List W)
  | [], d => .ok [] d
  | w :: ws, d => match g w (wipeD d vs) with
    | none => .bad
    | some d1 => (t d1).bind fun b d2 => if b = true then (e d2).bind fun y d3 => (lcD vs g t e ws d3).bind fun ys d4 => .ok (y :: ys) d4 else lcD vs g t e ws d2
def mLc (vs : List Nat) (it : M (List W)) (g : GW) (t : M Bool) (e : M W) : M W := fun d => (it d).bind fun ws d1 => if cleanD d1 vs = true ∧ ws.length ≤ sizeLine then
  (match lcD vs g t e ws d1 with
    | .ok ys d2 => .ok (.list ys) (backD d1 vs d2)
    | _ => .bad) else .bad
theorem wipeD_length (d : SD) : ∀ vs : List Nat, (wipeD d vs).length = d.length
  | [] => rfl
  | v :: vs => by unfold wipeD; rw [List.length_set, wipeD_length d vs]
theorem backD_length (d0 d : SD) : ∀ vs : List Nat, (backD d0 vs d).length = d.length
  | [] => rfl
  | v :: vs => by unfold backD; rw [List.length_set, backD_length d0 d vs]
theorem wipeD_out {d : SD} {j : Nat} : ∀ {vs : List Nat}, j ∉ vs → (wipeD d vs)[j]? = d[j]?
  | [], _ => rfl
  | v :: vs, h => by
    unfold wipeD
    rw [List.getElem?_set_ne fun e => h (by rw [e]; exact List.mem_cons_self)]
    exact wipeD_out fun z => h (List.mem_cons_of_mem _ z)
theorem wipeD_in {d : SD} {j : Nat} : ∀ {vs : List Nat}, j ∈ vs → j < d.length → (wipeD d vs)[j]? = some none
  | [], h, _ => by cases h
  | v :: vs, h, l => by
    unfold wipeD
    by_cases e : v = j
    · subst e
      exact List.getElem?_set_self (by rw [wipeD_length]; exact l)
    · rw [List.getElem?_set_ne e]
      exact wipeD_in ((List.mem_cons.mp h).resolve_left fun z => e z.symm) l
theorem backD_out {d0 d : SD} {j : Nat} : ∀ {vs : List Nat}, j ∉ vs → (backD d0 vs d)[j]? = d[j]?
  | [], _ => rfl
  | v :: vs, h => by
    unfold backD
    rw [List.getElem?_set_ne fun e => h (by rw [e]; exact List.mem_cons_self)]
    exact backD_out fun z => h (List.mem_cons_of_mem _ z)
theorem backD_in {d0 d : SD} {j : Nat} : ∀ {vs : List Nat}, j ∈ vs → j < d.length → d0.length = d.length → (backD d0 vs d)[j]? = d0[j]?
  | [], h, _, _ => by cases h
  | v :: vs, h, l, ll => by
    unfold backD
    by_cases e : v = j
    · subst e
      rw [List.getElem?_set_self (by rw [backD_length]; exact l)]
      have l0 : v < d0.length := by rw [ll]; exact l
      rw [List.getElem?_eq_getElem l0]
      rw [List.getD_eq_getElem?_getD, List.getElem?_eq_getElem l0]
      rfl
    · rw [List.getElem?_set_ne e]
      exact backD_in ((List.mem_cons.mp h).resolve_left fun z => e z.symm) l ll
theorem cleanD_at {d : SD} {j : Nat} {s : Slot} {w : W} (e1 : d[j]? = some (some s)) (e2 : Slot.mine? s = some w) : ∀ {vs : List Nat}, cleanD d vs = true → j ∉ vs
  | [], _ => by simp
  | v :: vs, h => by
    unfold cleanD at h
    rw [Bool.and_eq_true] at h
    intro hm
    rcases List.mem_cons.mp hm with e | hm
    · subst e
      rw [e1] at h
      cases s with
      | val _ => cases e2
      | own _ => exact absurd h.1 (by simp)
      | par _ => exact absurd h.1 (by simp)
    · exact cleanD_at e1 e2 h.2 hm
theorem cleanD_of {d : SD} : ∀ {vs : List Nat}, (∀ j ∈ vs, ∀ s, d[j]? = some (some s) → Slot.mine? s = none) → cleanD d vs = true
  | [], _ => rfl
  | v :: vs, h => by
    unfold cleanD
    rw [cleanD_of fun j hj => h j (List.mem_cons_of_mem _ hj), Bool.and_true]
    have hv := h v List.mem_cons_self
    cases q : d[v]? with
    | none => rfl
    | some x =>
      rcases x with _ | (w | w | w)
      · rfl
      · rfl
      · cases hv _ q
      · cases hv _ q
theorem wipe_in {σ : St} {j : Nat} : ∀ {vs : List Nat}, j ∈ vs → j < σ.length → (wipe σ vs)[j]? = some none
  | [], h, _ => by cases h
  | v :: vs, h, l => by
    unfold wipe
    by_cases e : v = j
    · subst e
      exact List.getElem?_set_self (by rw [wipe_length]; exact l)
    · rw [List.getElem?_set_ne e]
      exact wipe_in ((List.mem_cons.mp h).resolve_left fun z => e z.symm) l
theorem wipe_ext {σ σ' : St} {vs : List Nat} (hl : σ'.length = σ.length) (h : ∀ j, j ∉ vs → σ'[j]? = σ[j]?) : wipe σ' vs = wipe σ vs := by
  refine List.ext_getElem? fun j => ?_
  by_cases m : j ∈ vs
  · by_cases l : j < σ.length
    · rw [wipe_in m l, wipe_in m (by rw [hl]; exact l)]
    · rw [List.getElem?_eq_none (by rw [wipe_length, hl]; omega), List.getElem?_eq_none (by rw [wipe_length]; omega)]
  · rw [wipe_out m, wipe_out m, h j m]
section
variable {K : PySem.W.Frag} {Ex : Addr → Nat → Prop} {Oc : Addr → Prop} {H H' : Hp} {d d' : SD} {σ σ' : St} {vs : List Nat}
theorem mine_wipe (hl : d.length = σ.length) (hc : cleanD d vs = true) {a : Addr} : Mine (wipeD d vs) (wipe σ vs) a ↔ Mine d σ a := by
  constructor
  · rintro ⟨j, s, w, h1, h2, h3⟩
    have m : j ∉ vs := fun m => by
      obtain ⟨lt, _⟩ := List.getElem?_eq_some_iff.mp h1
      rw [wipeD_in m (by rw [wipeD_length] at lt; exact lt)] at h1
      cases h1
    rw [wipeD_out m] at h1
    rw [wipe_out m] at h3
    exact ⟨j, s, w, h1, h2, h3⟩
  · rintro ⟨j, s, w, h1, h2, h3⟩
    have m := cleanD_at h1 h2 hc
    exact ⟨j, s, w, by rw [wipeD_out m]; exact h1, h2, by rw [wipe_out m]; exact h3⟩
theorem RS.wipe (rs : RS K Ex Oc H d σ) (hc : cleanD d vs = true) : RS K Ex Oc H (wipeD d vs) (wipe σ vs) := by
  have ke : Ke (Ow Oc d σ) H (Ow Oc (wipeD d vs) (L2.wipe σ vs)) H := fun a u n e => ⟨fun z => n (z.imp id (mine_wipe rs.len hc).mp), e⟩
  have out : ∀ {j : Nat} {s : Slot}, (wipeD d vs)[j]? = some (some s) → j ∉ vs := fun {j s} e m => by
    obtain ⟨lt, _⟩ := List.getElem?_eq_some_iff.mp e
    rw [wipeD_in m (by rw [wipeD_length] at lt; exact lt)] at e
    cases e
  refine ⟨by rw [wipeD_length, wipe_length]; exact rs.len, fun j u e => ?_, fun j s u e1 e2 => ?_, fun j k s t u u' q ne e1 e2 e3 e4 e5 => ?_, rs.oc⟩
  · have m := out e
    rw [wipeD_out m] at e
    obtain ⟨v, e', r⟩ := rs.val j u e
    exact ⟨v, by rw [wipe_out m]; exact e', r.mono ke fun _ _ z => z⟩
  · have m := out e1
    rw [wipeD_out m] at e1
    obtain ⟨q, e', n, ob⟩ := rs.own j s u e1 e2
    exact ⟨q, by rw [wipe_out m]; exact e', n, ob.mono ke (fun _ _ z => z) rfl⟩
  · have m := out e1
    have m2 := out e3
    rw [wipeD_out m] at e1
    rw [wipe_out m] at e5
    rw [wipeD_out m2] at e3
    rw [wipe_out m2]
    exact rs.sep j k s t u u' q ne e1 e2 e3 e4 e5
end
end Qd
end
section
set_option Elab.async false
set_option linter.all false
set_option maxRecDepth 100000
/-! The rule for a list comprehension. -/
namespace Qd
open PySem PySem.Spec PyProof.Rows L2

structure DTs (X : Cx) (Y : Yx) (pu : Bool) (ifs : List Expr) (m : M Bool) : Prop where
  pts : PTs X ifs (tT X Y pu m)
def mYes : M Bool := fun d => .ok true d
section
variable {X : Cx} {Y : Yx}
theorem pts_weak {e : List Expr} {t t' : TT} (h : PTs X e t) (w : ∀ σ H Q, t' σ H Q → t σ H Q) : PTs X e t' := ⟨fun pins s σ H Q I q => h.run pins s σ H Q I (w σ H Q q)⟩
theorem dts_nil : DTs X Y true [] mYes := ⟨pts_weak pts_nil fun σ H Q h => by
  obtain ⟨Oc, d, rs, h⟩ := h
  exact h H (.refl rs) rs⟩
theorem dts_one {pu : Bool} {c : Expr} {t : M Bool} (h : DT X Y pu c t) : DTs X Y pu [c] t := ⟨pts_one h.pt⟩
end
/-- nothing is raised in a comprehension's block -/
abbrev Yx.blk (Y : Yx) : Yx := { Y with W := fun _ _ _ _ => False }

section
variable {K : PySem.W.Frag} {Ex : Addr → Nat → Prop} {Oc : Addr → Prop}
/-- between two turns: d₁, σ, H₁ ahead of the first; D the new list, acc its data -/
structure LcI (pu : Bool) (K : PySem.W.Frag) (Ex : Addr → Nat → Prop) (Oc : Addr → Prop) (S : (Addr → Prop) → Hp → Prop) (vs : List Nat) (d₁ : SD) (σ : St) (H₁ : Hp) (D : Addr) (acc : List W) (d : SD) (H : Hp) : Prop where
  rs : RS K Ex (With Oc D) H (wipeD d vs) (wipe σ vs)
  cl : cleanD d vs = true
  len : d.length = d₁.length
  out : ∀ j : Nat, j ∉ vs → SlotLike d₁[j]? d[j]?
  fr : ∀ a o, H₁ a = some o → ¬ Mine d₁ σ a → H a = some o
  acc : ∃ av, H D = some (.lst av) ∧ RpA K Ex (Ow (With Oc D) (wipeD d vs) (wipe σ vs)) H av acc
  st : S (Ow (With Oc D) (wipeD d vs) (wipe σ vs)) H
  pur : pu = true → (∀ a o, H₁ a = some o → H a = some o) ∧ ∀ j : Nat, j ∉ vs → d[j]? = d₁[j]?
theorem mine_out {d d' : SD} {σ σ' : St} {vs : List Nat} {a : Addr} (hc : cleanD d' vs = true) (hd : ∀ j : Nat, j ∉ vs → SlotLike d[j]? d'[j]?) (hσ : ∀ j : Nat, j ∉ vs → σ'[j]? = σ[j]?) (h : Mine d' σ' a) : Mine d σ a := by
  obtain ⟨j, s, w, h1, h2, h3⟩ := h
  have m := cleanD_at h1 h2 hc
  obtain ⟨s', w', e1, e2⟩ := (hd j m).mine.mpr ⟨s, w, h1, h2⟩
  exact ⟨j, s', w', e1, e2, by rw [← hσ j m]; exact h3⟩
/-- the end: the block's names are given back -/
theorem LcI.back {pu : Bool} {S : (Addr → Prop) → Hp → Prop} {vs : List Nat} {d₁ d : SD} {σ : St} {H₁ H : Hp} {D : Addr} {acc : List W} (rs₁ : RS K Ex Oc H₁ d₁ σ) (cl₁ : cleanD d₁ vs = true) (nD : H₁ D = none) (I : LcI pu K Ex Oc S vs d₁ σ H₁ D acc d H) :
    RS K Ex (With Oc D) H (backD d₁ vs d) σ ∧ Sim d₁ (backD d₁ vs d) ∧ (∀ a, Ow (With Oc D) (backD d₁ vs d) σ a → Ow (With Oc D) (wipeD d vs) (wipe σ vs) a) := by
  have sim : Sim d₁ (backD d₁ vs d) := by
    refine ⟨by rw [backD_length]; exact I.len.symm, fun j => ?_⟩
    by_cases m : j ∈ vs
    · by_cases l : j < d.length
      · rw [backD_in m l I.len.symm]; exact .refl _
      · rw [List.getElem?_eq_none (by rw [← I.len]; omega), List.getElem?_eq_none (by rw [backD_length]; omega)]; exact .refl _
    · rw [backD_out m]; exact I.out j m
  have mi : ∀ a, Mine (backD d₁ vs d) σ a → Mine (wipeD d vs) (wipe σ vs) a := by
    rintro a ⟨j, s, w, h1, h2, h3⟩
    have m : j ∉ vs := by
      obtain ⟨s', w', e1, e2⟩ := (sim.2 j).mine.mpr ⟨s, w, h1, h2⟩
      exact cleanD_at e1 e2 cl₁
    rw [backD_out m] at h1
    exact ⟨j, s, w, by rw [wipeD_out m]; exact h1, h2, by rw [wipe_out m]; exact h3⟩
  have ow : ∀ a, Ow (With Oc D) (backD d₁ vs d) σ a → Ow (With Oc D) (wipeD d vs) (wipe σ vs) a := fun a z => z.imp id (mi a)
  have mi1 : ∀ a, Mine (wipeD d vs) (wipe σ vs) a → Mine d₁ σ a := fun a z => by
    obtain ⟨j, s, w, h1, h2, h3⟩ := z
    have m : j ∉ vs := fun m => by
      obtain ⟨lt, _⟩ := List.getElem?_eq_some_iff.mp h1
      rw [wipeD_in m (by rw [wipeD_length] at lt; exact lt)] at h1
      cases h1
    rw [wipeD_out m] at h1
    rw [wipe_out m] at h3
    obtain ⟨s', w', e1, e2⟩ := (I.out j m).mine.mpr ⟨s, w, h1, h2⟩
    exact ⟨j, s', w', e1, e2, h3⟩
  have ke : Ke (Ow (With Oc D) (wipeD d vs) (wipe σ vs)) H (Ow (With Oc D) (backD d₁ vs d) σ) H := fun a u n e => ⟨fun z => n (ow a z), e⟩
  -- from the start: for the names that the block hid
  have ke1 : Ke (Ow Oc d₁ σ) H₁ (Ow (With Oc D) (backD d₁ vs d) σ) H := fun a u n e => by
    have na : a ≠ D := ne_of_none e nD
    refine ⟨fun z => ?_, I.fr a u e fun z => n (.inr z)⟩
    rcases z with (z | z) | z
    · exact n (.inl z)
    · exact na z
    · exact n (.inr (sim.mine.mp z))
  refine ⟨⟨by rw [backD_length, I.len]; exact rs₁.len, fun j u e => ?_, fun j s u e1 e2 => ?_, fun j k s t u u' q ne e1 e2 e3 e4 e5 => ?_, I.rs.oc⟩, sim, ow⟩
  · by_cases m : j ∈ vs
    · have l : j < d.length := by
        obtain ⟨lt, _⟩ := List.getElem?_eq_some_iff.mp e
        rw [backD_length] at lt; exact lt
      rw [backD_in m l I.len.symm] at e
      obtain ⟨v, e', r⟩ := rs₁.val j u e
      exact ⟨v, e', r.mono ke1 fun _ _ z => z⟩
    · rw [backD_out m] at e
      obtain ⟨v, e', r⟩ := I.rs.val j u (by rw [wipeD_out m]; exact e)
      exact ⟨v, by rw [wipe_out m] at e'; exact e', r.mono ke fun _ _ z => z⟩
  · have m : j ∉ vs := by
      obtain ⟨s', w', f1, f2⟩ := (sim.2 j).mine.mpr ⟨s, u, e1, e2⟩
      exact cleanD_at f1 f2 cl₁
    rw [backD_out m] at e1
    obtain ⟨q, e', n, ob⟩ := I.rs.own j s u (by rw [wipeD_out m]; exact e1) e2
    exact ⟨q, by rw [wipe_out m] at e'; exact e', n, ob.mono ke (fun _ _ z => z) rfl⟩
  · have m : j ∉ vs := by
      obtain ⟨s', w', f1, f2⟩ := (sim.2 j).mine.mpr ⟨s, u, e1, e2⟩
      exact cleanD_at f1 f2 cl₁
    have m2 : k ∉ vs := by
      obtain ⟨s', w', f1, f2⟩ := (sim.2 k).mine.mpr ⟨t, u', e3, e4⟩
      exact cleanD_at f1 f2 cl₁
    rw [backD_out m] at e1
    rw [backD_out m2] at e3
    have z := I.rs.sep j k s t u u' q ne (by rw [wipeD_out m]; exact e1) e2 (by rw [wipeD_out m2]; exact e3) e4 (by rw [wipe_out m]; exact e5)
    rw [wipe_out m2] at z
    exact z
end

section
variable {X : Cx} {Y : Yx}
theorem t_lc {pi pt pe : Bool} {tg iter : Expr} {mi : M (List W)} {g : GW} {is vs : List Nat} {t : M Bool} {e : M W} {wi : TI} (hwi : ∀ σ H R, tI X Y pi mi σ H R → wi σ H R) (ho : ∀ w d d', g w d = some d' → Only is d d') (his : ∀ i ∈ is, i ∈ vs)
    (σ : St) (H : Hp) (Q : VK) (h : tF X Y (pi && (pt && pe)) (mLc vs mi g t e) σ H Q) : tLc wi (tG X.K Y.blk g is) (tT X Y.blk pt t) (tE X Y.blk pe e) vs σ H Q := by
  obtain ⟨Oc, d, rs, h⟩ := h
  refine hwi σ H _ ⟨Oc, d, rs, (Po.bind h).imp fun ws d₁ H₁ g₁ h₁ J S wk hS D nD => ?_⟩
  have hcl : cleanD d₁ vs = true ∧ ws.length ≤ sizeLine := by
    by_cases z : cleanD d₁ vs = true ∧ ws.length ≤ sizeLine
    · exact z
    · rw [if_neg z] at h₁; exact h₁.elim
  rw [if_pos hcl] at h₁
  obtain ⟨cl, hlen⟩ := hcl
  cases q : lcD vs g t e ws d₁ with
  | bad => rw [q] at h₁; exact h₁.elim
  | exc c d2 => rw [q] at h₁; exact h₁.elim
  | ok ys d₂ =>
    rw [q] at h₁
    have h₁ : ∀ H', Go X.K Y.Ex Oc (pt && pe) σ d₁ H₁ (backD d₁ vs d₂) H' → ∀ p, H p = none → RS X.K Y.Ex (With Oc p) H' (backD d₁ vs d₂) σ → Ob X.K Y.Ex (Ow (With Oc p) (backD d₁ vs d₂) σ) H' p (.list ys) → Q (.ref p) H' := h₁
    have start : LcI (pt && pe) X.K Y.Ex Oc S vs d₁ σ H₁ D [] d₁ (upd H₁ D (.lst [])) := by
      have r2 := g₁.rs.withNew (o := .lst []) nD
      refine ⟨r2.wipe cl, cl, rfl, fun _ _ => .refl _, fun a o e _ => by rw [upd_ne (ne_of_none e nD)]; exact e, ⟨[], upd_same, .nil⟩, wk.keep _ _ _ _ ?_ hS, fun _ => ⟨fun a o e => by rw [upd_ne (ne_of_none e nD)]; exact e, fun _ _ => rfl⟩⟩
      intro a u n e'
      have na : a ≠ D := ne_of_none e' nD
      refine ⟨fun z => ?_, by rw [upd_ne na]; exact e'⟩
      rcases z with (z | z) | z
      · exact n (.inl z)
      · exact na z
      · exact n (.inr ((mine_wipe g₁.rs.len cl).mp z))
    refine ⟨fun i m H' => m = ws.length - i ∧ i ≤ ws.length ∧ ∃ acc ys' d', LcI (pt && pe) X.K Y.Ex Oc S vs d₁ σ H₁ D acc d' H' ∧ acc.length ≤ i ∧ lcD vs g t e (ws.drop i) d' = .ok ys' d₂ ∧ acc ++ ys' = ys, ⟨ws.length, by simp, Nat.zero_le _, [], ys, d₁, start, Nat.le_refl _, q, rfl⟩, ?_⟩
    rintro i m H' ⟨rfl, hi, acc, ys', d', I, hacc, hq, hys⟩
    by_cases lt : i < ws.length
    · refine .inr ⟨wk.go _ _ _ I.st lt, fun H2 => ∃ acc ys' d', LcI (pt && pe) X.K Y.Ex Oc S vs d₁ σ H₁ D acc d' H2 ∧ acc.length ≤ i + 1 ∧ lcD vs g t e (ws.drop (i + 1)) d' = .ok ys' d₂ ∧ acc ++ ys' = ys, fun H2 z => ⟨ws.length - (i + 1), by omega, rfl, lt, z⟩, fun x H2 y => ?_⟩
      obtain ⟨sm, hr⟩ := wk.yld _ H' i x H2 (fun a z => I.rs.there z) I.st y
      have rx := hr _ (List.getElem?_eq_getElem lt)
      rw [List.drop_eq_getElem_cons lt] at hq
      unfold lcD at hq
      cases qg : g ws[i] (wipeD d' vs) with
      | none => rw [qg] at hq; cases hq
      | some d1' =>
        rw [qg] at hq
        dsimp only at hq
        have go2 := Go.same (pu := true) I.rs sm
        refine ⟨With Oc D, wipeD d' vs, _, d1', go2.rs, rx, qg, fun σ2 gs o1 => ?_⟩
        have only := ho _ _ _ qg
        have hσ2 : ∀ j : Nat, j ∉ vs → σ2[j]? = σ[j]? := fun j m => by rw [o1.2 j fun z => m (his j z), wipe_out m]
        have hσl : σ2.length = σ.length := by rw [o1.1, wipe_length]
        refine ⟨wipe_ext hσl hσ2, With Oc D, d1', gs.rs, ?_⟩
        have hD2 : ∃ av, H2 D = some (.lst av) ∧ RpA X.K Y.Ex (Ow (With Oc D) d1' σ2) H2 av acc := by
          obtain ⟨av, e1, e2⟩ := I.acc
          exact ⟨av, sm _ _ e1, (e2.mono go2.ke fun _ _ z => z).mono gs.ke fun _ _ z => z⟩
        have hS2 : S (Ow (With Oc D) d1' σ2) H2 := wk.keep _ _ _ _ gs.ke (wk.keep _ _ _ _ go2.ke I.st)
        have fr2 : ∀ a o, H₁ a = some o → ¬ Mine d₁ σ a → H2 a = some o := fun a o e n => sm a o (I.fr a o e n)
        have out1 : ∀ j : Nat, j ∉ vs → SlotLike d₁[j]? d1'[j]? := fun j m => by
          rw [only.2.1 j fun z => m (his j z), wipeD_out m]; exact I.out j m
        have cl1 : cleanD d1' vs = true := by
          refine cleanD_of fun j hj s e => ?_
          have l : j < d'.length := by
            obtain ⟨lt, _⟩ := List.getElem?_eq_some_iff.mp e
            rw [only.1, wipeD_length] at lt; exact lt
          rcases only.2.2 j with z | ⟨u, z⟩
          · rw [z, wipeD_in hj l] at e; cases e
          · rw [z] at e; cases e; rfl
        have len1 : d1'.length = d₁.length := by rw [only.1, wipeD_length]; exact I.len
        -- a later state within the turn is a state between two turns
        have pur1 : (pt && pe) = true → (∀ a o, H₁ a = some o → H2 a = some o) ∧ ∀ j : Nat, j ∉ vs → d1'[j]? = d₁[j]? := fun z => by
          obtain ⟨z1, z2⟩ := I.pur z
          exact ⟨fun a o e => sm a o (z1 a o e), fun j m => by rw [only.2.1 j fun z => m (his j z), wipeD_out m]; exact z2 j m⟩
        have mk : ∀ {pu : Bool} {d3 : SD} {H3 : Hp} {acc' : List W} {av' : List V}, ((pt && pe) = true → pu = true) → Go X.K Y.Ex (With Oc D) pu σ2 d1' H2 d3 H3 → RpA X.K Y.Ex (Ow (With Oc D) d3 σ2) H3 av' acc' → LcI (pt && pe) X.K Y.Ex Oc S vs d₁ σ H₁ D acc' d3 (upd H3 D (.lst av')) := fun {pu d3 H3 acc' av'} hpu g3 ra => by
          have out3 : ∀ j : Nat, j ∉ vs → SlotLike d₁[j]? d3[j]? := fun j m => (out1 j m).trans (g3.sim.2 j)
          have cl3 : cleanD d3 vs = true := by
            refine cleanD_of fun j hj s e => ?_
            cases hm : Slot.mine? s with
            | none => rfl
            | some w =>
              obtain ⟨s', w', f1, f2⟩ := (g3.sim.2 j).mine.mpr ⟨s, w, e, hm⟩
              exact absurd hj (cleanD_at f1 f2 cl1)
          have r3 := (g3.rs.wipe (vs := vs) cl3)
          rw [wipe_ext hσl hσ2] at r3
          have r4 := r3.poke (o := .lst av') (.inr rfl)
          have owl : ∀ a, Ow (With Oc D) (wipeD d3 vs) (wipe σ vs) a → Ow (With Oc D) d3 σ2 a := fun a z => by
            rw [← wipe_ext hσl hσ2] at z
            exact z.imp id (mine_wipe g3.rs.len cl3).mp
          have ke3 : Ke (Ow (With Oc D) d3 σ2) H3 (Ow (With Oc D) (wipeD d3 vs) (wipe σ vs)) (upd H3 D (.lst av')) := fun a u n e => ⟨fun z => n (owl a z), by rw [upd_ne fun z => n (.inl (.inr z))]; exact e⟩
          refine ⟨r4, cl3, by rw [← g3.sim.1]; exact len1, out3, fun a o e n => ?_, ⟨av', upd_same, ra.mono ke3 fun _ _ z => z⟩, wk.keep _ _ _ _ ke3 (wk.keep _ _ _ _ g3.ke hS2), fun z => ?_⟩
          · have na : a ≠ D := ne_of_none e nD
            rw [upd_ne na]
            exact g3.fr a o (fr2 a o e n) fun z => n (mine_out cl1 out1 hσ2 z)
          · obtain ⟨p1, p2⟩ := pur1 z
            obtain ⟨p3, p4⟩ := g3.pur (hpu z)
            subst p4
            exact ⟨fun a o e => by rw [upd_ne (ne_of_none e nD)]; exact p3 a o (p1 a o e), p2⟩
        cases qt : t d1' with
        | bad => rw [qt] at hq; cases hq
        | exc c d2' => rw [qt] at hq; cases hq
        | ok b d2' =>
          rw [qt] at hq
          dsimp only [Out.bind] at hq
          intro H3 g3 rs3
          obtain ⟨av, hD, ra⟩ := hD2
          have hD3 : H3 D = some (.lst av) := g3.fr D _ hD (gs.rs.nMine (.inr rfl))
          have ra3 := g3.rpA ra
          cases b with
          | false =>
            rw [if_neg Bool.false_ne_true] at hq
            refine iteF ?_
            have z := mk (fun z => (Bool.and_eq_true _ _ ▸ z).1) g3 ra3
            have e : upd H3 D (.lst av) = H3 := by
              funext b
              by_cases hb : b = D
              · rw [hb, upd_same, hD3]
              · rw [upd_ne hb]
            rw [e] at z
            exact ⟨acc, ys', d2', z, Nat.le_succ_of_le hacc, hq, hys⟩
          | true =>
            rw [if_pos rfl] at hq
            refine iteT ⟨With Oc D, d2', rs3, ?_⟩
            cases qe : e d2' with
            | bad => rw [qe] at hq; cases hq
            | exc c d3' => rw [qe] at hq; cases hq
            | ok yv d3' =>
              rw [qe] at hq
              dsimp only [Out.bind] at hq
              intro H4 g4 v rv
              have g34 := g3.trans g4
              have hD4 : H4 D = some (.lst av) := g34.fr D _ hD (gs.rs.nMine (.inr rfl))
              have ra4 := g4.rpA ra3
              cases ql : lcD vs g t e (List.drop (i + 1) ws) d3' with
              | bad => rw [ql] at hq; cases hq
              | exc c d4 => rw [ql] at hq; cases hq
              | ok ys2 d4 =>
                rw [ql] at hq
                cases hq
                refine ⟨av, hD4, ?_, acc ++ [yv], ys2, d3', mk id g34 (ra4.append (.cons rv .nil)), by rw [List.length_append]; exact Nat.succ_le_succ hacc, ql, by rw [List.append_assoc]; exact hys⟩
                rw [ra.length]
                exact Nat.lt_of_le_of_lt hacc (Nat.lt_of_lt_of_le lt hlen)
    · have ei : i = ws.length := by omega
      subst ei
      rw [List.drop_length] at hq
      cases hq
      rw [List.append_nil] at hys
      subst hys
      obtain ⟨r2, sim, ow⟩ := I.back g₁.rs cl nD
      refine .inl ⟨wk.stop _ _ _ I.st (Nat.le_refl _), ?_⟩
      obtain ⟨av, hD, ra⟩ := I.acc
      refine h₁ H' ⟨r2.less, I.fr, sim, fun z => ?_⟩ D (g₁.free nD) r2 ⟨av, hD, ra.mono (fun a u n e => ⟨fun z => n (ow a z), e⟩) fun _ _ z => z⟩
      obtain ⟨p1, p2⟩ := I.pur z
      refine ⟨p1, List.ext_getElem? fun j => ?_⟩
      by_cases m : j ∈ vs
      · by_cases l : j < d₂.length
        · exact backD_in m l I.len.symm
        · rw [List.getElem?_eq_none (by rw [backD_length]; omega), List.getElem?_eq_none (by rw [← I.len]; omega)]
      · rw [backD_out m]; exact p2 j m
/-- [elt for tg in iter if ..] -/
theorem df_lc {pi pt pe : Bool} {elt tg iter : Expr} {ifs : List Expr} {scope : Scope} {own : List (Str × Nat)} {pos : Pos} {mi : M (List W)} {g : GW} {is : List Nat} {t : M Bool} {e : M W} (hc : X.calm = true) (hN : X.N.Nodup) (hi : DI X Y pi tg iter mi) (ok : BlkOk X.N X.env.scope scope own) (his : ∀ i ∈ is, i ∈ own.map (·.2))
    (hg : ∀ (s : Shared) (H : Hp) (C : Addr) (cl : List (Str × Addr)) (fp : List Addr), DG (X.blk s H scope (compEnvC scope cl C X.env) fp) Y.blk tg g is) (ht : ∀ (s : Shared) (H : Hp) (C : Addr) (cl : List (Str × Addr)) (fp : List Addr), DTs (X.blk s H scope (compEnvC scope cl C X.env) fp) Y.blk pt ifs t)
    (he : ∀ (s : Shared) (H : Hp) (C : Addr) (cl : List (Str × Addr)) (fp : List Addr), DE (X.blk s H scope (compEnvC scope cl C X.env) fp) Y.blk pe elt e) (hs : ∀ x, foldedSetIterable iter X.env x = pure x := by intro _; rfl) :
    DF X Y (pi && (pt && pe)) (.ListComp elt [⟨tg, iter, ifs, 0⟩] scope pos) (mLc (own.map (·.2)) mi g t e) := by
  obtain ⟨wi, hpi, hwi⟩ := hi.pi
  exact ⟨pe_weak (pe_lc hc hN hpi ok (fun s H C cl fp => (hg s H C cl fp).pg) (fun s H C cl fp => (ht s H C cl fp).pts) (fun s H C cl fp => (he s H C cl fp).pe) hs)
    (t_lc (tg := tg) (iter := iter) hwi (hg {} noH 0 [] []).only his)⟩
/-- name = [..] on one line -/
theorem as_lc {pi pt pe : Bool} {i : Nat} {y : Str} {py spos : Pos} {elt tg iter : Expr} {ifs : List Expr} {scope : Scope} {own : List (Str × Nat)} {pos : Pos} {mi : M (List W)} {g : GW} {is : List Nat} {t : M Bool} {e : M W} (hc : X.calm = true) (hN : X.N.Nodup) (hi : DI X Y pi tg iter mi) (ok : BlkOk X.N X.env.scope scope own) (his : ∀ i ∈ is, i ∈ own.map (·.2))
    (hg : ∀ (s : Shared) (H : Hp) (C : Addr) (cl : List (Str × Addr)) (fp : List Addr), DG (X.blk s H scope (compEnvC scope cl C X.env) fp) Y.blk tg g is) (ht : ∀ (s : Shared) (H : Hp) (C : Addr) (cl : List (Str × Addr)) (fp : List Addr), DTs (X.blk s H scope (compEnvC scope cl C X.env) fp) Y.blk pt ifs t)
    (he : ∀ (s : Shared) (H : Hp) (C : Addr) (cl : List (Str × Addr)) (fp : List Addr), DE (X.blk s H scope (compEnvC scope cl C X.env) fp) Y.blk pe elt e) (hy : X.N[i]? = some y := by rfl) (hyl : X.env.scope.names.lookup y = some .local := by rfl)
    (hsw : swapsWith (.ListComp elt [⟨tg, iter, ifs, 0⟩] scope pos) (some (.Name y py)) spos.line X.env = pure true := by exact sw_true rfl rfl rfl rfl) (hs : ∀ x, foldedSetIterable iter X.env x = pure x := by intro _; rfl) :
    PS X (.Assign [.Name y py] (.ListComp elt [⟨tg, iter, ifs, 0⟩] scope pos) spos) (tAsg (tF X Y (pi && (pt && pe)) (mLc (own.map (·.2)) mi g t e)) (gName i)) := by
  obtain ⟨wi, hpi, hwi⟩ := hi.pi
  exact ps_weak (ps_setLc hc hN hy hyl hsw hpi ok (fun s H C cl fp => (hg s H C cl fp).pg) (fun s H C cl fp => (ht s H C cl fp).pts) (fun s H C cl fp => (he s H C cl fp).pe) hs)
    fun D σ H h => t_lc (tg := tg) (iter := iter) hwi (hg {} noH 0 [] []).only his σ H _ h
theorem ps_toE {pu : Bool} {i : Nat} {st : Stmt} {m : M W} (h : PS X st (tAsg (tF X Y pu m) (gName i))) : PS X st (tAsg (tE X Y pu m) (gName i)) := ps_weak h fun D σ H h => tF_of σ H _ h
end
end Qd
end
section
set_option Elab.async false
set_option linter.all false
set_option maxRecDepth 100000
/-! Defs: what they promise by data, their calls, their bodies. -/
namespace Qd
open PySem PySem.Spec PyProof.Rows L2

/-- what a call gives: a value, or an object that is the caller's own; an error -/
inductive FR where
  | ok (r : Slot) | exc (c : Nat) | bad
/-- .. of a def that writes the object given first: the object's data behind it -/
inductive FP where
  | ok (r : Slot) (u : W) | exc (c : Nat) (u : W) | bad
abbrev FV := List W → FR
abbrev FW := W → List W → FP
def sdV (n : Nat) (ws : List W) : SD := ws.map (fun w => some (.val w)) ++ List.replicate (n - ws.length) none
def sdP (n : Nat) (u : W) (ws : List W) : SD := some (.par u) :: ws.map (fun w => some (.val w)) ++ List.replicate (n - (ws.length + 1)) none
def runV (n : Nat) (m : MS) : FV := fun ws => match m (sdV n ws) with
  | .next _ => .ok (.val .none)
  | .ret r _ => .ok r
  | .exc c _ => .exc c
  | _ => .bad
def parAt (d : SD) : Option W := match d with
  | some (.par u) :: _ => some u
  | _ => none
def runP (n : Nat) (m : MS) : FW := fun u ws => match m (sdP n u ws) with
  | .next d => (match parAt d with | some u' => .ok (.val .none) u' | none => .bad)
  | .ret r d => (match parAt d with | some u' => .ok r u' | none => .bad)
  | .exc c d => (match parAt d with | some u' => .exc c u' | none => .bad)
  | _ => .bad
/-- on: the module's written tuples and lists are read -/
structure On where
  b : Bool
  tb : Addr → Prop
def cEx (on : On) : Addr → Nat → Prop := fun a k => (on.b = true ∧ k = cN) ∨ (k = tN ∧ on.tb a)
section
variable (K : PySem.W.Frag) (T : Nat → Value) (on : On)
def spV (F : FV) (np : Nat) : Sp := fun vs H Q E => ∃ (Oc : Addr → Prop) (ws : List W), ws.length = np ∧ Thr (cEx on) Oc H ∧ RpA K (cEx on) Oc H vs ws ∧ match F ws with
  | .ok (.val w) => ∀ H' v, Same H H' → Rp K (cEx on) Oc H' v w → Q v H'
  | .ok (.own w) => ∀ H' p, Same H H' → H p = none → Ob K (cEx on) (With Oc p) H' p w → Q (.ref p) H'
  | .ok (.par _) => False
  | .exc c => ∀ H', Same H H' → E (T c) none H'
  | .bad => False
def But (p : Addr) (H H' : Hp) : Prop := ∀ a o, a ≠ p → H a = some o → H' a = some o
def spP (F : FW) (np : Nat) : Sp := fun vs H Q E => ∃ (Oc : Addr → Prop) (p : Addr) (vs' : List V) (u : W) (ws : List W), vs = .ref p :: vs' ∧ ws.length + 1 = np ∧ Thr (cEx on) Oc H ∧ ¬ Oc p ∧ Ob K (cEx on) (With Oc p) H p u ∧ RpA K (cEx on) (With Oc p) H vs' ws ∧ match F u ws with
  | .ok (.val w) u' => ∀ H' v, But p H H' → Ob K (cEx on) (With Oc p) H' p u' → Rp K (cEx on) (With Oc p) H' v w → Q v H'
  | .ok (.own _) _ => False
  | .ok (.par _) _ => False
  | .exc c u' => ∀ H', But p H H' → Ob K (cEx on) (With Oc p) H' p u' → E (T c) none H'
  | .bad => False
end
/-- the context of a def's body -/
abbrev Yf (T : Nat → Value) (on : On) (E : XK) : Yx := ⟨cEx on, T, fun cls d _ H' => E cls d H'⟩

/-! ### a call -/
section
variable {X : Cx} {Y : Yx}
def mCallV (F : FV) (as : M (List W)) : M W := fun d => (as d).bind fun ws d1 => match F ws with
  | .ok (.val w) => .ok w d1
  | .ok (.own w) => .ok w d1
  | .ok (.par _) => .bad
  | .exc c => .exc c d1
  | .bad => .bad
/-- .. whose value is an object of the caller's own -/
def mCallO (F : FV) (as : M (List W)) : M W := fun d => (as d).bind fun ws d1 => match F ws with
  | .ok (.own w) => .ok w d1
  | .exc c => .exc c d1
  | _ => .bad
theorem same_ke {O : Addr → Prop} {H H' : Hp} (s : Same H H') : Ke O H O H' := fun a u n e => ⟨n, s a u e⟩
theorem t_callV {on : On} {pu : Bool} {F : FV} {np : Nat} {as : M (List W)} (hE : Y.Ex = (cEx on)) (σ : St) (H : Hp) (Q : VK) (hl : ∀ d ws d1, as d = .ok ws d1 → ws.length = np) (h : tE X Y pu (mCallV F as) σ H Q) : tCallS (spV X.K Y.T on F np) (fun σ => WE Y.W σ) (tL X Y pu as) σ H Q := by
  obtain ⟨Oc, d, rs, h⟩ := h
  refine ⟨Oc, d, rs, ?_⟩
  have hh := Po.bind1 h
  cases q0 : as d with
  | bad => rw [q0] at hh; exact hh
  | exc c d1 => rw [q0] at hh; exact hh
  | ok ws d1 =>
    rw [q0] at hh
    intro H1 g1 v r
    have h1 := hh H1 g1
    rw [hE] at r
    refine ⟨Ow Oc d1 σ, ws, hl _ _ _ q0, hE ▸ g1.rs.thr, r, ?_⟩
    cases q : F ws with
    | bad => rw [q] at h1; exact h1
    | exc c => rw [q] at h1; exact fun H' s => h1 H' (.same g1.rs s)
    | ok s =>
      rw [q] at h1
      cases s with
      | val w => exact fun H' v s r' => h1 H' (.same g1.rs s) v (by rw [hE]; exact r')
      | own w => exact fun H' p s np ob => h1 H' (.same g1.rs s) (.ref p) (by
          rw [hE]
          exact (ob.mono (fun a u n e => ⟨fun z => n (.inl z), e⟩) (fun _ _ z => z) rfl).rp (g1.rs.nOw np))
      | par w => exact h1
theorem t_callO {on : On} {pu : Bool} {F : FV} {np : Nat} {as : M (List W)} (hE : Y.Ex = (cEx on)) (σ : St) (H : Hp) (Q : VK) (hl : ∀ d ws d1, as d = .ok ws d1 → ws.length = np) (h : tF X Y pu (mCallO F as) σ H Q) : tCallS (spV X.K Y.T on F np) (fun σ => WE Y.W σ) (tL X Y pu as) σ H Q := by
  obtain ⟨Oc, d, rs, h⟩ := h
  refine ⟨Oc, d, rs, ?_⟩
  have hh := Po.bind1 h
  cases q0 : as d with
  | bad => rw [q0] at hh; exact hh
  | exc c d1 => rw [q0] at hh; exact hh
  | ok ws d1 =>
    rw [q0] at hh
    intro H1 g1 v r
    have h1 := hh H1 g1
    rw [hE] at r
    refine ⟨Ow Oc d1 σ, ws, hl _ _ _ q0, hE ▸ g1.rs.thr, r, ?_⟩
    cases q : F ws with
    | bad => rw [q] at h1; exact h1
    | exc c => rw [q] at h1; exact fun H' s => h1 H' (.same g1.rs s)
    | ok s =>
      rw [q] at h1
      cases s with
      | val w => exact h1.elim
      | par w => exact h1.elim
      | own w =>
        refine fun H' p s np ob => h1 H' (.same g1.rs s) p (g1.free np) ?_ ?_
        · -- the callee's new object, as it lies in the end
          have nw := g1.rs.nOw np
          have rs2 := g1.rs.same s
          have ke : Ke (Ow Oc d1 σ) H1 (Ow (With Oc p) d1 σ) H' := fun a u n e => by
            have ne : a ≠ p := ne_of_none e np
            exact ⟨fun z => (ow_with.mp z).elim n ne, s a u e⟩
          refine ⟨rs2.len, fun i w h => ?_, fun i t w a1 a2 => ?_, rs2.sep, ⟨fun a h => ?_, fun a h => ⟨(rs2.oc.tb a h).1, fun z => z.elim (rs2.oc.tb a h).2 fun z => ne_of_none (g1.rs.oc.tb a h).1 np z⟩⟩⟩
          · obtain ⟨v, e, r⟩ := g1.rs.val i w h
            exact ⟨v, e, r.mono ke fun _ _ z => z⟩
          · obtain ⟨q, e, n, ob'⟩ := g1.rs.own i t w a1 a2
            have ne : q ≠ p := fun z => nw (.inr ⟨i, t, w, a1, a2, by rw [← z]; exact e⟩)
            obtain ⟨u, hu⟩ := ob'.at
            exact ⟨q, e, fun z => z.elim n ne, ob'.mono ke (fun _ _ z => z) ((s _ _ hu).trans hu.symm)⟩
          · rcases h with h | h
            · exact rs2.oc.at_ a h
            · rw [h]; exact ob.at
        · rw [hE]
          exact ob.mono (fun a u n e => ⟨fun z => n (by rcases ow_with.mp z with z | z; exact .inl z; exact .inr z), e⟩) (fun _ _ z => z) rfl
/-- the number of arguments, whatever they are -/
def Len (n : Nat) (as : M (List W)) : Prop := ∀ d ws d1, as d = .ok ws d1 → ws.length = n
theorem len_nil : Len 0 mNil := fun d ws d1 h => by cases h; rfl
theorem len_cons {n : Nat} {a : M W} {r : M (List W)} (h : Len n r) : Len (n + 1) (mCons a r) := fun d ws d1 e => by
  unfold mCons at e
  cases q : a d with
  | bad => rw [q] at e; cases e
  | exc c d2 => rw [q] at e; cases e
  | ok x d2 =>
    rw [q] at e
    have e : ((r d2).bind fun xs d2 => Out.ok (x :: xs) d2) = .ok ws d1 := e
    cases q2 : r d2 with
    | bad => rw [q2] at e; cases e
    | exc c d3 => rw [q2] at e; cases e
    | ok xs d3 =>
      rw [q2] at e
      cases e
      rw [List.length_cons, h _ _ _ q2]
theorem d_callV {on : On} {pu : Bool} {k : Nat} {f : Addr} {fd : FuncData} {ps : List Str} {F : FV} {x : Str} {p pos : Pos} {e : Expr} {es : List Expr} {as : M (List W)} {np : Nat} (G : FnOk X.prog X.w X.K X.mg X.base (L2N.CX X.prog X.w) k f fd ps (spV X.K Y.T on F np)) (hr : Room k X.A) (tk : L2N.Takes X Y.W) (hE : Y.Ex = (cEx on))
    (hm : X.mg x = some (.ref f)) (hk : PySem.W.keepIn X.K (.ref f) = true) (hb : Binds X.K fd ps []) (ha : DL X Y pu (e :: es) as) (hl : Len np as) (hg : Gl X x := by rfl)
    (hdb : (x == ("__debug__" : Str)) = false := by decide) (he : starEach (e :: es) X.env = (false, eval e X.env) :: starEach es X.env := by rfl) (hpl : (backTo pos (starEach es X.env)).any (·.1) = false := by rfl) : DE X Y pu (.Call (.Name x p) (e :: es) [] pos) (mCallV F as) :=
  ⟨pe_weak (pe_callS G hr hg hm hk hb (E := fun σ => WE Y.W σ) (fun σ => L2N.passAt tk σ) ha.pa hdb he hpl) fun σ H Q h => t_callV hE σ H Q hl h⟩
theorem df_callO {on : On} {pu : Bool} {k : Nat} {f : Addr} {fd : FuncData} {ps : List Str} {F : FV} {x : Str} {p pos : Pos} {e : Expr} {es : List Expr} {as : M (List W)} {np : Nat} (G : FnOk X.prog X.w X.K X.mg X.base (L2N.CX X.prog X.w) k f fd ps (spV X.K Y.T on F np)) (hr : Room k X.A) (tk : L2N.Takes X Y.W) (hE : Y.Ex = (cEx on))
    (hm : X.mg x = some (.ref f)) (hk : PySem.W.keepIn X.K (.ref f) = true) (hb : Binds X.K fd ps []) (ha : DL X Y pu (e :: es) as) (hl : Len np as) (hg : Gl X x := by rfl)
    (hdb : (x == ("__debug__" : Str)) = false := by decide) (he : starEach (e :: es) X.env = (false, eval e X.env) :: starEach es X.env := by rfl) (hpl : (backTo pos (starEach es X.env)).any (·.1) = false := by rfl) : DF X Y pu (.Call (.Name x p) (e :: es) [] pos) (mCallO F as) :=
  ⟨pe_weak (pe_callS G hr hg hm hk hb (E := fun σ => WE Y.W σ) (fun σ => L2N.passAt tk σ) ha.pa hdb he hpl) fun σ H Q h => t_callO hE σ H Q hl h⟩
/-- f(x, ..), x a name that holds an object which f writes -/
def mineAt (i : Nat) (d : SD) : Option W := match d[i]? with
  | some (some s) => Slot.mine? s
  | _ => none
def Slot.upd (s : Slot) (u : W) : Slot := match s with
  | .own _ => .own u
  | .par _ => .par u
  | .val w => .val w
def setMine (i : Nat) (u : W) (d : SD) : SD := match d[i]? with
  | some (some s) => d.set i (some (Slot.upd s u))
  | _ => d
def mCallP (F : FW) (i : Nat) (as : M (List W)) : M W := fun d => (ofOpt (mineAt i d) d).bind fun _ d0 => (as d0).bind fun ws d1 => (ofOpt (mineAt i d1) d1).bind fun u d2 => match F u ws with
  | .ok (.val w) u' => .ok w (setMine i u' d2)
  | .exc c u' => .exc c (setMine i u' d2)
  | _ => .bad
theorem mineAt_some {i : Nat} {d : SD} {u : W} (h : mineAt i d = some u) : ∃ s, d[i]? = some (some s) ∧ Slot.mine? s = some u := by
  unfold mineAt at h
  split at h
  · exact ⟨_, by assumption, h⟩
  · cases h
/-- the object at p, held by the name i, has new data -/
theorem setMine_go {K : PySem.W.Frag} {Ex : Addr → Nat → Prop} {Oc : Addr → Prop} {H H' : Hp} {d : SD} {σ : St} {i : Nat} {s : Slot} {u u' : W} {p : Addr} (rs : RS K Ex Oc H d σ) (e1 : d[i]? = some (some s)) (e2 : Slot.mine? s = some u) (e3 : σ[i]? = some (some (.ref p))) (b : But p H H') (ob : Ob K Ex (Ow Oc d σ) H' p u') :
    Go K Ex Oc false σ d H (setMine i u' d) H' := by
  have ed : setMine i u' d = d.set i (some (Slot.upd s u')) := by unfold setMine; rw [e1]
  have lt : i < d.length := (List.getElem?_eq_some_iff.mp e1).1
  have mu : Slot.mine? (Slot.upd s u') = some u' := by cases s <;> first | rfl | cases e2
  rw [ed]
  have sim : Sim d (d.set i (some (Slot.upd s u'))) := by
    refine ⟨by rw [List.length_set], fun j => ?_⟩
    by_cases e : i = j
    · subst e
      rw [List.getElem?_set_self lt, e1]
      cases s with
      | val w => cases e2
      | own w => trivial
      | par w => trivial
    · rw [List.getElem?_set_ne e]; exact .refl _
  have mp : Mine d σ p := ⟨i, s, u, e1, e2, e3⟩
  have ke : Ke (Ow Oc d σ) H (Ow Oc (d.set i (some (Slot.upd s u'))) σ) H' := fun a x n e => ⟨fun z => n (z.imp id sim.mine.mp), b a x (fun z => n (.inr (by rw [z]; exact mp))) e⟩
  have ke' : Ke (Ow Oc d σ) H' (Ow Oc (d.set i (some (Slot.upd s u'))) σ) H' := fun a x n e => ⟨fun z => n (z.imp id sim.mine.mp), e⟩
  obtain ⟨p', e3', np, _⟩ := rs.own i s u e1 e2
  rw [e3] at e3'; cases e3'
  refine ⟨⟨by rw [List.length_set]; exact rs.len, fun j w e => ?_, fun j t w f1 f2 => ?_, fun j k t r w x q ne f1 f2 f3 f4 f5 => ?_, ⟨fun a h => ?_, fun a h => ⟨b _ _ (fun z => rs.noTab h (by rw [z]; exact .inr mp)) (rs.oc.tb a h).1, (rs.oc.tb a h).2⟩⟩⟩, fun a x e n => b a x (fun z => n (by rw [z]; exact mp)) e, sim, fun z => nomatch z⟩
  · by_cases ej : i = j
    · subst ej
      rw [List.getElem?_set_self lt] at e
      have e : Slot.upd s u' = .val w := Option.some.inj (Option.some.inj e)
      rw [e] at mu; cases mu
    · rw [List.getElem?_set_ne ej] at e
      obtain ⟨v, e', r⟩ := rs.val j w e
      exact ⟨v, e', r.mono ke fun _ _ z => z⟩
  · by_cases ej : i = j
    · subst ej
      rw [List.getElem?_set_self lt] at f1
      have f1 : Slot.upd s u' = t := Option.some.inj (Option.some.inj f1)
      rw [← f1, mu] at f2; cases f2
      exact ⟨p, e3, np, ob.mono ke' (fun _ _ z => z) rfl⟩
    · rw [List.getElem?_set_ne ej] at f1
      obtain ⟨q, e', n, ob'⟩ := rs.own j t w f1 f2
      have nq : q ≠ p := fun z => rs.sep i j s t u w p ej e1 e2 f1 f2 e3 (by rw [← z]; exact e')
      obtain ⟨x, hx⟩ := ob'.at
      exact ⟨q, e', n, ob'.mono ke (fun _ _ z => z) ((b _ _ nq hx).trans hx.symm)⟩
  · obtain ⟨t', w', g1, g2⟩ := (sim.2 j).mine.mpr ⟨t, w, f1, f2⟩
    obtain ⟨r', x', g3, g4⟩ := (sim.2 k).mine.mpr ⟨r, x, f3, f4⟩
    exact rs.sep j k t' r' w' x' q ne g1 g2 g3 g4 f5
  · obtain ⟨o, e⟩ := rs.oc.at_ a h
    exact ⟨o, b a o (fun z => np (by rw [← z]; exact h)) e⟩
theorem d_callP {on : On} {pu : Bool} {k : Nat} {f : Addr} {fd : FuncData} {ps : List Str} {F : FW} {x y : Str} {p q pos : Pos} {i : Nat} {es : List Expr} {as : M (List W)} {np : Nat} (G : FnOk X.prog X.w X.K X.mg X.base (L2N.CX X.prog X.w) k f fd ps (spP X.K Y.T on F (np + 1))) (hr : Room k X.A) (tk : L2N.Takes X Y.W) (hE : Y.Ex = (cEx on))
    (hm : X.mg x = some (.ref f)) (hk : PySem.W.keepIn X.K (.ref f) = true) (hb : Binds X.K fd ps []) (ha : DL X Y pu es as) (hl : Len np as) (hN : X.N[i]? = some y := by rfl) (hv : Vis X.env.scope y := by first | exact Or.inl rfl | exact Or.inr (Or.inl rfl) | exact Or.inr (Or.inr rfl)) (hd : (y == ("__debug__" : Str)) = false := by decide)
    (hcd : (y == ("__classdict__" : Str)) = false := by decide) (hg : Gl X x := by rfl)
    (hdb : (x == ("__debug__" : Str)) = false := by decide) (he : starEach (.Name y q :: es) X.env = (false, eval (.Name y q) X.env) :: starEach es X.env := by rfl) (hpl : (backTo pos (starEach es X.env)).any (·.1) = false := by rfl) : DE X Y false (.Call (.Name x p) (.Name y q :: es) [] pos) (mCallP F i as) := by
  refine ⟨pe_weak (pe_callS G hr hg hm hk hb (E := fun σ => WE Y.W σ) (fun σ => L2N.passAt tk σ) (pa_cons (pe_var hN hv hd hcd) ha.pa he) hdb he hpl) fun σ H Q h => ?_⟩
  obtain ⟨Oc, d, rs, h⟩ := h
  cases qm0 : mineAt i d with
  | none => unfold mCallP at h; rw [qm0] at h; exact h.elim
  | some u0 =>
    unfold mCallP at h
    rw [qm0] at h
    have hh := Po.bindF (p := pu) (show Po X Y false Oc σ d H ((as d).bind _) _ from h)
    obtain ⟨s0, f1, f2⟩ := mineAt_some qm0
    obtain ⟨a, ev, _, _⟩ := rs.own i s0 u0 f1 f2
    refine ⟨_, ev, Oc, d, rs, ?_⟩
    cases q0 : as d with
    | bad => rw [q0] at hh; exact hh
    | exc c d1 => rw [q0] at hh; exact hh
    | ok ws d1 =>
      rw [q0] at hh
      intro H1 g1 vs r
      have h1 := hh H1 g1
      dsimp only at h1
      cases qm : mineAt i d1 with
      | none => rw [qm] at h1; exact h1.elim
      | some u =>
        rw [qm] at h1
        dsimp only [ofOpt, Out.bind] at h1
        obtain ⟨s, e1, e2⟩ := mineAt_some qm
        obtain ⟨a1, e3, na, ob⟩ := g1.rs.own i s u e1 e2
        rw [ev] at e3
        cases e3
        have owe : ∀ b, With (fun b => Ow Oc d1 σ b ∧ b ≠ a) a b ↔ Ow Oc d1 σ b := fun b => by
          constructor
          · rintro (z | z)
            · exact z.1
            · rw [z]; exact .inr ⟨i, s, u, e1, e2, ev⟩
          · intro z
            by_cases e : b = a
            · exact .inr e
            · exact .inl ⟨z, e⟩
        have ke1 : ∀ {H : Hp}, Ke (Ow Oc d1 σ) H (With (fun b => Ow Oc d1 σ b ∧ b ≠ a) a) H := fun {H} b x n e => ⟨fun z => n ((owe b).mp z), e⟩
        have ke2 : ∀ {H : Hp}, Ke (With (fun b => Ow Oc d1 σ b ∧ b ≠ a) a) H (Ow Oc d1 σ) H := fun {H} b x n e => ⟨fun z => n ((owe b).mpr z), e⟩
        rw [hE] at r ob
        refine ⟨fun b => Ow Oc d1 σ b ∧ b ≠ a, a, vs, u, ws, rfl, by rw [hl _ _ _ q0], (hE ▸ g1.rs.thr : Thr (cEx on) (Ow Oc d1 σ) H1).sub fun b z => z.1, fun z => z.2 rfl, ob.mono ke1 (fun _ _ z => z) rfl, r.mono ke1 fun _ _ z => z, ?_⟩
        have g1rs := g1.rs
        have fin : ∀ {H' : Hp} {u' : W}, But a H1 H' → Ob X.K (cEx on) (With (fun b => Ow Oc d1 σ b ∧ b ≠ a) a) H' a u' → Go X.K Y.Ex Oc false σ d1 H1 (setMine i u' d1) H' := fun b ob' => by
          rw [hE] at g1rs ⊢
          exact setMine_go g1rs e1 e2 ev b (ob'.mono ke2 (fun _ _ z => z) rfl)
        cases qf : F u ws with
        | bad => rw [qf] at h1; exact h1
        | exc c u' => rw [qf] at h1; exact fun H' b ob' => h1 H' (fin b ob')
        | ok r' u' =>
          rw [qf] at h1
          cases r' with
          | own w => exact h1
          | par w => exact h1
          | val w =>
            refine fun H' v b ob' rv => h1 H' (fin b ob') v ?_
            rw [hE]
            have sm := (fin b ob').sim
            exact (rv.mono ke2 fun _ _ z => z).mono (fun b x n e => ⟨fun z => n (z.imp id sm.mine.mp), e⟩) fun _ _ z => z
end

/-! ### a def by its body -/
section
variable {P : Program} {w : World} {K : PySem.W.Frag} {mg : Str → Option Value} {base : Heap} {T : Nat → Value} {on : On}
theorem okN {x qual : Str} {st : Stmt} {f : Addr} {fd : FuncData} {N ps : List Str} {k : Nat} {sp : Sp} (F : Fun K x qual st f fd) (S : FnScope N ps (defScope st)) (len : ∀ vs H Q E, sp vs H Q E → vs.length = ps.length)
    (hbody : ∀ (cdv : Value) (A : Around) (outer : List Env) (s : Shared) (H : Hp) (vs : List V) (Q : VK) (E : XK), Room k (A.deeper (envOfC qual (defScope st) s.heap.objs.size f cdv)) → sp vs H Q E →
      ∃ t, PSs (cxOf (L2N.CX P w) P w K mg base N qual (defScope st) f cdv A outer s H E) (defBody st) t ∧ t { nx := fun _ H' => Q .non H', rt := Q } (L2.start N vs) H) : FnOk P w K mg base (L2N.CX P w) (k + 1) f fd ps sp := by
  obtain ⟨oc, od, kV, doc, pm, an, cdv, ct, osl, rfl, lk, hcd⟩ := F.ex
  exact fn_of lk hcd S len fun A outer s H vs Q E hr hsp => hbody cdv A outer s H vs Q E hr hsp
theorem rpA_of_map {O : Addr → Prop} {H : Hp} {vs : List V} {ws : List W} (r : RpA K (cEx on) O H vs ws) : ∀ (i : Nat) (u : W), (ws.map fun w => some (Slot.val w))[i]? = some (some (.val u)) → ∃ v, (vs.map some)[i]? = some (some v) ∧ Rp K (cEx on) O H v u := fun i u e => by
  rw [List.getElem?_map] at e
  cases q : ws[i]? with
  | none => rw [q] at e; cases e
  | some x =>
    rw [q] at e; cases e
    obtain ⟨v, e1, r1⟩ := r.get q
    exact ⟨v, by rw [List.getElem?_map, e1]; rfl, r1⟩
theorem sdV_get {n : Nat} {ws : List W} {i : Nat} {s : Slot} (h : (sdV n ws)[i]? = some (some s)) : i < ws.length ∧ ∃ u, ws[i]? = some u ∧ s = .val u := by
  unfold sdV at h
  by_cases l : i < ws.length
  · rw [List.getElem?_append_left (by simpa using l), List.getElem?_map] at h
    refine ⟨l, ?_⟩
    rw [List.getElem?_eq_getElem l] at h
    cases h
    exact ⟨_, List.getElem?_eq_getElem l, rfl⟩
  · rw [List.getElem?_append_right (by simpa using l), List.getElem?_replicate] at h
    split at h <;> cases h
theorem sdV_len {n : Nat} {ws : List W} (h : ws.length ≤ n) : (sdV n ws).length = n := by
  unfold sdV
  rw [List.length_append, List.length_map, List.length_replicate]
  omega
theorem start_get {N : List Str} {vs : List V} {i : Nat} {v : V} (h : vs[i]? = some v) : (L2.start N vs)[i]? = some (some v) := by
  obtain ⟨l, e⟩ := List.getElem?_eq_some_iff.mp h
  unfold L2.start
  rw [List.getElem?_append_left (by simpa using l), List.getElem?_map, h]
  rfl
theorem start_len {N : List Str} {vs : List V} (h : vs.length ≤ N.length) : (L2.start N vs).length = N.length := by
  unfold L2.start
  rw [List.length_append, List.length_map, List.length_replicate]
  omega
theorem startV {Oc : Addr → Prop} {H : Hp} {N : List Str} {vs : List V} {ws : List W} (hl : ws.length ≤ N.length) (oc : Thr (cEx on) Oc H) (r : RpA K (cEx on) Oc H vs ws) : RS K (cEx on) Oc H (sdV N.length ws) (L2.start N vs) ∧ ∀ a, ¬ Mine (sdV N.length ws) (L2.start N vs) a := by
  have nm : ∀ a, ¬ Mine (sdV N.length ws) (L2.start N vs) a := fun a ⟨i, s, u, h1, h2, _⟩ => by
    obtain ⟨_, _, _, rfl⟩ := sdV_get h1
    cases h2
  refine ⟨⟨by rw [sdV_len hl, start_len (by rw [r.length]; exact hl)], fun i u e => ?_, fun i s u e1 e2 => ?_, fun i j s t u u' p ne e1 e2 _ _ _ => ?_, oc⟩, nm⟩
  · obtain ⟨l, u', e', es⟩ := sdV_get e
    cases es
    obtain ⟨v, e1, r1⟩ := r.get e'
    exact ⟨v, start_get e1, r1.mono (fun a x n e => ⟨fun z => z.elim n (nm a), e⟩) fun _ _ z => z⟩
  · obtain ⟨_, _, _, rfl⟩ := sdV_get e1
    cases e2
  · obtain ⟨_, _, _, rfl⟩ := sdV_get e1
    cases e2
theorem tS_V {X : Cx} {E : XK} {m : MS} {N : List Str} {H : Hp} {vs : List V} {Q : VK} {np : Nat} (hn : np ≤ N.length) (hK : X.K = K) (h : spV K T on (runV N.length m) np vs H Q E) : tS X (Yf T on E) m { nx := fun _ H' => Q .non H', rt := Q } (L2.start N vs) H := by
  subst hK
  obtain ⟨Oc, ws, hl, oc, r, h⟩ := h
  obtain ⟨rs, nm⟩ := startV (N := N) (by rw [hl]; exact hn) oc r
  refine ⟨Oc, sdV N.length ws, rs, ?_⟩
  unfold runV at h
  have sm : ∀ {d' : SD} {σ' : St} {H' : Hp}, GoS X.K (cEx on) Oc (sdV N.length ws) (L2.start N vs) H d' σ' H' → Same H H' := fun g a o e => g.fr a o e (nm a)
  cases q : m (sdV N.length ws) with
  | next d' => rw [q] at h; exact fun σ' H' g => h H' .non (sm g) .non
  | brk d' => rw [q] at h; exact h.elim
  | cont d' => rw [q] at h; exact h.elim
  | bad => rw [q] at h; exact h.elim
  | exc c d' => rw [q] at h; exact fun σ' H' g => h H' (sm g)
  | ret s d' =>
    rw [q] at h
    cases s with
    | par w => exact h.elim
    | val w => exact fun σ' H' v g rv => h H' v (sm g) (rv.mono (fun a u n e => ⟨fun z => n (.inl z), e⟩) fun _ _ z => z)
    | own w =>
      intro σ' H' p g np' rs' ob
      refine h H' p (sm g) (np'.resolve_right (nm p)) (ob.mono (fun a u n e => ⟨fun z => n ?_, e⟩) (fun _ _ z => z) rfl)
      rcases z with z | z
      · exact .inl (.inl z)
      · exact .inl (.inr z)
/-- a def that writes nothing of its callers' -/
theorem fn_V {x qual : Str} {st : Stmt} {f : Addr} {fd : FuncData} {N ps : List Str} {k np : Nat} {m : MS} (F : Fun K x qual st f fd) (S : FnScope N ps (defScope st)) (hps : ps.length = np) (hnp : np ≤ N.length)
    (hb : ∀ (cdv : Value) (A : Around) (outer : List Env) (s : Shared) (H : Hp) (E : XK), Room k (A.deeper (envOfC qual (defScope st) s.heap.objs.size f cdv)) → DSs (cxOf (L2N.CX P w) P w K mg base N qual (defScope st) f cdv A outer s H E) (Yf T on E) (defBody st) m) :
    FnOk P w K mg base (L2N.CX P w) (k + 1) f fd ps (spV K T on (runV N.length m) np) := by
  refine okN F S (fun vs H Q E h => ?_) (fun cdv A outer s H vs Q E hr h => ⟨_, (hb cdv A outer s H E hr).ps, tS_V hnp rfl h⟩)
  obtain ⟨Oc, ws, hl, oc, r, h⟩ := h
  rw [r.length, hl, hps]
theorem sdP_get {n : Nat} {u : W} {ws : List W} {i : Nat} {s : Slot} (h : (sdP n u ws)[i]? = some (some s)) : (i = 0 ∧ s = .par u) ∨ ∃ j x, i = j + 1 ∧ ws[j]? = some x ∧ s = .val x := by
  unfold sdP at h
  cases i with
  | zero => cases h; exact .inl ⟨rfl, rfl⟩
  | succ j =>
    refine .inr ⟨j, ?_⟩
    rw [List.cons_append, List.getElem?_cons_succ] at h
    by_cases l : j < ws.length
    · rw [List.getElem?_append_left (by simpa using l), List.getElem?_map, List.getElem?_eq_getElem l] at h
      cases h
      exact ⟨_, rfl, List.getElem?_eq_getElem l, rfl⟩
    · rw [List.getElem?_append_right (by simpa using l), List.getElem?_replicate] at h
      split at h <;> cases h
theorem sdP_len {n : Nat} {u : W} {ws : List W} (h : ws.length + 1 ≤ n) : (sdP n u ws).length = n := by
  unfold sdP
  rw [List.cons_append, List.length_cons, List.length_append, List.length_map, List.length_replicate]
  omega
theorem startP {Oc : Addr → Prop} {H : Hp} {N : List Str} {p : Addr} {u : W} {vs : List V} {ws : List W} (hl : ws.length + 1 ≤ N.length) (oc : Thr (cEx on) Oc H) (no : ¬ Oc p) (ob : Ob K (cEx on) (With Oc p) H p u) (r : RpA K (cEx on) (With Oc p) H vs ws) :
    RS K (cEx on) Oc H (sdP N.length u ws) (L2.start N (.ref p :: vs)) ∧ ∀ a, Mine (sdP N.length u ws) (L2.start N (.ref p :: vs)) a ↔ a = p := by
  have e0 : (sdP N.length u ws)[0]? = some (some (.par u)) := rfl
  have f0 : (L2.start N (.ref p :: vs))[0]? = some (some (.ref p)) := start_get rfl
  have nm : ∀ a, Mine (sdP N.length u ws) (L2.start N (.ref p :: vs)) a ↔ a = p := fun a => by
    constructor
    · rintro ⟨i, s, x, h1, h2, h3⟩
      rcases sdP_get h1 with ⟨rfl, _⟩ | ⟨j, y, rfl, _, rfl⟩
      · rw [f0] at h3; cases h3; rfl
      · cases h2
    · rintro rfl
      exact ⟨0, _, _, e0, rfl, f0⟩
  have ke : Ke (With Oc p) H (Ow Oc (sdP N.length u ws) (L2.start N (.ref p :: vs))) H := fun a x n e => ⟨fun z => n (z.imp id (nm a).mp), e⟩
  refine ⟨⟨by rw [sdP_len hl, start_len (by rw [List.length_cons, r.length]; exact hl)], fun i x e => ?_, fun i s x e1 e2 => ?_, fun i j s t x x' q ne e1 e2 e3 e4 e5 => ?_, oc⟩, nm⟩
  · rcases sdP_get e with ⟨_, z⟩ | ⟨j, y, rfl, e', z⟩
    · cases z
    · cases z
      obtain ⟨v, e1, r1⟩ := r.get e'
      exact ⟨v, start_get (vs := .ref p :: vs) (by simpa using e1), r1.mono ke fun _ _ z => z⟩
  · rcases sdP_get e1 with ⟨rfl, rfl⟩ | ⟨j, y, rfl, e', rfl⟩
    · cases e2
      exact ⟨p, f0, no, ob.mono ke (fun _ _ z => z) rfl⟩
    · cases e2
  · rcases sdP_get e1 with ⟨rfl, rfl⟩ | ⟨j', y, rfl, e', rfl⟩
    · rcases sdP_get e3 with ⟨rfl, rfl⟩ | ⟨j', y, rfl, e', rfl⟩
      · exact absurd rfl ne
      · cases e4
    · cases e2
theorem tS_P {X : Cx} {E : XK} {m : MS} {N : List Str} {H : Hp} {vs : List V} {Q : VK} {np : Nat} (hn : np ≤ N.length) (hK : X.K = K) (h : spP K T on (runP N.length m) np vs H Q E) : tS X (Yf T on E) m { nx := fun _ H' => Q .non H', rt := Q } (L2.start N vs) H := by
  subst hK
  obtain ⟨Oc, p, vs', u, ws, rfl, hl, oc, no, ob, r, h⟩ := h
  obtain ⟨rs, nm⟩ := startP (N := N) (by rw [hl]; exact hn) oc no ob r
  refine ⟨Oc, sdP N.length u ws, rs, ?_⟩
  unfold runP at h
  have e0 : (sdP N.length u ws)[0]? = some (some (.par u)) := rfl
  have f0 : (L2.start N (.ref p :: vs'))[0]? = some (some (.ref p)) := start_get rfl
  -- what the end tells of the object given
  have fin : ∀ {d' : SD} {σ' : St} {H' : Hp}, GoS X.K (cEx on) Oc (sdP N.length u ws) (L2.start N (.ref p :: vs')) H d' σ' H' → But p H H' ∧ ∃ u', parAt d' = some u' ∧ Ob X.K (cEx on) (With Oc p) H' p u' ∧ Ke (Ow Oc d' σ') H' (With Oc p) H' := fun {d' σ' H'} g => by
    refine ⟨fun a o na e => g.fr a o e fun z => na ((nm a).mp z), ?_⟩
    obtain ⟨⟨u', e1⟩, e2⟩ := g.par 0 u e0
    rw [f0] at e2
    have ke : Ke (Ow Oc d' σ') H' (With Oc p) H' := fun a x n e => ⟨fun z => n (by
      rcases z with z | z
      · exact .inl z
      · rw [z]; exact .inr ⟨0, _, _, e1, rfl, e2⟩), e⟩
    obtain ⟨q, e3, _, ob'⟩ := g.rs.own 0 _ _ e1 rfl
    rw [e2] at e3; cases e3
    refine ⟨u', ?_, ob'.mono ke (fun _ _ z => z) rfl, ke⟩
    cases d' with
    | nil => cases e1
    | cons a b => cases e1; rfl
  cases q : m (sdP N.length u ws) with
  | next d' =>
    rw [q] at h
    intro σ' H' g
    obtain ⟨b, u', e, ob', _⟩ := fin g
    dsimp only at h
    rw [e] at h
    exact h H' .non b ob' .non
  | brk d' => rw [q] at h; exact h.elim
  | cont d' => rw [q] at h; exact h.elim
  | bad => rw [q] at h; exact h.elim
  | exc c d' =>
    rw [q] at h
    intro σ' H' g
    obtain ⟨b, u', e, ob', _⟩ := fin g
    dsimp only at h
    rw [e] at h
    exact h H' b ob'
  | ret s d' =>
    rw [q] at h
    dsimp only at h
    cases s with
    | par w =>
      cases e : parAt d' with
      | none => rw [e] at h; exact h.elim
      | some u' => rw [e] at h; exact h.elim
    | val w =>
      intro σ' H' v g rv
      obtain ⟨b, u', e, ob', ke⟩ := fin g
      rw [e] at h
      exact h H' v b ob' (rv.mono ke fun _ _ z => z)
    | own w =>
      cases e : parAt d' with
      | none => rw [e] at h; exact h.elim
      | some u' => rw [e] at h; exact h.elim
/-- a def that writes the object given first -/
theorem fn_P {x qual : Str} {st : Stmt} {f : Addr} {fd : FuncData} {N ps : List Str} {k np : Nat} {m : MS} (F : Fun K x qual st f fd) (S : FnScope N ps (defScope st)) (hps : ps.length = np) (hnp : np ≤ N.length)
    (hb : ∀ (cdv : Value) (A : Around) (outer : List Env) (s : Shared) (H : Hp) (E : XK), Room k (A.deeper (envOfC qual (defScope st) s.heap.objs.size f cdv)) → DSs (cxOf (L2N.CX P w) P w K mg base N qual (defScope st) f cdv A outer s H E) (Yf T on E) (defBody st) m) :
    FnOk P w K mg base (L2N.CX P w) (k + 1) f fd ps (spP K T on (runP N.length m) np) := by
  refine okN F S (fun vs H Q E h => ?_) (fun cdv A outer s H vs Q E hr h => ⟨_, (hb cdv A outer s H E hr).ps, tS_P hnp rfl h⟩)
  obtain ⟨Oc, p, vs', u, ws, rfl, hl, oc, no, ob, r, h⟩ := h
  rw [List.length_cons, r.length, hl, hps]
end
end Qd
end
section
set_option Elab.async false
set_option linter.all false
set_option maxRecDepth 100000
/-! Operators and built-ins by their data. -/
namespace Qd
open PySem PySem.Spec PyProof.Rows L2
section
variable {K : PySem.W.Frag} {Ex : Addr → Nat → Prop} {O : Addr → Prop} {H : Hp} {vs : List V} {ws : List W} {p : Addr}
theorem rp_newTup (hO : ∀ p, O p → ∃ o, H p = some o) (np : H p = none) (r : RpA K Ex O H vs ws) : Same H (upd H p (.tup vs)) ∧ Rp K Ex O (upd H p (.tup vs)) (.ref p) (.tuple ws) := by
  have no : ¬ O p := fun z => by
    obtain ⟨o, e⟩ := hO p z
    rw [np] at e; cases e
  have sm : Same H (upd H p (.tup vs)) := same_new np
  exact ⟨sm, .tup (.inl ⟨no, upd_same⟩) (r.mono (same_ke sm) fun _ _ z => z)⟩
theorem rp_newLst (hO : ∀ p, O p → ∃ o, H p = some o) (np : H p = none) (r : RpA K Ex O H vs ws) : Same H (upd H p (.lst vs)) ∧ Rp K Ex O (upd H p (.lst vs)) (.ref p) (.list ws) := by
  have no : ¬ O p := fun z => by
    obtain ⟨o, e⟩ := hO p z
    rw [np] at e; cases e
  have sm : Same H (upd H p (.lst vs)) := same_new np
  exact ⟨sm, .lst (.inl ⟨no, .inl upd_same⟩) (r.mono (same_ke sm) fun _ _ z => z)⟩
end
section
variable {X : Cx}

/-! ### numbers -/
def i2 (c : Int → Int → Bool) (g : Int → Int → Int) : W → W → Option W := fun a b => match a, b with
  | .int i, .int j => if c i j = true then some (.int (g i j)) else none
  | _, _ => none
theorem i2_some {c : Int → Int → Bool} {g : Int → Int → Int} {a b r : W} (h : i2 c g a b = some r) : ∃ i j, a = .int i ∧ b = .int j ∧ c i j = true ∧ r = .int (g i j) := by
  unfold i2 at h
  split at h
  · split at h
    · rename_i z
      cases h
      exact ⟨_, _, rfl, rfl, z, rfl⟩
    · cases h
  · cases h
theorem opd_i2 {f : Value → Value → Sem Value} {C : Int → Int → Prop} {c : Int → Int → Bool} {g : Int → Int → Int} (h : OpR X f (rI C fun i j => .int (g i j))) (hc : ∀ i j, c i j = true → C i j) : OpD X f (i2 c g) :=
  ⟨_, h, fun Ex O H x y a b r Q _ e rx ry k => by
    obtain ⟨i, j, rfl, rfl, z, rfl⟩ := i2_some e
    exact ⟨i, j, rp_int rx, rp_int ry, hc _ _ z, k H _ (.refl _) (.int _)⟩⟩
theorem opd_i0 {f : Value → Value → Sem Value} {g : Int → Int → Int} (h : OpR X f (rI0 fun i j => .int (g i j))) : OpD X f (i2 (fun _ _ => true) g) :=
  ⟨_, h, fun Ex O H x y a b r Q _ e rx ry k => by
    obtain ⟨i, j, rfl, rfl, z, rfl⟩ := i2_some e
    exact ⟨i, j, rp_int rx, rp_int ry, k H _ (.refl _) (.int _)⟩⟩
abbrev subW := i2 (fun _ _ => true) fun i j => i - j
noncomputable abbrev fdivW := i2 (fun _ j => cdec (0 < j ∧ j.natAbs.log2 < 9000)) fun i j => i / j
noncomputable abbrev modW := i2 (fun _ j => cdec (0 < j)) fun i j => i % j
noncomputable abbrev powW := i2 (fun i j => cdec (0 ≤ j ∧ j ≤ 1000000 ∧ i.natAbs < 2 ^ 64)) fun i j => i ^ j.toNat
noncomputable abbrev shlW := i2 (fun i j => cdec (0 ≤ j ∧ j ≤ 1000000 ∧ i.natAbs < 2 ^ 64)) fun i j => i * 2 ^ j.toNat
noncomputable abbrev shrW := i2 (fun _ j => cdec (0 ≤ j)) fun i j => i / 2 ^ j.toNat
abbrev andW := i2 (fun _ _ => true) fun i j => Builtin.bitAnd i j
abbrev orW := i2 (fun _ _ => true) fun i j => Builtin.bitOr i j
abbrev xorW := i2 (fun _ _ => true) fun i j => Builtin.bitXor i j
theorem od_sub : OpD X (binaryOp .Sub) subW := opd_i0 op_sub
theorem od_fdiv : OpD X (binaryOp .FloorDiv) fdivW := opd_i2 op_fdivW fun _ j h => (cdec_iff.mp h : 0 < j ∧ j.natAbs.log2 < 9000)
theorem od_mod : OpD X (binaryOp .Mod) modW := opd_i2 op_mod fun _ _ h => cdec_iff.mp h
theorem od_pow : OpD X (binaryOp .Pow) powW := opd_i2 op_pow fun i j h => (cdec_iff.mp h : 0 ≤ j ∧ j ≤ 1000000 ∧ i.natAbs < 2 ^ 64)
theorem od_shl : OpD X (binaryOp .LShift) shlW := opd_i2 op_shl fun i j h => (cdec_iff.mp h : 0 ≤ j ∧ j ≤ 1000000 ∧ i.natAbs < 2 ^ 64)
theorem od_shr : OpD X (binaryOp .RShift) shrW := opd_i2 op_shr fun _ _ h => cdec_iff.mp h
theorem od_and : OpD X (binaryOp .BitAnd) andW := opd_i0 op_and
theorem od_or : OpD X (binaryOp .BitOr) orW := opd_i0 op_or
theorem od_xor : OpD X (binaryOp .BitXor) xorW := opd_i0 op_xor
def negW : W → Option W
  | .int i => some (.int (-i))
  | _ => none
theorem od_neg : UnD X (unaryOp .USub) negW := ⟨_, un_neg, fun Ex O H x a r Q _ e rx k => by
  cases a with
  | int i => cases e; exact ⟨i, rp_int rx, k H _ (.refl _) (.int _)⟩
  | _ => cases e⟩
/-! ints compared -/
def c2 (g : Int → Int → Bool) : W → W → Option W := fun a b => match a, b with
  | .int i, .int j => some (.bool (g i j))
  | _, _ => none
theorem c2_some {g : Int → Int → Bool} {a b r : W} (h : c2 g a b = some r) : ∃ i j, a = .int i ∧ b = .int j ∧ r = .bool (g i j) := by
  unfold c2 at h
  split at h
  · cases h; exact ⟨_, _, rfl, rfl, rfl⟩
  · cases h
theorem opd_c2 {f : Value → Value → Sem Value} {g : Int → Int → Bool} (h : OpR X f (rI0 fun i j => .bl (g i j))) : OpD X f (c2 g) :=
  ⟨_, h, fun Ex O H x y a b r Q _ e rx ry k => by
    obtain ⟨i, j, rfl, rfl, rfl⟩ := c2_some e
    exact ⟨i, j, rp_int rx, rp_int ry, k H _ (.refl _) (.bl _)⟩⟩
noncomputable abbrev ltI := c2 fun i j => cdec (i < j)
noncomputable abbrev leI := c2 fun i j => cdec (i ≤ j)
noncomputable abbrev gtI := c2 fun i j => cdec (j < i)
noncomputable abbrev geI := c2 fun i j => cdec (j ≤ i)
theorem od_ltI : OpD X (compareOp .Lt) ltI := by
  unfold ltI
  simp only [cdec_eq]
  exact opd_c2 op_lt
theorem od_leI : OpD X (compareOp .LtE) leI := by
  unfold leI
  simp only [cdec_eq]
  exact opd_c2 op_le
theorem od_gtI : OpD X (compareOp .Gt) gtI := by
  unfold gtI
  simp only [cdec_eq]
  exact opd_c2 op_gt
theorem od_geI : OpD X (compareOp .GtE) geI := by
  unfold geI
  simp only [cdec_eq]
  exact opd_c2 op_ge

/-! ### == of data -/
def okD (d : W) : Bool := noD d && SeqAt.shaped d
def eqW : W → W → Option W := fun a b => if (okD a && okD b) = true then some (.bool (PyData.eqv a b)) else none
def neW : W → W → Option W := fun a b => if (okD a && okD b) = true then some (.bool (!PyData.eqv a b)) else none
theorem okD_and {a b : W} (h : (okD a && okD b) = true) : (noD a = true ∧ SeqAt.shaped a = true) ∧ noD b = true ∧ SeqAt.shaped b = true := by
  unfold okD at h
  simpa only [Bool.and_eq_true] using h
theorem od_eq (hu : X.A.units + 64 < cLine) : OpD X (compareOp .Eq) eqW := ⟨_, op_eqD hu, fun Ex O H x y a b r Q _ e rx ry k => by
  unfold eqW at e
  split at e
  · rename_i z
    cases e
    obtain ⟨⟨h1, h2⟩, h3, h4⟩ := okD_and z
    exact ⟨a, b, rx.dp h1, ry.dp h3, h2, h4, k H _ (.refl _) (.bl _)⟩
  · cases e⟩
theorem od_ne (hu : X.A.units + 64 < cLine) : OpD X (compareOp .NotEq) neW := ⟨_, op_neD hu, fun Ex O H x y a b r Q _ e rx ry k => by
  unfold neW at e
  split at e
  · rename_i z
    cases e
    obtain ⟨⟨h1, h2⟩, h3, h4⟩ := okD_and z
    exact ⟨a, b, rx.dp h1, ry.dp h3, h2, h4, k H _ (.refl _) (.bl _)⟩
  · cases e⟩
def isNone : W → Bool
  | .none => true
  | _ => false
theorem rp_isNone {K : PySem.W.Frag} {Ex : Addr → Nat → Prop} {O : Addr → Prop} {H : Hp} {v : V} {w : W} (r : Rp K Ex O H v w) : decide (v = .non) = isNone w := by cases r <;> rfl
/-- x is None -/
def isNW : W → W → Option W := fun a b => if isNone b = true then some (.bool (isNone a)) else none
def notNW : W → W → Option W := fun a b => if isNone b = true then some (.bool (!isNone a)) else none
theorem rp_none {K : PySem.W.Frag} {Ex : Addr → Nat → Prop} {O : Addr → Prop} {H : Hp} {v : V} {w : W} (r : Rp K Ex O H v w) (h : isNone w = true) : v = .non := by cases r <;> first | rfl | cases h
theorem od_isN : OpD X (compareOp .Is) isNW := ⟨_, op_isN, fun Ex O H x y a b r Q _ e rx ry k => by
  unfold isNW at e
  split at e
  · rename_i z
    cases e
    exact ⟨rp_none ry z, by rw [rp_isNone rx]; exact k H _ (.refl _) (.bl _)⟩
  · cases e⟩
theorem od_notN : OpD X (compareOp .IsNot) notNW := ⟨_, op_notN, fun Ex O H x y a b r Q _ e rx ry k => by
  unfold notNW at e
  split at e
  · rename_i z
    cases e
    exact ⟨rp_none ry z, by rw [rp_isNone rx]; exact k H _ (.refl _) (.bl _)⟩
  · cases e⟩
/-- x is True, both truth values -/
def isBW : W → W → Option W := fun a b => match a, b with
  | .bool x, .bool y => some (.bool (decide (x = y)))
  | _, _ => none
def notBW : W → W → Option W := fun a b => match a, b with
  | .bool x, .bool y => some (.bool (!decide (x = y)))
  | _, _ => none
theorem rp_bool {K : PySem.W.Frag} {Ex : Addr → Nat → Prop} {O : Addr → Prop} {H : Hp} {v : V} {b : Bool} (r : Rp K Ex O H v (.bool b)) : v = .bl b := by cases r; rfl
theorem rp_str {K : PySem.W.Frag} {Ex : Addr → Nat → Prop} {O : Addr → Prop} {H : Hp} {v : V} {b : Str} (r : Rp K Ex O H v (.str b)) : v = .str b := by cases r; rfl
theorem od_isB : OpD X (compareOp .Is) isBW := ⟨_, op_isBl, fun Ex O H x y a b r Q _ e rx ry k => by
  unfold isBW at e
  split at e
  · cases e
    exact ⟨_, _, rp_bool rx, rp_bool ry, k H _ (.refl _) (.bl _)⟩
  · cases e⟩
theorem od_notB : OpD X (compareOp .IsNot) notBW := ⟨_, op_notBl, fun Ex O H x y a b r Q _ e rx ry k => by
  unfold notBW at e
  split at e
  · cases e
    exact ⟨_, _, rp_bool rx, rp_bool ry, k H _ (.refl _) (.bl _)⟩
  · cases e⟩

/-! ### + and * of more than numbers -/
/-- list + list, however the two lie -/
theorem op_catL : OpR X (binaryOp .Add) (fun x y H Q => ∃ l b xs zs, x = .ref l ∧ y = .ref b ∧ SqL X.K H l xs ∧ SqL X.K H b zs ∧ xs.length + zs.length ≤ sizeLine ∧ ∀ p, H p = none → Q (.ref p) (upd H p (.lst (xs ++ zs)))) := by
  intro pins s σ H x y v u Q I rx ry h
  obtain ⟨l, b, xs, zs, rfl, rfl, hH, hB, hz, q⟩ := h
  cases rx
  cases ry
  obtain ⟨us, r, ⟨⟨c1, d1, t1, s1⟩, n, ho, hc, hd, ht⟩, hl⟩ := I.list hH
  obtain ⟨us2, r2, ⟨⟨c2, d2, t2, s2⟩, n2, ho2, hc2, hd2, ht2⟩, hl2⟩ := I.list hB
  dsimp only at hc hd ht hc2 hd2 ht2
  subst hc hd ht hc2 hd2 ht2
  have e1 := r.length
  have e2 := r2.length
  refine concat_meets ⟨_, ho, rfl⟩ ⟨_, ho2, rfl⟩ noFill_list_add seq_list_add PySem.F.slot_list_add PySem.F.entry_list_add (PySem.F.args_list_add_2 _ _) (list_addW l b us.toArray us2.toArray n n2 _ _ s1 s2 (by rw [List.size_toArray, List.size_toArray]; omega)) ⟨ho, ho2, ?_⟩
  have ea : us.toArray ++ us2.toArray = (us ++ us2).toArray := by simp
  rw [ea]
  exact ⟨.ref _, _, I.lnew (t' := s.toks) (r.append r2) (by rw [List.length_append]; omega), rfl, q _ I.fresh⟩
def addW : W → W → Option W := fun a b => match a, b with
  | .int i, .int j => some (.int (i + j))
  | .str i, .str j => if i.length + j.length ≤ sizeLine then some (.str (i ++ j)) else none
  | .tuple xs, .tuple ys => if xs.length + ys.length ≤ sizeLine then some (.tuple (xs ++ ys)) else none
  | .list xs, .list ys => if xs.length + ys.length ≤ sizeLine then some (.list (xs ++ ys)) else none
  | _, _ => none
theorem RpA.nil_iff {K : PySem.W.Frag} {Ex : Addr → Nat → Prop} {O : Addr → Prop} {H : Hp} {vs : List V} {ws : List W} (r : RpA K Ex O H vs ws) : vs = [] ↔ ws = [] := by
  cases r <;> simp
theorem od_add : OpD X (binaryOp .Add) addW := by
  refine ⟨_, (op_add.or op_add_str).or (op_catA.or op_catL), fun Ex O H x y a b r Q hO e rx ry k => ?_⟩
  unfold addW at e
  split at e
  · cases e
    exact .inl (.inl ⟨_, _, rp_int rx, rp_int ry, k H _ (.refl _) (.int _)⟩)
  · split at e
    · rename_i z
      cases e
      exact .inl (.inr ⟨_, _, rp_str rx, rp_str ry, z, k H _ (.refl _) (.str _)⟩)
    · cases e
  · split at e
    · rename_i z
      cases e
      refine .inr (.inl ?_)
      cases rx with
      | tup l1 r1 =>
        cases ry with
        | tup l2 r2 =>
          refine ⟨_, _, _, _, rfl, rfl, l1.sq, l2.sq, by rw [r1.length, r2.length]; exact z, fun e1 => ?_, fun e1 e2 => ?_, fun e1 e2 p np => ?_⟩
          · rw [r1.nil_iff] at e1
            subst e1
            exact k H _ (.refl _) (.tup l2 r2)
          · rw [r2.nil_iff] at e2
            subst e2
            rw [List.append_nil] at k
            exact k H _ (.refl _) (.tup l1 r1)
          · exact k _ _ (rp_newTup hO np (r1.append r2)).1 (rp_newTup hO np (r1.append r2)).2
    · cases e
  · split at e
    · rename_i z
      cases e
      refine .inr (.inr ?_)
      cases rx with
      | lst l1 r1 =>
        cases ry with
        | lst l2 r2 =>
          refine ⟨_, _, _, _, rfl, rfl, l1.sq, l2.sq, by rw [r1.length, r2.length]; exact z, fun p np => ?_⟩
          exact k _ _ (rp_newLst hO np (r1.append r2)).1 (rp_newLst hO np (r1.append r2)).2
    · cases e
  · cases e
/-- * of two factors of together less than eight million bits -/
def CMulX (i j : Int) : Prop := i.natAbs.log2 + j.natAbs.log2 < 8000000
theorem CMulX.ok {i j : Int} (h : CMulX i j) : IntMulOk i j := by
  have b : ∀ x : Int, Builtin.Int.intBits x ≤ x.natAbs.log2 + 1 := fun x => by
    unfold Builtin.Int.intBits
    split <;> omega
  have h1 := b i
  have h2 := b j
  have h3 : i.natAbs.log2 + j.natAbs.log2 < 8000000 := h
  have e : bitsLine = 134217728 := by decide
  unfold IntMulOk
  intro z
  rw [Bool.and_eq_true] at z
  have z2 := z.2
  unfold Builtin.Int.intTooBig at z2
  have z3 := of_decide_eq_true z2
  rw [e] at z3
  omega
theorem op_mulX : OpR X (binaryOp .Mult) (rI CMulX fun i j => .int (i * j)) := opI fun _ _ _ _ _ _ _ hc q => mul_int q hc.ok
noncomputable def mulW : W → W → Option W := fun a b => match a, b with
  | .int i, .int j => if cdec (i.natAbs.log2 + j.natAbs.log2 < 8000000) = true then some (.int (i * j)) else none
  | .tuple xs, .int k => if cdec (xs ≠ [] ∧ 2 ≤ k ∧ k ≤ 1000 ∧ xs.length ≤ 1000) = true then some (.tuple (List.replicate k.toNat xs).flatten) else none
  | _, _ => none
theorem od_mul : OpD X (binaryOp .Mult) mulW := by
  refine ⟨_, op_mulX.or op_repT, fun Ex O H x y a b r Q hO e rx ry k => ?_⟩
  unfold mulW at e
  split at e
  · split at e
    · rename_i z
      have z := cdec_iff.mp z
      cases e
      exact .inl ⟨_, _, rp_int rx, rp_int ry, z, k H _ (.refl _) (.int _)⟩
    · cases e
  · split at e
    · rename_i z
      have z := cdec_iff.mp z
      cases e
      cases rx with
      | tup l1 r1 =>
        refine .inr ⟨_, _, _, rfl, rp_int ry, l1.sq, fun h => z.1 (r1.nil_iff.mp h), z.2.1, z.2.2.1, by rw [r1.length]; exact z.2.2.2, fun p np => ?_⟩
        exact k _ _ (rp_newTup hO np (r1.rep _)).1 (rp_newTup hO np (r1.rep _)).2
    · cases e
  · cases e
/-- a new list times a number -/
noncomputable def mRepF (a b : M W) : M W := fun d => (a d).bind fun x d1 => (b d1).bind fun y d2 => match x, y with
  | .list xs, .int k => if cdec (-(2 ^ 63) ≤ k ∧ k < 2 ^ 63 ∧ xs.length * k.toNat ≤ sizeLine) = true then .ok (.list (List.replicate k.toNat xs).flatten) d2 else .bad
  | _, _ => .bad
theorem df_rep {pa pb : Bool} {Y : Yx} {a b : Expr} {pos : Pos} {ma mb : M W} (ha : DF X Y pa a ma) (hb : DE X Y pb b mb) : DF X Y (pa && pb) (.BinOp a .Mult b pos) (mRepF ma mb) := ⟨by
  refine pe_weak (pe_op op_rep ha.pe hb.pe) fun σ H Q h => ?_
  obtain ⟨Oc, d, rs, h⟩ := h
  refine ⟨Oc, d, rs, (Po.bind h).imp fun x d1 H1 g1 h1 p np rsp ob => ?_⟩
  refine ⟨Oc, d1, g1.rs, ?_⟩
  have h2 := Po.bind1 h1
  cases q : mb d1 with
  | bad => rw [q] at h2; exact h2
  | exc c d2 => rw [q] at h2; exact h2
  | ok y d2 =>
    rw [q] at h2
    intro H2 g2 v2 r2
    have h3 := h2 H2 g2
    dsimp only at h3
    split at h3
    · rename_i xs k
      split at h3
      · rename_i z
        have z := cdec_iff.mp z
        obtain ⟨vs, e, ra⟩ := ob
        have ra' : RpA X.K Y.Ex (Ow Oc d1 σ) H1 vs xs := ra.mono ke_with fun _ _ z => z
        have nm : ¬ Mine d1 σ p := rsp.nMine (.inr rfl)
        have e2 : H2 p = some (.lst vs) := g2.fr p _ e nm
        have ra2 := g2.rpA ra'
        refine ⟨p, k, vs, rfl, rp_int r2, e2, z.1, z.2.1, by rw [ra.length]; exact z.2.2, fun t nt => ?_⟩
        exact h3 _ (.same g2.rs (same_new nt)) t ((g1.trans g2).free nt) (g2.rs.withNew nt) ⟨_, upd_same, (ra2.rep _).mono (ke_new nt) fun _ _ z => z⟩
      · exact h3.elim
    · exact h3.elim⟩

end
end Qd
end
section
set_option Elab.async false
set_option linter.all false
set_option maxRecDepth 100000
set_option maxHeartbeats 2000000
/-! Within an except suite: iteration over lists, tuples as targets, comprehensions. -/
namespace Qd
open PySem PySem.Spec PyProof.Rows L2 HotX L2H

section
variable {prog : Program} {w : World} {A : Around} {E : Value → Shared → Prop} {s : Shared}
/-- StopIteration is made, chained to what is handled, and caught -/
theorem stop_hot {α : Type} {x1 it : Addr} {h : Heap} {Q : Option Value → Shared → Prop} (hot : HotAt A x1 s.heap) (hne : x1 ≠ it) (sb : Heap.SameBut it s.heap h)
    (hQ : ∀ h', Heap.ExtBut it s.heap h' → Q none { s with heap := h' }) :
    wpAny (model prog w) A.in1 (Builtin.SmallTypes.stopIteration : Sem α) (fun v s1 => False) (fun e s1 => wpAny (model prog w) A (isInstance e (.type "StopIteration")) (fun b s2 => b = true ∧ Q none s2) E s1) { s with heap := h } := by
  obtain ⟨hh, o1, vs1, h1, d1, c1⟩ := hot
  have h1' : h.get? x1 = some o1 := (sb.2 x1 hne).trans h1
  show wpAny _ _ (newExc (.type "StopIteration") [] >>= _) _ _ _
  refine wpAny_bind ?_
  simp only [newExc, newTuple]
  refine wpAny_bind (wpAny_newObj_type ?_ (by size_fits))
  refine wpAny_bind (m := firstArgMember _ _) (wpAny_of_eq (a := Value.none) (by first | rfl | (simp only [firstArgMember]; rfl)) ?_)
  refine wpAny_newObj_type ?_ (by size_fits)
  refine raiseNew_hot (A := A.in1) ⟨hh, o1, vs1, Heap.get?_push_of_some _ (Heap.get?_push_of_some _ h1'), d1, c1⟩ (Nat.ne_of_lt (Heap.lt_size (Heap.get?_push_of_some _ h1'))) (Heap.get?_push_size _ rfl) rfl (by first | (simp; done) | (simp; omega) | (simp only [Array.size_append]; simp; omega)) ?_
  refine wpAny_isInstance (T := "StopIteration") (b := true) ⟨_, Heap.get?_update_self _ (Heap.get?_push_size _ rfl) rfl, rfl⟩ isSubtype_stop ⟨rfl, ?_⟩
  refine hQ _ fun b o hb e => ?_
  have e' : h.get? b = some o := (sb.2 b hb).trans e
  rw [Heap.get?_update_other _ _ (Nat.ne_of_gt (Heap.lt_size (Heap.get?_push_of_some _ e')))]
  exact Heap.get?_push_of_some _ (Heap.get?_push_of_some _ e')
theorem next_list_end_hot {it l x1 : Addr} {i : Nat} {items : Array Value} {Q : Option Value → Shared → Prop} (hot : HotAt A x1 s.heap) (hne : x1 ≠ it) (hit : s.heap.IsListIter it l i) (hl : s.heap.IsList l items) (hx : items[i]? = none)
    (hQ : ∀ h', Heap.ExtBut it s.heap h' → Q none { s with heap := h' }) : wpAny (model prog w) A (pyNext (.ref it)) Q E s := by
  obtain ⟨o, ho, hc, hd⟩ := id hit
  obtain ⟨ol, hol, _, nl, hdl⟩ := hl
  unfold pyNext
  refine wpAny_bind (wpAny_attempt (wpAny_callSpecial?_slot (name := Str.ofString "__next__") hit.typeIs slot_listiter_next (wpAny_call_entry slot_listiter_next hit.typeIs entry_listiter_next ?_ (args_listiter_next _))))
  show wpAny _ _ (field (.ref it) 0 >>= _) _ _ s
  refine wpAny_bind (wpAny_field ho hd (x := .ref l) rfl ?_)
  show wpAny _ _ (if (Value.ref l == Value.none) = true then _ else _) _ _ s
  rw [if_neg (show ¬ ((Value.ref l == Value.none) = true) from Bool.false_ne_true)]
  show wpAny _ _ (field (.ref it) 1 >>= _) _ _ s
  refine wpAny_bind (wpAny_field ho hd (x := .int i 0) rfl ?_)
  show wpAny _ _ (seqItems? (.ref l) >>= _) _ _ s
  refine wpAny_bind (wpAny_seqItems hol hdl ?_)
  simp only [Int.toNat_natCast, hx]
  refine wpAny_bind (wpAny_rule (wpAny_bind (wpAny_setField ho hd (by simp) ?_)))
  refine wpAny_mono (stop_hot (Q := Q) (E := E) hot hne (Heap.SameBut.update ..) hQ) (fun _ _ z => False.elim z) fun e s1 z => ?_
  exact wpAny_bind (wpAny_mono z (fun b s2 ⟨hb, q⟩ => by subst hb; exact wpAny_pure q) fun _ _ z => z)
theorem next_tup_end_hot {it l x1 : Addr} {i : Nat} {items : Array Value} {Q : Option Value → Shared → Prop} (hot : HotAt A x1 s.heap) (hne : x1 ≠ it) (hit : IsTupIter s.heap it l i) (hl : IsTup s.heap l items) (hx : items[i]? = none)
    (hQ : ∀ h', Heap.ExtBut it s.heap h' → Q none { s with heap := h' }) : wpAny (model prog w) A (pyNext (.ref it)) Q E s := by
  obtain ⟨o, ho, hc, hd⟩ := id hit
  obtain ⟨ol, hol, _, nl, hdl⟩ := hl
  unfold pyNext
  refine wpAny_bind (wpAny_attempt (wpAny_callSpecial?_slot (name := Str.ofString "__next__") hit.typeIs slot_tupleiter_next (wpAny_call_entry slot_tupleiter_next hit.typeIs entry_tupleiter_next ?_ (args_tupleiter_next _))))
  show wpAny _ _ (field (.ref it) 0 >>= _) _ _ s
  refine wpAny_bind (wpAny_field ho hd (x := .ref l) rfl ?_)
  show wpAny _ _ (if (Value.ref l == Value.none) = true then _ else _) _ _ s
  rw [if_neg (show ¬ ((Value.ref l == Value.none) = true) from Bool.false_ne_true)]
  show wpAny _ _ (field (.ref it) 1 >>= _) _ _ s
  refine wpAny_bind (wpAny_field ho hd (x := .int i 0) rfl ?_)
  show wpAny _ _ (seqItems? (.ref l) >>= _) _ _ s
  refine wpAny_bind (wpAny_seqItems hol hdl ?_)
  simp only [Int.toNat_natCast, hx]
  refine wpAny_bind (wpAny_rule (wpAny_bind (wpAny_setField ho hd (by simp) ?_)))
  refine wpAny_mono (stop_hot (Q := Q) (E := E) hot hne (Heap.SameBut.update ..) hQ) (fun _ _ z => False.elim z) fun e s1 z => ?_
  exact wpAny_bind (wpAny_mono z (fun b s2 ⟨hb, q⟩ => by subst hb; exact wpAny_pure q) fun _ _ z => z)
/-- a tuple's items into targets -/
theorem assign_tup_hot {x1 : Addr} {env : Env} {elts : List Expr} {k : Nat} {pos : Pos} {t : Addr} {items : Array Value} {Q : Unit → Shared → Prop} (hot : HotAt A x1 s.heap) (ht : IsTup s.heap t items)
    (hn : (assignEach elts env).length = items.size) (hstar : (assignEach elts env).findIdx? (·.1) = none)
    (h : ∀ h', Heap.ExtBut s.heap.objs.size s.heap h' → wpAny (model prog w) A (assignInOrder ((assignEach elts env).map (·.2)) items.toList) Q E { s with heap := h' }) :
    wpAny (model prog w) A (assign (.Tuple elts k pos) env (.ref t)) Q E s := by
  rw [assign_Tuple]
  refine wpAny_bind (wpAny_standAt ?_)
  unfold unpack
  rw [hn, hstar]
  refine wpAny_bind (wpAny_holding ?_)
  have hlt : t ≠ s.heap.objs.size := by obtain ⟨o, ho, _⟩ := ht; exact Nat.ne_of_lt (Heap.lt_size ho)
  have hx1 : x1 ≠ s.heap.objs.size := by obtain ⟨_, o, vs, ho, _⟩ := hot; exact Nat.ne_of_lt (Heap.lt_size ho)
  unfold unpackItems
  refine wpAny_bind ?_
  unfold notIterableAtAll
  refine wpAny_bind (wpAny_specialOf ht.typeIs slot_tuple_iter.lookup ?_)
  refine wpAny_pure ?_
  simp only [Bool.false_eq_true, if_false]
  refine wpAny_bind (wpAny_holding (iter_tuple ht ?_))
  refine wpAny_bind (wpAny_holding (draw_tuple hlt items.size 0 _ _ ⟨_, Heap.get?_push_size _ rfl, rfl, rfl⟩ (ht.push _) (by omega) fun h₁ hit₁ hs₁ => ?_))
  rw [show List.take items.size (List.drop 0 items.toList) = items.toList by rw [List.drop_zero]; exact List.take_of_length_le (by simp)]
  rw [if_neg (by simp)]
  have ht₁ : IsTup h₁ t items := (ht.push _).extBut hs₁.extBut hlt
  obtain ⟨hh, o, vs, g1, g2, g3⟩ := hot
  have hot₁ : HotAt A x1 h₁ := ⟨hh, o, vs, hs₁.extBut x1 o hx1 (Heap.get?_push_of_some _ g1), g2, g3⟩
  refine wpAny_bind (wpAny_holding (next_tup_end_hot (s := { s with heap := h₁ }) hot₁ hx1 hit₁ ht₁ (by simp) fun h₂ he₂ => ?_))
  simp only [Option.isSome_none, Bool.false_eq_true, if_false]
  exact wpAny_pure (h h₂ fun b o hb e => he₂ b o hb (hs₁.extBut b o hb (Heap.get?_push_of_some _ e)))
end

theorem turn_listH {P : Program} {w : World} {K : PySem.W.Frag} {tg : Expr} (a it : Addr) : TurnH P w K tg (Itl K a) [it] it (fun i h => h.IsListIter it a i) where
  mem := by simp
  obj := fun i h st b hb => by
    have e : b = it := by simpa using hb
    subst e
    obtain ⟨o, e, c, d⟩ := st
    exact ⟨o, e, fun v z => by rw [d] at z; cases z⟩
  keep := fun i h h' st k => st.at fun o e => k it (by simp) o e
  item := by
    intro X hP hw hK hc i pins s σ H E I hf st hg
    subst hP hw hK
    obtain ⟨xs, x, hq, hx⟩ := hg
    obtain ⟨its, rv, p, hz⟩ := I.list hq
    obtain ⟨u, hu, ru⟩ := rv.get hx
    obtain ⟨f0, f1, f2, f3, f4, f5⟩ := hf it (by simp)
    refine wpAny_pyNext_list_item st p.isList (x := u) (by simpa using hu) fun h' st' sb => ?_
    have I1 : Inv X pins σ H { s with heap := h' } := I.turned (t' := s.toks) (fun b o hb e => (sb.2 b hb).trans e) f0 f1 f3 f4 f5
    obtain ⟨o, e, c, d⟩ := id st'
    exact ⟨u, rfl, go_of (s := { s with heap := h' }) e c d (by decide) ⟨x, H, I1, ru, ⟨rfl, fun ys hy => by rw [I.list_inj hy hq]; exact hx⟩, st', fun b hb => (hf b hb).1⟩⟩
  done := by
    intro X hP hw hK hc i pins s σ H E I hf st hg
    subst hP hw hK
    obtain ⟨xs, hq, hx⟩ := hg
    obtain ⟨its, rv, p, hz⟩ := I.list hq
    obtain ⟨f0, f1, f2, f3, f4, f5⟩ := hf it (by simp)
    have hl := rv.length
    obtain ⟨q, ⟨hh, vs, e1, e2⟩, hp⟩ := hc
    have hpin := I.pin q (List.mem_append_left _ hp)
    exact next_list_end_hot (x1 := q.1) ⟨hh, q.2, vs, hpin.1, e1, e2⟩ (f5 q (List.mem_append_left _ hp)) st p.isList (by simp; omega) fun h' eb => ⟨rfl, I.turned (t' := s.toks) (fun b o hb e => eb b o hb e) f0 f1 f3 f4 f5⟩
  self := fun _ _ _ _ _ st h => wpAny_pyIter_listiter st h
section
variable {X : Cx}
theorem pi_listH {tg l : Expr} {tl : TE} (hl : PE X l tl) : PIH X tg l (iList X.K tl) := by
  refine ⟨fun pins s σ H R I h => ?_⟩
  refine thn (hl.run pins s σ H _ I h) fun v s1 ⟨x, H1, I1, r1, q1⟩ => ?_
  obtain ⟨a, e, ⟨xs, hq⟩, q⟩ := q1
  subst e
  cases r1
  obtain ⟨its, rv, p, hz⟩ := I1.list hq
  refine wpAny_pyIter_list p.isList ?_
  refine ⟨s1.heap.objs.size, [s1.heap.objs.size], _, _, H1, rfl, I1.kept (t' := s1.toks) fun b o e => Heap.get?_push_of_some _ e, turn_listH a _, ⟨_, Heap.get?_push_size _ rfl, rfl, rfl⟩, fun b hb => ?_, q⟩
  have e : b = s1.heap.objs.size := by simpa using hb
  subst e
  exact I1.fpOk (Nat.le_refl _) (I1.hok.fresh (Nat.le_refl _))
theorem pg_tupH {es : List Expr} {k : Nat} {pos : Pos} {t : TGs} {n : Nat} (hc : HotC X) (h : PGs X es t) (hn : (assignEach es X.env).length = n := by rfl) (hst : (assignEach es X.env).findIdx? (·.1) = none := by rfl) : PG X (.Tuple es k pos) (gTup X.K n t) := by
  refine ⟨fun pins s σ H v u Q I r hw => ?_⟩
  obtain ⟨a, xs, e1, hq, hl, hw⟩ := hw
  subst e1
  cases r
  obtain ⟨its, rv, ht, hz⟩ := I.tuple hq
  obtain ⟨x1, hot⟩ := hc.at I
  refine assign_tup_hot hot ht (by simp [hn, ← hl, rv.length]) hst fun h' hx => ?_
  have I1 : Inv X pins σ H { s with heap := h' } := I.kept (t' := s.toks) fun b o e => hx b o (Nat.ne_of_lt (Heap.lt_size e)) e
  exact h.run pins _ σ H xs _ Q I1 (by simpa using rv) hw
/-- a comprehension's block within a suite: the handled exception stays pinned -/
abbrev blkH (X : Cx) (s : Shared) (H : Hp) (scope : Scope) (cenv : Env) (fp : List Addr) (p : Addr × Obj) : Cx := { X.blk s H scope cenv fp with pn := [p] }
theorem invToH {σ : St} {H H' : Hp} {s s' : Shared} {scope : Scope} {cenv : Env} {fp : List Addr} {p : Addr × Obj} (I : Inv (X.blk s' H' scope cenv fp) [] σ H s) (hp : s.heap.get? p.1 = some p.2 ∧ H p.1 = none ∧ p.1 ≠ cenv.locals ∧ p.1 ∉ frs X.stack ∧ ∀ v, p.2.data ≠ .cell v) : Inv (blkH X s' H' scope cenv fp p) [] σ H s :=
  ⟨⟨I.ok.mod, I.ok.kind, I.ok.glob, I.ok.blt, I.ok.above, I.ok.inj, I.ok.has, I.ok.cab, I.ok.hd, I.ok.frames, I.ok.stk, I.ok.exf, I.ok.bs, I.ok.bsz, I.ok.noex, I.ok.exfs, I.ok.funs, I.ok.frf⟩, I.os, I.bare, I.base, I.loc, I.cell, I.free, I.freeC, fun q hq => by
    rw [List.append_nil, List.mem_singleton] at hq
    subst hq
    exact hp, I.hok, I.len⟩
/-- [elt for tg in iter if ..] within a suite -/
theorem lc_coreH {pins : List (Addr × Obj)} {s : Shared} {σ : St} {H : Hp} {Q : VK} {elt tg iter : Expr} {ifs : List Expr} {scope : Scope} {own : List (Str × Nat)} {pos pos' : Pos} {wi : TI} {g : TG} {tt : TT} {te : TE} {use : Option (Value → Sem Unit)} {Qf : Value → Shared → Prop}
    (hc : HotC X) (hN : X.N.Nodup) (I : Inv X pins σ H s) (hi : PIH X tg iter wi) (ok : BlkOk X.N X.env.scope scope own)
    (hg : ∀ (s : Shared) (H : Hp) (C : Addr) (cl : List (Str × Addr)) (fp : List Addr) (p : Addr × Obj), Hot1 X.A p → PG (blkH X s H scope (compEnvC scope cl C X.env) fp p) tg g)
    (ht : ∀ (s : Shared) (H : Hp) (C : Addr) (cl : List (Str × Addr)) (fp : List Addr) (p : Addr × Obj), Hot1 X.A p → PTs (blkH X s H scope (compEnvC scope cl C X.env) fp p) ifs tt)
    (he : ∀ (s : Shared) (H : Hp) (C : Addr) (cl : List (Str × Addr)) (fp : List Addr) (p : Addr × Obj), Hot1 X.A p → PE (blkH X s H scope (compEnvC scope cl C X.env) fp p) elt te)
    (hs : ∀ x, foldedSetIterable iter X.env x = pure x) (h : tLc wi g tt te (own.map (·.2)) σ H Q)
    (hRR : ∀ D C s' m H', Inv X pins σ H' s' → Q (.ref D) H' → s'.heap.Ns C m → FpOk X pins H' C → compPost (model X.prog X.w) X.A X.xe use Qf (.ref D) C (.ok .next) s') :
    wpAny (model X.prog X.w) X.A (comprehension (.ListComp elt [⟨tg, iter, ifs, 0⟩] scope pos) scope X.env pos' (newList []) false (eval iter X.env) use) Qf X.xe s := by
  obtain ⟨p, hot, hpm⟩ := hc
  have hc : HotC X := ⟨p, hot, hpm⟩
  have hfree : ∀ y ∈ scope.names, y.2 = .free → ∃ c, X.env.cells.lookup y.1 = some c := fun y hy e => I.ok.has _ (by rcases ok.free y hy e with k | k; exact .inl k; exact .inr k)
  refine wpAny_comprehension_free (use := use) rfl hs (closure_ok hfree) ok.kind (fun y hy e => by rw [ok.uniq y hy, e]) (thn (hi.run pins s σ H _ I h) fun xv s1 hx => thn hx fun itv s2 h2 => ?_)
  obtain ⟨it, fp, tn, J, H2, e, I2, T, st2, f2, q⟩ := h2
  subst e
  refine wpAny_newObj_type (newEnv_comp ?_) (by show 0 ≤ sizeLine; decide)
  -- the new list at D
  generalize hD : s2.heap.objs.size = D
  have hDn : H2 D = none := I2.hok.fresh (Nat.le_of_eq hD)
  obtain ⟨W, ⟨m0, w0⟩, turn⟩ := q D hDn
  generalize hs3 : ({ s2 with heap := s2.heap.push { cls := .type "list", data := .seq ([] : List Value).toArray } } : Shared) = s3
  have h3 : s3.heap = s2.heap.push { cls := .type "list", data := .seq ([] : List Value).toArray } := by rw [← hs3]
  have I3 : Inv X pins σ (upd H2 D (.lst [])) s3 := by
    rw [← hs3]
    exact I2.laid (t' := s2.toks) (fun b o e => Heap.get?_push_of_some _ e) (Nat.le_of_eq hD) ⟨Nat.zero_le _, [], 0, .nil, by rw [← hD]; exact Heap.get?_push_size _ rfl⟩
  have f3 : ∀ b ∈ fp, FpOk X pins (upd H2 D (.lst [])) b ∧ b < s3.heap.objs.size := fun b hb => by
    obtain ⟨o, e, _⟩ := T.obj _ _ st2 b hb
    have hlt := Heap.lt_size e
    exact ⟨⟨by rw [upd_ne (by rw [← hD]; exact Nat.ne_of_lt hlt)]; exact (f2 b hb).1, (f2 b hb).2⟩, by rw [h3, Heap.size_push]; exact Nat.lt_succ_of_lt hlt⟩
  have st3 : tn 0 s3.heap := T.keep _ _ _ st2 fun b _ o e => by rw [h3]; exact Heap.get?_push_of_some _ e
  have I4 := block_start I3 ok hN f3
  generalize hcl : cellsFrom (s3.heap.objs.size + 1) scope.names (cloFrom X.env.cells scope.names []) = cl at I4 ⊢
  show codeAny _ _ (.compStart (.ListComp elt [⟨tg, iter, ifs, 0⟩] scope pos) 0 (.ref it) (.ref D) (compEnvC scope cl s3.heap.objs.size X.env)) (compPost (model X.prog X.w) X.A X.xe use Qf (.ref D) s3.heap.objs.size) { s3 with heap := pushCells (s3.heap.push { cls := .type "dict", data := .dict #[] }) scope.names }
  have pg := hg s3 (upd H2 D (.lst [])) s3.heap.objs.size cl fp p hot
  have pt := ht s3 (upd H2 D (.lst [])) s3.heap.objs.size cl fp p hot
  have pe := he s3 (upd H2 D (.lst [])) s3.heap.objs.size cl fp p hot
  have nfp : ∀ b ∈ fp, (upd H2 D (.lst [])) b = none := fun b hb => (f3 b hb).1.1
  have hp3 := I3.pin p (List.mem_append_left _ hpm)
  generalize hce : compEnvC scope cl s3.heap.objs.size X.env = ce at I4 pg pt pe ⊢
  have cL : ce.locals = s3.heap.objs.size := by subst hce; rfl
  generalize hH3 : upd H2 D (.lst []) = H3 at I3 I4 pg pt pe w0 nfp f3 hp3
  generalize hs4 : ({ s3 with heap := pushCells (s3.heap.push { cls := .type "dict", data := .dict #[] }) scope.names } : Shared) = s4 at I4 ⊢
  have kp4 : ∀ b o, s3.heap.get? b = some o → s4.heap.get? b = some o := fun b o e => by rw [← hs4]; exact pushCells_keeps _ _ _ _ (Heap.get?_push_of_some _ e)
  have st4 : tn 0 s4.heap := T.keep _ _ _ st3 fun b _ o e => kp4 b o e
  have J4 : Inv (blkH X s3 H3 scope ce fp p) [] (wipe σ (own.map (·.2))) H3 s4 := invToH I4 ⟨kp4 _ _ hp3.1, hp3.2.1, by rw [cL]; exact Nat.ne_of_lt (Heap.lt_size hp3.1), fun z => by
    rcases List.mem_cons.mp (I3.stkSub _ z) with e | e
    · exact hp3.2.2.1 e
    · exact hp3.2.2.2.1 e, hp3.2.2.2.2⟩
  have hcB : HotC (blkH X s3 H3 scope ce fp p) := ⟨p, hot, List.mem_singleton.mpr rfl⟩
  have stat : ∀ {σ' : St} {H' : Hp} {s' : Shared}, Inv (blkH X s3 H3 scope ce fp p) [] σ' H' s' → (∀ b ∈ fp, H' b = none) → ∀ b ∈ fp, FpOk (blkH X s3 H3 scope ce fp p) [] H' b := fun {σ' H' s'} I' hn b hb =>
    ⟨hn b hb, (I'.ok.exf b hb).1, I'.ok.exfs b hb, .inl hb, fun x c e => (I'.ok.exf b hb).2 x c e, fun q hq => by
      have hq : q ∈ [p] ++ [] := hq
      rw [List.append_nil, List.mem_singleton] at hq
      rw [hq]
      exact (f3 b hb).1.2.2.2.2.2 p (List.mem_append_left _ hpm)⟩
  have loop : codeAny (model X.prog X.w) X.A (.compLoop (.ListComp elt [⟨tg, iter, ifs, 0⟩] scope pos) 0 (.ref it) (.ref D) ce) (compPost (model X.prog X.w) X.A X.xe use Qf (.ref D) s3.heap.objs.size) s4 := by
    refine compLoop_any (fun n s' => ∃ i H', Inv (blkH X s3 H3 scope ce fp p) [] (wipe σ (own.map (·.2))) H' s' ∧ tn i s'.heap ∧ (∀ b ∈ fp, H' b = none) ∧ W i n H') ?_ m0 ⟨0, H3, J4, st4, nfp, w0⟩
    rintro n s5 ⟨i, H5, I5, st5, n5, w5⟩
    rcases turn i n H5 w5 with ⟨stop, qq⟩ | ⟨go, Nx, hNx, step⟩
    · refine thnF (T.done (blkH X s3 H3 scope ce fp p) rfl rfl rfl hcB i [] s5 _ H5 (fun _ _ => False) I5 (stat I5 n5) st5 stop) fun r s6 ⟨hr, I6⟩ => ?_
      subst hr
      have I7 : Inv X pins σ H5 s6 := I3.call' (ch := fp) I6.os I6.base I6.hok I6.bare fun b hb => ⟨(f3 b hb).1.2.2.2.1, (f3 b hb).1.2.1, (f3 b hb).1.2.2.2.2.1, (f3 b hb).1.2.2.2.2.2⟩
      have nC : H5 s3.heap.objs.size = none := by
        have z : H5 ce.locals = none := I6.free
        rw [cL] at z
        exact z
      obtain ⟨m, hn, _⟩ := I6.loc
      have hn : s6.heap.Ns ce.locals m := hn
      rw [cL] at hn
      exact hRR D s3.heap.objs.size s6 m H5 I7 qq hn (I3.fpOk (Nat.le_refl _) nC)
    · refine thnF (T.item (blkH X s3 H3 scope ce fp p) rfl rfl rfl hcB i [] s5 _ H5 (fun _ _ => False) I5 (stat I5 n5) st5 go) fun r s6 ⟨u, hr, h6⟩ => ?_
      subst hr
      refine thnF h6 fun _ s7 ⟨x, H7, I7, r7, y7, st7, n7⟩ => ?_
      refine thnF (pg.run _ s7 _ H7 x u _ (I7.pinned (stat I7 n7) (T.obj _ _ st7)) r7 (step x H7 y7)) fun _ s8 ⟨σ8, H8, I8, hw8, q8⟩ => ?_
      refine thnF (pt.run _ s8 σ8 H8 _ I8 q8) fun b s9 ⟨H9, I9, q9⟩ => ?_
      have fin : ∀ {s' : Shared} {H' : Hp}, Inv (blkH X s3 H3 scope ce fp p) ([] ++ pinsAt fp s7.heap) σ8 H' s' → Nx H' → ∃ m, m < n ∧ ∃ i H', Inv (blkH X s3 H3 scope ce fp p) [] (wipe σ (own.map (·.2))) H' s' ∧ tn i s'.heap ∧ (∀ b ∈ fp, H' b = none) ∧ W i m H' := fun {s' H'} I' nx => by
        obtain ⟨m', hm, w'⟩ := hNx H' nx
        have pin' : ∀ b ∈ fp, ∀ o, s7.heap.get? b = some o → s'.heap.get? b = some o ∧ H' b = none := fun b hb o e =>
          let z := I'.pin (b, o) (List.mem_append_right _ (List.mem_append_right _ (mem_pinsAt hb e)))
          ⟨z.1, z.2.1⟩
        have hl : (wipe σ (own.map (·.2))).length = σ8.length := by rw [← hw8, wipe_length]
        refine ⟨m', hm, i + 1, H', (I'.unpinned (pins := [])).weak hl (fun j v e => by rw [← hw8] at e; exact (wipe_some e).1), T.keep _ _ _ st7 fun b hb o e => (pin' b hb o e).1, fun b hb => ?_, w'⟩
        obtain ⟨o, e, _⟩ := T.obj _ _ st7 b hb
        exact (pin' b hb o e).2
      cases b with
      | false =>
        simp only [Bool.false_eq_true, if_false] at q9 ⊢
        exact fin I9 q9
      | true =>
        simp only [if_true] at q9 ⊢
        refine thnF (pe.run _ s9 σ8 H9 _ I9 q9) fun z s10 ⟨yv, H10, I10, r10, acc, hD10, hz10, nx⟩ => ?_
        exact app_ok (X := blkH X s3 H3 scope ce fp p) I10 hD10 hz10 r10 fun s11 I11 => fin I11 nx
  exact codeAny_compStart_list loop (T.self X.A 0 _ _ _ st4 loop)
theorem pe_lcH {elt tg iter : Expr} {ifs : List Expr} {scope : Scope} {own : List (Str × Nat)} {pos : Pos} {wi : TI} {g : TG} {tt : TT} {te : TE} (hc : HotC X) (hN : X.N.Nodup) (hi : PIH X tg iter wi) (ok : BlkOk X.N X.env.scope scope own)
    (hg : ∀ (s : Shared) (H : Hp) (C : Addr) (cl : List (Str × Addr)) (fp : List Addr) (p : Addr × Obj), Hot1 X.A p → PG (blkH X s H scope (compEnvC scope cl C X.env) fp p) tg g)
    (ht : ∀ (s : Shared) (H : Hp) (C : Addr) (cl : List (Str × Addr)) (fp : List Addr) (p : Addr × Obj), Hot1 X.A p → PTs (blkH X s H scope (compEnvC scope cl C X.env) fp p) ifs tt)
    (he : ∀ (s : Shared) (H : Hp) (C : Addr) (cl : List (Str × Addr)) (fp : List Addr) (p : Addr × Obj), Hot1 X.A p → PE (blkH X s H scope (compEnvC scope cl C X.env) fp p) elt te)
    (hs : ∀ x, foldedSetIterable iter X.env x = pure x := by intro _; rfl) : PE X (.ListComp elt [⟨tg, iter, ifs, 0⟩] scope pos) (tLc wi g tt te (own.map (·.2))) := by
  refine ⟨fun pins s σ H Q I h => ?_⟩
  rw [eval_ListComp]
  refine lc_coreH hc hN I hi ok hg ht he hs h fun D C s' m H' I' q hn f => ⟨m, hn, fun h'' sb => ?_⟩
  obtain ⟨f0, f1, f2, f3, f4, f5⟩ := f
  exact ⟨.ref D, H', I'.turned (t' := s'.toks) (fun b o hb e => (sb.2 b hb).trans e) f0 f1 f3 f4 f5, rfl, q⟩
/-- name = [..] on one line -/
theorem ps_setLcH {i : Nat} {y : Str} {py : Pos} {elt tg iter : Expr} {ifs : List Expr} {scope : Scope} {own : List (Str × Nat)} {pos spos : Pos} {wi : TI} {g : TG} {tt : TT} {te : TE} (hc : HotC X) (hN : X.N.Nodup) (hy : X.N[i]? = some y) (hyl : X.env.scope.names.lookup y = some .local)
    (hsw : swapsWith (.ListComp elt [⟨tg, iter, ifs, 0⟩] scope pos) (some (.Name y py)) spos.line X.env = pure true) (hi : PIH X tg iter wi) (ok : BlkOk X.N X.env.scope scope own)
    (hg : ∀ (s : Shared) (H : Hp) (C : Addr) (cl : List (Str × Addr)) (fp : List Addr) (p : Addr × Obj), Hot1 X.A p → PG (blkH X s H scope (compEnvC scope cl C X.env) fp p) tg g)
    (ht : ∀ (s : Shared) (H : Hp) (C : Addr) (cl : List (Str × Addr)) (fp : List Addr) (p : Addr × Obj), Hot1 X.A p → PTs (blkH X s H scope (compEnvC scope cl C X.env) fp p) ifs tt)
    (he : ∀ (s : Shared) (H : Hp) (C : Addr) (cl : List (Str × Addr)) (fp : List Addr) (p : Addr × Obj), Hot1 X.A p → PE (blkH X s H scope (compEnvC scope cl C X.env) fp p) elt te)
    (hs : ∀ x, foldedSetIterable iter X.env x = pure x := by intro _; rfl) : PS X (.Assign [.Name y py] (.ListComp elt [⟨tg, iter, ifs, 0⟩] scope pos) spos) (tAsg (tLc wi g tt te (own.map (·.2))) (gName i)) := by
  refine ⟨fun pins s σ H D I h => ?_⟩
  rw [exec_Assign_Name_used _ _ _ _ hsw]
  refine wpAny_bind (wpAny_standAt (wpAny_bind ?_))
  have h : tLc wi g tt te (own.map (·.2)) σ H (fun x H1 => gName i x σ H1 D.nx) := h
  refine wpAny_bind (thn (lc_coreH (use := some (assign (.Name y py) X.env)) (pos' := firstIterPos [⟨tg, iter, ifs, 0⟩] pos) (Qf := fun _ s' => SP X pins D .next s') hc hN I hi ok hg ht he hs h fun L C s' m H' I' q hn f => ?_) fun _ s' hq => wpAny_pure (wpAny_pure hq))
  show wpAny _ _ (assign (.Name y py) X.env (.ref L)) _ _ _
  refine wpAny_assign_Name (store_ok2 (v := V.ref L) I' hN hy (.inl hyl) rfl (fun s2 I2 ⟨a, sb, ha⟩ => ?_) (.inr hyl))
  obtain ⟨f0, f1, f2, f3, f4, f5⟩ := f
  have haC : C ≠ a := ha.elim (fun z => by rw [z]; exact f1) fun z e => f4 y a z e.symm
  exact ⟨m, hn.sameBut sb haC, fun h3 sb3 => ⟨_, H', I2.turned (t' := s2.toks) (fun b o hb e => (sb3.2 b hb).trans e) f0 f1 f3 f4 f5, q⟩⟩
end

/-! ### by data -/
theorem dg_tupH {X : Cx} {Y : Yx} {es : List Expr} {k : Nat} {pos : Pos} {g : GWs} {n : Nat} {is : List Nat} (hc : HotC X) (h : DGs X Y es g is) (hn : (assignEach es X.env).length = n := by rfl) (hst : (assignEach es X.env).findIdx? (·.1) = none := by rfl) : DG X Y (.Tuple es k pos) (gTupW n g) is := by
  refine ⟨fun w d d' e => ?_, pg_weak (pg_tupH hc h.pg hn hst) fun v σ H Q ⟨Oc, d, w, d', rs, r, e, k⟩ => ?_⟩
  · obtain ⟨ws, rfl, _, e⟩ := gTupW_some e
    exact h.only _ _ _ e
  · obtain ⟨ws, rfl, el, e⟩ := gTupW_some e
    cases r with
    | tup a b => exact ⟨_, _, rfl, a.sq, b.length.trans el, Oc, d, _, d', rs, b, e, k⟩
structure DIH (X : Cx) (Y : Yx) (pu : Bool) (tg e : Expr) (m : M (List W)) : Prop where
  pi : ∃ wi, PIH X tg e wi ∧ ∀ σ H R, tI X Y pu m σ H R → wi σ H R
section
variable {X : Cx} {Y : Yx}
theorem di_listH {pu : Bool} {tg e : Expr} {m : M W} (h : DE X Y pu e m) : DIH X Y pu tg e (mItL m) := by
  refine ⟨_, pi_listH h.pe, fun σ H R h => ?_⟩
  obtain ⟨Oc, d, rs, h⟩ := h
  refine ⟨Oc, d, rs, (Po.bind1 h).imp fun w d1 H1 g1 h1 v r => ?_⟩
  obtain ⟨ws, ew, k⟩ := Po.opt h1
  cases r with
  | lst l r =>
    cases ew
    exact ⟨_, rfl, ⟨_, l.sq⟩, k H1 (.refl g1.rs) _ _ wk_list ⟨_, l, r⟩⟩
  | _ => cases ew
theorem df_lcH {pi pt pe : Bool} {elt tg iter : Expr} {ifs : List Expr} {scope : Scope} {own : List (Str × Nat)} {pos : Pos} {mi : M (List W)} {g : GW} {is : List Nat} {t : M Bool} {e : M W} (hc : HotC X) (hN : X.N.Nodup) (hi : DIH X Y pi tg iter mi) (ok : BlkOk X.N X.env.scope scope own) (his : ∀ i ∈ is, i ∈ own.map (·.2))
    (hg : ∀ (s : Shared) (H : Hp) (C : Addr) (cl : List (Str × Addr)) (fp : List Addr) (p : Addr × Obj), Hot1 X.A p → DG (blkH X s H scope (compEnvC scope cl C X.env) fp p) Y.blk tg g is) (ht : ∀ (s : Shared) (H : Hp) (C : Addr) (cl : List (Str × Addr)) (fp : List Addr) (p : Addr × Obj), Hot1 X.A p → DTs (blkH X s H scope (compEnvC scope cl C X.env) fp p) Y.blk pt ifs t)
    (he : ∀ (s : Shared) (H : Hp) (C : Addr) (cl : List (Str × Addr)) (fp : List Addr) (p : Addr × Obj), Hot1 X.A p → DE (blkH X s H scope (compEnvC scope cl C X.env) fp p) Y.blk pe elt e) (hs : ∀ x, foldedSetIterable iter X.env x = pure x := by intro _; rfl) :
    DF X Y (pi && (pt && pe)) (.ListComp elt [⟨tg, iter, ifs, 0⟩] scope pos) (mLc (own.map (·.2)) mi g t e) := by
  obtain ⟨wi, hpi, hwi⟩ := hi.pi
  obtain ⟨p, hot, hpm⟩ := id hc
  exact ⟨pe_weak (pe_lcH hc hN hpi ok (fun s H C cl fp p h => (hg s H C cl fp p h).pg) (fun s H C cl fp p h => (ht s H C cl fp p h).pts) (fun s H C cl fp p h => (he s H C cl fp p h).pe) hs)
    (t_lc (tg := tg) (iter := iter) hwi (hg {} noH 0 [] [] p hot).only his)⟩
theorem as_lcH {pi pt pe : Bool} {i : Nat} {y : Str} {py spos : Pos} {elt tg iter : Expr} {ifs : List Expr} {scope : Scope} {own : List (Str × Nat)} {pos : Pos} {mi : M (List W)} {g : GW} {is : List Nat} {t : M Bool} {e : M W} (hc : HotC X) (hN : X.N.Nodup) (hi : DIH X Y pi tg iter mi) (ok : BlkOk X.N X.env.scope scope own) (his : ∀ i ∈ is, i ∈ own.map (·.2))
    (hg : ∀ (s : Shared) (H : Hp) (C : Addr) (cl : List (Str × Addr)) (fp : List Addr) (p : Addr × Obj), Hot1 X.A p → DG (blkH X s H scope (compEnvC scope cl C X.env) fp p) Y.blk tg g is) (ht : ∀ (s : Shared) (H : Hp) (C : Addr) (cl : List (Str × Addr)) (fp : List Addr) (p : Addr × Obj), Hot1 X.A p → DTs (blkH X s H scope (compEnvC scope cl C X.env) fp p) Y.blk pt ifs t)
    (he : ∀ (s : Shared) (H : Hp) (C : Addr) (cl : List (Str × Addr)) (fp : List Addr) (p : Addr × Obj), Hot1 X.A p → DE (blkH X s H scope (compEnvC scope cl C X.env) fp p) Y.blk pe elt e) (hy : X.N[i]? = some y := by rfl) (hyl : X.env.scope.names.lookup y = some .local := by rfl)
    (hsw : swapsWith (.ListComp elt [⟨tg, iter, ifs, 0⟩] scope pos) (some (.Name y py)) spos.line X.env = pure true := by exact sw_true rfl rfl rfl rfl) (hs : ∀ x, foldedSetIterable iter X.env x = pure x := by intro _; rfl) :
    PS X (.Assign [.Name y py] (.ListComp elt [⟨tg, iter, ifs, 0⟩] scope pos) spos) (tAsg (tF X Y (pi && (pt && pe)) (mLc (own.map (·.2)) mi g t e)) (gName i)) := by
  obtain ⟨wi, hpi, hwi⟩ := hi.pi
  obtain ⟨p, hot, hpm⟩ := id hc
  exact ps_weak (ps_setLcH hc hN hy hyl hsw hpi ok (fun s H C cl fp p h => (hg s H C cl fp p h).pg) (fun s H C cl fp p h => (ht s H C cl fp p h).pts) (fun s H C cl fp p h => (he s H C cl fp p h).pe) hs)
    fun D σ H h => t_lc (tg := tg) (iter := iter) hwi (hg {} noH 0 [] [] p hot).only his σ H _ h
end
end Qd
end
section
set_option Elab.async false
set_option linter.all false
set_option maxRecDepth 100000
set_option maxHeartbeats 1000000
/-! Own objects read as values for a while, or from now on. -/
namespace Qd
open PySem PySem.Spec PyProof.Rows L2

def Slot.frz : Slot → Slot
  | .own w => .val w
  | .par w => .val w
  | .val w => .val w
/-- all own objects as values -/
def frzD (d : SD) : SD := d.map (Option.map Slot.frz)
theorem frzD_get {d : SD} {i : Nat} {s : Slot} (h : (frzD d)[i]? = some (some s)) : ∃ t, d[i]? = some (some t) ∧ s = t.frz := by
  unfold frzD at h
  rw [List.getElem?_map] at h
  cases q : d[i]? with
  | none => rw [q] at h; cases h
  | some o =>
    rw [q] at h
    cases o with
    | none => cases h
    | some t => cases h; exact ⟨t, rfl, rfl⟩
theorem frz_mine (s : Slot) : Slot.mine? s.frz = none := by cases s <;> rfl
theorem frzD_mine {d : SD} {σ : St} {a : Addr} : ¬ Mine (frzD d) σ a := fun ⟨i, s, w, h1, h2, _⟩ => by
  obtain ⟨t, _, rfl⟩ := frzD_get h1
  rw [frz_mine] at h2; cases h2
section
variable {K : PySem.W.Frag} {Ex : Addr → Nat → Prop} {Oc : Addr → Prop} {H H' : Hp} {d : SD} {σ : St}
theorem frz_ow {a : Addr} : Ow Oc (frzD d) σ a ↔ Oc a := ⟨fun z => z.elim id fun m => absurd m frzD_mine, .inl⟩
theorem RS.frz (rs : RS K Ex Oc H d σ) : RS K Ex Oc H (frzD d) σ := by
  have ke : Ke (Ow Oc d σ) H (Ow Oc (frzD d) σ) H := fun a u n e => ⟨fun z => n (.inl (frz_ow.mp z)), e⟩
  refine ⟨by rw [frzD, List.length_map]; exact rs.len, fun i w e => ?_, fun i s w e1 e2 => ?_, fun i j s t w u p ne e1 e2 _ _ _ => ?_, rs.oc⟩
  · obtain ⟨t, e1, e2⟩ := frzD_get e
    cases t with
    | val u =>
      cases e2
      obtain ⟨v, a, r⟩ := rs.val i w e1
      exact ⟨v, a, r.mono ke fun _ _ z => z⟩
    | own u =>
      cases e2
      obtain ⟨p, a, n, ob⟩ := rs.own i _ w e1 rfl
      exact ⟨_, a, (ob.mono ke (fun _ _ z => z) rfl).rp fun z => n (frz_ow.mp z)⟩
    | par u =>
      cases e2
      obtain ⟨p, a, n, ob⟩ := rs.own i _ w e1 rfl
      exact ⟨_, a, (ob.mono ke (fun _ _ z => z) rfl).rp fun z => n (frz_ow.mp z)⟩
  · obtain ⟨t, _, rfl⟩ := frzD_get e1
    rw [frz_mine] at e2; cases e2
  · obtain ⟨t, _, rfl⟩ := frzD_get e1
    rw [frz_mine] at e2; cases e2
mutual
/-- data of tuples and plain values: no own object is such -/
def noLD : W → Bool
  | .list _ => false
  | .dict _ => false
  | .tuple ds => noLDs ds
  | _ => true
def noLDs : List W → Bool
  | [] => true
  | d :: r => noLD d && noLDs r
end
theorem own_no_tup (rs : RS K Ex Oc H d σ) {a : Addr} {xs : List V} (m : Mine d σ a) (s : Same H H') (r : Rd H' a (.tup xs)) : False := by
  obtain ⟨i, t, w, h1, h2, h3⟩ := m
  obtain ⟨p, e, _, ob⟩ := rs.own i t w h1 h2
  rw [h3] at e; cases e
  have k : ∀ u : HO, H a = some u → H' a = some u := fun u e => s a u e
  cases w with
  | list ds =>
    obtain ⟨ys, e, _⟩ := ob
    rcases r with r | ⟨_, r⟩ <;> rw [k _ e] at r <;> cases r
  | dict ds =>
    rcases ob with ⟨ys, e, _⟩ | ⟨ys, _, _, e, _⟩ <;> rcases r with r | ⟨_, r⟩ <;> rw [k _ e] at r <;> cases r
  | none => exact ob.elim
  | bool b => exact ob.elim
  | int i => exact ob.elim
  | str s => exact ob.elim
  | tuple t => exact ob.elim
mutual
theorem Rp.thaw (rs : RS K Ex Oc H d σ) (s : Same H H') : ∀ {v : V} {w : W}, Rp K Ex Oc H' v w → noLD w = true → Rp K Ex (Ow Oc d σ) H' v w
  | _, _, .non, _ => .non
  | _, _, .bl b, _ => .bl b
  | _, _, .int i, _ => .int i
  | _, _, .str x, _ => .str x
  | _, _, .lst h r, n => by simp [noLD] at n
  | _, _, .tup h r, n => .tup (h.imp (fun ⟨no, rd⟩ => ⟨fun z => z.elim no fun m => own_no_tup rs m s (.inl rd), rd⟩) id) (RpA.thaw rs s r (by simpa [noLD] using n))
  | _, _, .dK h r t, n => by simp [noLD] at n
  | _, _, .dT h r t, n => by simp [noLD] at n
  | _, _, .exc h, n => by simp [noLD] at n
theorem RpA.thaw (rs : RS K Ex Oc H d σ) (s : Same H H') : ∀ {v : List V} {w : List W}, RpA K Ex Oc H' v w → noLDs w = true → RpA K Ex (Ow Oc d σ) H' v w
  | _, _, .nil, _ => .nil
  | _, _, .cons a b, n => by
    simp only [noLDs, Bool.and_eq_true] at n
    exact .cons (Rp.thaw rs s a n.1) (RpA.thaw rs s b n.2)
end
end
/-- a reading of own objects whose value is none of them -/
def mFrz (m : M W) : M W := fun d => match m (frzD d) with
  | .ok w _ => if noLD w = true then .ok w d else .bad
  | .exc c _ => .exc c d
  | .bad => .bad
def mFrzT (m : M Bool) : M Bool := fun d => match m (frzD d) with
  | .ok b _ => .ok b d
  | .exc c _ => .exc c d
  | .bad => .bad
section
variable {X : Cx} {Y : Yx}
theorem frz_back {K : PySem.W.Frag} {Ex : Addr → Nat → Prop} {Oc : Addr → Prop} {H H' : Hp} {d d' : SD} {σ : St} {pu : Bool} (rs : RS K Ex Oc H d σ) (g : Go K Ex Oc pu σ (frzD d) H d' H') : Same H H' := fun a o e => g.fr a o e frzD_mine
theorem d_frz {e : Expr} {m : M W} (h : DE X Y true e m) : DE X Y true e (mFrz m) := ⟨pe_weak h.pe fun σ H Q h => by
  obtain ⟨Oc, d, rs, h⟩ := h
  refine ⟨Oc, frzD d, rs.frz, ?_⟩
  unfold mFrz at h
  cases q : m (frzD d) with
  | bad => rw [q] at h; exact h
  | exc c d1 => rw [q] at h; exact fun H' g => h H' (.same rs (frz_back rs g))
  | ok w d1 =>
    rw [q] at h
    dsimp only at h
    by_cases n : noLD w = true
    · rw [if_pos n] at h
      intro H' g v r
      have s := frz_back rs g
      have e1 := (g.pur rfl).2
      refine h H' (.same rs s) v (Rp.thaw rs s (r.mono (fun a u n e => ⟨fun z => n (.inl z), e⟩) fun _ _ z => z) n)
    · rw [if_neg n] at h; exact h.elim⟩
theorem frz_t {t : M Bool} (σ : St) (H : Hp) (Q : Bool → Hp → Prop) (h : tT X Y true (mFrzT t) σ H Q) : tT X Y true t σ H Q := by
  obtain ⟨Oc, d, rs, h⟩ := h
  refine ⟨Oc, frzD d, rs.frz, ?_⟩
  unfold mFrzT at h
  cases q : t (frzD d) with
  | bad => rw [q] at h; exact h
  | exc c d1 => rw [q] at h; exact fun H' g => h H' (.same rs (frz_back rs g))
  | ok w d1 =>
    rw [q] at h
    exact fun H' g _ => h H' (.same rs (frz_back rs g)) (rs.same (frz_back rs g))
theorem dt_frz {e : Expr} {t : M Bool} (h : DT X Y true e t) : DT X Y true e (mFrzT t) := ⟨pt_weak h.pt frz_t⟩
/-- from here on the object of the name i is written no more -/
def frzAt (i : Nat) (d : SD) : SD := match d[i]? with
  | some (some (.own w)) => d.set i (some (.val w))
  | _ => d
theorem frzAt_go {K : PySem.W.Frag} {Ex : Addr → Nat → Prop} {Oc : Addr → Prop} {H : Hp} {d : SD} {σ : St} (i : Nat) (rs : RS K Ex Oc H d σ) : GoS K Ex Oc d σ H (frzAt i d) σ H := by
  unfold frzAt
  split
  · rename_i w e
    obtain ⟨p, ep, n, ob⟩ := rs.own i _ w e rfl
    have lt : i < d.length := (List.getElem?_eq_some_iff.mp e).1
    have mn : ∀ a, Mine (d.set i (some (.val w))) σ a → Mine d σ a ∧ a ≠ p := fun a ⟨j, s, u, h1, h2, h3⟩ => by
      by_cases ej : i = j
      · subst ej
        rw [List.getElem?_set_self lt] at h1
        cases h1; cases h2
      · rw [List.getElem?_set_ne ej] at h1
        exact ⟨⟨j, s, u, h1, h2, h3⟩, fun z => rs.sep i j _ s w u p ej e rfl h1 h2 ep (by rw [h3, z])⟩
    have ke : Ke (Ow Oc d σ) H (Ow Oc (d.set i (some (.val w))) σ) H := fun a u n e => ⟨fun z => n (z.imp id fun m => (mn a m).1), e⟩
    have np : ¬ Ow Oc (d.set i (some (.val w))) σ p := fun z => z.elim n fun m => (mn p m).2 rfl
    refine ⟨⟨by rw [List.length_set]; exact rs.len, fun j u ej => ?_, fun j s u f1 f2 => ?_, fun j k s t u u' q ne f1 f2 f3 f4 f5 => ?_, rs.oc⟩, fun _ _ e _ => e, fun a m => .inl (mn a m).1, fun j u ej => ?_⟩
    · by_cases hj : i = j
      · subst hj
        rw [List.getElem?_set_self lt] at ej
        cases ej
        exact ⟨_, ep, (ob.mono ke (fun _ _ z => z) rfl).rp np⟩
      · rw [List.getElem?_set_ne hj] at ej
        obtain ⟨v, a, r⟩ := rs.val j u ej
        exact ⟨v, a, r.mono ke fun _ _ z => z⟩
    · by_cases hj : i = j
      · subst hj
        rw [List.getElem?_set_self lt] at f1
        cases f1; cases f2
      · rw [List.getElem?_set_ne hj] at f1
        obtain ⟨q, a, n', o⟩ := rs.own j s u f1 f2
        exact ⟨q, a, n', o.mono ke (fun _ _ z => z) rfl⟩
    · have g : ∀ {j : Nat} {s : Slot} {u : W}, (d.set i (some (Slot.val w)))[j]? = some (some s) → Slot.mine? s = some u → d[j]? = some (some s) := fun {j s u} f1 f2 => by
        by_cases hj : i = j
        · subst hj
          rw [List.getElem?_set_self lt] at f1
          cases f1; cases f2
        · rwa [List.getElem?_set_ne hj] at f1
      exact rs.sep j k s t u u' q ne (g f1 f2) f2 (g f3 f4) f4 f5
    · by_cases hj : i = j
      · subst hj
        rw [e] at ej; cases ej
      · exact ⟨⟨u, by rw [List.getElem?_set_ne hj]; exact ej⟩, rfl⟩
  · exact .refl rs
/-- the names' objects are written no more behind here -/
def mFrzS (is : List Nat) (m : MS) : MS := fun d => m (is.foldl (fun d i => frzAt i d) d)
theorem frzAts_go {K : PySem.W.Frag} {Ex : Addr → Nat → Prop} {Oc : Addr → Prop} {H : Hp} {σ : St} : ∀ (is : List Nat) {d : SD}, RS K Ex Oc H d σ → GoS K Ex Oc d σ H (is.foldl (fun d i => frzAt i d) d) σ H
  | [], _, rs => .refl rs
  | i :: is, _, rs => (frzAt_go i rs).trans (frzAts_go is (frzAt_go i rs).rs)
theorem dss_frz {st : List Stmt} {m : MS} (is : List Nat) (h : DSs X Y st m) : DSs X Y st (mFrzS is m) := ⟨pss_weak h.ps fun D σ H h => by
  obtain ⟨Oc, d, rs, h⟩ := h
  have g := frzAts_go is rs
  exact ⟨Oc, _, g.rs, h.from g⟩⟩
end
end Qd
end
section
set_option Elab.async false
set_option linter.all false
set_option maxRecDepth 100000
set_option maxHeartbeats 2000000
/-! Errors: raise, try, what a suite does with the caught error. -/
namespace Qd
open PySem PySem.Spec PyProof.Rows L2 HotX L2H

/-- facts of the error classes, by number -/
structure CF (K : PySem.W.Frag) (T : Nat → Value) (n : Nat) (sub : Nat → Nat → Bool) : Prop where
  exc : ∀ i, i < n → ∃ D, T i = .ref D ∧ ExcC K D
  kit : ∀ i j, i < n → j < n → PySem.W.kitOne K (T i) (T j) = some (sub i j)
  exm : ∀ i j, i < n → j < n → PySem.W.exmOne K (T i) (T j) = some (sub i j)
/-- facts for raise C('..') -/
structure RF (K : PySem.W.Frag) (mg : Str → Option Value) (v : Value) (x : Str) : Prop where
  ex : ∃ C, v = .ref C ∧ mg x = some (.ref C) ∧ PySem.W.excIn K C [.type "ValueError", .type "Exception", .type "BaseException", .type "object"] "ValueError.__new__" = true ∧ PySem.W.keepIn K (.ref C) = true ∧
    PySem.W.subIn K (.ref C) (.type "BaseException") = some true ∧ PySem.W.typeIn K (.ref C) = some (.type "type")
def mRaise (c : Nat) : MS := fun d => .exc c d
theorem ds_raise {X : Cx} {Y : Yx} {c : Nat} {x m : Str} {j : Nat} {p p2 pos pos' : Pos} (hc : X.calm = true) (tk : L2N.Takes X Y.W) (h : RF X.K X.mg (Y.T c) x) (hg : Gl X x := by rfl) (hdb : (x == ("__debug__" : Str)) = false := by decide) :
    DS X Y (.Raise (some (.Call (.Name x p) [.Constant (.str m) j p2] [] pos)) none pos') (mRaise c) := by
  obtain ⟨C, e, gC, q, kC, b1, t1⟩ := h.ex
  refine ⟨ps_weak (L2N.ps_raise hc tk (L2N.pmk_own (m := m) (j := j) PySem.F.excBase_ValueError q gC kC (raises_own b1 t1) hg hdb)) fun D σ H h => ?_⟩
  obtain ⟨Oc, d, rs, h⟩ := h
  have z := h σ H (.refl rs)
  rw [e] at z
  exact z

/-! ### the handled error as data -/
abbrev exAt (on : On) (a : Addr) (c : Nat) : Addr → Nat → Prop := fun b k => (b = a ∧ k = c) ∨ cEx on b k
/-- within a suite: the handled error is pinned, its class told -/
def HotK (on : On) (X : Cx) (Y : Yx) (n : Nat) : Prop := ∃ (p : Addr × Obj) (c : Nat), c < n ∧ Hot1 X.A p ∧ p ∈ X.pn ∧ Zc (Y.T c) none p.2 ∧ n ≤ cN ∧ Y.Ex = exAt on p.1 c
theorem HotK.c {on : On} {X : Cx} {Y : Yx} {n : Nat} (h : HotK on X Y n) : HotC X := let ⟨p, _, _, a, b, _, _, _⟩ := h; ⟨p, a, b⟩
section
variable {K : PySem.W.Frag} {Ex Ex' : Addr → Nat → Prop} {Oc : Addr → Prop} {H : Hp} {d : SD} {σ : St}
theorem RS.ex (rs : RS K Ex Oc H d σ) (x : ∀ a c, Ex a c → Ex' a c) (xt : ∀ a, Ex' a tN → Ex a tN) : RS K Ex' Oc H d σ where
  len := rs.len
  val := fun i w e => let ⟨v, a, b⟩ := rs.val i w e; ⟨v, a, b.mono .refl x⟩
  own := fun i s w e1 e2 => let ⟨p, a, n, b⟩ := rs.own i s w e1 e2; ⟨p, a, n, b.mono .refl x rfl⟩
  sep := rs.sep
  oc := ⟨rs.oc.at_, fun a h => rs.oc.tb a (xt a h)⟩
end
def exOf : W → Option Nat
  | .dict [(.none, .int i)] => some i.toNat
  | _ => none
theorem exOf_some {w : W} {k : Nat} (h : exOf w = some k) : ∃ i : Int, w = .dict [(.none, .int i)] ∧ k = i.toNat := by
  unfold exOf at h
  split at h
  · cases h; exact ⟨_, rfl, rfl⟩
  · cases h
theorem keyD_ne (k : Key) : keyD k ≠ .none := by cases k <;> intro h <;> cases h
theorem rp_exc {K : PySem.W.Frag} {Ex : Addr → Nat → Prop} {O : Addr → Prop} {H : Hp} {v : V} {i : Int} (r : Rp K Ex O H v (.dict [(.none, .int i)])) : ∃ a c, v = .ref a ∧ Ex a c ∧ i = (c : Int) := by
  generalize e : (PyData.dict [(.none, .int i)] : W) = w at r
  cases r with
  | non => cases e
  | bl b => cases e
  | int j => cases e
  | str x => cases e
  | lst _ _ => cases e
  | tup _ _ => cases e
  | dK _ _ t =>
    cases e
    generalize e2 : ([(PyData.none, PyData.int i)] : List (W × W)) = l at t
    cases t with
    | nil => cases e2
    | @cons k v w vs ws a b => injection e2 with e3 _; injection e3 with e4 _; exact absurd e4.symm (keyD_ne k)
  | dT _ _ t => cases e
  | @exc a c h => injection e with e1; injection e1 with e2 _; injection e2 with _ e3; injection e3 with e4; exact ⟨a, c, rfl, h, e4⟩
/-- isinstance(the handled error, a class) -/
def mIsE (n : Nat) (f : Nat → Bool) (m : M W) : M W := fun d => (m d).bind fun w d1 => match exOf w with
  | some k => if k < n then .ok (.bool (f k)) d1 else .bad
  | none => .bad
theorem call_isH {X : Cx} {a D : Addr} {oe : Obj} (C : ExcC X.K D) (hp : (a, oe) ∈ X.pn) (hz : Zc (.ref D) none oe) (hf : ∃ vs, oe.data = .fields vs) : CallR X (.builtin "isinstance") (rIsE X.K D a) := by
  intro pins s σ H xs us Q I r h
  obtain ⟨c, cv, b, rfl, hcv, e, q⟩ := h
  cases r with
  | cons rx rr =>
    cases rr with
    | cons rt rr =>
      cases rr
      cases rx
      have ec := hcv _ rt
      subst ec
      obtain ⟨hget, _⟩ := I.pin (a, oe) (List.mem_append_left _ hp)
      obtain ⟨vs, hv⟩ := hf
      have J : PySem.W.InstAt s.heap a oe D none := ⟨hget, hz.1, by unfold PySem.W.notCls; rw [hv] <;> rfl, by rw [hz.2]; trivial⟩
      exact PySem.W.kia_one (PySem.W.handS_kitx_exc C.hg C.hk C.hs C.hd C.ha C.hn C.ht C.hm) I.kIn J e (fun z => nomatch z) fun tk => ⟨.bl b, H, I.kept (t' := tk) fun _ _ z => z, rfl, q⟩
theorem d_isE {on : On} {X : Cx} {Y : Yx} {pu : Bool} {n j : Nat} {sub : Nat → Nat → Bool} {e : Expr} {x : Str} {p q pos : Pos} {m : M W} (hk : HotK on X Y n) (cf : CF X.K Y.T n sub) (hj : j < n) (hc : X.mg x = some (Y.T j)) (he : DE X Y pu e m) (hm : X.mg "isinstance" = none) (hg : Gl X "isinstance" := by rfl) (hgx : Gl X x := by rfl)
    (hdb : (x == ("__debug__" : Str)) = false := by decide) (h1 : starEach [e, .Name x q] X.env = (false, eval e X.env) :: starEach [.Name x q] X.env := by rfl) (h2 : starEach [.Name x q] X.env = (false, eval (.Name x q) X.env) :: starEach [] X.env := by rfl) (hpl : (backTo pos (starEach [.Name x q] X.env)).any (·.1) = false := by rfl) :
    DE X Y pu (.Call (.Name "isinstance" p) [e, .Name x q] [] pos) (mIsE n (fun k => sub k j) m) := by
  obtain ⟨⟨a, oe⟩, c, hcn, hot, hpm, hz, hn, hex⟩ := hk
  obtain ⟨D, eD, C⟩ := cf.exc c hcn
  obtain ⟨Dj, ej, _⟩ := cf.exc j hj
  have hf : ∃ vs, oe.data = .fields vs := let ⟨_, vs, e, _⟩ := hot; ⟨vs, e⟩
  rw [eD] at hz
  rw [ej] at hc
  refine ⟨pe_weak (pe_callB (call_isH C hpm hz hf) hg hm boot_isinstance (pa_cons he.pe (pa_cons (pe_glob (x := x) (v := .ref Dj) hgx hc rfl hdb) pa_nil h2) h1) (by decide) (by decide) h1 hpl) fun σ H Q h => ?_⟩
  obtain ⟨Oc, d, rs, h⟩ := h
  refine ⟨Oc, d, rs, (Po.bind1 h).imp fun w d1 H1 g1 h1 v r => ?_⟩
  dsimp only at h1
  cases q1 : exOf w with
  | none => rw [q1] at h1; exact h1.elim
  | some k =>
    rw [q1] at h1
    obtain ⟨i, rfl, rfl⟩ := exOf_some q1
    obtain ⟨b, c', rfl, hx, ei⟩ := rp_exc r
    rw [hex] at hx
    rw [ei, Int.toNat_natCast] at h1
    dsimp only at h1
    rcases hx with ⟨rfl, rfl⟩ | ⟨_, rfl⟩ | ⟨rfl, _⟩
    rotate_left
    · rw [if_neg (Nat.not_lt_of_le hn)] at h1; exact h1.elim
    · rw [if_neg (Nat.not_lt_of_le (Nat.le_trans hn (by decide)))] at h1; exact h1.elim
    rw [if_pos hcn] at h1
    refine ⟨.ref Dj, .ref Dj, sub c' j, rfl, fun u z => z, ?_, h1 H1 (.refl g1.rs) _ (.bl _)⟩
    rw [← eD, ← ej]
    exact cf.kit c' j hcn hj

/-! ### defs called with the handled error -/
def spE (on : On) (K : PySem.W.Frag) (F : FV) (np : Nat) (a : Addr) (c : Nat) : Sp := fun vs H Q _ => ∃ (Oc : Addr → Prop) (ws : List W), ws.length = np ∧ Thr (exAt on a c) Oc H ∧ RpA K (exAt on a c) Oc H vs ws ∧ match F ws with
  | .ok (.val w) => ∀ H' v, Same H H' → Rp K (exAt on a c) Oc H' v w → Q v H'
  | _ => False
structure FnE (on : On) (P : Program) (w : World) (K : PySem.W.Frag) (mg : Str → Option Value) (base : Heap) (T : Nat → Value) (n : Nat) (k : Nat) (f : Addr) (fd : FuncData) (ps : List Str) (F : FV) : Prop where
  run : ∀ (A : Around) (outer : List Env) (s : Shared) (H : Hp) (args : Args) (us : List Value) (vs : List V) (Q : VK) (p : Addr × Obj) (c : Nat), c < n → RoomH k A → Hot1 A p → Zc (T c) none p.2 → PinOk outer H s p → Env0 P w K mg base A outer s H → BindsTo s fd args (ps.zip us) → Vals vs us → spE on K F ps.length p.1 c vs H Q (fun _ _ _ => False) →
    codeAny (model P w) A (.call (.ref f) args) (CR (L2N.CX P w) outer P w H s Q fun _ _ _ => False) s
abbrev Yfe (on : On) (T : Nat → Value) (p : Addr × Obj) (c : Nat) : Yx := ⟨exAt on p.1 c, T, fun _ _ _ _ => False⟩
section
variable {P : Program} {w : World} {K : PySem.W.Frag} {mg : Str → Option Value} {base : Heap} {T : Nat → Value} {n : Nat} {on : On}
theorem startE {Ex : Addr → Nat → Prop} {Oc : Addr → Prop} {H : Hp} {N : List Str} {vs : List V} {ws : List W} (hl : ws.length ≤ N.length) (oc : Thr Ex Oc H) (r : RpA K Ex Oc H vs ws) : RS K Ex Oc H (sdV N.length ws) (L2.start N vs) ∧ ∀ a, ¬ Mine (sdV N.length ws) (L2.start N vs) a := by
  have nm : ∀ a, ¬ Mine (sdV N.length ws) (L2.start N vs) a := fun a ⟨i, s, u, h1, h2, _⟩ => by
    obtain ⟨_, _, _, rfl⟩ := sdV_get h1
    cases h2
  refine ⟨⟨by rw [sdV_len hl, start_len (by rw [r.length]; exact hl)], fun i u e => ?_, fun i s u e1 e2 => ?_, fun i j s t u u' p ne e1 e2 _ _ _ => ?_, oc⟩, nm⟩
  · obtain ⟨l, u', e', es⟩ := sdV_get e
    cases es
    obtain ⟨v, e1, r1⟩ := r.get e'
    exact ⟨v, start_get e1, r1.mono (fun a x n e => ⟨fun z => z.elim n (nm a), e⟩) fun _ _ z => z⟩
  · obtain ⟨_, _, _, rfl⟩ := sdV_get e1
    cases e2
  · obtain ⟨_, _, _, rfl⟩ := sdV_get e1
    cases e2
theorem tS_E {X : Cx} {p : Addr × Obj} {c : Nat} {m : MS} {N : List Str} {H : Hp} {vs : List V} {Q : VK} {E : XK} {np : Nat} (hn : np ≤ N.length) (hK : X.K = K) (h : spE on K (runV N.length m) np p.1 c vs H Q E) : tS X (Yfe on T p c) m { nx := fun _ H' => Q .non H', rt := Q } (L2.start N vs) H := by
  subst hK
  obtain ⟨Oc, ws, hl, oc, r, h⟩ := h
  obtain ⟨rs, nm⟩ := startE (N := N) (by rw [hl]; exact hn) oc r
  refine ⟨Oc, sdV N.length ws, rs, ?_⟩
  unfold runV at h
  have sm : ∀ {d' : SD} {σ' : St} {H' : Hp}, GoS X.K (exAt on p.1 c) Oc (sdV N.length ws) (L2.start N vs) H d' σ' H' → Same H H' := fun g a o e => g.fr a o e (nm a)
  cases q : m (sdV N.length ws) with
  | next d' => rw [q] at h; exact fun σ' H' g => h H' .non (sm g) .non
  | brk d' => rw [q] at h; exact h.elim
  | cont d' => rw [q] at h; exact h.elim
  | bad => rw [q] at h; exact h.elim
  | exc k d' => rw [q] at h; exact h.elim
  | ret s d' =>
    rw [q] at h
    cases s with
    | par w => exact h.elim
    | own w => exact h.elim
    | val w => exact fun σ' H' v g rv => h H' v (sm g) (rv.mono (fun a u n e => ⟨fun z => n (.inl z), e⟩) fun _ _ z => z)
/-- a def that is called with the handled error, by its body -/
theorem fn_E {x qual : Str} {st : Stmt} {f : Addr} {fd : FuncData} {N ps : List Str} {k np : Nat} {m : MS} (F : Fun K x qual st f fd) (S : FnScope N ps (defScope st)) (hps : ps.length = np) (hnp : np ≤ N.length) (hnn : n ≤ cN)
    (hb : ∀ (cdv : Value) (A : Around) (outer : List Env) (s : Shared) (H : Hp) (p : Addr × Obj) (c : Nat), HotK on (cxH (L2N.CX P w) P w K mg base N qual (defScope st) f cdv A outer s H (fun _ _ _ => False) p) (Yfe on T p c) n → RoomH k (A.deeper (envOfC qual (defScope st) s.heap.objs.size f cdv)) →
      DSs (cxH (L2N.CX P w) P w K mg base N qual (defScope st) f cdv A outer s H (fun _ _ _ => False) p) (Yfe on T p c) (defBody st) m) : FnE on P w K mg base T n (k + 1) f fd ps (runV N.length m) := by
  obtain ⟨oc, od, kV, doc, pm, an, cdv, ct, osl, rfl, lk, hcd⟩ := F.ex
  refine ⟨fun A outer s H args us vs Q p c hcn hr hot hz hpin e0 hb' r hsp => ?_⟩
  subst hps
  have hl : vs.length = ps.length := by obtain ⟨Oc, ws, h1, _, h2, _⟩ := hsp; rw [h2.length, h1]
  have KX : K.In s.heap := e0.mod.kin.keeps fun b o e => (e0.bs b o e).1
  have lim : s.heap.NoLimit := e0.mod.nolimit.keeps fun b o e => (e0.bs b o e).1
  have hkind : ∀ y ∈ ps.zip us, (defScope st).names.lookup y.1 = some .local ∨ ((defScope st).names.lookup y.1 = some .cell ∧ ((cellsFrom (s.heap.objs.size + 1) (defScope st).names []).lookup y.1).isSome = true) := fun y hy => by
    rcases S.par y.1 (List.of_mem_zip (show (y.1, y.2) ∈ _ from hy)).1 with q | q
    · exact .inl q
    · exact .inr ⟨q, PySem.W.cellsFrom_some _ _ _ (.inl q)⟩
  refine codeAny_call_function hr.depth (KX _ _ lk) rfl S.co S.gen rfl (PySem.W.codeRec_of KX hcd) (hb' _ _ _ _ ?_)
  refine wpAny_newFunctionEnv_cells S.kind hkind fun env he s1 x => ?_
  subst he
  refine ⟨lim.keeps x.toInCall.keep, codeAny_func ?_⟩
  have hk : HotK on (cxH (L2N.CX P w) P w K mg base N qual (defScope st) f cdv A outer s H (fun _ _ _ => False) p) (Yfe on T p c) n := ⟨p, c, hcn, hot, List.mem_singleton.mpr rfl, hz, hnn, rfl⟩
  have I : Inv (cxH (L2N.CX P w) P w K mg base N qual (defScope st) f cdv A outer s H (fun _ _ _ => False) p) [] (L2.start N vs) H s1 := inv_startH S hpin e0 hl r x
  refine wpAny_mono ((hb cdv A outer s H p c hk (hr.deeper _)).ps.run [] s1 (L2.start N vs) H _ I (tS_E hnp rfl hsp)) (fun fl s' hs => ?_) fun e s' hs => hs
  have fin : ∀ {σ' : St} {H' : Hp} {v : V} {u : Value}, Inv (cxH (L2N.CX P w) P w K mg base N qual (defScope st) f cdv A outer s H (fun _ _ _ => False) p) [] σ' H' s' → RelV v u → Q v H' → CE outer P w H s Q u s' :=
    fun {σ' H' v u} J rv q => ⟨v, H', J.os, J.bare, J.base, J.hok, rv, q⟩
  cases fl with
  | ret u => obtain ⟨v, σ', H', J, rv, q⟩ := hs; exact fin J rv q
  | next => obtain ⟨σ', H', J, q⟩ := hs; exact fin (v := V.non) (u := Value.none) J rfl q
  | brk => obtain ⟨_, _, _, q⟩ := hs; exact False.elim q
  | cont => obtain ⟨_, _, _, q⟩ := hs; exact False.elim q
end
section
variable {X : Cx} {Y : Yx}
def mCallE (F : FV) (as : M (List W)) : M W := fun d => (as d).bind fun ws d1 => match F ws with
  | .ok (.val w) => .ok w d1
  | _ => .bad
/-- f(the handled error, ..) within a suite -/
theorem d_callE {on : On} {pu : Bool} {k n : Nat} {f : Addr} {fd : FuncData} {ps : List Str} {F : FV} {x : Str} {p pos : Pos} {e : Expr} {es : List Expr} {as : M (List W)} (G : FnE on X.prog X.w X.K X.mg X.base Y.T n k f fd ps F) (hr : RoomH k X.A) (hk : HotK on X Y n) (tk : L2N.Takes X fun _ _ _ _ => False)
    (hm : X.mg x = some (.ref f)) (hkp : PySem.W.keepIn X.K (.ref f) = true) (hb : Binds X.K fd ps []) (ha : DL X Y pu (e :: es) as) (hl : Len ps.length as) (hg : Gl X x := by rfl)
    (hdb : (x == ("__debug__" : Str)) = false := by decide) (he : starEach (e :: es) X.env = (false, eval e X.env) :: starEach es X.env := by rfl) (hpl : (backTo pos (starEach es X.env)).any (·.1) = false := by rfl) : DE X Y pu (.Call (.Name x p) (e :: es) [] pos) (mCallE F as) := by
  obtain ⟨pp, c, hcn, hot, hpm, hz, hn, hex⟩ := hk
  refine ⟨⟨fun pins s σ H Q I h => ?_⟩⟩
  refine wpAny_Call_Name_kw (ld_glob I hg hm ?_ hdb)
  -- what the arguments are, and the def's promise at them
  have h' : tL X Y pu as σ H fun vs H1 => spE on X.K F ps.length pp.1 c vs H1 Q fun _ _ _ => False := by
    obtain ⟨Oc, d, rs, h⟩ := h
    refine ⟨Oc, d, rs, ?_⟩
    have hh := Po.bind1 h
    cases q0 : as d with
    | bad => rw [q0] at hh; exact hh
    | exc c d1 => rw [q0] at hh; exact hh
    | ok ws d1 =>
      rw [q0] at hh
      intro H1 g1 v r
      have h1 := hh H1 g1
      rw [hex] at r
      refine ⟨Ow Oc d1 σ, ws, hl _ _ _ q0, hex ▸ g1.rs.thr, r, ?_⟩
      cases q : F ws with
      | bad => rw [q] at h1; exact h1.elim
      | exc c => rw [q] at h1; exact h1.elim
      | ok s =>
        rw [q] at h1
        cases s with
        | val w => exact fun H' v s r' => h1 H' (.same g1.rs s) v (by rw [hex]; exact r')
        | own w => exact h1.elim
        | par w => exact h1.elim
  refine PySem.W.callWith_K (h₀ := X.base) I.ok.mod.kin hkp (thn (ha.pa.run pos pins s σ H _ I h') fun us s1 ⟨vs, H1, I1, r, q⟩ => ⟨I1.kIn, ?_⟩) he hpl
  have hlen : us.length = ps.length := by rw [← r.length]; obtain ⟨Oc, ws, h1, _, h2, _⟩ := q; rw [h2.length, h1]
  have b := hb s1 us I1.kIn (by rw [List.append_nil]; exact hlen)
  rw [List.append_nil] at b
  have P1 := I1.pin pp (List.mem_append_left _ hpm)
  have hpin : PinOk X.stack H1 s1 pp := ⟨P1.1, P1.2.1, fun hm => (List.mem_cons.mp (I1.stkSub pp.1 hm)).elim P1.2.2.1 P1.2.2.2.1, P1.2.2.2.2⟩
  refine wpAny_call (codeAny_mono (G.run X.A X.stack s1 H1 ⟨us, []⟩ us vs Q pp c hcn hr hot hz hpin I1.env0 b r q) fun r s' hq => ?_)
  cases r with
  | error e => exact L2N.passAt tk σ pins H1 s1 e s' I1 hq
  | ok fl =>
    cases fl with
    | ret u => exact I1.after hq
    | next => exact False.elim hq
    | brk => exact False.elim hq
    | cont => exact False.elim hq

/-! ### try: body, except C as x: return e -/
def freeAt (i : Nat) (d : SD) : Bool := match d[i]? with
  | some none => true
  | some (some (.val _)) => true
  | _ => false
def mTryRet (n : Nat) (sub : Nat → Bool) (i : Nat) (body : MS) (e : M W) : MS := fun d => match body d with
  | .exc k d1 => if k < n then (if sub k = true then (if freeAt i d1 = true then (match e (d1.set i (some (.val (exD k)))) with
      | .ok w _ => if noD w = true then .ret (.val w) d1 else .bad
      | _ => .bad) else .bad) else .exc k d1) else .bad
  | o => o
theorem freeAt_ow {Oc : Addr → Prop} {i : Nat} {d : SD} {σ : St} {a a' : Addr} {w : W} (h : freeAt i d = true) (x : Ow Oc d σ a) : Ow Oc (d.set i (some (.val w))) (σ.set i (some (.ref a'))) a := by
  refine x.imp id fun ⟨j, s, u, h1, h2, h3⟩ => ?_
  by_cases e : i = j
  · subst e
    unfold freeAt at h
    rw [h1] at h
    cases s with
    | val w => cases h2
    | own w => cases h
    | par w => cases h
  · exact ⟨j, s, u, by rw [List.getElem?_set_ne e]; exact h1, h2, by rw [List.getElem?_set_ne e]; exact h3⟩
theorem freeAt_store {i : Nat} {d : SD} {w : W} (h : freeAt i d = true) : store i w d = some (d.set i (some (.val w))) := by
  unfold freeAt at h
  unfold store
  split at h <;> rename_i e
  · rw [e]
  · rw [e]
  · cases h
theorem GoS.same {K : PySem.W.Frag} {Ex : Addr → Nat → Prop} {Oc : Addr → Prop} {H H' : Hp} {d : SD} {σ : St} (rs : RS K Ex Oc H d σ) (s : Same H H') : GoS K Ex Oc d σ H d σ H' := (Go.same (pu := true) rs s).toS
theorem PSs.many {X : Cx} {st : List Stmt} {α : Type} {p : α → Prop} {t : α → TS} (h : ∀ a, p a → PSs X st (t a)) : PSs X st (fun D σ H => ∃ a, p a ∧ t a D σ H) := ⟨fun pins s σ H D I q => let ⟨a, ha, q⟩ := q; (h a ha).run pins s σ H D I q⟩
theorem PoS.wish {Oc : Addr → Prop} {d : SD} {σ : St} {H : Hp} {o : SOut} {D : Ends} {V : WX} (h : PoS X Y Oc d σ H o D) (x : ∀ k d1, o = .exc k d1 → ∀ σ' H', GoS X.K Y.Ex Oc d σ H d1 σ' H' → V (Y.T k) none σ' H') : PoS X { Y with W := V } Oc d σ H o D := by
  cases o with
  | next d1 => exact h
  | brk d1 => exact h
  | cont d1 => exact h
  | ret r d1 => cases r <;> exact h
  | exc k d1 => exact fun σ' H' g => x k d1 rfl σ' H' g
  | bad => exact h
theorem ds_try {on : On} {n i j : Nat} {sub : Nat → Nat → Bool} {x y : Str} {body : List Stmt} {e : Expr} {np pos pos' pos2 : Pos} {b : MS} {m : M W} (hs : X.stack = X.env :: X.outer) (hf : X.env.frame = some X.env.locals) (hN : X.N.Nodup) (hi : X.N[i]? = some y) (hln : X.env.kindOf y = some .local) (hE : Y.Ex = cEx on)
    (cf : CF X.K Y.T n sub) (hnn : n ≤ cN) (hj : j < n) (hc : X.mg x = some (Y.T j)) (hgx : Gl X x) (hdb : (x == ("__debug__" : Str)) = false) (tk : L2N.Takes X Y.W)
    (hb : ∀ (V : WX) (pn : List (Addr × Obj)) (xe : Value → Shared → Prop), L2N.Takes (X.tr pn xe) V → PassesOwn (model X.prog X.w) X.A X.env xe → DSs (X.tr pn xe) { Y with W := V } body b)
    (he : ∀ (a : Addr) (oe : Obj) (k : Nat) (pn : List (Addr × Obj)), HotK on (X.suite a ((a, oe) :: pn)) (Yfe on Y.T (a, oe) k) n → DE (X.suite a ((a, oe) :: pn)) (Yfe on Y.T (a, oe) k) true e m) :
    DS X Y (.Try body [.ExceptHandler (some (.Name x np)) (some y) [.Return (some e) pos2] pos'] [] [] pos) (mTryRet n (fun k => sub k j) i b m) := by
  refine ⟨ps_weak (L2N.ps_try_as (c := Y.T j) (i := i) (Wout := Y.W) (tb := fun V => tS X { Y with W := V } b) (ts := fun a cls dd D σ H => ∃ k, (k < n ∧ cls = Y.T k ∧ dd = none) ∧ tRet (tE X ⟨exAt on a k, Y.T, fun _ _ _ _ => False⟩ true m) D σ H) hs hf hN hi hln ⟨hgx, hdb, .inl hc⟩ tk
    (fun V pn xe tk' hp => (hb V pn xe tk' hp).ps) (fun a oe cls dd pn hz hfl => PSs.many (t := fun k => tRet (tE X ⟨exAt on a k, Y.T, fun _ _ _ _ => False⟩ true m)) fun k ⟨hk, e1, e2⟩ => ?_)) fun D σ H h => ?_⟩
  · subst e1 e2
    obtain ⟨vs, hv⟩ := hfl
    have hK : HotK on (X.suite a ((a, oe) :: pn)) (Yfe on Y.T (a, oe) k) n := ⟨(a, oe), k, hk, ⟨rfl, vs, hv, hz.2.2 vs hv⟩, List.mem_cons_self, hz.zc, hnn, rfl⟩
    exact pss_one (ps_ret (he a oe k pn hK).pe)
  · obtain ⟨Oc, d, rs, h⟩ := h
    refine ⟨Oc, d, rs, ?_⟩
    unfold mTryRet at h
    have keep : ∀ o : SOut, b d = o → (∀ k d1, o ≠ .exc k d1) → PoS X Y Oc d σ H o D → PoS X { Y with W := wAs X.K (Y.T j) i (fun a cls dd D σ H => ∃ k, (k < n ∧ cls = Y.T k ∧ dd = none) ∧ tRet (tE X ⟨exAt on a k, Y.T, fun _ _ _ _ => False⟩ true m) D σ H) Y.W D } Oc d σ H o D := fun o _ no h => h.wish fun k d1 e => absurd e (no k d1)
    cases q : b d with
    | next d1 => rw [q] at h; exact keep _ q (fun _ _ => nofun) h
    | brk d1 => rw [q] at h; exact keep _ q (fun _ _ => nofun) h
    | cont d1 => rw [q] at h; exact keep _ q (fun _ _ => nofun) h
    | ret r d1 => rw [q] at h; exact keep _ q (fun _ _ => nofun) h
    | bad => rw [q] at h; exact h
    | exc k d1 =>
      rw [q] at h
      dsimp only at h
      intro σ1 H1 g1
      by_cases hk : k < n
      · rw [if_pos hk] at h
        refine ⟨sub k j, cf.exm k j hk hj, fun hsub a ha => ⟨k, ⟨hk, rfl, rfl⟩, ?_⟩, fun hsub => ?_⟩
        · rw [if_pos hsub] at h
          by_cases hfr : freeAt i d1 = true
          · rw [if_pos hfr] at h
            have rs1 : RS X.K (exAt on a k) Oc H1 d1 σ1 := g1.rs.ex (fun b c z => by rw [hE] at z; exact .inr z) fun b z => by
              rw [hE]
              rcases z with ⟨_, z⟩ | z
              · exact absurd z (Nat.ne_of_gt (Nat.lt_of_lt_of_le hk (Nat.le_trans hnn (by decide))))
              · exact z
            have g2 := store_go (i := i) rs1 (.exc (a := a) (c := k) (.inl ⟨rfl, rfl⟩)) (freeAt_store (w := exD k) hfr)
            refine ⟨Oc, _, g2.rs, ?_⟩
            cases q2 : m (d1.set i (some (.val (exD k)))) with
            | bad => rw [q2] at h; exact h.elim
            | exc c d2 => rw [q2] at h; exact h.elim
            | ok w d2 =>
              rw [q2] at h
              dsimp only at h
              by_cases hw : noD w = true
              · rw [if_pos hw] at h
                intro H3 g3 v rv
                have sm := (g3.pur rfl).1
                have e2 := (g3.pur rfl).2
                have g4 := g1.trans (GoS.same g1.rs sm)
                refine h σ1 H3 v g4 ?_
                have rv2 : Rp X.K Y.Ex (Ow Oc d2 (σ1.set i (some (.ref a)))) H3 v w := rv.anyEx (fun b z => by
                  rw [hE]
                  rcases z with ⟨_, z⟩ | z
                  · exact absurd z (Nat.ne_of_gt (Nat.lt_of_lt_of_le hk hnn))
                  · exact z) hw
                exact rv2.mono (fun b u n e => ⟨fun z => n (by rw [e2]; exact freeAt_ow hfr z), e⟩) fun _ _ z => z
              · rw [if_neg hw] at h; exact h.elim
          · rw [if_neg hfr] at h; exact h.elim
        · rw [if_neg (by rw [hsub]; exact Bool.false_ne_true)] at h
          exact h σ1 H1 g1
      · rw [if_neg hk] at h; exact h.elim
end
end Qd
end
section
set_option Elab.async false
set_option linter.all false
set_option maxRecDepth 100000
set_option maxHeartbeats 1000000
/-! Own lists and dicts: methods, stores, items. -/
namespace Qd
open PySem PySem.Spec PyProof.Rows L2

def tyW : W → String
  | .list _ => "list"
  | .dict _ => "dict"
  | .int _ => "int"
  | .str _ => "str"
  | _ => ""
section
variable {K : PySem.W.Frag} {Ex : Addr → Nat → Prop} {O : Addr → Prop} {H : Hp} {p : Addr} {xs : List V} {ds : List W}
theorem Ob.put (hp : O p) (r : RpA K Ex O H xs ds) : But p H (upd H p (.lst xs)) ∧ Ob K Ex O (upd H p (.lst xs)) p (.list ds) :=
  ⟨fun a o n e => by rw [upd_ne n]; exact e, ⟨_, upd_same, r.mono (fun a u n e => ⟨n, by rw [upd_ne (fun z => n (by rw [z]; exact hp))]; exact e⟩) fun _ _ z => z⟩⟩
theorem Ob.tyV {u : W} {T : String} (ob : Ob K Ex O H p u) (e : tyW u = T) : L2.tyV K T (.ref p) H := by
  cases u with
  | list ds => obtain ⟨ys, h, _⟩ := ob; exact .inl ⟨e.symm, _, .inl (.inl h)⟩
  | dict ds =>
    rcases ob with ⟨ys, h, _⟩ | ⟨ys, _, _, h, _⟩
    · exact .inr (.inr (.inl ⟨e.symm, .inl ⟨_, h⟩⟩))
    · exact .inr (.inr (.inl ⟨e.symm, .inr ⟨_, h⟩⟩))
  | none => exact ob.elim
  | bool b => exact ob.elim
  | int i => exact ob.elim
  | str s => exact ob.elim
  | tuple t => exact ob.elim
theorem Rp.tyV {v : V} {u : W} {T : String} (r : Rp K Ex O H v u) (e : tyW u = T) (h : ∀ ds, u ≠ .dict ds) (ht : T ≠ "") : L2.tyV K T v H := by
  cases r with
  | non => exact absurd e.symm ht
  | bl b => exact absurd e.symm ht
  | int i => exact e.symm
  | str x => exact e.symm
  | lst l _ => exact .inl ⟨e.symm, _, l.sq⟩
  | tup _ _ => exact absurd e.symm ht
  | dK _ _ _ => exact absurd rfl (h _)
  | dT _ _ _ => exact absurd rfl (h _)
  | exc _ => exact absurd rfl (h _)
end
/-- a method that may write its object, by data: the answer, the object's data behind it -/
def MetD (X : Cx) (id : String) (g : W → List W → Option (W × W)) : Prop :=
  ∃ r, MtR X id r ∧ ∀ (Ex : Addr → Nat → Prop) (O : Addr → Prop) (H : Hp) (p : Addr) (u : W) (xs : List V) (as : List W) (c u' : W) (Q : VK), (∀ q, O q → ∃ o, H q = some o) → g u as = some (c, u') → O p → Ob X.K Ex O H p u → RpA X.K Ex O H xs as →
    (∀ H' v, But p H H' → Ob X.K Ex O H' p u' → Rp X.K Ex O H' v c → Q v H') → r (.ref p) xs H Q
def mMeth (T : String) (g : W → List W → Option (W × W)) (i : Nat) (as : M (List W)) : M W := fun d => (ofOpt (mineAt i d) d).bind fun u0 d0 => if tyW u0 = T then (as d0).bind fun ws d1 => (ofOpt (mineAt i d1) d1).bind fun u d2 => match g u ws with
  | some (c, u') => .ok c (setMine i u' d2)
  | none => .bad else .bad
section
variable {X : Cx} {Y : Yx}
theorem slot_same {d d1 : SD} {σ : St} {i : Nat} {u0 u : W} {K : PySem.W.Frag} {Ex : Addr → Nat → Prop} {Oc : Addr → Prop} {H H1 : Hp} {pu : Bool} (rs : RS K Ex Oc H d σ) (e0 : mineAt i d = some u0) (g : Go K Ex Oc pu σ d H d1 H1) (e1 : mineAt i d1 = some u) :
    ∃ (p : Addr) (s : Slot), σ[i]? = some (some (.ref p)) ∧ Ob K Ex (Ow Oc d σ) H p u0 ∧ d1[i]? = some (some s) ∧ Slot.mine? s = some u ∧ ¬ Oc p ∧ Ob K Ex (Ow Oc d1 σ) H1 p u := by
  obtain ⟨s0, f1, f2⟩ := mineAt_some e0
  obtain ⟨p, ep, _, ob0⟩ := rs.own i s0 u0 f1 f2
  obtain ⟨s, g1, g2⟩ := mineAt_some e1
  obtain ⟨p1, ep1, np, ob⟩ := g.rs.own i s u g1 g2
  rw [ep] at ep1; cases ep1
  exact ⟨p, s, ep, ob0, g1, g2, np, ob⟩
theorem t_meth {pu : Bool} {T id : String} {g : W → List W → Option (W × W)} {r : V → List V → Hp → VK → Prop} {i : Nat} {as : M (List W)} (hd : ∀ (Ex : Addr → Nat → Prop) (O : Addr → Prop) (H : Hp) (p : Addr) (u : W) (xs : List V) (as : List W) (c u' : W) (Q : VK), (∀ q, O q → ∃ o, H q = some o) → g u as = some (c, u') → O p → Ob X.K Ex O H p u → RpA X.K Ex O H xs as →
    (∀ H' v, But p H H' → Ob X.K Ex O H' p u' → Rp X.K Ex O H' v c → Q v H') → r (.ref p) xs H Q) (σ : St) (H : Hp) (Q : VK) (h : tE X Y false (mMeth T g i as) σ H Q) : tVar i σ H fun x H1 => L2.tyV X.K T x H1 ∧ tL X Y pu as σ H1 fun xs H2 => r x xs H2 Q := by
  obtain ⟨Oc, d, rs, h⟩ := h
  unfold mMeth at h
  cases q0 : mineAt i d with
  | none => rw [q0] at h; exact h.elim
  | some u0 =>
    rw [q0] at h
    dsimp only [ofOpt, Out.bind] at h
    by_cases ht : tyW u0 = T
    · rw [if_pos ht] at h
      obtain ⟨s0, f1, f2⟩ := mineAt_some q0
      obtain ⟨p, ep, _, ob0⟩ := rs.own i s0 u0 f1 f2
      refine ⟨_, ep, ob0.tyV ht, Oc, d, rs, ?_⟩
      have hh := Po.bindF (p := pu) (show Po X Y false Oc σ d H ((as d).bind _) _ from h)
      refine hh.imp fun ws d1 H1 g1 h1 vs ra => ?_
      cases q1 : mineAt i d1 with
      | none => rw [q1] at h1; exact h1.elim
      | some u =>
        rw [q1] at h1
        dsimp only [ofOpt, Out.bind] at h1
        obtain ⟨p', s, ep', _, e1, e2, np, ob⟩ := slot_same rs q0 g1 q1
        rw [ep] at ep'; cases ep'
        cases q2 : g u ws with
        | none => rw [q2] at h1; exact h1.elim
        | some cu =>
          obtain ⟨c, u'⟩ := cu
          rw [q2] at h1
          refine hd Y.Ex (Ow Oc d1 σ) H1 p u vs ws c u' Q (fun q z => g1.rs.there z) q2 (.inr ⟨i, s, u, e1, e2, ep⟩) ob ra fun H' v b ob' rv => ?_
          have fin := setMine_go g1.rs e1 e2 ep b ob'
          exact h1 H' fin v (rv.mono (fun a x n e => ⟨fun z => n (z.imp (fun y => y) fin.sim.mine.mp), e⟩) fun _ _ z => z)
    · rw [if_neg ht] at h; exact h.elim
theorem d_meth {pu : Bool} {T id : String} {name y : Str} {g : W → List W → Option (W × W)} {i : Nat} {e : Expr} {es : List Expr} {as : M (List W)} {p apos cpos : Pos} (pa : PlainAttrs T) (slot : PySem.Slot T name id) (hty : typeOf (.builtin id) = pure (.type "method_descriptor")) (hm : MetD X id g) (ha : DL X Y pu (e :: es) as)
    (hN : X.N[i]? = some y := by rfl) (hv : Vis X.env.scope y := by first | exact Or.inl rfl | exact Or.inr (Or.inl rfl) | exact Or.inr (Or.inr rfl)) (hd : (y == ("__debug__" : Str)) = false := by decide) (hcd : (y == ("__classdict__" : Str)) = false := by decide)
    (hbase : attributeBase (.Name y p) name X.env (eval (.Name y p) X.env) = eval (.Name y p) X.env := by rfl)
    (hfew : ((backTo cpos (starEach (e :: es) X.env)).all (fun x => !x.1) && (backToKw cpos (keywordEach [] X.env)).all (fun x => x.1.isSome) && decide ((e :: es).length + ([] : List Keyword).length + (if ([] : List Keyword).isEmpty then 0 else 1) < 30)) = true := by rfl)
    (hline : (apos.endLine == cpos.line) = true := by rfl) (hs : starEach (e :: es) X.env = (false, eval e X.env) :: starEach es X.env := by rfl) (hplain : (backTo cpos (starEach es X.env)).any (·.1) = false := by rfl) :
    DE X Y false (.Call (.Attribute (.Name y p) name apos) (e :: es) [] cpos) (mMeth T g i as) :=
  let ⟨_, hr, hdd⟩ := hm
  ⟨pe_weak (pe_bm pa slot hty hr (pe_var hN hv hd hcd) ha.pa hbase hfew hline hs hplain) fun σ H Q h => t_meth (id := id) hdd σ H Q h⟩
theorem d_meth0 {T id : String} {name y : Str} {g : W → List W → Option (W × W)} {i : Nat} {p apos cpos : Pos} (pa : PlainAttrs T) (slot : PySem.Slot T name id) (hty : typeOf (.builtin id) = pure (.type "method_descriptor")) (hm : MetD X id g)
    (hN : X.N[i]? = some y := by rfl) (hv : Vis X.env.scope y := by first | exact Or.inl rfl | exact Or.inr (Or.inl rfl) | exact Or.inr (Or.inr rfl)) (hd : (y == ("__debug__" : Str)) = false := by decide) (hcd : (y == ("__classdict__" : Str)) = false := by decide)
    (hbase : attributeBase (.Name y p) name X.env (eval (.Name y p) X.env) = eval (.Name y p) X.env := by rfl) (hline : (apos.endLine == cpos.line) = true := by rfl) : DE X Y false (.Call (.Attribute (.Name y p) name apos) [] [] cpos) (mMeth T g i mNil) :=
  let ⟨r, hr, hdd⟩ := hm
  ⟨pe_weak (pe_bm0 pa slot hty hr (pe_var hN hv hd hcd) hbase hline) fun σ H Q h => by
    obtain ⟨v, e1, t1, h1⟩ := t_meth (id := id) (pu := true) (r := r) hdd σ H Q h
    refine ⟨v, e1, t1, ?_⟩
    obtain ⟨Oc, d, rs, h1⟩ := h1
    exact h1 H (.refl rs) [] .nil⟩
end

/-! ### lists -/
section
variable {X : Cx}
def appendW : W → List W → Option (W × W) := fun u as => match u, as with
  | .list ds, [w] => if ds.length < sizeLine then some (.none, .list (ds ++ [w])) else none
  | _, _ => none
theorem md_append : MetD X "list.append" appendW := by
  refine ⟨_, mt_append, fun Ex O H p u xs as c u' Q hO h hp ob ra q => ?_⟩
  unfold appendW at h
  split at h
  · split at h
    · rename_i ds w hl
      cases h
      obtain ⟨ys, e, r⟩ := ob
      obtain ⟨v, rfl, rv⟩ := rpA1 ra
      obtain ⟨b, o⟩ := Ob.put hp (r.append (.cons rv .nil))
      exact ⟨p, ys, v, rfl, rfl, e, by rw [r.length]; exact hl, q _ _ b o .non⟩
    · cases h
  · cases h
def popW : W → List W → Option (W × W) := fun u as => match u, as with
  | .list ds, [] => match ds[ds.length - 1]? with
    | some y => some (y, .list ds.dropLast)
    | none => none
  | _, _ => none
theorem md_pop : MetD X "list.pop" popW := by
  refine ⟨_, mt_pop, fun Ex O H p u xs as c u' Q hO h hp ob ra q => ?_⟩
  unfold popW at h
  split at h
  · split at h
    · rename_i ds y hl
      cases h
      obtain ⟨ys, e, r⟩ := ob
      cases ra
      rw [← r.length] at hl
      obtain ⟨v, ev, rv⟩ := r.get hl
      obtain ⟨b, o⟩ := Ob.put hp r.dropLast
      refine ⟨p, ys, v, rfl, rfl, e, ev, q _ _ b o (rv.mono (fun a u n e => ⟨n, b a u (fun z => n (by rw [z]; exact hp)) e⟩) fun _ _ z => z)⟩
    · cases h
  · cases h
noncomputable def popAtW : W → List W → Option (W × W) := fun u as => match u, as with
  | .list ds, [.int i] => if cdec (-(2 ^ 63) ≤ i ∧ i < 2 ^ 63) = true then (match seqIndex? i ds.length with
    | some k => (match ds[k]? with
      | some y => some (y, .list (ds.eraseIdx k))
      | none => none)
    | none => none) else none
  | _, _ => none
theorem md_popAt : MetD X "list.pop" popAtW := by
  refine ⟨_, mt_popAt, fun Ex O H p u xs as c u' Q hO h hp ob ra q => ?_⟩
  unfold popAtW at h
  split at h
  · split at h
    · rename_i ds i hi
      have hi := cdec_iff.mp hi
      obtain ⟨ys, e, r⟩ := ob
      obtain ⟨v, rfl, rv⟩ := rpA1 ra
      cases rp_int rv
      cases q1 : seqIndex? i ds.length with
      | none => rw [q1] at h; cases h
      | some k =>
        rw [q1] at h
        dsimp only at h
        cases q2 : ds[k]? with
        | none => rw [q2] at h; cases h
        | some y =>
          rw [q2] at h
          cases h
          obtain ⟨v, ev, rv⟩ := r.get q2
          obtain ⟨b, o⟩ := Ob.put hp (r.eraseIdx k)
          exact ⟨p, ys, i, k, v, rfl, rfl, e, hi.1, hi.2, by rw [r.length]; exact q1, ev, q _ _ b o (rv.mono (fun a u n e => ⟨n, b a u (fun z => n (by rw [z]; exact hp)) e⟩) fun _ _ z => z)⟩
    · cases h
  · cases h
noncomputable def insertW : W → List W → Option (W × W) := fun u as => match u, as with
  | .list ds, [.int i, w] => if cdec (ds.length < sizeLine ∧ 0 ≤ i ∧ i < 2 ^ 63) = true then some (.none, .list (ds.take i.toNat ++ [w] ++ ds.drop i.toNat)) else none
  | _, _ => none
theorem md_insert : MetD X "list.insert" insertW := by
  refine ⟨_, mt_insert, fun Ex O H p u xs as c u' Q hO h hp ob ra q => ?_⟩
  unfold insertW at h
  split at h
  · split at h
    · rename_i ds i w hi
      have hi := cdec_iff.mp hi
      cases h
      obtain ⟨ys, e, r⟩ := ob
      obtain ⟨v, v2, rfl, rv, rv2⟩ := rpA2 ra
      cases rp_int rv
      obtain ⟨b, o⟩ := Ob.put hp (((r.take i.toNat).append (.cons rv2 .nil)).append (r.drop i.toNat))
      exact ⟨p, ys, i, v2, rfl, rfl, e, by rw [r.length]; exact hi.1, hi.2.1, hi.2.2, q _ _ b o .non⟩
    · cases h
  · cases h
end

/-! ### x[i] = v -/
def SetD (X : Cx) (g : W → W → W → Option W) : Prop :=
  ∃ t, PSet X t ∧ ∀ (Ex : Addr → Nat → Prop) (O : Addr → Prop) (H : Hp) (p : Addr) (u k w u' : W) (y v : V) (Q : Hp → Prop), (∀ q, O q → ∃ o, H q = some o) → g u k w = some u' → O p → Ob X.K Ex O H p u → Rp X.K Ex O H y k → Rp X.K Ex O H v w →
    (∀ H', But p H H' → Ob X.K Ex O H' p u' → Q H') → t (.ref p) y v H Q
def setLW : W → W → W → Option W := fun u k w => match u, k with
  | .list ds, .int i => match ixN ds.length i with
    | some j => some (.list (ds.set j w))
    | none => none
  | _, _ => none
theorem sd_list {X : Cx} : SetD X setLW := by
  refine ⟨_, set_list, fun Ex O H p u k w u' y v Q hO h hp ob ry rv q => ?_⟩
  unfold setLW at h
  split at h
  · split at h
    · rename_i ds i j hj
      cases h
      obtain ⟨ys, e, r⟩ := ob
      cases rp_int ry
      obtain ⟨b, o⟩ := Ob.put hp (r.set rv j)
      exact ⟨p, ys, _, j, rfl, rfl, e, by rw [r.length]; exact hj, q _ b o⟩
    · cases h
  · cases h
def mSetIx (g : W → W → W → Option W) (i : Nat) (ix m : M W) : MS := fun d => (m d).toS fun w d1 => (ofOpt (mineAt i d1) d1).toS fun _ d1 => (ix d1).toS fun k d2 => (ofOpt (mineAt i d2) d2).toS fun u d2 => match g u k w with
  | some u' => .next (setMine i u' d2)
  | none => .bad
section
variable {X : Cx} {Y : Yx}
theorem ds_setIx {pe pi : Bool} {g : W → W → W → Option W} {i : Nat} {y : Str} {ix e : Expr} {p pos pos' : Pos} {mi m : M W} (hs : SetD X g) (hi : DE X Y pi ix mi) (he : DE X Y pe e m)
    (hN : X.N[i]? = some y := by rfl) (hv : Vis X.env.scope y := by first | exact Or.inl rfl | exact Or.inr (Or.inl rfl) | exact Or.inr (Or.inr rfl)) (hd : (y == ("__debug__" : Str)) = false := by decide) (hcd : (y == ("__classdict__" : Str)) = false := by decide)
    (ha : ∀ v, assign (.Subscript (.Name y p) ix pos') X.env v = (do
      let ov ← holding [v] (eval (.Name y p) X.env)
      let iv ← holding [v, ov] (eval ix X.env)
      standAt pos'
      holding [v, ov, iv] (setItem ov iv v)
      release [v, ov, iv] []) := by intro _; rfl)
    (hsw : swapsWithSole [.Subscript (.Name y p) ix pos'] e pos.line X.env = pure false := by rfl) (hw : swappedStores [.Subscript (.Name y p) ix pos'] e X.env = pure none := by rfl) (h1 : (assignEach [.Subscript (.Name y p) ix pos'] X.env).map (·.2) = [assign (.Subscript (.Name y p) ix pos') X.env] := by rfl) :
    DS X Y (.Assign [.Subscript (.Name y p) ix pos'] e pos) (mSetIx g i mi m) := by
  obtain ⟨t, ht, hdd⟩ := hs
  refine ⟨ps_weak (ps_asg he.pe (pg_sub (pe_var hN hv hd hcd) hi.pe ht ha) hsw hw h1) fun D σ H h => ?_⟩
  obtain ⟨Oc, d, rs, h⟩ := h
  refine ⟨Oc, d, rs, (Po.toS h).imp fun w d1 H1 g1 h1 v rv => ?_⟩
  cases q0 : mineAt i d1 with
  | none => rw [q0] at h1; exact h1.elim
  | some u0 =>
    rw [q0] at h1
    dsimp only [ofOpt, Out.toS] at h1
    obtain ⟨s0, f1, f2⟩ := mineAt_some q0
    obtain ⟨a, ea, _, ob0⟩ := g1.rs.own i s0 u0 f1 f2
    refine ⟨_, ea, Oc, d1, g1.rs, (Po.toS (p := pi) h1).imp fun k d2 H2 g2 h2 kv rk => ?_⟩
    cases q1 : mineAt i d2 with
    | none => rw [q1] at h2; exact h2.elim
    | some u =>
      rw [q1] at h2
      dsimp only [ofOpt, Out.toS] at h2
      obtain ⟨p', s, ep', _, e1, e2, np, ob⟩ := slot_same g1.rs q0 g2 q1
      rw [ea] at ep'; cases ep'
      cases q2 : g u k w with
      | none => rw [q2] at h2; exact h2.elim
      | some u' =>
        rw [q2] at h2
        refine hdd Y.Ex (Ow Oc d2 σ) H2 a u k w u' kv v _ (fun q z => g2.rs.there z) q2 (.inr ⟨i, s, u, e1, e2, ea⟩) ob rk (g2.rp rv) fun H' b ob' => ?_
        exact h2 σ H' (setMine_go g2.rs e1 e2 ea b ob').toS
/-- x[i], x an own list -/
def mSubOwn (i : Nat) (ix : M W) : M W := fun d => (ofOpt (mineAt i d) d).bind fun _ d => (ix d).bind fun k d1 => (ofOpt (mineAt i d1) d1).bind fun u d1 => match u, k with
  | .list ds, .int j => ofOpt (atI ds j) d1
  | _, _ => .bad
theorem RpA.atI {K : PySem.W.Frag} {Ex : Addr → Nat → Prop} {O : Addr → Prop} {H : Hp} {vs : List V} {ws : List W} {i : Int} {w : W} (r : RpA K Ex O H vs ws) (h : L2.atI ws i = some w) : ∃ v, L2.atI vs i = some v ∧ Rp K Ex O H v w := by
  unfold L2.atI at h ⊢
  rw [r.length]
  cases q : ixN ws.length i with
  | none => rw [q] at h; cases h
  | some j => rw [q] at h; exact r.get h
theorem d_subOwn {pi : Bool} {i : Nat} {y : Str} {ix : Expr} {p pos : Pos} {mi : M W} (hi : DE X Y pi ix mi) (hpl : PlainIx ix) (hN : X.N[i]? = some y := by rfl) (hv : Vis X.env.scope y := by first | exact Or.inl rfl | exact Or.inr (Or.inl rfl) | exact Or.inr (Or.inr rfl)) (hd : (y == ("__debug__" : Str)) = false := by decide)
    (hcd : (y == ("__classdict__" : Str)) = false := by decide) : DE X Y pi (.Subscript (.Name y p) ix pos) (mSubOwn i mi) := ⟨pe_weak (pe_ix ix_list (pe_var hN hv hd hcd) hi.pe hpl) fun σ H Q h => by
  obtain ⟨Oc, d, rs, h⟩ := h
  unfold mSubOwn at h
  cases q0 : mineAt i d with
  | none => rw [q0] at h; exact h.elim
  | some u0 =>
    rw [q0] at h
    dsimp only [ofOpt, Out.bind] at h
    obtain ⟨s0, f1, f2⟩ := mineAt_some q0
    obtain ⟨a, ea, _, ob0⟩ := rs.own i s0 u0 f1 f2
    refine ⟨_, ea, Oc, d, rs, (Po.bind1 (show Po X Y pi Oc σ d H ((mi d).bind _) _ from h)).imp fun k d1 H1 g1 h1 kv rk => ?_⟩
    cases q1 : mineAt i d1 with
    | none => rw [q1] at h1; exact h1.elim
    | some u =>
      rw [q1] at h1
      dsimp only [ofOpt, Out.bind] at h1
      obtain ⟨p', s, ep', _, e1, e2, np, ob⟩ := slot_same rs q0 g1 q1
      rw [ea] at ep'; cases ep'
      cases u with
      | list ds =>
        cases k with
        | int j =>
          dsimp only at h1
          cases q2 : L2.atI ds j with
          | none => rw [q2] at h1; exact h1.elim
          | some w =>
            rw [q2] at h1
            obtain ⟨ys, eH, r⟩ := ob
            obtain ⟨v, ev, rv⟩ := r.atI q2
            cases rp_int rk
            exact ⟨a, ys, j, v, rfl, rfl, .inl (.inl eH), ev, h1 H1 (.refl g1.rs) v rv⟩
        | _ => exact h1.elim
      | _ => exact h1.elim⟩
end
end Qd
end
section
set_option Elab.async false
set_option linter.all false
set_option maxRecDepth 100000
set_option maxHeartbeats 1000000
/-! Dicts by data. -/
namespace Qd
open PySem PySem.Spec PyProof.Rows L2

def isK : W → Option Key
  | .int i => some (.inl i)
  | .str x => some (.inr x)
  | _ => none
def isKs : List W → Option (List Key)
  | [] => some []
  | w :: r => match isK w, isKs r with
    | some k, some ks => some (k :: ks)
    | _, _ => none
def isT : W → Option (List Key)
  | .tuple ws => isKs ws
  | _ => none
@[simp] theorem isK_keyD (k : Key) : isK (keyD k) = some k := by cases k <;> rfl
theorem isK_some {w : W} {k : Key} (h : isK w = some k) : w = keyD k := by
  cases w <;> simp [isK] at h <;> subst h <;> rfl
@[simp] theorem isKs_keyD : ∀ ks : List Key, isKs (ks.map keyD) = some ks
  | [] => rfl
  | k :: r => by simp [isKs, isKs_keyD r]
theorem isKs_some : ∀ {ws : List W} {ks : List Key}, isKs ws = some ks → ws = ks.map keyD
  | [], ks, h => by cases h; rfl
  | w :: r, ks, h => by
    unfold isKs at h
    split at h
    · rename_i k l h1 h2
      cases h
      rw [isK_some h1, isKs_some h2]; rfl
    · cases h
def eT (ks : List Key) : W := .tuple (ks.map keyD)
@[simp] theorem isT_eT (ks : List Key) : isT (eT ks) = some ks := isKs_keyD ks
theorem isT_some {w : W} {ks : List Key} (h : isT w = some ks) : w = eT ks := by
  cases w <;> simp [isT] at h
  rw [isKs_some h]; rfl
/-- a dict's items by data: keys by tuples or not, and the items -/
def dkind : List (W × W) → Option (Bool × List (W × W))
  | [] => some (false, [])
  | (.none, .none) :: r => some (true, r)
  | (.none, _) :: _ => none
  | l => some (false, l)
section
variable {κ : Type} [DecidableEq κ]
def getG (dec : W → Option κ) (ds : List (W × W)) (k : κ) : Option W := (ds.find? fun kv => decide (dec kv.1 = some k)).map (·.2)
def putG (dec : W → Option κ) (enc : κ → W) (ds : List (W × W)) (k : κ) (w : W) : List (W × W) :=
  if (ds.any fun kv => decide (dec kv.1 = some k)) = true then ds.map (fun kv => if dec kv.1 = some k then (kv.1, w) else kv) else ds ++ [(enc k, w)]
end
def dfind (u k : W) : Option (Option W) := match u with
  | .dict ds => match dkind ds with
    | some (true, l) => (isT k).map (getG isT l)
    | some (false, l) => (isK k).map (getG isK l)
    | none => none
  | _ => none
def dput (u k w : W) : Option W := match u with
  | .dict ds => match dkind ds with
    | some (true, l) => match isT k with
      | some t => if l.length < sizeLine then some (.dict (tagT :: putG isT eT l t w)) else none
      | none => none
    | some (false, l) => match isK k with
      | some t => if l.length < sizeLine then some (.dict (putG isK keyD l t w)) else none
      | none => none
    | none => none
  | _ => none
section
variable {κ : Type} [DecidableEq κ] {R : V → W → Prop} {enc : κ → W} {dec : W → Option κ}
inductive GK (R : V → W → Prop) (enc : κ → W) : List (κ × V) → List (W × W) → Prop
  | nil : GK R enc [] []
  | cons {k : κ} {v : V} {w : W} {r : List (κ × V)} {s : List (W × W)} : R v w → GK R enc r s → GK R enc ((k, v) :: r) ((enc k, w) :: s)
theorem GK.length {l : List (κ × V)} {ds : List (W × W)} (g : GK R enc l ds) : l.length = ds.length := by
  induction g with
  | nil => rfl
  | cons _ _ ih => rw [List.length_cons, List.length_cons, ih]
theorem GK.get (hd : ∀ k, dec (enc k) = some k) {l : List (κ × V)} {ds : List (W × W)} (g : GK R enc l ds) (k : κ) : (valV l k = none ∧ getG dec ds k = none) ∨ ∃ v w, valV l k = some v ∧ getG dec ds k = some w ∧ R v w := by
  induction g with
  | nil => exact .inl ⟨rfl, rfl⟩
  | @cons k' v w r s h t ih =>
    by_cases e : k' = k
    · subst e
      refine .inr ⟨v, w, by simp [valV, List.find?_cons], by simp [getG, List.find?_cons, hd], h⟩
    · have e1 : valV ((k', v) :: r) k = valV r k := by simp [valV, List.find?_cons, e]
      have e2 : getG dec ((enc k', w) :: s) k = getG dec s k := by simp [getG, List.find?_cons, hd, e]
      rw [e1, e2]; exact ih
theorem GK.any (hd : ∀ k, dec (enc k) = some k) {l : List (κ × V)} {ds : List (W × W)} (g : GK R enc l ds) (k : κ) : (l.any fun kv => decide (kv.1 = k)) = ds.any fun kv => decide (dec kv.1 = some k) := by
  induction g with
  | nil => rfl
  | cons h t ih => rw [List.any_cons, List.any_cons, ih, hd]; simp
theorem GK.upd (hd : ∀ k, dec (enc k) = some k) {v : V} {w : W} (r : R v w) {k : κ} {l : List (κ × V)} {ds : List (W × W)} (g : GK R enc l ds) : GK R enc (l.map fun kv => if kv.1 = k then (kv.1, v) else kv) (ds.map fun kv => if dec kv.1 = some k then (kv.1, w) else kv) := by
  induction g with
  | nil => exact .nil
  | @cons k' v' w' r' s h t ih =>
    rw [List.map_cons, List.map_cons]
    by_cases e : k' = k
    · subst e
      simp only [hd, if_true]
      exact .cons r ih
    · rw [if_neg e, if_neg (by rw [hd]; simpa using e)]
      exact .cons h ih
theorem GK.snoc {l : List (κ × V)} {ds : List (W × W)} (g : GK R enc l ds) {k : κ} {v : V} {w : W} (r : R v w) : GK R enc (l ++ [(k, v)]) (ds ++ [(enc k, w)]) := by
  induction g with
  | nil => exact .cons r .nil
  | cons h t ih => exact .cons h ih
theorem GK.put (hd : ∀ k, dec (enc k) = some k) {v : V} {w : W} (r : R v w) {k : κ} {l : List (κ × V)} {ds : List (W × W)} (g : GK R enc l ds) : GK R enc (putK l k v) (putG dec enc ds k w) := by
  unfold putK putG
  rw [g.any hd]
  split
  · exact g.upd hd r
  · exact g.snoc r
end
section
variable {K : PySem.W.Frag} {Ex : Addr → Nat → Prop} {O : Addr → Prop} {H : Hp}
theorem rpK_g {l : List (Key × V)} {ds : List (W × W)} : RpK K Ex O H l ds ↔ GK (Rp K Ex O H) keyD l ds := by
  constructor
  · intro h
    induction l generalizing ds with
    | nil => cases h; exact .nil
    | cons p r ih => cases h with | cons a b => exact .cons a (ih b)
  · intro h
    induction h with
    | nil => exact .nil
    | cons a b ih => exact .cons a ih
theorem rpT_g {l : List (List Key × V)} {ds : List (W × W)} : RpT K Ex O H l ds ↔ GK (Rp K Ex O H) eT l ds := by
  constructor
  · intro h
    induction l generalizing ds with
    | nil => cases h; exact .nil
    | cons p r ih => cases h with | cons a b => exact .cons a (ih b)
  · intro h
    induction h with
    | nil => exact .nil
    | cons a b ih => exact .cons a ih
theorem dkind_K {l : List (Key × V)} {ds : List (W × W)} (h : RpK K Ex O H l ds) : dkind ds = some (false, ds) := by
  cases h with
  | nil => rfl
  | @cons k v w vs ws a b => cases k <;> rfl
theorem rp_key {y : V} {k : W} {t : Key} (r : Rp K Ex O H y k) (h : isK k = some t) : y = kV t := by
  rw [isK_some h] at r
  cases t with
  | inl i => cases r; rfl
  | inr x => cases r; rfl
theorem rpA_keys : ∀ {xs : List V} {ks : List Key}, RpA K Ex O H xs (ks.map keyD) → xs = ks.map kV
  | _, [], r => by cases r; rfl
  | _, k :: ks, r => by
    cases r with
    | cons a b =>
      rw [rp_key a (isK_keyD k), rpA_keys b]; rfl
theorem rp_keyT (hx : ∀ a, ¬ Ex a cN) {y : V} {k : W} {t : List Key} (r : Rp K Ex O H y k) (h : isT k = some t) : ∃ b, y = .ref b ∧ H b = some (.tup (t.map kV)) := by
  rw [isT_some h] at r
  cases r with
  | tup l ra =>
    rcases l with ⟨_, e⟩ | ⟨z, _⟩
    · exact ⟨_, rfl, by rw [e, rpA_keys ra]⟩
    · exact absurd z (hx _)
/-- what a dict's object tells of a key -/
theorem Ob.dget (hx : ∀ a, ¬ Ex a cN) {p : Addr} {u k : W} {y : V} {o : Option W} (ob : Ob K Ex O H p u) (ry : Rp K Ex O H y k) (h : dfind u k = some o) : (o = none ∧ DGet H p y none) ∨ ∃ w v, o = some w ∧ DGet H p y (some v) ∧ Rp K Ex O H v w := by
  unfold dfind at h
  split at h
  · rename_i ds
    rcases ob with ⟨kvs, e, r⟩ | ⟨kvs, ds', rfl, e, r⟩
    · rw [dkind_K r] at h
      dsimp only at h
      cases q : isK k with
      | none => rw [q] at h; cases h
      | some t =>
        rw [q] at h
        cases h
        rw [rp_key ry q]
        rcases (rpK_g.mp r).get isK_keyD t with ⟨h1, h2⟩ | ⟨v, w, h1, h2, h3⟩
        · exact .inl ⟨h2, .inl ⟨kvs, t, .inl e, rfl, h1.symm⟩⟩
        · exact .inr ⟨w, v, h2, .inl ⟨kvs, t, .inl e, rfl, h1.symm⟩, h3⟩
    · dsimp only [dkind] at h
      cases q : isT k with
      | none => rw [q] at h; cases h
      | some t =>
        rw [q] at h
        cases h
        obtain ⟨b, rfl, eb⟩ := rp_keyT hx ry q
        rcases (rpT_g.mp r).get isT_eT t with ⟨h1, h2⟩ | ⟨v, w, h1, h2, h3⟩
        · exact .inl ⟨h2, .inr ⟨kvs, t, b, .inl e, rfl, eb, h1.symm⟩⟩
        · exact .inr ⟨w, v, h2, .inr ⟨kvs, t, b, .inl e, rfl, eb, h1.symm⟩, h3⟩
  · cases h
theorem Rp.dget (hx : ∀ a, ¬ Ex a cN) {x : V} {u k : W} {y : V} {o : Option W} (rx : Rp K Ex O H x u) (ry : Rp K Ex O H y k) (h : dfind u k = some o) : ∃ p, x = .ref p ∧ ((o = none ∧ DGet H p y none) ∨ ∃ w v, o = some w ∧ DGet H p y (some v) ∧ Rp K Ex O H v w) := by
  cases rx with
  | dK n e r =>
    refine ⟨_, rfl, ?_⟩
    unfold dfind at h
    dsimp only at h
    rw [dkind_K r] at h
    dsimp only at h
    cases q : isK k with
    | none => rw [q] at h; cases h
    | some t =>
      rw [q] at h
      cases h
      rw [rp_key ry q]
      rcases (rpK_g.mp r).get isK_keyD t with ⟨h1, h2⟩ | ⟨v, w, h1, h2, h3⟩
      · exact .inl ⟨h2, .inl ⟨_, t, e, rfl, h1.symm⟩⟩
      · exact .inr ⟨w, v, h2, .inl ⟨_, t, e, rfl, h1.symm⟩, h3⟩
  | dT n e r =>
    refine ⟨_, rfl, ?_⟩
    unfold dfind at h
    dsimp only [dkind] at h
    cases q : isT k with
    | none => rw [q] at h; cases h
    | some t =>
      rw [q] at h
      cases h
      obtain ⟨b, rfl, eb⟩ := rp_keyT hx ry q
      rcases (rpT_g.mp r).get isT_eT t with ⟨h1, h2⟩ | ⟨v, w, h1, h2, h3⟩
      · exact .inl ⟨h2, .inr ⟨_, t, b, e, rfl, eb, h1.symm⟩⟩
      · exact .inr ⟨w, v, h2, .inr ⟨_, t, b, e, rfl, eb, h1.symm⟩, h3⟩
  | exc z => unfold dfind at h; cases h
  | non => cases h
  | bl b => cases h
  | int i => cases h
  | str x => cases h
  | lst _ _ => cases h
  | tup _ _ => cases h
theorem Ob.dput (hx : ∀ a, ¬ Ex a cN) {p : Addr} {u k w u' : W} {y v : V} (hp : O p) (ob : Ob K Ex O H p u) (ry : Rp K Ex O H y k) (rv : Rp K Ex O H v w) (h : Qd.dput u k w = some u') : ∃ H', DPut H p y v H' ∧ But p H H' ∧ Ob K Ex O H' p u' := by
  have key : ∀ u : HO, But p H (upd H p u) := fun u a o n e => by rw [upd_ne n]; exact e
  have ke : ∀ u : HO, Ke O H O (upd H p u) := fun u a o n e => ⟨n, by rw [upd_ne (fun z => n (by rw [z]; exact hp))]; exact e⟩
  unfold Qd.dput at h
  split at h
  · rename_i ds
    rcases ob with ⟨kvs, e, r⟩ | ⟨kvs, ds', rfl, e, r⟩
    · rw [dkind_K r] at h
      dsimp only at h
      cases q : isK k with
      | none => rw [q] at h; cases h
      | some t =>
        rw [q] at h
        dsimp only at h
        split at h
        · rename_i hl
          cases h
          rw [rp_key ry q]
          refine ⟨_, .inl ⟨kvs, t, e, rfl, by rw [(rpK_g.mp r).length]; exact hl, rfl⟩, key _, .inl ⟨_, upd_same, ?_⟩⟩
          exact (rpK_g.mpr ((rpK_g.mp r).put isK_keyD rv)).mono (ke _) fun _ _ z => z
        · cases h
    · dsimp only [dkind] at h
      cases q : isT k with
      | none => rw [q] at h; cases h
      | some t =>
        rw [q] at h
        dsimp only at h
        split at h
        · rename_i hl
          cases h
          obtain ⟨b, rfl, eb⟩ := rp_keyT hx ry q
          refine ⟨_, .inr ⟨kvs, t, b, e, rfl, eb, by rw [(rpT_g.mp r).length]; exact hl, rfl⟩, key _, .inr ⟨_, _, rfl, upd_same, ?_⟩⟩
          exact (rpT_g.mpr ((rpT_g.mp r).put isT_eT rv)).mono (ke _) fun _ _ z => z
        · cases h
  · cases h
end

/-! ### the rules -/
section
variable {X : Cx} {Y : Yx}
def mDGet (a b : M W) : M W := fun d => (a d).bind fun u d1 => (b d1).bind fun k d2 => match dfind u k with
  | some (some w) => .ok w d2
  | _ => .bad
theorem d_dget {pa pb : Bool} {o i : Expr} {pos : Pos} {a b : M W} (hu : X.A.units + 1 < cLine) (hx : ∀ a, ¬ Y.Ex a cN) (ho : DE X Y pa o a) (hi : DE X Y pb i b) (hs : NoSl i) : DE X Y (pa && pb) (.Subscript o i pos) (mDGet a b) := ⟨pe_weak (pe_dget hu ho.pe hi.pe hs) fun σ H Q h => by
  obtain ⟨Oc, d, rs, h⟩ := h
  refine ⟨Oc, d, rs, (Po.bind h).imp fun u d1 H1 g1 h1 xv rx => ⟨Oc, d1, g1.rs, (Po.bind1 h1).imp fun k d2 H2 g2 h2 yv ry => ?_⟩⟩
  cases q : dfind u k with
  | none => rw [q] at h2; exact h2.elim
  | some o =>
    rw [q] at h2
    obtain ⟨p, rfl, ⟨rfl, _⟩ | ⟨w, v, rfl, dg, rv⟩⟩ := (g2.rp rx).dget hx ry q
    · exact h2.elim
    · exact ⟨p, v, rfl, dg, h2 H2 (.refl g2.rs) v rv⟩⟩
def mDIn (neg : Bool) (b a : M W) : M W := fun d => (b d).bind fun k d1 => (a d1).bind fun u d2 => match dfind u k with
  | some o => .ok (.bool (if neg then !o.isSome else o.isSome)) d2
  | none => .bad
theorem t_din {pa pb neg : Bool} {a b : M W} (hx : ∀ a, ¬ Y.Ex a cN) (σ : St) (H : Hp) (Q : VK) (h : tE X Y (pb && pa) (mDIn neg b a) σ H Q) : tE X Y pb b σ H fun y H1 => tE X Y pa a σ H1 fun x H2 => ∃ p o, x = .ref p ∧ DGet H2 p y o ∧ Q (.bl (if neg then !o.isSome else o.isSome)) H2 := by
  obtain ⟨Oc, d, rs, h⟩ := h
  refine ⟨Oc, d, rs, (Po.bind h).imp fun k d1 H1 g1 h1 yv ry => ⟨Oc, d1, g1.rs, (Po.bind1 h1).imp fun u d2 H2 g2 h2 xv rx => ?_⟩⟩
  cases q : dfind u k with
  | none => rw [q] at h2; exact h2.elim
  | some o =>
    rw [q] at h2
    obtain ⟨p, rfl, ⟨rfl, dg⟩ | ⟨w, v, rfl, dg, rv⟩⟩ := rx.dget hx (g2.rp ry) q
    · exact ⟨p, none, rfl, dg, h2 H2 (.refl g2.rs) _ (.bl _)⟩
    · exact ⟨p, some v, rfl, dg, h2 H2 (.refl g2.rs) _ (.bl _)⟩
theorem d_din {pa pb : Bool} {o i : Expr} {pos : Pos} {a b : M W} (hu : X.A.units + 1 < cLine) (hx : ∀ a, ¬ Y.Ex a cN) (hi : DE X Y pb i b) (ho : DE X Y pa o a) (hm : behindInMarks .In o = false := by rfl) : DE X Y (pb && pa) (.Compare i [.In] [o] pos) (mDIn false b a) :=
  ⟨pe_weak (pe_cmp (pc_din hu hi.pe ho.pe) hm) fun σ H Q h => t_din (neg := false) hx σ H Q h⟩
theorem d_dnotin {pa pb : Bool} {o i : Expr} {pos : Pos} {a b : M W} (hu : X.A.units + 1 < cLine) (hx : ∀ a, ¬ Y.Ex a cN) (hi : DE X Y pb i b) (ho : DE X Y pa o a) (hm : behindInMarks .NotIn o = false := by rfl) : DE X Y (pb && pa) (.Compare i [.NotIn] [o] pos) (mDIn true b a) :=
  ⟨pe_weak (pe_cmp (pc_dnotin hu hi.pe ho.pe) hm) fun σ H Q h => t_din (neg := true) hx σ H Q h⟩
/-- a test whose value is a bool -/
theorem tTest_B {pu : Bool} {m : M W} {t : TE} (w : ∀ σ H Q, tE X Y pu m σ H Q → t σ H Q) (σ : St) (H : Hp) (Q : Bool → Hp → Prop) (h : tT X Y pu (mTest m) σ H Q) : tB t σ H Q := by
  obtain ⟨Oc, d, rs, h⟩ := h
  refine w _ _ _ ⟨Oc, d, rs, (Po.bind1 h).imp fun c d1 H1 g1 h1 v r => ?_⟩
  cases c with
  | bool b => cases r; exact ⟨b, rfl, h1 H1 (.refl g1.rs) g1.rs⟩
  | _ => exact h1.elim
theorem dt_din {pa pb : Bool} {o i : Expr} {pos : Pos} {a b : M W} (hu : X.A.units + 1 < cLine) (hx : ∀ a, ¬ Y.Ex a cN) (hi : DE X Y pb i b) (ho : DE X Y pa o a) (hm : behindInMarks .In o = false := by rfl) : DT X Y (pb && pa) (.Compare i [.In] [o] pos) (mTest (mDIn false b a)) :=
  ⟨pt_weak (pt_cmp (pc_din hu hi.pe ho.pe) hm) (tTest_B fun σ H Q h => t_din (neg := false) hx σ H Q h)⟩
theorem dt_dnotin {pa pb : Bool} {o i : Expr} {pos : Pos} {a b : M W} (hu : X.A.units + 1 < cLine) (hx : ∀ a, ¬ Y.Ex a cN) (hi : DE X Y pb i b) (ho : DE X Y pa o a) (hm : behindInMarks .NotIn o = false := by rfl) : DT X Y (pb && pa) (.Compare i [.NotIn] [o] pos) (mTest (mDIn true b a)) :=
  ⟨pt_weak (pt_cmp (pc_dnotin hu hi.pe ho.pe) hm) (tTest_B fun σ H Q h => t_din (neg := true) hx σ H Q h)⟩
/-- d.get(k, x) -/
def isDW : W → Bool
  | .dict ds => (dkind ds).isSome
  | _ => false
def mDGet2 (a b c : M W) : M W := fun d => (a d).bind fun u d1 => if isDW u = true then (b d1).bind fun k d2 => (c d2).bind fun z d3 => match dfind u k with
  | some (some w) => .ok w d3
  | some none => .ok z d3
  | none => .bad else .bad
theorem rp_isD {K : PySem.W.Frag} {Ex : Addr → Nat → Prop} {O : Addr → Prop} {H : Hp} {v : V} {u : W} (r : Rp K Ex O H v u) (h : isDW u = true) : ∃ p, v = .ref p ∧ IsD H p := by
  cases r with
  | dK n e r => exact ⟨_, rfl, .inl ⟨_, e⟩⟩
  | dT n e r => exact ⟨_, rfl, .inr ⟨_, e⟩⟩
  | exc z => cases h
  | non => cases h
  | bl b => cases h
  | int i => cases h
  | str x => cases h
  | lst _ _ => cases h
  | tup _ _ => cases h
theorem d_dget2 {pa pb pc : Bool} {o e f : Expr} {apos cpos : Pos} {a b c : M W} (hu : X.A.units + 1 < cLine) (hx : ∀ a, ¬ Y.Ex a cN) (ho : DE X Y pa o a) (he : DE X Y pb e b) (hf : DE X Y pc f c) (m : M2 X o "get" apos e f cpos) :
    DE X Y (pa && (pb && pc)) (.Call (.Attribute o "get" apos) [e, f] [] cpos) (mDGet2 a b c) := ⟨pe_weak (pe_dget2 hu ho.pe he.pe hf.pe m) fun σ H Q h => by
  obtain ⟨Oc, d, rs, h⟩ := h
  refine ⟨Oc, d, rs, (Po.bind h).imp fun u d1 H1 g1 h1 xv rx => ?_⟩
  by_cases hz : isDW u = true
  · rw [if_pos hz] at h1
    obtain ⟨p, rfl, hp⟩ := rp_isD rx hz
    refine ⟨p, rfl, hp, Oc, d1, g1.rs, (Po.bind h1).imp fun k d2 H2 g2 h2 yv ry => ⟨Oc, d2, g2.rs, (Po.bind1 h2).imp fun z d3 H3 g3 h3 zv rz => ?_⟩⟩
    have g23 := g2.trans g3
    cases q : dfind u k with
    | none => rw [q] at h3; exact h3.elim
    | some o =>
      rw [q] at h3
      obtain ⟨p', e, ⟨rfl, dg⟩ | ⟨w, v, rfl, dg, rv⟩⟩ := (g23.rp rx).dget hx (g3.rp ry) q
      · cases e; exact ⟨none, dg, h3 H3 (.refl g3.rs) _ rz⟩
      · cases e; exact ⟨some v, dg, h3 H3 (.refl g3.rs) _ rv⟩
  · rw [if_neg hz] at h1; exact h1.elim⟩
/-- d[k] = v, d an own dict -/
theorem ds_dput {pe pi : Bool} {i : Nat} {y : Str} {ix e : Expr} {p pos pos' : Pos} {mi m : M W} (hu : X.A.units + 1 < cLine) (hx : ∀ a, ¬ Y.Ex a cN) (hi : DE X Y pi ix mi) (he : DE X Y pe e m)
    (hs : swapsWith e (some (.Subscript (.Name y p) ix pos')) pos.line X.env = pure false := by rfl) (hN : X.N[i]? = some y := by rfl) (hv : Vis X.env.scope y := by first | exact Or.inl rfl | exact Or.inr (Or.inl rfl) | exact Or.inr (Or.inr rfl)) (hd : (y == ("__debug__" : Str)) = false := by decide)
    (hcd : (y == ("__classdict__" : Str)) = false := by decide) : DS X Y (.Assign [.Subscript (.Name y p) ix pos'] e pos) (mSetIx dput i mi m) := by
  refine ⟨ps_weak (ps_dput hu (pe_var hN hv hd hcd) hi.pe he.pe hs) fun D σ H h => ?_⟩
  obtain ⟨Oc, d, rs, h⟩ := h
  refine ⟨Oc, d, rs, (Po.toS h).imp fun w d1 H1 g1 h1 v rv => ?_⟩
  cases q0 : mineAt i d1 with
  | none => rw [q0] at h1; exact h1.elim
  | some u0 =>
    rw [q0] at h1
    dsimp only [ofOpt, Out.toS] at h1
    obtain ⟨s0, f1, f2⟩ := mineAt_some q0
    obtain ⟨a, ea, _, ob0⟩ := g1.rs.own i s0 u0 f1 f2
    refine ⟨_, ea, Oc, d1, g1.rs, (Po.toS (p := pi) h1).imp fun k d2 H2 g2 h2 kv rk => ?_⟩
    cases q1 : mineAt i d2 with
    | none => rw [q1] at h2; exact h2.elim
    | some u =>
      rw [q1] at h2
      dsimp only [ofOpt, Out.toS] at h2
      obtain ⟨p', s, ep', _, e1, e2, np, ob⟩ := slot_same g1.rs q0 g2 q1
      rw [ea] at ep'; cases ep'
      cases q2 : dput u k w with
      | none => rw [q2] at h2; exact h2.elim
      | some u' =>
        rw [q2] at h2
        obtain ⟨H', dp, b, ob'⟩ := ob.dput hx (.inr ⟨i, s, u, e1, e2, ea⟩) rk (g2.rp rv) q2
        exact ⟨a, H', rfl, dp, h2 σ H' (setMine_go g2.rs e1 e2 ea b ob').toS⟩
/-- {} -/
def mDNew (tup : Bool) : M W := fun d => .ok (.dict (if tup then [tagT] else [])) d
theorem df_dnew (tup : Bool) {pos : Pos} : DF X Y true (.Dict [] [] pos) (mDNew tup) := by
  cases tup with
  | false => exact ⟨pe_weak pe_dnewK fun σ H Q h p np => by
      obtain ⟨Oc, d, rs, h⟩ := h
      have rs1 := rs.withNew (o := .dK []) np
      exact h _ (.same rs (same_new np)) p np rs1 (.inl ⟨_, upd_same, .nil⟩)⟩
  | true => exact ⟨pe_weak pe_dnewT fun σ H Q h p np => by
      obtain ⟨Oc, d, rs, h⟩ := h
      have rs1 := rs.withNew (o := .dT []) np
      exact h _ (.same rs (same_new np)) p np rs1 (.inr ⟨_, _, rfl, upd_same, .nil⟩)⟩
end
end Qd
end
section
set_option Elab.async false
set_option linter.all false
set_option maxRecDepth 100000
set_option maxHeartbeats 1000000
/-! More rules on values: comparisons of data, in, subscripts, slices, built-in calls. -/
namespace Qd
open PySem PySem.Spec PyProof.Rows L2

/-! ### one rule or another -/
def or2 (g g' : W → W → Option W) : W → W → Option W := fun a b => match g a b with
  | some c => some c
  | none => g' a b
theorem or2_some {g g' : W → W → Option W} {a b c : W} (h : or2 g g' a b = some c) : g a b = some c ∨ g' a b = some c := by
  unfold or2 at h
  split at h
  · rename_i q; rw [q]; exact .inl h
  · exact .inr h
def orL (g g' : List W → Option W) : List W → Option W := fun a => match g a with
  | some c => some c
  | none => g' a
theorem orL_some {g g' : List W → Option W} {a : List W} {c : W} (h : orL g g' a = some c) : g a = some c ∨ g' a = some c := by
  unfold orL at h
  split at h
  · rename_i q; rw [q]; exact .inl h
  · exact .inr h
section
variable {X : Cx}
theorem OpR.or' {f : Value → Value → Sem Value} {r r' : R2} (h : OpR X f r) (h' : OpR X f r') : OpR X f (fun x y H Q => r x y H Q ∨ r' x y H Q) := by
  intro pins s σ H x y v u Q I rx ry q
  rcases q with q | q
  · exact h pins s σ H x y v u Q I rx ry q
  · exact h' pins s σ H x y v u Q I rx ry q
theorem OpD.or {f : Value → Value → Sem Value} {g g' : W → W → Option W} (h : OpD X f g) (h' : OpD X f g') : OpD X f (or2 g g') := by
  obtain ⟨r, hr, hd⟩ := h
  obtain ⟨r', hr', hd'⟩ := h'
  exact ⟨_, OpR.or' hr hr', fun Ex O H x y a b c Q hO e rx ry q => (or2_some e).imp (fun e => hd Ex O H x y a b c Q hO e rx ry q) fun e => hd' Ex O H x y a b c Q hO e rx ry q⟩
theorem CallR.or' {f : Value} {r r' : List V → Hp → VK → Prop} (h : CallR X f r) (h' : CallR X f r') : CallR X f (fun x H Q => r x H Q ∨ r' x H Q) := by
  intro pins s σ H xs us Q I rx q
  rcases q with q | q
  · exact h pins s σ H xs us Q I rx q
  · exact h' pins s σ H xs us Q I rx q
theorem CallD.or {f : Value} {g g' : List W → Option W} (h : CallD X f g) (h' : CallD X f g') : CallD X f (orL g g') := by
  obtain ⟨r, hr, hd⟩ := h
  obtain ⟨r', hr', hd'⟩ := h'
  exact ⟨_, CallR.or' hr hr', fun Ex O H xs as c Q hO e rx q => (orL_some e).imp (fun e => hd Ex O H xs as c Q hO e rx q) fun e => hd' Ex O H xs as c Q hO e rx q⟩

/-! ### order of data -/
def ordOk (a b : W) : Bool := PySem.W.alike a b && !isNone a && (okD a && okD b)
def ltD : W → W → Option W := fun a b => if ordOk a b = true then some (.bool (PySem.W.dataLt a b)) else none
def gtD : W → W → Option W := fun a b => if ordOk a b = true then some (.bool (PySem.W.dataLt b a)) else none
def leD : W → W → Option W := fun a b => if ordOk a b = true then some (.bool (!PySem.W.dataLt b a)) else none
def geD : W → W → Option W := fun a b => if ordOk a b = true then some (.bool (!PySem.W.dataLt a b)) else none
theorem ordOk_of {a b : W} (h : ordOk a b = true) : PySem.W.alike a b = true ∧ a ≠ .none ∧ (noD a = true ∧ SeqAt.shaped a = true) ∧ noD b = true ∧ SeqAt.shaped b = true := by
  unfold ordOk at h
  rw [Bool.and_eq_true, Bool.and_eq_true] at h
  refine ⟨h.1.1, fun e => ?_, okD_and h.2⟩
  subst e
  simp [isNone] at h
theorem opd_ord {f : Value → Value → Sem Value} {k : W → W → Bool} (hf : ∀ {A : Around} {E : Value → Shared → Prop} {s : Shared} {u v : Value} {a b : W} {as bs : List Addr} {Q : Value → Shared → Prop}, Reads s.heap u a as → Reads s.heap v b bs → PySem.W.alike a b = true → a ≠ .none → A.units + min a.depth b.depth < cLine → Q (.bool (k a b)) s → wpAny (model X.prog X.w) A (f u v) Q E s)
    (hu : X.A.units + 64 < cLine) : OpD X f (fun a b => if ordOk a b = true then some (.bool (k a b)) else none) := by
  refine ⟨fun x y H Q => ∃ a b, Dp X.K H x a ∧ Dp X.K H y b ∧ ordOk a b = true ∧ Q (.bl (k a b)) H, ?_, fun Ex O H x y a b c Q hO h rx ry q => ?_⟩
  · intro pins s σ H x y v u Q I rx ry h
    obtain ⟨a, b, h1, h2, h3, q⟩ := h
    obtain ⟨e1, e2, ⟨_, e4⟩, _, e6⟩ := ordOk_of h3
    obtain ⟨as, r1⟩ := Dp.reads I a x v h1 rx
    obtain ⟨bs, r2⟩ := Dp.reads I b y u h2 ry
    exact hf r1 r2 e1 e2 (SeqAt.room_of_shaped e4 hu) ⟨.bl _, H, I, rfl, q⟩
  · dsimp only at h
    split at h
    · rename_i z
      cases h
      obtain ⟨_, _, ⟨e3, _⟩, e5, _⟩ := ordOk_of z
      exact ⟨a, b, rx.dp e3, ry.dp e5, z, q H _ (fun _ _ e => e) (.bl _)⟩
    · cases h
theorem od_ltD (hu : X.A.units + 64 < cLine) : OpD X (compareOp .Lt) ltD := opd_ord (fun r1 r2 e1 e2 e3 q => PySem.W.lt_data r1 r2 e1 e2 e3 q) hu
theorem od_gtD (hu : X.A.units + 64 < cLine) : OpD X (compareOp .Gt) gtD := opd_ord (k := fun a b => PySem.W.dataLt b a) (fun r1 r2 e1 e2 e3 q => PySem.W.gt_data r1 r2 e1 e2 e3 q) hu
theorem od_leD (hu : X.A.units + 64 < cLine) : OpD X (compareOp .LtE) leD := opd_ord (k := fun a b => !PySem.W.dataLt b a) (fun r1 r2 e1 e2 e3 q => PySem.W.le_data r1 r2 e1 e2 e3 q) hu
theorem od_geD (hu : X.A.units + 64 < cLine) : OpD X (compareOp .GtE) geD := opd_ord (k := fun a b => !PySem.W.dataLt a b) (fun r1 r2 e1 e2 e3 q => PySem.W.ge_data r1 r2 e1 e2 e3 q) hu
noncomputable abbrev ltW := or2 ltI ltD
noncomputable abbrev gtW := or2 gtI gtD
noncomputable abbrev leW := or2 leI leD
noncomputable abbrev geW := or2 geI geD
theorem od_lt (hu : X.A.units + 64 < cLine) : OpD X (compareOp .Lt) ltW := od_ltI.or (od_ltD hu)
theorem od_gt (hu : X.A.units + 64 < cLine) : OpD X (compareOp .Gt) gtW := od_gtI.or (od_gtD hu)
theorem od_le (hu : X.A.units + 64 < cLine) : OpD X (compareOp .LtE) leW := od_leI.or (od_leD hu)
theorem od_ge (hu : X.A.units + 64 < cLine) : OpD X (compareOp .GtE) geW := od_geI.or (od_geD hu)

/-! ### in -/
def itemsOf : W → Option (List W)
  | .list ds => some ds
  | .tuple ds => some ds
  | _ => none
theorem canLay_plain {d : W} (h : SeqAt.shaped d = true) : d.plain = true := PyData.plain_of_canLay0 d (SeqAt.canLay_of_shaped h)
def inW (neg : Bool) : W → W → Option W := fun a b => match itemsOf b with
  | some ds => if (okD a && okD b) = true then some (.bool (if neg then !ds.any fun z => PyData.eqv z a else ds.any fun z => PyData.eqv z a)) else none
  | none => none
theorem opd_in (neg : Bool) (hu : X.A.units + 65 < cLine) : OpD X (compareOp (if neg then .NotIn else .In)) (inW neg) := by
  refine ⟨fun x y H Q => ∃ a b ds, Dp X.K H x a ∧ Dp X.K H y b ∧ itemsOf b = some ds ∧ (okD a && okD b) = true ∧ Q (.bl (if neg then !ds.any fun z => PyData.eqv z a else ds.any fun z => PyData.eqv z a)) H, ?_, fun Ex O H x y a b c Q hO h rx ry q => ?_⟩
  · intro pins s σ H x y v u Q I rx ry h
    obtain ⟨a, b, ds, h1, h2, hi, h3, q⟩ := h
    obtain ⟨⟨e3, e4⟩, e5, e6⟩ := okD_and h3
    obtain ⟨as, r1⟩ := Dp.reads I a x v h1 rx
    obtain ⟨bs, r2⟩ := Dp.reads I b y u h2 ry
    have p1 := canLay_plain e4
    have p2 := canLay_plain e6
    have fin : EP X pins σ Q (.bool (if neg then !ds.any fun z => PyData.eqv z a else ds.any fun z => PyData.eqv z a)) s := ⟨.bl _, H, I, rfl, q⟩
    cases b with
    | list l =>
      cases hi
      cases neg with
      | false => exact SeqAt.in_list_data r2 r1 p2 p1 (room_in_shaped e4 hu) fin
      | true => exact SeqAt.notIn_list_data r2 r1 p2 p1 (room_in_shaped e4 hu) fin
    | tuple l =>
      cases hi
      cases neg with
      | false => exact SeqAt.in_tuple_data r2 r1 p2 p1 (room_in_shaped e4 hu) fin
      | true => exact SeqAt.notIn_tuple_data r2 r1 p2 p1 (room_in_shaped e4 hu) fin
    | _ => cases hi
  · unfold inW at h
    split at h
    · rename_i ds hi
      split at h
      · rename_i z
        cases h
        obtain ⟨⟨e3, _⟩, e5, _⟩ := okD_and z
        exact ⟨a, b, ds, rx.dp e3, ry.dp e5, hi, z, q H _ (fun _ _ e => e) (.bl _)⟩
      · cases h
    · cases h
theorem od_in (hu : X.A.units + 65 < cLine) : OpD X (compareOp .In) (inW false) := opd_in false hu
theorem od_notin (hu : X.A.units + 65 < cLine) : OpD X (compareOp .NotIn) (inW true) := opd_in true hu

/-! ### x[i] -/
def ixW : W → W → Option W := fun a b => match a, b with
  | .list ds, .int i => atI ds i
  | .tuple ds, .int i => atI ds i
  | .str z, .int i => if z.length ≤ sizeLine then (atI z.cps.toList i).map (fun c => .str ⟨#[c]⟩) else none
  | _, _ => none
theorem d_ix {Y : Yx} {pa pb : Bool} {a b : Expr} {pos : Pos} {ma mb : M W} (ha : DE X Y pa a ma) (hb : DE X Y pb b mb) (hs : PlainIx b) : DE X Y (pa && pb) (.Subscript a b pos) (mBin ixW ma mb) := by
  refine ⟨pe_weak (pe_ix ((ix_list.or ix_tup).or ix_str) ha.pe hb.pe hs) (t_bin (f := fun _ _ => pure .none) fun Ex O H x y u k c Q hO h rx ry q => ?_)⟩
  unfold ixW at h
  split at h
  · rename_i ds i
    cases rp_int ry
    cases rx with
    | lst l r =>
      obtain ⟨v, ev, rv⟩ := r.atI h
      exact .inl (.inl ⟨_, _, i, v, rfl, rfl, l.sq, ev, q H v (fun _ _ e => e) rv⟩)
  · rename_i ds i
    cases rp_int ry
    cases rx with
    | tup l r =>
      obtain ⟨v, ev, rv⟩ := r.atI h
      exact .inl (.inr ⟨_, _, i, v, rfl, rfl, l.sq, ev, q H v (fun _ _ e => e) rv⟩)
  · rename_i z i
    split at h
    · rename_i hz
      cases rp_int ry
      cases rp_str rx
      cases e : atI z.cps.toList i with
      | none => rw [e] at h; cases h
      | some ch =>
        rw [e] at h
        cases h
        exact .inr ⟨z, i, ch, rfl, rfl, hz, e, q H _ (fun _ _ e => e) (.str _)⟩
    · cases h
  · cases h
end
end Qd
end
section
set_option Elab.async false
set_option linter.all false
set_option maxRecDepth 100000
set_option maxHeartbeats 1000000
/-! Slices, built-in calls, isinstance. -/
namespace Qd
open PySem PySem.Spec PyProof.Rows L2

/-! ### x[lo:hi] -/
abbrev MO := SD → Out (Option Int)
def tO (X : Cx) (Y : Yx) (pu : Bool) (m : MO) : TO := fun σ H Q => ∃ Oc d, RS X.K Y.Ex Oc H d σ ∧ Po X Y pu Oc σ d H (m d) fun b d' H' => RS X.K Y.Ex Oc H' d' σ → Q b H'
structure DO (X : Cx) (Y : Yx) (pu : Bool) (e : Option Expr) (m : MO) : Prop where
  po : ∃ t, PO X e t ∧ ∀ σ H Q, tO X Y pu m σ H Q → t σ H Q
def mNoPart : MO := fun d => .ok none d
def asI : W → Option Int
  | .int i => some i
  | _ => none
def mPart (m : M W) : MO := fun d => (m d).bind fun w d1 => (ofOpt (asI w) d1).bind fun i d1 => .ok (some i) d1
section
variable {X : Cx} {Y : Yx}
theorem do_none : DO X Y true none mNoPart := ⟨_, po_none, fun σ H Q h => by
  obtain ⟨Oc, d, rs, h⟩ := h
  exact h H (.refl rs) rs⟩
theorem do_some {pu : Bool} {e : Expr} {m : M W} (h : DE X Y pu e m) : DO X Y pu (some e) (mPart m) := ⟨_, po_some h.pe, fun σ H Q h => by
  obtain ⟨Oc, d, rs, h⟩ := h
  refine ⟨Oc, d, rs, (Po.bind1 h).imp fun w d1 H1 g1 h1 v r => ?_⟩
  cases w with
  | int i => cases rp_int r; exact ⟨i, rfl, h1 H1 (.refl g1.rs) g1.rs⟩
  | _ => exact h1.elim⟩
def cutA {α : Type} (xs : List α) (lo hi : Option Int) : List α := (xs.drop (HT.sIx xs.length 0 lo)).take (HT.sIx xs.length xs.length hi - HT.sIx xs.length 0 lo)
theorem RpA.cut {K : PySem.W.Frag} {Ex : Addr → Nat → Prop} {O : Addr → Prop} {H : Hp} {vs : List V} {ws : List W} (lo hi : Option Int) (r : RpA K Ex O H vs ws) : RpA K Ex O H (cutV vs lo hi) (cutA ws lo hi) := by
  unfold cutV cutA
  rw [r.length]
  exact (r.drop _).take _
def slW (u : W) (lo hi : Option Int) : Option W := match u with
  | .list ds => some (.list (cutA ds lo hi))
  | .tuple ds => some (.tuple (cutA ds lo hi))
  | .str z => if z.length ≤ sizeLine then some (.str (cutS z lo hi)) else none
  | _ => none
def mSl (a : M W) (lo hi : MO) : M W := fun d => (a d).bind fun u d1 => (lo d1).bind fun l d2 => (hi d2).bind fun h d3 => ofOpt (slW u l h) d3
theorem cutA_all {α : Type} {xs : List α} {lo hi : Option Int} (h1 : HT.sIx xs.length 0 lo = 0) (h2 : HT.sIx xs.length xs.length hi = xs.length) : cutA xs lo hi = xs := by
  unfold cutA
  rw [h1, h2, List.drop_zero, Nat.sub_zero, List.take_length]
theorem d_slice {pa pl ph : Bool} {e : Expr} {lo hi : Option Expr} {p2 pos : Pos} {a : M W} {ml mh : MO} (ha : DE X Y pa e a) (hl : DO X Y pl lo ml) (hh : DO X Y ph hi mh) : DE X Y (pa && (pl && ph)) (.Subscript e (.Slice lo hi none p2) pos) (mSl a ml mh) := by
  obtain ⟨tl, hpl, wl⟩ := hl.po
  obtain ⟨th, hph, wh⟩ := hh.po
  refine ⟨pe_weak (pe_slice ((sl_list.or sl_tupA).or sl_str) ha.pe hpl hph) fun σ H Q h => ?_⟩
  obtain ⟨Oc, d, rs, h⟩ := h
  refine ⟨Oc, d, rs, (Po.bind h).imp fun u d1 H1 g1 h1 v rv => wl _ _ _ ⟨Oc, d1, g1.rs, (Po.bind h1).imp fun l d2 H2 g2 h2 _ => wh _ _ _ ⟨Oc, d2, g2.rs, (Po.bind1 h2).imp fun hh d3 H3 g3 h3 _ => ?_⟩⟩⟩
  obtain ⟨c, ec, k⟩ := Po.opt h3
  have rv3 := (g2.trans g3).rp rv
  unfold slW at ec
  split at ec
  · rename_i ds
    cases ec
    cases rv3 with
    | lst l r =>
      refine .inl (.inl ⟨_, _, rfl, l.sq, fun p np => ?_⟩)
      obtain ⟨sm, rp⟩ := rp_newLst (fun b hb => g3.rs.there (a := b) hb) np (r.cut _ _)
      exact k _ (.same g3.rs sm) _ rp
  · rename_i ds
    cases ec
    cases rv3 with
    | tup l r =>
      refine .inl (.inr ⟨_, _, rfl, l.sq, fun ⟨e1, e2⟩ => ?_, fun _ p np => ?_⟩)
      · rw [r.length] at e1 e2
        exact k _ (.refl g3.rs) _ (by rw [cutA_all e1 e2]; exact .tup l r)
      · obtain ⟨sm, rp⟩ := rp_newTup (fun b hb => g3.rs.there (a := b) hb) np (r.cut _ _)
        exact k _ (.same g3.rs sm) _ rp
  · rename_i z
    split at ec
    · rename_i hz
      cases ec
      cases rp_str rv3
      exact .inr ⟨z, rfl, hz, k _ (.refl g3.rs) _ (.str _)⟩
    · cases ec
  · cases ec
/-- a new list, nobody else's -/
def mSlF (a : M W) (lo hi : MO) : M W := fun d => (a d).bind fun u d1 => (lo d1).bind fun l d2 => (hi d2).bind fun h d3 => match u with
  | .list ds => .ok (.list (cutA ds l h)) d3
  | _ => .bad
theorem df_slice {pa pl ph : Bool} {e : Expr} {lo hi : Option Expr} {p2 pos : Pos} {a : M W} {ml mh : MO} (ha : DE X Y pa e a) (hl : DO X Y pl lo ml) (hh : DO X Y ph hi mh) : DF X Y (pa && (pl && ph)) (.Subscript e (.Slice lo hi none p2) pos) (mSlF a ml mh) := by
  obtain ⟨tl, hpl, wl⟩ := hl.po
  obtain ⟨th, hph, wh⟩ := hh.po
  refine ⟨pe_weak (pe_slice sl_list ha.pe hpl hph) fun σ H Q h => ?_⟩
  obtain ⟨Oc, d, rs, h⟩ := h
  refine ⟨Oc, d, rs, (Po.bind h).imp fun u d1 H1 g1 h1 v rv => wl _ _ _ ⟨Oc, d1, g1.rs, (Po.bind h1).imp fun l d2 H2 g2 h2 _ => wh _ _ _ ⟨Oc, d2, g2.rs, (Po.bind1 h2).imp fun hh d3 H3 g3 h3 _ => ?_⟩⟩⟩
  have rv3 := (g2.trans g3).rp rv
  split at h3
  · rename_i ds
    cases rv3 with
    | lst l r => exact ⟨_, _, rfl, l.sq, fun p np => h3 _ (.same g3.rs (same_new np)) p ((g1.trans (g2.trans g3)).free np) (g3.rs.withNew np) ⟨_, upd_same, (r.cut _ _).mono (ke_new np) fun _ _ z => z⟩⟩
  · exact h3.elim

/-! ### built-in calls -/
def lenW : List W → Option W
  | [.list ds] => some (.int ds.length)
  | [.tuple ds] => some (.int ds.length)
  | [.str z] => if z.length ≤ sizeLine then some (.int z.length) else none
  | _ => none
theorem cd_len : CallD X (.builtin "len") lenW := by
  refine ⟨_, CallR.or' call_len_seq call_len_str, fun Ex O H xs as c Q hO h ra q => ?_⟩
  unfold lenW at h
  split at h
  · cases h
    obtain ⟨v, rfl, r⟩ := rpA1 ra
    cases r with
    | lst l r => exact .inl ⟨_, _, rfl, .inl l.sq, q H _ (fun _ _ e => e) (by rw [r.length]; exact .int _)⟩
  · cases h
    obtain ⟨v, rfl, r⟩ := rpA1 ra
    cases r with
    | tup l r => exact .inl ⟨_, _, rfl, .inr l.sq, q H _ (fun _ _ e => e) (by rw [r.length]; exact .int _)⟩
  · split at h
    · rename_i z hz
      cases h
      obtain ⟨v, rfl, r⟩ := rpA1 ra
      cases rp_str r
      exact .inr ⟨z, rfl, hz, q H _ (fun _ _ e => e) (.int _)⟩
    · cases h
  · cases h
def absW : List W → Option W
  | [.int i] => some (.int (if i < 0 then -i else i))
  | _ => none
theorem cd_abs : CallD X (.builtin "abs") absW := by
  refine ⟨_, call_abs, fun Ex O H xs as c Q hO h ra q => ?_⟩
  unfold absW at h
  split at h
  · cases h
    obtain ⟨v, rfl, r⟩ := rpA1 ra
    cases rp_int r
    exact ⟨_, rfl, q H _ (fun _ _ e => e) (.int _)⟩
  · cases h
def intW : List W → Option W
  | [.int i] => some (.int i)
  | [.bool b] => some (.int (if b then 1 else 0))
  | _ => none
theorem cd_int : CallD X (.type "int") intW := by
  refine ⟨_, call_int1, fun Ex O H xs as c Q hO h ra q => ?_⟩
  unfold intW at h
  split at h
  · cases h
    obtain ⟨v, rfl, r⟩ := rpA1 ra
    cases rp_int r
    exact .inl ⟨_, rfl, q H _ (fun _ _ e => e) (.int _)⟩
  · cases h
    obtain ⟨v, rfl, r⟩ := rpA1 ra
    cases rp_bool r
    exact .inr ⟨_, rfl, q H _ (fun _ _ e => e) (.int _)⟩
  · cases h
def max2W : List W → Option W
  | [.int i, .int j] => some (.int (if j > i then j else i))
  | _ => none
def min2W : List W → Option W
  | [.int i, .int j] => some (.int (if j < i then j else i))
  | _ => none
theorem cd_max2 (hc : X.calm = true) : CallD X (.builtin "max") max2W := by
  refine ⟨_, call_max2 hc, fun Ex O H xs as c Q hO h ra q => ?_⟩
  unfold max2W at h
  split at h
  · cases h
    obtain ⟨v, u, rfl, r, r2⟩ := rpA2 ra
    cases rp_int r
    cases rp_int r2
    exact ⟨_, _, rfl, q H _ (fun _ _ e => e) (.int _)⟩
  · cases h
theorem cd_min2 (hc : X.calm = true) : CallD X (.builtin "min") min2W := by
  refine ⟨_, call_min2 hc, fun Ex O H xs as c Q hO h ra q => ?_⟩
  unfold min2W at h
  split at h
  · cases h
    obtain ⟨v, u, rfl, r, r2⟩ := rpA2 ra
    cases rp_int r
    cases rp_int r2
    exact ⟨_, _, rfl, q H _ (fun _ _ e => e) (.int _)⟩
  · cases h
/-- a list's ints -/
def intsOf : List W → Option (List Int)
  | [] => some []
  | .int i :: r => (intsOf r).map (i :: ·)
  | _ => none
theorem intsOf_some : ∀ {ws : List W} {ns : List Int}, intsOf ws = some ns → ws = ns.map PyData.int
  | [], _, h => by cases h; rfl
  | .int i :: r, ns, h => by
    unfold intsOf at h
    cases q : intsOf r with
    | none => rw [q] at h; cases h
    | some ms => rw [q] at h; cases h; rw [intsOf_some q]; rfl
  | .none :: _, _, h => by simp [intsOf] at h
  | .bool _ :: _, _, h => by simp [intsOf] at h
  | .str _ :: _, _, h => by simp [intsOf] at h
  | .list _ :: _, _, h => by simp [intsOf] at h
  | .tuple _ :: _, _, h => by simp [intsOf] at h
  | .dict _ :: _, _, h => by simp [intsOf] at h
theorem intsOf_map (ns : List Int) : intsOf (ns.map PyData.int) = some ns := by
  induction ns with
  | nil => rfl
  | cons n r ih => simp [intsOf, ih]
def sumW : List W → Option W
  | [.list ds] => (intsOf ds).map fun ns => .int ns.sum
  | [.tuple ds] => (intsOf ds).map fun ns => .int ns.sum
  | _ => none
theorem cr_sumA (hc : X.calm = true) : CallR X (.builtin "sum") (fun vs H Q => ∃ (a : Addr) (ns : List Int), vs = [V.ref a] ∧ (SqL X.K H a (ns.map V.int) ∨ SqT X.K H a (ns.map V.int)) ∧ Q (.int ns.sum) H) := by
  intro pins s σ H vs us Q I r h
  obtain ⟨a, ns, rfl, hs, q⟩ := h
  rcases hs with hs | hs
  · obtain ⟨its, rv, hl, _⟩ := I.list hs
    rw [Vals.ref1 r]
    exact sum_raw (I.ok.hd hc) hl.isList rv.ints fun h' tk t' hk => ⟨.int _, H, I.kept hk, ⟨_, rfl⟩, q⟩
  · obtain ⟨its, rv, hl, _⟩ := I.tuple hs
    rw [Vals.ref1 r]
    obtain ⟨xs, e⟩ := rv.ints.allInts.items
    have hn : numsOf (intItems xs).toList = ns := by rw [← e]; exact rv.ints.numsOf
    rw [nums_intItems] at hn
    rw [e] at hl
    refine PySem.W.ktm_sumG (I.ok.hd hc) hl fun h' tk t' hk => ?_
    rw [preSum_eq, List.take_of_length_le (by simp), hn]
    exact ⟨.int _, H, I.kept hk, ⟨_, rfl⟩, q⟩
theorem cd_sum (hc : X.calm = true) : CallD X (.builtin "sum") sumW := by
  refine ⟨_, cr_sumA hc, fun Ex O H xs as c Q hO h ra q => ?_⟩
  unfold sumW at h
  split at h
  · rename_i ds
    cases e : intsOf ds with
    | none => rw [e] at h; cases h
    | some ns =>
      rw [e] at h
      cases h
      obtain ⟨v, rfl, r⟩ := rpA1 ra
      rw [intsOf_some e] at r
      cases r with
      | lst l r => exact ⟨_, ns, rfl, .inl (by rw [← r.ints]; exact l.sq), q H _ (fun _ _ e => e) (.int _)⟩
  · rename_i ds
    cases e : intsOf ds with
    | none => rw [e] at h; cases h
    | some ns =>
      rw [e] at h
      cases h
      obtain ⟨v, rfl, r⟩ := rpA1 ra
      rw [intsOf_some e] at r
      cases r with
      | tup l r => exact ⟨_, ns, rfl, .inr (by rw [← r.ints]; exact l.sq), q H _ (fun _ _ e => e) (.int _)⟩
  · cases h

/-! ### least, greatest of a list, a tuple -/
def alikeB (ds : List W) : Bool := (ds.all fun x => ds.all fun y => PySem.W.alike x y) && ds.all fun x => !isNone x
theorem alikeB_of {ds : List W} (h : alikeB ds = true) : PySem.W.AlikeAll ds := by
  unfold alikeB at h
  rw [Bool.and_eq_true, List.all_eq_true, List.all_eq_true] at h
  refine ⟨fun x hx y hy => List.all_eq_true.mp (h.1 x hx) y hy, fun x hx e => ?_⟩
  have z := h.2 x hx
  subst e
  simp [isNone] at z
def bestW (k : W → List W → W) : List W → Option W
  | [u] => match itemsOf u with
    | some (x :: xs) => if (okD u && alikeB (x :: xs)) = true then some (k x xs) else none
    | _ => none
  | _ => none
theorem cr_best {f : String} {k : W → List W → W} (hu : X.A.units + 66 < cLine)
    (hl : ∀ {A : Around} {E : Value → Shared → Prop} {s : Shared} {l : Addr} {vs : Array Value} {x : W} {xs : List W} {as : List Addr} {Q : Value → Shared → Prop}, A.handled = none → s.heap.IsList l vs → ReadsAll s.heap vs.toList (x :: xs) as → PySem.W.AlikeAll (x :: xs) → A.units + 1 + PyData.depthAll (x :: xs) < cLine →
      (∀ (i : Nat) (v : Value) (h' : Heap) (tk : Nat) (bs : List Addr), vs[i]? = some v → Reads h' v (k x xs) bs → (∀ b o, s.heap.get? b = some o → h'.get? b = some o) → Q v { s with heap := h', toks := tk }) → wpAny (model X.prog X.w) A (call (.builtin f) [.ref l]) Q E s)
    (ht : ∀ {A : Around} {E : Value → Shared → Prop} {s : Shared} {l : Addr} {vs : Array Value} {x : W} {xs : List W} {as : List Addr} {Q : Value → Shared → Prop}, A.handled = none → s.heap.IsTuple l vs → ReadsAll s.heap vs.toList (x :: xs) as → PySem.W.AlikeAll (x :: xs) → A.units + 1 + PyData.depthAll (x :: xs) < cLine →
      (∀ (i : Nat) (v : Value) (h' : Heap) (tk : Nat) (bs : List Addr), vs[i]? = some v → Reads h' v (k x xs) bs → (∀ b o, s.heap.get? b = some o → h'.get? b = some o) → Q v { s with heap := h', toks := tk }) → wpAny (model X.prog X.w) A (call (.builtin f) [.ref l]) Q E s)
    (hk : ∀ x xs, k x xs ∈ x :: xs) (hc : X.calm = true) : CallR X (.builtin f) (fun vs H Q => ∃ a u ys x xs, vs = [.ref a] ∧ ((SqL X.K H a ys ∧ u = PyData.list (x :: xs)) ∨ (SqT X.K H a ys ∧ u = PyData.tuple (x :: xs))) ∧ DpAll X.K H ys (x :: xs) ∧ SeqAt.shaped u = true ∧ alikeB (x :: xs) = true ∧ ∀ (i : Nat) (y : V), ys[i]? = some y → (x :: xs)[i]? = some (k x xs) → Q y H) := by
  intro pins s σ H vs us Q I r h
  obtain ⟨a, u, ys, x, xs, rfl, hs, hd, hsh, hal, q⟩ := h
  have dep : X.A.units + 1 + PyData.depthAll (x :: xs) < cLine := by
    have z := SeqAt.depth_of_shaped hsh
    have e : u.depth = PyData.depthAll (x :: xs) + 1 := by rcases hs with ⟨_, e⟩ | ⟨_, e⟩ <;> rw [e] <;> simp only [PyData.depth]
    omega
  have pl : PyData.plainAll (x :: xs) = true := by
    have z := canLay_plain hsh
    rcases hs with ⟨_, e⟩ | ⟨_, e⟩ <;> (rw [e] at z; simpa only [PyData.plain] using z)
  have plm : ∀ (l : List W), PyData.plainAll l = true → ∀ y ∈ l, y.plain = true := fun l => by
    induction l with
    | nil => intro _ y hy; cases hy
    | cons z r ih =>
      intro hp y hy
      simp only [PyData.plainAll, Bool.and_eq_true] at hp
      rcases List.mem_cons.mp hy with e | hy
      · rw [e]; exact hp.1
      · exact ih hp.2 y hy
  cases r with
  | cons rx rr =>
    cases rr
    cases rx
    -- the items, and what the answer is
    have fin : ∀ {its : List Value} {as : List Addr}, Vals ys its → ReadsAll s.heap its (x :: xs) as → ∀ (i : Nat) (v : Value) (h' : Heap) (tk : Nat) (bs : List Addr), its.toArray[i]? = some v → Reads h' v (k x xs) bs → (∀ b o, s.heap.get? b = some o → h'.get? b = some o) → EP X pins σ Q v { s with heap := h', toks := tk } := fun {its as} rv ra i v h' tk bs e1 e2 kp => by
      have e1 : its[i]? = some v := by simpa using e1
      have lt : i < ys.length := by rw [rv.length]; exact (List.getElem?_eq_some_iff.mp e1).1
      obtain ⟨v', e3, rv'⟩ := rv.get (List.getElem?_eq_getElem lt)
      rw [e1] at e3; cases e3
      obtain ⟨bs2, e4, e5, e6, _⟩ := PySem.W.readsAll_at ra i v e1
      have e7 : (x :: xs).getD i .none = k x xs := by
        have z1 := SeqAt.readOf_plain (plm _ pl _ e6) (PySem.W.reads_keeps kp e4)
        have z2 := SeqAt.readOf_plain (plm _ pl _ (hk x xs)) e2
        rw [← z1, ← z2]
      refine ⟨ys[i], H, I.kept (t' := tk) kp, rv', q i _ (List.getElem?_eq_getElem lt) ?_⟩
      rw [List.getElem?_eq_getElem e5, ← e7, List.getD_eq_getElem?_getD, List.getElem?_eq_getElem e5]
      rfl
    rcases hs with ⟨hs, _⟩ | ⟨hs, _⟩
    · obtain ⟨its, rv, p, hz⟩ := I.list hs
      obtain ⟨as, ra⟩ := Dp.readsAll I (x :: xs) ys its hd rv
      exact hl (I.ok.hd hc) p.isList ra (alikeB_of hal) dep (fin rv ra)
    · obtain ⟨its, rv, p, hz⟩ := I.tuple hs
      obtain ⟨as, ra⟩ := Dp.readsAll I (x :: xs) ys its hd rv
      exact ht (I.ok.hd hc) (show s.heap.IsTuple a its.toArray from p) ra (alikeB_of hal) dep (fin rv ra)
theorem cd_best {f : String} {k : W → List W → W} (h : CallR X (.builtin f) (fun vs H Q => ∃ a u ys x xs, vs = [.ref a] ∧ ((SqL X.K H a ys ∧ u = PyData.list (x :: xs)) ∨ (SqT X.K H a ys ∧ u = PyData.tuple (x :: xs))) ∧ DpAll X.K H ys (x :: xs) ∧ SeqAt.shaped u = true ∧ alikeB (x :: xs) = true ∧ ∀ (i : Nat) (y : V), ys[i]? = some y → (x :: xs)[i]? = some (k x xs) → Q y H)) : CallD X (.builtin f) (bestW k) := by
  refine ⟨_, h, fun Ex O H vs as c Q hO e ra q => ?_⟩
  unfold bestW at e
  split at e
  · rename_i u
    split at e
    · rename_i x xs hi
      split at e
      · rename_i z
        cases e
        rw [Bool.and_eq_true] at z
        obtain ⟨z1, z2⟩ := z
        unfold okD at z1
        rw [Bool.and_eq_true] at z1
        obtain ⟨v, rfl, r⟩ := rpA1 ra
        cases u with
        | list ds =>
          cases hi
          cases r with
          | lst l r => exact ⟨_, _, _, x, xs, rfl, .inl ⟨l.sq, rfl⟩, r.dp (by simpa [noD] using z1.1), z1.2, z2, fun i y e1 e2 => by
              obtain ⟨w, e3, rw'⟩ := r.get' e1
              rw [e2] at e3; cases e3
              exact q H y (fun _ _ e => e) rw'⟩
        | tuple ds =>
          cases hi
          cases r with
          | tup l r => exact ⟨_, _, _, x, xs, rfl, .inr ⟨l.sq, rfl⟩, r.dp (by simpa [noD] using z1.1), z1.2, z2, fun i y e1 e2 => by
              obtain ⟨w, e3, rw'⟩ := r.get' e1
              rw [e2] at e3; cases e3
              exact q H y (fun _ _ e => e) rw'⟩
        | _ => cases hi
      · cases e
    · cases e
  · cases e
theorem minD_mem : ∀ (x : W) (xs : List W), PySem.W.minD x xs ∈ x :: xs := fun x xs => by
  unfold PySem.W.minD
  induction xs generalizing x with
  | nil => exact List.mem_cons_self
  | cons y r ih =>
    rw [List.foldl_cons]
    split
    · rcases List.mem_cons.mp (ih y) with e | e
      · rw [e]; exact List.mem_cons_of_mem _ List.mem_cons_self
      · exact List.mem_cons_of_mem _ (List.mem_cons_of_mem _ e)
    · rcases List.mem_cons.mp (ih x) with e | e
      · rw [e]; exact List.mem_cons_self
      · exact List.mem_cons_of_mem _ (List.mem_cons_of_mem _ e)
theorem maxD_mem : ∀ (x : W) (xs : List W), PySem.W.maxD x xs ∈ x :: xs := fun x xs => by
  unfold PySem.W.maxD
  induction xs generalizing x with
  | nil => exact List.mem_cons_self
  | cons y r ih =>
    rw [List.foldl_cons]
    split
    · rcases List.mem_cons.mp (ih y) with e | e
      · rw [e]; exact List.mem_cons_of_mem _ List.mem_cons_self
      · exact List.mem_cons_of_mem _ (List.mem_cons_of_mem _ e)
    · rcases List.mem_cons.mp (ih x) with e | e
      · rw [e]; exact List.mem_cons_self
      · exact List.mem_cons_of_mem _ (List.mem_cons_of_mem _ e)
abbrev minW := bestW PySem.W.minD
abbrev maxW := bestW PySem.W.maxD
theorem cd_min (hc : X.calm = true) (hu : X.A.units + 66 < cLine) : CallD X (.builtin "min") minW := cd_best (cr_best hu (fun a b c d e f => PySem.W.min_list_data a b c d e f) (fun a b c d e f => PySem.W.min_tuple_data a b c d e f) minD_mem hc)
theorem cd_max (hc : X.calm = true) (hu : X.A.units + 66 < cLine) : CallD X (.builtin "max") maxW := cd_best (cr_best hu (fun a b c d e f => PySem.W.max_list_data a b c d e f) (fun a b c d e f => PySem.W.max_tuple_data a b c d e f) maxD_mem hc)
/-- list(x), tuple(x) -/
def listW : List W → Option W
  | [.list ds] => some (.list ds)
  | [.tuple ds] => some (.list ds)
  | _ => none
def tupleW : List W → Option W
  | [.list ds] => some (.tuple ds)
  | [.tuple ds] => some (.tuple ds)
  | _ => none
theorem cd_list : CallD X (.type "list") listW := by
  refine ⟨_, call_list_of, fun Ex O H xs as c Q hO h ra q => ?_⟩
  unfold listW at h
  split at h
  · cases h
    obtain ⟨v, rfl, r⟩ := rpA1 ra
    cases r with
    | lst l r => exact ⟨_, _, rfl, .inl l.sq, fun p np => let ⟨sm, rp⟩ := rp_newLst hO np r; q _ _ sm rp⟩
  · cases h
    obtain ⟨v, rfl, r⟩ := rpA1 ra
    cases r with
    | tup l r => exact ⟨_, _, rfl, .inr l.sq, fun p np => let ⟨sm, rp⟩ := rp_newLst hO np r; q _ _ sm rp⟩
  · cases h
theorem cd_tuple : CallD X (.type "tuple") tupleW := by
  refine ⟨_, call_tuple_of, fun Ex O H xs as c Q hO h ra q => ?_⟩
  unfold tupleW at h
  split at h
  · cases h
    obtain ⟨v, rfl, r⟩ := rpA1 ra
    cases r with
    | lst l r => exact ⟨_, _, rfl, .inl ⟨l.sq, fun p np => let ⟨sm, rp⟩ := rp_newTup hO np r; q _ _ sm rp⟩⟩
  · cases h
    obtain ⟨v, rfl, r⟩ := rpA1 ra
    cases r with
    | tup l r => exact ⟨_, _, rfl, .inr ⟨l.sq, q _ _ (fun _ _ e => e) (.tup l r)⟩⟩
  · cases h

/-! ### isinstance(x, T) -/
def tyN : W → Option String
  | .none => some "NoneType"
  | .bool _ => some "bool"
  | .int _ => some "int"
  | .str _ => some "str"
  | .list _ => some "list"
  | .tuple _ => some "tuple"
  | .dict ds => match dkind ds with
    | some (false, _) => some "dict"
    | _ => none
theorem rp_ty {K : PySem.W.Frag} {Ex : Addr → Nat → Prop} {O : Addr → Prop} {H : Hp} {v : V} {w : W} {t : String} (r : Rp K Ex O H v w) (h : tyN w = some t) : TyX K H v (.type t) := by
  cases r with
  | non => cases h; exact .base .non
  | bl b => cases h; exact .base (.bl b)
  | int i => cases h; exact .base (.int i)
  | str x => cases h; exact .base (.str x)
  | lst l r =>
    cases h
    rcases l.sq with (e | ⟨_, e⟩) | ⟨o, its, n, hk, hc, _⟩
    · exact .base (.lst e)
    · exact .base (.frz e)
    · exact .kList hk hc
  | tup l r =>
    cases h
    rcases l.sq with (e | ⟨_, e⟩) | ⟨o, its, n, hk, hc, _⟩
    · exact .base (.tup e)
    · exact .fTuple e
    · exact .kTuple hk hc
  | dK n e r =>
    unfold tyN at h
    dsimp only at h
    rw [dkind_K r] at h
    cases h
    rcases e with e | ⟨_, e⟩
    · exact .base (.dK e)
    · exact .fDict e
  | dT n e r => simp [tyN, dkind] at h
  | exc z => simp [tyN, dkind] at h
def isiW (T : String) (w : W) : Option W := match tyN w with
  | some t => (kitB t T).map .bool
  | none => none
theorem d_isi {Y : Yx} {pu : Bool} {e : Expr} {x : Str} {T : String} {p q pos : Pos} {m : M W} (he : DE X Y pu e m) (hm : X.mg "isinstance" = none) (hmT : X.mg x = none) (hT : bootBuiltins x = some (.type T)) (hg : Gl X "isinstance" := by rfl) (hgx : Gl X x := by rfl) (hn : x ≠ "__name__" := by decide)
    (hdb : (x == ("__debug__" : Str)) = false := by decide) (h1 : starEach [e, .Name x q] X.env = (false, eval e X.env) :: starEach [.Name x q] X.env := by rfl) (h2 : starEach [.Name x q] X.env = (false, eval (.Name x q) X.env) :: starEach [] X.env := by rfl) (hpl : (backTo pos (starEach [.Name x q] X.env)).any (·.1) = false := by rfl) :
    DE X Y pu (.Call (.Name "isinstance" p) [e, .Name x q] [] pos) (mUn (isiW T) m) := by
  refine ⟨pe_weak (pe_callB call_isi hg hm boot_isinstance (pa_cons he.pe (pa_cons (pe_bltn (v := .ty T) hgx hmT hT rfl hn hdb) pa_nil h2) h1) (by decide) (by decide) h1 hpl) fun σ H Q h => ?_⟩
  obtain ⟨Oc, d, rs, h⟩ := h
  refine ⟨Oc, d, rs, (Po.bind1 h).imp fun w d1 H1 g1 h1 v r => ?_⟩
  obtain ⟨c, ec, k⟩ := Po.opt h1
  unfold isiW at ec
  cases e1 : tyN w with
  | none => rw [e1] at ec; cases ec
  | some t =>
    rw [e1] at ec
    dsimp only at ec
    cases e2 : kitB t T with
    | none => rw [e2] at ec; cases ec
    | some b =>
      rw [e2] at ec
      cases ec
      exact ⟨v, .ty T, .type t, .type T, b, rfl, .ty T, rp_ty r e1, kit_ty e2, k H1 (.refl g1.rs) _ (.bl b)⟩
end
end Qd
end
section
set_option Elab.async false
set_option linter.all false
set_option maxRecDepth 100000
set_option maxHeartbeats 1000000
/-! Unpacking an own list, augmented assignment, methods of values, new lists. -/
namespace Qd
open PySem PySem.Spec PyProof.Rows L2

/-- a, b, .. = x, x an own list -/
def mUnpOwn (i n : Nat) (g : GWs) : MS := fun d => match mineAt i d with
  | some (.list ws) => if ws.length = n then sOpt (g ws d) else .bad
  | _ => .bad
section
variable {X : Cx} {Y : Yx}
theorem ds_unpOwn {es : List Expr} {k i n : Nat} {y : Str} {p pos pos' : Pos} {g : GWs} {is : List Nat} (hc : X.calm = true) (h : DGs X Y es g is) (hN : X.N[i]? = some y := by rfl) (hv : Vis X.env.scope y := by first | exact Or.inl rfl | exact Or.inr (Or.inl rfl) | exact Or.inr (Or.inr rfl)) (hd : (y == ("__debug__" : Str)) = false := by decide)
    (hcd : (y == ("__classdict__" : Str)) = false := by decide) (hn : (assignEach es X.env).length = n := by rfl) (hst : (assignEach es X.env).findIdx? (·.1) = none := by rfl)
    (hs : swapsWithSole [.Tuple es k pos'] (.Name y p) pos.line X.env = pure false := by rfl) (hw : swappedStores [.Tuple es k pos'] (.Name y p) X.env = pure none := by rfl) (h1 : (assignEach [.Tuple es k pos'] X.env).map (·.2) = [assign (.Tuple es k pos') X.env] := by rfl) :
    DS X Y (.Assign [.Tuple es k pos'] (.Name y p) pos) (mUnpOwn i n g) := by
  refine ⟨ps_weak (ps_asg (pe_var hN hv hd hcd) (pg_lst hc h.pg hn hst) hs hw h1) fun D σ H h => ?_⟩
  obtain ⟨Oc, d, rs, h⟩ := h
  unfold mUnpOwn at h
  split at h
  · rename_i ws q0
    split at h
    · rename_i hl
      obtain ⟨s0, f1, f2⟩ := mineAt_some q0
      obtain ⟨a, ea, _, ys, eH, r⟩ := rs.own i s0 _ f1 f2
      cases q1 : g ws d with
      | none => rw [q1] at h; exact h.elim
      | some d' =>
        rw [q1] at h
        exact ⟨_, ea, a, ys, rfl, .inl (.inl eH), by rw [r.length]; exact hl, Oc, d, ws, d', rs, r, q1, fun σ' g _ => h σ' H g⟩
    · exact h.elim
  · exact h.elim
/-- x op= e -/
def mAug (g : W → W → Option W) (i : Nat) (m : M W) : MS := fun d => (mVar i d).toS fun x d0 => (m d0).toS fun y d1 => match g x y with
  | some z => sOpt (store i z d1)
  | none => .bad
theorem ds_aug {pu : Bool} {i : Nat} {x : Str} {e : Expr} {op : Operator} {g : W → W → Option W} {m : M W} {pos pos' : Pos} (hN : X.N.Nodup) (he : DE X Y pu e m) (ho : OpD X (inplaceOp op) g) (hi : X.N[i]? = some x := by rfl) (hx : Loc X.env.scope x := by first | exact .inl rfl | exact .inr rfl)
    (hf : X.fn x = true ∨ X.env.scope.names.lookup x = some .local := by first | exact .inl rfl | exact .inr rfl | assumption) : DS X Y (.AugAssign (.Name x pos') op e pos) (mAug g i m) := by
  obtain ⟨r, hr, hd⟩ := ho
  refine ⟨ps_weak (ps_aug hN hi hx he.pe (ti := r) hr hf) fun D σ H h => ?_⟩
  obtain ⟨Oc, d, rs, h⟩ := h
  unfold mAug mVar at h
  split at h
  · rename_i w ew
    obtain ⟨v, ev, rv⟩ := rs.val i w ew
    refine ⟨v, ev, Oc, d, rs, (Po.toS (p := pu) (show PoS X Y Oc d σ H ((m d).toS _) D from h)).imp fun y d1 H1 g1 h1 yv ry => ?_⟩
    cases q : g w y with
    | none => rw [q] at h1; exact h1.elim
    | some z =>
      rw [q] at h1
      refine hd Y.Ex (Ow Oc d1 σ) H1 v yv w y z _ (fun p hp => g1.rs.there hp) q (g1.rp rv) ry fun H' zv sm rz => ?_
      have rs2 := g1.rs.same sm
      cases q2 : store i z d1 with
      | none => dsimp only at h1; rw [q2] at h1; exact h1.elim
      | some d2 =>
        dsimp only at h1
        rw [q2] at h1
        exact h1 _ _ ((GoS.trans (Go.same (pu := true) g1.rs sm).toS (store_go rs2 rz q2)))
  · exact h.elim
theorem opd_ipI {op : Operator} {f : Int → Int → Int} (h : PIp X op (ipI f)) : OpD X (inplaceOp op) (i2 (fun _ _ => true) f) := by
  refine ⟨_, h, fun Ex O H x y a b c Q hO e rx ry q => ?_⟩
  obtain ⟨i, j, rfl, rfl, _, rfl⟩ := i2_some e
  cases rp_int rx
  cases rp_int ry
  exact ⟨i, j, rfl, rfl, q H _ (fun _ _ e => e) (.int _)⟩
theorem od_iadd : OpD X (inplaceOp .Add) (i2 (fun _ _ => true) fun i j => i + j) := opd_ipI ip_add
theorem od_isub : OpD X (inplaceOp .Sub) (i2 (fun _ _ => true) fun i j => i - j) := opd_ipI ip_sub

/-! ### methods of values -/
def MetV (X : Cx) (id : String) (g : W → List W → Option W) : Prop :=
  ∃ r, MtR X id r ∧ ∀ (Ex : Addr → Nat → Prop) (O : Addr → Prop) (H : Hp) (x : V) (u : W) (xs : List V) (as : List W) (c : W) (Q : VK), (∀ q, O q → ∃ o, H q = some o) → g u as = some c → Rp X.K Ex O H x u → RpA X.K Ex O H xs as →
    (∀ H' v, Same H H' → Rp X.K Ex O H' v c → Q v H') → r x xs H Q
def isDict : W → Bool
  | .dict _ => true
  | _ => false
def mMetV (T : String) (g : W → List W → Option W) (a : M W) (as : M (List W)) : M W := fun d => (a d).bind fun u d1 => if tyW u = T ∧ isDict u = false then (as d1).bind fun ws d2 => ofOpt (g u ws) d2 else .bad
theorem d_metV {pa pu : Bool} {T id : String} {name : Str} {g : W → List W → Option W} {o e : Expr} {es : List Expr} {a : M W} {as : M (List W)} {apos cpos : Pos} (pla : PlainAttrs T) (slot : PySem.Slot T name id) (hty : typeOf (.builtin id) = pure (.type "method_descriptor")) (hm : MetV X id g) (hT : T ≠ "") (ho : DE X Y pa o a) (ha : DL X Y pu (e :: es) as)
    (hbase : attributeBase o name X.env (eval o X.env) = eval o X.env := by rfl)
    (hfew : ((backTo cpos (starEach (e :: es) X.env)).all (fun x => !x.1) && (backToKw cpos (keywordEach [] X.env)).all (fun x => x.1.isSome) && decide ((e :: es).length + ([] : List Keyword).length + (if ([] : List Keyword).isEmpty then 0 else 1) < 30)) = true := by rfl)
    (hline : (apos.endLine == cpos.line) = true := by rfl) (hs : starEach (e :: es) X.env = (false, eval e X.env) :: starEach es X.env := by rfl) (hplain : (backTo cpos (starEach es X.env)).any (·.1) = false := by rfl) :
    DE X Y (pa && pu) (.Call (.Attribute o name apos) (e :: es) [] cpos) (mMetV T g a as) := by
  obtain ⟨r, hr, hd⟩ := hm
  refine ⟨pe_weak (pe_bm pla slot hty hr ho.pe ha.pa hbase hfew hline hs hplain) fun σ H Q h => ?_⟩
  obtain ⟨Oc, d, rs, h⟩ := h
  refine ⟨Oc, d, rs, (Po.bind h).imp fun u d1 H1 g1 h1 x rx => ?_⟩
  split at h1
  · rename_i ht
    refine ⟨rx.tyV ht.1 (fun ds e => by rw [e] at ht; exact Bool.noConfusion (ht.2 : true = false)) hT, Oc, d1, g1.rs, (Po.bind1 h1).imp fun ws d2 H2 g2 h2 xs ra => ?_⟩
    obtain ⟨c, ec, k⟩ := Po.opt h2
    exact hd Y.Ex (Ow Oc d2 σ) H2 x u xs ws c Q (fun p hp => g2.rs.there hp) ec (g2.rp rx) ra fun H' v sm rv => k H' (.same g2.rs sm) v rv
  · exact h1.elim
/-- l.index(x): the first place -/
def indexW : W → List W → Option W := fun u as => match u, as with
  | .list ds, [w] => if (okD u && okD w) = true then (match ds.findIdx? fun z => PyData.eqv z w with
    | some j => some (.int j)
    | none => none) else none
  | _, _ => none
theorem mv_index (hu : X.A.units + 65 < cLine) : MetV X "list.index" indexW := by
  refine ⟨_, mt_indexD hu, fun Ex O H x u xs as c Q hO h rx ra q => ?_⟩
  unfold indexW at h
  split at h
  · rename_i ds w
    split at h
    · rename_i z
      obtain ⟨⟨e3, e4⟩, e5, e6⟩ := okD_and z
      split at h
      · rename_i j hj
        cases h
        obtain ⟨v, rfl, rv⟩ := rpA1 ra
        obtain ⟨hlt, h1, h2⟩ := List.findIdx?_eq_some_iff_getElem.mp hj
        have dp := rx.dp e3
        cases rx with
        | lst l r =>
          refine ⟨_, v, w, ds, j, ds[j], rfl, rfl, dp, rv.dp e5, e4, e6, List.getElem?_eq_getElem hlt, h1, fun m z' hm e => ?_, q H _ (fun _ _ e => e) (.int _)⟩
          have hm' : m < ds.length := Nat.lt_trans hm hlt
          rw [List.getElem?_eq_getElem hm'] at e
          cases e
          simpa using h2 m hm
      · cases h
    · cases h
  · cases h
def countW : W → List W → Option W := fun u as => match u, as with
  | .list ds, [w] => if (okD u && okD w) = true then some (.int (ds.countP fun z => PyData.eqv z w : Nat)) else none
  | _, _ => none
theorem mv_count (hu : X.A.units + 65 < cLine) : MetV X "list.count" countW := by
  refine ⟨fun x xs H Q => ∃ a y d ds, x = V.ref a ∧ xs = [y] ∧ Dp X.K H (V.ref a) (.list ds) ∧ Dp X.K H y d ∧ SeqAt.shaped (.list ds) = true ∧ SeqAt.shaped d = true ∧ Q (.int (ds.countP fun z => PyData.eqv z d : Nat)) H, ?_, fun Ex O H x u xs as c Q hO h rx ra q => ?_⟩
  · intro pins s σ H x xs v us Q I rx rxs h
    obtain ⟨a, y, d, ds, rfl, rfl, hl, hy, sl, sd, q⟩ := h
    cases rx
    cases rxs with
    | cons ry rt =>
      cases rt
      obtain ⟨bs, r1⟩ := Dp.reads I d y _ hy ry
      cases hl with
      | lst hs ha =>
        obtain ⟨its, rv, p, hz⟩ := I.list hs
        obtain ⟨as, r2⟩ := Dp.readsAll I ds _ its ha rv
        have pl : PyData.plainAll ds = true := by simpa only [PyData.plain] using canLay_plain sl
        exact SeqAt.count_list_data p.isList r2 r1 pl (canLay_plain sd) (room_in_shaped sd hu) ⟨.int _, H, I.tok _, ⟨_, rfl⟩, q⟩
  · unfold countW at h
    split at h
    · rename_i ds w
      split at h
      · rename_i z
        cases h
        obtain ⟨⟨e3, e4⟩, e5, e6⟩ := okD_and z
        obtain ⟨v, rfl, rv⟩ := rpA1 ra
        have dp := rx.dp e3
        cases rx with
        | lst l r => exact ⟨_, v, w, ds, rfl, rfl, dp, rv.dp e5, e4, e6, q H _ (fun _ _ e => e) (.int _)⟩
      · cases h
    · cases h

/-! ### new lists, nobody else's -/
def mCatF (a b : M W) : M W := fun d => (a d).bind fun x d1 => (b d1).bind fun y d2 => match x, y with
  | .list xs, .list ys => if xs.length + ys.length ≤ sizeLine then .ok (.list (xs ++ ys)) d2 else .bad
  | _, _ => .bad
theorem df_cat {pa pb : Bool} {a b : Expr} {pos : Pos} {ma mb : M W} (ha : DE X Y pa a ma) (hb : DE X Y pb b mb) : DF X Y (pa && pb) (.BinOp a .Add b pos) (mCatF ma mb) := by
  refine ⟨pe_weak (pe_op op_catL ha.pe hb.pe) fun σ H Q h => ?_⟩
  obtain ⟨Oc, d, rs, h⟩ := h
  refine ⟨Oc, d, rs, (Po.bind h).imp fun w d1 H1 g1 h1 v r1 => ⟨Oc, d1, g1.rs, (Po.bind1 h1).imp fun w2 d2 H2 g2 h2 v2 r2 => ?_⟩⟩
  have r1' := g2.rp r1
  split at h2
  · rename_i xs ys
    split at h2
    · rename_i hl
      cases r1' with
      | lst l ra =>
        cases r2 with
        | lst l2 rb =>
          exact ⟨_, _, _, _, rfl, rfl, l.sq, l2.sq, by rw [ra.length, rb.length]; exact hl, fun p np => h2 _ (.same g2.rs (same_new np)) p ((g1.trans g2).free np) (g2.rs.withNew np) ⟨_, upd_same, (ra.append rb).mono (ke_new np) fun _ _ z => z⟩⟩
    · exact h2.elim
  · exact h2.elim
def mListF (a : M (List W)) : M W := fun d => (a d).bind fun ws d1 => match listW ws with
  | some w => .ok w d1
  | none => .bad
theorem df_list {pu : Bool} {e : Expr} {p pos : Pos} {as : M (List W)} (hm : X.mg "list" = none) (ha : DL X Y pu [e] as) (hg : Gl X "list" := by rfl) (he : starEach [e] X.env = (false, eval e X.env) :: starEach [] X.env := by rfl) : DF X Y pu (.Call (.Name "list" p) [e] [] pos) (mListF as) := by
  refine ⟨pe_weak (pe_callTy call_list_of hg hm (by decide +kernel) ha.pa (by decide) (by decide) he rfl) fun σ H Q h => ?_⟩
  obtain ⟨Oc, d, rs, h⟩ := h
  refine ⟨Oc, d, rs, (Po.bind1 h).imp fun ws d1 H1 g1 h1 vs ra => ?_⟩
  cases q : listW ws with
  | none => rw [q] at h1; exact h1.elim
  | some w =>
    rw [q] at h1
    unfold listW at q
    split at q
    · cases q
      obtain ⟨v, rfl, r⟩ := rpA1 ra
      cases r with
      | lst l r => exact ⟨_, _, rfl, .inl l.sq, fun p np => h1 _ (.same g1.rs (same_new np)) p (g1.free np) (g1.rs.withNew np) ⟨_, upd_same, r.mono (ke_new np) fun _ _ z => z⟩⟩
    · cases q
      obtain ⟨v, rfl, r⟩ := rpA1 ra
      cases r with
      | tup l r => exact ⟨_, _, rfl, .inr l.sq, fun p np => h1 _ (.same g1.rs (same_new np)) p (g1.free np) (g1.rs.withNew np) ⟨_, upd_same, r.mono (ke_new np) fun _ _ z => z⟩⟩
    · cases q
/-- return of an own object -/
def mRetF (m : M W) : MS := fun d => (m d).toS fun w d1 => .ret (.own w) d1
theorem ds_retOwn {pu : Bool} {e : Expr} {pos : Pos} {m : M W} (he : DF X Y pu e m) : DS X Y (.Return (some e) pos) (mRetF m) := ⟨ps_weak (ps_ret he.pe) fun D σ H h => by
  obtain ⟨Oc, d, rs, h⟩ := h
  refine ⟨Oc, d, rs, ?_⟩
  unfold mRetF at h
  cases q : m d with
  | bad => rw [q] at h; exact h
  | exc c d1 => rw [q] at h; exact fun H1 g1 => h σ H1 g1.toS
  | ok w d1 => rw [q] at h; exact fun H1 g1 p np rsp ob => h σ H1 p g1.toS (.inl np) rsp ob⟩
/-- return x, x an own object: it is the caller's now -/
def mRetOwn (i : Nat) : MS := fun d => match d[i]? with
  | some (some (.own w)) => .ret (.own w) (d.set i none)
  | _ => .bad
theorem ds_retMine {i : Nat} {y : Str} {p pos : Pos} (hN : X.N[i]? = some y := by rfl) (hv : Vis X.env.scope y := by first | exact Or.inl rfl | exact Or.inr (Or.inl rfl) | exact Or.inr (Or.inr rfl)) (hd : (y == ("__debug__" : Str)) = false := by decide) (hcd : (y == ("__classdict__" : Str)) = false := by decide) :
    DS X Y (.Return (some (.Name y p)) pos) (mRetOwn i) := ⟨ps_weak (ps_ret (pe_var hN hv hd hcd)) fun D σ H h => by
  obtain ⟨Oc, d, rs, h⟩ := h
  unfold mRetOwn at h
  split at h
  · rename_i w e
    obtain ⟨a, ea, na, ob⟩ := rs.own i _ w e rfl
    refine ⟨_, ea, ?_⟩
    have lt : i < d.length := (List.getElem?_eq_some_iff.mp e).1
    have up : ∀ {j : Nat} {s : Slot}, (d.set i none)[j]? = some (some s) → i ≠ j ∧ d[j]? = some (some s) := fun {j s} f => by
      by_cases ej : i = j
      · subst ej; rw [List.getElem?_set_self lt] at f; cases f
      · rw [List.getElem?_set_ne ej] at f; exact ⟨ej, f⟩
    have mn : ∀ {b : Addr}, Mine (d.set i none) σ b → Mine d σ b ∧ b ≠ a := fun {b} ⟨j, s, u, h1, h2, h3⟩ => by
      obtain ⟨ej, h1⟩ := up h1
      exact ⟨⟨j, s, u, h1, h2, h3⟩, fun z => rs.sep i j _ s w u a ej e rfl h1 h2 ea (by rw [h3, z])⟩
    have ow : ∀ {b : Addr}, Ow (With Oc a) (d.set i none) σ b → Ow Oc d σ b := fun {b} z => by
      rcases z with (z | z) | z
      · exact .inl z
      · exact .inr ⟨i, _, w, e, rfl, by rw [z]; exact ea⟩
      · exact .inr (mn z).1
    have ke : ∀ {O : Addr → Prop}, (∀ b, O b → Ow Oc d σ b) → Ke (Ow Oc d σ) H O H := fun ho b u n e => ⟨fun z => n (ho b z), e⟩
    have rs1 : ∀ {O : Addr → Prop}, (∀ b, Ow O (d.set i none) σ b → Ow Oc d σ b) → (∀ b, O b → b = a ∨ Oc b) → Thr Y.Ex O H → RS X.K Y.Ex O H (d.set i none) σ := fun {O} ho h1 h2 => ⟨by rw [List.length_set]; exact rs.len, fun j u f => by
        obtain ⟨v, e1, r⟩ := rs.val j u (up f).2
        exact ⟨v, e1, r.mono (ke ho) fun _ _ z => z⟩, fun j s u f1 f2 => by
        obtain ⟨ej, f1⟩ := up f1
        obtain ⟨q, e1, nq, o⟩ := rs.own j s u f1 f2
        exact ⟨q, e1, fun z => (h1 q z).elim (fun z => rs.sep i j _ s w u a ej e rfl f1 f2 ea (by rw [e1, z])) nq, o.mono (ke ho) (fun _ _ z => z) rfl⟩, fun j k s t u u' q ne f1 f2 f3 f4 f5 => rs.sep j k s t u u' q ne (up f1).2 f2 (up f3).2 f4 f5, h2⟩
    have owO : ∀ {b : Addr}, Ow Oc (d.set i none) σ b → Ow Oc d σ b := fun {b} z => z.imp id fun z => (mn z).1
    have g : GoS X.K Y.Ex Oc d σ H (d.set i none) σ H := ⟨rs1 (fun b z => owO z) (fun b z => .inr z) rs.oc, fun _ _ e _ => e, fun b z => .inl (mn z).1, fun j u f => by
      by_cases ej : i = j
      · subst ej; rw [e] at f; cases f
      · exact ⟨⟨u, by rw [List.getElem?_set_ne ej]; exact f⟩, rfl⟩⟩
    exact h σ H a g (.inr ⟨i, _, w, e, rfl, ea⟩) (rs1 (fun b z => ow z) (fun b z => z.symm) ⟨fun b z => z.elim (rs.oc.at_ b) fun z => by rw [z]; exact ob.at, fun b hb => ⟨(rs.oc.tb b hb).1, fun z => z.elim (rs.oc.tb b hb).2 fun z => rs.noTab hb (by rw [z]; exact .inr ⟨i, _, w, e, rfl, ea⟩)⟩⟩) (ob.mono (ke fun b z => ow z) (fun _ _ z => z) rfl)
  · exact h.elim⟩
end
end Qd
end
section
set_option Elab.async false
set_option linter.all false
set_option maxRecDepth 100000
set_option maxHeartbeats 1000000
/-! What the printed derivations use. -/
namespace Qd
open PySem PySem.Spec PyProof.Rows L2 L2H

theorem takesF {X : Cx} : L2N.Takes X (fun _ _ _ _ => False) := fun _ _ ⟨_, _, _, _, _, _, _, _, _, _, _, _, _, _, _, _, w⟩ => w.elim
theorem room_hu {k : Nat} {A : Around} (r : Room k A) : A.units + 66 < cLine := Nat.lt_of_le_of_lt (Nat.add_le_add_left (by decide : 66 ≤ 64 + 64) _) (by have := r.un; omega)
theorem hu64 {A : Around} (h : A.units + 66 < cLine) : A.units + 64 < cLine := by omega
theorem hu65 {A : Around} (h : A.units + 66 < cLine) : A.units + 65 < cLine := by omega
theorem hu1 {A : Around} (h : A.units + 66 < cLine) : A.units + 1 < cLine := by omega
theorem roomH_hu {k : Nat} {A : Around} (r : RoomH k A) : A.units + 66 < cLine := by have := r.un; omega
theorem roomH_mark {j k : Nat} {A : Around} {x : Option Value} (r : Room k A) (h : j ≤ k) : RoomH j (A.mark x) := let z := r.mono h; ⟨z.dp, z.un⟩
theorem kit_sub {K : PySem.W.Frag} {C D : Addr} {b : Bool} (hi : PySem.W.isClsIn K D = true) (ht : PySem.W.typeIn K (.ref D) = some (.type "type")) (h : PySem.W.subIn K (.ref C) (.ref D) = some b) (hd : PySem.W.subIn K (.ref D) (.ref D) = some true) : PySem.W.kitOne K (.ref C) (.ref D) = some b := by
  unfold PySem.W.kitOne
  by_cases e : C = D
  · subst e
    rw [hd] at h
    rw [if_pos (by simp)]; exact h
  · rw [if_neg (by simpa using e)]
    show (if ((PySem.W.clsIn K D).isSome && PySem.W.typeIn K (.ref D) == some (.type "type")) = true then PySem.W.subIn K (.ref C) (.ref D) else none) = some b
    rw [if_pos (by rw [show (PySem.W.clsIn K D).isSome = true from hi, ht]; rfl)]
    exact h
abbrev offT (tb : Addr → Prop) : On := ⟨false, tb⟩
theorem exF {tb : Addr → Prop} (a : Addr) : ¬ cEx (offT tb) a cN := fun h => h.elim (fun h => Bool.noConfusion h.1) fun h => absurd h.1 (by decide)
theorem exH {n : Nat} {on : On} {tb : Addr → Prop} {X : Cx} {Y : Yx} (h : HotK on X Y n) (he : on = offT tb) (hn : n < cN) : ∀ a, ¬ Y.Ex a cN := fun a z => by
  obtain ⟨p, c, hc, _, _, _, _, e⟩ := h
  rw [e] at z
  rcases z with ⟨_, z⟩ | z
  · omega
  · subst he; exact exF a z
section
variable {X : Cx} {Y : Yx}
theorem d_globI {x : Str} {i : Int} {pos : Pos} (h : ∃ t, X.mg x = some (.int i t)) (hg : Gl X x := by rfl) (hd : (x == ("__debug__" : Str)) = false := by decide) : DE X Y true (.Name x pos) (mC (.int i)) := by
  obtain ⟨t, h⟩ := h
  exact d_glob (v := .int i) h ⟨t, rfl⟩ rfl hg hd
theorem d_globS {x i : Str} {pos : Pos} (h : ∃ t, X.mg x = some (.str i t)) (hg : Gl X x := by rfl) (hd : (x == ("__debug__" : Str)) = false := by decide) : DE X Y true (.Name x pos) (mC (.str i)) := by
  obtain ⟨t, h⟩ := h
  exact d_glob (v := .str i) h ⟨t, rfl⟩ rfl hg hd
/-- what is walked: a list or a tuple -/
def mItS (a : M W) : M (List W) := fun d => (a d).bind fun w d1 => ofOpt (itemsOf w) d1
theorem pi_or {tg e : Expr} {w1 w2 : TI} (h1 : PI X tg e w1) (h2 : PI X tg e w2) : PI X tg e (fun σ H R => w1 σ H R ∨ w2 σ H R) := ⟨fun pins s σ H R I h => h.elim (h1.run pins s σ H R I) (h2.run pins s σ H R I)⟩
theorem di_seq {pu : Bool} {tg e : Expr} {m : M W} (h : DE X Y pu e m) : DI X Y pu tg e (mItS m) := by
  refine ⟨_, pi_or (pi_list h.pe) (pi_tup h.pe), fun σ H R h => ?_⟩
  obtain ⟨Oc, d, rs, h⟩ := h
  unfold mItS at h
  have left : (∃ w d1, m d = .ok w d1 ∧ ∃ ds, w = .tuple ds) ∨ ¬ ∃ w d1, m d = .ok w d1 ∧ ∃ ds, w = .tuple ds := Classical.em _
  rcases left with ⟨w, d1, e1, ds, rfl⟩ | hno
  · refine .inr ⟨Oc, d, rs, ?_⟩
    rw [e1] at h ⊢
    intro H1 g1 v r
    have h1 := h H1 g1
    cases r with
    | tup l r => exact ⟨_, rfl, ⟨_, l.sq⟩, h1 _ _ wk_tup ⟨_, l, r⟩⟩
  · refine .inl ⟨Oc, d, rs, ?_⟩
    cases q : m d with
    | bad => rw [q] at h; exact h
    | exc c d1 => rw [q] at h; exact h
    | ok w d1 =>
      rw [q] at h
      dsimp only [Out.bind] at h
      cases w with
      | list ds =>
        intro H1 g1 v r
        have h1 := h H1 g1
        cases r with
        | lst l r => exact ⟨_, rfl, ⟨_, l.sq⟩, h1 _ _ wk_list ⟨_, l, r⟩⟩
      | tuple ds => exact absurd ⟨_, _, q, _, rfl⟩ hno
      | none => exact h.elim
      | bool b => exact h.elim
      | int i => exact h.elim
      | str s => exact h.elim
      | dict l => exact h.elim
end
end Qd
end
section
set_option Elab.async false
set_option linter.all false
set_option maxRecDepth 100000
set_option maxHeartbeats 1000000
/-! a, b, .. = x, y, .. : some of them new objects that are the def's own from now on. -/
namespace Qd
open PySem PySem.Spec PyProof.Rows L2

abbrev More (O : Addr → Prop) (ps : List Addr) (a : Addr) : Prop := O a ∨ a ∈ ps
inductive RL (K : PySem.W.Frag) (Ex : Addr → Nat → Prop) (O : Addr → Prop) (H : Hp) : List V → List (Bool × W) → List Addr → Prop
  | nil : RL K Ex O H [] [] []
  | val {v : V} {w : W} {vs : List V} {ws : List (Bool × W)} {ps : List Addr} : Rp K Ex O H v w → RL K Ex O H vs ws ps → RL K Ex O H (v :: vs) ((false, w) :: ws) ps
  | own {p : Addr} {w : W} {vs : List V} {ws : List (Bool × W)} {ps : List Addr} : Ob K Ex O H p w → RL K Ex O H vs ws ps → RL K Ex O H (.ref p :: vs) ((true, w) :: ws) (p :: ps)
section
variable {K : PySem.W.Frag} {Ex : Addr → Nat → Prop} {O O' Oc : Addr → Prop} {H H' : Hp} {d d' : SD} {σ : St}
theorem RL.mono (k : Ke O H O' H') {vs : List V} {ws : List (Bool × W)} {ps : List Addr} (e : ∀ p ∈ ps, H' p = H p) (r : RL K Ex O H vs ws ps) : RL K Ex O' H' vs ws ps := by
  induction r with
  | nil => exact .nil
  | val a b ih => exact .val (a.mono k fun _ _ z => z) (ih e)
  | own a b ih => exact .own (a.mono k (fun _ _ z => z) (e _ List.mem_cons_self)) (ih fun p hp => e p (List.mem_cons_of_mem _ hp))
theorem RL.same (s : Same H H') {vs : List V} {ws : List (Bool × W)} {ps : List Addr} (r : RL K Ex O H vs ws ps) : RL K Ex O H' vs ws ps := by
  have k : Ke O H O H' := fun a u n e => ⟨n, s a u e⟩
  induction r with
  | nil => exact .nil
  | val a b ih => exact .val (a.mono k fun _ _ z => z) ih
  | own a b ih => exact .own (a.mono k (fun _ _ z => z) (by obtain ⟨o, e⟩ := a.at; rw [e]; exact s _ _ e)) ih
theorem RL.length {vs : List V} {ws : List (Bool × W)} {ps : List Addr} (r : RL K Ex O H vs ws ps) : vs.length = ws.length := by
  induction r with
  | nil => rfl
  | val a b ih => rw [List.length_cons, List.length_cons, ih]
  | own a b ih => rw [List.length_cons, List.length_cons, ih]
theorem ow_congr (h : ∀ a, O a ↔ O' a) {a : Addr} : Ow O d σ a ↔ Ow O' d σ a := ⟨fun z => z.imp (h a).mp id, fun z => z.imp (h a).mpr id⟩
theorem RS.congr (h : ∀ a, O a ↔ O' a) (rs : RS K Ex O H d σ) : RS K Ex O' H d σ := by
  have ke : Ke (Ow O d σ) H (Ow O' d σ) H := fun a u n e => ⟨fun z => n ((ow_congr h).mpr z), e⟩
  exact ⟨rs.len, fun i w e => let ⟨v, a, b⟩ := rs.val i w e; ⟨v, a, b.mono ke fun _ _ z => z⟩, fun i s w e1 e2 => let ⟨p, a, n, b⟩ := rs.own i s w e1 e2; ⟨p, a, fun z => n ((h p).mpr z), b.mono ke (fun _ _ z => z) rfl⟩, rs.sep, rs.oc.sub fun a z => (h a).mpr z⟩
theorem Go.less {pu : Bool} {p : Addr} (g : Go K Ex (With Oc p) pu σ d H d' H') : Go K Ex Oc pu σ d H d' H' := ⟨g.rs.less, g.fr, g.sim, g.pur⟩
theorem Po.less {α : Type} {X : Cx} {Y : Yx} {pu : Bool} {p : Addr} {o : Out α} {k : α → SD → Hp → Prop} (h : Po X Y pu Oc σ d H o k) : Po X Y pu (With Oc p) σ d H o (fun a d' H' => Go X.K Y.Ex (With Oc p) pu σ d H d' H' → k a d' H') := by
  cases o with
  | ok a d1 => exact fun H1 g1 _ => h H1 g1.less
  | exc c d1 => exact fun H1 g1 => h H1 g1.less
  | bad => exact h
end
def tLo (X : Cx) (Y : Yx) (pu : Bool) (m : M (List (Bool × W))) : TA := fun σ H Q => ∃ Oc d, RS X.K Y.Ex Oc H d σ ∧ Po X Y pu Oc σ d H (m d) fun ws d' H' => ∀ vs ps, ps.Nodup → (∀ p ∈ ps, H p = none) → RS X.K Y.Ex (More Oc ps) H' d' σ → RL X.K Y.Ex (Ow (More Oc ps) d' σ) H' vs ws ps → Q vs H'
structure DLo (X : Cx) (Y : Yx) (pu : Bool) (es : List Expr) (m : M (List (Bool × W))) : Prop where
  pa : PA X es (tLo X Y pu m)
def mNilO : M (List (Bool × W)) := fun d => .ok [] d
def mConsV (a : M W) (r : M (List (Bool × W))) : M (List (Bool × W)) := fun d => (a d).bind fun x d1 => (r d1).bind fun xs d2 => .ok ((false, x) :: xs) d2
def mConsO (a : M W) (r : M (List (Bool × W))) : M (List (Bool × W)) := fun d => (a d).bind fun x d1 => (r d1).bind fun xs d2 => .ok ((true, x) :: xs) d2
section
variable {X : Cx} {Y : Yx}
theorem dlo_nil : DLo X Y true [] mNilO := ⟨by
  refine pa_weak pa_nil fun σ H Q h => ?_
  obtain ⟨Oc, d, rs, h⟩ := h
  exact h H (.refl rs) [] [] List.nodup_nil (fun _ z => nomatch z) (rs.congr fun a => ⟨.inl, fun z => z.elim (fun y => y) fun y => nomatch y⟩) .nil⟩
theorem dlo_val {pa pb : Bool} {e : Expr} {es : List Expr} {a : M W} {r : M (List (Bool × W))} (ha : DE X Y pa e a) (hr : DLo X Y pb es r) (hs : starEach (e :: es) X.env = (false, eval e X.env) :: starEach es X.env := by rfl) : DLo X Y (pa && pb) (e :: es) (mConsV a r) := ⟨by
  refine pa_weak (pa_cons ha.pe hr.pa hs) fun σ H Q h => ?_
  obtain ⟨Oc, d, rs, h⟩ := h
  refine ⟨Oc, d, rs, (Po.bind h).imp fun w d1 H1 g1 h1 v r1 => ⟨Oc, d1, g1.rs, (Po.bind1 h1).imp fun ws d2 H2 g2 h2 vs ps nd np rs2 rl => ?_⟩⟩
  refine h2 H2 (.refl g2.rs) (v :: vs) ps nd (fun p hp => g1.free (np p hp)) rs2 (.val (r1.mono (fun a u n e => ⟨fun z => ?_, g2.fr a u e fun z => n (.inr z)⟩) fun _ _ z => z) rl)
  rcases z with (z | z) | z
  · exact n (.inl z)
  · rw [np a z] at e; cases e
  · exact n (.inr (g2.sim.mine.mp z))⟩
theorem dlo_own {pa pb : Bool} {e : Expr} {es : List Expr} {a : M W} {r : M (List (Bool × W))} (ha : DF X Y pa e a) (hr : DLo X Y pb es r) (hs : starEach (e :: es) X.env = (false, eval e X.env) :: starEach es X.env := by rfl) : DLo X Y (pa && pb) (e :: es) (mConsO a r) := ⟨by
  refine pa_weak (pa_cons ha.pe hr.pa hs) fun σ H Q h => ?_
  obtain ⟨Oc, d, rs, h⟩ := h
  refine ⟨Oc, d, rs, (Po.bind h).imp fun w d1 H1 g1 h1 p np rsp ob => ⟨With Oc p, d1, rsp, (Po.less (Po.bind1 h1)).imp fun ws d2 H2 g2 h2 vs ps nd nps rs2 rl => ?_⟩⟩
  have p1 : ∃ o, H1 p = some o := ob.at
  have pn : p ∉ ps := fun z => by obtain ⟨o, e⟩ := p1; rw [nps p z] at e; cases e
  have cg : ∀ b, More (With Oc p) ps b ↔ More Oc (p :: ps) b := fun b => by
    constructor
    · rintro ((z | z) | z)
      · exact .inl z
      · exact .inr (by rw [z]; exact List.mem_cons_self)
      · exact .inr (List.mem_cons_of_mem _ z)
    · rintro (z | z)
      · exact .inl (.inl z)
      · rcases List.mem_cons.mp z with z | z
        · exact .inl (.inr z)
        · exact .inr z
  have ke1 : Ke (Ow (More (With Oc p) ps) d2 σ) H2 (Ow (More Oc (p :: ps)) d2 σ) H2 := fun b u n e => ⟨fun z => n ((ow_congr cg).mpr z), e⟩
  have nm : ¬ Mine d1 σ p := rsp.nMine (.inr rfl)
  have e2 : H2 p = H1 p := by obtain ⟨o, e⟩ := p1; rw [e]; exact g2.fr p o e nm
  refine (h2 g2) H2 (.refl g2.less.rs) (.ref p :: vs) (p :: ps) (List.nodup_cons.mpr ⟨pn, nd⟩) (fun b hb => ?_) (rs2.congr cg) (.own (ob.mono (fun b u n e => ⟨fun z => ?_, g2.fr b u e fun z => n (.inr z)⟩) (fun _ _ z => z) e2) (rl.mono ke1 fun _ _ => rfl))
  · rcases List.mem_cons.mp hb with z | z
    · rw [z]; exact np
    · exact g1.free (nps b z)
  · rcases z with z | z
    · rcases (cg b).mpr z with (z | z) | z
      · exact n (.inl (.inl z))
      · exact n (.inl (.inr z))
      · rw [nps b z] at e; cases e
    · exact n (.inr (g2.sim.mine.mp z))⟩
end
/-- stored from the left -/
def stores : List Nat → List (Bool × W) → SD → Option SD
  | [], [], d => some d
  | i :: is, (b, w) :: ws, d => (if b then storeOwn i w d else store i w d).bind fun d1 => stores is ws d1
  | _, _, _ => none
def setsS : List Nat → List V → St → St
  | i :: is, v :: vs, σ => setsS is vs (σ.set i (some v))
  | _, _, σ => σ
theorem stores_go {K : PySem.W.Frag} {Ex : Addr → Nat → Prop} {Oc : Addr → Prop} {H : Hp} : ∀ (is : List Nat) {vs : List V} {ws : List (Bool × W)} {ps : List Addr} {d d' : SD} {σ : St}, ps.Nodup → (∀ p ∈ ps, ¬ Oc p) → RS K Ex (More Oc ps) H d σ → RL K Ex (Ow (More Oc ps) d σ) H vs ws ps → stores is ws d = some d' →
    RS K Ex Oc H d' (setsS is vs σ) ∧ (∀ a, Mine d' (setsS is vs σ) a → Mine d σ a ∨ a ∈ ps) ∧ ∀ (j : Nat) (u : W), d[j]? = some (some (.par u)) → (∃ w', d'[j]? = some (some (.par w'))) ∧ (setsS is vs σ)[j]? = σ[j]?
  | [], vs, ws, ps, d, d', σ, nd, np, rs, rl, h => by
    cases rl with
    | nil =>
      cases h
      exact ⟨rs.congr (fun a => ⟨fun z => z.elim (fun y => y) (fun y => nomatch y), .inl⟩), fun a z => .inl z, fun j u e => ⟨⟨u, e⟩, rfl⟩⟩
    | val a b => cases h
    | own a b => cases h
  | i :: is, vs, ws, ps, d, d', σ, nd, np, rs, rl, h => by
    cases rl with
    | nil => cases h
    | @val v w vs ws ps a b =>
      unfold stores at h
      rw [if_neg Bool.false_ne_true] at h
      cases q : store i w d with
      | none => rw [q] at h; cases h
      | some d1 =>
        rw [q] at h
        have h : stores is ws d1 = some d' := h
        have g := store_go rs a q
        obtain ⟨r1, r2, r3⟩ := stores_go is nd np g.rs (b.mono g.ke fun _ _ => rfl) h
        refine ⟨r1, fun x z => ?_, fun j u e => ?_⟩
        · rcases r2 x z with z | z
          · rcases g.mine x z with z | z
            · exact .inl z
            · exfalso; obtain ⟨o, e⟩ := g.rs.there (.inr (by assumption)); rw [z] at e; cases e
          · exact .inr z
        · obtain ⟨⟨w', e'⟩, e2⟩ := g.par j u e
          obtain ⟨e3, e4⟩ := r3 j w' e'
          exact ⟨e3, e4.trans e2⟩
    | @own p w vs ws ps a b =>
      unfold stores at h
      rw [if_pos rfl] at h
      cases q : storeOwn i w d with
      | none => rw [q] at h; cases h
      | some d1 =>
        rw [q] at h
        have h : stores is ws d1 = some d' := h
        obtain ⟨hp, nd⟩ := List.nodup_cons.mp nd
        have cg : ∀ b, More Oc (p :: ps) b ↔ With (More Oc ps) p b := fun b => by
          constructor
          · rintro (z | z)
            · exact .inl (.inl z)
            · rcases List.mem_cons.mp z with z | z
              · exact .inr z
              · exact .inl (.inr z)
          · rintro ((z | z) | z)
            · exact .inl z
            · exact .inr (List.mem_cons_of_mem _ z)
            · exact .inr (by rw [z]; exact List.mem_cons_self)
        have no : ¬ More Oc ps p := fun z => z.elim (np p List.mem_cons_self) hp
        have rs' := rs.congr cg
        have ke0 : Ke (Ow (More Oc (p :: ps)) d σ) H (Ow (With (More Oc ps) p) d σ) H := fun b u n e => ⟨fun z => n ((ow_congr cg).mpr z), e⟩
        obtain ⟨a1, a2, a3⟩ := storeOwn_go no rs' (a.mono ke0 (fun _ _ z => z) rfl) q
        have ke1 : Ke (Ow (More Oc (p :: ps)) d σ) H (Ow (More Oc ps) d1 (σ.set i (some (.ref p)))) H := fun b u n e => ⟨fun z => by
          rcases z with z | z
          · exact n (.inl ((cg b).mpr (.inl z)))
          · rcases a2 b z with z | z
            · exact n (.inr z)
            · exact n (.inl ((cg b).mpr (.inr z))), e⟩
        obtain ⟨r1, r2, r3⟩ := stores_go is nd (fun b hb => np b (List.mem_cons_of_mem _ hb)) a1 (b.mono ke1 fun _ _ => rfl) h
        refine ⟨r1, fun x z => ?_, fun j u e => ?_⟩
        · rcases r2 x z with z | z
          · rcases a2 x z with z | z
            · exact .inl z
            · exact .inr (by rw [z]; exact List.mem_cons_self)
          · exact .inr (List.mem_cons_of_mem _ z)
        · obtain ⟨⟨w', e'⟩, e2⟩ := a3 j u e
          obtain ⟨e3, e4⟩ := r3 j w' e'
          exact ⟨e3, e4.trans e2⟩
def mPar (is : List Nat) (m : M (List (Bool × W))) : MS := fun d => (m d).toS fun ws d1 => sOpt (stores is ws d1)
theorem t_par {X : Cx} {Y : Yx} {pu : Bool} {is : List Nat} {m : M (List (Bool × W))} {D : Ends} {σ : St} {H : Hp} (h : tS X Y (mPar is m) D σ H) : tLo X Y pu m σ H fun vs H1 => ∀ H2, Same H1 H2 → D.nx (setsS is vs σ) H2 := by
  obtain ⟨Oc, d, rs, h⟩ := h
  refine ⟨Oc, d, rs, ?_⟩
  unfold mPar at h
  cases q0 : m d with
  | bad => rw [q0] at h; exact h
  | exc c d1 => rw [q0] at h; exact fun H1 g1 => h σ H1 g1.toS
  | ok ws d1 =>
    rw [q0] at h
    intro H1 g1 vs ps nd np rs1 rl H2 sm
    have h : PoS X Y Oc d σ H (sOpt (stores is ws d1)) D := h
    cases q : stores is ws d1 with
    | none => rw [q] at h; exact h.elim
    | some d2 =>
      rw [q] at h
      have no : ∀ p ∈ ps, ¬ Oc p := fun p hp z => by
        obtain ⟨o, e⟩ := rs.oc.at_ p z
        rw [np p hp] at e; cases e
      obtain ⟨a1, a2, a3⟩ := stores_go is nd no (rs1.same sm) (rl.same sm) q
      refine h _ H2 ⟨a1, fun a o e n => sm a o (g1.fr a o e n), fun a z => ?_, fun j u e => ?_⟩
      · rcases a2 a z with z | z
        · exact .inl (g1.sim.mine.mp z)
        · exact .inr (np a z)
      · obtain ⟨⟨w', e'⟩, _⟩ := g1.toS.par j u e
        exact a3 j w' e'
section
variable {X : Cx} {Y : Yx}
theorem dlo_len {pu : Bool} {es : List Expr} {m : M (List (Bool × W))} (h : DLo X Y pu es m) : True := trivial
def LenO (n : Nat) (m : M (List (Bool × W))) : Prop := ∀ d ws d1, m d = .ok ws d1 → ws.length = n
theorem lenO_nil : LenO 0 mNilO := fun d ws d1 h => by cases h; rfl
theorem lenO_cons {n : Nat} {b : Bool} {a : M W} {r : M (List (Bool × W))} (h : LenO n r) : LenO (n + 1) (fun d => (a d).bind fun x d1 => (r d1).bind fun xs d2 => .ok ((b, x) :: xs) d2) := fun d ws d1 e => by
  dsimp only at e
  cases q : a d with
  | bad => rw [q] at e; cases e
  | exc c d2 => rw [q] at e; cases e
  | ok x d2 =>
    rw [q] at e
    dsimp only [Out.bind] at e
    cases q2 : r d2 with
    | bad => rw [q2] at e; cases e
    | exc c d3 => rw [q2] at e; cases e
    | ok xs d3 =>
      rw [q2] at e
      cases e
      rw [List.length_cons, h _ _ _ q2]
/-- a list's reading with its length known -/
theorem tLo_len {pu : Bool} {n : Nat} {m : M (List (Bool × W))} {σ : St} {H : Hp} {Q : List V → Hp → Prop} (hl : LenO n m) (h : tLo X Y pu m σ H Q) : tLo X Y pu m σ H fun vs H1 => vs.length = n ∧ Q vs H1 := by
  obtain ⟨Oc, d, rs, h⟩ := h
  refine ⟨Oc, d, rs, ?_⟩
  cases q : m d with
  | bad => rw [q] at h; exact h
  | exc c d1 => rw [q] at h; exact h
  | ok ws d1 =>
    rw [q] at h
    exact fun H1 g1 vs ps nd np rs1 rl => ⟨rl.length.trans (hl _ _ _ q), h H1 g1 vs ps nd np rs1 rl⟩
/-- a, b = x, y (names on one line) -/
theorem ds_par2 {pu : Bool} {i j : Nat} {x y : Str} {a b : Expr} {px py pt pos : Pos} {kt k2 : Nat} {pt2 : Pos} {m : M (List (Bool × W))} (hc : X.calm = true) (hN : X.N.Nodup) (hm : DLo X Y pu [a, b] m) (hl : LenO 2 m) (hij : i ≠ j) (hi : X.N[i]? = some x := by rfl) (hj : X.N[j]? = some y := by rfl)
    (hx : X.env.scope.names.lookup x = some .local := by rfl) (hy : X.env.scope.names.lookup y = some .local := by rfl) (hw : swappedStores [.Tuple [.Name x px, .Name y py] kt pt] (.Tuple [a, b] k2 pt2) X.env = pure (some [x, y]) := by rfl)
    (hs : swapsWithSole [.Tuple [.Name x px, .Name y py] kt pt] (.Tuple [a, b] k2 pt2) pos.line X.env = pure false := by rfl) : DS X Y (.Assign [.Tuple [.Name x px, .Name y py] kt pt] (.Tuple [a, b] k2 pt2) pos) (mPar [i, j] m) := by
  refine ⟨ps_weak (ps_par hc hN hi hj hij hx hy hm.pa hw hs) fun D σ H h => ?_⟩
  have h := tLo_len hl (t_par (pu := pu) h)
  obtain ⟨Oc, d, rs, h⟩ := h
  refine ⟨Oc, d, rs, h.imp fun ws d1 H1 g1 h1 vs ps nd np rs1 rl => ?_⟩
  obtain ⟨e, h2⟩ := h1 vs ps nd np rs1 rl
  match vs, e, h2 with
  | [v, u], _, h2 => exact ⟨v, u, rfl, h2 H1 fun _ _ e => e⟩
theorem ds_par3 {pu : Bool} {i j l : Nat} {x y z : Str} {a b c : Expr} {px py pz pt pos : Pos} {kt k2 : Nat} {pt2 : Pos} {m : M (List (Bool × W))} (hc : X.calm = true) (hN : X.N.Nodup) (hm : DLo X Y pu [a, b, c] m) (hln : LenO 3 m) (hij : i ≠ j) (hil : i ≠ l) (hjl : j ≠ l) (hi : X.N[i]? = some x := by rfl) (hj : X.N[j]? = some y := by rfl) (hl : X.N[l]? = some z := by rfl)
    (hx : X.env.scope.names.lookup x = some .local := by rfl) (hy : X.env.scope.names.lookup y = some .local := by rfl) (hz : X.env.scope.names.lookup z = some .local := by rfl) (hw : swappedStores [.Tuple [.Name x px, .Name y py, .Name z pz] kt pt] (.Tuple [a, b, c] k2 pt2) X.env = pure (some [x, y, z]) := by rfl)
    (hs : swapsWithSole [.Tuple [.Name x px, .Name y py, .Name z pz] kt pt] (.Tuple [a, b, c] k2 pt2) pos.line X.env = pure false := by rfl) : DS X Y (.Assign [.Tuple [.Name x px, .Name y py, .Name z pz] kt pt] (.Tuple [a, b, c] k2 pt2) pos) (mPar [i, j, l] m) := by
  refine ⟨ps_weak (ps_par3 hc hN hi hj hl hij hil hjl hx hy hz hm.pa hw hs) fun D σ H h => ?_⟩
  have h := tLo_len hln (t_par (pu := pu) h)
  obtain ⟨Oc, d, rs, h⟩ := h
  refine ⟨Oc, d, rs, h.imp fun ws d1 H1 g1 h1 vs ps nd np rs1 rl => ?_⟩
  obtain ⟨e, h2⟩ := h1 vs ps nd np rs1 rl
  match vs, e, h2 with
  | [v, u, t], _, h2 => exact ⟨v, u, t, rfl, h2 H1 fun _ _ e => e⟩
/-- plain names as targets -/
inductive Nms (X : Cx) : List Expr → List Nat → TGs → Prop
  | nil : Nms X [] [] gNil
  | cons {x : Str} {pos : Pos} {i : Nat} {es : List Expr} {is : List Nat} {t : TGs} : PG X (.Name x pos) (gName i) → ((assignEach (.Name x pos :: es) X.env).map (·.2) = assign (.Name x pos) X.env :: (assignEach es X.env).map (·.2)) → Nms X es is t → Nms X (.Name x pos :: es) (i :: is) (gCons (gName i) t)
theorem nms_cons {x : Str} {pos : Pos} {i : Nat} {es : List Expr} {is : List Nat} {t : TGs} (hN : X.N.Nodup) (r : Nms X es is t) (hi : X.N[i]? = some x := by rfl) (hx : Loc X.env.scope x := by first | exact .inl rfl | exact .inr rfl) (hf : X.fn x = true ∨ X.env.scope.names.lookup x = some .local := by first | exact .inl rfl | exact .inr rfl | assumption)
    (hs : (assignEach (.Name x pos :: es) X.env).map (·.2) = assign (.Name x pos) X.env :: (assignEach es X.env).map (·.2) := by rfl) : Nms X (.Name x pos :: es) (i :: is) (gCons (gName i) t) := .cons (pg_name hN hi hx hf) hs r
theorem Nms.pg {es : List Expr} {is : List Nat} {t : TGs} (h : Nms X es is t) : PGs X es t := by
  induction h with
  | nil => exact pgs_nil
  | cons a b _ ih => exact pgs_cons a ih b
theorem Nms.to {es : List Expr} {is : List Nat} {t : TGs} (h : Nms X es is t) : ∀ {vs : List V} {σ : St} {H : Hp} {Q : St → Hp → Prop}, vs.length = is.length → Q (setsS is vs σ) H → t vs σ H Q := by
  induction h with
  | nil =>
    intro vs σ H Q e q
    match vs, e with
    | [], _ => exact ⟨rfl, q⟩
  | cons a b _ ih =>
    intro vs σ H Q e q
    match vs, e with
    | v :: vs, e => exact ⟨v, vs, rfl, ih (by simpa using e) q⟩
/-- a, b, c, d = .. by a tuple that nobody keeps -/
theorem ds_parN {pu : Bool} {es ts : List Expr} {is : List Nat} {k k2 : Nat} {pt pt2 pos : Pos} {t : TGs} {m : M (List (Bool × W))} (hc : X.calm = true) (hm : DLo X Y pu es m) (hl : LenO is.length m) (ht : Nms X ts is t) (hsz : is.length ≤ sizeLine) (hn : (assignEach ts X.env).length = is.length := by rfl)
    (hst : (assignEach ts X.env).findIdx? (·.1) = none := by rfl) (hs : swapsWithSole [.Tuple ts k pt] (.Tuple es k2 pt2) pos.line X.env = pure false := by rfl) (hw : swappedStores [.Tuple ts k pt] (.Tuple es k2 pt2) X.env = pure none := by rfl)
    (h1 : (assignEach [.Tuple ts k pt] X.env).map (·.2) = [assign (.Tuple ts k pt) X.env] := by rfl) : DS X Y (.Assign [.Tuple ts k pt] (.Tuple es k2 pt2) pos) (mPar is m) := by
  refine ⟨ps_weak (ps_asg (pe_tup hm.pa) (pg_tup hc ht.pg hn hst) hs hw h1) fun D σ H h => ?_⟩
  have h := tLo_len hl (t_par (pu := pu) h)
  obtain ⟨Oc, d, rs, h⟩ := h
  refine ⟨Oc, d, rs, h.imp fun ws d1 H1 g1 h1 vs ps nd np rs1 rl => ?_⟩
  obtain ⟨e, h2⟩ := h1 vs ps nd np rs1 rl
  exact ⟨by rw [e]; exact hsz, fun p np => ⟨p, vs, rfl, .inl (.inl upd_same), e, ht.to e (h2 _ (same_new np))⟩⟩
end
end Qd
end
section
set_option Elab.async false
set_option linter.all false
set_option maxRecDepth 100000
set_option maxHeartbeats 1000000
/-! More operations. -/
namespace Qd
open PySem PySem.Spec PyProof.Rows L2
section
variable {X : Cx} {Y : Yx}
def bitsW : W → Option W
  | .int i => some (.int (Builtin.Int.intBits i : Nat))
  | _ => none
theorem d_bits {pa : Bool} {o : Expr} {a : M W} {apos pos : Pos} (ho : DE X Y pa o a) (hbase : attributeBase o "bit_length" X.env (eval o X.env) = eval o X.env := by rfl) (hline : (apos.endLine == pos.line) = true := by rfl) : DE X Y pa (.Call (.Attribute o "bit_length" apos) [] [] pos) (mUn bitsW a) := by
  refine ⟨pe_weak (L2.pe_bits ho.pe hbase hline) fun σ H Q h => ?_⟩
  obtain ⟨Oc, d, rs, h⟩ := h
  refine ⟨Oc, d, rs, (Po.bind1 h).imp fun w d1 H1 g1 h1 v r1 => ?_⟩
  obtain ⟨c, ec, k⟩ := Po.opt h1
  unfold bitsW at ec
  split at ec
  · cases ec
    cases rp_int r1
    exact ⟨_, rfl, k H1 (.same g1.rs fun _ _ e => e) _ (.int _)⟩
  · cases ec
end
end Qd
end
section
set_option Elab.async false
set_option linter.all false
set_option maxRecDepth 100000
set_option maxHeartbeats 1000000
/-! all(..), any(..) by their data. -/
namespace Qd
open PySem PySem.Spec PyProof.Rows L2
def gxD (stop : Bool) (vs : List Nat) (g : GW) (t : M Bool) (e : M W) : List W → M Bool
  | [], d => .ok (!stop) d
  | w :: ws, d => match g w (wipeD d vs) with
    | none => .bad
    | some d1 => (t d1).bind fun b d2 => if b = true then (e d2).bind fun y d3 => (ofOpt (asB y) d3).bind fun k d4 => if k = stop then .ok stop d4 else gxD stop vs g t e ws d4 else gxD stop vs g t e ws d2
def mGx (stop : Bool) (vs : List Nat) (it : M (List W)) (g : GW) (t : M Bool) (e : M W) : M W := fun d => (it d).bind fun ws d1 => if cleanD d1 vs = true then
  (match gxD stop vs g t e ws d1 with
    | .ok b d2 => .ok (.bool b) (backD d1 vs d2)
    | _ => .bad) else .bad
section
variable {K : PySem.W.Frag} {Ex : Addr → Nat → Prop} {Oc : Addr → Prop}
/-- between two turns -/
structure GxI (pu : Bool) (K : PySem.W.Frag) (Ex : Addr → Nat → Prop) (Oc : Addr → Prop) (S : (Addr → Prop) → Hp → Prop) (vs : List Nat) (d₁ : SD) (σ : St) (H₁ : Hp) (d : SD) (H : Hp) : Prop where
  rs : RS K Ex Oc H (wipeD d vs) (wipe σ vs)
  cl : cleanD d vs = true
  len : d.length = d₁.length
  out : ∀ j : Nat, j ∉ vs → SlotLike d₁[j]? d[j]?
  fr : ∀ a o, H₁ a = some o → ¬ Mine d₁ σ a → H a = some o
  st : S (Ow Oc (wipeD d vs) (wipe σ vs)) H
  pur : pu = true → (∀ a o, H₁ a = some o → H a = some o) ∧ ∀ j : Nat, j ∉ vs → d[j]? = d₁[j]?
theorem GxI.back {pu : Bool} {S : (Addr → Prop) → Hp → Prop} {vs : List Nat} {d₁ d : SD} {σ : St} {H₁ H : Hp} (rs₁ : RS K Ex Oc H₁ d₁ σ) (cl₁ : cleanD d₁ vs = true) (I : GxI pu K Ex Oc S vs d₁ σ H₁ d H) : RS K Ex Oc H (backD d₁ vs d) σ ∧ Sim d₁ (backD d₁ vs d) := by
  have sim : Sim d₁ (backD d₁ vs d) := by
    refine ⟨by rw [backD_length]; exact I.len.symm, fun j => ?_⟩
    by_cases m : j ∈ vs
    · by_cases l : j < d.length
      · rw [backD_in m l I.len.symm]; exact .refl _
      · rw [List.getElem?_eq_none (by rw [← I.len]; omega), List.getElem?_eq_none (by rw [backD_length]; omega)]; exact .refl _
    · rw [backD_out m]; exact I.out j m
  have nin : ∀ {j : Nat} {s : Slot} {w : W}, (backD d₁ vs d)[j]? = some (some s) → Slot.mine? s = some w → j ∉ vs := fun {j s w} h1 h2 => by
    obtain ⟨s', w', e1, e2⟩ := (sim.2 j).mine.mpr ⟨s, w, h1, h2⟩
    exact cleanD_at e1 e2 cl₁
  have ow : ∀ a, Ow Oc (backD d₁ vs d) σ a → Ow Oc (wipeD d vs) (wipe σ vs) a := fun a z => z.imp id fun ⟨j, s, w, h1, h2, h3⟩ => by
    have m := nin h1 h2
    rw [backD_out m] at h1
    exact ⟨j, s, w, by rw [wipeD_out m]; exact h1, h2, by rw [wipe_out m]; exact h3⟩
  have ke : Ke (Ow Oc (wipeD d vs) (wipe σ vs)) H (Ow Oc (backD d₁ vs d) σ) H := fun a u n e => ⟨fun z => n (ow a z), e⟩
  -- for the names that the block hid
  have ke1 : Ke (Ow Oc d₁ σ) H₁ (Ow Oc (backD d₁ vs d) σ) H := fun a u n e => by
    refine ⟨fun z => ?_, I.fr a u e fun z => n (.inr z)⟩
    rcases z with z | z
    · exact n (.inl z)
    · exact n (.inr (sim.mine.mp z))
  refine ⟨⟨by rw [backD_length, I.len]; exact rs₁.len, fun j u e => ?_, fun j s u e1 e2 => ?_, fun j k s t u u' q ne e1 e2 e3 e4 e5 => ?_, I.rs.oc⟩, sim⟩
  · by_cases m : j ∈ vs
    · have l : j < d.length := by
        obtain ⟨lt, _⟩ := List.getElem?_eq_some_iff.mp e
        rw [backD_length] at lt; exact lt
      rw [backD_in m l I.len.symm] at e
      obtain ⟨v, e', r⟩ := rs₁.val j u e
      exact ⟨v, e', r.mono ke1 fun _ _ z => z⟩
    · rw [backD_out m] at e
      obtain ⟨v, e', r⟩ := I.rs.val j u (by rw [wipeD_out m]; exact e)
      exact ⟨v, by rw [wipe_out m] at e'; exact e', r.mono ke fun _ _ z => z⟩
  · have m := nin e1 e2
    rw [backD_out m] at e1
    obtain ⟨q, e', n, ob⟩ := I.rs.own j s u (by rw [wipeD_out m]; exact e1) e2
    exact ⟨q, by rw [wipe_out m] at e'; exact e', n, ob.mono ke (fun _ _ z => z) rfl⟩
  · have m := nin e1 e2
    have m2 := nin e3 e4
    rw [backD_out m] at e1
    rw [backD_out m2] at e3
    have z := I.rs.sep j k s t u u' q ne (by rw [wipeD_out m]; exact e1) e2 (by rw [wipeD_out m2]; exact e3) e4 (by rw [wipe_out m]; exact e5)
    rw [wipe_out m2] at z
    exact z
end
section
variable {X : Cx} {Y : Yx}
theorem t_gx {pi pt pe stop : Bool} {P : Addr} {mi : M (List W)} {g : GW} {is vs : List Nat} {t : M Bool} {e : M W} {wi : TI} (hP : Y.Ex P tN) (hwi : ∀ σ H R, tI X Y pi mi σ H R → wi σ H R) (ho : ∀ w d d', g w d = some d' → Only is d d') (his : ∀ i ∈ is, i ∈ vs)
    (σ : St) (H : Hp) (Q : VK) (h : tE X Y (pi && (pt && pe)) (mGx stop vs mi g t e) σ H Q) : tGx P stop wi (tG X.K Y.blk g is) (tT X Y.blk pt t) (tE X Y.blk pe e) vs σ H Q := by
  obtain ⟨Oc, d, rs, h⟩ := h
  refine hwi σ H _ ⟨Oc, d, rs, (Po.bind h).imp fun ws d₁ H₁ g₁ h₁ J S wk hS => ?_⟩
  refine ⟨(g₁.rs.oc.tb P hP).1, ?_⟩
  have cl : cleanD d₁ vs = true := by
    by_cases z : cleanD d₁ vs = true
    · exact z
    · rw [if_neg z] at h₁; exact h₁.elim
  rw [if_pos cl] at h₁
  cases q : gxD stop vs g t e ws d₁ with
  | bad => rw [q] at h₁; exact h₁.elim
  | exc c d2 => rw [q] at h₁; exact h₁.elim
  | ok bb d₂ =>
    rw [q] at h₁
    have h₁ : ∀ H', Go X.K Y.Ex Oc (pt && pe) σ d₁ H₁ (backD d₁ vs d₂) H' → ∀ v, Rp X.K Y.Ex (Ow Oc (backD d₁ vs d₂) σ) H' v (.bool bb) → Q v H' := h₁
    have fin : ∀ H', GxI (pt && pe) X.K Y.Ex Oc S vs d₁ σ H₁ d₂ H' → Q (.bl bb) H' := fun H' I => by
      obtain ⟨r2, sim⟩ := I.back g₁.rs cl
      refine h₁ H' ⟨r2, I.fr, sim, fun z => ?_⟩ _ (.bl bb)
      obtain ⟨p1, p2⟩ := I.pur z
      refine ⟨p1, List.ext_getElem? fun j => ?_⟩
      by_cases m : j ∈ vs
      · by_cases l : j < d₂.length
        · exact backD_in m l I.len.symm
        · rw [List.getElem?_eq_none (by rw [backD_length]; omega), List.getElem?_eq_none (by rw [← I.len]; omega)]
      · rw [backD_out m]; exact p2 j m
    have start : GxI (pt && pe) X.K Y.Ex Oc S vs d₁ σ H₁ d₁ H₁ :=
      ⟨g₁.rs.wipe cl, cl, rfl, fun _ _ => .refl _, fun _ _ e _ => e, wk.keep _ _ _ _ (fun a u n e' => ⟨fun z => n (z.imp id (mine_wipe g₁.rs.len cl).mp), e'⟩) hS, fun _ => ⟨fun _ _ e => e, fun _ _ => rfl⟩⟩
    refine ⟨fun i m H' => m = ws.length - i ∧ i ≤ ws.length ∧ ∃ d', GxI (pt && pe) X.K Y.Ex Oc S vs d₁ σ H₁ d' H' ∧ gxD stop vs g t e (ws.drop i) d' = .ok bb d₂, ⟨ws.length, by simp, Nat.zero_le _, d₁, start, q⟩, ?_⟩
    rintro i m H' ⟨rfl, hi, d', I, hq⟩
    by_cases lt : i < ws.length
    · refine .inr ⟨wk.go _ _ _ I.st lt, fun H2 => ∃ d', GxI (pt && pe) X.K Y.Ex Oc S vs d₁ σ H₁ d' H2 ∧ gxD stop vs g t e (ws.drop (i + 1)) d' = .ok bb d₂, fun H2 z => ⟨ws.length - (i + 1), by omega, rfl, lt, z⟩, fun x H2 y => ?_⟩
      obtain ⟨sm, hr⟩ := wk.yld _ H' i x H2 (fun a z => I.rs.there z) I.st y
      have rx := hr _ (List.getElem?_eq_getElem lt)
      rw [List.drop_eq_getElem_cons lt] at hq
      unfold gxD at hq
      cases qg : g ws[i] (wipeD d' vs) with
      | none => rw [qg] at hq; cases hq
      | some d1' =>
        rw [qg] at hq
        dsimp only at hq
        have go2 := Go.same (pu := true) I.rs sm
        refine ⟨Oc, wipeD d' vs, _, d1', go2.rs, rx, qg, fun σ2 gs o1 => ?_⟩
        have only := ho _ _ _ qg
        have hσ2 : ∀ j : Nat, j ∉ vs → σ2[j]? = σ[j]? := fun j m => by rw [o1.2 j fun z => m (his j z), wipe_out m]
        have hσl : σ2.length = σ.length := by rw [o1.1, wipe_length]
        refine ⟨wipe_ext hσl hσ2, Oc, d1', gs.rs, ?_⟩
        have hS2 : S (Ow Oc d1' σ2) H2 := wk.keep _ _ _ _ gs.ke (wk.keep _ _ _ _ go2.ke I.st)
        have fr2 : ∀ a o, H₁ a = some o → ¬ Mine d₁ σ a → H2 a = some o := fun a o e n => sm a o (I.fr a o e n)
        have out1 : ∀ j : Nat, j ∉ vs → SlotLike d₁[j]? d1'[j]? := fun j m => by
          rw [only.2.1 j fun z => m (his j z), wipeD_out m]; exact I.out j m
        have cl1 : cleanD d1' vs = true := by
          refine cleanD_of fun j hj s e => ?_
          have l : j < d'.length := by
            obtain ⟨lt, _⟩ := List.getElem?_eq_some_iff.mp e
            rw [only.1, wipeD_length] at lt; exact lt
          rcases only.2.2 j with z | ⟨u, z⟩
          · rw [z, wipeD_in hj l] at e; cases e
          · rw [z] at e; cases e; rfl
        have len1 : d1'.length = d₁.length := by rw [only.1, wipeD_length]; exact I.len
        have pur1 : (pt && pe) = true → (∀ a o, H₁ a = some o → H2 a = some o) ∧ ∀ j : Nat, j ∉ vs → d1'[j]? = d₁[j]? := fun z => by
          obtain ⟨z1, z2⟩ := I.pur z
          exact ⟨fun a o e => sm a o (z1 a o e), fun j m => by rw [only.2.1 j fun z => m (his j z), wipeD_out m]; exact z2 j m⟩
        have mk : ∀ {pu : Bool} {d3 : SD} {H3 : Hp}, ((pt && pe) = true → pu = true) → Go X.K Y.Ex Oc pu σ2 d1' H2 d3 H3 → GxI (pt && pe) X.K Y.Ex Oc S vs d₁ σ H₁ d3 H3 := fun {pu d3 H3} hpu g3 => by
          have out3 : ∀ j : Nat, j ∉ vs → SlotLike d₁[j]? d3[j]? := fun j m => (out1 j m).trans (g3.sim.2 j)
          have cl3 : cleanD d3 vs = true := by
            refine cleanD_of fun j hj s e => ?_
            cases hm : Slot.mine? s with
            | none => rfl
            | some w =>
              obtain ⟨s', w', f1, f2⟩ := (g3.sim.2 j).mine.mpr ⟨s, w, e, hm⟩
              exact absurd hj (cleanD_at f1 f2 cl1)
          have r3 := (g3.rs.wipe (vs := vs) cl3)
          rw [wipe_ext hσl hσ2] at r3
          have ke3 : Ke (Ow Oc d3 σ2) H3 (Ow Oc (wipeD d3 vs) (wipe σ vs)) H3 := fun a u n e => ⟨fun z => n (by
            rw [← wipe_ext hσl hσ2] at z
            exact z.imp id (mine_wipe g3.rs.len cl3).mp), e⟩
          refine ⟨r3, cl3, by rw [← g3.sim.1]; exact len1, out3, fun a o e n => g3.fr a o (fr2 a o e n) fun z => n (mine_out cl1 out1 hσ2 z), wk.keep _ _ _ _ ke3 (wk.keep _ _ _ _ g3.ke hS2), fun z => ?_⟩
          obtain ⟨p1, p2⟩ := pur1 z
          obtain ⟨p3, p4⟩ := g3.pur (hpu z)
          subst p4
          exact ⟨fun a o e => p3 a o (p1 a o e), p2⟩
        cases qt : t d1' with
        | bad => rw [qt] at hq; cases hq
        | exc c d2' => rw [qt] at hq; cases hq
        | ok b d2' =>
          rw [qt] at hq
          dsimp only [Out.bind] at hq
          intro H3 g3 rs3
          cases b with
          | false =>
            rw [if_neg Bool.false_ne_true] at hq
            refine iteF ?_
            exact ⟨d2', mk (fun z => (Bool.and_eq_true _ _ ▸ z).1) g3, hq⟩
          | true =>
            rw [if_pos rfl] at hq
            refine iteT ⟨Oc, d2', rs3, ?_⟩
            cases qe : e d2' with
            | bad => rw [qe] at hq; cases hq
            | exc c d3' => rw [qe] at hq; cases hq
            | ok yv d3' =>
              rw [qe] at hq
              dsimp only [Out.bind] at hq
              intro H4 g4 v rv
              have z := mk id (g3.trans g4)
              cases yv with
              | bool k =>
                dsimp only [asB, ofOpt, Out.bind] at hq
                cases rv
                refine ⟨k, rfl, ?_⟩
                by_cases hk : k = stop
                · rw [if_pos hk] at hq ⊢
                  cases hq
                  exact fin H4 z
                · rw [if_neg hk] at hq ⊢
                  exact ⟨d3', z, hq⟩
              | _ => cases hq
    · have ei : i = ws.length := by omega
      subst ei
      rw [List.drop_length] at hq
      cases hq
      exact .inl ⟨wk.stop _ _ _ I.st (Nat.le_refl _), fin H' I⟩
/-- all(elt for tg in iter if ..) -/
theorem d_allG {pi pt pe : Bool} {c P : Addr} {k : Nat} {elt tg iter : Expr} {ifs : List Expr} {scope : Scope} {own : List (Str × Nat)} {p pos gpos : Pos} {mi : M (List W)} {g : GW} {is : List Nat} {t : M Bool} {e : M W}
    (hr : Room (k + 1) X.A) (hm : X.mg "all" = none) (TB : GxR.TabB X.base X.mg c P) (hcode : X.env.code = .ref c) (hP : Y.Ex P tN) (S : GxScope X scope own) (hN : X.N.Nodup) (hc : X.calm = true) (hi : DI X Y pi tg iter mi) (his : ∀ i ∈ is, i ∈ own.map (·.2))
    (hg : ∀ (A : Around) (s : Shared) (H : Hp) (cl : List (Str × Addr)) (C : Addr) (code : Value) (fp : List Addr) (pn : List (Addr × Obj)), Room k A → DG (gxC X A s H (genEnv scope cl C code builtinsNs X.env) fp pn) Y.blk tg g is)
    (ht : ∀ (A : Around) (s : Shared) (H : Hp) (cl : List (Str × Addr)) (C : Addr) (code : Value) (fp : List Addr) (pn : List (Addr × Obj)), Room k A → DTs (gxC X A s H (genEnv scope cl C code builtinsNs X.env) fp pn) Y.blk pt ifs t)
    (he : ∀ (A : Around) (s : Shared) (H : Hp) (cl : List (Str × Addr)) (C : Addr) (code : Value) (fp : List Addr) (pn : List (Addr × Obj)), Room k A → DE (gxC X A s H (genEnv scope cl C code builtinsNs X.env) fp pn) Y.blk pe elt e)
    (hgl : Gl X "all" := by rfl) (hs : ∀ v, genFold iter X.env v = pure v := by intro _; rfl)
    (hst : starEach [.GeneratorExp elt [⟨tg, iter, ifs, 0⟩] scope gpos] X.env = (false, eval (.GeneratorExp elt [⟨tg, iter, ifs, 0⟩] scope gpos) X.env) :: starEach [] X.env := by rfl) :
    DE X Y (pi && (pt && pe)) (.Call (.Name "all" p) [.GeneratorExp elt [⟨tg, iter, ifs, 0⟩] scope gpos] [] pos) (mGx false (own.map (·.2)) mi g t e) := by
  obtain ⟨wi, hpi, hwi⟩ := hi.pi
  exact ⟨pe_weak (pe_allG hr hm TB hcode S hN hc hpi (fun A s H cl C code fp pn r => (hg A s H cl C code fp pn r).pg) (fun A s H cl C code fp pn r => (ht A s H cl C code fp pn r).pts) (fun A s H cl C code fp pn r => (he A s H cl C code fp pn r).pe) hgl hs hst)
    (t_gx hP hwi (hg X.A {} noH [] 0 .none [] [] (hr.mono (Nat.le_succ k))).only his)⟩
theorem d_anyG {pi pt pe : Bool} {c P : Addr} {k : Nat} {elt tg iter : Expr} {ifs : List Expr} {scope : Scope} {own : List (Str × Nat)} {p pos gpos : Pos} {mi : M (List W)} {g : GW} {is : List Nat} {t : M Bool} {e : M W}
    (hr : Room (k + 1) X.A) (hm : X.mg "any" = none) (TB : GxR.TabB X.base X.mg c P) (hcode : X.env.code = .ref c) (hP : Y.Ex P tN) (S : GxScope X scope own) (hN : X.N.Nodup) (hc : X.calm = true) (hi : DI X Y pi tg iter mi) (his : ∀ i ∈ is, i ∈ own.map (·.2))
    (hg : ∀ (A : Around) (s : Shared) (H : Hp) (cl : List (Str × Addr)) (C : Addr) (code : Value) (fp : List Addr) (pn : List (Addr × Obj)), Room k A → DG (gxC X A s H (genEnv scope cl C code builtinsNs X.env) fp pn) Y.blk tg g is)
    (ht : ∀ (A : Around) (s : Shared) (H : Hp) (cl : List (Str × Addr)) (C : Addr) (code : Value) (fp : List Addr) (pn : List (Addr × Obj)), Room k A → DTs (gxC X A s H (genEnv scope cl C code builtinsNs X.env) fp pn) Y.blk pt ifs t)
    (he : ∀ (A : Around) (s : Shared) (H : Hp) (cl : List (Str × Addr)) (C : Addr) (code : Value) (fp : List Addr) (pn : List (Addr × Obj)), Room k A → DE (gxC X A s H (genEnv scope cl C code builtinsNs X.env) fp pn) Y.blk pe elt e)
    (hgl : Gl X "any" := by rfl) (hs : ∀ v, genFold iter X.env v = pure v := by intro _; rfl)
    (hst : starEach [.GeneratorExp elt [⟨tg, iter, ifs, 0⟩] scope gpos] X.env = (false, eval (.GeneratorExp elt [⟨tg, iter, ifs, 0⟩] scope gpos) X.env) :: starEach [] X.env := by rfl) :
    DE X Y (pi && (pt && pe)) (.Call (.Name "any" p) [.GeneratorExp elt [⟨tg, iter, ifs, 0⟩] scope gpos] [] pos) (mGx true (own.map (·.2)) mi g t e) := by
  obtain ⟨wi, hpi, hwi⟩ := hi.pi
  exact ⟨pe_weak (pe_anyG hr hm TB hcode S hN hc hpi (fun A s H cl C code fp pn r => (hg A s H cl C code fp pn r).pg) (fun A s H cl C code fp pn r => (ht A s H cl C code fp pn r).pts) (fun A s H cl C code fp pn r => (he A s H cl C code fp pn r).pe) hgl hs hst)
    (t_gx hP hwi (hg X.A {} noH [] 0 .none [] [] (hr.mono (Nat.le_succ k))).only his)⟩
end
/-! ### a def whose code object is known -/
structure FunC (K : PySem.W.Frag) (x qual : Str) (st : Stmt) (f : Addr) (fd : FuncData) (c : Addr) : Prop where
  ex : ∃ (oc : Value) (od : Option Addr) (kV doc pm : Value) (an : Option Addr) (ct : Value) (osl : Array (Option Value)),
    fd = PySem.W.fnOf x qual (defArgs st) (defBody st) (defScope st) .none kV doc pm an (.ref c) ct ∧ K.lookup f = some ⟨oc, od, .func fd, osl⟩ ∧ PySem.W.codeIn K (.ref c) qual = true
  kp : PySem.W.keepIn K (.ref f) = true
theorem funC_mk {K : PySem.W.Frag} {x qual : Str} {st : Stmt} {f c : Addr} {oc : Value} {od an : Option Addr} {osl : Array (Option Value)} {kV doc pm ct : Value} (l : K.lookup f = some ⟨oc, od, .func (PySem.W.fnOf x qual (defArgs st) (defBody st) (defScope st) .none kV doc pm an (.ref c) ct), osl⟩)
    (h : PySem.W.codeIn K (.ref c) qual = true) (k : PySem.W.keepIn K (.ref f) = true) : FunC K x qual st f (PySem.W.fnOf x qual (defArgs st) (defBody st) (defScope st) .none kV doc pm an (.ref c) ct) c := ⟨⟨oc, od, kV, doc, pm, an, ct, osl, rfl, l, h⟩, k⟩
section
variable {P : Program} {w : World} {K : PySem.W.Frag} {mg : Str → Option Value} {base : Heap} {T : Nat → Value} {on : On}
theorem fn_Vc {x qual : Str} {st : Stmt} {f c : Addr} {fd : FuncData} {N ps : List Str} {k np : Nat} {m : MS} (F : FunC K x qual st f fd c) (S : FnScope N ps (defScope st)) (hps : ps.length = np) (hnp : np ≤ N.length)
    (hb : ∀ (A : Around) (outer : List Env) (s : Shared) (H : Hp) (E : XK), Room k (A.deeper (envOfC qual (defScope st) s.heap.objs.size f (.ref c))) → DSs (cxOf (L2N.CX P w) P w K mg base N qual (defScope st) f (.ref c) A outer s H E) (Yf T on E) (defBody st) m) :
    FnOk P w K mg base (L2N.CX P w) (k + 1) f fd ps (spV K T on (runV N.length m) np) := by
  obtain ⟨oc, od, kV, doc, pm, an, ct, osl, rfl, lk, hcd⟩ := F.ex
  refine fn_of lk hcd S (fun vs H Q E h => ?_) fun A outer s H vs Q E hr h => ⟨_, (hb A outer s H E hr).ps, tS_V hnp rfl h⟩
  obtain ⟨Oc, ws, hl, oc, r, h⟩ := h
  rw [r.length, hl, hps]
theorem fn_Pc {x qual : Str} {st : Stmt} {f c : Addr} {fd : FuncData} {N ps : List Str} {k np : Nat} {m : MS} (F : FunC K x qual st f fd c) (S : FnScope N ps (defScope st)) (hps : ps.length = np) (hnp : np ≤ N.length)
    (hb : ∀ (A : Around) (outer : List Env) (s : Shared) (H : Hp) (E : XK), Room k (A.deeper (envOfC qual (defScope st) s.heap.objs.size f (.ref c))) → DSs (cxOf (L2N.CX P w) P w K mg base N qual (defScope st) f (.ref c) A outer s H E) (Yf T on E) (defBody st) m) :
    FnOk P w K mg base (L2N.CX P w) (k + 1) f fd ps (spP K T on (runP N.length m) np) := by
  obtain ⟨oc, od, kV, doc, pm, an, ct, osl, rfl, lk, hcd⟩ := F.ex
  refine fn_of lk hcd S (fun vs H Q E h => ?_) fun A outer s H vs Q E hr h => ⟨_, (hb A outer s H E hr).ps, tS_P hnp rfl h⟩
  obtain ⟨Oc, p, vs', u, ws, rfl, hl, oc, no, ob, r, h⟩ := h
  rw [List.length_cons, r.length, hl, hps]
end
end Qd
end
section
set_option Elab.async false
set_option linter.all false
set_option maxRecDepth 100000
set_option maxHeartbeats 1000000
/-! The end of a law with tables of code objects. -/
namespace Qd
open PySem PySem.Spec PyProof.Rows L2
/-- the tables seen as such, whatever stands in them -/
def extT (cs : List (Addr × Addr)) (H : Hp) : Hp := fun a => if a ∈ cs.map (·.2) then some (tabO a) else H a
/-- a promise over a heap whose tables are empty at first -/
def spTab (cs : List (Addr × Addr)) (sp : Sp) : Sp := fun vs H Q E => (∀ p ∈ cs, H p.2 = some (.tbl #[])) ∧ (E = fun _ _ _ => False) ∧ (∀ H3, Q (.bl true) H3) ∧ sp vs (extT cs H) (fun v H2 => v = .bl true ∧ ∀ p ∈ cs, H2 p.2 = some (tabO p.2)) fun _ _ _ => False
theorem fn_tabs {P : Program} {w : World} {K : PySem.W.Frag} {mg : Str → Option Value} {base : Heap} {CX : CXT} {k : Nat} {f : Addr} {fd : FuncData} {ps : List Str} {sp : Sp} (cs : List (Addr × Addr)) (hCX : ∀ outer H s e s', CX outer H s (fun _ _ _ => False) e s' → False) (F : FnOk P w K mg base CX k f fd ps sp) : FnOk P w K mg base CX k f fd ps (spTab cs sp) := by
  refine ⟨fun vs H Q E h => F.len _ _ _ _ h.2.2.2, fun A outer s H args us vs Q E hr e0 hb hv hsp => ?_⟩
  obtain ⟨hT, rfl, hQ, hs⟩ := hsp
  have inT : ∀ {b : Addr}, b ∈ cs.map (·.2) → H b = some (.tbl #[]) := fun {b} hb => by
    obtain ⟨p, hp, e⟩ := List.mem_map.mp hb
    rw [← e]; exact hT p hp
  have out : ∀ {b : Addr}, H b ≠ some (.tbl #[]) → extT cs H b = H b := fun {b} h => if_neg fun z => h (inT z)
  have outN : ∀ {b : Addr}, H b = none → extT cs H b = none := fun {b} h => (out (by rw [h]; exact fun z => by cases z)).trans h
  have hok : HOk P w (extT cs H) s.heap := fun b u e => by
    by_cases hb : b ∈ cs.map (·.2)
    · have e' : extT cs H b = some (tabO b) := if_pos hb
      rw [e'] at e; cases e
      exact tabO_ok (ps := #[]) (e0.hok b _ (inT hb)) (by trivial)
    · have e' : extT cs H b = H b := if_neg hb
      rw [e'] at e
      exact (e0.hok b u e).stay (fun _ _ _ q => q) (fun d q => by rw [out (by rw [q]; exact fun z => by cases z)]; exact q) fun d xs q => by rw [out (by rw [q]; exact fun z => by cases z)]; exact q
  have e1 : Env0 P w K mg base A outer s (extT cs H) := ⟨e0.frames, e0.mod, fun b o e => ⟨(e0.bs b o e).1, outN (e0.bs b o e).2⟩, e0.bsz, e0.funs, fun b z => outN (e0.frf b z), hok, e0.bare⟩
  refine codeAny_mono (F.run A outer s (extT cs H) args us vs _ _ hr e1 hb hv hs) fun r s' h => ?_
  cases r with
  | error e => exact (hCX _ _ _ _ _ h).elim
  | ok fl =>
    cases fl with
    | next => exact h
    | brk => exact h
    | cont => exact h
    | ret u =>
      obtain ⟨v, H2, os, bare, un, hok2, rv, ev, ht2⟩ := h
      subst ev
      have in2 : ∀ {b : Addr}, b ∈ cs.map (·.2) → ∃ qs : Array Value, s'.heap.get? b = some { cls := .none, data := .fields qs } := fun {b} hb => by
        obtain ⟨p, hp, e⟩ := List.mem_map.mp hb
        have e2 := ht2 p hp
        rw [e] at e2
        obtain ⟨⟨qs, e3, _⟩, _⟩ := hok2 b _ e2
        exact ⟨qs, e3⟩
      -- the tables as they stand in the end
      let H3 : Hp := fun a => if h : a ∈ cs.map (·.2) then some (.tbl (Classical.choose (in2 h))) else H2 a
      have h3n : ∀ {b : Addr}, b ∉ cs.map (·.2) → H3 b = H2 b := fun {b} h => dif_neg h
      have h3t : ∀ {b : Addr}, b ∈ cs.map (·.2) → ∃ qs, H3 b = some (.tbl qs) ∧ s'.heap.get? b = some { cls := .none, data := .fields qs } := fun {b} h => ⟨_, dif_pos h, Classical.choose_spec (in2 h)⟩
      have nT : ∀ {b : Addr}, H b ≠ some (.tbl #[]) → b ∉ cs.map (·.2) := fun {b} h z => h (inT z)
      have nT2 : ∀ {b : Addr} {u : HO}, H2 b = some u → u ≠ tabO b → b ∉ cs.map (·.2) := fun {b u} e n z => by
        obtain ⟨p, hp, ep⟩ := List.mem_map.mp z
        have e2 := ht2 p hp
        rw [ep, e] at e2
        exact n (Option.some.inj e2)
      have hok3 : HOk P w H3 s'.heap := fun b u e => by
        by_cases hb : b ∈ cs.map (·.2)
        · obtain ⟨qs, e3, e4⟩ := h3t hb
          rw [e3] at e; cases e
          exact e4
        · rw [h3n hb] at e
          exact (hok2 b u e).stay (fun _ _ _ q => q) (fun d q => by rw [h3n (nT2 q fun z => by cases z)]; exact q) fun d xs q => by rw [h3n (nT2 q fun z => by cases z)]; exact q
      refine ⟨.bl true, H3, os, bare, ⟨fun b o e n hf hx => un.keep b o e (outN n) hf hx, fun b o e n hf hx => un.slot b o e (outN n) hf hx, fun b o e n hx => ?_, fun b o e hx => un.there b o e hx, fun b xs e => ?_, fun b o u e => ?_, fun b qs e => ?_⟩, hok3, rv, hQ H3⟩
      · rw [h3n (nT (by rw [n]; exact fun z => by cases z))]
        exact un.free b o e (outN n) hx
      · have nb := nT (b := b) (by rw [e]; exact fun z => by cases z)
        rw [h3n nb]
        exact un.tups b xs ((out (by rw [e]; exact fun z => by cases z)).trans e)
      · have nb := nT (b := b) (by rw [e]; exact fun z => by cases z)
        rw [h3n nb]
        exact un.frzs b o u ((out (by rw [e]; exact fun z => by cases z)).trans e)
      · by_cases hb : b ∈ cs.map (·.2)
        · rw [inT hb] at e
          cases e
          obtain ⟨qs, e3, _⟩ := h3t hb
          exact ⟨qs, by rw [e3, Array.empty_append]⟩
        · obtain ⟨more, e2⟩ := un.tbls b qs ((if_neg hb : extT cs H b = H b).trans e)
          exact ⟨more, by rw [h3n hb]; exact e2⟩
theorem sqL_ext {K : PySem.W.Frag} {H : Hp} {a : Addr} {xs : List V} {cs : List (Addr × Addr)} (hT : ∀ p ∈ cs, H p.2 = some (.tbl #[])) (h : SqL K H a xs) : Rd (extT cs H) a (.lst xs) ∨ SqL K noH a xs := by
  have inT : ∀ {b : Addr}, b ∈ cs.map (·.2) → H b = some (.tbl #[]) := fun {b} hb => by
    obtain ⟨p, hp, e⟩ := List.mem_map.mp hb
    rw [← e]; exact hT p hp
  rcases h with (h | ⟨o, h⟩) | h
  · exact .inl (.inl ((if_neg fun z => by rw [inT z] at h; cases h).trans h))
  · exact .inl (.inr ⟨o, (if_neg fun z => by rw [inT z] at h; cases h).trans h⟩)
  · exact .inr (.inr h)
theorem FunC.binds {K : PySem.W.Frag} {x qual : Str} {st : Stmt} {f c : Addr} {fd : FuncData} {ps : List Str} (F : FunC K x qual st f fd c)
    (h : ∀ (kV doc pm : Value) (an : Option Addr) (cdv ct : Value) (us : List Value), us.length = ps.length → bindArgs (PySem.W.fnOf x qual (defArgs st) (defBody st) (defScope st) .none kV doc pm an cdv ct) ⟨us, []⟩ = pure (ps.zip us)) : Binds K fd ps [] := by
  obtain ⟨oc, od, kV, doc, pm, an, ct, osl, rfl, lk, hcd⟩ := F.ex
  exact .all (h kV doc pm an (.ref c) ct)
/-- a def's code object and its table -/
theorem tab_in {K : PySem.W.Frag} {x : Str} {f c P : Addr} {oc o2 : Value} {od d2 : Option Addr} {fd : FuncData} {vs : Array Value} {sl s2 : Array (Option Value)} (g : PySem.W.nsIn K mainGlobals x = some (some (.ref f))) (l : K.lookup f = some ⟨oc, od, .func fd, sl⟩) (hc : fd.code = .ref c)
    (lc : K.lookup c = some ⟨o2, d2, .fields vs, s2⟩) (hv : (vs[11]? : Option Value) = some (.ref P)) : PySem.W.tabIn K x = some (c, P) := by
  unfold PySem.W.tabIn
  rw [g]
  dsimp only
  rw [l]
  dsimp only
  rw [hc]
  dsimp only
  rw [lc]
  dsimp only
  rw [hv]
/-- the law's promise, from its answer by data -/
theorem sp_tabs {K : PySem.W.Frag} {T : Nat → Value} {F : FV} {cs : List (Addr × Addr)} {H : Hp} {a : Addr} {ns : List Int} (h1 : F [.list (ns.map PyData.int)] = .ok (.val (.bool true))) (hT : ∀ p ∈ cs, H p.2 = some (.tbl #[])) (hS : SqL K H a (ns.map V.int)) :
    spTab cs (spV K T (offT fun b => b ∈ cs.map (·.2)) F 1) [.ref a] H (fun v _ => v = .bl true) fun _ _ _ => False := by
  refine ⟨hT, rfl, fun _ => rfl, fun _ => False, [.list (ns.map PyData.int)], rfl, ⟨fun _ z => z.elim, fun b z => ?_⟩, .cons (.lst ?_ (RpA.of_ints ns)) .nil, ?_⟩
  · rcases z with ⟨z, _⟩ | ⟨_, z⟩
    · cases z
    · exact ⟨if_pos z, fun z => z⟩
  · rcases sqL_ext hT hS with r | r
    · exact .inl ⟨fun z => z, r⟩
    · exact .inr r
  · rw [h1]
    intro H' v sm rv
    cases rv
    exact ⟨rfl, fun p hp => sm _ _ (if_pos (List.mem_map.mpr ⟨p, hp, rfl⟩))⟩
/-- the walk; the tables of the defs called xs -/
theorem walk_tabs {l : PySem.W.OpenLaw} {n k : Nat} {q : Program} {loose : List Str} {XP : (Str → Option Value) → Heap → Prop} {YP : World → Heap → Prop} {d : DefRec} {K : Params → PySem.W.Frag} {CX : World → CXT} {x : Str} (xs : List Str)
    (hn : l.most = some n) (hn2 : n ≤ sizeLine) (hdf : d.params.defaults = []) (hr : Room k callerA) (hrec : (xs.all fun x => (recsOf q).any fun e => e.name == x) = true) (hY : ∀ (w : World) (h : Heap), YP w h → (K w.params).In h)
    (F : ∀ (w : World) (mg : Str → Option Value) (fa : Addr) (h : Heap), YP w h → (K w.params).In h → h.Ns mainGlobals mg → mg d.name = some (.ref fa) → (∀ y ∈ xs, ∀ c P, PySem.W.tabIn (K w.params) y = some (c, P) → PySem.W.CodeHd h c P ∧ h.get? P = some { cls := .none, data := .fields #[] }) → LamX.LawAtS l w (K w.params) (CX w) k n x mg fa h)
    (hCX : ∀ (w : World) (H : Hp) (s : Shared) (e : Value) (s' : Shared), CX w [] H s (fun _ _ _ => False) e s' → False) :
    PySem.W.WalkO q loose XP YP l.row.toRowW d [] (fun f vs => PySem.call f vs) := by
  refine Att.attach_callB hn hdf fun w s0 s1 mg mb fa ob pm cd doc av vs ns Gr Y ho hd hcd hmg hobj hin hlen hbits hgn => ?_
  have KX := hY w _ Y
  have tabs : ∀ y ∈ xs, ∀ c P, PySem.W.tabIn (K w.params) y = some (c, P) → PySem.W.CodeHd s1.heap c P ∧ s1.heap.get? P = some { cls := .none, data := .fields #[] } := fun y hy c P e => by
    obtain ⟨dd, hm, hnn⟩ := List.any_eq_true.mp (List.all_eq_true.mp hrec y hy)
    cases hfd : (recsOf q).find? (fun e => e.name == y) with
    | none => exact absurd hnn (by have := List.find?_eq_none.mp hfd dd hm; simpa using this)
    | some d2 => exact PySem.W.tab_of Gr.T KX hfd e
  obtain ⟨fd, cs, sp, hT, nT, C, hb, hsp, hF⟩ := F w mg fa _ Y KX Gr.T.g hmg tabs
  exact LamX.law_callTs KX Gr.T.g Gr.T.b Gr.T.builtins Gr.T.nolimit hgn hT nT C Gr.T.bmain hobj hin (Nat.le_trans hlen hn2) hr hF hb (fun H hH hS => hsp H av ns hlen hbits hH hS) fun H e s' => hCX w H s1 e s'
end Qd
end
section
set_option Elab.async false
set_option linter.all false
set_option maxRecDepth 100000
set_option maxHeartbeats 1000000
/-! list(reversed(x)), x a list. -/
namespace Qd
open PySem PySem.Spec PyProof.Rows L2
section
variable {prog : Program} {w : World} {A : Around} {E : Value → Shared → Prop} {s : Shared}
theorem call_list_rev {it l : Addr} {items : Array Value} {Q : Value → Shared → Prop} (hh : A.handled = none) (hit : s.heap.IsRevIter it l ((items.size : Int) - 1)) (hl : s.heap.IsList l items) (hne : l ≠ it) (hn : items.size ≤ sizeLine)
    (hQ : ∀ (h' : Heap) (tk : Nat) (acc : Array Value) (c : Nat), (∀ b o, b ≠ it → s.heap.get? b = some o → h'.get? b = some o) → h'.get? s.heap.objs.size = some { cls := .type "list", dict := none, data := .seq acc c, slots := #[] } → ItemsOf (fun i v => items[items.size - 1 - i]? = some v) acc items.size →
      Q (.ref s.heap.objs.size) { s with heap := h', toks := tk }) :
    wpAny (model prog w) A (call (.type "list") [.ref it]) Q E s := by
  have W := (Walks.listRev (prog := prog) (w := w) (A := A.in1.in1) hh it l hne items).toS
  obtain ⟨oi, hoi, _⟩ := id hit
  obtain ⟨ol, hol, _⟩ := id hl
  have hSi : s.heap.objs.size ≠ it := Nat.ne_of_gt (Heap.lt_size hoi)
  have hSl : s.heap.objs.size ≠ l := Nat.ne_of_gt (Heap.lt_size hol)
  have hSf : s.heap.objs.size ∉ [it, l] := by simp only [List.mem_cons, List.not_mem_nil, or_false, not_or]; exact ⟨hSi, hSl⟩
  refine callType_codes (Q₁ := fun obj s₁ => obj = .ref s.heap.objs.size ∧ s₁ = { s with heap := s.heap.push { cls := .type "list", data := .seq #[] } }) F.called_list (F.typeCall_list_1 _) F.entry_list_init
    (code_list_new _ ⟨rfl, rfl⟩) fun obj s₁ h₁ => ?_
  obtain ⟨rfl, rfl⟩ := h₁
  have hS : (s.heap.push { cls := .type "list", data := .seq #[] }).get? s.heap.objs.size = some { cls := .type "list", data := .seq #[] } := Heap.get?_push_size _ rfl
  refine ⟨⟨_, hS, rfl⟩, F.args_list_init_2 _ _, ?_⟩
  show wpAny _ A.in1.in1 (do let old ← Builtin.List.listItems (.ref s.heap.objs.size); Builtin.List.listUpdate (.ref s.heap.objs.size) (fun _ => #[]); letGo old.toList.reverse; Builtin.List.listExtendWith (.ref s.heap.objs.size) (.ref it) .none) _ _ _
  refine wpAny_bind ?_
  unfold Builtin.List.listItems
  refine wpAny_bind (wpAny_seqItems hS rfl (wpAny_pure ?_))
  show wpAny _ A.in1.in1 (updateSeq s.heap.objs.size (fun _ => #[]) >>= fun _ => letGo (#[] : Array Value).toList.reverse >>= fun _ => Builtin.List.listExtendWith (.ref s.heap.objs.size) (.ref it) .none) _ _ _
  refine wpAny_bind (wpAny_updateSeq hS rfl ?_)
  have hS2 := Heap.get?_update_self (Obj.mapSeq (fun _ => (#[] : Array Value))) hS rfl
  refine wpAny_bind (wpAny_letGo ?_)
  have k1 : ∀ b o, s.heap.get? b = some o → ((s.heap.push { cls := .type "list", data := .seq #[] }).update s.heap.objs.size (Obj.mapSeq (fun _ => (#[] : Array Value)))).get? b = some o := fun b o e =>
    (Heap.get?_update_other _ _ (Ne.symm (Nat.ne_of_lt (Heap.lt_size e)))).trans (Heap.get?_push_of_some _ e)
  have hit1 := hit.at fun o e => k1 it o e
  have hl1 : ((s.heap.push { cls := .type "list", data := .seq #[] }).update s.heap.objs.size (Obj.mapSeq (fun _ => (#[] : Array Value)))).IsList l items := let ⟨o, a, b⟩ := hl; ⟨o, k1 l o a, b⟩
  have hT := Heap.IsRevIter.typeIs (s := { s with heap := (s.heap.push { cls := .type "list", data := .seq #[] }).update s.heap.objs.size (Obj.mapSeq (fun _ => (#[] : Array Value))) }) hit1
  have h1 : Builtin.List.listSameRef (.ref s.heap.objs.size) (.ref it) = false := by simp [Builtin.List.listSameRef, hSi]
  unfold Builtin.List.listExtendWith
  refine wpAny_bind (wpAny_typeOf hT ?_)
  rw [if_neg (by rw [h1]; decide)]
  refine wpAny_bind (wpAny_pyIter_revIter (s := { s with heap := _ }) hit1 ?_)
  refine wpAny_bind (wpAny_holding ?_)
  unfold Builtin.List.listLengthHint
  refine wpAny_bind (wpAny_specialOf hT RT.nolen_lri ?_)
  show wpAny _ A.in1.in1 (specialOf (Value.ref it) (Str.ofString "__length_hint__") >>= _) _ _ _
  refine wpAny_bind (wpAny_specialOf hT RT.hint_lri ?_)
  generalize hid : ("list_reverseiterator.__length_hint__" : String) = id0
  wp_delta
  rw [show splitId id0 = some ("list_reverseiterator", "__length_hint__") from by subst hid; decide +kernel]
  subst hid
  refine wpAny_bind (wpAny_isInstance (b := true) hT (by rw [isSubtype_type]; kernel_rfl) ?_)
  refine wpAny_pure ?_
  rw [if_neg (by decide)]
  have e0 : ((items.size : Nat) : Int) - 1 - ((0 : Nat) : Int) = (items.size : Int) - 1 := by omega
  refine wpAny_pure ⟨plainId_quiet F.plain_extend_loop _, codeAny_extend_loopS (A := A.in1) W hn _ hSf _ items.size 0 _ _ _ rfl (Nat.zero_le _) ⟨Nat.zero_le _, by rw [e0]; exact hit1, hl1⟩ hS2 (ItemsOf.nil _) fun s' acc' c' hm hS' hacc => ?_⟩
  rw [Moved.eq_with hm]
  refine ⟨rfl, hQ s'.heap s'.toks acc' c' (fun b o hb e => hm.heap b o (fun hmem => ?_) (k1 b o e)) hS' hacc⟩
  rcases List.mem_cons.mp hmem with e' | hmem
  · exact absurd (Heap.lt_size e) (by rw [e']; exact Nat.lt_irrefl _)
  · exact hb (List.mem_singleton.mp hmem)
end
/-! ### list(reversed(x)) -/
def tListRev (K : PySem.W.Frag) (te : TE) : TE := fun σ H Q => te σ H fun v H1 => ∃ (a : Addr) (xs : List V), v = .ref a ∧ SqL K H1 a xs ∧ ∀ q, H1 q = none → Q (.ref q) (upd H1 q (.lst xs.reverse))
section
variable {X : Cx} {Y : Yx}
theorem pe_listRev {e : Expr} {te : TE} {p p2 pos pos2 : Pos} (hc : X.calm = true) (hm : X.mg "list" = none) (hm2 : X.mg "reversed" = none) (he : PE X e te) (hg : Gl X "list" := by rfl) (hg2 : Gl X "reversed" := by rfl)
    (hs : starEach [e] X.env = (false, eval e X.env) :: starEach [] X.env := by rfl)
    (hs2 : starEach [.Call (.Name "reversed" p2) [e] [] pos2] X.env = (false, eval (.Call (.Name "reversed" p2) [e] [] pos2) X.env) :: starEach [] X.env := by rfl) :
    PE X (.Call (.Name "list" p) [.Call (.Name "reversed" p2) [e] [] pos2] [] pos) (tListRev X.K te) := by
  refine ⟨fun pins s σ H Q I h => ?_⟩
  refine Call_ (ld_blt I hg hm (by decide +kernel : bootBuiltins "list" = some (.type "list")) (PyProof.Rows.callWith_type1 (args_cons (Call_ (ld_blt I hg2 hm2 PyProof.Rows.boot_reversed (PyProof.Rows.callWith_type1 (args_cons (thn (he.run pins s σ H _ I h) fun u s1 ⟨v, H1, I1, r1, q1⟩ => args_nil ?_) hs) hs rfl))) hs2) hs2 rfl))
  obtain ⟨a, xs, ev, hq, q⟩ := q1
  subst ev
  obtain rfl : u = Value.ref a := r1
  obtain ⟨its, rv, p', hz⟩ := I1.list hq
  refine call_reversed_list p'.isList (args_nil ?_)
  have k0 : ∀ b o, s1.heap.get? b = some o → (s1.heap.push (revObj a ((its.toArray.size : Int) - 1))).get? b = some o := fun b o e => Heap.get?_push_of_some _ e
  have I2 : Inv X pins σ H1 { s1 with heap := s1.heap.push (revObj a ((its.toArray.size : Int) - 1)) } := I1.kept (t' := s1.toks) k0
  obtain ⟨f0, f1, f2, f3, f4, f5⟩ := I1.fpOk (H' := H1) (b := s1.heap.objs.size) (Nat.le_refl _) (I1.hok.fresh (Nat.le_refl _))
  have hl := p'.isList
  obtain ⟨ol, hol, _⟩ := id hl
  have hne : a ≠ s1.heap.objs.size := Nat.ne_of_lt (Heap.lt_size hol)
  have hn : its.toArray.size ≤ sizeLine := by rw [List.size_toArray, ← rv.length]; exact hz
  refine call_list_rev (s := { s1 with heap := s1.heap.push (revObj a ((its.toArray.size : Int) - 1)) }) (I1.ok.hd hc) ⟨_, Heap.get?_push_size _ rfl, rfl, rfl⟩ (hl.push _) hne hn fun h' tk acc c hk hS hi => ?_
  have I3 : Inv X pins σ H1 { s1 with heap := h', toks := tk } := I2.turned (t' := tk) (fun b o hb e => hk b o hb e) f0 f1 f3 f4 f5
  generalize hSg : (s1.heap.push (revObj a ((its.toArray.size : Int) - 1))).objs.size = S at hS ⊢
  have hS0 : H1 S = none := I2.hok.fresh (Nat.le_of_eq hSg)
  refine ⟨.ref S, upd H1 S (.lst xs.reverse), ?_, rfl, q S hS0⟩
  refine I2.drained (ex := [s1.heap.objs.size]) (out := xs.reverse) (Nat.le_of_eq hSg) (by rw [List.length_reverse]; exact hz) hS (RT.vals_rev rv hi) (fun b hb => ?_) rfl I3.bare ?_ I3.hok hS0
  · rw [List.mem_singleton.mp hb]; exact ⟨f3, f1, f4, f5⟩
  · have nb : ∀ b, b ∉ [s1.heap.objs.size] → b ≠ s1.heap.objs.size := fun b hb z => hb (by rw [z]; exact List.mem_singleton.mpr rfl)
    exact ⟨fun b o e _ _ hx => hk b o (nb b hx) e, fun b o e _ _ hx => ⟨o.slots, hk b o (nb b hx) e⟩, fun _ _ _ n _ => n, fun b o e hx => ⟨o, hk b o (nb b hx) e⟩, fun _ _ e => e, fun _ _ _ e => e, fun _ ps e => ⟨#[], by rw [e]; simp⟩⟩
def mListRev (a : M W) : M W := fun d => (a d).bind fun w d1 => match w with
  | .list ws => .ok (.list ws.reverse) d1
  | _ => .bad
theorem df_listRev {pu : Bool} {e : Expr} {p p2 pos pos2 : Pos} {m : M W} (hc : X.calm = true) (hm : X.mg "list" = none) (hm2 : X.mg "reversed" = none) (he : DE X Y pu e m) (hg : Gl X "list" := by rfl) (hg2 : Gl X "reversed" := by rfl)
    (hs : starEach [e] X.env = (false, eval e X.env) :: starEach [] X.env := by rfl)
    (hs2 : starEach [.Call (.Name "reversed" p2) [e] [] pos2] X.env = (false, eval (.Call (.Name "reversed" p2) [e] [] pos2) X.env) :: starEach [] X.env := by rfl) :
    DF X Y pu (.Call (.Name "list" p) [.Call (.Name "reversed" p2) [e] [] pos2] [] pos) (mListRev m) := ⟨by
  refine pe_weak (pe_listRev hc hm hm2 he.pe hg hg2 hs hs2) fun σ H Q h => ?_
  obtain ⟨Oc, d, rs, h⟩ := h
  refine ⟨Oc, d, rs, (Po.bind1 h).imp fun w d1 H1 g1 h1 v r => ?_⟩
  cases r with
  | lst l r =>
    refine ⟨_, _, rfl, l.sq, fun q np => ?_⟩
    exact h1 _ (.same g1.rs (same_new np)) q (g1.free np) (g1.rs.withNew np) ⟨_, upd_same, (RpA.reverse r).mono (ke_new np) fun _ _ z => z⟩
  | _ => exact h1.elim⟩
/-! ### more that is walked -/
theorem wk_rev {K : PySem.W.Frag} {Ex : Addr → Nat → Prop} {a : Addr} {ws : List W} : Wk K Ex (Itv K a ws.length) (fun O H => ∃ xs, LAt K O H a xs ∧ RpA K Ex O H xs ws) ws.reverse where
  keep := fun O H O' H' k ⟨xs, l, r⟩ => ⟨xs, l.mono k, r.mono k fun _ _ z => z⟩
  go := fun O H i ⟨xs, l, r⟩ hi => by
    rw [List.length_reverse] at hi
    have : ws.length - 1 - i < xs.length := by rw [r.length]; omega
    exact ⟨hi, xs, xs[ws.length - 1 - i], l.sq, List.getElem?_eq_getElem this⟩
  yld := fun O H i x H' _ ⟨xs, l, r⟩ ⟨e, y⟩ => by
    subst e
    refine ⟨.refl _, fun w hw => ?_⟩
    obtain ⟨lt, _⟩ := List.getElem?_eq_some_iff.mp hw
    rw [List.length_reverse] at lt
    rw [List.getElem?_reverse lt] at hw
    obtain ⟨v, hv, rv⟩ := r.get hw
    rw [y xs l.sq] at hv
    cases hv
    exact rv
  stop := fun O H i _ hi => by rw [List.length_reverse] at hi; exact hi
theorem wk_revT {K : PySem.W.Frag} {Ex : Addr → Nat → Prop} {a : Addr} {ws : List W} : Wk K Ex (RT.ItvT K a ws.length) (fun O H => ∃ xs, TAt K Ex O H a xs ∧ RpA K Ex O H xs ws) ws.reverse where
  keep := fun O H O' H' k ⟨xs, l, r⟩ => ⟨xs, l.mono k (fun _ _ z => z), r.mono k fun _ _ z => z⟩
  go := fun O H i ⟨xs, l, r⟩ hi => by
    rw [List.length_reverse] at hi
    have : ws.length - 1 - i < xs.length := by rw [r.length]; omega
    exact ⟨hi, xs, xs[ws.length - 1 - i], l.sq, List.getElem?_eq_getElem this⟩
  yld := fun O H i x H' _ ⟨xs, l, r⟩ ⟨e, y⟩ => by
    subst e
    refine ⟨.refl _, fun w hw => ?_⟩
    obtain ⟨lt, _⟩ := List.getElem?_eq_some_iff.mp hw
    rw [List.length_reverse] at lt
    rw [List.getElem?_reverse lt] at hw
    obtain ⟨v, hv, rv⟩ := r.get hw
    rw [y xs l.sq] at hv
    cases hv
    exact rv
  stop := fun O H i _ hi => by rw [List.length_reverse] at hi; exact hi
def mItRev (a : M W) : M (List W) := fun d => (a d).bind fun w d1 => (ofOpt (itemsOf w) d1).bind fun ws d2 => .ok ws.reverse d2
theorem di_rev {pu : Bool} {tg e : Expr} {p pos : Pos} {m : M W} (hm : X.mg "reversed" = none) (h : DE X Y pu e m) (hg : Gl X "reversed" := by rfl) (hs : starEach [e] X.env = (false, eval e X.env) :: starEach [] X.env := by rfl) : DI X Y pu tg (.Call (.Name "reversed" p) [e] [] pos) (mItRev m) := by
  refine ⟨_, RT.pi_revA hg hm h.pe hs, fun σ H R h => ?_⟩
  obtain ⟨Oc, d, rs, h⟩ := h
  refine ⟨Oc, d, rs, (Po.bind1 h).imp fun w d1 H1 g1 h1 v r => ?_⟩
  cases r with
  | lst l r => exact ⟨_, _, rfl, .inl ⟨l.sq, by rw [r.length]; exact h1 H1 (.refl g1.rs) _ _ wk_rev ⟨_, l, r⟩⟩⟩
  | tup l r => exact ⟨_, _, rfl, .inr ⟨l.sq, by rw [r.length]; exact h1 H1 (.refl g1.rs) _ _ wk_revT ⟨_, l, r⟩⟩⟩
  | _ => exact h1.elim
def rangeC (lo c : Int) (n : Nat) : List W := (List.range n).map fun (i : Nat) => PyData.int (lo + (i : Int) * c)
theorem rangeC_length (lo c : Int) (n : Nat) : (rangeC lo c n).length = n := by unfold rangeC; simp
theorem wk_rangeC {K : PySem.W.Frag} {Ex : Addr → Nat → Prop} {lo c : Int} {n : Nat} : Wk K Ex (Itc lo c n) (fun _ _ => True) (rangeC lo c n) where
  keep := fun _ _ _ _ _ _ => trivial
  go := fun O H i _ hi => by rw [rangeC_length] at hi; exact hi
  yld := fun O H i x H' _ _ ⟨e, y⟩ => by
    subst e
    refine ⟨.refl _, fun w hw => ?_⟩
    unfold rangeC at hw
    rw [List.getElem?_map] at hw
    cases q : (List.range n)[i]? with
    | none => rw [q] at hw; cases hw
    | some j =>
      rw [q] at hw
      obtain ⟨hj, e⟩ := List.getElem?_eq_some_iff.mp q
      rw [List.getElem_range] at e
      subst e
      cases hw
      rw [y]
      exact .int _
  stop := fun O H i _ hi => by rw [rangeC_length] at hi; exact hi
noncomputable def range3? : List W → Option (List W)
  | [.int i, .int j, .int c] => if cdec (∃ n, RgC i j c n) = true then some (rangeC i c (Builtin.Range.rangeSize i j c).toNat) else none
  | _ => none
noncomputable def mRng3 (a : M (List W)) : M (List W) := fun d => (a d).bind fun w d1 => ofOpt (range3? w) d1
theorem di_range3 {pu : Bool} {tg a b c : Expr} {p pos : Pos} {m : M (List W)} (hm : X.mg "range" = none) (ha : DL X Y pu [a, b, c] m) (hg : Gl X "range" := by rfl)
    (hs : starEach [a, b, c] X.env = (false, eval a X.env) :: starEach [b, c] X.env := by rfl) (hpl : (backTo pos (starEach [b, c] X.env)).any (·.1) = false := by rfl) : DI X Y pu tg (.Call (.Name "range" p) [a, b, c] [] pos) (mRng3 m) := by
  refine ⟨_, pi_range3 hg hm ha.pa hs hpl, fun σ H R h => ?_⟩
  obtain ⟨Oc, d, rs, h⟩ := h
  refine ⟨Oc, d, rs, (Po.bind1 h).imp fun w d1 H1 g1 h1 v r => ?_⟩
  obtain ⟨ws, ew, k⟩ := Po.opt h1
  unfold range3? at ew
  split at ew
  · rename_i i j c
    split at ew
    · rename_i z
      obtain ⟨n, hn⟩ := cdec_iff.mp z
      cases ew
      have en : (Builtin.Range.rangeSize i j c).toNat = n := by have := hn.2.2.2; omega
      rw [en] at k
      cases r with
      | cons r1 r =>
        obtain ⟨u2, u3, rfl, r2, r3⟩ := rpA2 r
        exact ⟨i, j, c, n, by rw [rp_int r1, rp_int r2, rp_int r3], hn, k H1 (.refl g1.rs) _ _ wk_rangeC trivial⟩
    · cases ew
  · cases ew
/-! ### enumerate, zip -/
def enumW : Nat → List W → List W
  | _, [] => []
  | k, w :: r => .tuple [.int (k : Int), w] :: enumW (k + 1) r
theorem enumW_length : ∀ (k : Nat) (ws : List W), (enumW k ws).length = ws.length
  | _, [] => rfl
  | k, w :: r => by unfold enumW; rw [List.length_cons, List.length_cons, enumW_length]
theorem enumW_get : ∀ {k : Nat} {ws : List W} {i : Nat} {u : W}, (enumW k ws)[i]? = some u → ∃ w, ws[i]? = some w ∧ u = .tuple [.int ((k + i : Nat) : Int), w]
  | _, [], _, _, h => by cases h
  | k, w :: r, 0, u, h => by cases h; exact ⟨w, rfl, rfl⟩
  | k, w :: r, i + 1, u, h => by
    obtain ⟨w', h1, h2⟩ := enumW_get (k := k + 1) (ws := r) (i := i) h
    exact ⟨w', h1, by rw [h2, show k + 1 + i = k + (i + 1) by omega]⟩
def zipW : List W → List W → List W
  | a :: r, b :: t => .tuple [a, b] :: zipW r t
  | _, _ => []
theorem zipW_get : ∀ {as bs : List W} {i : Nat} {u : W}, (zipW as bs)[i]? = some u → ∃ a b, as[i]? = some a ∧ bs[i]? = some b ∧ u = .tuple [a, b]
  | [], _, _, _, h => by unfold zipW at h; cases h
  | a :: r, [], _, _, h => by unfold zipW at h; cases h
  | a :: r, b :: t, 0, u, h => by cases h; exact ⟨a, b, rfl, rfl, rfl⟩
  | a :: r, b :: t, i + 1, u, h => by
    obtain ⟨x, y, h1, h2, h3⟩ := zipW_get (as := r) (bs := t) (i := i) h
    exact ⟨x, y, h1, h2, h3⟩
theorem zipW_length : ∀ (as bs : List W), (zipW as bs).length = min as.length bs.length
  | [], _ => by unfold zipW; simp
  | a :: r, [] => by unfold zipW; simp
  | a :: r, b :: t => by unfold zipW; rw [List.length_cons, zipW_length, List.length_cons, List.length_cons]; omega
theorem new_tup {K : PySem.W.Frag} {Ex : Addr → Nat → Prop} {O : Addr → Prop} {H : Hp} {T : Addr} {xs : List V} {ws : List W} (hO : ∀ a, O a → ∃ o, H a = some o) (hT : H T = none) (r : RpA K Ex O H xs ws) : Rp K Ex O (upd H T (.tup xs)) (.ref T) (.tuple ws) := by
  have sm : Same H (upd H T (.tup xs)) := same_new hT
  exact .tup (.inl ⟨fun z => (by obtain ⟨o, e⟩ := hO T z; rw [hT] at e; cases e), upd_same⟩) (r.mono (fun a u n e => ⟨n, sm a u e⟩) fun _ _ z => z)
theorem wk_enum {K : PySem.W.Frag} {Ex : Addr → Nat → Prop} {a : Addr} {ws : List W} : Wk K Ex (Ite K a) (fun O H => ∃ xs, LAt K O H a xs ∧ RpA K Ex O H xs ws) (enumW 0 ws) where
  keep := fun O H O' H' k ⟨xs, l, r⟩ => ⟨xs, l.mono k, r.mono k fun _ _ z => z⟩
  go := fun O H i ⟨xs, l, r⟩ hi => by
    rw [enumW_length] at hi
    have : i < xs.length := by rw [r.length]; exact hi
    exact ⟨xs, xs[i], l.sq, List.getElem?_eq_getElem this⟩
  yld := fun O H i x H' hO ⟨xs, l, r⟩ ⟨T, y, e, hT, eH, hy⟩ => by
    subst eH
    refine ⟨same_new hT, fun w hw => ?_⟩
    obtain ⟨w', h1, rfl⟩ := enumW_get hw
    obtain ⟨v, hv, rv⟩ := r.get h1
    rw [hy xs l.sq] at hv
    cases hv
    subst e
    rw [Nat.zero_add]
    exact new_tup hO hT (.cons (.int _) (.cons rv .nil))
  stop := fun O H i ⟨xs, l, r⟩ hi => ⟨xs, l.sq, by rw [r.length]; rw [enumW_length] at hi; exact hi⟩
def mEnum (a : M (List W)) : M (List W) := fun d => (a d).bind fun ws d1 => match ws with
  | [.list us] => .ok (enumW 0 us) d1
  | _ => .bad
theorem di_enum {pu : Bool} {e : Expr} {elts : List Expr} {kk : Nat} {p pos tpos : Pos} {m : M (List W)} (hm : X.mg "enumerate" = none) (h : DL X Y pu [e] m) (hg : Gl X "enumerate" := by rfl) (hs : starEach [e] X.env = [(false, eval e X.env)] := by rfl) : DI X Y pu (.Tuple elts kk tpos) (.Call (.Name "enumerate" p) [e] [] pos) (mEnum m) := by
  refine ⟨_, pi_enum hg hm h.pa hs, fun σ H R h => ?_⟩
  obtain ⟨Oc, d, rs, h⟩ := h
  refine ⟨Oc, d, rs, (Po.bind1 h).imp fun ws d1 H1 g1 h1 vs ra => ?_⟩
  split at h1
  · obtain ⟨v, rfl, r⟩ := rpA1 ra
    cases r with
    | lst l r => exact ⟨_, _, rfl, l.sq, h1 H1 (.refl g1.rs) _ _ wk_enum ⟨_, l, r⟩⟩
  · exact h1.elim
theorem wk_zip {K : PySem.W.Frag} {Ex : Addr → Nat → Prop} {a b : Addr} {as bs : List W} : Wk K Ex (Itz K a b) (fun O H => ∃ xs ys, LAt K O H a xs ∧ RpA K Ex O H xs as ∧ LAt K O H b ys ∧ RpA K Ex O H ys bs) (zipW as bs) where
  keep := fun O H O' H' k ⟨xs, ys, l, r, l2, r2⟩ => ⟨xs, ys, l.mono k, r.mono k fun _ _ z => z, l2.mono k, r2.mono k fun _ _ z => z⟩
  go := fun O H i ⟨xs, ys, l, r, l2, r2⟩ hi => by
    rw [zipW_length] at hi
    have h1 : i < xs.length := by rw [r.length]; omega
    have h2 : i < ys.length := by rw [r2.length]; omega
    exact ⟨xs, ys, xs[i], ys[i], l.sq, l2.sq, List.getElem?_eq_getElem h1, List.getElem?_eq_getElem h2⟩
  yld := fun O H i x H' hO ⟨xs, ys, l, r, l2, r2⟩ ⟨T, y1, y2, e, hT, eH, hy, hz⟩ => by
    subst eH
    refine ⟨same_new hT, fun w hw => ?_⟩
    obtain ⟨u1, u2, h1, h2, rfl⟩ := zipW_get hw
    obtain ⟨v1, hv1, rv1⟩ := r.get h1
    obtain ⟨v2, hv2, rv2⟩ := r2.get h2
    rw [hy xs l.sq] at hv1
    rw [hz ys l2.sq] at hv2
    cases hv1; cases hv2
    subst e
    exact new_tup hO hT (.cons rv1 (.cons rv2 .nil))
  stop := fun O H i ⟨xs, ys, l, r, l2, r2⟩ hi => ⟨xs, ys, l.sq, l2.sq, by rw [r.length, r2.length]; rw [zipW_length] at hi; omega⟩
theorem wk_zipT {K : PySem.W.Frag} {Ex : Addr → Nat → Prop} {a b : Addr} {as bs : List W} : Wk K Ex (RZ.ItzT K a b) (fun O H => ∃ xs ys, TAt K Ex O H a xs ∧ RpA K Ex O H xs as ∧ TAt K Ex O H b ys ∧ RpA K Ex O H ys bs) (zipW as bs) where
  keep := fun O H O' H' k ⟨xs, ys, l, r, l2, r2⟩ => ⟨xs, ys, l.mono k (fun _ _ z => z), r.mono k fun _ _ z => z, l2.mono k (fun _ _ z => z), r2.mono k fun _ _ z => z⟩
  go := fun O H i ⟨xs, ys, l, r, l2, r2⟩ hi => by
    rw [zipW_length] at hi
    have h1 : i < xs.length := by rw [r.length]; omega
    have h2 : i < ys.length := by rw [r2.length]; omega
    exact ⟨xs, ys, xs[i], ys[i], l.sq, l2.sq, List.getElem?_eq_getElem h1, List.getElem?_eq_getElem h2⟩
  yld := fun O H i x H' hO ⟨xs, ys, l, r, l2, r2⟩ ⟨T, y1, y2, e, hT, eH, hy, hz⟩ => by
    subst eH
    refine ⟨same_new hT, fun w hw => ?_⟩
    obtain ⟨u1, u2, h1, h2, rfl⟩ := zipW_get hw
    obtain ⟨v1, hv1, rv1⟩ := r.get h1
    obtain ⟨v2, hv2, rv2⟩ := r2.get h2
    rw [hy xs l.sq] at hv1
    rw [hz ys l2.sq] at hv2
    cases hv1; cases hv2
    subst e
    exact new_tup hO hT (.cons rv1 (.cons rv2 .nil))
  stop := fun O H i ⟨xs, ys, l, r, l2, r2⟩ hi => ⟨xs, ys, l.sq, l2.sq, by rw [r.length, r2.length]; rw [zipW_length] at hi; omega⟩
def mZip (a : M (List W)) : M (List W) := fun d => (a d).bind fun ws d1 => match ws with
  | [.list us, .list ts] => .ok (zipW us ts) d1
  | [.tuple us, .tuple ts] => .ok (zipW us ts) d1
  | _ => .bad
theorem di_zip {pu : Bool} {e e2 : Expr} {elts : List Expr} {kk : Nat} {p pos tpos : Pos} {m : M (List W)} (hm : X.mg "zip" = none) (h : DL X Y pu [e, e2] m) (hg : Gl X "zip" := by rfl) (hs : starEach [e, e2] X.env = (false, eval e X.env) :: starEach [e2] X.env := by rfl) (hpl : (backTo pos (starEach [e2] X.env)).any (·.1) = false := by rfl) :
    DI X Y pu (.Tuple elts kk tpos) (.Call (.Name "zip" p) [e, e2] [] pos) (mZip m) := by
  refine ⟨_, RZ.pi_zipA hg hm h.pa hs hpl, fun σ H R h => ?_⟩
  obtain ⟨Oc, d, rs, h⟩ := h
  refine ⟨Oc, d, rs, (Po.bind1 h).imp fun ws d1 H1 g1 h1 vs ra => ?_⟩
  split at h1
  · obtain ⟨v, v2, rfl, r, r2⟩ := rpA2 ra
    cases r with
    | lst l r =>
      cases r2 with
      | lst l2 r2 => exact ⟨_, _, _, _, rfl, .inl ⟨l.sq, l2.sq, h1 H1 (.refl g1.rs) _ _ wk_zip ⟨_, _, l, r, l2, r2⟩⟩⟩
  · obtain ⟨v, v2, rfl, r, r2⟩ := rpA2 ra
    cases r with
    | tup l r =>
      cases r2 with
      | tup l2 r2 => exact ⟨_, _, _, _, rfl, .inr ⟨l.sq, l2.sq, h1 H1 (.refl g1.rs) _ _ wk_zipT ⟨_, _, l, r, l2, r2⟩⟩⟩
  · exact h1.elim
/-! ### *x in a display -/
def mStar (a : M W) (r : M (List W)) : M (List W) := fun d => (a d).bind fun w d1 => (ofOpt (itemsOf w) d1).bind fun us d2 => (r d2).bind fun ws d3 => .ok (us ++ ws) d3
theorem dl_star {pa pb : Bool} {e : Expr} {es : List Expr} {p : Pos} {a : M W} {r : M (List W)} (ha : DE X Y pa e a) (hr : DL X Y pb es r) (hs : starEach (.Starred e p :: es) X.env = (true, eval e X.env) :: starEach es X.env := by rfl) : DL X Y (pa && pb) (.Starred e p :: es) (mStar a r) := ⟨by
  refine pa_weak (StX.pa_star ha.pe hr.pa hs) fun σ H Q h => ?_
  obtain ⟨Oc, d, rs, h⟩ := h
  refine ⟨Oc, d, rs, (Po.bind h).imp fun w d1 H1 g1 h1 v r1 => ?_⟩
  have main : ∀ {us : List W} {xs : List V}, itemsOf w = some us → RpA X.K Y.Ex (Ow Oc d1 σ) H1 xs us → tL X Y pb r σ H1 fun ys H2 => Q (xs ++ ys) H2 := fun {us xs} e ra => by
    rw [e] at h1
    have h1 : Po X Y pb Oc σ d1 H1 ((r d1).bind fun ws d3 => .ok (us ++ ws) d3) _ := h1
    exact ⟨Oc, d1, g1.rs, (Po.bind1 h1).imp fun w2 d2 H2 g2 h2 v2 r2 => h2 H2 (.refl g2.rs) (xs ++ v2) ((g2.rpA ra).append r2)⟩
  cases r1 with
  | lst l r1 => exact ⟨_, _, rfl, .inr l.sq, main rfl r1⟩
  | tup l r1 => exact ⟨_, _, rfl, .inl l.sq, main rfl r1⟩
  | _ => exact h1.elim⟩
end
end Qd
end
section
set_option Elab.async false
set_option linter.all false
set_option maxRecDepth 100000
set_option maxHeartbeats 1000000
/-! sorted(a list), by data. -/
namespace Qd
open PySem PySem.Spec PyProof.Rows L2
def sortableB (ds : List W) : Bool := (ds.all fun d => match d with
  | .tuple (_ :: _) => true
  | _ => false) || ds.all fun d => match d with
  | .tuple _ => false
  | .none => false
  | _ => true
theorem sortable_of {ds : List W} (h : sortableB ds = true) : PySem.W.Sortable ds := by
  unfold sortableB at h
  rw [Bool.or_eq_true, List.all_eq_true, List.all_eq_true] at h
  rcases h with h | h
  · refine .inl fun d hd => ?_
    have z := h d hd
    split at z
    · exact ⟨_, _, rfl⟩
    · cases z
  · refine .inr fun d hd => ?_
    have z := h d hd
    split at z
    · cases z
    · cases z
    · rename_i n1 n2
      exact ⟨n2, n1⟩
def sortP (ps : List (V × W)) : List (V × W) := ps.mergeSort (PySem.W.dataLe false fun p => p.2)
def sortW (ds : List W) : List W := ds.mergeSort (PySem.W.dataLe false fun d => d)
theorem sortP_snd (ps : List (V × W)) : (sortP ps).map (·.2) = sortW (ps.map (·.2)) := List.map_mergeSort fun _ _ _ _ => rfl
theorem sortP_mem {ps : List (V × W)} {p : V × W} (h : p ∈ sortP ps) : p ∈ ps := (List.mergeSort_perm _ _).mem_iff.mp h
theorem zip_snd {α β : Type} : ∀ {as : List α} {bs : List β}, as.length = bs.length → (as.zip bs).map (·.2) = bs
  | [], [], _ => rfl
  | a :: r, b :: t, h => by rw [List.zip_cons_cons, List.map_cons, zip_snd (by simpa using h)]
theorem RpA.zip {K : PySem.W.Frag} {Ex : Addr → Nat → Prop} {O : Addr → Prop} {H : Hp} : ∀ {vs : List V} {ws : List W}, RpA K Ex O H vs ws → ∀ p ∈ vs.zip ws, Rp K Ex O H p.1 p.2
  | _, _, .nil, p, h => by cases h
  | _, _, .cons a b, p, h => by
    rw [List.zip_cons_cons] at h
    rcases List.mem_cons.mp h with rfl | h
    · exact a
    · exact RpA.zip b p h
theorem RpA.of_pairs {K : PySem.W.Frag} {Ex : Addr → Nat → Prop} {O : Addr → Prop} {H : Hp} : ∀ {ps : List (V × W)}, (∀ p ∈ ps, Rp K Ex O H p.1 p.2) → RpA K Ex O H (ps.map (·.1)) (ps.map (·.2))
  | [], _ => .nil
  | p :: r, h => .cons (h p List.mem_cons_self) (RpA.of_pairs fun q hq => h q (List.mem_cons_of_mem _ hq))
theorem vals_pairs : ∀ {out : List Value} {ps : List (V × W)}, PySem.W.EachIs (fun v (b : V × W) => RelV b.1 v) out ps → Vals (ps.map (·.1)) out
  | _, _, .nil => .nil
  | _, _, .cons a b => .cons a (vals_pairs b)
theorem pairs_vals : ∀ {ys : List V} {its : List Value} {ds : List W}, Vals ys its → ys.length = ds.length → PySem.W.EachIs (fun v (b : V × W) => RelV b.1 v) its (ys.zip ds)
  | _, _, [], .nil, _ => .nil
  | _, _, d :: r, .cons a b, h => .cons a (pairs_vals b (by simpa using h))
  | _, _, _ :: _, .nil, h => by cases h
  | _, _, [], .cons _ _, h => by cases h
theorem pairs_reads {h : Heap} : ∀ {ys : List V} {its : List Value} {ds : List W} {as : List Addr}, Vals ys its → ReadsAll h its ds as → PySem.W.EachIs (fun v (b : V × W) => ∃ as, Reads h v b.2 as) its (ys.zip ds)
  | _, _, _, _, .nil, .nil => .nil
  | _, _, _, _, .cons _ b, .cons r s => .cons ⟨_, r⟩ (pairs_reads b s)
theorem depth_mem : ∀ {ds : List W} {d : W}, d ∈ ds → d.depth ≤ PyData.depthAll ds
  | x :: r, d, h => by
    unfold PyData.depthAll
    rcases List.mem_cons.mp h with rfl | h
    · omega
    · have := depth_mem h; omega
section
variable {X : Cx} {Y : Yx}
theorem cr_sortD (hu : X.A.units + 66 < cLine) : CallR X (.builtin "sorted") (fun vs H Q => ∃ (a : Addr) (ys : List V) (ds : List W), vs = [.ref a] ∧ SqL X.K H a ys ∧ DpAll X.K H ys ds ∧ SeqAt.shaped (.list ds) = true ∧ PySem.W.AllAlike ds ∧ PySem.W.Sortable ds ∧ ∀ q, H q = none → Q (.ref q) (upd H q (.lst ((sortP (ys.zip ds)).map (·.1))))) := by
  intro pins s σ H vs us Q I r h
  obtain ⟨a, ys, ds, rfl, hs, hd, hsh, hal, hso, q⟩ := h
  obtain ⟨its, rv, hl, hz⟩ := I.list hs
  obtain ⟨as, ra⟩ := Dp.readsAll I ds ys its hd rv
  rw [Vals.ref1 r]
  have hlen : ys.length = ds.length := by rw [rv.length]; exact PySem.W.readsAll_len ra
  have es : (ys.zip ds).map (fun p : V × W => p.2) = ds := zip_snd hlen
  have dep : PyData.depthAll ds + 1 ≤ 64 := by
    have z := SeqAt.depth_of_shaped hsh
    have e : (PyData.list ds).depth = PyData.depthAll ds + 1 := by simp only [PyData.depth]
    omega
  have dm : ∀ d ∈ ds, d.depth ≤ PyData.depthAll ds := fun d hd => depth_mem hd
  refine PySem.W.sorted_data (R := fun v (b : V × W) => RelV b.1 v) (enc := fun b : V × W => b.2) hl.isList (pairs_vals rv hlen) (pairs_reads rv ra) (by rw [es]; exact hal) (by rw [es]; exact hso) (by rw [List.length_zip]; omega) (fun b hb => ?_) fun out h1 h2 => ?_
  · have hb2 : b.2 ∈ ds := by rw [← es]; exact List.mem_map.mpr ⟨b, hb, rfl⟩
    have := dm _ hb2
    omega
  · obtain ⟨ep, he'⟩ := PyProof.Rows.sortedAll_at s.heap its (List.toArray out)
    have hlo : ((sortP (ys.zip ds)).map (fun p : V × W => p.1)).length ≤ sizeLine := by rw [List.length_map]; unfold sortP; rw [List.length_mergeSort, List.length_zip]; omega
    exact ⟨.ref _, upd H (s.heap.objs.size + 1) (.lst ((sortP (ys.zip ds)).map (·.1))), I.laid (t' := s.toks) (fun _ _ => PyProof.Rows.sortedAll_old) (Nat.le_succ _) ⟨hlo, out, ep, vals_pairs h2, he'⟩, rfl, q _ (I.hok.fresh (Nat.le_succ _))⟩
def mSorted (as : M (List W)) : M W := fun d => (as d).bind fun ws d1 => match ws with
  | [.list ds] => if (okD (.list ds) && (ds.all fun x => ds.all fun y => PySem.W.alike x y) && sortableB ds) = true then .ok (.list (sortW ds)) d1 else .bad
  | _ => .bad
theorem boot_sorted_ : bootBuiltins "sorted" = some (.builtin "sorted") := by decide +kernel
theorem df_sorted {pu : Bool} {e : Expr} {p pos : Pos} {as : M (List W)} (hu : X.A.units + 66 < cLine) (hm : X.mg "sorted" = none) (ha : DL X Y pu [e] as) (hg : Gl X "sorted" := by rfl) (he : starEach [e] X.env = (false, eval e X.env) :: starEach [] X.env := by rfl) : DF X Y pu (.Call (.Name "sorted" p) [e] [] pos) (mSorted as) := by
  refine ⟨pe_weak (pe_callB (cr_sortD hu) hg hm boot_sorted_ ha.pa (by decide) (by decide) he rfl) fun σ H Q h => ?_⟩
  obtain ⟨Oc, d, rs, h⟩ := h
  refine ⟨Oc, d, rs, (Po.bind1 h).imp fun ws d1 H1 g1 h1 vs ra => ?_⟩
  split at h1
  · rename_i ds
    obtain ⟨v, rfl, r⟩ := rpA1 ra
    split at h1
    · rename_i z
      rw [Bool.and_eq_true, Bool.and_eq_true] at z
      obtain ⟨⟨z1, z2⟩, z3⟩ := z
      unfold okD at z1
      rw [Bool.and_eq_true] at z1
      cases r with
      | lst l r =>
        rename_i xs
        refine ⟨_, _, _, rfl, l.sq, r.dp (by simpa [noD] using z1.1), z1.2, fun x hx y hy => List.all_eq_true.mp (List.all_eq_true.mp z2 x hx) y hy, sortable_of z3, fun q np => ?_⟩
        refine h1 _ (.same g1.rs (same_new np)) q (g1.free np) (g1.rs.withNew np) ⟨_, upd_same, ?_⟩
        have z : RpA X.K Y.Ex (Ow Oc d1 σ) H1 ((sortP (xs.zip ds)).map (·.1)) ((sortP (xs.zip ds)).map (·.2)) := RpA.of_pairs fun p hp => RpA.zip r p (sortP_mem hp)
        rw [sortP_snd, zip_snd r.length] at z
        exact z.mono (ke_new np) fun _ _ z => z
    · exact h1.elim
  · exact h1.elim
end
end Qd
end
section
set_option Elab.async false
set_option linter.all false
set_option maxRecDepth 100000
set_option maxHeartbeats 1000000
/-! t.index(x), t.count(x) of tuples of data. -/
namespace Qd
open PySem PySem.Spec PyProof.Rows L2
section
variable {X : Cx}
theorem mt_indexT (hu : X.A.units + 65 < cLine) : MtR X "tuple.index" (fun x xs H Q => ∃ a y d ds j z, x = V.ref a ∧ xs = [y] ∧ Dp X.K H (V.ref a) (.tuple ds) ∧ Dp X.K H y d ∧ SeqAt.shaped (.tuple ds) = true ∧ SeqAt.shaped d = true ∧ ds[j]? = some z ∧ PyData.eqv z d = true ∧ (∀ m z', m < j → ds[m]? = some z' → PyData.eqv z' d = false) ∧ Q (.int (j : Nat)) H) := by
  intro pins s σ H x xs v us Q I rx rxs h
  obtain ⟨a, y, d, ds, j, z, rfl, rfl, hl, hy, sl, sd, hz, hzj, hno, q⟩ := h
  cases rx
  cases rxs with
  | cons ry rt =>
    rename_i uy ut
    cases rt
    obtain ⟨bs, r1⟩ := Dp.reads I d y uy hy ry
    have hxs : PyData.canLayAll0 ds = true := by have := SeqAt.canLay_of_shaped sl; simpa only [PyData.canLay0] using this
    have hroom : X.A.units + 1 + min (PyData.depthAll ds) d.depth < cLine := room_in_shaped sd hu
    cases hl with
    | tup hs ha =>
      obtain ⟨its, rv, ⟨⟨cls, dd, data, sls⟩, ho, hc, n, hdt⟩, hlen⟩ := I.tuple hs
      simp only at hc hdt
      subst hc hdt
      obtain ⟨as, h4⟩ := Dp.readsAll I ds _ its ha rv
      have hn : its.length = ds.length := SeqAt.ReadsAll.length ds its as h4
      have hmap : its.map (SeqAt.readOf s.heap) = ds := SeqAt.readsAll_map ds its as hxs h4
      obtain ⟨hjd, _⟩ := List.getElem?_eq_some_iff.mp hz
      have hjl : j < its.length := by omega
      have hj : j < its.toArray.size := by simpa using hjl
      have at_ : ∀ (m : Nat) (hm : m < its.toArray.size) (z' : PyData), ds[m]? = some z' → SeqAt.readOf s.heap its.toArray[m] = z' := by
        intro m hm z' hz'
        have hml : m < its.length := by simpa using hm
        rw [← hmap, List.getElem?_map, List.getElem?_eq_getElem hml] at hz'
        have e1 : SeqAt.readOf s.heap its[m] = z' := Option.some.inj (show some (SeqAt.readOf s.heap its[m]) = some z' from hz')
        simpa using e1
      refine call_meets PySem.F.slot_tuple_index ⟨_, ho, rfl⟩ PySem.F.entry_tuple_index (PySem.F.args_tuple_index_2 _ _)
        (TI.tuple_indexAt a its.toArray n dd sls uy (fun u => PyData.eqv (SeqAt.readOf s.heap u) d) j hj ?_ ?_) ⟨ho, SeqAt.items_eqAt (vs := its.toArray) (show ReadsAll s.heap its.toArray.toList ds as from h4) r1 hxs (SeqAt.canLay_of_shaped sd) hroom, ?_⟩
      · show PyData.eqv (SeqAt.readOf s.heap its.toArray[j]) d = true
        rw [at_ j hj z hz]
        exact hzj
      · intro m hm hmj
        have hmd : m < ds.length := by omega
        have hz' : ds[m]? = some ds[m] := List.getElem?_eq_getElem hmd
        show PyData.eqv (SeqAt.readOf s.heap its.toArray[m]) d = false
        rw [at_ m hm _ hz']
        exact hno m _ hmj hz'
      · exact ⟨.int (j : Nat), H, I.tok _, ⟨_, rfl⟩, q⟩
def indexTW : W → List W → Option W := fun u as => match u, as with
  | .tuple ds, [w] => if (okD u && okD w) = true then (match ds.findIdx? fun z => PyData.eqv z w with
    | some j => some (.int j)
    | none => none) else none
  | _, _ => none
theorem mv_indexT (hu : X.A.units + 65 < cLine) : MetV X "tuple.index" indexTW := by
  refine ⟨_, mt_indexT hu, fun Ex O H x u xs as c Q hO h rx ra q => ?_⟩
  unfold indexTW at h
  split at h
  · rename_i ds w
    split at h
    · rename_i z
      obtain ⟨⟨e3, e4⟩, e5, e6⟩ := okD_and z
      split at h
      · rename_i j hj
        cases h
        obtain ⟨v, rfl, rv⟩ := rpA1 ra
        obtain ⟨hlt, h1, h2⟩ := List.findIdx?_eq_some_iff_getElem.mp hj
        have dp := rx.dp e3
        cases rx with
        | tup l r =>
          refine ⟨_, v, w, ds, j, ds[j], rfl, rfl, dp, rv.dp e5, e4, e6, List.getElem?_eq_getElem hlt, h1, fun m z' hm e => ?_, q H _ (fun _ _ e => e) (.int _)⟩
          have hm' : m < ds.length := Nat.lt_trans hm hlt
          rw [List.getElem?_eq_getElem hm'] at e
          cases e
          simpa using h2 m hm
      · cases h
    · cases h
  · cases h
def countTW : W → List W → Option W := fun u as => match u, as with
  | .tuple ds, [w] => if (okD u && okD w) = true then some (.int (ds.countP fun z => PyData.eqv z w : Nat)) else none
  | _, _ => none
theorem mv_countT (hu : X.A.units + 65 < cLine) : MetV X "tuple.count" countTW := by
  refine ⟨fun x xs H Q => ∃ a y d ds, x = V.ref a ∧ xs = [y] ∧ Dp X.K H (V.ref a) (.tuple ds) ∧ Dp X.K H y d ∧ SeqAt.shaped (.tuple ds) = true ∧ SeqAt.shaped d = true ∧ Q (.int (ds.countP fun z => PyData.eqv z d : Nat)) H, ?_, fun Ex O H x u xs as c Q hO h rx ra q => ?_⟩
  · intro pins s σ H x xs v us Q I rx rxs h
    obtain ⟨a, y, d, ds, rfl, rfl, hl, hy, sl, sd, q⟩ := h
    cases rx
    cases rxs with
    | cons ry rt =>
      cases rt
      obtain ⟨bs, r1⟩ := Dp.reads I d y _ hy ry
      cases hl with
      | tup hs ha =>
        obtain ⟨its, rv, p, hz⟩ := I.tuple hs
        obtain ⟨as, r2⟩ := Dp.readsAll I ds _ its ha rv
        have pl : PyData.plainAll ds = true := by have := canLay_plain sl; simpa only [PyData.plain] using this
        obtain ⟨o, ho, hc, n, hd⟩ := p
        exact SeqAt.count_tuple_data (vs := its.toArray) ⟨o, ho, hc, n, hd⟩ r2 r1 pl (canLay_plain sd) (room_in_shaped sd hu) ⟨.int _, H, I.tok _, ⟨_, rfl⟩, q⟩
  · unfold countTW at h
    split at h
    · rename_i ds w
      split at h
      · rename_i z
        cases h
        obtain ⟨⟨e3, e4⟩, e5, e6⟩ := okD_and z
        obtain ⟨v, rfl, rv⟩ := rpA1 ra
        have dp := rx.dp e3
        cases rx with
        | tup l r => exact ⟨_, v, w, ds, rfl, rfl, dp, rv.dp e5, e4, e6, q H _ (fun _ _ e => e) (.int _)⟩
      · cases h
    · cases h
end
end Qd
end
section
set_option Elab.async false
set_option linter.all false
set_option maxRecDepth 100000
set_option maxHeartbeats 1000000
/-! xs[::-1], t[::-1]. -/
namespace Qd
open PySem PySem.Spec PyProof.Rows L2 HT
section
variable {prog : Program} {w : World} {A : Around} {E : Value → Shared → Prop} {s : Shared}
theorem sliceApplied_rev {sl : Addr} {vl vu vs : Value} {n : Nat} {Q : Int × Int × Nat → Shared → Prop} (hs : s.heap.IsSliceOf sl vl vu vs) (pl : IsPart vl none) (pu : IsPart vu none) (ps : IsPart vs (some (-1)))
    (h : Q ((n : Int) - 1, -1, n) s) : wpAny (model prog w) A (Builtin.Slice.sliceApplied (.ref sl) (pure (n : Int))) Q E s := by
  obtain ⟨os, hos, hcs, hds⟩ := id hs
  unfold Builtin.Slice.sliceApplied Builtin.Slice.sliceFields
  refine wpAny_bind (wpAny_bind (wpAny_field hos hds (x := vl) rfl (wpAny_bind (wpAny_field hos hds (x := vu) rfl (wpAny_bind (wpAny_field hos hds (x := vs) rfl (wpAny_pure ?_)))))))
  refine wpAny_bind (slicePart_ ps ?_)
  show wpAny _ _ (if ((-1 : Int) == 0) = true then _ else _) _ _ s
  rw [if_neg (by decide)]
  refine wpAny_bind (slicePart_ pl (wpAny_bind (slicePart_ pu (wpAny_bind (wpAny_pure ?_)))))
  show wpAny _ _ (pure ((n : Int) - 1, (-1 : Int), Builtin.Slice.slicePlaces ((n : Int) - 1) (-1) (-1))) _ _ s
  have e : Builtin.Slice.slicePlaces ((n : Int) - 1) (-1) (-1) = n := by
    unfold Builtin.Slice.slicePlaces
    have h1 : ¬ ((-1 : Int) > 0) := by omega
    have h2 : (-(-1) : Int) = 1 := by omega
    simp only [h1, if_false, h2, Int.ediv_one]
    split <;> omega
  rw [e]
  exact wpAny_pure h
theorem pick_rev (xs : Array Value) : ((List.range xs.size).filterMap fun (m : Nat) => xs[(((xs.size : Int) - 1) + (m : Int) * (-1)).toNat]?).toArray = xs.toList.reverse.toArray := by
  have e : (fun (m : Nat) => xs[(((xs.size : Int) - 1) + (m : Int) * (-1)).toNat]?) = fun m => xs[xs.size - 1 - m]? := by
    funext m
    have : (((xs.size : Int) - 1) + (m : Int) * (-1)).toNat = xs.size - 1 - m := by omega
    rw [this]
  rw [e]
  have h : (List.range xs.size).filterMap (fun m => xs[xs.size - 1 - m]?) = ((List.range xs.size).map fun k => xs.size - 1 - k).filterMap (xs[·]?) := by rw [List.filterMap_map]; rfl
  rw [h, PySem.W.krv_range, List.filterMap_reverse, PySem.W.krv_all]
theorem getItem_tuple_rev {t sl : Addr} {items : Array Value} {vl vu vs : Value} {Q : Value → Shared → Prop} (ht : IsTup s.heap t items) (hs : s.heap.IsSliceOf sl vl vu vs) (pl : IsPart vl none) (pu : IsPart vu none) (ps : IsPart vs (some (-1)))
    (h : Q (.ref s.heap.objs.size) { s with heap := s.heap.push { cls := .type "tuple", data := .seq items.toList.reverse.toArray } })
    (hsz : items.size ≤ sizeLine) : wpAny (model prog w) A (getItem (.ref t) (.ref sl)) Q E s := by
  have htake : sizeOk (.seq items.toList.reverse.toArray) := by
    show items.toList.reverse.toArray.size ≤ sizeLine
    rw [List.size_toArray, List.length_reverse, Array.length_toList]
    exact hsz
  obtain ⟨os, hos, hcs, hds⟩ := id hs
  have hTs : s.TypeIs (.ref sl) "slice" := ⟨os, hos, hcs⟩
  unfold getItem
  try with_reducible refine wpAny_holding ?_
  first | refine wpAny_bind (wpAny_pure ?_) | skip
  refine wpAny_bind (wpAny_sequenceKey ht.typeIs (by decide) ?_)
  refine wpAny_bind (wpAny_callSpecial?_slot (name := Str.ofString "__getitem__") ht.typeIs PyProof.Rows.slot_tuple_getitem
    (wpAny_call_entry PyProof.Rows.slot_tuple_getitem ht.typeIs entry_tuple_getitem ?_ (args_tuple_getitem _ _)))
  show wpAny _ _ (Builtin.Tuple.tupleItemsOf (.ref t) >>= _) _ _ s
  refine wpAny_bind (tupleItemsOf_ ht ?_)
  refine wpAny_bind (wpAny_typeOf hTs ?_)
  rw [if_pos (by decide)]
  refine wpAny_bind (sliceApplied_rev hs pl pu ps ?_)
  have hno : ¬ ((((items.size : Int) - 1) == 0 && (-1 : Int) == 1 && items.size == items.size) = true) := by
    intro q
    rw [Bool.and_eq_true, Bool.and_eq_true] at q
    exact absurd q.1.2 (by decide)
  show wpAny _ _ (if (((items.size : Int) - 1) == 0 && (-1 : Int) == 1 && items.size == items.size) = true then _ else _) _ _ s
  rw [if_neg hno, pick_rev]
  first
    | exact wpAny_bind (m := Builtin.Tuple.tupleExact _) (wpAny_newObj_type (wpAny_pure ⟨_, rfl, wpAny_pure h⟩) htake)
    | exact wpAny_bind (m := Builtin.Tuple.tupleExact _) (wpAny_newObj_type (wpAny_bind (wpAny_pure (wpAny_pure ⟨_, rfl, wpAny_pure h⟩))) htake)
    | exact wpAny_bind (wpAny_bind (m := Builtin.Tuple.tupleExact _) (wpAny_newObj_type (wpAny_pure (wpAny_pure ⟨_, rfl, wpAny_pure h⟩)) htake))
    | exact wpAny_bind (wpAny_bind (m := Builtin.Tuple.tupleExact _) (wpAny_newObj_type (wpAny_pure ⟨_, rfl, wpAny_pure h⟩) htake))
end
section
variable {X : Cx} {Y : Yx}
def tRevA (K : PySem.W.Frag) (te : TE) : TE := fun σ H Q => te σ H fun x H1 => ∃ a xs, x = .ref a ∧ ((SqL K H1 a xs ∧ ∀ p, H1 p = none → Q (.ref p) (upd H1 p (.lst xs.reverse))) ∨ (SqT K H1 a xs ∧ ∀ p, H1 p = none → Q (.ref p) (upd H1 p (.tup xs.reverse))))
theorem pe_revA {e : Expr} {te : TE} {k : Nat} {p1 p2 p3 pos : Pos} (he : PE X e te) : PE X (.Subscript e (.Slice none none (some (.UnaryOp .USub (.Constant (.int 1) k p1) p2)) p3) pos) (tRevA X.K te) := by
  refine ⟨fun pins s σ H Q I h => ?_⟩
  refine Subscript_ (thn (he.run pins s σ H _ I h) fun v s1 ⟨x, H1, I1, r1, q1⟩ => ?_)
  obtain ⟨a, xs, ex, q⟩ := q1
  subst ex
  cases r1
  have hst : PO X (some (.UnaryOp .USub (.Constant (.int 1) k p1) p2)) (tPart (tUn (rU fun i => .int (-i)) (tC (.int 1)))) := po_some (pe_un un_neg pe_int)
  refine wpAny_Slice (thn (po_none.run pins s1 σ H1 (fun o H2 => o = none ∧ H2 = H1) I1 ⟨rfl, rfl⟩) fun vl s2 ⟨l, H2, I2, pl, el, e2⟩ => ?_)
  subst el e2
  refine thn (po_none.run pins s2 σ H2 (fun o H3 => o = none ∧ H3 = H2) I2 ⟨rfl, rfl⟩) fun vu s3 ⟨u, H3, I3, pu, eu, e3⟩ => ?_
  subst eu e3
  refine thn (hst.run pins s3 σ H3 (fun o H4 => o = some (-1) ∧ H4 = H3) I3 ⟨1, rfl, -1, rfl, rfl, rfl⟩) fun vs s4 ⟨o, H4, I4, ps, eo, e4⟩ => ?_
  subst eo e4
  have I5 : Inv X pins σ H4 { s4 with heap := s4.heap.push { cls := .type "slice", data := .fields #[vl, vu, vs] } } := I4.kept (t' := s4.toks) fun b ob q => Heap.get?_push_of_some _ q
  show wpAny (model X.prog X.w) X.A (subscriptTail e (.Slice none none (some (.UnaryOp .USub (.Constant (.int 1) k p1) p2)) p3) (.ref a) (.ref s4.heap.objs.size)) (EP X pins σ Q) X.xe { s4 with heap := s4.heap.push { cls := .type "slice", data := .fields #[vl, vu, vs] } }
  rcases q with ⟨hx, q⟩ | ⟨hx, q⟩
  · obtain ⟨its, r, ht, hz⟩ := I5.list hx
    have hlen := r.length
    refine tail_any (ops := [.ref a, .ref s4.heap.objs.size]) ht.isList.typeIs (PySem.slot_list_getitem.lookup) ?_ (by with_unfolding_all rfl)
    refine wpAny_getItem_list_slice ht.isList (Heap.IsSliceOf.new _ vl vu vs) pl pu ps (by decide) ?_ (by rw [List.size_toArray]; omega)
    rw [PySem.W.krv_pick]
    refine ⟨.ref _, _, I5.laid (t' := s4.toks) (o := .lst xs.reverse) (fun b ob q => Heap.get?_push_of_some _ q) (Nat.le_refl _) ?_, rfl, q _ (I5.hok.fresh (Nat.le_refl _))⟩
    exact ⟨by rw [List.length_reverse]; exact hz, _, 0, r.reverse, Heap.get?_push_size _ rfl⟩
  · obtain ⟨its, r, ht, hz⟩ := I5.tuple hx
    have hlen := r.length
    refine tail_any (ops := [.ref a, .ref s4.heap.objs.size]) ht.typeIs (PyProof.Rows.slot_tuple_getitem.lookup) ?_ (by with_unfolding_all rfl)
    refine getItem_tuple_rev ht (Heap.IsSliceOf.new _ vl vu vs) pl pu ps ?_ (by rw [List.size_toArray]; omega)
    refine ⟨.ref _, _, I5.laid (t' := s4.toks) (o := .tup xs.reverse) (fun b ob q => Heap.get?_push_of_some _ q) (Nat.le_refl _) ?_, rfl, q _ (I5.hok.fresh (Nat.le_refl _))⟩
    exact ⟨by rw [List.length_reverse]; exact hz, _, r.reverse, IsTup.new _ _⟩
def mRevS (a : M W) : M W := fun d => (a d).bind fun w d1 => match w with
  | .list ws => .ok (.list ws.reverse) d1
  | .tuple ws => .ok (.tuple ws.reverse) d1
  | _ => .bad
theorem d_revS {pu : Bool} {e : Expr} {k : Nat} {p1 p2 p3 pos : Pos} {m : M W} (he : DE X Y pu e m) : DE X Y pu (.Subscript e (.Slice none none (some (.UnaryOp .USub (.Constant (.int 1) k p1) p2)) p3) pos) (mRevS m) := by
  refine ⟨pe_weak (pe_revA he.pe) fun σ H Q h => ?_⟩
  obtain ⟨Oc, d, rs, h⟩ := h
  refine ⟨Oc, d, rs, (Po.bind1 h).imp fun w d1 H1 g1 h1 v r => ?_⟩
  cases w with
  | list ws =>
    cases r with
    | lst l r =>
      refine ⟨_, _, rfl, .inl ⟨l.sq, fun p np => ?_⟩⟩
      obtain ⟨sm, rp⟩ := rp_newLst (fun b hb => g1.rs.there (a := b) hb) np r.reverse
      exact h1 _ (.same g1.rs sm) _ rp
  | tuple ws =>
    cases r with
    | tup l r =>
      refine ⟨_, _, rfl, .inr ⟨l.sq, fun p np => ?_⟩⟩
      obtain ⟨sm, rp⟩ := rp_newTup (fun b hb => g1.rs.there (a := b) hb) np r.reverse
      exact h1 _ (.same g1.rs sm) _ rp
  | _ => exact h1.elim
theorem df_revS {pu : Bool} {e : Expr} {k : Nat} {p1 p2 p3 pos : Pos} {m : M W} (he : DE X Y pu e m) : DE X Y pu (.Subscript e (.Slice none none (some (.UnaryOp .USub (.Constant (.int 1) k p1) p2)) p3) pos) (mRevS m) := d_revS he
end
/-! ### xs += [..], n *= k -/
section
variable {X : Cx} {Y : Yx}
def mExt (i : Nat) (m : M W) : MS := fun d => (ofOpt (mineAt i d) d).toS fun _ d0 => (m d0).toS fun y d1 => match mineAt i d1, y with
  | some (.list ds), .list es => if ds.length + es.length ≤ sizeLine then .next (setMine i (.list (ds ++ es)) d1) else .bad
  | _, _ => .bad
theorem ds_ext {pu : Bool} {i : Nat} {x : Str} {e : Expr} {m : M W} {pos pos' : Pos} (hN : X.N.Nodup) (he : DF X Y pu e m) (hi : X.N[i]? = some x := by rfl) (hx : Loc X.env.scope x := by first | exact .inl rfl | exact .inr rfl)
    (hf : X.fn x = true ∨ X.env.scope.names.lookup x = some .local := by first | exact .inl rfl | exact .inr rfl | assumption) : DS X Y (.AugAssign (.Name x pos') .Add e pos) (mExt i m) := by
  refine ⟨ps_weak (ps_aug hN hi hx he.pe (ti := rExt2) iop_ext hf) fun D σ H h => ?_⟩
  obtain ⟨Oc, d, rs, h⟩ := h
  unfold mExt at h
  cases q0 : mineAt i d with
  | none => rw [q0] at h; exact h.elim
  | some u0 =>
    rw [q0] at h
    obtain ⟨s0, f1, f2⟩ := mineAt_some q0
    obtain ⟨p, ep, _, ob0⟩ := rs.own i s0 u0 f1 f2
    refine ⟨.ref p, ep, Oc, d, rs, (Po.toS (p := pu) (show PoS X Y Oc d σ H ((m d).toS _) D from h)).imp fun w d1 H1 g1 h1 b np rsb obb => ?_⟩
    cases q1 : mineAt i d1 with
    | none => rw [q1] at h1; exact h1.elim
    | some u =>
      rw [q1] at h1
      obtain ⟨p', s, ep', _, e1, e2, nop, ob⟩ := slot_same rs q0 g1 q1
      rw [ep] at ep'; cases ep'
      cases u with
      | list ds =>
        cases w with
        | list es =>
          have h1 : PoS X Y Oc d1 σ H1 (if ds.length + es.length ≤ sizeLine then SOut.next (setMine i (.list (ds ++ es)) d1) else .bad) D := h1
          split at h1
          · rename_i hl
            obtain ⟨ys, ey, r⟩ := ob
            obtain ⟨zs, ez, r2⟩ := obb
            refine ⟨p, b, ys, zs, rfl, rfl, ey, ez, by rw [r.length, r2.length]; exact hl, ?_⟩
            obtain ⟨bt, ob'⟩ := Ob.put (.inr ⟨i, s, _, e1, e2, ep⟩) (r.append (r2.mono ke_with fun _ _ z => z))
            have fin := setMine_go g1.rs e1 e2 ep bt ob'
            have es' : σ.set i (some (V.ref p)) = σ := by
              obtain ⟨lt, e⟩ := List.getElem?_eq_some_iff.mp ep
              rw [← e]
              exact List.set_getElem_self lt
            rw [es']
            exact h1 _ _ fin.toS
          · exact h1.elim
        | _ => exact h1.elim
      | _ => exact h1.elim
noncomputable abbrev mulI := i2 (fun i j => cdec (CMulX i j)) fun i j => i * j
theorem od_imul : OpD X (inplaceOp .Mult) mulI := by
  refine ⟨fun x y H Q => ∃ i j, x = .int i ∧ y = .int j ∧ CMulX i j ∧ Q (.int (i * j)) H, ?_, fun Ex O H x y a b c Q hO e rx ry q => ?_⟩
  · intro pins s σ H x y v u Q I r1 r2 h
    obtain ⟨i, j, e1, e2, hc, q⟩ := h
    subst e1; subst e2
    obtain ⟨t, rfl⟩ := r1
    obtain ⟨t', rfl⟩ := r2
    exact imul_int ⟨.int _, H, I.tok _, ⟨_, rfl⟩, q⟩ hc.ok
  · obtain ⟨i, j, rfl, rfl, hc, rfl⟩ := i2_some e
    cases rp_int rx
    cases rp_int ry
    exact ⟨i, j, rfl, rfl, cdec_iff.mp hc, q H _ (fun _ _ e => e) (.int _)⟩
/-! ### math.gcd -/
def gcdW : List W → Option W
  | [.int a, .int b] => some (.int ((Nat.gcd a.natAbs b.natAbs : Nat) : Int))
  | _ => none
theorem cd_gcd : CallD X (.builtin "math.gcd") gcdW := by
  refine ⟨_, cr_gcd, fun Ex O H xs as c Q hO h ra q => ?_⟩
  unfold gcdW at h
  split at h
  · cases h
    cases ra with
    | cons r1 ra => cases ra with
      | cons r2 ra =>
        cases ra
        cases rp_int r1
        cases rp_int r2
        exact ⟨_, _, rfl, q H _ (fun _ _ e => e) (.int _)⟩
  · cases h
theorem d_callBf {pu : Bool} {x : Str} {p pos : Pos} {e : Expr} {es : List Expr} {id : String} {g : List W → Option W} {as : M (List W)} (hc : CallD X (.builtin id) g) (hm : X.mg x = some (.builtin id)) (ha : DL X Y pu (e :: es) as) (hg : Gl X x := by rfl) (hdb : (x == ("__debug__" : Str)) = false := by decide)
    (he : starEach (e :: es) X.env = (false, eval e X.env) :: starEach es X.env := by rfl) (hpl : (backTo pos (starEach es X.env)).any (·.1) = false := by rfl) : DE X Y pu (.Call (.Name x p) (e :: es) [] pos) (mCallB g as) :=
  let ⟨_, hr, hd⟩ := hc
  ⟨pe_weak (pe_callBfun hr hg hm ha.pa hdb he hpl) (t_callB (f := .builtin id) hd)⟩
end
/-! ### a < b < c < d -/
section
variable {X : Cx} {Y : Yx}
def tChain3 (r r' r'' : R2) (ta tb tc td : TE) : TE := fun σ H Q => ta σ H fun x H1 => tb σ H1 fun y H2 => r x y H2 fun z H3 => ∃ k, z = .bl k ∧
  (if k = true then tc σ H3 fun w' H4 => r' y w' H4 fun z' H5 => ∃ k', z' = .bl k' ∧ (if k' = true then td σ H5 fun v' H6 => r'' w' v' H6 Q else Q (.bl false) H5) else Q (.bl false) H3)
theorem pe_chain3 {a b c e : Expr} {ta tb tc td : TE} {pos : Pos} {op op' op'' : CmpOp} {r r' r'' : R2} (ho : OpR X (compareOp op) r) (ho' : OpR X (compareOp op') r') (ho'' : OpR X (compareOp op'') r'') (ha : PE X a ta) (hb : PE X b tb) (hc : PE X c tc) (he : PE X e td)
    (hm : lastMarks [op, op', op''] [b, c, e] = false := by with_unfolding_all rfl) : PE X (.Compare a [op, op', op''] [b, c, e] pos) (tChain3 r r' r'' ta tb tc td) := by
  refine ⟨fun pins s σ H Q I h => ?_⟩
  refine Compare_chain (thn (ha.run pins s σ H _ I h) fun v s1 ⟨x, H1, I1, r1, q1⟩ => chain_link (thn (hb.run pins s1 σ H1 _ I1 q1) fun u s2 ⟨y, H2, I2, r2, q2⟩ =>
    thn (ho pins s2 σ H2 x y v u _ I2 r1 r2 q2) fun d s3 ⟨z, H3, I3, r3, k, e, q3⟩ => ?_)) hm
  subst e
  cases r3
  refine wpAny_truthy_bool ?_
  cases k with
  | false => exact ite_ff ⟨.bl false, H3, I3, rfl, q3⟩
  | true =>
    refine ite_tt (chain_link (thn (hc.run pins s3 σ H3 _ I3 q3) fun w' s4 ⟨z', H4, I4, r4, q4⟩ => thn (ho' pins s4 σ H4 y z' u w' _ I4 r2 r4 q4) fun d' s5 ⟨z2, H5, I5, r5, k2, e2, q5⟩ => ?_))
    subst e2
    cases r5
    refine wpAny_truthy_bool ?_
    cases k2 with
    | false => exact ite_ff ⟨.bl false, H5, I5, rfl, q5⟩
    | true => exact ite_tt (chain_last (thn (he.run pins s5 σ H5 _ I5 q5) fun w2 s6 ⟨z3, H6, I6, r6, q6⟩ => ho'' pins s6 σ H6 z' z3 w' w2 Q I6 r4 r6 q6))
theorem pt_chain3 {a b c e : Expr} {ta tb tc td : TE} {pos : Pos} {op op' op'' : CmpOp} {r r' r'' : R2} (ho : OpR X (compareOp op) r) (ho' : OpR X (compareOp op') r') (ho'' : OpR X (compareOp op'') r'') (ha : PE X a ta) (hb : PE X b tb) (hc : PE X c tc) (he : PE X e td)
    (hm : lastMarks [op, op', op''] [b, c, e] = false := by with_unfolding_all rfl) : PT X (.Compare a [op, op', op''] [b, c, e] pos) (tTest (tChain3 r r' r'' ta tb tc td)) := by
  refine ⟨fun pins s σ H Q I h => ?_⟩
  refine isTrue_chain (thn (ha.run pins s σ H _ I h) fun v s1 ⟨x, H1, I1, r1, q1⟩ => test_link (thn (hb.run pins s1 σ H1 _ I1 q1) fun u s2 ⟨y, H2, I2, r2, q2⟩ =>
    thn (ho pins s2 σ H2 x y v u _ I2 r1 r2 q2) fun d s3 ⟨z, H3, I3, r3, k, e, q3⟩ => ?_)) hm
  subst e
  cases r3
  refine wpAny_truthy_bool ?_
  cases k with
  | false =>
    obtain ⟨k', e', q'⟩ := q3
    cases e'
    exact ite_ff ⟨H3, I3, q'⟩
  | true =>
    refine ite_tt (test_link (thn (hc.run pins s3 σ H3 _ I3 q3) fun w' s4 ⟨z', H4, I4, r4, q4⟩ => thn (ho' pins s4 σ H4 y z' u w' _ I4 r2 r4 q4) fun d' s5 ⟨z2, H5, I5, r5, k2, e2, q5⟩ => ?_))
    subst e2
    cases r5
    refine wpAny_truthy_bool ?_
    cases k2 with
    | false =>
      obtain ⟨k', e', q'⟩ := q5
      cases e'
      exact ite_ff ⟨H5, I5, q'⟩
    | true =>
      refine ite_tt (test_last (thn (he.run pins s5 σ H5 _ I5 q5) fun w2 s6 ⟨z3, H6, I6, r6, q6⟩ => thn (ho'' pins s6 σ H6 z' z3 w' w2 _ I6 r4 r6 q6) fun d2 s7 ⟨z4, H7, I7, r7, k3, e3, q7⟩ => ?_))
      subst e3
      cases r7
      exact wpAny_truthy_bool ⟨H7, I7, q7⟩
def mChain3 (g g' g'' : W → W → Option W) (ma mb mc me : M W) : M W := fun d => (ma d).bind fun x d1 => (mb d1).bind fun y d2 => (ofOpt (g x y) d2).bind fun z d2 => match z with
  | .bool true => (mc d2).bind fun u d3 => (ofOpt (g' y u) d3).bind fun z' d3 => match z' with
    | .bool true => (me d3).bind fun v d4 => ofOpt (g'' u v) d4
    | .bool false => .ok (.bool false) d3
    | _ => .bad
  | .bool false => .ok (.bool false) d2
  | _ => .bad
theorem t_chain3 {pa pb pc pd : Bool} {r r' r'' : R2} {g g' g'' : W → W → Option W} {ma mb mc me : M W} (hd : ∀ (Ex : Addr → Nat → Prop) (O : Addr → Prop) (H : Hp) (x y : V) (a b c : W) (Q : VK), (∀ p, O p → ∃ o, H p = some o) → g a b = some c → Rp X.K Ex O H x a → Rp X.K Ex O H y b → (∀ H' v, Same H H' → Rp X.K Ex O H' v c → Q v H') → r x y H Q) (hd' : ∀ (Ex : Addr → Nat → Prop) (O : Addr → Prop) (H : Hp) (x y : V) (a b c : W) (Q : VK), (∀ p, O p → ∃ o, H p = some o) → g' a b = some c → Rp X.K Ex O H x a → Rp X.K Ex O H y b → (∀ H' v, Same H H' → Rp X.K Ex O H' v c → Q v H') → r' x y H Q) (hd'' : ∀ (Ex : Addr → Nat → Prop) (O : Addr → Prop) (H : Hp) (x y : V) (a b c : W) (Q : VK), (∀ p, O p → ∃ o, H p = some o) → g'' a b = some c → Rp X.K Ex O H x a → Rp X.K Ex O H y b → (∀ H' v, Same H H' → Rp X.K Ex O H' v c → Q v H') → r'' x y H Q) (σ : St) (H : Hp) (Q : VK) (h : tE X Y (pa && (pb && (pc && pd))) (mChain3 g g' g'' ma mb mc me) σ H Q) : tChain3 r r' r'' (tE X Y pa ma) (tE X Y pb mb) (tE X Y pc mc) (tE X Y pd me) σ H Q := by
  obtain ⟨Oc, d, rs, h⟩ := h
  refine ⟨Oc, d, rs, (Po.bind h).imp fun x d1 H1 g1 q1 v1 r1 => ⟨Oc, d1, g1.rs, (Po.bind q1).imp fun y d2 H2 g2 q2 v2 r2 => ?_⟩⟩
  obtain ⟨z, ez, k⟩ := Po.opt (Po.bind0 q2)
  refine hd Y.Ex (Ow Oc d2 σ) H2 v1 v2 x y z _ (fun p hp => g2.rs.there hp) ez (g2.rp r1) r2 fun H3 v3 s3 r3 => ?_
  have g3 : Go X.K Y.Ex Oc true σ d2 H2 d2 H3 := .same g2.rs s3
  have k3 := k H3 g3
  cases z with
  | bool b =>
    cases r3
    cases b with
    | true =>
      refine ⟨true, rfl, ?_⟩
      rw [if_pos rfl]
      refine ⟨Oc, d2, g3.rs, (Po.bind k3).imp fun u d4 H4 g4 q4 v4 r4 => ?_⟩
      obtain ⟨c, ec, k5⟩ := Po.opt (Po.bind0 q4)
      refine hd' Y.Ex (Ow Oc d4 σ) H4 v2 v4 y u c _ (fun p hp => g4.rs.there hp) ec (g4.rp (g3.rp r2)) r4 fun H5 v5 s5 r5 => ?_
      have g5 : Go X.K Y.Ex Oc true σ d4 H4 d4 H5 := .same g4.rs s5
      have k6 := k5 H5 g5
      cases c with
      | bool b2 =>
        cases r5
        cases b2 with
        | true =>
          refine ⟨true, rfl, ?_⟩
          rw [if_pos rfl]
          refine ⟨Oc, d4, g5.rs, (Po.bind1 k6).imp fun w d6 H6 g6 q6 v6 r6 => ?_⟩
          obtain ⟨c2, ec2, k7⟩ := Po.opt q6
          exact hd'' Y.Ex (Ow Oc d6 σ) H6 v4 v6 u w c2 Q (fun p hp => g6.rs.there hp) ec2 (g6.rp (g5.rp r4)) r6 fun H7 v7 s7 r7 => k7 H7 (.same g6.rs s7) v7 r7
        | false =>
          refine ⟨false, rfl, ?_⟩
          rw [if_neg Bool.false_ne_true]
          exact k6 H5 (.refl g5.rs) (.bl false) (.bl false)
      | none => exact k6.elim
      | int i => exact k6.elim
      | str s => exact k6.elim
      | tuple t => exact k6.elim
      | list l => exact k6.elim
      | dict l => exact k6.elim
    | false =>
      refine ⟨false, rfl, ?_⟩
      rw [if_neg Bool.false_ne_true]
      exact k3 H3 (.refl g3.rs) (.bl false) (.bl false)
  | none => exact k3.elim
  | int i => exact k3.elim
  | str s => exact k3.elim
  | tuple t => exact k3.elim
  | list l => exact k3.elim
  | dict l => exact k3.elim
theorem d_chain3 {pa pb pc pd : Bool} {op op' op'' : CmpOp} {g g' g'' : W → W → Option W} {a b c e : Expr} {pos : Pos} {ma mb mc me : M W} (ho : OpD X (compareOp op) g) (ho' : OpD X (compareOp op') g') (ho'' : OpD X (compareOp op'') g'') (ha : DE X Y pa a ma) (hb : DE X Y pb b mb) (hc : DE X Y pc c mc) (he : DE X Y pd e me)
    (hm : lastMarks [op, op', op''] [b, c, e] = false := by rfl) : DE X Y (pa && (pb && (pc && pd))) (.Compare a [op, op', op''] [b, c, e] pos) (mChain3 g g' g'' ma mb mc me) :=
  let ⟨_, hr, hd⟩ := ho
  let ⟨_, hr', hd'⟩ := ho'
  let ⟨_, hr'', hd''⟩ := ho''
  ⟨pe_weak (pe_chain3 hr hr' hr'' ha.pe hb.pe hc.pe he.pe hm) (t_chain3 hd hd' hd'')⟩
theorem dt_chain3 {pa pb pc pd : Bool} {op op' op'' : CmpOp} {g g' g'' : W → W → Option W} {a b c e : Expr} {pos : Pos} {ma mb mc me : M W} (ho : OpD X (compareOp op) g) (ho' : OpD X (compareOp op') g') (ho'' : OpD X (compareOp op'') g'') (ha : DE X Y pa a ma) (hb : DE X Y pb b mb) (hc : DE X Y pc c mc) (he : DE X Y pd e me)
    (hm : lastMarks [op, op', op''] [b, c, e] = false := by rfl) : DT X Y (pa && (pb && (pc && pd))) (.Compare a [op, op', op''] [b, c, e] pos) (mTest (mChain3 g g' g'' ma mb mc me)) := by
  obtain ⟨r, hr, hd⟩ := ho
  obtain ⟨r', hr', hd'⟩ := ho'
  obtain ⟨r'', hr'', hd''⟩ := ho''
  exact ⟨pt_weak (pt_chain3 hr hr' hr'' ha.pe hb.pe hc.pe he.pe hm) fun σ H Q h => tTest_of (fun Q q => t_chain3 hd hd' hd'' σ H Q q) h⟩
end
end Qd
end
section
set_option Elab.async false
set_option linter.all false
set_option maxRecDepth 100000
set_option maxHeartbeats 1000000
/-! Evaluating the semantics: equations for simp. -/
namespace Qd
open PySem PySem.Spec PyProof.Rows L2

section
variable (d : SD)
@[simp] theorem ev_seq (a b : MS) : mSeq a b d = (a d).seq b := rfl
@[simp] theorem ev_skip : mSkip d = .next d := rfl
@[simp] theorem ev_ret (a : M W) : mRet a d = (a d).toS fun w d1 => .ret (.val w) d1 := rfl
@[simp] theorem ev_retF (a : M W) : mRetF a d = (a d).toS fun w d1 => .ret (.own w) d1 := rfl
@[simp] theorem ev_drop (a : M W) : mDrop a d = (a d).toS fun _ d1 => .next d1 := rfl
@[simp] theorem ev_if (t : M Bool) (a b : MS) : mIf t a b d = (t d).toS fun c d1 => if c = true then a d1 else b d1 := rfl
@[simp] theorem ev_asg (g : GW) (a : M W) : mAsg g a d = (a d).toS fun w d1 => sOpt (g w d1) := rfl
@[simp] theorem ev_asgOwn (i : Nat) (a : M W) : mAsgOwn i a d = (a d).toS fun w d1 => sOpt (storeOwn i w d1) := rfl
@[simp] theorem ev_raise (c : Nat) : mRaise c d = .exc c d := rfl
@[simp] theorem ev_for (it : M (List W)) (g : GW) (b : MS) : mFor it g b d = (it d).toS fun ws d1 => forD g b ws d1 := rfl
@[simp] theorem ev_c (w : W) : mC w d = .ok w d := rfl
@[simp] theorem ev_nil : mNil d = .ok [] d := rfl
@[simp] theorem ev_cons (a : M W) (r : M (List W)) : mCons a r d = (a d).bind fun x d1 => (r d1).bind fun xs d2 => .ok (x :: xs) d2 := rfl
@[simp] theorem ev_bin (g : W → W → Option W) (a b : M W) : mBin g a b d = (a d).bind fun x d1 => (b d1).bind fun y d2 => ofOpt (g x y) d2 := rfl
@[simp] theorem ev_un (g : W → Option W) (a : M W) : mUn g a d = (a d).bind fun x d1 => ofOpt (g x) d1 := rfl
@[simp] theorem ev_callB (g : List W → Option W) (a : M (List W)) : mCallB g a d = (a d).bind fun xs d1 => ofOpt (g xs) d1 := rfl
@[simp] theorem ev_andT (a b : M Bool) : mAndT a b d = (a d).bind fun x d1 => if x = true then b d1 else .ok false d1 := rfl
@[simp] theorem ev_orT (a b : M Bool) : mOrT a b d = (a d).bind fun x d1 => if x = true then .ok true d1 else b d1 := rfl
@[simp] theorem ev_notT (a : M Bool) : mNotT a d = (a d).bind fun x d1 => .ok (!x) d1 := rfl
@[simp] theorem ev_test (a : M W) : mTest a d = (a d).bind fun x d1 => match x with
  | .bool b => .ok b d1
  | _ => .bad := rfl
@[simp] theorem ev_truth (a : M W) : mTruth a d = (a d).bind fun x d1 => ofOpt (truth x) d1 := rfl
@[simp] theorem ev_ifE (t : M Bool) (a b : M W) : mIfE t a b d = (t d).bind fun c d1 => if c = true then a d1 else b d1 := rfl
@[simp] theorem ev_andV (a b : M W) : mAndV a b d = (a d).bind fun x d1 => (ofOpt (asB x) d1).bind fun k d2 => if k = true then b d2 else .ok (.bool false) d2 := rfl
@[simp] theorem ev_orV (a b : M W) : mOrV a b d = (a d).bind fun x d1 => (ofOpt (asB x) d1).bind fun k d2 => if k = true then .ok (.bool true) d2 else b d2 := rfl
@[simp] theorem ev_notV (a : M W) : mNotV a d = (a d).bind fun x d1 => (ofOpt (asB x) d1).bind fun k d2 => .ok (.bool (!k)) d2 := rfl
@[simp] theorem ev_chain (g g' : W → W → Option W) (a b c : M W) : mChain g g' a b c d = (a d).bind fun x d1 => (b d1).bind fun y d2 => (ofOpt (g x y) d2).bind fun z d3 => match z with
  | .bool true => (c d3).bind fun u d4 => ofOpt (g' y u) d4
  | .bool false => .ok (.bool false) d3
  | _ => .bad := rfl
@[simp] theorem ev_lst (a : M (List W)) : mLst a d = (a d).bind fun ws d1 => if ws.length ≤ sizeLine then .ok (.list ws) d1 else .bad := rfl
@[simp] theorem ev_tup (a : M (List W)) : mTup a d = (a d).bind fun ws d1 => if ws.length ≤ sizeLine then .ok (.tuple ws) d1 else .bad := rfl
@[simp] theorem ev_rng1 (a : M (List W)) : mRng1 a d = (a d).bind fun w d1 => ofOpt (range1? w) d1 := rfl
@[simp] theorem ev_rng2 (a : M (List W)) : mRng2 a d = (a d).bind fun w d1 => ofOpt (range2? w) d1 := rfl
@[simp] theorem ev_itS (a : M W) : mItS a d = (a d).bind fun w d1 => ofOpt (itemsOf w) d1 := rfl
@[simp] theorem ev_itL (a : M W) : mItL a d = (a d).bind fun w d1 => ofOpt (listOf? w) d1 := rfl
@[simp] theorem ev_yes : mYes d = .ok true d := rfl
@[simp] theorem ev_callV (F : FV) (as : M (List W)) : mCallV F as d = (as d).bind fun ws d1 => match F ws with
  | .ok (.val w) => .ok w d1
  | .ok (.own w) => .ok w d1
  | .ok (.par _) => .bad
  | .exc c => .exc c d1
  | .bad => .bad := rfl
@[simp] theorem ev_callO (F : FV) (as : M (List W)) : mCallO F as d = (as d).bind fun ws d1 => match F ws with
  | .ok (.own w) => .ok w d1
  | .exc c => .exc c d1
  | _ => .bad := rfl
@[simp] theorem ev_callE (F : FV) (as : M (List W)) : mCallE F as d = (as d).bind fun ws d1 => match F ws with
  | .ok (.val w) => .ok w d1
  | _ => .bad := rfl
@[simp] theorem ev_callP (F : FW) (i : Nat) (as : M (List W)) : mCallP F i as d = (ofOpt (mineAt i d) d).bind fun _ d0 => (as d0).bind fun ws d1 => (ofOpt (mineAt i d1) d1).bind fun u d2 => match F u ws with
  | .ok (.val w) u' => .ok w (setMine i u' d2)
  | .exc c u' => .exc c (setMine i u' d2)
  | _ => .bad := rfl
@[simp] theorem ev_var (i : Nat) : mVar i d = match d[i]? with
  | some (some (.val w)) => .ok w d
  | _ => .bad := rfl
@[simp] theorem ev_store (i : Nat) (w : W) : store i w d = match d[i]? with
  | some (some (.par _)) => none
  | some _ => some (d.set i (some (.val w)))
  | none => none := rfl
@[simp] theorem ev_storeOwn (i : Nat) (w : W) : storeOwn i w d = match d[i]? with
  | some (some (.par _)) => none
  | some _ => some (d.set i (some (.own w)))
  | none => none := rfl
@[simp] theorem ev_mineAt (i : Nat) : mineAt i d = match d[i]? with
  | some (some s) => Slot.mine? s
  | _ => none := rfl
@[simp] theorem ev_setMine (i : Nat) (u : W) : setMine i u d = match d[i]? with
  | some (some s) => d.set i (some (Slot.upd s u))
  | _ => d := rfl
@[simp] theorem ev_mineO (w : W) : Slot.mine? (.own w) = some w := rfl
@[simp] theorem ev_mineP (w : W) : Slot.mine? (.par w) = some w := rfl
@[simp] theorem ev_mineV (w : W) : Slot.mine? (.val w) = none := rfl
@[simp] theorem ev_updO (w u : W) : Slot.upd (.own w) u = .own u := rfl
@[simp] theorem ev_updP (w u : W) : Slot.upd (.par w) u = .par u := rfl
@[simp] theorem ev_frz : mFrzS [] (fun d => .next d) d = .next d := rfl
@[simp] theorem ev_frzS (is : List Nat) (m : MS) : mFrzS is m d = m (is.foldl (fun d i => frzAt i d) d) := rfl
@[simp] theorem ev_frzAt (i : Nat) : frzAt i d = match d[i]? with
  | some (some (.own w)) => d.set i (some (.val w))
  | _ => d := rfl
@[simp] theorem ev_frzE (m : M W) : mFrz m d = match m (frzD d) with
  | .ok w _ => if noLD w = true then .ok w d else .bad
  | .exc c _ => .exc c d
  | .bad => .bad := rfl
@[simp] theorem ev_frzT (m : M Bool) : mFrzT m d = match m (frzD d) with
  | .ok b _ => .ok b d
  | .exc c _ => .exc c d
  | .bad => .bad := rfl
@[simp] theorem ev_frzNil : frzD [] = [] := rfl
@[simp] theorem ev_frzCons (o : Option Slot) (r : SD) : frzD (o :: r) = o.map Slot.frz :: frzD r := rfl
@[simp] theorem ev_frzO (w : W) : Slot.frz (.own w) = .val w := rfl
@[simp] theorem ev_frzP (w : W) : Slot.frz (.par w) = .val w := rfl
@[simp] theorem ev_frzV (w : W) : Slot.frz (.val w) = .val w := rfl
@[simp] theorem ev_aug (g : W → W → Option W) (i : Nat) (m : M W) : mAug g i m d = (mVar i d).toS fun x d0 => (m d0).toS fun y d1 => match g x y with
  | some z => sOpt (store i z d1)
  | none => .bad := rfl
@[simp] theorem ev_setIx (g : W → W → W → Option W) (i : Nat) (ix m : M W) : mSetIx g i ix m d = (m d).toS fun w d1 => (ofOpt (mineAt i d1) d1).toS fun _ d1 => (ix d1).toS fun k d2 => (ofOpt (mineAt i d2) d2).toS fun u d2 => match g u k w with
  | some u' => .next (setMine i u' d2)
  | none => .bad := rfl
@[simp] theorem ev_meth (T : String) (g : W → List W → Option (W × W)) (i : Nat) (as : M (List W)) : mMeth T g i as d = (ofOpt (mineAt i d) d).bind fun u0 d0 => if tyW u0 = T then (as d0).bind fun ws d1 => (ofOpt (mineAt i d1) d1).bind fun u d2 => match g u ws with
  | some (c, u') => .ok c (setMine i u' d2)
  | none => .bad else .bad := rfl
@[simp] theorem ev_dget (a b : M W) : mDGet a b d = (a d).bind fun u d1 => (b d1).bind fun k d2 => match dfind u k with
  | some (some w) => .ok w d2
  | _ => .bad := rfl
@[simp] theorem ev_dnew (t : Bool) : mDNew t d = .ok (.dict (if t then [tagT] else [])) d := rfl
@[simp] theorem ev_unpOwn (i n : Nat) (g : GWs) : mUnpOwn i n g d = match mineAt i d with
  | some (.list ws) => if ws.length = n then sOpt (g ws d) else .bad
  | _ => .bad := rfl
@[simp] theorem ev_tupT (n : Nat) (g : GWs) (ws : List W) : gTupW n g (.tuple ws) d = if ws.length = n then g ws d else none := rfl
@[simp] theorem ev_gsNil : gsNil [] d = some d := rfl
@[simp] theorem ev_gsCons (g : GW) (r : GWs) (w : W) (ws : List W) : gsCons g r (w :: ws) d = (g w d).bind fun d1 => r ws d1 := rfl
@[simp] theorem ev_noPart : mNoPart d = .ok none d := rfl
@[simp] theorem ev_part (m : M W) : mPart m d = (m d).bind fun w d1 => (ofOpt (asI w) d1).bind fun i d1 => .ok (some i) d1 := rfl
@[simp] theorem ev_sl (a : M W) (lo hi : MO) : mSl a lo hi d = (a d).bind fun u d1 => (lo d1).bind fun l d2 => (hi d2).bind fun h d3 => ofOpt (slW u l h) d3 := rfl
@[simp] theorem ev_repF (a b : M W) : mRepF a b d = (a d).bind fun x d1 => (b d1).bind fun y d2 => match x, y with
  | .list xs, .int k => if cdec (-(2 ^ 63) ≤ k ∧ k < 2 ^ 63 ∧ xs.length * k.toNat ≤ sizeLine) = true then .ok (.list (List.replicate k.toNat xs).flatten) d2 else .bad
  | _, _ => .bad := rfl
@[simp] theorem ev_nilO : mNilO d = .ok [] d := rfl
@[simp] theorem ev_consV (a : M W) (r : M (List (Bool × W))) : mConsV a r d = (a d).bind fun x d1 => (r d1).bind fun xs d2 => .ok ((false, x) :: xs) d2 := rfl
@[simp] theorem ev_consO (a : M W) (r : M (List (Bool × W))) : mConsO a r d = (a d).bind fun x d1 => (r d1).bind fun xs d2 => .ok ((true, x) :: xs) d2 := rfl
@[simp] theorem ev_par (is : List Nat) (m : M (List (Bool × W))) : mPar is m d = (m d).toS fun ws d1 => sOpt (stores is ws d1) := rfl
@[simp] theorem ev_storesN : stores [] [] d = some d := rfl
@[simp] theorem ev_storesV (i : Nat) (is : List Nat) (w : W) (ws : List (Bool × W)) : stores (i :: is) ((false, w) :: ws) d = (store i w d).bind fun d1 => stores is ws d1 := rfl
@[simp] theorem ev_storesO (i : Nat) (is : List Nat) (w : W) (ws : List (Bool × W)) : stores (i :: is) ((true, w) :: ws) d = (storeOwn i w d).bind fun d1 => stores is ws d1 := rfl
@[simp] theorem ev_isE (n : Nat) (f : Nat → Bool) (m : M W) : mIsE n f m d = (m d).bind fun w d1 => match exOf w with
  | some k => if k < n then .ok (.bool (f k)) d1 else .bad
  | none => .bad := rfl
@[simp] theorem ev_exD (k : Nat) : exOf (exD k) = some k := by simp [exOf]
@[simp] theorem ev_forNil (g : GW) (b : MS) : forD g b [] d = .next d := rfl
@[simp] theorem ev_metV (T : String) (g : W → List W → Option W) (a : M W) (as : M (List W)) : mMetV T g a as d = (a d).bind fun u d1 => if tyW u = T ∧ isDict u = false then (as d1).bind fun ws d2 => ofOpt (g u ws) d2 else .bad := rfl
@[simp] theorem ev_subOwn (i : Nat) (ix : M W) : mSubOwn i ix d = (ofOpt (mineAt i d) d).bind fun _ d => (ix d).bind fun k d1 => (ofOpt (mineAt i d1) d1).bind fun u d1 => match u, k with
  | .list ds, .int j => ofOpt (atI ds j) d1
  | _, _ => .bad := rfl
end
/-! ### operators -/
@[simp] theorem ev_add (i j : Int) : addW (.int i) (.int j) = some (.int (i + j)) := rfl
@[simp] theorem ev_i2 (c : Int → Int → Bool) (g : Int → Int → Int) (i j : Int) : i2 c g (.int i) (.int j) = if c i j = true then some (.int (g i j)) else none := rfl
@[simp] theorem ev_c2 (g : Int → Int → Bool) (i j : Int) : c2 g (.int i) (.int j) = some (.bool (g i j)) := rfl
@[simp] theorem ev_or2 (g g' : W → W → Option W) (a b : W) : or2 g g' a b = match g a b with
  | some c => some c
  | none => g' a b := rfl
@[simp] theorem ev_neg (i : Int) : negW (.int i) = some (.int (-i)) := rfl
theorem ev_mul (i j : Int) (h : i.natAbs.log2 + j.natAbs.log2 < 8000000) : mulW (.int i) (.int j) = some (.int (i * j)) := by
  show (if cdec _ = true then _ else _) = _
  rw [if_pos (cdec_iff.mpr h)]
@[simp] theorem ev_eqI (i j : Int) : eqW (.int i) (.int j) = some (.bool (decide (i = j))) := by
  have h : okD (.int i) = true := by unfold okD; simp [noD, SeqAt.shaped, PyData.canLay0, PyData.depth]
  have h2 : okD (.int j) = true := by unfold okD; simp [noD, SeqAt.shaped, PyData.canLay0, PyData.depth]
  unfold eqW
  rw [h, h2]
  simp [PyData.eqv]
  rfl
@[simp] theorem ev_neI (i j : Int) : neW (.int i) (.int j) = some (.bool (!decide (i = j))) := by
  have h : okD (.int i) = true := by unfold okD; simp [noD, SeqAt.shaped, PyData.canLay0, PyData.depth]
  have h2 : okD (.int j) = true := by unfold okD; simp [noD, SeqAt.shaped, PyData.canLay0, PyData.depth]
  unfold neW
  rw [h, h2]
  simp [PyData.eqv]
  rfl
@[simp] theorem ev_truB (b : Bool) : truth (.bool b) = some b := rfl
@[simp] theorem ev_truI (i : Int) : truth (.int i) = some (i != 0) := rfl
@[simp] theorem ev_truL (ds : List W) : truth (.list ds) = some (!ds.isEmpty) := rfl
@[simp] theorem ev_truT (ds : List W) : truth (.tuple ds) = some (!ds.isEmpty) := rfl
@[simp] theorem ev_asB (b : Bool) : asB (.bool b) = some b := rfl
@[simp] theorem ev_asI (i : Int) : asI (.int i) = some i := rfl
@[simp] theorem ev_min2 (i j : Int) : min2W [.int i, .int j] = some (.int (if j < i then j else i)) := rfl
@[simp] theorem ev_max2 (i j : Int) : max2W [.int i, .int j] = some (.int (if j > i then j else i)) := rfl
@[simp] theorem ev_abs (i : Int) : absW [.int i] = some (.int (if i < 0 then -i else i)) := rfl
@[simp] theorem ev_intI (i : Int) : intW [.int i] = some (.int i) := rfl
@[simp] theorem ev_intB (b : Bool) : intW [.bool b] = some (.int (if b then 1 else 0)) := rfl
@[simp] theorem ev_lenL (ds : List W) : lenW [.list ds] = some (.int ds.length) := rfl
@[simp] theorem ev_lenT (ds : List W) : lenW [.tuple ds] = some (.int ds.length) := rfl
@[simp] theorem ev_itemsL (ds : List W) : itemsOf (.list ds) = some ds := rfl
@[simp] theorem ev_itemsT (ds : List W) : itemsOf (.tuple ds) = some ds := rfl
@[simp] theorem ev_listOf (ds : List W) : listOf? (.list ds) = some ds := rfl
@[simp] theorem ev_isN (a : W) : isNW a .none = some (.bool (isNone a)) := rfl
@[simp] theorem ev_notN (a : W) : notNW a .none = some (.bool (!isNone a)) := rfl
@[simp] theorem ev_isNoneN : isNone .none = true := rfl
@[simp] theorem ev_isNoneI (i : Int) : isNone (.int i) = false := rfl
@[simp] theorem ev_isNoneL (l : List W) : isNone (.list l) = false := rfl
@[simp] theorem ev_isNoneT (l : List W) : isNone (.tuple l) = false := rfl
@[simp] theorem ev_isNoneS (x : Str) : isNone (.str x) = false := rfl
@[simp] theorem ev_isNoneB (b : Bool) : isNone (.bool b) = false := rfl
@[simp] theorem ev_ixL (ds : List W) (i : Int) : ixW (.list ds) (.int i) = atI ds i := rfl
@[simp] theorem ev_ixT (ds : List W) (i : Int) : ixW (.tuple ds) (.int i) = atI ds i := rfl
@[simp] theorem ev_slL (ds : List W) (lo hi : Option Int) : slW (.list ds) lo hi = some (.list (cutA ds lo hi)) := rfl
@[simp] theorem ev_slT (ds : List W) (lo hi : Option Int) : slW (.tuple ds) lo hi = some (.tuple (cutA ds lo hi)) := rfl
@[simp] theorem ev_app (ds : List W) (w : W) : appendW (.list ds) [w] = if ds.length < sizeLine then some (.none, .list (ds ++ [w])) else none := rfl
@[simp] theorem ev_tyL (ds : List W) : tyW (.list ds) = "list" := rfl
@[simp] theorem ev_noI (i : Int) : noLD (.int i) = true := rfl
@[simp] theorem ev_noB (b : Bool) : noLD (.bool b) = true := rfl
@[simp] theorem ev_noN : noLD .none = true := rfl
@[simp] theorem ev_noS (x : Str) : noLD (.str x) = true := rfl
theorem kit_int_int : kitB "int" "int" = some true := by decide +kernel
theorem kit_int_bool : kitB "int" "bool" = some false := by decide +kernel
theorem kit_bool_int : kitB "bool" "int" = some true := by decide +kernel
theorem kit_bool_bool : kitB "bool" "bool" = some true := by decide +kernel
theorem kit_none_int : kitB "NoneType" "int" = some false := by decide +kernel
theorem kit_none_bool : kitB "NoneType" "bool" = some false := by decide +kernel
theorem kit_str_int : kitB "str" "int" = some false := by decide +kernel
theorem kit_str_bool : kitB "str" "bool" = some false := by decide +kernel
theorem kit_str_str : kitB "str" "str" = some true := by decide +kernel
theorem kit_list_int : kitB "list" "int" = some false := by decide +kernel
theorem kit_tuple_int : kitB "tuple" "int" = some false := by decide +kernel
theorem kit_list_list : kitB "list" "list" = some true := by decide +kernel
theorem kit_tuple_tuple : kitB "tuple" "tuple" = some true := by decide +kernel
theorem kit_list_tuple : kitB "list" "tuple" = some false := by decide +kernel
theorem kit_tuple_list : kitB "tuple" "list" = some false := by decide +kernel
@[simp] theorem ev_ii (i : Int) : isiW "int" (.int i) = some (.bool true) := by unfold isiW tyN; simp [kit_int_int]
@[simp] theorem ev_ib (i : Int) : isiW "bool" (.int i) = some (.bool false) := by unfold isiW tyN; simp [kit_int_bool]
@[simp] theorem ev_ni : isiW "int" .none = some (.bool false) := by unfold isiW tyN; simp [kit_none_int]
@[simp] theorem ev_si (x : Str) : isiW "int" (.str x) = some (.bool false) := by unfold isiW tyN; simp [kit_str_int]
@[simp] theorem ev_bi (b : Bool) : isiW "int" (.bool b) = some (.bool true) := by unfold isiW tyN; simp [kit_bool_int]
@[simp] theorem ev_bb (b : Bool) : isiW "bool" (.bool b) = some (.bool true) := by unfold isiW tyN; simp [kit_bool_bool]
@[simp] theorem ev_li (l : List W) : isiW "int" (.list l) = some (.bool false) := by unfold isiW tyN; simp [kit_list_int]
@[simp] theorem ev_ti (l : List W) : isiW "int" (.tuple l) = some (.bool false) := by unfold isiW tyN; simp [kit_tuple_int]
@[simp] theorem ev_ll (l : List W) : isiW "list" (.list l) = some (.bool true) := by unfold isiW tyN; simp [kit_list_list]
@[simp] theorem ev_tt (l : List W) : isiW "tuple" (.tuple l) = some (.bool true) := by unfold isiW tyN; simp [kit_tuple_tuple]
@[simp] theorem ev_lt (l : List W) : isiW "tuple" (.list l) = some (.bool false) := by unfold isiW tyN; simp [kit_list_tuple]
@[simp] theorem ev_tl (l : List W) : isiW "list" (.tuple l) = some (.bool false) := by unfold isiW tyN; simp [kit_tuple_list]
/-! ### running a def -/
@[simp] theorem ev_sdV (n : Nat) (ws : List W) : sdV n ws = ws.map (fun w => some (.val w)) ++ List.replicate (n - ws.length) none := rfl
@[simp] theorem log_small {n : Nat} (h : n < 9000) : n.log2 < 9000 := Nat.lt_of_le_of_lt (Nat.log2_le_self n) h
@[simp] theorem le_line {n : Nat} (h : n ≤ 16000000) : n ≤ sizeLine := Nat.le_trans h (by decide)
@[simp] theorem lt_line {n : Nat} (h : n < 16000000) : n < sizeLine := Nat.lt_of_lt_of_le h (by decide)
section
variable (d : SD)
@[simp] theorem ev_lc (vs : List Nat) (it : M (List W)) (g : GW) (t : M Bool) (e : M W) : mLc vs it g t e d = (it d).bind fun ws d1 => if cleanD d1 vs = true ∧ ws.length ≤ sizeLine then (match lcD vs g t e ws d1 with
  | .ok ys d2 => .ok (.list ys) (backD d1 vs d2)
  | _ => .bad) else .bad := rfl
@[simp] theorem ev_lcNil (vs : List Nat) (g : GW) (t : M Bool) (e : M W) : lcD vs g t e [] d = .ok [] d := rfl
@[simp] theorem ev_clean0 : cleanD d [] = true := rfl
@[simp] theorem ev_clean (v : Nat) (vs : List Nat) : cleanD d (v :: vs) = ((match d[v]? with
  | some (some (.own _)) => false
  | some (some (.par _)) => false
  | _ => true) && cleanD d vs) := rfl
@[simp] theorem ev_wipe0 : wipeD d [] = d := rfl
@[simp] theorem ev_wipe (v : Nat) (vs : List Nat) : wipeD d (v :: vs) = (wipeD d vs).set v none := rfl
@[simp] theorem ev_back0 (d0 : SD) : backD d0 [] d = d := rfl
@[simp] theorem ev_back (d0 : SD) (v : Nat) (vs : List Nat) : backD d0 (v :: vs) d = (backD d0 vs d).set v (d0.getD v none) := rfl
theorem lcD_cons (vs : List Nat) (g : GW) (t : M Bool) (e : M W) (w : W) (ws : List W) : lcD vs g t e (w :: ws) d = match g w (wipeD d vs) with
  | none => .bad
  | some d1 => (t d1).bind fun b d2 => if b = true then (e d2).bind fun y d3 => (lcD vs g t e ws d3).bind fun ys d4 => .ok (y :: ys) d4 else lcD vs g t e ws d2 := rfl
end
theorem sizeLine_big : 1000000 ≤ sizeLine := by decide
/-- a for over a range, by its turns -/
theorem forD_cons (g : GW) (b : MS) (w : W) (ws : List W) (d : SD) : forD g b (w :: ws) d = match g w d with
  | none => .bad
  | some d1 => match b d1 with
    | .next d2 => forD g b ws d2
    | .cont d2 => forD g b ws d2
    | .brk d2 => .next d2
    | .ret r d2 => .ret r d2
    | .exc c d2 => .exc c d2
    | .bad => .bad := rfl
theorem rangeW_succ (lo : Int) (n : Nat) : rangeW lo (n + 1) = .int lo :: rangeW (lo + 1) n := by
  unfold rangeW
  rw [List.range_succ_eq_map, List.map_cons, List.map_map]
  congr 1
  · simp
  · apply List.map_congr_left
    intro i _
    show PyData.int _ = PyData.int _
    congr 1
    push_cast
    omega
theorem rangeW_zero (lo : Int) : rangeW lo 0 = [] := rfl
theorem range2_of {a b : Int} {n : Nat} (h1 : -4611686018427387904 ≤ a) (h2 : a < 4611686018427387904) (h3 : -4611686018427387904 ≤ b) (h4 : b < 4611686018427387904) (h : (b - a).toNat = n) : range2? [.int a, .int b] = some (rangeW a n) := by
  subst h
  show (if (small62 a && small62 b) = true then _ else _) = _
  rw [small62_mk h1 h2, small62_mk h3 h4]
  rfl
theorem range1_of {b : Int} {n : Nat} (h3 : -4611686018427387904 ≤ b) (h4 : b < 4611686018427387904) (h : b.toNat = n) : range1? [.int b] = some (rangeW 0 n) := by
  subst h
  show (if small62 b = true then _ else _) = _
  rw [small62_mk h3 h4]
  rfl
/-- an invariant carried through a for over a range -/
theorem forD_range {g : GW} {b : MS} (P : Nat → SD → Prop) (lo : Int) : ∀ (n : Nat) (k : Nat) (d : SD), P k d →
    (∀ (i : Nat) (d : SD), k ≤ i → i < k + n → P i d → ∃ d1 d2, g (.int (lo + (i : Int))) d = some d1 ∧ (b d1 = .next d2 ∨ b d1 = .cont d2) ∧ P (i + 1) d2) → ∃ d', forD g b (rangeW (lo + (k : Int)) n) d = .next d' ∧ P (k + n) d'
  | 0, k, d, h, _ => ⟨d, rfl, h⟩
  | n + 1, k, d, h, hs => by
    obtain ⟨d1, d2, e1, e2, h2⟩ := hs k d (Nat.le_refl _) (by omega) h
    obtain ⟨d', e3, h3⟩ := forD_range P lo n (k + 1) d2 h2 fun i d a b c => hs i d (by omega) (by omega) c
    refine ⟨d', ?_, by rw [show k + (n + 1) = k + 1 + n by omega]; exact h3⟩
    rw [rangeW_succ, forD_cons, e1]
    have e : lo + (k : Int) + 1 = lo + ((k + 1 : Nat) : Int) := by push_cast; omega
    rcases e2 with e2 | e2 <;> (dsimp only; rw [e2, e]; exact e3)
theorem depthAll_ints' (ns : List Int) : PyData.depthAll (ns.map PyData.int) ≤ 1 := by
  induction ns with
  | nil => simp [PyData.depthAll]
  | cons n r ih => simp [PyData.depthAll, PyData.depth] at ih ⊢; omega
theorem okD_ints (ns : List Int) : okD (.list (ns.map PyData.int)) = true := by
  have h1 : noD (.list (ns.map PyData.int)) = true := by
    show noDs (ns.map PyData.int) = true
    induction ns with
    | nil => rfl
    | cons n r ih => simp [noDs, noD, ih]
  unfold okD
  rw [h1, Bool.true_and]
  exact PySem.W.shaped_ints ns
/-! ### comprehensions -/
theorem back_of_wipe {d0 d : SD} {vs : List Nat} (h : wipeD d vs = wipeD d0 vs) : backD d0 vs d = d0 := by
  have hl : d.length = d0.length := by rw [← wipeD_length d vs, h, wipeD_length]
  apply List.ext_getElem?
  intro j
  by_cases hj : j ∈ vs
  · by_cases lt : j < d.length
    · rw [backD_in hj lt hl.symm]
    · rw [List.getElem?_eq_none (by rw [backD_length]; omega), List.getElem?_eq_none (by omega)]
  · rw [backD_out hj, ← wipeD_out (d := d) hj, h, wipeD_out hj]
theorem lcD_filter {vs : List Nat} {g : GW} {t : M Bool} {e : M W} {d0 : SD} {p : W → Bool} {f : W → W} : ∀ {ws : List W} {d : SD}, wipeD d vs = wipeD d0 vs →
    (∀ w ∈ ws, ∃ d1 d2, g w (wipeD d0 vs) = some d1 ∧ t d1 = .ok (p w) d2 ∧ (p w = true → ∃ d3, e d2 = .ok (f w) d3 ∧ wipeD d3 vs = wipeD d0 vs) ∧ (p w = false → wipeD d2 vs = wipeD d0 vs)) → ∃ d4, lcD vs g t e ws d = .ok ((ws.filter p).map f) d4 ∧ wipeD d4 vs = wipeD d0 vs
  | [], d, hd, _ => ⟨d, rfl, hd⟩
  | w :: ws, d, hd, h => by
    obtain ⟨d1, d2, h1, h2, h3, h4⟩ := h w List.mem_cons_self
    rw [lcD_cons, hd, h1]
    dsimp only
    rw [h2]
    dsimp only [Out.bind]
    cases q : p w with
    | true =>
      obtain ⟨d3, h5, h6⟩ := h3 q
      obtain ⟨d4, h7, h8⟩ := lcD_filter (ws := ws) h6 fun x hx => h x (List.mem_cons_of_mem _ hx)
      refine ⟨d4, ?_, h8⟩
      rw [if_pos rfl, h5]
      dsimp only
      rw [h7, List.filter_cons, if_pos q]
      rfl
    | false =>
      obtain ⟨d4, h7, h8⟩ := lcD_filter (ws := ws) (h4 q) fun x hx => h x (List.mem_cons_of_mem _ hx)
      refine ⟨d4, ?_, h8⟩
      rw [if_neg Bool.false_ne_true, h7, List.filter_cons, if_neg (by rw [q]; exact Bool.false_ne_true)]
theorem mLc_filter {vs : List Nat} {it : M (List W)} {g : GW} {t : M Bool} {e : M W} {d d' : SD} {ws : List W} (p : W → Bool) (f : W → W) (hit : it d = .ok ws d') (hc : cleanD d' vs = true) (hl : ws.length ≤ sizeLine)
    (h : ∀ w ∈ ws, ∃ d1 d2, g w (wipeD d' vs) = some d1 ∧ t d1 = .ok (p w) d2 ∧ (p w = true → ∃ d3, e d2 = .ok (f w) d3 ∧ wipeD d3 vs = wipeD d' vs) ∧ (p w = false → wipeD d2 vs = wipeD d' vs)) : mLc vs it g t e d = .ok (.list ((ws.filter p).map f)) d' := by
  obtain ⟨d4, h1, h2⟩ := lcD_filter (d := d') rfl h
  rw [ev_lc, hit]
  dsimp only [Out.bind]
  rw [if_pos ⟨hc, hl⟩, h1]
  dsimp only
  rw [back_of_wipe h2]
theorem mLc_map {vs : List Nat} {it : M (List W)} {g : GW} {t : M Bool} {e : M W} {d d' : SD} {ws : List W} (f : W → W) (hit : it d = .ok ws d') (hc : cleanD d' vs = true) (hl : ws.length ≤ sizeLine)
    (h : ∀ w ∈ ws, ∃ d1 d2 d3, g w (wipeD d' vs) = some d1 ∧ t d1 = .ok true d2 ∧ e d2 = .ok (f w) d3 ∧ wipeD d3 vs = wipeD d' vs) : mLc vs it g t e d = .ok (.list (ws.map f)) d' := by
  have := mLc_filter (fun _ => true) f hit hc hl fun w hw => by
    obtain ⟨d1, d2, d3, h1, h2, h3, h4⟩ := h w hw
    exact ⟨d1, d2, h1, h2, fun _ => ⟨d3, h3, h4⟩, fun z => Bool.noConfusion z⟩
  rw [List.filter_eq_self.mpr (fun _ _ => rfl)] at this
  exact this
end Qd
end
section
set_option Elab.async false
set_option linter.all false
set_option maxRecDepth 100000
set_option maxHeartbeats 1000000
/-! More equations; steps of a law. -/
namespace Qd
open PySem PySem.Spec PyProof.Rows L2
/-- the law's answer is True -/
def Yes (o : SOut) : Prop := ∃ d, o = .ret (.val (.bool true)) d
theorem sqE {a b : MS} {d d' : SD} (h : a d = .next d') (k : Yes (b d')) : Yes (mSeq a b d) := by
  rw [ev_seq, h]; exact k
theorem frzE {is : List Nat} {m : MS} {d d' : SD} (h : is.foldl (fun d i => frzAt i d) d = d') (k : Yes (m d')) : Yes (mFrzS is m d) := by
  rw [ev_frzS, h]; exact k
/-- an answer -/
def Ret (r : Slot) (o : SOut) : Prop := ∃ d, o = .ret r d
theorem sqT {r : Slot} {a b : MS} {d d' : SD} (h : a d = .next d') (k : Ret r (b d')) : Ret r (mSeq a b d) := by
  rw [ev_seq, h]; exact k
theorem frzT {r : Slot} {is : List Nat} {m : MS} {d d' : SD} (h : is.foldl (fun d i => frzAt i d) d = d') (k : Ret r (m d')) : Ret r (mFrzS is m d) := by
  rw [ev_frzS, h]; exact k
theorem retT {r : Slot} {m : MS} {d d' : SD} (h : m d = .ret r d') : Ret r (m d) := ⟨d', h⟩
theorem runV_of {n : Nat} {m : MS} {ws : List W} {r : Slot} (h : Ret r (m (sdV n ws))) : runV n m ws = .ok r := by
  obtain ⟨d, e⟩ := h
  unfold runV
  rw [e]
/-- a def's answer -/
theorem sqR {a b : MS} {d d' : SD} {o : SOut} (h : a d = .next d') (k : b d' = o) : mSeq a b d = o := by
  rw [ev_seq, h]; exact k
theorem frzR {is : List Nat} {m : MS} {d d' : SD} {o : SOut} (h : is.foldl (fun d i => frzAt i d) d = d') (k : m d' = o) : mFrzS is m d = o := by
  rw [ev_frzS, h]; exact k
abbrev iv (n : Nat) : Option Slot := some (.val (.int (n : Int)))
abbrev sv (w : W) : Option Slot := some (.val w)
/-- data of a few levels, without dicts and deep texts -/
def lv : Nat → W → Prop
  | _, .none => True
  | _, .bool _ => True
  | _, .int _ => True
  | _, .str x => PyData.strOk x = true
  | k + 1, .list ds => ∀ d ∈ ds, lv k d
  | k + 1, .tuple ds => ∀ d ∈ ds, lv k d
  | _, _ => False
theorem noDs_of : ∀ {ds : List W}, (∀ d ∈ ds, noD d = true) → noDs ds = true
  | [], _ => rfl
  | d :: r, h => by
    show (noD d && noDs r) = true
    rw [h d List.mem_cons_self, noDs_of fun x hx => h x (List.mem_cons_of_mem _ hx)]; rfl
theorem canLayAll0_of : ∀ {ds : List W}, (∀ d ∈ ds, PyData.canLay0 d = true) → PyData.canLayAll0 ds = true
  | [], _ => by unfold PyData.canLayAll0; rfl
  | d :: r, h => by
    unfold PyData.canLayAll0
    rw [h d List.mem_cons_self, canLayAll0_of fun x hx => h x (List.mem_cons_of_mem _ hx)]; rfl
theorem depthAll_of {k : Nat} : ∀ {ds : List W}, (∀ d ∈ ds, PyData.depth d ≤ k) → PyData.depthAll ds ≤ k
  | [], _ => by unfold PyData.depthAll; exact Nat.zero_le _
  | d :: r, h => by
    unfold PyData.depthAll
    have h1 := h d List.mem_cons_self
    have h2 := depthAll_of (ds := r) fun x hx => h x (List.mem_cons_of_mem _ hx)
    omega
theorem lv_all : ∀ {k : Nat} {w : W}, lv k w → noD w = true ∧ PyData.canLay0 w = true ∧ PyData.depth w ≤ k + 1
  | k, .none, _ => ⟨rfl, by simp [PyData.canLay0], by simp [PyData.depth]⟩
  | k, .bool _, _ => ⟨rfl, by simp [PyData.canLay0], by simp [PyData.depth]⟩
  | k, .int _, _ => ⟨rfl, by simp [PyData.canLay0], by simp [PyData.depth]⟩
  | k, .str x, h => ⟨rfl, by
      cases k <;> (unfold PyData.canLay0; exact h), by simp [PyData.depth]⟩
  | 0, .list ds, h => h.elim
  | 0, .tuple ds, h => h.elim
  | k + 1, .list ds, h => by
    have h : ∀ d ∈ ds, lv k d := h
    refine ⟨noDs_of fun d hd => (lv_all (h d hd)).1, ?_, ?_⟩
    · unfold PyData.canLay0; exact canLayAll0_of fun d hd => (lv_all (h d hd)).2.1
    · have := depthAll_of fun d hd => (lv_all (h d hd)).2.2
      unfold PyData.depth; omega
  | k + 1, .tuple ds, h => by
    have h : ∀ d ∈ ds, lv k d := h
    refine ⟨noDs_of fun d hd => (lv_all (h d hd)).1, ?_, ?_⟩
    · unfold PyData.canLay0; exact canLayAll0_of fun d hd => (lv_all (h d hd)).2.1
    · have := depthAll_of fun d hd => (lv_all (h d hd)).2.2
      unfold PyData.depth; omega
  | k, .dict _, h => by cases k <;> exact h.elim
theorem lv_ok {k : Nat} (hk : k ≤ 60) {w : W} (h : lv k w) : okD w = true := by
  obtain ⟨h1, h2, h3⟩ := lv_all h
  unfold okD SeqAt.shaped
  rw [h1, h2, Bool.true_and, Bool.true_and]
  exact decide_eq_true (by omega)
theorem okD_refl {w : W} (h : okD w = true) : PyData.eqv w w = true := by
  unfold okD at h
  rw [Bool.and_eq_true] at h
  exact SeqAt.eqv_refl w (SeqAt.canLay_of_shaped h.2)
theorem eq_self {w : W} (h : okD w = true) : eqW w w = some (.bool true) := by
  unfold eqW
  rw [h, okD_refl h]
  rfl
theorem ne_self {w : W} (h : okD w = true) : neW w w = some (.bool false) := by
  unfold neW
  rw [h, okD_refl h]
  rfl
/-! ### comprehensions over a list that is a map -/
theorem lcD_of {α : Type} {vs : List Nat} {g : GW} {t : M Bool} {e : M W} {d0 : SD} (f0 f : α → W) (p : α → Bool) : ∀ (l : List α) {d : SD}, wipeD d vs = wipeD d0 vs →
    (∀ a ∈ l, ∃ d1 d2, g (f0 a) (wipeD d0 vs) = some d1 ∧ t d1 = .ok (p a) d2 ∧ (p a = true → ∃ d3, e d2 = .ok (f a) d3 ∧ wipeD d3 vs = wipeD d0 vs) ∧ (p a = false → wipeD d2 vs = wipeD d0 vs)) → ∃ d4, lcD vs g t e (l.map f0) d = .ok ((l.filter p).map f) d4 ∧ wipeD d4 vs = wipeD d0 vs
  | [], d, hd, _ => ⟨d, rfl, hd⟩
  | a :: l, d, hd, h => by
    obtain ⟨d1, d2, h1, h2, h3, h4⟩ := h a List.mem_cons_self
    rw [List.map_cons, lcD_cons, hd, h1]
    dsimp only
    rw [h2]
    dsimp only [Out.bind]
    cases q : p a with
    | true =>
      obtain ⟨d3, h5, h6⟩ := h3 q
      obtain ⟨d4, h7, h8⟩ := lcD_of f0 f p l h6 fun x hx => h x (List.mem_cons_of_mem _ hx)
      refine ⟨d4, ?_, h8⟩
      rw [if_pos rfl, h5]
      dsimp only
      rw [h7, List.filter_cons, if_pos q]
      rfl
    | false =>
      obtain ⟨d4, h7, h8⟩ := lcD_of f0 f p l (h4 q) fun x hx => h x (List.mem_cons_of_mem _ hx)
      refine ⟨d4, ?_, h8⟩
      rw [if_neg Bool.false_ne_true, h7, List.filter_cons, if_neg (by rw [q]; exact Bool.false_ne_true)]
theorem mLc_of {α : Type} {vs : List Nat} {it : M (List W)} {g : GW} {t : M Bool} {e : M W} {d d' : SD} (l : List α) (f0 f : α → W) (p : α → Bool) (hit : it d = .ok (l.map f0) d') (hc : cleanD d' vs = true) (hl : l.length ≤ sizeLine)
    (h : ∀ a ∈ l, ∃ d1 d2, g (f0 a) (wipeD d' vs) = some d1 ∧ t d1 = .ok (p a) d2 ∧ (p a = true → ∃ d3, e d2 = .ok (f a) d3 ∧ wipeD d3 vs = wipeD d' vs) ∧ (p a = false → wipeD d2 vs = wipeD d' vs)) : mLc vs it g t e d = .ok (.list ((l.filter p).map f)) d' := by
  obtain ⟨d4, h1, h2⟩ := lcD_of f0 f p l (d := d') rfl h
  rw [ev_lc, hit]
  dsimp only [Out.bind]
  rw [if_pos ⟨hc, by rw [List.length_map]; exact hl⟩, h1]
  dsimp only
  rw [back_of_wipe h2]
theorem mLc_all {α : Type} {vs : List Nat} {it : M (List W)} {g : GW} {t : M Bool} {e : M W} {d d' : SD} (l : List α) (f0 f : α → W) (hit : it d = .ok (l.map f0) d') (hc : cleanD d' vs = true) (hl : l.length ≤ sizeLine)
    (h : ∀ a ∈ l, ∃ d1 d2 d3, g (f0 a) (wipeD d' vs) = some d1 ∧ t d1 = .ok true d2 ∧ e d2 = .ok (f a) d3 ∧ wipeD d3 vs = wipeD d' vs) : mLc vs it g t e d = .ok (.list (l.map f)) d' := by
  have := mLc_of l f0 f (fun _ => true) hit hc hl fun a ha => by
    obtain ⟨d1, d2, d3, h1, h2, h3, h4⟩ := h a ha
    exact ⟨d1, d2, h1, h2, fun _ => ⟨d3, h3, h4⟩, fun z => Bool.noConfusion z⟩
  rw [List.filter_eq_self.mpr (fun _ _ => rfl)] at this
  exact this
theorem rangeW_map (lo : Int) (n : Nat) : rangeW lo n = (List.range n).map fun (i : Nat) => PyData.int (lo + (i : Int)) := rfl
/-- a for over a list, with what holds between the turns -/
theorem forD_inv {α : Type} {g : GW} {b : MS} (f0 : α → W) (P : List α → SD → Prop) : ∀ (l : List α) (d : SD), P l d →
    (∀ (a : α) (r : List α) (d : SD), P (a :: r) d → ∃ d1 d2, g (f0 a) d = some d1 ∧ (b d1 = .next d2 ∨ b d1 = .cont d2) ∧ P r d2) → ∃ d', forD g b (l.map f0) d = .next d' ∧ P [] d'
  | [], d, h, _ => ⟨d, rfl, h⟩
  | a :: r, d, h, hs => by
    obtain ⟨d1, d2, e1, e2, h2⟩ := hs a r d h
    obtain ⟨d', e3, h3⟩ := forD_inv f0 P r d2 h2 hs
    refine ⟨d', ?_, h3⟩
    rw [List.map_cons, forD_cons, e1]
    rcases e2 with e2 | e2 <;> (dsimp only; rw [e2]; exact e3)
end Qd
end
section
set_option Elab.async false
set_option linter.all false
set_option maxRecDepth 100000
set_option maxHeartbeats 1000000
/-! Yet more equations; answers of defs. -/
namespace Qd
open PySem PySem.Spec PyProof.Rows L2
/-- the recursion's ground: promises nothing -/
theorem fn_bad {P : Program} {w : World} {K : PySem.W.Frag} {mg : Str → Option Value} {base : Heap} {CX : CXT} {k : Nat} {f : Addr} {fd : FuncData} {ps : List Str} {T : Nat → Value} {on : On} {np : Nat} : FnOk P w K mg base CX k f fd ps (spV K T on (fun _ => .bad) np) :=
  ⟨fun vs H Q E h => by obtain ⟨_, _, _, _, _, z⟩ := h; exact z.elim, fun A outer s H args us vs Q E hr he hb hv h => by obtain ⟨_, _, _, _, _, z⟩ := h; exact z.elim⟩
section
variable (d : SD)
@[simp] theorem ev_gx (stop : Bool) (vs : List Nat) (it : M (List W)) (g : GW) (t : M Bool) (e : M W) : mGx stop vs it g t e d = (it d).bind fun ws d1 => if cleanD d1 vs = true then
  (match gxD stop vs g t e ws d1 with
    | .ok b d2 => .ok (.bool b) (backD d1 vs d2)
    | _ => .bad) else .bad := rfl
@[simp] theorem ev_gxNil (stop : Bool) (vs : List Nat) (g : GW) (t : M Bool) (e : M W) : gxD stop vs g t e [] d = .ok (!stop) d := rfl
theorem gxD_cons (stop : Bool) (vs : List Nat) (g : GW) (t : M Bool) (e : M W) (w : W) (ws : List W) : gxD stop vs g t e (w :: ws) d = match g w (wipeD d vs) with
    | none => .bad
    | some d1 => (t d1).bind fun b d2 => if b = true then (e d2).bind fun y d3 => (ofOpt (asB y) d3).bind fun k d4 => if k = stop then .ok stop d4 else gxD stop vs g t e ws d4 else gxD stop vs g t e ws d2 := rfl
@[simp] theorem ev_listRev (a : M W) : mListRev a d = (a d).bind fun w d1 => match w with
  | .list ws => .ok (.list ws.reverse) d1
  | _ => .bad := rfl
@[simp] theorem ev_itRev (a : M W) : mItRev a d = (a d).bind fun w d1 => (ofOpt (itemsOf w) d1).bind fun ws d2 => .ok ws.reverse d2 := rfl
@[simp] theorem ev_rng3 (a : M (List W)) : mRng3 a d = (a d).bind fun w d1 => ofOpt (range3? w) d1 := rfl
@[simp] theorem ev_enum (a : M (List W)) : mEnum a d = (a d).bind fun ws d1 => match ws with
  | [.list us] => .ok (enumW 0 us) d1
  | _ => .bad := rfl
@[simp] theorem ev_zip (a : M (List W)) : mZip a d = (a d).bind fun ws d1 => match ws with
  | [.list us, .list ts] => .ok (zipW us ts) d1
  | [.tuple us, .tuple ts] => .ok (zipW us ts) d1
  | _ => .bad := rfl
@[simp] theorem ev_star (a : M W) (r : M (List W)) : mStar a r d = (a d).bind fun w d1 => (ofOpt (itemsOf w) d1).bind fun us d2 => (r d2).bind fun ws d3 => .ok (us ++ ws) d3 := rfl
@[simp] theorem ev_sorted (as : M (List W)) : mSorted as d = (as d).bind fun ws d1 => match ws with
  | [.list ds] => if (okD (.list ds) && (ds.all fun x => ds.all fun y => PySem.W.alike x y) && sortableB ds) = true then .ok (.list (sortW ds)) d1 else .bad
  | _ => .bad := rfl
end
theorem range3_of {i j c : Int} {n : Nat} (h : RgC i j c n) (hn : (Builtin.Range.rangeSize i j c).toNat = n) : range3? [.int i, .int j, .int c] = some (rangeC i c n) := by
  show (if cdec (∃ n, RgC i j c n) = true then some (rangeC i c (Builtin.Range.rangeSize i j c).toNat) else none) = _
  rw [if_pos (cdec_iff.mpr ⟨n, h⟩), hn]
/-! ### answers -/
def Exc (c : Nat) (o : SOut) : Prop := ∃ d, o = .exc c d
theorem sqX {c : Nat} {a b : MS} {d d' : SD} (h : a d = .next d') (k : Exc c (b d')) : Exc c (mSeq a b d) := by
  rw [ev_seq, h]; exact k
theorem sqX1 {c : Nat} {a b : MS} {d d' : SD} (h : a d = .exc c d') : Exc c (mSeq a b d) := ⟨d', by rw [ev_seq, h]; rfl⟩
theorem sqT1 {r : Slot} {a b : MS} {d d' : SD} (h : a d = .ret r d') : Ret r (mSeq a b d) := ⟨d', by rw [ev_seq, h]; rfl⟩
theorem sqY1 {a b : MS} {d d' : SD} (h : a d = .ret (.val (.bool true)) d') : Yes (mSeq a b d) := ⟨d', by rw [ev_seq, h]; rfl⟩
theorem retY {m : MS} {d d' : SD} (h : m d = .ret (.val (.bool true)) d') : Yes (m d) := ⟨d', h⟩
theorem runV_exc {n : Nat} {m : MS} {ws : List W} {c : Nat} (h : Exc c (m (sdV n ws))) : runV n m ws = .exc c := by
  obtain ⟨d, e⟩ := h
  unfold runV
  rw [e]
theorem runV_yes {n : Nat} {m : MS} {ws : List W} (h : Yes (m (sdV n ws))) : runV n m ws = .ok (.val (.bool true)) := by
  obtain ⟨d, e⟩ := h
  unfold runV
  rw [e]
/-- a step is a sequence -/
theorem sqA {a b c : MS} {d : SD} : mSeq (mSeq a b) c d = mSeq a (mSeq b c) d := by
  simp only [ev_seq]
  cases a d <;> rfl
/-! ### list and tuple sums, repetition -/
theorem add_list {xs ys : List W} (h : xs.length + ys.length ≤ 16000000) : addW (.list xs) (.list ys) = some (.list (xs ++ ys)) := by
  have c : xs.length + ys.length ≤ sizeLine := le_line h
  show (if xs.length + ys.length ≤ sizeLine then some (PyData.list (xs ++ ys)) else none) = _
  rw [if_pos c]
theorem add_tup {xs ys : List W} (h : xs.length + ys.length ≤ 16000000) : addW (.tuple xs) (.tuple ys) = some (.tuple (xs ++ ys)) := by
  have c : xs.length + ys.length ≤ sizeLine := le_line h
  show (if xs.length + ys.length ≤ sizeLine then some (PyData.tuple (xs ++ ys)) else none) = _
  rw [if_pos c]
theorem log2_le_of {n k : Nat} (h : n < 2 ^ k) : n.log2 ≤ k := by
  by_cases e : n = 0
  · subst e; exact Nat.zero_le _
  · exact Nat.le_of_lt ((Nat.log2_lt e).mpr h)
theorem mul_fit {i j : Int} {a b : Nat} (hi : i.natAbs < 2 ^ a) (hj : j.natAbs < 2 ^ b) (h : a + b < 8000000) : mulW (.int i) (.int j) = some (.int (i * j)) := by
  refine ev_mul i j ?_
  have := log2_le_of hi
  have := log2_le_of hj
  omega
theorem mul_sm {i j : Int} (hi : i.natAbs < 18446744073709551616) (hj : j.natAbs < 18446744073709551616) : mulW (.int i) (.int j) = some (.int (i * j)) :=
  mul_fit (a := 64) (b := 64) hi hj (by decide)
/-! ### naturals as data -/
def natW (cs : List Nat) : List W := cs.map fun (c : Nat) => PyData.int (c : Int)
def intW' (cs : List Int) : List W := cs.map PyData.int
theorem natW_len (cs : List Nat) : (natW cs).length = cs.length := List.length_map ..
theorem natW_ints (cs : List Nat) : natW cs = (cs.map fun (x : Nat) => (x : Int)).map PyData.int := by
  unfold natW
  rw [List.map_map]
  rfl
theorem natW_app (a b : List Nat) : natW (a ++ b) = natW a ++ natW b := List.map_append ..
theorem natW_get {cs : List Nat} {i : Nat} {c : Nat} (h : cs[i]? = some c) : (natW cs)[i]? = some (.int (c : Int)) := by
  unfold natW
  rw [List.getElem?_map, h]; rfl
theorem ints_ok (cs : List Int) : okD (.list (cs.map PyData.int)) = true ∧ alikeB (cs.map PyData.int) = true := by
  constructor
  · exact okD_ints _
  · unfold alikeB
    rw [Bool.and_eq_true, List.all_eq_true, List.all_eq_true]
    refine ⟨fun x hx => List.all_eq_true.mpr fun y hy => ?_, fun x hx => ?_⟩
    · obtain ⟨i, _, rfl⟩ := List.mem_map.mp hx
      obtain ⟨j, _, rfl⟩ := List.mem_map.mp hy
      simp [PySem.W.alike]
    · obtain ⟨i, _, rfl⟩ := List.mem_map.mp hx
      rfl
theorem natW_ok (cs : List Nat) : okD (.list (natW cs)) = true ∧ alikeB (natW cs) = true := by
  rw [natW_ints]; exact ints_ok _
theorem max_ints (c : Int) (cs : List Int) : maxW [.list ((c :: cs).map PyData.int)] = some (.int (cs.foldl max c)) := by
  obtain ⟨h1, h2⟩ := ints_ok (c :: cs)
  rw [List.map_cons] at h1 h2 ⊢
  show (if (okD _ && alikeB _) = true then some (PySem.W.maxD _ _) else none) = _
  rw [h1, h2, PySem.W.maxD_ints]
  rfl
theorem min_ints (c : Int) (cs : List Int) : minW [.list ((c :: cs).map PyData.int)] = some (.int (cs.foldl min c)) := by
  obtain ⟨h1, h2⟩ := ints_ok (c :: cs)
  rw [List.map_cons] at h1 h2 ⊢
  show (if (okD _ && alikeB _) = true then some (PySem.W.minD _ _) else none) = _
  rw [h1, h2, PySem.W.minD_ints]
  rfl
theorem foldl_cast (f : Nat → Nat → Nat) (g : Int → Int → Int) (h : ∀ a b : Nat, g a b = (f a b : Nat)) : ∀ (cs : List Nat) (c : Nat), (cs.map fun (x : Nat) => (x : Int)).foldl g (c : Int) = ((cs.foldl f c : Nat) : Int)
  | [], c => rfl
  | x :: r, c => by
    rw [List.map_cons, List.foldl_cons, List.foldl_cons, h]
    exact foldl_cast f g h r (f c x)
theorem max_nat (c : Nat) (cs : List Nat) : maxW [.list (natW (c :: cs))] = some (.int ((cs.foldl max c : Nat) : Int)) := by
  rw [natW_ints, List.map_cons, max_ints, foldl_cast max max (fun a b => by omega)]
theorem min_nat (c : Nat) (cs : List Nat) : minW [.list (natW (c :: cs))] = some (.int ((cs.foldl min c : Nat) : Int)) := by
  rw [natW_ints, List.map_cons, min_ints, foldl_cast min min (fun a b => by omega)]
/-! ### items -/
theorem atI_nat' {ws : List W} {i : Nat} {w : W} (h : ws[i]? = some w) : atI ws (i : Int) = some w := atI_nat h
theorem atI_natW {cs : List Nat} {i : Nat} {c : Nat} (h : cs[i]? = some c) : atI (natW cs) (i : Int) = some (.int (c : Int)) := atI_nat (natW_get h)
/-! ### all(..), any(..) over a list that is a map -/
theorem gxD_of {α : Type} {stop : Bool} {vs : List Nat} {g : GW} {t : M Bool} {e : M W} {d0 : SD} (f0 : α → W) (f p : α → Bool) : ∀ (l : List α) {d : SD}, wipeD d vs = wipeD d0 vs →
    (∀ a ∈ l, ∃ d1 d2, g (f0 a) (wipeD d0 vs) = some d1 ∧ t d1 = .ok (p a) d2 ∧ (p a = true → ∃ d3, e d2 = .ok (.bool (f a)) d3 ∧ wipeD d3 vs = wipeD d0 vs) ∧ (p a = false → wipeD d2 vs = wipeD d0 vs)) → ∃ d4, gxD stop vs g t e (l.map f0) d = .ok (if stop = true then (l.filter p).any f else (l.filter p).all f) d4 ∧ wipeD d4 vs = wipeD d0 vs
  | [], d, hd, _ => ⟨d, by cases stop <;> rfl, hd⟩
  | a :: l, d, hd, h => by
    obtain ⟨d1, d2, h1, h2, h3, h4⟩ := h a List.mem_cons_self
    rw [List.map_cons, gxD_cons, hd, h1]
    dsimp only
    rw [h2]
    dsimp only [Out.bind]
    cases q : p a with
    | true =>
      obtain ⟨d3, h5, h6⟩ := h3 q
      obtain ⟨d4, h7, h8⟩ := gxD_of f0 f p l h6 fun x hx => h x (List.mem_cons_of_mem _ hx)
      rw [if_pos rfl, h5, List.filter_cons, if_pos q]
      by_cases r : f a = stop
      · refine ⟨d3, ?_, h6⟩
        show (if f a = stop then Out.ok stop d3 else gxD stop vs g t e (l.map f0) d3) = _
        rw [if_pos r]
        subst r
        cases r : f a
        · simp [r]
        · simp [r]
      · refine ⟨d4, ?_, h8⟩
        show (if f a = stop then Out.ok stop d3 else gxD stop vs g t e (l.map f0) d3) = _
        rw [if_neg r, h7, List.any_cons, List.all_cons]
        cases r2 : f a <;> cases r3 : stop
        · exact absurd (r2.trans r3.symm) r
        · rfl
        · rfl
        · exact absurd (r2.trans r3.symm) r
    | false =>
      obtain ⟨d4, h7, h8⟩ := gxD_of f0 f p l (h4 q) fun x hx => h x (List.mem_cons_of_mem _ hx)
      refine ⟨d4, ?_, h8⟩
      rw [if_neg Bool.false_ne_true, h7, List.filter_cons, if_neg (c := p a = true) (by rw [q]; exact Bool.false_ne_true)]
theorem mGx_of {α : Type} {stop : Bool} {vs : List Nat} {it : M (List W)} {g : GW} {t : M Bool} {e : M W} {d d' : SD} (l : List α) (f0 : α → W) (f p : α → Bool) (hit : it d = .ok (l.map f0) d') (hc : cleanD d' vs = true)
    (h : ∀ a ∈ l, ∃ d1 d2, g (f0 a) (wipeD d' vs) = some d1 ∧ t d1 = .ok (p a) d2 ∧ (p a = true → ∃ d3, e d2 = .ok (.bool (f a)) d3 ∧ wipeD d3 vs = wipeD d' vs) ∧ (p a = false → wipeD d2 vs = wipeD d' vs)) : mGx stop vs it g t e d = .ok (.bool (if stop = true then (l.filter p).any f else (l.filter p).all f)) d' := by
  obtain ⟨d4, h1, h2⟩ := gxD_of (stop := stop) f0 f p l (d := d') rfl h
  rw [ev_gx, hit]
  dsimp only [Out.bind]
  rw [if_pos hc, h1]
  dsimp only
  rw [back_of_wipe h2]
/-- all(e for .. in ..) -/
theorem mAll_of {α : Type} {vs : List Nat} {it : M (List W)} {g : GW} {t : M Bool} {e : M W} {d d' : SD} (l : List α) (f0 : α → W) (f : α → Bool) (hit : it d = .ok (l.map f0) d') (hc : cleanD d' vs = true)
    (h : ∀ a ∈ l, ∃ d1 d2 d3, g (f0 a) (wipeD d' vs) = some d1 ∧ t d1 = .ok true d2 ∧ e d2 = .ok (.bool (f a)) d3 ∧ wipeD d3 vs = wipeD d' vs) : mGx false vs it g t e d = .ok (.bool (l.all f)) d' := by
  have := mGx_of (stop := false) l f0 f (fun _ => true) hit hc fun a ha => by
    obtain ⟨d1, d2, d3, h1, h2, h3, h4⟩ := h a ha
    exact ⟨d1, d2, h1, h2, fun _ => ⟨d3, h3, h4⟩, fun z => Bool.noConfusion z⟩
  rw [List.filter_eq_self.mpr (fun _ _ => rfl)] at this
  exact this
theorem mAny_of {α : Type} {vs : List Nat} {it : M (List W)} {g : GW} {t : M Bool} {e : M W} {d d' : SD} (l : List α) (f0 : α → W) (f : α → Bool) (hit : it d = .ok (l.map f0) d') (hc : cleanD d' vs = true)
    (h : ∀ a ∈ l, ∃ d1 d2 d3, g (f0 a) (wipeD d' vs) = some d1 ∧ t d1 = .ok true d2 ∧ e d2 = .ok (.bool (f a)) d3 ∧ wipeD d3 vs = wipeD d' vs) : mGx true vs it g t e d = .ok (.bool (l.any f)) d' := by
  have := mGx_of (stop := true) l f0 f (fun _ => true) hit hc fun a ha => by
    obtain ⟨d1, d2, d3, h1, h2, h3, h4⟩ := h a ha
    exact ⟨d1, d2, h1, h2, fun _ => ⟨d3, h3, h4⟩, fun z => Bool.noConfusion z⟩
  rw [List.filter_eq_self.mpr (fun _ _ => rfl)] at this
  exact this
/-! ### equality of data that need not be equal -/
theorem eqv_lv {a b : W} (ha : okD a = true) (hb : okD b = true) : eqW a b = some (.bool (PyData.eqv a b)) := by
  unfold eqW
  rw [ha, hb]; rfl
theorem nev_lv {a b : W} (ha : okD a = true) (hb : okD b = true) : neW a b = some (.bool (!PyData.eqv a b)) := by
  unfold neW
  rw [ha, hb]; rfl
@[simp] theorem is_bool_none : isiW "bool" .none = some (.bool false) := by unfold isiW tyN; simp [show kitB "NoneType" "bool" = some false from by decide +kernel]
@[simp] theorem is_bool_str (x : Str) : isiW "bool" (.str x) = some (.bool false) := by unfold isiW tyN; simp [show kitB "str" "bool" = some false from by decide +kernel]
@[simp] theorem is_bool_list (l : List W) : isiW "bool" (.list l) = some (.bool false) := by unfold isiW tyN; simp [show kitB "list" "bool" = some false from by decide +kernel]
@[simp] theorem is_bool_tuple (l : List W) : isiW "bool" (.tuple l) = some (.bool false) := by unfold isiW tyN; simp [show kitB "tuple" "bool" = some false from by decide +kernel]
@[simp] theorem is_str_none : isiW "str" .none = some (.bool false) := by unfold isiW tyN; simp [show kitB "NoneType" "str" = some false from by decide +kernel]
@[simp] theorem is_str_bool (b : Bool) : isiW "str" (.bool b) = some (.bool false) := by unfold isiW tyN; simp [show kitB "bool" "str" = some false from by decide +kernel]
@[simp] theorem is_str_int (i : Int) : isiW "str" (.int i) = some (.bool false) := by unfold isiW tyN; simp [show kitB "int" "str" = some false from by decide +kernel]
@[simp] theorem is_str_str (x : Str) : isiW "str" (.str x) = some (.bool true) := by unfold isiW tyN; simp [show kitB "str" "str" = some true from by decide +kernel]
@[simp] theorem is_str_list (l : List W) : isiW "str" (.list l) = some (.bool false) := by unfold isiW tyN; simp [show kitB "list" "str" = some false from by decide +kernel]
@[simp] theorem is_str_tuple (l : List W) : isiW "str" (.tuple l) = some (.bool false) := by unfold isiW tyN; simp [show kitB "tuple" "str" = some false from by decide +kernel]
@[simp] theorem is_list_none : isiW "list" .none = some (.bool false) := by unfold isiW tyN; simp [show kitB "NoneType" "list" = some false from by decide +kernel]
@[simp] theorem is_list_bool (b : Bool) : isiW "list" (.bool b) = some (.bool false) := by unfold isiW tyN; simp [show kitB "bool" "list" = some false from by decide +kernel]
@[simp] theorem is_list_int (i : Int) : isiW "list" (.int i) = some (.bool false) := by unfold isiW tyN; simp [show kitB "int" "list" = some false from by decide +kernel]
@[simp] theorem is_list_str (x : Str) : isiW "list" (.str x) = some (.bool false) := by unfold isiW tyN; simp [show kitB "str" "list" = some false from by decide +kernel]
@[simp] theorem is_tuple_none : isiW "tuple" .none = some (.bool false) := by unfold isiW tyN; simp [show kitB "NoneType" "tuple" = some false from by decide +kernel]
@[simp] theorem is_tuple_bool (b : Bool) : isiW "tuple" (.bool b) = some (.bool false) := by unfold isiW tyN; simp [show kitB "bool" "tuple" = some false from by decide +kernel]
@[simp] theorem is_tuple_int (i : Int) : isiW "tuple" (.int i) = some (.bool false) := by unfold isiW tyN; simp [show kitB "int" "tuple" = some false from by decide +kernel]
@[simp] theorem is_tuple_str (x : Str) : isiW "tuple" (.str x) = some (.bool false) := by unfold isiW tyN; simp [show kitB "str" "tuple" = some false from by decide +kernel]
def RP (r : Slot) (u : W) (o : SOut) : Prop := ∃ d, o = .ret r d ∧ parAt d = some u
theorem sqP {r : Slot} {u : W} {a b : MS} {d d' : SD} (h : a d = .next d') (k : RP r u (b d')) : RP r u (mSeq a b d) := by
  rw [ev_seq, h]; exact k
theorem sqP1 {r : Slot} {u : W} {a b : MS} {d d' : SD} (h : a d = .ret r d') (hp : parAt d' = some u) : RP r u (mSeq a b d) := ⟨d', by rw [ev_seq, h]; rfl, hp⟩
theorem frzP {r : Slot} {u : W} {is : List Nat} {m : MS} {d d' : SD} (h : is.foldl (fun d i => frzAt i d) d = d') (k : RP r u (m d')) : RP r u (mFrzS is m d) := by
  rw [ev_frzS, h]; exact k
theorem retP {r : Slot} {u : W} {m : MS} {d d' : SD} (h : m d = .ret r d') (hp : parAt d' = some u) : RP r u (m d) := ⟨d', h, hp⟩
theorem runP_of {n : Nat} {m : MS} {u u' : W} {ws : List W} {r : Slot} (h : RP r u' (m (sdP n u ws))) : runP n m u ws = .ok r u' := by
  obtain ⟨d, e, hp⟩ := h
  unfold runP
  rw [e]
  dsimp only
  rw [hp]
theorem ok_bool (b : Bool) : okD (.bool b) = true := by unfold okD; simp [noD, SeqAt.shaped, PyData.canLay0, PyData.depth]
theorem ok_none : okD .none = true := by unfold okD; simp [noD, SeqAt.shaped, PyData.canLay0, PyData.depth]
theorem ok_int (i : Int) : okD (.int i) = true := by unfold okD; simp [noD, SeqAt.shaped, PyData.canLay0, PyData.depth]
@[simp] theorem ev_eqB (a b : Bool) : eqW (.bool a) (.bool b) = some (.bool (a == b)) := by
  rw [eqv_lv (ok_bool a) (ok_bool b)]
  cases a <;> cases b <;> simp [PyData.eqv] <;> rfl
@[simp] theorem ev_neB (a b : Bool) : neW (.bool a) (.bool b) = some (.bool (a != b)) := by
  rw [nev_lv (ok_bool a) (ok_bool b)]
  cases a <;> cases b <;> simp [PyData.eqv] <;> rfl
theorem pop_last (ds : List W) (x : W) : popW (.list (ds ++ [x])) [] = some (x, .list ds) := by
  unfold popW
  have e : (ds ++ [x])[(ds ++ [x]).length - 1]? = some x := by simp
  dsimp only
  rw [e]
  simp
/-- data of a few levels, each of at most sixteen million items -/
def al : Nat → W → Prop
  | _, .none => True
  | _, .bool _ => True
  | _, .int _ => True
  | _, .str x => PyData.strOk x = true
  | k + 1, .list ds => ds.length ≤ 16000000 ∧ ∀ d ∈ ds, al k d
  | k + 1, .tuple ds => ds.length ≤ 16000000 ∧ ∀ d ∈ ds, al k d
  | _, _ => False
theorem al_lv : ∀ {k : Nat} {w : W}, al k w → lv k w
  | k, .none, _ => by cases k <;> trivial
  | k, .bool _, _ => by cases k <;> trivial
  | k, .int _, _ => by cases k <;> trivial
  | k, .str x, h => by cases k <;> exact h
  | 0, .list ds, h => h.elim
  | 0, .tuple ds, h => h.elim
  | k + 1, .list ds, h => fun d hd => al_lv (h.2 d hd)
  | k + 1, .tuple ds, h => fun d hd => al_lv (h.2 d hd)
  | k, .dict _, h => by cases k <;> exact h.elim
theorem al_up : ∀ {k : Nat} {w : W}, al k w → al (k + 1) w
  | k, .none, _ => trivial
  | k, .bool _, _ => trivial
  | k, .int _, _ => trivial
  | k, .str x, h => by cases k <;> exact h
  | 0, .list ds, h => h.elim
  | 0, .tuple ds, h => h.elim
  | k + 1, .list ds, h => ⟨h.1, fun d hd => al_up (h.2 d hd)⟩
  | k + 1, .tuple ds, h => ⟨h.1, fun d hd => al_up (h.2 d hd)⟩
  | k, .dict _, h => by cases k <;> exact h.elim
theorem al_int (k : Nat) (i : Int) : al k (.int i) := by cases k <;> trivial
theorem al_bool (k : Nat) (b : Bool) : al k (.bool b) := by cases k <;> trivial
theorem al_none (k : Nat) : al k .none := by cases k <;> trivial
theorem al_natW {k : Nat} {cs : List Nat} (h : cs.length ≤ 16000000) : al (k + 1) (.tuple (natW cs)) ∧ al (k + 1) (.list (natW cs)) := by
  have z : ∀ d ∈ natW cs, al k d := fun d hd => by
    obtain ⟨c, _, rfl⟩ := List.mem_map.mp hd
    exact al_int _ _
  exact ⟨⟨by rw [natW_len]; exact h, z⟩, ⟨by rw [natW_len]; exact h, z⟩⟩
end Qd
end
section
set_option Elab.async false
set_option linter.all false
set_option maxRecDepth 100000
set_option maxHeartbeats 1000000
/-! Slices, sums, equal data, comprehensions that write. -/
namespace Qd
open PySem PySem.Spec PyProof.Rows L2
theorem cut_take {α : Type} (xs : List α) (k : Nat) : cutA xs none (some (k : Int)) = xs.take k := by
  unfold cutA
  rw [HT.sIx_none, HT.sIx_nat, List.drop_zero, Nat.sub_zero]
  rcases Nat.le_total k xs.length with h | h
  · rw [Nat.min_eq_left h]
  · rw [Nat.min_eq_right h, List.take_length, List.take_of_length_le h]
theorem cut_drop {α : Type} (xs : List α) (k : Nat) : cutA xs (some (k : Int)) none = xs.drop k := by
  unfold cutA
  rw [HT.sIx_none, HT.sIx_nat]
  rcases Nat.le_total k xs.length with h | h
  · rw [Nat.min_eq_left h]
    exact List.take_of_length_le (by rw [List.length_drop]; omega)
  · rw [Nat.min_eq_right h, List.drop_length, List.drop_of_length_le h, List.take_nil]
theorem cut_mid {α : Type} (xs : List α) (j k : Nat) (h : j ≤ k) (hk : k ≤ xs.length) : cutA xs (some (j : Int)) (some (k : Int)) = (xs.drop j).take (k - j) := by
  unfold cutA
  rw [HT.sIx_nat, HT.sIx_nat, Nat.min_eq_left hk, Nat.min_eq_left (show j ≤ xs.length by omega)]
theorem natW_take (a : List Nat) (k : Nat) : (natW a).take k = natW (a.take k) := List.map_take.symm
theorem natW_drop (a : List Nat) (k : Nat) : (natW a).drop k = natW (a.drop k) := List.map_drop.symm
/-! ### sums of ints -/
theorem sum_ints (cs : List Int) : sumW [.list (cs.map PyData.int)] = some (.int cs.sum) := by
  show (intsOf _).map _ = _
  rw [intsOf_map]; rfl
theorem sum_cast (cs : List Nat) : (cs.map fun (x : Nat) => (x : Int)).sum = ((cs.sum : Nat) : Int) := by
  induction cs with
  | nil => rfl
  | cons c r ih => rw [List.map_cons, List.sum_cons, List.sum_cons, ih]; push_cast; rfl
theorem sum_nat (cs : List Nat) : sumW [.list (natW cs)] = some (.int ((cs.sum : Nat) : Int)) := by
  rw [natW_ints, sum_ints, sum_cast]
theorem sum_natT (cs : List Nat) : sumW [.tuple (natW cs)] = some (.int ((cs.sum : Nat) : Int)) := by
  rw [← sum_nat cs]; rfl
theorem lcD_idx {vs : List Nat} {g : GW} {t : M Bool} {e : M W} (P : Nat → SD → Prop) (Q : W → Prop) : ∀ {ws : List W} {i : Nat} {d : SD}, P i d →
    (∀ w ∈ ws, ∀ j d, i ≤ j → j < i + ws.length → P j d → ∃ d1 d2 y d3, g w (wipeD d vs) = some d1 ∧ t d1 = .ok true d2 ∧ e d2 = .ok y d3 ∧ P (j + 1) d3 ∧ Q y) → ∃ ys d', lcD vs g t e ws d = .ok ys d' ∧ P (i + ws.length) d' ∧ ys.length = ws.length ∧ ∀ y ∈ ys, Q y
  | [], i, d, h, _ => ⟨[], d, rfl, h, rfl, fun y hy => by cases hy⟩
  | w :: ws, i, d, h, hs => by
    obtain ⟨d1, d2, y, d3, h1, h2, h3, h4, h5⟩ := hs w List.mem_cons_self i d (Nat.le_refl _) (by simp) h
    obtain ⟨ys, d', e1, e2, e3, e4⟩ := lcD_idx P Q (ws := ws) h4 fun x hx j d hj hj2 hp => hs x (List.mem_cons_of_mem _ hx) j d (by omega) (by rw [List.length_cons]; omega) hp
    refine ⟨y :: ys, d', ?_, by rw [List.length_cons, show i + (ws.length + 1) = i + 1 + ws.length by omega]; exact e2, by rw [List.length_cons, List.length_cons, e3], fun z hz => ?_⟩
    · rw [lcD_cons, h1]
      dsimp only
      rw [h2]
      dsimp only [Out.bind]
      rw [if_pos rfl, h3]
      dsimp only
      rw [e1]
    · rcases List.mem_cons.mp hz with rfl | hz
      · exact h5
      · exact e4 z hz
/-- a comprehension that writes, by its turns -/
theorem mLc_idx {vs : List Nat} {it : M (List W)} {g : GW} {t : M Bool} {e : M W} {d d1 : SD} {ws : List W} (P : Nat → SD → Prop) (Q : W → Prop) (hit : it d = .ok ws d1) (hc : cleanD d1 vs = true) (hl : ws.length ≤ sizeLine) (hP : P 0 d1)
    (h : ∀ w ∈ ws, ∀ j d, j < ws.length → P j d → ∃ d1 d2 y d3, g w (wipeD d vs) = some d1 ∧ t d1 = .ok true d2 ∧ e d2 = .ok y d3 ∧ P (j + 1) d3 ∧ Q y) : ∃ ys d', mLc vs it g t e d = .ok (.list ys) (backD d1 vs d') ∧ P ws.length d' ∧ ys.length = ws.length ∧ ∀ y ∈ ys, Q y := by
  obtain ⟨ys, d', e1, e2, e3, e4⟩ := lcD_idx P Q (i := 0) hP fun w hw j d _ hj hp => h w hw j d (by omega) hp
  rw [Nat.zero_add] at e2
  refine ⟨ys, d', ?_, e2, e3, e4⟩
  rw [ev_lc, hit]
  dsimp only [Out.bind]
  rw [if_pos ⟨hc, hl⟩, e1]
/-! ### equal data -/
/-- data of a few levels without bools -/
def nb : Nat → W → Prop
  | _, .none => True
  | _, .int _ => True
  | _, .str x => PyData.strOk x = true
  | k + 1, .list ds => ∀ d ∈ ds, nb k d
  | k + 1, .tuple ds => ∀ d ∈ ds, nb k d
  | _, _ => False
theorem nb_lv : ∀ {k : Nat} {w : W}, nb k w → lv k w
  | k, .none, _ => by cases k <;> trivial
  | k, .bool _, h => by cases k <;> exact h.elim
  | k, .int _, _ => by cases k <;> trivial
  | k, .str x, h => by cases k <;> exact h
  | 0, .list ds, h => h.elim
  | 0, .tuple ds, h => h.elim
  | k + 1, .list ds, h => fun d hd => nb_lv (h d hd)
  | k + 1, .tuple ds, h => fun d hd => nb_lv (h d hd)
  | k, .dict _, h => by cases k <;> exact h.elim
mutual
theorem eqv_nb : ∀ (a b : W) (j k : Nat), nb j a → nb k b → (PyData.eqv a b = true ↔ a = b)
  | .bool _, _, j, _, h, _ => by cases j <;> exact h.elim
  | .dict _, _, j, _, h, _ => by cases j <;> exact h.elim
  | .none, b, j, k, h, h2 => by cases b <;> simp [PyData.eqv]
  | .int i, b, j, k, h, h2 => by
    cases b with
    | bool _ => cases k <;> exact h2.elim
    | _ => simp [PyData.eqv]
  | .str x, b, j, k, h, h2 => by cases b <;> simp [PyData.eqv]
  | .list xs, b, j, k, h, h2 => by
    cases b with
    | list ys => cases j with
      | zero => exact h.elim
      | succ j => cases k with
        | zero => exact h2.elim
        | succ k =>
          have := eqvAll_nb xs ys j k h h2
          simp only [PyData.eqv, PyData.list.injEq]
          exact this
    | _ => simp [PyData.eqv]
  | .tuple xs, b, j, k, h, h2 => by
    cases b with
    | tuple ys => cases j with
      | zero => exact h.elim
      | succ j => cases k with
        | zero => exact h2.elim
        | succ k =>
          have := eqvAll_nb xs ys j k h h2
          simp only [PyData.eqv, PyData.tuple.injEq]
          exact this
    | _ => simp [PyData.eqv]
theorem eqvAll_nb : ∀ (xs ys : List W) (j k : Nat), (∀ d ∈ xs, nb j d) → (∀ d ∈ ys, nb k d) → (PyData.eqvAll xs ys = true ↔ xs = ys)
  | [], [], _, _, _, _ => by simp [PyData.eqvAll]
  | [], _ :: _, _, _, _, _ => by simp [PyData.eqvAll]
  | _ :: _, [], _, _, _, _ => by simp [PyData.eqvAll]
  | x :: xs, y :: ys, j, k, h, h2 => by
    have e1 := eqv_nb x y j k (h x List.mem_cons_self) (h2 y List.mem_cons_self)
    have e2 := eqvAll_nb xs ys j k (fun d hd => h d (List.mem_cons_of_mem _ hd)) fun d hd => h2 d (List.mem_cons_of_mem _ hd)
    simp only [PyData.eqvAll, Bool.and_eq_true, e1, e2, List.cons.injEq]
end
theorem eqv_dec {a b : W} {j k : Nat} (h : nb j a) (h2 : nb k b) {p : Prop} [Decidable p] (hp : a = b ↔ p) : PyData.eqv a b = decide p := by
  have := eqv_nb a b j k h h2
  by_cases c : p
  · rw [decide_eq_true c]; exact this.mpr (hp.mpr c)
  · rw [decide_eq_false c]
    cases z : PyData.eqv a b with
    | false => rfl
    | true => exact absurd (hp.mp (this.mp z)) c
theorem eq_dec {a b : W} {j k : Nat} (hj : j ≤ 60) (hk : k ≤ 60) (h : nb j a) (h2 : nb k b) {p : Prop} [Decidable p] (hp : a = b ↔ p) : eqW a b = some (.bool (decide p)) := by
  rw [eqv_lv (lv_ok hj (nb_lv h)) (lv_ok hk (nb_lv h2)), eqv_dec h h2 hp]
theorem ne_dec {a b : W} {j k : Nat} (hj : j ≤ 60) (hk : k ≤ 60) (h : nb j a) (h2 : nb k b) {p : Prop} [Decidable p] (hp : a = b ↔ p) : neW a b = some (.bool (!decide p)) := by
  rw [nev_lv (lv_ok hj (nb_lv h)) (lv_ok hk (nb_lv h2)), eqv_dec h h2 hp]
theorem nb_int (k : Nat) (i : Int) : nb k (.int i) := by cases k <;> trivial
theorem nb_none (k : Nat) : nb k .none := by cases k <;> trivial
theorem nb_nat {k : Nat} {cs : List Nat} : ∀ d ∈ natW cs, nb k d := fun d hd => by
  obtain ⟨c, _, rfl⟩ := List.mem_map.mp hd
  exact nb_int _ _
theorem nb_natT (k : Nat) (cs : List Nat) : nb (k + 1) (.tuple (natW cs)) := nb_nat
theorem nb_natL (k : Nat) (cs : List Nat) : nb (k + 1) (.list (natW cs)) := nb_nat
theorem natW_inj {a b : List Nat} : natW a = natW b ↔ a = b := by
  constructor
  · intro h
    induction a generalizing b with
    | nil => cases b with
      | nil => rfl
      | cons y b => cases h
    | cons x a ih => cases b with
      | nil => cases h
      | cons y b =>
        unfold natW at h
        rw [List.map_cons, List.map_cons] at h
        injection h with h1 h2
        injection h1 with h1
        rw [ih h2, Int.ofNat.inj h1]
  · rintro rfl; rfl
theorem eq_natT (a b : List Nat) : eqW (.tuple (natW a)) (.tuple (natW b)) = some (.bool (decide (a = b))) := eq_dec (j := 1) (k := 1) (by decide) (by decide) (nb_natT 0 a) (nb_natT 0 b) (by rw [PyData.tuple.injEq, natW_inj])
theorem eq_natL (a b : List Nat) : eqW (.list (natW a)) (.list (natW b)) = some (.bool (decide (a = b))) := eq_dec (j := 1) (k := 1) (by decide) (by decide) (nb_natL 0 a) (nb_natL 0 b) (by rw [PyData.list.injEq, natW_inj])
theorem eq_emptyL (xs : List W) (k : Nat) (hk : k ≤ 59) (h : ∀ d ∈ xs, lv k d) : eqW (.list xs) (.list []) = some (.bool xs.isEmpty) ∧ neW (.list xs) (.list []) = some (.bool (!xs.isEmpty)) := by
  have h1 : okD (.list xs) = true := lv_ok (k := k + 1) (by omega) h
  have h2 : okD (.list []) = true := lv_ok (k := 1) (by omega) fun d hd => by cases hd
  rw [eqv_lv h1 h2, nev_lv h1 h2]
  cases xs <;> simp [PyData.eqv, PyData.eqvAll]
/-- x in a list of data -/
theorem in_any {neg : Bool} {a : W} {ds : List W} {k : Nat} (hk : k ≤ 59) (h : nb k a) (h2 : ∀ d ∈ ds, nb k d) {p : Prop} [Decidable p] (hp : a ∈ ds ↔ p) (b : W) (hb : itemsOf b = some ds) (hb2 : nb (k + 1) b) : inW neg a b = some (.bool (if neg then !decide p else decide p)) := by
  have e1 : okD a = true := lv_ok (k := k) (by omega) (nb_lv h)
  have e2 : okD b = true := lv_ok (k := k + 1) (by omega) (nb_lv hb2)
  have e : (ds.any fun z => PyData.eqv z a) = decide p := by
    rw [Bool.eq_iff_iff, List.any_eq_true, decide_eq_true_iff, ← hp]
    constructor
    · rintro ⟨z, hz, q⟩
      rw [← (eqv_nb z a k k (h2 z hz) h).mp q]; exact hz
    · intro hz
      exact ⟨a, hz, (eqv_nb a a k k h h).mpr rfl⟩
  unfold inW
  rw [hb]
  dsimp only
  rw [e1, e2, e]
  rfl
theorem eqv_intI (i j : Int) : PyData.eqv (.int i) (.int j) = decide (i = j) := by simp [PyData.eqv]; rfl
/-- places and counts of naturals -/
theorem findIdx_natW (cs : List Nat) (m : Nat) : (natW cs).findIdx? (fun z => PyData.eqv z (.int (m : Int))) = cs.findIdx? fun c => c == m := by
  unfold natW
  rw [List.findIdx?_map]
  congr 1
  funext c
  show PyData.eqv (.int (c : Int)) (.int (m : Int)) = _
  rw [eqv_intI]
  by_cases h : c = m
  · subst h; simp
  · have : ¬ ((c : Int) = (m : Int)) := by omega
    simp [h, this]
theorem count_natW (cs : List Nat) (m : Nat) : (natW cs).countP (fun z => PyData.eqv z (.int (m : Int))) = cs.countP fun c => c == m := by
  unfold natW
  rw [List.countP_map]
  congr 1
  funext c
  show PyData.eqv (.int (c : Int)) (.int (m : Int)) = _
  rw [eqv_intI]
  by_cases h : c = m
  · subst h; simp
  · have : ¬ ((c : Int) = (m : Int)) := by omega
    simp [h, this]
theorem ok_natT (cs : List Nat) : okD (.tuple (natW cs)) = true := lv_ok (k := 1) (by decide) (nb_lv (nb_natT 0 cs))
theorem ok_natL (cs : List Nat) : okD (.list (natW cs)) = true := lv_ok (k := 1) (by decide) (nb_lv (nb_natL 0 cs))
theorem index_natL (cs : List Nat) (m : Nat) : indexW (.list (natW cs)) [.int (m : Int)] = (cs.findIdx? fun c => c == m).map fun (j : Nat) => .int (j : Int) := by
  show (if (okD _ && okD _) = true then _ else _) = _
  rw [ok_natL, ok_int, findIdx_natW]
  cases cs.findIdx? fun c => c == m <;> rfl
theorem index_natT (cs : List Nat) (m : Nat) : indexTW (.tuple (natW cs)) [.int (m : Int)] = (cs.findIdx? fun c => c == m).map fun (j : Nat) => .int (j : Int) := by
  show (if (okD _ && okD _) = true then _ else _) = _
  rw [ok_natT, ok_int, findIdx_natW]
  cases cs.findIdx? fun c => c == m <;> rfl
theorem count_natL (cs : List Nat) (m : Nat) : countW (.list (natW cs)) [.int (m : Int)] = some (.int ((cs.countP fun c => c == m : Nat) : Int)) := by
  show (if (okD _ && okD _) = true then _ else _) = _
  rw [ok_natL, ok_int, count_natW]
  rfl
theorem count_natT (cs : List Nat) (m : Nat) : countTW (.tuple (natW cs)) [.int (m : Int)] = some (.int ((cs.countP fun c => c == m : Nat) : Int)) := by
  show (if (okD _ && okD _) = true then _ else _) = _
  rw [ok_natT, ok_int, count_natW]
  rfl
/-- max, min of tuples of naturals -/
theorem max_natT (c : Nat) (cs : List Nat) : maxW [.tuple (natW (c :: cs))] = some (.int ((cs.foldl max c : Nat) : Int)) := by
  obtain ⟨h1, h2⟩ := natW_ok (c :: cs)
  have h1 := ok_natT (c :: cs)
  have e : natW (c :: cs) = PyData.int (c : Int) :: natW cs := rfl
  rw [e] at h1 h2 ⊢
  show (if (okD _ && alikeB _) = true then some (PySem.W.maxD _ _) else none) = _
  rw [h1, h2, natW_ints, PySem.W.maxD_ints, foldl_cast max max (fun a b => by omega)]
  rfl
/-! ### comprehensions that write -/
theorem lcD_ind {vs : List Nat} {g : GW} {t : M Bool} {e : M W} (P : SD → Prop) (Q : W → Prop) : ∀ {ws : List W} {d : SD}, P d →
    (∀ w ∈ ws, ∀ d, P d → ∃ d1 d2 y d3, g w (wipeD d vs) = some d1 ∧ t d1 = .ok true d2 ∧ e d2 = .ok y d3 ∧ P d3 ∧ Q y) → ∃ ys d', lcD vs g t e ws d = .ok ys d' ∧ P d' ∧ ys.length = ws.length ∧ ∀ y ∈ ys, Q y
  | [], d, h, _ => ⟨[], d, rfl, h, rfl, fun y hy => by cases hy⟩
  | w :: ws, d, h, hs => by
    obtain ⟨d1, d2, y, d3, h1, h2, h3, h4, h5⟩ := hs w List.mem_cons_self d h
    obtain ⟨ys, d', e1, e2, e3, e4⟩ := lcD_ind P Q (ws := ws) h4 fun x hx => hs x (List.mem_cons_of_mem _ hx)
    refine ⟨y :: ys, d', ?_, e2, by rw [List.length_cons, List.length_cons, e3], fun z hz => ?_⟩
    · rw [lcD_cons, h1]
      dsimp only
      rw [h2]
      dsimp only [Out.bind]
      rw [if_pos rfl, h3]
      dsimp only
      rw [e1]
    · rcases List.mem_cons.mp hz with rfl | hz
      · exact h5
      · exact e4 z hz
theorem mLc_ind {vs : List Nat} {it : M (List W)} {g : GW} {t : M Bool} {e : M W} {d d1 : SD} {ws : List W} (P : SD → Prop) (Q : W → Prop) (hit : it d = .ok ws d1) (hc : cleanD d1 vs = true) (hl : ws.length ≤ sizeLine) (hP : P d1)
    (h : ∀ w ∈ ws, ∀ d, P d → ∃ d1 d2 y d3, g w (wipeD d vs) = some d1 ∧ t d1 = .ok true d2 ∧ e d2 = .ok y d3 ∧ P d3 ∧ Q y) : ∃ ys d', mLc vs it g t e d = .ok (.list ys) (backD d1 vs d') ∧ P d' ∧ ys.length = ws.length ∧ ∀ y ∈ ys, Q y := by
  obtain ⟨ys, d', e1, e2, e3, e4⟩ := lcD_ind P Q hP h
  refine ⟨ys, d', ?_, e2, e3, e4⟩
  rw [ev_lc, hit]
  dsimp only [Out.bind]
  rw [if_pos ⟨hc, hl⟩, e1]
theorem natW_of {c : Nat} : ∀ {ys : List W}, (∀ y ∈ ys, ∃ r : Nat, r < c ∧ y = .int (r : Int)) → ∃ a : List Nat, ys = natW a ∧ a.length = ys.length ∧ ∀ x ∈ a, x < c
  | [], _ => ⟨[], rfl, rfl, fun x hx => by cases hx⟩
  | y :: ys, h => by
    obtain ⟨r, hr, rfl⟩ := h y List.mem_cons_self
    obtain ⟨a, e1, e2, e3⟩ := natW_of fun z hz => h z (List.mem_cons_of_mem _ hz)
    refine ⟨r :: a, by rw [e1]; rfl, by rw [List.length_cons, List.length_cons, e2], fun x hx => ?_⟩
    rcases List.mem_cons.mp hx with rfl | hx
    · exact hr
    · exact e3 x hx
theorem zip_natW : ∀ (a b : List Nat), zipW (natW a) (natW b) = (a.zip b).map fun p => PyData.tuple [.int (p.1 : Int), .int (p.2 : Int)]
  | [], b => by cases b <;> rfl
  | x :: a, [] => rfl
  | x :: a, y :: b => by
    show PyData.tuple _ :: zipW (natW a) (natW b) = _
    rw [zip_natW a b]
    rfl
/-! ### while -/
theorem whileF_inv {t : M Bool} {b : MS} (P Q : SD → Prop) (μ : SD → Nat)
    (h : ∀ d, P d → (∃ d1, t d = .ok false d1 ∧ Q d1) ∨ ∃ d1 d2, t d = .ok true d1 ∧ (b d1 = .next d2 ∨ b d1 = .cont d2) ∧ P d2 ∧ μ d2 < μ d) : ∀ (n : Nat) (d : SD), P d → μ d < n → ∃ d', whileF t b n d = some (.next d') ∧ Q d'
  | 0, d, _, hn => absurd hn (Nat.not_lt_zero _)
  | n + 1, d, hp, hn => by
    rcases h d hp with ⟨d1, e, q⟩ | ⟨d1, d2, e, eb, hp2, lt⟩
    · exact ⟨d1, by unfold whileF; rw [e], q⟩
    · obtain ⟨d', e2, q⟩ := whileF_inv P Q μ h n d2 hp2 (by omega)
      refine ⟨d', ?_, q⟩
      unfold whileF
      rw [e]
      rcases eb with eb | eb <;> (dsimp only; rw [eb]; exact e2)
theorem mWhile_inv {t : M Bool} {b : MS} (P Q : SD → Prop) (μ : SD → Nat) (d : SD) (hp : P d)
    (h : ∀ d, P d → (∃ d1, t d = .ok false d1 ∧ Q d1) ∨ ∃ d1 d2, t d = .ok true d1 ∧ (b d1 = .next d2 ∨ b d1 = .cont d2) ∧ P d2 ∧ μ d2 < μ d) : ∃ d', mWhile t b d = .next d' ∧ Q d' := by
  obtain ⟨d', e, q⟩ := whileF_inv P Q μ h _ d hp (Nat.lt_succ_self _)
  exact ⟨d', mWhile_eq e, q⟩
/-! ### the least of a sorted list -/
theorem sort_head {ds : List W} {m : W} (hm : m ∈ ds) (h : ∀ x ∈ ds, x = m ∨ lexLt PyProof.Rows.itemOrd (PySem.W.keyToks m) (PySem.W.keyToks x) = true) : (sortW ds)[0]? = some m := by
  have hp : (sortW ds).Perm ds := List.mergeSort_perm _ _
  have T := PySem.W.sortLe_total (listOrd PyProof.Rows.itemOrd) false (fun d : W => PySem.W.keyToks d)
  have hs : (sortW ds).Pairwise fun a b => PySem.W.dataLe false (fun d : W => d) a b = true := List.pairwise_mergeSort T.trans (fun a b => by rw [Bool.or_eq_true]; exact T.total a b) ds
  have hm2 : m ∈ sortW ds := hp.mem_iff.mpr hm
  cases q : sortW ds with
  | nil => rw [q] at hm2; cases hm2
  | cons x r =>
    rw [q] at hs hm2
    have hx : x ∈ ds := hp.mem_iff.mp (by rw [q]; exact List.mem_cons_self)
    rcases h x hx with rfl | lt
    · rfl
    · rcases List.mem_cons.mp hm2 with rfl | hr
      · rfl
      · have := List.rel_of_pairwise_cons hs hr
        unfold PySem.W.dataLe PySem.W.sortLe at this
        simp only [cond_false] at this
        rw [lt] at this
        cases this
theorem sort_mem {ds : List W} {x : W} : x ∈ sortW ds ↔ x ∈ ds := (List.mergeSort_perm _ _).mem_iff
def ltN : List Nat → List Nat → Bool
  | [], [] => false
  | [], _ :: _ => true
  | _ :: _, [] => false
  | x :: r, y :: t => decide (x < y) || (decide (x = y) && ltN r t)
theorem lex_natW : ∀ a b : List Nat, lexLt PyProof.Rows.itemOrd (PySem.W.keyToksAll (natW a)) (PySem.W.keyToksAll (natW b)) = ltN a b
  | [], [] => by decide +kernel
  | [], y :: b => by
    show lexLt PyProof.Rows.itemOrd [.inl 0] (.inl 1 :: _) = true
    rw [PyProof.Rows.lex_cons]; rfl
  | x :: a, [] => by
    show lexLt PyProof.Rows.itemOrd (.inl 1 :: _) [.inl 0] = false
    rw [PyProof.Rows.lex_cons]; rfl
  | x :: a, y :: b => by
    show lexLt PyProof.Rows.itemOrd (.inl 1 :: .inl (x : Int) :: PySem.W.keyToksAll (natW a)) (.inl 1 :: .inl (y : Int) :: PySem.W.keyToksAll (natW b)) = _
    rw [PyProof.Rows.lex_cons, PyProof.Rows.lex_cons, lex_natW a b]
    show (decide ((1 : Int) < 1) || (!decide ((1 : Int) < 1) && (decide ((x : Int) < y) || (!decide ((y : Int) < x) && ltN a b)))) = (decide (x < y) || (decide (x = y) && ltN a b))
    by_cases h1 : x < y
    · simp [h1]
    · by_cases h2 : x = y
      · subst h2; simp
      · have : y < x := by omega
        simp [h1, h2, this]
theorem lex_natT (a b : List Nat) : lexLt PyProof.Rows.itemOrd (PySem.W.keyToks (.tuple (natW a))) (PySem.W.keyToks (.tuple (natW b))) = ltN a b := lex_natW a b
theorem alike_natT : ∀ a b : List Nat, PySem.W.alike (.tuple (natW a)) (.tuple (natW b)) = true := by
  intro a b
  show PySem.W.alikeAll (natW a) (natW b) = true
  induction a generalizing b with
  | nil => cases b <;> rfl
  | cons x a ih =>
    cases b with
    | nil => rfl
    | cons y b =>
      show (PySem.W.alike (.int (x : Int)) (.int (y : Int)) && PySem.W.alikeAll (natW a) (natW b)) = true
      rw [ih]; rfl
/-- sorted of tuples of naturals, none of them empty -/
theorem sorted_natT {d d1 : SD} {as : M (List W)} {ls : List (List Nat)} (h : as d = .ok [.list (ls.map fun a => .tuple (natW a))] d1) (hne : ∀ a ∈ ls, a ≠ []) : mSorted as d = .ok (.list (sortW (ls.map fun a => .tuple (natW a)))) d1 := by
  rw [ev_sorted, h]
  dsimp only [Out.bind]
  rw [if_pos]
  rw [Bool.and_eq_true, Bool.and_eq_true]
  refine ⟨⟨lv_ok (k := 2) (by decide) fun x hx => ?_, ?_⟩, ?_⟩
  · obtain ⟨a, _, rfl⟩ := List.mem_map.mp hx
    exact nb_lv (nb_natT 0 a)
  · refine List.all_eq_true.mpr fun x hx => List.all_eq_true.mpr fun y hy => ?_
    obtain ⟨a, _, rfl⟩ := List.mem_map.mp hx
    obtain ⟨b, _, rfl⟩ := List.mem_map.mp hy
    exact alike_natT a b
  · unfold sortableB
    rw [Bool.or_eq_true]
    refine .inl (List.all_eq_true.mpr fun x hx => ?_)
    obtain ⟨a, ha, rfl⟩ := List.mem_map.mp hx
    cases a with
    | nil => exact absurd rfl (hne _ ha)
    | cons c cs => rfl
/-! ### loops over a list of places -/
theorem forD_idx {g : GW} {b : MS} (f0 : Nat → W) (P : Nat → SD → Prop) (n : Nat) (d : SD) (h : P 0 d)
    (hs : ∀ (i : Nat) (d : SD), i < n → P i d → ∃ d1 d2, g (f0 i) d = some d1 ∧ (b d1 = .next d2 ∨ b d1 = .cont d2) ∧ P (i + 1) d2) : ∃ d', forD g b ((List.range n).map f0) d = .next d' ∧ P n d' := by
  obtain ⟨d', e, hp⟩ := forD_inv (g := g) (b := b) f0 (fun r d => ∃ i, i ≤ n ∧ r = (List.range n).drop i ∧ P i d) (List.range n) d ⟨0, Nat.zero_le _, rfl, h⟩ (by
    rintro a r d ⟨i, hi, e, hp⟩
    have hlt : i < n := by
      rcases Nat.lt_or_ge i n with c | c
      · exact c
      · rw [List.drop_of_length_le (by simpa using c)] at e; cases e
    rw [List.drop_eq_getElem_cons (by simpa using hlt)] at e
    injection e with e1 e2
    rw [List.getElem_range] at e1
    subst e1
    obtain ⟨d1, d2, h1, h2, h3⟩ := hs a d hlt hp
    exact ⟨d1, d2, h1, h2, a + 1, hlt, e2, h3⟩)
  obtain ⟨i, hi, e2, hp⟩ := hp
  have : i = n := by
    rcases Nat.lt_or_ge i n with c | c
    · have := congrArg List.length e2
      rw [List.length_drop, List.length_range, List.length_nil] at this
      omega
    · omega
  rw [this] at hp
  exact ⟨d', e, hp⟩
/-- range(n - 1, -1, -1) -/
theorem range3_down {n : Nat} (h : n ≤ 1000000000) : range3? [.int ((n : Int) - 1), .int (-1), .int (-1)] = some ((List.range n).map fun i => PyData.int ((n - 1 - i : Nat) : Int)) := by
  have hr := RgC.neg (i := (n : Int) - 1) (j := -1) (by omega) (by omega) (by omega) (by omega)
  rw [show ((n : Int) - 1 - -1).toNat = n by omega] at hr
  rw [range3_of hr (by rw [hr.2.2.2]; rfl)]
  unfold rangeC
  congr 1
  apply List.map_congr_left
  intro i hi
  have hi : i < n := by simpa using hi
  show PyData.int _ = PyData.int _
  congr 1
  omega
theorem max_ge : ∀ (cs : List Nat) (c x : Nat), x ∈ c :: cs → x ≤ cs.foldl max c
  | [], c, x, h => by rcases List.mem_cons.mp h with rfl | h; exact Nat.le_refl _; cases h
  | d :: cs, c, x, h => by
    rw [List.foldl_cons]
    rcases List.mem_cons.mp h with rfl | h
    · exact Nat.le_trans (Nat.le_max_left _ _) (max_ge cs _ _ List.mem_cons_self)
    · rcases List.mem_cons.mp h with rfl | h
      · exact Nat.le_trans (Nat.le_max_right _ _) (max_ge cs _ _ List.mem_cons_self)
      · exact max_ge cs _ _ (List.mem_cons_of_mem _ h)
theorem max_in : ∀ (cs : List Nat) (c : Nat), cs.foldl max c ∈ c :: cs
  | [], c => List.mem_cons_self
  | d :: cs, c => by
    rw [List.foldl_cons]
    rcases List.mem_cons.mp (max_in cs (max c d)) with h | h
    · rw [h]
      rcases Nat.le_total c d with z | z
      · rw [Nat.max_eq_right z]; exact List.mem_cons_of_mem _ List.mem_cons_self
      · rw [Nat.max_eq_left z]; exact List.mem_cons_self
    · exact List.mem_cons_of_mem _ (List.mem_cons_of_mem _ h)
theorem ixN_at {n j : Nat} (hj : j < n) : ixN n (j : Int) = some j := by
  unfold ixN
  rw [if_pos (by omega), if_pos (by omega)]
  simp
theorem rep_ev {a b : M W} {d d1 d2 : SD} {xs : List W} {n : Nat} (ha : a d = .ok (.list xs) d1) (hb : b d1 = .ok (.int (n : Int)) d2) (h : xs.length * n ≤ 16000000) (hn : n ≤ 16000000) : mRepF a b d = .ok (.list (List.replicate n xs).flatten) d2 := by
  rw [ev_repF, ha]
  dsimp only [Out.bind]
  rw [hb]
  dsimp only [Out.bind]
  rw [if_pos (cdec_iff.mpr ⟨by omega, by omega, le_line (by rw [Int.toNat_natCast]; exact h)⟩), Int.toNat_natCast]
/-- a value repeated -/
theorem rep_nat (n v : Nat) : (List.replicate n [PyData.int (v : Int)]).flatten = natW (List.replicate n v) := by
  induction n with
  | zero => rfl
  | succ n ih => rw [List.replicate_succ, List.flatten_cons, ih]; rfl
theorem mul_tup {xs : List W} {k : Nat} (h1 : xs ≠ []) (h2 : 2 ≤ k) (h3 : k ≤ 1000) (h4 : xs.length ≤ 1000) : mulW (.tuple xs) (.int (k : Int)) = some (.tuple (List.replicate k xs).flatten) := by
  show (if cdec (xs ≠ [] ∧ 2 ≤ (k : Int) ∧ (k : Int) ≤ 1000 ∧ xs.length ≤ 1000) = true then _ else _) = _
  rw [if_pos (cdec_iff.mpr ⟨h1, by omega, by omega, h4⟩), Int.toNat_natCast]
/-! ### one name's comprehension, at any state -/
theorem wipe_set {d : SD} {v : Nat} {x : Option Slot} : wipeD (d.set v x) [v] = wipeD d [v] := by
  show (d.set v x).set v none = d.set v none
  rw [List.set_set]
theorem store_wipe {d : SD} {v : Nat} {w : W} (h : v < d.length) : store v w (wipeD d [v]) = some (d.set v (some (.val w))) := by
  rw [ev_store]
  have e : (wipeD d [v])[v]? = some none := by
    show (d.set v none)[v]? = _
    rw [List.getElem?_set_self h]
  rw [e]
  show some ((d.set v none).set v _) = _
  rw [List.set_set]
theorem mLc_set {α : Type} {v : Nat} {it : M (List W)} {t : M Bool} {e : M W} {d : SD} (l : List α) (f0 f : α → W) (p : α → Bool) (hit : it d = .ok (l.map f0) d) (hv : v < d.length) (hc : cleanD d [v] = true) (hl : l.length ≤ 16000000)
    (h : ∀ a ∈ l, t (d.set v (some (.val (f0 a)))) = .ok (p a) (d.set v (some (.val (f0 a)))) ∧ (p a = true → e (d.set v (some (.val (f0 a)))) = .ok (f a) (d.set v (some (.val (f0 a)))))) : mLc [v] it (store v) t e d = .ok (.list ((l.filter p).map f)) d := by
  refine mLc_of l f0 f p hit hc (le_line hl) fun a ha => ?_
  obtain ⟨h1, h2⟩ := h a ha
  exact ⟨_, _, store_wipe hv, h1, fun q => ⟨_, h2 q, wipe_set⟩, fun _ => wipe_set⟩
theorem mLc_none {α : Type} {v : Nat} {it : M (List W)} {t : M Bool} {e : M W} {d : SD} (l : List α) (f0 : α → W) (hit : it d = .ok (l.map f0) d) (hv : v < d.length) (hc : cleanD d [v] = true) (hl : l.length ≤ 16000000)
    (h : ∀ a ∈ l, t (d.set v (some (.val (f0 a)))) = .ok false (d.set v (some (.val (f0 a))))) : mLc [v] it (store v) t e d = .ok (.list []) d := by
  have := mLc_set (e := e) l f0 f0 (fun _ => false) hit hv hc hl fun a ha => ⟨h a ha, fun z => Bool.noConfusion z⟩
  rw [this]
  simp
theorem mLc_setA {α : Type} {v : Nat} {it : M (List W)} {e : M W} {d : SD} (l : List α) (f0 f : α → W) (hit : it d = .ok (l.map f0) d) (hv : v < d.length) (hc : cleanD d [v] = true) (hl : l.length ≤ 16000000)
    (h : ∀ a ∈ l, e (d.set v (some (.val (f0 a)))) = .ok (f a) (d.set v (some (.val (f0 a))))) : mLc [v] it (store v) mYes e d = .ok (.list (l.map f)) d := by
  have := mLc_set (t := mYes) (e := e) l f0 f (fun _ => true) hit hv hc hl fun a ha => ⟨rfl, fun _ => h a ha⟩
  rw [this]
  rw [List.filter_eq_self.mpr (fun _ _ => rfl)]
@[simp] theorem ev_notBW (x y : Bool) : notBW (.bool x) (.bool y) = some (.bool (!decide (x = y))) := rfl
theorem ne_nilL : neW (.list []) (.list []) = some (.bool false) := ne_self (lv_ok (k := 1) (by decide) (by intro d hd; cases hd))
theorem rangeW_nat (n : Nat) : rangeW 0 n = (List.range n).map fun (i : Nat) => PyData.int (i : Int) := by
  rw [rangeW_map]
  apply List.map_congr_left
  intro i _
  rw [Int.zero_add]
@[simp] theorem ev_listWL (ds : List W) : listW [.list ds] = some (.list ds) := rfl
@[simp] theorem ev_listWT (ds : List W) : listW [.tuple ds] = some (.list ds) := rfl
@[simp] theorem ev_tupleWL (ds : List W) : tupleW [.list ds] = some (.tuple ds) := rfl
@[simp] theorem ev_tupleWT (ds : List W) : tupleW [.tuple ds] = some (.tuple ds) := rfl
@[simp] theorem ev_tyT (ds : List W) : isDict (.tuple ds) = false := rfl
@[simp] theorem ev_dL (ds : List W) : isDict (.list ds) = false := rfl
theorem yes_of {o : SOut} (d : SD) (h : o = .ret (.val (.bool true)) d) : Yes o := ⟨d, h⟩
end Qd
end
section
set_option Elab.async false
set_option linter.all false
set_option maxRecDepth 100000
set_option maxHeartbeats 1000000
/-! Dicts of naturals; tuples of naturals in order. -/
namespace Qd
open PySem PySem.Spec PyProof.Rows L2
section
variable (d : SD)
@[simp] theorem ev_revS (a : M W) : mRevS a d = (a d).bind fun w d1 => match w with
  | .list ws => .ok (.list ws.reverse) d1
  | .tuple ws => .ok (.tuple ws.reverse) d1
  | _ => .bad := rfl
@[simp] theorem ev_chain3 (g g' g'' : W → W → Option W) (ma mb mc me : M W) : mChain3 g g' g'' ma mb mc me d = (ma d).bind fun x d1 => (mb d1).bind fun y d2 => (ofOpt (g x y) d2).bind fun z d2 => match z with
  | .bool true => (mc d2).bind fun u d3 => (ofOpt (g' y u) d3).bind fun z' d3 => match z' with
    | .bool true => (me d3).bind fun v d4 => ofOpt (g'' u v) d4
    | .bool false => .ok (.bool false) d3
    | _ => .bad
  | .bool false => .ok (.bool false) d2
  | _ => .bad := rfl
@[simp] theorem ev_ext (i : Nat) (m : M W) : mExt i m d = (ofOpt (mineAt i d) d).toS fun _ d0 => (m d0).toS fun y d1 => match mineAt i d1, y with
  | some (.list ds), .list es => if ds.length + es.length ≤ sizeLine then .next (setMine i (.list (ds ++ es)) d1) else .bad
  | _, _ => .bad := rfl
end
@[simp] theorem ev_gcd (a b : Int) : gcdW [.int a, .int b] = some (.int ((Nat.gcd a.natAbs b.natAbs : Nat) : Int)) := rfl
theorem at0 (w : W) (r : List W) : atI (w :: r) 0 = some w := show atI (w :: r) ((0 : Nat) : Int) = some w from atI_nat rfl
theorem at1 (w x : W) (r : List W) : atI (w :: x :: r) 1 = some x := show atI (w :: x :: r) ((1 : Nat) : Int) = some x from atI_nat rfl
theorem ch3_ev {d : SD} {a b c e : M W} {i j k l : Nat} (ha : a d = .ok (.int (i : Int)) d) (hb : b d = .ok (.int (j : Int)) d) (hc : c d = .ok (.int (k : Int)) d) (he : e d = .ok (.int (l : Int)) d) :
    mChain3 ltW ltW ltW a b c e d = .ok (.bool (decide (i < j) && (decide (j < k) && decide (k < l)))) d := by
  rw [ev_chain3, ha]
  dsimp only [Out.bind]
  rw [hb]
  dsimp only [Out.bind]
  by_cases h1 : i < j
  · by_cases h2 : j < k
    · simp [h1, hc, h2, he]
    · simp [h1, hc, h2]
  · simp [h1]
/-- a comprehension whose test writes: some of the items, in their order -/
theorem lcD_sub {α : Type} {vs : List Nat} {g : GW} {t : M Bool} {e : M W} (f0 : α → W) (P : SD → Prop) : ∀ {l : List α} {d : SD}, P d →
    (∀ a ∈ l, ∀ d, P d → ∃ d1 d2 b, g (f0 a) (wipeD d vs) = some d1 ∧ t d1 = .ok b d2 ∧ (b = true → ∃ d3, e d2 = .ok (f0 a) d3 ∧ P d3) ∧ (b = false → P d2)) → ∃ (cs : List α) (d' : SD), lcD vs g t e (l.map f0) d = .ok (cs.map f0) d' ∧ P d' ∧ cs.Sublist l
  | [], d, h, _ => ⟨[], d, rfl, h, List.Sublist.refl _⟩
  | a :: l, d, h, hs => by
    obtain ⟨d1, d2, b, h1, h2, h3, h4⟩ := hs a List.mem_cons_self d h
    rw [List.map_cons, lcD_cons, h1]
    dsimp only
    rw [h2]
    dsimp only [Out.bind]
    cases b with
    | true =>
      obtain ⟨d3, h5, h6⟩ := h3 rfl
      obtain ⟨cs, d', e1, e2, e3⟩ := lcD_sub f0 P (l := l) h6 fun x hx => hs x (List.mem_cons_of_mem _ hx)
      refine ⟨a :: cs, d', ?_, e2, e3.cons_cons a⟩
      rw [if_pos rfl, h5]
      dsimp only
      rw [e1]
      rfl
    | false =>
      obtain ⟨cs, d', e1, e2, e3⟩ := lcD_sub f0 P (l := l) (h4 rfl) fun x hx => hs x (List.mem_cons_of_mem _ hx)
      refine ⟨cs, d', ?_, e2, e3.cons a⟩
      rw [if_neg Bool.false_ne_true, e1]
theorem mLc_sub {α : Type} {vs : List Nat} {it : M (List W)} {g : GW} {t : M Bool} {e : M W} {d d1 : SD} (f0 : α → W) (P : SD → Prop) (l : List α) (hit : it d = .ok (l.map f0) d1) (hc : cleanD d1 vs = true) (hl : l.length ≤ 16000000) (hP : P d1)
    (h : ∀ a ∈ l, ∀ d, P d → ∃ d1 d2 b, g (f0 a) (wipeD d vs) = some d1 ∧ t d1 = .ok b d2 ∧ (b = true → ∃ d3, e d2 = .ok (f0 a) d3 ∧ P d3) ∧ (b = false → P d2)) : ∃ (cs : List α) (d' : SD), mLc vs it g t e d = .ok (.list (cs.map f0)) (backD d1 vs d') ∧ P d' ∧ cs.Sublist l := by
  obtain ⟨cs, d', e1, e2, e3⟩ := lcD_sub (t := t) f0 P hP h
  refine ⟨cs, d', ?_, e2, e3⟩
  rw [ev_lc, hit]
  dsimp only [Out.bind]
  rw [if_pos ⟨hc, by rw [List.length_map]; exact le_line hl⟩, e1]
def mkD (l : List (Nat × Nat)) : W := .dict (l.map fun p => (PyData.int (p.1 : Int), PyData.int (p.2 : Int)))
def getN (l : List (Nat × Nat)) (k : Nat) : Option Nat := (l.find? fun p => p.1 == k).map (·.2)
def putN (l : List (Nat × Nat)) (k v : Nat) : List (Nat × Nat) := if (l.any fun p => p.1 == k) = true then l.map (fun p => if p.1 = k then (p.1, v) else p) else l ++ [(k, v)]
theorem dkind_mkD (l : List (Nat × Nat)) : dkind (l.map fun p => (PyData.int (p.1 : Int), PyData.int (p.2 : Int))) = some (false, l.map fun p => (PyData.int (p.1 : Int), PyData.int (p.2 : Int))) := by
  cases l <;> rfl
theorem key_eq (i k : Nat) : decide (isK (.int (i : Int)) = some (.inl (k : Int))) = (i == k) := by
  show decide ((some (Sum.inl (i : Int)) : Option Key) = some (Sum.inl (k : Int))) = _
  by_cases h : i = k
  · subst h; simp
  · have : ¬ ((i : Int) = (k : Int)) := by omega
    simp [h, this]
theorem dfind_mkD (l : List (Nat × Nat)) (k : Nat) : dfind (mkD l) (.int (k : Int)) = some ((getN l k).map fun (v : Nat) => PyData.int (v : Int)) := by
  unfold mkD dfind
  dsimp only
  rw [dkind_mkD]
  dsimp only
  show (some (Sum.inl (k : Int)) : Option Key).map (getG isK _) = _
  show some (getG isK _ _) = _
  congr 1
  unfold getG getN
  rw [List.find?_map]
  have e : ((fun kv : W × W => decide (isK kv.1 = some (Sum.inl (k : Int)))) ∘ fun p : Nat × Nat => (PyData.int (p.1 : Int), PyData.int (p.2 : Int))) = fun p => p.1 == k := by
    funext p; exact key_eq p.1 k
  rw [e]
  cases l.find? fun p => p.1 == k <;> rfl
theorem dput_mkD (l : List (Nat × Nat)) (k v : Nat) (h : l.length < 16000000) : dput (mkD l) (.int (k : Int)) (.int (v : Int)) = some (mkD (putN l k v)) := by
  unfold mkD dput
  dsimp only
  rw [dkind_mkD]
  dsimp only
  show (if (l.map _).length < sizeLine then some (PyData.dict (putG isK keyD _ (Sum.inl (k : Int)) _)) else none) = _
  rw [List.length_map, if_pos (lt_line h)]
  congr 2
  unfold putG putN
  rw [List.any_map]
  have e : ((fun kv : W × W => decide (isK kv.1 = some (Sum.inl (k : Int)))) ∘ fun p : Nat × Nat => (PyData.int (p.1 : Int), PyData.int (p.2 : Int))) = fun p => p.1 == k := by
    funext p; exact key_eq p.1 k
  rw [e]
  by_cases q : (l.any fun p => p.1 == k) = true
  · rw [if_pos q, if_pos q, List.map_map, List.map_map]
    apply List.map_congr_left
    intro p _
    show (if isK (PyData.int (p.1 : Int)) = some (Sum.inl (k : Int)) then (PyData.int (p.1 : Int), PyData.int (v : Int)) else (PyData.int (p.1 : Int), PyData.int (p.2 : Int))) = ((fun p : Nat × Nat => (PyData.int (p.1 : Int), PyData.int (p.2 : Int))) (if p.1 = k then (p.1, v) else p))
    by_cases z : p.1 = k
    · rw [if_pos z, if_pos (by subst z; rfl)]
    · rw [if_neg z, if_neg (fun y => z (by
        have := key_eq p.1 k
        rw [decide_eq_true y] at this
        simpa using this.symm))]
  · rw [if_neg q, if_neg q, List.map_append]
    rfl
theorem putN_len (l : List (Nat × Nat)) (k v : Nat) : (putN l k v).length ≤ l.length + 1 := by
  unfold putN
  split
  · rw [List.length_map]; omega
  · simp
theorem getN_put (l : List (Nat × Nat)) (k v j : Nat) : getN (putN l k v) j = if j = k then some v else getN l j := by
  unfold putN getN
  split
  · rename_i h
    induction l with
    | nil => simp at h
    | cons p l ih =>
      rw [List.map_cons, List.find?_cons, List.find?_cons]
      by_cases e : p.1 = k
      · rw [if_pos e]
        by_cases z : j = k
        · subst z; simp [e]
        · have e2 : (p.1 == j) = false := by simp; omega
          rw [if_neg z, e2]
          dsimp only
          by_cases h' : (l.any fun p => p.1 == k) = true
          · have := ih h'
            rw [if_neg z] at this
            exact this
          · have hid : l.map (fun p => if p.1 = k then (p.1, v) else p) = l := by
              have : ∀ p ∈ l, (fun p : Nat × Nat => if p.1 = k then (p.1, v) else p) p = id p := fun p hp => by
                have : ¬ p.1 = k := fun y => h' (List.any_eq_true.mpr ⟨p, hp, by simp [y]⟩)
                simp [this]
              rw [List.map_congr_left this, List.map_id]
            rw [hid]
      · rw [if_neg e]
        have h' : (l.any fun p => p.1 == k) = true := by simpa [e] using h
        by_cases z : p.1 = j
        · have : ¬ j = k := by omega
          simp [z, this]
        · have e2 : (p.1 == j) = false := by simp [z]
          rw [e2]
          exact ih h'
  · rename_i h
    rw [List.find?_append]
    by_cases z : j = k
    · subst z
      have : l.find? (fun p => p.1 == j) = none := by
        rw [List.find?_eq_none]
        intro p hp q
        exact h (List.any_eq_true.mpr ⟨p, hp, q⟩)
      simp [this]
    · have e2 : ((k : Nat) == j) = false := by simp; omega
      rw [if_neg z]
      cases l.find? (fun p => p.1 == j) <;> simp [e2]
theorem ltD_nat (a b : List Nat) : ltW (.tuple (natW a)) (.tuple (natW b)) = some (.bool (ltN a b)) := by
  show (match ltI (.tuple (natW a)) (.tuple (natW b)) with
    | some c => some c
    | none => ltD (.tuple (natW a)) (.tuple (natW b))) = _
  show ltD (.tuple (natW a)) (.tuple (natW b)) = _
  unfold ltD ordOk
  rw [alike_natT, ok_natT, ok_natT]
  simp only [Bool.and_self, Bool.true_and, if_true]
  have : isNone (.tuple (natW a)) = false := rfl
  simp [this]
  rw [PySem.W.dataLt_tuple]
  exact lex_natW a b
end Qd
end
section
set_option Elab.async false
set_option linter.all false
set_option maxRecDepth 100000
set_option maxHeartbeats 1000000
/-! tuple of a generator expression. -/
namespace Qd
open PySem PySem.Spec PyProof.Rows L2 GenW
/-- what is wanted of a new tuple -/
def NB (H : Hp) (xs : List V) (Q : VK) : Prop := ∀ p, H p = none → Q (.ref p) (upd H p (.tup xs))
theorem lay_tupB {X : Cx} {pins : List (Addr × Obj)} {σ : L2.St} {H : Hp} {s : Shared} {Q : VK} (I : Inv X pins σ H s) {xs : List V} {its : List Value} (r : Vals xs its) (hz : xs.length ≤ sizeLine) (q : NB H xs Q) (t : Nat := s.toks) :
    EP X pins σ Q (.ref s.heap.objs.size) { s with heap := s.heap.push { cls := .type "tuple", data := .seq its.toArray }, toks := t } := by
  refine ⟨.ref s.heap.objs.size, upd H s.heap.objs.size (.tup xs), ?_, rfl, q _ (I.hok.fresh (Nat.le_refl _))⟩
  exact I.laid (t' := t) (fun c u e => Heap.get?_push_of_some _ e) (Nat.le_refl _) ⟨hz, its, r, IsTup.new _ _⟩
section
variable {X : Cx} {pins : List (Addr × Obj)} {σ : L2.St} {H₁ : Hp} {s₁ : Shared}
/-- by turns; the items that are out -/
def tGt (P : Addr) (wi : TI) (g : TG) (tt : TT) (te : TE) (vs : List Nat) : L2.St → Hp → (List V → Hp → Prop) → Prop := fun σ H Q => wi σ H fun J H1 => H1 P = some (tabO P) ∧ ∃ W : Nat → Nat → List V → Hp → Prop, (∃ m, W 0 m [] H1) ∧ ∀ i m ys H, W i m ys H →
  (J.stop i H ∧ ys.length ≤ sizeLine ∧ Q ys H) ∨ (J.go i H ∧ ∃ Nx : List V → Hp → Prop, (∀ zs H', Nx zs H' → ∃ m', m' < m ∧ W (i + 1) m' zs H') ∧ ∀ x H', J.yld i H x H' → g x (wipe σ vs) H' fun σ2 H2 => wipe σ2 vs = wipe σ vs ∧ tt σ2 H2 fun b H3 =>
    if b = true then te σ2 H3 fun y H4 => ys.length < sizeLine ∧ Nx (ys ++ [y]) H4 else Nx ys H3)
theorem seg_gt {B : Around} {elt tg iter : Expr} {ifs : List Expr} {scope : Scope} {pos : Pos} {cenv : Env} {it a S : Addr} {gn : Nat} {go : Obj} {fp : List Addr} {tn : Nat → Heap → Prop} {J : It} {g : TG} {tt : TT} {te : TE} {vs : List Nat} {Q : List V → Hp → Prop} {W : Nat → Nat → List V → Hp → Prop}
    (hc : X.calm = true) (T : Turn X.prog X.w X.K tg J fp it tn) (hgo : ∀ h : Heap, h.get? a = some go → h.IsGen a gn) (hafp : a ∉ fp) (hS : Apart (gxC X (B.deeper cenv) s₁ H₁ cenv fp [(a, go)]) S) (hSa : S ≠ a) (hSf : S ∉ fp)
    (hco : cenv.scope.isCoroutine = false)
    (hg : PG (gxC X (B.deeper cenv) s₁ H₁ cenv fp [(a, go)]) tg g) (ht : PTs (gxC X (B.deeper cenv) s₁ H₁ cenv fp [(a, go)]) ifs tt) (he : PE (gxC X (B.deeper cenv) s₁ H₁ cenv fp [(a, go)]) elt te)
    (turn : ∀ i m ys H, W i m ys H →
      (J.stop i H ∧ ys.length ≤ sizeLine ∧ Q ys H) ∨ (J.go i H ∧ ∃ Nx : List V → Hp → Prop, (∀ zs H', Nx zs H' → ∃ m', m' < m ∧ W (i + 1) m' zs H') ∧ ∀ x H', J.yld i H x H' → g x (wipe σ vs) H' fun σ2 H2 => wipe σ2 vs = wipe σ vs ∧ tt σ2 H2 fun b H3 =>
        if b = true then te σ2 H3 fun y H4 => ys.length < sizeLine ∧ Nx (ys ++ [y]) H4 else Nx ys H3)) :
    ∀ (m n i : Nat) (s₀ s : Shared) (ys : List V) (H : Hp), n + ys.length = sizeLine → GI (gxC X (B.deeper cenv) s₁ H₁ cenv fp [(a, go)]) S [] ys (wipe σ vs) H s → tn i s.heap → (∀ b ∈ fp, H b = none) → W i m ys H →
      Seg (model X.prog X.w) B (REnd X.prog X.w X.stack H₁ s₁ fp S a gn Q (fun _ _ _ => False)) (YItem s₁ S a gn) n s₀
        (.compLoop (.GeneratorExp elt [⟨tg, iter, ifs, 0⟩] scope pos) 0 (.ref it) .none cenv)
        ((model X.prog X.w).den (.compLoop (.GeneratorExp elt [⟨tg, iter, ifs, 0⟩] scope pos) 0 (.ref it) .none cenv)) [] s := by
  intro m
  induction m using Nat.strongRecOn with
  | ind m ih =>
    intro n i s₀ s ys H hlen gi st nf w
    obtain ⟨acc, c, rv, I⟩ := gi
    have hacc : acc.size = ys.length := by rw [rv.length, Array.length_toList]
    have stat : ∀ {σ' : L2.St} {H' : Hp} {s' : Shared}, Inv (gxC X (B.deeper cenv) s₁ H₁ cenv fp [(a, go)]) [(S, lstObj acc c)] σ' H' s' → (∀ b ∈ fp, H' b = none) → ∀ b ∈ fp, FpOk (gxC X (B.deeper cenv) s₁ H₁ cenv fp [(a, go)]) [(S, lstObj acc c)] H' b := fun {σ' H' s'} I' hn b hb =>
      ⟨hn b hb, (I'.ok.exf b hb).1, I'.ok.exfs b hb, .inl hb, fun x c e => (I'.ok.exf b hb).2 x c e, fun p hp => by
        have hp : p = (a, go) ∨ p = (S, lstObj acc c) := by simpa using hp
        rcases hp with rfl | rfl
        · exact fun z => hafp (by rw [show a = b from z]; exact hb)
        · exact fun z => hSf (by rw [show S = b from z]; exact hb)⟩
    have ov := @over_gx B elt tg iter ifs scope pos (.ref it) .none cenv
    show Seg _ B _ _ _ s₀ _ ((compTurn (.GeneratorExp elt [⟨tg, iter, ifs, 0⟩] scope pos) 0 (.ref it) .none cenv).onRaise (leaving cenv)) [] s
    rw [compTurn_gen, Sem.onRaise_eq_wrap]
    refine seg_bind_wrap (wpAny_standAt ?_)
    rcases turn i m ys H w with ⟨hstop, hle, qq⟩ | ⟨hgo2, Nx, hNx, step⟩
    · have td := T.done (gxC X (B.deeper cenv) s₁ H₁ cenv fp [(a, go)]) rfl rfl rfl hc i [(S, lstObj acc c)] s _ H (fun _ _ => False) I (stat I nf) st hstop
      refine seg_bind_wrap ?_
      rw [ov]
      refine thnF td fun r s6 ⟨hr, I6⟩ => ?_
      subst hr
      obtain ⟨p1, p2, _⟩ := I6.pin (S, lstObj acc c) (List.mem_append_right _ List.mem_cons_self)
      exact seg_end (.ok .next) (.inl ⟨.inr rfl, H, ys, acc, c, I6.os, I6.bare, I6.base, I6.hok, p2, p1, rv, hle, qq⟩)
    · have ti := T.item (gxC X (B.deeper cenv) s₁ H₁ cenv fp [(a, go)]) rfl rfl rfl hc i [(S, lstObj acc c)] s _ H (fun _ _ => False) I (stat I nf) st hgo2
      refine seg_bind_wrap ?_
      rw [ov]
      refine thnF ti fun r s6 ⟨u, hr, h6⟩ => ?_
      subst hr
      dsimp only
      refine seg_bind_wrap ?_
      rw [ov]
      refine thnF h6 fun _ s7 ⟨x, H7, I7, r7, y7, st7, n7⟩ => ?_
      have I7' := I7.pinned (stat I7 n7) (T.obj _ _ st7)
      refine seg_bind_wrap ?_
      rw [ov]
      refine thnF (hg.run _ s7 _ H7 x u _ I7' r7 (step x H7 y7)) fun _ s8 ⟨σ8, H8, I8, hw8, q8⟩ => ?_
      refine seg_bind_wrap ?_
      rw [ov]
      refine thnF (ht.run _ s8 σ8 H8 _ I8 q8) fun b s9 ⟨H9, I9, q9⟩ => ?_
      -- the next turn
      have fin : ∀ {s' : Shared} {H' : Hp} {n' : Nat} {s₀' : Shared} {zs : List V}, n' + zs.length = sizeLine → GI (gxC X (B.deeper cenv) s₁ H₁ cenv fp [(a, go)]) S (pinsAt fp s7.heap) zs σ8 H' s' → Nx zs H' →
          Seg (model X.prog X.w) B (REnd X.prog X.w X.stack H₁ s₁ fp S a gn Q (fun _ _ _ => False)) (YItem s₁ S a gn) n' s₀'
            (.compLoop (.GeneratorExp elt [⟨tg, iter, ifs, 0⟩] scope pos) 0 (.ref it) .none cenv)
            ((model X.prog X.w).den (.compLoop (.GeneratorExp elt [⟨tg, iter, ifs, 0⟩] scope pos) 0 (.ref it) .none cenv)) [] s' := fun {s' H' n' s₀' zs} hle ⟨acc', c', rz, I'⟩ nx => by
        obtain ⟨m', hm, w'⟩ := hNx zs H' nx
        have pin' : ∀ b ∈ fp, ∀ o, s7.heap.get? b = some o → s'.heap.get? b = some o ∧ H' b = none := fun b hb o e =>
          let z := I'.pin (b, o) (List.mem_append_right _ (List.mem_cons_of_mem _ (mem_pinsAt hb e)))
          ⟨z.1, z.2.1⟩
        have hl : (wipe σ vs).length = σ8.length := by rw [← hw8, wipe_length]
        have I'' : Inv (gxC X (B.deeper cenv) s₁ H₁ cenv fp [(a, go)]) [(S, lstObj acc' c')] σ8 H' s' := I'.pins_of fun p hp => I'.pin p (List.mem_append_right _ (by rw [List.mem_singleton.mp hp]; exact List.mem_cons_self))
        refine ih m' hm n' (i + 1) s₀' s' zs H' hle ⟨acc', c', rz, I''.weak hl fun j v e => ?_⟩ (T.keep _ _ _ st7 fun b hb o e => (pin' b hb o e).1) (fun b hb => ?_) w'
        · rw [← hw8] at e
          exact (wipe_some e).1
        · obtain ⟨o, e, _⟩ := T.obj _ _ st7 b hb
          exact (pin' b hb o e).2
      cases b with
      | false =>
        simp only [Bool.false_eq_true, if_false] at q9 ⊢
        exact seg_again rfl (fin hlen ⟨acc, c, rv, I9⟩ q9)
      | true =>
        simp only [if_true] at q9 ⊢
        have hy : ∀ v, yieldOut cenv v = yieldValue v := fun v => by simp only [yieldOut, hco, Bool.false_eq_true, if_false]
        simp only [hy]
        rw [Sem.bind_eq_wrap', Sem.bind_eq_wrap', Sem.wrap_wrap, Sem.wrap_wrap]
        refine seg_wrap ?_
        rw [ov]
        refine thnF (he.run _ s9 σ8 H9 _ I9 q9) fun z s10 ⟨yv, H10, I10, r10, hlt, nx⟩ => ?_
        obtain ⟨n, rfl⟩ : ∃ n', n = n' + 1 := ⟨n - 1, by omega⟩
        have hgen : s10.heap.IsGen a gn := hgo _ (I10.pin (a, go) (List.mem_append_left _ (List.mem_singleton.mpr rfl))).1
        have pS := I10.pin (S, lstObj acc c) (List.mem_append_right _ List.mem_cons_self)
        refine seg_at (seg_yield rfl rfl rfl ⟨I10.os, I10.bare, I10.nolimit, hgen, ⟨acc, c, pS.1, by omega⟩, fun s' zz => ?_⟩)
        refine seg_again rfl (fin (by rw [List.length_append, List.length_singleton]; omega) (GI.woken (ip := pinsAt fp s7.heap) ?_ ?_ hS ⟨acc, c, rv, I10⟩ r10 zz) nx)
        · intro p hp
          rw [List.mem_singleton.mp hp]
          exact Ne.symm hSa
        · intro p hp z
          exact hSf (by rw [← z]; exact (of_pinsAt hp).1)
end
/-- what the consumer gets -/
def GtReady (X : Cx) (pins : List (Addr × Obj)) (σ : L2.St) (k : Nat) (Q : List V → Hp → Prop) (a : Addr) (s5 : Shared) : Prop :=
  ∃ (g : Nat) (cd : Code) (s2 : Shared) (H2 : Hp) (fp : List Addr), s5.heap.IsGen a g ∧ s5.heap.NoLimit ∧ s5.gens[g]? = some (.fresh cd) ∧ AllBare s5.gens ∧ a < s5.heap.objs.size ∧ s2.heap.objs.size ≤ s5.heap.objs.size ∧ s5.os = s2.os ∧ Inv X pins σ H2 s2 ∧ (∀ b ∈ fp, FpOk X pins H2 b) ∧
    ∀ (A : Around) (S : Addr) (s' : Shared), Room (k + 1) A → A.frames = some X.stack → s5.heap.objs.size ≤ S → (∀ b o, s5.heap.get? b = some o → s'.heap.get? b = some o) → (∃ c, s'.heap.get? S = some (lstObj #[] c)) → s'.os = s2.os → AllBare s'.gens →
      Seg (model X.prog X.w) A (REnd X.prog X.w X.stack H2 s2 fp S a g Q (fun _ _ _ => False)) (YItem s2 S a g) sizeLine s' cd ((model X.prog X.w).den cd) [] s'
section
variable {X : Cx} {pins : List (Addr × Obj)} {σ : L2.St} {H : Hp} {s : Shared}
theorem gt_make {c P : Addr} {k : Nat} {elt tg iter : Expr} {ifs : List Expr} {scope : Scope} {own : List (Str × Nat)} {gpos : Pos} {wi : TI} {g : TG} {tt : TT} {te : TE} {Q : List V → Hp → Prop} {Q' : Value → Shared → Prop}
    (hr : Room (k + 1) X.A) (TB : GxR.TabB X.base X.mg c P) (hcode : X.env.code = .ref c) (S₀ : GxScope X scope own) (hN : X.N.Nodup) (hc : X.calm = true) (hi : PI X tg iter wi)
    (hg : ∀ (A : Around) (s : Shared) (H : Hp) (cl : List (Str × Addr)) (C : Addr) (code : Value) (fp : List Addr) (pn : List (Addr × Obj)), Room k A → PG (gxC X A s H (genEnv scope cl C code builtinsNs X.env) fp pn) tg g)
    (ht : ∀ (A : Around) (s : Shared) (H : Hp) (cl : List (Str × Addr)) (C : Addr) (code : Value) (fp : List Addr) (pn : List (Addr × Obj)), Room k A → PTs (gxC X A s H (genEnv scope cl C code builtinsNs X.env) fp pn) ifs tt)
    (he : ∀ (A : Around) (s : Shared) (H : Hp) (cl : List (Str × Addr)) (C : Addr) (code : Value) (fp : List Addr) (pn : List (Addr × Obj)), Room k A → PE (gxC X A s H (genEnv scope cl C code builtinsNs X.env) fp pn) elt te)
    (hs : ∀ v, genFold iter X.env v = pure v) (I : Inv X pins σ H s) (h : tGt P wi g tt te (own.map (·.2)) σ H Q) (hQ : ∀ a s5, GtReady X pins σ k Q a s5 → Q' (.ref a) s5) :
    wpAny (model X.prog X.w) X.A (eval (.GeneratorExp elt [⟨tg, iter, ifs, 0⟩] scope gpos) X.env) Q' X.xe s := by
  have hfree : ∀ y ∈ scope.names, y.2 = .free → ∃ c, X.env.cells.lookup y.1 = some c := fun y hy e => by
    rcases S₀.blk.free y hy e with k | k
    · exact I.ok.has _ (.inl k)
    · exact I.ok.has _ (.inr k)
  refine wpAny_GeneratorExp_make S₀.co (closure_ok hfree) S₀.cell S₀.dot S₀.blk.kind (by have := hr.dp; omega) ?_ hs
  refine thn (hi.run pins s σ H _ I h) fun xv s1 h1 => thn h1 fun itv s2 h2 => ?_
  obtain ⟨it, fp, tn, J, H2, e, I2, T, st2, f2, hP, W, ⟨m0, w0⟩, turn⟩ := h2
  subst e
  refine ⟨I2.nolimit, ?_⟩
  obtain ⟨⟨ps, hPs, htr⟩, _, _⟩ := I2.hok P _ hP
  have cd : PySem.W.CodeHd s2.heap c P := TB.code.keeps I2.bk
  have sz : ∀ b ∈ fp, b < s2.heap.objs.size := fun b hb => by
    obtain ⟨o, e, _⟩ := T.obj _ _ st2 b hb
    exact Heap.lt_size e
  have hcP : cStatics ≠ P := fun e => by
    obtain ⟨_, hns, _⟩ := I2.nolimit
    obtain ⟨o', es, ep, ho, hd, _⟩ := hns
    rw [e, hPs] at ho
    cases ho
    cases hd
  have hfpP : ∀ b ∈ fp, b ≠ P := fun b hb z => by
    have q := (f2 b hb).1
    rw [z, hP] at q
    cases q
  have cont : ∀ (code : Value) (h3 : Heap) (tk : Nat) (ps' : Array Value), Heap.ExtBut P s2.heap h3 → s2.heap.objs.size ≤ h3.objs.size → h3.get? P = some { cls := .none, data := .fields ps' } → TriplesOk ps'.toList →
      wpAny (model X.prog X.w) X.A (builtinsFor X.env.globals X.env.builtins) (fun bi s₄ =>
        ∀ h', h'.Ns s₄.heap.objs.size (fun y => if y = ".0" then some (.ref it) else none) → Heap.SameBut s₄.heap.objs.size (s₄.heap.push { cls := .type "frame", data := .dict #[] }) h' →
          Q' (.ref h'.objs.size) { s₄ with
            gens := s₄.gens.push (.fresh (.compStart (.GeneratorExp elt [⟨tg, iter, ifs, 0⟩] scope gpos) 0 (.ref it) .none (genEnv scope (cloFrom X.env.cells scope.names []) s₄.heap.objs.size code bi X.env))),
            toks := s₄.toks + 1 + 1 + 1,
            heap := h'.push { cls := .type "generator", data := .fields #[.int s₄.gens.size 0, .str "<genexpr>" (s₄.toks + 1), .str (X.env.qual ++ "<genexpr>") (s₄.toks + 1 + 1)] } }) X.xe { s2 with heap := h3, toks := tk } := by
    intro code h3 tk ps' hx hsz hP3 ht3
    obtain ⟨bm, ob, e1, e2, e3, e4, e5, e6, e7, e8⟩ := TB.bm
    have keep3 : ∀ b u, b ≠ P → s2.heap.get? b = some u → h3.get? b = some u := fun b u hb e => hx b u hb e
    refine wpAny_builtinsFor (m := X.mg) (by rw [I2.ok.glob]; exact (I2.mod.glob.keeps I2.bk).extBut hx TB.gP) e1 e2 (keep3 _ _ e4 (I2.bk _ _ e5)) e6 e7 e8 ?_
    intro h' hn' hs'
    have hsz' : h'.objs.size = h3.objs.size + 1 := by rw [hs'.1, Heap.size_push]
    have keep' : ∀ b o, h3.get? b = some o → h'.get? b = some o := fun b o e => hs'.extBut b o (Nat.ne_of_lt (Heap.lt_size e)) (Heap.get?_push_of_some _ e)
    refine hQ _ _ ?_
    have main : ∀ (go : Obj), go.data = .fields #[.int s2.gens.size 0, .str "<genexpr>" (tk + 1), .str (X.env.qual ++ "<genexpr>") (tk + 1 + 1)] → go.cls = .type "generator" → go.slots = #[] → (h'.push go).get? h'.objs.size = some go →
        GtReady X pins σ k Q h'.objs.size { s2 with gens := s2.gens.push (.fresh (.compStart (.GeneratorExp elt [⟨tg, iter, ifs, 0⟩] scope gpos) 0 (.ref it) .none (genEnv scope (cloFrom X.env.cells scope.names []) h3.objs.size code builtinsNs X.env))), toks := tk + 1 + 1 + 1, heap := h'.push go } := by
      intro go hgd hgc hgs hgp
      have keep5 : ∀ b o, h3.get? b = some o → (h'.push go).get? b = some o := fun b o e => Heap.get?_push_of_some _ (keep' b o e)
      have keep25 : ∀ b o, b ≠ P → s2.heap.get? b = some o → (h'.push go).get? b = some o := fun b o hb e => keep5 b o (keep3 b o hb e)
      have nP : ∀ b u, H2 b = some u → b ≠ P → ∀ d v, (d = b ∨ H2 d = some (.own b)) → s2.heap.get? d = some v → (h'.push go).get? d = some v := fun b u e hb d v hd q => by
        refine keep25 d v (fun z => ?_) q
        rcases hd with y | y
        · exact hb (by rw [← y]; exact z)
        · rw [z, hP] at y
          cases y
      have hok5 : HOk X.prog X.w H2 (h'.push go) := fun b u e => by
        by_cases hb : b = P
        · rw [hb, hP] at e
          cases e
          rw [hb]
          exact tabO_ok (keep5 _ _ hP3) ht3
        · exact (I2.hok b u e).stay (nP b u e hb) (fun _ q => q) fun _ _ q => q
      have hgen : ∀ h : Heap, h.get? h'.objs.size = some go → h.IsGen h'.objs.size s2.gens.size := fun h e => ⟨go, _, _, e, hgc, hgd, hgs⟩
      have hlt2 : s2.heap.objs.size ≤ h'.objs.size := by omega
      have lim5 : (h'.push go).NoLimit := let ⟨mc, a, b⟩ := I2.nolimit; ⟨mc, a.at' fun o e => keep25 _ o hcP e, b⟩
      have bare5 : AllBare (s2.gens.push (.fresh (.compStart (.GeneratorExp elt [⟨tg, iter, ifs, 0⟩] scope gpos) 0 (.ref it) .none (genEnv scope (cloFrom X.env.cells scope.names []) h3.objs.size code builtinsNs X.env)))) := AllBare.push I2.bare rfl
      have sz5 : s2.heap.objs.size ≤ (h'.push go).objs.size := by rw [Heap.size_push]; omega
      refine ⟨s2.gens.size, _, s2, H2, fp, hgen _ hgp, lim5, Array.getElem?_push_size .., bare5, by show h'.objs.size < (h'.push go).objs.size; rw [Heap.size_push]; omega, sz5, rfl, I2, f2, fun A S s' rA hfr hS kp ⟨cS, hSl⟩ os hb => ?_⟩
      have hS : (h'.push go).objs.size ≤ S := hS
      have hS2 : h'.objs.size < S := by rw [Heap.size_push] at hS; omega
      have hS4 : h3.objs.size < S := by omega
      have kp : ∀ b o, (h'.push go).get? b = some o → s'.heap.get? b = some o := kp
      have hr2 : Room k (A.deeper (genEnv scope (cloFrom X.env.cells scope.names []) h3.objs.size code builtinsNs X.env)) := ⟨rA.hd, by have := rA.dp; show A.depth + 1 + 3 * k + 5 < _; omega, by have := rA.un; show A.units + 3 + 16 * k + 200 < _; omega⟩
      have nfr : ∀ b, s2.heap.objs.size ≤ b → b ∉ frs X.stack := fun b hb z => by
        rcases List.mem_cons.mp (I2.stkSub _ z) with z | z
        · exact absurd I2.lt (by rw [← z]; exact Nat.not_lt.mpr hb)
        · exact I2.nofs hb z
      have I5 : Inv (gxC X (A.deeper (genEnv scope (cloFrom X.env.cells scope.names []) h3.objs.size code builtinsNs X.env)) s2 H2 (genEnv scope (cloFrom X.env.cells scope.names []) h3.objs.size code builtinsNs X.env) fp [(h'.objs.size, go)]) [] (wipe σ (own.map (·.2))) H2 s' := by
        refine gx_start I2 S₀ hN (fun b hb => ⟨f2 b hb, sz b hb⟩) hsz ((hn'.push go).at' fun o e => kp _ o e) (fun b o e n => kp b o (keep25 b o (fun z => by rw [z, hP] at n; cases n) e)) (fun b o e => ?_) (hok5.kept kp) os hb hr2.hd (Around.frames_deeper hfr) fun p hp => ?_
        · by_cases hb : b = P
          · rw [hb]; exact ⟨_, kp _ _ (keep5 _ _ hP3)⟩
          · exact ⟨o, kp b o (keep25 b o hb e)⟩
        · rw [List.mem_singleton.mp hp]
          exact ⟨kp _ _ hgp, I2.hok.fresh hlt2, by show h'.objs.size ≠ h3.objs.size; omega, nfr _ hlt2, fun v q => by rw [hgd] at q; cases q⟩
      have hS3 : s2.heap.objs.size ≤ S := Nat.le_trans sz5 hS
      have ap : Apart (gxC X (A.deeper (genEnv scope (cloFrom X.env.cells scope.names []) h3.objs.size code builtinsNs X.env)) s2 H2 (genEnv scope (cloFrom X.env.cells scope.names []) h3.objs.size code builtinsNs X.env) fp [(h'.objs.size, go)]) S := by
        refine ⟨hS3, Nat.ne_of_gt hS4, fun x c e z => ?_⟩
        obtain ⟨v, o, ho, hd⟩ := I5.cell x c e
        rw [z, hSl] at ho
        cases ho
        cases hd
      have gi : GI (gxC X (A.deeper (genEnv scope (cloFrom X.env.cells scope.names []) h3.objs.size code builtinsNs X.env)) s2 H2 (genEnv scope (cloFrom X.env.cells scope.names []) h3.objs.size code builtinsNs X.env) fp [(h'.objs.size, go)]) S [] [] (wipe σ (own.map (·.2))) H2 s' := by
        refine ⟨#[], cS, .nil, I5.pins_of fun p hp => ?_⟩
        rw [List.mem_singleton.mp hp]
        exact ⟨hSl, I2.hok.fresh hS3, ap.2.1, nfr _ hS3, fun v q => by cases q⟩
      have st6 : tn 0 s'.heap := T.keep _ _ _ st2 fun b hb o e => kp _ _ (keep25 b o (hfpP b hb) e)
      have loop := seg_gt (B := A) (pos := gpos) (scope := scope) (iter := iter) (gn := s2.gens.size) (S := S) hc T hgen (fun z => absurd (sz _ z) (Nat.not_lt.mpr hlt2)) ap (Nat.ne_of_gt hS2) (fun z => absurd (sz _ z) (Nat.not_lt.mpr hS3)) S₀.co
        (hg _ s2 H2 _ _ _ fp [(h'.objs.size, go)] hr2) (ht _ s2 H2 _ _ _ fp [(h'.objs.size, go)] hr2) (he _ s2 H2 _ _ _ fp [(h'.objs.size, go)] hr2) turn m0 sizeLine 0 s' s' [] H2 rfl gi st6 (fun b hb => (f2 b hb).1) w0
      show Seg _ A _ _ _ s' _ ((compStart (.GeneratorExp elt [⟨tg, iter, ifs, 0⟩] scope gpos) 0 (.ref it) .none (genEnv scope (cloFrom X.env.cells scope.names []) h3.objs.size code builtinsNs X.env)).onRaise (leaving (genEnv scope (cloFrom X.env.cells scope.names []) h3.objs.size code builtinsNs X.env))) [] s'
      unfold compStart
      rw [Sem.onRaise_eq_wrap]
      show Seg _ A _ _ _ s' _ ((ask >>= _).wrap _ _ _ _) [] s'
      refine seg_bind_wrap (wpAny_askSetting ?_)
      split
      · exact seg_again rfl loop
      · first
          | exact seg_bind_wrap (wpAny_rule (seg_bind_wrap (wpAny_standAt (seg_bind_wrap (T.self _ 0 s' _ _ st6 (seg_again rfl loop))))))
          | (refine seg_bind_wrap (wpAny_rule ?_); show Seg _ A _ _ _ s' _ ((standAt iter.pos >>= _).wrap _ _ _ _) [] s'; exact seg_bind_wrap (wpAny_standAt (seg_bind_wrap (T.self _ 0 s' _ _ st6 (seg_again rfl loop)))))
    exact main _ rfl rfl rfl (Heap.get?_push_size _ rfl)
  cases hf : codeAmong gpos ps.toList with
  | none =>
    refine wpAny_genexprCodeX hcode (cd.code hPs htr) (cd.tab hPs) hf fun c' h' tk hx hge hlt hco' _ htab' _ => ?_
    obtain ⟨o1, vs, f1, tf, fl, tg, inF, tx, tt, op, _, _, _, _, _, _, _, _, _, htr', _⟩ := hco'
    exact cont _ h' tk _ hx (Nat.le_trans hge (Nat.le_of_lt hlt)) htab'.2 htr'
  | some cv =>
    refine wpAny_genexprCode_hit hcode (cd.code hPs htr) hf ?_
    exact cont cv s2.heap s2.toks ps (Heap.ExtBut.refl _ _) (Nat.le_refl _) hPs htr
end
section
variable {X : Cx} {pins : List (Addr × Obj)} {σ : L2.St} {k : Nat} {Q : List V → Hp → Prop} {a : Addr} {s5 : Shared} {A : Around} {E : Value → Shared → Prop}
/-- the items in a row -/
theorem collect_gx {Qc : List Value → Shared → Prop} (G : GtReady X pins σ k Q a s5) (hr : Room (k + 1) A.in1.in1) (hfr : A.frames = some X.stack)
    (hq : ∀ acc s' ys H', Inv X pins σ H' s' → Vals ys acc → ys.length ≤ sizeLine → Q ys H' → Qc acc s') : wpAny (model X.prog X.w) A (collect (.ref a)) Qc E s5 := by
  obtain ⟨g, cd, s2, H2, fp, hgen, hlim, hgs, hb, hal, hsz, hos, I2, hfp, wake⟩ := G
  have hSa : s5.heap.objs.size ≠ a := Nat.ne_of_gt hal
  have hcl : cStatics < s5.heap.objs.size := let ⟨_, hn, _⟩ := hlim; hn.lt
  have hSc : s5.heap.objs.size ≠ cStatics := Nat.ne_of_gt hcl
  unfold collect
  refine wpAny_bind (wpAny_runValue (codeAny_builtin F.entry_proto_collect ?_))
  rw [Around.under_plainId F.plain_proto_collect _]
  show wpAny _ A.in1 (newList [] >>= fun l => again (.builtin "list.__iadd__" ⟨[l, .ref a], []⟩)) _ _ s5
  refine wpAny_bind (wpAny_newObj_type (wpAny_pure ⟨plainId_quiet F.plain_list_iadd _, codeAny_builtin F.entry_list_iadd ?_⟩))
  rw [Around.under_plainId F.plain_list_iadd _]
  have up : ∀ (h : Heap) (f : Obj → Obj), (∀ b o, s5.heap.get? b = some o → h.get? b = some o) → ∀ b o, s5.heap.get? b = some o → (h.update s5.heap.objs.size f).get? b = some o := fun h f q b o e =>
    (Heap.get?_update_other _ _ (Ne.symm (Nat.ne_of_lt (Heap.lt_size e)))).trans (q b o e)
  have k1 : ∀ b o, s5.heap.get? b = some o → (s5.heap.push { cls := .type "list", data := .seq ([] : List Value).toArray }).get? b = some o := fun b o e => Heap.get?_push_of_some _ e
  have gty : ∀ {h : Heap}, (∀ b o, s5.heap.get? b = some o → h.get? b = some o) → h.IsGen a g := fun {h} q => hgen.keeps q
  show wpAny _ A.in1 (Builtin.List.listExtendWith (.ref s5.heap.objs.size) (.ref a) (.ref s5.heap.objs.size)) _ _ _
  unfold Builtin.List.listExtendWith
  refine wpAny_bind (wpAny_typeOf (Heap.IsGen.typeIs (s := { s5 with heap := _ }) (gty k1)) ?_)
  have n1 : Builtin.List.listSameRef (.ref s5.heap.objs.size) (.ref a) = false := by simp [Builtin.List.listSameRef, hSa]
  have n2 : (Value.type "generator" == Value.type "list") = false := by decide
  have n3 : (Value.type "generator" == Value.type "tuple") = false := by decide
  simp only [n1, n2, n3, Bool.or_false, Bool.false_eq_true, if_false]
  refine wpAny_bind (wpAny_pyIter_gen (s := { s5 with heap := _ }) (gty k1) (wpAny_bind (wpAny_holding ?_)))
  unfold Builtin.List.listLengthHint
  refine wpAny_bind (wpAny_specialOf (Heap.IsGen.typeIs (s := { s5 with heap := _ }) (gty k1)) F.gen_no_len ?_)
  show wpAny _ A.in1 (specialOf (Value.ref a) (Str.ofString "__length_hint__") >>= _) _ _ _
  refine wpAny_bind (wpAny_specialOf (Heap.IsGen.typeIs (s := { s5 with heap := _ }) (gty k1)) F.gen_no_hint (wpAny_pure ?_))
  show wpAny _ A.in1 (rule "list.extend.makes-room" >>= fun _ => Builtin.List.listTouch (.ref s5.heap.objs.size) >>= fun _ =>
    again (.builtin "list.extend.loop" ⟨[.ref s5.heap.objs.size, .ref a, .ref s5.heap.objs.size], []⟩)) _ _ _
  refine wpAny_bind (wpAny_rule (wpAny_bind ?_))
  have hS1 : (s5.heap.push { cls := .type "list", data := .seq ([] : List Value).toArray }).get? s5.heap.objs.size = some { cls := .type "list", data := .seq ([] : List Value).toArray } := Heap.get?_push_size _ rfl
  show wpAny _ A.in1 (updateSeq s5.heap.objs.size (·.push .none) >>= fun _ => updateSeq s5.heap.objs.size (·.pop)) _ _ _
  refine wpAny_bind (wpAny_updateSeq hS1 rfl ?_)
  have hS2 := Heap.get?_update_self (Obj.mapSeq (·.push Value.none)) hS1 rfl
  refine wpAny_updateSeq (hz := by seq_fits) hS2 rfl ?_
  have hS3 := Heap.get?_update_self (Obj.mapSeq (·.pop)) hS2 rfl
  have k3 := up _ (Obj.mapSeq (·.pop)) (up _ (Obj.mapSeq (·.push Value.none)) k1)
  refine wpAny_pure ⟨plainId_quiet F.plain_extend_loop _, ?_⟩
  refine drain (P := X.prog) (w := X.w) (outer := X.stack) (H := H2) (sc := s2) (ex := fp) (Q := Q) (EX := fun _ _ _ => False) (A := A) (g := g) hr.hd (by have z : A.depth + 3 * (k + 1) + 5 < recursionLimit := hr.dp; show A.depth < _; omega) hSa hSc
    (fun s' acc c H' ys q1 q2 q3 q4 q5 q6 q7 q8 q9 => ?_) (fun e s' hc => ?_) sizeLine _ (gty k3) (hlim.keeps k3) ⟨_, hgs, rfl, ?_⟩
  · show wpAny _ A (load s5.heap.objs.size >>= _) _ _ s'
    refine wpAny_bind (wpAny_load q1 (wpAny_pure (hq acc.toList s' ys H' ?_ q2 q3 q9)))
    exact I2.call' (ch := fp) q4 q6 q7 q5 fun b hb => ⟨(hfp b hb).2.2.2.1, (hfp b hb).2.1, (hfp b hb).2.2.2.2.1, (hfp b hb).2.2.2.2.2⟩
  · obtain ⟨_, _, _, _, _, _, _, _, _, _, _, _, z⟩ := hc
    exact z.elim
  · exact wake A.in1.in1 _ _ hr hfr (Nat.le_refl _) k3 ⟨_, hS3⟩ hos (allBare_setGen (s := { s5 with heap := _ }) hb rfl)
theorem call_tuple_gx {Qt : VK} (G : GtReady X pins σ k Q a s5) (hr : Room (k + 2) A) (hfr : A.frames = some X.stack) (hq : ∀ ys H', Q ys H' → NB H' ys Qt) : wpAny (model X.prog X.w) A (call (.type "tuple") [.ref a]) (EP X pins σ Qt) E s5 := by
  have hr1 : Room (k + 1) A.in1.in1.in1.in1 := ⟨hr.hd, by have := hr.dp; show A.depth + 3 * (k + 1) + 5 < _; omega, by have := hr.un; show A.units + 1 + 1 + 1 + 1 + 16 * (k + 1) + 200 < _; omega⟩
  have hgen : s5.TypeIs (.ref a) "generator" := by
    obtain ⟨g, cd, s2, H2, fp, hgen, _⟩ := G
    exact Heap.IsGen.typeIs hgen
  have code : ∀ (E : Value → Shared → Prop), codeAny (model X.prog X.w) A.in1 (.call (.builtin "tuple.__new__") ⟨[.type "tuple", .ref a], []⟩) (wants (fun obj s' => s'.TypeIs obj "tuple" ∧ EP X pins σ Qt obj s') E) s5 := fun E => by
    refine codeAny_of_tree ?_
    show wpAny _ A.in1.in1 (do checkBuiltinCall "tuple.__new__" ⟨[.type "tuple", .ref a], []⟩; again (.builtin "tuple.__new__" ⟨[.type "tuple", .ref a], []⟩)) _ _ s5
    refine wpAny_bind (wpAny_of_eq (F.newCall_tuple_1 _) (wpAny_pure ⟨plainId_quiet F.plain_tuple_new _, codeAny_builtin F.entry_tuple_new ?_⟩))
    rw [Around.under_plainId F.plain_tuple_new _]
    have hsub := sub_tuple_self
    have hinit := init_tuple_lookup
    have hmh := madeHere_tuple
    wp_walk using wpAny_typeOf hgen, collect_gx G hr1 hfr
    intro acc s' ys H' I' rv hle qq
    show wpAny _ _ (Builtin.Tuple.tupleExact acc.toArray >>= fun v => ret v) _ _ _
    unfold Builtin.Tuple.tupleExact
    refine wpAny_bind (wpAny_newObj_type ?_ (by show acc.toArray.size ≤ sizeLine; rw [List.size_toArray, ← rv.length]; exact hle))
    refine wpAny_pure ?_
    exact ⟨⟨_, Heap.get?_push_size _ rfl, rfl⟩, lay_tupB I' rv hle (hq ys H' qq)⟩
  refine callType_codes (Q₁ := fun obj s' => s'.TypeIs obj "tuple" ∧ EP X pins σ Qt obj s') F.called_tuple (F.typeCall_tuple_1 _) F.entry_object_init (code E) fun obj s' z => ?_
  exact ⟨z.1, F.args_object_init_2 obj _, object_init_meets F.called_tuple.init.lookup F.called_tuple.made (by decide) X.prog X.w A.in1 _ s' ⟨z.1, rfl, z.2⟩⟩
/-- tuple(elt for tg in iter if ..) -/
def tTupG (P : Addr) (wi : TI) (g : TG) (tt : TT) (te : TE) (vs : List Nat) : TE := fun σ H Q => tGt P wi g tt te vs σ H fun ys H1 => NB H1 ys Q
theorem pe_tupG {c P : Addr} {elt tg iter : Expr} {ifs : List Expr} {scope : Scope} {own : List (Str × Nat)} {p pos gpos : Pos} {wi : TI} {g : TG} {tt : TT} {te : TE}
    (hr : Room (k + 2) X.A) (hm : X.mg "tuple" = none) (TB : GxR.TabB X.base X.mg c P) (hcode : X.env.code = .ref c) (S : GxScope X scope own) (hN : X.N.Nodup) (hc : X.calm = true) (hi : PI X tg iter wi)
    (hg : ∀ (A : Around) (s : Shared) (H : Hp) (cl : List (Str × Addr)) (C : Addr) (code : Value) (fp : List Addr) (pn : List (Addr × Obj)), Room k A → PG (gxC X A s H (genEnv scope cl C code builtinsNs X.env) fp pn) tg g)
    (ht : ∀ (A : Around) (s : Shared) (H : Hp) (cl : List (Str × Addr)) (C : Addr) (code : Value) (fp : List Addr) (pn : List (Addr × Obj)), Room k A → PTs (gxC X A s H (genEnv scope cl C code builtinsNs X.env) fp pn) ifs tt)
    (he : ∀ (A : Around) (s : Shared) (H : Hp) (cl : List (Str × Addr)) (C : Addr) (code : Value) (fp : List Addr) (pn : List (Addr × Obj)), Room k A → PE (gxC X A s H (genEnv scope cl C code builtinsNs X.env) fp pn) elt te)
    (hgl : Gl X "tuple" := by rfl) (hs : ∀ v, genFold iter X.env v = pure v := by intro _; rfl)
    (hst : starEach [.GeneratorExp elt [⟨tg, iter, ifs, 0⟩] scope gpos] X.env = (false, eval (.GeneratorExp elt [⟨tg, iter, ifs, 0⟩] scope gpos) X.env) :: starEach [] X.env := by rfl) :
    PE X (.Call (.Name "tuple" p) [.GeneratorExp elt [⟨tg, iter, ifs, 0⟩] scope gpos] [] pos) (tTupG P wi g tt te (own.map (·.2))) := by
  refine ⟨fun pins s σ H Q I h => Call_ (ld_blt I hgl hm boot_tuple (PyProof.Rows.callWith_type1 (args_cons (gt_make (hr.mono (by omega)) TB hcode S hN hc hi hg ht he hs I h fun a s5 hG => args_nil ?_) hst) hst))⟩
  exact call_tuple_gx (A := X.A) hG hr I.ok.frames fun ys H' z => z
end
/-! ### by its data -/
section
variable {K : PySem.W.Frag} {Ex : Addr → Nat → Prop} {Oc : Addr → Prop}
theorem GxI.backKe {pu : Bool} {S : (Addr → Prop) → Hp → Prop} {vs : List Nat} {d₁ d : SD} {σ : St} {H₁ H : Hp} (cl₁ : cleanD d₁ vs = true) (I : GxI pu K Ex Oc S vs d₁ σ H₁ d H) : Ke (Ow Oc (wipeD d vs) (wipe σ vs)) H (Ow Oc (backD d₁ vs d) σ) H := by
  have sim : Sim d₁ (backD d₁ vs d) := by
    refine ⟨by rw [backD_length]; exact I.len.symm, fun j => ?_⟩
    by_cases m : j ∈ vs
    · by_cases l : j < d.length
      · rw [backD_in m l I.len.symm]; exact .refl _
      · rw [List.getElem?_eq_none (by rw [← I.len]; omega), List.getElem?_eq_none (by rw [backD_length]; omega)]; exact .refl _
    · rw [backD_out m]; exact I.out j m
  intro a u n e
  refine ⟨fun z => n (z.imp id fun ⟨j, s, w, h1, h2, h3⟩ => ?_), e⟩
  have m : j ∉ vs := by
    obtain ⟨s', w', e1, e2⟩ := (sim.2 j).mine.mpr ⟨s, w, h1, h2⟩
    exact cleanD_at e1 e2 cl₁
  rw [backD_out m] at h1
  exact ⟨j, s, w, by rw [wipeD_out m]; exact h1, h2, by rw [wipe_out m]; exact h3⟩
end
def mTupG (vs : List Nat) (it : M (List W)) (g : GW) (t : M Bool) (e : M W) : M W := fun d => (it d).bind fun ws d1 => if cleanD d1 vs = true ∧ ws.length ≤ sizeLine then
  (match lcD vs g t e ws d1 with
    | .ok ys d2 => .ok (.tuple ys) (backD d1 vs d2)
    | _ => .bad) else .bad
def toTup : W → M W := fun w d => match w with
  | .list ys => .ok (.tuple ys) d
  | _ => .bad
section
variable {X : Cx} {Y : Yx}
theorem t_gt {pi pt pe : Bool} {P : Addr} {mi : M (List W)} {g : GW} {is vs : List Nat} {t : M Bool} {e : M W} {wi : TI} (hP : Y.Ex P tN) (hwi : ∀ σ H R, tI X Y pi mi σ H R → wi σ H R) (ho : ∀ w d d', g w d = some d' → Only is d d') (his : ∀ i ∈ is, i ∈ vs)
    (σ : St) (H : Hp) (Q : VK) (h : tE X Y (pi && (pt && pe)) (mTupG vs mi g t e) σ H Q) : tTupG P wi (tG X.K Y.blk g is) (tT X Y.blk pt t) (tE X Y.blk pe e) vs σ H Q := by
  obtain ⟨Oc, d, rs, h⟩ := h
  refine hwi σ H _ ⟨Oc, d, rs, (Po.bind h).imp fun ws d₁ H₁ g₁ h₁ J S wk hS => ?_⟩
  refine ⟨(g₁.rs.oc.tb P hP).1, ?_⟩
  have cl0 : cleanD d₁ vs = true ∧ ws.length ≤ sizeLine := by
    by_cases z : cleanD d₁ vs = true ∧ ws.length ≤ sizeLine
    · exact z
    · rw [if_neg z] at h₁; exact h₁.elim
  rw [if_pos cl0] at h₁
  obtain ⟨cl, hwl⟩ := cl0
  cases q : lcD vs g t e ws d₁ with
  | bad => rw [q] at h₁; exact h₁.elim
  | exc c d2 => rw [q] at h₁; exact h₁.elim
  | ok bb d₂ =>
    rw [q] at h₁
    have h₁ : ∀ H', Go X.K Y.Ex Oc (pt && pe) σ d₁ H₁ (backD d₁ vs d₂) H' → ∀ v, Rp X.K Y.Ex (Ow Oc (backD d₁ vs d₂) σ) H' v (.tuple bb) → Q v H' := h₁
    have fin : ∀ H' ys, GxI (pt && pe) X.K Y.Ex Oc S vs d₁ σ H₁ d₂ H' → RpA X.K Y.Ex (Ow Oc (wipeD d₂ vs) (wipe σ vs)) H' ys bb → NB H' ys Q := fun H' ys I ry p np => by
      obtain ⟨r2, sim⟩ := I.back g₁.rs cl
      have kb := I.backKe cl
      obtain ⟨sm, rp⟩ := rp_newTup (fun b hb => r2.there (a := b) hb) np (ry.mono kb fun _ _ z => z)
      have g0 : Go X.K Y.Ex Oc (pt && pe) σ d₁ H₁ (backD d₁ vs d₂) H' := ?_
      · have g5 := g0.trans (Go.same (pu := true) r2 sm)
        first
          | exact h₁ _ g5 _ rp
          | (rw [Bool.and_true] at g5; exact h₁ _ g5 _ rp)
      refine ⟨r2, I.fr, sim, fun z => ?_⟩
      obtain ⟨p1, p2⟩ := I.pur z
      refine ⟨p1, List.ext_getElem? fun j => ?_⟩
      by_cases m : j ∈ vs
      · by_cases l : j < d₂.length
        · exact backD_in m l I.len.symm
        · rw [List.getElem?_eq_none (by rw [backD_length]; omega), List.getElem?_eq_none (by rw [← I.len]; omega)]
      · rw [backD_out m]; exact p2 j m
    have start : GxI (pt && pe) X.K Y.Ex Oc S vs d₁ σ H₁ d₁ H₁ :=
      ⟨g₁.rs.wipe cl, cl, rfl, fun _ _ => .refl _, fun _ _ e _ => e, wk.keep _ _ _ _ (fun a u n e' => ⟨fun z => n (z.imp id (mine_wipe g₁.rs.len cl).mp), e'⟩) hS, fun _ => ⟨fun _ _ e => e, fun _ _ => rfl⟩⟩
    refine ⟨fun i m ys H' => m = ws.length - i ∧ i ≤ ws.length ∧ ∃ d' us rest, GxI (pt && pe) X.K Y.Ex Oc S vs d₁ σ H₁ d' H' ∧ RpA X.K Y.Ex (Ow Oc (wipeD d' vs) (wipe σ vs)) H' ys us ∧ us.length ≤ i ∧ us ++ rest = bb ∧ lcD vs g t e (ws.drop i) d' = .ok rest d₂, ⟨ws.length, by simp, Nat.zero_le _, d₁, [], bb, start, .nil, Nat.le_refl _, rfl, q⟩, ?_⟩
    rintro i m ys H' ⟨rfl, hi, d', us, rest, I, ry, hus, hbb, hq⟩
    by_cases lt : i < ws.length
    · refine .inr ⟨wk.go _ _ _ I.st lt, fun ys H2 => ∃ d' us rest, GxI (pt && pe) X.K Y.Ex Oc S vs d₁ σ H₁ d' H2 ∧ RpA X.K Y.Ex (Ow Oc (wipeD d' vs) (wipe σ vs)) H2 ys us ∧ us.length ≤ i + 1 ∧ us ++ rest = bb ∧ lcD vs g t e (ws.drop (i + 1)) d' = .ok rest d₂, fun ys H2 z => ⟨ws.length - (i + 1), by omega, rfl, lt, z⟩, fun x H2 y => ?_⟩
      obtain ⟨sm, hr⟩ := wk.yld _ H' i x H2 (fun a z => I.rs.there z) I.st y
      have rx := hr _ (List.getElem?_eq_getElem lt)
      rw [List.drop_eq_getElem_cons lt] at hq
      unfold lcD at hq
      cases qg : g ws[i] (wipeD d' vs) with
      | none => rw [qg] at hq; cases hq
      | some d1' =>
        rw [qg] at hq
        dsimp only at hq
        have go2 := Go.same (pu := true) I.rs sm
        refine ⟨Oc, wipeD d' vs, _, d1', go2.rs, rx, qg, fun σ2 gs o1 => ?_⟩
        have only := ho _ _ _ qg
        have hσ2 : ∀ j : Nat, j ∉ vs → σ2[j]? = σ[j]? := fun j m => by rw [o1.2 j fun z => m (his j z), wipe_out m]
        have hσl : σ2.length = σ.length := by rw [o1.1, wipe_length]
        refine ⟨wipe_ext hσl hσ2, Oc, d1', gs.rs, ?_⟩
        have hS2 : S (Ow Oc d1' σ2) H2 := wk.keep _ _ _ _ gs.ke (wk.keep _ _ _ _ go2.ke I.st)
        have fr2 : ∀ a o, H₁ a = some o → ¬ Mine d₁ σ a → H2 a = some o := fun a o e n => sm a o (I.fr a o e n)
        have out1 : ∀ j : Nat, j ∉ vs → SlotLike d₁[j]? d1'[j]? := fun j m => by
          rw [only.2.1 j fun z => m (his j z), wipeD_out m]; exact I.out j m
        have cl1 : cleanD d1' vs = true := by
          refine cleanD_of fun j hj s e => ?_
          have l : j < d'.length := by
            obtain ⟨lt, _⟩ := List.getElem?_eq_some_iff.mp e
            rw [only.1, wipeD_length] at lt; exact lt
          rcases only.2.2 j with z | ⟨u, z⟩
          · rw [z, wipeD_in hj l] at e; cases e
          · rw [z] at e; cases e; rfl
        have len1 : d1'.length = d₁.length := by rw [only.1, wipeD_length]; exact I.len
        have pur1 : (pt && pe) = true → (∀ a o, H₁ a = some o → H2 a = some o) ∧ ∀ j : Nat, j ∉ vs → d1'[j]? = d₁[j]? := fun z => by
          obtain ⟨z1, z2⟩ := I.pur z
          exact ⟨fun a o e => sm a o (z1 a o e), fun j m => by rw [only.2.1 j fun z => m (his j z), wipeD_out m]; exact z2 j m⟩
        have mk : ∀ {pu : Bool} {d3 : SD} {H3 : Hp}, ((pt && pe) = true → pu = true) → Go X.K Y.Ex Oc pu σ2 d1' H2 d3 H3 → GxI (pt && pe) X.K Y.Ex Oc S vs d₁ σ H₁ d3 H3 ∧ Ke (Ow Oc d3 σ2) H3 (Ow Oc (wipeD d3 vs) (wipe σ vs)) H3 := fun {pu d3 H3} hpu g3 => by
          have out3 : ∀ j : Nat, j ∉ vs → SlotLike d₁[j]? d3[j]? := fun j m => (out1 j m).trans (g3.sim.2 j)
          have cl3 : cleanD d3 vs = true := by
            refine cleanD_of fun j hj s e => ?_
            cases hm : Slot.mine? s with
            | none => rfl
            | some w =>
              obtain ⟨s', w', f1, f2⟩ := (g3.sim.2 j).mine.mpr ⟨s, w, e, hm⟩
              exact absurd hj (cleanD_at f1 f2 cl1)
          have r3 := (g3.rs.wipe (vs := vs) cl3)
          rw [wipe_ext hσl hσ2] at r3
          have ke3 : Ke (Ow Oc d3 σ2) H3 (Ow Oc (wipeD d3 vs) (wipe σ vs)) H3 := fun a u n e => ⟨fun z => n (by
            rw [← wipe_ext hσl hσ2] at z
            exact z.imp id (mine_wipe g3.rs.len cl3).mp), e⟩
          refine ⟨⟨r3, cl3, by rw [← g3.sim.1]; exact len1, out3, fun a o e n => g3.fr a o (fr2 a o e n) fun z => n (mine_out cl1 out1 hσ2 z), wk.keep _ _ _ _ ke3 (wk.keep _ _ _ _ g3.ke hS2), fun z => ?_⟩, ke3⟩
          obtain ⟨p1, p2⟩ := pur1 z
          obtain ⟨p3, p4⟩ := g3.pur (hpu z)
          subst p4
          exact ⟨fun a o e => p3 a o (p1 a o e), p2⟩
        cases qt : t d1' with
        | bad => rw [qt] at hq; cases hq
        | exc c d2' => rw [qt] at hq; cases hq
        | ok b d2' =>
          rw [qt] at hq
          dsimp only [Out.bind] at hq
          intro H3 g3 rs3
          have ry3 : RpA X.K Y.Ex (Ow Oc d2' σ2) H3 ys us := (((ry.mono go2.ke fun _ _ z => z).mono gs.ke fun _ _ z => z).mono g3.ke fun _ _ z => z)
          cases b with
          | false =>
            rw [if_neg Bool.false_ne_true] at hq
            refine iteF ?_
            obtain ⟨z, kz⟩ := mk (fun z => (Bool.and_eq_true _ _ ▸ z).1) g3
            exact ⟨d2', us, rest, z, ry3.mono kz fun _ _ z => z, by omega, hbb, hq⟩
          | true =>
            rw [if_pos rfl] at hq
            refine iteT ⟨Oc, d2', rs3, ?_⟩
            cases qe : e d2' with
            | bad => rw [qe] at hq; cases hq
            | exc c d3' => rw [qe] at hq; cases hq
            | ok yv d3' =>
              rw [qe] at hq
              dsimp only [Out.bind] at hq
              intro H4 g4 v rv
              obtain ⟨z, kz⟩ := mk id (g3.trans g4)
              have hl : us.length = ys.length := ry.length.symm
              refine ⟨by omega, ?_⟩
              cases q5 : lcD vs g t e (ws.drop (i + 1)) d3' with
              | bad => rw [q5] at hq; cases hq
              | exc c d4' => rw [q5] at hq; cases hq
              | ok rs d4' =>
                rw [q5] at hq
                cases hq
                exact ⟨d3', us ++ [yv], rs, z, ((ry3.mono g4.ke fun _ _ z => z).append (.cons rv .nil)).mono kz fun _ _ z => z, by rw [List.length_append, List.length_singleton]; omega, by rw [List.append_assoc]; exact hbb, q5⟩
    · have ei : i = ws.length := by omega
      subst ei
      rw [List.drop_length] at hq
      cases hq
      rw [List.append_nil] at hbb
      subst hbb
      exact .inl ⟨wk.stop _ _ _ I.st (Nat.le_refl _), by rw [ry.length]; omega, fin H' ys I ry⟩
theorem d_tupG {pi pt pe : Bool} {c P : Addr} {k : Nat} {elt tg iter : Expr} {ifs : List Expr} {scope : Scope} {own : List (Str × Nat)} {p pos gpos : Pos} {mi : M (List W)} {g : GW} {is : List Nat} {t : M Bool} {e : M W}
    (hr : Room (k + 2) X.A) (hm : X.mg "tuple" = none) (TB : GxR.TabB X.base X.mg c P) (hcode : X.env.code = .ref c) (hP : Y.Ex P tN) (S : GxScope X scope own) (hN : X.N.Nodup) (hc : X.calm = true) (hi : DI X Y pi tg iter mi) (his : ∀ i ∈ is, i ∈ own.map (·.2))
    (hg : ∀ (A : Around) (s : Shared) (H : Hp) (cl : List (Str × Addr)) (C : Addr) (code : Value) (fp : List Addr) (pn : List (Addr × Obj)), Room k A → DG (gxC X A s H (genEnv scope cl C code builtinsNs X.env) fp pn) Y.blk tg g is)
    (ht : ∀ (A : Around) (s : Shared) (H : Hp) (cl : List (Str × Addr)) (C : Addr) (code : Value) (fp : List Addr) (pn : List (Addr × Obj)), Room k A → DTs (gxC X A s H (genEnv scope cl C code builtinsNs X.env) fp pn) Y.blk pt ifs t)
    (he : ∀ (A : Around) (s : Shared) (H : Hp) (cl : List (Str × Addr)) (C : Addr) (code : Value) (fp : List Addr) (pn : List (Addr × Obj)), Room k A → DE (gxC X A s H (genEnv scope cl C code builtinsNs X.env) fp pn) Y.blk pe elt e)
    (hgl : Gl X "tuple" := by rfl) (hs : ∀ v, genFold iter X.env v = pure v := by intro _; rfl)
    (hst : starEach [.GeneratorExp elt [⟨tg, iter, ifs, 0⟩] scope gpos] X.env = (false, eval (.GeneratorExp elt [⟨tg, iter, ifs, 0⟩] scope gpos) X.env) :: starEach [] X.env := by rfl) :
    DE X Y (pi && (pt && pe)) (.Call (.Name "tuple" p) [.GeneratorExp elt [⟨tg, iter, ifs, 0⟩] scope gpos] [] pos) (mTupG (own.map (·.2)) mi g t e) := by
  obtain ⟨wi, hpi, hwi⟩ := hi.pi
  exact ⟨pe_weak (pe_tupG hr hm TB hcode S hN hc hpi (fun A s H cl C code fp pn r => (hg A s H cl C code fp pn r).pg) (fun A s H cl C code fp pn r => (ht A s H cl C code fp pn r).pts) (fun A s H cl C code fp pn r => (he A s H cl C code fp pn r).pe) hgl hs hst)
    (t_gt hP hwi (hg X.A {} noH [] 0 .none [] [] (hr.mono (by omega))).only his)⟩
end
theorem mTupG_lc (vs : List Nat) (it : M (List W)) (g : GW) (t : M Bool) (e : M W) (d : SD) : mTupG vs it g t e d = (mLc vs it g t e d).bind fun w d1 => toTup w d1 := by
  unfold mTupG mLc
  cases it d with
  | ok ws d1 =>
    dsimp only [Out.bind]
    split
    · cases lcD vs g t e ws d1 <;> rfl
    · rfl
  | exc c d1 => rfl
  | bad => rfl
end Qd
end
section
set_option Elab.async false
set_option linter.all false
set_option maxRecDepth 100000
set_option maxHeartbeats 1000000
/-! x + e, x a list of the def's own: a new list. -/
namespace Qd
open PySem PySem.Spec PyProof.Rows L2
def mCatO (i : Nat) (b : M W) : M W := fun d => (ofOpt (mineAt i d) d).bind fun _ d0 => (b d0).bind fun y d1 => match mineAt i d1, y with
  | some (.list xs), .list ys => if xs.length + ys.length ≤ sizeLine then .ok (.list (xs ++ ys)) d1 else .bad
  | _, _ => .bad
section
variable {X : Cx} {Y : Yx}
theorem df_catO {pb : Bool} {i : Nat} {x : Str} {b : Expr} {p pos : Pos} {mb : M W} (hb : DE X Y pb b mb) (hN : X.N[i]? = some x := by rfl) (hv : Vis X.env.scope x := by first | exact Or.inl rfl | exact Or.inr (Or.inl rfl) | exact Or.inr (Or.inr rfl)) (hd : (x == ("__debug__" : Str)) = false := by decide)
    (hcd : (x == ("__classdict__" : Str)) = false := by decide) : DF X Y pb (.BinOp (.Name x p) .Add b pos) (mCatO i mb) := by
  refine ⟨pe_weak (pe_op op_catL (pe_var hN hv hd hcd) hb.pe) fun σ H Q h => ?_⟩
  obtain ⟨Oc, d, rs, h⟩ := h
  unfold mCatO at h
  cases q0 : mineAt i d with
  | none => rw [q0] at h; exact h.elim
  | some u0 =>
    rw [q0] at h
    obtain ⟨s0, f1, f2⟩ := mineAt_some q0
    obtain ⟨p0, ep, _, ob0⟩ := rs.own i s0 u0 f1 f2
    refine ⟨.ref p0, ep, Oc, d, rs, (Po.bind (p := pb) (q := true) (by rw [Bool.and_true]; exact h)).imp fun w d1 H1 g1 h1 v r => ?_⟩
    cases q1 : mineAt i d1 with
    | none => rw [q1] at h1; exact h1.elim
    | some u =>
      rw [q1] at h1
      obtain ⟨p', s, ep', _, e1, e2, nop, ob⟩ := slot_same rs q0 g1 q1
      rw [ep] at ep'; cases ep'
      cases u with
      | list ds =>
        cases w with
        | list es =>
          have h1 : Po X Y true Oc σ d1 H1 (if ds.length + es.length ≤ sizeLine then Out.ok (PyData.list (ds ++ es)) d1 else .bad) _ := h1
          split at h1
          · rename_i hl
            obtain ⟨ys, ey, ra⟩ := ob
            cases r with
            | lst l rb =>
              exact ⟨_, _, _, _, rfl, rfl, .inl (.inl ey), l.sq, by rw [ra.length, rb.length]; exact hl, fun q np => h1 _ (.same g1.rs (same_new np)) q (g1.free np) (g1.rs.withNew np) ⟨_, upd_same, (ra.append rb).mono (ke_new np) fun _ _ z => z⟩⟩
          · exact h1.elim
        | _ => exact h1.elim
      | _ => exact h1.elim
@[simp] theorem ev_catO (i : Nat) (b : M W) (d : SD) : mCatO i b d = (ofOpt (mineAt i d) d).bind fun _ d0 => (b d0).bind fun y d1 => match mineAt i d1, y with
  | some (.list xs), .list ys => if xs.length + ys.length ≤ sizeLine then .ok (.list (xs ++ ys)) d1 else .bad
  | _, _ => .bad := rfl
end
end Qd
end
section
set_option Elab.async false
set_option linter.all false
set_option maxRecDepth 100000
set_option maxHeartbeats 1000000
/-! enumerate of lists and tuples, the pairs known; t[::-1]; list(range(..)), tuple(range(..)). -/
namespace Qd
open PySem PySem.Spec PyProof.Rows L2 HT
/-- enumerate(v), whatever v's iterator is -/
theorem meets_enum1 {v : Value} {o : Obj} {G : Heap → Prop} (B : Begins v o G) :
    Meets (Builtin.«enumerate.__new__» ⟨[.type "enumerate", v], []⟩) (fun _ R s => G s.heap ∧
      R (.ok (.ret (.ref (s.heap.push o).objs.size))) { s with heap := (s.heap.push o).push { cls := .type "enumerate", data := .fields #[.none, .bool false, .ref s.heap.objs.size, rawInt 0, .none, .none] } }) := .of_wp fun prog w A R s z => by
  obtain ⟨hp, g, d, tk, os⟩ := s
  obtain ⟨b1, z⟩ := z
  have hsub := sub_enumerate
  have qi : ∀ {A' : Around} {E : Value → Shared → Prop} {Q : Value → Shared → Prop}, Q (.ref hp.objs.size) ⟨hp.push o, g, d, tk, os⟩ → wpAny (model prog w) A' (pyIter v) Q E ⟨hp, g, d, tk, os⟩ := fun q => B.iter prog w _ _ ⟨hp, g, d, tk, os⟩ _ b1 q
  wp_walk using qi
  refine wpAny_stack_any fun st => wpAny_pure ?_
  split
  · rename_i c _ _ _ _ _
    cases (c == Value.type "enumerate") <;> (wp_walk using qi; exact ⟨_, rfl, z⟩)
  · wp_walk using qi
    exact ⟨_, rfl, z⟩
theorem call_enum1 {prog : Program} {w : World} {A : Around} {E : Value → Shared → Prop} {s : Shared} {v : Value} {o : Obj} {G : Heap → Prop} {Q : Value → Shared → Prop} (B : Begins v o G) (b1 : G s.heap)
    (q : ∀ h', IsEnum h' (s.heap.objs.size + 1) s.heap.objs.size 0 .none → h'.get? s.heap.objs.size = some o → (∀ b u, s.heap.get? b = some u → h'.get? b = some u) → Q (.ref (s.heap.objs.size + 1)) { s with heap := h' }) :
    wpAny (model prog w) A (call (.type "enumerate") [v]) Q E s := by
  refine callType_new F.called_enumerate (by decide) (F.typeCall_enumerate_1 _) (F.newCall_enumerate_1 _) (fun obj => F.args_object_init_2 obj _) F.entry_enumerate_new (meets_enum1 B) ⟨b1, ?_⟩
  have n1 : (s.heap.push o).objs.size = s.heap.objs.size + 1 := Heap.size_push ..
  have e1 := Heap.get?_push_size (s.heap.push o) (o := { cls := .type "enumerate", data := .fields #[.none, .bool false, .ref s.heap.objs.size, rawInt 0, .none, .none] }) rfl
  show _ ∧ _
  rw [n1] at e1 ⊢
  exact ⟨⟨_, e1, rfl⟩, q _ e1 (Heap.get?_push_of_some _ (Heap.get?_push_size _ B.free)) fun b u x => Heap.get?_push_of_some _ (Heap.get?_push_of_some _ x)⟩
section
variable {P : Program} {w : World} {K : PySem.W.Frag} {elts : List Expr} {kk : Nat} {tpos : Pos}
def EnF (Sq : Hp → List V → Prop) (i : Nat) (H : Hp) (v : V) (H' : Hp) : Prop := ∃ T x, v = .ref T ∧ H T = none ∧ H' = upd H T (.tup [.int (i : Nat), x]) ∧ ∀ xs, Sq H xs → xs[i]? = some x
def ItEL (K : PySem.W.Frag) (a : Addr) : It := ⟨(Ite K a).go, EnF fun H => SqL K H a, (Ite K a).stop⟩
def ItET (K : PySem.W.Frag) (a : Addr) : It := ⟨fun i H => ∃ (xs : List V) (x : V), SqT K H a xs ∧ xs[i]? = some x, EnF fun H => SqT K H a, fun i H => ∃ xs : List V, SqT K H a xs ∧ xs.length ≤ i⟩
/-- the pair's cell -/
theorem enum_pair {X : Cx} {pins : List (Addr × Obj)} {σ : L2.St} {H : Hp} {s : Shared} {i : Nat} {x : V} {u : Value} {e it : Addr} {tk : Tok} {tt : Nat} {h' h'' : Heap} {Sq : Hp → List V → Prop} {xs : List V} {old : Value} (I : Inv X pins σ H s) (he : IsEnum s.heap e it i old) (hf : ∀ b ∈ [e, it], FpOk X pins H b)
    (hx : xs[i]? = some x) (hu : ∀ ys, Sq H ys → ys = xs) (ru : RelV x u) (hT : h'.get? s.heap.objs.size = some { cls := .type "tuple", data := .seq #[.int i tk, u] }) (hk : ∀ b o, b ≠ e → b ≠ it → s.heap.get? b = some o → h'.get? b = some o) (sb : Heap.SameBut e h' h'') :
    ∃ v H', Inv X pins σ H' { s with heap := h'', toks := tt } ∧ RelV v (.ref s.heap.objs.size) ∧ EnF Sq i H v H' ∧ ∀ b ∈ [e, it], s.heap.objs.size ≤ b ∨ H' b = none := by
  have el : e < s.heap.objs.size := Heap.lt_size he
  have eT : h''.get? s.heap.objs.size = some { cls := .type "tuple", data := .seq #[.int i tk, u] } := (sb.2 _ (Nat.ne_of_gt el)).trans hT
  refine ⟨.ref s.heap.objs.size, upd H s.heap.objs.size (.tup [.int (i : Nat), x]), ?_, rfl, ⟨_, x, rfl, I.hok.fresh (Nat.le_refl _), rfl, fun ys hy => by rw [hu ys hy]; exact hx⟩, fun b hb => ?_⟩
  · refine I.turnedNew (t' := tt) (ch := [e, it]) (fun b o n q => ?_) hf (Nat.le_refl _) ⟨by show 2 ≤ sizeLine; decide, [.int i tk, u], .cons ⟨_, rfl⟩ (.cons ru .nil), ⟨_, eT, rfl, _, rfl⟩⟩
    simp only [List.mem_cons, List.not_mem_nil, or_false, not_or] at n
    exact (sb.2 b n.1).trans (hk b o n.1 n.2 q)
  · rcases Nat.lt_or_ge b s.heap.objs.size with l | l
    · exact .inr (by rw [upd_ne (Nat.ne_of_lt l)]; exact (hf b hb).1)
    · exact .inl l
theorem turn_enumL (a e it : Addr) : Turn P w K (.Tuple elts kk tpos) (ItEL K a) [e, it] e (fun i h => (∃ old, IsEnum h e it ((i : Nat) : Int) old) ∧ h.IsListIter it a i ∧ e ≠ it) where
  mem := (turn_enum (P := P) (w := w) (K := K) (elts := elts) (kk := kk) (tpos := tpos) a e it).mem
  obj := (turn_enum (P := P) (w := w) (K := K) (elts := elts) (kk := kk) (tpos := tpos) a e it).obj
  keep := (turn_enum (P := P) (w := w) (K := K) (elts := elts) (kk := kk) (tpos := tpos) a e it).keep
  done := (turn_enum (P := P) (w := w) (K := K) (elts := elts) (kk := kk) (tpos := tpos) a e it).done
  self := (turn_enum (P := P) (w := w) (K := K) (elts := elts) (kk := kk) (tpos := tpos) a e it).self
  item := by
    rintro X rfl rfl rfl hc i pins s σ H E I hf ⟨⟨old, he⟩, hit, hne⟩ ⟨xs, x, hq, hx⟩
    obtain ⟨is, rv, p, _⟩ := I.list hq
    obtain ⟨u, hu, ru⟩ := rv.get hx
    have el : e < s.heap.objs.size := Heap.lt_size he
    have il : it < s.heap.objs.size := let ⟨_, q, _⟩ := hit; Heap.lt_size q
    refine wpAny_pyNext_enum_item he hit p.isList (x := u) (by simpa using hu) hne fun h' ho q2 hT _ hk => ⟨_, rfl, ?_⟩
    refine wpAny_letOwnedTupleGo_enum (s := { s with heap := h', toks := s.toks + 1 }) ho fun h'' he' sb => ?_
    obtain ⟨v, H', I1, rv1, y, nf⟩ := enum_pair (tt := s.toks + 1) (Sq := fun H => SqL X.K H a) I he hf hx (fun ys hy => I.list_inj hy hq) ru hT hk sb
    refine ⟨v, H', I1, rv1, y, ⟨⟨u, ?_⟩, q2.at fun o q => (sb.2 it (Ne.symm hne)).trans q, hne⟩, fun b hb => (nf b hb).resolve_left fun z => ?_⟩
    · rw [show ((i + 1 : Nat) : Int) = (i : Int) + 1 by omega]; exact he'
    · simp only [List.mem_cons, List.not_mem_nil, or_false] at hb
      rcases hb with rfl | rfl
      · exact absurd el (Nat.not_lt.mpr z)
      · exact absurd il (Nat.not_lt.mpr z)
theorem turn_enumT (a e it : Addr) : Turn P w K (.Tuple elts kk tpos) (ItET K a) [e, it] e (fun i h => (∃ old, IsEnum h e it ((i : Nat) : Int) old) ∧ h.IsTupleIter it a i ∧ e ≠ it) where
  mem := List.mem_cons_self
  obj := by
    rintro i h ⟨⟨old, he⟩, ⟨o, ho, _, hd⟩, _⟩ b hb
    simp only [List.mem_cons, List.not_mem_nil, or_false] at hb
    rcases hb with rfl | rfl
    · exact ⟨_, he, fun v q => nomatch q⟩
    · exact ⟨o, ho, fun v q => by rw [hd] at q; cases q⟩
  keep := by
    rintro i h h' ⟨⟨old, he⟩, hi, hne⟩ k
    exact ⟨⟨old, k e List.mem_cons_self _ he⟩, hi.at fun o q => k it (by simp) o q, hne⟩
  self := fun A i s Q E st q => let ⟨⟨_, he⟩, _⟩ := st; wpAny_pyIter_enum he q
  item := by
    rintro X rfl rfl rfl hc i pins s σ H E I hf ⟨⟨old, he⟩, hit, hne⟩ ⟨xs, x, hq, hx⟩
    obtain ⟨is, rv, p, _⟩ := I.tuple hq
    obtain ⟨u, hu, ru⟩ := rv.get hx
    have el : e < s.heap.objs.size := Heap.lt_size he
    have il : it < s.heap.objs.size := let ⟨_, q, _⟩ := hit; Heap.lt_size q
    have ai : a ≠ it := by
      rintro rfl
      obtain ⟨o1, g1, c1, _⟩ := p
      obtain ⟨o2, g2, c2, _⟩ := hit
      rw [g1] at g2; cases g2; rw [c1] at c2; exact absurd c2 (by decide)
    have ae : e ≠ a := by
      rintro rfl
      obtain ⟨o1, g1, c1, _⟩ := p
      have g2 : s.heap.get? e = _ := he
      rw [g1] at g2; cases g2; exact absurd (show Value.type "enumerate" = Value.type "tuple" from c1) (by decide)
    have hlen : i < is.toArray.size := by
      have := (List.getElem?_eq_some_iff.mp hu).1
      simpa using this
    refine wpAny_pyNext_enum_itemD (Draws.tuple (A := X.A.in1) (I.ok.hd hc) it a ai is.toArray) he ⟨hit, p⟩ hlen hne (by simp only [List.mem_cons, List.not_mem_nil, or_false, not_or]; exact ⟨hne, ae⟩) fun u' h' tk hu' ho q2 hT _ hk => ⟨_, rfl, ?_⟩
    have : u' = u := by
      have e1 : is.toArray[i]? = some u := by simpa using hu
      rw [e1] at hu'; cases hu'; rfl
    subst this
    refine wpAny_letOwnedTupleGo_enum (s := { s with heap := h', toks := tk + 1 }) ho fun h'' he' sb => ?_
    obtain ⟨v, H', I1, rv1, y, nf⟩ := enum_pair (tt := tk + 1) (Sq := fun H => SqT X.K H a) I he hf hx (fun ys hy => I.tuple_inj hy hq) ru hT hk sb
    refine ⟨v, H', I1, rv1, y, ⟨⟨u', ?_⟩, q2.1.at fun o q => (sb.2 it (Ne.symm hne)).trans q, hne⟩, fun b hb => (nf b hb).resolve_left fun z => ?_⟩
    · rw [show ((i + 1 : Nat) : Int) = (i : Int) + 1 by omega]; exact he'
    · simp only [List.mem_cons, List.not_mem_nil, or_false] at hb
      rcases hb with rfl | rfl
      · exact absurd el (Nat.not_lt.mpr z)
      · exact absurd il (Nat.not_lt.mpr z)
  done := by
    rintro X rfl rfl rfl hc i pins s σ H E I hf ⟨⟨old, he⟩, hit, hne⟩ ⟨xs, hq, hx⟩
    obtain ⟨is, rv, p, _⟩ := I.tuple hq
    have ai : a ≠ it := by
      rintro rfl
      obtain ⟨o1, g1, c1, _⟩ := p
      obtain ⟨o2, g2, c2, _⟩ := hit
      rw [g1] at g2; cases g2; rw [c1] at c2; exact absurd c2 (by decide)
    have hl := rv.length
    have hi0 : is.toArray[i]? = none := by simp; omega
    have D : Draws X.prog X.w X.A.in1 it [it, a] i (fun _ _ => True) (fun j h => j = i ∧ h.IsTupleIter it a i ∧ h.IsTuple a is.toArray) := by
      refine ⟨fun j h st => let ⟨o, ho, _⟩ := st.2.1; ⟨o, ho⟩, fun j h h' st k => ⟨st.1, st.2.1.at fun o q => k it (by simp) o q, st.2.2.at fun o q => k a (by simp) o q⟩, fun j s Q E hj st _ => absurd st.1 (by omega), fun s Q E st hE => ?_⟩
      exact wpAny_nextOf_tuple_end (I.ok.hd hc) st.2.1 st.2.2 hi0 hE
    refine wpAny_pyNext_enum_endD D he ⟨rfl, hit, p⟩ fun h' eb => ⟨rfl, ?_⟩
    obtain ⟨f0, f1, f2, f3, f4, f5⟩ := hf it (by simp)
    exact I.turned (t' := s.toks) (fun b o hb q => eb b o hb q) f0 f1 f3 f4 f5
end
section
variable {X : Cx} {Y : Yx}
def iEnumF (K : PySem.W.Frag) (ta : TA) : TI := fun σ H R => ta σ H fun vs H1 => ∃ a xs, vs = [.ref a] ∧ ((SqL K H1 a xs ∧ R (ItEL K a) H1) ∨ (SqT K H1 a xs ∧ R (ItET K a) H1))
theorem pi_enumF {e : Expr} {ta : TA} {p pos tpos : Pos} {elts : List Expr} {kk : Nat} (hg : Gl X "enumerate") (hm : X.mg "enumerate" = none) (ha : PA X [e] ta) (hs : starEach [e] X.env = [(false, eval e X.env)] := by rfl) :
    PI X (.Tuple elts kk tpos) (.Call (.Name "enumerate" p) [e] [] pos) (iEnumF X.K ta) := by
  refine ⟨fun pins s σ H R I h => Call_ (ld_blt I hg hm boot_enumerate (PyProof.Rows.callWith_type1 (thn (ha.run pos pins s σ H _ I h) ?_) hs rfl))⟩
  rintro us s1 ⟨vs, H1, I1, r1, a, xs, rfl, q⟩
  obtain ⟨u, rfl, ra⟩ := vals1 r1
  cases ra
  have fr : ∀ b ∈ [s1.heap.objs.size + 1, s1.heap.objs.size], FpOk X pins H1 b := fun b hb => by
    have hle : s1.heap.objs.size ≤ b := by
      simp only [List.mem_cons, List.not_mem_nil, or_false] at hb
      rcases hb with rfl | rfl
      · exact Nat.le_add_right _ _
      · exact Nat.le_refl _
    exact I1.fpOk hle (I1.hok.fresh hle)
  rcases q with ⟨hq, q⟩ | ⟨hq, q⟩
  · obtain ⟨is, _, pl, _⟩ := I1.list hq
    refine call_enum1 (begins_list a is.toArray) pl.isList fun h' he hi hk => wpAny_pyIter_enum he ?_
    exact ⟨_, _, _, _, H1, rfl, I1.kept (t' := s1.toks) hk, turn_enumL a _ _, ⟨⟨.none, he⟩, ⟨_, hi, rfl, rfl⟩, Nat.succ_ne_self _⟩, fr, q⟩
  · obtain ⟨is, _, pl, _⟩ := I1.tuple hq
    refine call_enum1 (begins_tuple a is.toArray) pl fun h' he hi hk => wpAny_pyIter_enum he ?_
    exact ⟨_, _, _, _, H1, rfl, I1.kept (t' := s1.toks) hk, turn_enumT a _ _, ⟨⟨.none, he⟩, ⟨_, hi, rfl, rfl⟩, Nat.succ_ne_self _⟩, fr, q⟩
/-- what both walks share -/
theorem wk_enumF {K : PySem.W.Frag} {Ex : Addr → Nat → Prop} {ws : List W} {J : It} {Sq : Hp → List V → Prop} {At : (Addr → Prop) → Hp → List V → Prop} (hsq : ∀ O H xs, At O H xs → Sq H xs) (hke : ∀ O H O' H' xs, Ke O H O' H' → At O H xs → At O' H' xs)
    (hgo : ∀ i H xs x, Sq H xs → xs[i]? = some x → J.go i H) (hy : J.yld = EnF Sq) (hst : ∀ i H xs, Sq H xs → xs.length ≤ i → J.stop i H) : Wk K Ex J (fun O H => ∃ xs, At O H xs ∧ RpA K Ex O H xs ws) (enumW 0 ws) where
  keep := fun O H O' H' k ⟨xs, l, r⟩ => ⟨xs, hke _ _ _ _ _ k l, r.mono k fun _ _ z => z⟩
  go := fun O H i ⟨xs, l, r⟩ hi => by
    rw [enumW_length] at hi
    have hl : i < xs.length := by rw [r.length]; exact hi
    exact hgo i H xs xs[i] (hsq _ _ _ l) (List.getElem?_eq_getElem hl)
  yld := fun O H i x H' hO ⟨xs, l, r⟩ y => by
    rw [hy] at y
    obtain ⟨T, v, e, hT, eH, hx⟩ := y
    subst eH
    refine ⟨same_new hT, fun w hw => ?_⟩
    obtain ⟨w', e1, rfl⟩ := enumW_get hw
    obtain ⟨v', hv, rv⟩ := r.get e1
    rw [hx xs (hsq _ _ _ l)] at hv
    cases hv
    subst e
    rw [Nat.zero_add]
    exact (rp_newTup hO hT (.cons (.int _) (.cons rv .nil))).2
  stop := fun O H i ⟨xs, l, r⟩ hi => hst i H xs (hsq _ _ _ l) (by rw [r.length]; rw [enumW_length] at hi; exact hi)
def mEnumA (a : M (List W)) : M (List W) := fun d => (a d).bind fun ws d1 => match ws with
  | [.list us] => .ok (enumW 0 us) d1
  | [.tuple us] => .ok (enumW 0 us) d1
  | _ => .bad
theorem di_enumA {pu : Bool} {e : Expr} {elts : List Expr} {kk : Nat} {p pos tpos : Pos} {m : M (List W)} (hm : X.mg "enumerate" = none) (h : DL X Y pu [e] m) (hg : Gl X "enumerate" := by rfl) (hs : starEach [e] X.env = [(false, eval e X.env)] := by rfl) : DI X Y pu (.Tuple elts kk tpos) (.Call (.Name "enumerate" p) [e] [] pos) (mEnumA m) := by
  refine ⟨_, pi_enumF hg hm h.pa hs, fun σ H R h => ?_⟩
  obtain ⟨Oc, d, rs, h⟩ := h
  refine ⟨Oc, d, rs, (Po.bind1 h).imp fun ws d1 H1 g1 h1 vs ra => ?_⟩
  split at h1
  · obtain ⟨v, rfl, r⟩ := rpA1 ra
    cases r with
    | lst l r => exact ⟨_, _, rfl, .inl ⟨l.sq, h1 H1 (.refl g1.rs) _ _ (wk_enumF (Sq := fun H => SqL X.K H _) (At := fun O H xs => LAt X.K O H _ xs) (fun _ _ _ l => l.sq) (fun _ _ _ _ _ k l => l.mono k) (fun i H xs x a b => ⟨xs, x, a, b⟩) rfl fun i H xs a b => ⟨xs, a, b⟩) ⟨_, l, r⟩⟩⟩
  · obtain ⟨v, rfl, r⟩ := rpA1 ra
    cases r with
    | tup l r => exact ⟨_, _, rfl, .inr ⟨l.sq, h1 H1 (.refl g1.rs) _ _ (wk_enumF (Sq := fun H => SqT X.K H _) (At := fun O H xs => TAt X.K Y.Ex O H _ xs) (fun _ _ _ l => l.sq) (fun _ _ _ _ _ k l => l.mono k fun _ _ z => z) (fun i H xs x a b => ⟨xs, x, a, b⟩) rfl fun i H xs a b => ⟨xs, a, b⟩) ⟨_, l, r⟩⟩⟩
  · exact h1.elim
end
/-! ### list(range(..)), tuple(range(..)) -/
noncomputable def rgL (lo hi : Int) : Option (List W) := if cdec (RgOk lo hi) = true then some (rangeW lo (hi - lo).toNat) else none
theorem rgL_some {lo hi : Int} {us : List W} (h : rgL lo hi = some us) : RgOk lo hi ∧ us = rangeW lo (hi - lo).toNat := by
  unfold rgL at h
  split at h
  · rename_i z
    cases h
    exact ⟨cdec_iff.mp z, rfl⟩
  · cases h
theorem rgL_of {lo hi : Int} {n : Nat} (h1 : -1000000 ≤ lo) (h2 : lo ≤ 1000000) (h3 : -1000000 ≤ hi) (h4 : hi ≤ 1000000) (h : (hi - lo).toNat = n) : rgL lo hi = some (rangeW lo n) := by
  unfold rgL
  rw [if_pos (cdec_iff.mpr ⟨by omega, by omega, by omega, by omega, by omega⟩), h]
theorem rgV_rp {K : PySem.W.Frag} {Ex : Addr → Nat → Prop} {O : Addr → Prop} {H : Hp} (lo hi : Int) : RpA K Ex O H (rgV lo hi) (rangeW lo (hi - lo).toNat) := by
  have := RpA.of_ints (K := K) (Ex := Ex) (O := O) (H := H) ((List.range (hi - lo).toNat).map fun (i : Nat) => lo + (i : Int))
  rw [List.map_map, List.map_map] at this
  exact this
noncomputable def mR1 (k : List W → W) (a : M W) : M W := fun d => (a d).bind fun x d1 => match x with
  | .int j => match rgL 0 j with
    | some us => .ok (k us) d1
    | none => .bad
  | _ => .bad
noncomputable def mR2 (k : List W → W) (a b : M W) : M W := fun d => (a d).bind fun x d1 => (b d1).bind fun y d2 => match x, y with
  | .int i, .int j => match rgL i j with
    | some us => .ok (k us) d2
    | none => .bad
  | _, _ => .bad
section
variable {X : Cx} {Y : Yx}
def tTupRgF (te : St → Hp → (Int → Int → Hp → Prop) → Prop) : TE := fun σ H Q => te σ H fun a b H1 => RgOk a b ∧ NB H1 (rgV a b) Q
theorem pe_tupRgF {e : Expr} {te : St → Hp → (Int → Int → Hp → Prop) → Prop} {p pos : Pos} (hc : X.calm = true) (hg : Gl X "tuple") (hm : X.mg "tuple" = none) (he : PRg X e te) (na : starEach [e] X.env = (false, eval e X.env) :: starEach [] X.env := by rfl) : PE X (.Call (.Name "tuple" p) [e] [] pos) (tTupRgF te) := by
  refine ⟨fun pins s σ H Q I h => Call_ (ld_blt I hg hm boot_tuple (PyProof.Rows.callWith_type1 (args_cons (thn (he pins s σ H _ I h) ?_) na) na))⟩
  rintro x s1 ⟨r, a, b, t, u, v, H1, rfl, hr, I1, ⟨b1, b2, b3, b4, b5⟩, q⟩
  refine args_nil (call_tuple_range (n := (b - a).toNat) (I1.ok.hd hc) hr (small_one b1 b2 b3 b4) (rangeSize_nat a b) b5 fun h' tk acc hk hi => ?_)
  have I2 : Inv X pins σ H1 { s1 with heap := h', toks := tk } := I1.kept hk
  have := lay_tupB I2 (vals_rg hi) (by rw [rgV_length, sizeLine_eq]; omega) q tk
  simpa using this
theorem df_listRg1 {pu : Bool} {e : Expr} {p p2 pos pos2 : Pos} {m : M W} (hc : X.calm = true) (hm : X.mg "list" = none) (hm2 : X.mg "range" = none) (he : DE X Y pu e m) (hg : Gl X "list" := by rfl) (hg2 : Gl X "range" := by rfl) (n1 : starEach [.Call (.Name "range" p2) [e] [] pos2] X.env = (false, eval (.Call (.Name "range" p2) [e] [] pos2) X.env) :: starEach [] X.env := by rfl) (n2 : starEach [e] X.env = (false, eval e X.env) :: starEach [] X.env := by rfl) :
    DF X Y pu (.Call (.Name "list" p) [.Call (.Name "range" p2) [e] [] pos2] [] pos) (mR1 .list m) := by
  refine ⟨pe_weak (pe_listRg hc hg hm (prg_1 hg2 hm2 he.pe n2) n1) fun σ H Q h => ?_⟩
  obtain ⟨Oc, d, rs, h⟩ := h
  refine ⟨Oc, d, rs, (Po.bind1 h).imp fun x d1 H1 g1 h1 v r => ?_⟩
  cases x with
  | int j =>
    cases rp_int r
    dsimp only at h1
    cases q : rgL 0 j with
    | none => rw [q] at h1; exact h1.elim
    | some us =>
      rw [q] at h1
      obtain ⟨ok, rfl⟩ := rgL_some q
      exact ⟨j, rfl, ok, fun a np => h1 _ (.same g1.rs (same_new np)) a (g1.free np) (g1.rs.withNew np) ⟨_, upd_same, rgV_rp _ _⟩⟩
  | _ => exact h1.elim
theorem d_tupRg1 {pu : Bool} {e : Expr} {p p2 pos pos2 : Pos} {m : M W} (hc : X.calm = true) (hm : X.mg "tuple" = none) (hm2 : X.mg "range" = none) (he : DE X Y pu e m) (hg : Gl X "tuple" := by rfl) (hg2 : Gl X "range" := by rfl) (n1 : starEach [.Call (.Name "range" p2) [e] [] pos2] X.env = (false, eval (.Call (.Name "range" p2) [e] [] pos2) X.env) :: starEach [] X.env := by rfl) (n2 : starEach [e] X.env = (false, eval e X.env) :: starEach [] X.env := by rfl) :
    DE X Y pu (.Call (.Name "tuple" p) [.Call (.Name "range" p2) [e] [] pos2] [] pos) (mR1 .tuple m) := by
  refine ⟨pe_weak (pe_tupRgF hc hg hm (prg_1 hg2 hm2 he.pe n2) n1) fun σ H Q h => ?_⟩
  obtain ⟨Oc, d, rs, h⟩ := h
  refine ⟨Oc, d, rs, (Po.bind1 h).imp fun x d1 H1 g1 h1 v r => ?_⟩
  cases x with
  | int j =>
    cases rp_int r
    dsimp only at h1
    cases q : rgL 0 j with
    | none => rw [q] at h1; exact h1.elim
    | some us =>
      rw [q] at h1
      obtain ⟨ok, rfl⟩ := rgL_some q
      refine ⟨j, rfl, ok, fun a np => ?_⟩
      obtain ⟨sm, rp⟩ := rp_newTup (fun b hb => g1.rs.there (a := b) hb) np (rgV_rp (K := X.K) (Ex := Y.Ex) (O := Ow Oc d1 σ) (H := H1) 0 j)
      exact h1 _ (.same g1.rs sm) _ rp
  | _ => exact h1.elim
theorem d_tupRg2 {pa pb : Bool} {e e2 : Expr} {p p2 pos pos2 : Pos} {m m2 : M W} (hc : X.calm = true) (hm : X.mg "tuple" = none) (hm2 : X.mg "range" = none) (he : DE X Y pa e m) (he2 : DE X Y pb e2 m2) (hg : Gl X "tuple" := by rfl) (hg2 : Gl X "range" := by rfl) (n1 : starEach [.Call (.Name "range" p2) [e, e2] [] pos2] X.env = (false, eval (.Call (.Name "range" p2) [e, e2] [] pos2) X.env) :: starEach [] X.env := by rfl)
    (n2 : starEach [e, e2] X.env = (false, eval e X.env) :: starEach [e2] X.env := by rfl) (n3 : starEach [e2] X.env = (false, eval e2 X.env) :: starEach [] X.env := by rfl) (hp : (backTo pos2 (starEach [e2] X.env)).any (·.1) = false := by rfl) :
    DE X Y (pa && pb) (.Call (.Name "tuple" p) [.Call (.Name "range" p2) [e, e2] [] pos2] [] pos) (mR2 .tuple m m2) := by
  refine ⟨pe_weak (pe_tupRgF hc hg hm (prg_2 hg2 hm2 he.pe he2.pe n2 n3 hp) n1) fun σ H Q h => ?_⟩
  obtain ⟨Oc, d, rs, h⟩ := h
  refine ⟨Oc, d, rs, (Po.bind h).imp fun x d0 H0 g0 h0 v0 r0 => ⟨Oc, d0, g0.rs, (Po.bind1 h0).imp fun y d1 H1 g1 h1 v r => ?_⟩⟩
  cases x with
  | int i =>
    cases y with
    | int j =>
      cases rp_int r
      cases rp_int r0
      dsimp only at h1
      cases q : rgL i j with
      | none => rw [q] at h1; exact h1.elim
      | some us =>
        rw [q] at h1
        obtain ⟨ok, rfl⟩ := rgL_some q
        refine ⟨i, j, rfl, rfl, ok, fun a np => ?_⟩
        obtain ⟨sm, rp⟩ := rp_newTup (fun b hb => g1.rs.there (a := b) hb) np (rgV_rp (K := X.K) (Ex := Y.Ex) (O := Ow Oc d1 σ) (H := H1) i j)
        exact h1 _ (.same g1.rs sm) _ rp
    | _ => exact h1.elim
  | _ => cases y <;> exact h1.elim
end
end Qd
end
section
set_option Elab.async false
set_option linter.all false
set_option maxRecDepth 100000
set_option maxHeartbeats 4000000
namespace K26
open PySem PySem.Spec PyProof.Rows L2 L2H Qd
def top (i : Nat) : Stmt := PySem.Challenge.pw_shardsheld_k26_whole_cones_and_plans.main.body.getD i (.Pass ⟨0, 0, 0, 0⟩)
abbrev s__law_draws : Stmt := top 19
abbrev s__law_take : Stmt := top 20
abbrev s_is_number : Stmt := top 1
abbrev s_are_heats : Stmt := top 6
abbrev s__law_bends : Stmt := top 22
abbrev s_greatest_bent : Stmt := top 9
abbrev s_bend_hour : Stmt := top 8
abbrev s_is_cone : Stmt := top 7
abbrev s__law_same : Stmt := top 21
abbrev s__law_cones : Stmt := top 23
abbrev s__law_plan : Stmt := top 24
abbrev s__law_heats : Stmt := top 25
abbrev s_heats_of_plan : Stmt := top 16
abbrev s_hours_of_plan : Stmt := top 17
abbrev s__law_fewest : Stmt := top 26
abbrev s_is_step : Stmt := top 14
abbrev s_is_plan : Stmt := top 15
abbrev s_law : Stmt := top 27
def subC : Nat → Nat → Bool := fun i j => [].contains (i, j)
structure Tx (K : PySem.W.Frag) (mg : Str → Option Value) (TC : Nat → Value) : Prop where
  c_MOST_CONE_HOURS : ∃ t, mg "MOST_CONE_HOURS" = some (.int 24 t)
  c_MOST_HEAT_conebends : ∃ t, mg "MOST_HEAT_conebends" = some (.int 1400 t)
  c_MOST_HEAT_heatplans : ∃ t, mg "MOST_HEAT_heatplans" = some (.int 1400 t)
  c_MOST_HOLD : ∃ t, mg "MOST_HOLD" = some (.int 24 t)
  c_MOST_HOURS : ∃ t, mg "MOST_HOURS" = some (.int 48 t)
  c_MOST_STEPS : ∃ t, mg "MOST_STEPS" = some (.int 8 t)
  n_abs : mg "abs" = none
  n_all : mg "all" = none
  n_bool : mg "bool" = none
  n_enumerate : mg "enumerate" = none
  n_int : mg "int" = none
  n_isinstance : mg "isinstance" = none
  n_len : mg "len" = none
  n_list : mg "list" = none
  n_max : mg "max" = none
  n_min : mg "min" = none
  n_range : mg "range" = none
  n_reversed : mg "reversed" = none
  n_str : mg "str" = none
  n_tuple : mg "tuple" = none
  cf : CF K TC 0 subC
structure Cl (K : PySem.W.Frag) (mg : Str → Option Value) (x : Str) (f : Addr) (fd : FuncData) (ps : List Str) : Prop where
  g : mg x = some (.ref f)
  k : PySem.W.keepIn K (.ref f) = true
  b : Binds K fd ps []
noncomputable def m__law_draws : MS := (mSeq (mAsgOwn 1 (mLst mNil))
    (mSeq (mFor (mItS (mVar 0)) (store 2)
    (mSeq (mAsg (store 3) (mCallB absW (mCons (mVar 2) mNil)))
    (mSeq (mIf (mTest (mBin ltW (mVar 3) (mBin powW (mC (.int 10)) (mC (.int 18)))))
    (mSeq (mAsg (store 4) (mBin modW (mCallB intW (mCons (mBin addW (mBin mulW (mVar 3) (mC (.int 48271))) (mC (.int 11))) mNil)) (mC (.int 2147483647))))
    (mSeq (mDrop (mMeth "list" appendW 1 (mCons (mBin modW (mCallB intW (mCons (mBin addW (mBin mulW (mVar 4) (mC (.int 69621))) (mVar 3)) mNil)) (mC (.int 2147483629))) mNil)))
    (mSeq (mDrop (mMeth "list" appendW 1 (mCons (mBin modW (mCallB intW (mCons (mBin addW (mVar 4) (mBin fdivW (mVar 3) (mC (.int 7)))) mNil)) (mC (.int 1000003))) mNil)))
    (mAsg (store 3) (mC (.int 0))))))
    mSkip)
    (mFor (mRng1 (mCons (mC (.int 60)) mNil)) (store 5)
    (mIf (mTest (mBin gtW (mVar 3) (mC (.int 0))))
    (mSeq (mDrop (mMeth "list" appendW 1 (mCons (mBin modW (mCallB intW (mCons (mVar 3) mNil)) (mC (.int 997))) mNil)))
    (mAsg (store 3) (mBin fdivW (mVar 3) (mC (.int 997)))))
    mSkip)))))
    (mSeq (mAsg (store 6) (mC (.int 1)))
    (mSeq (mIf (mTest (mBin gtW (mCallB lenW (mCons (mVar 0) mNil)) (mC (.int 0))))
    (mAsg (store 6) (mBin addW (mC (.int 1)) (mCallB absW (mCons (mBin ixW (mVar 0) (mC (.int 0))) mNil))))
    mSkip)
    (mSeq (mFor (mRng1 (mCons (mC (.int 900)) mNil)) (store 5)
    (mSeq (mAsg (store 6) (mBin modW (mCallB intW (mCons (mBin addW (mBin mulW (mVar 6) (mC (.int 48271))) (mC (.int 69621))) mNil)) (mC (.int 2147483647))))
    (mDrop (mMeth "list" appendW 1 (mCons (mBin fdivW (mVar 6) (mC (.int 5))) mNil)))))
    (mFrzS [1] (mRetF (mListRev (mVar 1)))))))))
noncomputable abbrev F__law_draws : FV := runV 7 m__law_draws
noncomputable def m__law_take : MS := (mSeq (mIf (mTest (mBin eqW (mFrz (mCallB lenW (mCons (mVar 0) mNil))) (mC (.int 0))))
    (mRet (mC (.int 0)))
    mSkip)
    (mRet (mBin modW (mCallB intW (mCons (mMeth "list" popW 0 mNil) mNil)) (mVar 1))))
noncomputable abbrev F__law_take : FW := runP 2 m__law_take
noncomputable def m_is_number : MS := (mRet (mAndV (mUn (isiW "int") (mVar 0)) (mAndV (mNotV (mUn (isiW "bool") (mVar 0))) (mChain leW leW (mVar 1) (mVar 0) (mVar 2)))))
noncomputable abbrev F_is_number : FV := runV 3 m_is_number
noncomputable def m_are_heats : MS := (mSeq (mIf (mOrT (mNotT (mTruth (mUn (isiW "tuple") (mVar 0)))) (mNotT (mTest (mChain leW leW (mC (.int 1)) (mCallB lenW (mCons (mVar 0) mNil)) (mC (.int 48))))))
    (mRet (mC (.bool false)))
    mSkip)
    (mRet (mGx false [1] (mItS (mVar 0)) (store 1) mYes (mCallV F_is_number (mCons (mVar 1) (mCons (mC (.int 0)) (mCons (mC (.int 1400)) mNil)))))))
noncomputable abbrev F_are_heats : FV := runV 2 m_are_heats
noncomputable def m__law_bends : MS := (mSeq (mFor (mRng2 (mCons (mBin subW (mVar 2) (mC (.int 1))) (mCons (mCallB lenW (mCons (mVar 0) mNil)) mNil))) (store 3)
    (mIf (mTest (mBin geW (mCallB minW (mCons (mSl (mVar 0) (mPart (mBin addW (mBin subW (mVar 3) (mVar 2)) (mC (.int 1)))) (mPart (mBin addW (mVar 3) (mC (.int 1))))) mNil)) (mVar 1)))
    (mRet (mVar 3))
    mSkip))
    (mRet (mC .none)))
noncomputable abbrev F__law_bends : FV := runV 4 m__law_bends
noncomputable def m_greatest_bent : MS := (mSeq (mAsg (store 2) (mLc [3] (mRng1 (mCons (mBin addW (mBin subW (mCallB lenW (mCons (mVar 0) mNil)) (mVar 1)) (mC (.int 1))) mNil)) (store 3) mYes (mCallB minW (mCons (mSl (mVar 0) (mPart (mVar 3)) (mPart (mBin addW (mVar 3) (mVar 1)))) mNil))))
    (mRet (mIfE (mTest (mBin gtW (mCallB lenW (mCons (mVar 2) mNil)) (mC (.int 0)))) (mCallB maxW (mCons (mVar 2) mNil)) (mC .none))))
noncomputable abbrev F_greatest_bent : FV := runV 4 m_greatest_bent
noncomputable def m_bend_hour : MS := (mSeq (mAsg (gTupW 2 (gsCons (store 2) (gsCons (store 3) gsNil))) (mVar 1))
    (mSeq (mAsg (store 4) (mC (.int 0)))
    (mSeq (mFor (mEnumA (mCons (mVar 0) mNil)) (gTupW 2 (gsCons (store 5) (gsCons (store 6) gsNil)))
    (mSeq (mAsg (store 4) (mIfE (mTest (mBin geW (mVar 6) (mVar 2))) (mBin addW (mVar 4) (mC (.int 1))) (mC (.int 0))))
    (mIf (mTest (mBin eqW (mVar 4) (mVar 3)))
    (mRet (mVar 5))
    mSkip)))
    (mRet (mC .none)))))
noncomputable abbrev F_bend_hour : FV := runV 7 m_bend_hour
noncomputable def m_is_cone : MS := (mSeq (mIf (mOrT (mNotT (mTruth (mUn (isiW "tuple") (mVar 0)))) (mOrT (mTest (mBin neW (mCallB lenW (mCons (mVar 0) mNil)) (mC (.int 2)))) (mNotT (mTruth (mCallV F_is_number (mCons (mBin ixW (mVar 0) (mC (.int 0))) (mCons (mC (.int 0)) (mCons (mC (.int 1400)) mNil))))))))
    (mRet (mC (.bool false)))
    mSkip)
    (mRet (mCallV F_is_number (mCons (mBin ixW (mVar 0) (mC (.int 1))) (mCons (mC (.int 1)) (mCons (mC (.int 24)) mNil))))))
noncomputable abbrev F_is_cone : FV := runV 1 m_is_cone
noncomputable def m__law_same (REC : FV) : MS := (mSeq (mIf (mOrT (mTest (mBin isNW (mVar 1) (mC .none))) (mTest (mBin isNW (mVar 0) (mC .none))))
    (mRet (mAndV (mBin isNW (mVar 1) (mC .none)) (mBin isNW (mVar 0) (mC .none))))
    mSkip)
    (mSeq (mIf (mOrT (mTruth (mUn (isiW "tuple") (mVar 1))) (mTruth (mUn (isiW "list") (mVar 1))))
    (mSeq (mIf (mOrT (mTest (mBin neW (mUn (isiW "tuple") (mVar 1)) (mUn (isiW "tuple") (mVar 0)))) (mTest (mBin neW (mUn (isiW "list") (mVar 1)) (mUn (isiW "list") (mVar 0)))))
    (mRet (mC (.bool false)))
    mSkip)
    (mSeq (mIf (mTest (mBin neW (mCallB lenW (mCons (mVar 0) mNil)) (mCallB lenW (mCons (mVar 1) mNil))))
    (mRet (mC (.bool false)))
    mSkip)
    (mSeq (mFor (mRng1 (mCons (mCallB lenW (mCons (mVar 1) mNil)) mNil)) (store 2)
    (mIf (mNotT (mTruth (mCallV REC (mCons (mBin ixW (mVar 0) (mVar 2)) (mCons (mBin ixW (mVar 1) (mVar 2)) mNil)))))
    (mRet (mC (.bool false)))
    mSkip))
    (mRet (mC (.bool true))))))
    mSkip)
    (mSeq (mIf (mTest (mBin neW (mUn (isiW "bool") (mVar 1)) (mUn (isiW "bool") (mVar 0))))
    (mRet (mC (.bool false)))
    mSkip)
    (mSeq (mIf (mOrT (mTest (mBin neW (mUn (isiW "int") (mVar 1)) (mUn (isiW "int") (mVar 0)))) (mTest (mBin neW (mUn (isiW "str") (mVar 1)) (mUn (isiW "str") (mVar 0)))))
    (mRet (mC (.bool false)))
    mSkip)
    (mRet (mBin eqW (mVar 0) (mVar 1)))))))
noncomputable def R__law_same : Nat → FV
  | 0 => fun _ => .bad
  | k + 1 => runV 3 (m__law_same (R__law_same k))
noncomputable abbrev F__law_same : FV := R__law_same 6
noncomputable def m__law_cones : MS := (mSeq (mAsg (store 1) (mBin ixW (mLst (mCons (mC (.int 6)) (mCons (mC (.int 60)) (mCons (mC (.int 1401)) mNil)))) (mCallP F__law_take 0 (mCons (mC (.int 3)) mNil))))
    (mSeq (mAsg (store 2) (mCallB tupleW (mCons (mLc [11] (mRng1 (mCons (mBin addW (mC (.int 1)) (mCallP F__law_take 0 (mCons (mBin ixW (mLst (mCons (mC (.int 20)) (mCons (mC (.int 48)) mNil))) (mCallB intW (mCons (mBin eqW (mCallP F__law_take 0 (mCons (mC (.int 4)) mNil)) (mC (.int 0))) mNil))) mNil))) mNil)) (store 11) mYes (mCallP F__law_take 0 (mCons (mVar 1) mNil))) mNil)))
    (mSeq (mIf (mTest (mBin notBW (mCallV F_are_heats (mCons (mVar 2) mNil)) (mC (.bool true))))
    (mRet (mC (.bool false)))
    mSkip)
    (mSeq (mFor (mRng1 (mCons (mC (.int 6)) mNil)) (store 3)
    (mSeq (mAsg (gTupW 2 (gsCons (store 4) (gsCons (store 5) gsNil))) (mTup (mCons (mCallP F__law_take 0 (mCons (mVar 1) mNil)) (mCons (mBin addW (mC (.int 1)) (mCallP F__law_take 0 (mCons (mBin ixW (mLst (mCons (mC (.int 4)) (mCons (mC (.int 24)) mNil))) (mCallP F__law_take 0 (mCons (mC (.int 2)) mNil))) mNil))) mNil))))
    (mSeq (mAsg (store 6) (mCallV F__law_bends (mCons (mVar 2) (mCons (mVar 4) (mCons (mVar 5) mNil)))))
    (mSeq (mIf (mOrT (mTest (mBin notBW (mCallV F_is_cone (mCons (mTup (mCons (mVar 4) (mCons (mVar 5) mNil))) mNil)) (mC (.bool true)))) (mNotT (mTruth (mCallV F__law_same (mCons (mCallV F_bend_hour (mCons (mVar 2) (mCons (mTup (mCons (mVar 4) (mCons (mVar 5) mNil))) mNil))) (mCons (mVar 6) mNil))))))
    (mRet (mC (.bool false)))
    mSkip)
    (mSeq (mFor (mItS (mLst (mCons (mCallV F_bend_hour (mCons (mVar 2) (mCons (mTup (mCons (mCallB min2W (mCons (mC (.int 1400)) (mCons (mBin addW (mVar 4) (mC (.int 1))) mNil))) (mCons (mVar 5) mNil))) mNil))) (mCons (mCallV F_bend_hour (mCons (mVar 2) (mCons (mTup (mCons (mVar 4) (mCons (mCallB min2W (mCons (mC (.int 24)) (mCons (mBin addW (mVar 5) (mC (.int 1))) mNil))) mNil))) mNil))) mNil)))) (store 7)
    (mIf (mAndT (mTest (mBin notNW (mVar 7) (mC .none))) (mOrT (mTest (mBin isNW (mVar 6) (mC .none))) (mTest (mBin ltW (mVar 7) (mVar 6)))))
    (mRet (mC (.bool false)))
    mSkip))
    (mSeq (mAsg (store 8) (mCallV F_greatest_bent (mCons (mVar 2) (mCons (mVar 5) mNil))))
    (mIf (mTest (mBin ltW (mCallB lenW (mCons (mVar 2) mNil)) (mVar 5)))
    (mIf (mTest (mBin notNW (mVar 8) (mC .none)))
    (mRet (mC (.bool false)))
    mSkip)
    (mIf (mOrT (mNotT (mTruth (mCallV F__law_same (mCons (mVar 8) (mCons (mCallB maxW (mCons (mLc [4] (mItS (mVar 2)) (store 4) (mTest (mBin notNW (mCallV F__law_bends (mCons (mVar 2) (mCons (mVar 4) (mCons (mVar 5) mNil)))) (mC .none))) (mVar 4)) mNil)) mNil))))) (mAndT (mTest (mBin ltW (mVar 8) (mC (.int 1400)))) (mTest (mBin notNW (mCallV F__law_bends (mCons (mVar 2) (mCons (mBin addW (mVar 8) (mC (.int 1))) (mCons (mVar 5) mNil)))) (mC .none)))))
    (mRet (mC (.bool false)))
    mSkip))))))))
    (mSeq (mAsg (store 9) (mLst (mCons (mTup mNil) (mCons (mCallB listW (mCons (mVar 2) mNil)) (mCons (mBin mulW (mTup (mCons (mC (.int 0)) mNil)) (mC (.int 49))) (mCons (mBin addW (mTup (mCons (mUn negW (mC (.int 1))) mNil)) (mSl (mVar 2) (mPart (mC (.int 1))) mNoPart)) (mCons (mBin addW (mTup (mCons (mC (.int 1401)) mNil)) (mSl (mVar 2) (mPart (mC (.int 1))) mNoPart)) (mCons (mBin addW (mTup (mCons (mC .none) mNil)) (mSl (mVar 2) (mPart (mC (.int 1))) mNoPart)) (mCons (mBin addW (mTup (mCons (mC (.bool true)) mNil)) (mSl (mVar 2) (mPart (mC (.int 1))) mNoPart)) (mCons (mC .none) (mCons (mC (.str "heats")) mNil)))))))))))
    (mSeq (mAsg (store 10) (mLst (mCons (mTup (mCons (mVar 4) mNil)) (mCons (mTup (mCons (mVar 4) (mCons (mVar 5) (mCons (mC (.int 0)) mNil)))) (mCons (mLst (mCons (mVar 4) (mCons (mVar 5) mNil))) (mCons (mTup (mCons (mUn negW (mC (.int 1))) (mCons (mC (.int 5)) mNil))) (mCons (mTup (mCons (mC (.int 1401)) (mCons (mC (.int 5)) mNil))) (mCons (mTup (mCons (mC (.int 5)) (mCons (mC (.int 0)) mNil))) (mCons (mTup (mCons (mC (.int 5)) (mCons (mC (.int 25)) mNil))) (mCons (mTup (mCons (mC .none) (mCons (mC (.int 5)) mNil))) (mCons (mTup (mCons (mC (.bool true)) (mCons (mC (.int 5)) mNil))) (mCons (mTup (mCons (mC (.int 5)) (mCons (mC .none) mNil))) (mCons (mC .none) (mCons (mC (.str "cone")) mNil))))))))))))))
    (mRet (mAndV (mBin eqW (mLc [12] (mItS (mVar 9)) (store 12) (mTest (mBin notBW (mCallV F_are_heats (mCons (mVar 12) mNil)) (mC (.bool false)))) (mVar 12)) (mLst mNil)) (mBin eqW (mLc [12] (mItS (mVar 10)) (store 12) (mTest (mBin notBW (mCallV F_is_cone (mCons (mVar 12) mNil)) (mC (.bool false)))) (mVar 12)) (mLst mNil))))))))))
noncomputable abbrev F__law_cones : FW := runP 13 m__law_cones
noncomputable def m__law_plan : MS := (mRet (mCallB tupleW (mCons (mLc [2] (mRng1 (mCons (mBin addW (mC (.int 1)) (mCallP F__law_take 0 (mCons (mC (.int 4)) mNil))) mNil)) (store 2) mYes (mTup (mCons (mCallP F__law_take 0 (mCons (mVar 1) mNil)) (mCons (mCallP F__law_take 0 (mCons (mBin ixW (mLst (mCons (mC (.int 3)) (mCons (mC (.int 25)) mNil))) (mCallB intW (mCons (mBin eqW (mCallP F__law_take 0 (mCons (mC (.int 4)) mNil)) (mC (.int 0))) mNil))) mNil)) mNil)))) mNil)))
noncomputable abbrev F__law_plan : FW := runP 3 m__law_plan
noncomputable def m__law_heats : MS := (mSeq (mPar [3, 4] (mConsV (mC (.int 0)) (mConsO (mLst mNil) mNilO)))
    (mSeq (mFor (mItS (mVar 0)) (gTupW 2 (gsCons (store 5) (gsCons (store 6) gsNil)))
    (mSeq (mWhile (mTest (mBin ltW (mVar 3) (mVar 5))) (mSeq (mAsg (store 3) (mBin addW (mVar 3) (mCallB min2W (mCons (mVar 1) (mCons (mBin subW (mVar 5) (mVar 3)) mNil)))))
    (mDrop (mMeth "list" appendW 4 (mCons (mVar 3) mNil)))))
    (mSeq (mWhile (mTest (mBin gtW (mVar 3) (mVar 5))) (mSeq (mAsg (store 3) (mBin subW (mVar 3) (mCallB min2W (mCons (mVar 2) (mCons (mBin subW (mVar 3) (mVar 5)) mNil)))))
    (mDrop (mMeth "list" appendW 4 (mCons (mVar 3) mNil)))))
    (mAsgOwn 4 (mCatO 4 (mRepF (mLst (mCons (mVar 5) mNil)) (mVar 6)))))))
    (mFrzS [4] (mRet (mCallB tupleW (mCons (mVar 4) mNil))))))
noncomputable abbrev F__law_heats : FV := runV 7 m__law_heats
noncomputable def m_heats_of_plan : MS := (mSeq (mAsg (gTupW 2 (gsCons (store 2) (gsCons (store 3) gsNil))) (mVar 1))
    (mSeq (mAsg (store 4) (mC (.int 0)))
    (mSeq (mAsg (store 5) (mTup mNil))
    (mSeq (mFor (mItS (mVar 0)) (gTupW 2 (gsCons (store 6) (gsCons (store 7) gsNil)))
    (mSeq (mWhile (mTest (mBin neW (mVar 4) (mVar 6))) (mSeq (mAsg (store 4) (mIfE (mTest (mBin ltW (mVar 4) (mVar 6))) (mCallB min2W (mCons (mVar 6) (mCons (mBin addW (mVar 4) (mVar 2)) mNil))) (mCallB max2W (mCons (mVar 6) (mCons (mBin subW (mVar 4) (mVar 3)) mNil)))))
    (mAsg (store 5) (mTup (mStar (mVar 5) (mCons (mVar 4) mNil))))))
    (mAsg (store 5) (mBin addW (mVar 5) (mTupG [8] (mRng1 (mCons (mVar 7) mNil)) (store 8) mYes (mVar 6))))))
    (mRet (mVar 5))))))
noncomputable abbrev F_heats_of_plan : FV := runV 9 m_heats_of_plan
noncomputable def m_hours_of_plan : MS := (mRet (mCallB lenW (mCons (mCallV F_heats_of_plan (mCons (mVar 0) (mCons (mVar 1) mNil))) mNil)))
noncomputable abbrev F_hours_of_plan : FV := runV 2 m_hours_of_plan
noncomputable def m__law_fewest : MS := (mSeq (mPar [3, 4] (mConsV (mLc [14, 15] (mItS (mVar 0)) (gTupW 2 (gsCons (store 14) (gsCons (store 15) gsNil))) mYes (mTup (mCons (mVar 14) (mCons (mVar 15) mNil)))) (mConsV (mCallB maxW (mCons (mLc [14, 15] (mItS (mVar 0)) (gTupW 2 (gsCons (store 14) (gsCons (store 15) gsNil))) mYes (mVar 14)) mNil)) mNilO)))
    (mSeq (mPar [5, 6, 7] (mConsV (mLst (mCons (mTup (mCons (mC (.int 0)) (mCons (mC (.int 0)) (mCons (mC (.int 0)) mNil)))) mNil)) (mConsV (mC (.int 0)) (mConsO (mDNew true) mNilO))))
    (mWhile (mTruth (mC (.bool true))) (mSeq (mAsgOwn 8 (mLst mNil))
    (mSeq (mFor (mItS (mVar 5)) (gTupW 3 (gsCons (store 9) (gsCons (store 10) (gsCons (store 11) gsNil))))
    (mSeq (mAsg (store 12) (mTup (mCons (mVar 9) (mCons (mVar 10) (mCons (mVar 11) mNil)))))
    (mSeq (mWhile (mAndT (mTest (mBin ltW (mBin ixW (mVar 12) (mC (.int 1))) (mCallB lenW (mCons (mVar 3) mNil)))) (mAndT (mTest (mBin eqW (mBin ixW (mBin ixW (mVar 3) (mBin ixW (mVar 12) (mC (.int 1)))) (mC (.int 0))) (mVar 9))) (mTest (mBin geW (mBin ixW (mVar 12) (mC (.int 2))) (mBin ixW (mBin ixW (mVar 3) (mBin ixW (mVar 12) (mC (.int 1)))) (mC (.int 1))))))) (mAsg (store 12) (mTup (mCons (mVar 9) (mCons (mBin addW (mBin ixW (mVar 12) (mC (.int 1))) (mC (.int 1))) (mCons (mC (.int 0)) mNil))))))
    (mSeq (mIf (mTest (mBin eqW (mBin ixW (mVar 12) (mC (.int 1))) (mCallB lenW (mCons (mVar 3) mNil))))
    (mRet (mVar 6))
    mSkip)
    (mDrop (mMeth "list" appendW 8 (mCons (mVar 12) mNil)))))))
    (mFrzS [8] (mSeq (mAsgOwn 13 (mLst mNil))
    (mSeq (mFor (mItS (mVar 8)) (gTupW 3 (gsCons (store 9) (gsCons (store 10) (gsCons (store 11) gsNil))))
    (mFor (mRng2 (mCons (mCallB max2W (mCons (mC (.int 0)) (mCons (mBin subW (mVar 9) (mVar 2)) mNil))) (mCons (mBin addW (mCallB min2W (mCons (mVar 4) (mCons (mBin addW (mVar 9) (mVar 1)) mNil))) (mC (.int 1))) mNil))) (store 14)
    (mSeq (mAsg (store 12) (mTup (mCons (mVar 14) (mCons (mVar 10) (mCons (mIfE (mAndT (mTest (mBin eqW (mVar 14) (mVar 9))) (mTest (mBin eqW (mVar 9) (mBin ixW (mBin ixW (mVar 3) (mVar 10)) (mC (.int 0)))))) (mBin addW (mVar 11) (mC (.int 1))) (mC (.int 0))) mNil)))))
    (mIf (mFrzT (mTest (mDIn true (mVar 12) (mVar 7))))
    (mSeq (mSetIx dput 7 (mVar 12) (mC (.int 1)))
    (mDrop (mMeth "list" appendW 13 (mCons (mVar 12) mNil))))
    mSkip))))
    (mFrzS [13] (mPar [5, 6] (mConsV (mVar 13) (mConsV (mBin addW (mVar 6) (mC (.int 1))) mNilO))))))))))))
noncomputable abbrev F__law_fewest : FV := runV 16 m__law_fewest
noncomputable def m_is_step : MS := (mSeq (mIf (mOrT (mNotT (mTruth (mUn (isiW "tuple") (mVar 0)))) (mOrT (mTest (mBin neW (mCallB lenW (mCons (mVar 0) mNil)) (mC (.int 2)))) (mNotT (mTruth (mCallV F_is_number (mCons (mBin ixW (mVar 0) (mC (.int 0))) (mCons (mC (.int 0)) (mCons (mC (.int 1400)) mNil))))))))
    (mRet (mC (.bool false)))
    mSkip)
    (mRet (mCallV F_is_number (mCons (mBin ixW (mVar 0) (mC (.int 1))) (mCons (mC (.int 0)) (mCons (mC (.int 24)) mNil))))))
noncomputable abbrev F_is_step : FV := runV 1 m_is_step
noncomputable def m_is_plan : MS := (mRet (mAndV (mUn (isiW "tuple") (mVar 0)) (mAndV (mChain leW leW (mC (.int 1)) (mCallB lenW (mCons (mVar 0) mNil)) (mC (.int 8))) (mGx false [1] (mItS (mVar 0)) (store 1) mYes (mCallV F_is_step (mCons (mVar 1) mNil))))))
noncomputable abbrev F_is_plan : FV := runV 2 m_is_plan
noncomputable def m_law : MS := (mSeq (mAsgOwn 1 (mCallO F__law_draws (mCons (mVar 0) mNil)))
    (mSeq (mIf (mNotT (mTruth (mCallP F__law_cones 1 mNil)))
    (mRet (mC (.bool false)))
    mSkip)
    (mSeq (mPar [2, 3, 4] (mConsV (mCallP F__law_plan 1 (mCons (mC (.int 9)) mNil)) (mConsV (mBin addW (mC (.int 1)) (mCallP F__law_take 1 (mCons (mC (.int 4)) mNil))) (mConsV (mBin addW (mC (.int 1)) (mCallP F__law_take 1 (mCons (mC (.int 4)) mNil))) mNilO))))
    (mSeq (mAsg (store 2) (mCallB tupleW (mCons (mLc [10, 11] (mItS (mSl (mVar 2) mNoPart (mPart (mC (.int 3))))) (gTupW 2 (gsCons (store 10) (gsCons (store 11) gsNil))) mYes (mTup (mCons (mVar 10) (mCons (mCallB min2W (mCons (mVar 11) (mCons (mC (.int 2)) mNil))) mNil)))) mNil)))
    (mSeq (mIf (mNotT (mTruth (mCallV F__law_same (mCons (mCallV F_hours_of_plan (mCons (mVar 2) (mCons (mTup (mCons (mVar 3) (mCons (mVar 4) mNil))) mNil))) (mCons (mCallV F__law_fewest (mCons (mVar 2) (mCons (mVar 3) (mCons (mVar 4) mNil)))) mNil)))))
    (mRet (mC (.bool false)))
    mSkip)
    (mSeq (mPar [5, 6] (mConsV (mCallP F__law_plan 1 (mCons (mBin ixW (mLst (mCons (mC (.int 60)) (mCons (mC (.int 1401)) mNil))) (mCallP F__law_take 1 (mCons (mC (.int 2)) mNil))) mNil)) (mConsV (mTup (mCons (mBin addW (mC (.int 1)) (mCallP F__law_take 1 (mCons (mBin ixW (mLst (mCons (mC (.int 40)) (mCons (mC (.int 500)) mNil))) (mCallP F__law_take 1 (mCons (mC (.int 2)) mNil))) mNil))) (mCons (mBin addW (mC (.int 1)) (mCallP F__law_take 1 (mCons (mBin ixW (mLst (mCons (mC (.int 40)) (mCons (mC (.int 500)) mNil))) (mCallP F__law_take 1 (mCons (mC (.int 2)) mNil))) mNil))) mNil))) mNilO)))
    (mSeq (mPar [7, 8, 9] (mConsV (mCallV F__law_heats (mCons (mVar 5) (mCons (mBin ixW (mVar 6) (mC (.int 0))) (mCons (mBin ixW (mVar 6) (mC (.int 1))) mNil)))) (mConsV (mC (.int 0)) (mConsV (mC (.int 0)) mNilO))))
    (mSeq (mFor (mItS (mVar 5)) (gTupW 2 (gsCons (store 10) (gsCons (store 11) gsNil)))
    (mSeq (mAsg (store 12) (mBin subW (mVar 10) (mVar 8)))
    (mSeq (mAsg (store 9) (mBin addW (mBin addW (mVar 9) (mVar 11)) (mIfE (mTest (mBin gtW (mVar 12) (mC (.int 0)))) (mBin fdivW (mBin subW (mBin addW (mVar 12) (mBin ixW (mVar 6) (mC (.int 0)))) (mC (.int 1))) (mBin ixW (mVar 6) (mC (.int 0)))) (mBin fdivW (mBin subW (mBin subW (mBin ixW (mVar 6) (mC (.int 1))) (mVar 12)) (mC (.int 1))) (mBin ixW (mVar 6) (mC (.int 1)))))))
    (mAsg (store 8) (mVar 10)))))
    (mSeq (mIf (mOrT (mTest (mBin notBW (mCallV F_is_plan (mCons (mVar 5) mNil)) (mC (.bool true)))) (mOrT (mNotT (mTruth (mCallV F__law_same (mCons (mLst (mCons (mCallV F_heats_of_plan (mCons (mVar 5) (mCons (mVar 6) mNil))) (mCons (mCallV F_hours_of_plan (mCons (mVar 5) (mCons (mVar 6) mNil))) mNil))) (mCons (mLst (mCons (mVar 7) (mCons (mCallB lenW (mCons (mVar 7) mNil)) mNil))) mNil))))) (mTest (mBin neW (mCallB lenW (mCons (mVar 7) mNil)) (mVar 9)))))
    (mRet (mC (.bool false)))
    mSkip)
    (mSeq (mIf (mOrT (mTest (mBin gtW (mCallV F_hours_of_plan (mCons (mVar 5) (mCons (mTup (mCons (mCallB min2W (mCons (mC (.int 500)) (mCons (mBin addW (mBin ixW (mVar 6) (mC (.int 0))) (mC (.int 3))) mNil))) (mCons (mBin ixW (mVar 6) (mC (.int 1))) mNil))) mNil))) (mVar 9))) (mTest (mBin gtW (mCallV F_hours_of_plan (mCons (mVar 5) (mCons (mTup (mCons (mBin ixW (mVar 6) (mC (.int 0))) (mCons (mCallB min2W (mCons (mC (.int 500)) (mCons (mBin addW (mBin ixW (mVar 6) (mC (.int 1))) (mC (.int 3))) mNil))) mNil))) mNil))) (mVar 9))))
    (mRet (mC (.bool false)))
    mSkip)
    (mSeq (mAsg (store 13) (mCallP F__law_take 1 (mCons (mCallB lenW (mCons (mVar 5) mNil)) mNil)))
    (mFrzS [1] (mSeq (mIf (mAndT (mTest (mBin ltW (mVar 13) (mBin subW (mCallB lenW (mCons (mVar 5) mNil)) (mC (.int 1))))) (mTest (mBin gtW (mCallV F_hours_of_plan (mCons (mBin addW (mSl (mVar 5) mNoPart (mPart (mVar 13))) (mSl (mVar 5) (mPart (mBin addW (mVar 13) (mC (.int 1)))) mNoPart)) (mCons (mVar 6) mNil))) (mVar 9))))
    (mRet (mC (.bool false)))
    mSkip)
    (mSeq (mAsg (store 14) (mLst (mCons (mTup mNil) (mCons (mCallB listW (mCons (mVar 5) mNil)) (mCons (mBin mulW (mTup (mCons (mTup (mCons (mC (.int 5)) (mCons (mC (.int 5)) mNil))) mNil)) (mC (.int 9))) (mCons (mTup (mCons (mTup (mCons (mUn negW (mC (.int 1))) (mCons (mC (.int 5)) mNil))) mNil)) (mCons (mTup (mCons (mTup (mCons (mC (.int 1401)) (mCons (mC (.int 5)) mNil))) mNil)) (mCons (mTup (mCons (mTup (mCons (mC (.int 5)) (mCons (mUn negW (mC (.int 1))) mNil))) mNil)) (mCons (mTup (mCons (mTup (mCons (mC (.int 5)) (mCons (mC (.int 25)) mNil))) mNil)) (mCons (mTup (mCons (mTup (mCons (mC (.int 5)) mNil)) mNil)) (mCons (mTup (mCons (mTup (mCons (mC (.int 5)) (mCons (mC (.int 5)) (mCons (mC (.int 5)) mNil)))) mNil)) (mCons (mTup (mCons (mLst (mCons (mC (.int 5)) (mCons (mC (.int 5)) mNil))) mNil)) (mCons (mTup (mCons (mC .none) mNil)) (mCons (mTup (mCons (mTup (mCons (mC .none) (mCons (mC (.int 5)) mNil))) mNil)) (mCons (mTup (mCons (mTup (mCons (mC (.int 5)) (mCons (mC (.bool true)) mNil))) mNil)) (mCons (mC .none) (mCons (mC (.str "plan")) mNil)))))))))))))))))
    (mRet (mBin eqW (mLc [15] (mItS (mVar 14)) (store 15) (mTest (mBin notBW (mCallV F_is_plan (mCons (mVar 15) mNil)) (mC (.bool false)))) (mVar 15)) (mLst mNil)))))))))))))))))
noncomputable abbrev F_law : FV := runV 16 m_law
section
variable {P : Program} {w : World} {K : PySem.W.Frag} {mg : Str → Option Value} {base : Heap} {TC : Nat → Value} {TBs : Addr → Prop}
theorem sc__law_draws : FnScope ["script", "draws", "cell", "number", "first", "k", "seed"] ["script"] (defScope s__law_draws) := ⟨rfl, rfl, rfl, by decide +kernel, rfl, by decide +kernel, by decide +kernel⟩
theorem ok__law_draws {a__law_draws : Addr} {fd__law_draws : FuncData} (F : Fun K "_law_draws" "_law_draws" s__law_draws a__law_draws fd__law_draws) (T : Tx K mg TC) : FnOk P w K mg base (L2N.CX P w) 1 a__law_draws fd__law_draws ["script"] (spV K TC (offT TBs) F__law_draws 1) :=
  fn_V F sc__law_draws rfl (by decide) fun cdv A outer s H E hr => by
    have hu := room_hu hr
    exact (ds_cons (ds_setOwn (i := 1) sc__law_draws.nd (df_lst d_nil))
    (ds_cons (ds_for (passes_of rfl) rfl (di_seq (d_var 0)) (dg_name 2 sc__law_draws.nd)
    (ds_cons (ds_set (i := 3) sc__law_draws.nd (d_callB cd_abs T.n_abs (by decide +kernel) (d_cons (d_var 2) d_nil)))
    (ds_cons (ds_if (dt_cmp (od_lt (hu64 hu)) (d_var 3) (d_op od_pow d_int d_int))
    (ds_cons (ds_set (i := 4) sc__law_draws.nd (d_op od_mod (d_callTy cd_int T.n_int (by decide +kernel) (d_cons (d_op od_add (d_op od_mul (d_var 3) d_int) d_int) d_nil)) d_int))
    (ds_cons (ds_expr (d_meth (i := 1) PySem.F.plainAttrs_list PySem.F.slot_list_append PySem.F.type_list_append md_append (d_cons (d_op od_mod (d_callTy cd_int T.n_int (by decide +kernel) (d_cons (d_op od_add (d_op od_mul (d_var 4) d_int) (d_var 3)) d_nil)) d_int) d_nil)))
    (ds_cons (ds_expr (d_meth (i := 1) PySem.F.plainAttrs_list PySem.F.slot_list_append PySem.F.type_list_append md_append (d_cons (d_op od_mod (d_callTy cd_int T.n_int (by decide +kernel) (d_cons (d_op od_add (d_var 4) (d_op od_fdiv (d_var 3) d_int)) d_nil)) d_int) d_nil)))
    (ds_one (ds_set (i := 3) sc__law_draws.nd d_int)))))
    ds_nil)
    (ds_one (ds_for (passes_of rfl) rfl (di_range1 T.n_range (d_cons d_int d_nil)) (dg_name 5 sc__law_draws.nd)
    (ds_one (ds_if (dt_cmp (od_gt (hu64 hu)) (d_var 3) d_int)
    (ds_cons (ds_expr (d_meth (i := 1) PySem.F.plainAttrs_list PySem.F.slot_list_append PySem.F.type_list_append md_append (d_cons (d_op od_mod (d_callTy cd_int T.n_int (by decide +kernel) (d_cons (d_var 3) d_nil)) d_int) d_nil)))
    (ds_one (ds_set (i := 3) sc__law_draws.nd (d_op od_fdiv (d_var 3) d_int))))
    ds_nil)))))))
    (ds_cons (ds_set (i := 6) sc__law_draws.nd d_int)
    (ds_cons (ds_if (dt_cmp (od_gt (hu64 hu)) (d_callB cd_len T.n_len (by decide +kernel) (d_cons (d_var 0) d_nil)) d_int)
    (ds_one (ds_set (i := 6) sc__law_draws.nd (d_op od_add d_int (d_callB cd_abs T.n_abs (by decide +kernel) (d_cons (d_ix (d_var 0) d_int (fun _ _ => rfl)) d_nil)))))
    ds_nil)
    (ds_cons (ds_for (passes_of rfl) rfl (di_range1 T.n_range (d_cons d_int d_nil)) (dg_name 5 sc__law_draws.nd)
    (ds_cons (ds_set (i := 6) sc__law_draws.nd (d_op od_mod (d_callTy cd_int T.n_int (by decide +kernel) (d_cons (d_op od_add (d_op od_mul (d_var 6) d_int) d_int) d_nil)) d_int))
    (ds_one (ds_expr (d_meth (i := 1) PySem.F.plainAttrs_list PySem.F.slot_list_append PySem.F.type_list_append md_append (d_cons (d_op od_fdiv (d_var 6) d_int) d_nil))))))
    (dss_frz [1] (ds_one (ds_retOwn (df_listRev rfl T.n_list T.n_reversed (d_var 1))))))))))
theorem sc__law_take : FnScope ["draws", "bound"] ["draws", "bound"] (defScope s__law_take) := ⟨rfl, rfl, rfl, by decide +kernel, rfl, by decide +kernel, by decide +kernel⟩
theorem ok__law_take {a__law_take : Addr} {fd__law_take : FuncData} (F : Fun K "_law_take" "_law_take" s__law_take a__law_take fd__law_take) (T : Tx K mg TC) : FnOk P w K mg base (L2N.CX P w) 1 a__law_take fd__law_take ["draws", "bound"] (spP K TC (offT TBs) F__law_take 2) :=
  fn_P F sc__law_take rfl (by decide) fun cdv A outer s H E hr => by
    have hu := room_hu hr
    exact (ds_cons (ds_if (dt_cmp (od_eq (hu64 hu)) (d_frz (d_callB cd_len T.n_len (by decide +kernel) (d_cons (d_var 0) d_nil))) d_int)
    (ds_one (ds_ret d_int))
    ds_nil)
    (ds_one (ds_ret (d_op od_mod (d_callTy cd_int T.n_int (by decide +kernel) (d_cons (d_meth0 (i := 0) PySem.F.plainAttrs_list PySem.F.slot_list_pop PySem.F.type_list_pop md_pop) d_nil)) (d_var 1)))))
theorem sc_is_number : FnScope ["value", "least", "most"] ["value", "least", "most"] (defScope s_is_number) := ⟨rfl, rfl, rfl, by decide +kernel, rfl, by decide +kernel, by decide +kernel⟩
theorem ok_is_number {a_is_number : Addr} {fd_is_number : FuncData} (F : Fun K "is_number" "is_number" s_is_number a_is_number fd_is_number) (T : Tx K mg TC) : FnOk P w K mg base (L2N.CX P w) 1 a_is_number fd_is_number ["value", "least", "most"] (spV K TC (offT TBs) F_is_number 3) :=
  fn_V F sc_is_number rfl (by decide) fun cdv A outer s H E hr => by
    have hu := room_hu hr
    exact (ds_one (ds_ret (d_and (d_isi (T := "int") (d_var 0) T.n_isinstance T.n_int (by decide +kernel)) (d_and (d_not (d_isi (T := "bool") (d_var 0) T.n_isinstance T.n_bool (by decide +kernel))) (d_one (d_chain (od_le (hu64 hu)) (od_le (hu64 hu)) (d_var 1) (d_var 0) (d_var 2)))))))
theorem sc_are_heats : FnScope ["value", "one"] ["value"] (defScope s_are_heats) := ⟨rfl, rfl, rfl, by decide +kernel, rfl, by decide +kernel, by decide +kernel⟩
theorem ok_are_heats {a_are_heats : Addr} {fd_are_heats : FuncData} {a_is_number : Addr} {fd_is_number : FuncData} {c_are_heats P_are_heats : Addr} (F : FunC K "are_heats" "are_heats" s_are_heats a_are_heats fd_are_heats c_are_heats) (T : Tx K mg TC) (TB_are_heats : GxR.TabB base mg c_are_heats P_are_heats) (hT_are_heats : TBs P_are_heats) (C_is_number : Cl K mg "is_number" a_is_number fd_is_number ["value", "least", "most"]) (G_is_number : FnOk P w K mg base (L2N.CX P w) 1 a_is_number fd_is_number ["value", "least", "most"] (spV K TC (offT TBs) F_is_number 3)) : FnOk P w K mg base (L2N.CX P w) 3 a_are_heats fd_are_heats ["value"] (spV K TC (offT TBs) F_are_heats 1) :=
  fn_Vc F sc_are_heats rfl (by decide) fun A outer s H E hr => by
    have hu := room_hu hr
    exact (ds_cons (ds_if ((dw_or (dt_not (dt_val (d_isi (T := "tuple") (d_var 0) T.n_isinstance T.n_tuple (by decide +kernel)))) (dw_or1 (dt_not (dt_chain (od_le (hu64 hu)) (od_le (hu64 hu)) d_int (d_callB cd_len T.n_len (by decide +kernel) (d_cons (d_var 0) d_nil)) (d_globI T.c_MOST_HOURS)))))).dt
    (ds_one (ds_ret d_bl))
    ds_nil)
    (ds_one (ds_ret (d_allG (k := 1) (own := [("one", 1)]) (hr.mono (by decide)) T.n_all TB_are_heats rfl (by exact .inr ⟨rfl, hT_are_heats⟩) ⟨blkOk_by (by kernel_rfl), rfl, by decide +kernel, rfl⟩ sc_are_heats.nd rfl (di_seq (d_var 0)) (by decide) (fun A s H cl C code fp pn hrA => have huA := room_hu hrA; (dg_name 1 sc_are_heats.nd)) (fun A s H cl C code fp pn hrA => have huA := room_hu hrA; dts_nil) (fun A s H cl C code fp pn hrA => have huA := room_hu hrA; (d_callV G_is_number (hrA.mono (by decide)) takesF rfl C_is_number.g C_is_number.k C_is_number.b (d_cons (d_var 1) (d_cons d_int (d_cons (d_globI T.c_MOST_HEAT_conebends) d_nil))) (len_cons (len_cons (len_cons len_nil)))))))))
theorem sc__law_bends : FnScope ["heats", "at", "hours", "last"] ["heats", "at", "hours"] (defScope s__law_bends) := ⟨rfl, rfl, rfl, by decide +kernel, rfl, by decide +kernel, by decide +kernel⟩
theorem ok__law_bends {a__law_bends : Addr} {fd__law_bends : FuncData} (F : Fun K "_law_bends" "_law_bends" s__law_bends a__law_bends fd__law_bends) (T : Tx K mg TC) : FnOk P w K mg base (L2N.CX P w) 1 a__law_bends fd__law_bends ["heats", "at", "hours"] (spV K TC (offT TBs) F__law_bends 3) :=
  fn_V F sc__law_bends rfl (by decide) fun cdv A outer s H E hr => by
    have hu := room_hu hr
    exact (ds_cons (ds_for (passes_of rfl) rfl (di_range2 T.n_range (d_cons (d_op od_sub (d_var 2) d_int) (d_cons (d_callB cd_len T.n_len (by decide +kernel) (d_cons (d_var 0) d_nil)) d_nil))) (dg_name 3 sc__law_bends.nd)
    (ds_one (ds_if (dt_cmp (od_ge (hu64 hu)) (d_callB (cd_min rfl hu) T.n_min (by decide +kernel) (d_cons (d_slice (d_var 0) (do_some (d_op od_add (d_op od_sub (d_var 3) (d_var 2)) d_int)) (do_some (d_op od_add (d_var 3) d_int))) d_nil)) (d_var 1))
    (ds_one (ds_ret (d_var 3)))
    ds_nil)))
    (ds_one (ds_ret d_non)))
theorem sc_greatest_bent : FnScope ["heats", "hours", "rows", "first"] ["heats", "hours"] (defScope s_greatest_bent) := ⟨rfl, rfl, rfl, by decide +kernel, rfl, by decide +kernel, by decide +kernel⟩
theorem ok_greatest_bent {a_greatest_bent : Addr} {fd_greatest_bent : FuncData} (F : Fun K "greatest_bent" "greatest_bent" s_greatest_bent a_greatest_bent fd_greatest_bent) (T : Tx K mg TC) : FnOk P w K mg base (L2N.CX P w) 1 a_greatest_bent fd_greatest_bent ["heats", "hours"] (spV K TC (offT TBs) F_greatest_bent 2) :=
  fn_V F sc_greatest_bent rfl (by decide) fun cdv A outer s H E hr => by
    have hu := room_hu hr
    exact (ds_cons (ds_ofE (i := 2) (ps_toE (as_lc (own := [("first", 3)]) rfl sc_greatest_bent.nd (di_range1 T.n_range (d_cons (d_op od_add (d_op od_sub (d_callB cd_len T.n_len (by decide +kernel) (d_cons (d_var 0) d_nil)) (d_var 1)) d_int) d_nil)) (blkOk_by (by kernel_rfl)) (by decide) (fun s H C cl fp => (dg_name 3 sc_greatest_bent.nd)) (fun s H C cl fp => dts_nil) (fun s H C cl fp => (d_callB (cd_min rfl hu) T.n_min (by decide +kernel) (d_cons (d_slice (d_var 0) (do_some (d_var 3)) (do_some (d_op od_add (d_var 3) (d_var 1)))) d_nil))))))
    (ds_one (ds_ret (d_ifE (dt_cmp (od_gt (hu64 hu)) (d_callB cd_len T.n_len (by decide +kernel) (d_cons (d_var 2) d_nil)) d_int) (d_callB (cd_max rfl hu) T.n_max (by decide +kernel) (d_cons (d_var 2) d_nil)) d_non))))
theorem sc_bend_hour : FnScope ["heats", "cone", "at", "hours", "now", "hour", "heat"] ["heats", "cone"] (defScope s_bend_hour) := ⟨rfl, rfl, rfl, by decide +kernel, rfl, by decide +kernel, by decide +kernel⟩
theorem ok_bend_hour {a_bend_hour : Addr} {fd_bend_hour : FuncData} (F : Fun K "bend_hour" "bend_hour" s_bend_hour a_bend_hour fd_bend_hour) (T : Tx K mg TC) : FnOk P w K mg base (L2N.CX P w) 1 a_bend_hour fd_bend_hour ["heats", "cone"] (spV K TC (offT TBs) F_bend_hour 2) :=
  fn_V F sc_bend_hour rfl (by decide) fun cdv A outer s H E hr => by
    have hu := room_hu hr
    exact (ds_cons (ds_asg (dg_tup rfl (dgs_cons (dg_name 2 sc_bend_hour.nd) (dgs_cons (dg_name 3 sc_bend_hour.nd) dgs_nil))) (d_var 1))
    (ds_cons (ds_set (i := 4) sc_bend_hour.nd d_int)
    (ds_cons (ds_for (passes_of rfl) rfl (di_enumA T.n_enumerate (d_cons (d_var 0) d_nil)) (dg_tup rfl (dgs_cons (dg_name 5 sc_bend_hour.nd) (dgs_cons (dg_name 6 sc_bend_hour.nd) dgs_nil)))
    (ds_cons (ds_set (i := 4) sc_bend_hour.nd (d_ifE (dt_cmp (od_ge (hu64 hu)) (d_var 6) (d_var 2)) (d_op od_add (d_var 4) d_int) d_int))
    (ds_one (ds_if (dt_cmp (od_eq (hu64 hu)) (d_var 4) (d_var 3))
    (ds_one (ds_ret (d_var 5)))
    ds_nil))))
    (ds_one (ds_ret d_non)))))
theorem sc_is_cone : FnScope ["value"] ["value"] (defScope s_is_cone) := ⟨rfl, rfl, rfl, by decide +kernel, rfl, by decide +kernel, by decide +kernel⟩
theorem ok_is_cone {a_is_cone : Addr} {fd_is_cone : FuncData} {a_is_number : Addr} {fd_is_number : FuncData} (F : Fun K "is_cone" "is_cone" s_is_cone a_is_cone fd_is_cone) (T : Tx K mg TC) (C_is_number : Cl K mg "is_number" a_is_number fd_is_number ["value", "least", "most"]) (G_is_number : FnOk P w K mg base (L2N.CX P w) 1 a_is_number fd_is_number ["value", "least", "most"] (spV K TC (offT TBs) F_is_number 3)) : FnOk P w K mg base (L2N.CX P w) 2 a_is_cone fd_is_cone ["value"] (spV K TC (offT TBs) F_is_cone 1) :=
  fn_V F sc_is_cone rfl (by decide) fun cdv A outer s H E hr => by
    have hu := room_hu hr
    exact (ds_cons (ds_if ((dw_or (dt_not (dt_val (d_isi (T := "tuple") (d_var 0) T.n_isinstance T.n_tuple (by decide +kernel)))) (dw_or (dt_cmp (od_ne (hu64 hu)) (d_callB cd_len T.n_len (by decide +kernel) (d_cons (d_var 0) d_nil)) d_int) (dw_or1 (dt_not (dt_val (d_callV G_is_number (hr.mono (by decide)) (L2N.takes_of rfl rfl rfl rfl) rfl C_is_number.g C_is_number.k C_is_number.b (d_cons (d_ix (d_var 0) d_int (fun _ _ => rfl)) (d_cons d_int (d_cons (d_globI T.c_MOST_HEAT_conebends) d_nil))) (len_cons (len_cons (len_cons len_nil)))))))))).dt
    (ds_one (ds_ret d_bl))
    ds_nil)
    (ds_one (ds_ret (d_callV G_is_number (hr.mono (by decide)) (L2N.takes_of rfl rfl rfl rfl) rfl C_is_number.g C_is_number.k C_is_number.b (d_cons (d_ix (d_var 0) d_int (fun _ _ => rfl)) (d_cons d_int (d_cons (d_globI T.c_MOST_CONE_HOURS) d_nil))) (len_cons (len_cons (len_cons len_nil)))))))
theorem sc__law_same : FnScope ["actual", "due", "k"] ["actual", "due"] (defScope s__law_same) := ⟨rfl, rfl, rfl, by decide +kernel, rfl, by decide +kernel, by decide +kernel⟩
theorem okR__law_same {a__law_same : Addr} {fd__law_same : FuncData} (F : Fun K "_law_same" "_law_same" s__law_same a__law_same fd__law_same) (T : Tx K mg TC) (C__law_same : Cl K mg "_law_same" a__law_same fd__law_same ["actual", "due"]) : ∀ k : Nat, FnOk P w K mg base (L2N.CX P w) (0 + k) a__law_same fd__law_same ["actual", "due"] (spV K TC (offT TBs) (R__law_same k) 2)
  | 0 => fn_bad
  | k + 1 => fn_V F sc__law_same rfl (by decide) fun cdv A outer s H E hr => by
    have hu := room_hu hr
    have G_REC := okR__law_same F T C__law_same  k
    exact (ds_cons (ds_if ((dw_or (dt_cmp od_isN (d_var 1) d_non) (dw_or1 (dt_cmp od_isN (d_var 0) d_non)))).dt
    (ds_one (ds_ret (d_and (d_cmp od_isN (d_var 1) d_non) (d_one (d_cmp od_isN (d_var 0) d_non)))))
    ds_nil)
    (ds_cons (ds_if ((dw_or (dt_val (d_isi (T := "tuple") (d_var 1) T.n_isinstance T.n_tuple (by decide +kernel))) (dw_or1 (dt_val (d_isi (T := "list") (d_var 1) T.n_isinstance T.n_list (by decide +kernel)))))).dt
    (ds_cons (ds_if ((dw_or (dt_cmp (od_ne (hu64 hu)) (d_isi (T := "tuple") (d_var 1) T.n_isinstance T.n_tuple (by decide +kernel)) (d_isi (T := "tuple") (d_var 0) T.n_isinstance T.n_tuple (by decide +kernel))) (dw_or1 (dt_cmp (od_ne (hu64 hu)) (d_isi (T := "list") (d_var 1) T.n_isinstance T.n_list (by decide +kernel)) (d_isi (T := "list") (d_var 0) T.n_isinstance T.n_list (by decide +kernel)))))).dt
    (ds_one (ds_ret d_bl))
    ds_nil)
    (ds_cons (ds_if (dt_cmp (od_ne (hu64 hu)) (d_callB cd_len T.n_len (by decide +kernel) (d_cons (d_var 0) d_nil)) (d_callB cd_len T.n_len (by decide +kernel) (d_cons (d_var 1) d_nil)))
    (ds_one (ds_ret d_bl))
    ds_nil)
    (ds_cons (ds_for (passes_of rfl) rfl (di_range1 T.n_range (d_cons (d_callB cd_len T.n_len (by decide +kernel) (d_cons (d_var 1) d_nil)) d_nil)) (dg_name 2 sc__law_same.nd)
    (ds_one (ds_if (dt_not (dt_val (d_callV G_REC (hr.mono (by first | omega | (simp only [Nat.add_eq]; omega))) (L2N.takes_of rfl rfl rfl rfl) rfl C__law_same.g C__law_same.k C__law_same.b (d_cons (d_ix (d_var 0) (d_var 2) (fun _ _ => rfl)) (d_cons (d_ix (d_var 1) (d_var 2) (fun _ _ => rfl)) d_nil)) (len_cons (len_cons len_nil)))))
    (ds_one (ds_ret d_bl))
    ds_nil)))
    (ds_one (ds_ret d_bl)))))
    ds_nil)
    (ds_cons (ds_if (dt_cmp (od_ne (hu64 hu)) (d_isi (T := "bool") (d_var 1) T.n_isinstance T.n_bool (by decide +kernel)) (d_isi (T := "bool") (d_var 0) T.n_isinstance T.n_bool (by decide +kernel)))
    (ds_one (ds_ret d_bl))
    ds_nil)
    (ds_cons (ds_if ((dw_or (dt_cmp (od_ne (hu64 hu)) (d_isi (T := "int") (d_var 1) T.n_isinstance T.n_int (by decide +kernel)) (d_isi (T := "int") (d_var 0) T.n_isinstance T.n_int (by decide +kernel))) (dw_or1 (dt_cmp (od_ne (hu64 hu)) (d_isi (T := "str") (d_var 1) T.n_isinstance T.n_str (by decide +kernel)) (d_isi (T := "str") (d_var 0) T.n_isinstance T.n_str (by decide +kernel)))))).dt
    (ds_one (ds_ret d_bl))
    ds_nil)
    (ds_one (ds_ret (d_cmp (od_eq (hu64 hu)) (d_var 0) (d_var 1))))))))
theorem ok__law_same {a__law_same : Addr} {fd__law_same : FuncData} (F : Fun K "_law_same" "_law_same" s__law_same a__law_same fd__law_same) (T : Tx K mg TC) (C__law_same : Cl K mg "_law_same" a__law_same fd__law_same ["actual", "due"]) : FnOk P w K mg base (L2N.CX P w) 6 a__law_same fd__law_same ["actual", "due"] (spV K TC (offT TBs) F__law_same 2) := okR__law_same F T C__law_same  6
theorem sc__law_cones : FnScope ["draws", "wide", "heats", "turn", "at", "hours", "due", "more", "greatest", "odd", "wrong", "k", "one"] ["draws"] (defScope s__law_cones) := ⟨rfl, rfl, rfl, by decide +kernel, rfl, by decide +kernel, by decide +kernel⟩
theorem ok__law_cones {a__law_cones : Addr} {fd__law_cones : FuncData} {a__law_take : Addr} {fd__law_take : FuncData} {a_are_heats : Addr} {fd_are_heats : FuncData} {a__law_bends : Addr} {fd__law_bends : FuncData} {a_greatest_bent : Addr} {fd_greatest_bent : FuncData} {a_bend_hour : Addr} {fd_bend_hour : FuncData} {a_is_cone : Addr} {fd_is_cone : FuncData} {a__law_same : Addr} {fd__law_same : FuncData} (F : Fun K "_law_cones" "_law_cones" s__law_cones a__law_cones fd__law_cones) (T : Tx K mg TC) (C__law_take : Cl K mg "_law_take" a__law_take fd__law_take ["draws", "bound"]) (G__law_take : FnOk P w K mg base (L2N.CX P w) 1 a__law_take fd__law_take ["draws", "bound"] (spP K TC (offT TBs) F__law_take 2)) (C_are_heats : Cl K mg "are_heats" a_are_heats fd_are_heats ["value"]) (G_are_heats : FnOk P w K mg base (L2N.CX P w) 3 a_are_heats fd_are_heats ["value"] (spV K TC (offT TBs) F_are_heats 1)) (C__law_bends : Cl K mg "_law_bends" a__law_bends fd__law_bends ["heats", "at", "hours"]) (G__law_bends : FnOk P w K mg base (L2N.CX P w) 1 a__law_bends fd__law_bends ["heats", "at", "hours"] (spV K TC (offT TBs) F__law_bends 3)) (C_greatest_bent : Cl K mg "greatest_bent" a_greatest_bent fd_greatest_bent ["heats", "hours"]) (G_greatest_bent : FnOk P w K mg base (L2N.CX P w) 1 a_greatest_bent fd_greatest_bent ["heats", "hours"] (spV K TC (offT TBs) F_greatest_bent 2)) (C_bend_hour : Cl K mg "bend_hour" a_bend_hour fd_bend_hour ["heats", "cone"]) (G_bend_hour : FnOk P w K mg base (L2N.CX P w) 1 a_bend_hour fd_bend_hour ["heats", "cone"] (spV K TC (offT TBs) F_bend_hour 2)) (C_is_cone : Cl K mg "is_cone" a_is_cone fd_is_cone ["value"]) (G_is_cone : FnOk P w K mg base (L2N.CX P w) 2 a_is_cone fd_is_cone ["value"] (spV K TC (offT TBs) F_is_cone 1)) (C__law_same : Cl K mg "_law_same" a__law_same fd__law_same ["actual", "due"]) (G__law_same : FnOk P w K mg base (L2N.CX P w) 6 a__law_same fd__law_same ["actual", "due"] (spV K TC (offT TBs) F__law_same 2)) : FnOk P w K mg base (L2N.CX P w) 7 a__law_cones fd__law_cones ["draws"] (spP K TC (offT TBs) F__law_cones 1) :=
  fn_P F sc__law_cones rfl (by decide) fun cdv A outer s H E hr => by
    have hu := room_hu hr
    exact (ds_cons (ds_set (i := 1) sc__law_cones.nd (d_ix ((df_lst (d_cons d_int (d_cons d_int (d_cons d_int d_nil))))).e (d_callP (i := 0) G__law_take (hr.mono (by decide)) (L2N.takes_of rfl rfl rfl rfl) rfl C__law_take.g C__law_take.k C__law_take.b (d_cons d_int d_nil) (len_cons len_nil)) (fun _ _ => rfl)))
    (ds_cons (ds_set (i := 2) sc__law_cones.nd (d_callTy cd_tuple T.n_tuple (by decide +kernel) (d_cons ((df_lc (own := [("k", 11)]) rfl sc__law_cones.nd (di_range1 T.n_range (d_cons (d_op od_add d_int (d_callP (i := 0) G__law_take (hr.mono (by decide)) (L2N.takes_of rfl rfl rfl rfl) rfl C__law_take.g C__law_take.k C__law_take.b (d_cons (d_ix ((df_lst (d_cons d_int (d_cons d_int d_nil)))).e (d_callTy cd_int T.n_int (by decide +kernel) (d_cons (d_cmp (od_eq (hu64 hu)) (d_callP (i := 0) G__law_take (hr.mono (by decide)) (L2N.takes_of rfl rfl rfl rfl) rfl C__law_take.g C__law_take.k C__law_take.b (d_cons d_int d_nil) (len_cons len_nil)) d_int) d_nil)) (fun _ _ => rfl)) d_nil) (len_cons len_nil))) d_nil)) (blkOk_by (by kernel_rfl)) (by decide) (fun s H C cl fp => (dg_name 11 sc__law_cones.nd)) (fun s H C cl fp => dts_nil) (fun s H C cl fp => (d_callP (i := 0) G__law_take (hr.mono (by decide)) takesF rfl C__law_take.g C__law_take.k C__law_take.b (d_cons (d_var 1) d_nil) (len_cons len_nil))))).e d_nil)))
    (ds_cons (ds_if (dt_cmp od_notB (d_callV G_are_heats (hr.mono (by decide)) (L2N.takes_of rfl rfl rfl rfl) rfl C_are_heats.g C_are_heats.k C_are_heats.b (d_cons (d_var 2) d_nil) (len_cons len_nil)) d_bl)
    (ds_one (ds_ret d_bl))
    ds_nil)
    (ds_cons (ds_for (passes_of rfl) rfl (di_range1 T.n_range (d_cons d_int d_nil)) (dg_name 3 sc__law_cones.nd)
    (ds_cons (ds_asg (dg_tup rfl (dgs_cons (dg_name 4 sc__law_cones.nd) (dgs_cons (dg_name 5 sc__law_cones.nd) dgs_nil))) (d_tup (d_cons (d_callP (i := 0) G__law_take (hr.mono (by decide)) (L2N.takes_of rfl rfl rfl rfl) rfl C__law_take.g C__law_take.k C__law_take.b (d_cons (d_var 1) d_nil) (len_cons len_nil)) (d_cons (d_op od_add d_int (d_callP (i := 0) G__law_take (hr.mono (by decide)) (L2N.takes_of rfl rfl rfl rfl) rfl C__law_take.g C__law_take.k C__law_take.b (d_cons (d_ix ((df_lst (d_cons d_int (d_cons d_int d_nil)))).e (d_callP (i := 0) G__law_take (hr.mono (by decide)) (L2N.takes_of rfl rfl rfl rfl) rfl C__law_take.g C__law_take.k C__law_take.b (d_cons d_int d_nil) (len_cons len_nil)) (fun _ _ => rfl)) d_nil) (len_cons len_nil))) d_nil))))
    (ds_cons (ds_set (i := 6) sc__law_cones.nd (d_callV G__law_bends (hr.mono (by decide)) (L2N.takes_of rfl rfl rfl rfl) rfl C__law_bends.g C__law_bends.k C__law_bends.b (d_cons (d_var 2) (d_cons (d_var 4) (d_cons (d_var 5) d_nil))) (len_cons (len_cons (len_cons len_nil)))))
    (ds_cons (ds_if ((dw_or (dt_cmp od_notB (d_callV G_is_cone (hr.mono (by decide)) (L2N.takes_of rfl rfl rfl rfl) rfl C_is_cone.g C_is_cone.k C_is_cone.b (d_cons (d_tup (d_cons (d_var 4) (d_cons (d_var 5) d_nil))) d_nil) (len_cons len_nil)) d_bl) (dw_or1 (dt_not (dt_val (d_callV G__law_same (hr.mono (by decide)) (L2N.takes_of rfl rfl rfl rfl) rfl C__law_same.g C__law_same.k C__law_same.b (d_cons (d_callV G_bend_hour (hr.mono (by decide)) (L2N.takes_of rfl rfl rfl rfl) rfl C_bend_hour.g C_bend_hour.k C_bend_hour.b (d_cons (d_var 2) (d_cons (d_tup (d_cons (d_var 4) (d_cons (d_var 5) d_nil))) d_nil)) (len_cons (len_cons len_nil))) (d_cons (d_var 6) d_nil)) (len_cons (len_cons len_nil)))))))).dt
    (ds_one (ds_ret d_bl))
    ds_nil)
    (ds_cons (ds_for (passes_of rfl) rfl (di_seq ((df_lst (d_cons (d_callV G_bend_hour (hr.mono (by decide)) (L2N.takes_of rfl rfl rfl rfl) rfl C_bend_hour.g C_bend_hour.k C_bend_hour.b (d_cons (d_var 2) (d_cons (d_tup (d_cons (d_callB (cd_min2 rfl) T.n_min (by decide +kernel) (d_cons d_int (d_cons (d_op od_add (d_var 4) d_int) d_nil))) (d_cons (d_var 5) d_nil))) d_nil)) (len_cons (len_cons len_nil))) (d_cons (d_callV G_bend_hour (hr.mono (by decide)) (L2N.takes_of rfl rfl rfl rfl) rfl C_bend_hour.g C_bend_hour.k C_bend_hour.b (d_cons (d_var 2) (d_cons (d_tup (d_cons (d_var 4) (d_cons (d_callB (cd_min2 rfl) T.n_min (by decide +kernel) (d_cons d_int (d_cons (d_op od_add (d_var 5) d_int) d_nil))) d_nil))) d_nil)) (len_cons (len_cons len_nil))) d_nil)))).e) (dg_name 7 sc__law_cones.nd)
    (ds_one (ds_if ((dw_and (dt_cmp od_notN (d_var 7) d_non) (dw_and1 ((dw_or (dt_cmp od_isN (d_var 6) d_non) (dw_or1 (dt_cmp (od_lt (hu64 hu)) (d_var 7) (d_var 6))))).dt))).dt
    (ds_one (ds_ret d_bl))
    ds_nil)))
    (ds_cons (ds_set (i := 8) sc__law_cones.nd (d_callV G_greatest_bent (hr.mono (by decide)) (L2N.takes_of rfl rfl rfl rfl) rfl C_greatest_bent.g C_greatest_bent.k C_greatest_bent.b (d_cons (d_var 2) (d_cons (d_var 5) d_nil)) (len_cons (len_cons len_nil))))
    (ds_one (ds_if (dt_cmp (od_lt (hu64 hu)) (d_callB cd_len T.n_len (by decide +kernel) (d_cons (d_var 2) d_nil)) (d_var 5))
    (ds_one (ds_if (dt_cmp od_notN (d_var 8) d_non)
    (ds_one (ds_ret d_bl))
    ds_nil))
    (ds_one (ds_if ((dw_or (dt_not (dt_val (d_callV G__law_same (hr.mono (by decide)) (L2N.takes_of rfl rfl rfl rfl) rfl C__law_same.g C__law_same.k C__law_same.b (d_cons (d_var 8) (d_cons (d_callB (cd_max rfl hu) T.n_max (by decide +kernel) (d_cons ((df_lc (own := [("at", 4)]) rfl sc__law_cones.nd (di_seq (d_var 2)) (blkOk_by (by kernel_rfl)) (by decide) (fun s H C cl fp => (dg_name 4 sc__law_cones.nd)) (fun s H C cl fp => (dts_one (dt_cmp od_notN (d_callV G__law_bends (hr.mono (by decide)) takesF rfl C__law_bends.g C__law_bends.k C__law_bends.b (d_cons (d_var 2) (d_cons (d_var 4) (d_cons (d_var 5) d_nil))) (len_cons (len_cons (len_cons len_nil)))) d_non))) (fun s H C cl fp => (d_var 4)))).e d_nil)) d_nil)) (len_cons (len_cons len_nil))))) (dw_or1 ((dw_and (dt_cmp (od_lt (hu64 hu)) (d_var 8) d_int) (dw_and1 (dt_cmp od_notN (d_callV G__law_bends (hr.mono (by decide)) (L2N.takes_of rfl rfl rfl rfl) rfl C__law_bends.g C__law_bends.k C__law_bends.b (d_cons (d_var 2) (d_cons (d_op od_add (d_var 8) d_int) (d_cons (d_var 5) d_nil))) (len_cons (len_cons (len_cons len_nil)))) d_non)))).dt))).dt
    (ds_one (ds_ret d_bl))
    ds_nil))))))))))
    (ds_cons (ds_set (i := 9) sc__law_cones.nd ((df_lst (d_cons (d_tup d_nil) (d_cons (d_callTy cd_list T.n_list (by decide +kernel) (d_cons (d_var 2) d_nil)) (d_cons (d_op od_mul (d_tup (d_cons d_int d_nil)) d_int) (d_cons (d_op od_add (d_tup (d_cons (d_un od_neg d_int) d_nil)) (d_slice (d_var 2) (do_some d_int) do_none)) (d_cons (d_op od_add (d_tup (d_cons d_int d_nil)) (d_slice (d_var 2) (do_some d_int) do_none)) (d_cons (d_op od_add (d_tup (d_cons d_non d_nil)) (d_slice (d_var 2) (do_some d_int) do_none)) (d_cons (d_op od_add (d_tup (d_cons d_bl d_nil)) (d_slice (d_var 2) (do_some d_int) do_none)) (d_cons d_non (d_cons d_str d_nil))))))))))).e)
    (ds_cons (ds_set (i := 10) sc__law_cones.nd ((df_lst (d_cons (d_tup (d_cons (d_var 4) d_nil)) (d_cons (d_tup (d_cons (d_var 4) (d_cons (d_var 5) (d_cons d_int d_nil)))) (d_cons ((df_lst (d_cons (d_var 4) (d_cons (d_var 5) d_nil)))).e (d_cons (d_tup (d_cons (d_un od_neg d_int) (d_cons d_int d_nil))) (d_cons (d_tup (d_cons d_int (d_cons d_int d_nil))) (d_cons (d_tup (d_cons d_int (d_cons d_int d_nil))) (d_cons (d_tup (d_cons d_int (d_cons d_int d_nil))) (d_cons (d_tup (d_cons d_non (d_cons d_int d_nil))) (d_cons (d_tup (d_cons d_bl (d_cons d_int d_nil))) (d_cons (d_tup (d_cons d_int (d_cons d_non d_nil))) (d_cons d_non (d_cons d_str d_nil)))))))))))))).e)
    (ds_one (ds_ret (d_and (d_cmp (od_eq (hu64 hu)) ((df_lc (own := [("one", 12)]) rfl sc__law_cones.nd (di_seq (d_var 9)) (blkOk_by (by kernel_rfl)) (by decide) (fun s H C cl fp => (dg_name 12 sc__law_cones.nd)) (fun s H C cl fp => (dts_one (dt_cmp od_notB (d_callV G_are_heats (hr.mono (by decide)) takesF rfl C_are_heats.g C_are_heats.k C_are_heats.b (d_cons (d_var 12) d_nil) (len_cons len_nil)) d_bl))) (fun s H C cl fp => (d_var 12)))).e ((df_lst d_nil)).e) (d_one (d_cmp (od_eq (hu64 hu)) ((df_lc (own := [("one", 12)]) rfl sc__law_cones.nd (di_seq (d_var 10)) (blkOk_by (by kernel_rfl)) (by decide) (fun s H C cl fp => (dg_name 12 sc__law_cones.nd)) (fun s H C cl fp => (dts_one (dt_cmp od_notB (d_callV G_is_cone (hr.mono (by decide)) takesF rfl C_is_cone.g C_is_cone.k C_is_cone.b (d_cons (d_var 12) d_nil) (len_cons len_nil)) d_bl))) (fun s H C cl fp => (d_var 12)))).e ((df_lst d_nil)).e)))))))))))
theorem sc__law_plan : FnScope ["draws", "wide", "k"] ["draws", "wide"] (defScope s__law_plan) := ⟨rfl, rfl, rfl, by decide +kernel, rfl, by decide +kernel, by decide +kernel⟩
theorem ok__law_plan {a__law_plan : Addr} {fd__law_plan : FuncData} {a__law_take : Addr} {fd__law_take : FuncData} (F : Fun K "_law_plan" "_law_plan" s__law_plan a__law_plan fd__law_plan) (T : Tx K mg TC) (C__law_take : Cl K mg "_law_take" a__law_take fd__law_take ["draws", "bound"]) (G__law_take : FnOk P w K mg base (L2N.CX P w) 1 a__law_take fd__law_take ["draws", "bound"] (spP K TC (offT TBs) F__law_take 2)) : FnOk P w K mg base (L2N.CX P w) 2 a__law_plan fd__law_plan ["draws", "wide"] (spP K TC (offT TBs) F__law_plan 2) :=
  fn_P F sc__law_plan rfl (by decide) fun cdv A outer s H E hr => by
    have hu := room_hu hr
    exact (ds_one (ds_ret (d_callTy cd_tuple T.n_tuple (by decide +kernel) (d_cons ((df_lc (own := [("k", 2)]) rfl sc__law_plan.nd (di_range1 T.n_range (d_cons (d_op od_add d_int (d_callP (i := 0) G__law_take (hr.mono (by decide)) (L2N.takes_of rfl rfl rfl rfl) rfl C__law_take.g C__law_take.k C__law_take.b (d_cons d_int d_nil) (len_cons len_nil))) d_nil)) (blkOk_by (by kernel_rfl)) (by decide) (fun s H C cl fp => (dg_name 2 sc__law_plan.nd)) (fun s H C cl fp => dts_nil) (fun s H C cl fp => (d_tup (d_cons (d_callP (i := 0) G__law_take (hr.mono (by decide)) takesF rfl C__law_take.g C__law_take.k C__law_take.b (d_cons (d_var 1) d_nil) (len_cons len_nil)) (d_cons (d_callP (i := 0) G__law_take (hr.mono (by decide)) takesF rfl C__law_take.g C__law_take.k C__law_take.b (d_cons (d_ix ((df_lst (d_cons d_int (d_cons d_int d_nil)))).e (d_callTy cd_int T.n_int (by decide +kernel) (d_cons (d_cmp (od_eq (hu64 hu)) (d_callP (i := 0) G__law_take (hr.mono (by decide)) takesF rfl C__law_take.g C__law_take.k C__law_take.b (d_cons d_int d_nil) (len_cons len_nil)) d_int) d_nil)) (fun _ _ => rfl)) d_nil) (len_cons len_nil)) d_nil)))))).e d_nil))))
theorem sc__law_heats : FnScope ["plan", "up", "down", "now", "found", "heat", "hold"] ["plan", "up", "down"] (defScope s__law_heats) := ⟨rfl, rfl, rfl, by decide +kernel, rfl, by decide +kernel, by decide +kernel⟩
theorem ok__law_heats {a__law_heats : Addr} {fd__law_heats : FuncData} (F : Fun K "_law_heats" "_law_heats" s__law_heats a__law_heats fd__law_heats) (T : Tx K mg TC) : FnOk P w K mg base (L2N.CX P w) 1 a__law_heats fd__law_heats ["plan", "up", "down"] (spV K TC (offT TBs) F__law_heats 3) :=
  fn_V F sc__law_heats rfl (by decide) fun cdv A outer s H E hr => by
    have hu := room_hu hr
    exact (ds_cons (ds_par2 (i := 3) (j := 4) rfl sc__law_heats.nd (dlo_val d_int (dlo_own (df_lst d_nil) dlo_nil)) (lenO_cons (lenO_cons lenO_nil)) (by decide))
    (ds_cons (ds_for (passes_of rfl) rfl (di_seq (d_var 0)) (dg_tup rfl (dgs_cons (dg_name 5 sc__law_heats.nd) (dgs_cons (dg_name 6 sc__law_heats.nd) dgs_nil)))
    (ds_cons (ds_while (passes_of rfl) (dt_cmp (od_lt (hu64 hu)) (d_var 3) (d_var 5)) (ds_cons (ds_set (i := 3) sc__law_heats.nd (d_op od_add (d_var 3) (d_callB (cd_min2 rfl) T.n_min (by decide +kernel) (d_cons (d_var 1) (d_cons (d_op od_sub (d_var 5) (d_var 3)) d_nil)))))
    (ds_one (ds_expr (d_meth (i := 4) PySem.F.plainAttrs_list PySem.F.slot_list_append PySem.F.type_list_append md_append (d_cons (d_var 3) d_nil))))))
    (ds_cons (ds_while (passes_of rfl) (dt_cmp (od_gt (hu64 hu)) (d_var 3) (d_var 5)) (ds_cons (ds_set (i := 3) sc__law_heats.nd (d_op od_sub (d_var 3) (d_callB (cd_min2 rfl) T.n_min (by decide +kernel) (d_cons (d_var 2) (d_cons (d_op od_sub (d_var 3) (d_var 5)) d_nil)))))
    (ds_one (ds_expr (d_meth (i := 4) PySem.F.plainAttrs_list PySem.F.slot_list_append PySem.F.type_list_append md_append (d_cons (d_var 3) d_nil))))))
    (ds_one (ds_setOwn (i := 4) sc__law_heats.nd (df_catO (i := 4) ((df_rep (df_lst (d_cons (d_var 5) d_nil)) (d_var 6))).e))))))
    (dss_frz [4] (ds_one (ds_ret (d_callTy cd_tuple T.n_tuple (by decide +kernel) (d_cons (d_var 4) d_nil)))))))
theorem sc_heats_of_plan : FnScope ["plan", "rates", "up", "down", "now", "found", "heat", "hold", "_"] ["plan", "rates"] (defScope s_heats_of_plan) := ⟨rfl, rfl, rfl, by decide +kernel, rfl, by decide +kernel, by decide +kernel⟩
theorem ok_heats_of_plan {a_heats_of_plan : Addr} {fd_heats_of_plan : FuncData} {c_heats_of_plan P_heats_of_plan : Addr} (F : FunC K "heats_of_plan" "heats_of_plan" s_heats_of_plan a_heats_of_plan fd_heats_of_plan c_heats_of_plan) (T : Tx K mg TC) (TB_heats_of_plan : GxR.TabB base mg c_heats_of_plan P_heats_of_plan) (hT_heats_of_plan : TBs P_heats_of_plan) : FnOk P w K mg base (L2N.CX P w) 3 a_heats_of_plan fd_heats_of_plan ["plan", "rates"] (spV K TC (offT TBs) F_heats_of_plan 2) :=
  fn_Vc F sc_heats_of_plan rfl (by decide) fun A outer s H E hr => by
    have hu := room_hu hr
    exact (ds_cons (ds_asg (dg_tup rfl (dgs_cons (dg_name 2 sc_heats_of_plan.nd) (dgs_cons (dg_name 3 sc_heats_of_plan.nd) dgs_nil))) (d_var 1))
    (ds_cons (ds_set (i := 4) sc_heats_of_plan.nd d_int)
    (ds_cons (ds_set (i := 5) sc_heats_of_plan.nd (d_tup d_nil))
    (ds_cons (ds_for (passes_of rfl) rfl (di_seq (d_var 0)) (dg_tup rfl (dgs_cons (dg_name 6 sc_heats_of_plan.nd) (dgs_cons (dg_name 7 sc_heats_of_plan.nd) dgs_nil)))
    (ds_cons (ds_while (passes_of rfl) (dt_cmp (od_ne (hu64 hu)) (d_var 4) (d_var 6)) (ds_cons (ds_set (i := 4) sc_heats_of_plan.nd (d_ifE (dt_cmp (od_lt (hu64 hu)) (d_var 4) (d_var 6)) (d_callB (cd_min2 rfl) T.n_min (by decide +kernel) (d_cons (d_var 6) (d_cons (d_op od_add (d_var 4) (d_var 2)) d_nil))) (d_callB (cd_max2 rfl) T.n_max (by decide +kernel) (d_cons (d_var 6) (d_cons (d_op od_sub (d_var 4) (d_var 3)) d_nil)))))
    (ds_one (ds_set (i := 5) sc_heats_of_plan.nd (d_tup (dl_star (d_var 5) (d_cons (d_var 4) d_nil)))))))
    (ds_one (ds_set (i := 5) sc_heats_of_plan.nd (d_op od_add (d_var 5) (d_tupG (k := 0) (own := [("_", 8)]) (hr.mono (by decide)) T.n_tuple TB_heats_of_plan rfl (by exact .inr ⟨rfl, hT_heats_of_plan⟩) ⟨blkOk_by (by kernel_rfl), rfl, by decide +kernel, rfl⟩ sc_heats_of_plan.nd rfl (di_range1 T.n_range (d_cons (d_var 7) d_nil)) (by decide) (fun A s H cl C code fp pn hrA => have huA := room_hu hrA; (dg_name 8 sc_heats_of_plan.nd)) (fun A s H cl C code fp pn hrA => have huA := room_hu hrA; dts_nil) (fun A s H cl C code fp pn hrA => have huA := room_hu hrA; (d_var 6))))))))
    (ds_one (ds_ret (d_var 5)))))))
theorem sc_hours_of_plan : FnScope ["plan", "rates"] ["plan", "rates"] (defScope s_hours_of_plan) := ⟨rfl, rfl, rfl, by decide +kernel, rfl, by decide +kernel, by decide +kernel⟩
theorem ok_hours_of_plan {a_hours_of_plan : Addr} {fd_hours_of_plan : FuncData} {a_heats_of_plan : Addr} {fd_heats_of_plan : FuncData} (F : Fun K "hours_of_plan" "hours_of_plan" s_hours_of_plan a_hours_of_plan fd_hours_of_plan) (T : Tx K mg TC) (C_heats_of_plan : Cl K mg "heats_of_plan" a_heats_of_plan fd_heats_of_plan ["plan", "rates"]) (G_heats_of_plan : FnOk P w K mg base (L2N.CX P w) 3 a_heats_of_plan fd_heats_of_plan ["plan", "rates"] (spV K TC (offT TBs) F_heats_of_plan 2)) : FnOk P w K mg base (L2N.CX P w) 4 a_hours_of_plan fd_hours_of_plan ["plan", "rates"] (spV K TC (offT TBs) F_hours_of_plan 2) :=
  fn_V F sc_hours_of_plan rfl (by decide) fun cdv A outer s H E hr => by
    have hu := room_hu hr
    exact (ds_one (ds_ret (d_callB cd_len T.n_len (by decide +kernel) (d_cons (d_callV G_heats_of_plan (hr.mono (by decide)) (L2N.takes_of rfl rfl rfl rfl) rfl C_heats_of_plan.g C_heats_of_plan.k C_heats_of_plan.b (d_cons (d_var 0) (d_cons (d_var 1) d_nil)) (len_cons (len_cons len_nil))) d_nil))))
theorem sc__law_fewest : FnScope ["plan", "up", "down", "goals", "top", "edge", "hours", "seen", "ready", "now", "step", "held", "state", "later", "heat", "hold"] ["plan", "up", "down"] (defScope s__law_fewest) := ⟨rfl, rfl, rfl, by decide +kernel, rfl, by decide +kernel, by decide +kernel⟩
theorem ok__law_fewest {a__law_fewest : Addr} {fd__law_fewest : FuncData} (F : Fun K "_law_fewest" "_law_fewest" s__law_fewest a__law_fewest fd__law_fewest) (T : Tx K mg TC) : FnOk P w K mg base (L2N.CX P w) 1 a__law_fewest fd__law_fewest ["plan", "up", "down"] (spV K TC (offT TBs) F__law_fewest 3) :=
  fn_V F sc__law_fewest rfl (by decide) fun cdv A outer s H E hr => by
    have hu := room_hu hr
    exact (ds_cons (ds_par2 (i := 3) (j := 4) rfl sc__law_fewest.nd (dlo_val ((df_lc (own := [("heat", 14), ("hold", 15)]) rfl sc__law_fewest.nd (di_seq (d_var 0)) (blkOk_by (by kernel_rfl)) (by decide) (fun s H C cl fp => (dg_tup rfl (dgs_cons (dg_name 14 sc__law_fewest.nd) (dgs_cons (dg_name 15 sc__law_fewest.nd) dgs_nil)))) (fun s H C cl fp => dts_nil) (fun s H C cl fp => (d_tup (d_cons (d_var 14) (d_cons (d_var 15) d_nil)))))).e (dlo_val (d_callB (cd_max rfl hu) T.n_max (by decide +kernel) (d_cons ((df_lc (own := [("heat", 14), ("hold", 15)]) rfl sc__law_fewest.nd (di_seq (d_var 0)) (blkOk_by (by kernel_rfl)) (by decide) (fun s H C cl fp => (dg_tup rfl (dgs_cons (dg_name 14 sc__law_fewest.nd) (dgs_cons (dg_name 15 sc__law_fewest.nd) dgs_nil)))) (fun s H C cl fp => dts_nil) (fun s H C cl fp => (d_var 14)))).e d_nil)) dlo_nil)) (lenO_cons (lenO_cons lenO_nil)) (by decide))
    (ds_cons (ds_par3 (i := 5) (j := 6) (l := 7) rfl sc__law_fewest.nd (dlo_val ((df_lst (d_cons (d_tup (d_cons d_int (d_cons d_int (d_cons d_int d_nil)))) d_nil))).e (dlo_val d_int (dlo_own (df_dnew true) dlo_nil))) (lenO_cons (lenO_cons (lenO_cons lenO_nil))) (by decide) (by decide) (by decide))
    (ds_one (ds_while (passes_of rfl) (dt_val d_bl) (ds_cons (ds_setOwn (i := 8) sc__law_fewest.nd (df_lst d_nil))
    (ds_cons (ds_for (passes_of rfl) rfl (di_seq (d_var 5)) (dg_tup rfl (dgs_cons (dg_name 9 sc__law_fewest.nd) (dgs_cons (dg_name 10 sc__law_fewest.nd) (dgs_cons (dg_name 11 sc__law_fewest.nd) dgs_nil))))
    (ds_cons (ds_set (i := 12) sc__law_fewest.nd (d_tup (d_cons (d_var 9) (d_cons (d_var 10) (d_cons (d_var 11) d_nil)))))
    (ds_cons (ds_while (passes_of rfl) ((dw_and (dt_cmp (od_lt (hu64 hu)) (d_ix (d_var 12) d_int (fun _ _ => rfl)) (d_callB cd_len T.n_len (by decide +kernel) (d_cons (d_var 3) d_nil))) (dw_and (dt_cmp (od_eq (hu64 hu)) (d_ix (d_ix (d_var 3) (d_ix (d_var 12) d_int (fun _ _ => rfl)) (fun _ _ => rfl)) d_int (fun _ _ => rfl)) (d_var 9)) (dw_and1 (dt_cmp (od_ge (hu64 hu)) (d_ix (d_var 12) d_int (fun _ _ => rfl)) (d_ix (d_ix (d_var 3) (d_ix (d_var 12) d_int (fun _ _ => rfl)) (fun _ _ => rfl)) d_int (fun _ _ => rfl))))))).dt (ds_one (ds_set (i := 12) sc__law_fewest.nd (d_tup (d_cons (d_var 9) (d_cons (d_op od_add (d_ix (d_var 12) d_int (fun _ _ => rfl)) d_int) (d_cons d_int d_nil)))))))
    (ds_cons (ds_if (dt_cmp (od_eq (hu64 hu)) (d_ix (d_var 12) d_int (fun _ _ => rfl)) (d_callB cd_len T.n_len (by decide +kernel) (d_cons (d_var 3) d_nil)))
    (ds_one (ds_ret (d_var 6)))
    ds_nil)
    (ds_one (ds_expr (d_meth (i := 8) PySem.F.plainAttrs_list PySem.F.slot_list_append PySem.F.type_list_append md_append (d_cons (d_var 12) d_nil))))))))
    (dss_frz [8] (ds_cons (ds_setOwn (i := 13) sc__law_fewest.nd (df_lst d_nil))
    (ds_cons (ds_for (passes_of rfl) rfl (di_seq (d_var 8)) (dg_tup rfl (dgs_cons (dg_name 9 sc__law_fewest.nd) (dgs_cons (dg_name 10 sc__law_fewest.nd) (dgs_cons (dg_name 11 sc__law_fewest.nd) dgs_nil))))
    (ds_one (ds_for (passes_of rfl) rfl (di_range2 T.n_range (d_cons (d_callB (cd_max2 rfl) T.n_max (by decide +kernel) (d_cons d_int (d_cons (d_op od_sub (d_var 9) (d_var 2)) d_nil))) (d_cons (d_op od_add (d_callB (cd_min2 rfl) T.n_min (by decide +kernel) (d_cons (d_var 4) (d_cons (d_op od_add (d_var 9) (d_var 1)) d_nil))) d_int) d_nil))) (dg_name 14 sc__law_fewest.nd)
    (ds_cons (ds_set (i := 12) sc__law_fewest.nd (d_tup (d_cons (d_var 14) (d_cons (d_var 10) (d_cons (d_ifE ((dw_and (dt_cmp (od_eq (hu64 hu)) (d_var 14) (d_var 9)) (dw_and1 (dt_cmp (od_eq (hu64 hu)) (d_var 9) (d_ix (d_ix (d_var 3) (d_var 10) (fun _ _ => rfl)) d_int (fun _ _ => rfl)))))).dt (d_op od_add (d_var 11) d_int) d_int) d_nil)))))
    (ds_one (ds_if (dt_frz (dt_dnotin (hu1 hu) exF (d_var 12) (d_var 7)))
    (ds_cons (ds_dput (i := 7) (hu1 hu) exF (d_var 12) d_int)
    (ds_one (ds_expr (d_meth (i := 13) PySem.F.plainAttrs_list PySem.F.slot_list_append PySem.F.type_list_append md_append (d_cons (d_var 12) d_nil)))))
    ds_nil))))))
    (dss_frz [13] (ds_one (ds_par2 (i := 5) (j := 6) rfl sc__law_fewest.nd (dlo_val (d_var 13) (dlo_val (d_op od_add (d_var 6) d_int) dlo_nil)) (lenO_cons (lenO_cons lenO_nil)) (by decide)))))))))))))
theorem sc_is_step : FnScope ["value"] ["value"] (defScope s_is_step) := ⟨rfl, rfl, rfl, by decide +kernel, rfl, by decide +kernel, by decide +kernel⟩
theorem ok_is_step {a_is_step : Addr} {fd_is_step : FuncData} {a_is_number : Addr} {fd_is_number : FuncData} (F : Fun K "is_step" "is_step" s_is_step a_is_step fd_is_step) (T : Tx K mg TC) (C_is_number : Cl K mg "is_number" a_is_number fd_is_number ["value", "least", "most"]) (G_is_number : FnOk P w K mg base (L2N.CX P w) 1 a_is_number fd_is_number ["value", "least", "most"] (spV K TC (offT TBs) F_is_number 3)) : FnOk P w K mg base (L2N.CX P w) 2 a_is_step fd_is_step ["value"] (spV K TC (offT TBs) F_is_step 1) :=
  fn_V F sc_is_step rfl (by decide) fun cdv A outer s H E hr => by
    have hu := room_hu hr
    exact (ds_cons (ds_if ((dw_or (dt_not (dt_val (d_isi (T := "tuple") (d_var 0) T.n_isinstance T.n_tuple (by decide +kernel)))) (dw_or (dt_cmp (od_ne (hu64 hu)) (d_callB cd_len T.n_len (by decide +kernel) (d_cons (d_var 0) d_nil)) d_int) (dw_or1 (dt_not (dt_val (d_callV G_is_number (hr.mono (by decide)) (L2N.takes_of rfl rfl rfl rfl) rfl C_is_number.g C_is_number.k C_is_number.b (d_cons (d_ix (d_var 0) d_int (fun _ _ => rfl)) (d_cons d_int (d_cons (d_globI T.c_MOST_HEAT_heatplans) d_nil))) (len_cons (len_cons (len_cons len_nil)))))))))).dt
    (ds_one (ds_ret d_bl))
    ds_nil)
    (ds_one (ds_ret (d_callV G_is_number (hr.mono (by decide)) (L2N.takes_of rfl rfl rfl rfl) rfl C_is_number.g C_is_number.k C_is_number.b (d_cons (d_ix (d_var 0) d_int (fun _ _ => rfl)) (d_cons d_int (d_cons (d_globI T.c_MOST_HOLD) d_nil))) (len_cons (len_cons (len_cons len_nil)))))))
theorem sc_is_plan : FnScope ["value", "one"] ["value"] (defScope s_is_plan) := ⟨rfl, rfl, rfl, by decide +kernel, rfl, by decide +kernel, by decide +kernel⟩
theorem ok_is_plan {a_is_plan : Addr} {fd_is_plan : FuncData} {a_is_step : Addr} {fd_is_step : FuncData} {c_is_plan P_is_plan : Addr} (F : FunC K "is_plan" "is_plan" s_is_plan a_is_plan fd_is_plan c_is_plan) (T : Tx K mg TC) (TB_is_plan : GxR.TabB base mg c_is_plan P_is_plan) (hT_is_plan : TBs P_is_plan) (C_is_step : Cl K mg "is_step" a_is_step fd_is_step ["value"]) (G_is_step : FnOk P w K mg base (L2N.CX P w) 2 a_is_step fd_is_step ["value"] (spV K TC (offT TBs) F_is_step 1)) : FnOk P w K mg base (L2N.CX P w) 4 a_is_plan fd_is_plan ["value"] (spV K TC (offT TBs) F_is_plan 1) :=
  fn_Vc F sc_is_plan rfl (by decide) fun A outer s H E hr => by
    have hu := room_hu hr
    exact (ds_one (ds_ret (d_and (d_isi (T := "tuple") (d_var 0) T.n_isinstance T.n_tuple (by decide +kernel)) (d_and (d_chain (od_le (hu64 hu)) (od_le (hu64 hu)) d_int (d_callB cd_len T.n_len (by decide +kernel) (d_cons (d_var 0) d_nil)) (d_globI T.c_MOST_STEPS)) (d_one (d_allG (k := 2) (own := [("one", 1)]) (hr.mono (by decide)) T.n_all TB_is_plan rfl (by exact .inr ⟨rfl, hT_is_plan⟩) ⟨blkOk_by (by kernel_rfl), rfl, by decide +kernel, rfl⟩ sc_is_plan.nd rfl (di_seq (d_var 0)) (by decide) (fun A s H cl C code fp pn hrA => have huA := room_hu hrA; (dg_name 1 sc_is_plan.nd)) (fun A s H cl C code fp pn hrA => have huA := room_hu hrA; dts_nil) (fun A s H cl C code fp pn hrA => have huA := room_hu hrA; (d_callV G_is_step (hrA.mono (by decide)) takesF rfl C_is_step.g C_is_step.k C_is_step.b (d_cons (d_var 1) d_nil) (len_cons len_nil)))))))))
theorem sc_law : FnScope ["script", "draws", "small", "up", "down", "plan", "rates", "due", "at", "whole", "heat", "hold", "way", "k", "odd", "one"] ["script"] (defScope s_law) := ⟨rfl, rfl, rfl, by decide +kernel, rfl, by decide +kernel, by decide +kernel⟩
theorem ok_law {a_law : Addr} {fd_law : FuncData} {a__law_draws : Addr} {fd__law_draws : FuncData} {a__law_take : Addr} {fd__law_take : FuncData} {a__law_same : Addr} {fd__law_same : FuncData} {a__law_cones : Addr} {fd__law_cones : FuncData} {a__law_plan : Addr} {fd__law_plan : FuncData} {a__law_heats : Addr} {fd__law_heats : FuncData} {a_heats_of_plan : Addr} {fd_heats_of_plan : FuncData} {a_hours_of_plan : Addr} {fd_hours_of_plan : FuncData} {a__law_fewest : Addr} {fd__law_fewest : FuncData} {a_is_plan : Addr} {fd_is_plan : FuncData} (F : Fun K "law" "law" s_law a_law fd_law) (T : Tx K mg TC) (C__law_draws : Cl K mg "_law_draws" a__law_draws fd__law_draws ["script"]) (G__law_draws : FnOk P w K mg base (L2N.CX P w) 1 a__law_draws fd__law_draws ["script"] (spV K TC (offT TBs) F__law_draws 1)) (C__law_take : Cl K mg "_law_take" a__law_take fd__law_take ["draws", "bound"]) (G__law_take : FnOk P w K mg base (L2N.CX P w) 1 a__law_take fd__law_take ["draws", "bound"] (spP K TC (offT TBs) F__law_take 2)) (C__law_same : Cl K mg "_law_same" a__law_same fd__law_same ["actual", "due"]) (G__law_same : FnOk P w K mg base (L2N.CX P w) 6 a__law_same fd__law_same ["actual", "due"] (spV K TC (offT TBs) F__law_same 2)) (C__law_cones : Cl K mg "_law_cones" a__law_cones fd__law_cones ["draws"]) (G__law_cones : FnOk P w K mg base (L2N.CX P w) 7 a__law_cones fd__law_cones ["draws"] (spP K TC (offT TBs) F__law_cones 1)) (C__law_plan : Cl K mg "_law_plan" a__law_plan fd__law_plan ["draws", "wide"]) (G__law_plan : FnOk P w K mg base (L2N.CX P w) 2 a__law_plan fd__law_plan ["draws", "wide"] (spP K TC (offT TBs) F__law_plan 2)) (C__law_heats : Cl K mg "_law_heats" a__law_heats fd__law_heats ["plan", "up", "down"]) (G__law_heats : FnOk P w K mg base (L2N.CX P w) 1 a__law_heats fd__law_heats ["plan", "up", "down"] (spV K TC (offT TBs) F__law_heats 3)) (C_heats_of_plan : Cl K mg "heats_of_plan" a_heats_of_plan fd_heats_of_plan ["plan", "rates"]) (G_heats_of_plan : FnOk P w K mg base (L2N.CX P w) 3 a_heats_of_plan fd_heats_of_plan ["plan", "rates"] (spV K TC (offT TBs) F_heats_of_plan 2)) (C_hours_of_plan : Cl K mg "hours_of_plan" a_hours_of_plan fd_hours_of_plan ["plan", "rates"]) (G_hours_of_plan : FnOk P w K mg base (L2N.CX P w) 4 a_hours_of_plan fd_hours_of_plan ["plan", "rates"] (spV K TC (offT TBs) F_hours_of_plan 2)) (C__law_fewest : Cl K mg "_law_fewest" a__law_fewest fd__law_fewest ["plan", "up", "down"]) (G__law_fewest : FnOk P w K mg base (L2N.CX P w) 1 a__law_fewest fd__law_fewest ["plan", "up", "down"] (spV K TC (offT TBs) F__law_fewest 3)) (C_is_plan : Cl K mg "is_plan" a_is_plan fd_is_plan ["value"]) (G_is_plan : FnOk P w K mg base (L2N.CX P w) 4 a_is_plan fd_is_plan ["value"] (spV K TC (offT TBs) F_is_plan 1)) : FnOk P w K mg base (L2N.CX P w) 8 a_law fd_law ["script"] (spV K TC (offT TBs) F_law 1) :=
  fn_V F sc_law rfl (by decide) fun cdv A outer s H E hr => by
    have hu := room_hu hr
    exact (ds_cons (ds_setOwn (i := 1) sc_law.nd (df_callO G__law_draws (hr.mono (by decide)) (L2N.takes_of rfl rfl rfl rfl) rfl C__law_draws.g C__law_draws.k C__law_draws.b (d_cons (d_var 0) d_nil) (len_cons len_nil)))
    (ds_cons (ds_if (dt_not (dt_val (d_callP (i := 1) G__law_cones (hr.mono (by decide)) (L2N.takes_of rfl rfl rfl rfl) rfl C__law_cones.g C__law_cones.k C__law_cones.b d_nil len_nil)))
    (ds_one (ds_ret d_bl))
    ds_nil)
    (ds_cons (ds_par3 (i := 2) (j := 3) (l := 4) rfl sc_law.nd (dlo_val (d_callP (i := 1) G__law_plan (hr.mono (by decide)) (L2N.takes_of rfl rfl rfl rfl) rfl C__law_plan.g C__law_plan.k C__law_plan.b (d_cons d_int d_nil) (len_cons len_nil)) (dlo_val (d_op od_add d_int (d_callP (i := 1) G__law_take (hr.mono (by decide)) (L2N.takes_of rfl rfl rfl rfl) rfl C__law_take.g C__law_take.k C__law_take.b (d_cons d_int d_nil) (len_cons len_nil))) (dlo_val (d_op od_add d_int (d_callP (i := 1) G__law_take (hr.mono (by decide)) (L2N.takes_of rfl rfl rfl rfl) rfl C__law_take.g C__law_take.k C__law_take.b (d_cons d_int d_nil) (len_cons len_nil))) dlo_nil))) (lenO_cons (lenO_cons (lenO_cons lenO_nil))) (by decide) (by decide) (by decide))
    (ds_cons (ds_set (i := 2) sc_law.nd (d_callTy cd_tuple T.n_tuple (by decide +kernel) (d_cons ((df_lc (own := [("heat", 10), ("hold", 11)]) rfl sc_law.nd (di_seq (d_slice (d_var 2) do_none (do_some d_int))) (blkOk_by (by kernel_rfl)) (by decide) (fun s H C cl fp => (dg_tup rfl (dgs_cons (dg_name 10 sc_law.nd) (dgs_cons (dg_name 11 sc_law.nd) dgs_nil)))) (fun s H C cl fp => dts_nil) (fun s H C cl fp => (d_tup (d_cons (d_var 10) (d_cons (d_callB (cd_min2 rfl) T.n_min (by decide +kernel) (d_cons (d_var 11) (d_cons d_int d_nil))) d_nil)))))).e d_nil)))
    (ds_cons (ds_if (dt_not (dt_val (d_callV G__law_same (hr.mono (by decide)) (L2N.takes_of rfl rfl rfl rfl) rfl C__law_same.g C__law_same.k C__law_same.b (d_cons (d_callV G_hours_of_plan (hr.mono (by decide)) (L2N.takes_of rfl rfl rfl rfl) rfl C_hours_of_plan.g C_hours_of_plan.k C_hours_of_plan.b (d_cons (d_var 2) (d_cons (d_tup (d_cons (d_var 3) (d_cons (d_var 4) d_nil))) d_nil)) (len_cons (len_cons len_nil))) (d_cons (d_callV G__law_fewest (hr.mono (by decide)) (L2N.takes_of rfl rfl rfl rfl) rfl C__law_fewest.g C__law_fewest.k C__law_fewest.b (d_cons (d_var 2) (d_cons (d_var 3) (d_cons (d_var 4) d_nil))) (len_cons (len_cons (len_cons len_nil)))) d_nil)) (len_cons (len_cons len_nil)))))
    (ds_one (ds_ret d_bl))
    ds_nil)
    (ds_cons (ds_par2 (i := 5) (j := 6) rfl sc_law.nd (dlo_val (d_callP (i := 1) G__law_plan (hr.mono (by decide)) (L2N.takes_of rfl rfl rfl rfl) rfl C__law_plan.g C__law_plan.k C__law_plan.b (d_cons (d_ix ((df_lst (d_cons d_int (d_cons d_int d_nil)))).e (d_callP (i := 1) G__law_take (hr.mono (by decide)) (L2N.takes_of rfl rfl rfl rfl) rfl C__law_take.g C__law_take.k C__law_take.b (d_cons d_int d_nil) (len_cons len_nil)) (fun _ _ => rfl)) d_nil) (len_cons len_nil)) (dlo_val (d_tup (d_cons (d_op od_add d_int (d_callP (i := 1) G__law_take (hr.mono (by decide)) (L2N.takes_of rfl rfl rfl rfl) rfl C__law_take.g C__law_take.k C__law_take.b (d_cons (d_ix ((df_lst (d_cons d_int (d_cons d_int d_nil)))).e (d_callP (i := 1) G__law_take (hr.mono (by decide)) (L2N.takes_of rfl rfl rfl rfl) rfl C__law_take.g C__law_take.k C__law_take.b (d_cons d_int d_nil) (len_cons len_nil)) (fun _ _ => rfl)) d_nil) (len_cons len_nil))) (d_cons (d_op od_add d_int (d_callP (i := 1) G__law_take (hr.mono (by decide)) (L2N.takes_of rfl rfl rfl rfl) rfl C__law_take.g C__law_take.k C__law_take.b (d_cons (d_ix ((df_lst (d_cons d_int (d_cons d_int d_nil)))).e (d_callP (i := 1) G__law_take (hr.mono (by decide)) (L2N.takes_of rfl rfl rfl rfl) rfl C__law_take.g C__law_take.k C__law_take.b (d_cons d_int d_nil) (len_cons len_nil)) (fun _ _ => rfl)) d_nil) (len_cons len_nil))) d_nil))) dlo_nil)) (lenO_cons (lenO_cons lenO_nil)) (by decide))
    (ds_cons (ds_par3 (i := 7) (j := 8) (l := 9) rfl sc_law.nd (dlo_val (d_callV G__law_heats (hr.mono (by decide)) (L2N.takes_of rfl rfl rfl rfl) rfl C__law_heats.g C__law_heats.k C__law_heats.b (d_cons (d_var 5) (d_cons (d_ix (d_var 6) d_int (fun _ _ => rfl)) (d_cons (d_ix (d_var 6) d_int (fun _ _ => rfl)) d_nil))) (len_cons (len_cons (len_cons len_nil)))) (dlo_val d_int (dlo_val d_int dlo_nil))) (lenO_cons (lenO_cons (lenO_cons lenO_nil))) (by decide) (by decide) (by decide))
    (ds_cons (ds_for (passes_of rfl) rfl (di_seq (d_var 5)) (dg_tup rfl (dgs_cons (dg_name 10 sc_law.nd) (dgs_cons (dg_name 11 sc_law.nd) dgs_nil)))
    (ds_cons (ds_set (i := 12) sc_law.nd (d_op od_sub (d_var 10) (d_var 8)))
    (ds_cons (ds_set (i := 9) sc_law.nd (d_op od_add (d_op od_add (d_var 9) (d_var 11)) (d_ifE (dt_cmp (od_gt (hu64 hu)) (d_var 12) d_int) (d_op od_fdiv (d_op od_sub (d_op od_add (d_var 12) (d_ix (d_var 6) d_int (fun _ _ => rfl))) d_int) (d_ix (d_var 6) d_int (fun _ _ => rfl))) (d_op od_fdiv (d_op od_sub (d_op od_sub (d_ix (d_var 6) d_int (fun _ _ => rfl)) (d_var 12)) d_int) (d_ix (d_var 6) d_int (fun _ _ => rfl))))))
    (ds_one (ds_set (i := 8) sc_law.nd (d_var 10))))))
    (ds_cons (ds_if ((dw_or (dt_cmp od_notB (d_callV G_is_plan (hr.mono (by decide)) (L2N.takes_of rfl rfl rfl rfl) rfl C_is_plan.g C_is_plan.k C_is_plan.b (d_cons (d_var 5) d_nil) (len_cons len_nil)) d_bl) (dw_or (dt_not (dt_val (d_callV G__law_same (hr.mono (by decide)) (L2N.takes_of rfl rfl rfl rfl) rfl C__law_same.g C__law_same.k C__law_same.b (d_cons ((df_lst (d_cons (d_callV G_heats_of_plan (hr.mono (by decide)) (L2N.takes_of rfl rfl rfl rfl) rfl C_heats_of_plan.g C_heats_of_plan.k C_heats_of_plan.b (d_cons (d_var 5) (d_cons (d_var 6) d_nil)) (len_cons (len_cons len_nil))) (d_cons (d_callV G_hours_of_plan (hr.mono (by decide)) (L2N.takes_of rfl rfl rfl rfl) rfl C_hours_of_plan.g C_hours_of_plan.k C_hours_of_plan.b (d_cons (d_var 5) (d_cons (d_var 6) d_nil)) (len_cons (len_cons len_nil))) d_nil)))).e (d_cons ((df_lst (d_cons (d_var 7) (d_cons (d_callB cd_len T.n_len (by decide +kernel) (d_cons (d_var 7) d_nil)) d_nil)))).e d_nil)) (len_cons (len_cons len_nil))))) (dw_or1 (dt_cmp (od_ne (hu64 hu)) (d_callB cd_len T.n_len (by decide +kernel) (d_cons (d_var 7) d_nil)) (d_var 9)))))).dt
    (ds_one (ds_ret d_bl))
    ds_nil)
    (ds_cons (ds_if ((dw_or (dt_cmp (od_gt (hu64 hu)) (d_callV G_hours_of_plan (hr.mono (by decide)) (L2N.takes_of rfl rfl rfl rfl) rfl C_hours_of_plan.g C_hours_of_plan.k C_hours_of_plan.b (d_cons (d_var 5) (d_cons (d_tup (d_cons (d_callB (cd_min2 rfl) T.n_min (by decide +kernel) (d_cons d_int (d_cons (d_op od_add (d_ix (d_var 6) d_int (fun _ _ => rfl)) d_int) d_nil))) (d_cons (d_ix (d_var 6) d_int (fun _ _ => rfl)) d_nil))) d_nil)) (len_cons (len_cons len_nil))) (d_var 9)) (dw_or1 (dt_cmp (od_gt (hu64 hu)) (d_callV G_hours_of_plan (hr.mono (by decide)) (L2N.takes_of rfl rfl rfl rfl) rfl C_hours_of_plan.g C_hours_of_plan.k C_hours_of_plan.b (d_cons (d_var 5) (d_cons (d_tup (d_cons (d_ix (d_var 6) d_int (fun _ _ => rfl)) (d_cons (d_callB (cd_min2 rfl) T.n_min (by decide +kernel) (d_cons d_int (d_cons (d_op od_add (d_ix (d_var 6) d_int (fun _ _ => rfl)) d_int) d_nil))) d_nil))) d_nil)) (len_cons (len_cons len_nil))) (d_var 9))))).dt
    (ds_one (ds_ret d_bl))
    ds_nil)
    (ds_cons (ds_set (i := 13) sc_law.nd (d_callP (i := 1) G__law_take (hr.mono (by decide)) (L2N.takes_of rfl rfl rfl rfl) rfl C__law_take.g C__law_take.k C__law_take.b (d_cons (d_callB cd_len T.n_len (by decide +kernel) (d_cons (d_var 5) d_nil)) d_nil) (len_cons len_nil)))
    (dss_frz [1] (ds_cons (ds_if ((dw_and (dt_cmp (od_lt (hu64 hu)) (d_var 13) (d_op od_sub (d_callB cd_len T.n_len (by decide +kernel) (d_cons (d_var 5) d_nil)) d_int)) (dw_and1 (dt_cmp (od_gt (hu64 hu)) (d_callV G_hours_of_plan (hr.mono (by decide)) (L2N.takes_of rfl rfl rfl rfl) rfl C_hours_of_plan.g C_hours_of_plan.k C_hours_of_plan.b (d_cons (d_op od_add (d_slice (d_var 5) do_none (do_some (d_var 13))) (d_slice (d_var 5) (do_some (d_op od_add (d_var 13) d_int)) do_none)) (d_cons (d_var 6) d_nil)) (len_cons (len_cons len_nil))) (d_var 9))))).dt
    (ds_one (ds_ret d_bl))
    ds_nil)
    (ds_cons (ds_set (i := 14) sc_law.nd ((df_lst (d_cons (d_tup d_nil) (d_cons (d_callTy cd_list T.n_list (by decide +kernel) (d_cons (d_var 5) d_nil)) (d_cons (d_op od_mul (d_tup (d_cons (d_tup (d_cons d_int (d_cons d_int d_nil))) d_nil)) d_int) (d_cons (d_tup (d_cons (d_tup (d_cons (d_un od_neg d_int) (d_cons d_int d_nil))) d_nil)) (d_cons (d_tup (d_cons (d_tup (d_cons d_int (d_cons d_int d_nil))) d_nil)) (d_cons (d_tup (d_cons (d_tup (d_cons d_int (d_cons (d_un od_neg d_int) d_nil))) d_nil)) (d_cons (d_tup (d_cons (d_tup (d_cons d_int (d_cons d_int d_nil))) d_nil)) (d_cons (d_tup (d_cons (d_tup (d_cons d_int d_nil)) d_nil)) (d_cons (d_tup (d_cons (d_tup (d_cons d_int (d_cons d_int (d_cons d_int d_nil)))) d_nil)) (d_cons (d_tup (d_cons ((df_lst (d_cons d_int (d_cons d_int d_nil)))).e d_nil)) (d_cons (d_tup (d_cons d_non d_nil)) (d_cons (d_tup (d_cons (d_tup (d_cons d_non (d_cons d_int d_nil))) d_nil)) (d_cons (d_tup (d_cons (d_tup (d_cons d_int (d_cons d_bl d_nil))) d_nil)) (d_cons d_non (d_cons d_str d_nil))))))))))))))))).e)
    (ds_one (ds_ret (d_cmp (od_eq (hu64 hu)) ((df_lc (own := [("one", 15)]) rfl sc_law.nd (di_seq (d_var 14)) (blkOk_by (by kernel_rfl)) (by decide) (fun s H C cl fp => (dg_name 15 sc_law.nd)) (fun s H C cl fp => (dts_one (dt_cmp od_notB (d_callV G_is_plan (hr.mono (by decide)) takesF rfl C_is_plan.g C_is_plan.k C_is_plan.b (d_cons (d_var 15) d_nil) (len_cons len_nil)) d_bl))) (fun s H C cl fp => (d_var 15)))).e ((df_lst d_nil)).e)))))))))))))))))
end
end K26
end
section
set_option Elab.async false
set_option linter.all false
set_option maxRecDepth 100000
set_option maxHeartbeats 1000000
/-! k26: plans of heats, and the cones. Nothing of the program. -/
namespace K26
/-! ### ways -/
def way (up dn a b : Nat) : Nat := if a < b then (b - a + up - 1) / up else (a - b + dn - 1) / dn
theorem cdiv {x u n : Nat} (hu : 0 < u) : (x + u - 1) / u ≤ n ↔ x ≤ n * u := by
  rw [Nat.div_le_iff_le_mul_add_pred hu, Nat.mul_comm u n]
  omega
theorem way_le {up dn a b n : Nat} (hu : 0 < up) (hd : 0 < dn) : way up dn a b ≤ n ↔ b ≤ a + n * up ∧ a ≤ b + n * dn := by
  unfold way
  by_cases c : a < b
  · rw [if_pos c, cdiv hu]
    omega
  · rw [if_neg c, cdiv hd]
    omega
theorem way_self {up dn a : Nat} (hu : 0 < up) (hd : 0 < dn) : way up dn a a = 0 := Nat.le_zero.mp ((way_le hu hd).mpr ⟨by omega, by omega⟩)
theorem way_pos {up dn a b : Nat} (hu : 0 < up) (hd : 0 < dn) (h : a ≠ b) : 0 < way up dn a b := by
  rcases Nat.eq_zero_or_pos (way up dn a b) with z | z
  · have := (way_le (n := 0) hu hd).mp (Nat.le_of_eq z)
    omega
  · exact z
theorem way_tri {up dn : Nat} (hu : 0 < up) (hd : 0 < dn) (a b c : Nat) : way up dn a c ≤ way up dn a b + way up dn b c := by
  obtain ⟨h1, h2⟩ := (way_le (a := a) (b := b) hu hd).mp (Nat.le_refl _)
  obtain ⟨h3, h4⟩ := (way_le (a := b) (b := c) hu hd).mp (Nat.le_refl _)
  refine (way_le hu hd).mpr ⟨?_, ?_⟩
  · rw [Nat.add_mul]; omega
  · rw [Nat.add_mul]; omega
theorem way_rates {up dn up' dn' a b : Nat} (hu : 0 < up) (hd : 0 < dn) (h1 : up ≤ up') (h2 : dn ≤ dn') : way up' dn' a b ≤ way up dn a b := by
  obtain ⟨h3, h4⟩ := (way_le (a := a) (b := b) hu hd).mp (Nat.le_refl _)
  have := Nat.mul_le_mul_left (way up dn a b) h1
  have := Nat.mul_le_mul_left (way up dn a b) h2
  exact (way_le (by omega) (by omega)).mpr ⟨by omega, by omega⟩
def nxt (up dn a b : Nat) : Nat := if a < b then min b (a + up) else max b (a - dn)
theorem nxt_le {up dn a b n : Nat} (hu : 0 < up) (hd : 0 < dn) (h : a ≠ b) : way up dn (nxt up dn a b) b ≤ n ↔ way up dn a b ≤ n + 1 := by
  rw [way_le hu hd, way_le hu hd, Nat.add_mul, Nat.add_mul]
  unfold nxt
  by_cases c : a < b
  · rw [if_pos c]
    omega
  · rw [if_neg c]
    omega
theorem way_nxt {up dn a b : Nat} (hu : 0 < up) (hd : 0 < dn) (h : a ≠ b) : way up dn a b = way up dn (nxt up dn a b) b + 1 := by
  have h1 := (nxt_le (n := way up dn (nxt up dn a b) b) hu hd h).mp (Nat.le_refl _)
  have h2 := way_pos hu hd h
  have h3 := (nxt_le (n := way up dn a b - 1) hu hd h).mpr (by omega)
  omega
def pth (up dn : Nat) : Nat → Nat → Nat → List Nat
  | 0, _, _ => []
  | n + 1, a, b => nxt up dn a b :: pth up dn n (nxt up dn a b) b
theorem pth_len (up dn : Nat) : ∀ n a b, (pth up dn n a b).length = n
  | 0, _, _ => rfl
  | n + 1, a, b => by
    show (pth up dn n _ b).length + 1 = _
    rw [pth_len up dn n]
abbrev Plan := List (Nat × Nat)
def tot (up dn : Nat) : Nat → Plan → Nat
  | _, [] => 0
  | a, (h, k) :: r => way up dn a h + k + tot up dn h r
def hts (up dn : Nat) : Nat → Plan → List Nat
  | _, [] => []
  | a, (h, k) :: r => pth up dn (way up dn a h) a h ++ (List.replicate k h ++ hts up dn h r)
theorem hts_len (up dn : Nat) : ∀ (p : Plan) (a : Nat), (hts up dn a p).length = tot up dn a p
  | [], _ => rfl
  | (h, k) :: r, a => by
    show (pth up dn (way up dn a h) a h ++ (List.replicate k h ++ hts up dn h r)).length = way up dn a h + k + tot up dn h r
    rw [List.length_append, List.length_append, pth_len, List.length_replicate, hts_len up dn r h]
    omega
theorem tot_rates {up dn up' dn' : Nat} (hu : 0 < up) (hd : 0 < dn) (h1 : up ≤ up') (h2 : dn ≤ dn') : ∀ (p : Plan) (a : Nat), tot up' dn' a p ≤ tot up dn a p
  | [], _ => Nat.le_refl _
  | (h, k) :: r, a => by
    have := tot_rates hu hd h1 h2 r h
    have := way_rates (a := a) (b := h) hu hd h1 h2
    show way up' dn' a h + k + tot up' dn' h r ≤ way up dn a h + k + tot up dn h r
    omega
theorem tot_drop {up dn : Nat} (hu : 0 < up) (hd : 0 < dn) : ∀ (p : Plan) (a j : Nat), j + 1 < p.length → tot up dn a (p.take j ++ p.drop (j + 1)) ≤ tot up dn a p
  | [], _, _, h => by simp at h
  | [_], _, _, h => by simp at h
  | (h1, k1) :: (h2, k2) :: r, a, 0, _ => by
    have := way_tri hu hd a h1 h2
    show way up dn a h2 + k2 + tot up dn h2 r ≤ way up dn a h1 + k1 + (way up dn h1 h2 + k2 + tot up dn h2 r)
    omega
  | (h1, k1) :: (h2, k2) :: r, a, j + 1, h => by
    have := tot_drop hu hd ((h2, k2) :: r) h1 j (by simpa using h)
    show way up dn a h1 + k1 + tot up dn h1 (((h2, k2) :: r).take j ++ ((h2, k2) :: r).drop (j + 1)) ≤ way up dn a h1 + k1 + tot up dn h1 ((h2, k2) :: r)
    omega
/-! ### what is left -/
abbrev St := Nat × Nat × Nat
def phi (up dn a held : Nat) : Plan → Nat
  | [] => 0
  | (h, k) :: r => (if a = h then k - held else way up dn a h + k) + tot up dn h r
theorem phi_zero {up dn a : Nat} (hu : 0 < up) (hd : 0 < dn) (L : Plan) : phi up dn a 0 L = tot up dn a L := by
  cases L with
  | nil => rfl
  | cons q r =>
    obtain ⟨h, k⟩ := q
    show (if a = h then k - 0 else way up dn a h + k) + tot up dn h r = way up dn a h + k + tot up dn h r
    by_cases c : a = h
    · subst c; rw [if_pos rfl, way_self hu hd]; omega
    · rw [if_neg c]
def adv (a : Nat) : Plan → Nat → Nat → Nat × Nat
  | [], s, held => (s, held)
  | (h, k) :: r, s, held => if h = a ∧ k ≤ held then adv a r (s + 1) 0 else (s, held)
def phS (up dn : Nat) (p : Plan) (x : St) : Nat := phi up dn x.1 x.2.2 (p.drop x.2.1)
def advS (p : Plan) (x : St) : St := (x.1, adv x.1 (p.drop x.2.1) x.2.1 x.2.2)
theorem drop_succ {p : Plan} {s : Nat} {q : Nat × Nat} {r : Plan} (h : p.drop s = q :: r) : p.drop (s + 1) = r ∧ s < p.length ∧ p[s]? = some q := by
  refine ⟨?_, ?_, ?_⟩
  · rw [← List.drop_drop, h]; rfl
  · rcases Nat.lt_or_ge s p.length with c | c
    · exact c
    · rw [List.drop_eq_nil_of_le c] at h; cases h
  · have := List.getElem?_drop (xs := p) (i := s) (j := 0)
    rw [h] at this
    simpa using this.symm
theorem adv_phi {up dn a : Nat} (hu : 0 < up) (hd : 0 < dn) {p : Plan} : ∀ (L : Plan) (s held : Nat), p.drop s = L → s ≤ p.length →
    phi up dn a (adv a L s held).2 (p.drop (adv a L s held).1) = phi up dn a held L ∧ s ≤ (adv a L s held).1 ∧ (adv a L s held).1 ≤ p.length ∧ (held ≤ 2 → (adv a L s held).2 ≤ 2) ∧
      ((adv a L s held).1 < p.length → ∃ h k r, p.drop (adv a L s held).1 = (h, k) :: r ∧ ¬ (h = a ∧ k ≤ (adv a L s held).2))
  | [], s, held, hp, hs => by
    have : p.length ≤ s := List.drop_eq_nil_iff.mp hp
    refine ⟨by show phi up dn a held (p.drop s) = _; rw [hp], Nat.le_refl _, hs, id, fun z => ?_⟩
    have z : s < p.length := z
    omega
  | (h, k) :: r, s, held, hp, hs => by
    obtain ⟨d1, d2, d3⟩ := drop_succ hp
    unfold adv
    by_cases c : h = a ∧ k ≤ held
    · rw [if_pos c]
      obtain ⟨i1, i2, i3, i4, i5⟩ := adv_phi hu hd (a := a) r (s + 1) 0 d1 d2
      refine ⟨?_, by omega, i3, fun _ => i4 (by omega), i5⟩
      rw [i1, phi_zero hu hd]
      obtain ⟨rfl, c2⟩ := c
      show tot up dn h r = (if h = h then k - held else way up dn h h + k) + tot up dn h r
      rw [if_pos rfl]
      omega
    · rw [if_neg c]
      exact ⟨by rw [hp], Nat.le_refl _, hs, id, fun _ => ⟨h, k, r, hp, c⟩⟩
/-- one hour -/
def hold (p : Plan) (x : St) (t : Nat) : Nat := if t = x.1 ∧ some x.1 = (p[x.2.1]?).map (·.1) then x.2.2 + 1 else 0
def succs (up dn tp : Nat) (p : Plan) (x : St) : List St := (List.range' (x.1 - dn) (min tp (x.1 + up) + 1 - (x.1 - dn))).map fun t => (t, x.2.1, hold p x t)
theorem phi_low {up dn a held t : Nat} (hu : 0 < up) (hd : 0 < dn) {h k : Nat} {r : Plan} (h1 : t ≤ a + up) (h2 : a ≤ t + dn) : phi up dn a held ((h, k) :: r) ≤ phi up dn t (if t = a ∧ a = h then held + 1 else 0) ((h, k) :: r) + 1 := by
  have w1 : way up dn a t ≤ 1 := (way_le hu hd).mpr ⟨by omega, by omega⟩
  have w2 := way_tri hu hd a t h
  have w3 := way_tri hu hd t a h
  show (if a = h then k - held else way up dn a h + k) + tot up dn h r ≤ (if t = h then k - (if t = a ∧ a = h then held + 1 else 0) else way up dn t h + k) + tot up dn h r + 1
  by_cases c : a = h
  · subst c
    rw [if_pos rfl]
    by_cases c2 : t = a
    · rw [if_pos c2, if_pos ⟨c2, rfl⟩]; omega
    · rw [if_neg c2]; omega
  · rw [if_neg c]
    by_cases c2 : t = h
    · subst c2
      rw [if_pos rfl, if_neg (fun z => c z.2)]
      omega
    · rw [if_neg c2]; omega
theorem phi_hit {up dn tp a held : Nat} (hu : 0 < up) (hd : 0 < dn) {h k : Nat} {r : Plan} (ha : a ≤ tp) (hh : h ≤ tp) (hn : ¬ (h = a ∧ k ≤ held)) : ∃ t, a - dn ≤ t ∧ t ≤ min tp (a + up) ∧ phi up dn a held ((h, k) :: r) = phi up dn t (if t = a ∧ a = h then held + 1 else 0) ((h, k) :: r) + 1 := by
  by_cases c : a = h
  · subst c
    have : held < k := by
      rcases Nat.lt_or_ge held k with z | z
      · exact z
      · exact absurd ⟨rfl, z⟩ hn
    refine ⟨a, by omega, by omega, ?_⟩
    show (if a = a then k - held else way up dn a a + k) + tot up dn a r = (if a = a then k - (if a = a ∧ a = a then held + 1 else 0) else way up dn a a + k) + tot up dn a r + 1
    rw [if_pos rfl, if_pos rfl, if_pos ⟨rfl, rfl⟩]
    omega
  · have e := way_nxt hu hd c
    refine ⟨nxt up dn a h, ?_, ?_, ?_⟩
    · unfold nxt; split <;> omega
    · unfold nxt; split <;> omega
    · show (if a = h then k - held else way up dn a h + k) + tot up dn h r = (if nxt up dn a h = h then k - (if nxt up dn a h = a ∧ a = h then held + 1 else 0) else way up dn (nxt up dn a h) h + k) + tot up dn h r + 1
      rw [if_neg c, if_neg (show ¬ (nxt up dn a h = a ∧ a = h) from fun z => c z.2), e]
      by_cases c2 : nxt up dn a h = h
      · rw [if_pos c2, c2, way_self hu hd]; omega
      · rw [if_neg c2]; omega
/-! ### what is new -/
def news (S : List St) : List St → List St
  | [] => []
  | y :: ys => if y ∈ S then news S ys else y :: news (S ++ [y]) ys
theorem news_mem : ∀ {ys S : List St} {y : St}, y ∈ news S ys → y ∈ ys ∧ y ∉ S
  | [], _, _, h => by cases h
  | z :: ys, S, y, h => by
    unfold news at h
    by_cases c : z ∈ S
    · rw [if_pos c] at h
      obtain ⟨h1, h2⟩ := news_mem h
      exact ⟨List.mem_cons_of_mem _ h1, h2⟩
    · rw [if_neg c] at h
      rcases List.mem_cons.mp h with rfl | h
      · exact ⟨List.mem_cons_self, c⟩
      · obtain ⟨h1, h2⟩ := news_mem h
        exact ⟨List.mem_cons_of_mem _ h1, fun z => h2 (List.mem_append_left _ z)⟩
theorem news_all : ∀ {ys S : List St} {y : St}, y ∈ ys → y ∈ S ∨ y ∈ news S ys
  | z :: ys, S, y, h => by
    unfold news
    by_cases c : z ∈ S
    · rw [if_pos c]
      rcases List.mem_cons.mp h with rfl | h
      · exact .inl c
      · exact news_all h
    · rw [if_neg c]
      rcases List.mem_cons.mp h with rfl | h
      · exact .inr List.mem_cons_self
      · rcases news_all (S := S ++ [z]) h with z | z
        · rcases List.mem_append.mp z with z | z
          · exact .inl z
          · rw [List.mem_singleton] at z
            subst z
            exact .inr List.mem_cons_self
        · exact .inr (List.mem_cons_of_mem _ z)
theorem news_nodup : ∀ {ys S : List St}, S.Nodup → (S ++ news S ys).Nodup
  | [], S, h => by show (S ++ []).Nodup; rw [List.append_nil]; exact h
  | z :: ys, S, h => by
    unfold news
    by_cases c : z ∈ S
    · rw [if_pos c]; exact news_nodup h
    · rw [if_neg c]
      have : (S ++ [z]).Nodup := by
        rw [List.nodup_append]
        refine ⟨h, by simp, fun a ha b hb => ?_⟩
        rw [List.mem_singleton] at hb
        rintro rfl
        exact c (hb ▸ ha)
      have := news_nodup (ys := ys) this
      rw [List.append_assoc] at this
      exact this
theorem nodup_le : ∀ (M : Nat) (l : List Nat), l.Nodup → (∀ x ∈ l, x < M) → l.length ≤ M
  | 0, l, _, h => by
    cases l with
    | nil => exact Nat.le_refl _
    | cons x r => exact absurd (h x List.mem_cons_self) (by omega)
  | M + 1, l, hn, h => by
    have h1 := nodup_le M (l.erase M) (hn.erase M) fun x hx => by
      have h2 := h x (List.mem_of_mem_erase hx)
      have h3 : x ≠ M := by
        rintro rfl
        exact (List.Nodup.not_mem_erase hn) hx
      omega
    by_cases c : M ∈ l
    · rw [List.length_erase_of_mem c] at h1; omega
    · rw [List.erase_of_not_mem c] at h1; omega
def vld (tp : Nat) (p : Plan) (y : St) : Prop := y.1 ≤ tp ∧ y.2.1 < p.length ∧ y.2.2 ≤ 2
theorem few {tp : Nat} {p : Plan} {S : List St} (ht : tp ≤ 8) (hp : p.length ≤ 3) (hn : S.Nodup) (hv : ∀ y ∈ S, vld tp p y) : S.length ≤ 81 := by
  have h := nodup_le 81 (S.map fun y => y.1 * 9 + y.2.1 * 3 + y.2.2) (by
    refine List.pairwise_map.mpr (hn.imp_of_mem fun {a b} ha hb hab e => hab ?_)
    obtain ⟨a1, a2, a3⟩ := hv a ha
    obtain ⟨b1, b2, b3⟩ := hv b hb
    obtain ⟨x, y, z⟩ := a
    obtain ⟨x', y', z'⟩ := b
    dsimp only at *
    have : x = x' := by omega
    have : y = y' := by omega
    have : z = z' := by omega
    subst_vars
    rfl) (by
    intro x hx
    obtain ⟨y, hy, rfl⟩ := List.mem_map.mp hx
    obtain ⟨h1, h2, h3⟩ := hv y hy
    show y.1 * 9 + y.2.1 * 3 + y.2.2 < 81
    omega)
  rwa [List.length_map] at h
/-! ### the search, hour by hour -/
structure Bf (up dn tp : Nat) (p : Plan) (t : Nat) (E S : List St) : Prop where
  val : ∀ x ∈ E, vld tp p x
  low : ∀ x ∈ E, tot up dn 0 p ≤ phS up dn p x + t
  hit : ∃ x ∈ E, phS up dn p x + t = tot up dn 0 p
  vs : ∀ y ∈ S, vld tp p y
  ls : ∀ y ∈ S, tot up dn 0 p ≤ phS up dn p y + t
  nd : S.Nodup
  le : t ≤ tot up dn 0 p
  el : E.length ≤ 81
theorem phS_adv {up dn tp : Nat} (hu : 0 < up) (hd : 0 < dn) {p : Plan} {x : St} (hx : vld tp p x) : phS up dn p (advS p x) = phS up dn p x ∧ (advS p x).2.1 ≤ p.length ∧ (advS p x).2.2 ≤ 2 ∧ ((advS p x).2.1 < p.length → ∃ h k r, p.drop (advS p x).2.1 = (h, k) :: r ∧ ¬ (h = x.1 ∧ k ≤ (advS p x).2.2)) := by
  obtain ⟨h1, h2, h3, h4, h5⟩ := adv_phi hu hd (a := x.1) (p := p) (p.drop x.2.1) x.2.1 x.2.2 rfl (Nat.le_of_lt hx.2.1)
  exact ⟨h1, h3, h4 hx.2.2, h5⟩
theorem phS_fin {up dn : Nat} {p : Plan} {x : St} (h : x.2.1 = p.length) : phS up dn p x = 0 := by
  unfold phS
  rw [h, List.drop_length]
  rfl
/-- who is there, is there in time -/
theorem bf_fin {up dn tp t : Nat} (hu : 0 < up) (hd : 0 < dn) {p : Plan} {E S : List St} (b : Bf up dn tp p t E S) {x : St} (hx : x ∈ E) (hf : (advS p x).2.1 = p.length) : t = tot up dn 0 p := by
  have h1 := (phS_adv hu hd (b.val x hx)).1
  rw [phS_fin hf] at h1
  have := b.low x hx
  have := b.le
  omega
theorem hold_eq {p : Plan} {x : St} {t h k : Nat} {r : Plan} (e : p.drop x.2.1 = (h, k) :: r) : hold p x t = if t = x.1 ∧ x.1 = h then x.2.2 + 1 else 0 := by
  unfold hold
  rw [(drop_succ e).2.2]
  have : (some x.1 = Option.map (fun q : Nat × Nat => q.1) (some (h, k))) ↔ x.1 = h := ⟨fun z => by injection z, fun z => by rw [z]; rfl⟩
  by_cases c : t = x.1 ∧ x.1 = h
  · rw [if_pos c, if_pos ⟨c.1, this.mpr c.2⟩]
  · rw [if_neg c, if_neg (fun z => c ⟨z.1, this.mp z.2⟩)]
theorem bf_step {up dn tp t : Nat} (hu : 0 < up) (hd : 0 < dn) (ht : tp ≤ 8) {p : Plan} (hp : p.length ≤ 3) (hh : ∀ q ∈ p, q.1 ≤ tp ∧ q.2 ≤ 2) {E S : List St} (b : Bf up dn tp p t E S) (hf : ∀ x ∈ E, (advS p x).2.1 ≠ p.length) :
    Bf up dn tp p (t + 1) (news S ((E.map (advS p)).flatMap (succs up dn tp p))) (S ++ news S ((E.map (advS p)).flatMap (succs up dn tp p))) := by
  have key : ∀ x ∈ E, ∃ h k r, p.drop (advS p x).2.1 = (h, k) :: r ∧ ¬ (h = x.1 ∧ k ≤ (advS p x).2.2) ∧ (advS p x).2.1 < p.length ∧ (advS p x).2.2 ≤ 2 ∧ h ≤ tp ∧ k ≤ 2 ∧ phS up dn p x = phi up dn x.1 (advS p x).2.2 ((h, k) :: r) := fun x hx => by
    obtain ⟨h1, h2, h3, h4⟩ := phS_adv hu hd (b.val x hx)
    have lt : (advS p x).2.1 < p.length := Nat.lt_of_le_of_ne h2 (hf x hx)
    obtain ⟨h, k, r, e, n⟩ := h4 lt
    have hm := hh (h, k) (List.mem_of_mem_drop (by rw [e]; exact List.mem_cons_self))
    refine ⟨h, k, r, e, n, lt, h3, hm.1, hm.2, ?_⟩
    rw [← h1]
    show phi up dn x.1 (advS p x).2.2 (p.drop (advS p x).2.1) = _
    rw [e]
  have suc : ∀ y ∈ (E.map (advS p)).flatMap (succs up dn tp p), vld tp p y ∧ tot up dn 0 p ≤ phS up dn p y + (t + 1) := fun y hy => by
    obtain ⟨x', hx', hy⟩ := List.mem_flatMap.mp hy
    obtain ⟨x, hx, rfl⟩ := List.mem_map.mp hx'
    obtain ⟨h, k, r, e, n, lt, h2, htp, hk, ep⟩ := key x hx
    obtain ⟨q, hq, rfl⟩ := List.mem_map.mp hy
    rw [List.mem_range'_1] at hq
    have hq1 : x.1 - dn ≤ q := hq.1
    have hq2 : q < x.1 - dn + (min tp (x.1 + up) + 1 - (x.1 - dn)) := hq.2
    have ho := hold_eq (t := q) e
    have pl := phi_low (held := (advS p x).2.2) (k := k) (r := r) (h := h) hu hd (show q ≤ x.1 + up by omega) (show x.1 ≤ q + dn by omega)
    have lo := b.low x hx
    refine ⟨⟨show q ≤ tp by omega, lt, ?_⟩, ?_⟩
    · show hold p (advS p x) q ≤ 2
      rw [ho]
      split
      · rename_i c
        have c2 : x.1 = h := c.2
        have : ¬ k ≤ (advS p x).2.2 := fun z => n ⟨c2.symm, z⟩
        omega
      · omega
    · show tot up dn 0 p ≤ phi up dn q (hold p (advS p x) q) (p.drop (advS p x).2.1) + (t + 1)
      rw [ho, e]
      have : (advS p x).1 = x.1 := rfl
      rw [this]
      omega
  obtain ⟨x, hx, ex⟩ := b.hit
  obtain ⟨h, k, r, e, n, lt, h2, htp, hk, ep⟩ := key x hx
  obtain ⟨q, q1, q2, q3⟩ := phi_hit (up := up) (dn := dn) (r := r) hu hd (b.val x hx).1 htp n
  have ho := hold_eq (x := advS p x) (t := q) e
  have my : ((q, (advS p x).2.1, hold p (advS p x) q) : St) ∈ (E.map (advS p)).flatMap (succs up dn tp p) := by
    refine List.mem_flatMap.mpr ⟨advS p x, List.mem_map.mpr ⟨x, hx, rfl⟩, List.mem_map.mpr ⟨q, ?_, rfl⟩⟩
    rw [List.mem_range'_1]
    have : (advS p x).1 = x.1 := rfl
    rw [this]
    omega
  have phy : phS up dn p (q, (advS p x).2.1, hold p (advS p x) q) + (t + 1) = tot up dn 0 p := by
    show phi up dn q (hold p (advS p x) q) (p.drop (advS p x).2.1) + (t + 1) = _
    rw [ho, e]
    have : (advS p x).1 = x.1 := rfl
    rw [this]
    omega
  have nd := news_nodup (ys := (E.map (advS p)).flatMap (succs up dn tp p)) b.nd
  have vs : ∀ y ∈ S ++ news S ((E.map (advS p)).flatMap (succs up dn tp p)), vld tp p y := fun y hy => by
    rcases List.mem_append.mp hy with z | z
    · exact b.vs y z
    · exact (suc y (news_mem z).1).1
  refine ⟨fun y hy => (suc y (news_mem hy).1).1, fun y hy => (suc y (news_mem hy).1).2, ?_, vs, fun y hy => ?_, nd, by omega, ?_⟩
  · refine ⟨_, ?_, phy⟩
    rcases news_all (S := S) my with z | z
    · have := b.ls _ z
      omega
    · exact z
  · rcases List.mem_append.mp hy with z | z
    · have := b.ls y z; omega
    · exact (suc y (news_mem z).1).2
  · have := few ht hp nd vs
    rw [List.length_append] at this
    omega
theorem bf_begin {up dn tp : Nat} (hu : 0 < up) (hd : 0 < dn) {p : Plan} (hp : p ≠ []) : Bf up dn tp p 0 [(0, 0, 0)] [] := by
  have e : phS up dn p (0, 0, 0) = tot up dn 0 p := phi_zero hu hd p
  have hl : 0 < p.length := List.length_pos_iff.mpr hp
  refine ⟨fun x hx => ?_, fun x hx => ?_, ⟨_, List.mem_singleton.mpr rfl, by rw [e]; rfl⟩, fun y hy => (by cases hy), fun y hy => (by cases hy), List.nodup_nil, Nat.zero_le _, by decide⟩
  · rw [List.mem_singleton] at hx
    subst hx
    exact ⟨Nat.zero_le _, hl, by decide⟩
  · rw [List.mem_singleton] at hx
    subst hx
    rw [e]
    exact Nat.le_refl _
/-- as long as the time has not come, none is there -/
theorem bf_not {up dn tp t : Nat} (hu : 0 < up) (hd : 0 < dn) {p : Plan} {E S : List St} (b : Bf up dn tp p t E S) (hf : ∀ x ∈ E, (advS p x).2.1 ≠ p.length) : t < tot up dn 0 p := by
  obtain ⟨x, hx, ex⟩ := b.hit
  obtain ⟨h1, h2, h3, h4⟩ := phS_adv hu hd (b.val x hx)
  have lt : (advS p x).2.1 < p.length := Nat.lt_of_le_of_ne h2 (hf x hx)
  obtain ⟨h, k, r, e, n⟩ := h4 lt
  have : phS up dn p (advS p x) = phi up dn x.1 (advS p x).2.2 ((h, k) :: r) := by
    show phi up dn x.1 (advS p x).2.2 (p.drop (advS p x).2.1) = _
    rw [e]
  have pos : 0 < phi up dn x.1 (advS p x).2.2 ((h, k) :: r) := by
    show 0 < (if x.1 = h then k - (advS p x).2.2 else way up dn x.1 h + k) + tot up dn h r
    by_cases c : x.1 = h
    · rw [if_pos c]
      have : ¬ k ≤ (advS p x).2.2 := fun z => n ⟨c.symm, z⟩
      omega
    · rw [if_neg c]
      have := way_pos hu hd c
      omega
  omega
end K26
end
section
set_option Elab.async false
set_option linter.all false
set_option maxRecDepth 100000
set_option maxHeartbeats 4000000
set_option exponentiation.threshold 100000
namespace K26
open Qd PySem L2
/-! ### the draws of a script: the same in every law -/
abbrev dL (ds : List Int) : Option Slot := some (.own (.list (ds.map PyData.int)))
def Dr (u : W) : Prop := ∃ ds : List Int, u = .list (ds.map PyData.int)
noncomputable abbrev mIn : MS := mIf (mTest (mBin gtW (mVar 3) (mC (.int 0))))
    (mSeq (mDrop (mMeth "list" appendW 1 (mCons (mBin modW (mCallB intW (mCons (mVar 3) mNil)) (mC (.int 997))) mNil)))
    (mAsg (store 3) (mBin fdivW (mVar 3) (mC (.int 997)))))
    mSkip
theorem dr_in (s c x4 : Option Slot) (L : Nat) (hL : L ≤ 15000000) (ds : List Int) (hds : ds.length ≤ L) (m : Int) (x5 : Option W) :
    ∃ (ds' : List Int) (m' : Int) (x5' : Option W), ds'.length ≤ L + 60 ∧ forD (store 5) mIn (rangeW 0 60) [s, dL ds, c, sv (.int m), x4, x5.map Slot.val, none] = .next [s, dL ds', c, sv (.int m'), x4, x5'.map Slot.val, none] := by
  obtain ⟨d', e, ds', m', x5', h, rfl⟩ := forD_range (g := store 5) (b := mIn) (fun k d => ∃ (ds' : List Int) (m' : Int) (x5' : Option W), ds'.length ≤ L + k ∧ d = [s, dL ds', c, sv (.int m'), x4, x5'.map Slot.val, none]) 0 60 0
    [s, dL ds, c, sv (.int m), x4, x5.map Slot.val, none] ⟨ds, m, x5, hds, rfl⟩ (by
      rintro i d _ hi ⟨ds, m, x5, h, rfl⟩
      by_cases hm : m > 0
      · refine ⟨[s, dL ds, c, sv (.int m), x4, sv (.int (0 + (i : Int))), none], [s, dL (ds ++ [m % 997]), c, sv (.int (m / 997)), x4, sv (.int (0 + (i : Int))), none], by cases x5 <;> simp, .inl ?_, ds ++ [m % 997], m / 997, some _, by simp; omega, rfl⟩
        have hl : ds.length < 16000000 := by omega
        simp [hm, hl]
      · refine ⟨[s, dL ds, c, sv (.int m), x4, sv (.int (0 + (i : Int))), none], [s, dL ds, c, sv (.int m), x4, sv (.int (0 + (i : Int))), none], by cases x5 <;> simp, .inl ?_, ds, m, some _, by omega, rfl⟩
        simp [hm])
  exact ⟨ds', m', x5', by omega, e⟩
noncomputable abbrev mCell : MS := (mSeq (mAsg (store 3) (mCallB absW (mCons (mVar 2) mNil)))
    (mSeq (mIf (mTest (mBin ltW (mVar 3) (mBin powW (mC (.int 10)) (mC (.int 18)))))
    (mSeq (mAsg (store 4) (mBin modW (mCallB intW (mCons (mBin addW (mBin mulW (mVar 3) (mC (.int 48271))) (mC (.int 11))) mNil)) (mC (.int 2147483647))))
    (mSeq (mDrop (mMeth "list" appendW 1 (mCons (mBin modW (mCallB intW (mCons (mBin addW (mBin mulW (mVar 4) (mC (.int 69621))) (mVar 3)) mNil)) (mC (.int 2147483629))) mNil)))
    (mSeq (mDrop (mMeth "list" appendW 1 (mCons (mBin modW (mCallB intW (mCons (mBin addW (mVar 4) (mBin fdivW (mVar 3) (mC (.int 7)))) mNil)) (mC (.int 1000003))) mNil)))
    (mAsg (store 3) (mC (.int 0))))))
    mSkip)
    (mFor (mRng1 (mCons (mC (.int 60)) mNil)) (store 5) mIn)))
theorem dr_cell (s : Option Slot) (L : Nat) (hL : L ≤ 14000000) (ds : List Int) (hds : ds.length ≤ L) (z : Int) (x3 x4 x5 : Option W) :
    ∃ (ds' : List Int) (x3' x4' x5' : Option W), ds'.length ≤ L + 62 ∧ mCell [s, dL ds, sv (.int z), x3.map Slot.val, x4.map Slot.val, x5.map Slot.val, none] = .next [s, dL ds', sv (.int z), x3'.map Slot.val, x4'.map Slot.val, x5'.map Slot.val, none] := by
  have hr : range1? [.int 60] = some (rangeW 0 60) := range1_of (by decide) (by decide) (by decide)
  obtain ⟨a, ha, ha0⟩ : ∃ a : Int, (if z < 0 then -z else z) = a ∧ 0 ≤ a := ⟨_, rfl, by split <;> omega⟩
  have s1 : mAsg (store 3) (mCallB absW (mCons (mVar 2) mNil)) [s, dL ds, sv (.int z), x3.map Slot.val, x4.map Slot.val, x5.map Slot.val, none] = .next [s, dL ds, sv (.int z), sv (.int a), x4.map Slot.val, x5.map Slot.val, none] := by
    cases x3 <;> simp [ha]
  by_cases hs : a < 1000000000000000000
  · have h1 : mulW (.int a) (.int 48271) = some (.int (a * 48271)) := mul_sm (by omega) (by decide)
    obtain ⟨f, hf, hf1, hf2⟩ : ∃ f : Int, (a * 48271 + 11) % 2147483647 = f ∧ 0 ≤ f ∧ f < 2147483647 := ⟨_, rfl, Int.emod_nonneg _ (by decide), Int.emod_lt_of_pos _ (by decide)⟩
    have h2 : mulW (.int f) (.int 69621) = some (.int (f * 69621)) := mul_sm (by omega) (by decide)
    have hl : ds.length < 16000000 := by omega
    have hl2 : ds.length + 1 < 16000000 := by omega
    obtain ⟨ds', m', x5', hd, e⟩ := dr_in s (sv (.int z)) (sv (.int f)) (L + 2) (by omega) (ds ++ [(f * 69621 + a) % 2147483629, (f + a / 7) % 1000003]) (by simp; omega) 0 x5
    refine ⟨ds', some (.int m'), some (.int f), x5', by omega, ?_⟩
    refine sqR s1 ?_
    refine sqR (d' := [s, dL (ds ++ [(f * 69621 + a) % 2147483629, (f + a / 7) % 1000003]), sv (.int z), sv (.int 0), sv (.int f), x5.map Slot.val, none]) ?_ ?_
    · cases x4 <;> simp [hs, h1, hf, h2, hl, hl2]
    · rw [ev_for]
      simp only [ev_rng1, ev_cons, ev_c, ev_nil, Out.bind, hr]
      exact e
  · obtain ⟨ds', m', x5', hd, e⟩ := dr_in s (sv (.int z)) (x4.map Slot.val) (L + 2) (by omega) ds (by omega) a x5
    refine ⟨ds', some (.int m'), x4, x5', by omega, ?_⟩
    refine sqR s1 ?_
    refine sqR (d' := [s, dL ds, sv (.int z), sv (.int a), x4.map Slot.val, x5.map Slot.val, none]) ?_ ?_
    · simp [hs]
    · rw [ev_for]
      simp only [ev_rng1, ev_cons, ev_c, ev_nil, Out.bind, hr]
      exact e
theorem dr_cells (s : Option Slot) (ns : List Int) (hl : ns.length ≤ 63) : ∃ (ds : List Int) (x2 x3 x4 x5 : Option W), ds.length ≤ 100000 ∧ forD (store 2) mCell (ns.map PyData.int) [s, dL [], none, none, none, none, none] = .next [s, dL ds, x2.map Slot.val, x3.map Slot.val, x4.map Slot.val, x5.map Slot.val, none] := by
  obtain ⟨d', e, ds, x2, x3, x4, x5, h, rfl⟩ := forD_inv (g := store 2) (b := mCell) PyData.int (fun r d => ∃ (ds : List Int) (x2 x3 x4 x5 : Option W), ds.length + r.length * 62 ≤ 10000 ∧ d = [s, dL ds, x2.map Slot.val, x3.map Slot.val, x4.map Slot.val, x5.map Slot.val, none]) ns
    [s, dL [], none, none, none, none, none] ⟨[], none, none, none, none, by simp; omega, rfl⟩ (by
      rintro z r d ⟨ds, x2, x3, x4, x5, h, rfl⟩
      rw [List.length_cons] at h
      obtain ⟨ds', x3', x4', x5', h', e⟩ := dr_cell s ds.length (by omega) ds (Nat.le_refl _) z x3 x4 x5
      exact ⟨_, _, by cases x2 <;> simp <;> exact rfl, .inl e, ds', some (.int z), x3', x4', x5', by omega, rfl⟩)
  exact ⟨ds, x2, x3, x4, x5, by simp at h; omega, e⟩
noncomputable abbrev mSeed : MS := (mSeq (mAsg (store 6) (mBin modW (mCallB intW (mCons (mBin addW (mBin mulW (mVar 6) (mC (.int 48271))) (mC (.int 69621))) mNil)) (mC (.int 2147483647))))
    (mDrop (mMeth "list" appendW 1 (mCons (mBin fdivW (mVar 6) (mC (.int 5))) mNil))))
theorem dr_seed (s x2 x3 x4 : Option Slot) (x5 : Option W) (ds : List Int) (hds : ds.length ≤ 100000) (i : Int) (hi : i.natAbs.log2 ≤ 2000000) :
    ∃ (ds' : List Int) (i' : Int) (x5' : Option W), forD (store 5) mSeed (rangeW 0 900) [s, dL ds, x2, x3, x4, x5.map Slot.val, sv (.int i)] = .next [s, dL ds', x2, x3, x4, x5'.map Slot.val, sv (.int i')] := by
  obtain ⟨d', e, ds', i', x5', h, _, rfl⟩ := forD_range (g := store 5) (b := mSeed) (fun k d => ∃ (ds' : List Int) (i' : Int) (x5' : Option W), ds'.length ≤ 100000 + k ∧ i'.natAbs.log2 ≤ 2000000 ∧ d = [s, dL ds', x2, x3, x4, x5'.map Slot.val, sv (.int i')]) 0 900 0
    [s, dL ds, x2, x3, x4, x5.map Slot.val, sv (.int i)] ⟨ds, i, x5, hds, hi, rfl⟩ (by
      rintro k d _ hk ⟨ds, i, x5, h, hi, rfl⟩
      have h1 : mulW (.int i) (.int 48271) = some (.int (i * 48271)) := ev_mul _ _ (by
        have : (48271 : Int).natAbs.log2 ≤ 16 := log2_le_of (by decide)
        omega)
      obtain ⟨j, hj, hj1, hj2⟩ : ∃ j : Int, (i * 48271 + 69621) % 2147483647 = j ∧ 0 ≤ j ∧ j < 2147483647 := ⟨_, rfl, Int.emod_nonneg _ (by decide), Int.emod_lt_of_pos _ (by decide)⟩
      have hl : ds.length < 16000000 := by omega
      refine ⟨[s, dL ds, x2, x3, x4, sv (.int (0 + (k : Int))), sv (.int i)], [s, dL (ds ++ [j / 5]), x2, x3, x4, sv (.int (0 + (k : Int))), sv (.int j)], by cases x5 <;> simp, .inl ?_, ds ++ [j / 5], j, some _, by simp; omega, ?_, rfl⟩
      · simp [h1, hj, hl]
      · exact Nat.le_trans (log2_le_of (k := 31) (by omega)) (by decide))
  exact ⟨ds', i', x5', e⟩
theorem log2_succ (n : Nat) : (n + 1).log2 ≤ n.log2 + 1 := by
  by_cases h : n = 0
  · subst h; decide
  · have h1 : n < 2 ^ (n.log2 + 1) := (Nat.log2_lt h).mp (Nat.lt_succ_self _)
    have h2 : n + 1 < 2 ^ (n.log2 + 1 + 1) := by rw [Nat.pow_succ]; omega
    have := (Nat.log2_lt (by omega)).mpr h2
    omega
theorem e_draws (ns : List Int) (hl : ns.length ≤ 63) (hb : ∀ z ∈ ns, Builtin.Int.intBits z ≤ 1048576) : ∃ u, F__law_draws [.list (ns.map PyData.int)] = .ok (.own u) ∧ Dr u := by
  obtain ⟨ds, x2, x3, x4, x5, hd, e1⟩ := dr_cells (sv (.list (ns.map PyData.int))) ns hl
  obtain ⟨i, hi, e2⟩ : ∃ i : Int, i.natAbs.log2 ≤ 2000000 ∧ (mSeq (mAsg (store 6) (mC (.int 1)))
    (mIf (mTest (mBin gtW (mCallB lenW (mCons (mVar 0) mNil)) (mC (.int 0))))
    (mAsg (store 6) (mBin addW (mC (.int 1)) (mCallB absW (mCons (mBin ixW (mVar 0) (mC (.int 0))) mNil))))
    mSkip)) [sv (.list (ns.map PyData.int)), dL ds, x2.map Slot.val, x3.map Slot.val, x4.map Slot.val, x5.map Slot.val, none] = .next [sv (.list (ns.map PyData.int)), dL ds, x2.map Slot.val, x3.map Slot.val, x4.map Slot.val, x5.map Slot.val, sv (.int i)] := by
    cases ns with
    | nil => exact ⟨1, by decide, by simp⟩
    | cons z r =>
      have hz := hb z List.mem_cons_self
      refine ⟨1 + (if z < 0 then -z else z), ?_, ?_⟩
      · have e : (1 + (if z < 0 then -z else z)).natAbs = z.natAbs + 1 := by split <;> omega
        have h2 := log2_succ z.natAbs
        have h3 : z.natAbs.log2 ≤ 1048576 := by
          unfold Builtin.Int.intBits at hz
          split at hz
          · rename_i q
            have q : z = 0 := by simpa using q
            subst q
            decide
          · omega
        rw [e]
        omega
      · have hp : (0 : Int) < (r.length : Int) + 1 := by omega
        have ha : atI ((z :: r).map PyData.int) 0 = some (.int z) := show atI _ ((0 : Nat) : Int) = _ from atI_nat rfl
        rw [List.map_cons] at ha
        simp [hp, ha]
  obtain ⟨ds', i', x5', e3⟩ := dr_seed (sv (.list (ns.map PyData.int))) (x2.map Slot.val) (x3.map Slot.val) (x4.map Slot.val) x5 ds hd i hi
  have hr : range1? [.int 900] = some (rangeW 0 900) := range1_of (by decide) (by decide) (by decide)
  refine ⟨_, runV_of ?_, ds'.reverse, rfl⟩
  unfold m__law_draws
  rw [show sdV 7 [.list (ns.map PyData.int)] = [sv (.list (ns.map PyData.int)), none, none, none, none, none, none] from rfl]
  generalize hw : ns.map PyData.int = w at *
  refine sqT (by simp; exact rfl) ?_
  refine sqT (d' := _) (by rw [ev_for]; simp only [ev_itS, ev_var, ev_itemsL, Out.bind, List.getElem?_cons_zero, ofOpt]; exact e1) ?_
  rw [← sqA]
  refine sqT e2 ?_
  refine sqT (d' := _) (by rw [ev_for]; simp only [ev_rng1, ev_cons, ev_c, ev_nil, Out.bind, hr]; exact e3) ?_
  exact frzT (by simp; exact rfl) (retT (by simp; exact rfl))
theorem e_take (u : W) (n : Nat) (h : Dr u) (hn : 0 < n) : ∃ (r : Nat) (u' : W), r < n ∧ Dr u' ∧ F__law_take u [.int (n : Int)] = .ok (.val (.int (r : Int))) u' := by
  obtain ⟨ds, rfl⟩ := h
  have hn' : (0 : Int) < n := by omega
  rcases List.eq_nil_or_concat ds with rfl | ⟨ds, x, rfl⟩
  · refine ⟨0, .list [], hn, ⟨[], rfl⟩, runP_of ?_⟩
    unfold m__law_take
    rw [show sdP 2 (.list (([] : List Int).map PyData.int)) [.int (n : Int)] = [some (.par (.list [])), sv (.int n)] from rfl]
    exact sqP1 (by simp; exact rfl) rfl
  · refine ⟨(x % (n : Int)).toNat, .list (ds.map PyData.int), ?_, ⟨ds, rfl⟩, runP_of ?_⟩
    · have h1 := Int.emod_nonneg x (show (n : Int) ≠ 0 by omega)
      have h2 := Int.emod_lt_of_pos x hn'
      omega
    · rw [Int.toNat_of_nonneg (Int.emod_nonneg x (show (n : Int) ≠ 0 by omega))]
      have hp := pop_last (ds.map PyData.int) (.int x)
      rw [List.concat_eq_append, List.map_append]
      unfold m__law_take
      rw [show sdP 2 (.list (ds.map PyData.int ++ [x].map PyData.int)) [.int (n : Int)] = [some (.par (.list (ds.map PyData.int ++ [.int x]))), sv (.int n)] from rfl]
      generalize ds.map PyData.int = w at *
      have hne : (w.length : Int) + 1 ≠ 0 := by omega
      refine sqP (by simp [hne]; exact rfl) ?_
      exact retP (by simp [hp, hn]; exact rfl) rfl
/-! ### the same -/
theorem al_le {j k : Nat} {w : W} (h : al j w) (hk : j ≤ k) : al k w := by
  induction k with
  | zero => rw [Nat.le_zero.mp hk] at h; exact h
  | succ k ih =>
    rcases Nat.lt_or_ge j (k + 1) with c | c
    · exact al_up (ih (by omega))
    · rw [show k + 1 = j by omega]; exact h
noncomputable abbrev mSB (REC : FV) : MS := mIf (mNotT (mTruth (mCallV REC (mCons (mBin ixW (mVar 0) (mVar 2)) (mCons (mBin ixW (mVar 1) (mVar 2)) mNil)))))
    (mRet (mC (.bool false)))
    mSkip
theorem same_for (REC : FV) (w : W) (ds : List W) (hl : ds.length ≤ 16000000) (hw : ∀ i, ixW w i = match i with
    | .int i => atI ds i
    | _ => none) (hlen : lenW [w] = some (.int ds.length)) (h : ∀ d ∈ ds, REC [d, d] = .ok (.val (.bool true))) :
    ∃ d', mFor (mRng1 (mCons (mCallB lenW (mCons (mVar 1) mNil)) mNil)) (store 2) (mSB REC) [sv w, sv w, none] = .next d' := by
  have hr : range1? [.int (ds.length : Int)] = some ((List.range ds.length).map fun i : Nat => PyData.int (i : Int)) := by
    rw [← rangeW_nat]; exact range1_of (by omega) (by omega) (by omega)
  obtain ⟨d', e, x2, rfl⟩ := forD_idx (g := store 2) (b := mSB REC) (fun i : Nat => PyData.int (i : Int)) (fun i dd => ∃ x2 : Option W, dd = [sv w, sv w, x2.map Slot.val]) ds.length [sv w, sv w, none] ⟨none, rfl⟩ (by
    rintro i dd hi ⟨x2, rfl⟩
    have ha : atI ds (i : Int) = some ds[i] := atI_nat (List.getElem?_eq_getElem hi)
    have hx := hw (.int (i : Int))
    have hh := h _ (List.getElem_mem hi)
    refine ⟨[sv w, sv w, iv i], [sv w, sv w, iv i], by cases x2 <;> simp, .inl ?_, some (.int (i : Int)), rfl⟩
    simp [hx, ha, hh])
  refine ⟨[sv w, sv w, x2.map Slot.val], ?_⟩
  rw [ev_for]
  have : mRng1 (mCons (mCallB lenW (mCons (mVar 1) mNil)) mNil) [sv w, sv w, none] = .ok ((List.range ds.length).map fun i : Nat => PyData.int (i : Int)) [sv w, sv w, none] := by simp [hlen, hr]
  rw [this]
  exact e
theorem e_same_k : ∀ (k : Nat) (w : W), al k w → R__law_same (k + 1) [w, w] = .ok (.val (.bool true))
  | k, .none, _ => by
    show runV 3 (m__law_same (R__law_same k)) _ = _
    refine runV_of ?_
    unfold m__law_same
    exact sqT1 (by simp; exact rfl)
  | k, .bool b, _ => by
    show runV 3 (m__law_same (R__law_same k)) _ = _
    refine runV_of ?_
    unfold m__law_same
    exact sqT (by simp; exact rfl) (sqT (by simp; exact rfl) (sqT (by simp; exact rfl) (sqT (by simp; exact rfl) (retT (by simp; exact rfl)))))
  | k, .int i, _ => by
    show runV 3 (m__law_same (R__law_same k)) _ = _
    refine runV_of ?_
    unfold m__law_same
    exact sqT (by simp; exact rfl) (sqT (by simp; exact rfl) (sqT (by simp; exact rfl) (sqT (by simp; exact rfl) (retT (by simp; exact rfl)))))
  | k, .str x, h => by
    have h2 : eqW (.str x) (.str x) = some (.bool true) := eq_self (lv_ok (k := 0) (by decide) (by cases k <;> exact h))
    show runV 3 (m__law_same (R__law_same k)) _ = _
    refine runV_of ?_
    unfold m__law_same
    exact sqT (by simp; exact rfl) (sqT (by simp; exact rfl) (sqT (by simp; exact rfl) (sqT (by simp; exact rfl) (retT (by simp [h2]; exact rfl)))))
  | 0, .list ds, h => h.elim
  | 0, .tuple ds, h => h.elim
  | k + 1, .list ds, h => by
    obtain ⟨d', e⟩ := same_for (R__law_same (k + 1)) (.list ds) ds h.1 (fun i => by cases i <;> rfl) rfl fun d hd => e_same_k k d (h.2 d hd)
    show runV 3 (m__law_same (R__law_same (k + 1))) _ = _
    refine runV_of ?_
    unfold m__law_same
    rw [show sdV 3 [PyData.list ds, PyData.list ds] = [sv (.list ds), sv (.list ds), none] from rfl]
    refine sqT (by simp; exact rfl) ?_
    generalize R__law_same (k + 1) = REC at *
    exact sqT1 (by simp [e, -ev_for]; exact rfl)
  | k + 1, .tuple ds, h => by
    obtain ⟨d', e⟩ := same_for (R__law_same (k + 1)) (.tuple ds) ds h.1 (fun i => by cases i <;> rfl) rfl fun d hd => e_same_k k d (h.2 d hd)
    show runV 3 (m__law_same (R__law_same (k + 1))) _ = _
    refine runV_of ?_
    unfold m__law_same
    rw [show sdV 3 [PyData.tuple ds, PyData.tuple ds] = [sv (.tuple ds), sv (.tuple ds), none] from rfl]
    refine sqT (by simp; exact rfl) ?_
    generalize R__law_same (k + 1) = REC at *
    exact sqT1 (by simp [e, -ev_for]; exact rfl)
  | k, .dict _, h => by cases k <;> exact h.elim
theorem e_same {k : Nat} (hk : k ≤ 5) {w : W} (h : al k w) : F__law_same [w, w] = .ok (.val (.bool true)) := e_same_k 5 w (al_le h hk)
end K26
end
section
set_option Elab.async false
set_option linter.all false
set_option maxRecDepth 100000
set_option maxHeartbeats 1000000
/-! k26: cones. Nothing of the program. -/
namespace K26
def run (l : List Nat) (g : Nat) : Nat → Nat
  | 0 => 0
  | i + 1 => if g ≤ l.getD i 0 then run l g i + 1 else 0
theorem run_iff {l : List Nat} {g : Nat} : ∀ {i m : Nat}, m ≤ run l g i ↔ m ≤ i ∧ ∀ j, i ≤ j + m → j < i → g ≤ l.getD j 0
  | 0, m => ⟨fun h => ⟨h, fun j _ hj => absurd hj (Nat.not_lt_zero _)⟩, fun h => h.1⟩
  | i + 1, 0 => ⟨fun _ => ⟨Nat.zero_le _, fun j h1 h2 => by omega⟩, fun _ => Nat.zero_le _⟩
  | i + 1, m + 1 => by
    show m + 1 ≤ (if g ≤ l.getD i 0 then run l g i + 1 else 0) ↔ _
    by_cases c : g ≤ l.getD i 0
    · rw [if_pos c, Nat.add_le_add_iff_right, run_iff]
      refine ⟨fun h => ⟨by omega, fun j h1 h2 => ?_⟩, fun h => ⟨by omega, fun j h1 h2 => h.2 j (by omega) (by omega)⟩⟩
      by_cases e : j = i
      · rw [e]; exact c
      · exact h.2 j (by omega) (by omega)
    · rw [if_neg c]
      exact ⟨fun h => absurd h (by omega), fun h => absurd (h.2 i (by omega) (by omega)) c⟩
theorem run_anti {l : List Nat} {g g' i : Nat} (h : g ≤ g') : run l g' i ≤ run l g i := run_iff.mpr ⟨(run_iff.mp (Nat.le_refl _)).1, fun j h1 h2 => Nat.le_trans h ((run_iff.mp (Nat.le_refl (run l g' i))).2 j h1 h2)⟩
def bd (l : List Nat) (g m : Nat) : Option Nat := (List.range l.length).find? fun i => decide (m ≤ run l g (i + 1))
theorem bd_some {l : List Nat} {g m i : Nat} : bd l g m = some i ↔ m ≤ run l g (i + 1) ∧ i < l.length ∧ ∀ j, j < i → ¬ m ≤ run l g (j + 1) := by
  unfold bd
  rw [List.find?_range_eq_some]
  simp
theorem bd_none {l : List Nat} {g m : Nat} : bd l g m = none ↔ ∀ i, i < l.length → ¬ m ≤ run l g (i + 1) := by
  unfold bd
  rw [List.find?_range_eq_none]
  simp
/-- a hotter cone, or a longer one, bends no sooner -/
theorem bd_later {l : List Nat} {g g' m m' j : Nat} (hg : g ≤ g') (hm : m ≤ m') (h : bd l g' m' = some j) : ∃ i, bd l g m = some i ∧ i ≤ j := by
  obtain ⟨h1, h2, _⟩ := bd_some.mp h
  have h3 : m ≤ run l g (j + 1) := Nat.le_trans hm (Nat.le_trans h1 (run_anti hg))
  cases e : bd l g m with
  | none => exact absurd h3 (bd_none.mp e j h2)
  | some i =>
    refine ⟨i, rfl, ?_⟩
    rcases Nat.lt_or_ge j i with c | c
    · exact absurd h3 ((bd_some.mp e).2.2 j c)
    · exact c
/-! ### least and greatest -/
def mnL : List Nat → Nat
  | [] => 0
  | c :: cs => cs.foldl min c
def mxL : List Nat → Nat
  | [] => 0
  | c :: cs => cs.foldl max c
theorem fold_min : ∀ (cs : List Nat) (c g : Nat), g ≤ cs.foldl min c ↔ g ≤ c ∧ ∀ x ∈ cs, g ≤ x
  | [], c, g => by simp
  | d :: cs, c, g => by
    rw [List.foldl_cons, fold_min cs, List.forall_mem_cons, Nat.le_min, and_assoc]
theorem mnL_le {l : List Nat} {g : Nat} (h : l ≠ []) : g ≤ mnL l ↔ ∀ x ∈ l, g ≤ x := by
  cases l with
  | nil => exact absurd rfl h
  | cons c cs =>
    show g ≤ cs.foldl min c ↔ _
    rw [fold_min, List.forall_mem_cons]
theorem min_in : ∀ (cs : List Nat) (c : Nat), cs.foldl min c ∈ c :: cs
  | [], c => List.mem_cons_self
  | d :: cs, c => by
    rw [List.foldl_cons]
    rcases List.mem_cons.mp (min_in cs (min c d)) with h | h
    · rw [h]
      rcases Nat.le_total c d with z | z
      · rw [Nat.min_eq_left z]; exact List.mem_cons_self
      · rw [Nat.min_eq_right z]; exact List.mem_cons_of_mem _ List.mem_cons_self
    · exact List.mem_cons_of_mem _ (List.mem_cons_of_mem _ h)
theorem mnL_mem {l : List Nat} (h : l ≠ []) : mnL l ∈ l := by
  cases l with
  | nil => exact absurd rfl h
  | cons c cs => exact min_in cs c
theorem mxL_ge {l : List Nat} {x : Nat} (h : x ∈ l) : x ≤ mxL l := by
  cases l with
  | nil => cases h
  | cons c cs => exact Qd.max_ge cs c x h
theorem mxL_mem {l : List Nat} (h : l ≠ []) : mxL l ∈ l := by
  cases l with
  | nil => exact absurd rfl h
  | cons c cs => exact Qd.max_in cs c
/-! ### windows -/
def win (l : List Nat) (f m : Nat) : List Nat := (l.drop f).take m
theorem win_get {l : List Nat} {f m i : Nat} (hi : i < m) : (win l f m)[i]? = l[f + i]? := by
  unfold win
  rw [List.getElem?_take_of_lt hi, List.getElem?_drop]
theorem win_len {l : List Nat} {f m : Nat} (h : f + m ≤ l.length) : (win l f m).length = m := by
  unfold win
  rw [List.length_take, List.length_drop]
  omega
theorem win_all {l : List Nat} {f m g : Nat} (h : f + m ≤ l.length) : (∀ x ∈ win l f m, g ≤ x) ↔ ∀ j, f ≤ j → j < f + m → g ≤ l.getD j 0 := by
  constructor
  · intro hx j h1 h2
    have e := win_get (l := l) (f := f) (m := m) (i := j - f) (by omega)
    rw [show f + (j - f) = j by omega, List.getElem?_eq_getElem (show j < l.length by omega)] at e
    rw [List.getD_eq_getElem?_getD, List.getElem?_eq_getElem (show j < l.length by omega)]
    exact hx _ (List.mem_of_getElem? e)
  · intro hj x hx
    obtain ⟨i, hi, rfl⟩ := List.mem_iff_getElem.mp hx
    rw [win_len h] at hi
    have e := win_get (l := l) (f := f) (m := m) hi
    rw [List.getElem?_eq_getElem (by rw [win_len h]; exact hi), List.getElem?_eq_getElem (show f + i < l.length by omega)] at e
    have := hj (f + i) (by omega) (by omega)
    rw [List.getD_eq_getElem?_getD, List.getElem?_eq_getElem (show f + i < l.length by omega)] at this
    injection e with e
    rw [e]
    exact this
theorem win_ne {l : List Nat} {f m : Nat} (h : f + m ≤ l.length) (hm : 0 < m) : win l f m ≠ [] := by
  intro e
  have := win_len h
  rw [e] at this
  simp at this
  omega
theorem run_win {l : List Nat} {f m g : Nat} (h : f + m ≤ l.length) (hm : 0 < m) : m ≤ run l g (f + m) ↔ g ≤ mnL (win l f m) := by
  rw [run_iff, mnL_le (win_ne h hm), win_all h]
  exact ⟨fun z j h1 h2 => z.2 j (by omega) h2, fun z => ⟨by omega, fun j h1 h2 => z j (by omega) h2⟩⟩
def wins (l : List Nat) (m : Nat) : List Nat := (List.range (l.length + 1 - m)).map fun f => mnL (win l f m)
theorem wins_ne {l : List Nat} {m : Nat} (h : m ≤ l.length) : wins l m ≠ [] := by
  intro e
  have : (wins l m).length = l.length + 1 - m := by unfold wins; rw [List.length_map, List.length_range]
  rw [e] at this
  simp at this
  omega
theorem bd_wins {l : List Nat} {m g : Nat} (h : m ≤ l.length) (hm : 0 < m) : (bd l g m).isSome = true ↔ g ≤ mxL (wins l m) := by
  constructor
  · intro z
    obtain ⟨i, e⟩ := Option.isSome_iff_exists.mp z
    obtain ⟨h1, h2, _⟩ := bd_some.mp e
    have h3 : m ≤ i + 1 := (run_iff.mp h1).1
    rw [show i + 1 = (i + 1 - m) + m by omega] at h1
    have h4 := (run_win (by omega) hm).mp h1
    exact Nat.le_trans h4 (mxL_ge (List.mem_map.mpr ⟨i + 1 - m, List.mem_range.mpr (by omega), rfl⟩))
  · intro z
    obtain ⟨f, hf, e⟩ := List.mem_map.mp (mxL_mem (wins_ne h))
    rw [List.mem_range] at hf
    have e : mnL (win l f m) = mxL (wins l m) := e
    rw [← e] at z
    have h1 := (run_win (l := l) (f := f) (m := m) (g := g) (by omega) hm).mpr z
    cases c : bd l g m with
    | none => exact absurd h1 (by rw [show f + m = (f + m - 1) + 1 by omega]; exact bd_none.mp c _ (by omega))
    | some i => rfl
theorem wins_mem {l : List Nat} {m : Nat} (h : m ≤ l.length) (hm : 0 < m) : mxL (wins l m) ∈ l := by
  obtain ⟨f, hf, e⟩ := List.mem_map.mp (mxL_mem (wins_ne h))
  rw [List.mem_range] at hf
  have e : mnL (win l f m) = mxL (wins l m) := e
  rw [← e]
  have := mnL_mem (win_ne (l := l) (f := f) (m := m) (by omega) hm)
  exact List.mem_of_mem_drop (List.mem_of_mem_take this)
theorem bd_filter {l : List Nat} {m : Nat} (h : m ≤ l.length) (hm : 0 < m) : (l.filter fun g => (bd l g m).isSome) ≠ [] ∧ mxL (l.filter fun g => (bd l g m).isSome) = mxL (wins l m) := by
  have hm1 : mxL (wins l m) ∈ l.filter fun g => (bd l g m).isSome := List.mem_filter.mpr ⟨wins_mem h hm, (bd_wins h hm).mpr (Nat.le_refl _)⟩
  have ne : (l.filter fun g => (bd l g m).isSome) ≠ [] := fun e => by rw [e] at hm1; cases hm1
  refine ⟨ne, Nat.le_antisymm ?_ (mxL_ge hm1)⟩
  have := (List.mem_filter.mp (mxL_mem ne)).2
  exact (bd_wins h hm).mp this
end K26
end
section
set_option Elab.async false
set_option linter.all false
set_option maxRecDepth 100000
set_option maxHeartbeats 4000000
/-! k26: the cones' functions -/
namespace K26
open Qd PySem L2
@[simp] theorem ev_enumA (a : M (List W)) (d : SD) : mEnumA a d = (a d).bind fun ws d1 => match ws with
  | [.list us] => .ok (enumW 0 us) d1
  | [.tuple us] => .ok (enumW 0 us) d1
  | _ => .bad := rfl
theorem e_is_number (v a b : Int) : F_is_number [.int v, .int a, .int b] = .ok (.val (.bool (decide (a ≤ v ∧ v ≤ b)))) := by
  unfold F_is_number runV m_is_number
  by_cases h : a ≤ v <;> simp [h]
theorem e_num_in {v a b : Int} (h : a ≤ v ∧ v ≤ b) : F_is_number [.int v, .int a, .int b] = .ok (.val (.bool true)) := by
  rw [e_is_number, decide_eq_true h]
theorem e_num_out {v a b : Int} (h : ¬ (a ≤ v ∧ v ≤ b)) : F_is_number [.int v, .int a, .int b] = .ok (.val (.bool false)) := by
  rw [e_is_number, decide_eq_false h]
theorem e_num_b (c : Bool) (a b : Int) : F_is_number [.bool c, .int a, .int b] = .ok (.val (.bool false)) := by
  unfold F_is_number runV m_is_number
  simp
theorem e_num_n (a b : Int) : F_is_number [.none, .int a, .int b] = .ok (.val (.bool false)) := by
  unfold F_is_number runV m_is_number
  simp
theorem rg (n : Nat) (hn : n ≤ 100000) : range1? [.int (n : Int)] = some ((List.range n).map fun i : Nat => PyData.int (i : Int)) := by rw [← rangeW_nat]; exact range1_of (by omega) (by omega) (by omega)
theorem rg2 {lo hi : Nat} (hn : hi ≤ 100000) (hl : lo ≤ 100000) : range2? [.int (lo : Int), .int (hi : Int)] = some ((List.range' lo (hi - lo)).map fun i : Nat => PyData.int (i : Int)) := by
  rw [range2_of (n := hi - lo) (by omega) (by omega) (by omega) (by omega) (by omega)]
  unfold rangeW
  rw [List.range'_eq_map_range, List.map_map]
  congr 1
theorem size_ok {n : Nat} (h : n ≤ 1000) : n ≤ sizeLine := Nat.le_trans (by omega) sizeLine_big
theorem take_lit {u : W} (n : Nat) (h : Dr u) (hn : 0 < n) : ∃ (r : Nat) (u' : W), r < n ∧ Dr u' ∧ F__law_take u [.int (n : Int)] = .ok (.val (.int (r : Int))) u' := e_take u n h hn
theorem sqN {a b : MS} {d d' : SD} {o : SOut} (h : a d = .next d') (k : b d' = o) : mSeq a b d = o := by rw [ev_seq, h]; exact k
theorem for_step {g : GW} {b : MS} {w : W} {ws : List W} {d d1 d2 : SD} (h1 : g w d = some d1) (h2 : b d1 = .next d2) : forD g b (w :: ws) d = forD g b ws d2 := by rw [forD_cons, h1]; dsimp only; rw [h2]
theorem for_ret {g : GW} {b : MS} {w : W} {ws : List W} {d d1 d2 : SD} {s : Slot} (h1 : g w d = some d1) (h2 : b d1 = .ret s d2) : forD g b (w :: ws) d = .ret s d2 := by rw [forD_cons, h1]; dsimp only; rw [h2]
/-- a walk that looks for the first that will do -/
theorem for_seek {g : GW} {b : MS} {f0 : Nat → W} {R : Nat → Slot} (A : SD → Prop) (p : Nat → Bool) : ∀ (n lo : Nat) {d : SD}, A d →
    (∀ i d, lo ≤ i → i < lo + n → A d → ∃ d1, g (f0 i) d = some d1 ∧ ((p i = true ∧ ∃ d2, b d1 = .ret (R i) d2) ∨ (p i = false ∧ ∃ d2, b d1 = .next d2 ∧ A d2))) →
    (∃ i d', lo ≤ i ∧ i < lo + n ∧ p i = true ∧ (∀ j, lo ≤ j → j < i → p j = false) ∧ forD g b ((List.range' lo n).map f0) d = .ret (R i) d') ∨
      ((∀ j, lo ≤ j → j < lo + n → p j = false) ∧ ∃ d', forD g b ((List.range' lo n).map f0) d = .next d' ∧ A d')
  | 0, lo, d, hA, _ => .inr ⟨fun j h1 h2 => by omega, d, rfl, hA⟩
  | n + 1, lo, d, hA, hs => by
    obtain ⟨d1, h1, h2⟩ := hs lo d (Nat.le_refl _) (by omega) hA
    rw [List.range'_succ, List.map_cons]
    rcases h2 with ⟨hp, d2, h2⟩ | ⟨hp, d2, h2, hA2⟩
    · exact .inl ⟨lo, d2, Nat.le_refl _, by omega, hp, fun j h1 h2 => by omega, for_ret h1 h2⟩
    · rw [for_step h1 h2]
      rcases for_seek A p n (lo + 1) hA2 (fun i d h3 h4 => hs i d (by omega) (by omega)) with ⟨i, d', a1, a2, a3, a4, a5⟩ | ⟨a1, d', a2, a3⟩
      · exact .inl ⟨i, d', by omega, by omega, a3, fun j h3 h4 => by
          by_cases e : j = lo
          · rw [e]; exact hp
          · exact a4 j (by omega) h4, a5⟩
      · exact .inr ⟨fun j h3 h4 => by
          by_cases e : j = lo
          · rw [e]; exact hp
          · exact a1 j (by omega) (by omega), d', a2, a3⟩
/-- none, or a number -/
def oW : Option Nat → W
  | none => .none
  | some i => .int (i : Int)
theorem min_natT (c : Nat) (cs : List Nat) : minW [.tuple (natW (c :: cs))] = some (.int ((cs.foldl min c : Nat) : Int)) := by
  obtain ⟨h1, h2⟩ := natW_ok (c :: cs)
  have h1 := ok_natT (c :: cs)
  have e : natW (c :: cs) = PyData.int (c : Int) :: natW cs := rfl
  rw [e] at h1 h2 ⊢
  show (if (okD _ && alikeB _) = true then some (PySem.W.minD _ _) else none) = _
  rw [h1, h2, natW_ints, PySem.W.minD_ints, foldl_cast min min (fun a b => by omega)]
  rfl
theorem min_l {l : List Nat} (h : l ≠ []) : minW [.tuple (natW l)] = some (.int (mnL l : Nat)) := by
  cases l with
  | nil => exact absurd rfl h
  | cons c cs => exact min_natT c cs
theorem max_l {l : List Nat} (h : l ≠ []) : maxW [.list (natW l)] = some (.int (mxL l : Nat)) := by
  cases l with
  | nil => exact absurd rfl h
  | cons c cs => exact max_nat c cs
theorem bend_loop (w0 w1 : W) {l : List Nat} {g m : Nat} (hm : 0 < m) : ∀ (r : List Nat) (k : Nat) (x5 x6 : Option W), l.drop k = r → k ≤ l.length → (∀ j, j < k → ¬ m ≤ run l g (j + 1)) →
    (∃ i d', bd l g m = some i ∧ forD (gTupW 2 (gsCons (store 5) (gsCons (store 6) gsNil))) (mSeq (mAsg (store 4) (mIfE (mTest (mBin geW (mVar 6) (mVar 2))) (mBin addW (mVar 4) (mC (.int 1))) (mC (.int 0)))) (mIf (mTest (mBin eqW (mVar 4) (mVar 3))) (mRet (mVar 5)) mSkip)) (enumW k (natW r)) [sv w0, sv w1, iv g, iv m, iv (run l g k), x5.map Slot.val, x6.map Slot.val] = .ret (.val (.int (i : Int))) d') ∨
      (bd l g m = none ∧ ∃ d', forD (gTupW 2 (gsCons (store 5) (gsCons (store 6) gsNil))) (mSeq (mAsg (store 4) (mIfE (mTest (mBin geW (mVar 6) (mVar 2))) (mBin addW (mVar 4) (mC (.int 1))) (mC (.int 0)))) (mIf (mTest (mBin eqW (mVar 4) (mVar 3))) (mRet (mVar 5)) mSkip)) (enumW k (natW r)) [sv w0, sv w1, iv g, iv m, iv (run l g k), x5.map Slot.val, x6.map Slot.val] = .next d')
  | [], k, x5, x6, hd, hk, hn => by
    have : l.length ≤ k := List.drop_eq_nil_iff.mp hd
    exact .inr ⟨bd_none.mpr fun i hi => hn i (by omega), _, rfl⟩
  | c :: r, k, x5, x6, hd, hk, hn => by
    have hlt : k < l.length := by
      rcases Nat.lt_or_ge k l.length with z | z
      · exact z
      · rw [List.drop_eq_nil_of_le z] at hd; cases hd
    have hc : l.getD k 0 = c := by
      have := List.getElem?_drop (xs := l) (i := k) (j := 0)
      rw [hd] at this
      rw [List.getD_eq_getElem?_getD]
      simp at this
      rw [← this]
      rfl
    have hd2 : l.drop (k + 1) = r := by rw [← List.drop_drop, hd]; rfl
    have hr : run l g k < m := by
      cases k with
      | zero => exact hm
      | succ k => have := hn k (Nat.lt_succ_self _); omega
    have e1 : run l g (k + 1) = if g ≤ c then run l g k + 1 else 0 := by
      show (if g ≤ l.getD k 0 then _ else _) = _
      rw [hc]
    have hle : run l g (k + 1) ≤ m := by rw [e1]; split <;> omega
    have hs : (gTupW 2 (gsCons (store 5) (gsCons (store 6) gsNil))) (.tuple [.int (k : Int), .int (c : Int)]) [sv w0, sv w1, iv g, iv m, iv (run l g k), x5.map Slot.val, x6.map Slot.val] = some [sv w0, sv w1, iv g, iv m, iv (run l g k), iv k, iv c] := by cases x5 <;> cases x6 <;> simp
    have st : mAsg (store 4) (mIfE (mTest (mBin geW (mVar 6) (mVar 2))) (mBin addW (mVar 4) (mC (.int 1))) (mC (.int 0))) [sv w0, sv w1, iv g, iv m, iv (run l g k), iv k, iv c] = .next [sv w0, sv w1, iv g, iv m, iv (run l g (k + 1)), iv k, iv c] := by
      rw [e1]
      generalize run l g k = z at *
      by_cases q : g ≤ c
      · simp [q]
      · simp [q]
    rw [show enumW k (natW (c :: r)) = PyData.tuple [.int (k : Int), .int (c : Int)] :: enumW (k + 1) (natW r) from rfl]
    by_cases q : run l g (k + 1) = m
    · refine .inl ⟨k, [sv w0, sv w1, iv g, iv m, iv (run l g (k + 1)), iv k, iv c], bd_some.mpr ⟨Nat.le_of_eq q.symm, hlt, hn⟩, for_ret hs (sqN st ?_)⟩
      rw [q]
      simp
    · have hq : ¬ m ≤ run l g (k + 1) := by omega
      have qi : ¬ (run l g (k + 1) : Int) = (m : Int) := by omega
      have st2 : (mSeq (mAsg (store 4) (mIfE (mTest (mBin geW (mVar 6) (mVar 2))) (mBin addW (mVar 4) (mC (.int 1))) (mC (.int 0)))) (mIf (mTest (mBin eqW (mVar 4) (mVar 3))) (mRet (mVar 5)) mSkip)) [sv w0, sv w1, iv g, iv m, iv (run l g k), iv k, iv c] = .next [sv w0, sv w1, iv g, iv m, iv (run l g (k + 1)), iv k, iv c] := sqN st (by
        generalize run l g (k + 1) = z at *
        simp [q, qi])
      rw [for_step hs st2]
      exact bend_loop w0 w1 hm r (k + 1) (some (.int (k : Int))) (some (.int (c : Int))) hd2 hlt fun j hj => by
        by_cases e : j = k
        · rw [e]; exact hq
        · exact hn j (by omega)
theorem e_bend {l : List Nat} {g m : Nat} (hm : 0 < m) : F_bend_hour [(PyData.tuple (natW l)), .tuple [.int (g : Int), .int (m : Int)]] = .ok (.val (oW (bd l g m))) := by
  have e := bend_loop ((PyData.tuple (natW l))) (.tuple [.int (g : Int), .int (m : Int)]) (l := l) (g := g) hm l 0 none none rfl (Nat.zero_le _) (fun j hj => absurd hj (Nat.not_lt_zero _))
  refine runV_of ?_
  unfold m_bend_hour
  rw [show sdV 7 [(PyData.tuple (natW l)), .tuple [.int (g : Int), .int (m : Int)]] = [sv ((PyData.tuple (natW l))), sv (.tuple [.int (g : Int), .int (m : Int)]), none, none, none, none, none] from rfl]
  refine sqT (d' := [sv ((PyData.tuple (natW l))), sv (.tuple [.int (g : Int), .int (m : Int)]), iv g, iv m, none, none, none]) (by
    generalize natW l = wl at *
    simp) ?_
  refine sqT (d' := [sv ((PyData.tuple (natW l))), sv (.tuple [.int (g : Int), .int (m : Int)]), iv g, iv m, iv (0 : Nat), none, none]) (by
    generalize natW l = wl at *
    simp) ?_
  have hit : mEnumA (mCons (mVar 0) mNil) [sv ((PyData.tuple (natW l))), sv (.tuple [.int (g : Int), .int (m : Int)]), iv g, iv m, iv (0 : Nat), none, none] = .ok (enumW 0 (natW l)) [sv ((PyData.tuple (natW l))), sv (.tuple [.int (g : Int), .int (m : Int)]), iv g, iv m, iv (0 : Nat), none, none] := by
    generalize natW l = wl at *
    simp
  rcases e with ⟨i, d', e1, e2⟩ | ⟨e1, d', e2⟩
  · rw [e1]
    exact sqT1 (d' := d') (by rw [ev_for, hit]; exact e2)
  · rw [e1, show oW none = PyData.none from rfl]
    refine sqT (d' := d') (by rw [ev_for, hit]; exact e2) ?_
    exact retT (by simp; exact rfl)
/-! ### the law's -/
theorem win_cut {l : List Nat} {m i : Nat} (h1 : m ≤ i + 1) (h2 : i < l.length) : cutA (natW l) (some ((i : Int) - (m : Int) + 1)) (some ((i : Int) + 1)) = natW (win l (i + 1 - m) m) := by
  rw [show (i : Int) - (m : Int) + 1 = ((i + 1 - m : Nat) : Int) by omega, show (i : Int) + 1 = ((i + 1 : Nat) : Int) by omega, cut_mid _ _ _ (by omega) (by rw [natW_len]; omega), natW_drop, natW_take]
  unfold win
  congr 2
  omega
theorem l_bends {l : List Nat} {g m : Nat} (hm : 0 < m) (hl : l.length ≤ 1000) (hm2 : m ≤ 1000) : F__law_bends [(PyData.tuple (natW l)), .int (g : Int), .int (m : Int)] = .ok (.val (oW (bd l g m))) := by
  have hr := rg2 (lo := m - 1) (hi := l.length) (by omega) (by omega)
  have e := for_seek (g := store 3) (b := (mIf (mTest (mBin geW (mCallB minW (mCons (mSl (mVar 0) (mPart (mBin addW (mBin subW (mVar 3) (mVar 2)) (mC (.int 1)))) (mPart (mBin addW (mVar 3) (mC (.int 1))))) mNil)) (mVar 1))) (mRet (mVar 3)) mSkip)) (f0 := fun i : Nat => PyData.int (i : Int)) (R := fun i => .val (.int (i : Int))) (fun d => ∃ x3 : Option W, d = [sv ((PyData.tuple (natW l))), iv g, iv m, x3.map Slot.val]) (fun i => decide (m ≤ run l g (i + 1))) (l.length - (m - 1)) (m - 1)
    (d := [sv ((PyData.tuple (natW l))), iv g, iv m, none]) ⟨none, rfl⟩ (by
      rintro i d h1 h2 ⟨x3, rfl⟩
      have hw := win_cut (l := l) (m := m) (i := i) (by omega) (by omega)
      have hmin := min_l (win_ne (l := l) (f := i + 1 - m) (m := m) (by omega) hm)
      have hrw := run_win (l := l) (f := i + 1 - m) (m := m) (g := g) (by omega) hm
      rw [show i + 1 - m + m = i + 1 by omega] at hrw
      refine ⟨[sv ((PyData.tuple (natW l))), iv g, iv m, iv i], by cases x3 <;> simp, ?_⟩
      by_cases c : m ≤ run l g (i + 1)
      · have c2 := hrw.mp c
        refine .inl ⟨decide_eq_true c, [sv ((PyData.tuple (natW l))), iv g, iv m, iv i], ?_⟩
        generalize mnL (win l (i + 1 - m) m) = z at *
        generalize natW (win l (i + 1 - m) m) = zz at *
        generalize natW l = wl at *
        simp [hw, hmin, c2]
      · have c2 := Nat.lt_of_not_le fun z => c (hrw.mpr z)
        refine .inr ⟨decide_eq_false c, [sv ((PyData.tuple (natW l))), iv g, iv m, iv i], ?_, some (.int (i : Int)), rfl⟩
        generalize mnL (win l (i + 1 - m) m) = z at *
        generalize natW (win l (i + 1 - m) m) = zz at *
        generalize natW l = wl at *
        simp [hw, hmin, c2])
  refine runV_of ?_
  unfold m__law_bends
  rw [show sdV 4 [(PyData.tuple (natW l)), .int (g : Int), .int (m : Int)] = [sv ((PyData.tuple (natW l))), iv g, iv m, none] from rfl]
  have hlen : (natW l).length = l.length := natW_len l
  have hit : mRng2 (mCons (mBin subW (mVar 2) (mC (.int 1))) (mCons (mCallB lenW (mCons (mVar 0) mNil)) mNil)) [sv ((PyData.tuple (natW l))), iv g, iv m, none] = .ok ((List.range' (m - 1) (l.length - (m - 1))).map fun i : Nat => PyData.int (i : Int)) [sv ((PyData.tuple (natW l))), iv g, iv m, none] := by
    rw [show ((m - 1 : Nat) : Int) = (m : Int) - 1 by omega] at hr
    generalize natW l = wl at *
    simp [hlen, hr]
  rcases e with ⟨i, d', h1, h2, h3, h4, e2⟩ | ⟨h1, d', e2, x3, rfl⟩
  · have e1 : bd l g m = some i := bd_some.mpr ⟨of_decide_eq_true h3, by omega, fun j hj => by
      by_cases z : m - 1 ≤ j
      · exact of_decide_eq_false (h4 j z hj)
      · intro y
        have := (run_iff.mp y).1
        omega⟩
    rw [e1]
    exact sqT1 (d' := d') (by rw [ev_for, hit]; exact e2)
  · have e1 : bd l g m = none := bd_none.mpr fun j hj => by
      by_cases z : m - 1 ≤ j
      · exact of_decide_eq_false (h1 j z (by omega))
      · intro y
        have := (run_iff.mp y).1
        omega
    rw [e1, show oW none = PyData.none from rfl]
    refine sqT (d' := [sv ((PyData.tuple (natW l))), iv g, iv m, x3.map Slot.val]) (by rw [ev_for, hit]; exact e2) ?_
    exact retT (by simp; exact rfl)
theorem e_great {l : List Nat} {m : Nat} (hm : 0 < m) (hl : l.length ≤ 1000) (hm2 : m ≤ 1000) : F_greatest_bent [(PyData.tuple (natW l)), .int (m : Int)] = .ok (.val (if m ≤ l.length then .int (mxL (wins l m) : Nat) else .none)) := by
  have hlen : (natW l).length = l.length := natW_len l
  have hr : range1? [.int ((l.length : Int) - (m : Int) + 1)] = some ((List.range (l.length + 1 - m)).map fun i : Nat => PyData.int (i : Int)) := by
    rw [← rangeW_nat]
    exact range1_of (by omega) (by omega) (by omega)
  have lc := mLc_setA (v := 3) (it := mRng1 (mCons (mBin addW (mBin subW (mCallB lenW (mCons (mVar 0) mNil)) (mVar 1)) (mC (.int 1))) mNil)) (e := mCallB minW (mCons (mSl (mVar 0) (mPart (mVar 3)) (mPart (mBin addW (mVar 3) (mVar 1)))) mNil)) (d := [sv ((PyData.tuple (natW l))), iv m, none, none]) (List.range (l.length + 1 - m)) (fun i : Nat => PyData.int (i : Int)) (fun f => PyData.int (mnL (win l f m) : Nat)) (by
      generalize natW l = wl at *
      simp [hlen, hr]) (by simp) (by simp) (by simp; omega) (by
      intro f hf
      rw [List.mem_range] at hf
      have hw : cutA (natW l) (some (f : Int)) (some ((f : Int) + (m : Int))) = natW (win l f m) := by
        rw [show (f : Int) + (m : Int) = ((f + m : Nat) : Int) by omega, cut_mid _ _ _ (by omega) (by rw [natW_len]; omega), natW_drop, natW_take]
        unfold win
        congr 2
        omega
      have hmin := min_l (win_ne (l := l) (f := f) (m := m) (by omega) hm)
      generalize mnL (win l f m) = z at *
      generalize natW (win l f m) = zz at *
      generalize natW l = wl at *
      simp [hw, hmin])
  have lc2 : ((List.range (l.length + 1 - m)).map fun f => PyData.int (mnL (win l f m) : Nat)) = natW (wins l m) := by
    unfold wins natW
    rw [List.map_map]
    rfl
  rw [lc2] at lc
  have wl2 : (natW (wins l m)).length = l.length + 1 - m := by rw [natW_len]; unfold wins; rw [List.length_map, List.length_range]
  refine runV_of ?_
  unfold m_greatest_bent
  rw [show sdV 4 [(PyData.tuple (natW l)), .int (m : Int)] = [sv ((PyData.tuple (natW l))), iv m, none, none] from rfl]
  by_cases c : m ≤ l.length
  · rw [if_pos c]
    have mx := max_l (wins_ne c)
    have c2 : 0 < l.length + 1 - m := by omega
    generalize l.length + 1 - m = q at *
    generalize mxL (wins l m) = z at *
    generalize natW (wins l m) = zz at *
    generalize natW l = wl at *
    refine sqT (d' := [sv (.tuple wl), iv m, sv (.list zz), none]) (by simp [lc, -ev_lc]) ?_
    exact retT (by simp [wl2, mx, c2]; exact rfl)
  · rw [if_neg c]
    have c2 : l.length + 1 - m = 0 := by omega
    rw [c2] at wl2
    generalize natW (wins l m) = zz at *
    generalize natW l = wl at *
    refine sqT (d' := [sv (.tuple wl), iv m, sv (.list zz), none]) (by simp [lc, -ev_lc]) ?_
    exact retT (by simp [wl2]; exact rfl)
/-! ### what is a row of heats, what is a cone -/
theorem e_heats {l : List Nat} (h1 : 1 ≤ l.length) (h2 : l.length ≤ 48) (h : ∀ x ∈ l, x ≤ 1400) : F_are_heats [(PyData.tuple (natW l))] = .ok (.val (.bool true)) := by
  have hlen : (natW l).length = l.length := natW_len l
  have c1 : (1 : Int) ≤ (l.length : Int) := by omega
  have c2 : (l.length : Int) ≤ 48 := by omega
  have ga := mAll_of (vs := [1]) (it := mItS (mVar 0)) (g := store 1) (t := mYes) (e := mCallV F_is_number (mCons (mVar 1) (mCons (mC (.int 0)) (mCons (mC (.int 1400)) mNil)))) (d := [sv ((PyData.tuple (natW l))), none]) (d' := [sv ((PyData.tuple (natW l))), none]) l (fun x : Nat => PyData.int (x : Int)) (fun _ => true) (by simp; rfl) (by simp) fun x hx => by
    have f := e_num_in (v := (x : Int)) (a := 0) (b := 1400) ⟨by omega, by have := h x hx; omega⟩
    generalize natW l = wl at *
    exact ⟨[sv (.tuple wl), iv x], [sv (.tuple wl), iv x], [sv (.tuple wl), iv x], by simp, rfl, by simp [f], by simp⟩
  rw [List.all_eq_true.mpr (fun _ _ => rfl)] at ga
  refine runV_of ?_
  unfold m_are_heats
  rw [show sdV 2 [(PyData.tuple (natW l))] = [sv ((PyData.tuple (natW l))), none] from rfl]
  generalize natW l = wl at *
  refine sqT (d' := [sv (.tuple wl), none]) (by simp [hlen, c1, c2]) ?_
  exact retT (d' := [sv (.tuple wl), none]) (by simp [ga, -ev_gx])
theorem x_h1 (w : W) (h : isiW "tuple" w = some (.bool false)) : F_are_heats [w] = .ok (.val (.bool false)) := by
  refine runV_of ?_
  unfold m_are_heats
  exact sqT1 (by simp [h]; exact rfl)
theorem x_h2 (ws : List W) (h : ws.length = 0 ∨ 48 < ws.length) : F_are_heats [.tuple ws] = .ok (.val (.bool false)) := by
  refine runV_of ?_
  unfold m_are_heats
  by_cases c1 : (1 : Int) ≤ (ws.length : Int)
  · have c2 : ¬ (ws.length : Int) ≤ 48 := by omega
    exact sqT1 (by simp [c1, c2]; exact rfl)
  · exact sqT1 (by simp [c1]; exact rfl)
theorem x_h3 {w : W} {ws : List W} (hl : ws.length ≤ 47) (h : F_is_number [w, .int 0, .int 1400] = .ok (.val (.bool false))) : F_are_heats [.tuple (w :: ws)] = .ok (.val (.bool false)) := by
  have i1 : (1 : Int) ≤ (ws.length : Int) + 1 := by omega
  have i2 : (ws.length : Int) + 1 ≤ 48 := by omega
  refine runV_of ?_
  unfold m_are_heats
  refine sqT (by simp [i1, i2]; exact rfl) ?_
  exact retT (by simp [gxD_cons, h]; exact rfl)
theorem e_cone {g m : Nat} (hg : g ≤ 1400) (h1 : 1 ≤ m) (h2 : m ≤ 24) : F_is_cone [.tuple [.int (g : Int), .int (m : Int)]] = .ok (.val (.bool true)) := by
  have f1 := e_num_in (v := (g : Int)) (a := 0) (b := 1400) ⟨by omega, by omega⟩
  have f2 := e_num_in (v := (m : Int)) (a := 1) (b := 24) ⟨by omega, by omega⟩
  refine runV_of ?_
  unfold m_is_cone
  refine sqT (by simp [at0, f1]; exact rfl) ?_
  exact retT (by simp [at1, f2]; exact rfl)
theorem x_c1 (w : W) (h : isiW "tuple" w = some (.bool false)) : F_is_cone [w] = .ok (.val (.bool false)) := by
  refine runV_of ?_
  unfold m_is_cone
  exact sqT1 (by simp [h]; exact rfl)
theorem x_c2 (ws : List W) (h : ws.length ≠ 2) : F_is_cone [.tuple ws] = .ok (.val (.bool false)) := by
  have h' : ¬ (ws.length : Int) = 2 := by omega
  refine runV_of ?_
  unfold m_is_cone
  exact sqT1 (by simp [h']; exact rfl)
theorem x_c3 {x y : W} (h : F_is_number [x, .int 0, .int 1400] = .ok (.val (.bool false))) : F_is_cone [.tuple [x, y]] = .ok (.val (.bool false)) := by
  refine runV_of ?_
  unfold m_is_cone
  exact sqT1 (by simp [at0, h]; exact rfl)
theorem x_c4 {x y : W} (h1 : F_is_number [x, .int 0, .int 1400] = .ok (.val (.bool true))) (h : F_is_number [y, .int 1, .int 24] = .ok (.val (.bool false))) : F_is_cone [.tuple [x, y]] = .ok (.val (.bool false)) := by
  refine runV_of ?_
  unfold m_is_cone
  refine sqT (by simp [at0, h1]; exact rfl) ?_
  exact retT (by simp [at1, h]; exact rfl)
/-! ### steps and plans -/
def pr (p : Nat × Nat) : W := .tuple [.int (p.1 : Int), .int (p.2 : Int)]
abbrev pW (p : Plan) : W := .tuple (p.map pr)
def stepOk (q : Nat × Nat) : Prop := q.1 ≤ 1400 ∧ q.2 ≤ 24
theorem e_step {q : Nat × Nat} (h : stepOk q) : F_is_step [pr q] = .ok (.val (.bool true)) := by
  have f1 := e_num_in (v := (q.1 : Int)) (a := 0) (b := 1400) ⟨by omega, by have := h.1; omega⟩
  have f2 := e_num_in (v := (q.2 : Int)) (a := 0) (b := 24) ⟨by omega, by have := h.2; omega⟩
  refine runV_of ?_
  unfold m_is_step pr
  refine sqT (by simp [at0, f1]; exact rfl) ?_
  exact retT (by simp [at1, f2]; exact rfl)
theorem e_plan {p : Plan} (h1 : 1 ≤ p.length) (h8 : p.length ≤ 8) (h : ∀ q ∈ p, stepOk q) : F_is_plan [pW p] = .ok (.val (.bool true)) := by
  have c1 : (1 : Int) ≤ (p.length : Int) := by omega
  have c2 : (p.length : Int) ≤ 8 := by omega
  have ga := mAll_of (vs := [1]) (it := mItS (mVar 0)) (g := store 1) (t := mYes) (e := mCallV F_is_step (mCons (mVar 1) mNil)) (d := [sv (pW p), none]) (d' := [sv (pW p), none]) p pr (fun _ => true) (by simp) (by simp) fun q hq => by
    have f := e_step (h q hq)
    generalize pr q = wp at *
    exact ⟨[sv (pW p), sv wp], [sv (pW p), sv wp], [sv (pW p), sv wp], by simp, rfl, by simp [f], by simp⟩
  rw [List.all_eq_true.mpr (fun _ _ => rfl)] at ga
  refine runV_of ?_
  unfold m_is_plan
  rw [show sdV 2 [pW p] = [sv (pW p), none] from rfl]
  refine retT (d' := [sv (pW p), none]) ?_
  simp [c1, c2, ga, -ev_gx]
theorem x_p1 (w : W) (h : isiW "tuple" w = some (.bool false)) : F_is_plan [w] = .ok (.val (.bool false)) := by
  refine runV_of ?_
  unfold m_is_plan
  exact retT (by simp [h]; exact rfl)
theorem x_p2 (ws : List W) (h : ws.length = 0 ∨ 8 < ws.length) : F_is_plan [.tuple ws] = .ok (.val (.bool false)) := by
  refine runV_of ?_
  unfold m_is_plan
  by_cases c1 : (1 : Int) ≤ (ws.length : Int)
  · have c2 : ¬ (ws.length : Int) ≤ 8 := by omega
    exact retT (by simp [c1, c2]; exact rfl)
  · exact retT (by simp [c1]; exact rfl)
theorem x_p3 {w : W} (h : F_is_step [w] = .ok (.val (.bool false))) : F_is_plan [.tuple [w]] = .ok (.val (.bool false)) := by
  refine runV_of ?_
  unfold m_is_plan
  exact retT (by simp [gxD_cons, h]; exact rfl)
theorem x_s1 (w : W) (h : isiW "tuple" w = some (.bool false)) : F_is_step [w] = .ok (.val (.bool false)) := by
  refine runV_of ?_
  unfold m_is_step
  exact sqT1 (by simp [h]; exact rfl)
theorem x_s2 (ws : List W) (h : ws.length ≠ 2) : F_is_step [.tuple ws] = .ok (.val (.bool false)) := by
  have h' : ¬ (ws.length : Int) = 2 := by omega
  refine runV_of ?_
  unfold m_is_step
  exact sqT1 (by simp [h']; exact rfl)
theorem x_s3 {x y : W} (h : F_is_number [x, .int 0, .int 1400] = .ok (.val (.bool false))) : F_is_step [.tuple [x, y]] = .ok (.val (.bool false)) := by
  refine runV_of ?_
  unfold m_is_step
  exact sqT1 (by simp [at0, h]; exact rfl)
theorem x_s4 {x y : W} (h1 : F_is_number [x, .int 0, .int 1400] = .ok (.val (.bool true))) (h : F_is_number [y, .int 0, .int 24] = .ok (.val (.bool false))) : F_is_step [.tuple [x, y]] = .ok (.val (.bool false)) := by
  refine runV_of ?_
  unfold m_is_step
  refine sqT (by simp [at0, h1]; exact rfl) ?_
  exact retT (by simp [at1, h]; exact rfl)
end K26
end
section
set_option Elab.async false
set_option linter.all false
set_option maxRecDepth 100000
set_option maxHeartbeats 4000000
/-! k26: the heats of a plan -/
namespace K26
open Qd PySem L2
theorem natW_snoc (l : List Nat) (x : Nat) : natW (l ++ [x]) = natW l ++ [.int (x : Int)] := List.map_append ..
theorem natW_app (l m : List Nat) : natW (l ++ m) = natW l ++ natW m := List.map_append ..
theorem min_nxt {up a h : Nat} (dn : Nat) (c : a < h) : min2W [.int (h : Int), .int ((a : Int) + (up : Int))] = some (.int (nxt up dn a h : Nat)) := by
  rw [ev_min2]
  unfold nxt
  rw [if_pos c]
  congr 2
  split <;> omega
theorem max_nxt {dn a h : Nat} (up : Nat) (c : ¬ a < h) : max2W [.int (h : Int), .int ((a : Int) - (dn : Int))] = some (.int (nxt up dn a h : Nat)) := by
  rw [ev_max2]
  unfold nxt
  rw [if_neg c]
  congr 2
  split <;> omega
theorem way_b {up dn a b : Nat} (hu : 0 < up) (hd : 0 < dn) (ha : a ≤ 1400) (hb : b ≤ 1400) : way up dn a b ≤ 1400 := by
  have h1 : 1400 * 1 ≤ 1400 * up := Nat.mul_le_mul_left _ hu
  have h2 : 1400 * 1 ≤ 1400 * dn := Nat.mul_le_mul_left _ hd
  exact (way_le hu hd).mpr ⟨by omega, by omega⟩
theorem tot_b {up dn : Nat} (hu : 0 < up) (hd : 0 < dn) : ∀ {p : Plan} {a : Nat}, (∀ q ∈ p, stepOk q) → a ≤ 1400 → tot up dn a p ≤ 1424 * p.length
  | [], _, _, _ => Nat.le_refl _
  | (h, k) :: r, a, hp, ha => by
    obtain ⟨h1, h2⟩ := hp (h, k) List.mem_cons_self
    dsimp only at h1 h2
    have := tot_b hu hd (p := r) (a := h) (fun q hq => hp q (List.mem_cons_of_mem _ hq)) h1
    have := way_b hu hd ha h1
    show way up dn a h + k + tot up dn h r ≤ _
    rw [List.length_cons]
    omega
theorem pth_eq {up dn a h : Nat} (hu : 0 < up) (hd : 0 < dn) (c : a ≠ h) : pth up dn (way up dn a h) a h = nxt up dn a h :: pth up dn (way up dn (nxt up dn a h) h) (nxt up dn a h) h := by
  rw [way_nxt hu hd c]
  rfl
theorem pth_self {up dn a : Nat} (hu : 0 < up) (hd : 0 < dn) : pth up dn (way up dn a a) a a = [] := by rw [way_self hu hd]; rfl
theorem way_while {up dn h k : Nat} (hu : 0 < up) (hd : 0 < dn) (w0 w1 : W) (a : Nat) (acc : List Nat) (hl : (acc ++ pth up dn (way up dn a h) a h).length ≤ 100000) :
    mWhile (mTest (mBin neW (mVar 4) (mVar 6))) (mSeq (mAsg (store 4) (mIfE (mTest (mBin ltW (mVar 4) (mVar 6))) (mCallB min2W (mCons (mVar 6) (mCons (mBin addW (mVar 4) (mVar 2)) mNil))) (mCallB max2W (mCons (mVar 6) (mCons (mBin subW (mVar 4) (mVar 3)) mNil))))) (mAsg (store 5) (mTup (mStar (mVar 5) (mCons (mVar 4) mNil))))) [sv w0, sv w1, iv up, iv dn, iv a, sv ((PyData.tuple (natW acc))), iv h, iv k, none] = .next [sv w0, sv w1, iv up, iv dn, iv h, sv ((PyData.tuple (natW (acc ++ pth up dn (way up dn a h) a h)))), iv h, iv k, none] := by
  obtain ⟨d', e, rfl⟩ := mWhile_inv (t := (mTest (mBin neW (mVar 4) (mVar 6)))) (b := (mSeq (mAsg (store 4) (mIfE (mTest (mBin ltW (mVar 4) (mVar 6))) (mCallB min2W (mCons (mVar 6) (mCons (mBin addW (mVar 4) (mVar 2)) mNil))) (mCallB max2W (mCons (mVar 6) (mCons (mBin subW (mVar 4) (mVar 3)) mNil))))) (mAsg (store 5) (mTup (mStar (mVar 5) (mCons (mVar 4) mNil)))))) (fun d => ∃ (b : Nat) (bc : List Nat), bc ++ pth up dn (way up dn b h) b h = acc ++ pth up dn (way up dn a h) a h ∧ d = [sv w0, sv w1, iv up, iv dn, iv b, sv ((PyData.tuple (natW bc))), iv h, iv k, none])
    (fun d => d = [sv w0, sv w1, iv up, iv dn, iv h, sv ((PyData.tuple (natW (acc ++ pth up dn (way up dn a h) a h)))), iv h, iv k, none])
    (fun d => match d[4]? with
      | some (some (Slot.val (.int y))) => way up dn y.toNat h
      | _ => 0) [sv w0, sv w1, iv up, iv dn, iv a, sv ((PyData.tuple (natW acc))), iv h, iv k, none] ⟨a, acc, rfl, rfl⟩ (by
      rintro d ⟨b, bc, hb, rfl⟩
      by_cases c : b = h
      · subst c
        rw [pth_self hu hd, List.append_nil] at hb
        subst hb
        refine .inl ⟨[sv w0, sv w1, iv up, iv dn, iv b, sv ((PyData.tuple (natW (acc ++ pth up dn (way up dn a b) a b)))), iv b, iv k, none], ?_, rfl⟩
        generalize natW (acc ++ pth up dn (way up dn a b) a b) = wl at *
        simp
      · have ci : ¬ (b : Int) = (h : Int) := by omega
        have e := pth_eq hu hd c
        have ew := way_nxt hu hd c
        have hb2 : bc ++ [nxt up dn b h] ++ pth up dn (way up dn (nxt up dn b h) h) (nxt up dn b h) h = acc ++ pth up dn (way up dn a h) a h := by
          rw [← hb, e, List.append_assoc]
          rfl
        have hbl : (natW bc).length + 1 ≤ sizeLine := by
          have h1 : (bc ++ [nxt up dn b h]).length ≤ 100000 := by
            rw [← hb2, List.length_append] at hl
            omega
          rw [List.length_append, List.length_singleton] at h1
          rw [natW_len]
          exact le_line (by omega)
        refine .inr ⟨[sv w0, sv w1, iv up, iv dn, iv b, sv ((PyData.tuple (natW bc))), iv h, iv k, none], [sv w0, sv w1, iv up, iv dn, iv (nxt up dn b h), sv ((PyData.tuple (natW (bc ++ [nxt up dn b h])))), iv h, iv k, none], by
          generalize natW bc = wl at *
          simp [c, ci], .inl ?_, ⟨_, _, hb2, rfl⟩, ?_⟩
        · refine sqN (d' := [sv w0, sv w1, iv up, iv dn, iv (nxt up dn b h), sv ((PyData.tuple (natW bc))), iv h, iv k, none]) ?_ ?_
          · by_cases c2 : b < h
            · have f := min_nxt (up := up) dn c2
              generalize nxt up dn b h = z at *
              generalize natW bc = wl at *
              simp [c2, f, -ev_min2]
            · have f := max_nxt (dn := dn) up c2
              generalize nxt up dn b h = z at *
              generalize natW bc = wl at *
              simp [c2, f, -ev_max2]
          · rw [natW_snoc]
            generalize nxt up dn b h = z at *
            generalize natW bc = wl at *
            simp [hbl]
        · show way up dn ((nxt up dn b h : Nat) : Int).toNat h < way up dn ((b : Nat) : Int).toNat h
          rw [Int.toNat_natCast, Int.toNat_natCast, ew]
          omega)
  exact e
theorem plan_for {up dn : Nat} (hu : 0 < up) (hd : 0 < dn) (w0 w1 : W) : ∀ (p : Plan) (a : Nat) (acc : List Nat) (x6 x7 : Option W), (∀ q ∈ p, stepOk q) → (acc ++ hts up dn a p).length ≤ 100000 →
    ∃ (b : Nat) (y6 y7 : Option W), forD (gTupW 2 (gsCons (store 6) (gsCons (store 7) gsNil))) (mSeq (mWhile (mTest (mBin neW (mVar 4) (mVar 6))) (mSeq (mAsg (store 4) (mIfE (mTest (mBin ltW (mVar 4) (mVar 6))) (mCallB min2W (mCons (mVar 6) (mCons (mBin addW (mVar 4) (mVar 2)) mNil))) (mCallB max2W (mCons (mVar 6) (mCons (mBin subW (mVar 4) (mVar 3)) mNil))))) (mAsg (store 5) (mTup (mStar (mVar 5) (mCons (mVar 4) mNil)))))) (mAsg (store 5) (mBin addW (mVar 5) (mTupG [8] (mRng1 (mCons (mVar 7) mNil)) (store 8) mYes (mVar 6))))) (p.map pr) [sv w0, sv w1, iv up, iv dn, iv a, sv ((PyData.tuple (natW acc))), x6.map Slot.val, x7.map Slot.val, none] = .next [sv w0, sv w1, iv up, iv dn, iv b, sv ((PyData.tuple (natW (acc ++ hts up dn a p)))), y6.map Slot.val, y7.map Slot.val, none]
  | [], a, acc, x6, x7, _, _ => ⟨a, x6, x7, by
    rw [show hts up dn a [] = [] from rfl, List.append_nil]
    rfl⟩
  | (h, k) :: r, a, acc, x6, x7, hp, hl => by
    obtain ⟨h1, h2⟩ := hp (h, k) List.mem_cons_self
    dsimp only at h1 h2
    have eh : hts up dn a ((h, k) :: r) = pth up dn (way up dn a h) a h ++ (List.replicate k h ++ hts up dn h r) := rfl
    rw [eh, ← List.append_assoc, ← List.append_assoc] at hl
    have hl1 : (acc ++ pth up dn (way up dn a h) a h).length ≤ 100000 := by rw [List.length_append, List.length_append] at hl; omega
    have hl2 : (acc ++ pth up dn (way up dn a h) a h ++ List.replicate k h).length ≤ 100000 := by rw [List.length_append] at hl; omega
    have w := way_while (k := k) hu hd w0 w1 a acc hl1
    have hs : (gTupW 2 (gsCons (store 6) (gsCons (store 7) gsNil))) (pr (h, k)) [sv w0, sv w1, iv up, iv dn, iv a, sv ((PyData.tuple (natW acc))), x6.map Slot.val, x7.map Slot.val, none] = some [sv w0, sv w1, iv up, iv dn, iv a, sv ((PyData.tuple (natW acc))), iv h, iv k, none] := by
      generalize natW acc = wl at *
      cases x6 <;> cases x7 <;> simp [pr]
    have hr := rg k (by omega)
    have lc := mLc_setA (v := 8) (it := mRng1 (mCons (mVar 7) mNil)) (e := mVar 6) (d := [sv w0, sv w1, iv up, iv dn, iv h, sv ((PyData.tuple (natW (acc ++ pth up dn (way up dn a h) a h)))), iv h, iv k, none]) (List.range k) (fun i : Nat => PyData.int (i : Int)) (fun _ => PyData.int (h : Int)) (by
      generalize natW (acc ++ pth up dn (way up dn a h) a h) = wl at *
      simp [hr]) (by simp) (by simp) (by simp; omega) (fun i _ => by simp)
    have e1 : ((List.range k).map fun _ => PyData.int (h : Int)) = natW (List.replicate k h) := by
      unfold natW
      rw [List.map_replicate]
      exact List.map_const' ..|>.trans (by rw [List.length_range])
    rw [e1] at lc
    have ad := add_tup (xs := natW (acc ++ pth up dn (way up dn a h) a h)) (ys := natW (List.replicate k h)) (by
      rw [natW_len, natW_len, ← List.length_append]
      omega)
    rw [← natW_app] at ad
    have st : (mSeq (mWhile (mTest (mBin neW (mVar 4) (mVar 6))) (mSeq (mAsg (store 4) (mIfE (mTest (mBin ltW (mVar 4) (mVar 6))) (mCallB min2W (mCons (mVar 6) (mCons (mBin addW (mVar 4) (mVar 2)) mNil))) (mCallB max2W (mCons (mVar 6) (mCons (mBin subW (mVar 4) (mVar 3)) mNil))))) (mAsg (store 5) (mTup (mStar (mVar 5) (mCons (mVar 4) mNil)))))) (mAsg (store 5) (mBin addW (mVar 5) (mTupG [8] (mRng1 (mCons (mVar 7) mNil)) (store 8) mYes (mVar 6))))) [sv w0, sv w1, iv up, iv dn, iv a, sv ((PyData.tuple (natW acc))), iv h, iv k, none] = .next [sv w0, sv w1, iv up, iv dn, iv h, sv ((PyData.tuple (natW (acc ++ pth up dn (way up dn a h) a h ++ List.replicate k h)))), iv h, iv k, none] := by
      refine sqN w ?_
      generalize natW (acc ++ pth up dn (way up dn a h) a h ++ List.replicate k h) = w5 at *
      generalize natW (acc ++ pth up dn (way up dn a h) a h) = w4 at *
      generalize natW (List.replicate k h) = w3 at *
      simp [mTupG_lc, lc, toTup, ad, -ev_lc]
    obtain ⟨b, y6, y7, e⟩ := plan_for hu hd w0 w1 r h (acc ++ pth up dn (way up dn a h) a h ++ List.replicate k h) (some (.int (h : Int))) (some (.int (k : Int))) (fun q hq => hp q (List.mem_cons_of_mem _ hq)) hl
    refine ⟨b, y6, y7, ?_⟩
    rw [show List.map pr ((h, k) :: r) = pr (h, k) :: r.map pr from rfl, for_step hs st, eh, ← List.append_assoc, ← List.append_assoc]
    exact e
def planOk (p : Plan) : Prop := p.length ≤ 8 ∧ ∀ q ∈ p, stepOk q
theorem tot_n {up dn : Nat} (hu : 0 < up) (hd : 0 < dn) {p : Plan} (hp : planOk p) : tot up dn 0 p ≤ 11392 := by
  have := tot_b hu hd (a := 0) hp.2 (by omega)
  have := hp.1
  omega
theorem e_hp {up dn : Nat} (hu : 0 < up) (hd : 0 < dn) {p : Plan} (hp : planOk p) : F_heats_of_plan [pW p, .tuple [.int (up : Int), .int (dn : Int)]] = .ok (.val ((PyData.tuple (natW (hts up dn 0 p))))) := by
  have hl := hts_len up dn p 0
  have ht := tot_n hu hd hp
  obtain ⟨b, y6, y7, e⟩ := plan_for hu hd (pW p) (.tuple [.int (up : Int), .int (dn : Int)]) p 0 [] none none hp.2 (by rw [List.nil_append]; omega)
  rw [List.nil_append] at e
  refine runV_of ?_
  unfold m_heats_of_plan
  rw [show sdV 9 [pW p, .tuple [.int (up : Int), .int (dn : Int)]] = [sv (pW p), sv (.tuple [.int (up : Int), .int (dn : Int)]), none, none, none, none, none, none, none] from rfl]
  refine sqT (d' := [sv (pW p), sv (.tuple [.int (up : Int), .int (dn : Int)]), iv up, iv dn, none, none, none, none, none]) (by simp) ?_
  refine sqT (d' := [sv (pW p), sv (.tuple [.int (up : Int), .int (dn : Int)]), iv up, iv dn, iv (0 : Nat), none, none, none, none]) (by simp) ?_
  refine sqT (d' := [sv (pW p), sv (.tuple [.int (up : Int), .int (dn : Int)]), iv up, iv dn, iv (0 : Nat), sv (.tuple (natW [])), none, none, none]) (by simp [natW]) ?_
  refine sqT (d' := _) (by rw [ev_for]; simp only [ev_itS, ev_var, List.getElem?_cons_zero, Out.bind, ofOpt, ev_itemsT]; exact e) ?_
  exact retT (by simp; exact rfl)
theorem e_hours {up dn : Nat} (hu : 0 < up) (hd : 0 < dn) {p : Plan} (hp : planOk p) : F_hours_of_plan [pW p, .tuple [.int (up : Int), .int (dn : Int)]] = .ok (.val (.int (tot up dn 0 p : Nat))) := by
  have f := e_hp hu hd hp
  have hl : (natW (hts up dn 0 p)).length = tot up dn 0 p := by rw [natW_len, hts_len]
  generalize natW (hts up dn 0 p) = wl at *
  refine runV_of ?_
  unfold m_hours_of_plan
  exact retT (by simp [f, hl]; exact rfl)
/-! ### the law's heats -/
theorem up_while {up dn h k : Nat} (hu : 0 < up) (hd : 0 < dn) (w0 : W) (a : Nat) (acc : List Nat) (ha : a ≤ h) (hl : (acc ++ pth up dn (way up dn a h) a h).length ≤ 100000) :
    mWhile (mTest (mBin ltW (mVar 3) (mVar 5))) (mSeq (mAsg (store 3) (mBin addW (mVar 3) (mCallB min2W (mCons (mVar 1) (mCons (mBin subW (mVar 5) (mVar 3)) mNil))))) (mDrop (mMeth "list" appendW 4 (mCons (mVar 3) mNil)))) [sv w0, iv up, iv dn, iv a, some (.own ((PyData.list (natW acc)))), iv h, iv k] = .next [sv w0, iv up, iv dn, iv h, some (.own ((PyData.list (natW (acc ++ pth up dn (way up dn a h) a h))))), iv h, iv k] := by
  obtain ⟨d', e, rfl⟩ := mWhile_inv (t := (mTest (mBin ltW (mVar 3) (mVar 5)))) (b := (mSeq (mAsg (store 3) (mBin addW (mVar 3) (mCallB min2W (mCons (mVar 1) (mCons (mBin subW (mVar 5) (mVar 3)) mNil))))) (mDrop (mMeth "list" appendW 4 (mCons (mVar 3) mNil))))) (fun d => ∃ (b : Nat) (bc : List Nat), b ≤ h ∧ bc ++ pth up dn (way up dn b h) b h = acc ++ pth up dn (way up dn a h) a h ∧ d = [sv w0, iv up, iv dn, iv b, some (.own ((PyData.list (natW bc)))), iv h, iv k])
    (fun d => d = [sv w0, iv up, iv dn, iv h, some (.own ((PyData.list (natW (acc ++ pth up dn (way up dn a h) a h))))), iv h, iv k])
    (fun d => match d[3]? with
      | some (some (Slot.val (.int y))) => way up dn y.toNat h
      | _ => 0) [sv w0, iv up, iv dn, iv a, some (.own ((PyData.list (natW acc)))), iv h, iv k] ⟨a, acc, ha, rfl, rfl⟩ (by
      rintro d ⟨b, bc, bh, hb, rfl⟩
      by_cases c : b = h
      · subst c
        rw [pth_self hu hd, List.append_nil] at hb
        subst hb
        refine .inl ⟨[sv w0, iv up, iv dn, iv b, some (.own ((PyData.list (natW (acc ++ pth up dn (way up dn a b) a b))))), iv b, iv k], ?_, rfl⟩
        generalize natW (acc ++ pth up dn (way up dn a b) a b) = wl at *
        simp
      · have lt : b < h := by omega
        have e := pth_eq hu hd c
        have ew := way_nxt hu hd c
        have hb2 : bc ++ [nxt up dn b h] ++ pth up dn (way up dn (nxt up dn b h) h) (nxt up dn b h) h = acc ++ pth up dn (way up dn a h) a h := by
          rw [← hb, e, List.append_assoc]
          rfl
        have hbl : (natW bc).length < sizeLine := by
          have h1 : (bc ++ [nxt up dn b h]).length ≤ 100000 := by
            rw [← hb2, List.length_append] at hl
            omega
          rw [List.length_append, List.length_singleton] at h1
          rw [natW_len]
          exact lt_line (by omega)
        have f : min2W [.int (up : Int), .int ((h : Int) - (b : Int))] = some (.int ((nxt up dn b h : Nat) - (b : Nat) : Int)) := by
          rw [ev_min2]
          unfold nxt
          rw [if_pos lt]
          congr 2
          split <;> omega
        have nb : nxt up dn b h ≤ h := by unfold nxt; rw [if_pos lt]; omega
        refine .inr ⟨[sv w0, iv up, iv dn, iv b, some (.own ((PyData.list (natW bc)))), iv h, iv k], [sv w0, iv up, iv dn, iv (nxt up dn b h), some (.own ((PyData.list (natW (bc ++ [nxt up dn b h]))))), iv h, iv k], by
          generalize natW bc = wl at *
          simp [lt], .inl ?_, ⟨_, _, nb, hb2, rfl⟩, ?_⟩
        · refine sqN (d' := [sv w0, iv up, iv dn, iv (nxt up dn b h), some (.own ((PyData.list (natW bc)))), iv h, iv k]) ?_ ?_
          · have z : (b : Int) + ((nxt up dn b h : Nat) - (b : Nat) : Int) = (nxt up dn b h : Nat) := by omega
            generalize nxt up dn b h = y at *
            generalize natW bc = wl at *
            simp [f, z, -ev_min2]
          · rw [natW_snoc]
            generalize nxt up dn b h = z at *
            generalize natW bc = wl at *
            simp [hbl]
        · show way up dn ((nxt up dn b h : Nat) : Int).toNat h < way up dn ((b : Nat) : Int).toNat h
          rw [Int.toNat_natCast, Int.toNat_natCast, ew]
          omega)
  exact e
theorem dn_while {up dn h k : Nat} (hu : 0 < up) (hd : 0 < dn) (w0 : W) (a : Nat) (acc : List Nat) (ha : h ≤ a) (hl : (acc ++ pth up dn (way up dn a h) a h).length ≤ 100000) :
    mWhile (mTest (mBin gtW (mVar 3) (mVar 5))) (mSeq (mAsg (store 3) (mBin subW (mVar 3) (mCallB min2W (mCons (mVar 2) (mCons (mBin subW (mVar 3) (mVar 5)) mNil))))) (mDrop (mMeth "list" appendW 4 (mCons (mVar 3) mNil)))) [sv w0, iv up, iv dn, iv a, some (.own ((PyData.list (natW acc)))), iv h, iv k] = .next [sv w0, iv up, iv dn, iv h, some (.own ((PyData.list (natW (acc ++ pth up dn (way up dn a h) a h))))), iv h, iv k] := by
  obtain ⟨d', e, rfl⟩ := mWhile_inv (t := (mTest (mBin gtW (mVar 3) (mVar 5)))) (b := (mSeq (mAsg (store 3) (mBin subW (mVar 3) (mCallB min2W (mCons (mVar 2) (mCons (mBin subW (mVar 3) (mVar 5)) mNil))))) (mDrop (mMeth "list" appendW 4 (mCons (mVar 3) mNil))))) (fun d => ∃ (b : Nat) (bc : List Nat), h ≤ b ∧ bc ++ pth up dn (way up dn b h) b h = acc ++ pth up dn (way up dn a h) a h ∧ d = [sv w0, iv up, iv dn, iv b, some (.own ((PyData.list (natW bc)))), iv h, iv k])
    (fun d => d = [sv w0, iv up, iv dn, iv h, some (.own ((PyData.list (natW (acc ++ pth up dn (way up dn a h) a h))))), iv h, iv k])
    (fun d => match d[3]? with
      | some (some (Slot.val (.int y))) => way up dn y.toNat h
      | _ => 0) [sv w0, iv up, iv dn, iv a, some (.own ((PyData.list (natW acc)))), iv h, iv k] ⟨a, acc, ha, rfl, rfl⟩ (by
      rintro d ⟨b, bc, bh, hb, rfl⟩
      by_cases c : b = h
      · subst c
        rw [pth_self hu hd, List.append_nil] at hb
        subst hb
        refine .inl ⟨[sv w0, iv up, iv dn, iv b, some (.own ((PyData.list (natW (acc ++ pth up dn (way up dn a b) a b))))), iv b, iv k], ?_, rfl⟩
        generalize natW (acc ++ pth up dn (way up dn a b) a b) = wl at *
        simp
      · have lt : h < b := by omega
        have nlt : ¬ b < h := by omega
        have e := pth_eq hu hd c
        have ew := way_nxt hu hd c
        have hb2 : bc ++ [nxt up dn b h] ++ pth up dn (way up dn (nxt up dn b h) h) (nxt up dn b h) h = acc ++ pth up dn (way up dn a h) a h := by
          rw [← hb, e, List.append_assoc]
          rfl
        have hbl : (natW bc).length < sizeLine := by
          have h1 : (bc ++ [nxt up dn b h]).length ≤ 100000 := by
            rw [← hb2, List.length_append] at hl
            omega
          rw [List.length_append, List.length_singleton] at h1
          rw [natW_len]
          exact lt_line (by omega)
        have f : min2W [.int (dn : Int), .int ((b : Int) - (h : Int))] = some (.int ((b : Nat) - (nxt up dn b h : Nat) : Int)) := by
          rw [ev_min2]
          unfold nxt
          rw [if_neg nlt]
          congr 2
          split <;> omega
        have nb : h ≤ nxt up dn b h := by unfold nxt; rw [if_neg nlt]; omega
        refine .inr ⟨[sv w0, iv up, iv dn, iv b, some (.own ((PyData.list (natW bc)))), iv h, iv k], [sv w0, iv up, iv dn, iv (nxt up dn b h), some (.own ((PyData.list (natW (bc ++ [nxt up dn b h]))))), iv h, iv k], by
          generalize natW bc = wl at *
          simp [lt], .inl ?_, ⟨_, _, nb, hb2, rfl⟩, ?_⟩
        · refine sqN (d' := [sv w0, iv up, iv dn, iv (nxt up dn b h), some (.own ((PyData.list (natW bc)))), iv h, iv k]) ?_ ?_
          · have z : (b : Int) - ((b : Nat) - (nxt up dn b h : Nat) : Int) = (nxt up dn b h : Nat) := by omega
            generalize nxt up dn b h = y at *
            generalize natW bc = wl at *
            simp [f, z, -ev_min2]
          · rw [natW_snoc]
            generalize nxt up dn b h = z at *
            generalize natW bc = wl at *
            simp [hbl]
        · show way up dn ((nxt up dn b h : Nat) : Int).toNat h < way up dn ((b : Nat) : Int).toNat h
          rw [Int.toNat_natCast, Int.toNat_natCast, ew]
          omega)
  exact e
theorem none_while {t : M Bool} {b : MS} {d : SD} (h : t d = .ok false d) : mWhile t b d = .next d := by
  obtain ⟨d', e, rfl⟩ := mWhile_inv (t := t) (b := b) (fun x => x = d) (fun x => x = d) (fun _ => 0) d rfl (by rintro x rfl; exact .inl ⟨_, h, rfl⟩)
  exact e
theorem law_for {up dn : Nat} (hu : 0 < up) (hd : 0 < dn) (w0 : W) : ∀ (p : Plan) (a : Nat) (acc : List Nat) (x5 x6 : Option W), (∀ q ∈ p, stepOk q) → (acc ++ hts up dn a p).length ≤ 100000 →
    ∃ (b : Nat) (y5 y6 : Option W), forD (gTupW 2 (gsCons (store 5) (gsCons (store 6) gsNil))) (mSeq (mWhile (mTest (mBin ltW (mVar 3) (mVar 5))) (mSeq (mAsg (store 3) (mBin addW (mVar 3) (mCallB min2W (mCons (mVar 1) (mCons (mBin subW (mVar 5) (mVar 3)) mNil))))) (mDrop (mMeth "list" appendW 4 (mCons (mVar 3) mNil))))) (mSeq (mWhile (mTest (mBin gtW (mVar 3) (mVar 5))) (mSeq (mAsg (store 3) (mBin subW (mVar 3) (mCallB min2W (mCons (mVar 2) (mCons (mBin subW (mVar 3) (mVar 5)) mNil))))) (mDrop (mMeth "list" appendW 4 (mCons (mVar 3) mNil))))) (mAsgOwn 4 (mCatO 4 (mRepF (mLst (mCons (mVar 5) mNil)) (mVar 6)))))) (p.map pr) [sv w0, iv up, iv dn, iv a, some (.own ((PyData.list (natW acc)))), x5.map Slot.val, x6.map Slot.val] = .next [sv w0, iv up, iv dn, iv b, some (.own ((PyData.list (natW (acc ++ hts up dn a p))))), y5.map Slot.val, y6.map Slot.val]
  | [], a, acc, x5, x6, _, _ => ⟨a, x5, x6, by
    rw [show hts up dn a [] = [] from rfl, List.append_nil]
    rfl⟩
  | (h, k) :: r, a, acc, x5, x6, hp, hl => by
    obtain ⟨h1, h2⟩ := hp (h, k) List.mem_cons_self
    dsimp only at h1 h2
    have eh : hts up dn a ((h, k) :: r) = pth up dn (way up dn a h) a h ++ (List.replicate k h ++ hts up dn h r) := rfl
    rw [eh, ← List.append_assoc, ← List.append_assoc] at hl
    have hl1 : (acc ++ pth up dn (way up dn a h) a h).length ≤ 100000 := by rw [List.length_append, List.length_append] at hl; omega
    have hl2 : (acc ++ pth up dn (way up dn a h) a h ++ List.replicate k h).length ≤ 100000 := by rw [List.length_append] at hl; omega
    have hs : (gTupW 2 (gsCons (store 5) (gsCons (store 6) gsNil))) (pr (h, k)) [sv w0, iv up, iv dn, iv a, some (.own ((PyData.list (natW acc)))), x5.map Slot.val, x6.map Slot.val] = some [sv w0, iv up, iv dn, iv a, some (.own ((PyData.list (natW acc)))), iv h, iv k] := by
      generalize natW acc = wl at *
      cases x5 <;> cases x6 <;> simp [pr]
    have rp : mRepF (mLst (mCons (mVar 5) mNil)) (mVar 6) [sv w0, iv up, iv dn, iv h, some (.own ((PyData.list (natW (acc ++ pth up dn (way up dn a h) a h))))), iv h, iv k] = .ok ((PyData.list (natW (List.replicate k h)))) [sv w0, iv up, iv dn, iv h, some (.own ((PyData.list (natW (acc ++ pth up dn (way up dn a h) a h))))), iv h, iv k] := by
      rw [← rep_nat]
      exact rep_ev (d1 := [sv w0, iv up, iv dn, iv h, some (.own ((PyData.list (natW (acc ++ pth up dn (way up dn a h) a h))))), iv h, iv k]) (xs := [PyData.int (h : Int)]) (n := k) (by simp) (by simp) (by simp; omega) (by omega)
    have hz : (natW (acc ++ pth up dn (way up dn a h) a h)).length + (natW (List.replicate k h)).length ≤ sizeLine := by
      rw [natW_len, natW_len, ← List.length_append]
      exact le_line (by omega)
    have w12 : ∀ b : MS, mSeq (mWhile (mTest (mBin ltW (mVar 3) (mVar 5))) (mSeq (mAsg (store 3) (mBin addW (mVar 3) (mCallB min2W (mCons (mVar 1) (mCons (mBin subW (mVar 5) (mVar 3)) mNil))))) (mDrop (mMeth "list" appendW 4 (mCons (mVar 3) mNil))))) (mSeq (mWhile (mTest (mBin gtW (mVar 3) (mVar 5))) (mSeq (mAsg (store 3) (mBin subW (mVar 3) (mCallB min2W (mCons (mVar 2) (mCons (mBin subW (mVar 3) (mVar 5)) mNil))))) (mDrop (mMeth "list" appendW 4 (mCons (mVar 3) mNil))))) b) [sv w0, iv up, iv dn, iv a, some (.own ((PyData.list (natW acc)))), iv h, iv k] = b [sv w0, iv up, iv dn, iv h, some (.own ((PyData.list (natW (acc ++ pth up dn (way up dn a h) a h))))), iv h, iv k] := fun b => by
      by_cases c : a ≤ h
      · refine sqN (up_while (k := k) hu hd w0 a acc c hl1) (sqN (none_while ?_) rfl)
        generalize natW (acc ++ pth up dn (way up dn a h) a h) = wl at *
        simp
      · refine sqN (none_while ?_) (sqN (dn_while (k := k) hu hd w0 a acc (by omega) hl1) rfl)
        have c2 : ¬ a < h := by omega
        generalize natW acc = wl at *
        simp [c2]
    have st : (mSeq (mWhile (mTest (mBin ltW (mVar 3) (mVar 5))) (mSeq (mAsg (store 3) (mBin addW (mVar 3) (mCallB min2W (mCons (mVar 1) (mCons (mBin subW (mVar 5) (mVar 3)) mNil))))) (mDrop (mMeth "list" appendW 4 (mCons (mVar 3) mNil))))) (mSeq (mWhile (mTest (mBin gtW (mVar 3) (mVar 5))) (mSeq (mAsg (store 3) (mBin subW (mVar 3) (mCallB min2W (mCons (mVar 2) (mCons (mBin subW (mVar 3) (mVar 5)) mNil))))) (mDrop (mMeth "list" appendW 4 (mCons (mVar 3) mNil))))) (mAsgOwn 4 (mCatO 4 (mRepF (mLst (mCons (mVar 5) mNil)) (mVar 6)))))) [sv w0, iv up, iv dn, iv a, some (.own ((PyData.list (natW acc)))), iv h, iv k] = .next [sv w0, iv up, iv dn, iv h, some (.own ((PyData.list (natW (acc ++ pth up dn (way up dn a h) a h ++ List.replicate k h))))), iv h, iv k] := by
      rw [w12, natW_app (acc ++ pth up dn (way up dn a h) a h)]
      generalize natW (acc ++ pth up dn (way up dn a h) a h) = w4 at *
      generalize natW (List.replicate k h) = w3 at *
      simp [rp, hz, -ev_repF]
    obtain ⟨b, y5, y6, e⟩ := law_for hu hd w0 r h (acc ++ pth up dn (way up dn a h) a h ++ List.replicate k h) (some (.int (h : Int))) (some (.int (k : Int))) (fun q hq => hp q (List.mem_cons_of_mem _ hq)) hl
    refine ⟨b, y5, y6, ?_⟩
    rw [show List.map pr ((h, k) :: r) = pr (h, k) :: r.map pr from rfl, for_step hs st, eh, ← List.append_assoc, ← List.append_assoc]
    exact e
theorem l_heats {up dn : Nat} (hu : 0 < up) (hd : 0 < dn) {p : Plan} (hp : planOk p) : F__law_heats [pW p, .int (up : Int), .int (dn : Int)] = .ok (.val ((PyData.tuple (natW (hts up dn 0 p))))) := by
  have hl := hts_len up dn p 0
  have ht := tot_n hu hd hp
  obtain ⟨b, y5, y6, e⟩ := law_for hu hd (pW p) p 0 [] none none hp.2 (by rw [List.nil_append]; omega)
  rw [List.nil_append] at e
  refine runV_of ?_
  unfold m__law_heats
  rw [show sdV 7 [pW p, .int (up : Int), .int (dn : Int)] = [sv (pW p), iv up, iv dn, none, none, none, none] from rfl]
  refine sqT (d' := [sv (pW p), iv up, iv dn, iv (0 : Nat), some (.own (.list (natW []))), none, none]) (by simp [natW]) ?_
  refine sqT (d' := _) (by rw [ev_for]; simp only [ev_itS, ev_var, List.getElem?_cons_zero, Out.bind, ofOpt, ev_itemsT]; exact e) ?_
  generalize natW (hts up dn 0 p) = wl at *
  refine frzT (d' := [sv (pW p), iv up, iv dn, iv b, sv (.list wl), y5.map Slot.val, y6.map Slot.val]) (by simp) ?_
  exact retT (by simp; exact rfl)
end K26
end
section
set_option Elab.async false
set_option linter.all false
set_option maxRecDepth 100000
set_option maxHeartbeats 4000000
/-! k26: the search -/
namespace K26
open Qd PySem L2
@[simp] theorem ev_din (neg : Bool) (b a : M W) (d : SD) : mDIn neg b a d = (b d).bind fun k d1 => (a d1).bind fun u d2 => match dfind u k with
  | some o => .ok (.bool (if neg then !o.isSome else o.isSome)) d2
  | none => .bad := rfl
theorem whileF_ret {t : M Bool} {b : MS} {R : Slot} (P : SD → Prop) (μ : SD → Nat)
    (h : ∀ d, P d → ∃ d1, t d = .ok true d1 ∧ ((∃ d2, b d1 = .ret R d2) ∨ ∃ d2, b d1 = .next d2 ∧ P d2 ∧ μ d2 < μ d)) : ∀ (n : Nat) (d : SD), P d → μ d < n → ∃ d', whileF t b n d = some (.ret R d')
  | 0, d, _, hn => absurd hn (Nat.not_lt_zero _)
  | n + 1, d, hp, hn => by
    obtain ⟨d1, e, h2⟩ := h d hp
    rcases h2 with ⟨d2, eb⟩ | ⟨d2, eb, hp2, lt⟩
    · refine ⟨d2, ?_⟩
      unfold whileF
      rw [e]
      dsimp only
      rw [eb]
    · obtain ⟨d', e2⟩ := whileF_ret P μ h n d2 hp2 (by omega)
      refine ⟨d', ?_⟩
      unfold whileF
      rw [e]
      dsimp only
      rw [eb]
      exact e2
theorem mWhile_ret {t : M Bool} {b : MS} {R : Slot} (P : SD → Prop) (μ : SD → Nat) (d : SD) (hp : P d)
    (h : ∀ d, P d → ∃ d1, t d = .ok true d1 ∧ ((∃ d2, b d1 = .ret R d2) ∨ ∃ d2, b d1 = .next d2 ∧ P d2 ∧ μ d2 < μ d)) : ∃ d', mWhile t b d = .ret R d' := by
  obtain ⟨d', e⟩ := whileF_ret P μ h _ d hp (Nat.lt_succ_self _)
  exact ⟨d', mWhile_eq e⟩
theorem mLc_set2 {α : Type} {a b : Nat} {it : M (List W)} {e : M W} {d : SD} (l : List α) (f0 f x y : α → W) (hf : ∀ p, f0 p = .tuple [x p, y p]) (hit : it d = .ok (l.map f0) d) (ha : a < d.length) (hb : b < d.length) (hab : a ≠ b) (hc : cleanD d [a, b] = true) (hl : l.length ≤ 16000000)
    (h : ∀ p ∈ l, e ((d.set a (some (.val (x p)))).set b (some (.val (y p)))) = .ok (f p) ((d.set a (some (.val (x p)))).set b (some (.val (y p))))) : mLc [a, b] it (gTupW 2 (gsCons (store a) (gsCons (store b) gsNil))) mYes e d = .ok (.list (l.map f)) d := by
  have w0 : wipeD d [a, b] = (d.set b none).set a none := rfl
  have wS : ∀ u v : Option Slot, wipeD ((d.set a u).set b v) [a, b] = wipeD d [a, b] := fun u v => by
    show (((d.set a u).set b v).set b none).set a none = (d.set b none).set a none
    rw [List.set_set, List.set_comm _ _ hab, List.set_set]
  refine mLc_all l f0 f hit hc (le_line hl) fun p hp => ?_
  refine ⟨_, _, _, ?_, rfl, h p hp, wS _ _⟩
  have e1 : ((d.set b none).set a none)[a]? = some none := List.getElem?_set_self (by rw [List.length_set]; exact ha)
  have e2 : ((d.set b none).set a (some (.val (x p))))[b]? = some none := by rw [List.getElem?_set_ne hab, List.getElem?_set_self hb]
  rw [hf, ev_tupT, if_pos (show [x p, y p].length = 2 from rfl), ev_gsCons, ev_store, w0, e1]
  dsimp only [Option.bind]
  rw [List.set_set, ev_gsCons, ev_store, e2]
  dsimp only [Option.bind]
  rw [ev_gsNil, List.set_comm _ _ hab, List.set_set, List.set_comm _ _ (Ne.symm hab)]
theorem at2 (w x y : W) (r : List W) : atI (w :: x :: y :: r) 2 = some y := show atI (w :: x :: y :: r) ((2 : Nat) : Int) = some y from atI_nat rfl
/-! ### states, and what was seen -/
def tW (y : St) : W := .tuple [.int (y.1 : Int), .int (y.2.1 : Int), .int (y.2.2 : Int)]
def sD (S : List St) : W := .dict (tagT :: S.map fun y => (tW y, PyData.int 1))
theorem isT_t (y : St) : isT (tW y) = some [.inl (y.1 : Int), .inl (y.2.1 : Int), .inl (y.2.2 : Int)] := rfl
theorem eT_t (y : St) : eT [.inl (y.1 : Int), .inl (y.2.1 : Int), .inl (y.2.2 : Int)] = tW y := rfl
theorem tkey_eq (z y : St) : decide (isT (tW z) = some [.inl (y.1 : Int), .inl (y.2.1 : Int), .inl (y.2.2 : Int)]) = (z == y) := by
  rw [isT_t]
  by_cases h : z = y
  · subst h; simp
  · have : ¬ ((some [Sum.inl (z.1 : Int), .inl (z.2.1 : Int), .inl (z.2.2 : Int)] : Option (List Key)) = some [.inl (y.1 : Int), .inl (y.2.1 : Int), .inl (y.2.2 : Int)]) := fun e => by
      injection e with e
      injection e with e1 e
      injection e with e2 e
      injection e with e3 e
      injection e1 with e1
      injection e2 with e2
      injection e3 with e3
      apply h
      obtain ⟨z1, z2, z3⟩ := z
      obtain ⟨y1, y2, y3⟩ := y
      dsimp only at e1 e2 e3
      have : z1 = y1 := by omega
      have : z2 = y2 := by omega
      have : z3 = y3 := by omega
      subst_vars
      rfl
    rw [decide_eq_false this]
    simp [h]
theorem dfind_sD (S : List St) (y : St) : dfind (sD S) (tW y) = some (if y ∈ S then some (.int 1) else none) := by
  show (isT (tW y)).map (getG isT (S.map fun y => (tW y, PyData.int 1))) = _
  rw [isT_t]
  show some (getG isT _ _) = _
  congr 1
  unfold getG
  rw [List.find?_map]
  have e : ((fun kv : W × W => decide (isT kv.1 = some [Sum.inl (y.1 : Int), .inl (y.2.1 : Int), .inl (y.2.2 : Int)])) ∘ fun z : St => (tW z, PyData.int 1)) = fun z => z == y := by
    funext z; exact tkey_eq z y
  rw [e]
  by_cases c : y ∈ S
  · rw [if_pos c]
    cases q : S.find? fun z => z == y with
    | none => exact absurd (List.find?_eq_none.mp q y c) (by simp)
    | some z => rfl
  · rw [if_neg c]
    cases q : S.find? fun z => z == y with
    | none => rfl
    | some z =>
      have h1 := List.mem_of_find?_eq_some q
      have h2 := List.find?_some q
      have : z = y := by simpa using h2
      subst this
      exact absurd h1 c
theorem dput_sD (S : List St) (y : St) (h : S.length < 16000000) (hn : y ∉ S) : dput (sD S) (tW y) (.int 1) = some (sD (S ++ [y])) := by
  show (match isT (tW y) with
      | some t => if (S.map fun y => (tW y, PyData.int 1)).length < sizeLine then some (PyData.dict (tagT :: putG isT eT (S.map fun y => (tW y, PyData.int 1)) t (.int 1))) else none
      | none => none) = _
  rw [isT_t]
  dsimp only
  rw [List.length_map, if_pos (lt_line h)]
  unfold putG sD
  rw [List.any_map]
  have e : ((fun kv : W × W => decide (isT kv.1 = some [Sum.inl (y.1 : Int), .inl (y.2.1 : Int), .inl (y.2.2 : Int)])) ∘ fun z : St => (tW z, PyData.int 1)) = fun z => z == y := by
    funext z; exact tkey_eq z y
  rw [e]
  have q : ¬ (S.any fun z => z == y) = true := fun z => by
    obtain ⟨x, hx, e⟩ := List.any_eq_true.mp z
    have : x = y := by simpa using e
    subst this
    exact hn hx
  rw [if_neg q, List.map_append, eT_t]
  rfl
/-! ### one state goes on -/
theorem get_step {p : Plan} {s h k : Nat} {r : Plan} (e : p.drop s = (h, k) :: r) : atI (p.map pr) (s : Int) = some (.tuple [.int (h : Int), .int (k : Int)]) :=
  atI_nat (by rw [List.getElem?_map, (drop_succ e).2.2]; rfl)
theorem adv_while (o0 o5 o6 o7 o8 o10 o11 o13 o14 : Option Slot) {p : Plan} {up dn tp : Nat} (a s held : Nat) (hs : s ≤ p.length) :
    mWhile (mAndT (mTest (mBin ltW (mBin ixW (mVar 12) (mC (.int 1))) (mCallB lenW (mCons (mVar 3) mNil)))) (mAndT (mTest (mBin eqW (mBin ixW (mBin ixW (mVar 3) (mBin ixW (mVar 12) (mC (.int 1)))) (mC (.int 0))) (mVar 9))) (mTest (mBin geW (mBin ixW (mVar 12) (mC (.int 2))) (mBin ixW (mBin ixW (mVar 3) (mBin ixW (mVar 12) (mC (.int 1)))) (mC (.int 1))))))) (mAsg (store 12) (mTup (mCons (mVar 9) (mCons (mBin addW (mBin ixW (mVar 12) (mC (.int 1))) (mC (.int 1))) (mCons (mC (.int 0)) mNil))))) [o0, iv up, iv dn, sv (.list (p.map pr)), iv tp, o5, o6, o7, o8, iv a, o10, o11, sv (tW (a, s, held)), o13, o14, none] = .next [o0, iv up, iv dn, sv (.list (p.map pr)), iv tp, o5, o6, o7, o8, iv a, o10, o11, sv (tW (a, adv a (p.drop s) s held)), o13, o14, none] := by
  have hlen : (p.map pr).length = p.length := List.length_map ..
  obtain ⟨d', e, rfl⟩ := mWhile_inv (t := (mAndT (mTest (mBin ltW (mBin ixW (mVar 12) (mC (.int 1))) (mCallB lenW (mCons (mVar 3) mNil)))) (mAndT (mTest (mBin eqW (mBin ixW (mBin ixW (mVar 3) (mBin ixW (mVar 12) (mC (.int 1)))) (mC (.int 0))) (mVar 9))) (mTest (mBin geW (mBin ixW (mVar 12) (mC (.int 2))) (mBin ixW (mBin ixW (mVar 3) (mBin ixW (mVar 12) (mC (.int 1)))) (mC (.int 1)))))))) (b := (mAsg (store 12) (mTup (mCons (mVar 9) (mCons (mBin addW (mBin ixW (mVar 12) (mC (.int 1))) (mC (.int 1))) (mCons (mC (.int 0)) mNil)))))) (fun d => ∃ (s' held' : Nat), s' ≤ p.length ∧ adv a (p.drop s') s' held' = adv a (p.drop s) s held ∧ d = [o0, iv up, iv dn, sv (.list (p.map pr)), iv tp, o5, o6, o7, o8, iv a, o10, o11, sv (tW (a, s', held')), o13, o14, none])
    (fun d => d = [o0, iv up, iv dn, sv (.list (p.map pr)), iv tp, o5, o6, o7, o8, iv a, o10, o11, sv (tW (a, adv a (p.drop s) s held)), o13, o14, none])
    (fun d => match d[12]? with
      | some (some (Slot.val (.tuple [_, .int y, _]))) => p.length - y.toNat
      | _ => 0) [o0, iv up, iv dn, sv (.list (p.map pr)), iv tp, o5, o6, o7, o8, iv a, o10, o11, sv (tW (a, s, held)), o13, o14, none] ⟨s, held, hs, rfl, rfl⟩ (by
      rintro d ⟨s', held', hs', ht, rfl⟩
      cases e : p.drop s' with
      | nil =>
        have hl : p.length ≤ s' := List.drop_eq_nil_iff.mp e
        have hn : ¬ s' < p.length := by omega
        rw [e] at ht
        have ht : (s', held') = adv a (p.drop s) s held := ht
        refine .inl ⟨[o0, iv up, iv dn, sv (.list (p.map pr)), iv tp, o5, o6, o7, o8, iv a, o10, o11, sv (tW (a, s', held')), o13, o14, none], ?_, by rw [← ht]⟩
        generalize p.map pr = wp at *
        simp [tW, at1, hlen, hn]
      | cons q r =>
        obtain ⟨h, k⟩ := q
        obtain ⟨d1, d2, d3⟩ := drop_succ e
        have gs := get_step e
        rw [e] at ht
        have ht : (if h = a ∧ k ≤ held' then adv a r (s' + 1) 0 else (s', held')) = adv a (p.drop s) s held := ht
        by_cases c : h = a ∧ k ≤ held'
        · rw [if_pos c] at ht
          obtain ⟨rfl, c2⟩ := c
          refine .inr ⟨[o0, iv up, iv dn, sv (.list (p.map pr)), iv tp, o5, o6, o7, o8, iv h, o10, o11, sv (tW (h, s', held')), o13, o14, none], [o0, iv up, iv dn, sv (.list (p.map pr)), iv tp, o5, o6, o7, o8, iv h, o10, o11, sv (tW (h, s' + 1, 0)), o13, o14, none], ?_, .inl ?_, ⟨s' + 1, 0, d2, by rw [d1]; exact ht, rfl⟩, ?_⟩
          · generalize p.map pr = wp at *
            simp [tW, at0, at1, at2, hlen, d2, gs, c2]
          · generalize p.map pr = wp at *
            simp [tW, at1]
          · show p.length - ((s' + 1 : Nat) : Int).toNat < p.length - ((s' : Nat) : Int).toNat
            rw [Int.toNat_natCast, Int.toNat_natCast]
            omega
        · rw [if_neg c] at ht
          refine .inl ⟨[o0, iv up, iv dn, sv (.list (p.map pr)), iv tp, o5, o6, o7, o8, iv a, o10, o11, sv (tW (a, s', held')), o13, o14, none], ?_, by rw [← ht]⟩
          by_cases c1 : h = a
          · subst c1
            have c2 : held' < k := by
              rcases Nat.lt_or_ge held' k with z | z
              · exact z
              · exact absurd ⟨rfl, z⟩ c
            generalize p.map pr = wp at *
            simp [tW, at0, at1, at2, hlen, d2, gs, c2]
          · have c1i : ¬ (h : Int) = (a : Int) := by omega
            generalize p.map pr = wp at *
            simp [tW, at0, at1, at2, hlen, d2, gs, c1, c1i])
  exact e
theorem go_for (o0 o5 o7 o13 : Option Slot) {p : Plan} {up dn tp t : Nat} : ∀ (E Rd : List St) (x9 x10 x11 x12 x14 : Option W), (∀ x ∈ E, x.2.1 ≤ p.length) → E.length + Rd.length ≤ 1000 →
    ((∃ x ∈ E, (advS p x).2.1 = p.length) ∧ ∃ d', forD (gTupW 3 (gsCons (store 9) (gsCons (store 10) (gsCons (store 11) gsNil)))) (mSeq (mAsg (store 12) (mTup (mCons (mVar 9) (mCons (mVar 10) (mCons (mVar 11) mNil))))) (mSeq (mWhile (mAndT (mTest (mBin ltW (mBin ixW (mVar 12) (mC (.int 1))) (mCallB lenW (mCons (mVar 3) mNil)))) (mAndT (mTest (mBin eqW (mBin ixW (mBin ixW (mVar 3) (mBin ixW (mVar 12) (mC (.int 1)))) (mC (.int 0))) (mVar 9))) (mTest (mBin geW (mBin ixW (mVar 12) (mC (.int 2))) (mBin ixW (mBin ixW (mVar 3) (mBin ixW (mVar 12) (mC (.int 1)))) (mC (.int 1))))))) (mAsg (store 12) (mTup (mCons (mVar 9) (mCons (mBin addW (mBin ixW (mVar 12) (mC (.int 1))) (mC (.int 1))) (mCons (mC (.int 0)) mNil)))))) (mSeq (mIf (mTest (mBin eqW (mBin ixW (mVar 12) (mC (.int 1))) (mCallB lenW (mCons (mVar 3) mNil)))) (mRet (mVar 6)) mSkip) (mDrop (mMeth "list" appendW 8 (mCons (mVar 12) mNil)))))) (E.map tW) [o0, iv up, iv dn, sv (.list (p.map pr)), iv tp, o5, iv t, o7, some (.own (.list (Rd.map tW))), x9.map Slot.val, x10.map Slot.val, x11.map Slot.val, x12.map Slot.val, o13, x14.map Slot.val, none] = .ret (.val (.int (t : Int))) d') ∨
      ((∀ x ∈ E, (advS p x).2.1 ≠ p.length) ∧ ∃ (y9 y10 y11 y12 : Option W), forD (gTupW 3 (gsCons (store 9) (gsCons (store 10) (gsCons (store 11) gsNil)))) (mSeq (mAsg (store 12) (mTup (mCons (mVar 9) (mCons (mVar 10) (mCons (mVar 11) mNil))))) (mSeq (mWhile (mAndT (mTest (mBin ltW (mBin ixW (mVar 12) (mC (.int 1))) (mCallB lenW (mCons (mVar 3) mNil)))) (mAndT (mTest (mBin eqW (mBin ixW (mBin ixW (mVar 3) (mBin ixW (mVar 12) (mC (.int 1)))) (mC (.int 0))) (mVar 9))) (mTest (mBin geW (mBin ixW (mVar 12) (mC (.int 2))) (mBin ixW (mBin ixW (mVar 3) (mBin ixW (mVar 12) (mC (.int 1)))) (mC (.int 1))))))) (mAsg (store 12) (mTup (mCons (mVar 9) (mCons (mBin addW (mBin ixW (mVar 12) (mC (.int 1))) (mC (.int 1))) (mCons (mC (.int 0)) mNil)))))) (mSeq (mIf (mTest (mBin eqW (mBin ixW (mVar 12) (mC (.int 1))) (mCallB lenW (mCons (mVar 3) mNil)))) (mRet (mVar 6)) mSkip) (mDrop (mMeth "list" appendW 8 (mCons (mVar 12) mNil)))))) (E.map tW) [o0, iv up, iv dn, sv (.list (p.map pr)), iv tp, o5, iv t, o7, some (.own (.list (Rd.map tW))), x9.map Slot.val, x10.map Slot.val, x11.map Slot.val, x12.map Slot.val, o13, x14.map Slot.val, none] = .next [o0, iv up, iv dn, sv (.list (p.map pr)), iv tp, o5, iv t, o7, some (.own (.list ((Rd ++ E.map (advS p)).map tW))), y9.map Slot.val, y10.map Slot.val, y11.map Slot.val, y12.map Slot.val, o13, x14.map Slot.val, none])
  | [], Rd, x9, x10, x11, x12, x14, _, _ => .inr ⟨(fun x hx => by cases hx), x9, x10, x11, x12, by rw [show Rd ++ List.map (advS p) [] = Rd from List.append_nil Rd]; rfl⟩
  | x :: E, Rd, x9, x10, x11, x12, x14, hE, hl => by
    rw [List.length_cons] at hl
    have hlen : (p.map pr).length = p.length := List.length_map ..
    have hx := hE x List.mem_cons_self
    have w := adv_while (p := p) (up := up) (dn := dn) (tp := tp) o0 o5 (iv t) o7 (some (.own (.list (Rd.map tW)))) (iv x.2.1) (iv x.2.2) o13 (x14.map Slot.val) x.1 x.2.1 x.2.2 hx
    have hs : (gTupW 3 (gsCons (store 9) (gsCons (store 10) (gsCons (store 11) gsNil)))) (tW x) [o0, iv up, iv dn, sv (.list (p.map pr)), iv tp, o5, iv t, o7, some (.own (.list (Rd.map tW))), x9.map Slot.val, x10.map Slot.val, x11.map Slot.val, x12.map Slot.val, o13, x14.map Slot.val, none] = some [o0, iv up, iv dn, sv (.list (p.map pr)), iv tp, o5, iv t, o7, some (.own (.list (Rd.map tW))), iv x.1, iv x.2.1, iv x.2.2, x12.map Slot.val, o13, x14.map Slot.val, none] := by
      generalize p.map pr = wp at *
      generalize Rd.map tW = wr at *
      cases x9 <;> cases x10 <;> cases x11 <;> simp [tW]
    have s1 : mAsg (store 12) (mTup (mCons (mVar 9) (mCons (mVar 10) (mCons (mVar 11) mNil)))) [o0, iv up, iv dn, sv (.list (p.map pr)), iv tp, o5, iv t, o7, some (.own (.list (Rd.map tW))), iv x.1, iv x.2.1, iv x.2.2, x12.map Slot.val, o13, x14.map Slot.val, none] = .next [o0, iv up, iv dn, sv (.list (p.map pr)), iv tp, o5, iv t, o7, some (.own (.list (Rd.map tW))), iv x.1, iv x.2.1, iv x.2.2, sv (tW (x.1, x.2.1, x.2.2)), o13, x14.map Slot.val, none] := by
      generalize p.map pr = wp at *
      generalize Rd.map tW = wr at *
      cases x12 <;> simp [tW]
    have es : advS p x = (x.1, adv x.1 (p.drop x.2.1) x.2.1 x.2.2) := rfl
    rw [← es] at w
    by_cases c : (advS p x).2.1 = p.length
    · refine .inl ⟨⟨x, List.mem_cons_self, c⟩, [o0, iv up, iv dn, sv (.list (p.map pr)), iv tp, o5, iv t, o7, some (.own (.list (Rd.map tW))), iv x.1, iv x.2.1, iv x.2.2, sv (tW (advS p x)), o13, x14.map Slot.val, none], for_ret hs (sqN s1 (sqN w ?_))⟩
      have ci : ((advS p x).2.1 : Int) = (p.length : Int) := by omega
      generalize advS p x = y at *
      generalize p.map pr = wp at *
      generalize Rd.map tW = wr at *
      simp [tW, at1, hlen, ci]
    · have ci : ¬ ((advS p x).2.1 : Int) = (p.length : Int) := by omega
      have hap : (Rd.map tW).length < sizeLine := by rw [List.length_map]; exact lt_line (by omega)
      have st : (mSeq (mAsg (store 12) (mTup (mCons (mVar 9) (mCons (mVar 10) (mCons (mVar 11) mNil))))) (mSeq (mWhile (mAndT (mTest (mBin ltW (mBin ixW (mVar 12) (mC (.int 1))) (mCallB lenW (mCons (mVar 3) mNil)))) (mAndT (mTest (mBin eqW (mBin ixW (mBin ixW (mVar 3) (mBin ixW (mVar 12) (mC (.int 1)))) (mC (.int 0))) (mVar 9))) (mTest (mBin geW (mBin ixW (mVar 12) (mC (.int 2))) (mBin ixW (mBin ixW (mVar 3) (mBin ixW (mVar 12) (mC (.int 1)))) (mC (.int 1))))))) (mAsg (store 12) (mTup (mCons (mVar 9) (mCons (mBin addW (mBin ixW (mVar 12) (mC (.int 1))) (mC (.int 1))) (mCons (mC (.int 0)) mNil)))))) (mSeq (mIf (mTest (mBin eqW (mBin ixW (mVar 12) (mC (.int 1))) (mCallB lenW (mCons (mVar 3) mNil)))) (mRet (mVar 6)) mSkip) (mDrop (mMeth "list" appendW 8 (mCons (mVar 12) mNil)))))) [o0, iv up, iv dn, sv (.list (p.map pr)), iv tp, o5, iv t, o7, some (.own (.list (Rd.map tW))), iv x.1, iv x.2.1, iv x.2.2, x12.map Slot.val, o13, x14.map Slot.val, none] = .next [o0, iv up, iv dn, sv (.list (p.map pr)), iv tp, o5, iv t, o7, some (.own (.list ((Rd ++ [advS p x]).map tW))), iv x.1, iv x.2.1, iv x.2.2, sv (tW (advS p x)), o13, x14.map Slot.val, none] := by
        refine sqN s1 (sqN w ?_)
        rw [List.map_append, show [advS p x].map tW = [tW (advS p x)] from rfl]
        generalize advS p x = y at *
        generalize p.map pr = wp at *
        generalize Rd.map tW = wr at *
        simp [tW, at1, hlen, ci, hap]
      rw [show (x :: E).map tW = tW x :: E.map tW from rfl, for_step hs st]
      rcases go_for o0 o5 o7 o13 E (Rd ++ [advS p x]) (some (.int (x.1 : Int))) (some (.int (x.2.1 : Int))) (some (.int (x.2.2 : Int))) (some (tW (advS p x))) x14 (fun z hz => hE z (List.mem_cons_of_mem _ hz)) (by rw [List.length_append, List.length_singleton]; omega) with ⟨⟨z, hz, ez⟩, d', e⟩ | ⟨hz, y9, y10, y11, y12, e⟩
      · exact .inl ⟨⟨z, List.mem_cons_of_mem _ hz, ez⟩, d', e⟩
      · refine .inr ⟨fun z hz2 => ?_, y9, y10, y11, y12, ?_⟩
        · rcases List.mem_cons.mp hz2 with rfl | hz2
          · exact c
          · exact hz z hz2
        · rw [List.append_assoc] at e
          exact e
end K26
end
section
set_option Elab.async false
set_option linter.all false
set_option maxRecDepth 100000
set_option maxHeartbeats 4000000
/-! k26: the search, to its end -/
namespace K26
open Qd PySem L2
theorem news_app : ∀ (ys zs S : List St), news S (ys ++ zs) = news S ys ++ news (S ++ news S ys) zs
  | [], zs, S => by rw [List.nil_append, show news S [] = [] from rfl, List.nil_append, List.append_nil]
  | y :: ys, zs, S => by
    have en : ∀ L : List St, news S (y :: L) = if y ∈ S then news S L else y :: news (S ++ [y]) L := fun L => rfl
    rw [List.cons_append, en, en]
    by_cases c : y ∈ S
    · rw [if_pos c, if_pos c]
      exact news_app ys zs S
    · rw [if_neg c, if_neg c, List.cons_append, news_app ys zs (S ++ [y]), List.append_assoc]
      rfl
theorem heat_for (o0 o5 o8 : Option Slot) {p : Plan} {up dn tp t : Nat} (x : St) {h k : Nat} {r : Plan} (ep : p.drop x.2.1 = (h, k) :: r) : ∀ (ts : List Nat) (Sn Lt : List St) (x12 x14 : Option W), Sn.length + (news Sn (ts.map fun q => (q, x.2.1, hold p x q))).length ≤ 1000 → Lt.length + (news Sn (ts.map fun q => (q, x.2.1, hold p x q))).length ≤ 1000 →
    ∃ (y12 y14 : Option W), forD (store 14) (mSeq (mAsg (store 12) (mTup (mCons (mVar 14) (mCons (mVar 10) (mCons (mIfE (mAndT (mTest (mBin eqW (mVar 14) (mVar 9))) (mTest (mBin eqW (mVar 9) (mBin ixW (mBin ixW (mVar 3) (mVar 10)) (mC (.int 0)))))) (mBin addW (mVar 11) (mC (.int 1))) (mC (.int 0))) mNil))))) (mIf (mFrzT (mTest (mDIn true (mVar 12) (mVar 7)))) (mSeq (mSetIx dput 7 (mVar 12) (mC (.int 1))) (mDrop (mMeth "list" appendW 13 (mCons (mVar 12) mNil)))) mSkip)) (natW ts) [o0, iv up, iv dn, sv (.list (p.map pr)), iv tp, o5, iv t, some (.own (sD Sn)), o8, iv x.1, iv x.2.1, iv x.2.2, x12.map Slot.val, some (.own (.list (Lt.map tW))), x14.map Slot.val, none] = .next [o0, iv up, iv dn, sv (.list (p.map pr)), iv tp, o5, iv t, some (.own (sD (Sn ++ news Sn (ts.map fun q => (q, x.2.1, hold p x q))))), o8, iv x.1, iv x.2.1, iv x.2.2, y12.map Slot.val, some (.own (.list ((Lt ++ news Sn (ts.map fun q => (q, x.2.1, hold p x q))).map tW))), y14.map Slot.val, none]
  | [], Sn, Lt, x12, x14, _, _ => ⟨x12, x14, by
    rw [show List.map (fun q => ((q, x.2.1, hold p x q) : St)) [] = [] from rfl, show news Sn [] = [] from rfl, List.append_nil, List.append_nil]
    rfl⟩
  | q :: ts, Sn, Lt, x12, x14, h1, h2 => by
    have gs := get_step ep
    have ho := hold_eq (x := x) (t := q) ep
    have en : news Sn ((q :: ts).map fun q => ((q, x.2.1, hold p x q) : St)) = if ((q, x.2.1, hold p x q) : St) ∈ Sn then news Sn (ts.map fun q => (q, x.2.1, hold p x q)) else (q, x.2.1, hold p x q) :: news (Sn ++ [(q, x.2.1, hold p x q)]) (ts.map fun q => (q, x.2.1, hold p x q)) := rfl
    have hs : store 14 (.int (q : Int)) [o0, iv up, iv dn, sv (.list (p.map pr)), iv tp, o5, iv t, some (.own (sD Sn)), o8, iv x.1, iv x.2.1, iv x.2.2, x12.map Slot.val, some (.own (.list (Lt.map tW))), x14.map Slot.val, none] = some [o0, iv up, iv dn, sv (.list (p.map pr)), iv tp, o5, iv t, some (.own (sD Sn)), o8, iv x.1, iv x.2.1, iv x.2.2, x12.map Slot.val, some (.own (.list (Lt.map tW))), iv q, none] := by
      generalize p.map pr = wp at *
      generalize Lt.map tW = wl at *
      generalize sD Sn = ws at *
      cases x14 <;> simp
    have s1 : mAsg (store 12) (mTup (mCons (mVar 14) (mCons (mVar 10) (mCons (mIfE (mAndT (mTest (mBin eqW (mVar 14) (mVar 9))) (mTest (mBin eqW (mVar 9) (mBin ixW (mBin ixW (mVar 3) (mVar 10)) (mC (.int 0)))))) (mBin addW (mVar 11) (mC (.int 1))) (mC (.int 0))) mNil)))) [o0, iv up, iv dn, sv (.list (p.map pr)), iv tp, o5, iv t, some (.own (sD Sn)), o8, iv x.1, iv x.2.1, iv x.2.2, x12.map Slot.val, some (.own (.list (Lt.map tW))), iv q, none]
        = .next [o0, iv up, iv dn, sv (.list (p.map pr)), iv tp, o5, iv t, some (.own (sD Sn)), o8, iv x.1, iv x.2.1, iv x.2.2, sv (tW (q, x.2.1, hold p x q)), some (.own (.list (Lt.map tW))), iv q, none] := by
      rw [ho]
      generalize p.map pr = wp at *
      generalize Lt.map tW = wl at *
      generalize sD Sn = ws at *
      by_cases c1 : q = x.1
      · subst c1
        by_cases c2 : x.1 = h
        · have c2i : (x.1 : Int) = (h : Int) := by omega
          rw [if_pos ⟨rfl, c2⟩]
          cases x12 <;> simp [tW, gs, at0, c2, c2i]
        · have c2i : ¬ (x.1 : Int) = (h : Int) := by omega
          rw [if_neg (fun z => c2 z.2)]
          cases x12 <;> simp [tW, gs, at0, c2, c2i]
      · have c1i : ¬ (q : Int) = (x.1 : Int) := by omega
        rw [if_neg (fun z => c1 z.1)]
        cases x12 <;> simp [tW, c1, c1i]
    have df := dfind_sD Sn (q, x.2.1, hold p x q)
    rw [show natW (q :: ts) = PyData.int (q : Int) :: natW ts from rfl]
    by_cases c : ((q, x.2.1, hold p x q) : St) ∈ Sn
    · rw [if_pos c] at df
      have st : (mSeq (mAsg (store 12) (mTup (mCons (mVar 14) (mCons (mVar 10) (mCons (mIfE (mAndT (mTest (mBin eqW (mVar 14) (mVar 9))) (mTest (mBin eqW (mVar 9) (mBin ixW (mBin ixW (mVar 3) (mVar 10)) (mC (.int 0)))))) (mBin addW (mVar 11) (mC (.int 1))) (mC (.int 0))) mNil))))) (mIf (mFrzT (mTest (mDIn true (mVar 12) (mVar 7)))) (mSeq (mSetIx dput 7 (mVar 12) (mC (.int 1))) (mDrop (mMeth "list" appendW 13 (mCons (mVar 12) mNil)))) mSkip)) [o0, iv up, iv dn, sv (.list (p.map pr)), iv tp, o5, iv t, some (.own (sD Sn)), o8, iv x.1, iv x.2.1, iv x.2.2, x12.map Slot.val, some (.own (.list (Lt.map tW))), iv q, none] = .next [o0, iv up, iv dn, sv (.list (p.map pr)), iv tp, o5, iv t, some (.own (sD Sn)), o8, iv x.1, iv x.2.1, iv x.2.2, sv (tW (q, x.2.1, hold p x q)), some (.own (.list (Lt.map tW))), iv q, none] := by
        refine sqN s1 ?_
        generalize tW (q, x.2.1, hold p x q) = wy at *
        generalize p.map pr = wp at *
        generalize Lt.map tW = wl at *
        generalize sD Sn = ws at *
        cases o0 <;> cases o5 <;> cases o8 <;> simp [df, Slot.frz]
      rw [for_step hs st, en, if_pos c]
      rw [en, if_pos c] at h1 h2
      exact heat_for o0 o5 o8 x ep ts Sn Lt (some (tW (q, x.2.1, hold p x q))) (some (.int (q : Int))) h1 h2
    · rw [if_neg c] at df
      rw [en, if_neg c, List.length_cons] at h1 h2
      have dp := dput_sD Sn (q, x.2.1, hold p x q) (by omega) c
      have hap : (Lt.map tW).length < sizeLine := by rw [List.length_map]; exact lt_line (by omega)
      have st : (mSeq (mAsg (store 12) (mTup (mCons (mVar 14) (mCons (mVar 10) (mCons (mIfE (mAndT (mTest (mBin eqW (mVar 14) (mVar 9))) (mTest (mBin eqW (mVar 9) (mBin ixW (mBin ixW (mVar 3) (mVar 10)) (mC (.int 0)))))) (mBin addW (mVar 11) (mC (.int 1))) (mC (.int 0))) mNil))))) (mIf (mFrzT (mTest (mDIn true (mVar 12) (mVar 7)))) (mSeq (mSetIx dput 7 (mVar 12) (mC (.int 1))) (mDrop (mMeth "list" appendW 13 (mCons (mVar 12) mNil)))) mSkip)) [o0, iv up, iv dn, sv (.list (p.map pr)), iv tp, o5, iv t, some (.own (sD Sn)), o8, iv x.1, iv x.2.1, iv x.2.2, x12.map Slot.val, some (.own (.list (Lt.map tW))), iv q, none] = .next [o0, iv up, iv dn, sv (.list (p.map pr)), iv tp, o5, iv t, some (.own (sD (Sn ++ [(q, x.2.1, hold p x q)]))), o8, iv x.1, iv x.2.1, iv x.2.2, sv (tW (q, x.2.1, hold p x q)), some (.own (.list ((Lt ++ [(q, x.2.1, hold p x q)]).map tW))), iv q, none] := by
        refine sqN s1 ?_
        rw [List.map_append, show [((q, x.2.1, hold p x q) : St)].map tW = [tW (q, x.2.1, hold p x q)] from rfl]
        generalize tW (q, x.2.1, hold p x q) = wy at *
        generalize sD (Sn ++ [(q, x.2.1, hold p x q)]) = ws2 at *
        generalize p.map pr = wp at *
        generalize Lt.map tW = wl at *
        generalize sD Sn = ws at *
        cases o0 <;> cases o5 <;> cases o8 <;> simp [df, dp, hap, Slot.frz]
      rw [for_step hs st, en, if_neg c]
      obtain ⟨y12, y14, e⟩ := heat_for o0 o5 o8 x ep ts (Sn ++ [(q, x.2.1, hold p x q)]) (Lt ++ [(q, x.2.1, hold p x q)]) (some (tW (q, x.2.1, hold p x q))) (some (.int (q : Int))) (by rw [List.length_append, List.length_singleton]; omega) (by rw [List.length_append, List.length_singleton]; omega)
      refine ⟨y12, y14, ?_⟩
      rw [List.append_assoc, List.append_assoc] at e
      exact e
theorem ready_for (o0 o5 o8 : Option Slot) {p : Plan} {up dn tp t : Nat} (htp : tp ≤ 1000) : ∀ (Rd Sn Lt : List St) (x9 x10 x11 x12 x14 : Option W), (∀ x ∈ Rd, x.2.1 < p.length ∧ x.1 ≤ 1000) → Sn.length + (news Sn (Rd.flatMap (succs up dn tp p))).length ≤ 1000 → Lt.length + (news Sn (Rd.flatMap (succs up dn tp p))).length ≤ 1000 →
    ∃ (y9 y10 y11 y12 y14 : Option W), forD (gTupW 3 (gsCons (store 9) (gsCons (store 10) (gsCons (store 11) gsNil)))) (mFor (mRng2 (mCons (mCallB max2W (mCons (mC (.int 0)) (mCons (mBin subW (mVar 9) (mVar 2)) mNil))) (mCons (mBin addW (mCallB min2W (mCons (mVar 4) (mCons (mBin addW (mVar 9) (mVar 1)) mNil))) (mC (.int 1))) mNil))) (store 14) (mSeq (mAsg (store 12) (mTup (mCons (mVar 14) (mCons (mVar 10) (mCons (mIfE (mAndT (mTest (mBin eqW (mVar 14) (mVar 9))) (mTest (mBin eqW (mVar 9) (mBin ixW (mBin ixW (mVar 3) (mVar 10)) (mC (.int 0)))))) (mBin addW (mVar 11) (mC (.int 1))) (mC (.int 0))) mNil))))) (mIf (mFrzT (mTest (mDIn true (mVar 12) (mVar 7)))) (mSeq (mSetIx dput 7 (mVar 12) (mC (.int 1))) (mDrop (mMeth "list" appendW 13 (mCons (mVar 12) mNil)))) mSkip))) (Rd.map tW) [o0, iv up, iv dn, sv (.list (p.map pr)), iv tp, o5, iv t, some (.own (sD Sn)), o8, x9.map Slot.val, x10.map Slot.val, x11.map Slot.val, x12.map Slot.val, some (.own (.list (Lt.map tW))), x14.map Slot.val, none] = .next [o0, iv up, iv dn, sv (.list (p.map pr)), iv tp, o5, iv t, some (.own (sD (Sn ++ news Sn (Rd.flatMap (succs up dn tp p))))), o8, y9.map Slot.val, y10.map Slot.val, y11.map Slot.val, y12.map Slot.val, some (.own (.list ((Lt ++ news Sn (Rd.flatMap (succs up dn tp p))).map tW))), y14.map Slot.val, none]
  | [], Sn, Lt, x9, x10, x11, x12, x14, _, _, _ => ⟨x9, x10, x11, x12, x14, by
    rw [show List.flatMap (succs up dn tp p) [] = [] from rfl, show news Sn [] = [] from rfl, List.append_nil, List.append_nil]
    rfl⟩
  | x :: Rd, Sn, Lt, x9, x10, x11, x12, x14, hR, h1, h2 => by
    obtain ⟨hx, hx2⟩ := hR x List.mem_cons_self
    obtain ⟨h, k, r, ep⟩ : ∃ h k r, p.drop x.2.1 = (h, k) :: r := by
      cases e : p.drop x.2.1 with
      | nil => exact absurd (List.drop_eq_nil_iff.mp e) (by omega)
      | cons q r => exact ⟨q.1, q.2, r, rfl⟩
    rw [List.flatMap_cons, news_app, List.length_append] at h1 h2
    have hr := rg2 (lo := x.1 - dn) (hi := min tp (x.1 + up) + 1) (by omega) (by omega)
    have m1 : max2W [.int 0, .int ((x.1 : Int) - (dn : Int))] = some (.int ((x.1 - dn : Nat) : Int)) := by
      rw [ev_max2]
      congr 2
      split <;> omega
    have m2 : min2W [.int (tp : Int), .int ((x.1 : Int) + (up : Int))] = some (.int ((min tp (x.1 + up) : Nat) : Int)) := by
      rw [ev_min2]
      congr 2
      split <;> omega
    rw [show ((min tp (x.1 + up) + 1 : Nat) : Int) = ((min tp (x.1 + up) : Nat) : Int) + 1 by omega] at hr
    have hs : (gTupW 3 (gsCons (store 9) (gsCons (store 10) (gsCons (store 11) gsNil)))) (tW x) [o0, iv up, iv dn, sv (.list (p.map pr)), iv tp, o5, iv t, some (.own (sD Sn)), o8, x9.map Slot.val, x10.map Slot.val, x11.map Slot.val, x12.map Slot.val, some (.own (.list (Lt.map tW))), x14.map Slot.val, none] = some [o0, iv up, iv dn, sv (.list (p.map pr)), iv tp, o5, iv t, some (.own (sD Sn)), o8, iv x.1, iv x.2.1, iv x.2.2, x12.map Slot.val, some (.own (.list (Lt.map tW))), x14.map Slot.val, none] := by
      generalize p.map pr = wp at *
      generalize Lt.map tW = wl at *
      generalize sD Sn = ws at *
      cases x9 <;> cases x10 <;> cases x11 <;> simp [tW]
    have hit : mRng2 (mCons (mCallB max2W (mCons (mC (.int 0)) (mCons (mBin subW (mVar 9) (mVar 2)) mNil))) (mCons (mBin addW (mCallB min2W (mCons (mVar 4) (mCons (mBin addW (mVar 9) (mVar 1)) mNil))) (mC (.int 1))) mNil)) [o0, iv up, iv dn, sv (.list (p.map pr)), iv tp, o5, iv t, some (.own (sD Sn)), o8, iv x.1, iv x.2.1, iv x.2.2, x12.map Slot.val, some (.own (.list (Lt.map tW))), x14.map Slot.val, none] = .ok (natW (List.range' (x.1 - dn) (min tp (x.1 + up) + 1 - (x.1 - dn)))) [o0, iv up, iv dn, sv (.list (p.map pr)), iv tp, o5, iv t, some (.own (sD Sn)), o8, iv x.1, iv x.2.1, iv x.2.2, x12.map Slot.val, some (.own (.list (Lt.map tW))), x14.map Slot.val, none] := by
      change range2? _ = some (natW (List.range' (x.1 - dn) (min tp (x.1 + up) + 1 - (x.1 - dn)))) at hr
      generalize natW (List.range' (x.1 - dn) (min tp (x.1 + up) + 1 - (x.1 - dn))) = wr at *
      generalize p.map pr = wp at *
      generalize Lt.map tW = wl at *
      generalize sD Sn = ws at *
      generalize min tp (x.1 + up) = z1 at *
      generalize x.1 - dn = z2 at *
      simp [m1, m2, hr, -ev_max2, -ev_min2]
    have es : (List.range' (x.1 - dn) (min tp (x.1 + up) + 1 - (x.1 - dn))).map (fun q => ((q, x.2.1, hold p x q) : St)) = succs up dn tp p x := rfl
    obtain ⟨y12, y14, e⟩ := heat_for o0 o5 o8 (up := up) (dn := dn) (tp := tp) (t := t) x ep (List.range' (x.1 - dn) (min tp (x.1 + up) + 1 - (x.1 - dn))) Sn Lt x12 x14 (by rw [es]; omega) (by rw [es]; omega)
    rw [es] at e
    have st : (mFor (mRng2 (mCons (mCallB max2W (mCons (mC (.int 0)) (mCons (mBin subW (mVar 9) (mVar 2)) mNil))) (mCons (mBin addW (mCallB min2W (mCons (mVar 4) (mCons (mBin addW (mVar 9) (mVar 1)) mNil))) (mC (.int 1))) mNil))) (store 14) (mSeq (mAsg (store 12) (mTup (mCons (mVar 14) (mCons (mVar 10) (mCons (mIfE (mAndT (mTest (mBin eqW (mVar 14) (mVar 9))) (mTest (mBin eqW (mVar 9) (mBin ixW (mBin ixW (mVar 3) (mVar 10)) (mC (.int 0)))))) (mBin addW (mVar 11) (mC (.int 1))) (mC (.int 0))) mNil))))) (mIf (mFrzT (mTest (mDIn true (mVar 12) (mVar 7)))) (mSeq (mSetIx dput 7 (mVar 12) (mC (.int 1))) (mDrop (mMeth "list" appendW 13 (mCons (mVar 12) mNil)))) mSkip))) [o0, iv up, iv dn, sv (.list (p.map pr)), iv tp, o5, iv t, some (.own (sD Sn)), o8, iv x.1, iv x.2.1, iv x.2.2, x12.map Slot.val, some (.own (.list (Lt.map tW))), x14.map Slot.val, none] = .next [o0, iv up, iv dn, sv (.list (p.map pr)), iv tp, o5, iv t, some (.own (sD (Sn ++ news Sn (succs up dn tp p x)))), o8, iv x.1, iv x.2.1, iv x.2.2, y12.map Slot.val, some (.own (.list ((Lt ++ news Sn (succs up dn tp p x)).map tW))), y14.map Slot.val, none] := by
      rw [ev_for, hit]
      exact e
    rw [show (x :: Rd).map tW = tW x :: Rd.map tW from rfl, for_step hs st, List.flatMap_cons, news_app]
    obtain ⟨z9, z10, z11, z12, z14, e2⟩ := ready_for o0 o5 o8 (up := up) (dn := dn) (t := t) htp Rd (Sn ++ news Sn (succs up dn tp p x)) (Lt ++ news Sn (succs up dn tp p x)) (some (.int (x.1 : Int))) (some (.int (x.2.1 : Int))) (some (.int (x.2.2 : Int))) y12 y14 (fun z hz => hR z (List.mem_cons_of_mem _ hz)) (by rw [List.length_append]; omega) (by rw [List.length_append]; omega)
    refine ⟨z9, z10, z11, z12, z14, ?_⟩
    rw [List.append_assoc, List.append_assoc] at e2
    exact e2
/-! ### hour by hour -/
theorem hours_while {up dn tp : Nat} (hu : 0 < up) (hd : 0 < dn) (ht : tp ≤ 8) {p : Plan} (hp : p.length ≤ 3) (ne : p ≠ []) (hh : ∀ q ∈ p, q.1 ≤ tp ∧ q.2 ≤ 2) :
    ∃ d', mWhile (mTruth (mC (.bool true))) (mSeq (mAsgOwn 8 (mLst mNil)) (mSeq (mFor (mItS (mVar 5)) (gTupW 3 (gsCons (store 9) (gsCons (store 10) (gsCons (store 11) gsNil)))) (mSeq (mAsg (store 12) (mTup (mCons (mVar 9) (mCons (mVar 10) (mCons (mVar 11) mNil))))) (mSeq (mWhile (mAndT (mTest (mBin ltW (mBin ixW (mVar 12) (mC (.int 1))) (mCallB lenW (mCons (mVar 3) mNil)))) (mAndT (mTest (mBin eqW (mBin ixW (mBin ixW (mVar 3) (mBin ixW (mVar 12) (mC (.int 1)))) (mC (.int 0))) (mVar 9))) (mTest (mBin geW (mBin ixW (mVar 12) (mC (.int 2))) (mBin ixW (mBin ixW (mVar 3) (mBin ixW (mVar 12) (mC (.int 1)))) (mC (.int 1))))))) (mAsg (store 12) (mTup (mCons (mVar 9) (mCons (mBin addW (mBin ixW (mVar 12) (mC (.int 1))) (mC (.int 1))) (mCons (mC (.int 0)) mNil)))))) (mSeq (mIf (mTest (mBin eqW (mBin ixW (mVar 12) (mC (.int 1))) (mCallB lenW (mCons (mVar 3) mNil)))) (mRet (mVar 6)) mSkip) (mDrop (mMeth "list" appendW 8 (mCons (mVar 12) mNil))))))) (mFrzS [8] (mSeq (mAsgOwn 13 (mLst mNil)) (mSeq (mFor (mItS (mVar 8)) (gTupW 3 (gsCons (store 9) (gsCons (store 10) (gsCons (store 11) gsNil)))) (mFor (mRng2 (mCons (mCallB max2W (mCons (mC (.int 0)) (mCons (mBin subW (mVar 9) (mVar 2)) mNil))) (mCons (mBin addW (mCallB min2W (mCons (mVar 4) (mCons (mBin addW (mVar 9) (mVar 1)) mNil))) (mC (.int 1))) mNil))) (store 14) (mSeq (mAsg (store 12) (mTup (mCons (mVar 14) (mCons (mVar 10) (mCons (mIfE (mAndT (mTest (mBin eqW (mVar 14) (mVar 9))) (mTest (mBin eqW (mVar 9) (mBin ixW (mBin ixW (mVar 3) (mVar 10)) (mC (.int 0)))))) (mBin addW (mVar 11) (mC (.int 1))) (mC (.int 0))) mNil))))) (mIf (mFrzT (mTest (mDIn true (mVar 12) (mVar 7)))) (mSeq (mSetIx dput 7 (mVar 12) (mC (.int 1))) (mDrop (mMeth "list" appendW 13 (mCons (mVar 12) mNil)))) mSkip)))) (mFrzS [13] (mPar [5, 6] (mConsV (mVar 13) (mConsV (mBin addW (mVar 6) (mC (.int 1))) mNilO))))))))) [sv (pW p), iv up, iv dn, sv (.list (p.map pr)), iv tp, sv (.list [tW (0, 0, 0)]), iv (0 : Nat), some (.own (sD [])), none, none, none, none, none, none, none, none] = .ret (.val (.int (tot up dn 0 p : Nat))) d' := by
  refine mWhile_ret (t := (mTruth (mC (.bool true)))) (b := (mSeq (mAsgOwn 8 (mLst mNil)) (mSeq (mFor (mItS (mVar 5)) (gTupW 3 (gsCons (store 9) (gsCons (store 10) (gsCons (store 11) gsNil)))) (mSeq (mAsg (store 12) (mTup (mCons (mVar 9) (mCons (mVar 10) (mCons (mVar 11) mNil))))) (mSeq (mWhile (mAndT (mTest (mBin ltW (mBin ixW (mVar 12) (mC (.int 1))) (mCallB lenW (mCons (mVar 3) mNil)))) (mAndT (mTest (mBin eqW (mBin ixW (mBin ixW (mVar 3) (mBin ixW (mVar 12) (mC (.int 1)))) (mC (.int 0))) (mVar 9))) (mTest (mBin geW (mBin ixW (mVar 12) (mC (.int 2))) (mBin ixW (mBin ixW (mVar 3) (mBin ixW (mVar 12) (mC (.int 1)))) (mC (.int 1))))))) (mAsg (store 12) (mTup (mCons (mVar 9) (mCons (mBin addW (mBin ixW (mVar 12) (mC (.int 1))) (mC (.int 1))) (mCons (mC (.int 0)) mNil)))))) (mSeq (mIf (mTest (mBin eqW (mBin ixW (mVar 12) (mC (.int 1))) (mCallB lenW (mCons (mVar 3) mNil)))) (mRet (mVar 6)) mSkip) (mDrop (mMeth "list" appendW 8 (mCons (mVar 12) mNil))))))) (mFrzS [8] (mSeq (mAsgOwn 13 (mLst mNil)) (mSeq (mFor (mItS (mVar 8)) (gTupW 3 (gsCons (store 9) (gsCons (store 10) (gsCons (store 11) gsNil)))) (mFor (mRng2 (mCons (mCallB max2W (mCons (mC (.int 0)) (mCons (mBin subW (mVar 9) (mVar 2)) mNil))) (mCons (mBin addW (mCallB min2W (mCons (mVar 4) (mCons (mBin addW (mVar 9) (mVar 1)) mNil))) (mC (.int 1))) mNil))) (store 14) (mSeq (mAsg (store 12) (mTup (mCons (mVar 14) (mCons (mVar 10) (mCons (mIfE (mAndT (mTest (mBin eqW (mVar 14) (mVar 9))) (mTest (mBin eqW (mVar 9) (mBin ixW (mBin ixW (mVar 3) (mVar 10)) (mC (.int 0)))))) (mBin addW (mVar 11) (mC (.int 1))) (mC (.int 0))) mNil))))) (mIf (mFrzT (mTest (mDIn true (mVar 12) (mVar 7)))) (mSeq (mSetIx dput 7 (mVar 12) (mC (.int 1))) (mDrop (mMeth "list" appendW 13 (mCons (mVar 12) mNil)))) mSkip)))) (mFrzS [13] (mPar [5, 6] (mConsV (mVar 13) (mConsV (mBin addW (mVar 6) (mC (.int 1))) mNilO)))))))))) (fun d => ∃ (t : Nat) (E Sn : List St) (x8 x9 x10 x11 x12 x13 x14 : Option W), Bf up dn tp p t E Sn ∧ d = [sv (pW p), iv up, iv dn, sv (.list (p.map pr)), iv tp, sv (.list (E.map tW)), iv t, some (.own (sD Sn)), x8.map Slot.val, x9.map Slot.val, x10.map Slot.val, x11.map Slot.val, x12.map Slot.val, x13.map Slot.val, x14.map Slot.val, none])
    (fun d => match d[6]? with
      | some (some (Slot.val (.int y))) => tot up dn 0 p - y.toNat
      | _ => 0) _ ⟨0, [(0, 0, 0)], [], none, none, none, none, none, none, none, bf_begin hu hd ne, rfl⟩ ?_
  rintro d ⟨t, E, Sn, x8, x9, x10, x11, x12, x13, x14, b, rfl⟩
  refine ⟨[sv (pW p), iv up, iv dn, sv (.list (p.map pr)), iv tp, sv (.list (E.map tW)), iv t, some (.own (sD Sn)), x8.map Slot.val, x9.map Slot.val, x10.map Slot.val, x11.map Slot.val, x12.map Slot.val, x13.map Slot.val, x14.map Slot.val, none], by simp, ?_⟩
  have s1 : mAsgOwn 8 (mLst mNil) [sv (pW p), iv up, iv dn, sv (.list (p.map pr)), iv tp, sv (.list (E.map tW)), iv t, some (.own (sD Sn)), x8.map Slot.val, x9.map Slot.val, x10.map Slot.val, x11.map Slot.val, x12.map Slot.val, x13.map Slot.val, x14.map Slot.val, none] = .next [sv (pW p), iv up, iv dn, sv (.list (p.map pr)), iv tp, sv (.list (E.map tW)), iv t, some (.own (sD Sn)), some (.own (.list (([] : List St).map tW))), x9.map Slot.val, x10.map Slot.val, x11.map Slot.val, x12.map Slot.val, x13.map Slot.val, x14.map Slot.val, none] := by
    generalize p.map pr = wp at *
    generalize E.map tW = we at *
    generalize sD Sn = ws at *
    cases x8 <;> simp
  have hit : mItS (mVar 5) [sv (pW p), iv up, iv dn, sv (.list (p.map pr)), iv tp, sv (.list (E.map tW)), iv t, some (.own (sD Sn)), some (.own (.list (([] : List St).map tW))), x9.map Slot.val, x10.map Slot.val, x11.map Slot.val, x12.map Slot.val, x13.map Slot.val, x14.map Slot.val, none] = .ok (E.map tW) [sv (pW p), iv up, iv dn, sv (.list (p.map pr)), iv tp, sv (.list (E.map tW)), iv t, some (.own (sD Sn)), some (.own (.list (([] : List St).map tW))), x9.map Slot.val, x10.map Slot.val, x11.map Slot.val, x12.map Slot.val, x13.map Slot.val, x14.map Slot.val, none] := by simp
  rcases go_for (up := up) (dn := dn) (tp := tp) (t := t) (sv (pW p)) (sv (.list (E.map tW))) (some (.own (sD Sn))) (x13.map Slot.val) E [] x9 x10 x11 x12 x14 (fun x hx => Nat.le_of_lt (b.val x hx).2.1) (by have := b.el; simp; omega) with ⟨⟨x, hx, ex⟩, d', e⟩ | ⟨hf, y9, y10, y11, y12, e⟩
  · have et := bf_fin hu hd b hx ex
    rw [← et]
    refine .inl ⟨d', sqN s1 ?_⟩
    rw [ev_seq, ev_for, hit]
    show (forD _ _ _ _).seq _ = _
    rw [e]
    rfl
  · have lt := bf_not hu hd b hf
    have b2 := bf_step hu hd ht hp hh b hf
    have few1 := few ht hp b2.nd b2.vs
    rw [List.length_append] at few1
    have el := b.el
    rw [List.nil_append] at e
    obtain ⟨z9, z10, z11, z12, z14, e2⟩ := ready_for (up := up) (dn := dn) (tp := tp) (t := t) (p := p) (sv (pW p)) (sv (.list (E.map tW))) (sv (.list ((E.map (advS p)).map tW))) (by omega) (E.map (advS p)) Sn [] y9 y10 y11 y12 x14 (fun y hy => by
      obtain ⟨x, hx, rfl⟩ := List.mem_map.mp hy
      have h1 := (phS_adv hu hd (b.val x hx)).2.1
      have h2 := hf x hx
      have h3 := (b.val x hx).1
      have h4 : (advS p x).1 = x.1 := rfl
      exact ⟨by omega, by omega⟩) (by omega) (by simp; omega)
    rw [List.nil_append] at e2
    refine .inr ⟨[sv (pW p), iv up, iv dn, sv (.list (p.map pr)), iv tp, sv (.list ((news Sn ((E.map (advS p)).flatMap (succs up dn tp p))).map tW)), iv (t + 1), some (.own (sD (Sn ++ news Sn ((E.map (advS p)).flatMap (succs up dn tp p))))), sv (.list ((E.map (advS p)).map tW)), z9.map Slot.val, z10.map Slot.val, z11.map Slot.val, z12.map Slot.val, sv (.list ((news Sn ((E.map (advS p)).flatMap (succs up dn tp p))).map tW)), z14.map Slot.val, none], ?_, ⟨t + 1, _, _, some (.list ((E.map (advS p)).map tW)), z9, z10, z11, z12, some (.list ((news Sn ((E.map (advS p)).flatMap (succs up dn tp p))).map tW)), z14, b2, rfl⟩, ?_⟩
    · refine sqN s1 (sqN (d' := [sv (pW p), iv up, iv dn, sv (.list (p.map pr)), iv tp, sv (.list (E.map tW)), iv t, some (.own (sD Sn)), some (.own (.list ((E.map (advS p)).map tW))), y9.map Slot.val, y10.map Slot.val, y11.map Slot.val, y12.map Slot.val, x13.map Slot.val, x14.map Slot.val, none]) (by rw [ev_for, hit]; exact e) ?_)
      clear e hit s1
      generalize (E.map (advS p)).map tW = wr at *
      generalize (news Sn ((E.map (advS p)).flatMap (succs up dn tp p))).map tW = wn at *
      generalize sD (Sn ++ news Sn ((E.map (advS p)).flatMap (succs up dn tp p))) = ws2 at *
      generalize E.map tW = we at *
      generalize sD Sn = ws at *
      generalize pW p = wq at *
      generalize PyData.list (p.map pr) = wp at *
      refine frzR (d' := [sv wq, iv up, iv dn, sv wp, iv tp, sv (.list we), iv t, some (.own ws), sv (.list wr), y9.map Slot.val, y10.map Slot.val, y11.map Slot.val, y12.map Slot.val, x13.map Slot.val, x14.map Slot.val, none]) (by simp) ?_
      refine sqN (d' := [sv wq, iv up, iv dn, sv wp, iv tp, sv (.list we), iv t, some (.own ws), sv (.list wr), y9.map Slot.val, y10.map Slot.val, y11.map Slot.val, y12.map Slot.val, some (.own (.list [])), x14.map Slot.val, none]) (by cases x13 <;> simp) ?_
      refine sqN (by
        rw [ev_for]
        simp only [ev_itS, ev_var, List.getElem?_cons_zero, List.getElem?_cons_succ, Out.bind, ofOpt, ev_itemsL]
        exact e2) ?_
      refine frzR (d' := [sv wq, iv up, iv dn, sv wp, iv tp, sv (.list we), iv t, some (.own ws2), sv (.list wr), z9.map Slot.val, z10.map Slot.val, z11.map Slot.val, z12.map Slot.val, sv (.list wn), z14.map Slot.val, none]) (by simp) ?_
      simp
    · show tot up dn 0 p - ((t + 1 : Nat) : Int).toNat < tot up dn 0 p - ((t : Nat) : Int).toNat
      rw [Int.toNat_natCast, Int.toNat_natCast]
      omega
theorem mx_le {l : List Nat} {b : Nat} (h : ∀ x ∈ l, x ≤ b) : mxL l ≤ b := by
  cases l with
  | nil => exact Nat.zero_le _
  | cons c cs => exact h _ (mxL_mem (l := c :: cs) (by simp))
theorem e_fewest {up dn : Nat} (hu : 0 < up) (hd : 0 < dn) {p : Plan} (hp : p.length ≤ 3) (ne : p ≠ []) (hh : ∀ q ∈ p, q.1 ≤ 8 ∧ q.2 ≤ 2) : F__law_fewest [pW p, .int (up : Int), .int (dn : Int)] = .ok (.val (.int (tot up dn 0 p : Nat))) := by
  have hm : ∀ x ∈ p.map (·.1), x ≤ 8 := fun x hx => by
    obtain ⟨q, hq, rfl⟩ := List.mem_map.mp hx
    exact (hh q hq).1
  have ht := mx_le hm
  have ne2 : p.map (·.1) ≠ [] := by
    cases p with
    | nil => exact absurd rfl ne
    | cons q r => simp
  have mx := max_l ne2
  have hh2 : ∀ q ∈ p, q.1 ≤ mxL (p.map (·.1)) ∧ q.2 ≤ 2 := fun q hq => ⟨mxL_ge (List.mem_map.mpr ⟨q, hq, rfl⟩), (hh q hq).2⟩
  obtain ⟨d', e⟩ := hours_while hu hd ht hp ne hh2
  have l1 := mLc_set2 (a := 14) (b := 15) (it := mItS (mVar 0)) (e := mTup (mCons (mVar 14) (mCons (mVar 15) mNil))) (d := [sv (pW p), iv up, iv dn, none, none, none, none, none, none, none, none, none, none, none, none, none]) p pr pr (fun q => PyData.int (q.1 : Int)) (fun q => PyData.int (q.2 : Int)) (fun q => rfl) (by simp) (by simp) (by simp) (by decide) (by simp) (by omega) (fun q _ => by simp [pr])
  have l2 := mLc_set2 (a := 14) (b := 15) (it := mItS (mVar 0)) (e := mVar 14) (d := [sv (pW p), iv up, iv dn, none, none, none, none, none, none, none, none, none, none, none, none, none]) p pr (fun q => PyData.int (q.1 : Int)) (fun q => PyData.int (q.1 : Int)) (fun q => PyData.int (q.2 : Int)) (fun q => rfl) (by simp) (by simp) (by simp) (by decide) (by simp) (by omega) (fun q _ => by simp)
  have l3 : (p.map fun q => PyData.int (q.1 : Int)) = natW (p.map (·.1)) := by
    unfold natW
    rw [List.map_map]
    rfl
  rw [l3] at l2
  generalize mxL (p.map (·.1)) = tp at *
  refine runV_of ?_
  unfold m__law_fewest
  rw [show sdV 16 [pW p, .int (up : Int), .int (dn : Int)] = [sv (pW p), iv up, iv dn, none, none, none, none, none, none, none, none, none, none, none, none, none] from rfl]
  refine sqT (d' := [sv (pW p), iv up, iv dn, sv (.list (p.map pr)), iv tp, none, none, none, none, none, none, none, none, none, none, none]) (by
    generalize natW (p.map (·.1)) = zz at *
    generalize p.map pr = wp at *
    simp [l1, l2, mx, -ev_lc]) ?_
  refine sqT (d' := [sv (pW p), iv up, iv dn, sv (.list (p.map pr)), iv tp, sv (.list [tW (0, 0, 0)]), iv (0 : Nat), some (.own (sD [])), none, none, none, none, none, none, none, none]) (by
    generalize p.map pr = wp at *
    simp [tW, sD]) ?_
  exact ⟨d', e⟩
end K26
end
section
set_option Elab.async false
set_option linter.all false
set_option maxRecDepth 100000
set_option maxHeartbeats 8000000
/-! k26: the law about cones -/
namespace K26
open Qd PySem L2
theorem pick2 {a b r : Nat} (h : r < 2) : ∃ n : Nat, (n = a ∨ n = b) ∧ atI [PyData.int (a : Int), .int (b : Int)] (r : Int) = some (.int (n : Int)) := by
  have : r = 0 ∨ r = 1 := by omega
  rcases this with rfl | rfl
  · exact ⟨a, .inl rfl, at0 _ _⟩
  · exact ⟨b, .inr rfl, at1 _ _ _⟩
theorem natW_lt {c : Nat} {ys : List W} (h : ∀ y ∈ ys, ∃ r : Nat, r < c ∧ y = .int (r : Int)) : ∃ a : List Nat, ys = natW a ∧ a.length = ys.length ∧ ∀ x ∈ a, x < c := natW_of h
theorem heats_it {u : W} (D : Dr u) (wide : Nat) : ∃ (n : Nat) (u' : W), 1 ≤ n ∧ n ≤ 48 ∧ Dr u' ∧ (mRng1 (mCons (mBin addW (mC (.int 1)) (mCallP F__law_take 0 (mCons (mBin ixW (mLst (mCons (mC (.int 20)) (mCons (mC (.int 48)) mNil))) (mCallB intW (mCons (mBin eqW (mCallP F__law_take 0 (mCons (mC (.int 4)) mNil)) (mC (.int 0))) mNil))) mNil))) mNil)) [some (.par u), iv wide, none, none, none, none, none, none, none, none, none, none, none] = .ok ((List.range n).map fun i : Nat => PyData.int (i : Int)) [some (.par u'), iv wide, none, none, none, none, none, none, none, none, none, none, none] := by
  obtain ⟨r1, u1, h1, D1, e1⟩ := take_lit 4 D (by decide)
  change F__law_take u [.int 4] = _ at e1
  by_cases c : r1 = 0
  · subst c
    obtain ⟨r2, u2, h2, D2, e2⟩ := take_lit 48 D1 (by decide)
    change F__law_take u1 [.int 48] = _ at e2
    have hr := rg (1 + r2) (by omega)
    rw [Int.natCast_add] at hr
    change range1? [.int (1 + (r2 : Int))] = _ at hr
    exact ⟨1 + r2, u2, by omega, by omega, D2, by simp [e1, e2, at1, hr]⟩
  · obtain ⟨r2, u2, h2, D2, e2⟩ := take_lit 20 D1 (by decide)
    change F__law_take u1 [.int 20] = _ at e2
    have hr := rg (1 + r2) (by omega)
    rw [Int.natCast_add] at hr
    change range1? [.int (1 + (r2 : Int))] = _ at hr
    have ci : ¬ (r1 : Int) = 0 := by omega
    exact ⟨1 + r2, u2, by omega, by omega, D2, by simp [e1, e2, at0, hr, c, ci]⟩
theorem heats_drawn {u : W} (D : Dr u) {wide : Nat} (hw : 1 ≤ wide) (hw2 : wide ≤ 1401) : ∃ (l : List Nat) (u' : W), Dr u' ∧ 1 ≤ l.length ∧ l.length ≤ 48 ∧ (∀ x ∈ l, x ≤ 1400) ∧ mCallB tupleW (mCons (mLc [11] (mRng1 (mCons (mBin addW (mC (.int 1)) (mCallP F__law_take 0 (mCons (mBin ixW (mLst (mCons (mC (.int 20)) (mCons (mC (.int 48)) mNil))) (mCallB intW (mCons (mBin eqW (mCallP F__law_take 0 (mCons (mC (.int 4)) mNil)) (mC (.int 0))) mNil))) mNil))) mNil)) (store 11) mYes (mCallP F__law_take 0 (mCons (mVar 1) mNil))) mNil) [some (.par u), iv wide, none, none, none, none, none, none, none, none, none, none, none] = .ok ((PyData.tuple (natW l))) [some (.par u'), iv wide, none, none, none, none, none, none, none, none, none, none, none] := by
  obtain ⟨n, u1, hn1, hn4, D1, eit⟩ := heats_it D wide
  obtain ⟨ys, d', e1, ⟨u', x11, D', rfl⟩, e3, e4⟩ := mLc_ind (vs := [11]) (it := (mRng1 (mCons (mBin addW (mC (.int 1)) (mCallP F__law_take 0 (mCons (mBin ixW (mLst (mCons (mC (.int 20)) (mCons (mC (.int 48)) mNil))) (mCallB intW (mCons (mBin eqW (mCallP F__law_take 0 (mCons (mC (.int 4)) mNil)) (mC (.int 0))) mNil))) mNil))) mNil))) (g := store 11) (t := mYes) (e := mCallP F__law_take 0 (mCons (mVar 1) mNil)) (d := [some (.par u), iv wide, none, none, none, none, none, none, none, none, none, none, none]) (d1 := [some (.par u1), iv wide, none, none, none, none, none, none, none, none, none, none, none])
    (fun d => ∃ (u : W) (x11 : Option W), Dr u ∧ d = [some (.par u), iv wide, none, none, none, none, none, none, none, none, none, x11.map Slot.val, none]) (fun y => ∃ r : Nat, r < wide ∧ y = .int (r : Int)) eit (by simp) (by simp; exact size_ok (by omega)) ⟨u1, none, D1, rfl⟩ (by
      rintro w hw' d ⟨u, x11, D, rfl⟩
      obtain ⟨i, _, rfl⟩ := List.mem_map.mp hw'
      obtain ⟨r, u', hr, D', e⟩ := take_lit wide D hw
      exact ⟨[some (.par u), iv wide, none, none, none, none, none, none, none, none, none, iv i, none], [some (.par u), iv wide, none, none, none, none, none, none, none, none, none, iv i, none], .int (r : Int), [some (.par u'), iv wide, none, none, none, none, none, none, none, none, none, iv i, none], by cases x11 <;> simp, by simp, by simp [e], ⟨u', some (.int (i : Int)), D', rfl⟩, r, hr, rfl⟩)
  obtain ⟨l, rfl, g1, g2⟩ := natW_lt e4
  rw [List.length_map, List.length_range] at e3
  refine ⟨l, u', D', by omega, by omega, fun x hx => by have := g2 x hx; omega, ?_⟩
  generalize natW l = wg at *
  have hb : backD [some (.par u1), iv wide, none, none, none, none, none, none, none, none, none, none, none] [11] [some (.par u'), iv wide, none, none, none, none, none, none, none, none, none, x11.map Slot.val, none] = [some (.par u'), iv wide, none, none, none, none, none, none, none, none, none, none, none] := by cases x11 <;> simp [backD]
  rw [hb] at e1
  simp [e1, -ev_lc]
theorem isN_o (o : Option Nat) : isNone (oW o) = o.isNone := by cases o <;> rfl
theorem al_o (o : Option Nat) : al 0 (oW o) := by cases o <;> trivial
theorem more_ok {o o' : Option Nat} (h : ∀ j, o' = some j → ∃ i, o = some i ∧ i ≤ j) (s0 s1 s2 s3 s4 s5 s8 : Option Slot) :
    (mIf (mAndT (mTest (mBin notNW (mVar 7) (mC .none))) (mOrT (mTest (mBin isNW (mVar 6) (mC .none))) (mTest (mBin ltW (mVar 7) (mVar 6))))) (mRet (mC (.bool false))) mSkip) [s0, s1, s2, s3, s4, s5, sv (oW o), sv (oW o'), s8, none, none, none, none] = .next [s0, s1, s2, s3, s4, s5, sv (oW o), sv (oW o'), s8, none, none, none, none] := by
  cases o' with
  | none => simp [oW]
  | some j =>
    obtain ⟨i, rfl, hi⟩ := h j rfl
    have c : ¬ (j : Int) < (i : Int) := by omega
    have c' : ¬ j < i := by omega
    simp [oW, c, c']
theorem cone_turn {u : W} (D : Dr u) {wide : Nat} (hw : 1 ≤ wide) (hw2 : wide ≤ 1401) {l : List Nat} (h1 : 1 ≤ l.length) (h48 : l.length ≤ 48) (hx : ∀ x ∈ l, x ≤ 1400) (w3 : W) (x4 x5 x6 x7 x8 : Option W) :
    ∃ (u' : W) (g m : Nat) (y6 y7 y8 : W), Dr u' ∧ g ≤ 1400 ∧ 1 ≤ m ∧ m ≤ 24 ∧ (mSeq (mAsg (gTupW 2 (gsCons (store 4) (gsCons (store 5) gsNil))) (mTup (mCons (mCallP F__law_take 0 (mCons (mVar 1) mNil)) (mCons (mBin addW (mC (.int 1)) (mCallP F__law_take 0 (mCons (mBin ixW (mLst (mCons (mC (.int 4)) (mCons (mC (.int 24)) mNil))) (mCallP F__law_take 0 (mCons (mC (.int 2)) mNil))) mNil))) mNil)))) (mSeq (mAsg (store 6) (mCallV F__law_bends (mCons (mVar 2) (mCons (mVar 4) (mCons (mVar 5) mNil))))) (mSeq (mIf (mOrT (mTest (mBin notBW (mCallV F_is_cone (mCons (mTup (mCons (mVar 4) (mCons (mVar 5) mNil))) mNil)) (mC (.bool true)))) (mNotT (mTruth (mCallV F__law_same (mCons (mCallV F_bend_hour (mCons (mVar 2) (mCons (mTup (mCons (mVar 4) (mCons (mVar 5) mNil))) mNil))) (mCons (mVar 6) mNil)))))) (mRet (mC (.bool false))) mSkip) (mSeq (mFor (mItS (mLst (mCons (mCallV F_bend_hour (mCons (mVar 2) (mCons (mTup (mCons (mCallB min2W (mCons (mC (.int 1400)) (mCons (mBin addW (mVar 4) (mC (.int 1))) mNil))) (mCons (mVar 5) mNil))) mNil))) (mCons (mCallV F_bend_hour (mCons (mVar 2) (mCons (mTup (mCons (mVar 4) (mCons (mCallB min2W (mCons (mC (.int 24)) (mCons (mBin addW (mVar 5) (mC (.int 1))) mNil))) mNil))) mNil))) mNil)))) (store 7) (mIf (mAndT (mTest (mBin notNW (mVar 7) (mC .none))) (mOrT (mTest (mBin isNW (mVar 6) (mC .none))) (mTest (mBin ltW (mVar 7) (mVar 6))))) (mRet (mC (.bool false))) mSkip)) (mSeq (mAsg (store 8) (mCallV F_greatest_bent (mCons (mVar 2) (mCons (mVar 5) mNil)))) (mIf (mTest (mBin ltW (mCallB lenW (mCons (mVar 2) mNil)) (mVar 5))) (mIf (mTest (mBin notNW (mVar 8) (mC .none))) (mRet (mC (.bool false))) mSkip) (mIf (mOrT (mNotT (mTruth (mCallV F__law_same (mCons (mVar 8) (mCons (mCallB maxW (mCons (mLc [4] (mItS (mVar 2)) (store 4) (mTest (mBin notNW (mCallV F__law_bends (mCons (mVar 2) (mCons (mVar 4) (mCons (mVar 5) mNil)))) (mC .none))) (mVar 4)) mNil)) mNil))))) (mAndT (mTest (mBin ltW (mVar 8) (mC (.int 1400)))) (mTest (mBin notNW (mCallV F__law_bends (mCons (mVar 2) (mCons (mBin addW (mVar 8) (mC (.int 1))) (mCons (mVar 5) mNil)))) (mC .none))))) (mRet (mC (.bool false))) mSkip))))))) [some (.par u), iv wide, sv ((PyData.tuple (natW l))), sv w3, x4.map Slot.val, x5.map Slot.val, x6.map Slot.val, x7.map Slot.val, x8.map Slot.val, none, none, none, none] = .next [some (.par u'), iv wide, sv ((PyData.tuple (natW l))), sv w3, iv g, iv m, sv y6, sv y7, sv y8, none, none, none, none] := by
  obtain ⟨g, u1, hg, D1, e1⟩ := take_lit wide D hw
  obtain ⟨r2, u2, h2, D2, e2⟩ := take_lit 2 D1 (by decide)
  change F__law_take u1 [.int 2] = _ at e2
  obtain ⟨n, hn, an⟩ := pick2 (a := 4) (b := 24) h2
  change atI [PyData.int 4, .int 24] _ = _ at an
  obtain ⟨r3, u', h3, D', e3⟩ := take_lit n D2 (by omega)
  obtain ⟨m, em, m1, m24⟩ : ∃ m : Nat, 1 + (r3 : Int) = (m : Int) ∧ 1 ≤ m ∧ m ≤ 24 := ⟨1 + r3, by omega, by omega, by omega⟩
  have g14 : g ≤ 1400 := by omega
  have hlen : (natW l).length = l.length := natW_len l
  have fb := l_bends (l := l) (g := g) (m := m) m1 (by omega) (by omega)
  have fc := e_cone g14 m1 m24
  have fh := e_bend (l := l) (g := g) (m := m) m1
  have fs := e_same (k := 0) (by decide) (al_o (bd l g m))
  have mn1 : min2W [.int 1400, .int ((g : Int) + 1)] = some (.int ((min 1400 (g + 1) : Nat) : Int)) := by
    rw [ev_min2]
    congr 2
    split <;> omega
  have mn2 : min2W [.int 24, .int ((m : Int) + 1)] = some (.int ((min 24 (m + 1) : Nat) : Int)) := by
    rw [ev_min2]
    congr 2
    split <;> omega
  have fm1 := e_bend (l := l) (g := min 1400 (g + 1)) (m := m) m1
  have fm2 := e_bend (l := l) (g := g) (m := min 24 (m + 1)) (by omega)
  have k1 := more_ok (o := bd l g m) (o' := bd l (min 1400 (g + 1)) m) (fun j hj => bd_later (by omega) (Nat.le_refl _) hj) (some (.par u')) (iv wide) (sv ((PyData.tuple (natW l)))) (sv w3) (iv g) (iv m) (x8.map Slot.val)
  have k2 := more_ok (o := bd l g m) (o' := bd l g (min 24 (m + 1))) (fun j hj => bd_later (Nat.le_refl _) (by omega) hj) (some (.par u')) (iv wide) (sv ((PyData.tuple (natW l)))) (sv w3) (iv g) (iv m) (x8.map Slot.val)
  have fg := e_great (l := l) (m := m) m1 (by omega) (by omega)
  refine ⟨u', g, m, oW (bd l g m), oW (bd l g (min 24 (m + 1))), if m ≤ l.length then .int (mxL (wins l m) : Nat) else .none, D', g14, m1, m24, ?_⟩
  refine sqN (d' := [some (.par u'), iv wide, sv ((PyData.tuple (natW l))), sv w3, iv g, iv m, x6.map Slot.val, x7.map Slot.val, x8.map Slot.val, none, none, none, none]) (by
    generalize natW l = wl at *
    cases x4 <;> cases x5 <;> simp [e1, e2, an, e3, em]) ?_
  refine sqN (d' := [some (.par u'), iv wide, sv ((PyData.tuple (natW l))), sv w3, iv g, iv m, sv (oW (bd l g m)), x7.map Slot.val, x8.map Slot.val, none, none, none, none]) (by
    generalize oW (bd l g m) = wo at *
    generalize natW l = wl at *
    cases x6 <;> simp [fb]) ?_
  refine sqN (d' := [some (.par u'), iv wide, sv ((PyData.tuple (natW l))), sv w3, iv g, iv m, sv (oW (bd l g m)), x7.map Slot.val, x8.map Slot.val, none, none, none, none]) (by
    generalize oW (bd l g m) = wo at *
    generalize natW l = wl at *
    simp [fc, fh, fs]) ?_
  refine sqN (d' := [some (.par u'), iv wide, sv ((PyData.tuple (natW l))), sv w3, iv g, iv m, sv (oW (bd l g m)), sv (oW (bd l g (min 24 (m + 1)))), x8.map Slot.val, none, none, none, none]) ?_ ?_
  · have hit : mItS (mLst (mCons (mCallV F_bend_hour (mCons (mVar 2) (mCons (mTup (mCons (mCallB min2W (mCons (mC (.int 1400)) (mCons (mBin addW (mVar 4) (mC (.int 1))) mNil))) (mCons (mVar 5) mNil))) mNil))) (mCons (mCallV F_bend_hour (mCons (mVar 2) (mCons (mTup (mCons (mVar 4) (mCons (mCallB min2W (mCons (mC (.int 24)) (mCons (mBin addW (mVar 5) (mC (.int 1))) mNil))) mNil))) mNil))) mNil))) [some (.par u'), iv wide, sv ((PyData.tuple (natW l))), sv w3, iv g, iv m, sv (oW (bd l g m)), x7.map Slot.val, x8.map Slot.val, none, none, none, none] = .ok [oW (bd l (min 1400 (g + 1)) m), oW (bd l g (min 24 (m + 1)))] [some (.par u'), iv wide, sv ((PyData.tuple (natW l))), sv w3, iv g, iv m, sv (oW (bd l g m)), x7.map Slot.val, x8.map Slot.val, none, none, none, none] := by
      generalize oW (bd l g (min 24 (m + 1))) = w2 at *
      generalize oW (bd l (min 1400 (g + 1)) m) = w1 at *
      generalize oW (bd l g m) = wo at *
      generalize min 1400 (g + 1) = z1 at *
      generalize min 24 (m + 1) = z2 at *
      generalize natW l = wl at *
      simp [mn1, mn2, fm1, fm2, -ev_min2]
    rw [ev_for, hit]
    show forD _ _ _ _ = _
    rw [for_step (d1 := [some (.par u'), iv wide, sv ((PyData.tuple (natW l))), sv w3, iv g, iv m, sv (oW (bd l g m)), sv (oW (bd l (min 1400 (g + 1)) m)), x8.map Slot.val, none, none, none, none]) ?_ k1, for_step (d1 := [some (.par u'), iv wide, sv ((PyData.tuple (natW l))), sv w3, iv g, iv m, sv (oW (bd l g m)), sv (oW (bd l g (min 24 (m + 1)))), x8.map Slot.val, none, none, none, none]) ?_ k2]
    · rfl
    · generalize oW (bd l g (min 24 (m + 1))) = w2 at *
      generalize oW (bd l (min 1400 (g + 1)) m) = w1 at *
      generalize oW (bd l g m) = wo at *
      generalize natW l = wl at *
      simp
    · generalize oW (bd l (min 1400 (g + 1)) m) = w1 at *
      generalize oW (bd l g m) = wo at *
      generalize natW l = wl at *
      cases x7 <;> simp
  clear k1 k2 fm1 fm2
  generalize oW (bd l g (min 24 (m + 1))) = w7 at *
  by_cases c : m ≤ l.length
  · rw [if_pos c] at fg ⊢
    have nlt : ¬ l.length < m := by omega
    obtain ⟨fne, feq⟩ := bd_filter c m1
    have mx := max_l fne
    rw [feq] at mx
    have lc := mLc_set (v := 4) (it := mItS (mVar 2)) (t := mTest (mBin notNW (mCallV F__law_bends (mCons (mVar 2) (mCons (mVar 4) (mCons (mVar 5) mNil)))) (mC .none))) (e := mVar 4) (d := [some (.par u'), iv wide, sv ((PyData.tuple (natW l))), sv w3, iv g, iv m, sv (oW (bd l g m)), sv w7, iv (mxL (wins l m)), none, none, none, none]) l (fun x : Nat => PyData.int (x : Int)) (fun x : Nat => PyData.int (x : Int)) (fun z => (bd l z m).isSome) (by simp; rfl) (by simp) (by simp) (by omega) (by
      intro z hz
      have f := l_bends (l := l) (g := z) (m := m) m1 (by omega) (by omega)
      have fn := isN_o (bd l z m)
      generalize bd l z m = o at *
      generalize oW (bd l g m) = wo at *
      generalize oW o = w8 at *
      generalize natW l = wl at *
      refine ⟨?_, fun _ => by simp⟩
      cases o <;> simp [f, fn])
    have lc' : ((l.filter fun z => (bd l z m).isSome).map fun x : Nat => PyData.int (x : Int)) = natW (l.filter fun z => (bd l z m).isSome) := rfl
    rw [lc'] at lc
    have gM : mxL (wins l m) ≤ 1400 := hx _ (wins_mem c m1)
    have fs2 := e_same (k := 0) (by decide) (al_int 0 (mxL (wins l m) : Nat))
    have fb2 := l_bends (l := l) (g := mxL (wins l m) + 1) (m := m) m1 (by omega) (by omega)
    have bn : bd l (mxL (wins l m) + 1) m = none := by
      cases e : bd l (mxL (wins l m) + 1) m with
      | none => rfl
      | some i =>
        have := (bd_wins (g := mxL (wins l m) + 1) c m1).mp (by rw [e]; rfl)
        omega
    rw [bn, Int.natCast_add] at fb2
    change F__law_bends [_, .int ((mxL (wins l m) : Nat) + 1 : Int), _] = .ok (.val .none) at fb2
    generalize oW (bd l g m) = wo at *
    generalize natW (l.filter fun z => (bd l z m).isSome) = wf at *
    generalize mxL (wins l m) = z at *
    generalize natW l = wl at *
    refine sqN (d' := [some (.par u'), iv wide, sv (.tuple wl), sv w3, iv g, iv m, sv wo, sv w7, iv z, none, none, none, none]) (by cases x8 <;> simp [fg]) ?_
    by_cases q : z < 1400
    · simp [hlen, nlt, lc, mx, fs2, fb2, q, -ev_lc]
    · simp [hlen, nlt, lc, mx, fs2, fb2, q, -ev_lc]
  · rw [if_neg c] at fg ⊢
    have lt : l.length < m := by omega
    generalize oW (bd l g m) = wo at *
    generalize natW l = wl at *
    refine sqN (d' := [some (.par u'), iv wide, sv (.tuple wl), sv w3, iv g, iv m, sv wo, sv w7, sv .none, none, none, none, none]) (by cases x8 <;> simp [fg]) ?_
    simp [hlen, lt]
/-! ### values with one thing wrong -/
def oddH (l : List Nat) : List W := [.tuple [], (PyData.list (natW l)), .tuple (List.replicate 49 [PyData.int 0]).flatten, .tuple (.int (-1) :: natW (l.drop 1)), .tuple (.int 1401 :: natW (l.drop 1)), .tuple (.none :: natW (l.drop 1)), .tuple (.bool true :: natW (l.drop 1)), .none, .str "heats"]
def oddC (g m : Nat) : List W := [.tuple [.int (g : Int)], .tuple [.int (g : Int), .int (m : Int), .int 0], .list [.int (g : Int), .int (m : Int)], .tuple [.int (-1), .int 5], .tuple [.int 1401, .int 5], .tuple [.int 5, .int 0], .tuple [.int 5, .int 25], .tuple [.none, .int 5], .tuple [.bool true, .int 5], .tuple [.int 5, .none], .none, .str "cone"]
theorem oddH_bad {l : List Nat} (h48 : l.length ≤ 48) : ∀ w ∈ oddH l, F_are_heats [w] = .ok (.val (.bool false)) := by
  intro w hw
  unfold oddH at hw
  simp only [List.mem_cons, List.not_mem_nil, or_false] at hw
  have hl : (natW (l.drop 1)).length ≤ 47 := by rw [natW_len, List.length_drop]; omega
  rcases hw with rfl | rfl | rfl | rfl | rfl | rfl | rfl | rfl | rfl
  · exact x_h2 _ (.inl rfl)
  · exact x_h1 _ (by simp)
  · exact x_h2 _ (.inr (by simp))
  · exact x_h3 hl (e_num_out (by omega))
  · exact x_h3 hl (e_num_out (by omega))
  · exact x_h3 hl (e_num_n _ _)
  · exact x_h3 hl (e_num_b _ _ _)
  · exact x_h1 _ (by simp)
  · exact x_h1 _ (by simp)
theorem oddC_bad (g m : Nat) : ∀ w ∈ oddC g m, F_is_cone [w] = .ok (.val (.bool false)) := by
  intro w hw
  unfold oddC at hw
  simp only [List.mem_cons, List.not_mem_nil, or_false] at hw
  rcases hw with rfl | rfl | rfl | rfl | rfl | rfl | rfl | rfl | rfl | rfl | rfl | rfl
  · exact x_c2 _ (by simp)
  · exact x_c2 _ (by simp)
  · exact x_c1 _ (by simp)
  · exact x_c3 (e_num_out (by omega))
  · exact x_c3 (e_num_out (by omega))
  · exact x_c4 (e_num_in (by omega)) (e_num_out (by omega))
  · exact x_c4 (e_num_in (by omega)) (e_num_out (by omega))
  · exact x_c3 (e_num_n _ _)
  · exact x_c3 (e_num_b _ _ _)
  · exact x_c4 (e_num_in (by omega)) (e_num_n _ _)
  · exact x_c1 _ (by simp)
  · exact x_c1 _ (by simp)
theorem eq_nilL : eqW (.list []) (.list []) = some (.bool true) := eq_self (lv_ok (k := 1) (by decide) (fun d hd => by cases hd))
theorem sqPx {r : Slot} {u : W} {a b : MS} {d : SD} {P : SD → Prop} (h : ∃ d', a d = .next d' ∧ P d') (z : ∀ d', P d' → RP r u (b d')) : RP r u (mSeq a b d) := by
  obtain ⟨d', e, p⟩ := h
  exact sqP e (z d' p)
theorem e_cones {u : W} (D : Dr u) : ∃ u' : W, Dr u' ∧ F__law_cones u [] = .ok (.val (.bool true)) u' := by
  obtain ⟨r1, u1, h1, D1, e1⟩ := take_lit 3 D (by decide)
  change F__law_take u [.int 3] = _ at e1
  obtain ⟨wide, hw1, hw2, hwa⟩ : ∃ wide : Nat, 1 ≤ wide ∧ wide ≤ 1401 ∧ atI [PyData.int 6, .int 60, .int 1401] (r1 : Int) = some (.int (wide : Int)) := by
    have : r1 = 0 ∨ r1 = 1 ∨ r1 = 2 := by omega
    rcases this with rfl | rfl | rfl
    · exact ⟨6, by omega, by omega, at0 _ _⟩
    · exact ⟨60, by omega, by omega, at1 _ _ _⟩
    · exact ⟨1401, by omega, by omega, at2 _ _ _ _⟩
  obtain ⟨l, u2, D2, l1, l48, lx, e2⟩ := heats_drawn D1 hw1 hw2
  have fh := e_heats l1 l48 lx
  have hr := rg 6 (by decide)
  change range1? [.int 6] = _ at hr
  obtain ⟨d', ef, u3, g, m, y6, y7, y8, w3, D3, g14, m1, m24, rfl⟩ : ∃ d', forD (store 3) (mSeq (mAsg (gTupW 2 (gsCons (store 4) (gsCons (store 5) gsNil))) (mTup (mCons (mCallP F__law_take 0 (mCons (mVar 1) mNil)) (mCons (mBin addW (mC (.int 1)) (mCallP F__law_take 0 (mCons (mBin ixW (mLst (mCons (mC (.int 4)) (mCons (mC (.int 24)) mNil))) (mCallP F__law_take 0 (mCons (mC (.int 2)) mNil))) mNil))) mNil)))) (mSeq (mAsg (store 6) (mCallV F__law_bends (mCons (mVar 2) (mCons (mVar 4) (mCons (mVar 5) mNil))))) (mSeq (mIf (mOrT (mTest (mBin notBW (mCallV F_is_cone (mCons (mTup (mCons (mVar 4) (mCons (mVar 5) mNil))) mNil)) (mC (.bool true)))) (mNotT (mTruth (mCallV F__law_same (mCons (mCallV F_bend_hour (mCons (mVar 2) (mCons (mTup (mCons (mVar 4) (mCons (mVar 5) mNil))) mNil))) (mCons (mVar 6) mNil)))))) (mRet (mC (.bool false))) mSkip) (mSeq (mFor (mItS (mLst (mCons (mCallV F_bend_hour (mCons (mVar 2) (mCons (mTup (mCons (mCallB min2W (mCons (mC (.int 1400)) (mCons (mBin addW (mVar 4) (mC (.int 1))) mNil))) (mCons (mVar 5) mNil))) mNil))) (mCons (mCallV F_bend_hour (mCons (mVar 2) (mCons (mTup (mCons (mVar 4) (mCons (mCallB min2W (mCons (mC (.int 24)) (mCons (mBin addW (mVar 5) (mC (.int 1))) mNil))) mNil))) mNil))) mNil)))) (store 7) (mIf (mAndT (mTest (mBin notNW (mVar 7) (mC .none))) (mOrT (mTest (mBin isNW (mVar 6) (mC .none))) (mTest (mBin ltW (mVar 7) (mVar 6))))) (mRet (mC (.bool false))) mSkip)) (mSeq (mAsg (store 8) (mCallV F_greatest_bent (mCons (mVar 2) (mCons (mVar 5) mNil)))) (mIf (mTest (mBin ltW (mCallB lenW (mCons (mVar 2) mNil)) (mVar 5))) (mIf (mTest (mBin notNW (mVar 8) (mC .none))) (mRet (mC (.bool false))) mSkip) (mIf (mOrT (mNotT (mTruth (mCallV F__law_same (mCons (mVar 8) (mCons (mCallB maxW (mCons (mLc [4] (mItS (mVar 2)) (store 4) (mTest (mBin notNW (mCallV F__law_bends (mCons (mVar 2) (mCons (mVar 4) (mCons (mVar 5) mNil)))) (mC .none))) (mVar 4)) mNil)) mNil))))) (mAndT (mTest (mBin ltW (mVar 8) (mC (.int 1400)))) (mTest (mBin notNW (mCallV F__law_bends (mCons (mVar 2) (mCons (mBin addW (mVar 8) (mC (.int 1))) (mCons (mVar 5) mNil)))) (mC .none))))) (mRet (mC (.bool false))) mSkip))))))) ((List.range 6).map fun i : Nat => PyData.int (i : Int)) [some (.par u2), iv wide, sv ((PyData.tuple (natW l))), none, none, none, none, none, none, none, none, none, none] = .next d' ∧ ∃ (u3 : W) (g m : Nat) (y6 y7 y8 w3 : W), Dr u3 ∧ g ≤ 1400 ∧ 1 ≤ m ∧ m ≤ 24 ∧ d' = [some (.par u3), iv wide, sv ((PyData.tuple (natW l))), sv w3, iv g, iv m, sv y6, sv y7, sv y8, none, none, none, none] := by
    obtain ⟨d', e, p⟩ := forD_idx (g := store 3) (b := (mSeq (mAsg (gTupW 2 (gsCons (store 4) (gsCons (store 5) gsNil))) (mTup (mCons (mCallP F__law_take 0 (mCons (mVar 1) mNil)) (mCons (mBin addW (mC (.int 1)) (mCallP F__law_take 0 (mCons (mBin ixW (mLst (mCons (mC (.int 4)) (mCons (mC (.int 24)) mNil))) (mCallP F__law_take 0 (mCons (mC (.int 2)) mNil))) mNil))) mNil)))) (mSeq (mAsg (store 6) (mCallV F__law_bends (mCons (mVar 2) (mCons (mVar 4) (mCons (mVar 5) mNil))))) (mSeq (mIf (mOrT (mTest (mBin notBW (mCallV F_is_cone (mCons (mTup (mCons (mVar 4) (mCons (mVar 5) mNil))) mNil)) (mC (.bool true)))) (mNotT (mTruth (mCallV F__law_same (mCons (mCallV F_bend_hour (mCons (mVar 2) (mCons (mTup (mCons (mVar 4) (mCons (mVar 5) mNil))) mNil))) (mCons (mVar 6) mNil)))))) (mRet (mC (.bool false))) mSkip) (mSeq (mFor (mItS (mLst (mCons (mCallV F_bend_hour (mCons (mVar 2) (mCons (mTup (mCons (mCallB min2W (mCons (mC (.int 1400)) (mCons (mBin addW (mVar 4) (mC (.int 1))) mNil))) (mCons (mVar 5) mNil))) mNil))) (mCons (mCallV F_bend_hour (mCons (mVar 2) (mCons (mTup (mCons (mVar 4) (mCons (mCallB min2W (mCons (mC (.int 24)) (mCons (mBin addW (mVar 5) (mC (.int 1))) mNil))) mNil))) mNil))) mNil)))) (store 7) (mIf (mAndT (mTest (mBin notNW (mVar 7) (mC .none))) (mOrT (mTest (mBin isNW (mVar 6) (mC .none))) (mTest (mBin ltW (mVar 7) (mVar 6))))) (mRet (mC (.bool false))) mSkip)) (mSeq (mAsg (store 8) (mCallV F_greatest_bent (mCons (mVar 2) (mCons (mVar 5) mNil)))) (mIf (mTest (mBin ltW (mCallB lenW (mCons (mVar 2) mNil)) (mVar 5))) (mIf (mTest (mBin notNW (mVar 8) (mC .none))) (mRet (mC (.bool false))) mSkip) (mIf (mOrT (mNotT (mTruth (mCallV F__law_same (mCons (mVar 8) (mCons (mCallB maxW (mCons (mLc [4] (mItS (mVar 2)) (store 4) (mTest (mBin notNW (mCallV F__law_bends (mCons (mVar 2) (mCons (mVar 4) (mCons (mVar 5) mNil)))) (mC .none))) (mVar 4)) mNil)) mNil))))) (mAndT (mTest (mBin ltW (mVar 8) (mC (.int 1400)))) (mTest (mBin notNW (mCallV F__law_bends (mCons (mVar 2) (mCons (mBin addW (mVar 8) (mC (.int 1))) (mCons (mVar 5) mNil)))) (mC .none))))) (mRet (mC (.bool false))) mSkip)))))))) (fun i : Nat => PyData.int (i : Int)) (fun i dd => (i = 0 → ∃ u, Dr u ∧ dd = [some (.par u), iv wide, sv ((PyData.tuple (natW l))), none, none, none, none, none, none, none, none, none, none]) ∧ (0 < i → ∃ (u3 : W) (g m : Nat) (y6 y7 y8 w3 : W), Dr u3 ∧ g ≤ 1400 ∧ 1 ≤ m ∧ m ≤ 24 ∧ dd = [some (.par u3), iv wide, sv ((PyData.tuple (natW l))), sv w3, iv g, iv m, sv y6, sv y7, sv y8, none, none, none, none])) 6 [some (.par u2), iv wide, sv ((PyData.tuple (natW l))), none, none, none, none, none, none, none, none, none, none] ⟨fun _ => ⟨u2, D2, rfl⟩, fun z => absurd z (by omega)⟩ (by
      rintro i dd hi ⟨z1, z2⟩
      rcases Nat.eq_zero_or_pos i with rfl | hpos
      · obtain ⟨u, D, rfl⟩ := z1 rfl
        obtain ⟨u', g, m, y6, y7, y8, D', g1, m1, m2, e⟩ := cone_turn D hw1 hw2 l1 l48 lx (.int ((0 : Nat) : Int)) none none none none none
        refine ⟨[some (.par u), iv wide, sv ((PyData.tuple (natW l))), sv (.int ((0 : Nat) : Int)), none, none, none, none, none, none, none, none, none], _, ?_, .inl e, fun z => by omega, fun _ => ⟨u', g, m, y6, y7, y8, _, D', g1, m1, m2, rfl⟩⟩
        generalize natW l = wl at *
        simp
      · obtain ⟨u, g0, m0, x6, x7, x8, w3, D, _, _, _, rfl⟩ := z2 hpos
        obtain ⟨u', g, m, y6, y7, y8, D', g1, m1, m2, e⟩ := cone_turn D hw1 hw2 l1 l48 lx (.int (i : Int)) (some (.int (g0 : Int))) (some (.int (m0 : Int))) (some x6) (some x7) (some x8)
        refine ⟨[some (.par u), iv wide, sv ((PyData.tuple (natW l))), sv (.int (i : Int)), iv g0, iv m0, sv x6, sv x7, sv x8, none, none, none, none], _, ?_, .inl e, fun z => by omega, fun _ => ⟨u', g, m, y6, y7, y8, _, D', g1, m1, m2, rfl⟩⟩
        generalize natW l = wl at *
        simp)
    exact ⟨d', e, p.2 (by omega)⟩
  refine ⟨u3, D3, runP_of ?_⟩
  unfold m__law_cones
  rw [show sdP 13 u [] = [some (.par u), none, none, none, none, none, none, none, none, none, none, none, none] from rfl]
  refine sqP (d' := [some (.par u1), iv wide, none, none, none, none, none, none, none, none, none, none, none]) (by simp [e1, hwa]) ?_
  refine sqP (d' := [some (.par u2), iv wide, sv ((PyData.tuple (natW l))), none, none, none, none, none, none, none, none, none, none]) (by rw [ev_asg, e2]; simp) ?_
  refine sqP (d' := [some (.par u2), iv wide, sv ((PyData.tuple (natW l))), none, none, none, none, none, none, none, none, none, none]) (by
    generalize natW l = wl at *
    simp [fh]) ?_
  refine sqP (d' := [some (.par u3), iv wide, sv ((PyData.tuple (natW l))), sv w3, iv g, iv m, sv y6, sv y7, sv y8, none, none, none, none]) (by
    rw [ev_for, show mRng1 (mCons (mC (.int 6)) mNil) [some (.par u2), iv wide, sv ((PyData.tuple (natW l))), none, none, none, none, none, none, none, none, none, none] = .ok ((List.range 6).map fun i : Nat => PyData.int (i : Int)) [some (.par u2), iv wide, sv ((PyData.tuple (natW l))), none, none, none, none, none, none, none, none, none, none] by
      generalize (List.range 6).map (fun i : Nat => PyData.int (i : Int)) = zr at *
      simp [hr]]
    exact ef) ?_
  have mt := mul_tup (xs := [PyData.int 0]) (k := 49) (by simp) (by decide) (by decide) (by decide)
  change mulW (.tuple [.int 0]) (.int 49) = _ at mt
  have cd := cut_drop (natW l) 1
  change cutA (natW l) (some 1) none = _ at cd
  rw [natW_drop] at cd
  have ad : ∀ w : W, addW (.tuple [w]) (.tuple (natW (l.drop 1))) = some (.tuple (w :: natW (l.drop 1))) := fun w => add_tup (by rw [natW_len, List.length_drop]; simp; omega)
  refine sqP (d' := [some (.par u3), iv wide, sv ((PyData.tuple (natW l))), sv w3, iv g, iv m, sv y6, sv y7, sv y8, sv (.list (oddH l)), none, none, none]) (by
    unfold oddH
    generalize (List.replicate 49 [PyData.int 0]).flatten = z49 at *
    generalize natW (l.drop 1) = wd at *
    generalize natW l = wl at *
    simp [mt, cd, ad]) ?_
  refine sqP (d' := [some (.par u3), iv wide, sv ((PyData.tuple (natW l))), sv w3, iv g, iv m, sv y6, sv y7, sv y8, sv (.list (oddH l)), sv (.list (oddC g m)), none, none]) (by
    unfold oddC
    generalize oddH l = wh at *
    generalize natW l = wl at *
    simp) ?_
  have ob := oddH_bad l48
  have ol : (oddH l).length ≤ 16000000 := by unfold oddH; simp
  have ob2 := oddC_bad g m
  have ol2 : (oddC g m).length ≤ 16000000 := by unfold oddC; simp
  have nl := eq_nilL
  generalize oddH l = wh at *
  generalize oddC g m = wc at *
  generalize natW l = wl at *
  have lc1 := mLc_none (v := 12) (it := mItS (mVar 9)) (t := mTest (mBin notBW (mCallV F_are_heats (mCons (mVar 12) mNil)) (mC (.bool false)))) (e := mVar 12) (d := [some (.par u3), iv wide, sv (.tuple wl), sv w3, iv g, iv m, sv y6, sv y7, sv y8, sv (.list wh), sv (.list wc), none, none]) wh id (by simp) (by simp) (by simp) ol (fun v hv => by
    have := ob v hv
    simp [this])
  have lc2 := mLc_none (v := 12) (it := mItS (mVar 10)) (t := mTest (mBin notBW (mCallV F_is_cone (mCons (mVar 12) mNil)) (mC (.bool false)))) (e := mVar 12) (d := [some (.par u3), iv wide, sv (.tuple wl), sv w3, iv g, iv m, sv y6, sv y7, sv y8, sv (.list wh), sv (.list wc), none, none]) wc id (by simp) (by simp) (by simp) ol2 (fun v hv => by
    have := ob2 v hv
    simp [this])
  exact retP (d' := [some (.par u3), iv wide, sv (.tuple wl), sv w3, iv g, iv m, sv y6, sv y7, sv y8, sv (.list wh), sv (.list wc), none, none]) (by simp [lc1, lc2, nl, -ev_lc]) rfl
end K26
end
section
set_option Elab.async false
set_option linter.all false
set_option maxRecDepth 100000
set_option maxHeartbeats 8000000
/-! k26: the law -/
namespace K26
open Qd PySem L2
theorem to_plan {wide : Nat} : ∀ {ys : List W}, (∀ y ∈ ys, ∃ q : Nat × Nat, (q.1 < wide ∧ q.2 ≤ 24) ∧ y = pr q) → ∃ p : Plan, ys = p.map pr ∧ p.length = ys.length ∧ ∀ q ∈ p, q.1 < wide ∧ q.2 ≤ 24
  | [], _ => ⟨[], rfl, rfl, fun q hq => by cases hq⟩
  | y :: ys, h => by
    obtain ⟨q, hq, rfl⟩ := h y List.mem_cons_self
    obtain ⟨p, rfl, hl, hp⟩ := to_plan (ys := ys) fun z hz => h z (List.mem_cons_of_mem _ hz)
    refine ⟨q :: p, rfl, by simp, fun z hz => ?_⟩
    rcases List.mem_cons.mp hz with rfl | hz
    · exact hq
    · exact hp z hz
theorem e_lawplan {u : W} (D : Dr u) {wide : Nat} (hw : 1 ≤ wide) : ∃ (p : Plan) (u' : W), Dr u' ∧ 1 ≤ p.length ∧ p.length ≤ 4 ∧ (∀ q ∈ p, q.1 < wide ∧ q.2 ≤ 24) ∧ F__law_plan u [.int (wide : Int)] = .ok (.val (pW p)) u' := by
  obtain ⟨r0, u0, h0, D0, e0⟩ := take_lit 4 D (by decide)
  change F__law_take u [.int 4] = _ at e0
  have hr := rg (1 + r0) (by omega)
  rw [Int.natCast_add] at hr
  change range1? [.int (1 + (r0 : Int))] = _ at hr
  obtain ⟨ys, d', e1, ⟨u', x2, D', rfl⟩, e3, e4⟩ := mLc_ind (vs := [2]) (it := mRng1 (mCons (mBin addW (mC (.int 1)) (mCallP F__law_take 0 (mCons (mC (.int 4)) mNil))) mNil)) (g := store 2) (t := mYes) (e := mTup (mCons (mCallP F__law_take 0 (mCons (mVar 1) mNil)) (mCons (mCallP F__law_take 0 (mCons (mBin ixW (mLst (mCons (mC (.int 3)) (mCons (mC (.int 25)) mNil))) (mCallB intW (mCons (mBin eqW (mCallP F__law_take 0 (mCons (mC (.int 4)) mNil)) (mC (.int 0))) mNil))) mNil)) mNil))) (d := [some (.par u), iv wide, none]) (d1 := [some (.par u0), iv wide, none])
    (ws := (List.range (1 + r0)).map fun i : Nat => PyData.int (i : Int)) (fun d => ∃ (u : W) (x2 : Option W), Dr u ∧ d = [some (.par u), iv wide, x2.map Slot.val]) (fun y => ∃ q : Nat × Nat, (q.1 < wide ∧ q.2 ≤ 24) ∧ y = pr q) (by simp [e0, hr]) (by simp) (by simp; exact size_ok (by omega)) ⟨u0, none, D0, rfl⟩ (by
      rintro w hw' d ⟨u, x2, D, rfl⟩
      obtain ⟨i, _, rfl⟩ := List.mem_map.mp hw'
      obtain ⟨r1, u1, h1, D1, e1⟩ := take_lit wide D hw
      obtain ⟨r2, u2, h2, D2, e2⟩ := take_lit 4 D1 (by decide)
      change F__law_take u1 [.int 4] = _ at e2
      by_cases c : r2 = 0
      · subst c
        obtain ⟨r3, u3, h3, D3, e3⟩ := take_lit 25 D2 (by decide)
        change F__law_take u2 [.int 25] = _ at e3
        exact ⟨[some (.par u), iv wide, iv i], [some (.par u), iv wide, iv i], pr (r1, r3), [some (.par u3), iv wide, iv i], by cases x2 <;> simp, by simp, by simp [pr, e1, e2, at1, e3], ⟨u3, some (.int (i : Int)), D3, rfl⟩, (r1, r3), ⟨h1, by show r3 ≤ 24; omega⟩, rfl⟩
      · have ci : ¬ (r2 : Int) = 0 := by omega
        obtain ⟨r3, u3, h3, D3, e3⟩ := take_lit 3 D2 (by decide)
        change F__law_take u2 [.int 3] = _ at e3
        exact ⟨[some (.par u), iv wide, iv i], [some (.par u), iv wide, iv i], pr (r1, r3), [some (.par u3), iv wide, iv i], by cases x2 <;> simp, by simp, by simp [pr, e1, e2, at0, e3, c, ci], ⟨u3, some (.int (i : Int)), D3, rfl⟩, (r1, r3), ⟨h1, by show r3 ≤ 24; omega⟩, rfl⟩)
  obtain ⟨p, rfl, hl, hp⟩ := to_plan e4
  have hl : p.length = 1 + r0 := by simpa using e3
  refine ⟨p, u', D', by omega, by omega, hp, runP_of ?_⟩
  have hk : backD [some (.par u0), iv wide, none] [2] [some (.par u'), iv wide, x2.map Slot.val] = [some (.par u'), iv wide, none] := by cases x2 <;> simp [backD]
  rw [hk] at e1
  unfold m__law_plan
  rw [show sdP 3 u [.int (wide : Int)] = [some (.par u), iv wide, none] from rfl]
  refine retP (d' := [some (.par u'), iv wide, none]) ?_ rfl
  change _ = SOut.ret (Slot.val (PyData.tuple (p.map pr))) _
  generalize p.map pr = wp at *
  simp [e1, -ev_lc]
/-! ### the hours, counted -/
theorem fdN (a : Nat) {c : Nat} (h0 : 0 < c) (hc : c < 2 ^ 62) : fdivW (.int (a : Int)) (.int (c : Int)) = some (.int ((a / c : Nat) : Int)) := by
  show (if cdec (0 < (c : Int) ∧ (c : Int).natAbs.log2 < 9000) = true then some (PyData.int ((a : Int) / (c : Int))) else none) = _
  rw [if_pos (cdec_iff.mpr ⟨by omega, by
    rw [Int.natAbs_natCast]
    exact Nat.lt_trans ((Nat.log2_lt (by omega)).mpr hc) (by decide)⟩), Int.natCast_ediv]
theorem whole_for {up dn : Nat} (hu : 0 < up) (hd : 0 < dn) (hu2 : up ≤ 1000) (hd2 : dn ≤ 1000) (o0 o1 o2 o3 o4 o5 o7 : Option Slot) : ∀ (p : Plan) (a n : Nat) (x10 x11 x12 : Option W), 
    ∃ (b : Nat) (y10 y11 y12 : Option W), forD (gTupW 2 (gsCons (store 10) (gsCons (store 11) gsNil))) (mSeq (mAsg (store 12) (mBin subW (mVar 10) (mVar 8))) (mSeq (mAsg (store 9) (mBin addW (mBin addW (mVar 9) (mVar 11)) (mIfE (mTest (mBin gtW (mVar 12) (mC (.int 0)))) (mBin fdivW (mBin subW (mBin addW (mVar 12) (mBin ixW (mVar 6) (mC (.int 0)))) (mC (.int 1))) (mBin ixW (mVar 6) (mC (.int 0)))) (mBin fdivW (mBin subW (mBin subW (mBin ixW (mVar 6) (mC (.int 1))) (mVar 12)) (mC (.int 1))) (mBin ixW (mVar 6) (mC (.int 1))))))) (mAsg (store 8) (mVar 10)))) (p.map pr) [o0, o1, o2, o3, o4, o5, sv (.tuple [.int (up : Int), .int (dn : Int)]), o7, iv a, iv n, x10.map Slot.val, x11.map Slot.val, x12.map Slot.val, none, none, none] = .next [o0, o1, o2, o3, o4, o5, sv (.tuple [.int (up : Int), .int (dn : Int)]), o7, iv b, iv (n + tot up dn a p), y10.map Slot.val, y11.map Slot.val, y12.map Slot.val, none, none, none]
  | [], a, n, x10, x11, x12 => ⟨a, x10, x11, x12, rfl⟩
  | (h, k) :: r, a, n, x10, x11, x12 => by
    have hs : (gTupW 2 (gsCons (store 10) (gsCons (store 11) gsNil))) (pr (h, k)) [o0, o1, o2, o3, o4, o5, sv (.tuple [.int (up : Int), .int (dn : Int)]), o7, iv a, iv n, x10.map Slot.val, x11.map Slot.val, x12.map Slot.val, none, none, none] = some [o0, o1, o2, o3, o4, o5, sv (.tuple [.int (up : Int), .int (dn : Int)]), o7, iv a, iv n, iv h, iv k, x12.map Slot.val, none, none, none] := by
      cases x10 <;> cases x11 <;> simp [pr]
    have et : tot up dn a ((h, k) :: r) = way up dn a h + k + tot up dn h r := rfl
    have st : (mSeq (mAsg (store 12) (mBin subW (mVar 10) (mVar 8))) (mSeq (mAsg (store 9) (mBin addW (mBin addW (mVar 9) (mVar 11)) (mIfE (mTest (mBin gtW (mVar 12) (mC (.int 0)))) (mBin fdivW (mBin subW (mBin addW (mVar 12) (mBin ixW (mVar 6) (mC (.int 0)))) (mC (.int 1))) (mBin ixW (mVar 6) (mC (.int 0)))) (mBin fdivW (mBin subW (mBin subW (mBin ixW (mVar 6) (mC (.int 1))) (mVar 12)) (mC (.int 1))) (mBin ixW (mVar 6) (mC (.int 1))))))) (mAsg (store 8) (mVar 10)))) [o0, o1, o2, o3, o4, o5, sv (.tuple [.int (up : Int), .int (dn : Int)]), o7, iv a, iv n, iv h, iv k, x12.map Slot.val, none, none, none] = .next [o0, o1, o2, o3, o4, o5, sv (.tuple [.int (up : Int), .int (dn : Int)]), o7, iv h, iv (n + k + way up dn a h), iv h, iv k, sv (.int ((h : Int) - (a : Int))), none, none, none] := by
      refine sqN (d' := [o0, o1, o2, o3, o4, o5, sv (.tuple [.int (up : Int), .int (dn : Int)]), o7, iv a, iv n, iv h, iv k, sv (.int ((h : Int) - (a : Int))), none, none, none]) (by cases x12 <;> simp) ?_
      refine sqN (d' := [o0, o1, o2, o3, o4, o5, sv (.tuple [.int (up : Int), .int (dn : Int)]), o7, iv a, iv (n + k + way up dn a h), iv h, iv k, sv (.int ((h : Int) - (a : Int))), none, none, none]) ?_ (by simp)
      unfold way
      by_cases c : a < h
      · have c0 : (0 : Int) < (h : Int) - (a : Int) := by omega
        have f := fdN (h - a + up - 1) hu (by omega)
        rw [show ((h - a + up - 1 : Nat) : Int) = (h : Int) - (a : Int) + (up : Int) - 1 by omega] at f
        rw [if_pos c]
        generalize (h - a + up - 1) / up = z at *
        simp [c0, c, at0, at1, f]
      · have c0 : ¬ (0 : Int) < (h : Int) - (a : Int) := by omega
        have f := fdN (a - h + dn - 1) hd (by omega)
        rw [show ((a - h + dn - 1 : Nat) : Int) = (dn : Int) - ((h : Int) - (a : Int)) - 1 by omega] at f
        rw [if_neg c]
        generalize (a - h + dn - 1) / dn = z at *
        simp [c0, c, at0, at1, f]
    obtain ⟨b, y10, y11, y12, e⟩ := whole_for hu hd hu2 hd2 o0 o1 o2 o3 o4 o5 o7 r h (n + k + way up dn a h) (some (.int (h : Int))) (some (.int (k : Int))) (some (.int ((h : Int) - (a : Int))))
    refine ⟨b, y10, y11, y12, ?_⟩
    rw [show List.map pr ((h, k) :: r) = pr (h, k) :: r.map pr from rfl, for_step hs st, et, show n + (way up dn a h + k + tot up dn h r) = n + k + way up dn a h + tot up dn h r by omega]
    exact e
/-! ### values with one thing wrong -/
def oddP (p : Plan) : List W := [.tuple [], .list (p.map pr), .tuple (List.replicate 9 [PyData.tuple [.int 5, .int 5]]).flatten, .tuple [.tuple [.int (-1), .int 5]], .tuple [.tuple [.int 1401, .int 5]], .tuple [.tuple [.int 5, .int (-1)]], .tuple [.tuple [.int 5, .int 25]], .tuple [.tuple [.int 5]], .tuple [.tuple [.int 5, .int 5, .int 5]], .tuple [.list [.int 5, .int 5]], .tuple [.none], .tuple [.tuple [.none, .int 5]], .tuple [.tuple [.int 5, .bool true]], .none, .str "plan"]
theorem oddP_bad (p : Plan) : ∀ w ∈ oddP p, F_is_plan [w] = .ok (.val (.bool false)) := by
  intro w hw
  unfold oddP at hw
  simp only [List.mem_cons, List.not_mem_nil, or_false] at hw
  rcases hw with rfl | rfl | rfl | rfl | rfl | rfl | rfl | rfl | rfl | rfl | rfl | rfl | rfl | rfl | rfl
  · exact x_p2 _ (.inl rfl)
  · exact x_p1 _ (by simp)
  · exact x_p2 _ (.inr (by simp))
  · exact x_p3 (x_s3 (e_num_out (by omega)))
  · exact x_p3 (x_s3 (e_num_out (by omega)))
  · exact x_p3 (x_s4 (e_num_in (by omega)) (e_num_out (by omega)))
  · exact x_p3 (x_s4 (e_num_in (by omega)) (e_num_out (by omega)))
  · exact x_p3 (x_s2 _ (by simp))
  · exact x_p3 (x_s2 _ (by simp))
  · exact x_p3 (x_s1 _ (by simp))
  · exact x_p3 (x_s1 _ (by simp))
  · exact x_p3 (x_s3 (e_num_n _ _))
  · exact x_p3 (x_s4 (e_num_in (by omega)) (e_num_b _ _ _))
  · exact x_p1 _ (by simp)
  · exact x_p1 _ (by simp)
theorem al_hh (l : List Nat) (n : Nat) (hl : l.length ≤ 16000000) : al 2 (.list [.tuple (natW l), .int (n : Int)]) := ⟨by simp, fun d hd => by
  simp only [List.mem_cons, List.not_mem_nil, or_false] at hd
  rcases hd with rfl | rfl
  · exact (al_natW hl).1
  · trivial⟩
def lit (p : Plan) : Plan := (p.take 3).map fun q => (q.1, min q.2 2)
theorem sqYx {a b : MS} {d : SD} {Q : SD → Prop} (h : ∃ d', a d = .next d' ∧ Q d') (z : ∀ d', Q d' → Yes (b d')) : Yes (mSeq a b d) := by
  obtain ⟨d', e, p⟩ := h
  exact sqE e (z d' p)
theorem law_yes (ns : List Int) (hl : ns.length ≤ 63) (hb : ∀ z ∈ ns, Builtin.Int.intBits z ≤ 1048576) : Yes (m_law (sdV 16 [.list (ns.map PyData.int)])) := by
  obtain ⟨u0, eo, D0⟩ := e_draws ns hl hb
  generalize hsc : PyData.list (ns.map PyData.int) = sc at *
  unfold m_law
  rw [show sdV 16 [sc] = [sv sc, none, none, none, none, none, none, none, none, none, none, none, none, none, none, none] from rfl]
  refine sqE (d' := [sv sc, some (.own u0), none, none, none, none, none, none, none, none, none, none, none, none, none, none]) (by simp [eo]) ?_
  obtain ⟨u1, D1, ec⟩ := e_cones D0
  refine sqE (d' := [sv sc, some (.own u1), none, none, none, none, none, none, none, none, none, none, none, none, none, none]) (by simp [ec]) ?_
  obtain ⟨p1, u2, D2, p1a, p1b, p1c, ep1⟩ := e_lawplan D1 (wide := 9) (by decide)
  change F__law_plan u1 [.int 9] = _ at ep1
  obtain ⟨r3, u3, h3, D3, e3⟩ := take_lit 4 D2 (by decide)
  change F__law_take u2 [.int 4] = _ at e3
  obtain ⟨r4, u4, h4, D4, e4⟩ := take_lit 4 D3 (by decide)
  change F__law_take u3 [.int 4] = _ at e4
  obtain ⟨up, eu, up1, up4⟩ : ∃ up : Nat, 1 + (r3 : Int) = (up : Int) ∧ 0 < up ∧ up ≤ 4 := ⟨1 + r3, by omega, by omega, by omega⟩
  obtain ⟨dn, ed, dn1, dn4⟩ : ∃ dn : Nat, 1 + (r4 : Int) = (dn : Int) ∧ 0 < dn ∧ dn ≤ 4 := ⟨1 + r4, by omega, by omega, by omega⟩
  refine sqE (d' := [sv sc, some (.own u4), sv (pW p1), iv up, iv dn, none, none, none, none, none, none, none, none, none, none, none]) (by
    generalize pW p1 = wp at *
    simp [ep1, e3, e4, eu, ed]) ?_
  have cut := cut_take (p1.map pr) 3
  change cutA (p1.map pr) none (some 3) = _ at cut
  rw [← List.map_take] at cut
  have lc := mLc_set2 (a := 10) (b := 11) (it := mItS (mSl (mVar 2) mNoPart (mPart (mC (.int 3))))) (e := mTup (mCons (mVar 10) (mCons (mCallB min2W (mCons (mVar 11) (mCons (mC (.int 2)) mNil))) mNil))) (d := [sv sc, some (.own u4), sv (pW p1), iv up, iv dn, none, none, none, none, none, none, none, none, none, none, none]) (p1.take 3) pr (fun q => pr (q.1, min q.2 2)) (fun q => PyData.int (q.1 : Int)) (fun q => PyData.int (q.2 : Int)) (fun q => rfl) (by
    generalize (p1.take 3).map pr = w3 at *
    rw [show pW p1 = PyData.tuple (p1.map pr) from rfl]
    generalize p1.map pr = wp at *
    simp [cut]) (by simp) (by simp) (by decide) (by simp) (by rw [List.length_take]; omega) (fun q _ => by
    have hm : (if (2 : Int) < (q.2 : Int) then (2 : Int) else (q.2 : Int)) = ((min q.2 2 : Nat) : Int) := by split <;> omega
    simp [pr, hm])
  have el : (p1.take 3).map (fun q => pr (q.1, min q.2 2)) = (lit p1).map pr := by
    unfold lit
    rw [List.map_map]
    rfl
  rw [el] at lc
  have lit8 : ∀ q ∈ lit p1, q.1 ≤ 8 ∧ q.2 ≤ 2 := fun q hq => by
    obtain ⟨z, hz, rfl⟩ := List.mem_map.mp hq
    have := (p1c z (List.mem_of_mem_take hz)).1
    exact ⟨by show z.1 ≤ 8; omega, Nat.min_le_right _ _⟩
  have litl : (lit p1).length ≤ 3 := by unfold lit; rw [List.length_map, List.length_take]; omega
  have litn : lit p1 ≠ [] := fun e => by
    have : (lit p1).length = min 3 p1.length := by unfold lit; rw [List.length_map, List.length_take]
    rw [e] at this
    simp at this
    omega
  have litok : planOk (lit p1) := ⟨by omega, fun q hq => ⟨by have := (lit8 q hq).1; omega, by have := (lit8 q hq).2; omega⟩⟩
  have fh := e_hours up1 dn1 litok
  have ff := e_fewest up1 dn1 litl litn lit8
  have fs := e_same (k := 0) (by decide) (al_int 0 (tot up dn 0 (lit p1) : Nat))
  refine sqE (d' := [sv sc, some (.own u4), sv (pW (lit p1)), iv up, iv dn, none, none, none, none, none, none, none, none, none, none, none]) (by
    rw [show pW (lit p1) = PyData.tuple ((lit p1).map pr) from rfl]
    generalize (lit p1).map pr = w3 at *
    generalize pW p1 = wp at *
    simp [lc, -ev_lc]) ?_
  refine sqE (d' := [sv sc, some (.own u4), sv (pW (lit p1)), iv up, iv dn, none, none, none, none, none, none, none, none, none, none, none]) (by
    generalize pW (lit p1) = w3 at *
    generalize tot up dn 0 (lit p1) = z at *
    simp [fh, ff, fs]) ?_
  clear lc cut el fh ff fs
  generalize pW (lit p1) = w2 at *
  -- the plan
  obtain ⟨r5, u5, h5, D5, e5⟩ := take_lit 2 D4 (by decide)
  change F__law_take u4 [.int 2] = _ at e5
  obtain ⟨wide, hwi, awi⟩ := pick2 (a := 60) (b := 1401) h5
  change atI [PyData.int 60, .int 1401] _ = _ at awi
  obtain ⟨p, u6, D6, pa, pb, pc, ep⟩ := e_lawplan D5 (wide := wide) (by omega)
  obtain ⟨r7, u7, h7, D7, e7⟩ := take_lit 2 D6 (by decide)
  change F__law_take u6 [.int 2] = _ at e7
  obtain ⟨n7, hn7, a7⟩ := pick2 (a := 40) (b := 500) h7
  change atI [PyData.int 40, .int 500] _ = _ at a7
  obtain ⟨r8, u8, h8, D8, e8⟩ := take_lit n7 D7 (by omega)
  obtain ⟨r9, u9, h9, D9, e9⟩ := take_lit 2 D8 (by decide)
  change F__law_take u8 [.int 2] = _ at e9
  obtain ⟨n9, hn9, a9⟩ := pick2 (a := 40) (b := 500) h9
  change atI [PyData.int 40, .int 500] _ = _ at a9
  obtain ⟨r10, u10, h10, D10, e10⟩ := take_lit n9 D9 (by omega)
  obtain ⟨U, eU, U1, U5⟩ : ∃ U : Nat, 1 + (r8 : Int) = (U : Int) ∧ 0 < U ∧ U ≤ 500 := ⟨1 + r8, by omega, by omega, by omega⟩
  obtain ⟨N, eN, N1, N5⟩ : ∃ N : Nat, 1 + (r10 : Int) = (N : Int) ∧ 0 < N ∧ N ≤ 500 := ⟨1 + r10, by omega, by omega, by omega⟩
  have pok : ∀ q ∈ p, stepOk q := fun q hq => ⟨by have := (pc q hq).1; omega, (pc q hq).2⟩
  have plok : planOk p := ⟨by omega, pok⟩
  refine sqE (d' := [sv sc, some (.own u10), sv w2, iv up, iv dn, sv (pW p), sv (.tuple [.int (U : Int), .int (N : Int)]), none, none, none, none, none, none, none, none, none]) (by
    generalize pW p = wp at *
    simp [e5, awi, ep, e7, a7, e8, e9, a9, e10, eU, eN]) ?_
  have fl := l_heats U1 N1 plok
  refine sqE (d' := [sv sc, some (.own u10), sv w2, iv up, iv dn, sv (pW p), sv (.tuple [.int (U : Int), .int (N : Int)]), sv ((PyData.tuple (natW (hts U N 0 p)))), iv (0 : Nat), iv (0 : Nat), none, none, none, none, none, none]) (by
    generalize natW (hts U N 0 p) = wh at *
    generalize pW p = wp at *
    simp [fl, at0, at1]) ?_
  obtain ⟨b, y10, y11, y12, ew⟩ := whole_for U1 N1 (by omega) (by omega) (sv sc) (some (.own u10)) (sv w2) (iv up) (iv dn) (sv (pW p)) (sv ((PyData.tuple (natW (hts U N 0 p))))) p 0 0 none none none
  rw [Nat.zero_add] at ew
  refine sqE (d' := [sv sc, some (.own u10), sv w2, iv up, iv dn, sv (pW p), sv (.tuple [.int (U : Int), .int (N : Int)]), sv ((PyData.tuple (natW (hts U N 0 p)))), iv b, iv (tot U N 0 p), y10.map Slot.val, y11.map Slot.val, y12.map Slot.val, none, none, none]) (by
    rw [ev_for]
    simp only [ev_itS, ev_var, List.getElem?_cons_zero, List.getElem?_cons_succ, Out.bind, ofOpt, ev_itemsT]
    exact ew) ?_
  clear ew
  have hz := hts_len U N p 0
  have ht := tot_n U1 N1 plok
  have g1 := e_plan pa (by omega) pok
  have g2 := e_hp U1 N1 plok
  have g3 := e_hours U1 N1 plok
  have g4 := e_same (k := 2) (by decide) (al_hh (hts U N 0 p) (tot U N 0 p) (by omega))
  have hlen : (natW (hts U N 0 p)).length = tot U N 0 p := by rw [natW_len, hz]
  refine sqE (d' := [sv sc, some (.own u10), sv w2, iv up, iv dn, sv (pW p), sv (.tuple [.int (U : Int), .int (N : Int)]), sv ((PyData.tuple (natW (hts U N 0 p)))), iv b, iv (tot U N 0 p), y10.map Slot.val, y11.map Slot.val, y12.map Slot.val, none, none, none]) (by
    generalize natW (hts U N 0 p) = wh at *
    generalize pW p = wp at *
    generalize tot U N 0 p = z at *
    simp [g1, g2, g3, g4, hlen]) ?_
  have m1 : min2W [.int 500, .int ((U : Int) + 3)] = some (.int ((min 500 (U + 3) : Nat) : Int)) := by
    rw [ev_min2]
    congr 2
    split <;> omega
  have m2 : min2W [.int 500, .int ((N : Int) + 3)] = some (.int ((min 500 (N + 3) : Nat) : Int)) := by
    rw [ev_min2]
    congr 2
    split <;> omega
  have g5 := e_hours (up := min 500 (U + 3)) (dn := N) (by omega) N1 plok
  have g6 := e_hours (up := U) (dn := min 500 (N + 3)) U1 (by omega) plok
  have c5 : ¬ tot U N 0 p < tot (min 500 (U + 3)) N 0 p := Nat.not_lt.mpr (tot_rates U1 N1 (by omega) (Nat.le_refl _) p 0)
  have c6 : ¬ tot U N 0 p < tot U (min 500 (N + 3)) 0 p := Nat.not_lt.mpr (tot_rates U1 N1 (Nat.le_refl _) (by omega) p 0)
  refine sqE (d' := [sv sc, some (.own u10), sv w2, iv up, iv dn, sv (pW p), sv (.tuple [.int (U : Int), .int (N : Int)]), sv ((PyData.tuple (natW (hts U N 0 p)))), iv b, iv (tot U N 0 p), y10.map Slot.val, y11.map Slot.val, y12.map Slot.val, none, none, none]) (by
    generalize tot (min 500 (U + 3)) N 0 p = z5 at *
    generalize tot U (min 500 (N + 3)) 0 p = z6 at *
    generalize min 500 (U + 3) = q5 at *
    generalize min 500 (N + 3) = q6 at *
    generalize natW (hts U N 0 p) = wh at *
    generalize pW p = wp at *
    generalize tot U N 0 p = z at *
    simp [at0, at1, m1, m2, g5, g6, c5, c6, -ev_min2]) ?_
  clear g5 g6 c5 c6 m1 m2 g2 g3 g4 fl
  generalize (PyData.tuple (natW (hts U N 0 p))) = w7 at *
  obtain ⟨j, u11, hj, D11, e11⟩ := take_lit p.length D10 (by omega)
  have hpl : (p.map pr).length = p.length := List.length_map ..
  refine sqE (d' := [sv sc, some (.own u11), sv w2, iv up, iv dn, sv (pW p), sv (.tuple [.int (U : Int), .int (N : Int)]), sv w7, iv b, iv (tot U N 0 p), y10.map Slot.val, y11.map Slot.val, y12.map Slot.val, iv j, none, none]) (by
    rw [show pW p = PyData.tuple (p.map pr) from rfl]
    generalize p.map pr = wp at *
    generalize tot U N 0 p = z at *
    simp [hpl, e11]) ?_
  refine frzE (d' := [sv sc, sv u11, sv w2, iv up, iv dn, sv (pW p), sv (.tuple [.int (U : Int), .int (N : Int)]), sv w7, iv b, iv (tot U N 0 p), y10.map Slot.val, y11.map Slot.val, y12.map Slot.val, iv j, none, none]) (by
    generalize pW p = wp at *
    simp) ?_
  refine sqE (d' := [sv sc, sv u11, sv w2, iv up, iv dn, sv (pW p), sv (.tuple [.int (U : Int), .int (N : Int)]), sv w7, iv b, iv (tot U N 0 p), y10.map Slot.val, y11.map Slot.val, y12.map Slot.val, iv j, none, none]) ?_ ?_
  · by_cases c : j + 1 < p.length
    · have ci : (j : Int) < (p.length : Int) - 1 := by omega
      have t1 := cut_take (p.map pr) j
      have t2 := cut_drop (p.map pr) (j + 1)
      rw [Int.natCast_add] at t2
      change cutA (p.map pr) (some ((j : Int) + 1)) none = _ at t2
      rw [← List.map_take] at t1
      rw [← List.map_drop] at t2
      have ad := add_tup (xs := (p.take j).map pr) (ys := (p.drop (j + 1)).map pr) (by rw [List.length_map, List.length_map, List.length_take, List.length_drop]; omega)
      rw [← List.map_append] at ad
      have g7 := e_hours (p := p.take j ++ p.drop (j + 1)) U1 N1 ⟨by rw [List.length_append, List.length_take, List.length_drop]; omega, fun q hq => by
        rcases List.mem_append.mp hq with z | z
        · exact pok q (List.mem_of_mem_take z)
        · exact pok q (List.mem_of_mem_drop z)⟩
      change F_hours_of_plan [.tuple ((p.take j ++ p.drop (j + 1)).map pr), _] = _ at g7
      have c7 : ¬ tot U N 0 p < tot U N 0 (p.take j ++ p.drop (j + 1)) := Nat.not_lt.mpr (tot_drop U1 N1 p 0 j c)
      rw [show pW p = PyData.tuple (p.map pr) from rfl]
      generalize tot U N 0 (p.take j ++ p.drop (j + 1)) = z7 at *
      generalize (p.take j ++ p.drop (j + 1)).map pr = w9 at *
      generalize (p.take j).map pr = w8 at *
      generalize (p.drop (j + 1)).map pr = w10 at *
      generalize p.map pr = wp at *
      generalize tot U N 0 p = z at *
      simp [hpl, ci, t1, t2, ad, g7, c7]
    · have ci : ¬ (j : Int) < (p.length : Int) - 1 := by omega
      rw [show pW p = PyData.tuple (p.map pr) from rfl]
      generalize p.map pr = wp at *
      generalize tot U N 0 p = z at *
      simp [hpl, ci]
  have mt := mul_tup (xs := [PyData.tuple [.int 5, .int 5]]) (k := 9) (by simp) (by decide) (by decide) (by decide)
  change mulW (.tuple [.tuple [.int 5, .int 5]]) (.int 9) = _ at mt
  refine sqE (d' := [sv sc, sv u11, sv w2, iv up, iv dn, sv (pW p), sv (.tuple [.int (U : Int), .int (N : Int)]), sv w7, iv b, iv (tot U N 0 p), y10.map Slot.val, y11.map Slot.val, y12.map Slot.val, iv j, sv (.list (oddP p)), none]) (by
    unfold oddP
    rw [show pW p = PyData.tuple (p.map pr) from rfl]
    generalize (List.replicate 9 [PyData.tuple [.int 5, .int 5]]).flatten = z9 at *
    generalize p.map pr = wp at *
    generalize tot U N 0 p = z at *
    simp [mt]) ?_
  have ob := oddP_bad p
  have ol : (oddP p).length ≤ 16000000 := by unfold oddP; simp
  have nl := eq_nilL
  generalize oddP p = og at *
  generalize pW p = wp at *
  generalize tot U N 0 p = z at *
  have lc4 := mLc_none (v := 15) (it := mItS (mVar 14)) (t := mTest (mBin notBW (mCallV F_is_plan (mCons (mVar 15) mNil)) (mC (.bool false)))) (e := mVar 15) (d := [sv sc, sv u11, sv w2, iv up, iv dn, sv wp, sv (.tuple [.int (U : Int), .int (N : Int)]), sv w7, iv b, iv z, y10.map Slot.val, y11.map Slot.val, y12.map Slot.val, iv j, sv (.list og), none]) og id (by simp) (by simp) (by simp) ol (fun v hv => by
    have := ob v hv
    simp [this])
  exact retY (d' := [sv sc, sv u11, sv w2, iv up, iv dn, sv wp, sv (.tuple [.int (U : Int), .int (N : Int)]), sv w7, iv b, iv z, y10.map Slot.val, y11.map Slot.val, y12.map Slot.val, iv j, sv (.list og), none]) (by simp [lc4, nl, -ev_lc])
theorem law_true (ns : List Int) (hl : ns.length ≤ 63) (hb : ∀ z ∈ ns, Builtin.Int.intBits z ≤ 1048576) : F_law [.list (ns.map PyData.int)] = .ok (.val (.bool true)) := runV_yes (law_yes ns hl hb)
end K26
end
namespace K26
open PySem PySem.Spec PyProof.Rows L2 L2H Qd
def TT : Nat → Value := fun _ => .none
theorem all_mk {P : Program} {w : World} {K : PySem.W.Frag} {h : Heap} {mg : Str → Option Value} {fa : Addr} (X : K.In h) (G : h.Ns mainGlobals mg) (hfa : mg "law" = some (.ref fa))
    (hTabs : ∀ y ∈ (["are_heats", "heats_of_plan", "is_plan"] : List Str), ∀ c P, PySem.W.tabIn K y = some (c, P) → PySem.W.CodeHd h c P ∧ h.get? P = some { cls := .none, data := .fields #[] })
    { a__law_draws a__law_take a_is_number a_are_heats a__law_bends a_greatest_bent a_bend_hour a_is_cone a__law_same a__law_cones a__law_plan a__law_heats a_heats_of_plan a_hours_of_plan a__law_fewest a_is_step a_is_plan a_law c_are_heats P_are_heats c_heats_of_plan P_heats_of_plan c_is_plan P_is_plan : Addr} {od__law_draws an__law_draws od__law_take an__law_take od_is_number an_is_number od_are_heats an_are_heats od__law_bends an__law_bends od_greatest_bent an_greatest_bent od_bend_hour an_bend_hour od_is_cone an_is_cone od__law_same an__law_same od__law_cones an__law_cones od__law_plan an__law_plan od__law_heats an__law_heats od_heats_of_plan an_heats_of_plan od_hours_of_plan an_hours_of_plan od__law_fewest an__law_fewest od_is_step an_is_step od_is_plan an_is_plan od_law an_law : Option Addr} {sl__law_draws sl__law_take sl_is_number sl_are_heats sl__law_bends sl_greatest_bent sl_bend_hour sl_is_cone sl__law_same sl__law_cones sl__law_plan sl__law_heats sl_heats_of_plan sl_hours_of_plan sl__law_fewest sl_is_step sl_is_plan sl_law : Array (Option Value)} {oc__law_draws kV__law_draws dc__law_draws pm__law_draws ct__law_draws cd__law_draws oc__law_take kV__law_take dc__law_take pm__law_take ct__law_take cd__law_take oc_is_number kV_is_number dc_is_number pm_is_number ct_is_number cd_is_number oc_are_heats kV_are_heats dc_are_heats pm_are_heats ct_are_heats oc__law_bends kV__law_bends dc__law_bends pm__law_bends ct__law_bends cd__law_bends oc_greatest_bent kV_greatest_bent dc_greatest_bent pm_greatest_bent ct_greatest_bent cd_greatest_bent oc_bend_hour kV_bend_hour dc_bend_hour pm_bend_hour ct_bend_hour cd_bend_hour oc_is_cone kV_is_cone dc_is_cone pm_is_cone ct_is_cone cd_is_cone oc__law_same kV__law_same dc__law_same pm__law_same ct__law_same cd__law_same oc__law_cones kV__law_cones dc__law_cones pm__law_cones ct__law_cones cd__law_cones oc__law_plan kV__law_plan dc__law_plan pm__law_plan ct__law_plan cd__law_plan oc__law_heats kV__law_heats dc__law_heats pm__law_heats ct__law_heats cd__law_heats oc_heats_of_plan kV_heats_of_plan dc_heats_of_plan pm_heats_of_plan ct_heats_of_plan oc_hours_of_plan kV_hours_of_plan dc_hours_of_plan pm_hours_of_plan ct_hours_of_plan cd_hours_of_plan oc__law_fewest kV__law_fewest dc__law_fewest pm__law_fewest ct__law_fewest cd__law_fewest oc_is_step kV_is_step dc_is_step pm_is_step ct_is_step cd_is_step oc_is_plan kV_is_plan dc_is_plan pm_is_plan ct_is_plan oc_law kV_law dc_law pm_law ct_law cd_law : Value} {tk_MOST_CONE_HOURS tk_MOST_HEAT_conebends tk_MOST_HEAT_heatplans tk_MOST_HOLD tk_MOST_HOURS tk_MOST_STEPS : Tok} {to_are_heats : Value} {td_are_heats : Option Addr} {tv_are_heats : Array Value} {ts_are_heats : Array (Option Value)} {to_heats_of_plan : Value} {td_heats_of_plan : Option Addr} {tv_heats_of_plan : Array Value} {ts_heats_of_plan : Array (Option Value)} {to_is_plan : Value} {td_is_plan : Option Addr} {tv_is_plan : Array Value} {ts_is_plan : Array (Option Value)}
    (ng : PySem.W.specialIn K (.builtin "object.__class__") "__get__" = some (some (.builtin "getset_descriptor.__get__")))
    (tg : PySem.W.takesIn K (.builtin "object.__class__") = some true)
    (c_MOST_CONE_HOURS : PySem.W.nsIn K mainGlobals "MOST_CONE_HOURS" = some (some (.int 24 tk_MOST_CONE_HOURS)))
    (c_MOST_HEAT_conebends : PySem.W.nsIn K mainGlobals "MOST_HEAT_conebends" = some (some (.int 1400 tk_MOST_HEAT_conebends)))
    (c_MOST_HEAT_heatplans : PySem.W.nsIn K mainGlobals "MOST_HEAT_heatplans" = some (some (.int 1400 tk_MOST_HEAT_heatplans)))
    (c_MOST_HOLD : PySem.W.nsIn K mainGlobals "MOST_HOLD" = some (some (.int 24 tk_MOST_HOLD)))
    (c_MOST_HOURS : PySem.W.nsIn K mainGlobals "MOST_HOURS" = some (some (.int 48 tk_MOST_HOURS)))
    (c_MOST_STEPS : PySem.W.nsIn K mainGlobals "MOST_STEPS" = some (some (.int 8 tk_MOST_STEPS)))
    (n_abs : PySem.W.nsIn K mainGlobals "abs" = some none)
    (n_all : PySem.W.nsIn K mainGlobals "all" = some none)
    (n_bool : PySem.W.nsIn K mainGlobals "bool" = some none)
    (n_enumerate : PySem.W.nsIn K mainGlobals "enumerate" = some none)
    (n_int : PySem.W.nsIn K mainGlobals "int" = some none)
    (n_isinstance : PySem.W.nsIn K mainGlobals "isinstance" = some none)
    (n_len : PySem.W.nsIn K mainGlobals "len" = some none)
    (n_list : PySem.W.nsIn K mainGlobals "list" = some none)
    (n_max : PySem.W.nsIn K mainGlobals "max" = some none)
    (n_min : PySem.W.nsIn K mainGlobals "min" = some none)
    (n_range : PySem.W.nsIn K mainGlobals "range" = some none)
    (n_reversed : PySem.W.nsIn K mainGlobals "reversed" = some none)
    (n_str : PySem.W.nsIn K mainGlobals "str" = some none)
    (n_tuple : PySem.W.nsIn K mainGlobals "tuple" = some none)
    (g__law_draws : PySem.W.nsIn K mainGlobals "_law_draws" = some (some (.ref a__law_draws)))
    (l__law_draws : K.lookup a__law_draws = some ⟨oc__law_draws, od__law_draws, .func (PySem.W.fnOf "_law_draws" "_law_draws" (defArgs s__law_draws) (defBody s__law_draws) (defScope s__law_draws) .none kV__law_draws dc__law_draws pm__law_draws an__law_draws cd__law_draws ct__law_draws), sl__law_draws⟩)
    (d__law_draws : PySem.W.codeIn K cd__law_draws "_law_draws" = true)
    (k__law_draws : PySem.W.keepIn K (.ref a__law_draws) = true)
    (g__law_take : PySem.W.nsIn K mainGlobals "_law_take" = some (some (.ref a__law_take)))
    (l__law_take : K.lookup a__law_take = some ⟨oc__law_take, od__law_take, .func (PySem.W.fnOf "_law_take" "_law_take" (defArgs s__law_take) (defBody s__law_take) (defScope s__law_take) .none kV__law_take dc__law_take pm__law_take an__law_take cd__law_take ct__law_take), sl__law_take⟩)
    (d__law_take : PySem.W.codeIn K cd__law_take "_law_take" = true)
    (k__law_take : PySem.W.keepIn K (.ref a__law_take) = true)
    (g_is_number : PySem.W.nsIn K mainGlobals "is_number" = some (some (.ref a_is_number)))
    (l_is_number : K.lookup a_is_number = some ⟨oc_is_number, od_is_number, .func (PySem.W.fnOf "is_number" "is_number" (defArgs s_is_number) (defBody s_is_number) (defScope s_is_number) .none kV_is_number dc_is_number pm_is_number an_is_number cd_is_number ct_is_number), sl_is_number⟩)
    (d_is_number : PySem.W.codeIn K cd_is_number "is_number" = true)
    (k_is_number : PySem.W.keepIn K (.ref a_is_number) = true)
    (g_are_heats : PySem.W.nsIn K mainGlobals "are_heats" = some (some (.ref a_are_heats)))
    (l_are_heats : K.lookup a_are_heats = some ⟨oc_are_heats, od_are_heats, .func (PySem.W.fnOf "are_heats" "are_heats" (defArgs s_are_heats) (defBody s_are_heats) (defScope s_are_heats) .none kV_are_heats dc_are_heats pm_are_heats an_are_heats (.ref c_are_heats) ct_are_heats), sl_are_heats⟩)
    (d_are_heats : PySem.W.codeIn K (.ref c_are_heats) "are_heats" = true)
    (k_are_heats : PySem.W.keepIn K (.ref a_are_heats) = true)
    (t_are_heats : K.lookup c_are_heats = some ⟨to_are_heats, td_are_heats, .fields tv_are_heats, ts_are_heats⟩)
    (p_are_heats : (tv_are_heats[11]? : Option Value) = some (.ref P_are_heats))
    (z_are_heats : K.lookup P_are_heats = none)
    (g__law_bends : PySem.W.nsIn K mainGlobals "_law_bends" = some (some (.ref a__law_bends)))
    (l__law_bends : K.lookup a__law_bends = some ⟨oc__law_bends, od__law_bends, .func (PySem.W.fnOf "_law_bends" "_law_bends" (defArgs s__law_bends) (defBody s__law_bends) (defScope s__law_bends) .none kV__law_bends dc__law_bends pm__law_bends an__law_bends cd__law_bends ct__law_bends), sl__law_bends⟩)
    (d__law_bends : PySem.W.codeIn K cd__law_bends "_law_bends" = true)
    (k__law_bends : PySem.W.keepIn K (.ref a__law_bends) = true)
    (g_greatest_bent : PySem.W.nsIn K mainGlobals "greatest_bent" = some (some (.ref a_greatest_bent)))
    (l_greatest_bent : K.lookup a_greatest_bent = some ⟨oc_greatest_bent, od_greatest_bent, .func (PySem.W.fnOf "greatest_bent" "greatest_bent" (defArgs s_greatest_bent) (defBody s_greatest_bent) (defScope s_greatest_bent) .none kV_greatest_bent dc_greatest_bent pm_greatest_bent an_greatest_bent cd_greatest_bent ct_greatest_bent), sl_greatest_bent⟩)
    (d_greatest_bent : PySem.W.codeIn K cd_greatest_bent "greatest_bent" = true)
    (k_greatest_bent : PySem.W.keepIn K (.ref a_greatest_bent) = true)
    (g_bend_hour : PySem.W.nsIn K mainGlobals "bend_hour" = some (some (.ref a_bend_hour)))
    (l_bend_hour : K.lookup a_bend_hour = some ⟨oc_bend_hour, od_bend_hour, .func (PySem.W.fnOf "bend_hour" "bend_hour" (defArgs s_bend_hour) (defBody s_bend_hour) (defScope s_bend_hour) .none kV_bend_hour dc_bend_hour pm_bend_hour an_bend_hour cd_bend_hour ct_bend_hour), sl_bend_hour⟩)
    (d_bend_hour : PySem.W.codeIn K cd_bend_hour "bend_hour" = true)
    (k_bend_hour : PySem.W.keepIn K (.ref a_bend_hour) = true)
    (g_is_cone : PySem.W.nsIn K mainGlobals "is_cone" = some (some (.ref a_is_cone)))
    (l_is_cone : K.lookup a_is_cone = some ⟨oc_is_cone, od_is_cone, .func (PySem.W.fnOf "is_cone" "is_cone" (defArgs s_is_cone) (defBody s_is_cone) (defScope s_is_cone) .none kV_is_cone dc_is_cone pm_is_cone an_is_cone cd_is_cone ct_is_cone), sl_is_cone⟩)
    (d_is_cone : PySem.W.codeIn K cd_is_cone "is_cone" = true)
    (k_is_cone : PySem.W.keepIn K (.ref a_is_cone) = true)
    (g__law_same : PySem.W.nsIn K mainGlobals "_law_same" = some (some (.ref a__law_same)))
    (l__law_same : K.lookup a__law_same = some ⟨oc__law_same, od__law_same, .func (PySem.W.fnOf "_law_same" "_law_same" (defArgs s__law_same) (defBody s__law_same) (defScope s__law_same) .none kV__law_same dc__law_same pm__law_same an__law_same cd__law_same ct__law_same), sl__law_same⟩)
    (d__law_same : PySem.W.codeIn K cd__law_same "_law_same" = true)
    (k__law_same : PySem.W.keepIn K (.ref a__law_same) = true)
    (g__law_cones : PySem.W.nsIn K mainGlobals "_law_cones" = some (some (.ref a__law_cones)))
    (l__law_cones : K.lookup a__law_cones = some ⟨oc__law_cones, od__law_cones, .func (PySem.W.fnOf "_law_cones" "_law_cones" (defArgs s__law_cones) (defBody s__law_cones) (defScope s__law_cones) .none kV__law_cones dc__law_cones pm__law_cones an__law_cones cd__law_cones ct__law_cones), sl__law_cones⟩)
    (d__law_cones : PySem.W.codeIn K cd__law_cones "_law_cones" = true)
    (k__law_cones : PySem.W.keepIn K (.ref a__law_cones) = true)
    (g__law_plan : PySem.W.nsIn K mainGlobals "_law_plan" = some (some (.ref a__law_plan)))
    (l__law_plan : K.lookup a__law_plan = some ⟨oc__law_plan, od__law_plan, .func (PySem.W.fnOf "_law_plan" "_law_plan" (defArgs s__law_plan) (defBody s__law_plan) (defScope s__law_plan) .none kV__law_plan dc__law_plan pm__law_plan an__law_plan cd__law_plan ct__law_plan), sl__law_plan⟩)
    (d__law_plan : PySem.W.codeIn K cd__law_plan "_law_plan" = true)
    (k__law_plan : PySem.W.keepIn K (.ref a__law_plan) = true)
    (g__law_heats : PySem.W.nsIn K mainGlobals "_law_heats" = some (some (.ref a__law_heats)))
    (l__law_heats : K.lookup a__law_heats = some ⟨oc__law_heats, od__law_heats, .func (PySem.W.fnOf "_law_heats" "_law_heats" (defArgs s__law_heats) (defBody s__law_heats) (defScope s__law_heats) .none kV__law_heats dc__law_heats pm__law_heats an__law_heats cd__law_heats ct__law_heats), sl__law_heats⟩)
    (d__law_heats : PySem.W.codeIn K cd__law_heats "_law_heats" = true)
    (k__law_heats : PySem.W.keepIn K (.ref a__law_heats) = true)
    (g_heats_of_plan : PySem.W.nsIn K mainGlobals "heats_of_plan" = some (some (.ref a_heats_of_plan)))
    (l_heats_of_plan : K.lookup a_heats_of_plan = some ⟨oc_heats_of_plan, od_heats_of_plan, .func (PySem.W.fnOf "heats_of_plan" "heats_of_plan" (defArgs s_heats_of_plan) (defBody s_heats_of_plan) (defScope s_heats_of_plan) .none kV_heats_of_plan dc_heats_of_plan pm_heats_of_plan an_heats_of_plan (.ref c_heats_of_plan) ct_heats_of_plan), sl_heats_of_plan⟩)
    (d_heats_of_plan : PySem.W.codeIn K (.ref c_heats_of_plan) "heats_of_plan" = true)
    (k_heats_of_plan : PySem.W.keepIn K (.ref a_heats_of_plan) = true)
    (t_heats_of_plan : K.lookup c_heats_of_plan = some ⟨to_heats_of_plan, td_heats_of_plan, .fields tv_heats_of_plan, ts_heats_of_plan⟩)
    (p_heats_of_plan : (tv_heats_of_plan[11]? : Option Value) = some (.ref P_heats_of_plan))
    (z_heats_of_plan : K.lookup P_heats_of_plan = none)
    (g_hours_of_plan : PySem.W.nsIn K mainGlobals "hours_of_plan" = some (some (.ref a_hours_of_plan)))
    (l_hours_of_plan : K.lookup a_hours_of_plan = some ⟨oc_hours_of_plan, od_hours_of_plan, .func (PySem.W.fnOf "hours_of_plan" "hours_of_plan" (defArgs s_hours_of_plan) (defBody s_hours_of_plan) (defScope s_hours_of_plan) .none kV_hours_of_plan dc_hours_of_plan pm_hours_of_plan an_hours_of_plan cd_hours_of_plan ct_hours_of_plan), sl_hours_of_plan⟩)
    (d_hours_of_plan : PySem.W.codeIn K cd_hours_of_plan "hours_of_plan" = true)
    (k_hours_of_plan : PySem.W.keepIn K (.ref a_hours_of_plan) = true)
    (g__law_fewest : PySem.W.nsIn K mainGlobals "_law_fewest" = some (some (.ref a__law_fewest)))
    (l__law_fewest : K.lookup a__law_fewest = some ⟨oc__law_fewest, od__law_fewest, .func (PySem.W.fnOf "_law_fewest" "_law_fewest" (defArgs s__law_fewest) (defBody s__law_fewest) (defScope s__law_fewest) .none kV__law_fewest dc__law_fewest pm__law_fewest an__law_fewest cd__law_fewest ct__law_fewest), sl__law_fewest⟩)
    (d__law_fewest : PySem.W.codeIn K cd__law_fewest "_law_fewest" = true)
    (k__law_fewest : PySem.W.keepIn K (.ref a__law_fewest) = true)
    (g_is_step : PySem.W.nsIn K mainGlobals "is_step" = some (some (.ref a_is_step)))
    (l_is_step : K.lookup a_is_step = some ⟨oc_is_step, od_is_step, .func (PySem.W.fnOf "is_step" "is_step" (defArgs s_is_step) (defBody s_is_step) (defScope s_is_step) .none kV_is_step dc_is_step pm_is_step an_is_step cd_is_step ct_is_step), sl_is_step⟩)
    (d_is_step : PySem.W.codeIn K cd_is_step "is_step" = true)
    (k_is_step : PySem.W.keepIn K (.ref a_is_step) = true)
    (g_is_plan : PySem.W.nsIn K mainGlobals "is_plan" = some (some (.ref a_is_plan)))
    (l_is_plan : K.lookup a_is_plan = some ⟨oc_is_plan, od_is_plan, .func (PySem.W.fnOf "is_plan" "is_plan" (defArgs s_is_plan) (defBody s_is_plan) (defScope s_is_plan) .none kV_is_plan dc_is_plan pm_is_plan an_is_plan (.ref c_is_plan) ct_is_plan), sl_is_plan⟩)
    (d_is_plan : PySem.W.codeIn K (.ref c_is_plan) "is_plan" = true)
    (k_is_plan : PySem.W.keepIn K (.ref a_is_plan) = true)
    (t_is_plan : K.lookup c_is_plan = some ⟨to_is_plan, td_is_plan, .fields tv_is_plan, ts_is_plan⟩)
    (p_is_plan : (tv_is_plan[11]? : Option Value) = some (.ref P_is_plan))
    (z_is_plan : K.lookup P_is_plan = none)
    (g_law : PySem.W.nsIn K mainGlobals "law" = some (some (.ref a_law)))
    (l_law : K.lookup a_law = some ⟨oc_law, od_law, .func (PySem.W.fnOf "law" "law" (defArgs s_law) (defBody s_law) (defScope s_law) .none kV_law dc_law pm_law an_law cd_law ct_law), sl_law⟩)
    (d_law : PySem.W.codeIn K cd_law "law" = true)
    (k_law : PySem.W.keepIn K (.ref a_law) = true)
    : ∃ (fd : FuncData) (cs : List (Addr × Addr)) (sp : Sp), (∀ p ∈ cs, h.get? p.2 = some { cls := .none, data := .fields #[] }) ∧ (∀ p ∈ cs, K.lookup p.2 = none) ∧ (∀ p ∈ cs, PySem.W.CodeHd h p.1 p.2) ∧ (∀ (s : Shared) (u : Value), BindsTo s fd ⟨[u], []⟩ [("script", u)]) ∧
      (∀ (H : Hp) (a : Addr) (ns : List Int), ns.length ≤ 63 → (∀ z ∈ ns, Builtin.Int.intBits z ≤ 1048576) → (∀ p ∈ cs, H p.2 = some (.tbl #[])) → SqL K H a (ns.map V.int) → sp [.ref a] H (fun v _ => v = .bl true) fun _ _ _ => False) ∧
      ∀ base : Heap, K.In base → base.Ns mainGlobals mg → (∀ p ∈ cs, LamX.TabB base mg p.1 p.2) → FnOk P w K mg base (L2N.CX P w) 8 fa fd ["script"] sp := by
  have e := hfa.symm.trans (PySem.W.mg_of X G g_law)
  cases e
  have cf : CF K TT 0 subC := by
    refine ⟨fun i hi => ?_, fun i j hi hj => ?_, fun i j hi hj => ?_⟩
    · exact absurd hi (Nat.not_lt_zero _)
    · exact absurd hi (Nat.not_lt_zero _)
    · exact absurd hi (Nat.not_lt_zero _)
  have T : Tx K mg TT := { c_MOST_CONE_HOURS := ⟨tk_MOST_CONE_HOURS, PySem.W.mg_of X G c_MOST_CONE_HOURS⟩, c_MOST_HEAT_conebends := ⟨tk_MOST_HEAT_conebends, PySem.W.mg_of X G c_MOST_HEAT_conebends⟩, c_MOST_HEAT_heatplans := ⟨tk_MOST_HEAT_heatplans, PySem.W.mg_of X G c_MOST_HEAT_heatplans⟩, c_MOST_HOLD := ⟨tk_MOST_HOLD, PySem.W.mg_of X G c_MOST_HOLD⟩, c_MOST_HOURS := ⟨tk_MOST_HOURS, PySem.W.mg_of X G c_MOST_HOURS⟩, c_MOST_STEPS := ⟨tk_MOST_STEPS, PySem.W.mg_of X G c_MOST_STEPS⟩, n_abs := PySem.W.mg_none_of X G n_abs, n_all := PySem.W.mg_none_of X G n_all, n_bool := PySem.W.mg_none_of X G n_bool, n_enumerate := PySem.W.mg_none_of X G n_enumerate, n_int := PySem.W.mg_none_of X G n_int, n_isinstance := PySem.W.mg_none_of X G n_isinstance, n_len := PySem.W.mg_none_of X G n_len, n_list := PySem.W.mg_none_of X G n_list, n_max := PySem.W.mg_none_of X G n_max, n_min := PySem.W.mg_none_of X G n_min, n_range := PySem.W.mg_none_of X G n_range, n_reversed := PySem.W.mg_none_of X G n_reversed, n_str := PySem.W.mg_none_of X G n_str, n_tuple := PySem.W.mg_none_of X G n_tuple, cf := cf }
  have F__law_draws := fun_mk (st := s__law_draws) l__law_draws d__law_draws k__law_draws
  have C__law_draws : Cl K mg "_law_draws" a__law_draws _ ["script"] := ⟨PySem.W.mg_of X G g__law_draws, k__law_draws, F__law_draws.binds (ps := ["script"]) fun _ _ _ _ _ _ us hl => match us, hl with | [_], _ => rfl⟩
  have F__law_take := fun_mk (st := s__law_take) l__law_take d__law_take k__law_take
  have C__law_take : Cl K mg "_law_take" a__law_take _ ["draws", "bound"] := ⟨PySem.W.mg_of X G g__law_take, k__law_take, F__law_take.binds (ps := ["draws", "bound"]) fun _ _ _ _ _ _ us hl => match us, hl with | [_, _], _ => rfl⟩
  have F_is_number := fun_mk (st := s_is_number) l_is_number d_is_number k_is_number
  have C_is_number : Cl K mg "is_number" a_is_number _ ["value", "least", "most"] := ⟨PySem.W.mg_of X G g_is_number, k_is_number, F_is_number.binds (ps := ["value", "least", "most"]) fun _ _ _ _ _ _ us hl => match us, hl with | [_, _, _], _ => rfl⟩
  have F_are_heats := funC_mk (st := s_are_heats) l_are_heats d_are_heats k_are_heats
  have C_are_heats : Cl K mg "are_heats" a_are_heats _ ["value"] := ⟨PySem.W.mg_of X G g_are_heats, k_are_heats, F_are_heats.binds (ps := ["value"]) fun _ _ _ _ _ _ us hl => match us, hl with | [_], _ => rfl⟩
  have F__law_bends := fun_mk (st := s__law_bends) l__law_bends d__law_bends k__law_bends
  have C__law_bends : Cl K mg "_law_bends" a__law_bends _ ["heats", "at", "hours"] := ⟨PySem.W.mg_of X G g__law_bends, k__law_bends, F__law_bends.binds (ps := ["heats", "at", "hours"]) fun _ _ _ _ _ _ us hl => match us, hl with | [_, _, _], _ => rfl⟩
  have F_greatest_bent := fun_mk (st := s_greatest_bent) l_greatest_bent d_greatest_bent k_greatest_bent
  have C_greatest_bent : Cl K mg "greatest_bent" a_greatest_bent _ ["heats", "hours"] := ⟨PySem.W.mg_of X G g_greatest_bent, k_greatest_bent, F_greatest_bent.binds (ps := ["heats", "hours"]) fun _ _ _ _ _ _ us hl => match us, hl with | [_, _], _ => rfl⟩
  have F_bend_hour := fun_mk (st := s_bend_hour) l_bend_hour d_bend_hour k_bend_hour
  have C_bend_hour : Cl K mg "bend_hour" a_bend_hour _ ["heats", "cone"] := ⟨PySem.W.mg_of X G g_bend_hour, k_bend_hour, F_bend_hour.binds (ps := ["heats", "cone"]) fun _ _ _ _ _ _ us hl => match us, hl with | [_, _], _ => rfl⟩
  have F_is_cone := fun_mk (st := s_is_cone) l_is_cone d_is_cone k_is_cone
  have C_is_cone : Cl K mg "is_cone" a_is_cone _ ["value"] := ⟨PySem.W.mg_of X G g_is_cone, k_is_cone, F_is_cone.binds (ps := ["value"]) fun _ _ _ _ _ _ us hl => match us, hl with | [_], _ => rfl⟩
  have F__law_same := fun_mk (st := s__law_same) l__law_same d__law_same k__law_same
  have C__law_same : Cl K mg "_law_same" a__law_same _ ["actual", "due"] := ⟨PySem.W.mg_of X G g__law_same, k__law_same, F__law_same.binds (ps := ["actual", "due"]) fun _ _ _ _ _ _ us hl => match us, hl with | [_, _], _ => rfl⟩
  have F__law_cones := fun_mk (st := s__law_cones) l__law_cones d__law_cones k__law_cones
  have C__law_cones : Cl K mg "_law_cones" a__law_cones _ ["draws"] := ⟨PySem.W.mg_of X G g__law_cones, k__law_cones, F__law_cones.binds (ps := ["draws"]) fun _ _ _ _ _ _ us hl => match us, hl with | [_], _ => rfl⟩
  have F__law_plan := fun_mk (st := s__law_plan) l__law_plan d__law_plan k__law_plan
  have C__law_plan : Cl K mg "_law_plan" a__law_plan _ ["draws", "wide"] := ⟨PySem.W.mg_of X G g__law_plan, k__law_plan, F__law_plan.binds (ps := ["draws", "wide"]) fun _ _ _ _ _ _ us hl => match us, hl with | [_, _], _ => rfl⟩
  have F__law_heats := fun_mk (st := s__law_heats) l__law_heats d__law_heats k__law_heats
  have C__law_heats : Cl K mg "_law_heats" a__law_heats _ ["plan", "up", "down"] := ⟨PySem.W.mg_of X G g__law_heats, k__law_heats, F__law_heats.binds (ps := ["plan", "up", "down"]) fun _ _ _ _ _ _ us hl => match us, hl with | [_, _, _], _ => rfl⟩
  have F_heats_of_plan := funC_mk (st := s_heats_of_plan) l_heats_of_plan d_heats_of_plan k_heats_of_plan
  have C_heats_of_plan : Cl K mg "heats_of_plan" a_heats_of_plan _ ["plan", "rates"] := ⟨PySem.W.mg_of X G g_heats_of_plan, k_heats_of_plan, F_heats_of_plan.binds (ps := ["plan", "rates"]) fun _ _ _ _ _ _ us hl => match us, hl with | [_, _], _ => rfl⟩
  have F_hours_of_plan := fun_mk (st := s_hours_of_plan) l_hours_of_plan d_hours_of_plan k_hours_of_plan
  have C_hours_of_plan : Cl K mg "hours_of_plan" a_hours_of_plan _ ["plan", "rates"] := ⟨PySem.W.mg_of X G g_hours_of_plan, k_hours_of_plan, F_hours_of_plan.binds (ps := ["plan", "rates"]) fun _ _ _ _ _ _ us hl => match us, hl with | [_, _], _ => rfl⟩
  have F__law_fewest := fun_mk (st := s__law_fewest) l__law_fewest d__law_fewest k__law_fewest
  have C__law_fewest : Cl K mg "_law_fewest" a__law_fewest _ ["plan", "up", "down"] := ⟨PySem.W.mg_of X G g__law_fewest, k__law_fewest, F__law_fewest.binds (ps := ["plan", "up", "down"]) fun _ _ _ _ _ _ us hl => match us, hl with | [_, _, _], _ => rfl⟩
  have F_is_step := fun_mk (st := s_is_step) l_is_step d_is_step k_is_step
  have C_is_step : Cl K mg "is_step" a_is_step _ ["value"] := ⟨PySem.W.mg_of X G g_is_step, k_is_step, F_is_step.binds (ps := ["value"]) fun _ _ _ _ _ _ us hl => match us, hl with | [_], _ => rfl⟩
  have F_is_plan := funC_mk (st := s_is_plan) l_is_plan d_is_plan k_is_plan
  have C_is_plan : Cl K mg "is_plan" a_is_plan _ ["value"] := ⟨PySem.W.mg_of X G g_is_plan, k_is_plan, F_is_plan.binds (ps := ["value"]) fun _ _ _ _ _ _ us hl => match us, hl with | [_], _ => rfl⟩
  have F_law := fun_mk (st := s_law) l_law d_law k_law
  have tabs : ∀ p ∈ ([(c_are_heats, P_are_heats), (c_heats_of_plan, P_heats_of_plan), (c_is_plan, P_is_plan)] : List (Addr × Addr)), PySem.W.CodeHd h p.1 p.2 ∧ h.get? p.2 = some { cls := .none, data := .fields #[] } := by
    intro p hp
    simp only [List.mem_cons, List.not_mem_nil, or_false] at hp
    rcases hp with rfl | rfl | rfl
    · exact hTabs "are_heats" (by simp) _ _ (tab_in g_are_heats l_are_heats rfl t_are_heats p_are_heats)
    · exact hTabs "heats_of_plan" (by simp) _ _ (tab_in g_heats_of_plan l_heats_of_plan rfl t_heats_of_plan p_heats_of_plan)
    · exact hTabs "is_plan" (by simp) _ _ (tab_in g_is_plan l_is_plan rfl t_is_plan p_is_plan)
  have nt : ∀ p ∈ ([(c_are_heats, P_are_heats), (c_heats_of_plan, P_heats_of_plan), (c_is_plan, P_is_plan)] : List (Addr × Addr)), K.lookup p.2 = none := by
    intro p hp
    simp only [List.mem_cons, List.not_mem_nil, or_false] at hp
    rcases hp with rfl | rfl | rfl
    · exact z_are_heats
    · exact z_heats_of_plan
    · exact z_is_plan
  refine ⟨PySem.W.fnOf "law" "law" (defArgs s_law) (defBody s_law) (defScope s_law) .none kV_law dc_law pm_law an_law cd_law ct_law, [(c_are_heats, P_are_heats), (c_heats_of_plan, P_heats_of_plan), (c_is_plan, P_is_plan)], spTab [(c_are_heats, P_are_heats), (c_heats_of_plan, P_heats_of_plan), (c_is_plan, P_is_plan)] (spV K TT (offT fun b => b ∈ ([(c_are_heats, P_are_heats), (c_heats_of_plan, P_heats_of_plan), (c_is_plan, P_is_plan)] : List (Addr × Addr)).map (·.2)) K26.F_law 1), fun p hp => (tabs p hp).2, nt, fun p hp => (tabs p hp).1, fun s v => .of_eq rfl, fun H a ns hl hb hT hS => sp_tabs (law_true ns hl hb) hT hS, fun base _ _ hTB => ?_⟩
  have gT : ∀ p ∈ ([(c_are_heats, P_are_heats), (c_heats_of_plan, P_heats_of_plan), (c_is_plan, P_is_plan)] : List (Addr × Addr)), GxR.TabB base mg p.1 p.2 := fun p hp => let t := hTB p hp; ⟨t.code, t.bm, t.gP⟩
  have G__law_draws := ok__law_draws (P := P) (w := w) (base := base) (TBs := fun b => b ∈ ([(c_are_heats, P_are_heats), (c_heats_of_plan, P_heats_of_plan), (c_is_plan, P_is_plan)] : List (Addr × Addr)).map (·.2)) F__law_draws T 
  have G__law_take := ok__law_take (P := P) (w := w) (base := base) (TBs := fun b => b ∈ ([(c_are_heats, P_are_heats), (c_heats_of_plan, P_heats_of_plan), (c_is_plan, P_is_plan)] : List (Addr × Addr)).map (·.2)) F__law_take T 
  have G_is_number := ok_is_number (P := P) (w := w) (base := base) (TBs := fun b => b ∈ ([(c_are_heats, P_are_heats), (c_heats_of_plan, P_heats_of_plan), (c_is_plan, P_is_plan)] : List (Addr × Addr)).map (·.2)) F_is_number T 
  have G_are_heats := ok_are_heats (P := P) (w := w) (base := base) (TBs := fun b => b ∈ ([(c_are_heats, P_are_heats), (c_heats_of_plan, P_heats_of_plan), (c_is_plan, P_is_plan)] : List (Addr × Addr)).map (·.2)) F_are_heats T (gT (c_are_heats, P_are_heats) (by simp)) (by simp) C_is_number G_is_number
  have G__law_bends := ok__law_bends (P := P) (w := w) (base := base) (TBs := fun b => b ∈ ([(c_are_heats, P_are_heats), (c_heats_of_plan, P_heats_of_plan), (c_is_plan, P_is_plan)] : List (Addr × Addr)).map (·.2)) F__law_bends T 
  have G_greatest_bent := ok_greatest_bent (P := P) (w := w) (base := base) (TBs := fun b => b ∈ ([(c_are_heats, P_are_heats), (c_heats_of_plan, P_heats_of_plan), (c_is_plan, P_is_plan)] : List (Addr × Addr)).map (·.2)) F_greatest_bent T 
  have G_bend_hour := ok_bend_hour (P := P) (w := w) (base := base) (TBs := fun b => b ∈ ([(c_are_heats, P_are_heats), (c_heats_of_plan, P_heats_of_plan), (c_is_plan, P_is_plan)] : List (Addr × Addr)).map (·.2)) F_bend_hour T 
  have G_is_cone := ok_is_cone (P := P) (w := w) (base := base) (TBs := fun b => b ∈ ([(c_are_heats, P_are_heats), (c_heats_of_plan, P_heats_of_plan), (c_is_plan, P_is_plan)] : List (Addr × Addr)).map (·.2)) F_is_cone T C_is_number G_is_number
  have G__law_same := ok__law_same (P := P) (w := w) (base := base) (TBs := fun b => b ∈ ([(c_are_heats, P_are_heats), (c_heats_of_plan, P_heats_of_plan), (c_is_plan, P_is_plan)] : List (Addr × Addr)).map (·.2)) F__law_same T C__law_same 
  have G__law_cones := ok__law_cones (P := P) (w := w) (base := base) (TBs := fun b => b ∈ ([(c_are_heats, P_are_heats), (c_heats_of_plan, P_heats_of_plan), (c_is_plan, P_is_plan)] : List (Addr × Addr)).map (·.2)) F__law_cones T C__law_take G__law_take C_are_heats G_are_heats C__law_bends G__law_bends C_greatest_bent G_greatest_bent C_bend_hour G_bend_hour C_is_cone G_is_cone C__law_same G__law_same
  have G__law_plan := ok__law_plan (P := P) (w := w) (base := base) (TBs := fun b => b ∈ ([(c_are_heats, P_are_heats), (c_heats_of_plan, P_heats_of_plan), (c_is_plan, P_is_plan)] : List (Addr × Addr)).map (·.2)) F__law_plan T C__law_take G__law_take
  have G__law_heats := ok__law_heats (P := P) (w := w) (base := base) (TBs := fun b => b ∈ ([(c_are_heats, P_are_heats), (c_heats_of_plan, P_heats_of_plan), (c_is_plan, P_is_plan)] : List (Addr × Addr)).map (·.2)) F__law_heats T 
  have G_heats_of_plan := ok_heats_of_plan (P := P) (w := w) (base := base) (TBs := fun b => b ∈ ([(c_are_heats, P_are_heats), (c_heats_of_plan, P_heats_of_plan), (c_is_plan, P_is_plan)] : List (Addr × Addr)).map (·.2)) F_heats_of_plan T (gT (c_heats_of_plan, P_heats_of_plan) (by simp)) (by simp) 
  have G_hours_of_plan := ok_hours_of_plan (P := P) (w := w) (base := base) (TBs := fun b => b ∈ ([(c_are_heats, P_are_heats), (c_heats_of_plan, P_heats_of_plan), (c_is_plan, P_is_plan)] : List (Addr × Addr)).map (·.2)) F_hours_of_plan T C_heats_of_plan G_heats_of_plan
  have G__law_fewest := ok__law_fewest (P := P) (w := w) (base := base) (TBs := fun b => b ∈ ([(c_are_heats, P_are_heats), (c_heats_of_plan, P_heats_of_plan), (c_is_plan, P_is_plan)] : List (Addr × Addr)).map (·.2)) F__law_fewest T 
  have G_is_step := ok_is_step (P := P) (w := w) (base := base) (TBs := fun b => b ∈ ([(c_are_heats, P_are_heats), (c_heats_of_plan, P_heats_of_plan), (c_is_plan, P_is_plan)] : List (Addr × Addr)).map (·.2)) F_is_step T C_is_number G_is_number
  have G_is_plan := ok_is_plan (P := P) (w := w) (base := base) (TBs := fun b => b ∈ ([(c_are_heats, P_are_heats), (c_heats_of_plan, P_heats_of_plan), (c_is_plan, P_is_plan)] : List (Addr × Addr)).map (·.2)) F_is_plan T (gT (c_is_plan, P_is_plan) (by simp)) (by simp) C_is_step G_is_step
  have G_law := ok_law (P := P) (w := w) (base := base) (TBs := fun b => b ∈ ([(c_are_heats, P_are_heats), (c_heats_of_plan, P_heats_of_plan), (c_is_plan, P_is_plan)] : List (Addr × Addr)).map (·.2)) F_law T C__law_draws G__law_draws C__law_take G__law_take C__law_same G__law_same C__law_cones G__law_cones C__law_plan G__law_plan C__law_heats G__law_heats C_heats_of_plan G_heats_of_plan C_hours_of_plan G_hours_of_plan C__law_fewest G__law_fewest C_is_plan G_is_plan
  exact fn_tabs [(c_are_heats, P_are_heats), (c_heats_of_plan, P_heats_of_plan), (c_is_plan, P_is_plan)] (fun outer H s e s2 h => by obtain ⟨_, _, _, _, _, _, _, _, _, _, _, _, z⟩ := h; exact z) G_law
end K26
open PySem PySem.W PyProof.Rows
set_option maxHeartbeats 0 in
theorem PySem.Challenge.cw_shardsheld_k26_whole_cones_and_plans_holds : PySem.Challenge.rw_shardsheld_k26_whole_cones_and_plans.Holds := by
  w_on; o_law; k_head; (case hw => w_witness2)
  k_fill
  refine Qd.walk_tabs (l := PySem.Challenge.rw_shardsheld_k26_whole_cones_and_plans) (n := 63) (k := 8) (x := "script") (CX := fun w => L2N.CX PySem.Challenge.rw_shardsheld_k26_whole_cones_and_plans.prog w) ["are_heats", "heats_of_plan", "is_plan"] rfl (by decide) rfl ⟨rfl, by decide, by decide⟩ (by kernel_rfl) (fun w h Y => PySem.W.kIn_of Y) ?F (fun _ _ _ _ _ h => ?X)
  case F =>
    intro w mg fa h Y KX G hmg hTabs
    refine' K26.all_mk KX G hmg hTabs ?ng ?tg ?c_MOST_CONE_HOURS ?c_MOST_HEAT_conebends ?c_MOST_HEAT_heatplans ?c_MOST_HOLD ?c_MOST_HOURS ?c_MOST_STEPS ?n_abs ?n_all ?n_bool ?n_enumerate ?n_int ?n_isinstance ?n_len ?n_list ?n_max ?n_min ?n_range ?n_reversed ?n_str ?n_tuple ?g__law_draws ?l__law_draws ?d__law_draws ?k__law_draws ?g__law_take ?l__law_take ?d__law_take ?k__law_take ?g_is_number ?l_is_number ?d_is_number ?k_is_number ?g_are_heats ?l_are_heats ?d_are_heats ?k_are_heats ?t_are_heats ?p_are_heats ?z_are_heats ?g__law_bends ?l__law_bends ?d__law_bends ?k__law_bends ?g_greatest_bent ?l_greatest_bent ?d_greatest_bent ?k_greatest_bent ?g_bend_hour ?l_bend_hour ?d_bend_hour ?k_bend_hour ?g_is_cone ?l_is_cone ?d_is_cone ?k_is_cone ?g__law_same ?l__law_same ?d__law_same ?k__law_same ?g__law_cones ?l__law_cones ?d__law_cones ?k__law_cones ?g__law_plan ?l__law_plan ?d__law_plan ?k__law_plan ?g__law_heats ?l__law_heats ?d__law_heats ?k__law_heats ?g_heats_of_plan ?l_heats_of_plan ?d_heats_of_plan ?k_heats_of_plan ?t_heats_of_plan ?p_heats_of_plan ?z_heats_of_plan ?g_hours_of_plan ?l_hours_of_plan ?d_hours_of_plan ?k_hours_of_plan ?g__law_fewest ?l__law_fewest ?d__law_fewest ?k__law_fewest ?g_is_step ?l_is_step ?d_is_step ?k_is_step ?g_is_plan ?l_is_plan ?d_is_plan ?k_is_plan ?t_is_plan ?p_is_plan ?z_is_plan ?g_law ?l_law ?d_law ?k_law
    (case ng => k_is)
    (case tg => k_is)
    (case c_MOST_CONE_HOURS => k_is)
    (case c_MOST_HEAT_conebends => k_is)
    (case c_MOST_HEAT_heatplans => k_is)
    (case c_MOST_HOLD => k_is)
    (case c_MOST_HOURS => k_is)
    (case c_MOST_STEPS => k_is)
    (case n_abs => k_is)
    (case n_all => k_is)
    (case n_bool => k_is)
    (case n_enumerate => k_is)
    (case n_int => k_is)
    (case n_isinstance => k_is)
    (case n_len => k_is)
    (case n_list => k_is)
    (case n_max => k_is)
    (case n_min => k_is)
    (case n_range => k_is)
    (case n_reversed => k_is)
    (case n_str => k_is)
    (case n_tuple => k_is)
    (case g__law_draws => k_is)
    (case l__law_draws => k_is)
    (case d__law_draws => k_is)
    (case k__law_draws => k_is)
    (case g__law_take => k_is)
    (case l__law_take => k_is)
    (case d__law_take => k_is)
    (case k__law_take => k_is)
    (case g_is_number => k_is)
    (case l_is_number => k_is)
    (case d_is_number => k_is)
    (case k_is_number => k_is)
    (case g_are_heats => k_is)
    (case l_are_heats => k_is)
    (case d_are_heats => k_is)
    (case k_are_heats => k_is)
    (case t_are_heats => k_is)
    (case p_are_heats => rfl)
    (case z_are_heats => first | rfl | kernel_rfl)
    (case g__law_bends => k_is)
    (case l__law_bends => k_is)
    (case d__law_bends => k_is)
    (case k__law_bends => k_is)
    (case g_greatest_bent => k_is)
    (case l_greatest_bent => k_is)
    (case d_greatest_bent => k_is)
    (case k_greatest_bent => k_is)
    (case g_bend_hour => k_is)
    (case l_bend_hour => k_is)
    (case d_bend_hour => k_is)
    (case k_bend_hour => k_is)
    (case g_is_cone => k_is)
    (case l_is_cone => k_is)
    (case d_is_cone => k_is)
    (case k_is_cone => k_is)
    (case g__law_same => k_is)
    (case l__law_same => k_is)
    (case d__law_same => k_is)
    (case k__law_same => k_is)
    (case g__law_cones => k_is)
    (case l__law_cones => k_is)
    (case d__law_cones => k_is)
    (case k__law_cones => k_is)
    (case g__law_plan => k_is)
    (case l__law_plan => k_is)
    (case d__law_plan => k_is)
    (case k__law_plan => k_is)
    (case g__law_heats => k_is)
    (case l__law_heats => k_is)
    (case d__law_heats => k_is)
    (case k__law_heats => k_is)
    (case g_heats_of_plan => k_is)
    (case l_heats_of_plan => k_is)
    (case d_heats_of_plan => k_is)
    (case k_heats_of_plan => k_is)
    (case t_heats_of_plan => k_is)
    (case p_heats_of_plan => rfl)
    (case z_heats_of_plan => first | rfl | kernel_rfl)
    (case g_hours_of_plan => k_is)
    (case l_hours_of_plan => k_is)
    (case d_hours_of_plan => k_is)
    (case k_hours_of_plan => k_is)
    (case g__law_fewest => k_is)
    (case l__law_fewest => k_is)
    (case d__law_fewest => k_is)
    (case k__law_fewest => k_is)
    (case g_is_step => k_is)
    (case l_is_step => k_is)
    (case d_is_step => k_is)
    (case k_is_step => k_is)
    (case g_is_plan => k_is)
    (case l_is_plan => k_is)
    (case d_is_plan => k_is)
    (case k_is_plan => k_is)
    (case t_is_plan => k_is)
    (case p_is_plan => rfl)
    (case z_is_plan => first | rfl | kernel_rfl)
    (case g_law => k_is)
    (case l_law => k_is)
    (case d_law => k_is)
    (case k_law => k_is)
  case X =>
    obtain ⟨_, _, _, _, _, _, _, _, _, _, _, _, z⟩ := h
    exact z
