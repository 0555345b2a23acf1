import PyProof.Rows.All
import HandS.ForMost
import HandS.ForExc
import HandS.WordsExc
import HandS.CallSlots
import HandS.Wide
import HandS.AnyAll
import HandS.GenList
import PyProof.CodeObjX
import KE.DataAny
import HandS.ExcCtx
import HandS.IsInst
import HandS.Style
import HandS.TupMul
import HandS.TupAny
import HandS.Deep
import PyProof.Rows.SeqMore
import HandS.HotCalls
import HandS.ExcIs
import HandS.ExcOwn
import PyProof.Rows.FactsN_isinstance
import HandS.Dict
import HandS.DictTup
import HandS.Remove
import HandS.More
import KE.DataMinMax
import KE.DataFind
import HandS.Text
import HandS.Gcd
import HandS.Rev
import KE.KTupSum
import HandS.WideBits
import HandS.Words
import HandS.EndTab
import KE.KNest
import HandS.RevTup
import HandS.Zip
import HandS.Star
import KE.SortData
import HandS.Strs
import PySem.Challenge.RW_shardsheld_k34_whole_bowls_that_are_fill
set_option Elab.async false
set_option linter.all false
set_option maxRecDepth 100000
set_option maxHeartbeats 8000000
section
set_option Elab.async false
set_option linter.all false
set_option maxRecDepth 100000
set_option maxHeartbeats 1000000
/-! all, any of a generator expression, over anything that is walked, its names captured. -/
namespace Qd
open PySem PySem.Spec PyProof.Rows L2 GenW

/-- a code object's table, whatever stands in it -/
def tabO (a : Addr) : HO := .ext fun h => ∃ ps : Array Value, h.get? a = some { cls := .none, data := .fields ps } ∧ TriplesOk ps.toList
/-- the context of a generator expression's frame: s, H at its making -/
abbrev gxC (X : Cx) (A : Around) (s : Shared) (H : Hp) (cenv : Env) (fp : List Addr) (pn : List (Addr × Obj)) : Cx :=
  { X with A := A, s_0 := s, H_0 := H, env := cenv, outer := X.stack, stack := cenv :: X.stack, ex := fp, fn := fun _ => false, pn := pn, xe := fun _ _ => False }
section
variable {X : Cx} {pins : List (Addr × Obj)} {σ : L2.St} {H : Hp} {s : Shared}
theorem over_gx {B : Around} {elt tg iter : Expr} {ifs : List Expr} {scope : Scope} {pos : Pos} {it acc : Value} {cenv : Env} : B.over (.compLoop (.GeneratorExp elt [⟨tg, iter, ifs, 0⟩] scope pos) 0 it acc cenv) [] = B.deeper cenv := by
  first
    | rfl
    | (obtain ⟨hd, d, fr, gs, u⟩ := B; simp [Around.over, Around.deeper, marksOver, frameCount, unitsOf, envsOf, guardsOf, pushEnvs, pushGuards, Code.envs, Code.env?, Code.isFrame, Code.guards, Code.isGuard, Code.weight, Code.frames, Code.isCreation, Code.isCaller, Code.cUnits])
theorem over_gx0 {B : Around} {elt tg iter : Expr} {ifs : List Expr} {scope : Scope} {pos : Pos} {it acc : Value} {cenv : Env} : B.over (.compStart (.GeneratorExp elt [⟨tg, iter, ifs, 0⟩] scope pos) 0 it acc cenv) [] = B.deeper cenv := by
  first
    | rfl
    | (obtain ⟨hd, d, fr, gs, u⟩ := B; simp [Around.over, Around.deeper, marksOver, frameCount, unitsOf, envsOf, guardsOf, pushEnvs, pushGuards, Code.envs, Code.env?, Code.isFrame, Code.guards, Code.isGuard, Code.weight, Code.frames, Code.isCreation, Code.isCaller, Code.cUnits])
theorem room_gx {k : Nat} {A : Around} (r : Room (k + 1) A) (env : Env) : Room k (A.in1.in1.deeper env) :=
  ⟨r.hd, by have := r.dp; show A.depth + 1 + 3 * k + 5 < _; omega, by have := r.un; show A.units + 1 + 1 + 3 + 16 * k + 200 < _; omega⟩
/-- a generator expression's scope -/
structure GxScope (X : Cx) (scope : Scope) (own : List (Str × Nat)) : Prop where
  blk : BlkOk X.N X.env.scope scope own
  co : scope.isCoroutine = false
  cell : ∀ y ∈ scope.names, y.2 ≠ .cell
  dot : scope.names.lookup (".0" : Str) = some NameKind.local
theorem gx_start {A : Around} {scope : Scope} {own : List (Str × Nat)} {fp : List Addr} {code : Value} {C : Addr} {pn : List (Addr × Obj)} {s5 : Shared} {mm : Str → Option Value} (I : Inv X pins σ H s) (S : GxScope X scope own) (hN : X.N.Nodup) (hfp : ∀ b ∈ fp, FpOk X pins H b ∧ b < s.heap.objs.size)
    (hC : s.heap.objs.size ≤ C) (hns : s5.heap.Ns C mm) (kp : ∀ b o, s.heap.get? b = some o → H b = none → s5.heap.get? b = some o) (th : ∀ b o, s.heap.get? b = some o → ∃ o', s5.heap.get? b = some o') (hok : HOk X.prog X.w H s5.heap) (os : s5.os = s.os) (bare : AllBare s5.gens)
    (hd : A.handled = none) (hfr : A.frames = some (genEnv scope (cloFrom X.env.cells scope.names []) C code builtinsNs X.env :: X.stack))
    (hpn : ∀ p ∈ pn, s5.heap.get? p.1 = some p.2 ∧ H p.1 = none ∧ p.1 ≠ C ∧ p.1 ∉ frs X.stack ∧ ∀ v, p.2.data ≠ .cell v) :
    Inv (gxC X A s H (genEnv scope (cloFrom X.env.cells scope.names []) C code builtinsNs X.env) fp pn) [] (wipe σ (own.map (·.2))) H s5 := by
  have ok := S.blk
  have hfree : ∀ y ∈ scope.names, y.2 = .free → ∃ c, X.env.cells.lookup y.1 = some c := fun y hy e => by
    rcases ok.free y hy e with k | k
    · exact I.ok.has _ (.inl k)
    · exact I.ok.has _ (.inr k)
  generalize hcenv : genEnv scope (cloFrom X.env.cells scope.names []) C code builtinsNs X.env = cenv at hfr ⊢
  have hL : cenv.locals = C := by rw [← hcenv]; rfl
  have hcl : cenv.cells = cloFrom X.env.cells scope.names [] := by rw [← hcenv]; rfl
  have hsc : cenv.scope = scope := by rw [← hcenv]; rfl
  have cm : ∀ {y c}, cenv.cells.lookup y = some c → X.env.cells.lookup y = some c ∧ c < s.heap.objs.size ∧ scope.names.lookup y = some .free := fun {y c} e => by
    rw [hcl] at e
    rcases cloFrom_mem (PySem.mem_of_lookup e) with hm | ⟨h1, rfl⟩
    · cases hm
    · obtain ⟨c, hc⟩ := hfree _ h1 rfl
      rw [hc]
      obtain ⟨w, z⟩ := I.cell _ _ hc
      exact ⟨rfl, z.lt, ok.uniq _ h1⟩
  have look : ∀ {y}, scope.names.lookup y = some .free → ∃ c, cenv.cells.lookup y = some c ∧ X.env.cells.lookup y = some c := fun {y} hl => by
    have hy : (y, NameKind.free) ∈ scope.names := PySem.mem_of_lookup hl
    obtain ⟨c', e'⟩ := mem_lookup (cloFrom_has (cells := X.env.cells) (acc := []) hy)
    rw [← hcl] at e'
    exact ⟨c', e', (cm e').1⟩
  have kof : ∀ y, cenv.kindOf y = scope.names.lookup y := fun y => by unfold Env.kindOf; rw [hsc]
  have hgl : cenv.globals = X.env.globals := by rw [← hcenv]; rfl
  have hbl : cenv.builtins = builtinsNs := by rw [← hcenv]; rfl
  have hff : cenv.frame = some cenv.locals := by rw [← hcenv]; rfl
  have okB : (gxC X A s H cenv fp pn).Ok := by
    refine ⟨I.ok.mod, by show cenv.scope.kind = _; rw [hsc]; exact ok.kind, by show cenv.globals = _; rw [hgl]; exact I.ok.glob, hbl, by show s.heap.objs.size ≤ cenv.locals; rw [hL]; exact hC,
      fun y z c e1 e2 => I.ok.inj y z c (cm e1).1 (cm e2).1, fun y hy => ?_, fun y c z _ => (Bool.noConfusion z), fun _ => hd, hfr, .inr ⟨rfl, hff⟩, fun b hb => ⟨?_, fun y c e => ?_⟩, I.bs, Nat.le_trans I.ok.bsz I.sz, fun b o e hb => ?_, fun b hb z => ?_, I.stack, I.stkFree⟩
    · show ∃ c, cenv.cells.lookup y = some c
      have hy : cenv.kindOf y = some .cell ∨ cenv.kindOf y = some .free := hy
      rw [kof] at hy
      rcases hy with hy | hy
      · exact absurd rfl (S.cell _ (PySem.mem_of_lookup hy))
      · obtain ⟨c, h1, _⟩ := look hy
        exact ⟨c, h1⟩
    · show b ≠ cenv.locals
      rw [hL]
      exact Nat.ne_of_lt (Nat.lt_of_lt_of_le (hfp b hb).2 hC)
    · exact (hfp b hb).1.2.2.2.2.1 y c (cm e).1
    · rcases (hfp b hb).1.2.2.2.1 with z | z
      · exact I.ok.noex b o e z
      · exact absurd (Nat.lt_of_lt_of_le (Heap.lt_size e) (Nat.le_trans I.ok.bsz z)) (Nat.lt_irrefl _)
    · rcases List.mem_cons.mp (I.stkSub b z) with z | z
      · exact (hfp b hb).1.2.1 z
      · exact (hfp b hb).1.2.2.1 z
  refine ⟨okB, os, bare, ⟨fun b o e n _ _ => kp b o e n, fun b o e n _ _ => ⟨o.slots, kp b o e n⟩, fun _ _ _ n _ => n, fun b o e _ => th b o e, fun _ _ e => e, fun _ _ _ e => e, fun b ps e => ⟨#[], by have e : H b = some (.tbl ps) := e; show H b = _; rw [e]; simp⟩⟩,
    ⟨mm, by show Heap.Ns _ cenv.locals _; rw [hL]; exact hns, fun i y av e1 e2 e3 => ?_⟩, fun y c e => ?_, ?_, fun y c e => I.freeC y c (cm e).1, fun p hp => ?_, hok, by rw [wipe_length]; exact I.len⟩
  · obtain ⟨e2, hne⟩ := wipe_some e2
    have hfr : scope.names.lookup y = some .free := by
      have no : ∀ k, scope.names.lookup y = some k → ¬ (k = .local ∨ k = .cell) := fun k e hh => by
        rcases ok.own _ (PySem.mem_of_lookup e) hh with e' | e'
        · obtain ⟨p, hp, hpy⟩ := List.mem_map.mp e'
          have e3 := ok.ix p hp
          have : p.1 = y := hpy
          rw [this] at e3
          exact hne (List.mem_map.mpr ⟨p, hp, nodup_ix hN e3 e1⟩)
        · exact e' (List.mem_of_getElem? e1)
      have e3 : Vis cenv.scope y := e3
      rw [hsc] at e3
      rcases e3 with e3 | e3 | e3
      · exact absurd (.inl rfl) (no _ e3)
      · exact absurd (.inr rfl) (no _ e3)
      · exact e3
    obtain ⟨m, hn, hl⟩ := I.loc
    have hvis : Vis X.env.scope y := (ok.free _ (PySem.mem_of_lookup hfr) rfl).elim (fun k => .inr (.inl k)) (fun k => .inr (.inr k))
    obtain ⟨w, r, q⟩ := hl i y av e1 e2 hvis
    refine ⟨w, r, .inr ⟨.inr ((kof y).trans hfr), ?_⟩⟩
    obtain ⟨c, h1, h2⟩ := look hfr
    rcases q with ⟨k, _⟩ | ⟨_, c', e', z⟩
    · have k : X.env.scope.names.lookup y = some .local := k
      rcases ok.free _ (PySem.mem_of_lookup hfr) rfl with k' | k' <;> rw [show X.env.scope.names.lookup y = _ from k'] at k <;> cases k
    · rw [h2] at e'; cases e'
      obtain ⟨o, ho, rr⟩ := z
      exact ⟨c, h1, o, kp _ _ ho (I.freeC y c h2), rr⟩
  · obtain ⟨w, o, ho, rr⟩ := I.cell y c (cm e).1
    exact ⟨w, o, kp _ _ ho (I.freeC y c (cm e).1), rr⟩
  · show H cenv.locals = none
    rw [hL]; exact I.hok.fresh hC
  · have hp : p ∈ pn := by simpa using hp
    obtain ⟨a1, a2, a3, a4, a5⟩ := hpn p hp
    exact ⟨a1, a2, by show p.1 ≠ cenv.locals; rw [hL]; exact a3, a4, a5⟩
end

/-! ### the protocol: a truth is handed out -/
/-- while the generator sleeps nothing that lies in the heap is changed -/
structure Slp (s s' : Shared) : Prop where
  os : s'.os = s.os
  bare : AllBare s'.gens
  keep : ∀ b o, s.heap.get? b = some o → s'.heap.get? b = some o
def GxY (a : Addr) (g : Nat) (stop : Bool) (Fin : Bool → Shared → Prop) : Protocol := fun _ _ v s kap => ∃ b : Bool, v = .bool b ∧ s.heap.NoLimit ∧ s.heap.IsGen a g ∧ AllBare s.gens ∧
  if b = stop then ∀ s', Slp s s' → Fin stop s' else ∀ s', Slp s s' → kap (.send .none) s'
def GxF (stop : Bool) (Fin : Bool → Shared → Prop) : Nat → Shared → Shared → Prop := fun _ _ s => AllBare s.gens ∧ ∀ s', Slp s s' → Fin (!stop) s'
section
variable {P : Program} {w : World}
/-- the consumer's loop -/
theorem all_gx {A : Around} {a : Addr} {g : Nat} {Fin : Bool → Shared → Prop} {R : Result → Shared → Prop} (hh : A.handled = none) (hd : A.depth < recursionLimit) (hR : ∀ b s, Fin b s → R (.ok (.ret (.bool b))) s) :
    ∀ (n : Nat) (s : Shared), s.heap.IsGen a g → s.heap.NoLimit →
      (∃ gs, s.gens[g]? = some gs ∧ gs.Goes (model P w) A.in1.in1 (fun n s₀ r s₁ => r = .ok .next ∧ GxF false Fin n s₀ s₁) (GxY a g false Fin) n (.send .none) (s.setGen g .running)) →
      codeAny (model P w) A (.builtin "all.loop" ⟨[.ref a], []⟩) R s := by
  intro n
  induction n with
  | zero =>
    intro s hg hl ⟨gs, hgs, hgo⟩
    refine codeAny_builtin F.entry_all_loop ?_
    rw [Around.under_plainId F.plain_all_loop _]
    show wpAny _ A.in1 (pyNext (.ref a) >>= _) _ _ s
    refine wpAny_bind (wpAny_pyNext_genexpQ (A := A.in1) (P := GxF false Fin) hh hl hd hg hgs hgo (fun v s₁ gs' hb hv => ?_) fun s₁ hp h' hk => ?_)
    · obtain ⟨b, rfl, hl1, hg1, hb1, hv⟩ := hv
      refine wpAny_bind (wpAny_holding (wpAny_truthy_bool (wpAny_bind (wpAny_letGo ?_))))
      cases b with
      | true =>
        rw [if_neg (by decide)] at hv
        exact False.elim (hv s₁ ⟨rfl, hb1, fun _ _ e => e⟩)
      | false =>
        rw [if_pos rfl] at hv
        simp only [Bool.false_eq_true, if_false]
        refine wpAny_bind (wpAny_rule (wpAny_pure (hR false _ (hv _ ⟨rfl, allBare_setGen hb1 hb, fun _ _ e => e⟩))))
    · obtain ⟨hb1, hp⟩ := hp
      refine wpAny_bind (wpAny_rule (wpAny_pure (hR true _ (hp _ ⟨rfl, allBare_setGen hb1 rfl, hk⟩))))
  | succ n ih =>
    intro s hg hl ⟨gs, hgs, hgo⟩
    have hgl : g < s.gens.size := (Array.getElem?_eq_some_iff.mp hgs).1
    refine codeAny_builtin F.entry_all_loop ?_
    rw [Around.under_plainId F.plain_all_loop _]
    show wpAny _ A.in1 (pyNext (.ref a) >>= _) _ _ s
    refine wpAny_bind (wpAny_gsz (n := g + 1) hgl (wpAny_pyNext_genexpQ (A := A.in1) (P := GxF false Fin) hh hl hd hg hgs hgo (fun v s₁ gs' hb hv => ?_) fun s₁ hp h' hk => ?_))
    · intro hsz
      obtain ⟨b, rfl, hl1, hg1, hb1, hv⟩ := hv
      refine wpAny_bind (wpAny_holding (wpAny_truthy_bool (wpAny_bind (wpAny_letGo ?_))))
      cases b with
      | true =>
        rw [if_neg (by decide)] at hv
        simp only [if_true]
        have hsz' : g < s₁.gens.size := by
          rw [setGen_size] at hsz
          exact hsz
        refine wpAny_pure ⟨plainId_quiet F.plain_all_loop _, ih _ hg1 hl1 ⟨gs', setGen_at hsz', ?_⟩⟩
        exact hv _ ⟨rfl, allBare_setGen (allBare_setGen hb1 hb) rfl, fun _ _ e => e⟩
      | false =>
        rw [if_pos rfl] at hv
        simp only [Bool.false_eq_true, if_false]
        refine wpAny_bind (wpAny_rule (wpAny_pure (hR false _ (hv _ ⟨rfl, allBare_setGen hb1 hb, fun _ _ e => e⟩))))
    · intro _
      obtain ⟨hb1, hp⟩ := hp
      refine wpAny_bind (wpAny_rule (wpAny_pure (hR true _ (hp _ ⟨rfl, allBare_setGen hb1 rfl, hk⟩))))
theorem any_gx {A : Around} {a : Addr} {g : Nat} {Fin : Bool → Shared → Prop} {R : Result → Shared → Prop} (hh : A.handled = none) (hd : A.depth < recursionLimit) (hR : ∀ b s, Fin b s → R (.ok (.ret (.bool b))) s) :
    ∀ (n : Nat) (s : Shared), s.heap.IsGen a g → s.heap.NoLimit →
      (∃ gs, s.gens[g]? = some gs ∧ gs.Goes (model P w) A.in1.in1 (fun n s₀ r s₁ => r = .ok .next ∧ GxF true Fin n s₀ s₁) (GxY a g true Fin) n (.send .none) (s.setGen g .running)) →
      codeAny (model P w) A (.builtin "any.loop" ⟨[.ref a], []⟩) R s := by
  intro n
  induction n with
  | zero =>
    intro s hg hl ⟨gs, hgs, hgo⟩
    refine codeAny_builtin F.entry_any_loop ?_
    rw [Around.under_plainId F.plain_any_loop _]
    show wpAny _ A.in1 (pyNext (.ref a) >>= _) _ _ s
    refine wpAny_bind (wpAny_pyNext_genexpQ (A := A.in1) (P := GxF true Fin) hh hl hd hg hgs hgo (fun v s₁ gs' hb hv => ?_) fun s₁ hp h' hk => ?_)
    · obtain ⟨b, rfl, hl1, hg1, hb1, hv⟩ := hv
      refine wpAny_bind (wpAny_holding (wpAny_truthy_bool (wpAny_bind (wpAny_letGo ?_))))
      cases b with
      | false =>
        rw [if_neg (by decide)] at hv
        exact False.elim (hv s₁ ⟨rfl, hb1, fun _ _ e => e⟩)
      | true =>
        rw [if_pos rfl] at hv
        simp only [if_true]
        refine wpAny_bind (wpAny_rule (wpAny_pure (hR true _ (hv _ ⟨rfl, allBare_setGen hb1 hb, fun _ _ e => e⟩))))
    · obtain ⟨hb1, hp⟩ := hp
      refine wpAny_bind (wpAny_rule (wpAny_pure (hR false _ (hp _ ⟨rfl, allBare_setGen hb1 rfl, hk⟩))))
  | succ n ih =>
    intro s hg hl ⟨gs, hgs, hgo⟩
    have hgl : g < s.gens.size := (Array.getElem?_eq_some_iff.mp hgs).1
    refine codeAny_builtin F.entry_any_loop ?_
    rw [Around.under_plainId F.plain_any_loop _]
    show wpAny _ A.in1 (pyNext (.ref a) >>= _) _ _ s
    refine wpAny_bind (wpAny_gsz (n := g + 1) hgl (wpAny_pyNext_genexpQ (A := A.in1) (P := GxF true Fin) hh hl hd hg hgs hgo (fun v s₁ gs' hb hv => ?_) fun s₁ hp h' hk => ?_))
    · intro hsz
      obtain ⟨b, rfl, hl1, hg1, hb1, hv⟩ := hv
      refine wpAny_bind (wpAny_holding (wpAny_truthy_bool (wpAny_bind (wpAny_letGo ?_))))
      cases b with
      | false =>
        rw [if_neg (by decide)] at hv
        simp only [Bool.false_eq_true, if_false]
        have hsz' : g < s₁.gens.size := by
          rw [setGen_size] at hsz
          exact hsz
        refine wpAny_pure ⟨plainId_quiet F.plain_any_loop _, ih _ hg1 hl1 ⟨gs', setGen_at hsz', ?_⟩⟩
        exact hv _ ⟨rfl, allBare_setGen (allBare_setGen hb1 hb) rfl, fun _ _ e => e⟩
      | true =>
        rw [if_pos rfl] at hv
        simp only [if_true]
        refine wpAny_bind (wpAny_rule (wpAny_pure (hR true _ (hv _ ⟨rfl, allBare_setGen hb1 hb, fun _ _ e => e⟩))))
    · intro _
      obtain ⟨hb1, hp⟩ := hp
      refine wpAny_bind (wpAny_rule (wpAny_pure (hR false _ (hp _ ⟨rfl, allBare_setGen hb1 rfl, hk⟩))))
end

/-! ### the generator's own run -/
section
variable {X : Cx} {pins : List (Addr × Obj)} {σ : L2.St} {H₁ : Hp} {s₁ : Shared}
/-- by turns, as a list comprehension's; stop: at which truth the consumer stops -/
def tGx (P : Addr) (stop : Bool) (wi : TI) (g : TG) (tt : TT) (te : TE) (vs : List Nat) : TE := fun σ H Q => wi σ H fun J H1 => H1 P = some (tabO P) ∧ ∃ W : Nat → Nat → Hp → Prop, (∃ m, W 0 m H1) ∧ ∀ i m H, W i m H →
  (J.stop i H ∧ Q (.bl (!stop)) H) ∨ (J.go i H ∧ ∃ Nx : Hp → Prop, (∀ H', Nx H' → ∃ m', m' < m ∧ W (i + 1) m' H') ∧ ∀ x H', J.yld i H x H' → g x (wipe σ vs) H' fun σ2 H2 => wipe σ2 vs = wipe σ vs ∧ tt σ2 H2 fun b H3 =>
    if b = true then te σ2 H3 fun y H4 => ∃ k : Bool, y = .bl k ∧ if k = stop then Q (.bl stop) H4 else Nx H4 else Nx H3)
/-- the end: in the def's context again -/
def GxFin (X : Cx) (pins : List (Addr × Obj)) (σ : L2.St) (Q : VK) (b : Bool) (s : Shared) : Prop := ∃ H', Inv X pins σ H' s ∧ Q (.bl b) H'
theorem slp_inv {X : Cx} {pins : List (Addr × Obj)} {σ : L2.St} {H : Hp} {s s' : Shared} (I : Inv X pins σ H s) (z : Slp s s') : Inv X pins σ H s' :=
  I.call' (ch := []) z.os (Un.kept z.keep) (I.hok.kept z.keep) z.bare fun b hb => absurd hb (by simp)
theorem gx_back {A : Around} {cenv : Env} {fp : List Addr} {pn pins' : List (Addr × Obj)} {σ' : L2.St} {H : Hp} {s s' : Shared} (I₁ : Inv X pins σ H₁ s₁) (hf : ∀ b ∈ fp, FpOk X pins H₁ b) (I : Inv (gxC X A s₁ H₁ cenv fp pn) pins' σ' H s) (z : Slp s s') : Inv X pins σ H s' := by
  have J := slp_inv I z
  exact I₁.call' (ch := fp) J.os J.base J.hok J.bare fun b hb => ⟨(hf b hb).2.2.2.1, (hf b hb).2.1, (hf b hb).2.2.2.2.1, (hf b hb).2.2.2.2.2⟩
theorem seg_gx {B : Around} {elt tg iter : Expr} {ifs : List Expr} {scope : Scope} {pos : Pos} {cenv : Env} {it a : Addr} {gn : Nat} {go : Obj} {fp : List Addr} {tn : Nat → Heap → Prop} {J : It} {stop : Bool} {g : TG} {tt : TT} {te : TE} {vs : List Nat} {Q : VK} {W : Nat → Nat → Hp → Prop}
    (hc : X.calm = true) (I₁ : Inv X pins σ H₁ s₁) (hf : ∀ b ∈ fp, FpOk X pins H₁ b) (T : Turn X.prog X.w X.K tg J fp it tn) (hgo : ∀ h : Heap, h.get? a = some go → h.IsGen a gn) (hafp : a ∉ fp)
    (hco : cenv.scope.isCoroutine = false)
    (hg : PG (gxC X (B.deeper cenv) s₁ H₁ cenv fp [(a, go)]) tg g) (ht : PTs (gxC X (B.deeper cenv) s₁ H₁ cenv fp [(a, go)]) ifs tt) (he : PE (gxC X (B.deeper cenv) s₁ H₁ cenv fp [(a, go)]) elt te)
    (turn : ∀ i m H, W i m H →
      (J.stop i H ∧ Q (.bl (!stop)) H) ∨ (J.go i H ∧ ∃ Nx : Hp → Prop, (∀ H', Nx H' → ∃ m', m' < m ∧ W (i + 1) m' H') ∧ ∀ x H', J.yld i H x H' → g x (wipe σ vs) H' fun σ2 H2 => wipe σ2 vs = wipe σ vs ∧ tt σ2 H2 fun b H3 =>
        if b = true then te σ2 H3 fun y H4 => ∃ k : Bool, y = .bl k ∧ if k = stop then Q (.bl stop) H4 else Nx H4 else Nx H3)) :
    ∀ (m n i : Nat) (s₀ s : Shared) (H : Hp), m < n → Inv (gxC X (B.deeper cenv) s₁ H₁ cenv fp [(a, go)]) [] (wipe σ vs) H s → tn i s.heap → (∀ b ∈ fp, H b = none) → W i m H →
      Seg (model X.prog X.w) B (fun n s₀ r s₁ => r = .ok .next ∧ GxF stop (GxFin X pins σ Q) n s₀ s₁) (GxY a gn stop (GxFin X pins σ Q)) n s₀
        (.compLoop (.GeneratorExp elt [⟨tg, iter, ifs, 0⟩] scope pos) 0 (.ref it) .none cenv)
        ((model X.prog X.w).den (.compLoop (.GeneratorExp elt [⟨tg, iter, ifs, 0⟩] scope pos) 0 (.ref it) .none cenv)) [] s := by
  intro m
  induction m using Nat.strongRecOn with
  | ind m ih =>
    intro n i s₀ s H hmn I st nf w
    have stat : ∀ {σ' : L2.St} {H' : Hp} {s' : Shared}, Inv (gxC X (B.deeper cenv) s₁ H₁ cenv fp [(a, go)]) [] σ' H' s' → (∀ b ∈ fp, H' b = none) → ∀ b ∈ fp, FpOk (gxC X (B.deeper cenv) s₁ H₁ cenv fp [(a, go)]) [] H' b := fun {σ' H' s'} I' hn b hb =>
      ⟨hn b hb, (I'.ok.exf b hb).1, I'.ok.exfs b hb, .inl hb, fun x c e => (I'.ok.exf b hb).2 x c e, fun p hp => by
        have hp : p ∈ [(a, go)] := by simpa using hp
        rw [List.mem_singleton.mp hp]
        exact fun z => hafp (by rw [show a = b from z]; exact hb)⟩
    have ov := @over_gx B elt tg iter ifs scope pos (.ref it) .none cenv
    show Seg _ B _ _ _ s₀ _ ((compTurn (.GeneratorExp elt [⟨tg, iter, ifs, 0⟩] scope pos) 0 (.ref it) .none cenv).onRaise (leaving cenv)) [] s
    rw [compTurn_gen, Sem.onRaise_eq_wrap]
    refine seg_bind_wrap (wpAny_standAt ?_)
    rcases turn i m H w with ⟨hstop, qq⟩ | ⟨hgo2, Nx, hNx, step⟩
    · have td := T.done (gxC X (B.deeper cenv) s₁ H₁ cenv fp [(a, go)]) rfl rfl rfl hc i [] s _ H (fun _ _ => False) I (stat I nf) st hstop
      refine seg_bind_wrap ?_
      rw [ov]
      refine thnF td fun r s6 ⟨hr, I6⟩ => ?_
      subst hr
      exact seg_end (.ok .next) ⟨rfl, I6.bare, fun s' z => ⟨H, gx_back I₁ hf I6 z, qq⟩⟩
    · have ti := T.item (gxC X (B.deeper cenv) s₁ H₁ cenv fp [(a, go)]) rfl rfl rfl hc i [] s _ H (fun _ _ => False) I (stat I nf) st hgo2
      refine seg_bind_wrap ?_
      rw [ov]
      refine thnF ti fun r s6 ⟨u, hr, h6⟩ => ?_
      subst hr
      dsimp only
      refine seg_bind_wrap ?_
      rw [ov]
      refine thnF h6 fun _ s7 ⟨x, H7, I7, r7, y7, st7, n7⟩ => ?_
      have I7' := I7.pinned (stat I7 n7) (T.obj _ _ st7)
      refine seg_bind_wrap ?_
      rw [ov]
      refine thnF (hg.run _ s7 _ H7 x u _ I7' r7 (step x H7 y7)) fun _ s8 ⟨σ8, H8, I8, hw8, q8⟩ => ?_
      refine seg_bind_wrap ?_
      rw [ov]
      refine thnF (ht.run _ s8 σ8 H8 _ I8 q8) fun b s9 ⟨H9, I9, q9⟩ => ?_
      -- the next turn
      have fin : ∀ {s' : Shared} {H' : Hp} {n' : Nat} {s₀' : Shared}, m ≤ n' → Inv (gxC X (B.deeper cenv) s₁ H₁ cenv fp [(a, go)]) ([] ++ pinsAt fp s7.heap) σ8 H' s' → Nx H' →
          Seg (model X.prog X.w) B (fun n s₀ r s₁ => r = .ok .next ∧ GxF stop (GxFin X pins σ Q) n s₀ s₁) (GxY a gn stop (GxFin X pins σ Q)) n' s₀'
            (.compLoop (.GeneratorExp elt [⟨tg, iter, ifs, 0⟩] scope pos) 0 (.ref it) .none cenv)
            ((model X.prog X.w).den (.compLoop (.GeneratorExp elt [⟨tg, iter, ifs, 0⟩] scope pos) 0 (.ref it) .none cenv)) [] s' := fun {s' H' n' s₀'} hle I' nx => by
        obtain ⟨m', hm, w'⟩ := hNx H' nx
        have pin' : ∀ b ∈ fp, ∀ o, s7.heap.get? b = some o → s'.heap.get? b = some o ∧ H' b = none := fun b hb o e =>
          let z := I'.pin (b, o) (List.mem_append_right _ (List.mem_append_right _ (mem_pinsAt hb e)))
          ⟨z.1, z.2.1⟩
        have hl : (wipe σ vs).length = σ8.length := by rw [← hw8, wipe_length]
        refine ih m' hm n' (i + 1) s₀' s' H' (by omega) ((I'.unpinned (pins := [])).weak hl fun j v e => ?_) (T.keep _ _ _ st7 fun b hb o e => (pin' b hb o e).1) (fun b hb => ?_) w'
        · rw [← hw8] at e
          exact (wipe_some e).1
        · obtain ⟨o, e, _⟩ := T.obj _ _ st7 b hb
          exact (pin' b hb o e).2
      cases b with
      | false =>
        simp only [Bool.false_eq_true, if_false] at q9 ⊢
        exact seg_again rfl (fin (by omega) I9 q9)
      | true =>
        simp only [if_true] at q9 ⊢
        have hy : ∀ v, yieldOut cenv v = yieldValue v := fun v => by simp only [yieldOut, hco, Bool.false_eq_true, if_false]
        simp only [hy]
        rw [Sem.bind_eq_wrap', Sem.bind_eq_wrap', Sem.wrap_wrap, Sem.wrap_wrap]
        refine seg_wrap ?_
        rw [ov]
        refine thnF (he.run _ s9 σ8 H9 _ I9 q9) fun z s10 ⟨yv, H10, I10, r10, k, ey, nx⟩ => ?_
        subst ey
        obtain rfl : z = Value.bool k := r10
        obtain ⟨n, rfl⟩ : ∃ n', n = n' + 1 := ⟨n - 1, by omega⟩
        have hgen : s10.heap.IsGen a gn := hgo _ (I10.pin (a, go) (List.mem_append_left _ (List.mem_singleton.mpr rfl))).1
        refine seg_at (seg_yield rfl rfl rfl ⟨k, rfl, I10.nolimit, hgen, I10.bare, ?_⟩)
        by_cases hk : k = stop
        · rw [if_pos hk] at nx ⊢
          exact fun s' zz => ⟨H10, gx_back I₁ hf I10 zz, nx⟩
        · rw [if_neg hk] at nx ⊢
          exact fun s' zz => seg_again rfl (fin (by omega) (slp_inv I10 zz) nx)
end

section
variable {X : Cx} {pins : List (Addr × Obj)} {σ : L2.St} {H : Hp} {s : Shared}
/-- what the consumer gets -/
def GxReady (X : Cx) (pins : List (Addr × Obj)) (σ : L2.St) (stop : Bool) (Q : VK) (a : Addr) (s : Shared) : Prop :=
  ∃ (g n : Nat) (gs : GenState), s.heap.IsGen a g ∧ s.heap.NoLimit ∧ s.gens[g]? = some gs ∧ gs.Goes (model X.prog X.w) X.A.in1.in1 (fun n s₀ r s₁ => r = .ok .next ∧ GxF stop (GxFin X pins σ Q) n s₀ s₁) (GxY a g stop (GxFin X pins σ Q)) n (.send .none) (s.setGen g .running)
theorem tabO_ok {P : Program} {w : World} {H : Hp} {h : Heap} {a : Addr} {ps : Array Value} (e : h.get? a = some { cls := .none, data := .fields ps }) (ht : TriplesOk ps.toList) : ObjOk P w H h a (tabO a) :=
  ⟨⟨ps, e, ht⟩, ⟨_, e⟩, fun h1 h2 ⟨qs, e1, t1⟩ k => ⟨qs, k _ e1, t1⟩⟩
theorem gx_make {c P : Addr} {k : Nat} {elt tg iter : Expr} {ifs : List Expr} {scope : Scope} {own : List (Str × Nat)} {gpos : Pos} {stop : Bool} {wi : TI} {g : TG} {tt : TT} {te : TE} {Q : VK} {Q' : Value → Shared → Prop}
    (hr : Room (k + 1) X.A) (TB : GxR.TabB X.base X.mg c P) (hcode : X.env.code = .ref c) (S : GxScope X scope own) (hN : X.N.Nodup) (hc : X.calm = true) (hi : PI X tg iter wi)
    (hg : ∀ (A : Around) (s : Shared) (H : Hp) (cl : List (Str × Addr)) (C : Addr) (code : Value) (fp : List Addr) (pn : List (Addr × Obj)), Room k A → PG (gxC X A s H (genEnv scope cl C code builtinsNs X.env) fp pn) tg g)
    (ht : ∀ (A : Around) (s : Shared) (H : Hp) (cl : List (Str × Addr)) (C : Addr) (code : Value) (fp : List Addr) (pn : List (Addr × Obj)), Room k A → PTs (gxC X A s H (genEnv scope cl C code builtinsNs X.env) fp pn) ifs tt)
    (he : ∀ (A : Around) (s : Shared) (H : Hp) (cl : List (Str × Addr)) (C : Addr) (code : Value) (fp : List Addr) (pn : List (Addr × Obj)), Room k A → PE (gxC X A s H (genEnv scope cl C code builtinsNs X.env) fp pn) elt te)
    (hs : ∀ v, genFold iter X.env v = pure v) (I : Inv X pins σ H s) (h : tGx P stop wi g tt te (own.map (·.2)) σ H Q) (hQ : ∀ a s5, GxReady X pins σ stop Q a s5 → Q' (.ref a) s5) :
    wpAny (model X.prog X.w) X.A (eval (.GeneratorExp elt [⟨tg, iter, ifs, 0⟩] scope gpos) X.env) Q' X.xe s := by
  have hfree : ∀ y ∈ scope.names, y.2 = .free → ∃ c, X.env.cells.lookup y.1 = some c := fun y hy e => by
    rcases S.blk.free y hy e with k | k
    · exact I.ok.has _ (.inl k)
    · exact I.ok.has _ (.inr k)
  refine wpAny_GeneratorExp_make S.co (closure_ok hfree) S.cell S.dot S.blk.kind (by have := hr.dp; omega) ?_ hs
  refine thn (hi.run pins s σ H _ I h) fun xv s1 h1 => thn h1 fun itv s2 h2 => ?_
  obtain ⟨it, fp, tn, J, H2, e, I2, T, st2, f2, hP, W, ⟨m0, w0⟩, turn⟩ := h2
  subst e
  refine ⟨I2.nolimit, ?_⟩
  obtain ⟨⟨ps, hPs, htr⟩, _, _⟩ := I2.hok P _ hP
  have cd : PySem.W.CodeHd s2.heap c P := TB.code.keeps I2.bk
  have sz : ∀ b ∈ fp, b < s2.heap.objs.size := fun b hb => by
    obtain ⟨o, e, _⟩ := T.obj _ _ st2 b hb
    exact Heap.lt_size e
  have hcP : cStatics ≠ P := fun e => by
    obtain ⟨_, hns, _⟩ := I2.nolimit
    obtain ⟨o', es, ep, ho, hd, _⟩ := hns
    rw [e, hPs] at ho
    cases ho
    cases hd
  have hfpP : ∀ b ∈ fp, b ≠ P := fun b hb z => by
    have q := (f2 b hb).1
    rw [z, hP] at q
    cases q
  have cont : ∀ (code : Value) (h3 : Heap) (tk : Nat) (ps' : Array Value), Heap.ExtBut P s2.heap h3 → s2.heap.objs.size ≤ h3.objs.size → h3.get? P = some { cls := .none, data := .fields ps' } → TriplesOk ps'.toList →
      wpAny (model X.prog X.w) X.A (builtinsFor X.env.globals X.env.builtins) (fun bi s₄ =>
        ∀ h', h'.Ns s₄.heap.objs.size (fun y => if y = ".0" then some (.ref it) else none) → Heap.SameBut s₄.heap.objs.size (s₄.heap.push { cls := .type "frame", data := .dict #[] }) h' →
          Q' (.ref h'.objs.size) { s₄ with
            gens := s₄.gens.push (.fresh (.compStart (.GeneratorExp elt [⟨tg, iter, ifs, 0⟩] scope gpos) 0 (.ref it) .none (genEnv scope (cloFrom X.env.cells scope.names []) s₄.heap.objs.size code bi X.env))),
            toks := s₄.toks + 1 + 1 + 1,
            heap := h'.push { cls := .type "generator", data := .fields #[.int s₄.gens.size 0, .str "<genexpr>" (s₄.toks + 1), .str (X.env.qual ++ "<genexpr>") (s₄.toks + 1 + 1)] } }) X.xe { s2 with heap := h3, toks := tk } := by
    intro code h3 tk ps' hx hsz hP3 ht3
    obtain ⟨bm, ob, e1, e2, e3, e4, e5, e6, e7, e8⟩ := TB.bm
    have keep3 : ∀ b u, b ≠ P → s2.heap.get? b = some u → h3.get? b = some u := fun b u hb e => hx b u hb e
    refine wpAny_builtinsFor (m := X.mg) (by rw [I2.ok.glob]; exact (I2.mod.glob.keeps I2.bk).extBut hx TB.gP) e1 e2 (keep3 _ _ e4 (I2.bk _ _ e5)) e6 e7 e8 ?_
    intro h' hn' hs'
    have hsz' : h'.objs.size = h3.objs.size + 1 := by rw [hs'.1, Heap.size_push]
    have keep' : ∀ b o, h3.get? b = some o → h'.get? b = some o := fun b o e => hs'.extBut b o (Nat.ne_of_lt (Heap.lt_size e)) (Heap.get?_push_of_some _ e)
    refine hQ _ _ ?_
    have main : ∀ (go : Obj), go.data = .fields #[.int s2.gens.size 0, .str "<genexpr>" (tk + 1), .str (X.env.qual ++ "<genexpr>") (tk + 1 + 1)] → go.cls = .type "generator" → go.slots = #[] → (h'.push go).get? h'.objs.size = some go →
        GxReady X pins σ stop Q h'.objs.size { s2 with gens := s2.gens.push (.fresh (.compStart (.GeneratorExp elt [⟨tg, iter, ifs, 0⟩] scope gpos) 0 (.ref it) .none (genEnv scope (cloFrom X.env.cells scope.names []) h3.objs.size code builtinsNs X.env))), toks := tk + 1 + 1 + 1, heap := h'.push go } := by
      intro go hgd hgc hgs hgp
      have keep5 : ∀ b o, h3.get? b = some o → (h'.push go).get? b = some o := fun b o e => Heap.get?_push_of_some _ (keep' b o e)
      have keep25 : ∀ b o, b ≠ P → s2.heap.get? b = some o → (h'.push go).get? b = some o := fun b o hb e => keep5 b o (keep3 b o hb e)
      have nP : ∀ b u, H2 b = some u → b ≠ P → ∀ d v, (d = b ∨ H2 d = some (.own b)) → s2.heap.get? d = some v → (h'.push go).get? d = some v := fun b u e hb d v hd q => by
        refine keep25 d v (fun z => ?_) q
        rcases hd with y | y
        · exact hb (by rw [← y]; exact z)
        · rw [z, hP] at y
          cases y
      have hok5 : HOk X.prog X.w H2 (h'.push go) := fun b u e => by
        by_cases hb : b = P
        · rw [hb, hP] at e
          cases e
          rw [hb]
          exact tabO_ok (keep5 _ _ hP3) ht3
        · exact (I2.hok b u e).stay (nP b u e hb) (fun _ q => q) fun _ _ q => q
      have hgen : ∀ h : Heap, h.get? h'.objs.size = some go → h.IsGen h'.objs.size s2.gens.size := fun h e => ⟨go, _, _, e, hgc, hgd, hgs⟩
      have hlt2 : s2.heap.objs.size ≤ h'.objs.size := by omega
      have lim5 : (h'.push go).NoLimit := let ⟨mc, a, b⟩ := I2.nolimit; ⟨mc, a.at' fun o e => keep25 _ o hcP e, b⟩
      have bare5 : AllBare (s2.gens.push (.fresh (.compStart (.GeneratorExp elt [⟨tg, iter, ifs, 0⟩] scope gpos) 0 (.ref it) .none (genEnv scope (cloFrom X.env.cells scope.names []) h3.objs.size code builtinsNs X.env)))) := AllBare.push I2.bare rfl
      have hr2 := room_gx hr (genEnv scope (cloFrom X.env.cells scope.names []) h3.objs.size code builtinsNs X.env)
      have I5 : Inv (gxC X (X.A.in1.in1.deeper (genEnv scope (cloFrom X.env.cells scope.names []) h3.objs.size code builtinsNs X.env)) s2 H2 (genEnv scope (cloFrom X.env.cells scope.names []) h3.objs.size code builtinsNs X.env) fp [(h'.objs.size, go)]) [] (wipe σ (own.map (·.2))) H2
          { s2 with gens := s2.gens.push (.fresh (.compStart (.GeneratorExp elt [⟨tg, iter, ifs, 0⟩] scope gpos) 0 (.ref it) .none (genEnv scope (cloFrom X.env.cells scope.names []) h3.objs.size code builtinsNs X.env))), toks := tk + 1 + 1 + 1, heap := h'.push go } := by
        refine gx_start I2 S hN (fun b hb => ⟨f2 b hb, sz b hb⟩) hsz (hn'.push _) (fun b o e n => keep25 b o (fun z => by rw [z, hP] at n; cases n) e) (fun b o e => ?_) hok5 rfl bare5 hr2.hd (Around.frames_deeper (show X.A.in1.in1.frames = some X.stack from I2.ok.frames)) fun p hp => ?_
        · by_cases hb : b = P
          · rw [hb]; exact ⟨_, keep5 _ _ hP3⟩
          · exact ⟨o, keep25 b o hb e⟩
        · rw [List.mem_singleton.mp hp]
          exact ⟨hgp, I2.hok.fresh hlt2, by show h'.objs.size ≠ h3.objs.size; omega, fun z => by
            rcases List.mem_cons.mp (I2.stkSub _ z) with z | z
            · exact absurd I2.lt (by rw [← z]; exact Nat.not_lt.mpr hlt2)
            · exact I2.nofs hlt2 z, fun v q => by rw [hgd] at q; cases q⟩
      refine ⟨s2.gens.size, m0 + 1, _, hgen _ hgp, lim5, Array.getElem?_push_size .., rfl, ?_⟩
      have zz : Slp ({ s2 with gens := s2.gens.push (.fresh (.compStart (.GeneratorExp elt [⟨tg, iter, ifs, 0⟩] scope gpos) 0 (.ref it) .none (genEnv scope (cloFrom X.env.cells scope.names []) h3.objs.size code builtinsNs X.env))), toks := tk + 1 + 1 + 1, heap := h'.push go } : Shared)
          (Shared.setGen { s2 with gens := s2.gens.push (.fresh (.compStart (.GeneratorExp elt [⟨tg, iter, ifs, 0⟩] scope gpos) 0 (.ref it) .none (genEnv scope (cloFrom X.env.cells scope.names []) h3.objs.size code builtinsNs X.env))), toks := tk + 1 + 1 + 1, heap := h'.push go } s2.gens.size .running) := ⟨rfl, allBare_setGen bare5 rfl, fun _ _ e => e⟩
      have I6 := slp_inv I5 zz
      generalize hs6 : Shared.setGen { s2 with gens := s2.gens.push (.fresh (.compStart (.GeneratorExp elt [⟨tg, iter, ifs, 0⟩] scope gpos) 0 (.ref it) .none (genEnv scope (cloFrom X.env.cells scope.names []) h3.objs.size code builtinsNs X.env))), toks := tk + 1 + 1 + 1, heap := h'.push go } s2.gens.size .running = s6 at I6 ⊢
      have st6 : tn 0 s6.heap := by
        rw [← hs6]
        exact T.keep _ _ _ st2 fun b hb o e => keep25 b o (hfpP b hb) e
      have loop := seg_gx (B := X.A.in1.in1) (pos := gpos) (scope := scope) (iter := iter) (gn := s2.gens.size) hc I2 f2 T hgen (fun z => absurd (sz _ z) (Nat.not_lt.mpr hlt2)) S.co
        (hg _ s2 H2 _ _ _ fp [(h'.objs.size, go)] hr2) (ht _ s2 H2 _ _ _ fp [(h'.objs.size, go)] hr2) (he _ s2 H2 _ _ _ fp [(h'.objs.size, go)] hr2) turn m0 (m0 + 1) 0 s6 s6 H2 (Nat.lt_succ_self _) I6 st6 (fun b hb => (f2 b hb).1) w0
      show Seg _ X.A.in1.in1 _ _ _ s6 _ ((compStart (.GeneratorExp elt [⟨tg, iter, ifs, 0⟩] scope gpos) 0 (.ref it) .none (genEnv scope (cloFrom X.env.cells scope.names []) h3.objs.size code builtinsNs X.env)).onRaise (leaving (genEnv scope (cloFrom X.env.cells scope.names []) h3.objs.size code builtinsNs X.env))) [] s6
      unfold compStart
      rw [Sem.onRaise_eq_wrap]
      show Seg _ X.A.in1.in1 _ _ _ s6 _ ((ask >>= _).wrap _ _ _ _) [] s6
      refine seg_bind_wrap (wpAny_askSetting ?_)
      split
      · exact seg_again rfl loop
      · first
          | exact seg_bind_wrap (wpAny_rule (seg_bind_wrap (wpAny_standAt (seg_bind_wrap (T.self _ 0 s6 _ _ st6 (seg_again rfl loop))))))
          | (refine seg_bind_wrap (wpAny_rule ?_); show Seg _ X.A.in1.in1 _ _ _ s6 _ ((standAt iter.pos >>= _).wrap _ _ _ _) [] s6; exact seg_bind_wrap (wpAny_standAt (seg_bind_wrap (T.self _ 0 s6 _ _ st6 (seg_again rfl loop)))))
    exact main _ rfl rfl rfl (Heap.get?_push_size _ rfl)
  cases hf : codeAmong gpos ps.toList with
  | none =>
    refine wpAny_genexprCodeX hcode (cd.code hPs htr) (cd.tab hPs) hf fun c' h' tk hx hge hlt hco' _ htab' _ => ?_
    obtain ⟨o1, vs, f1, tf, fl, tg, inF, tx, tt, op, _, _, _, _, _, _, _, _, _, htr', _⟩ := hco'
    exact cont _ h' tk _ hx (Nat.le_trans hge (Nat.le_of_lt hlt)) htab'.2 htr'
  | some cv =>
    refine wpAny_genexprCode_hit hcode (cd.code hPs htr) hf ?_
    exact cont cv s2.heap s2.toks ps (Heap.ExtBut.refl _ _) (Nat.le_refl _) hPs htr
/-- all(elt for tg in iter if ..) -/
theorem pe_allG {c P : Addr} {k : Nat} {elt tg iter : Expr} {ifs : List Expr} {scope : Scope} {own : List (Str × Nat)} {p pos gpos : Pos} {wi : TI} {g : TG} {tt : TT} {te : TE}
    (hr : Room (k + 1) X.A) (hm : X.mg "all" = none) (TB : GxR.TabB X.base X.mg c P) (hcode : X.env.code = .ref c) (S : GxScope X scope own) (hN : X.N.Nodup) (hc : X.calm = true) (hi : PI X tg iter wi)
    (hg : ∀ (A : Around) (s : Shared) (H : Hp) (cl : List (Str × Addr)) (C : Addr) (code : Value) (fp : List Addr) (pn : List (Addr × Obj)), Room k A → PG (gxC X A s H (genEnv scope cl C code builtinsNs X.env) fp pn) tg g)
    (ht : ∀ (A : Around) (s : Shared) (H : Hp) (cl : List (Str × Addr)) (C : Addr) (code : Value) (fp : List Addr) (pn : List (Addr × Obj)), Room k A → PTs (gxC X A s H (genEnv scope cl C code builtinsNs X.env) fp pn) ifs tt)
    (he : ∀ (A : Around) (s : Shared) (H : Hp) (cl : List (Str × Addr)) (C : Addr) (code : Value) (fp : List Addr) (pn : List (Addr × Obj)), Room k A → PE (gxC X A s H (genEnv scope cl C code builtinsNs X.env) fp pn) elt te)
    (hgl : Gl X "all" := by rfl) (hs : ∀ v, genFold iter X.env v = pure v := by intro _; rfl)
    (hst : starEach [.GeneratorExp elt [⟨tg, iter, ifs, 0⟩] scope gpos] X.env = (false, eval (.GeneratorExp elt [⟨tg, iter, ifs, 0⟩] scope gpos) X.env) :: starEach [] X.env := by rfl) :
    PE X (.Call (.Name "all" p) [.GeneratorExp elt [⟨tg, iter, ifs, 0⟩] scope gpos] [] pos) (tGx P false wi g tt te (own.map (·.2))) := by
  refine ⟨fun pins s σ H Q I h => ?_⟩
  refine wpAny_Call_Name_kw (ld_blt I hgl hm boot_all ?_)
  refine PyProof.Rows.callWith_builtin1 ?_ hst (by rfl)
  rw [hst]
  show wpAny _ _ (spliced ((false, eval (.GeneratorExp elt [⟨tg, iter, ifs, 0⟩] scope gpos) X.env) :: backTo pos (starEach [] X.env))) _ _ s
  refine Calls.spliced_cons (gx_make hr TB hcode S hN hc hi hg ht he hs I h fun a s5 hG => ?_)
  obtain ⟨g', n, gs, hgen, hl, hgs, hgo⟩ := hG
  refine Calls.spliced_nil ?_
  refine call_function_tree F.kind_all F.plain_all F.entry_all (F.args_all1 _) ?_
  unfold Builtin.«all»
  refine wpAny_bind (m := oneArg "all" _) (wpAny_pure ?_)
  refine wpAny_bind (wpAny_pyIter_gen hgen ?_)
  refine wpAny_pure ⟨plainId_quiet F.plain_all_loop _, ?_⟩
  exact all_gx (A := X.A) (Fin := GxFin X pins σ Q) hr.hd (by have := hr.dp; omega) (fun b s ⟨H', I', q⟩ => ⟨.bl b, H', I', rfl, q⟩) n s5 hgen hl ⟨gs, hgs, hgo⟩
theorem pe_anyG {c P : Addr} {k : Nat} {elt tg iter : Expr} {ifs : List Expr} {scope : Scope} {own : List (Str × Nat)} {p pos gpos : Pos} {wi : TI} {g : TG} {tt : TT} {te : TE}
    (hr : Room (k + 1) X.A) (hm : X.mg "any" = none) (TB : GxR.TabB X.base X.mg c P) (hcode : X.env.code = .ref c) (S : GxScope X scope own) (hN : X.N.Nodup) (hc : X.calm = true) (hi : PI X tg iter wi)
    (hg : ∀ (A : Around) (s : Shared) (H : Hp) (cl : List (Str × Addr)) (C : Addr) (code : Value) (fp : List Addr) (pn : List (Addr × Obj)), Room k A → PG (gxC X A s H (genEnv scope cl C code builtinsNs X.env) fp pn) tg g)
    (ht : ∀ (A : Around) (s : Shared) (H : Hp) (cl : List (Str × Addr)) (C : Addr) (code : Value) (fp : List Addr) (pn : List (Addr × Obj)), Room k A → PTs (gxC X A s H (genEnv scope cl C code builtinsNs X.env) fp pn) ifs tt)
    (he : ∀ (A : Around) (s : Shared) (H : Hp) (cl : List (Str × Addr)) (C : Addr) (code : Value) (fp : List Addr) (pn : List (Addr × Obj)), Room k A → PE (gxC X A s H (genEnv scope cl C code builtinsNs X.env) fp pn) elt te)
    (hgl : Gl X "any" := by rfl) (hs : ∀ v, genFold iter X.env v = pure v := by intro _; rfl)
    (hst : starEach [.GeneratorExp elt [⟨tg, iter, ifs, 0⟩] scope gpos] X.env = (false, eval (.GeneratorExp elt [⟨tg, iter, ifs, 0⟩] scope gpos) X.env) :: starEach [] X.env := by rfl) :
    PE X (.Call (.Name "any" p) [.GeneratorExp elt [⟨tg, iter, ifs, 0⟩] scope gpos] [] pos) (tGx P true wi g tt te (own.map (·.2))) := by
  refine ⟨fun pins s σ H Q I h => ?_⟩
  refine wpAny_Call_Name_kw (ld_blt I hgl hm boot_any ?_)
  refine PyProof.Rows.callWith_builtin1 ?_ hst (by rfl)
  rw [hst]
  show wpAny _ _ (spliced ((false, eval (.GeneratorExp elt [⟨tg, iter, ifs, 0⟩] scope gpos) X.env) :: backTo pos (starEach [] X.env))) _ _ s
  refine Calls.spliced_cons (gx_make hr TB hcode S hN hc hi hg ht he hs I h fun a s5 hG => ?_)
  obtain ⟨g', n, gs, hgen, hl, hgs, hgo⟩ := hG
  refine Calls.spliced_nil ?_
  refine call_function_tree F.kind_any F.plain_any F.entry_any (F.args_any1 _) ?_
  unfold Builtin.«any»
  refine wpAny_bind (m := oneArg "any" _) (wpAny_pure ?_)
  refine wpAny_bind (wpAny_pyIter_gen hgen ?_)
  refine wpAny_pure ⟨plainId_quiet F.plain_any_loop _, ?_⟩
  exact any_gx (A := X.A) (Fin := GxFin X pins σ Q) hr.hd (by have := hr.dp; omega) (fun b s ⟨H', I', q⟩ => ⟨.bl b, H', I', rfl, q⟩) n s5 hgen hl ⟨gs, hgs, hgo⟩
end
end Qd
end
section
set_option Elab.async false
set_option linter.all false
set_option maxRecDepth 100000
/-! Data without addresses over HandS: a value v of the abstract heap H stands for the data w; O: the addresses that somebody may still write. -/
namespace Qd
open PySem PySem.Spec PyProof.Rows L2

abbrev W := PyData
abbrev St := L2.St
/-- a caught error of the class with number c -/
abbrev exD (c : Nat) : W := PyData.dict [(PyData.none, PyData.int c)]
def keyD : Key → W
  | .inl i => .int i
  | .inr x => .str x
theorem keyD_inj : ∀ {k l : Key}, keyD k = keyD l → k = l
  | .inl i, .inl j, h => by injection h with h; rw [h]
  | .inr i, .inr j, h => by injection h with h; rw [h]
  | .inl i, .inr j, h => by cases h
  | .inr i, .inl j, h => by cases h

/-- ahead of the items of a dict whose keys are tuples -/
abbrev tagT : W × W := (.none, .none)
def noH : Hp := fun _ => none
section
variable (K : PySem.W.Frag) (Ex : Addr → Nat → Prop) (O : Addr → Prop) (H : Hp)
/-- Ex a cN: the module's written tuples and lists may be read -/
abbrev cN : Nat := 1000
/-- Ex a tN: the table of a code object lies at a -/
abbrev tN : Nat := 2000
def LAt (a : Addr) (xs : List V) : Prop := (¬ O a ∧ Rd H a (.lst xs)) ∨ SqL K noH a xs
def TAt (a : Addr) (xs : List V) : Prop := (¬ O a ∧ H a = some (.tup xs)) ∨ (Ex a cN ∧ SqT K noH a xs)
mutual
inductive Rp : V → W → Prop
  | non : Rp .non .none
  | bl (b : Bool) : Rp (.bl b) (.bool b)
  | int (i : Int) : Rp (.int i) (.int i)
  | str (x : Str) : Rp (.str x) (.str x)
  | lst {a : Addr} {xs : List V} {ds : List W} : LAt K O H a xs → RpA xs ds → Rp (.ref a) (.list ds)
  | tup {a : Addr} {xs : List V} {ds : List W} : TAt K Ex O H a xs → RpA xs ds → Rp (.ref a) (.tuple ds)
  | dK {a : Addr} {kvs : List (Key × V)} {ds : List (W × W)} : ¬ O a → Rd H a (.dK kvs) → RpK kvs ds → Rp (.ref a) (.dict ds)
  | dT {a : Addr} {kvs : List (List Key × V)} {ds : List (W × W)} : ¬ O a → Rd H a (.dT kvs) → RpT kvs ds → Rp (.ref a) (.dict (tagT :: ds))
  | exc {a : Addr} {c : Nat} : Ex a c → Rp (.ref a) (exD c)
inductive RpA : List V → List W → Prop
  | nil : RpA [] []
  | cons {v : V} {w : W} {vs : List V} {ws : List W} : Rp v w → RpA vs ws → RpA (v :: vs) (w :: ws)
inductive RpK : List (Key × V) → List (W × W) → Prop
  | nil : RpK [] []
  | cons {k : Key} {v : V} {w : W} {vs : List (Key × V)} {ws : List (W × W)} : Rp v w → RpK vs ws → RpK ((k, v) :: vs) ((keyD k, w) :: ws)
inductive RpT : List (List Key × V) → List (W × W) → Prop
  | nil : RpT [] []
  | cons {k : List Key} {v : V} {w : W} {vs : List (List Key × V)} {ws : List (W × W)} : Rp v w → RpT vs ws → RpT ((k, v) :: vs) ((.tuple (k.map keyD), w) :: ws)
end
/-- an object that may be written, by its data -/
def Ob (p : Addr) : W → Prop
  | .list ds => ∃ xs, H p = some (.lst xs) ∧ RpA K Ex O H xs ds
  | .dict ds => (∃ kvs, H p = some (.dK kvs) ∧ RpK K Ex O H kvs ds) ∨ ∃ kvs ds', ds = tagT :: ds' ∧ H p = some (.dT kvs) ∧ RpT K Ex O H kvs ds'
  | _ => False
end

section
variable {K : PySem.W.Frag} {Ex Ex' : Addr → Nat → Prop} {O O' : Addr → Prop} {H H' : Hp}
/-- what is fixed at (O, H) is so at (O', H') -/
def Ke (O : Addr → Prop) (H : Hp) (O' : Addr → Prop) (H' : Hp) : Prop := ∀ a u, ¬ O a → H a = some u → ¬ O' a ∧ H' a = some u
theorem Ke.refl : Ke O H O H := fun _ _ h e => ⟨h, e⟩
theorem Ke.trans {O2 : Addr → Prop} {H2 : Hp} (a : Ke O H O' H') (b : Ke O' H' O2 H2) : Ke O H O2 H2 := fun x u h e => let ⟨h1, e1⟩ := a x u h e; b x u h1 e1
theorem Ke.rd (k : Ke O H O' H') {a : Addr} {u : HO} (h : ¬ O a) (r : Rd H a u) : ¬ O' a ∧ Rd H' a u := by
  rcases r with r | ⟨o, r⟩
  · exact ⟨(k a _ h r).1, .inl (k a _ h r).2⟩
  · exact ⟨(k a _ h r).1, .inr ⟨o, (k a _ h r).2⟩⟩
theorem LAt.mono {a : Addr} {xs : List V} (k : Ke O H O' H') (h : LAt K O H a xs) : LAt K O' H' a xs := by
  rcases h with ⟨h, r⟩ | h
  · exact .inl (k.rd h r)
  · exact .inr h
theorem TAt.mono {a : Addr} {xs : List V} (k : Ke O H O' H') (x : ∀ a c, Ex a c → Ex' a c) (h : TAt K Ex O H a xs) : TAt K Ex' O' H' a xs := by
  rcases h with ⟨h, r⟩ | h
  · exact .inl (k _ _ h r)
  · exact .inr ⟨x _ _ h.1, h.2⟩
theorem no_rd {a : Addr} {u : HO} (h : Rd noH a u) : False := by
  rcases h with h | ⟨_, h⟩ <;> cases h
theorem LAt.sq {a : Addr} {xs : List V} (h : LAt K O H a xs) : SqL K H a xs := by
  rcases h with ⟨_, r⟩ | h
  · exact .inl r
  · exact .inr (h.resolve_left no_rd)
theorem TAt.sq {a : Addr} {xs : List V} (h : TAt K Ex O H a xs) : SqT K H a xs := by
  rcases h with ⟨_, r⟩ | h
  · exact .inl (.inl r)
  · exact .inr (h.2.resolve_left no_rd)
mutual
theorem Rp.mono (k : Ke O H O' H') (x : ∀ a c, Ex a c → Ex' a c) : ∀ {v : V} {w : W}, Rp K Ex O H v w → Rp K Ex' O' H' v w
  | _, _, .non => .non
  | _, _, .bl b => .bl b
  | _, _, .int i => .int i
  | _, _, .str i => .str i
  | _, _, .lst h r => .lst (h.mono k) (RpA.mono k x r)
  | _, _, .tup h r => .tup (h.mono k x) (RpA.mono k x r)
  | _, _, .dK h r t => .dK (k.rd h r).1 (k.rd h r).2 (RpK.mono k x t)
  | _, _, .dT h r t => .dT (k.rd h r).1 (k.rd h r).2 (RpT.mono k x t)
  | _, _, .exc h => .exc (x _ _ h)
theorem RpA.mono (k : Ke O H O' H') (x : ∀ a c, Ex a c → Ex' a c) : ∀ {v : List V} {w : List W}, RpA K Ex O H v w → RpA K Ex' O' H' v w
  | _, _, .nil => .nil
  | _, _, .cons a b => .cons (Rp.mono k x a) (RpA.mono k x b)
theorem RpK.mono (k : Ke O H O' H') (x : ∀ a c, Ex a c → Ex' a c) : ∀ {v : List (Key × V)} {w : List (W × W)}, RpK K Ex O H v w → RpK K Ex' O' H' v w
  | _, _, .nil => .nil
  | _, _, .cons a b => .cons (Rp.mono k x a) (RpK.mono k x b)
theorem RpT.mono (k : Ke O H O' H') (x : ∀ a c, Ex a c → Ex' a c) : ∀ {v : List (List Key × V)} {w : List (W × W)}, RpT K Ex O H v w → RpT K Ex' O' H' v w
  | _, _, .nil => .nil
  | _, _, .cons a b => .cons (Rp.mono k x a) (RpT.mono k x b)
end
/-- a change that keeps the object at p -/
theorem Ob.mono {p : Addr} {w : W} (k : Ke O H O' H') (x : ∀ a c, Ex a c → Ex' a c) (e : H' p = H p) (h : Ob K Ex O H p w) : Ob K Ex' O' H' p w := by
  cases w with
  | list ds => obtain ⟨xs, h1, h2⟩ := h; exact ⟨xs, e.trans h1, h2.mono k x⟩
  | dict ds =>
    rcases h with ⟨xs, h1, h2⟩ | ⟨xs, ds', h0, h1, h2⟩
    · exact .inl ⟨xs, e.trans h1, h2.mono k x⟩
    · exact .inr ⟨xs, ds', h0, e.trans h1, h2.mono k x⟩
  | none => exact h.elim
  | bool b => exact h.elim
  | int i => exact h.elim
  | str s => exact h.elim
  | tuple t => exact h.elim
/-- an object that nobody writes any more -/
theorem Ob.rp {p : Addr} {w : W} (n : ¬ O p) (h : Ob K Ex O H p w) : Rp K Ex O H (.ref p) w := by
  cases w with
  | list ds => obtain ⟨xs, h1, h2⟩ := h; exact .lst (.inl ⟨n, .inl h1⟩) h2
  | dict ds =>
    rcases h with ⟨xs, h1, h2⟩ | ⟨xs, ds', rfl, h1, h2⟩
    · exact .dK n (.inl h1) h2
    · exact .dT n (.inl h1) h2
  | none => exact h.elim
  | bool b => exact h.elim
  | int i => exact h.elim
  | str s => exact h.elim
  | tuple t => exact h.elim
theorem Ob.at {p : Addr} {w : W} (h : Ob K Ex O H p w) : ∃ u, H p = some u := by
  cases w with
  | list ds => obtain ⟨xs, h1, h2⟩ := h; exact ⟨_, h1⟩
  | dict ds =>
    rcases h with ⟨xs, h1, h2⟩ | ⟨xs, ds', rfl, h1, h2⟩
    · exact ⟨_, h1⟩
    · exact ⟨_, h1⟩
  | none => exact h.elim
  | bool b => exact h.elim
  | int i => exact h.elim
  | str s => exact h.elim
  | tuple t => exact h.elim
theorem RpA.length : ∀ {vs : List V} {ws : List W}, RpA K Ex O H vs ws → vs.length = ws.length
  | _, _, .nil => rfl
  | _, _, .cons _ b => by rw [List.length_cons, List.length_cons, b.length]
theorem RpA.get : ∀ {vs : List V} {ws : List W} {i : Nat} {w : W}, RpA K Ex O H vs ws → ws[i]? = some w → ∃ v, vs[i]? = some v ∧ Rp K Ex O H v w
  | _, _, _, _, .nil, e => by simp at e
  | _, _, 0, _, .cons a b, e => by simp at e; subst e; exact ⟨_, rfl, a⟩
  | _, _, i + 1, w, .cons a b, e => by
    obtain ⟨v, h1, h2⟩ := b.get (i := i) (w := w) (by simpa using e)
    exact ⟨v, by simpa using h1, h2⟩
theorem RpA.get' : ∀ {vs : List V} {ws : List W} {i : Nat} {v : V}, RpA K Ex O H vs ws → vs[i]? = some v → ∃ w, ws[i]? = some w ∧ Rp K Ex O H v w
  | _, _, _, _, .nil, e => by simp at e
  | _, _, 0, _, .cons a b, e => by simp at e; subst e; exact ⟨_, rfl, a⟩
  | _, _, i + 1, w, .cons a b, e => by
    obtain ⟨v, h1, h2⟩ := b.get' (i := i) (v := w) (by simpa using e)
    exact ⟨v, by simpa using h1, h2⟩
theorem RpA.append : ∀ {vs us : List V} {ws ts : List W}, RpA K Ex O H vs ws → RpA K Ex O H us ts → RpA K Ex O H (vs ++ us) (ws ++ ts)
  | _, _, _, _, .nil, s => s
  | _, _, _, _, .cons a b, s => .cons a (b.append s)
theorem RpA.take : ∀ {vs : List V} {ws : List W} (n : Nat), RpA K Ex O H vs ws → RpA K Ex O H (vs.take n) (ws.take n)
  | _, _, 0, _ => .nil
  | _, _, _ + 1, .nil => .nil
  | _, _, n + 1, .cons a b => .cons a (b.take n)
theorem RpA.drop : ∀ {vs : List V} {ws : List W} (n : Nat), RpA K Ex O H vs ws → RpA K Ex O H (vs.drop n) (ws.drop n)
  | _, _, 0, h => h
  | _, _, _ + 1, .nil => .nil
  | _, _, n + 1, .cons a b => b.drop n
theorem RpA.set {v : V} {w : W} (r : Rp K Ex O H v w) : ∀ {vs : List V} {ws : List W} (i : Nat), RpA K Ex O H vs ws → RpA K Ex O H (vs.set i v) (ws.set i w)
  | _, _, _, .nil => .nil
  | _, _, 0, .cons a b => .cons r b
  | _, _, i + 1, .cons a b => .cons a (RpA.set r i b)
theorem RpA.eraseIdx : ∀ {vs : List V} {ws : List W} (i : Nat), RpA K Ex O H vs ws → RpA K Ex O H (vs.eraseIdx i) (ws.eraseIdx i)
  | _, _, _, .nil => .nil
  | _, _, 0, .cons a b => b
  | _, _, i + 1, .cons a b => .cons a (b.eraseIdx i)
theorem RpA.reverse : ∀ {vs : List V} {ws : List W}, RpA K Ex O H vs ws → RpA K Ex O H vs.reverse ws.reverse
  | _, _, .nil => .nil
  | _, _, .cons a b => by rw [List.reverse_cons, List.reverse_cons]; exact b.reverse.append (.cons a .nil)
theorem RpA.dropLast : ∀ {vs : List V} {ws : List W}, RpA K Ex O H vs ws → RpA K Ex O H vs.dropLast ws.dropLast
  | _, _, h => by
    rw [List.dropLast_eq_take, List.dropLast_eq_take, h.length]
    exact h.take _
theorem RpA.rep {vs : List V} {ws : List W} (h : RpA K Ex O H vs ws) : ∀ n : Nat, RpA K Ex O H (List.replicate n vs).flatten (List.replicate n ws).flatten
  | 0 => .nil
  | n + 1 => by
    rw [List.replicate_succ, List.replicate_succ, List.flatten_cons, List.flatten_cons]
    exact h.append (RpA.rep h n)
/-- lists of ints -/
theorem RpA.ints : ∀ {ns : List Int} {vs : List V}, RpA K Ex O H vs (ns.map PyData.int) → vs = ns.map V.int
  | [], _, h => by cases h; rfl
  | n :: ns, _, h => by
    cases h with
    | cons a b => cases a; rw [b.ints]; rfl
theorem RpA.of_ints : ∀ (ns : List Int), RpA K Ex O H (ns.map V.int) (ns.map PyData.int)
  | [] => .nil
  | n :: ns => .cons (.int n) (RpA.of_ints ns)
theorem RpA.bools : ∀ {ns : List Bool} {vs : List V}, RpA K Ex O H vs (ns.map PyData.bool) → vs = ns.map V.bl
  | [], _, h => by cases h; rfl
  | n :: ns, _, h => by
    cases h with
    | cons a b => cases a; rw [b.bools]; rfl
/-! data without dicts (and errors) -/
mutual
def noD : W → Bool
  | .list ds => noDs ds
  | .tuple ds => noDs ds
  | .dict _ => false
  | _ => true
def noDs : List W → Bool
  | [] => true
  | d :: r => noD d && noDs r
end
mutual
theorem Rp.dp : ∀ {v : V} {w : W}, Rp K Ex O H v w → noD w = true → Dp K H v w
  | _, _, .non, _ => .non
  | _, _, .bl b, _ => .bl b
  | _, _, .int i, _ => .int i
  | _, _, .str i, _ => .str i
  | _, _, .lst h r, n => .lst h.sq (RpA.dp r (by simpa [noD] using n))
  | _, _, .tup h r, n => .tup h.sq (RpA.dp r (by simpa [noD] using n))
  | _, _, .dK h r t, n => by simp [noD] at n
  | _, _, .dT h r t, n => by simp [noD] at n
  | _, _, .exc h, n => by simp [noD] at n
theorem RpA.dp : ∀ {v : List V} {w : List W}, RpA K Ex O H v w → noDs w = true → DpAll K H v w
  | _, _, .nil, _ => .nil
  | _, _, .cons a b, n => by
    simp only [noDs, Bool.and_eq_true] at n
    exact .cons (Rp.dp a n.1) (RpA.dp b n.2)
end
/-! without errors, whatever errors are caught -/
mutual
theorem Rp.anyEx (x : ∀ a, Ex a cN → Ex' a cN) : ∀ {v : V} {w : W}, Rp K Ex O H v w → noD w = true → Rp K Ex' O H v w
  | _, _, .non, _ => .non
  | _, _, .bl b, _ => .bl b
  | _, _, .int i, _ => .int i
  | _, _, .str i, _ => .str i
  | _, _, .lst h r, n => .lst h (RpA.anyEx x r (by simpa [noD] using n))
  | _, _, .tup h r, n => .tup (h.imp id fun z => ⟨x _ z.1, z.2⟩) (RpA.anyEx x r (by simpa [noD] using n))
  | _, _, .dK h r t, n => by simp [noD] at n
  | _, _, .dT h r t, n => by simp [noD] at n
  | _, _, .exc h, n => by simp [noD] at n
theorem RpA.anyEx (x : ∀ a, Ex a cN → Ex' a cN) : ∀ {v : List V} {w : List W}, RpA K Ex O H v w → noDs w = true → RpA K Ex' O H v w
  | _, _, .nil, _ => .nil
  | _, _, .cons a b, n => by
    simp only [noDs, Bool.and_eq_true] at n
    exact .cons (Rp.anyEx x a n.1) (RpA.anyEx x b n.2)
end
end
end Qd
end
section
set_option Elab.async false
set_option linter.all false
set_option maxRecDepth 100000
/-! The data of a def's names; what a step of the walk may change. -/
namespace Qd
open PySem PySem.Spec PyProof.Rows L2

/-- decided, in a way that the kernel does not reckon out -/
noncomputable def cdec (p : Prop) : Bool := @decide p (Classical.propDecidable p)
theorem cdec_iff {p : Prop} : cdec p = true ↔ p := @decide_eq_true_iff p (Classical.propDecidable p)
@[simp] theorem cdec_eq (p : Prop) [inst : Decidable p] : cdec p = decide p := by
  by_cases h : p
  · rw [cdec_iff.mpr h, decide_eq_true h]
  · rw [decide_eq_false h]
    cases e : cdec p with
    | false => rfl
    | true => exact absurd (cdec_iff.mp e) h
/-- what a name holds: a fixed value; an own object that may be written; such an object that the caller gave -/
inductive Slot where
  | val (w : W) | own (w : W) | par (w : W)
abbrev SD := List (Option Slot)
def Slot.mine? : Slot → Option W
  | .own w => some w
  | .par w => some w
  | .val _ => none
inductive Out (α : Type) where
  | ok (a : α) (d : SD) | exc (c : Nat) (d : SD) | bad
abbrev M (α : Type) := SD → Out α
def Out.bind {α β : Type} (o : Out α) (f : α → SD → Out β) : Out β := match o with
  | .ok a d => f a d
  | .exc c d => .exc c d
  | .bad => .bad
@[simp] theorem Out.bind_ok {α β : Type} (a : α) (d : SD) (f : α → SD → Out β) : (Out.ok a d).bind f = f a d := rfl
@[simp] theorem Out.bind_exc {α β : Type} (c : Nat) (d : SD) (f : α → SD → Out β) : (Out.exc c d : Out α).bind f = .exc c d := rfl
@[simp] theorem Out.bind_bad {α β : Type} (f : α → SD → Out β) : (Out.bad : Out α).bind f = .bad := rfl
def ofOpt {α : Type} (o : Option α) (d : SD) : Out α := match o with
  | some a => .ok a d
  | none => .bad
@[simp] theorem ofOpt_some {α : Type} (a : α) (d : SD) : ofOpt (some a) d = .ok a d := rfl
@[simp] theorem ofOpt_none {α : Type} (d : SD) : (ofOpt none d : Out α) = .bad := rfl

def Mine (d : SD) (σ : St) (a : Addr) : Prop := ∃ (i : Nat) (s : Slot) (w : W), d[i]? = some (some s) ∧ Slot.mine? s = some w ∧ σ[i]? = some (some (.ref a))
def Ow (Oc : Addr → Prop) (d : SD) (σ : St) (a : Addr) : Prop := Oc a ∨ Mine d σ a
/-- others' objects lie in the heap; the tables are there, nobody's -/
structure Thr (Ex : Addr → Nat → Prop) (Oc : Addr → Prop) (H : Hp) : Prop where
  at_ : ∀ a, Oc a → ∃ o, H a = some o
  tb : ∀ a, Ex a tN → H a = some (tabO a) ∧ ¬ Oc a
theorem Thr.same {Ex : Addr → Nat → Prop} {Oc : Addr → Prop} {H H' : Hp} (t : Thr Ex Oc H) (s : Same H H') : Thr Ex Oc H' := ⟨fun a h => let ⟨o, e⟩ := t.at_ a h; ⟨o, s a o e⟩, fun a h => ⟨s _ _ (t.tb a h).1, (t.tb a h).2⟩⟩
theorem Thr.sub {Ex : Addr → Nat → Prop} {Oc Oc' : Addr → Prop} {H : Hp} (t : Thr Ex Oc H) (s : ∀ a, Oc' a → Oc a) : Thr Ex Oc' H := ⟨fun a h => t.at_ a (s a h), fun a h => ⟨(t.tb a h).1, fun z => (t.tb a h).2 (s a z)⟩⟩
section
variable (K : PySem.W.Frag) (Ex : Addr → Nat → Prop) (Oc : Addr → Prop)
structure RS (H : Hp) (d : SD) (σ : St) : Prop where
  len : d.length = σ.length
  val : ∀ (i : Nat) (w : W), d[i]? = some (some (.val w)) → ∃ v, σ[i]? = some (some v) ∧ Rp K Ex (Ow Oc d σ) H v w
  own : ∀ (i : Nat) (s : Slot) (w : W), d[i]? = some (some s) → Slot.mine? s = some w → ∃ p, σ[i]? = some (some (.ref p)) ∧ ¬ Oc p ∧ Ob K Ex (Ow Oc d σ) H p w
  sep : ∀ (i j : Nat) (s t : Slot) (w u : W) (p : Addr), i ≠ j → d[i]? = some (some s) → Slot.mine? s = some w → d[j]? = some (some t) → Slot.mine? t = some u → σ[i]? = some (some (.ref p)) → σ[j]? ≠ some (some (.ref p))
  oc : Thr Ex Oc H
/-- the same names hold own objects, the others hold what they held -/
def SlotLike : Option (Option Slot) → Option (Option Slot) → Prop
  | some (some (.own _)), some (some (.own _)) => True
  | some (some (.par _)), some (some (.par _)) => True
  | a, b => a = b
def Sim (d d' : SD) : Prop := d.length = d'.length ∧ ∀ i : Nat, SlotLike d[i]? d'[i]?
/-- a step within an expression -/
structure Go (pu : Bool) (σ : St) (d : SD) (H : Hp) (d' : SD) (H' : Hp) : Prop where
  rs : RS K Ex Oc H' d' σ
  fr : ∀ a o, H a = some o → ¬ Mine d σ a → H' a = some o
  sim : Sim d d'
  pur : pu = true → Same H H' ∧ d' = d
/-- a step of statements -/
structure GoS (d : SD) (σ : St) (H : Hp) (d' : SD) (σ' : St) (H' : Hp) : Prop where
  rs : RS K Ex Oc H' d' σ'
  fr : ∀ a o, H a = some o → ¬ Mine d σ a → H' a = some o
  mine : ∀ a, Mine d' σ' a → Mine d σ a ∨ H a = none
  par : ∀ (i : Nat) (w : W), d[i]? = some (some (.par w)) → (∃ w', d'[i]? = some (some (.par w'))) ∧ σ'[i]? = σ[i]?
end
theorem SlotLike.refl (a : Option (Option Slot)) : SlotLike a a := by
  rcases a with _ | _ | (w | w | w) <;> first | rfl | trivial
theorem SlotLike.trans {a b c : Option (Option Slot)} (h : SlotLike a b) (g : SlotLike b c) : SlotLike a c := by
  rcases a with _ | _ | (w | w | w) <;> rcases b with _ | _ | (w | w | w) <;> rcases c with _ | _ | (w | w | w) <;>
    simp_all [SlotLike]
theorem SlotLike.mine {a b : Option (Option Slot)} (h : SlotLike a b) : (∃ s w, a = some (some s) ∧ Slot.mine? s = some w) ↔ ∃ s w, b = some (some s) ∧ Slot.mine? s = some w := by
  rcases a with _ | _ | (w | w | w) <;> rcases b with _ | _ | (w' | w' | w') <;> simp_all [SlotLike, Slot.mine?]
theorem Sim.refl (d : SD) : Sim d d := ⟨rfl, fun _ => .refl _⟩
theorem Sim.trans {a b c : SD} (h : Sim a b) (g : Sim b c) : Sim a c := ⟨h.1.trans g.1, fun i => (h.2 i).trans (g.2 i)⟩
theorem Sim.mine {d d' : SD} {σ : St} {a : Addr} (h : Sim d d') : Mine d' σ a ↔ Mine d σ a := by
  constructor
  · rintro ⟨i, s, w, h1, h2, h3⟩
    obtain ⟨s', w', e1, e2⟩ := (h.2 i).mine.mpr ⟨s, w, h1, h2⟩
    exact ⟨i, s', w', e1, e2, h3⟩
  · rintro ⟨i, s, w, h1, h2, h3⟩
    obtain ⟨s', w', e1, e2⟩ := (h.2 i).mine.mp ⟨s, w, h1, h2⟩
    exact ⟨i, s', w', e1, e2, h3⟩
section
variable {K : PySem.W.Frag} {Ex : Addr → Nat → Prop} {Oc : Addr → Prop} {σ σ' σ2 : St} {d d' d2 : SD} {H H' H2 : Hp}
theorem Go.ke {pu : Bool} (g : Go K Ex Oc pu σ d H d' H') : Ke (Ow Oc d σ) H (Ow Oc d' σ) H' := fun a u n e => by
  refine ⟨fun z => ?_, g.fr a u e fun z => n (.inr z)⟩
  rcases z with z | z
  · exact n (.inl z)
  · exact n (.inr (g.sim.mine.mp z))
theorem Go.rp {pu : Bool} {v : V} {w : W} (g : Go K Ex Oc pu σ d H d' H') (h : Rp K Ex (Ow Oc d σ) H v w) : Rp K Ex (Ow Oc d' σ) H' v w := h.mono g.ke fun _ _ z => z
theorem Go.rpA {pu : Bool} {v : List V} {w : List W} (g : Go K Ex Oc pu σ d H d' H') (h : RpA K Ex (Ow Oc d σ) H v w) : RpA K Ex (Ow Oc d' σ) H' v w := h.mono g.ke fun _ _ z => z
theorem Go.refl {pu : Bool} (rs : RS K Ex Oc H d σ) : Go K Ex Oc pu σ d H d H := ⟨rs, fun _ _ e _ => e, .refl _, fun _ => ⟨fun _ _ e => e, rfl⟩⟩
theorem Go.trans {p q : Bool} (a : Go K Ex Oc p σ d H d' H') (b : Go K Ex Oc q σ d' H' d2 H2) : Go K Ex Oc (p && q) σ d H d2 H2 :=
  ⟨b.rs, fun x o e n => b.fr x o (a.fr x o e n) fun z => n (a.sim.mine.mp z), a.sim.trans b.sim, fun z => by
    rw [Bool.and_eq_true] at z
    obtain ⟨s1, e1⟩ := a.pur z.1
    obtain ⟨s2, e2⟩ := b.pur z.2
    exact ⟨fun x o e => s2 x o (s1 x o e), e2.trans e1⟩⟩
theorem Go.weak {p q : Bool} (a : Go K Ex Oc p σ d H d' H') (h : q = true → p = true := by intro z; first | exact z | (cases z)) : Go K Ex Oc q σ d H d' H' := ⟨a.rs, a.fr, a.sim, fun z => a.pur (h z)⟩
/-- all owned addresses are there -/
theorem RS.there (rs : RS K Ex Oc H d σ) {a : Addr} (h : Ow Oc d σ a) : ∃ o, H a = some o := by
  rcases h with h | ⟨i, s, w, h1, h2, h3⟩
  · exact rs.oc.at_ a h
  · obtain ⟨p, e, _, ob⟩ := rs.own i s w h1 h2
    rw [h3] at e; cases e
    exact ob.at
/-- an object that may be written is no table -/
theorem Ob.noTab {K : PySem.W.Frag} {Ex : Addr → Nat → Prop} {O : Addr → Prop} {H : Hp} {p : Addr} {w : W} (h : Ob K Ex O H p w) : H p ≠ some (tabO p) := fun e => by
  cases w with
  | list ds => obtain ⟨xs, e', _⟩ := h; rw [e] at e'; cases e'
  | dict ds => rcases h with ⟨k, e', _⟩ | ⟨k, d, _, e', _⟩ <;> (rw [e] at e'; cases e')
  | _ => exact h
theorem RS.noTab (rs : RS K Ex Oc H d σ) {a : Addr} (h : Ex a tN) : ¬ Ow Oc d σ a := fun z => by
  rcases z with z | ⟨i, s, w, h1, h2, h3⟩
  · exact (rs.oc.tb a h).2 z
  · obtain ⟨p, e, _, ob⟩ := rs.own i s w h1 h2
    rw [h3] at e; cases e
    exact ob.noTab (rs.oc.tb _ h).1
/-- what a callee may know -/
theorem RS.thr (rs : RS K Ex Oc H d σ) : Thr Ex (Ow Oc d σ) H := ⟨fun _ h => rs.there h, fun a h => ⟨(rs.oc.tb a h).1, rs.noTab h⟩⟩
theorem RS.same (rs : RS K Ex Oc H d σ) (s : Same H H') : RS K Ex Oc H' d σ := by
  have ke : Ke (Ow Oc d σ) H (Ow Oc d σ) H' := fun a u n e => ⟨n, s a u e⟩
  refine ⟨rs.len, fun i w h => ?_, fun i t w h1 h2 => ?_, rs.sep, rs.oc.same s⟩
  · obtain ⟨v, e, r⟩ := rs.val i w h
    exact ⟨v, e, r.mono ke fun _ _ z => z⟩
  · obtain ⟨p, e, n, ob⟩ := rs.own i t w h1 h2
    obtain ⟨u, hu⟩ := ob.at
    exact ⟨p, e, n, ob.mono ke (fun _ _ z => z) ((s _ _ hu).trans hu.symm)⟩
/-- new objects alone -/
theorem Go.same {pu : Bool} (rs : RS K Ex Oc H d σ) (s : Same H H') : Go K Ex Oc pu σ d H d H' := ⟨rs.same s, fun a o e _ => s a o e, .refl _, fun _ => ⟨s, rfl⟩⟩
theorem GoS.ke (g : GoS K Ex Oc d σ H d' σ' H') : Ke (Ow Oc d σ) H (Ow Oc d' σ') H' := fun a u n e => by
  refine ⟨fun z => ?_, g.fr a u e fun z => n (.inr z)⟩
  rcases z with z | z
  · exact n (.inl z)
  · rcases g.mine a z with z | z
    · exact n (.inr z)
    · rw [e] at z; cases z
theorem GoS.refl (rs : RS K Ex Oc H d σ) : GoS K Ex Oc d σ H d σ H := ⟨rs, fun _ _ e _ => e, fun _ z => .inl z, fun i w e => ⟨⟨w, e⟩, rfl⟩⟩
theorem GoS.trans (a : GoS K Ex Oc d σ H d' σ' H') (b : GoS K Ex Oc d' σ' H' d2 σ2 H2) : GoS K Ex Oc d σ H d2 σ2 H2 where
  rs := b.rs
  fr := fun x o e n => b.fr x o (a.fr x o e n) fun z => by
    rcases a.mine x z with z | z
    · exact n z
    · rw [e] at z; cases z
  mine := fun x z => by
    rcases b.mine x z with z | z
    · exact a.mine x z
    · by_cases m : Mine d σ x
      · exact .inl m
      · refine .inr ?_
        cases q : H x with
        | none => rfl
        | some o => rw [a.fr x o q m] at z; cases z
  par := fun i w e => by
    obtain ⟨⟨w', e'⟩, s⟩ := a.par i w e
    obtain ⟨⟨w2, e2⟩, s2⟩ := b.par i w' e'
    exact ⟨⟨w2, e2⟩, s2.trans s⟩
theorem Go.toS {pu : Bool} (g : Go K Ex Oc pu σ d H d' H') : GoS K Ex Oc d σ H d' σ H' where
  rs := g.rs
  fr := g.fr
  mine := fun a z => .inl (g.sim.mine.mp z)
  par := fun i w e => by
    have h := g.sim.2 i
    rw [e] at h
    refine ⟨?_, rfl⟩
    generalize d'[i]? = x at h
    rcases x with _ | _ | (w' | w' | w') <;> simp_all [SlotLike]
end

/-! ### the readings -/
/-- what goes with a context: the caught errors that are at hand, the classes by number, what is wished of an error -/
structure Yx where
  Ex : Addr → Nat → Prop
  T : Nat → Value
  W : WX
def Po {α : Type} (X : Cx) (Y : Yx) (pu : Bool) (Oc : Addr → Prop) (σ : St) (d : SD) (H : Hp) (o : Out α) (k : α → SD → Hp → Prop) : Prop := match o with
  | .ok a d' => ∀ H', Go X.K Y.Ex Oc pu σ d H d' H' → k a d' H'
  | .exc c d' => ∀ H', Go X.K Y.Ex Oc false σ d H d' H' → Y.W (Y.T c) none σ H'
  | .bad => False
section
variable {X : Cx} {Y : Yx} {Oc : Addr → Prop} {σ : St} {d : SD} {H : Hp} {p q : Bool}
theorem Po.bind {α β : Type} {o : Out α} {f : α → SD → Out β} {k : β → SD → Hp → Prop} (h : Po X Y (p && q) Oc σ d H (o.bind f) k) : Po X Y p Oc σ d H o (fun a d1 H1 => Po X Y q Oc σ d1 H1 (f a d1) k) := by
  cases o with
  | ok a d1 =>
    intro H1 g1
    show Po X Y q Oc σ d1 H1 (f a d1) k
    have h : Po X Y (p && q) Oc σ d H (f a d1) k := h
    cases e : f a d1 with
    | ok b d2 => rw [e] at h; exact fun H2 g2 => h H2 (g1.trans g2)
    | exc c d2 => rw [e] at h; exact fun H2 g2 => h H2 (g1.trans g2).weak
    | bad => rw [e] at h; exact h
  | exc c d1 => exact h
  | bad => exact h
theorem Po.imp {α : Type} {o : Out α} {k k' : α → SD → Hp → Prop} (h : Po X Y p Oc σ d H o k) (f : ∀ a d' H', Go X.K Y.Ex Oc p σ d H d' H' → k a d' H' → k' a d' H') : Po X Y p Oc σ d H o k' := by
  cases o with
  | ok a d1 => exact fun H1 g1 => f _ _ _ g1 (h H1 g1)
  | exc c d1 => exact h
  | bad => exact h
theorem Po.opt {α : Type} {o : Option α} {k : α → SD → Hp → Prop} (h : Po X Y p Oc σ d H (ofOpt o d) k) : ∃ a, o = some a ∧ ∀ H', Go X.K Y.Ex Oc p σ d H d H' → k a d H' := by
  cases o with
  | none => exact h.elim
  | some a => exact ⟨a, rfl, h⟩
theorem Po.weak {α : Type} {o : Out α} {k : α → SD → Hp → Prop} (h : Po X Y q Oc σ d H o k) (w : q = true → p = true) : Po X Y p Oc σ d H o k := by
  cases o with
  | ok a d1 => exact fun H1 g1 => h H1 (g1.weak w)
  | exc c d1 => exact h
  | bad => exact h
/-- one step alone, that makes new objects at most -/
theorem Po.bind1 {α β : Type} {o : Out α} {f : α → SD → Out β} {k : β → SD → Hp → Prop} (h : Po X Y p Oc σ d H (o.bind f) k) : Po X Y p Oc σ d H o (fun a d1 H1 => Po X Y true Oc σ d1 H1 (f a d1) k) := by
  have h : Po X Y (p && true) Oc σ d H (o.bind f) k := by rw [Bool.and_true]; exact h
  exact Po.bind h
theorem Po.bindF {α β : Type} {o : Out α} {f : α → SD → Out β} {k : β → SD → Hp → Prop} (h : Po X Y false Oc σ d H (o.bind f) k) : Po X Y p Oc σ d H o (fun a d1 H1 => Po X Y false Oc σ d1 H1 (f a d1) k) := by
  have h : Po X Y (p && false) Oc σ d H (o.bind f) k := by rw [Bool.and_false]; exact h
  exact Po.bind h
/-- a first step that makes new objects at most -/
theorem Po.bind0 {α β : Type} {o : Out α} {f : α → SD → Out β} {k : β → SD → Hp → Prop} (h : Po X Y q Oc σ d H (o.bind f) k) : Po X Y true Oc σ d H o (fun a d1 H1 => Po X Y q Oc σ d1 H1 (f a d1) k) := by
  have h : Po X Y (true && q) Oc σ d H (o.bind f) k := by rw [Bool.true_and]; exact h
  exact Po.bind h
end
def tE (X : Cx) (Y : Yx) (pu : Bool) (m : M W) : TE := fun σ H Q => ∃ Oc d, RS X.K Y.Ex Oc H d σ ∧ Po X Y pu Oc σ d H (m d) fun w d' H' => ∀ v, Rp X.K Y.Ex (Ow Oc d' σ) H' v w → Q v H'
def tT (X : Cx) (Y : Yx) (pu : Bool) (m : M Bool) : TT := fun σ H Q => ∃ Oc d, RS X.K Y.Ex Oc H d σ ∧ Po X Y pu Oc σ d H (m d) fun b d' H' => RS X.K Y.Ex Oc H' d' σ → Q b H'
def tL (X : Cx) (Y : Yx) (pu : Bool) (m : M (List W)) : TA := fun σ H Q => ∃ Oc d, RS X.K Y.Ex Oc H d σ ∧ Po X Y pu Oc σ d H (m d) fun w d' H' => ∀ v, RpA X.K Y.Ex (Ow Oc d' σ) H' v w → Q v H'
structure DE (X : Cx) (Y : Yx) (pu : Bool) (e : Expr) (m : M W) : Prop where
  pe : PE X e (tE X Y pu m)
structure DT (X : Cx) (Y : Yx) (pu : Bool) (e : Expr) (m : M Bool) : Prop where
  pt : PT X e (tT X Y pu m)
structure DL (X : Cx) (Y : Yx) (pu : Bool) (es : List Expr) (m : M (List W)) : Prop where
  pa : PA X es (tL X Y pu m)
theorem pe_weak {X : Cx} {e : Expr} {t t' : TE} (h : PE X e t) (w : ∀ σ H Q, t' σ H Q → t σ H Q) : PE X e t' := ⟨fun pins s σ H Q I q => h.run pins s σ H Q I (w σ H Q q)⟩
theorem pt_weak {X : Cx} {e : Expr} {t t' : TT} (h : PT X e t) (w : ∀ σ H Q, t' σ H Q → t σ H Q) : PT X e t' := ⟨fun pins s σ H Q I q => h.run pins s σ H Q I (w σ H Q q)⟩
theorem pw_weak {X : Cx} {e : Expr} {t t' : TT} (h : PW X e t) (w : ∀ σ H Q, t' σ H Q → t σ H Q) : PW X e t' := ⟨fun wh pins s σ H Q I q => h.run wh pins s σ H Q I (w σ H Q q)⟩
theorem pa_weak {X : Cx} {e : List Expr} {t t' : TA} (h : PA X e t) (w : ∀ σ H Q, t' σ H Q → t σ H Q) : PA X e t' := ⟨fun pos pins s σ H Q I q => h.run pos pins s σ H Q I (w σ H Q q)⟩

/-! ### names and constants -/
section
variable {X : Cx} {Y : Yx}
def mVar (i : Nat) : M W := fun d => match d[i]? with
  | some (some (.val w)) => .ok w d
  | _ => .bad
def mC (w : W) : M W := fun d => .ok w d
theorem d_var (i : Nat) {x : Str} {pos : Pos} (hN : X.N[i]? = some x := by rfl) (hv : Vis X.env.scope x := by first | exact Or.inl rfl | exact Or.inr (Or.inl rfl) | exact Or.inr (Or.inr rfl)) (hd : (x == ("__debug__" : Str)) = false := by decide)
    (hcd : (x == ("__classdict__" : Str)) = false := by decide) : DE X Y true (.Name x pos) (mVar i) := ⟨by
  refine pe_weak (pe_var hN hv hd hcd) fun σ H Q h => ?_
  obtain ⟨Oc, d, rs, h⟩ := h
  unfold mVar at h
  split at h
  · rename_i w e
    obtain ⟨v, ev, r⟩ := rs.val i w e
    exact ⟨v, ev, h H (.refl rs) v r⟩
  · exact h.elim⟩
/-- a constant value -/
def atom : W → V → Prop
  | .none, v => v = .non
  | .bool b, v => v = .bl b
  | .int i, v => v = .int i
  | .str x, v => v = .str x
  | _, _ => False
theorem rp_atom {K : PySem.W.Frag} {Ex : Addr → Nat → Prop} {O : Addr → Prop} {H : Hp} {w : W} {v : V} (h : atom w v) : Rp K Ex O H v w := by
  cases w with
  | none => cases h; exact .non
  | bool b => cases h; exact .bl b
  | int i => cases h; exact .int i
  | str s => cases h; exact .str s
  | list _ => exact h.elim
  | tuple _ => exact h.elim
  | dict _ => exact h.elim
theorem d_const {e : Expr} {v : V} {w : W} (h : PE X e (tC v)) (a : atom w v) : DE X Y true e (mC w) := ⟨by
  refine pe_weak h fun σ H Q h => ?_
  obtain ⟨Oc, d, rs, h⟩ := h
  exact h H (.refl rs) v (rp_atom a)⟩
theorem d_int {i : Int} {j : Nat} {pos : Pos} : DE X Y true (.Constant (.int i) j pos) (mC (.int i)) := d_const pe_int rfl
theorem d_bl {i : Bool} {j : Nat} {pos : Pos} : DE X Y true (.Constant (.bool i) j pos) (mC (.bool i)) := d_const pe_bl rfl
theorem d_non {j : Nat} {pos : Pos} : DE X Y true (.Constant .none j pos) (mC .none) := d_const pe_non rfl
theorem d_str {i : Str} {j : Nat} {pos : Pos} : DE X Y true (.Constant (.str i) j pos) (mC (.str i)) := d_const pe_str rfl
/-- a module's constant -/
theorem d_glob {x : Str} {v : V} {w : W} {u : Value} {pos : Pos} (hm : X.mg x = some u) (r : RelV v u) (a : atom w v) (hg : Gl X x := by rfl) (hd : (x == ("__debug__" : Str)) = false := by decide) : DE X Y true (.Name x pos) (mC w) := d_const (pe_glob hg hm r hd) a
end

/-! ### operators on values -/
section
variable {X : Cx} {Y : Yx}
/-- a rule on two values by their data -/
def OpD (X : Cx) (f : Value → Value → Sem Value) (g : W → W → Option W) : Prop :=
  ∃ r, OpR X f r ∧ ∀ (Ex : Addr → Nat → Prop) (O : Addr → Prop) (H : Hp) (x y : V) (a b c : W) (Q : VK), (∀ p, O p → ∃ o, H p = some o) → g a b = some c → Rp X.K Ex O H x a → Rp X.K Ex O H y b →
    (∀ H' v, Same H H' → Rp X.K Ex O H' v c → Q v H') → r x y H Q
def UnD (X : Cx) (f : Value → Sem Value) (g : W → Option W) : Prop :=
  ∃ r, UnR X f r ∧ ∀ (Ex : Addr → Nat → Prop) (O : Addr → Prop) (H : Hp) (x : V) (a c : W) (Q : VK), (∀ p, O p → ∃ o, H p = some o) → g a = some c → Rp X.K Ex O H x a →
    (∀ H' v, Same H H' → Rp X.K Ex O H' v c → Q v H') → r x H Q
def CallD (X : Cx) (f : Value) (g : List W → Option W) : Prop :=
  ∃ r, CallR X f r ∧ ∀ (Ex : Addr → Nat → Prop) (O : Addr → Prop) (H : Hp) (xs : List V) (as : List W) (c : W) (Q : VK), (∀ p, O p → ∃ o, H p = some o) → g as = some c → RpA X.K Ex O H xs as →
    (∀ H' v, Same H H' → Rp X.K Ex O H' v c → Q v H') → r xs H Q
def mBin (g : W → W → Option W) (a b : M W) : M W := fun d => (a d).bind fun x d1 => (b d1).bind fun y d2 => ofOpt (g x y) d2
def mUn (g : W → Option W) (a : M W) : M W := fun d => (a d).bind fun x d1 => ofOpt (g x) d1
def mNil : M (List W) := fun d => .ok [] d
def mCons (a : M W) (r : M (List W)) : M (List W) := fun d => (a d).bind fun x d1 => (r d1).bind fun xs d2 => .ok (x :: xs) d2
def mCallB (g : List W → Option W) (as : M (List W)) : M W := fun d => (as d).bind fun xs d1 => ofOpt (g xs) d1
theorem t_bin {pa pb : Bool} {f : Value → Value → Sem Value} {r : R2} {g : W → W → Option W} {ma mb : M W} (ho : ∀ (Ex : Addr → Nat → Prop) (O : Addr → Prop) (H : Hp) (x y : V) (a b c : W) (Q : VK), (∀ p, O p → ∃ o, H p = some o) → g a b = some c → Rp X.K Ex O H x a → Rp X.K Ex O H y b →
    (∀ H' v, Same H H' → Rp X.K Ex O H' v c → Q v H') → r x y H Q) (σ : St) (H : Hp) (Q : VK) (h : tE X Y (pa && pb) (mBin g ma mb) σ H Q) : tOp r (tE X Y pa ma) (tE X Y pb mb) σ H Q := by
  obtain ⟨Oc, d, rs, h⟩ := h
  refine ⟨Oc, d, rs, (Po.bind h).imp fun w d1 H1 g1 h1 v r1 => ⟨Oc, d1, g1.rs, (Po.bind1 h1).imp fun w2 d2 H2 g2 h2 v2 r2 => ?_⟩⟩
  obtain ⟨c, ec, k⟩ := Po.opt h2
  exact ho Y.Ex (Ow Oc d2 σ) H2 v v2 w w2 c Q (fun p hp => g2.rs.there hp) ec (g2.rp r1) r2 fun H' v' s r' => k H' (.same g2.rs s) v' r'
theorem d_op {pa pb : Bool} {op : Operator} {g : W → W → Option W} {a b : Expr} {pos : Pos} {ma mb : M W} (ho : OpD X (binaryOp op) g) (ha : DE X Y pa a ma) (hb : DE X Y pb b mb) : DE X Y (pa && pb) (.BinOp a op b pos) (mBin g ma mb) :=
  let ⟨_, hr, hd⟩ := ho
  ⟨pe_weak (pe_op hr ha.pe hb.pe) (t_bin (f := binaryOp op) hd)⟩
theorem d_cmp {pa pb : Bool} {op : CmpOp} {g : W → W → Option W} {a b : Expr} {pos : Pos} {ma mb : M W} (ho : OpD X (compareOp op) g) (ha : DE X Y pa a ma) (hb : DE X Y pb b mb) (hm : behindInMarks op b = false := by first | exact nomark _ | rfl) : DE X Y (pa && pb) (.Compare a [op] [b] pos) (mBin g ma mb) :=
  let ⟨_, hr, hd⟩ := ho
  ⟨pe_weak (pe_cmpR hr ha.pe hb.pe hm) (t_bin (f := compareOp op) hd)⟩
theorem d_un {pa : Bool} {op : UnaryOp} {g : W → Option W} {a : Expr} {pos : Pos} {ma : M W} (ho : UnD X (unaryOp op) g) (ha : DE X Y pa a ma) : DE X Y pa (.UnaryOp op a pos) (mUn g ma) := by
  obtain ⟨r, hr, hd⟩ := ho
  refine ⟨pe_weak (pe_un hr ha.pe) fun σ H Q h => ?_⟩
  obtain ⟨Oc, d, rs, h⟩ := h
  refine ⟨Oc, d, rs, (Po.bind1 h).imp fun w d1 H1 g1 h1 v r1 => ?_⟩
  obtain ⟨c, ec, k⟩ := Po.opt h1
  exact hd Y.Ex (Ow Oc d1 σ) H1 v w c Q (fun p hp => g1.rs.there hp) ec r1 fun H' v' s r' => k H' (.same g1.rs s) v' r'
theorem d_nil : DL X Y true [] mNil := ⟨by
  refine pa_weak pa_nil fun σ H Q h => ?_
  obtain ⟨Oc, d, rs, h⟩ := h
  exact h H (.refl rs) [] .nil⟩
theorem d_cons {pa pb : Bool} {e : Expr} {es : List Expr} {a : M W} {r : M (List W)} (ha : DE X Y pa e a) (hr : DL X Y pb es r) (hs : starEach (e :: es) X.env = (false, eval e X.env) :: starEach es X.env := by rfl) : DL X Y (pa && pb) (e :: es) (mCons a r) := ⟨by
  refine pa_weak (pa_cons ha.pe hr.pa hs) fun σ H Q h => ?_
  obtain ⟨Oc, d, rs, h⟩ := h
  refine ⟨Oc, d, rs, (Po.bind h).imp fun w d1 H1 g1 h1 v r1 => ⟨Oc, d1, g1.rs, (Po.bind1 h1).imp fun w2 d2 H2 g2 h2 v2 r2 => ?_⟩⟩
  exact h2 H2 (.refl g2.rs) (v :: v2) (.cons (g2.rp r1) r2)⟩
theorem t_callB {pu : Bool} {f : Value} {r : List V → Hp → VK → Prop} {g : List W → Option W} {as : M (List W)} (hd : ∀ (Ex : Addr → Nat → Prop) (O : Addr → Prop) (H : Hp) (xs : List V) (as : List W) (c : W) (Q : VK), (∀ p, O p → ∃ o, H p = some o) → g as = some c → RpA X.K Ex O H xs as →
    (∀ H' v, Same H H' → Rp X.K Ex O H' v c → Q v H') → r xs H Q) (σ : St) (H : Hp) (Q : VK) (h : tE X Y pu (mCallB g as) σ H Q) : tCB r (tL X Y pu as) σ H Q := by
  obtain ⟨Oc, d, rs, h⟩ := h
  refine ⟨Oc, d, rs, (Po.bind1 h).imp fun w d1 H1 g1 h1 v r1 => ?_⟩
  obtain ⟨c, ec, k⟩ := Po.opt h1
  exact hd Y.Ex (Ow Oc d1 σ) H1 v w c Q (fun p hp => g1.rs.there hp) ec r1 fun H' v' s r' => k H' (.same g1.rs s) v' r'
theorem d_callB {pu : Bool} {x : Str} {p pos : Pos} {e : Expr} {es : List Expr} {id : String} {g : List W → Option W} {as : M (List W)} (hc : CallD X (.builtin id) g) (hm : X.mg x = none) (hv : bootBuiltins x = some (.builtin id)) (ha : DL X Y pu (e :: es) as) (hg : Gl X x := by rfl) (hn : x ≠ "__name__" := by decide) (hdb : (x == ("__debug__" : Str)) = false := by decide)
    (he : starEach (e :: es) X.env = (false, eval e X.env) :: starEach es X.env := by rfl) (hpl : (backTo pos (starEach es X.env)).any (·.1) = false := by rfl) : DE X Y pu (.Call (.Name x p) (e :: es) [] pos) (mCallB g as) :=
  let ⟨_, hr, hd⟩ := hc
  ⟨pe_weak (pe_callB hr hg hm hv ha.pa hn hdb he hpl) (t_callB (f := .builtin id) hd)⟩
theorem d_callTy {pu : Bool} {x : Str} {p pos : Pos} {e : Expr} {es : List Expr} {id : String} {g : List W → Option W} {as : M (List W)} (hc : CallD X (.type id) g) (hm : X.mg x = none) (hv : bootBuiltins x = some (.type id)) (ha : DL X Y pu (e :: es) as) (hg : Gl X x := by rfl) (hn : x ≠ "__name__" := by decide) (hdb : (x == ("__debug__" : Str)) = false := by decide)
    (he : starEach (e :: es) X.env = (false, eval e X.env) :: starEach es X.env := by rfl) (hpl : (backTo pos (starEach es X.env)).any (·.1) = false := by rfl) : DE X Y pu (.Call (.Name x p) (e :: es) [] pos) (mCallB g as) :=
  let ⟨_, hr, hd⟩ := hc
  ⟨pe_weak (pe_callTy hr hg hm hv ha.pa hn hdb he hpl) (t_callB (f := .type id) hd)⟩
end
end Qd
end
section
set_option Elab.async false
set_option linter.all false
set_option maxRecDepth 100000
/-! Tests, statements, loops by their data. -/
namespace Qd
open PySem PySem.Spec PyProof.Rows L2

/-! ### tests -/
section
variable {X : Cx} {Y : Yx}
structure DW (X : Cx) (Y : Yx) (pu : Bool) (e : Expr) (m : M Bool) : Prop where
  pw : PW X e (tT X Y pu m)
theorem DW.dt {pu : Bool} {e : Expr} {m : M Bool} (h : DW X Y pu e m) : DT X Y pu e m := ⟨h.pw.pt⟩
def mAndT (a b : M Bool) : M Bool := fun d => (a d).bind fun x d1 => if x = true then b d1 else .ok false d1
def mOrT (a b : M Bool) : M Bool := fun d => (a d).bind fun x d1 => if x = true then .ok true d1 else b d1
def mNotT (a : M Bool) : M Bool := fun d => (a d).bind fun x d1 => .ok (!x) d1
theorem dw_and1 {pa : Bool} {a : Expr} {pos : Pos} {t : M Bool} (ha : DT X Y pa a t) : DW X Y pa (.BoolOp .And [a] pos) t := ⟨pw_and1 ha.pt⟩
theorem dw_or1 {pa : Bool} {a : Expr} {pos : Pos} {t : M Bool} (ha : DT X Y pa a t) : DW X Y pa (.BoolOp .Or [a] pos) t := ⟨pw_or1 ha.pt⟩
theorem dw_and {pa pb : Bool} {a b : Expr} {rest : List Expr} {pos : Pos} {t u : M Bool} (ha : DT X Y pa a t) (hb : DW X Y pb (.BoolOp .And (b :: rest) pos) u) : DW X Y (pa && pb) (.BoolOp .And (a :: b :: rest) pos) (mAndT t u) := ⟨by
  refine pw_weak (pw_and ha.pt hb.pw) fun σ H Q h => ?_
  obtain ⟨Oc, d, rs, h⟩ := h
  refine ⟨Oc, d, rs, (Po.bind h).imp fun c d1 H1 g1 h1 rs1 => ?_⟩
  cases c with
  | true => exact iteT ⟨Oc, d1, rs1, h1⟩
  | false => exact iteF (h1 H1 (.refl rs1) rs1)⟩
theorem dw_or {pa pb : Bool} {a b : Expr} {rest : List Expr} {pos : Pos} {t u : M Bool} (ha : DT X Y pa a t) (hb : DW X Y pb (.BoolOp .Or (b :: rest) pos) u) : DW X Y (pa && pb) (.BoolOp .Or (a :: b :: rest) pos) (mOrT t u) := ⟨by
  refine pw_weak (pw_or ha.pt hb.pw) fun σ H Q h => ?_
  obtain ⟨Oc, d, rs, h⟩ := h
  refine ⟨Oc, d, rs, (Po.bind h).imp fun c d1 H1 g1 h1 rs1 => ?_⟩
  cases c with
  | true => exact iteT (h1 H1 (.refl rs1) rs1)
  | false => exact iteF ⟨Oc, d1, rs1, h1⟩⟩
theorem dt_not {pa : Bool} {a : Expr} {pos : Pos} {t : M Bool} (ha : DT X Y pa a t) : DT X Y pa (.UnaryOp .Not a pos) (mNotT t) := ⟨by
  refine pt_weak (pt_not ha.pt) fun σ H Q h => ?_
  obtain ⟨Oc, d, rs, h⟩ := h
  exact ⟨Oc, d, rs, (Po.bind1 h).imp fun c d1 H1 g1 h1 rs1 => h1 H1 (.refl rs1) rs1⟩⟩
/-- a comparison as a test -/
def mTest (a : M W) : M Bool := fun d => (a d).bind fun x d1 => match x with
  | .bool b => .ok b d1
  | _ => .bad
theorem tTest_of {pu : Bool} {t : TE} {m : M W} {σ : St} {H : Hp} {Q : Bool → Hp → Prop} (w : ∀ Q, tE X Y pu m σ H Q → t σ H Q) (h : tT X Y pu (mTest m) σ H Q) : tTest t σ H Q := by
  obtain ⟨Oc, d, rs, h⟩ := h
  refine w _ ⟨Oc, d, rs, (Po.bind1 h).imp fun x d1 H1 g1 h1 v r => ?_⟩
  cases x with
  | bool b => cases r; exact ⟨b, rfl, h1 H1 (.refl g1.rs) g1.rs⟩
  | none => exact h1.elim
  | int i => exact h1.elim
  | str s => exact h1.elim
  | tuple t => exact h1.elim
  | list l => exact h1.elim
  | dict l => exact h1.elim
theorem dt_cmp {pa pb : Bool} {op : CmpOp} {g : W → W → Option W} {a b : Expr} {pos : Pos} {ma mb : M W} (ho : OpD X (compareOp op) g) (ha : DE X Y pa a ma) (hb : DE X Y pb b mb) (hm : behindInMarks op b = false := by first | exact nomark _ | rfl) : DT X Y (pa && pb) (.Compare a [op] [b] pos) (mTest (mBin g ma mb)) := by
  obtain ⟨r, hr, hd⟩ := ho
  exact ⟨pt_weak (pt_cmpR hr ha.pe hb.pe hm) fun σ H Q h => tTest_of (fun Q q => t_bin (f := compareOp op) hd σ H Q q) h⟩
/-- a < b < c -/
def mChain (g g' : W → W → Option W) (a b c : M W) : M W := fun d => (a d).bind fun x d1 => (b d1).bind fun y d2 => (ofOpt (g x y) d2).bind fun z d3 => match z with
  | .bool true => (c d3).bind fun u d4 => ofOpt (g' y u) d4
  | .bool false => .ok (.bool false) d3
  | _ => .bad
theorem t_chain {pa pb pc : Bool} {op op' : CmpOp} {r r' : R2} {g g' : W → W → Option W} {ma mb mc : M W} (h1 : ∀ (Ex : Addr → Nat → Prop) (O : Addr → Prop) (H : Hp) (x y : V) (a b c : W) (Q : VK), (∀ p, O p → ∃ o, H p = some o) → g a b = some c → Rp X.K Ex O H x a → Rp X.K Ex O H y b →
    (∀ H' v, Same H H' → Rp X.K Ex O H' v c → Q v H') → r x y H Q) (h2 : ∀ (Ex : Addr → Nat → Prop) (O : Addr → Prop) (H : Hp) (x y : V) (a b c : W) (Q : VK), (∀ p, O p → ∃ o, H p = some o) → g' a b = some c → Rp X.K Ex O H x a → Rp X.K Ex O H y b →
    (∀ H' v, Same H H' → Rp X.K Ex O H' v c → Q v H') → r' x y H Q) (σ : St) (H : Hp) (Q : VK) (h : tE X Y (pa && (pb && pc)) (mChain g g' ma mb mc) σ H Q) : tChain r r' (tE X Y pa ma) (tE X Y pb mb) (tE X Y pc mc) σ H Q := by
  obtain ⟨Oc, d, rs, h⟩ := h
  refine ⟨Oc, d, rs, (Po.bind h).imp fun x d1 H1 g1 q1 v1 r1 => ⟨Oc, d1, g1.rs, (Po.bind q1).imp fun y d2 H2 g2 q2 v2 r2 => ?_⟩⟩
  obtain ⟨z, ez, k⟩ := Po.opt (Po.bind0 q2)
  refine h1 Y.Ex (Ow Oc d2 σ) H2 v1 v2 x y z _ (fun p hp => g2.rs.there hp) ez (g2.rp r1) r2 fun H3 v3 s3 r3 => ?_
  have g3 : Go X.K Y.Ex Oc true σ d2 H2 d2 H3 := .same g2.rs s3
  have k3 := k H3 g3
  cases z with
  | bool b =>
    cases r3
    cases b with
    | true =>
      refine ⟨true, rfl, ?_⟩
      rw [if_pos rfl]
      refine ⟨Oc, d2, g3.rs, (Po.bind1 k3).imp fun u d4 H4 g4 q4 v4 r4 => ?_⟩
      obtain ⟨c, ec, k5⟩ := Po.opt q4
      exact h2 Y.Ex (Ow Oc d4 σ) H4 v2 v4 y u c Q (fun p hp => g4.rs.there hp) ec (g4.rp (g3.rp r2)) r4 fun H5 v5 s5 r5 => k5 H5 (.same g4.rs s5) v5 r5
    | false =>
      refine ⟨false, rfl, ?_⟩
      rw [if_neg Bool.false_ne_true]
      exact k3 H3 (.refl g3.rs) (.bl false) (.bl false)
  | none => exact k3.elim
  | int i => exact k3.elim
  | str s => exact k3.elim
  | tuple t => exact k3.elim
  | list l => exact k3.elim
  | dict l => exact k3.elim
theorem d_chain {pa pb pc : Bool} {op op' : CmpOp} {g g' : W → W → Option W} {a b c : Expr} {pos : Pos} {ma mb mc : M W} (ho : OpD X (compareOp op) g) (ho' : OpD X (compareOp op') g') (ha : DE X Y pa a ma) (hb : DE X Y pb b mb) (hc : DE X Y pc c mc)
    (hm : lastMarks [op, op'] [b, c] = false := by rfl) : DE X Y (pa && (pb && pc)) (.Compare a [op, op'] [b, c] pos) (mChain g g' ma mb mc) :=
  let ⟨_, hr, hd⟩ := ho
  let ⟨_, hr', hd'⟩ := ho'
  ⟨pe_weak (pe_chain hr hr' ha.pe hb.pe hc.pe hm) (t_chain (op := op) (op' := op') hd hd')⟩
theorem dt_chain {pa pb pc : Bool} {op op' : CmpOp} {g g' : W → W → Option W} {a b c : Expr} {pos : Pos} {ma mb mc : M W} (ho : OpD X (compareOp op) g) (ho' : OpD X (compareOp op') g') (ha : DE X Y pa a ma) (hb : DE X Y pb b mb) (hc : DE X Y pc c mc)
    (hm : lastMarks [op, op'] [b, c] = false := by rfl) : DT X Y (pa && (pb && pc)) (.Compare a [op, op'] [b, c] pos) (mTest (mChain g g' ma mb mc)) := by
  obtain ⟨r, hr, hd⟩ := ho
  obtain ⟨r', hr', hd'⟩ := ho'
  exact ⟨pt_weak (pt_chain hr hr' ha.pe hb.pe hc.pe hm) fun σ H Q h => tTest_of (fun Q q => t_chain (op := op) (op' := op') hd hd' σ H Q q) h⟩
/-- the truth of a value -/
def truth : W → Option Bool
  | .none => some false
  | .bool b => some b
  | .int i => some (i != 0)
  | .str x => if x.length ≤ sizeLine then some ((x.length : Int) != 0) else none
  | .list ds => some (!ds.isEmpty)
  | .tuple ds => some (!ds.isEmpty)
  | .dict _ => none
def mTruth (a : M W) : M Bool := fun d => (a d).bind fun x d1 => ofOpt (truth x) d1
theorem RpA.empty {K : PySem.W.Frag} {Ex : Addr → Nat → Prop} {O : Addr → Prop} {H : Hp} {vs : List V} {ws : List W} (h : RpA K Ex O H vs ws) : vs.isEmpty = ws.isEmpty := by cases h <;> rfl
theorem tru_of {K : PySem.W.Frag} {Ex : Addr → Nat → Prop} {O : Addr → Prop} {H : Hp} {v : V} {w : W} {b : Bool} (r : Rp K Ex O H v w) (h : truth w = some b) : TruV K v H b := by
  cases r with
  | non => cases h; rfl
  | bl b => cases h; rfl
  | int i => cases h; rfl
  | str x =>
    have h : (if x.length ≤ sizeLine then some ((x.length : Int) != 0) else none) = some b := h
    by_cases z : x.length ≤ sizeLine
    · rw [if_pos z] at h
      cases h; exact ⟨z, rfl⟩
    · rw [if_neg z] at h
      cases h
  | lst l r => cases h; exact .inl ⟨_, l.sq, by rw [r.empty]⟩
  | tup l r => cases h; exact .inr (.inl ⟨_, l.sq, by rw [r.empty]⟩)
  | dK _ _ _ => cases h
  | dT _ _ _ => cases h
  | exc _ => cases h
theorem dt_val {pa : Bool} {a : Expr} {m : M W} (ha : DE X Y pa a m) (he : ∀ whole, isTrue a X.env whole = (do let v ← whole; standAt a.pos; holding [v] (truthy v)) := by intro _; rfl) : DT X Y pa a (mTruth m) := ⟨by
  refine pt_weak (pt_truth ha.pe he) fun σ H Q h => ?_
  obtain ⟨Oc, d, rs, h⟩ := h
  refine ⟨Oc, d, rs, (Po.bind1 h).imp fun x d1 H1 g1 h1 v r => ?_⟩
  obtain ⟨b, eb, k⟩ := Po.opt h1
  exact ⟨b, tru_of r eb, k H1 (.refl g1.rs) g1.rs⟩⟩
/-! values of and, or, not, if .. else -/
def mBoolV (a : M Bool) : M W := fun d => (a d).bind fun b d1 => .ok (.bool b) d1
def mIfE (t : M Bool) (a b : M W) : M W := fun d => (t d).bind fun c d1 => if c = true then a d1 else b d1
theorem d_ifE {pt pa pb : Bool} {c a b : Expr} {pos : Pos} {t : M Bool} {ma mb : M W} (hc : DT X Y pt c t) (ha : DE X Y pa a ma) (hb : DE X Y pb b mb) : DE X Y (pt && (pa && pb)) (.IfExp c a b pos) (mIfE t ma mb) := ⟨by
  refine pe_weak (pe_ifExp hc.pt ha.pe hb.pe) fun σ H Q h => ?_
  obtain ⟨Oc, d, rs, h⟩ := h
  refine ⟨Oc, d, rs, (Po.bind h).imp fun c d1 H1 g1 h1 rs1 => ?_⟩
  cases c with
  | true => exact iteT ⟨Oc, d1, rs1, Po.weak h1 fun z => (Bool.and_eq_true _ _ ▸ z).1⟩
  | false => exact iteF ⟨Oc, d1, rs1, Po.weak h1 fun z => (Bool.and_eq_true _ _ ▸ z).2⟩⟩
def asB (x : W) : Option Bool := match x with
  | .bool b => some b
  | _ => none
/-- and, or between truth values -/
def mAndV (a b : M W) : M W := fun d => (a d).bind fun x d1 => (ofOpt (asB x) d1).bind fun k d2 => if k = true then b d2 else .ok (.bool false) d2
def mOrV (a b : M W) : M W := fun d => (a d).bind fun x d1 => (ofOpt (asB x) d1).bind fun k d2 => if k = true then .ok (.bool true) d2 else b d2
def mNotV (a : M W) : M W := fun d => (a d).bind fun x d1 => (ofOpt (asB x) d1).bind fun k d2 => .ok (.bool (!k)) d2
theorem rp_asB {K : PySem.W.Frag} {Ex : Addr → Nat → Prop} {O : Addr → Prop} {H : Hp} {v : V} {w : W} {b : Bool} (r : Rp K Ex O H v w) (h : asB w = some b) : v = .bl b := by
  cases r <;> cases h
  rfl
theorem d_one {pa : Bool} {op : BoolOp} {a : Expr} {pos : Pos} {m : M W} (h : DE X Y pa a m) : DE X Y pa (.BoolOp op [a] pos) m := ⟨pe_one h.pe⟩
theorem d_and {pa pb : Bool} {a b : Expr} {rest : List Expr} {pos : Pos} {ma mb : M W} (ha : DE X Y pa a ma) (hb : DE X Y pb (.BoolOp .And (b :: rest) pos) mb) : DE X Y (pa && pb) (.BoolOp .And (a :: b :: rest) pos) (mAndV ma mb) := ⟨by
  refine pe_weak (pe_and ha.pe hb.pe) fun σ H Q h => ?_
  obtain ⟨Oc, d, rs, h⟩ := h
  refine ⟨Oc, d, rs, (Po.bind h).imp fun x d1 H1 g1 h1 v r => ?_⟩
  obtain ⟨c, ec, k⟩ := Po.opt (Po.bind0 h1)
  refine ⟨c, rp_asB r ec, ?_⟩
  have k := k H1 (.refl g1.rs)
  cases c with
  | true => exact iteT ⟨Oc, d1, g1.rs, k⟩
  | false => exact iteF (k H1 (.refl g1.rs) (.bl false) (.bl false))⟩
theorem d_or {pa pb : Bool} {a b : Expr} {rest : List Expr} {pos : Pos} {ma mb : M W} (ha : DE X Y pa a ma) (hb : DE X Y pb (.BoolOp .Or (b :: rest) pos) mb) : DE X Y (pa && pb) (.BoolOp .Or (a :: b :: rest) pos) (mOrV ma mb) := ⟨by
  refine pe_weak (pe_or ha.pe hb.pe) fun σ H Q h => ?_
  obtain ⟨Oc, d, rs, h⟩ := h
  refine ⟨Oc, d, rs, (Po.bind h).imp fun x d1 H1 g1 h1 v r => ?_⟩
  obtain ⟨c, ec, k⟩ := Po.opt (Po.bind0 h1)
  refine ⟨c, rp_asB r ec, ?_⟩
  have k := k H1 (.refl g1.rs)
  cases c with
  | true => exact iteT (k H1 (.refl g1.rs) (.bl true) (.bl true))
  | false => exact iteF ⟨Oc, d1, g1.rs, k⟩⟩
theorem d_not {pa : Bool} {a : Expr} {pos : Pos} {ma : M W} (ha : DE X Y pa a ma) : DE X Y pa (.UnaryOp .Not a pos) (mNotV ma) := ⟨by
  refine pe_weak (pe_not ha.pe) fun σ H Q h => ?_
  obtain ⟨Oc, d, rs, h⟩ := h
  refine ⟨Oc, d, rs, (Po.bind1 h).imp fun x d1 H1 g1 h1 v r => ?_⟩
  obtain ⟨c, ec, k⟩ := Po.opt (Po.bind1 h1)
  exact ⟨c, rp_asB r ec, k H1 (.refl g1.rs) H1 (.refl g1.rs) (.bl (!c)) (.bl (!c))⟩⟩
end

/-! ### what a name is given -/
def store (i : Nat) (w : W) (d : SD) : Option SD := match d[i]? with
  | some (some (.par _)) => none
  | some _ => some (d.set i (some (.val w)))
  | none => none
section
variable {K : PySem.W.Frag} {Ex : Addr → Nat → Prop} {Oc : Addr → Prop} {σ : St} {d d' : SD} {H : Hp}
theorem store_lt {i : Nat} {w : W} (h : store i w d = some d') : i < d.length ∧ d' = d.set i (some (.val w)) ∧ ∀ u, d[i]? ≠ some (some (.par u)) := by
  unfold store at h
  cases q : d[i]? with
  | none => rw [q] at h; cases h
  | some x =>
    obtain ⟨lt, _⟩ := List.getElem?_eq_some_iff.mp q
    rw [q] at h
    rcases x with _ | (w' | w' | w')
    · exact ⟨lt, (Option.some.inj h).symm, fun u e => nomatch e⟩
    · exact ⟨lt, (Option.some.inj h).symm, fun u e => nomatch e⟩
    · exact ⟨lt, (Option.some.inj h).symm, fun u e => nomatch e⟩
    · cases h
/-- a slot is set to s (with σ's to v), the rest stands -/
theorem mine_set {i : Nat} {w : W} {v : V} {a : Addr} (h : Mine (d.set i (some (.val w))) (σ.set i (some v)) a) : Mine d σ a := by
  obtain ⟨j, s, u, h1, h2, h3⟩ := h
  by_cases e : i = j
  · subst e
    rw [List.getElem?_set] at h1
    simp only [if_true] at h1
    split at h1
    · cases h1; cases h2
    · cases h1
  · rw [List.getElem?_set_ne e] at h1 h3
    exact ⟨j, s, u, h1, h2, h3⟩
theorem store_go {i : Nat} {w : W} {v : V} (rs : RS K Ex Oc H d σ) (r : Rp K Ex (Ow Oc d σ) H v w) (h : store i w d = some d') : GoS K Ex Oc d σ H d' (σ.set i (some v)) H := by
  obtain ⟨lt, rfl, np⟩ := store_lt h
  have ltσ : i < σ.length := by rw [← rs.len]; exact lt
  have ow : ∀ a, Ow Oc (d.set i (some (.val w))) (σ.set i (some v)) a → Ow Oc d σ a := fun a z => z.imp id mine_set
  have ke : Ke (Ow Oc d σ) H (Ow Oc (d.set i (some (.val w))) (σ.set i (some v))) H := fun a u n e => ⟨fun z => n (ow a z), e⟩
  refine ⟨⟨by rw [List.length_set, List.length_set]; exact rs.len, fun j u e => ?_, fun j s u e1 e2 => ?_, fun j k s t u u' p ne e1 e2 e3 e4 e5 => ?_, rs.oc⟩, fun _ _ e _ => e, fun a z => .inl (mine_set z), fun j u e => ?_⟩
  · by_cases ej : i = j
    · subst ej
      rw [List.getElem?_set_self lt] at e
      cases e
      exact ⟨v, List.getElem?_set_self ltσ, r.mono ke fun _ _ z => z⟩
    · rw [List.getElem?_set_ne ej] at e
      obtain ⟨v', e', r'⟩ := rs.val j u e
      exact ⟨v', by rw [List.getElem?_set_ne ej]; exact e', r'.mono ke fun _ _ z => z⟩
  · by_cases ej : i = j
    · subst ej
      rw [List.getElem?_set_self lt] at e1
      cases e1; cases e2
    · rw [List.getElem?_set_ne ej] at e1
      obtain ⟨p, e', n, ob⟩ := rs.own j s u e1 e2
      exact ⟨p, by rw [List.getElem?_set_ne ej]; exact e', n, ob.mono ke (fun _ _ z => z) rfl⟩
  · by_cases ej : i = j
    · subst ej
      rw [List.getElem?_set_self lt] at e1
      cases e1; cases e2
    · by_cases ek : i = k
      · subst ek
        rw [List.getElem?_set_self lt] at e3
        cases e3; cases e4
      · rw [List.getElem?_set_ne ej] at e1 e5
        rw [List.getElem?_set_ne ek] at e3 ⊢
        exact rs.sep j k s t u u' p ne e1 e2 e3 e4 e5
  · have ne : i ≠ j := fun z => by
      subst z
      exact np u e
    exact ⟨⟨u, by rw [List.getElem?_set_ne ne]; exact e⟩, by rw [List.getElem?_set_ne ne]⟩
end

/-! ### targets -/
abbrev GW := W → SD → Option SD
abbrev GWs := List W → SD → Option SD
/-- the names at the places is alone are given something -/
def Out1 (is : List Nat) (σ σ' : St) : Prop := σ'.length = σ.length ∧ ∀ j : Nat, j ∉ is → σ'[j]? = σ[j]?
def Only (is : List Nat) (d d' : SD) : Prop := d'.length = d.length ∧ (∀ j : Nat, j ∉ is → d'[j]? = d[j]?) ∧ ∀ j : Nat, d'[j]? = d[j]? ∨ ∃ w, d'[j]? = some (some (.val w))
def tG (K : PySem.W.Frag) (Y : Yx) (g : GW) (is : List Nat) : TG := fun v σ H Q => ∃ Oc d w d', RS K Y.Ex Oc H d σ ∧ Rp K Y.Ex (Ow Oc d σ) H v w ∧ g w d = some d' ∧ ∀ σ', GoS K Y.Ex Oc d σ H d' σ' H → Out1 is σ σ' → Q σ' H
def tGs (K : PySem.W.Frag) (Y : Yx) (g : GWs) (is : List Nat) : TGs := fun v σ H Q => ∃ Oc d w d', RS K Y.Ex Oc H d σ ∧ RpA K Y.Ex (Ow Oc d σ) H v w ∧ g w d = some d' ∧ ∀ σ', GoS K Y.Ex Oc d σ H d' σ' H → Out1 is σ σ' → Q σ' H
structure DG (X : Cx) (Y : Yx) (tg : Expr) (g : GW) (is : List Nat) : Prop where
  only : ∀ w d d', g w d = some d' → Only is d d'
  pg : PG X tg (tG X.K Y g is)
structure DGs (X : Cx) (Y : Yx) (tgs : List Expr) (g : GWs) (is : List Nat) : Prop where
  only : ∀ w d d', g w d = some d' → Only is d d'
  pg : PGs X tgs (tGs X.K Y g is)
section
variable {X : Cx} {Y : Yx}
theorem pg_weak {e : Expr} {t t' : TG} (h : PG X e t) (w : ∀ v σ H Q, t' v σ H Q → t v σ H Q) : PG X e t' := ⟨fun pins s σ H v u Q I r q => h.run pins s σ H v u Q I r (w v σ H Q q)⟩
theorem pgs_weak {e : List Expr} {t t' : TGs} (h : PGs X e t) (w : ∀ v σ H Q, t' v σ H Q → t v σ H Q) : PGs X e t' := ⟨fun pins s σ H v u Q I r q => h.run pins s σ H v u Q I r (w v σ H Q q)⟩
theorem Only.refl (d : SD) : Only [] d d := ⟨rfl, fun _ _ => rfl, fun _ => .inl rfl⟩
theorem only_store {i : Nat} {w : W} {d d' : SD} (h : store i w d = some d') : Only [i] d d' := by
  obtain ⟨lt, rfl, _⟩ := store_lt h
  refine ⟨List.length_set, fun j hj => List.getElem?_set_ne fun e => hj ?_, fun j => ?_⟩
  · rw [e]; exact List.mem_singleton.mpr rfl
  · by_cases e : i = j
    · subst e
      exact .inr ⟨w, List.getElem?_set_self lt⟩
    · exact .inl (List.getElem?_set_ne e)
theorem out1_set (i : Nat) (v : Option V) (σ : St) : Out1 [i] σ (σ.set i v) := by
  refine ⟨List.length_set, fun j hj => List.getElem?_set_ne fun e => hj ?_⟩
  rw [e]; exact List.mem_singleton.mpr rfl
theorem Out1.trans {is js : List Nat} {a b c : St} (h : Out1 is a b) (g : Out1 js b c) : Out1 (is ++ js) a c :=
  ⟨g.1.trans h.1, fun j hj => (g.2 j fun z => hj (List.mem_append_right _ z)).trans (h.2 j fun z => hj (List.mem_append_left _ z))⟩
theorem Only.trans {is js : List Nat} {a b c : SD} (h : Only is a b) (g : Only js b c) : Only (is ++ js) a c :=
  ⟨g.1.trans h.1, fun j hj => (g.2.1 j fun z => hj (List.mem_append_right _ z)).trans (h.2.1 j fun z => hj (List.mem_append_left _ z)), fun j => by
    rcases g.2.2 j with e | e
    · rw [e]; exact h.2.2 j
    · exact .inr e⟩
theorem dg_name (i : Nat) {x : Str} {pos : Pos} (hN : X.N.Nodup) (hi : X.N[i]? = some x := by rfl) (hx : Loc X.env.scope x := by first | exact .inl rfl | exact .inr rfl) (hf : X.fn x = true ∨ X.env.scope.names.lookup x = some .local := by first | exact .inl rfl | exact .inr rfl | assumption) :
    DG X Y (.Name x pos) (store i) [i] :=
  ⟨fun _ _ _ h => only_store h, pg_weak (pg_name hN hi hx hf) fun v σ H Q ⟨Oc, d, w, d', rs, r, e, k⟩ => k _ (store_go rs r e) (out1_set _ _ _)⟩
def gsNil : GWs := fun ws d => match ws with
  | [] => some d
  | _ => none
def gsCons (g : GW) (r : GWs) : GWs := fun ws d => match ws with
  | w :: ws => (g w d).bind fun d1 => r ws d1
  | [] => none
theorem dgs_nil : DGs X Y [] gsNil [] := by
  refine ⟨fun w d d' h => ?_, pgs_weak pgs_nil fun v σ H Q ⟨Oc, d, w, d', rs, r, e, k⟩ => ?_⟩
  · cases w with
    | nil => cases h; exact .refl _
    | cons _ _ => cases h
  · cases r with
    | nil => cases e; exact ⟨rfl, k _ (.refl rs) ⟨rfl, fun _ _ => rfl⟩⟩
    | cons _ _ => cases e
theorem dgs_cons {e : Expr} {es : List Expr} {g : GW} {r : GWs} {is js : List Nat} (h1 : DG X Y e g is) (h2 : DGs X Y es r js) (hs : (assignEach (e :: es) X.env).map (·.2) = assign e X.env :: (assignEach es X.env).map (·.2) := by rfl) : DGs X Y (e :: es) (gsCons g r) (is ++ js) := by
  refine ⟨fun w d d' h => ?_, pgs_weak (pgs_cons h1.pg h2.pg hs) fun v σ H Q ⟨Oc, d, w, d', rs, ra, e, k⟩ => ?_⟩
  · cases w with
    | nil => cases h
    | cons a b =>
      obtain ⟨d1, e1, e2⟩ := Option.bind_eq_some_iff.mp (show (g _ d).bind _ = some d' from h)
      exact (h1.only _ _ _ e1).trans (h2.only _ _ _ e2)
  · cases ra with
    | nil => cases e
    | cons a b =>
      obtain ⟨d1, e1, e2⟩ := Option.bind_eq_some_iff.mp (show (g _ d).bind _ = some d' from e)
      refine ⟨_, _, rfl, Oc, d, _, d1, rs, a, e1, fun σ1 g1 o1 => ?_⟩
      exact ⟨Oc, d1, _, d', g1.rs, b.mono g1.ke fun _ _ z => z, e2, fun σ2 g2 o2 => k σ2 (g1.trans g2) (o1.trans o2)⟩
/-- (a, b, ..) = a tuple -/
def gTupW (n : Nat) (g : GWs) : GW := fun w d => match w with
  | .tuple ws => if ws.length = n then g ws d else none
  | _ => none
/-- (a, b, ..) = a list -/
def gLstW (n : Nat) (g : GWs) : GW := fun w d => match w with
  | .list ws => if ws.length = n then g ws d else none
  | _ => none
theorem gTupW_some {n : Nat} {g : GWs} {w : W} {d d' : SD} (h : gTupW n g w d = some d') : ∃ ws, w = .tuple ws ∧ ws.length = n ∧ g ws d = some d' := by
  cases w with
  | tuple ws =>
    have h : (if ws.length = n then g ws d else none) = some d' := h
    by_cases z : ws.length = n
    · rw [if_pos z] at h; exact ⟨ws, rfl, z, h⟩
    · rw [if_neg z] at h; cases h
  | _ => cases h
theorem gLstW_some {n : Nat} {g : GWs} {w : W} {d d' : SD} (h : gLstW n g w d = some d') : ∃ ws, w = .list ws ∧ ws.length = n ∧ g ws d = some d' := by
  cases w with
  | list ws =>
    have h : (if ws.length = n then g ws d else none) = some d' := h
    by_cases z : ws.length = n
    · rw [if_pos z] at h; exact ⟨ws, rfl, z, h⟩
    · rw [if_neg z] at h; cases h
  | _ => cases h
theorem dg_tup {es : List Expr} {k : Nat} {pos : Pos} {g : GWs} {n : Nat} {is : List Nat} (hc : X.calm = true) (h : DGs X Y es g is) (hn : (assignEach es X.env).length = n := by rfl) (hst : (assignEach es X.env).findIdx? (·.1) = none := by rfl) : DG X Y (.Tuple es k pos) (gTupW n g) is := by
  refine ⟨fun w d d' e => ?_, pg_weak (pg_tup hc h.pg hn hst) fun v σ H Q ⟨Oc, d, w, d', rs, r, e, k⟩ => ?_⟩
  · obtain ⟨ws, rfl, _, e⟩ := gTupW_some e
    exact h.only _ _ _ e
  · obtain ⟨ws, rfl, el, e⟩ := gTupW_some e
    cases r with
    | tup a b => exact ⟨_, _, rfl, a.sq, b.length.trans el, Oc, d, _, d', rs, b, e, k⟩
theorem dg_lst {es : List Expr} {k : Nat} {pos : Pos} {g : GWs} {n : Nat} {is : List Nat} (hc : X.calm = true) (h : DGs X Y es g is) (hn : (assignEach es X.env).length = n := by rfl) (hst : (assignEach es X.env).findIdx? (·.1) = none := by rfl) : DG X Y (.Tuple es k pos) (gLstW n g) is := by
  refine ⟨fun w d d' e => ?_, pg_weak (pg_lst hc h.pg hn hst) fun v σ H Q ⟨Oc, d, w, d', rs, r, e, k⟩ => ?_⟩
  · obtain ⟨ws, rfl, _, e⟩ := gLstW_some e
    exact h.only _ _ _ e
  · obtain ⟨ws, rfl, el, e⟩ := gLstW_some e
    cases r with
    | lst a b => exact ⟨_, _, rfl, a.sq, b.length.trans el, Oc, d, _, d', rs, b, e, k⟩
end

/-! ### statements -/
inductive SOut where
  | next (d : SD) | ret (r : Slot) (d : SD) | brk (d : SD) | cont (d : SD) | exc (c : Nat) (d : SD) | bad
abbrev MS := SD → SOut
def SOut.seq (o : SOut) (f : MS) : SOut := match o with
  | .next d => f d
  | o => o
@[simp] theorem SOut.seq_next (d : SD) (f : MS) : (SOut.next d).seq f = f d := rfl
@[simp] theorem SOut.seq_ret (r : Slot) (d : SD) (f : MS) : (SOut.ret r d).seq f = .ret r d := rfl
@[simp] theorem SOut.seq_brk (d : SD) (f : MS) : (SOut.brk d).seq f = .brk d := rfl
@[simp] theorem SOut.seq_cont (d : SD) (f : MS) : (SOut.cont d).seq f = .cont d := rfl
@[simp] theorem SOut.seq_exc (c : Nat) (d : SD) (f : MS) : (SOut.exc c d).seq f = .exc c d := rfl
@[simp] theorem SOut.seq_bad (f : MS) : SOut.bad.seq f = .bad := rfl
def Out.toS {α : Type} (o : Out α) (f : α → SD → SOut) : SOut := match o with
  | .ok a d => f a d
  | .exc c d => .exc c d
  | .bad => .bad
@[simp] theorem Out.toS_ok {α : Type} (a : α) (d : SD) (f : α → SD → SOut) : (Out.ok a d).toS f = f a d := rfl
@[simp] theorem Out.toS_exc {α : Type} (c : Nat) (d : SD) (f : α → SD → SOut) : (Out.exc c d : Out α).toS f = .exc c d := rfl
@[simp] theorem Out.toS_bad {α : Type} (f : α → SD → SOut) : (Out.bad : Out α).toS f = .bad := rfl
def sOpt (o : Option SD) : SOut := match o with
  | some d => .next d
  | none => .bad
@[simp] theorem sOpt_some (d : SD) : sOpt (some d) = .next d := rfl
@[simp] theorem sOpt_none : sOpt none = .bad := rfl
def With (O : Addr → Prop) (p : Addr) (a : Addr) : Prop := O a ∨ a = p
def PoS (X : Cx) (Y : Yx) (Oc : Addr → Prop) (d : SD) (σ : St) (H : Hp) (o : SOut) (D : Ends) : Prop := match o with
  | .next d' => ∀ σ' H', GoS X.K Y.Ex Oc d σ H d' σ' H' → D.nx σ' H'
  | .brk d' => ∀ σ' H', GoS X.K Y.Ex Oc d σ H d' σ' H' → D.bk σ' H'
  | .cont d' => ∀ σ' H', GoS X.K Y.Ex Oc d σ H d' σ' H' → D.ct σ' H'
  | .ret (.val w) d' => ∀ σ' H' v, GoS X.K Y.Ex Oc d σ H d' σ' H' → Rp X.K Y.Ex (Ow Oc d' σ') H' v w → D.rt v H'
  | .ret (.own w) d' => ∀ σ' H' p, GoS X.K Y.Ex Oc d σ H d' σ' H' → (H p = none ∨ Mine d σ p) → RS X.K Y.Ex (With Oc p) H' d' σ' → Ob X.K Y.Ex (Ow (With Oc p) d' σ') H' p w → D.rt (.ref p) H'
  | .ret (.par w) _ => False
  | .exc c d' => ∀ σ' H', GoS X.K Y.Ex Oc d σ H d' σ' H' → Y.W (Y.T c) none σ' H'
  | .bad => False
def tS (X : Cx) (Y : Yx) (m : MS) : TS := fun D σ H => ∃ Oc d, RS X.K Y.Ex Oc H d σ ∧ PoS X Y Oc d σ H (m d) D
structure DS (X : Cx) (Y : Yx) (st : Stmt) (m : MS) : Prop where
  ps : PS X st (tS X Y m)
structure DSs (X : Cx) (Y : Yx) (st : List Stmt) (m : MS) : Prop where
  ps : PSs X st (tS X Y m)
theorem ps_weak {X : Cx} {e : Stmt} {t t' : TS} (h : PS X e t) (w : ∀ D σ H, t' D σ H → t D σ H) : PS X e t' := ⟨fun pins s σ H D I q => h.run pins s σ H D I (w D σ H q)⟩
theorem pss_weak {X : Cx} {e : List Stmt} {t t' : TS} (h : PSs X e t) (w : ∀ D σ H, t' D σ H → t D σ H) : PSs X e t' := ⟨fun pins s σ H D I q => h.run pins s σ H D I (w D σ H q)⟩
section
variable {X : Cx} {Y : Yx} {Oc : Addr → Prop} {σ σ' : St} {d d' : SD} {H H' : Hp}
theorem PoS.from {o : SOut} {D : Ends} (g : GoS X.K Y.Ex Oc d σ H d' σ' H') (h : PoS X Y Oc d σ H o D) : PoS X Y Oc d' σ' H' o D := by
  cases o with
  | next d2 => exact fun σ2 H2 g2 => h σ2 H2 (g.trans g2)
  | brk d2 => exact fun σ2 H2 g2 => h σ2 H2 (g.trans g2)
  | cont d2 => exact fun σ2 H2 g2 => h σ2 H2 (g.trans g2)
  | exc c d2 => exact fun σ2 H2 g2 => h σ2 H2 (g.trans g2)
  | bad => exact h
  | ret r d2 =>
    cases r with
    | val w => exact fun σ2 H2 v g2 => h σ2 H2 v (g.trans g2)
    | par w => exact h
    | own w =>
      refine fun σ2 H2 p g2 n => h σ2 H2 p (g.trans g2) ?_
      rcases n with n | n
      · by_cases m : Mine d σ p
        · exact .inr m
        · refine .inl ?_
          cases q : H p with
          | none => rfl
          | some o => rw [g.fr p o q m] at n; cases n
      · exact (g.mine p n).symm
/-- what follows may be asked for what is reached -/
theorem PoS.ends {o : SOut} {D D' : Ends} (h : PoS X Y Oc d σ H o D) (n : ∀ d' σ' H', o = .next d' → GoS X.K Y.Ex Oc d σ H d' σ' H' → D.nx σ' H' → D'.nx σ' H') (b : ∀ d' σ' H', o = .brk d' → GoS X.K Y.Ex Oc d σ H d' σ' H' → D.bk σ' H' → D'.bk σ' H')
    (c : ∀ d' σ' H', o = .cont d' → GoS X.K Y.Ex Oc d σ H d' σ' H' → D.ct σ' H' → D'.ct σ' H') (r : ∀ v H, D.rt v H → D'.rt v H) : PoS X Y Oc d σ H o D' := by
  cases o with
  | next d2 => exact fun σ2 H2 g2 => n _ _ _ rfl g2 (h σ2 H2 g2)
  | brk d2 => exact fun σ2 H2 g2 => b _ _ _ rfl g2 (h σ2 H2 g2)
  | cont d2 => exact fun σ2 H2 g2 => c _ _ _ rfl g2 (h σ2 H2 g2)
  | exc c d2 => exact h
  | bad => exact h
  | ret s d2 =>
    cases s with
    | val w => exact fun σ2 H2 v g2 z => r _ _ (h σ2 H2 v g2 z)
    | par w => exact h
    | own w => exact fun σ2 H2 p g2 a b c => r _ _ (h σ2 H2 p g2 a b c)
theorem PoS.seq {o : SOut} {f : MS} {D : Ends} (h : PoS X Y Oc d σ H (o.seq f) D) : PoS X Y Oc d σ H o { D with nx := tS X Y f D } := by
  cases o with
  | next d2 => exact fun σ2 H2 g2 => ⟨Oc, d2, g2.rs, PoS.from g2 h⟩
  | brk d2 => exact h
  | cont d2 => exact h
  | exc c d2 => exact h
  | bad => exact h
  | ret s d2 => cases s <;> exact h
theorem Po.toS {α : Type} {p : Bool} {o : Out α} {f : α → SD → SOut} {D : Ends} (h : PoS X Y Oc d σ H (o.toS f) D) : Po X Y p Oc σ d H o fun a d1 H1 => PoS X Y Oc d1 σ H1 (f a d1) D := by
  cases o with
  | ok a d1 => exact fun H1 g1 => PoS.from g1.toS h
  | exc c d1 => exact fun H1 g1 => h σ H1 g1.toS
  | bad => exact h
end
section
variable {X : Cx} {Y : Yx}
def mSkip : MS := fun d => .next d
def mSeq (a b : MS) : MS := fun d => (a d).seq b
theorem ds_nil : DSs X Y [] mSkip := ⟨pss_weak pss_nil fun D σ H h => by
  obtain ⟨Oc, d, rs, h⟩ := h
  exact h σ H (.refl rs)⟩
theorem ds_cons {st : Stmt} {rest : List Stmt} {a b : MS} (h1 : DS X Y st a) (h2 : DSs X Y rest b) : DSs X Y (st :: rest) (mSeq a b) := ⟨pss_weak (pss_cons h1.ps h2.ps) fun D σ H h => by
  obtain ⟨Oc, d, rs, h⟩ := h
  exact ⟨Oc, d, rs, h.seq⟩⟩
theorem ds_one {st : Stmt} {a : MS} (h1 : DS X Y st a) : DSs X Y [st] a := ⟨pss_one h1.ps⟩
theorem ds_pass {pos : Pos} : DS X Y (.Pass pos) mSkip := ⟨ps_weak ps_pass fun D σ H h => by
  obtain ⟨Oc, d, rs, h⟩ := h
  exact h σ H (.refl rs)⟩
def mBrk : MS := fun d => .brk d
def mCont : MS := fun d => .cont d
theorem ds_break {pos : Pos} : DS X Y (.Break pos) mBrk := ⟨ps_weak ps_break fun D σ H h => by
  obtain ⟨Oc, d, rs, h⟩ := h
  exact h σ H (.refl rs)⟩
theorem ds_continue {pos : Pos} : DS X Y (.Continue pos) mCont := ⟨ps_weak ps_continue fun D σ H h => by
  obtain ⟨Oc, d, rs, h⟩ := h
  exact h σ H (.refl rs)⟩
theorem ds_doc {x : Str} {j : Nat} {pos pos' : Pos} : DS X Y (.Expr (.Constant (.str x) j pos) pos') mSkip := ⟨ps_weak ps_doc fun D σ H h => by
  obtain ⟨Oc, d, rs, h⟩ := h
  exact h σ H (.refl rs)⟩
def mDrop (a : M W) : MS := fun d => (a d).toS fun _ d1 => .next d1
theorem ds_expr {pu : Bool} {e : Expr} {pos : Pos} {m : M W} (he : DE X Y pu e m) (hs : swapsWith e none pos.line X.env = pure false := by rfl) : DS X Y (.Expr e pos) (mDrop m) := ⟨ps_weak (ps_expr he.pe hs) fun D σ H h => by
  obtain ⟨Oc, d, rs, h⟩ := h
  exact ⟨Oc, d, rs, (Po.toS h).imp fun w d1 H1 g1 h1 v r => h1 σ H1 (.refl g1.rs)⟩⟩
def mRet (a : M W) : MS := fun d => (a d).toS fun w d1 => .ret (.val w) d1
theorem ds_ret {pu : Bool} {e : Expr} {pos : Pos} {m : M W} (he : DE X Y pu e m) : DS X Y (.Return (some e) pos) (mRet m) := ⟨ps_weak (ps_ret he.pe) fun D σ H h => by
  obtain ⟨Oc, d, rs, h⟩ := h
  exact ⟨Oc, d, rs, (Po.toS h).imp fun w d1 H1 g1 h1 v r => h1 σ H1 v (.refl g1.rs) r⟩⟩
def mIf (t : M Bool) (a b : MS) : MS := fun d => (t d).toS fun c d1 => if c = true then a d1 else b d1
theorem ds_if {pu : Bool} {c : Expr} {sa sb : List Stmt} {pos : Pos} {t : M Bool} {a b : MS} (hc : DT X Y pu c t) (ha : DSs X Y sa a) (hb : DSs X Y sb b) : DS X Y (.If c sa sb pos) (mIf t a b) := ⟨ps_weak (ps_if hc.pt ha.ps hb.ps) fun D σ H h => by
  obtain ⟨Oc, d, rs, h⟩ := h
  refine ⟨Oc, d, rs, (Po.toS h).imp fun c d1 H1 g1 h1 rs1 => ?_⟩
  cases c with
  | true => exact iteT ⟨Oc, d1, rs1, h1⟩
  | false => exact iteF ⟨Oc, d1, rs1, h1⟩⟩
/-- target = value -/
def mAsg (g : GW) (a : M W) : MS := fun d => (a d).toS fun w d1 => sOpt (g w d1)
theorem ds_asg {pu : Bool} {tg e : Expr} {pos : Pos} {g : GW} {m : M W} {is : List Nat} (hg : DG X Y tg g is) (he : DE X Y pu e m) (hs : swapsWithSole [tg] e pos.line X.env = pure false := by rfl) (hw : swappedStores [tg] e X.env = pure none := by rfl)
    (h1 : (assignEach [tg] X.env).map (·.2) = [assign tg X.env] := by rfl) : DS X Y (.Assign [tg] e pos) (mAsg g m) := by
  refine ⟨ps_weak (ps_asg he.pe hg.pg hs hw h1) fun D σ H h => ?_⟩
  obtain ⟨Oc, d, rs, h⟩ := h
  refine ⟨Oc, d, rs, (Po.toS h).imp fun w d1 H1 g1 h1 v r => ?_⟩
  cases q : g w d1 with
  | none => rw [q] at h1; exact h1.elim
  | some d2 =>
    rw [q] at h1
    exact ⟨Oc, d1, w, d2, g1.rs, r, q, fun σ' gs _ => h1 σ' H1 gs⟩
/-- name = value -/
theorem ds_ofE {pu : Bool} {i : Nat} {st : Stmt} {m : M W} (hp : PS X st (tAsg (tE X Y pu m) (gName i))) : DS X Y st (mAsg (store i) m) := by
  refine ⟨ps_weak hp fun D σ H h => ?_⟩
  obtain ⟨Oc, d, rs, h⟩ := h
  refine ⟨Oc, d, rs, (Po.toS h).imp fun w d1 H1 g1 h1 v r => ?_⟩
  cases q : store i w d1 with
  | none => rw [q] at h1; exact h1.elim
  | some d2 =>
    rw [q] at h1
    exact h1 _ H1 (store_go g1.rs r q)
theorem ds_set {pu : Bool} {i : Nat} {x : Str} {e : Expr} {pos pos' : Pos} {m : M W} (hN : X.N.Nodup) (he : DE X Y pu e m) (hi : X.N[i]? = some x := by rfl) (hx : Loc X.env.scope x := by first | exact .inl rfl | exact .inr rfl) (hs : swapsWith e (some (.Name x pos')) pos.line X.env = pure false := by rfl)
    (hf : X.fn x = true ∨ X.env.scope.names.lookup x = some .local := by first | exact .inl rfl | exact .inr rfl | assumption) : DS X Y (.Assign [.Name x pos'] e pos) (mAsg (store i) m) := ds_ofE (ps_set hN hi hx he.pe hs hf)
end
end Qd
end
section
set_option Elab.async false
set_option linter.all false
set_option maxRecDepth 100000
/-! Loops and list comprehensions by their data. -/
namespace Qd
open PySem PySem.Spec PyProof.Rows L2

/-! ### what is walked -/
/-- the iterator J hands out the data ws wherever S holds -/
structure Wk (K : PySem.W.Frag) (Ex : Addr → Nat → Prop) (J : It) (S : (Addr → Prop) → Hp → Prop) (ws : List W) : Prop where
  keep : ∀ O H O' H', Ke O H O' H' → S O H → S O' H'
  go : ∀ O H i, S O H → i < ws.length → J.go i H
  yld : ∀ O H i x H', (∀ a, O a → ∃ o, H a = some o) → S O H → J.yld i H x H' → Same H H' ∧ ∀ w, ws[i]? = some w → Rp K Ex O H' x w
  stop : ∀ O H i, S O H → ws.length ≤ i → J.stop i H
def tI (X : Cx) (Y : Yx) (pu : Bool) (m : M (List W)) : TI := fun σ H R => ∃ Oc d, RS X.K Y.Ex Oc H d σ ∧ Po X Y pu Oc σ d H (m d) fun ws d' H' => ∀ J S, Wk X.K Y.Ex J S ws → S (Ow Oc d' σ) H' → R J H'
structure DI (X : Cx) (Y : Yx) (pu : Bool) (tg e : Expr) (m : M (List W)) : Prop where
  pi : ∃ wi, PI X tg e wi ∧ ∀ σ H R, tI X Y pu m σ H R → wi σ H R
section
variable {X : Cx} {Y : Yx} {tg : Expr}
theorem wk_list {K : PySem.W.Frag} {Ex : Addr → Nat → Prop} {a : Addr} {ws : List W} : Wk K Ex (Itl K a) (fun O H => ∃ xs, LAt K O H a xs ∧ RpA K Ex O H xs ws) ws where
  keep := fun O H O' H' k ⟨xs, l, r⟩ => ⟨xs, l.mono k, r.mono k fun _ _ z => z⟩
  go := fun O H i ⟨xs, l, r⟩ hi => by
    have : i < xs.length := by rw [r.length]; exact hi
    exact ⟨xs, xs[i], l.sq, List.getElem?_eq_getElem this⟩
  yld := fun O H i x H' _ ⟨xs, l, r⟩ ⟨e, y⟩ => by
    subst e
    refine ⟨.refl _, fun w hw => ?_⟩
    obtain ⟨v, hv, rv⟩ := r.get hw
    rw [y xs l.sq] at hv
    cases hv
    exact rv
  stop := fun O H i ⟨xs, l, r⟩ hi => ⟨xs, l.sq, by rw [r.length]; exact hi⟩
theorem wk_tup {K : PySem.W.Frag} {Ex : Addr → Nat → Prop} {a : Addr} {ws : List W} : Wk K Ex (Itt K a) (fun O H => ∃ xs, TAt K Ex O H a xs ∧ RpA K Ex O H xs ws) ws where
  keep := fun O H O' H' k ⟨xs, l, r⟩ => ⟨xs, l.mono k (fun _ _ z => z), r.mono k fun _ _ z => z⟩
  go := fun O H i ⟨xs, l, r⟩ hi => by
    have : i < xs.length := by rw [r.length]; exact hi
    exact ⟨xs, xs[i], l.sq, List.getElem?_eq_getElem this⟩
  yld := fun O H i x H' _ ⟨xs, l, r⟩ ⟨e, y⟩ => by
    subst e
    refine ⟨.refl _, fun w hw => ?_⟩
    obtain ⟨v, hv, rv⟩ := r.get hw
    rw [y xs l.sq] at hv
    cases hv
    exact rv
  stop := fun O H i ⟨xs, l, r⟩ hi => ⟨xs, l.sq, by rw [r.length]; exact hi⟩
def rangeW (lo : Int) (n : Nat) : List W := (List.range n).map fun (i : Nat) => PyData.int (lo + (i : Int))
theorem rangeW_length (lo : Int) (n : Nat) : (rangeW lo n).length = n := by unfold rangeW; simp
theorem rangeW_get {lo : Int} {n i : Nat} {w : W} (h : (rangeW lo n)[i]? = some w) : w = .int (lo + (i : Int)) := by
  unfold rangeW at h
  rw [List.getElem?_map] at h
  cases q : (List.range n)[i]? with
  | none => rw [q] at h; cases h
  | some j =>
    rw [q] at h
    obtain ⟨hj, e⟩ := List.getElem?_eq_some_iff.mp q
    rw [List.getElem_range] at e
    subst e
    exact (Option.some.inj h).symm
theorem wk_range {K : PySem.W.Frag} {Ex : Addr → Nat → Prop} {lo : Int} {n : Nat} : Wk K Ex (Itr lo n) (fun _ _ => True) (rangeW lo n) where
  keep := fun _ _ _ _ _ _ => trivial
  go := fun O H i _ hi => by rw [rangeW_length] at hi; exact hi
  yld := fun O H i x H' _ _ ⟨e, y⟩ => by
    subst e
    refine ⟨.refl _, fun w hw => ?_⟩
    rw [rangeW_get hw, y]
    exact .int _
  stop := fun O H i _ hi => by rw [rangeW_length] at hi; exact hi
def listOf? : W → Option (List W)
  | .list ws => some ws
  | _ => none
def tupOf? : W → Option (List W)
  | .tuple ws => some ws
  | _ => none
def mItL (a : M W) : M (List W) := fun d => (a d).bind fun w d1 => ofOpt (listOf? w) d1
def mItT (a : M W) : M (List W) := fun d => (a d).bind fun w d1 => ofOpt (tupOf? w) d1
theorem di_list {pu : Bool} {e : Expr} {m : M W} (h : DE X Y pu e m) : DI X Y pu tg e (mItL m) := by
  refine ⟨_, pi_list h.pe, fun σ H R h => ?_⟩
  obtain ⟨Oc, d, rs, h⟩ := h
  refine ⟨Oc, d, rs, (Po.bind1 h).imp fun w d1 H1 g1 h1 v r => ?_⟩
  obtain ⟨ws, ew, k⟩ := Po.opt h1
  cases r with
  | lst l r =>
    cases ew
    exact ⟨_, rfl, ⟨_, l.sq⟩, k H1 (.refl g1.rs) _ _ wk_list ⟨_, l, r⟩⟩
  | _ => cases ew
theorem di_tup {pu : Bool} {e : Expr} {m : M W} (h : DE X Y pu e m) : DI X Y pu tg e (mItT m) := by
  refine ⟨_, pi_tup h.pe, fun σ H R h => ?_⟩
  obtain ⟨Oc, d, rs, h⟩ := h
  refine ⟨Oc, d, rs, (Po.bind1 h).imp fun w d1 H1 g1 h1 v r => ?_⟩
  obtain ⟨ws, ew, k⟩ := Po.opt h1
  cases r with
  | tup l r =>
    cases ew
    exact ⟨_, rfl, ⟨_, l.sq⟩, k H1 (.refl g1.rs) _ _ wk_tup ⟨_, l, r⟩⟩
  | _ => cases ew
noncomputable def small62 (i : Int) : Bool := cdec (-4611686018427387904 ≤ i ∧ i < 4611686018427387904)
theorem small62_of {i : Int} (h : small62 i = true) : -(2 ^ 62) ≤ i ∧ i < 2 ^ 62 := by
  have h := cdec_iff.mp h
  omega
theorem small62_mk {i : Int} (h : -4611686018427387904 ≤ i) (h2 : i < 4611686018427387904) : small62 i = true := cdec_iff.mpr ⟨h, h2⟩
noncomputable def range1? : List W → Option (List W)
  | [.int j] => if small62 j = true then some (rangeW 0 j.toNat) else none
  | _ => none
noncomputable def range2? : List W → Option (List W)
  | [.int i, .int j] => if (small62 i && small62 j) = true then some (rangeW i (j - i).toNat) else none
  | _ => none
noncomputable def mRng1 (a : M (List W)) : M (List W) := fun d => (a d).bind fun w d1 => ofOpt (range1? w) d1
noncomputable def mRng2 (a : M (List W)) : M (List W) := fun d => (a d).bind fun w d1 => ofOpt (range2? w) d1
theorem range1_some {w u : List W} (h : range1? w = some u) : ∃ j : Int, w = [.int j] ∧ -(2 ^ 62) ≤ j ∧ j < 2 ^ 62 ∧ u = rangeW 0 j.toNat := by
  unfold range1? at h
  split at h
  · split at h
    · rename_i z
      cases h
      exact ⟨_, rfl, (small62_of z).1, (small62_of z).2, rfl⟩
    · cases h
  · cases h
theorem range2_some {w u : List W} (h : range2? w = some u) : ∃ i j : Int, w = [.int i, .int j] ∧ (-(2 ^ 62) ≤ i ∧ i < 2 ^ 62 ∧ -(2 ^ 62) ≤ j ∧ j < 2 ^ 62) ∧ u = rangeW i (j - i).toNat := by
  unfold range2? at h
  split at h
  · split at h
    · rename_i z
      cases h
      rw [Bool.and_eq_true] at z
      exact ⟨_, _, rfl, ⟨(small62_of z.1).1, (small62_of z.1).2, (small62_of z.2).1, (small62_of z.2).2⟩, rfl⟩
    · cases h
  · cases h
theorem rp_int {K : PySem.W.Frag} {Ex : Addr → Nat → Prop} {O : Addr → Prop} {H : Hp} {v : V} {i : Int} (r : Rp K Ex O H v (.int i)) : v = .int i := by cases r; rfl
theorem rpA1 {K : PySem.W.Frag} {Ex : Addr → Nat → Prop} {O : Addr → Prop} {H : Hp} {vs : List V} {a : W} (r : RpA K Ex O H vs [a]) : ∃ v, vs = [v] ∧ Rp K Ex O H v a := by
  cases r with
  | cons x y => cases y; exact ⟨_, rfl, x⟩
theorem rpA2 {K : PySem.W.Frag} {Ex : Addr → Nat → Prop} {O : Addr → Prop} {H : Hp} {vs : List V} {a b : W} (r : RpA K Ex O H vs [a, b]) : ∃ v u, vs = [v, u] ∧ Rp K Ex O H v a ∧ Rp K Ex O H u b := by
  cases r with
  | cons x y =>
    obtain ⟨u, rfl, r⟩ := rpA1 y
    exact ⟨_, _, rfl, x, r⟩
theorem di_range1 {pu : Bool} {a : Expr} {p pos : Pos} {m : M (List W)} (hm : X.mg "range" = none) (ha : DL X Y pu [a] m) (hg : Gl X "range" := by rfl) (hs : starEach [a] X.env = [(false, eval a X.env)] := by rfl) : DI X Y pu tg (.Call (.Name "range" p) [a] [] pos) (mRng1 m) := by
  refine ⟨_, pi_range1 hg hm ha.pa hs, fun σ H R h => ?_⟩
  obtain ⟨Oc, d, rs, h⟩ := h
  refine ⟨Oc, d, rs, (Po.bind1 h).imp fun w d1 H1 g1 h1 v r => ?_⟩
  obtain ⟨ws, ew, k⟩ := Po.opt h1
  obtain ⟨j, rfl, b1, b2, rfl⟩ := range1_some ew
  obtain ⟨u, rfl, r1⟩ := rpA1 r
  exact ⟨j, by rw [rp_int r1], b1, b2, k H1 (.refl g1.rs) _ _ wk_range trivial⟩
theorem di_range2 {pu : Bool} {a b : Expr} {p pos : Pos} {m : M (List W)} (hm : X.mg "range" = none) (ha : DL X Y pu [a, b] m) (hg : Gl X "range" := by rfl) (hs : starEach [a, b] X.env = [(false, eval a X.env), (false, eval b X.env)] := by rfl) (hs2 : starEach [b] X.env = [(false, eval b X.env)] := by rfl) :
    DI X Y pu tg (.Call (.Name "range" p) [a, b] [] pos) (mRng2 m) := by
  refine ⟨_, pi_range2 hg hm ha.pa hs hs2, fun σ H R h => ?_⟩
  obtain ⟨Oc, d, rs, h⟩ := h
  refine ⟨Oc, d, rs, (Po.bind1 h).imp fun w d1 H1 g1 h1 v r => ?_⟩
  obtain ⟨ws, ew, k⟩ := Po.opt h1
  obtain ⟨i, j, rfl, b1, rfl⟩ := range2_some ew
  obtain ⟨u, u2, rfl, r1, r2⟩ := rpA2 r
  exact ⟨i, j, by rw [rp_int r1, rp_int r2], b1, k H1 (.refl g1.rs) _ _ wk_range trivial⟩
end

/-! ### for -/
def forD (g : GW) (body : MS) : List W → MS
  | [], d => .next d
  | w :: ws, d => match g w d with
    | none => .bad
    | some d1 => match body d1 with
      | .next d2 => forD g body ws d2
      | .cont d2 => forD g body ws d2
      | .brk d2 => .next d2
      | .ret r d2 => .ret r d2
      | .exc c d2 => .exc c d2
      | .bad => .bad
def mFor (it : M (List W)) (g : GW) (body : MS) : MS := fun d => (it d).toS fun ws d1 => forD g body ws d1
section
variable {X : Cx} {Y : Yx}
theorem ds_for {pu : Bool} {tg iter : Expr} {body : List Stmt} {pos : Pos} {mi : M (List W)} {g : GW} {is : List Nat} {b : MS} (hp : PassesOwn (model X.prog X.w) X.A X.env X.xe) (hc : X.calm = true) (hi : DI X Y pu tg iter mi) (hg : DG X Y tg g is) (hb : DSs X Y body b)
    (hs : ∀ x, foldedSetIterable iter X.env x = pure x := by intro _; rfl) : DS X Y (.For tg iter body [] pos) (mFor mi g b) := by
  obtain ⟨wi, pi, hwi⟩ := hi.pi
  refine ⟨ps_weak (ps_for hp hc pi hg.pg hb.ps hs) fun D σ H h => ?_⟩
  obtain ⟨Oc, d, rs, h⟩ := h
  refine hwi σ H _ ⟨Oc, d, rs, (Po.toS h).imp fun ws d1 H1 g1 h1 J S wk hS => ?_⟩
  refine ⟨fun i m σ' H' => m = ws.length - i ∧ i ≤ ws.length ∧ ∃ d', RS X.K Y.Ex Oc H' d' σ' ∧ S (Ow Oc d' σ') H' ∧ PoS X Y Oc d' σ' H' (forD g b (ws.drop i) d') D, ⟨ws.length, by simp, Nat.zero_le _, d1, g1.rs, hS, h1⟩, ?_⟩
  rintro i m σ' H' ⟨rfl, hi, d', rs', hS', h'⟩
  by_cases lt : i < ws.length
  · refine .inr ⟨wk.go _ _ _ hS' lt, fun σ2 H2 => ∃ d2, RS X.K Y.Ex Oc H2 d2 σ2 ∧ S (Ow Oc d2 σ2) H2 ∧ PoS X Y Oc d2 σ2 H2 (forD g b (ws.drop (i + 1)) d2) D, fun σ2 H2 ⟨d2, a1, a2, a3⟩ => ⟨ws.length - (i + 1), by omega, rfl, lt, d2, a1, a2, a3⟩, fun x H2 y => ?_⟩
    obtain ⟨sm, hr⟩ := wk.yld (Ow Oc d' σ') H' i x H2 (fun a z => rs'.there z) hS' y
    have rx := hr _ (List.getElem?_eq_getElem lt)
    have go2 : GoS X.K Y.Ex Oc d' σ' H' d' σ' H2 := (Go.same (pu := true) rs' sm).toS
    have hS2 := wk.keep _ _ _ _ go2.ke hS'
    have h2 := PoS.from go2 h'
    rw [List.drop_eq_getElem_cons lt] at h2
    unfold forD at h2
    cases q : g ws[i] d' with
    | none => rw [q] at h2; exact h2.elim
    | some d1' =>
      rw [q] at h2
      refine ⟨Oc, d', _, d1', go2.rs, rx, q, fun σ3 g3 _ => ⟨Oc, d1', g3.rs, ?_⟩⟩
      have h3 := PoS.from g3 h2
      dsimp only at h3
      have hS3 := wk.keep _ _ _ _ g3.ke hS2
      cases qb : b d1' with
      | next d2 => rw [qb] at h3; exact fun σ4 H4 g4 => ⟨d2, g4.rs, wk.keep _ _ _ _ g4.ke hS3, PoS.from g4 h3⟩
      | cont d2 => rw [qb] at h3; exact fun σ4 H4 g4 => ⟨d2, g4.rs, wk.keep _ _ _ _ g4.ke hS3, PoS.from g4 h3⟩
      | brk d2 => rw [qb] at h3; exact h3
      | ret r d2 => rw [qb] at h3; cases r <;> exact h3
      | exc c d2 => rw [qb] at h3; exact h3
      | bad => rw [qb] at h3; exact h3
  · have e : i = ws.length := by omega
    subst e
    rw [List.drop_length] at h'
    exact .inl ⟨wk.stop _ _ _ hS' (Nat.le_refl _), h' σ' H' (.refl rs')⟩

/-! ### while -/
def whileF (t : M Bool) (b : MS) : Nat → SD → Option SOut
  | 0, _ => none
  | n + 1, d => match t d with
    | .ok true d1 => match b d1 with
      | .next d2 => whileF t b n d2
      | .cont d2 => whileF t b n d2
      | .brk d2 => some (.next d2)
      | .ret r d2 => some (.ret r d2)
      | .exc c d2 => some (.exc c d2)
      | .bad => some .bad
    | .ok false d1 => some (.next d1)
    | .exc c d1 => some (.exc c d1)
    | .bad => some .bad
open Classical in
noncomputable def mWhile (t : M Bool) (b : MS) : MS := fun d => if h : ∃ n o, whileF t b n d = some o then h.choose_spec.choose else .bad
theorem whileF_mono {t : M Bool} {b : MS} {o : SOut} : ∀ {n : Nat} {d : SD} (m : Nat), whileF t b n d = some o → whileF t b (n + m) d = some o
  | 0, _, _, h => by cases h
  | n + 1, d, m, h => by
    rw [show n + 1 + m = (n + m) + 1 by omega]
    unfold whileF at h ⊢
    cases q : t d with
    | bad => rw [q] at h; exact h
    | exc c d1 => rw [q] at h; exact h
    | ok k d1 =>
      rw [q] at h
      cases k with
      | false => exact h
      | true =>
        dsimp only at h ⊢
        cases qb : b d1 with
        | next d2 => rw [qb] at h; exact whileF_mono m h
        | cont d2 => rw [qb] at h; exact whileF_mono m h
        | brk d2 => rw [qb] at h; exact h
        | ret r d2 => rw [qb] at h; exact h
        | exc c d2 => rw [qb] at h; exact h
        | bad => rw [qb] at h; exact h
theorem mWhile_eq {t : M Bool} {b : MS} {o : SOut} {n : Nat} {d : SD} (h : whileF t b n d = some o) : mWhile t b d = o := by
  unfold mWhile
  have hh : ∃ n o, whileF t b n d = some o := ⟨n, o, h⟩
  rw [dif_pos hh]
  have e := hh.choose_spec.choose_spec
  have e1 := whileF_mono n e
  have e2 := whileF_mono hh.choose h
  rw [Nat.add_comm] at e2
  exact Option.some.inj (e1.symm.trans e2)
theorem ds_while {pu : Bool} {c : Expr} {body : List Stmt} {pos : Pos} {t : M Bool} {b : MS} (hp : PassesOwn (model X.prog X.w) X.A X.env X.xe) (hc : DT X Y pu c t) (hb : DSs X Y body b) : DS X Y (.While c body [] pos) (mWhile t b) := by
  refine ⟨ps_weak (ps_while hp hc.pt hb.ps) fun D σ H h => ?_⟩
  obtain ⟨Oc, d, rs, h⟩ := h
  by_cases hh : ∃ n o, whileF t b n d = some o
  · obtain ⟨n, o, hn⟩ := hh
    rw [mWhile_eq hn] at h
    refine ⟨fun m σ' H' => ∃ d', RS X.K Y.Ex Oc H' d' σ' ∧ ∃ o, whileF t b m d' = some o ∧ PoS X Y Oc d' σ' H' o D, ⟨n, d, rs, o, hn, h⟩, ?_⟩
    rintro m σ' H' ⟨d', rs', o', hm, h'⟩
    cases m with
    | zero => cases hm
    | succ m =>
      unfold whileF at hm
      refine ⟨Oc, d', rs', ?_⟩
      cases q : t d' with
      | bad => rw [q] at hm; cases hm; exact h'
      | exc c d1 => rw [q] at hm; cases hm; exact fun H1 g1 => h' σ' H1 g1.toS
      | ok k d1 =>
        rw [q] at hm
        intro H1 g1 rs1
        have h1 := PoS.from g1.toS h'
        cases k with
        | false => cases hm; exact iteF (h1 σ' H1 (.refl rs1))
        | true =>
          dsimp only at hm
          refine iteT ⟨fun σ2 H2 => ∃ d2, RS X.K Y.Ex Oc H2 d2 σ2 ∧ ∃ o, whileF t b m d2 = some o ∧ PoS X Y Oc d2 σ2 H2 o D, fun σ2 H2 z => ⟨m, Nat.lt_succ_self _, z⟩, Oc, d1, rs1, ?_⟩
          cases qb : b d1 with
          | next d2 => rw [qb] at hm; exact fun σ4 H4 g4 => ⟨d2, g4.rs, o', hm, PoS.from g4 h1⟩
          | cont d2 => rw [qb] at hm; exact fun σ4 H4 g4 => ⟨d2, g4.rs, o', hm, PoS.from g4 h1⟩
          | brk d2 => rw [qb] at hm; cases hm; exact h1
          | ret r d2 => rw [qb] at hm; cases hm; cases r <;> exact h1
          | exc c d2 => rw [qb] at hm; cases hm; exact h1
          | bad => rw [qb] at hm; cases hm; exact h1
  · unfold mWhile at h
    rw [dif_neg hh] at h
    exact h.elim
end
end Qd
end
section
set_option Elab.async false
set_option linter.all false
set_option maxRecDepth 100000
/-! New objects; list comprehensions by their data. -/
namespace Qd
open PySem PySem.Spec PyProof.Rows L2

section
variable {K : PySem.W.Frag} {Ex : Addr → Nat → Prop} {Oc : Addr → Prop} {H H' : Hp} {d d' : SD} {σ : St} {p : Addr}
theorem same_new {o : HO} (np : H p = none) : Same H (upd H p o) := fun b x e => by rw [upd_ne (ne_of_none e np)]; exact e
theorem RS.nOw (rs : RS K Ex Oc H d σ) (np : H p = none) : ¬ Ow Oc d σ p := fun q => by
  obtain ⟨o, e⟩ := rs.there q
  rw [np] at e; cases e
/-- a place that was free, before -/
theorem Go.free {pu : Bool} (g : Go K Ex Oc pu σ d H d' H') (np : H' p = none) : H p = none := by
  cases q : H p with
  | none => rfl
  | some o =>
    by_cases m : Mine d σ p
    · obtain ⟨o', e⟩ := g.rs.there (.inr (g.sim.mine.mpr m))
      rw [np] at e; cases e
    · rw [g.fr p o q m] at np; cases np
theorem ow_with {a : Addr} : Ow (With Oc p) d σ a ↔ Ow Oc d σ a ∨ a = p := by
  constructor
  · rintro ((h | h) | h)
    · exact .inl (.inl h)
    · exact .inr h
    · exact .inl (.inr h)
  · rintro ((h | h) | h)
    · exact .inl (.inl h)
    · exact .inr h
    · exact .inl (.inr h)
theorem ke_with : Ke (Ow (With Oc p) d σ) H (Ow Oc d σ) H := fun a u n e => ⟨fun z => n (ow_with.mpr (.inl z)), e⟩
theorem ke_new {o : HO} (np : H p = none) : Ke (Ow Oc d σ) H (Ow (With Oc p) d σ) (upd H p o) := fun a u n e => by
  have ne : a ≠ p := ne_of_none e np
  exact ⟨fun z => (ow_with.mp z).elim n ne, by rw [upd_ne ne]; exact e⟩
theorem Thr.new {o : HO} (t : Thr Ex Oc H) (np : H p = none) : Thr Ex (With Oc p) (upd H p o) := ⟨fun a h => by
    rcases h with h | h
    · obtain ⟨u, e⟩ := t.at_ a h
      have ne : a ≠ p := ne_of_none e np
      exact ⟨u, by rw [upd_ne ne]; exact e⟩
    · rw [h]; exact ⟨o, upd_same⟩, fun a h => by
    obtain ⟨e, n⟩ := t.tb a h
    have ne : a ≠ p := ne_of_none e np
    exact ⟨by rw [upd_ne ne]; exact e, fun z => z.elim n ne⟩⟩
theorem Thr.poke {o : HO} (t : Thr Ex Oc H) (hp : Oc p) : Thr Ex Oc (upd H p o) := ⟨fun a h => by
    by_cases e : a = p
    · rw [e]; exact ⟨o, upd_same⟩
    · rw [upd_ne e]; exact t.at_ a h, fun a h => by
    obtain ⟨e, n⟩ := t.tb a h
    exact ⟨by rw [upd_ne fun z => n (by rw [z]; exact hp)]; exact e, n⟩⟩
/-- a new object, not yet anybody's -/
theorem RS.withNew {o : HO} (rs : RS K Ex Oc H d σ) (np : H p = none) : RS K Ex (With Oc p) (upd H p o) d σ := by
  have nw := rs.nOw np
  refine ⟨rs.len, fun i w h => ?_, fun i s w h1 h2 => ?_, rs.sep, rs.oc.new np⟩
  · obtain ⟨v, e, r⟩ := rs.val i w h
    exact ⟨v, e, r.mono (ke_new np) fun _ _ z => z⟩
  · obtain ⟨q, e, n, ob⟩ := rs.own i s w h1 h2
    have ne : q ≠ p := fun z => nw (.inr ⟨i, s, w, h1, h2, by rw [← z]; exact e⟩)
    exact ⟨q, e, fun z => z.elim n ne, ob.mono (ke_new np) (fun _ _ z => z) (upd_ne ne)⟩
/-- an object of somebody else's is written -/
theorem RS.poke {o : HO} (rs : RS K Ex Oc H d σ) (hp : Oc p) : RS K Ex Oc (upd H p o) d σ := by
  have ke : Ke (Ow Oc d σ) H (Ow Oc d σ) (upd H p o) := fun a u n e => ⟨n, by rw [upd_ne fun z => n (.inl (by rw [z]; exact hp))]; exact e⟩
  refine ⟨rs.len, fun i w h => ?_, fun i s w h1 h2 => ?_, rs.sep, rs.oc.poke hp⟩
  · obtain ⟨v, e, r⟩ := rs.val i w h
    exact ⟨v, e, r.mono ke fun _ _ z => z⟩
  · obtain ⟨q, e, n, ob⟩ := rs.own i s w h1 h2
    exact ⟨q, e, n, ob.mono ke (fun _ _ z => z) (upd_ne fun z => n (by rw [z]; exact hp))⟩
theorem RS.less (rs : RS K Ex (With Oc p) H d σ) : RS K Ex Oc H d σ := by
  refine ⟨rs.len, fun i w h => ?_, fun i s w h1 h2 => ?_, rs.sep, rs.oc.sub fun a h => .inl h⟩
  · obtain ⟨v, e, r⟩ := rs.val i w h
    exact ⟨v, e, r.mono ke_with fun _ _ z => z⟩
  · obtain ⟨q, e, n, ob⟩ := rs.own i s w h1 h2
    exact ⟨q, e, fun z => n (.inl z), ob.mono ke_with (fun _ _ z => z) rfl⟩
end

/-! ### expressions whose value is a new object that nobody else holds -/
def tF (X : Cx) (Y : Yx) (pu : Bool) (m : M W) : TE := fun σ H Q => ∃ Oc d, RS X.K Y.Ex Oc H d σ ∧ Po X Y pu Oc σ d H (m d) fun w d' H' => ∀ p, H p = none → RS X.K Y.Ex (With Oc p) H' d' σ → Ob X.K Y.Ex (Ow (With Oc p) d' σ) H' p w → Q (.ref p) H'
structure DF (X : Cx) (Y : Yx) (pu : Bool) (e : Expr) (m : M W) : Prop where
  pe : PE X e (tF X Y pu m)
theorem RS.nMine {K : PySem.W.Frag} {Ex : Addr → Nat → Prop} {Oc : Addr → Prop} {H : Hp} {d : SD} {σ : St} {p : Addr} (rs : RS K Ex Oc H d σ) (h : Oc p) : ¬ Mine d σ p := fun ⟨i, s, w, h1, h2, h3⟩ => by
  obtain ⟨q, e, n, _⟩ := rs.own i s w h1 h2
  rw [h3] at e; cases e
  exact n h
section
variable {X : Cx} {Y : Yx}
theorem tF_of {pu : Bool} {m : M W} (σ : St) (H : Hp) (Q : VK) (h : tE X Y pu m σ H Q) : tF X Y pu m σ H Q := by
  obtain ⟨Oc, d, rs, h⟩ := h
  refine ⟨Oc, d, rs, h.imp fun w d1 H1 g1 k p np rs1 ob => k _ ?_⟩
  refine (ob.mono ke_with (fun _ _ z => z) rfl).rp fun z => ?_
  rcases z with z | z
  · obtain ⟨o, e⟩ := rs.oc.at_ p z
    rw [np] at e; cases e
  · exact rs1.nMine (.inr rfl) z
theorem DF.e {pu : Bool} {e : Expr} {m : M W} (h : DF X Y pu e m) : DE X Y pu e m := ⟨pe_weak h.pe tF_of⟩
def mLst (a : M (List W)) : M W := fun d => (a d).bind fun ws d1 => if ws.length ≤ sizeLine then .ok (.list ws) d1 else .bad
def mTup (a : M (List W)) : M W := fun d => (a d).bind fun ws d1 => if ws.length ≤ sizeLine then .ok (.tuple ws) d1 else .bad
theorem d_tup {pu : Bool} {es : List Expr} {j : Nat} {pos : Pos} {a : M (List W)} (h : DL X Y pu es a) : DE X Y pu (.Tuple es j pos) (mTup a) := ⟨by
  refine pe_weak (pe_tup h.pa) fun σ H Q h => ?_
  obtain ⟨Oc, d, rs, h⟩ := h
  refine ⟨Oc, d, rs, (Po.bind1 h).imp fun ws d1 H1 g1 h1 v r => ?_⟩
  by_cases z : ws.length ≤ sizeLine
  · rw [if_pos z] at h1
    refine ⟨by rw [r.length]; exact z, fun p np => ?_⟩
    have sm : Same H1 (upd H1 p (.tup v)) := same_new np
    exact h1 _ (.same g1.rs sm) _ (.tup (.inl ⟨g1.rs.nOw np, upd_same⟩) (r.mono (fun a u n e => ⟨n, sm a u e⟩) fun _ _ z => z))
  · rw [if_neg z] at h1; exact h1.elim⟩
theorem df_lst {pu : Bool} {es : List Expr} {pos : Pos} {a : M (List W)} (h : DL X Y pu es a) : DF X Y pu (.List es pos) (mLst a) := ⟨by
  refine pe_weak (pe_lst h.pa) fun σ H Q h => ?_
  obtain ⟨Oc, d, rs, h⟩ := h
  refine ⟨Oc, d, rs, (Po.bind1 h).imp fun ws d1 H1 g1 h1 v r => ?_⟩
  by_cases z : ws.length ≤ sizeLine
  · rw [if_pos z] at h1
    refine ⟨by rw [r.length]; exact z, fun p np => ?_⟩
    exact h1 _ (.same g1.rs (same_new np)) p (g1.free np) (g1.rs.withNew np) ⟨v, upd_same, r.mono (ke_new np) fun _ _ z => z⟩
  · rw [if_neg z] at h1; exact h1.elim⟩
end
/-- name = a new object of its own -/
def storeOwn (i : Nat) (w : W) (d : SD) : Option SD := match d[i]? with
  | some (some (.par _)) => none
  | some _ => some (d.set i (some (.own w)))
  | none => none
def mAsgOwn (i : Nat) (a : M W) : MS := fun d => (a d).toS fun w d1 => sOpt (storeOwn i w d1)
theorem storeOwn_lt {i : Nat} {w : W} {d d' : SD} (h : storeOwn i w d = some d') : i < d.length ∧ d' = d.set i (some (.own w)) ∧ ∀ u, d[i]? ≠ some (some (.par u)) := by
  unfold storeOwn at h
  cases q : d[i]? with
  | none => rw [q] at h; cases h
  | some x =>
    obtain ⟨lt, _⟩ := List.getElem?_eq_some_iff.mp q
    rw [q] at h
    rcases x with _ | (w' | w' | w')
    · exact ⟨lt, (Option.some.inj h).symm, fun u e => nomatch e⟩
    · exact ⟨lt, (Option.some.inj h).symm, fun u e => nomatch e⟩
    · exact ⟨lt, (Option.some.inj h).symm, fun u e => nomatch e⟩
    · cases h
theorem storeOwn_go {K : PySem.W.Frag} {Ex : Addr → Nat → Prop} {Oc : Addr → Prop} {H : Hp} {d d' : SD} {σ : St} {i : Nat} {w : W} {p : Addr} (no : ¬ Oc p) (rs : RS K Ex (With Oc p) H d σ) (ob : Ob K Ex (Ow (With Oc p) d σ) H p w) (h : storeOwn i w d = some d') :
    RS K Ex Oc H d' (σ.set i (some (.ref p))) ∧ (∀ a, Mine d' (σ.set i (some (.ref p))) a → Mine d σ a ∨ a = p) ∧ ∀ (j : Nat) (u : W), d[j]? = some (some (.par u)) → (∃ w', d'[j]? = some (some (.par w'))) ∧ (σ.set i (some (V.ref p)))[j]? = σ[j]? := by
  obtain ⟨lt, rfl, npar⟩ := storeOwn_lt h
  have ltσ : i < σ.length := by rw [← rs.len]; exact lt
  have mi : ∀ a, Mine (d.set i (some (.own w))) (σ.set i (some (.ref p))) a → Mine d σ a ∨ a = p := by
    rintro a ⟨j, s, u, h1, h2, h3⟩
    by_cases e : i = j
    · subst e
      rw [List.getElem?_set_self ltσ] at h3
      cases h3; exact .inr rfl
    · rw [List.getElem?_set_ne e] at h1 h3
      exact .inl ⟨j, s, u, h1, h2, h3⟩
  have ke : Ke (Ow (With Oc p) d σ) H (Ow Oc (d.set i (some (.own w))) (σ.set i (some (.ref p)))) H := fun a u n e => ⟨fun z => n (by
    rcases z with z | z
    · exact .inl (.inl z)
    · rcases mi a z with z | z
      · exact .inr z
      · exact .inl (.inr z)), e⟩
  have np : ∀ (j : Nat) (s : Slot) (u : W), d[j]? = some (some s) → Slot.mine? s = some u → σ[j]? ≠ some (some (.ref p)) := fun j s u e1 e2 e3 => rs.nMine (.inr rfl) ⟨j, s, u, e1, e2, e3⟩
  refine ⟨⟨by rw [List.length_set, List.length_set]; exact rs.len, fun j u e => ?_, fun j s u e1 e2 => ?_, fun j k s t u u' q ne e1 e2 e3 e4 e5 => ?_, rs.oc.sub fun a h => .inl h⟩, mi, fun j u e => ?_⟩
  · by_cases ej : i = j
    · subst ej
      rw [List.getElem?_set_self lt] at e
      cases e
    · rw [List.getElem?_set_ne ej] at e
      obtain ⟨v, e', r⟩ := rs.val j u e
      exact ⟨v, by rw [List.getElem?_set_ne ej]; exact e', r.mono ke fun _ _ z => z⟩
  · by_cases ej : i = j
    · subst ej
      rw [List.getElem?_set_self lt] at e1
      cases e1; cases e2
      exact ⟨p, List.getElem?_set_self ltσ, no, ob.mono ke (fun _ _ z => z) rfl⟩
    · rw [List.getElem?_set_ne ej] at e1
      obtain ⟨q, e', n, ob'⟩ := rs.own j s u e1 e2
      exact ⟨q, by rw [List.getElem?_set_ne ej]; exact e', fun z => n (.inl z), ob'.mono ke (fun _ _ z => z) rfl⟩
  · by_cases ej : i = j
    · subst ej
      rw [List.getElem?_set_self ltσ] at e5
      cases e5
      have ek : i ≠ k := ne
      rw [List.getElem?_set_ne ek] at e3 ⊢
      exact np k t u' e3 e4
    · rw [List.getElem?_set_ne ej] at e1 e5
      by_cases ek : i = k
      · subst ek
        rw [List.getElem?_set_self ltσ]
        intro z
        cases z
        exact np j s u e1 e2 e5
      · rw [List.getElem?_set_ne ek] at e3 ⊢
        exact rs.sep j k s t u u' q ne e1 e2 e3 e4 e5
  · have ne : i ≠ j := fun z => by
      subst z
      exact npar u e
    exact ⟨⟨u, by rw [List.getElem?_set_ne ne]; exact e⟩, by rw [List.getElem?_set_ne ne]⟩
theorem ds_ofF {X : Cx} {Y : Yx} {pu : Bool} {i : Nat} {st : Stmt} {m : M W} (hp : PS X st (tAsg (tF X Y pu m) (gName i))) : DS X Y st (mAsgOwn i m) := by
  refine ⟨ps_weak hp fun D σ H h => ?_⟩
  obtain ⟨Oc, d, rs, h⟩ := h
  cases q0 : m d with
  | bad => unfold mAsgOwn at h; rw [q0] at h; exact h.elim
  | exc c d1 =>
    unfold mAsgOwn at h; rw [q0] at h
    refine ⟨Oc, d, rs, ?_⟩
    rw [q0]
    exact fun H1 g1 => h σ H1 g1.toS
  | ok w d1 =>
    unfold mAsgOwn at h; rw [q0] at h
    refine ⟨Oc, d, rs, ?_⟩
    rw [q0]
    intro H1 g1 p np rs1 ob
    have h : PoS X Y Oc d σ H (sOpt (storeOwn i w d1)) D := h
    cases q : storeOwn i w d1 with
    | none => rw [q] at h; exact h.elim
    | some d2 =>
      rw [q] at h
      have no : ¬ Oc p := fun z => by
        obtain ⟨o, e⟩ := rs.oc.at_ p z
        rw [np] at e; cases e
      obtain ⟨a1, a2, a3⟩ := storeOwn_go no rs1 ob q
      refine h _ H1 ⟨a1, g1.fr, fun a z => ?_, fun j u e => ?_⟩
      · rcases a2 a z with z | z
        · exact .inl (g1.sim.mine.mp z)
        · rw [z]; exact .inr np
      · obtain ⟨⟨w', e'⟩, _⟩ := g1.toS.par j u e
        obtain ⟨b1, b2⟩ := a3 j w' e'
        exact ⟨b1, b2⟩
theorem ds_setOwn {X : Cx} {Y : Yx} {pu : Bool} {i : Nat} {x : Str} {e : Expr} {pos pos' : Pos} {m : M W} (hN : X.N.Nodup) (he : DF X Y pu e m) (hi : X.N[i]? = some x := by rfl) (hx : Loc X.env.scope x := by first | exact .inl rfl | exact .inr rfl) (hs : swapsWith e (some (.Name x pos')) pos.line X.env = pure false := by rfl)
    (hf : X.fn x = true ∨ X.env.scope.names.lookup x = some .local := by first | exact .inl rfl | exact .inr rfl | assumption) : DS X Y (.Assign [.Name x pos'] e pos) (mAsgOwn i m) := ds_ofF (ps_set hN hi hx he.pe hs hf)

/-! ### list comprehensions -/
def wipeD (d : SD) : List Nat → SD
  | [] => d
  | v :: vs => (wipeD d vs).set v none
def backD (d0 : SD) : List Nat → SD → SD
  | [], d => d
  | v :: vs, d => (backD d0 vs d).set v (d0.getD v none)
def cleanD (d : SD) : List Nat → Bool
  | [] => true
  | v :: vs => (match d[v]? with
    | some (some (.own _)) => false
    | some (some (.par _)) => false
    | _ => true) && cleanD d vs
def lcD (vs : List Nat) (g : GW) (t : M Bool) (e : M W) : List W → M (List W)
  | [], d => .ok [] d
  | w :: ws, d => match g w (wipeD d vs) with
    | none => .bad
    | some d1 => (t d1).bind fun b d2 => if b = true then (e d2).bind fun y d3 => (lcD vs g t e ws d3).bind fun ys d4 => .ok (y :: ys) d4 else lcD vs g t e ws d2
def mLc (vs : List Nat) (it : M (List W)) (g : GW) (t : M Bool) (e : M W) : M W := fun d => (it d).bind fun ws d1 => if cleanD d1 vs = true ∧ ws.length ≤ sizeLine then
  (match lcD vs g t e ws d1 with
    | .ok ys d2 => .ok (.list ys) (backD d1 vs d2)
    | _ => .bad) else .bad
theorem wipeD_length (d : SD) : ∀ vs : List Nat, (wipeD d vs).length = d.length
  | [] => rfl
  | v :: vs => by unfold wipeD; rw [List.length_set, wipeD_length d vs]
theorem backD_length (d0 d : SD) : ∀ vs : List Nat, (backD d0 vs d).length = d.length
  | [] => rfl
  | v :: vs => by unfold backD; rw [List.length_set, backD_length d0 d vs]
theorem wipeD_out {d : SD} {j : Nat} : ∀ {vs : List Nat}, j ∉ vs → (wipeD d vs)[j]? = d[j]?
  | [], _ => rfl
  | v :: vs, h => by
    unfold wipeD
    rw [List.getElem?_set_ne fun e => h (by rw [e]; exact List.mem_cons_self)]
    exact wipeD_out fun z => h (List.mem_cons_of_mem _ z)
theorem wipeD_in {d : SD} {j : Nat} : ∀ {vs : List Nat}, j ∈ vs → j < d.length → (wipeD d vs)[j]? = some none
  | [], h, _ => by cases h
  | v :: vs, h, l => by
    unfold wipeD
    by_cases e : v = j
    · subst e
      exact List.getElem?_set_self (by rw [wipeD_length]; exact l)
    · rw [List.getElem?_set_ne e]
      exact wipeD_in ((List.mem_cons.mp h).resolve_left fun z => e z.symm) l
theorem backD_out {d0 d : SD} {j : Nat} : ∀ {vs : List Nat}, j ∉ vs → (backD d0 vs d)[j]? = d[j]?
  | [], _ => rfl
  | v :: vs, h => by
    unfold backD
    rw [List.getElem?_set_ne fun e => h (by rw [e]; exact List.mem_cons_self)]
    exact backD_out fun z => h (List.mem_cons_of_mem _ z)
theorem backD_in {d0 d : SD} {j : Nat} : ∀ {vs : List Nat}, j ∈ vs → j < d.length → d0.length = d.length → (backD d0 vs d)[j]? = d0[j]?
  | [], h, _, _ => by cases h
  | v :: vs, h, l, ll => by
    unfold backD
    by_cases e : v = j
    · subst e
      rw [List.getElem?_set_self (by rw [backD_length]; exact l)]
      have l0 : v < d0.length := by rw [ll]; exact l
      rw [List.getElem?_eq_getElem l0]
      rw [List.getD_eq_getElem?_getD, List.getElem?_eq_getElem l0]
      rfl
    · rw [List.getElem?_set_ne e]
      exact backD_in ((List.mem_cons.mp h).resolve_left fun z => e z.symm) l ll
theorem cleanD_at {d : SD} {j : Nat} {s : Slot} {w : W} (e1 : d[j]? = some (some s)) (e2 : Slot.mine? s = some w) : ∀ {vs : List Nat}, cleanD d vs = true → j ∉ vs
  | [], _ => by simp
  | v :: vs, h => by
    unfold cleanD at h
    rw [Bool.and_eq_true] at h
    intro hm
    rcases List.mem_cons.mp hm with e | hm
    · subst e
      rw [e1] at h
      cases s with
      | val _ => cases e2
      | own _ => exact absurd h.1 (by simp)
      | par _ => exact absurd h.1 (by simp)
    · exact cleanD_at e1 e2 h.2 hm
theorem cleanD_of {d : SD} : ∀ {vs : List Nat}, (∀ j ∈ vs, ∀ s, d[j]? = some (some s) → Slot.mine? s = none) → cleanD d vs = true
  | [], _ => rfl
  | v :: vs, h => by
    unfold cleanD
    rw [cleanD_of fun j hj => h j (List.mem_cons_of_mem _ hj), Bool.and_true]
    have hv := h v List.mem_cons_self
    cases q : d[v]? with
    | none => rfl
    | some x =>
      rcases x with _ | (w | w | w)
      · rfl
      · rfl
      · cases hv _ q
      · cases hv _ q
theorem wipe_in {σ : St} {j : Nat} : ∀ {vs : List Nat}, j ∈ vs → j < σ.length → (wipe σ vs)[j]? = some none
  | [], h, _ => by cases h
  | v :: vs, h, l => by
    unfold wipe
    by_cases e : v = j
    · subst e
      exact List.getElem?_set_self (by rw [wipe_length]; exact l)
    · rw [List.getElem?_set_ne e]
      exact wipe_in ((List.mem_cons.mp h).resolve_left fun z => e z.symm) l
theorem wipe_ext {σ σ' : St} {vs : List Nat} (hl : σ'.length = σ.length) (h : ∀ j, j ∉ vs → σ'[j]? = σ[j]?) : wipe σ' vs = wipe σ vs := by
  refine List.ext_getElem? fun j => ?_
  by_cases m : j ∈ vs
  · by_cases l : j < σ.length
    · rw [wipe_in m l, wipe_in m (by rw [hl]; exact l)]
    · rw [List.getElem?_eq_none (by rw [wipe_length, hl]; omega), List.getElem?_eq_none (by rw [wipe_length]; omega)]
  · rw [wipe_out m, wipe_out m, h j m]
section
variable {K : PySem.W.Frag} {Ex : Addr → Nat → Prop} {Oc : Addr → Prop} {H H' : Hp} {d d' : SD} {σ σ' : St} {vs : List Nat}
theorem mine_wipe (hl : d.length = σ.length) (hc : cleanD d vs = true) {a : Addr} : Mine (wipeD d vs) (wipe σ vs) a ↔ Mine d σ a := by
  constructor
  · rintro ⟨j, s, w, h1, h2, h3⟩
    have m : j ∉ vs := fun m => by
      obtain ⟨lt, _⟩ := List.getElem?_eq_some_iff.mp h1
      rw [wipeD_in m (by rw [wipeD_length] at lt; exact lt)] at h1
      cases h1
    rw [wipeD_out m] at h1
    rw [wipe_out m] at h3
    exact ⟨j, s, w, h1, h2, h3⟩
  · rintro ⟨j, s, w, h1, h2, h3⟩
    have m := cleanD_at h1 h2 hc
    exact ⟨j, s, w, by rw [wipeD_out m]; exact h1, h2, by rw [wipe_out m]; exact h3⟩
theorem RS.wipe (rs : RS K Ex Oc H d σ) (hc : cleanD d vs = true) : RS K Ex Oc H (wipeD d vs) (wipe σ vs) := by
  have ke : Ke (Ow Oc d σ) H (Ow Oc (wipeD d vs) (L2.wipe σ vs)) H := fun a u n e => ⟨fun z => n (z.imp id (mine_wipe rs.len hc).mp), e⟩
  have out : ∀ {j : Nat} {s : Slot}, (wipeD d vs)[j]? = some (some s) → j ∉ vs := fun {j s} e m => by
    obtain ⟨lt, _⟩ := List.getElem?_eq_some_iff.mp e
    rw [wipeD_in m (by rw [wipeD_length] at lt; exact lt)] at e
    cases e
  refine ⟨by rw [wipeD_length, wipe_length]; exact rs.len, fun j u e => ?_, fun j s u e1 e2 => ?_, fun j k s t u u' q ne e1 e2 e3 e4 e5 => ?_, rs.oc⟩
  · have m := out e
    rw [wipeD_out m] at e
    obtain ⟨v, e', r⟩ := rs.val j u e
    exact ⟨v, by rw [wipe_out m]; exact e', r.mono ke fun _ _ z => z⟩
  · have m := out e1
    rw [wipeD_out m] at e1
    obtain ⟨q, e', n, ob⟩ := rs.own j s u e1 e2
    exact ⟨q, by rw [wipe_out m]; exact e', n, ob.mono ke (fun _ _ z => z) rfl⟩
  · have m := out e1
    have m2 := out e3
    rw [wipeD_out m] at e1
    rw [wipe_out m] at e5
    rw [wipeD_out m2] at e3
    rw [wipe_out m2]
    exact rs.sep j k s t u u' q ne e1 e2 e3 e4 e5
end
end Qd
end
section
set_option Elab.async false
set_option linter.all false
set_option maxRecDepth 100000
/-! The rule for a list comprehension. -/
namespace Qd
open PySem PySem.Spec PyProof.Rows L2

structure DTs (X : Cx) (Y : Yx) (pu : Bool) (ifs : List Expr) (m : M Bool) : Prop where
  pts : PTs X ifs (tT X Y pu m)
def mYes : M Bool := fun d => .ok true d
section
variable {X : Cx} {Y : Yx}
theorem pts_weak {e : List Expr} {t t' : TT} (h : PTs X e t) (w : ∀ σ H Q, t' σ H Q → t σ H Q) : PTs X e t' := ⟨fun pins s σ H Q I q => h.run pins s σ H Q I (w σ H Q q)⟩
theorem dts_nil : DTs X Y true [] mYes := ⟨pts_weak pts_nil fun σ H Q h => by
  obtain ⟨Oc, d, rs, h⟩ := h
  exact h H (.refl rs) rs⟩
theorem dts_one {pu : Bool} {c : Expr} {t : M Bool} (h : DT X Y pu c t) : DTs X Y pu [c] t := ⟨pts_one h.pt⟩
end
/-- nothing is raised in a comprehension's block -/
abbrev Yx.blk (Y : Yx) : Yx := { Y with W := fun _ _ _ _ => False }

section
variable {K : PySem.W.Frag} {Ex : Addr → Nat → Prop} {Oc : Addr → Prop}
/-- between two turns: d₁, σ, H₁ ahead of the first; D the new list, acc its data -/
structure LcI (pu : Bool) (K : PySem.W.Frag) (Ex : Addr → Nat → Prop) (Oc : Addr → Prop) (S : (Addr → Prop) → Hp → Prop) (vs : List Nat) (d₁ : SD) (σ : St) (H₁ : Hp) (D : Addr) (acc : List W) (d : SD) (H : Hp) : Prop where
  rs : RS K Ex (With Oc D) H (wipeD d vs) (wipe σ vs)
  cl : cleanD d vs = true
  len : d.length = d₁.length
  out : ∀ j : Nat, j ∉ vs → SlotLike d₁[j]? d[j]?
  fr : ∀ a o, H₁ a = some o → ¬ Mine d₁ σ a → H a = some o
  acc : ∃ av, H D = some (.lst av) ∧ RpA K Ex (Ow (With Oc D) (wipeD d vs) (wipe σ vs)) H av acc
  st : S (Ow (With Oc D) (wipeD d vs) (wipe σ vs)) H
  pur : pu = true → (∀ a o, H₁ a = some o → H a = some o) ∧ ∀ j : Nat, j ∉ vs → d[j]? = d₁[j]?
theorem mine_out {d d' : SD} {σ σ' : St} {vs : List Nat} {a : Addr} (hc : cleanD d' vs = true) (hd : ∀ j : Nat, j ∉ vs → SlotLike d[j]? d'[j]?) (hσ : ∀ j : Nat, j ∉ vs → σ'[j]? = σ[j]?) (h : Mine d' σ' a) : Mine d σ a := by
  obtain ⟨j, s, w, h1, h2, h3⟩ := h
  have m := cleanD_at h1 h2 hc
  obtain ⟨s', w', e1, e2⟩ := (hd j m).mine.mpr ⟨s, w, h1, h2⟩
  exact ⟨j, s', w', e1, e2, by rw [← hσ j m]; exact h3⟩
/-- the end: the block's names are given back -/
theorem LcI.back {pu : Bool} {S : (Addr → Prop) → Hp → Prop} {vs : List Nat} {d₁ d : SD} {σ : St} {H₁ H : Hp} {D : Addr} {acc : List W} (rs₁ : RS K Ex Oc H₁ d₁ σ) (cl₁ : cleanD d₁ vs = true) (nD : H₁ D = none) (I : LcI pu K Ex Oc S vs d₁ σ H₁ D acc d H) :
    RS K Ex (With Oc D) H (backD d₁ vs d) σ ∧ Sim d₁ (backD d₁ vs d) ∧ (∀ a, Ow (With Oc D) (backD d₁ vs d) σ a → Ow (With Oc D) (wipeD d vs) (wipe σ vs) a) := by
  have sim : Sim d₁ (backD d₁ vs d) := by
    refine ⟨by rw [backD_length]; exact I.len.symm, fun j => ?_⟩
    by_cases m : j ∈ vs
    · by_cases l : j < d.length
      · rw [backD_in m l I.len.symm]; exact .refl _
      · rw [List.getElem?_eq_none (by rw [← I.len]; omega), List.getElem?_eq_none (by rw [backD_length]; omega)]; exact .refl _
    · rw [backD_out m]; exact I.out j m
  have mi : ∀ a, Mine (backD d₁ vs d) σ a → Mine (wipeD d vs) (wipe σ vs) a := by
    rintro a ⟨j, s, w, h1, h2, h3⟩
    have m : j ∉ vs := by
      obtain ⟨s', w', e1, e2⟩ := (sim.2 j).mine.mpr ⟨s, w, h1, h2⟩
      exact cleanD_at e1 e2 cl₁
    rw [backD_out m] at h1
    exact ⟨j, s, w, by rw [wipeD_out m]; exact h1, h2, by rw [wipe_out m]; exact h3⟩
  have ow : ∀ a, Ow (With Oc D) (backD d₁ vs d) σ a → Ow (With Oc D) (wipeD d vs) (wipe σ vs) a := fun a z => z.imp id (mi a)
  have mi1 : ∀ a, Mine (wipeD d vs) (wipe σ vs) a → Mine d₁ σ a := fun a z => by
    obtain ⟨j, s, w, h1, h2, h3⟩ := z
    have m : j ∉ vs := fun m => by
      obtain ⟨lt, _⟩ := List.getElem?_eq_some_iff.mp h1
      rw [wipeD_in m (by rw [wipeD_length] at lt; exact lt)] at h1
      cases h1
    rw [wipeD_out m] at h1
    rw [wipe_out m] at h3
    obtain ⟨s', w', e1, e2⟩ := (I.out j m).mine.mpr ⟨s, w, h1, h2⟩
    exact ⟨j, s', w', e1, e2, h3⟩
  have ke : Ke (Ow (With Oc D) (wipeD d vs) (wipe σ vs)) H (Ow (With Oc D) (backD d₁ vs d) σ) H := fun a u n e => ⟨fun z => n (ow a z), e⟩
  -- from the start: for the names that the block hid
  have ke1 : Ke (Ow Oc d₁ σ) H₁ (Ow (With Oc D) (backD d₁ vs d) σ) H := fun a u n e => by
    have na : a ≠ D := ne_of_none e nD
    refine ⟨fun z => ?_, I.fr a u e fun z => n (.inr z)⟩
    rcases z with (z | z) | z
    · exact n (.inl z)
    · exact na z
    · exact n (.inr (sim.mine.mp z))
  refine ⟨⟨by rw [backD_length, I.len]; exact rs₁.len, fun j u e => ?_, fun j s u e1 e2 => ?_, fun j k s t u u' q ne e1 e2 e3 e4 e5 => ?_, I.rs.oc⟩, sim, ow⟩
  · by_cases m : j ∈ vs
    · have l : j < d.length := by
        obtain ⟨lt, _⟩ := List.getElem?_eq_some_iff.mp e
        rw [backD_length] at lt; exact lt
      rw [backD_in m l I.len.symm] at e
      obtain ⟨v, e', r⟩ := rs₁.val j u e
      exact ⟨v, e', r.mono ke1 fun _ _ z => z⟩
    · rw [backD_out m] at e
      obtain ⟨v, e', r⟩ := I.rs.val j u (by rw [wipeD_out m]; exact e)
      exact ⟨v, by rw [wipe_out m] at e'; exact e', r.mono ke fun _ _ z => z⟩
  · have m : j ∉ vs := by
      obtain ⟨s', w', f1, f2⟩ := (sim.2 j).mine.mpr ⟨s, u, e1, e2⟩
      exact cleanD_at f1 f2 cl₁
    rw [backD_out m] at e1
    obtain ⟨q, e', n, ob⟩ := I.rs.own j s u (by rw [wipeD_out m]; exact e1) e2
    exact ⟨q, by rw [wipe_out m] at e'; exact e', n, ob.mono ke (fun _ _ z => z) rfl⟩
  · have m : j ∉ vs := by
      obtain ⟨s', w', f1, f2⟩ := (sim.2 j).mine.mpr ⟨s, u, e1, e2⟩
      exact cleanD_at f1 f2 cl₁
    have m2 : k ∉ vs := by
      obtain ⟨s', w', f1, f2⟩ := (sim.2 k).mine.mpr ⟨t, u', e3, e4⟩
      exact cleanD_at f1 f2 cl₁
    rw [backD_out m] at e1
    rw [backD_out m2] at e3
    have z := I.rs.sep j k s t u u' q ne (by rw [wipeD_out m]; exact e1) e2 (by rw [wipeD_out m2]; exact e3) e4 (by rw [wipe_out m]; exact e5)
    rw [wipe_out m2] at z
    exact z
end

section
variable {X : Cx} {Y : Yx}
theorem t_lc {pi pt pe : Bool} {tg iter : Expr} {mi : M (List W)} {g : GW} {is vs : List Nat} {t : M Bool} {e : M W} {wi : TI} (hwi : ∀ σ H R, tI X Y pi mi σ H R → wi σ H R) (ho : ∀ w d d', g w d = some d' → Only is d d') (his : ∀ i ∈ is, i ∈ vs)
    (σ : St) (H : Hp) (Q : VK) (h : tF X Y (pi && (pt && pe)) (mLc vs mi g t e) σ H Q) : tLc wi (tG X.K Y.blk g is) (tT X Y.blk pt t) (tE X Y.blk pe e) vs σ H Q := by
  obtain ⟨Oc, d, rs, h⟩ := h
  refine hwi σ H _ ⟨Oc, d, rs, (Po.bind h).imp fun ws d₁ H₁ g₁ h₁ J S wk hS D nD => ?_⟩
  have hcl : cleanD d₁ vs = true ∧ ws.length ≤ sizeLine := by
    by_cases z : cleanD d₁ vs = true ∧ ws.length ≤ sizeLine
    · exact z
    · rw [if_neg z] at h₁; exact h₁.elim
  rw [if_pos hcl] at h₁
  obtain ⟨cl, hlen⟩ := hcl
  cases q : lcD vs g t e ws d₁ with
  | bad => rw [q] at h₁; exact h₁.elim
  | exc c d2 => rw [q] at h₁; exact h₁.elim
  | ok ys d₂ =>
    rw [q] at h₁
    have h₁ : ∀ H', Go X.K Y.Ex Oc (pt && pe) σ d₁ H₁ (backD d₁ vs d₂) H' → ∀ p, H p = none → RS X.K Y.Ex (With Oc p) H' (backD d₁ vs d₂) σ → Ob X.K Y.Ex (Ow (With Oc p) (backD d₁ vs d₂) σ) H' p (.list ys) → Q (.ref p) H' := h₁
    have start : LcI (pt && pe) X.K Y.Ex Oc S vs d₁ σ H₁ D [] d₁ (upd H₁ D (.lst [])) := by
      have r2 := g₁.rs.withNew (o := .lst []) nD
      refine ⟨r2.wipe cl, cl, rfl, fun _ _ => .refl _, fun a o e _ => by rw [upd_ne (ne_of_none e nD)]; exact e, ⟨[], upd_same, .nil⟩, wk.keep _ _ _ _ ?_ hS, fun _ => ⟨fun a o e => by rw [upd_ne (ne_of_none e nD)]; exact e, fun _ _ => rfl⟩⟩
      intro a u n e'
      have na : a ≠ D := ne_of_none e' nD
      refine ⟨fun z => ?_, by rw [upd_ne na]; exact e'⟩
      rcases z with (z | z) | z
      · exact n (.inl z)
      · exact na z
      · exact n (.inr ((mine_wipe g₁.rs.len cl).mp z))
    refine ⟨fun i m H' => m = ws.length - i ∧ i ≤ ws.length ∧ ∃ acc ys' d', LcI (pt && pe) X.K Y.Ex Oc S vs d₁ σ H₁ D acc d' H' ∧ acc.length ≤ i ∧ lcD vs g t e (ws.drop i) d' = .ok ys' d₂ ∧ acc ++ ys' = ys, ⟨ws.length, by simp, Nat.zero_le _, [], ys, d₁, start, Nat.le_refl _, q, rfl⟩, ?_⟩
    rintro i m H' ⟨rfl, hi, acc, ys', d', I, hacc, hq, hys⟩
    by_cases lt : i < ws.length
    · refine .inr ⟨wk.go _ _ _ I.st lt, fun H2 => ∃ acc ys' d', LcI (pt && pe) X.K Y.Ex Oc S vs d₁ σ H₁ D acc d' H2 ∧ acc.length ≤ i + 1 ∧ lcD vs g t e (ws.drop (i + 1)) d' = .ok ys' d₂ ∧ acc ++ ys' = ys, fun H2 z => ⟨ws.length - (i + 1), by omega, rfl, lt, z⟩, fun x H2 y => ?_⟩
      obtain ⟨sm, hr⟩ := wk.yld _ H' i x H2 (fun a z => I.rs.there z) I.st y
      have rx := hr _ (List.getElem?_eq_getElem lt)
      rw [List.drop_eq_getElem_cons lt] at hq
      unfold lcD at hq
      cases qg : g ws[i] (wipeD d' vs) with
      | none => rw [qg] at hq; cases hq
      | some d1' =>
        rw [qg] at hq
        dsimp only at hq
        have go2 := Go.same (pu := true) I.rs sm
        refine ⟨With Oc D, wipeD d' vs, _, d1', go2.rs, rx, qg, fun σ2 gs o1 => ?_⟩
        have only := ho _ _ _ qg
        have hσ2 : ∀ j : Nat, j ∉ vs → σ2[j]? = σ[j]? := fun j m => by rw [o1.2 j fun z => m (his j z), wipe_out m]
        have hσl : σ2.length = σ.length := by rw [o1.1, wipe_length]
        refine ⟨wipe_ext hσl hσ2, With Oc D, d1', gs.rs, ?_⟩
        have hD2 : ∃ av, H2 D = some (.lst av) ∧ RpA X.K Y.Ex (Ow (With Oc D) d1' σ2) H2 av acc := by
          obtain ⟨av, e1, e2⟩ := I.acc
          exact ⟨av, sm _ _ e1, (e2.mono go2.ke fun _ _ z => z).mono gs.ke fun _ _ z => z⟩
        have hS2 : S (Ow (With Oc D) d1' σ2) H2 := wk.keep _ _ _ _ gs.ke (wk.keep _ _ _ _ go2.ke I.st)
        have fr2 : ∀ a o, H₁ a = some o → ¬ Mine d₁ σ a → H2 a = some o := fun a o e n => sm a o (I.fr a o e n)
        have out1 : ∀ j : Nat, j ∉ vs → SlotLike d₁[j]? d1'[j]? := fun j m => by
          rw [only.2.1 j fun z => m (his j z), wipeD_out m]; exact I.out j m
        have cl1 : cleanD d1' vs = true := by
          refine cleanD_of fun j hj s e => ?_
          have l : j < d'.length := by
            obtain ⟨lt, _⟩ := List.getElem?_eq_some_iff.mp e
            rw [only.1, wipeD_length] at lt; exact lt
          rcases only.2.2 j with z | ⟨u, z⟩
          · rw [z, wipeD_in hj l] at e; cases e
          · rw [z] at e; cases e; rfl
        have len1 : d1'.length = d₁.length := by rw [only.1, wipeD_length]; exact I.len
        -- a later state within the turn is a state between two turns
        have pur1 : (pt && pe) = true → (∀ a o, H₁ a = some o → H2 a = some o) ∧ ∀ j : Nat, j ∉ vs → d1'[j]? = d₁[j]? := fun z => by
          obtain ⟨z1, z2⟩ := I.pur z
          exact ⟨fun a o e => sm a o (z1 a o e), fun j m => by rw [only.2.1 j fun z => m (his j z), wipeD_out m]; exact z2 j m⟩
        have mk : ∀ {pu : Bool} {d3 : SD} {H3 : Hp} {acc' : List W} {av' : List V}, ((pt && pe) = true → pu = true) → Go X.K Y.Ex (With Oc D) pu σ2 d1' H2 d3 H3 → RpA X.K Y.Ex (Ow (With Oc D) d3 σ2) H3 av' acc' → LcI (pt && pe) X.K Y.Ex Oc S vs d₁ σ H₁ D acc' d3 (upd H3 D (.lst av')) := fun {pu d3 H3 acc' av'} hpu g3 ra => by
          have out3 : ∀ j : Nat, j ∉ vs → SlotLike d₁[j]? d3[j]? := fun j m => (out1 j m).trans (g3.sim.2 j)
          have cl3 : cleanD d3 vs = true := by
            refine cleanD_of fun j hj s e => ?_
            cases hm : Slot.mine? s with
            | none => rfl
            | some w =>
              obtain ⟨s', w', f1, f2⟩ := (g3.sim.2 j).mine.mpr ⟨s, w, e, hm⟩
              exact absurd hj (cleanD_at f1 f2 cl1)
          have r3 := (g3.rs.wipe (vs := vs) cl3)
          rw [wipe_ext hσl hσ2] at r3
          have r4 := r3.poke (o := .lst av') (.inr rfl)
          have owl : ∀ a, Ow (With Oc D) (wipeD d3 vs) (wipe σ vs) a → Ow (With Oc D) d3 σ2 a := fun a z => by
            rw [← wipe_ext hσl hσ2] at z
            exact z.imp id (mine_wipe g3.rs.len cl3).mp
          have ke3 : Ke (Ow (With Oc D) d3 σ2) H3 (Ow (With Oc D) (wipeD d3 vs) (wipe σ vs)) (upd H3 D (.lst av')) := fun a u n e => ⟨fun z => n (owl a z), by rw [upd_ne fun z => n (.inl (.inr z))]; exact e⟩
          refine ⟨r4, cl3, by rw [← g3.sim.1]; exact len1, out3, fun a o e n => ?_, ⟨av', upd_same, ra.mono ke3 fun _ _ z => z⟩, wk.keep _ _ _ _ ke3 (wk.keep _ _ _ _ g3.ke hS2), fun z => ?_⟩
          · have na : a ≠ D := ne_of_none e nD
            rw [upd_ne na]
            exact g3.fr a o (fr2 a o e n) fun z => n (mine_out cl1 out1 hσ2 z)
          · obtain ⟨p1, p2⟩ := pur1 z
            obtain ⟨p3, p4⟩ := g3.pur (hpu z)
            subst p4
            exact ⟨fun a o e => by rw [upd_ne (ne_of_none e nD)]; exact p3 a o (p1 a o e), p2⟩
        cases qt : t d1' with
        | bad => rw [qt] at hq; cases hq
        | exc c d2' => rw [qt] at hq; cases hq
        | ok b d2' =>
          rw [qt] at hq
          dsimp only [Out.bind] at hq
          intro H3 g3 rs3
          obtain ⟨av, hD, ra⟩ := hD2
          have hD3 : H3 D = some (.lst av) := g3.fr D _ hD (gs.rs.nMine (.inr rfl))
          have ra3 := g3.rpA ra
          cases b with
          | false =>
            rw [if_neg Bool.false_ne_true] at hq
            refine iteF ?_
            have z := mk (fun z => (Bool.and_eq_true _ _ ▸ z).1) g3 ra3
            have e : upd H3 D (.lst av) = H3 := by
              funext b
              by_cases hb : b = D
              · rw [hb, upd_same, hD3]
              · rw [upd_ne hb]
            rw [e] at z
            exact ⟨acc, ys', d2', z, Nat.le_succ_of_le hacc, hq, hys⟩
          | true =>
            rw [if_pos rfl] at hq
            refine iteT ⟨With Oc D, d2', rs3, ?_⟩
            cases qe : e d2' with
            | bad => rw [qe] at hq; cases hq
            | exc c d3' => rw [qe] at hq; cases hq
            | ok yv d3' =>
              rw [qe] at hq
              dsimp only [Out.bind] at hq
              intro H4 g4 v rv
              have g34 := g3.trans g4
              have hD4 : H4 D = some (.lst av) := g34.fr D _ hD (gs.rs.nMine (.inr rfl))
              have ra4 := g4.rpA ra3
              cases ql : lcD vs g t e (List.drop (i + 1) ws) d3' with
              | bad => rw [ql] at hq; cases hq
              | exc c d4 => rw [ql] at hq; cases hq
              | ok ys2 d4 =>
                rw [ql] at hq
                cases hq
                refine ⟨av, hD4, ?_, acc ++ [yv], ys2, d3', mk id g34 (ra4.append (.cons rv .nil)), by rw [List.length_append]; exact Nat.succ_le_succ hacc, ql, by rw [List.append_assoc]; exact hys⟩
                rw [ra.length]
                exact Nat.lt_of_le_of_lt hacc (Nat.lt_of_lt_of_le lt hlen)
    · have ei : i = ws.length := by omega
      subst ei
      rw [List.drop_length] at hq
      cases hq
      rw [List.append_nil] at hys
      subst hys
      obtain ⟨r2, sim, ow⟩ := I.back g₁.rs cl nD
      refine .inl ⟨wk.stop _ _ _ I.st (Nat.le_refl _), ?_⟩
      obtain ⟨av, hD, ra⟩ := I.acc
      refine h₁ H' ⟨r2.less, I.fr, sim, fun z => ?_⟩ D (g₁.free nD) r2 ⟨av, hD, ra.mono (fun a u n e => ⟨fun z => n (ow a z), e⟩) fun _ _ z => z⟩
      obtain ⟨p1, p2⟩ := I.pur z
      refine ⟨p1, List.ext_getElem? fun j => ?_⟩
      by_cases m : j ∈ vs
      · by_cases l : j < d₂.length
        · exact backD_in m l I.len.symm
        · rw [List.getElem?_eq_none (by rw [backD_length]; omega), List.getElem?_eq_none (by rw [← I.len]; omega)]
      · rw [backD_out m]; exact p2 j m
/-- [elt for tg in iter if ..] -/
theorem df_lc {pi pt pe : Bool} {elt tg iter : Expr} {ifs : List Expr} {scope : Scope} {own : List (Str × Nat)} {pos : Pos} {mi : M (List W)} {g : GW} {is : List Nat} {t : M Bool} {e : M W} (hc : X.calm = true) (hN : X.N.Nodup) (hi : DI X Y pi tg iter mi) (ok : BlkOk X.N X.env.scope scope own) (his : ∀ i ∈ is, i ∈ own.map (·.2))
    (hg : ∀ (s : Shared) (H : Hp) (C : Addr) (cl : List (Str × Addr)) (fp : List Addr), DG (X.blk s H scope (compEnvC scope cl C X.env) fp) Y.blk tg g is) (ht : ∀ (s : Shared) (H : Hp) (C : Addr) (cl : List (Str × Addr)) (fp : List Addr), DTs (X.blk s H scope (compEnvC scope cl C X.env) fp) Y.blk pt ifs t)
    (he : ∀ (s : Shared) (H : Hp) (C : Addr) (cl : List (Str × Addr)) (fp : List Addr), DE (X.blk s H scope (compEnvC scope cl C X.env) fp) Y.blk pe elt e) (hs : ∀ x, foldedSetIterable iter X.env x = pure x := by intro _; rfl) :
    DF X Y (pi && (pt && pe)) (.ListComp elt [⟨tg, iter, ifs, 0⟩] scope pos) (mLc (own.map (·.2)) mi g t e) := by
  obtain ⟨wi, hpi, hwi⟩ := hi.pi
  exact ⟨pe_weak (pe_lc hc hN hpi ok (fun s H C cl fp => (hg s H C cl fp).pg) (fun s H C cl fp => (ht s H C cl fp).pts) (fun s H C cl fp => (he s H C cl fp).pe) hs)
    (t_lc (tg := tg) (iter := iter) hwi (hg {} noH 0 [] []).only his)⟩
/-- name = [..] on one line -/
theorem as_lc {pi pt pe : Bool} {i : Nat} {y : Str} {py spos : Pos} {elt tg iter : Expr} {ifs : List Expr} {scope : Scope} {own : List (Str × Nat)} {pos : Pos} {mi : M (List W)} {g : GW} {is : List Nat} {t : M Bool} {e : M W} (hc : X.calm = true) (hN : X.N.Nodup) (hi : DI X Y pi tg iter mi) (ok : BlkOk X.N X.env.scope scope own) (his : ∀ i ∈ is, i ∈ own.map (·.2))
    (hg : ∀ (s : Shared) (H : Hp) (C : Addr) (cl : List (Str × Addr)) (fp : List Addr), DG (X.blk s H scope (compEnvC scope cl C X.env) fp) Y.blk tg g is) (ht : ∀ (s : Shared) (H : Hp) (C : Addr) (cl : List (Str × Addr)) (fp : List Addr), DTs (X.blk s H scope (compEnvC scope cl C X.env) fp) Y.blk pt ifs t)
    (he : ∀ (s : Shared) (H : Hp) (C : Addr) (cl : List (Str × Addr)) (fp : List Addr), DE (X.blk s H scope (compEnvC scope cl C X.env) fp) Y.blk pe elt e) (hy : X.N[i]? = some y := by rfl) (hyl : X.env.scope.names.lookup y = some .local := by rfl)
    (hsw : swapsWith (.ListComp elt [⟨tg, iter, ifs, 0⟩] scope pos) (some (.Name y py)) spos.line X.env = pure true := by exact sw_true rfl rfl rfl rfl) (hs : ∀ x, foldedSetIterable iter X.env x = pure x := by intro _; rfl) :
    PS X (.Assign [.Name y py] (.ListComp elt [⟨tg, iter, ifs, 0⟩] scope pos) spos) (tAsg (tF X Y (pi && (pt && pe)) (mLc (own.map (·.2)) mi g t e)) (gName i)) := by
  obtain ⟨wi, hpi, hwi⟩ := hi.pi
  exact ps_weak (ps_setLc hc hN hy hyl hsw hpi ok (fun s H C cl fp => (hg s H C cl fp).pg) (fun s H C cl fp => (ht s H C cl fp).pts) (fun s H C cl fp => (he s H C cl fp).pe) hs)
    fun D σ H h => t_lc (tg := tg) (iter := iter) hwi (hg {} noH 0 [] []).only his σ H _ h
theorem ps_toE {pu : Bool} {i : Nat} {st : Stmt} {m : M W} (h : PS X st (tAsg (tF X Y pu m) (gName i))) : PS X st (tAsg (tE X Y pu m) (gName i)) := ps_weak h fun D σ H h => tF_of σ H _ h
end
end Qd
end
section
set_option Elab.async false
set_option linter.all false
set_option maxRecDepth 100000
/-! Defs: what they promise by data, their calls, their bodies. -/
namespace Qd
open PySem PySem.Spec PyProof.Rows L2

/-- what a call gives: a value, or an object that is the caller's own; an error -/
inductive FR where
  | ok (r : Slot) | exc (c : Nat) | bad
/-- .. of a def that writes the object given first: the object's data behind it -/
inductive FP where
  | ok (r : Slot) (u : W) | exc (c : Nat) (u : W) | bad
abbrev FV := List W → FR
abbrev FW := W → List W → FP
def sdV (n : Nat) (ws : List W) : SD := ws.map (fun w => some (.val w)) ++ List.replicate (n - ws.length) none
def sdP (n : Nat) (u : W) (ws : List W) : SD := some (.par u) :: ws.map (fun w => some (.val w)) ++ List.replicate (n - (ws.length + 1)) none
def runV (n : Nat) (m : MS) : FV := fun ws => match m (sdV n ws) with
  | .next _ => .ok (.val .none)
  | .ret r _ => .ok r
  | .exc c _ => .exc c
  | _ => .bad
def parAt (d : SD) : Option W := match d with
  | some (.par u) :: _ => some u
  | _ => none
def runP (n : Nat) (m : MS) : FW := fun u ws => match m (sdP n u ws) with
  | .next d => (match parAt d with | some u' => .ok (.val .none) u' | none => .bad)
  | .ret r d => (match parAt d with | some u' => .ok r u' | none => .bad)
  | .exc c d => (match parAt d with | some u' => .exc c u' | none => .bad)
  | _ => .bad
/-- on: the module's written tuples and lists are read -/
structure On where
  b : Bool
  tb : Addr → Prop
def cEx (on : On) : Addr → Nat → Prop := fun a k => (on.b = true ∧ k = cN) ∨ (k = tN ∧ on.tb a)
section
variable (K : PySem.W.Frag) (T : Nat → Value) (on : On)
def spV (F : FV) (np : Nat) : Sp := fun vs H Q E => ∃ (Oc : Addr → Prop) (ws : List W), ws.length = np ∧ Thr (cEx on) Oc H ∧ RpA K (cEx on) Oc H vs ws ∧ match F ws with
  | .ok (.val w) => ∀ H' v, Same H H' → Rp K (cEx on) Oc H' v w → Q v H'
  | .ok (.own w) => ∀ H' p, Same H H' → H p = none → Ob K (cEx on) (With Oc p) H' p w → Q (.ref p) H'
  | .ok (.par _) => False
  | .exc c => ∀ H', Same H H' → E (T c) none H'
  | .bad => False
def But (p : Addr) (H H' : Hp) : Prop := ∀ a o, a ≠ p → H a = some o → H' a = some o
def spP (F : FW) (np : Nat) : Sp := fun vs H Q E => ∃ (Oc : Addr → Prop) (p : Addr) (vs' : List V) (u : W) (ws : List W), vs = .ref p :: vs' ∧ ws.length + 1 = np ∧ Thr (cEx on) Oc H ∧ ¬ Oc p ∧ Ob K (cEx on) (With Oc p) H p u ∧ RpA K (cEx on) (With Oc p) H vs' ws ∧ match F u ws with
  | .ok (.val w) u' => ∀ H' v, But p H H' → Ob K (cEx on) (With Oc p) H' p u' → Rp K (cEx on) (With Oc p) H' v w → Q v H'
  | .ok (.own _) _ => False
  | .ok (.par _) _ => False
  | .exc c u' => ∀ H', But p H H' → Ob K (cEx on) (With Oc p) H' p u' → E (T c) none H'
  | .bad => False
end
/-- the context of a def's body -/
abbrev Yf (T : Nat → Value) (on : On) (E : XK) : Yx := ⟨cEx on, T, fun cls d _ H' => E cls d H'⟩

/-! ### a call -/
section
variable {X : Cx} {Y : Yx}
def mCallV (F : FV) (as : M (List W)) : M W := fun d => (as d).bind fun ws d1 => match F ws with
  | .ok (.val w) => .ok w d1
  | .ok (.own w) => .ok w d1
  | .ok (.par _) => .bad
  | .exc c => .exc c d1
  | .bad => .bad
/-- .. whose value is an object of the caller's own -/
def mCallO (F : FV) (as : M (List W)) : M W := fun d => (as d).bind fun ws d1 => match F ws with
  | .ok (.own w) => .ok w d1
  | .exc c => .exc c d1
  | _ => .bad
theorem same_ke {O : Addr → Prop} {H H' : Hp} (s : Same H H') : Ke O H O H' := fun a u n e => ⟨n, s a u e⟩
theorem t_callV {on : On} {pu : Bool} {F : FV} {np : Nat} {as : M (List W)} (hE : Y.Ex = (cEx on)) (σ : St) (H : Hp) (Q : VK) (hl : ∀ d ws d1, as d = .ok ws d1 → ws.length = np) (h : tE X Y pu (mCallV F as) σ H Q) : tCallS (spV X.K Y.T on F np) (fun σ => WE Y.W σ) (tL X Y pu as) σ H Q := by
  obtain ⟨Oc, d, rs, h⟩ := h
  refine ⟨Oc, d, rs, ?_⟩
  have hh := Po.bind1 h
  cases q0 : as d with
  | bad => rw [q0] at hh; exact hh
  | exc c d1 => rw [q0] at hh; exact hh
  | ok ws d1 =>
    rw [q0] at hh
    intro H1 g1 v r
    have h1 := hh H1 g1
    rw [hE] at r
    refine ⟨Ow Oc d1 σ, ws, hl _ _ _ q0, hE ▸ g1.rs.thr, r, ?_⟩
    cases q : F ws with
    | bad => rw [q] at h1; exact h1
    | exc c => rw [q] at h1; exact fun H' s => h1 H' (.same g1.rs s)
    | ok s =>
      rw [q] at h1
      cases s with
      | val w => exact fun H' v s r' => h1 H' (.same g1.rs s) v (by rw [hE]; exact r')
      | own w => exact fun H' p s np ob => h1 H' (.same g1.rs s) (.ref p) (by
          rw [hE]
          exact (ob.mono (fun a u n e => ⟨fun z => n (.inl z), e⟩) (fun _ _ z => z) rfl).rp (g1.rs.nOw np))
      | par w => exact h1
theorem t_callO {on : On} {pu : Bool} {F : FV} {np : Nat} {as : M (List W)} (hE : Y.Ex = (cEx on)) (σ : St) (H : Hp) (Q : VK) (hl : ∀ d ws d1, as d = .ok ws d1 → ws.length = np) (h : tF X Y pu (mCallO F as) σ H Q) : tCallS (spV X.K Y.T on F np) (fun σ => WE Y.W σ) (tL X Y pu as) σ H Q := by
  obtain ⟨Oc, d, rs, h⟩ := h
  refine ⟨Oc, d, rs, ?_⟩
  have hh := Po.bind1 h
  cases q0 : as d with
  | bad => rw [q0] at hh; exact hh
  | exc c d1 => rw [q0] at hh; exact hh
  | ok ws d1 =>
    rw [q0] at hh
    intro H1 g1 v r
    have h1 := hh H1 g1
    rw [hE] at r
    refine ⟨Ow Oc d1 σ, ws, hl _ _ _ q0, hE ▸ g1.rs.thr, r, ?_⟩
    cases q : F ws with
    | bad => rw [q] at h1; exact h1
    | exc c => rw [q] at h1; exact fun H' s => h1 H' (.same g1.rs s)
    | ok s =>
      rw [q] at h1
      cases s with
      | val w => exact h1.elim
      | par w => exact h1.elim
      | own w =>
        refine fun H' p s np ob => h1 H' (.same g1.rs s) p (g1.free np) ?_ ?_
        · -- the callee's new object, as it lies in the end
          have nw := g1.rs.nOw np
          have rs2 := g1.rs.same s
          have ke : Ke (Ow Oc d1 σ) H1 (Ow (With Oc p) d1 σ) H' := fun a u n e => by
            have ne : a ≠ p := ne_of_none e np
            exact ⟨fun z => (ow_with.mp z).elim n ne, s a u e⟩
          refine ⟨rs2.len, fun i w h => ?_, fun i t w a1 a2 => ?_, rs2.sep, ⟨fun a h => ?_, fun a h => ⟨(rs2.oc.tb a h).1, fun z => z.elim (rs2.oc.tb a h).2 fun z => ne_of_none (g1.rs.oc.tb a h).1 np z⟩⟩⟩
          · obtain ⟨v, e, r⟩ := g1.rs.val i w h
            exact ⟨v, e, r.mono ke fun _ _ z => z⟩
          · obtain ⟨q, e, n, ob'⟩ := g1.rs.own i t w a1 a2
            have ne : q ≠ p := fun z => nw (.inr ⟨i, t, w, a1, a2, by rw [← z]; exact e⟩)
            obtain ⟨u, hu⟩ := ob'.at
            exact ⟨q, e, fun z => z.elim n ne, ob'.mono ke (fun _ _ z => z) ((s _ _ hu).trans hu.symm)⟩
          · rcases h with h | h
            · exact rs2.oc.at_ a h
            · rw [h]; exact ob.at
        · rw [hE]
          exact ob.mono (fun a u n e => ⟨fun z => n (by rcases ow_with.mp z with z | z; exact .inl z; exact .inr z), e⟩) (fun _ _ z => z) rfl
/-- the number of arguments, whatever they are -/
def Len (n : Nat) (as : M (List W)) : Prop := ∀ d ws d1, as d = .ok ws d1 → ws.length = n
theorem len_nil : Len 0 mNil := fun d ws d1 h => by cases h; rfl
theorem len_cons {n : Nat} {a : M W} {r : M (List W)} (h : Len n r) : Len (n + 1) (mCons a r) := fun d ws d1 e => by
  unfold mCons at e
  cases q : a d with
  | bad => rw [q] at e; cases e
  | exc c d2 => rw [q] at e; cases e
  | ok x d2 =>
    rw [q] at e
    have e : ((r d2).bind fun xs d2 => Out.ok (x :: xs) d2) = .ok ws d1 := e
    cases q2 : r d2 with
    | bad => rw [q2] at e; cases e
    | exc c d3 => rw [q2] at e; cases e
    | ok xs d3 =>
      rw [q2] at e
      cases e
      rw [List.length_cons, h _ _ _ q2]
theorem d_callV {on : On} {pu : Bool} {k : Nat} {f : Addr} {fd : FuncData} {ps : List Str} {F : FV} {x : Str} {p pos : Pos} {e : Expr} {es : List Expr} {as : M (List W)} {np : Nat} (G : FnOk X.prog X.w X.K X.mg X.base (L2N.CX X.prog X.w) k f fd ps (spV X.K Y.T on F np)) (hr : Room k X.A) (tk : L2N.Takes X Y.W) (hE : Y.Ex = (cEx on))
    (hm : X.mg x = some (.ref f)) (hk : PySem.W.keepIn X.K (.ref f) = true) (hb : Binds X.K fd ps []) (ha : DL X Y pu (e :: es) as) (hl : Len np as) (hg : Gl X x := by rfl)
    (hdb : (x == ("__debug__" : Str)) = false := by decide) (he : starEach (e :: es) X.env = (false, eval e X.env) :: starEach es X.env := by rfl) (hpl : (backTo pos (starEach es X.env)).any (·.1) = false := by rfl) : DE X Y pu (.Call (.Name x p) (e :: es) [] pos) (mCallV F as) :=
  ⟨pe_weak (pe_callS G hr hg hm hk hb (E := fun σ => WE Y.W σ) (fun σ => L2N.passAt tk σ) ha.pa hdb he hpl) fun σ H Q h => t_callV hE σ H Q hl h⟩
theorem df_callO {on : On} {pu : Bool} {k : Nat} {f : Addr} {fd : FuncData} {ps : List Str} {F : FV} {x : Str} {p pos : Pos} {e : Expr} {es : List Expr} {as : M (List W)} {np : Nat} (G : FnOk X.prog X.w X.K X.mg X.base (L2N.CX X.prog X.w) k f fd ps (spV X.K Y.T on F np)) (hr : Room k X.A) (tk : L2N.Takes X Y.W) (hE : Y.Ex = (cEx on))
    (hm : X.mg x = some (.ref f)) (hk : PySem.W.keepIn X.K (.ref f) = true) (hb : Binds X.K fd ps []) (ha : DL X Y pu (e :: es) as) (hl : Len np as) (hg : Gl X x := by rfl)
    (hdb : (x == ("__debug__" : Str)) = false := by decide) (he : starEach (e :: es) X.env = (false, eval e X.env) :: starEach es X.env := by rfl) (hpl : (backTo pos (starEach es X.env)).any (·.1) = false := by rfl) : DF X Y pu (.Call (.Name x p) (e :: es) [] pos) (mCallO F as) :=
  ⟨pe_weak (pe_callS G hr hg hm hk hb (E := fun σ => WE Y.W σ) (fun σ => L2N.passAt tk σ) ha.pa hdb he hpl) fun σ H Q h => t_callO hE σ H Q hl h⟩
/-- f(x, ..), x a name that holds an object which f writes -/
def mineAt (i : Nat) (d : SD) : Option W := match d[i]? with
  | some (some s) => Slot.mine? s
  | _ => none
def Slot.upd (s : Slot) (u : W) : Slot := match s with
  | .own _ => .own u
  | .par _ => .par u
  | .val w => .val w
def setMine (i : Nat) (u : W) (d : SD) : SD := match d[i]? with
  | some (some s) => d.set i (some (Slot.upd s u))
  | _ => d
def mCallP (F : FW) (i : Nat) (as : M (List W)) : M W := fun d => (ofOpt (mineAt i d) d).bind fun _ d0 => (as d0).bind fun ws d1 => (ofOpt (mineAt i d1) d1).bind fun u d2 => match F u ws with
  | .ok (.val w) u' => .ok w (setMine i u' d2)
  | .exc c u' => .exc c (setMine i u' d2)
  | _ => .bad
theorem mineAt_some {i : Nat} {d : SD} {u : W} (h : mineAt i d = some u) : ∃ s, d[i]? = some (some s) ∧ Slot.mine? s = some u := by
  unfold mineAt at h
  split at h
  · exact ⟨_, by assumption, h⟩
  · cases h
/-- the object at p, held by the name i, has new data -/
theorem setMine_go {K : PySem.W.Frag} {Ex : Addr → Nat → Prop} {Oc : Addr → Prop} {H H' : Hp} {d : SD} {σ : St} {i : Nat} {s : Slot} {u u' : W} {p : Addr} (rs : RS K Ex Oc H d σ) (e1 : d[i]? = some (some s)) (e2 : Slot.mine? s = some u) (e3 : σ[i]? = some (some (.ref p))) (b : But p H H') (ob : Ob K Ex (Ow Oc d σ) H' p u') :
    Go K Ex Oc false σ d H (setMine i u' d) H' := by
  have ed : setMine i u' d = d.set i (some (Slot.upd s u')) := by unfold setMine; rw [e1]
  have lt : i < d.length := (List.getElem?_eq_some_iff.mp e1).1
  have mu : Slot.mine? (Slot.upd s u') = some u' := by cases s <;> first | rfl | cases e2
  rw [ed]
  have sim : Sim d (d.set i (some (Slot.upd s u'))) := by
    refine ⟨by rw [List.length_set], fun j => ?_⟩
    by_cases e : i = j
    · subst e
      rw [List.getElem?_set_self lt, e1]
      cases s with
      | val w => cases e2
      | own w => trivial
      | par w => trivial
    · rw [List.getElem?_set_ne e]; exact .refl _
  have mp : Mine d σ p := ⟨i, s, u, e1, e2, e3⟩
  have ke : Ke (Ow Oc d σ) H (Ow Oc (d.set i (some (Slot.upd s u'))) σ) H' := fun a x n e => ⟨fun z => n (z.imp id sim.mine.mp), b a x (fun z => n (.inr (by rw [z]; exact mp))) e⟩
  have ke' : Ke (Ow Oc d σ) H' (Ow Oc (d.set i (some (Slot.upd s u'))) σ) H' := fun a x n e => ⟨fun z => n (z.imp id sim.mine.mp), e⟩
  obtain ⟨p', e3', np, _⟩ := rs.own i s u e1 e2
  rw [e3] at e3'; cases e3'
  refine ⟨⟨by rw [List.length_set]; exact rs.len, fun j w e => ?_, fun j t w f1 f2 => ?_, fun j k t r w x q ne f1 f2 f3 f4 f5 => ?_, ⟨fun a h => ?_, fun a h => ⟨b _ _ (fun z => rs.noTab h (by rw [z]; exact .inr mp)) (rs.oc.tb a h).1, (rs.oc.tb a h).2⟩⟩⟩, fun a x e n => b a x (fun z => n (by rw [z]; exact mp)) e, sim, fun z => nomatch z⟩
  · by_cases ej : i = j
    · subst ej
      rw [List.getElem?_set_self lt] at e
      have e : Slot.upd s u' = .val w := Option.some.inj (Option.some.inj e)
      rw [e] at mu; cases mu
    · rw [List.getElem?_set_ne ej] at e
      obtain ⟨v, e', r⟩ := rs.val j w e
      exact ⟨v, e', r.mono ke fun _ _ z => z⟩
  · by_cases ej : i = j
    · subst ej
      rw [List.getElem?_set_self lt] at f1
      have f1 : Slot.upd s u' = t := Option.some.inj (Option.some.inj f1)
      rw [← f1, mu] at f2; cases f2
      exact ⟨p, e3, np, ob.mono ke' (fun _ _ z => z) rfl⟩
    · rw [List.getElem?_set_ne ej] at f1
      obtain ⟨q, e', n, ob'⟩ := rs.own j t w f1 f2
      have nq : q ≠ p := fun z => rs.sep i j s t u w p ej e1 e2 f1 f2 e3 (by rw [← z]; exact e')
      obtain ⟨x, hx⟩ := ob'.at
      exact ⟨q, e', n, ob'.mono ke (fun _ _ z => z) ((b _ _ nq hx).trans hx.symm)⟩
  · obtain ⟨t', w', g1, g2⟩ := (sim.2 j).mine.mpr ⟨t, w, f1, f2⟩
    obtain ⟨r', x', g3, g4⟩ := (sim.2 k).mine.mpr ⟨r, x, f3, f4⟩
    exact rs.sep j k t' r' w' x' q ne g1 g2 g3 g4 f5
  · obtain ⟨o, e⟩ := rs.oc.at_ a h
    exact ⟨o, b a o (fun z => np (by rw [← z]; exact h)) e⟩
theorem d_callP {on : On} {pu : Bool} {k : Nat} {f : Addr} {fd : FuncData} {ps : List Str} {F : FW} {x y : Str} {p q pos : Pos} {i : Nat} {es : List Expr} {as : M (List W)} {np : Nat} (G : FnOk X.prog X.w X.K X.mg X.base (L2N.CX X.prog X.w) k f fd ps (spP X.K Y.T on F (np + 1))) (hr : Room k X.A) (tk : L2N.Takes X Y.W) (hE : Y.Ex = (cEx on))
    (hm : X.mg x = some (.ref f)) (hk : PySem.W.keepIn X.K (.ref f) = true) (hb : Binds X.K fd ps []) (ha : DL X Y pu es as) (hl : Len np as) (hN : X.N[i]? = some y := by rfl) (hv : Vis X.env.scope y := by first | exact Or.inl rfl | exact Or.inr (Or.inl rfl) | exact Or.inr (Or.inr rfl)) (hd : (y == ("__debug__" : Str)) = false := by decide)
    (hcd : (y == ("__classdict__" : Str)) = false := by decide) (hg : Gl X x := by rfl)
    (hdb : (x == ("__debug__" : Str)) = false := by decide) (he : starEach (.Name y q :: es) X.env = (false, eval (.Name y q) X.env) :: starEach es X.env := by rfl) (hpl : (backTo pos (starEach es X.env)).any (·.1) = false := by rfl) : DE X Y false (.Call (.Name x p) (.Name y q :: es) [] pos) (mCallP F i as) := by
  refine ⟨pe_weak (pe_callS G hr hg hm hk hb (E := fun σ => WE Y.W σ) (fun σ => L2N.passAt tk σ) (pa_cons (pe_var hN hv hd hcd) ha.pa he) hdb he hpl) fun σ H Q h => ?_⟩
  obtain ⟨Oc, d, rs, h⟩ := h
  cases qm0 : mineAt i d with
  | none => unfold mCallP at h; rw [qm0] at h; exact h.elim
  | some u0 =>
    unfold mCallP at h
    rw [qm0] at h
    have hh := Po.bindF (p := pu) (show Po X Y false Oc σ d H ((as d).bind _) _ from h)
    obtain ⟨s0, f1, f2⟩ := mineAt_some qm0
    obtain ⟨a, ev, _, _⟩ := rs.own i s0 u0 f1 f2
    refine ⟨_, ev, Oc, d, rs, ?_⟩
    cases q0 : as d with
    | bad => rw [q0] at hh; exact hh
    | exc c d1 => rw [q0] at hh; exact hh
    | ok ws d1 =>
      rw [q0] at hh
      intro H1 g1 vs r
      have h1 := hh H1 g1
      dsimp only at h1
      cases qm : mineAt i d1 with
      | none => rw [qm] at h1; exact h1.elim
      | some u =>
        rw [qm] at h1
        dsimp only [ofOpt, Out.bind] at h1
        obtain ⟨s, e1, e2⟩ := mineAt_some qm
        obtain ⟨a1, e3, na, ob⟩ := g1.rs.own i s u e1 e2
        rw [ev] at e3
        cases e3
        have owe : ∀ b, With (fun b => Ow Oc d1 σ b ∧ b ≠ a) a b ↔ Ow Oc d1 σ b := fun b => by
          constructor
          · rintro (z | z)
            · exact z.1
            · rw [z]; exact .inr ⟨i, s, u, e1, e2, ev⟩
          · intro z
            by_cases e : b = a
            · exact .inr e
            · exact .inl ⟨z, e⟩
        have ke1 : ∀ {H : Hp}, Ke (Ow Oc d1 σ) H (With (fun b => Ow Oc d1 σ b ∧ b ≠ a) a) H := fun {H} b x n e => ⟨fun z => n ((owe b).mp z), e⟩
        have ke2 : ∀ {H : Hp}, Ke (With (fun b => Ow Oc d1 σ b ∧ b ≠ a) a) H (Ow Oc d1 σ) H := fun {H} b x n e => ⟨fun z => n ((owe b).mpr z), e⟩
        rw [hE] at r ob
        refine ⟨fun b => Ow Oc d1 σ b ∧ b ≠ a, a, vs, u, ws, rfl, by rw [hl _ _ _ q0], (hE ▸ g1.rs.thr : Thr (cEx on) (Ow Oc d1 σ) H1).sub fun b z => z.1, fun z => z.2 rfl, ob.mono ke1 (fun _ _ z => z) rfl, r.mono ke1 fun _ _ z => z, ?_⟩
        have g1rs := g1.rs
        have fin : ∀ {H' : Hp} {u' : W}, But a H1 H' → Ob X.K (cEx on) (With (fun b => Ow Oc d1 σ b ∧ b ≠ a) a) H' a u' → Go X.K Y.Ex Oc false σ d1 H1 (setMine i u' d1) H' := fun b ob' => by
          rw [hE] at g1rs ⊢
          exact setMine_go g1rs e1 e2 ev b (ob'.mono ke2 (fun _ _ z => z) rfl)
        cases qf : F u ws with
        | bad => rw [qf] at h1; exact h1
        | exc c u' => rw [qf] at h1; exact fun H' b ob' => h1 H' (fin b ob')
        | ok r' u' =>
          rw [qf] at h1
          cases r' with
          | own w => exact h1
          | par w => exact h1
          | val w =>
            refine fun H' v b ob' rv => h1 H' (fin b ob') v ?_
            rw [hE]
            have sm := (fin b ob').sim
            exact (rv.mono ke2 fun _ _ z => z).mono (fun b x n e => ⟨fun z => n (z.imp id sm.mine.mp), e⟩) fun _ _ z => z
end

/-! ### a def by its body -/
section
variable {P : Program} {w : World} {K : PySem.W.Frag} {mg : Str → Option Value} {base : Heap} {T : Nat → Value} {on : On}
theorem okN {x qual : Str} {st : Stmt} {f : Addr} {fd : FuncData} {N ps : List Str} {k : Nat} {sp : Sp} (F : Fun K x qual st f fd) (S : FnScope N ps (defScope st)) (len : ∀ vs H Q E, sp vs H Q E → vs.length = ps.length)
    (hbody : ∀ (cdv : Value) (A : Around) (outer : List Env) (s : Shared) (H : Hp) (vs : List V) (Q : VK) (E : XK), Room k (A.deeper (envOfC qual (defScope st) s.heap.objs.size f cdv)) → sp vs H Q E →
      ∃ t, PSs (cxOf (L2N.CX P w) P w K mg base N qual (defScope st) f cdv A outer s H E) (defBody st) t ∧ t { nx := fun _ H' => Q .non H', rt := Q } (L2.start N vs) H) : FnOk P w K mg base (L2N.CX P w) (k + 1) f fd ps sp := by
  obtain ⟨oc, od, kV, doc, pm, an, cdv, ct, osl, rfl, lk, hcd⟩ := F.ex
  exact fn_of lk hcd S len fun A outer s H vs Q E hr hsp => hbody cdv A outer s H vs Q E hr hsp
theorem rpA_of_map {O : Addr → Prop} {H : Hp} {vs : List V} {ws : List W} (r : RpA K (cEx on) O H vs ws) : ∀ (i : Nat) (u : W), (ws.map fun w => some (Slot.val w))[i]? = some (some (.val u)) → ∃ v, (vs.map some)[i]? = some (some v) ∧ Rp K (cEx on) O H v u := fun i u e => by
  rw [List.getElem?_map] at e
  cases q : ws[i]? with
  | none => rw [q] at e; cases e
  | some x =>
    rw [q] at e; cases e
    obtain ⟨v, e1, r1⟩ := r.get q
    exact ⟨v, by rw [List.getElem?_map, e1]; rfl, r1⟩
theorem sdV_get {n : Nat} {ws : List W} {i : Nat} {s : Slot} (h : (sdV n ws)[i]? = some (some s)) : i < ws.length ∧ ∃ u, ws[i]? = some u ∧ s = .val u := by
  unfold sdV at h
  by_cases l : i < ws.length
  · rw [List.getElem?_append_left (by simpa using l), List.getElem?_map] at h
    refine ⟨l, ?_⟩
    rw [List.getElem?_eq_getElem l] at h
    cases h
    exact ⟨_, List.getElem?_eq_getElem l, rfl⟩
  · rw [List.getElem?_append_right (by simpa using l), List.getElem?_replicate] at h
    split at h <;> cases h
theorem sdV_len {n : Nat} {ws : List W} (h : ws.length ≤ n) : (sdV n ws).length = n := by
  unfold sdV
  rw [List.length_append, List.length_map, List.length_replicate]
  omega
theorem start_get {N : List Str} {vs : List V} {i : Nat} {v : V} (h : vs[i]? = some v) : (L2.start N vs)[i]? = some (some v) := by
  obtain ⟨l, e⟩ := List.getElem?_eq_some_iff.mp h
  unfold L2.start
  rw [List.getElem?_append_left (by simpa using l), List.getElem?_map, h]
  rfl
theorem start_len {N : List Str} {vs : List V} (h : vs.length ≤ N.length) : (L2.start N vs).length = N.length := by
  unfold L2.start
  rw [List.length_append, List.length_map, List.length_replicate]
  omega
theorem startV {Oc : Addr → Prop} {H : Hp} {N : List Str} {vs : List V} {ws : List W} (hl : ws.length ≤ N.length) (oc : Thr (cEx on) Oc H) (r : RpA K (cEx on) Oc H vs ws) : RS K (cEx on) Oc H (sdV N.length ws) (L2.start N vs) ∧ ∀ a, ¬ Mine (sdV N.length ws) (L2.start N vs) a := by
  have nm : ∀ a, ¬ Mine (sdV N.length ws) (L2.start N vs) a := fun a ⟨i, s, u, h1, h2, _⟩ => by
    obtain ⟨_, _, _, rfl⟩ := sdV_get h1
    cases h2
  refine ⟨⟨by rw [sdV_len hl, start_len (by rw [r.length]; exact hl)], fun i u e => ?_, fun i s u e1 e2 => ?_, fun i j s t u u' p ne e1 e2 _ _ _ => ?_, oc⟩, nm⟩
  · obtain ⟨l, u', e', es⟩ := sdV_get e
    cases es
    obtain ⟨v, e1, r1⟩ := r.get e'
    exact ⟨v, start_get e1, r1.mono (fun a x n e => ⟨fun z => z.elim n (nm a), e⟩) fun _ _ z => z⟩
  · obtain ⟨_, _, _, rfl⟩ := sdV_get e1
    cases e2
  · obtain ⟨_, _, _, rfl⟩ := sdV_get e1
    cases e2
theorem tS_V {X : Cx} {E : XK} {m : MS} {N : List Str} {H : Hp} {vs : List V} {Q : VK} {np : Nat} (hn : np ≤ N.length) (hK : X.K = K) (h : spV K T on (runV N.length m) np vs H Q E) : tS X (Yf T on E) m { nx := fun _ H' => Q .non H', rt := Q } (L2.start N vs) H := by
  subst hK
  obtain ⟨Oc, ws, hl, oc, r, h⟩ := h
  obtain ⟨rs, nm⟩ := startV (N := N) (by rw [hl]; exact hn) oc r
  refine ⟨Oc, sdV N.length ws, rs, ?_⟩
  unfold runV at h
  have sm : ∀ {d' : SD} {σ' : St} {H' : Hp}, GoS X.K (cEx on) Oc (sdV N.length ws) (L2.start N vs) H d' σ' H' → Same H H' := fun g a o e => g.fr a o e (nm a)
  cases q : m (sdV N.length ws) with
  | next d' => rw [q] at h; exact fun σ' H' g => h H' .non (sm g) .non
  | brk d' => rw [q] at h; exact h.elim
  | cont d' => rw [q] at h; exact h.elim
  | bad => rw [q] at h; exact h.elim
  | exc c d' => rw [q] at h; exact fun σ' H' g => h H' (sm g)
  | ret s d' =>
    rw [q] at h
    cases s with
    | par w => exact h.elim
    | val w => exact fun σ' H' v g rv => h H' v (sm g) (rv.mono (fun a u n e => ⟨fun z => n (.inl z), e⟩) fun _ _ z => z)
    | own w =>
      intro σ' H' p g np' rs' ob
      refine h H' p (sm g) (np'.resolve_right (nm p)) (ob.mono (fun a u n e => ⟨fun z => n ?_, e⟩) (fun _ _ z => z) rfl)
      rcases z with z | z
      · exact .inl (.inl z)
      · exact .inl (.inr z)
/-- a def that writes nothing of its callers' -/
theorem fn_V {x qual : Str} {st : Stmt} {f : Addr} {fd : FuncData} {N ps : List Str} {k np : Nat} {m : MS} (F : Fun K x qual st f fd) (S : FnScope N ps (defScope st)) (hps : ps.length = np) (hnp : np ≤ N.length)
    (hb : ∀ (cdv : Value) (A : Around) (outer : List Env) (s : Shared) (H : Hp) (E : XK), Room k (A.deeper (envOfC qual (defScope st) s.heap.objs.size f cdv)) → DSs (cxOf (L2N.CX P w) P w K mg base N qual (defScope st) f cdv A outer s H E) (Yf T on E) (defBody st) m) :
    FnOk P w K mg base (L2N.CX P w) (k + 1) f fd ps (spV K T on (runV N.length m) np) := by
  refine okN F S (fun vs H Q E h => ?_) (fun cdv A outer s H vs Q E hr h => ⟨_, (hb cdv A outer s H E hr).ps, tS_V hnp rfl h⟩)
  obtain ⟨Oc, ws, hl, oc, r, h⟩ := h
  rw [r.length, hl, hps]
theorem sdP_get {n : Nat} {u : W} {ws : List W} {i : Nat} {s : Slot} (h : (sdP n u ws)[i]? = some (some s)) : (i = 0 ∧ s = .par u) ∨ ∃ j x, i = j + 1 ∧ ws[j]? = some x ∧ s = .val x := by
  unfold sdP at h
  cases i with
  | zero => cases h; exact .inl ⟨rfl, rfl⟩
  | succ j =>
    refine .inr ⟨j, ?_⟩
    rw [List.cons_append, List.getElem?_cons_succ] at h
    by_cases l : j < ws.length
    · rw [List.getElem?_append_left (by simpa using l), List.getElem?_map, List.getElem?_eq_getElem l] at h
      cases h
      exact ⟨_, rfl, List.getElem?_eq_getElem l, rfl⟩
    · rw [List.getElem?_append_right (by simpa using l), List.getElem?_replicate] at h
      split at h <;> cases h
theorem sdP_len {n : Nat} {u : W} {ws : List W} (h : ws.length + 1 ≤ n) : (sdP n u ws).length = n := by
  unfold sdP
  rw [List.cons_append, List.length_cons, List.length_append, List.length_map, List.length_replicate]
  omega
theorem startP {Oc : Addr → Prop} {H : Hp} {N : List Str} {p : Addr} {u : W} {vs : List V} {ws : List W} (hl : ws.length + 1 ≤ N.length) (oc : Thr (cEx on) Oc H) (no : ¬ Oc p) (ob : Ob K (cEx on) (With Oc p) H p u) (r : RpA K (cEx on) (With Oc p) H vs ws) :
    RS K (cEx on) Oc H (sdP N.length u ws) (L2.start N (.ref p :: vs)) ∧ ∀ a, Mine (sdP N.length u ws) (L2.start N (.ref p :: vs)) a ↔ a = p := by
  have e0 : (sdP N.length u ws)[0]? = some (some (.par u)) := rfl
  have f0 : (L2.start N (.ref p :: vs))[0]? = some (some (.ref p)) := start_get rfl
  have nm : ∀ a, Mine (sdP N.length u ws) (L2.start N (.ref p :: vs)) a ↔ a = p := fun a => by
    constructor
    · rintro ⟨i, s, x, h1, h2, h3⟩
      rcases sdP_get h1 with ⟨rfl, _⟩ | ⟨j, y, rfl, _, rfl⟩
      · rw [f0] at h3; cases h3; rfl
      · cases h2
    · rintro rfl
      exact ⟨0, _, _, e0, rfl, f0⟩
  have ke : Ke (With Oc p) H (Ow Oc (sdP N.length u ws) (L2.start N (.ref p :: vs))) H := fun a x n e => ⟨fun z => n (z.imp id (nm a).mp), e⟩
  refine ⟨⟨by rw [sdP_len hl, start_len (by rw [List.length_cons, r.length]; exact hl)], fun i x e => ?_, fun i s x e1 e2 => ?_, fun i j s t x x' q ne e1 e2 e3 e4 e5 => ?_, oc⟩, nm⟩
  · rcases sdP_get e with ⟨_, z⟩ | ⟨j, y, rfl, e', z⟩
    · cases z
    · cases z
      obtain ⟨v, e1, r1⟩ := r.get e'
      exact ⟨v, start_get (vs := .ref p :: vs) (by simpa using e1), r1.mono ke fun _ _ z => z⟩
  · rcases sdP_get e1 with ⟨rfl, rfl⟩ | ⟨j, y, rfl, e', rfl⟩
    · cases e2
      exact ⟨p, f0, no, ob.mono ke (fun _ _ z => z) rfl⟩
    · cases e2
  · rcases sdP_get e1 with ⟨rfl, rfl⟩ | ⟨j', y, rfl, e', rfl⟩
    · rcases sdP_get e3 with ⟨rfl, rfl⟩ | ⟨j', y, rfl, e', rfl⟩
      · exact absurd rfl ne
      · cases e4
    · cases e2
theorem tS_P {X : Cx} {E : XK} {m : MS} {N : List Str} {H : Hp} {vs : List V} {Q : VK} {np : Nat} (hn : np ≤ N.length) (hK : X.K = K) (h : spP K T on (runP N.length m) np vs H Q E) : tS X (Yf T on E) m { nx := fun _ H' => Q .non H', rt := Q } (L2.start N vs) H := by
  subst hK
  obtain ⟨Oc, p, vs', u, ws, rfl, hl, oc, no, ob, r, h⟩ := h
  obtain ⟨rs, nm⟩ := startP (N := N) (by rw [hl]; exact hn) oc no ob r
  refine ⟨Oc, sdP N.length u ws, rs, ?_⟩
  unfold runP at h
  have e0 : (sdP N.length u ws)[0]? = some (some (.par u)) := rfl
  have f0 : (L2.start N (.ref p :: vs'))[0]? = some (some (.ref p)) := start_get rfl
  -- what the end tells of the object given
  have fin : ∀ {d' : SD} {σ' : St} {H' : Hp}, GoS X.K (cEx on) Oc (sdP N.length u ws) (L2.start N (.ref p :: vs')) H d' σ' H' → But p H H' ∧ ∃ u', parAt d' = some u' ∧ Ob X.K (cEx on) (With Oc p) H' p u' ∧ Ke (Ow Oc d' σ') H' (With Oc p) H' := fun {d' σ' H'} g => by
    refine ⟨fun a o na e => g.fr a o e fun z => na ((nm a).mp z), ?_⟩
    obtain ⟨⟨u', e1⟩, e2⟩ := g.par 0 u e0
    rw [f0] at e2
    have ke : Ke (Ow Oc d' σ') H' (With Oc p) H' := fun a x n e => ⟨fun z => n (by
      rcases z with z | z
      · exact .inl z
      · rw [z]; exact .inr ⟨0, _, _, e1, rfl, e2⟩), e⟩
    obtain ⟨q, e3, _, ob'⟩ := g.rs.own 0 _ _ e1 rfl
    rw [e2] at e3; cases e3
    refine ⟨u', ?_, ob'.mono ke (fun _ _ z => z) rfl, ke⟩
    cases d' with
    | nil => cases e1
    | cons a b => cases e1; rfl
  cases q : m (sdP N.length u ws) with
  | next d' =>
    rw [q] at h
    intro σ' H' g
    obtain ⟨b, u', e, ob', _⟩ := fin g
    dsimp only at h
    rw [e] at h
    exact h H' .non b ob' .non
  | brk d' => rw [q] at h; exact h.elim
  | cont d' => rw [q] at h; exact h.elim
  | bad => rw [q] at h; exact h.elim
  | exc c d' =>
    rw [q] at h
    intro σ' H' g
    obtain ⟨b, u', e, ob', _⟩ := fin g
    dsimp only at h
    rw [e] at h
    exact h H' b ob'
  | ret s d' =>
    rw [q] at h
    dsimp only at h
    cases s with
    | par w =>
      cases e : parAt d' with
      | none => rw [e] at h; exact h.elim
      | some u' => rw [e] at h; exact h.elim
    | val w =>
      intro σ' H' v g rv
      obtain ⟨b, u', e, ob', ke⟩ := fin g
      rw [e] at h
      exact h H' v b ob' (rv.mono ke fun _ _ z => z)
    | own w =>
      cases e : parAt d' with
      | none => rw [e] at h; exact h.elim
      | some u' => rw [e] at h; exact h.elim
/-- a def that writes the object given first -/
theorem fn_P {x qual : Str} {st : Stmt} {f : Addr} {fd : FuncData} {N ps : List Str} {k np : Nat} {m : MS} (F : Fun K x qual st f fd) (S : FnScope N ps (defScope st)) (hps : ps.length = np) (hnp : np ≤ N.length)
    (hb : ∀ (cdv : Value) (A : Around) (outer : List Env) (s : Shared) (H : Hp) (E : XK), Room k (A.deeper (envOfC qual (defScope st) s.heap.objs.size f cdv)) → DSs (cxOf (L2N.CX P w) P w K mg base N qual (defScope st) f cdv A outer s H E) (Yf T on E) (defBody st) m) :
    FnOk P w K mg base (L2N.CX P w) (k + 1) f fd ps (spP K T on (runP N.length m) np) := by
  refine okN F S (fun vs H Q E h => ?_) (fun cdv A outer s H vs Q E hr h => ⟨_, (hb cdv A outer s H E hr).ps, tS_P hnp rfl h⟩)
  obtain ⟨Oc, p, vs', u, ws, rfl, hl, oc, no, ob, r, h⟩ := h
  rw [List.length_cons, r.length, hl, hps]
end
end Qd
end
section
set_option Elab.async false
set_option linter.all false
set_option maxRecDepth 100000
/-! Operators and built-ins by their data. -/
namespace Qd
open PySem PySem.Spec PyProof.Rows L2
section
variable {K : PySem.W.Frag} {Ex : Addr → Nat → Prop} {O : Addr → Prop} {H : Hp} {vs : List V} {ws : List W} {p : Addr}
theorem rp_newTup (hO : ∀ p, O p → ∃ o, H p = some o) (np : H p = none) (r : RpA K Ex O H vs ws) : Same H (upd H p (.tup vs)) ∧ Rp K Ex O (upd H p (.tup vs)) (.ref p) (.tuple ws) := by
  have no : ¬ O p := fun z => by
    obtain ⟨o, e⟩ := hO p z
    rw [np] at e; cases e
  have sm : Same H (upd H p (.tup vs)) := same_new np
  exact ⟨sm, .tup (.inl ⟨no, upd_same⟩) (r.mono (same_ke sm) fun _ _ z => z)⟩
theorem rp_newLst (hO : ∀ p, O p → ∃ o, H p = some o) (np : H p = none) (r : RpA K Ex O H vs ws) : Same H (upd H p (.lst vs)) ∧ Rp K Ex O (upd H p (.lst vs)) (.ref p) (.list ws) := by
  have no : ¬ O p := fun z => by
    obtain ⟨o, e⟩ := hO p z
    rw [np] at e; cases e
  have sm : Same H (upd H p (.lst vs)) := same_new np
  exact ⟨sm, .lst (.inl ⟨no, .inl upd_same⟩) (r.mono (same_ke sm) fun _ _ z => z)⟩
end
section
variable {X : Cx}

/-! ### numbers -/
def i2 (c : Int → Int → Bool) (g : Int → Int → Int) : W → W → Option W := fun a b => match a, b with
  | .int i, .int j => if c i j = true then some (.int (g i j)) else none
  | _, _ => none
theorem i2_some {c : Int → Int → Bool} {g : Int → Int → Int} {a b r : W} (h : i2 c g a b = some r) : ∃ i j, a = .int i ∧ b = .int j ∧ c i j = true ∧ r = .int (g i j) := by
  unfold i2 at h
  split at h
  · split at h
    · rename_i z
      cases h
      exact ⟨_, _, rfl, rfl, z, rfl⟩
    · cases h
  · cases h
theorem opd_i2 {f : Value → Value → Sem Value} {C : Int → Int → Prop} {c : Int → Int → Bool} {g : Int → Int → Int} (h : OpR X f (rI C fun i j => .int (g i j))) (hc : ∀ i j, c i j = true → C i j) : OpD X f (i2 c g) :=
  ⟨_, h, fun Ex O H x y a b r Q _ e rx ry k => by
    obtain ⟨i, j, rfl, rfl, z, rfl⟩ := i2_some e
    exact ⟨i, j, rp_int rx, rp_int ry, hc _ _ z, k H _ (.refl _) (.int _)⟩⟩
theorem opd_i0 {f : Value → Value → Sem Value} {g : Int → Int → Int} (h : OpR X f (rI0 fun i j => .int (g i j))) : OpD X f (i2 (fun _ _ => true) g) :=
  ⟨_, h, fun Ex O H x y a b r Q _ e rx ry k => by
    obtain ⟨i, j, rfl, rfl, z, rfl⟩ := i2_some e
    exact ⟨i, j, rp_int rx, rp_int ry, k H _ (.refl _) (.int _)⟩⟩
abbrev subW := i2 (fun _ _ => true) fun i j => i - j
noncomputable abbrev fdivW := i2 (fun _ j => cdec (0 < j ∧ j.natAbs.log2 < 9000)) fun i j => i / j
noncomputable abbrev modW := i2 (fun _ j => cdec (0 < j)) fun i j => i % j
noncomputable abbrev powW := i2 (fun i j => cdec (0 ≤ j ∧ j ≤ 1000000 ∧ i.natAbs < 2 ^ 64)) fun i j => i ^ j.toNat
noncomputable abbrev shlW := i2 (fun i j => cdec (0 ≤ j ∧ j ≤ 1000000 ∧ i.natAbs < 2 ^ 64)) fun i j => i * 2 ^ j.toNat
noncomputable abbrev shrW := i2 (fun _ j => cdec (0 ≤ j)) fun i j => i / 2 ^ j.toNat
abbrev andW := i2 (fun _ _ => true) fun i j => Builtin.bitAnd i j
abbrev orW := i2 (fun _ _ => true) fun i j => Builtin.bitOr i j
abbrev xorW := i2 (fun _ _ => true) fun i j => Builtin.bitXor i j
theorem od_sub : OpD X (binaryOp .Sub) subW := opd_i0 op_sub
theorem od_fdiv : OpD X (binaryOp .FloorDiv) fdivW := opd_i2 op_fdivW fun _ j h => (cdec_iff.mp h : 0 < j ∧ j.natAbs.log2 < 9000)
theorem od_mod : OpD X (binaryOp .Mod) modW := opd_i2 op_mod fun _ _ h => cdec_iff.mp h
theorem od_pow : OpD X (binaryOp .Pow) powW := opd_i2 op_pow fun i j h => (cdec_iff.mp h : 0 ≤ j ∧ j ≤ 1000000 ∧ i.natAbs < 2 ^ 64)
theorem od_shl : OpD X (binaryOp .LShift) shlW := opd_i2 op_shl fun i j h => (cdec_iff.mp h : 0 ≤ j ∧ j ≤ 1000000 ∧ i.natAbs < 2 ^ 64)
theorem od_shr : OpD X (binaryOp .RShift) shrW := opd_i2 op_shr fun _ _ h => cdec_iff.mp h
theorem od_and : OpD X (binaryOp .BitAnd) andW := opd_i0 op_and
theorem od_or : OpD X (binaryOp .BitOr) orW := opd_i0 op_or
theorem od_xor : OpD X (binaryOp .BitXor) xorW := opd_i0 op_xor
def negW : W → Option W
  | .int i => some (.int (-i))
  | _ => none
theorem od_neg : UnD X (unaryOp .USub) negW := ⟨_, un_neg, fun Ex O H x a r Q _ e rx k => by
  cases a with
  | int i => cases e; exact ⟨i, rp_int rx, k H _ (.refl _) (.int _)⟩
  | _ => cases e⟩
/-! ints compared -/
def c2 (g : Int → Int → Bool) : W → W → Option W := fun a b => match a, b with
  | .int i, .int j => some (.bool (g i j))
  | _, _ => none
theorem c2_some {g : Int → Int → Bool} {a b r : W} (h : c2 g a b = some r) : ∃ i j, a = .int i ∧ b = .int j ∧ r = .bool (g i j) := by
  unfold c2 at h
  split at h
  · cases h; exact ⟨_, _, rfl, rfl, rfl⟩
  · cases h
theorem opd_c2 {f : Value → Value → Sem Value} {g : Int → Int → Bool} (h : OpR X f (rI0 fun i j => .bl (g i j))) : OpD X f (c2 g) :=
  ⟨_, h, fun Ex O H x y a b r Q _ e rx ry k => by
    obtain ⟨i, j, rfl, rfl, rfl⟩ := c2_some e
    exact ⟨i, j, rp_int rx, rp_int ry, k H _ (.refl _) (.bl _)⟩⟩
noncomputable abbrev ltI := c2 fun i j => cdec (i < j)
noncomputable abbrev leI := c2 fun i j => cdec (i ≤ j)
noncomputable abbrev gtI := c2 fun i j => cdec (j < i)
noncomputable abbrev geI := c2 fun i j => cdec (j ≤ i)
theorem od_ltI : OpD X (compareOp .Lt) ltI := by
  unfold ltI
  simp only [cdec_eq]
  exact opd_c2 op_lt
theorem od_leI : OpD X (compareOp .LtE) leI := by
  unfold leI
  simp only [cdec_eq]
  exact opd_c2 op_le
theorem od_gtI : OpD X (compareOp .Gt) gtI := by
  unfold gtI
  simp only [cdec_eq]
  exact opd_c2 op_gt
theorem od_geI : OpD X (compareOp .GtE) geI := by
  unfold geI
  simp only [cdec_eq]
  exact opd_c2 op_ge

/-! ### == of data -/
def okD (d : W) : Bool := noD d && SeqAt.shaped d
def eqW : W → W → Option W := fun a b => if (okD a && okD b) = true then some (.bool (PyData.eqv a b)) else none
def neW : W → W → Option W := fun a b => if (okD a && okD b) = true then some (.bool (!PyData.eqv a b)) else none
theorem okD_and {a b : W} (h : (okD a && okD b) = true) : (noD a = true ∧ SeqAt.shaped a = true) ∧ noD b = true ∧ SeqAt.shaped b = true := by
  unfold okD at h
  simpa only [Bool.and_eq_true] using h
theorem od_eq (hu : X.A.units + 64 < cLine) : OpD X (compareOp .Eq) eqW := ⟨_, op_eqD hu, fun Ex O H x y a b r Q _ e rx ry k => by
  unfold eqW at e
  split at e
  · rename_i z
    cases e
    obtain ⟨⟨h1, h2⟩, h3, h4⟩ := okD_and z
    exact ⟨a, b, rx.dp h1, ry.dp h3, h2, h4, k H _ (.refl _) (.bl _)⟩
  · cases e⟩
theorem od_ne (hu : X.A.units + 64 < cLine) : OpD X (compareOp .NotEq) neW := ⟨_, op_neD hu, fun Ex O H x y a b r Q _ e rx ry k => by
  unfold neW at e
  split at e
  · rename_i z
    cases e
    obtain ⟨⟨h1, h2⟩, h3, h4⟩ := okD_and z
    exact ⟨a, b, rx.dp h1, ry.dp h3, h2, h4, k H _ (.refl _) (.bl _)⟩
  · cases e⟩
def isNone : W → Bool
  | .none => true
  | _ => false
theorem rp_isNone {K : PySem.W.Frag} {Ex : Addr → Nat → Prop} {O : Addr → Prop} {H : Hp} {v : V} {w : W} (r : Rp K Ex O H v w) : decide (v = .non) = isNone w := by cases r <;> rfl
/-- x is None -/
def isNW : W → W → Option W := fun a b => if isNone b = true then some (.bool (isNone a)) else none
def notNW : W → W → Option W := fun a b => if isNone b = true then some (.bool (!isNone a)) else none
theorem rp_none {K : PySem.W.Frag} {Ex : Addr → Nat → Prop} {O : Addr → Prop} {H : Hp} {v : V} {w : W} (r : Rp K Ex O H v w) (h : isNone w = true) : v = .non := by cases r <;> first | rfl | cases h
theorem od_isN : OpD X (compareOp .Is) isNW := ⟨_, op_isN, fun Ex O H x y a b r Q _ e rx ry k => by
  unfold isNW at e
  split at e
  · rename_i z
    cases e
    exact ⟨rp_none ry z, by rw [rp_isNone rx]; exact k H _ (.refl _) (.bl _)⟩
  · cases e⟩
theorem od_notN : OpD X (compareOp .IsNot) notNW := ⟨_, op_notN, fun Ex O H x y a b r Q _ e rx ry k => by
  unfold notNW at e
  split at e
  · rename_i z
    cases e
    exact ⟨rp_none ry z, by rw [rp_isNone rx]; exact k H _ (.refl _) (.bl _)⟩
  · cases e⟩
/-- x is True, both truth values -/
def isBW : W → W → Option W := fun a b => match a, b with
  | .bool x, .bool y => some (.bool (decide (x = y)))
  | _, _ => none
def notBW : W → W → Option W := fun a b => match a, b with
  | .bool x, .bool y => some (.bool (!decide (x = y)))
  | _, _ => none
theorem rp_bool {K : PySem.W.Frag} {Ex : Addr → Nat → Prop} {O : Addr → Prop} {H : Hp} {v : V} {b : Bool} (r : Rp K Ex O H v (.bool b)) : v = .bl b := by cases r; rfl
theorem rp_str {K : PySem.W.Frag} {Ex : Addr → Nat → Prop} {O : Addr → Prop} {H : Hp} {v : V} {b : Str} (r : Rp K Ex O H v (.str b)) : v = .str b := by cases r; rfl
theorem od_isB : OpD X (compareOp .Is) isBW := ⟨_, op_isBl, fun Ex O H x y a b r Q _ e rx ry k => by
  unfold isBW at e
  split at e
  · cases e
    exact ⟨_, _, rp_bool rx, rp_bool ry, k H _ (.refl _) (.bl _)⟩
  · cases e⟩
theorem od_notB : OpD X (compareOp .IsNot) notBW := ⟨_, op_notBl, fun Ex O H x y a b r Q _ e rx ry k => by
  unfold notBW at e
  split at e
  · cases e
    exact ⟨_, _, rp_bool rx, rp_bool ry, k H _ (.refl _) (.bl _)⟩
  · cases e⟩

/-! ### + and * of more than numbers -/
/-- list + list, however the two lie -/
theorem op_catL : OpR X (binaryOp .Add) (fun x y H Q => ∃ l b xs zs, x = .ref l ∧ y = .ref b ∧ SqL X.K H l xs ∧ SqL X.K H b zs ∧ xs.length + zs.length ≤ sizeLine ∧ ∀ p, H p = none → Q (.ref p) (upd H p (.lst (xs ++ zs)))) := by
  intro pins s σ H x y v u Q I rx ry h
  obtain ⟨l, b, xs, zs, rfl, rfl, hH, hB, hz, q⟩ := h
  cases rx
  cases ry
  obtain ⟨us, r, ⟨⟨c1, d1, t1, s1⟩, n, ho, hc, hd, ht⟩, hl⟩ := I.list hH
  obtain ⟨us2, r2, ⟨⟨c2, d2, t2, s2⟩, n2, ho2, hc2, hd2, ht2⟩, hl2⟩ := I.list hB
  dsimp only at hc hd ht hc2 hd2 ht2
  subst hc hd ht hc2 hd2 ht2
  have e1 := r.length
  have e2 := r2.length
  refine concat_meets ⟨_, ho, rfl⟩ ⟨_, ho2, rfl⟩ noFill_list_add seq_list_add PySem.F.slot_list_add PySem.F.entry_list_add (PySem.F.args_list_add_2 _ _) (list_addW l b us.toArray us2.toArray n n2 _ _ s1 s2 (by rw [List.size_toArray, List.size_toArray]; omega)) ⟨ho, ho2, ?_⟩
  have ea : us.toArray ++ us2.toArray = (us ++ us2).toArray := by simp
  rw [ea]
  exact ⟨.ref _, _, I.lnew (t' := s.toks) (r.append r2) (by rw [List.length_append]; omega), rfl, q _ I.fresh⟩
def addW : W → W → Option W := fun a b => match a, b with
  | .int i, .int j => some (.int (i + j))
  | .str i, .str j => if i.length + j.length ≤ sizeLine then some (.str (i ++ j)) else none
  | .tuple xs, .tuple ys => if xs.length + ys.length ≤ sizeLine then some (.tuple (xs ++ ys)) else none
  | .list xs, .list ys => if xs.length + ys.length ≤ sizeLine then some (.list (xs ++ ys)) else none
  | _, _ => none
theorem RpA.nil_iff {K : PySem.W.Frag} {Ex : Addr → Nat → Prop} {O : Addr → Prop} {H : Hp} {vs : List V} {ws : List W} (r : RpA K Ex O H vs ws) : vs = [] ↔ ws = [] := by
  cases r <;> simp
theorem od_add : OpD X (binaryOp .Add) addW := by
  refine ⟨_, (op_add.or op_add_str).or (op_catA.or op_catL), fun Ex O H x y a b r Q hO e rx ry k => ?_⟩
  unfold addW at e
  split at e
  · cases e
    exact .inl (.inl ⟨_, _, rp_int rx, rp_int ry, k H _ (.refl _) (.int _)⟩)
  · split at e
    · rename_i z
      cases e
      exact .inl (.inr ⟨_, _, rp_str rx, rp_str ry, z, k H _ (.refl _) (.str _)⟩)
    · cases e
  · split at e
    · rename_i z
      cases e
      refine .inr (.inl ?_)
      cases rx with
      | tup l1 r1 =>
        cases ry with
        | tup l2 r2 =>
          refine ⟨_, _, _, _, rfl, rfl, l1.sq, l2.sq, by rw [r1.length, r2.length]; exact z, fun e1 => ?_, fun e1 e2 => ?_, fun e1 e2 p np => ?_⟩
          · rw [r1.nil_iff] at e1
            subst e1
            exact k H _ (.refl _) (.tup l2 r2)
          · rw [r2.nil_iff] at e2
            subst e2
            rw [List.append_nil] at k
            exact k H _ (.refl _) (.tup l1 r1)
          · exact k _ _ (rp_newTup hO np (r1.append r2)).1 (rp_newTup hO np (r1.append r2)).2
    · cases e
  · split at e
    · rename_i z
      cases e
      refine .inr (.inr ?_)
      cases rx with
      | lst l1 r1 =>
        cases ry with
        | lst l2 r2 =>
          refine ⟨_, _, _, _, rfl, rfl, l1.sq, l2.sq, by rw [r1.length, r2.length]; exact z, fun p np => ?_⟩
          exact k _ _ (rp_newLst hO np (r1.append r2)).1 (rp_newLst hO np (r1.append r2)).2
    · cases e
  · cases e
/-- * of two factors of together less than eight million bits -/
def CMulX (i j : Int) : Prop := i.natAbs.log2 + j.natAbs.log2 < 8000000
theorem CMulX.ok {i j : Int} (h : CMulX i j) : IntMulOk i j := by
  have b : ∀ x : Int, Builtin.Int.intBits x ≤ x.natAbs.log2 + 1 := fun x => by
    unfold Builtin.Int.intBits
    split <;> omega
  have h1 := b i
  have h2 := b j
  have h3 : i.natAbs.log2 + j.natAbs.log2 < 8000000 := h
  have e : bitsLine = 134217728 := by decide
  unfold IntMulOk
  intro z
  rw [Bool.and_eq_true] at z
  have z2 := z.2
  unfold Builtin.Int.intTooBig at z2
  have z3 := of_decide_eq_true z2
  rw [e] at z3
  omega
theorem op_mulX : OpR X (binaryOp .Mult) (rI CMulX fun i j => .int (i * j)) := opI fun _ _ _ _ _ _ _ hc q => mul_int q hc.ok
noncomputable def mulW : W → W → Option W := fun a b => match a, b with
  | .int i, .int j => if cdec (i.natAbs.log2 + j.natAbs.log2 < 8000000) = true then some (.int (i * j)) else none
  | .tuple xs, .int k => if cdec (xs ≠ [] ∧ 2 ≤ k ∧ k ≤ 1000 ∧ xs.length ≤ 1000) = true then some (.tuple (List.replicate k.toNat xs).flatten) else none
  | _, _ => none
theorem od_mul : OpD X (binaryOp .Mult) mulW := by
  refine ⟨_, op_mulX.or op_repT, fun Ex O H x y a b r Q hO e rx ry k => ?_⟩
  unfold mulW at e
  split at e
  · split at e
    · rename_i z
      have z := cdec_iff.mp z
      cases e
      exact .inl ⟨_, _, rp_int rx, rp_int ry, z, k H _ (.refl _) (.int _)⟩
    · cases e
  · split at e
    · rename_i z
      have z := cdec_iff.mp z
      cases e
      cases rx with
      | tup l1 r1 =>
        refine .inr ⟨_, _, _, rfl, rp_int ry, l1.sq, fun h => z.1 (r1.nil_iff.mp h), z.2.1, z.2.2.1, by rw [r1.length]; exact z.2.2.2, fun p np => ?_⟩
        exact k _ _ (rp_newTup hO np (r1.rep _)).1 (rp_newTup hO np (r1.rep _)).2
    · cases e
  · cases e
/-- a new list times a number -/
noncomputable def mRepF (a b : M W) : M W := fun d => (a d).bind fun x d1 => (b d1).bind fun y d2 => match x, y with
  | .list xs, .int k => if cdec (-(2 ^ 63) ≤ k ∧ k < 2 ^ 63 ∧ xs.length * k.toNat ≤ sizeLine) = true then .ok (.list (List.replicate k.toNat xs).flatten) d2 else .bad
  | _, _ => .bad
theorem df_rep {pa pb : Bool} {Y : Yx} {a b : Expr} {pos : Pos} {ma mb : M W} (ha : DF X Y pa a ma) (hb : DE X Y pb b mb) : DF X Y (pa && pb) (.BinOp a .Mult b pos) (mRepF ma mb) := ⟨by
  refine pe_weak (pe_op op_rep ha.pe hb.pe) fun σ H Q h => ?_
  obtain ⟨Oc, d, rs, h⟩ := h
  refine ⟨Oc, d, rs, (Po.bind h).imp fun x d1 H1 g1 h1 p np rsp ob => ?_⟩
  refine ⟨Oc, d1, g1.rs, ?_⟩
  have h2 := Po.bind1 h1
  cases q : mb d1 with
  | bad => rw [q] at h2; exact h2
  | exc c d2 => rw [q] at h2; exact h2
  | ok y d2 =>
    rw [q] at h2
    intro H2 g2 v2 r2
    have h3 := h2 H2 g2
    dsimp only at h3
    split at h3
    · rename_i xs k
      split at h3
      · rename_i z
        have z := cdec_iff.mp z
        obtain ⟨vs, e, ra⟩ := ob
        have ra' : RpA X.K Y.Ex (Ow Oc d1 σ) H1 vs xs := ra.mono ke_with fun _ _ z => z
        have nm : ¬ Mine d1 σ p := rsp.nMine (.inr rfl)
        have e2 : H2 p = some (.lst vs) := g2.fr p _ e nm
        have ra2 := g2.rpA ra'
        refine ⟨p, k, vs, rfl, rp_int r2, e2, z.1, z.2.1, by rw [ra.length]; exact z.2.2, fun t nt => ?_⟩
        exact h3 _ (.same g2.rs (same_new nt)) t ((g1.trans g2).free nt) (g2.rs.withNew nt) ⟨_, upd_same, (ra2.rep _).mono (ke_new nt) fun _ _ z => z⟩
      · exact h3.elim
    · exact h3.elim⟩

end
end Qd
end
section
set_option Elab.async false
set_option linter.all false
set_option maxRecDepth 100000
set_option maxHeartbeats 2000000
/-! Within an except suite: iteration over lists, tuples as targets, comprehensions. -/
namespace Qd
open PySem PySem.Spec PyProof.Rows L2 HotX L2H

section
variable {prog : Program} {w : World} {A : Around} {E : Value → Shared → Prop} {s : Shared}
/-- StopIteration is made, chained to what is handled, and caught -/
theorem stop_hot {α : Type} {x1 it : Addr} {h : Heap} {Q : Option Value → Shared → Prop} (hot : HotAt A x1 s.heap) (hne : x1 ≠ it) (sb : Heap.SameBut it s.heap h)
    (hQ : ∀ h', Heap.ExtBut it s.heap h' → Q none { s with heap := h' }) :
    wpAny (model prog w) A.in1 (Builtin.SmallTypes.stopIteration : Sem α) (fun v s1 => False) (fun e s1 => wpAny (model prog w) A (isInstance e (.type "StopIteration")) (fun b s2 => b = true ∧ Q none s2) E s1) { s with heap := h } := by
  obtain ⟨hh, o1, vs1, h1, d1, c1⟩ := hot
  have h1' : h.get? x1 = some o1 := (sb.2 x1 hne).trans h1
  show wpAny _ _ (newExc (.type "StopIteration") [] >>= _) _ _ _
  refine wpAny_bind ?_
  simp only [newExc, newTuple]
  refine wpAny_bind (wpAny_newObj_type ?_ (by size_fits))
  refine wpAny_bind (m := firstArgMember _ _) (wpAny_of_eq (a := Value.none) (by first | rfl | (simp only [firstArgMember]; rfl)) ?_)
  refine wpAny_newObj_type ?_ (by size_fits)
  refine raiseNew_hot (A := A.in1) ⟨hh, o1, vs1, Heap.get?_push_of_some _ (Heap.get?_push_of_some _ h1'), d1, c1⟩ (Nat.ne_of_lt (Heap.lt_size (Heap.get?_push_of_some _ h1'))) (Heap.get?_push_size _ rfl) rfl (by first | (simp; done) | (simp; omega) | (simp only [Array.size_append]; simp; omega)) ?_
  refine wpAny_isInstance (T := "StopIteration") (b := true) ⟨_, Heap.get?_update_self _ (Heap.get?_push_size _ rfl) rfl, rfl⟩ isSubtype_stop ⟨rfl, ?_⟩
  refine hQ _ fun b o hb e => ?_
  have e' : h.get? b = some o := (sb.2 b hb).trans e
  rw [Heap.get?_update_other _ _ (Nat.ne_of_gt (Heap.lt_size (Heap.get?_push_of_some _ e')))]
  exact Heap.get?_push_of_some _ (Heap.get?_push_of_some _ e')
theorem next_list_end_hot {it l x1 : Addr} {i : Nat} {items : Array Value} {Q : Option Value → Shared → Prop} (hot : HotAt A x1 s.heap) (hne : x1 ≠ it) (hit : s.heap.IsListIter it l i) (hl : s.heap.IsList l items) (hx : items[i]? = none)
    (hQ : ∀ h', Heap.ExtBut it s.heap h' → Q none { s with heap := h' }) : wpAny (model prog w) A (pyNext (.ref it)) Q E s := by
  obtain ⟨o, ho, hc, hd⟩ := id hit
  obtain ⟨ol, hol, _, nl, hdl⟩ := hl
  unfold pyNext
  refine wpAny_bind (wpAny_attempt (wpAny_callSpecial?_slot (name := Str.ofString "__next__") hit.typeIs slot_listiter_next (wpAny_call_entry slot_listiter_next hit.typeIs entry_listiter_next ?_ (args_listiter_next _))))
  show wpAny _ _ (field (.ref it) 0 >>= _) _ _ s
  refine wpAny_bind (wpAny_field ho hd (x := .ref l) rfl ?_)
  show wpAny _ _ (if (Value.ref l == Value.none) = true then _ else _) _ _ s
  rw [if_neg (show ¬ ((Value.ref l == Value.none) = true) from Bool.false_ne_true)]
  show wpAny _ _ (field (.ref it) 1 >>= _) _ _ s
  refine wpAny_bind (wpAny_field ho hd (x := .int i 0) rfl ?_)
  show wpAny _ _ (seqItems? (.ref l) >>= _) _ _ s
  refine wpAny_bind (wpAny_seqItems hol hdl ?_)
  simp only [Int.toNat_natCast, hx]
  refine wpAny_bind (wpAny_rule (wpAny_bind (wpAny_setField ho hd (by simp) ?_)))
  refine wpAny_mono (stop_hot (Q := Q) (E := E) hot hne (Heap.SameBut.update ..) hQ) (fun _ _ z => False.elim z) fun e s1 z => ?_
  exact wpAny_bind (wpAny_mono z (fun b s2 ⟨hb, q⟩ => by subst hb; exact wpAny_pure q) fun _ _ z => z)
theorem next_tup_end_hot {it l x1 : Addr} {i : Nat} {items : Array Value} {Q : Option Value → Shared → Prop} (hot : HotAt A x1 s.heap) (hne : x1 ≠ it) (hit : IsTupIter s.heap it l i) (hl : IsTup s.heap l items) (hx : items[i]? = none)
    (hQ : ∀ h', Heap.ExtBut it s.heap h' → Q none { s with heap := h' }) : wpAny (model prog w) A (pyNext (.ref it)) Q E s := by
  obtain ⟨o, ho, hc, hd⟩ := id hit
  obtain ⟨ol, hol, _, nl, hdl⟩ := hl
  unfold pyNext
  refine wpAny_bind (wpAny_attempt (wpAny_callSpecial?_slot (name := Str.ofString "__next__") hit.typeIs slot_tupleiter_next (wpAny_call_entry slot_tupleiter_next hit.typeIs entry_tupleiter_next ?_ (args_tupleiter_next _))))
  show wpAny _ _ (field (.ref it) 0 >>= _) _ _ s
  refine wpAny_bind (wpAny_field ho hd (x := .ref l) rfl ?_)
  show wpAny _ _ (if (Value.ref l == Value.none) = true then _ else _) _ _ s
  rw [if_neg (show ¬ ((Value.ref l == Value.none) = true) from Bool.false_ne_true)]
  show wpAny _ _ (field (.ref it) 1 >>= _) _ _ s
  refine wpAny_bind (wpAny_field ho hd (x := .int i 0) rfl ?_)
  show wpAny _ _ (seqItems? (.ref l) >>= _) _ _ s
  refine wpAny_bind (wpAny_seqItems hol hdl ?_)
  simp only [Int.toNat_natCast, hx]
  refine wpAny_bind (wpAny_rule (wpAny_bind (wpAny_setField ho hd (by simp) ?_)))
  refine wpAny_mono (stop_hot (Q := Q) (E := E) hot hne (Heap.SameBut.update ..) hQ) (fun _ _ z => False.elim z) fun e s1 z => ?_
  exact wpAny_bind (wpAny_mono z (fun b s2 ⟨hb, q⟩ => by subst hb; exact wpAny_pure q) fun _ _ z => z)
/-- a tuple's items into targets -/
theorem assign_tup_hot {x1 : Addr} {env : Env} {elts : List Expr} {k : Nat} {pos : Pos} {t : Addr} {items : Array Value} {Q : Unit → Shared → Prop} (hot : HotAt A x1 s.heap) (ht : IsTup s.heap t items)
    (hn : (assignEach elts env).length = items.size) (hstar : (assignEach elts env).findIdx? (·.1) = none)
    (h : ∀ h', Heap.ExtBut s.heap.objs.size s.heap h' → wpAny (model prog w) A (assignInOrder ((assignEach elts env).map (·.2)) items.toList) Q E { s with heap := h' }) :
    wpAny (model prog w) A (assign (.Tuple elts k pos) env (.ref t)) Q E s := by
  rw [assign_Tuple]
  refine wpAny_bind (wpAny_standAt ?_)
  unfold unpack
  rw [hn, hstar]
  refine wpAny_bind (wpAny_holding ?_)
  have hlt : t ≠ s.heap.objs.size := by obtain ⟨o, ho, _⟩ := ht; exact Nat.ne_of_lt (Heap.lt_size ho)
  have hx1 : x1 ≠ s.heap.objs.size := by obtain ⟨_, o, vs, ho, _⟩ := hot; exact Nat.ne_of_lt (Heap.lt_size ho)
  unfold unpackItems
  refine wpAny_bind ?_
  unfold notIterableAtAll
  refine wpAny_bind (wpAny_specialOf ht.typeIs slot_tuple_iter.lookup ?_)
  refine wpAny_pure ?_
  simp only [Bool.false_eq_true, if_false]
  refine wpAny_bind (wpAny_holding (iter_tuple ht ?_))
  refine wpAny_bind (wpAny_holding (draw_tuple hlt items.size 0 _ _ ⟨_, Heap.get?_push_size _ rfl, rfl, rfl⟩ (ht.push _) (by omega) fun h₁ hit₁ hs₁ => ?_))
  rw [show List.take items.size (List.drop 0 items.toList) = items.toList by rw [List.drop_zero]; exact List.take_of_length_le (by simp)]
  rw [if_neg (by simp)]
  have ht₁ : IsTup h₁ t items := (ht.push _).extBut hs₁.extBut hlt
  obtain ⟨hh, o, vs, g1, g2, g3⟩ := hot
  have hot₁ : HotAt A x1 h₁ := ⟨hh, o, vs, hs₁.extBut x1 o hx1 (Heap.get?_push_of_some _ g1), g2, g3⟩
  refine wpAny_bind (wpAny_holding (next_tup_end_hot (s := { s with heap := h₁ }) hot₁ hx1 hit₁ ht₁ (by simp) fun h₂ he₂ => ?_))
  simp only [Option.isSome_none, Bool.false_eq_true, if_false]
  exact wpAny_pure (h h₂ fun b o hb e => he₂ b o hb (hs₁.extBut b o hb (Heap.get?_push_of_some _ e)))
end

theorem turn_listH {P : Program} {w : World} {K : PySem.W.Frag} {tg : Expr} (a it : Addr) : TurnH P w K tg (Itl K a) [it] it (fun i h => h.IsListIter it a i) where
  mem := by simp
  obj := fun i h st b hb => by
    have e : b = it := by simpa using hb
    subst e
    obtain ⟨o, e, c, d⟩ := st
    exact ⟨o, e, fun v z => by rw [d] at z; cases z⟩
  keep := fun i h h' st k => st.at fun o e => k it (by simp) o e
  item := by
    intro X hP hw hK hc i pins s σ H E I hf st hg
    subst hP hw hK
    obtain ⟨xs, x, hq, hx⟩ := hg
    obtain ⟨its, rv, p, hz⟩ := I.list hq
    obtain ⟨u, hu, ru⟩ := rv.get hx
    obtain ⟨f0, f1, f2, f3, f4, f5⟩ := hf it (by simp)
    refine wpAny_pyNext_list_item st p.isList (x := u) (by simpa using hu) fun h' st' sb => ?_
    have I1 : Inv X pins σ H { s with heap := h' } := I.turned (t' := s.toks) (fun b o hb e => (sb.2 b hb).trans e) f0 f1 f3 f4 f5
    obtain ⟨o, e, c, d⟩ := id st'
    exact ⟨u, rfl, go_of (s := { s with heap := h' }) e c d (by decide) ⟨x, H, I1, ru, ⟨rfl, fun ys hy => by rw [I.list_inj hy hq]; exact hx⟩, st', fun b hb => (hf b hb).1⟩⟩
  done := by
    intro X hP hw hK hc i pins s σ H E I hf st hg
    subst hP hw hK
    obtain ⟨xs, hq, hx⟩ := hg
    obtain ⟨its, rv, p, hz⟩ := I.list hq
    obtain ⟨f0, f1, f2, f3, f4, f5⟩ := hf it (by simp)
    have hl := rv.length
    obtain ⟨q, ⟨hh, vs, e1, e2⟩, hp⟩ := hc
    have hpin := I.pin q (List.mem_append_left _ hp)
    exact next_list_end_hot (x1 := q.1) ⟨hh, q.2, vs, hpin.1, e1, e2⟩ (f5 q (List.mem_append_left _ hp)) st p.isList (by simp; omega) fun h' eb => ⟨rfl, I.turned (t' := s.toks) (fun b o hb e => eb b o hb e) f0 f1 f3 f4 f5⟩
  self := fun _ _ _ _ _ st h => wpAny_pyIter_listiter st h
section
variable {X : Cx}
theorem pi_listH {tg l : Expr} {tl : TE} (hl : PE X l tl) : PIH X tg l (iList X.K tl) := by
  refine ⟨fun pins s σ H R I h => ?_⟩
  refine thn (hl.run pins s σ H _ I h) fun v s1 ⟨x, H1, I1, r1, q1⟩ => ?_
  obtain ⟨a, e, ⟨xs, hq⟩, q⟩ := q1
  subst e
  cases r1
  obtain ⟨its, rv, p, hz⟩ := I1.list hq
  refine wpAny_pyIter_list p.isList ?_
  refine ⟨s1.heap.objs.size, [s1.heap.objs.size], _, _, H1, rfl, I1.kept (t' := s1.toks) fun b o e => Heap.get?_push_of_some _ e, turn_listH a _, ⟨_, Heap.get?_push_size _ rfl, rfl, rfl⟩, fun b hb => ?_, q⟩
  have e : b = s1.heap.objs.size := by simpa using hb
  subst e
  exact I1.fpOk (Nat.le_refl _) (I1.hok.fresh (Nat.le_refl _))
theorem pg_tupH {es : List Expr} {k : Nat} {pos : Pos} {t : TGs} {n : Nat} (hc : HotC X) (h : PGs X es t) (hn : (assignEach es X.env).length = n := by rfl) (hst : (assignEach es X.env).findIdx? (·.1) = none := by rfl) : PG X (.Tuple es k pos) (gTup X.K n t) := by
  refine ⟨fun pins s σ H v u Q I r hw => ?_⟩
  obtain ⟨a, xs, e1, hq, hl, hw⟩ := hw
  subst e1
  cases r
  obtain ⟨its, rv, ht, hz⟩ := I.tuple hq
  obtain ⟨x1, hot⟩ := hc.at I
  refine assign_tup_hot hot ht (by simp [hn, ← hl, rv.length]) hst fun h' hx => ?_
  have I1 : Inv X pins σ H { s with heap := h' } := I.kept (t' := s.toks) fun b o e => hx b o (Nat.ne_of_lt (Heap.lt_size e)) e
  exact h.run pins _ σ H xs _ Q I1 (by simpa using rv) hw
/-- a comprehension's block within a suite: the handled exception stays pinned -/
abbrev blkH (X : Cx) (s : Shared) (H : Hp) (scope : Scope) (cenv : Env) (fp : List Addr) (p : Addr × Obj) : Cx := { X.blk s H scope cenv fp with pn := [p] }
theorem invToH {σ : St} {H H' : Hp} {s s' : Shared} {scope : Scope} {cenv : Env} {fp : List Addr} {p : Addr × Obj} (I : Inv (X.blk s' H' scope cenv fp) [] σ H s) (hp : s.heap.get? p.1 = some p.2 ∧ H p.1 = none ∧ p.1 ≠ cenv.locals ∧ p.1 ∉ frs X.stack ∧ ∀ v, p.2.data ≠ .cell v) : Inv (blkH X s' H' scope cenv fp p) [] σ H s :=
  ⟨⟨I.ok.mod, I.ok.kind, I.ok.glob, I.ok.blt, I.ok.above, I.ok.inj, I.ok.has, I.ok.cab, I.ok.hd, I.ok.frames, I.ok.stk, I.ok.exf, I.ok.bs, I.ok.bsz, I.ok.noex, I.ok.exfs, I.ok.funs, I.ok.frf⟩, I.os, I.bare, I.base, I.loc, I.cell, I.free, I.freeC, fun q hq => by
    rw [List.append_nil, List.mem_singleton] at hq
    subst hq
    exact hp, I.hok, I.len⟩
/-- [elt for tg in iter if ..] within a suite -/
theorem lc_coreH {pins : List (Addr × Obj)} {s : Shared} {σ : St} {H : Hp} {Q : VK} {elt tg iter : Expr} {ifs : List Expr} {scope : Scope} {own : List (Str × Nat)} {pos pos' : Pos} {wi : TI} {g : TG} {tt : TT} {te : TE} {use : Option (Value → Sem Unit)} {Qf : Value → Shared → Prop}
    (hc : HotC X) (hN : X.N.Nodup) (I : Inv X pins σ H s) (hi : PIH X tg iter wi) (ok : BlkOk X.N X.env.scope scope own)
    (hg : ∀ (s : Shared) (H : Hp) (C : Addr) (cl : List (Str × Addr)) (fp : List Addr) (p : Addr × Obj), Hot1 X.A p → PG (blkH X s H scope (compEnvC scope cl C X.env) fp p) tg g)
    (ht : ∀ (s : Shared) (H : Hp) (C : Addr) (cl : List (Str × Addr)) (fp : List Addr) (p : Addr × Obj), Hot1 X.A p → PTs (blkH X s H scope (compEnvC scope cl C X.env) fp p) ifs tt)
    (he : ∀ (s : Shared) (H : Hp) (C : Addr) (cl : List (Str × Addr)) (fp : List Addr) (p : Addr × Obj), Hot1 X.A p → PE (blkH X s H scope (compEnvC scope cl C X.env) fp p) elt te)
    (hs : ∀ x, foldedSetIterable iter X.env x = pure x) (h : tLc wi g tt te (own.map (·.2)) σ H Q)
    (hRR : ∀ D C s' m H', Inv X pins σ H' s' → Q (.ref D) H' → s'.heap.Ns C m → FpOk X pins H' C → compPost (model X.prog X.w) X.A X.xe use Qf (.ref D) C (.ok .next) s') :
    wpAny (model X.prog X.w) X.A (comprehension (.ListComp elt [⟨tg, iter, ifs, 0⟩] scope pos) scope X.env pos' (newList []) false (eval iter X.env) use) Qf X.xe s := by
  obtain ⟨p, hot, hpm⟩ := hc
  have hc : HotC X := ⟨p, hot, hpm⟩
  have hfree : ∀ y ∈ scope.names, y.2 = .free → ∃ c, X.env.cells.lookup y.1 = some c := fun y hy e => I.ok.has _ (by rcases ok.free y hy e with k | k; exact .inl k; exact .inr k)
  refine wpAny_comprehension_free (use := use) rfl hs (closure_ok hfree) ok.kind (fun y hy e => by rw [ok.uniq y hy, e]) (thn (hi.run pins s σ H _ I h) fun xv s1 hx => thn hx fun itv s2 h2 => ?_)
  obtain ⟨it, fp, tn, J, H2, e, I2, T, st2, f2, q⟩ := h2
  subst e
  refine wpAny_newObj_type (newEnv_comp ?_) (by show 0 ≤ sizeLine; decide)
  -- the new list at D
  generalize hD : s2.heap.objs.size = D
  have hDn : H2 D = none := I2.hok.fresh (Nat.le_of_eq hD)
  obtain ⟨W, ⟨m0, w0⟩, turn⟩ := q D hDn
  generalize hs3 : ({ s2 with heap := s2.heap.push { cls := .type "list", data := .seq ([] : List Value).toArray } } : Shared) = s3
  have h3 : s3.heap = s2.heap.push { cls := .type "list", data := .seq ([] : List Value).toArray } := by rw [← hs3]
  have I3 : Inv X pins σ (upd H2 D (.lst [])) s3 := by
    rw [← hs3]
    exact I2.laid (t' := s2.toks) (fun b o e => Heap.get?_push_of_some _ e) (Nat.le_of_eq hD) ⟨Nat.zero_le _, [], 0, .nil, by rw [← hD]; exact Heap.get?_push_size _ rfl⟩
  have f3 : ∀ b ∈ fp, FpOk X pins (upd H2 D (.lst [])) b ∧ b < s3.heap.objs.size := fun b hb => by
    obtain ⟨o, e, _⟩ := T.obj _ _ st2 b hb
    have hlt := Heap.lt_size e
    exact ⟨⟨by rw [upd_ne (by rw [← hD]; exact Nat.ne_of_lt hlt)]; exact (f2 b hb).1, (f2 b hb).2⟩, by rw [h3, Heap.size_push]; exact Nat.lt_succ_of_lt hlt⟩
  have st3 : tn 0 s3.heap := T.keep _ _ _ st2 fun b _ o e => by rw [h3]; exact Heap.get?_push_of_some _ e
  have I4 := block_start I3 ok hN f3
  generalize hcl : cellsFrom (s3.heap.objs.size + 1) scope.names (cloFrom X.env.cells scope.names []) = cl at I4 ⊢
  show codeAny _ _ (.compStart (.ListComp elt [⟨tg, iter, ifs, 0⟩] scope pos) 0 (.ref it) (.ref D) (compEnvC scope cl s3.heap.objs.size X.env)) (compPost (model X.prog X.w) X.A X.xe use Qf (.ref D) s3.heap.objs.size) { s3 with heap := pushCells (s3.heap.push { cls := .type "dict", data := .dict #[] }) scope.names }
  have pg := hg s3 (upd H2 D (.lst [])) s3.heap.objs.size cl fp p hot
  have pt := ht s3 (upd H2 D (.lst [])) s3.heap.objs.size cl fp p hot
  have pe := he s3 (upd H2 D (.lst [])) s3.heap.objs.size cl fp p hot
  have nfp : ∀ b ∈ fp, (upd H2 D (.lst [])) b = none := fun b hb => (f3 b hb).1.1
  have hp3 := I3.pin p (List.mem_append_left _ hpm)
  generalize hce : compEnvC scope cl s3.heap.objs.size X.env = ce at I4 pg pt pe ⊢
  have cL : ce.locals = s3.heap.objs.size := by subst hce; rfl
  generalize hH3 : upd H2 D (.lst []) = H3 at I3 I4 pg pt pe w0 nfp f3 hp3
  generalize hs4 : ({ s3 with heap := pushCells (s3.heap.push { cls := .type "dict", data := .dict #[] }) scope.names } : Shared) = s4 at I4 ⊢
  have kp4 : ∀ b o, s3.heap.get? b = some o → s4.heap.get? b = some o := fun b o e => by rw [← hs4]; exact pushCells_keeps _ _ _ _ (Heap.get?_push_of_some _ e)
  have st4 : tn 0 s4.heap := T.keep _ _ _ st3 fun b _ o e => kp4 b o e
  have J4 : Inv (blkH X s3 H3 scope ce fp p) [] (wipe σ (own.map (·.2))) H3 s4 := invToH I4 ⟨kp4 _ _ hp3.1, hp3.2.1, by rw [cL]; exact Nat.ne_of_lt (Heap.lt_size hp3.1), fun z => by
    rcases List.mem_cons.mp (I3.stkSub _ z) with e | e
    · exact hp3.2.2.1 e
    · exact hp3.2.2.2.1 e, hp3.2.2.2.2⟩
  have hcB : HotC (blkH X s3 H3 scope ce fp p) := ⟨p, hot, List.mem_singleton.mpr rfl⟩
  have stat : ∀ {σ' : St} {H' : Hp} {s' : Shared}, Inv (blkH X s3 H3 scope ce fp p) [] σ' H' s' → (∀ b ∈ fp, H' b = none) → ∀ b ∈ fp, FpOk (blkH X s3 H3 scope ce fp p) [] H' b := fun {σ' H' s'} I' hn b hb =>
    ⟨hn b hb, (I'.ok.exf b hb).1, I'.ok.exfs b hb, .inl hb, fun x c e => (I'.ok.exf b hb).2 x c e, fun q hq => by
      have hq : q ∈ [p] ++ [] := hq
      rw [List.append_nil, List.mem_singleton] at hq
      rw [hq]
      exact (f3 b hb).1.2.2.2.2.2 p (List.mem_append_left _ hpm)⟩
  have loop : codeAny (model X.prog X.w) X.A (.compLoop (.ListComp elt [⟨tg, iter, ifs, 0⟩] scope pos) 0 (.ref it) (.ref D) ce) (compPost (model X.prog X.w) X.A X.xe use Qf (.ref D) s3.heap.objs.size) s4 := by
    refine compLoop_any (fun n s' => ∃ i H', Inv (blkH X s3 H3 scope ce fp p) [] (wipe σ (own.map (·.2))) H' s' ∧ tn i s'.heap ∧ (∀ b ∈ fp, H' b = none) ∧ W i n H') ?_ m0 ⟨0, H3, J4, st4, nfp, w0⟩
    rintro n s5 ⟨i, H5, I5, st5, n5, w5⟩
    rcases turn i n H5 w5 with ⟨stop, qq⟩ | ⟨go, Nx, hNx, step⟩
    · refine thnF (T.done (blkH X s3 H3 scope ce fp p) rfl rfl rfl hcB i [] s5 _ H5 (fun _ _ => False) I5 (stat I5 n5) st5 stop) fun r s6 ⟨hr, I6⟩ => ?_
      subst hr
      have I7 : Inv X pins σ H5 s6 := I3.call' (ch := fp) I6.os I6.base I6.hok I6.bare fun b hb => ⟨(f3 b hb).1.2.2.2.1, (f3 b hb).1.2.1, (f3 b hb).1.2.2.2.2.1, (f3 b hb).1.2.2.2.2.2⟩
      have nC : H5 s3.heap.objs.size = none := by
        have z : H5 ce.locals = none := I6.free
        rw [cL] at z
        exact z
      obtain ⟨m, hn, _⟩ := I6.loc
      have hn : s6.heap.Ns ce.locals m := hn
      rw [cL] at hn
      exact hRR D s3.heap.objs.size s6 m H5 I7 qq hn (I3.fpOk (Nat.le_refl _) nC)
    · refine thnF (T.item (blkH X s3 H3 scope ce fp p) rfl rfl rfl hcB i [] s5 _ H5 (fun _ _ => False) I5 (stat I5 n5) st5 go) fun r s6 ⟨u, hr, h6⟩ => ?_
      subst hr
      refine thnF h6 fun _ s7 ⟨x, H7, I7, r7, y7, st7, n7⟩ => ?_
      refine thnF (pg.run _ s7 _ H7 x u _ (I7.pinned (stat I7 n7) (T.obj _ _ st7)) r7 (step x H7 y7)) fun _ s8 ⟨σ8, H8, I8, hw8, q8⟩ => ?_
      refine thnF (pt.run _ s8 σ8 H8 _ I8 q8) fun b s9 ⟨H9, I9, q9⟩ => ?_
      have fin : ∀ {s' : Shared} {H' : Hp}, Inv (blkH X s3 H3 scope ce fp p) ([] ++ pinsAt fp s7.heap) σ8 H' s' → Nx H' → ∃ m, m < n ∧ ∃ i H', Inv (blkH X s3 H3 scope ce fp p) [] (wipe σ (own.map (·.2))) H' s' ∧ tn i s'.heap ∧ (∀ b ∈ fp, H' b = none) ∧ W i m H' := fun {s' H'} I' nx => by
        obtain ⟨m', hm, w'⟩ := hNx H' nx
        have pin' : ∀ b ∈ fp, ∀ o, s7.heap.get? b = some o → s'.heap.get? b = some o ∧ H' b = none := fun b hb o e =>
          let z := I'.pin (b, o) (List.mem_append_right _ (List.mem_append_right _ (mem_pinsAt hb e)))
          ⟨z.1, z.2.1⟩
        have hl : (wipe σ (own.map (·.2))).length = σ8.length := by rw [← hw8, wipe_length]
        refine ⟨m', hm, i + 1, H', (I'.unpinned (pins := [])).weak hl (fun j v e => by rw [← hw8] at e; exact (wipe_some e).1), T.keep _ _ _ st7 fun b hb o e => (pin' b hb o e).1, fun b hb => ?_, w'⟩
        obtain ⟨o, e, _⟩ := T.obj _ _ st7 b hb
        exact (pin' b hb o e).2
      cases b with
      | false =>
        simp only [Bool.false_eq_true, if_false] at q9 ⊢
        exact fin I9 q9
      | true =>
        simp only [if_true] at q9 ⊢
        refine thnF (pe.run _ s9 σ8 H9 _ I9 q9) fun z s10 ⟨yv, H10, I10, r10, acc, hD10, hz10, nx⟩ => ?_
        exact app_ok (X := blkH X s3 H3 scope ce fp p) I10 hD10 hz10 r10 fun s11 I11 => fin I11 nx
  exact codeAny_compStart_list loop (T.self X.A 0 _ _ _ st4 loop)
theorem pe_lcH {elt tg iter : Expr} {ifs : List Expr} {scope : Scope} {own : List (Str × Nat)} {pos : Pos} {wi : TI} {g : TG} {tt : TT} {te : TE} (hc : HotC X) (hN : X.N.Nodup) (hi : PIH X tg iter wi) (ok : BlkOk X.N X.env.scope scope own)
    (hg : ∀ (s : Shared) (H : Hp) (C : Addr) (cl : List (Str × Addr)) (fp : List Addr) (p : Addr × Obj), Hot1 X.A p → PG (blkH X s H scope (compEnvC scope cl C X.env) fp p) tg g)
    (ht : ∀ (s : Shared) (H : Hp) (C : Addr) (cl : List (Str × Addr)) (fp : List Addr) (p : Addr × Obj), Hot1 X.A p → PTs (blkH X s H scope (compEnvC scope cl C X.env) fp p) ifs tt)
    (he : ∀ (s : Shared) (H : Hp) (C : Addr) (cl : List (Str × Addr)) (fp : List Addr) (p : Addr × Obj), Hot1 X.A p → PE (blkH X s H scope (compEnvC scope cl C X.env) fp p) elt te)
    (hs : ∀ x, foldedSetIterable iter X.env x = pure x := by intro _; rfl) : PE X (.ListComp elt [⟨tg, iter, ifs, 0⟩] scope pos) (tLc wi g tt te (own.map (·.2))) := by
  refine ⟨fun pins s σ H Q I h => ?_⟩
  rw [eval_ListComp]
  refine lc_coreH hc hN I hi ok hg ht he hs h fun D C s' m H' I' q hn f => ⟨m, hn, fun h'' sb => ?_⟩
  obtain ⟨f0, f1, f2, f3, f4, f5⟩ := f
  exact ⟨.ref D, H', I'.turned (t' := s'.toks) (fun b o hb e => (sb.2 b hb).trans e) f0 f1 f3 f4 f5, rfl, q⟩
/-- name = [..] on one line -/
theorem ps_setLcH {i : Nat} {y : Str} {py : Pos} {elt tg iter : Expr} {ifs : List Expr} {scope : Scope} {own : List (Str × Nat)} {pos spos : Pos} {wi : TI} {g : TG} {tt : TT} {te : TE} (hc : HotC X) (hN : X.N.Nodup) (hy : X.N[i]? = some y) (hyl : X.env.scope.names.lookup y = some .local)
    (hsw : swapsWith (.ListComp elt [⟨tg, iter, ifs, 0⟩] scope pos) (some (.Name y py)) spos.line X.env = pure true) (hi : PIH X tg iter wi) (ok : BlkOk X.N X.env.scope scope own)
    (hg : ∀ (s : Shared) (H : Hp) (C : Addr) (cl : List (Str × Addr)) (fp : List Addr) (p : Addr × Obj), Hot1 X.A p → PG (blkH X s H scope (compEnvC scope cl C X.env) fp p) tg g)
    (ht : ∀ (s : Shared) (H : Hp) (C : Addr) (cl : List (Str × Addr)) (fp : List Addr) (p : Addr × Obj), Hot1 X.A p → PTs (blkH X s H scope (compEnvC scope cl C X.env) fp p) ifs tt)
    (he : ∀ (s : Shared) (H : Hp) (C : Addr) (cl : List (Str × Addr)) (fp : List Addr) (p : Addr × Obj), Hot1 X.A p → PE (blkH X s H scope (compEnvC scope cl C X.env) fp p) elt te)
    (hs : ∀ x, foldedSetIterable iter X.env x = pure x := by intro _; rfl) : PS X (.Assign [.Name y py] (.ListComp elt [⟨tg, iter, ifs, 0⟩] scope pos) spos) (tAsg (tLc wi g tt te (own.map (·.2))) (gName i)) := by
  refine ⟨fun pins s σ H D I h => ?_⟩
  rw [exec_Assign_Name_used _ _ _ _ hsw]
  refine wpAny_bind (wpAny_standAt (wpAny_bind ?_))
  have h : tLc wi g tt te (own.map (·.2)) σ H (fun x H1 => gName i x σ H1 D.nx) := h
  refine wpAny_bind (thn (lc_coreH (use := some (assign (.Name y py) X.env)) (pos' := firstIterPos [⟨tg, iter, ifs, 0⟩] pos) (Qf := fun _ s' => SP X pins D .next s') hc hN I hi ok hg ht he hs h fun L C s' m H' I' q hn f => ?_) fun _ s' hq => wpAny_pure (wpAny_pure hq))
  show wpAny _ _ (assign (.Name y py) X.env (.ref L)) _ _ _
  refine wpAny_assign_Name (store_ok2 (v := V.ref L) I' hN hy (.inl hyl) rfl (fun s2 I2 ⟨a, sb, ha⟩ => ?_) (.inr hyl))
  obtain ⟨f0, f1, f2, f3, f4, f5⟩ := f
  have haC : C ≠ a := ha.elim (fun z => by rw [z]; exact f1) fun z e => f4 y a z e.symm
  exact ⟨m, hn.sameBut sb haC, fun h3 sb3 => ⟨_, H', I2.turned (t' := s2.toks) (fun b o hb e => (sb3.2 b hb).trans e) f0 f1 f3 f4 f5, q⟩⟩
end

/-! ### by data -/
theorem dg_tupH {X : Cx} {Y : Yx} {es : List Expr} {k : Nat} {pos : Pos} {g : GWs} {n : Nat} {is : List Nat} (hc : HotC X) (h : DGs X Y es g is) (hn : (assignEach es X.env).length = n := by rfl) (hst : (assignEach es X.env).findIdx? (·.1) = none := by rfl) : DG X Y (.Tuple es k pos) (gTupW n g) is := by
  refine ⟨fun w d d' e => ?_, pg_weak (pg_tupH hc h.pg hn hst) fun v σ H Q ⟨Oc, d, w, d', rs, r, e, k⟩ => ?_⟩
  · obtain ⟨ws, rfl, _, e⟩ := gTupW_some e
    exact h.only _ _ _ e
  · obtain ⟨ws, rfl, el, e⟩ := gTupW_some e
    cases r with
    | tup a b => exact ⟨_, _, rfl, a.sq, b.length.trans el, Oc, d, _, d', rs, b, e, k⟩
structure DIH (X : Cx) (Y : Yx) (pu : Bool) (tg e : Expr) (m : M (List W)) : Prop where
  pi : ∃ wi, PIH X tg e wi ∧ ∀ σ H R, tI X Y pu m σ H R → wi σ H R
section
variable {X : Cx} {Y : Yx}
theorem di_listH {pu : Bool} {tg e : Expr} {m : M W} (h : DE X Y pu e m) : DIH X Y pu tg e (mItL m) := by
  refine ⟨_, pi_listH h.pe, fun σ H R h => ?_⟩
  obtain ⟨Oc, d, rs, h⟩ := h
  refine ⟨Oc, d, rs, (Po.bind1 h).imp fun w d1 H1 g1 h1 v r => ?_⟩
  obtain ⟨ws, ew, k⟩ := Po.opt h1
  cases r with
  | lst l r =>
    cases ew
    exact ⟨_, rfl, ⟨_, l.sq⟩, k H1 (.refl g1.rs) _ _ wk_list ⟨_, l, r⟩⟩
  | _ => cases ew
theorem df_lcH {pi pt pe : Bool} {elt tg iter : Expr} {ifs : List Expr} {scope : Scope} {own : List (Str × Nat)} {pos : Pos} {mi : M (List W)} {g : GW} {is : List Nat} {t : M Bool} {e : M W} (hc : HotC X) (hN : X.N.Nodup) (hi : DIH X Y pi tg iter mi) (ok : BlkOk X.N X.env.scope scope own) (his : ∀ i ∈ is, i ∈ own.map (·.2))
    (hg : ∀ (s : Shared) (H : Hp) (C : Addr) (cl : List (Str × Addr)) (fp : List Addr) (p : Addr × Obj), Hot1 X.A p → DG (blkH X s H scope (compEnvC scope cl C X.env) fp p) Y.blk tg g is) (ht : ∀ (s : Shared) (H : Hp) (C : Addr) (cl : List (Str × Addr)) (fp : List Addr) (p : Addr × Obj), Hot1 X.A p → DTs (blkH X s H scope (compEnvC scope cl C X.env) fp p) Y.blk pt ifs t)
    (he : ∀ (s : Shared) (H : Hp) (C : Addr) (cl : List (Str × Addr)) (fp : List Addr) (p : Addr × Obj), Hot1 X.A p → DE (blkH X s H scope (compEnvC scope cl C X.env) fp p) Y.blk pe elt e) (hs : ∀ x, foldedSetIterable iter X.env x = pure x := by intro _; rfl) :
    DF X Y (pi && (pt && pe)) (.ListComp elt [⟨tg, iter, ifs, 0⟩] scope pos) (mLc (own.map (·.2)) mi g t e) := by
  obtain ⟨wi, hpi, hwi⟩ := hi.pi
  obtain ⟨p, hot, hpm⟩ := id hc
  exact ⟨pe_weak (pe_lcH hc hN hpi ok (fun s H C cl fp p h => (hg s H C cl fp p h).pg) (fun s H C cl fp p h => (ht s H C cl fp p h).pts) (fun s H C cl fp p h => (he s H C cl fp p h).pe) hs)
    (t_lc (tg := tg) (iter := iter) hwi (hg {} noH 0 [] [] p hot).only his)⟩
theorem as_lcH {pi pt pe : Bool} {i : Nat} {y : Str} {py spos : Pos} {elt tg iter : Expr} {ifs : List Expr} {scope : Scope} {own : List (Str × Nat)} {pos : Pos} {mi : M (List W)} {g : GW} {is : List Nat} {t : M Bool} {e : M W} (hc : HotC X) (hN : X.N.Nodup) (hi : DIH X Y pi tg iter mi) (ok : BlkOk X.N X.env.scope scope own) (his : ∀ i ∈ is, i ∈ own.map (·.2))
    (hg : ∀ (s : Shared) (H : Hp) (C : Addr) (cl : List (Str × Addr)) (fp : List Addr) (p : Addr × Obj), Hot1 X.A p → DG (blkH X s H scope (compEnvC scope cl C X.env) fp p) Y.blk tg g is) (ht : ∀ (s : Shared) (H : Hp) (C : Addr) (cl : List (Str × Addr)) (fp : List Addr) (p : Addr × Obj), Hot1 X.A p → DTs (blkH X s H scope (compEnvC scope cl C X.env) fp p) Y.blk pt ifs t)
    (he : ∀ (s : Shared) (H : Hp) (C : Addr) (cl : List (Str × Addr)) (fp : List Addr) (p : Addr × Obj), Hot1 X.A p → DE (blkH X s H scope (compEnvC scope cl C X.env) fp p) Y.blk pe elt e) (hy : X.N[i]? = some y := by rfl) (hyl : X.env.scope.names.lookup y = some .local := by rfl)
    (hsw : swapsWith (.ListComp elt [⟨tg, iter, ifs, 0⟩] scope pos) (some (.Name y py)) spos.line X.env = pure true := by exact sw_true rfl rfl rfl rfl) (hs : ∀ x, foldedSetIterable iter X.env x = pure x := by intro _; rfl) :
    PS X (.Assign [.Name y py] (.ListComp elt [⟨tg, iter, ifs, 0⟩] scope pos) spos) (tAsg (tF X Y (pi && (pt && pe)) (mLc (own.map (·.2)) mi g t e)) (gName i)) := by
  obtain ⟨wi, hpi, hwi⟩ := hi.pi
  obtain ⟨p, hot, hpm⟩ := id hc
  exact ps_weak (ps_setLcH hc hN hy hyl hsw hpi ok (fun s H C cl fp p h => (hg s H C cl fp p h).pg) (fun s H C cl fp p h => (ht s H C cl fp p h).pts) (fun s H C cl fp p h => (he s H C cl fp p h).pe) hs)
    fun D σ H h => t_lc (tg := tg) (iter := iter) hwi (hg {} noH 0 [] [] p hot).only his σ H _ h
end
end Qd
end
section
set_option Elab.async false
set_option linter.all false
set_option maxRecDepth 100000
set_option maxHeartbeats 1000000
/-! Own objects read as values for a while, or from now on. -/
namespace Qd
open PySem PySem.Spec PyProof.Rows L2

def Slot.frz : Slot → Slot
  | .own w => .val w
  | .par w => .val w
  | .val w => .val w
/-- all own objects as values -/
def frzD (d : SD) : SD := d.map (Option.map Slot.frz)
theorem frzD_get {d : SD} {i : Nat} {s : Slot} (h : (frzD d)[i]? = some (some s)) : ∃ t, d[i]? = some (some t) ∧ s = t.frz := by
  unfold frzD at h
  rw [List.getElem?_map] at h
  cases q : d[i]? with
  | none => rw [q] at h; cases h
  | some o =>
    rw [q] at h
    cases o with
    | none => cases h
    | some t => cases h; exact ⟨t, rfl, rfl⟩
theorem frz_mine (s : Slot) : Slot.mine? s.frz = none := by cases s <;> rfl
theorem frzD_mine {d : SD} {σ : St} {a : Addr} : ¬ Mine (frzD d) σ a := fun ⟨i, s, w, h1, h2, _⟩ => by
  obtain ⟨t, _, rfl⟩ := frzD_get h1
  rw [frz_mine] at h2; cases h2
section
variable {K : PySem.W.Frag} {Ex : Addr → Nat → Prop} {Oc : Addr → Prop} {H H' : Hp} {d : SD} {σ : St}
theorem frz_ow {a : Addr} : Ow Oc (frzD d) σ a ↔ Oc a := ⟨fun z => z.elim id fun m => absurd m frzD_mine, .inl⟩
theorem RS.frz (rs : RS K Ex Oc H d σ) : RS K Ex Oc H (frzD d) σ := by
  have ke : Ke (Ow Oc d σ) H (Ow Oc (frzD d) σ) H := fun a u n e => ⟨fun z => n (.inl (frz_ow.mp z)), e⟩
  refine ⟨by rw [frzD, List.length_map]; exact rs.len, fun i w e => ?_, fun i s w e1 e2 => ?_, fun i j s t w u p ne e1 e2 _ _ _ => ?_, rs.oc⟩
  · obtain ⟨t, e1, e2⟩ := frzD_get e
    cases t with
    | val u =>
      cases e2
      obtain ⟨v, a, r⟩ := rs.val i w e1
      exact ⟨v, a, r.mono ke fun _ _ z => z⟩
    | own u =>
      cases e2
      obtain ⟨p, a, n, ob⟩ := rs.own i _ w e1 rfl
      exact ⟨_, a, (ob.mono ke (fun _ _ z => z) rfl).rp fun z => n (frz_ow.mp z)⟩
    | par u =>
      cases e2
      obtain ⟨p, a, n, ob⟩ := rs.own i _ w e1 rfl
      exact ⟨_, a, (ob.mono ke (fun _ _ z => z) rfl).rp fun z => n (frz_ow.mp z)⟩
  · obtain ⟨t, _, rfl⟩ := frzD_get e1
    rw [frz_mine] at e2; cases e2
  · obtain ⟨t, _, rfl⟩ := frzD_get e1
    rw [frz_mine] at e2; cases e2
mutual
/-- data of tuples and plain values: no own object is such -/
def noLD : W → Bool
  | .list _ => false
  | .dict _ => false
  | .tuple ds => noLDs ds
  | _ => true
def noLDs : List W → Bool
  | [] => true
  | d :: r => noLD d && noLDs r
end
theorem own_no_tup (rs : RS K Ex Oc H d σ) {a : Addr} {xs : List V} (m : Mine d σ a) (s : Same H H') (r : Rd H' a (.tup xs)) : False := by
  obtain ⟨i, t, w, h1, h2, h3⟩ := m
  obtain ⟨p, e, _, ob⟩ := rs.own i t w h1 h2
  rw [h3] at e; cases e
  have k : ∀ u : HO, H a = some u → H' a = some u := fun u e => s a u e
  cases w with
  | list ds =>
    obtain ⟨ys, e, _⟩ := ob
    rcases r with r | ⟨_, r⟩ <;> rw [k _ e] at r <;> cases r
  | dict ds =>
    rcases ob with ⟨ys, e, _⟩ | ⟨ys, _, _, e, _⟩ <;> rcases r with r | ⟨_, r⟩ <;> rw [k _ e] at r <;> cases r
  | none => exact ob.elim
  | bool b => exact ob.elim
  | int i => exact ob.elim
  | str s => exact ob.elim
  | tuple t => exact ob.elim
mutual
theorem Rp.thaw (rs : RS K Ex Oc H d σ) (s : Same H H') : ∀ {v : V} {w : W}, Rp K Ex Oc H' v w → noLD w = true → Rp K Ex (Ow Oc d σ) H' v w
  | _, _, .non, _ => .non
  | _, _, .bl b, _ => .bl b
  | _, _, .int i, _ => .int i
  | _, _, .str x, _ => .str x
  | _, _, .lst h r, n => by simp [noLD] at n
  | _, _, .tup h r, n => .tup (h.imp (fun ⟨no, rd⟩ => ⟨fun z => z.elim no fun m => own_no_tup rs m s (.inl rd), rd⟩) id) (RpA.thaw rs s r (by simpa [noLD] using n))
  | _, _, .dK h r t, n => by simp [noLD] at n
  | _, _, .dT h r t, n => by simp [noLD] at n
  | _, _, .exc h, n => by simp [noLD] at n
theorem RpA.thaw (rs : RS K Ex Oc H d σ) (s : Same H H') : ∀ {v : List V} {w : List W}, RpA K Ex Oc H' v w → noLDs w = true → RpA K Ex (Ow Oc d σ) H' v w
  | _, _, .nil, _ => .nil
  | _, _, .cons a b, n => by
    simp only [noLDs, Bool.and_eq_true] at n
    exact .cons (Rp.thaw rs s a n.1) (RpA.thaw rs s b n.2)
end
end
/-- a reading of own objects whose value is none of them -/
def mFrz (m : M W) : M W := fun d => match m (frzD d) with
  | .ok w _ => if noLD w = true then .ok w d else .bad
  | .exc c _ => .exc c d
  | .bad => .bad
def mFrzT (m : M Bool) : M Bool := fun d => match m (frzD d) with
  | .ok b _ => .ok b d
  | .exc c _ => .exc c d
  | .bad => .bad
section
variable {X : Cx} {Y : Yx}
theorem frz_back {K : PySem.W.Frag} {Ex : Addr → Nat → Prop} {Oc : Addr → Prop} {H H' : Hp} {d d' : SD} {σ : St} {pu : Bool} (rs : RS K Ex Oc H d σ) (g : Go K Ex Oc pu σ (frzD d) H d' H') : Same H H' := fun a o e => g.fr a o e frzD_mine
theorem d_frz {e : Expr} {m : M W} (h : DE X Y true e m) : DE X Y true e (mFrz m) := ⟨pe_weak h.pe fun σ H Q h => by
  obtain ⟨Oc, d, rs, h⟩ := h
  refine ⟨Oc, frzD d, rs.frz, ?_⟩
  unfold mFrz at h
  cases q : m (frzD d) with
  | bad => rw [q] at h; exact h
  | exc c d1 => rw [q] at h; exact fun H' g => h H' (.same rs (frz_back rs g))
  | ok w d1 =>
    rw [q] at h
    dsimp only at h
    by_cases n : noLD w = true
    · rw [if_pos n] at h
      intro H' g v r
      have s := frz_back rs g
      have e1 := (g.pur rfl).2
      refine h H' (.same rs s) v (Rp.thaw rs s (r.mono (fun a u n e => ⟨fun z => n (.inl z), e⟩) fun _ _ z => z) n)
    · rw [if_neg n] at h; exact h.elim⟩
theorem frz_t {t : M Bool} (σ : St) (H : Hp) (Q : Bool → Hp → Prop) (h : tT X Y true (mFrzT t) σ H Q) : tT X Y true t σ H Q := by
  obtain ⟨Oc, d, rs, h⟩ := h
  refine ⟨Oc, frzD d, rs.frz, ?_⟩
  unfold mFrzT at h
  cases q : t (frzD d) with
  | bad => rw [q] at h; exact h
  | exc c d1 => rw [q] at h; exact fun H' g => h H' (.same rs (frz_back rs g))
  | ok w d1 =>
    rw [q] at h
    exact fun H' g _ => h H' (.same rs (frz_back rs g)) (rs.same (frz_back rs g))
theorem dt_frz {e : Expr} {t : M Bool} (h : DT X Y true e t) : DT X Y true e (mFrzT t) := ⟨pt_weak h.pt frz_t⟩
/-- from here on the object of the name i is written no more -/
def frzAt (i : Nat) (d : SD) : SD := match d[i]? with
  | some (some (.own w)) => d.set i (some (.val w))
  | _ => d
theorem frzAt_go {K : PySem.W.Frag} {Ex : Addr → Nat → Prop} {Oc : Addr → Prop} {H : Hp} {d : SD} {σ : St} (i : Nat) (rs : RS K Ex Oc H d σ) : GoS K Ex Oc d σ H (frzAt i d) σ H := by
  unfold frzAt
  split
  · rename_i w e
    obtain ⟨p, ep, n, ob⟩ := rs.own i _ w e rfl
    have lt : i < d.length := (List.getElem?_eq_some_iff.mp e).1
    have mn : ∀ a, Mine (d.set i (some (.val w))) σ a → Mine d σ a ∧ a ≠ p := fun a ⟨j, s, u, h1, h2, h3⟩ => by
      by_cases ej : i = j
      · subst ej
        rw [List.getElem?_set_self lt] at h1
        cases h1; cases h2
      · rw [List.getElem?_set_ne ej] at h1
        exact ⟨⟨j, s, u, h1, h2, h3⟩, fun z => rs.sep i j _ s w u p ej e rfl h1 h2 ep (by rw [h3, z])⟩
    have ke : Ke (Ow Oc d σ) H (Ow Oc (d.set i (some (.val w))) σ) H := fun a u n e => ⟨fun z => n (z.imp id fun m => (mn a m).1), e⟩
    have np : ¬ Ow Oc (d.set i (some (.val w))) σ p := fun z => z.elim n fun m => (mn p m).2 rfl
    refine ⟨⟨by rw [List.length_set]; exact rs.len, fun j u ej => ?_, fun j s u f1 f2 => ?_, fun j k s t u u' q ne f1 f2 f3 f4 f5 => ?_, rs.oc⟩, fun _ _ e _ => e, fun a m => .inl (mn a m).1, fun j u ej => ?_⟩
    · by_cases hj : i = j
      · subst hj
        rw [List.getElem?_set_self lt] at ej
        cases ej
        exact ⟨_, ep, (ob.mono ke (fun _ _ z => z) rfl).rp np⟩
      · rw [List.getElem?_set_ne hj] at ej
        obtain ⟨v, a, r⟩ := rs.val j u ej
        exact ⟨v, a, r.mono ke fun _ _ z => z⟩
    · by_cases hj : i = j
      · subst hj
        rw [List.getElem?_set_self lt] at f1
        cases f1; cases f2
      · rw [List.getElem?_set_ne hj] at f1
        obtain ⟨q, a, n', o⟩ := rs.own j s u f1 f2
        exact ⟨q, a, n', o.mono ke (fun _ _ z => z) rfl⟩
    · have g : ∀ {j : Nat} {s : Slot} {u : W}, (d.set i (some (Slot.val w)))[j]? = some (some s) → Slot.mine? s = some u → d[j]? = some (some s) := fun {j s u} f1 f2 => by
        by_cases hj : i = j
        · subst hj
          rw [List.getElem?_set_self lt] at f1
          cases f1; cases f2
        · rwa [List.getElem?_set_ne hj] at f1
      exact rs.sep j k s t u u' q ne (g f1 f2) f2 (g f3 f4) f4 f5
    · by_cases hj : i = j
      · subst hj
        rw [e] at ej; cases ej
      · exact ⟨⟨u, by rw [List.getElem?_set_ne hj]; exact ej⟩, rfl⟩
  · exact .refl rs
/-- the names' objects are written no more behind here -/
def mFrzS (is : List Nat) (m : MS) : MS := fun d => m (is.foldl (fun d i => frzAt i d) d)
theorem frzAts_go {K : PySem.W.Frag} {Ex : Addr → Nat → Prop} {Oc : Addr → Prop} {H : Hp} {σ : St} : ∀ (is : List Nat) {d : SD}, RS K Ex Oc H d σ → GoS K Ex Oc d σ H (is.foldl (fun d i => frzAt i d) d) σ H
  | [], _, rs => .refl rs
  | i :: is, _, rs => (frzAt_go i rs).trans (frzAts_go is (frzAt_go i rs).rs)
theorem dss_frz {st : List Stmt} {m : MS} (is : List Nat) (h : DSs X Y st m) : DSs X Y st (mFrzS is m) := ⟨pss_weak h.ps fun D σ H h => by
  obtain ⟨Oc, d, rs, h⟩ := h
  have g := frzAts_go is rs
  exact ⟨Oc, _, g.rs, h.from g⟩⟩
end
end Qd
end
section
set_option Elab.async false
set_option linter.all false
set_option maxRecDepth 100000
set_option maxHeartbeats 2000000
/-! Errors: raise, try, what a suite does with the caught error. -/
namespace Qd
open PySem PySem.Spec PyProof.Rows L2 HotX L2H

/-- facts of the error classes, by number -/
structure CF (K : PySem.W.Frag) (T : Nat → Value) (n : Nat) (sub : Nat → Nat → Bool) : Prop where
  exc : ∀ i, i < n → ∃ D, T i = .ref D ∧ ExcC K D
  kit : ∀ i j, i < n → j < n → PySem.W.kitOne K (T i) (T j) = some (sub i j)
  exm : ∀ i j, i < n → j < n → PySem.W.exmOne K (T i) (T j) = some (sub i j)
/-- facts for raise C('..') -/
structure RF (K : PySem.W.Frag) (mg : Str → Option Value) (v : Value) (x : Str) : Prop where
  ex : ∃ C, v = .ref C ∧ mg x = some (.ref C) ∧ PySem.W.excIn K C [.type "ValueError", .type "Exception", .type "BaseException", .type "object"] "ValueError.__new__" = true ∧ PySem.W.keepIn K (.ref C) = true ∧
    PySem.W.subIn K (.ref C) (.type "BaseException") = some true ∧ PySem.W.typeIn K (.ref C) = some (.type "type")
def mRaise (c : Nat) : MS := fun d => .exc c d
theorem ds_raise {X : Cx} {Y : Yx} {c : Nat} {x m : Str} {j : Nat} {p p2 pos pos' : Pos} (hc : X.calm = true) (tk : L2N.Takes X Y.W) (h : RF X.K X.mg (Y.T c) x) (hg : Gl X x := by rfl) (hdb : (x == ("__debug__" : Str)) = false := by decide) :
    DS X Y (.Raise (some (.Call (.Name x p) [.Constant (.str m) j p2] [] pos)) none pos') (mRaise c) := by
  obtain ⟨C, e, gC, q, kC, b1, t1⟩ := h.ex
  refine ⟨ps_weak (L2N.ps_raise hc tk (L2N.pmk_own (m := m) (j := j) PySem.F.excBase_ValueError q gC kC (raises_own b1 t1) hg hdb)) fun D σ H h => ?_⟩
  obtain ⟨Oc, d, rs, h⟩ := h
  have z := h σ H (.refl rs)
  rw [e] at z
  exact z

/-! ### the handled error as data -/
abbrev exAt (on : On) (a : Addr) (c : Nat) : Addr → Nat → Prop := fun b k => (b = a ∧ k = c) ∨ cEx on b k
/-- within a suite: the handled error is pinned, its class told -/
def HotK (on : On) (X : Cx) (Y : Yx) (n : Nat) : Prop := ∃ (p : Addr × Obj) (c : Nat), c < n ∧ Hot1 X.A p ∧ p ∈ X.pn ∧ Zc (Y.T c) none p.2 ∧ n ≤ cN ∧ Y.Ex = exAt on p.1 c
theorem HotK.c {on : On} {X : Cx} {Y : Yx} {n : Nat} (h : HotK on X Y n) : HotC X := let ⟨p, _, _, a, b, _, _, _⟩ := h; ⟨p, a, b⟩
section
variable {K : PySem.W.Frag} {Ex Ex' : Addr → Nat → Prop} {Oc : Addr → Prop} {H : Hp} {d : SD} {σ : St}
theorem RS.ex (rs : RS K Ex Oc H d σ) (x : ∀ a c, Ex a c → Ex' a c) (xt : ∀ a, Ex' a tN → Ex a tN) : RS K Ex' Oc H d σ where
  len := rs.len
  val := fun i w e => let ⟨v, a, b⟩ := rs.val i w e; ⟨v, a, b.mono .refl x⟩
  own := fun i s w e1 e2 => let ⟨p, a, n, b⟩ := rs.own i s w e1 e2; ⟨p, a, n, b.mono .refl x rfl⟩
  sep := rs.sep
  oc := ⟨rs.oc.at_, fun a h => rs.oc.tb a (xt a h)⟩
end
def exOf : W → Option Nat
  | .dict [(.none, .int i)] => some i.toNat
  | _ => none
theorem exOf_some {w : W} {k : Nat} (h : exOf w = some k) : ∃ i : Int, w = .dict [(.none, .int i)] ∧ k = i.toNat := by
  unfold exOf at h
  split at h
  · cases h; exact ⟨_, rfl, rfl⟩
  · cases h
theorem keyD_ne (k : Key) : keyD k ≠ .none := by cases k <;> intro h <;> cases h
theorem rp_exc {K : PySem.W.Frag} {Ex : Addr → Nat → Prop} {O : Addr → Prop} {H : Hp} {v : V} {i : Int} (r : Rp K Ex O H v (.dict [(.none, .int i)])) : ∃ a c, v = .ref a ∧ Ex a c ∧ i = (c : Int) := by
  generalize e : (PyData.dict [(.none, .int i)] : W) = w at r
  cases r with
  | non => cases e
  | bl b => cases e
  | int j => cases e
  | str x => cases e
  | lst _ _ => cases e
  | tup _ _ => cases e
  | dK _ _ t =>
    cases e
    generalize e2 : ([(PyData.none, PyData.int i)] : List (W × W)) = l at t
    cases t with
    | nil => cases e2
    | @cons k v w vs ws a b => injection e2 with e3 _; injection e3 with e4 _; exact absurd e4.symm (keyD_ne k)
  | dT _ _ t => cases e
  | @exc a c h => injection e with e1; injection e1 with e2 _; injection e2 with _ e3; injection e3 with e4; exact ⟨a, c, rfl, h, e4⟩
/-- isinstance(the handled error, a class) -/
def mIsE (n : Nat) (f : Nat → Bool) (m : M W) : M W := fun d => (m d).bind fun w d1 => match exOf w with
  | some k => if k < n then .ok (.bool (f k)) d1 else .bad
  | none => .bad
theorem call_isH {X : Cx} {a D : Addr} {oe : Obj} (C : ExcC X.K D) (hp : (a, oe) ∈ X.pn) (hz : Zc (.ref D) none oe) (hf : ∃ vs, oe.data = .fields vs) : CallR X (.builtin "isinstance") (rIsE X.K D a) := by
  intro pins s σ H xs us Q I r h
  obtain ⟨c, cv, b, rfl, hcv, e, q⟩ := h
  cases r with
  | cons rx rr =>
    cases rr with
    | cons rt rr =>
      cases rr
      cases rx
      have ec := hcv _ rt
      subst ec
      obtain ⟨hget, _⟩ := I.pin (a, oe) (List.mem_append_left _ hp)
      obtain ⟨vs, hv⟩ := hf
      have J : PySem.W.InstAt s.heap a oe D none := ⟨hget, hz.1, by unfold PySem.W.notCls; rw [hv] <;> rfl, by rw [hz.2]; trivial⟩
      exact PySem.W.kia_one (PySem.W.handS_kitx_exc C.hg C.hk C.hs C.hd C.ha C.hn C.ht C.hm) I.kIn J e (fun z => nomatch z) fun tk => ⟨.bl b, H, I.kept (t' := tk) fun _ _ z => z, rfl, q⟩
theorem d_isE {on : On} {X : Cx} {Y : Yx} {pu : Bool} {n j : Nat} {sub : Nat → Nat → Bool} {e : Expr} {x : Str} {p q pos : Pos} {m : M W} (hk : HotK on X Y n) (cf : CF X.K Y.T n sub) (hj : j < n) (hc : X.mg x = some (Y.T j)) (he : DE X Y pu e m) (hm : X.mg "isinstance" = none) (hg : Gl X "isinstance" := by rfl) (hgx : Gl X x := by rfl)
    (hdb : (x == ("__debug__" : Str)) = false := by decide) (h1 : starEach [e, .Name x q] X.env = (false, eval e X.env) :: starEach [.Name x q] X.env := by rfl) (h2 : starEach [.Name x q] X.env = (false, eval (.Name x q) X.env) :: starEach [] X.env := by rfl) (hpl : (backTo pos (starEach [.Name x q] X.env)).any (·.1) = false := by rfl) :
    DE X Y pu (.Call (.Name "isinstance" p) [e, .Name x q] [] pos) (mIsE n (fun k => sub k j) m) := by
  obtain ⟨⟨a, oe⟩, c, hcn, hot, hpm, hz, hn, hex⟩ := hk
  obtain ⟨D, eD, C⟩ := cf.exc c hcn
  obtain ⟨Dj, ej, _⟩ := cf.exc j hj
  have hf : ∃ vs, oe.data = .fields vs := let ⟨_, vs, e, _⟩ := hot; ⟨vs, e⟩
  rw [eD] at hz
  rw [ej] at hc
  refine ⟨pe_weak (pe_callB (call_isH C hpm hz hf) hg hm boot_isinstance (pa_cons he.pe (pa_cons (pe_glob (x := x) (v := .ref Dj) hgx hc rfl hdb) pa_nil h2) h1) (by decide) (by decide) h1 hpl) fun σ H Q h => ?_⟩
  obtain ⟨Oc, d, rs, h⟩ := h
  refine ⟨Oc, d, rs, (Po.bind1 h).imp fun w d1 H1 g1 h1 v r => ?_⟩
  dsimp only at h1
  cases q1 : exOf w with
  | none => rw [q1] at h1; exact h1.elim
  | some k =>
    rw [q1] at h1
    obtain ⟨i, rfl, rfl⟩ := exOf_some q1
    obtain ⟨b, c', rfl, hx, ei⟩ := rp_exc r
    rw [hex] at hx
    rw [ei, Int.toNat_natCast] at h1
    dsimp only at h1
    rcases hx with ⟨rfl, rfl⟩ | ⟨_, rfl⟩ | ⟨rfl, _⟩
    rotate_left
    · rw [if_neg (Nat.not_lt_of_le hn)] at h1; exact h1.elim
    · rw [if_neg (Nat.not_lt_of_le (Nat.le_trans hn (by decide)))] at h1; exact h1.elim
    rw [if_pos hcn] at h1
    refine ⟨.ref Dj, .ref Dj, sub c' j, rfl, fun u z => z, ?_, h1 H1 (.refl g1.rs) _ (.bl _)⟩
    rw [← eD, ← ej]
    exact cf.kit c' j hcn hj

/-! ### defs called with the handled error -/
def spE (on : On) (K : PySem.W.Frag) (F : FV) (np : Nat) (a : Addr) (c : Nat) : Sp := fun vs H Q _ => ∃ (Oc : Addr → Prop) (ws : List W), ws.length = np ∧ Thr (exAt on a c) Oc H ∧ RpA K (exAt on a c) Oc H vs ws ∧ match F ws with
  | .ok (.val w) => ∀ H' v, Same H H' → Rp K (exAt on a c) Oc H' v w → Q v H'
  | _ => False
structure FnE (on : On) (P : Program) (w : World) (K : PySem.W.Frag) (mg : Str → Option Value) (base : Heap) (T : Nat → Value) (n : Nat) (k : Nat) (f : Addr) (fd : FuncData) (ps : List Str) (F : FV) : Prop where
  run : ∀ (A : Around) (outer : List Env) (s : Shared) (H : Hp) (args : Args) (us : List Value) (vs : List V) (Q : VK) (p : Addr × Obj) (c : Nat), c < n → RoomH k A → Hot1 A p → Zc (T c) none p.2 → PinOk outer H s p → Env0 P w K mg base A outer s H → BindsTo s fd args (ps.zip us) → Vals vs us → spE on K F ps.length p.1 c vs H Q (fun _ _ _ => False) →
    codeAny (model P w) A (.call (.ref f) args) (CR (L2N.CX P w) outer P w H s Q fun _ _ _ => False) s
abbrev Yfe (on : On) (T : Nat → Value) (p : Addr × Obj) (c : Nat) : Yx := ⟨exAt on p.1 c, T, fun _ _ _ _ => False⟩
section
variable {P : Program} {w : World} {K : PySem.W.Frag} {mg : Str → Option Value} {base : Heap} {T : Nat → Value} {n : Nat} {on : On}
theorem startE {Ex : Addr → Nat → Prop} {Oc : Addr → Prop} {H : Hp} {N : List Str} {vs : List V} {ws : List W} (hl : ws.length ≤ N.length) (oc : Thr Ex Oc H) (r : RpA K Ex Oc H vs ws) : RS K Ex Oc H (sdV N.length ws) (L2.start N vs) ∧ ∀ a, ¬ Mine (sdV N.length ws) (L2.start N vs) a := by
  have nm : ∀ a, ¬ Mine (sdV N.length ws) (L2.start N vs) a := fun a ⟨i, s, u, h1, h2, _⟩ => by
    obtain ⟨_, _, _, rfl⟩ := sdV_get h1
    cases h2
  refine ⟨⟨by rw [sdV_len hl, start_len (by rw [r.length]; exact hl)], fun i u e => ?_, fun i s u e1 e2 => ?_, fun i j s t u u' p ne e1 e2 _ _ _ => ?_, oc⟩, nm⟩
  · obtain ⟨l, u', e', es⟩ := sdV_get e
    cases es
    obtain ⟨v, e1, r1⟩ := r.get e'
    exact ⟨v, start_get e1, r1.mono (fun a x n e => ⟨fun z => z.elim n (nm a), e⟩) fun _ _ z => z⟩
  · obtain ⟨_, _, _, rfl⟩ := sdV_get e1
    cases e2
  · obtain ⟨_, _, _, rfl⟩ := sdV_get e1
    cases e2
theorem tS_E {X : Cx} {p : Addr × Obj} {c : Nat} {m : MS} {N : List Str} {H : Hp} {vs : List V} {Q : VK} {E : XK} {np : Nat} (hn : np ≤ N.length) (hK : X.K = K) (h : spE on K (runV N.length m) np p.1 c vs H Q E) : tS X (Yfe on T p c) m { nx := fun _ H' => Q .non H', rt := Q } (L2.start N vs) H := by
  subst hK
  obtain ⟨Oc, ws, hl, oc, r, h⟩ := h
  obtain ⟨rs, nm⟩ := startE (N := N) (by rw [hl]; exact hn) oc r
  refine ⟨Oc, sdV N.length ws, rs, ?_⟩
  unfold runV at h
  have sm : ∀ {d' : SD} {σ' : St} {H' : Hp}, GoS X.K (exAt on p.1 c) Oc (sdV N.length ws) (L2.start N vs) H d' σ' H' → Same H H' := fun g a o e => g.fr a o e (nm a)
  cases q : m (sdV N.length ws) with
  | next d' => rw [q] at h; exact fun σ' H' g => h H' .non (sm g) .non
  | brk d' => rw [q] at h; exact h.elim
  | cont d' => rw [q] at h; exact h.elim
  | bad => rw [q] at h; exact h.elim
  | exc k d' => rw [q] at h; exact h.elim
  | ret s d' =>
    rw [q] at h
    cases s with
    | par w => exact h.elim
    | own w => exact h.elim
    | val w => exact fun σ' H' v g rv => h H' v (sm g) (rv.mono (fun a u n e => ⟨fun z => n (.inl z), e⟩) fun _ _ z => z)
/-- a def that is called with the handled error, by its body -/
theorem fn_E {x qual : Str} {st : Stmt} {f : Addr} {fd : FuncData} {N ps : List Str} {k np : Nat} {m : MS} (F : Fun K x qual st f fd) (S : FnScope N ps (defScope st)) (hps : ps.length = np) (hnp : np ≤ N.length) (hnn : n ≤ cN)
    (hb : ∀ (cdv : Value) (A : Around) (outer : List Env) (s : Shared) (H : Hp) (p : Addr × Obj) (c : Nat), HotK on (cxH (L2N.CX P w) P w K mg base N qual (defScope st) f cdv A outer s H (fun _ _ _ => False) p) (Yfe on T p c) n → RoomH k (A.deeper (envOfC qual (defScope st) s.heap.objs.size f cdv)) →
      DSs (cxH (L2N.CX P w) P w K mg base N qual (defScope st) f cdv A outer s H (fun _ _ _ => False) p) (Yfe on T p c) (defBody st) m) : FnE on P w K mg base T n (k + 1) f fd ps (runV N.length m) := by
  obtain ⟨oc, od, kV, doc, pm, an, cdv, ct, osl, rfl, lk, hcd⟩ := F.ex
  refine ⟨fun A outer s H args us vs Q p c hcn hr hot hz hpin e0 hb' r hsp => ?_⟩
  subst hps
  have hl : vs.length = ps.length := by obtain ⟨Oc, ws, h1, _, h2, _⟩ := hsp; rw [h2.length, h1]
  have KX : K.In s.heap := e0.mod.kin.keeps fun b o e => (e0.bs b o e).1
  have lim : s.heap.NoLimit := e0.mod.nolimit.keeps fun b o e => (e0.bs b o e).1
  have hkind : ∀ y ∈ ps.zip us, (defScope st).names.lookup y.1 = some .local ∨ ((defScope st).names.lookup y.1 = some .cell ∧ ((cellsFrom (s.heap.objs.size + 1) (defScope st).names []).lookup y.1).isSome = true) := fun y hy => by
    rcases S.par y.1 (List.of_mem_zip (show (y.1, y.2) ∈ _ from hy)).1 with q | q
    · exact .inl q
    · exact .inr ⟨q, PySem.W.cellsFrom_some _ _ _ (.inl q)⟩
  refine codeAny_call_function hr.depth (KX _ _ lk) rfl S.co S.gen rfl (PySem.W.codeRec_of KX hcd) (hb' _ _ _ _ ?_)
  refine wpAny_newFunctionEnv_cells S.kind hkind fun env he s1 x => ?_
  subst he
  refine ⟨lim.keeps x.toInCall.keep, codeAny_func ?_⟩
  have hk : HotK on (cxH (L2N.CX P w) P w K mg base N qual (defScope st) f cdv A outer s H (fun _ _ _ => False) p) (Yfe on T p c) n := ⟨p, c, hcn, hot, List.mem_singleton.mpr rfl, hz, hnn, rfl⟩
  have I : Inv (cxH (L2N.CX P w) P w K mg base N qual (defScope st) f cdv A outer s H (fun _ _ _ => False) p) [] (L2.start N vs) H s1 := inv_startH S hpin e0 hl r x
  refine wpAny_mono ((hb cdv A outer s H p c hk (hr.deeper _)).ps.run [] s1 (L2.start N vs) H _ I (tS_E hnp rfl hsp)) (fun fl s' hs => ?_) fun e s' hs => hs
  have fin : ∀ {σ' : St} {H' : Hp} {v : V} {u : Value}, Inv (cxH (L2N.CX P w) P w K mg base N qual (defScope st) f cdv A outer s H (fun _ _ _ => False) p) [] σ' H' s' → RelV v u → Q v H' → CE outer P w H s Q u s' :=
    fun {σ' H' v u} J rv q => ⟨v, H', J.os, J.bare, J.base, J.hok, rv, q⟩
  cases fl with
  | ret u => obtain ⟨v, σ', H', J, rv, q⟩ := hs; exact fin J rv q
  | next => obtain ⟨σ', H', J, q⟩ := hs; exact fin (v := V.non) (u := Value.none) J rfl q
  | brk => obtain ⟨_, _, _, q⟩ := hs; exact False.elim q
  | cont => obtain ⟨_, _, _, q⟩ := hs; exact False.elim q
end
section
variable {X : Cx} {Y : Yx}
def mCallE (F : FV) (as : M (List W)) : M W := fun d => (as d).bind fun ws d1 => match F ws with
  | .ok (.val w) => .ok w d1
  | _ => .bad
/-- f(the handled error, ..) within a suite -/
theorem d_callE {on : On} {pu : Bool} {k n : Nat} {f : Addr} {fd : FuncData} {ps : List Str} {F : FV} {x : Str} {p pos : Pos} {e : Expr} {es : List Expr} {as : M (List W)} (G : FnE on X.prog X.w X.K X.mg X.base Y.T n k f fd ps F) (hr : RoomH k X.A) (hk : HotK on X Y n) (tk : L2N.Takes X fun _ _ _ _ => False)
    (hm : X.mg x = some (.ref f)) (hkp : PySem.W.keepIn X.K (.ref f) = true) (hb : Binds X.K fd ps []) (ha : DL X Y pu (e :: es) as) (hl : Len ps.length as) (hg : Gl X x := by rfl)
    (hdb : (x == ("__debug__" : Str)) = false := by decide) (he : starEach (e :: es) X.env = (false, eval e X.env) :: starEach es X.env := by rfl) (hpl : (backTo pos (starEach es X.env)).any (·.1) = false := by rfl) : DE X Y pu (.Call (.Name x p) (e :: es) [] pos) (mCallE F as) := by
  obtain ⟨pp, c, hcn, hot, hpm, hz, hn, hex⟩ := hk
  refine ⟨⟨fun pins s σ H Q I h => ?_⟩⟩
  refine wpAny_Call_Name_kw (ld_glob I hg hm ?_ hdb)
  -- what the arguments are, and the def's promise at them
  have h' : tL X Y pu as σ H fun vs H1 => spE on X.K F ps.length pp.1 c vs H1 Q fun _ _ _ => False := by
    obtain ⟨Oc, d, rs, h⟩ := h
    refine ⟨Oc, d, rs, ?_⟩
    have hh := Po.bind1 h
    cases q0 : as d with
    | bad => rw [q0] at hh; exact hh
    | exc c d1 => rw [q0] at hh; exact hh
    | ok ws d1 =>
      rw [q0] at hh
      intro H1 g1 v r
      have h1 := hh H1 g1
      rw [hex] at r
      refine ⟨Ow Oc d1 σ, ws, hl _ _ _ q0, hex ▸ g1.rs.thr, r, ?_⟩
      cases q : F ws with
      | bad => rw [q] at h1; exact h1.elim
      | exc c => rw [q] at h1; exact h1.elim
      | ok s =>
        rw [q] at h1
        cases s with
        | val w => exact fun H' v s r' => h1 H' (.same g1.rs s) v (by rw [hex]; exact r')
        | own w => exact h1.elim
        | par w => exact h1.elim
  refine PySem.W.callWith_K (h₀ := X.base) I.ok.mod.kin hkp (thn (ha.pa.run pos pins s σ H _ I h') fun us s1 ⟨vs, H1, I1, r, q⟩ => ⟨I1.kIn, ?_⟩) he hpl
  have hlen : us.length = ps.length := by rw [← r.length]; obtain ⟨Oc, ws, h1, _, h2, _⟩ := q; rw [h2.length, h1]
  have b := hb s1 us I1.kIn (by rw [List.append_nil]; exact hlen)
  rw [List.append_nil] at b
  have P1 := I1.pin pp (List.mem_append_left _ hpm)
  have hpin : PinOk X.stack H1 s1 pp := ⟨P1.1, P1.2.1, fun hm => (List.mem_cons.mp (I1.stkSub pp.1 hm)).elim P1.2.2.1 P1.2.2.2.1, P1.2.2.2.2⟩
  refine wpAny_call (codeAny_mono (G.run X.A X.stack s1 H1 ⟨us, []⟩ us vs Q pp c hcn hr hot hz hpin I1.env0 b r q) fun r s' hq => ?_)
  cases r with
  | error e => exact L2N.passAt tk σ pins H1 s1 e s' I1 hq
  | ok fl =>
    cases fl with
    | ret u => exact I1.after hq
    | next => exact False.elim hq
    | brk => exact False.elim hq
    | cont => exact False.elim hq

/-! ### try: body, except C as x: return e -/
def freeAt (i : Nat) (d : SD) : Bool := match d[i]? with
  | some none => true
  | some (some (.val _)) => true
  | _ => false
def mTryRet (n : Nat) (sub : Nat → Bool) (i : Nat) (body : MS) (e : M W) : MS := fun d => match body d with
  | .exc k d1 => if k < n then (if sub k = true then (if freeAt i d1 = true then (match e (d1.set i (some (.val (exD k)))) with
      | .ok w _ => if noD w = true then .ret (.val w) d1 else .bad
      | _ => .bad) else .bad) else .exc k d1) else .bad
  | o => o
theorem freeAt_ow {Oc : Addr → Prop} {i : Nat} {d : SD} {σ : St} {a a' : Addr} {w : W} (h : freeAt i d = true) (x : Ow Oc d σ a) : Ow Oc (d.set i (some (.val w))) (σ.set i (some (.ref a'))) a := by
  refine x.imp id fun ⟨j, s, u, h1, h2, h3⟩ => ?_
  by_cases e : i = j
  · subst e
    unfold freeAt at h
    rw [h1] at h
    cases s with
    | val w => cases h2
    | own w => cases h
    | par w => cases h
  · exact ⟨j, s, u, by rw [List.getElem?_set_ne e]; exact h1, h2, by rw [List.getElem?_set_ne e]; exact h3⟩
theorem freeAt_store {i : Nat} {d : SD} {w : W} (h : freeAt i d = true) : store i w d = some (d.set i (some (.val w))) := by
  unfold freeAt at h
  unfold store
  split at h <;> rename_i e
  · rw [e]
  · rw [e]
  · cases h
theorem GoS.same {K : PySem.W.Frag} {Ex : Addr → Nat → Prop} {Oc : Addr → Prop} {H H' : Hp} {d : SD} {σ : St} (rs : RS K Ex Oc H d σ) (s : Same H H') : GoS K Ex Oc d σ H d σ H' := (Go.same (pu := true) rs s).toS
theorem PSs.many {X : Cx} {st : List Stmt} {α : Type} {p : α → Prop} {t : α → TS} (h : ∀ a, p a → PSs X st (t a)) : PSs X st (fun D σ H => ∃ a, p a ∧ t a D σ H) := ⟨fun pins s σ H D I q => let ⟨a, ha, q⟩ := q; (h a ha).run pins s σ H D I q⟩
theorem PoS.wish {Oc : Addr → Prop} {d : SD} {σ : St} {H : Hp} {o : SOut} {D : Ends} {V : WX} (h : PoS X Y Oc d σ H o D) (x : ∀ k d1, o = .exc k d1 → ∀ σ' H', GoS X.K Y.Ex Oc d σ H d1 σ' H' → V (Y.T k) none σ' H') : PoS X { Y with W := V } Oc d σ H o D := by
  cases o with
  | next d1 => exact h
  | brk d1 => exact h
  | cont d1 => exact h
  | ret r d1 => cases r <;> exact h
  | exc k d1 => exact fun σ' H' g => x k d1 rfl σ' H' g
  | bad => exact h
theorem ds_try {on : On} {n i j : Nat} {sub : Nat → Nat → Bool} {x y : Str} {body : List Stmt} {e : Expr} {np pos pos' pos2 : Pos} {b : MS} {m : M W} (hs : X.stack = X.env :: X.outer) (hf : X.env.frame = some X.env.locals) (hN : X.N.Nodup) (hi : X.N[i]? = some y) (hln : X.env.kindOf y = some .local) (hE : Y.Ex = cEx on)
    (cf : CF X.K Y.T n sub) (hnn : n ≤ cN) (hj : j < n) (hc : X.mg x = some (Y.T j)) (hgx : Gl X x) (hdb : (x == ("__debug__" : Str)) = false) (tk : L2N.Takes X Y.W)
    (hb : ∀ (V : WX) (pn : List (Addr × Obj)) (xe : Value → Shared → Prop), L2N.Takes (X.tr pn xe) V → PassesOwn (model X.prog X.w) X.A X.env xe → DSs (X.tr pn xe) { Y with W := V } body b)
    (he : ∀ (a : Addr) (oe : Obj) (k : Nat) (pn : List (Addr × Obj)), HotK on (X.suite a ((a, oe) :: pn)) (Yfe on Y.T (a, oe) k) n → DE (X.suite a ((a, oe) :: pn)) (Yfe on Y.T (a, oe) k) true e m) :
    DS X Y (.Try body [.ExceptHandler (some (.Name x np)) (some y) [.Return (some e) pos2] pos'] [] [] pos) (mTryRet n (fun k => sub k j) i b m) := by
  refine ⟨ps_weak (L2N.ps_try_as (c := Y.T j) (i := i) (Wout := Y.W) (tb := fun V => tS X { Y with W := V } b) (ts := fun a cls dd D σ H => ∃ k, (k < n ∧ cls = Y.T k ∧ dd = none) ∧ tRet (tE X ⟨exAt on a k, Y.T, fun _ _ _ _ => False⟩ true m) D σ H) hs hf hN hi hln ⟨hgx, hdb, .inl hc⟩ tk
    (fun V pn xe tk' hp => (hb V pn xe tk' hp).ps) (fun a oe cls dd pn hz hfl => PSs.many (t := fun k => tRet (tE X ⟨exAt on a k, Y.T, fun _ _ _ _ => False⟩ true m)) fun k ⟨hk, e1, e2⟩ => ?_)) fun D σ H h => ?_⟩
  · subst e1 e2
    obtain ⟨vs, hv⟩ := hfl
    have hK : HotK on (X.suite a ((a, oe) :: pn)) (Yfe on Y.T (a, oe) k) n := ⟨(a, oe), k, hk, ⟨rfl, vs, hv, hz.2.2 vs hv⟩, List.mem_cons_self, hz.zc, hnn, rfl⟩
    exact pss_one (ps_ret (he a oe k pn hK).pe)
  · obtain ⟨Oc, d, rs, h⟩ := h
    refine ⟨Oc, d, rs, ?_⟩
    unfold mTryRet at h
    have keep : ∀ o : SOut, b d = o → (∀ k d1, o ≠ .exc k d1) → PoS X Y Oc d σ H o D → PoS X { Y with W := wAs X.K (Y.T j) i (fun a cls dd D σ H => ∃ k, (k < n ∧ cls = Y.T k ∧ dd = none) ∧ tRet (tE X ⟨exAt on a k, Y.T, fun _ _ _ _ => False⟩ true m) D σ H) Y.W D } Oc d σ H o D := fun o _ no h => h.wish fun k d1 e => absurd e (no k d1)
    cases q : b d with
    | next d1 => rw [q] at h; exact keep _ q (fun _ _ => nofun) h
    | brk d1 => rw [q] at h; exact keep _ q (fun _ _ => nofun) h
    | cont d1 => rw [q] at h; exact keep _ q (fun _ _ => nofun) h
    | ret r d1 => rw [q] at h; exact keep _ q (fun _ _ => nofun) h
    | bad => rw [q] at h; exact h
    | exc k d1 =>
      rw [q] at h
      dsimp only at h
      intro σ1 H1 g1
      by_cases hk : k < n
      · rw [if_pos hk] at h
        refine ⟨sub k j, cf.exm k j hk hj, fun hsub a ha => ⟨k, ⟨hk, rfl, rfl⟩, ?_⟩, fun hsub => ?_⟩
        · rw [if_pos hsub] at h
          by_cases hfr : freeAt i d1 = true
          · rw [if_pos hfr] at h
            have rs1 : RS X.K (exAt on a k) Oc H1 d1 σ1 := g1.rs.ex (fun b c z => by rw [hE] at z; exact .inr z) fun b z => by
              rw [hE]
              rcases z with ⟨_, z⟩ | z
              · exact absurd z (Nat.ne_of_gt (Nat.lt_of_lt_of_le hk (Nat.le_trans hnn (by decide))))
              · exact z
            have g2 := store_go (i := i) rs1 (.exc (a := a) (c := k) (.inl ⟨rfl, rfl⟩)) (freeAt_store (w := exD k) hfr)
            refine ⟨Oc, _, g2.rs, ?_⟩
            cases q2 : m (d1.set i (some (.val (exD k)))) with
            | bad => rw [q2] at h; exact h.elim
            | exc c d2 => rw [q2] at h; exact h.elim
            | ok w d2 =>
              rw [q2] at h
              dsimp only at h
              by_cases hw : noD w = true
              · rw [if_pos hw] at h
                intro H3 g3 v rv
                have sm := (g3.pur rfl).1
                have e2 := (g3.pur rfl).2
                have g4 := g1.trans (GoS.same g1.rs sm)
                refine h σ1 H3 v g4 ?_
                have rv2 : Rp X.K Y.Ex (Ow Oc d2 (σ1.set i (some (.ref a)))) H3 v w := rv.anyEx (fun b z => by
                  rw [hE]
                  rcases z with ⟨_, z⟩ | z
                  · exact absurd z (Nat.ne_of_gt (Nat.lt_of_lt_of_le hk hnn))
                  · exact z) hw
                exact rv2.mono (fun b u n e => ⟨fun z => n (by rw [e2]; exact freeAt_ow hfr z), e⟩) fun _ _ z => z
              · rw [if_neg hw] at h; exact h.elim
          · rw [if_neg hfr] at h; exact h.elim
        · rw [if_neg (by rw [hsub]; exact Bool.false_ne_true)] at h
          exact h σ1 H1 g1
      · rw [if_neg hk] at h; exact h.elim
end
end Qd
end
section
set_option Elab.async false
set_option linter.all false
set_option maxRecDepth 100000
set_option maxHeartbeats 1000000
/-! Own lists and dicts: methods, stores, items. -/
namespace Qd
open PySem PySem.Spec PyProof.Rows L2

def tyW : W → String
  | .list _ => "list"
  | .dict _ => "dict"
  | .int _ => "int"
  | .str _ => "str"
  | _ => ""
section
variable {K : PySem.W.Frag} {Ex : Addr → Nat → Prop} {O : Addr → Prop} {H : Hp} {p : Addr} {xs : List V} {ds : List W}
theorem Ob.put (hp : O p) (r : RpA K Ex O H xs ds) : But p H (upd H p (.lst xs)) ∧ Ob K Ex O (upd H p (.lst xs)) p (.list ds) :=
  ⟨fun a o n e => by rw [upd_ne n]; exact e, ⟨_, upd_same, r.mono (fun a u n e => ⟨n, by rw [upd_ne (fun z => n (by rw [z]; exact hp))]; exact e⟩) fun _ _ z => z⟩⟩
theorem Ob.tyV {u : W} {T : String} (ob : Ob K Ex O H p u) (e : tyW u = T) : L2.tyV K T (.ref p) H := by
  cases u with
  | list ds => obtain ⟨ys, h, _⟩ := ob; exact .inl ⟨e.symm, _, .inl (.inl h)⟩
  | dict ds =>
    rcases ob with ⟨ys, h, _⟩ | ⟨ys, _, _, h, _⟩
    · exact .inr (.inr (.inl ⟨e.symm, .inl ⟨_, h⟩⟩))
    · exact .inr (.inr (.inl ⟨e.symm, .inr ⟨_, h⟩⟩))
  | none => exact ob.elim
  | bool b => exact ob.elim
  | int i => exact ob.elim
  | str s => exact ob.elim
  | tuple t => exact ob.elim
theorem Rp.tyV {v : V} {u : W} {T : String} (r : Rp K Ex O H v u) (e : tyW u = T) (h : ∀ ds, u ≠ .dict ds) (ht : T ≠ "") : L2.tyV K T v H := by
  cases r with
  | non => exact absurd e.symm ht
  | bl b => exact absurd e.symm ht
  | int i => exact e.symm
  | str x => exact e.symm
  | lst l _ => exact .inl ⟨e.symm, _, l.sq⟩
  | tup _ _ => exact absurd e.symm ht
  | dK _ _ _ => exact absurd rfl (h _)
  | dT _ _ _ => exact absurd rfl (h _)
  | exc _ => exact absurd rfl (h _)
end
/-- a method that may write its object, by data: the answer, the object's data behind it -/
def MetD (X : Cx) (id : String) (g : W → List W → Option (W × W)) : Prop :=
  ∃ r, MtR X id r ∧ ∀ (Ex : Addr → Nat → Prop) (O : Addr → Prop) (H : Hp) (p : Addr) (u : W) (xs : List V) (as : List W) (c u' : W) (Q : VK), (∀ q, O q → ∃ o, H q = some o) → g u as = some (c, u') → O p → Ob X.K Ex O H p u → RpA X.K Ex O H xs as →
    (∀ H' v, But p H H' → Ob X.K Ex O H' p u' → Rp X.K Ex O H' v c → Q v H') → r (.ref p) xs H Q
def mMeth (T : String) (g : W → List W → Option (W × W)) (i : Nat) (as : M (List W)) : M W := fun d => (ofOpt (mineAt i d) d).bind fun u0 d0 => if tyW u0 = T then (as d0).bind fun ws d1 => (ofOpt (mineAt i d1) d1).bind fun u d2 => match g u ws with
  | some (c, u') => .ok c (setMine i u' d2)
  | none => .bad else .bad
section
variable {X : Cx} {Y : Yx}
theorem slot_same {d d1 : SD} {σ : St} {i : Nat} {u0 u : W} {K : PySem.W.Frag} {Ex : Addr → Nat → Prop} {Oc : Addr → Prop} {H H1 : Hp} {pu : Bool} (rs : RS K Ex Oc H d σ) (e0 : mineAt i d = some u0) (g : Go K Ex Oc pu σ d H d1 H1) (e1 : mineAt i d1 = some u) :
    ∃ (p : Addr) (s : Slot), σ[i]? = some (some (.ref p)) ∧ Ob K Ex (Ow Oc d σ) H p u0 ∧ d1[i]? = some (some s) ∧ Slot.mine? s = some u ∧ ¬ Oc p ∧ Ob K Ex (Ow Oc d1 σ) H1 p u := by
  obtain ⟨s0, f1, f2⟩ := mineAt_some e0
  obtain ⟨p, ep, _, ob0⟩ := rs.own i s0 u0 f1 f2
  obtain ⟨s, g1, g2⟩ := mineAt_some e1
  obtain ⟨p1, ep1, np, ob⟩ := g.rs.own i s u g1 g2
  rw [ep] at ep1; cases ep1
  exact ⟨p, s, ep, ob0, g1, g2, np, ob⟩
theorem t_meth {pu : Bool} {T id : String} {g : W → List W → Option (W × W)} {r : V → List V → Hp → VK → Prop} {i : Nat} {as : M (List W)} (hd : ∀ (Ex : Addr → Nat → Prop) (O : Addr → Prop) (H : Hp) (p : Addr) (u : W) (xs : List V) (as : List W) (c u' : W) (Q : VK), (∀ q, O q → ∃ o, H q = some o) → g u as = some (c, u') → O p → Ob X.K Ex O H p u → RpA X.K Ex O H xs as →
    (∀ H' v, But p H H' → Ob X.K Ex O H' p u' → Rp X.K Ex O H' v c → Q v H') → r (.ref p) xs H Q) (σ : St) (H : Hp) (Q : VK) (h : tE X Y false (mMeth T g i as) σ H Q) : tVar i σ H fun x H1 => L2.tyV X.K T x H1 ∧ tL X Y pu as σ H1 fun xs H2 => r x xs H2 Q := by
  obtain ⟨Oc, d, rs, h⟩ := h
  unfold mMeth at h
  cases q0 : mineAt i d with
  | none => rw [q0] at h; exact h.elim
  | some u0 =>
    rw [q0] at h
    dsimp only [ofOpt, Out.bind] at h
    by_cases ht : tyW u0 = T
    · rw [if_pos ht] at h
      obtain ⟨s0, f1, f2⟩ := mineAt_some q0
      obtain ⟨p, ep, _, ob0⟩ := rs.own i s0 u0 f1 f2
      refine ⟨_, ep, ob0.tyV ht, Oc, d, rs, ?_⟩
      have hh := Po.bindF (p := pu) (show Po X Y false Oc σ d H ((as d).bind _) _ from h)
      refine hh.imp fun ws d1 H1 g1 h1 vs ra => ?_
      cases q1 : mineAt i d1 with
      | none => rw [q1] at h1; exact h1.elim
      | some u =>
        rw [q1] at h1
        dsimp only [ofOpt, Out.bind] at h1
        obtain ⟨p', s, ep', _, e1, e2, np, ob⟩ := slot_same rs q0 g1 q1
        rw [ep] at ep'; cases ep'
        cases q2 : g u ws with
        | none => rw [q2] at h1; exact h1.elim
        | some cu =>
          obtain ⟨c, u'⟩ := cu
          rw [q2] at h1
          refine hd Y.Ex (Ow Oc d1 σ) H1 p u vs ws c u' Q (fun q z => g1.rs.there z) q2 (.inr ⟨i, s, u, e1, e2, ep⟩) ob ra fun H' v b ob' rv => ?_
          have fin := setMine_go g1.rs e1 e2 ep b ob'
          exact h1 H' fin v (rv.mono (fun a x n e => ⟨fun z => n (z.imp (fun y => y) fin.sim.mine.mp), e⟩) fun _ _ z => z)
    · rw [if_neg ht] at h; exact h.elim
theorem d_meth {pu : Bool} {T id : String} {name y : Str} {g : W → List W → Option (W × W)} {i : Nat} {e : Expr} {es : List Expr} {as : M (List W)} {p apos cpos : Pos} (pa : PlainAttrs T) (slot : PySem.Slot T name id) (hty : typeOf (.builtin id) = pure (.type "method_descriptor")) (hm : MetD X id g) (ha : DL X Y pu (e :: es) as)
    (hN : X.N[i]? = some y := by rfl) (hv : Vis X.env.scope y := by first | exact Or.inl rfl | exact Or.inr (Or.inl rfl) | exact Or.inr (Or.inr rfl)) (hd : (y == ("__debug__" : Str)) = false := by decide) (hcd : (y == ("__classdict__" : Str)) = false := by decide)
    (hbase : attributeBase (.Name y p) name X.env (eval (.Name y p) X.env) = eval (.Name y p) X.env := by rfl)
    (hfew : ((backTo cpos (starEach (e :: es) X.env)).all (fun x => !x.1) && (backToKw cpos (keywordEach [] X.env)).all (fun x => x.1.isSome) && decide ((e :: es).length + ([] : List Keyword).length + (if ([] : List Keyword).isEmpty then 0 else 1) < 30)) = true := by rfl)
    (hline : (apos.endLine == cpos.line) = true := by rfl) (hs : starEach (e :: es) X.env = (false, eval e X.env) :: starEach es X.env := by rfl) (hplain : (backTo cpos (starEach es X.env)).any (·.1) = false := by rfl) :
    DE X Y false (.Call (.Attribute (.Name y p) name apos) (e :: es) [] cpos) (mMeth T g i as) :=
  let ⟨_, hr, hdd⟩ := hm
  ⟨pe_weak (pe_bm pa slot hty hr (pe_var hN hv hd hcd) ha.pa hbase hfew hline hs hplain) fun σ H Q h => t_meth (id := id) hdd σ H Q h⟩
theorem d_meth0 {T id : String} {name y : Str} {g : W → List W → Option (W × W)} {i : Nat} {p apos cpos : Pos} (pa : PlainAttrs T) (slot : PySem.Slot T name id) (hty : typeOf (.builtin id) = pure (.type "method_descriptor")) (hm : MetD X id g)
    (hN : X.N[i]? = some y := by rfl) (hv : Vis X.env.scope y := by first | exact Or.inl rfl | exact Or.inr (Or.inl rfl) | exact Or.inr (Or.inr rfl)) (hd : (y == ("__debug__" : Str)) = false := by decide) (hcd : (y == ("__classdict__" : Str)) = false := by decide)
    (hbase : attributeBase (.Name y p) name X.env (eval (.Name y p) X.env) = eval (.Name y p) X.env := by rfl) (hline : (apos.endLine == cpos.line) = true := by rfl) : DE X Y false (.Call (.Attribute (.Name y p) name apos) [] [] cpos) (mMeth T g i mNil) :=
  let ⟨r, hr, hdd⟩ := hm
  ⟨pe_weak (pe_bm0 pa slot hty hr (pe_var hN hv hd hcd) hbase hline) fun σ H Q h => by
    obtain ⟨v, e1, t1, h1⟩ := t_meth (id := id) (pu := true) (r := r) hdd σ H Q h
    refine ⟨v, e1, t1, ?_⟩
    obtain ⟨Oc, d, rs, h1⟩ := h1
    exact h1 H (.refl rs) [] .nil⟩
end

/-! ### lists -/
section
variable {X : Cx}
def appendW : W → List W → Option (W × W) := fun u as => match u, as with
  | .list ds, [w] => if ds.length < sizeLine then some (.none, .list (ds ++ [w])) else none
  | _, _ => none
theorem md_append : MetD X "list.append" appendW := by
  refine ⟨_, mt_append, fun Ex O H p u xs as c u' Q hO h hp ob ra q => ?_⟩
  unfold appendW at h
  split at h
  · split at h
    · rename_i ds w hl
      cases h
      obtain ⟨ys, e, r⟩ := ob
      obtain ⟨v, rfl, rv⟩ := rpA1 ra
      obtain ⟨b, o⟩ := Ob.put hp (r.append (.cons rv .nil))
      exact ⟨p, ys, v, rfl, rfl, e, by rw [r.length]; exact hl, q _ _ b o .non⟩
    · cases h
  · cases h
def popW : W → List W → Option (W × W) := fun u as => match u, as with
  | .list ds, [] => match ds[ds.length - 1]? with
    | some y => some (y, .list ds.dropLast)
    | none => none
  | _, _ => none
theorem md_pop : MetD X "list.pop" popW := by
  refine ⟨_, mt_pop, fun Ex O H p u xs as c u' Q hO h hp ob ra q => ?_⟩
  unfold popW at h
  split at h
  · split at h
    · rename_i ds y hl
      cases h
      obtain ⟨ys, e, r⟩ := ob
      cases ra
      rw [← r.length] at hl
      obtain ⟨v, ev, rv⟩ := r.get hl
      obtain ⟨b, o⟩ := Ob.put hp r.dropLast
      refine ⟨p, ys, v, rfl, rfl, e, ev, q _ _ b o (rv.mono (fun a u n e => ⟨n, b a u (fun z => n (by rw [z]; exact hp)) e⟩) fun _ _ z => z)⟩
    · cases h
  · cases h
noncomputable def popAtW : W → List W → Option (W × W) := fun u as => match u, as with
  | .list ds, [.int i] => if cdec (-(2 ^ 63) ≤ i ∧ i < 2 ^ 63) = true then (match seqIndex? i ds.length with
    | some k => (match ds[k]? with
      | some y => some (y, .list (ds.eraseIdx k))
      | none => none)
    | none => none) else none
  | _, _ => none
theorem md_popAt : MetD X "list.pop" popAtW := by
  refine ⟨_, mt_popAt, fun Ex O H p u xs as c u' Q hO h hp ob ra q => ?_⟩
  unfold popAtW at h
  split at h
  · split at h
    · rename_i ds i hi
      have hi := cdec_iff.mp hi
      obtain ⟨ys, e, r⟩ := ob
      obtain ⟨v, rfl, rv⟩ := rpA1 ra
      cases rp_int rv
      cases q1 : seqIndex? i ds.length with
      | none => rw [q1] at h; cases h
      | some k =>
        rw [q1] at h
        dsimp only at h
        cases q2 : ds[k]? with
        | none => rw [q2] at h; cases h
        | some y =>
          rw [q2] at h
          cases h
          obtain ⟨v, ev, rv⟩ := r.get q2
          obtain ⟨b, o⟩ := Ob.put hp (r.eraseIdx k)
          exact ⟨p, ys, i, k, v, rfl, rfl, e, hi.1, hi.2, by rw [r.length]; exact q1, ev, q _ _ b o (rv.mono (fun a u n e => ⟨n, b a u (fun z => n (by rw [z]; exact hp)) e⟩) fun _ _ z => z)⟩
    · cases h
  · cases h
noncomputable def insertW : W → List W → Option (W × W) := fun u as => match u, as with
  | .list ds, [.int i, w] => if cdec (ds.length < sizeLine ∧ 0 ≤ i ∧ i < 2 ^ 63) = true then some (.none, .list (ds.take i.toNat ++ [w] ++ ds.drop i.toNat)) else none
  | _, _ => none
theorem md_insert : MetD X "list.insert" insertW := by
  refine ⟨_, mt_insert, fun Ex O H p u xs as c u' Q hO h hp ob ra q => ?_⟩
  unfold insertW at h
  split at h
  · split at h
    · rename_i ds i w hi
      have hi := cdec_iff.mp hi
      cases h
      obtain ⟨ys, e, r⟩ := ob
      obtain ⟨v, v2, rfl, rv, rv2⟩ := rpA2 ra
      cases rp_int rv
      obtain ⟨b, o⟩ := Ob.put hp (((r.take i.toNat).append (.cons rv2 .nil)).append (r.drop i.toNat))
      exact ⟨p, ys, i, v2, rfl, rfl, e, by rw [r.length]; exact hi.1, hi.2.1, hi.2.2, q _ _ b o .non⟩
    · cases h
  · cases h
end

/-! ### x[i] = v -/
def SetD (X : Cx) (g : W → W → W → Option W) : Prop :=
  ∃ t, PSet X t ∧ ∀ (Ex : Addr → Nat → Prop) (O : Addr → Prop) (H : Hp) (p : Addr) (u k w u' : W) (y v : V) (Q : Hp → Prop), (∀ q, O q → ∃ o, H q = some o) → g u k w = some u' → O p → Ob X.K Ex O H p u → Rp X.K Ex O H y k → Rp X.K Ex O H v w →
    (∀ H', But p H H' → Ob X.K Ex O H' p u' → Q H') → t (.ref p) y v H Q
def setLW : W → W → W → Option W := fun u k w => match u, k with
  | .list ds, .int i => match ixN ds.length i with
    | some j => some (.list (ds.set j w))
    | none => none
  | _, _ => none
theorem sd_list {X : Cx} : SetD X setLW := by
  refine ⟨_, set_list, fun Ex O H p u k w u' y v Q hO h hp ob ry rv q => ?_⟩
  unfold setLW at h
  split at h
  · split at h
    · rename_i ds i j hj
      cases h
      obtain ⟨ys, e, r⟩ := ob
      cases rp_int ry
      obtain ⟨b, o⟩ := Ob.put hp (r.set rv j)
      exact ⟨p, ys, _, j, rfl, rfl, e, by rw [r.length]; exact hj, q _ b o⟩
    · cases h
  · cases h
def mSetIx (g : W → W → W → Option W) (i : Nat) (ix m : M W) : MS := fun d => (m d).toS fun w d1 => (ofOpt (mineAt i d1) d1).toS fun _ d1 => (ix d1).toS fun k d2 => (ofOpt (mineAt i d2) d2).toS fun u d2 => match g u k w with
  | some u' => .next (setMine i u' d2)
  | none => .bad
section
variable {X : Cx} {Y : Yx}
theorem ds_setIx {pe pi : Bool} {g : W → W → W → Option W} {i : Nat} {y : Str} {ix e : Expr} {p pos pos' : Pos} {mi m : M W} (hs : SetD X g) (hi : DE X Y pi ix mi) (he : DE X Y pe e m)
    (hN : X.N[i]? = some y := by rfl) (hv : Vis X.env.scope y := by first | exact Or.inl rfl | exact Or.inr (Or.inl rfl) | exact Or.inr (Or.inr rfl)) (hd : (y == ("__debug__" : Str)) = false := by decide) (hcd : (y == ("__classdict__" : Str)) = false := by decide)
    (ha : ∀ v, assign (.Subscript (.Name y p) ix pos') X.env v = (do
      let ov ← holding [v] (eval (.Name y p) X.env)
      let iv ← holding [v, ov] (eval ix X.env)
      standAt pos'
      holding [v, ov, iv] (setItem ov iv v)
      release [v, ov, iv] []) := by intro _; rfl)
    (hsw : swapsWithSole [.Subscript (.Name y p) ix pos'] e pos.line X.env = pure false := by rfl) (hw : swappedStores [.Subscript (.Name y p) ix pos'] e X.env = pure none := by rfl) (h1 : (assignEach [.Subscript (.Name y p) ix pos'] X.env).map (·.2) = [assign (.Subscript (.Name y p) ix pos') X.env] := by rfl) :
    DS X Y (.Assign [.Subscript (.Name y p) ix pos'] e pos) (mSetIx g i mi m) := by
  obtain ⟨t, ht, hdd⟩ := hs
  refine ⟨ps_weak (ps_asg he.pe (pg_sub (pe_var hN hv hd hcd) hi.pe ht ha) hsw hw h1) fun D σ H h => ?_⟩
  obtain ⟨Oc, d, rs, h⟩ := h
  refine ⟨Oc, d, rs, (Po.toS h).imp fun w d1 H1 g1 h1 v rv => ?_⟩
  cases q0 : mineAt i d1 with
  | none => rw [q0] at h1; exact h1.elim
  | some u0 =>
    rw [q0] at h1
    dsimp only [ofOpt, Out.toS] at h1
    obtain ⟨s0, f1, f2⟩ := mineAt_some q0
    obtain ⟨a, ea, _, ob0⟩ := g1.rs.own i s0 u0 f1 f2
    refine ⟨_, ea, Oc, d1, g1.rs, (Po.toS (p := pi) h1).imp fun k d2 H2 g2 h2 kv rk => ?_⟩
    cases q1 : mineAt i d2 with
    | none => rw [q1] at h2; exact h2.elim
    | some u =>
      rw [q1] at h2
      dsimp only [ofOpt, Out.toS] at h2
      obtain ⟨p', s, ep', _, e1, e2, np, ob⟩ := slot_same g1.rs q0 g2 q1
      rw [ea] at ep'; cases ep'
      cases q2 : g u k w with
      | none => rw [q2] at h2; exact h2.elim
      | some u' =>
        rw [q2] at h2
        refine hdd Y.Ex (Ow Oc d2 σ) H2 a u k w u' kv v _ (fun q z => g2.rs.there z) q2 (.inr ⟨i, s, u, e1, e2, ea⟩) ob rk (g2.rp rv) fun H' b ob' => ?_
        exact h2 σ H' (setMine_go g2.rs e1 e2 ea b ob').toS
/-- x[i], x an own list -/
def mSubOwn (i : Nat) (ix : M W) : M W := fun d => (ofOpt (mineAt i d) d).bind fun _ d => (ix d).bind fun k d1 => (ofOpt (mineAt i d1) d1).bind fun u d1 => match u, k with
  | .list ds, .int j => ofOpt (atI ds j) d1
  | _, _ => .bad
theorem RpA.atI {K : PySem.W.Frag} {Ex : Addr → Nat → Prop} {O : Addr → Prop} {H : Hp} {vs : List V} {ws : List W} {i : Int} {w : W} (r : RpA K Ex O H vs ws) (h : L2.atI ws i = some w) : ∃ v, L2.atI vs i = some v ∧ Rp K Ex O H v w := by
  unfold L2.atI at h ⊢
  rw [r.length]
  cases q : ixN ws.length i with
  | none => rw [q] at h; cases h
  | some j => rw [q] at h; exact r.get h
theorem d_subOwn {pi : Bool} {i : Nat} {y : Str} {ix : Expr} {p pos : Pos} {mi : M W} (hi : DE X Y pi ix mi) (hpl : PlainIx ix) (hN : X.N[i]? = some y := by rfl) (hv : Vis X.env.scope y := by first | exact Or.inl rfl | exact Or.inr (Or.inl rfl) | exact Or.inr (Or.inr rfl)) (hd : (y == ("__debug__" : Str)) = false := by decide)
    (hcd : (y == ("__classdict__" : Str)) = false := by decide) : DE X Y pi (.Subscript (.Name y p) ix pos) (mSubOwn i mi) := ⟨pe_weak (pe_ix ix_list (pe_var hN hv hd hcd) hi.pe hpl) fun σ H Q h => by
  obtain ⟨Oc, d, rs, h⟩ := h
  unfold mSubOwn at h
  cases q0 : mineAt i d with
  | none => rw [q0] at h; exact h.elim
  | some u0 =>
    rw [q0] at h
    dsimp only [ofOpt, Out.bind] at h
    obtain ⟨s0, f1, f2⟩ := mineAt_some q0
    obtain ⟨a, ea, _, ob0⟩ := rs.own i s0 u0 f1 f2
    refine ⟨_, ea, Oc, d, rs, (Po.bind1 (show Po X Y pi Oc σ d H ((mi d).bind _) _ from h)).imp fun k d1 H1 g1 h1 kv rk => ?_⟩
    cases q1 : mineAt i d1 with
    | none => rw [q1] at h1; exact h1.elim
    | some u =>
      rw [q1] at h1
      dsimp only [ofOpt, Out.bind] at h1
      obtain ⟨p', s, ep', _, e1, e2, np, ob⟩ := slot_same rs q0 g1 q1
      rw [ea] at ep'; cases ep'
      cases u with
      | list ds =>
        cases k with
        | int j =>
          dsimp only at h1
          cases q2 : L2.atI ds j with
          | none => rw [q2] at h1; exact h1.elim
          | some w =>
            rw [q2] at h1
            obtain ⟨ys, eH, r⟩ := ob
            obtain ⟨v, ev, rv⟩ := r.atI q2
            cases rp_int rk
            exact ⟨a, ys, j, v, rfl, rfl, .inl (.inl eH), ev, h1 H1 (.refl g1.rs) v rv⟩
        | _ => exact h1.elim
      | _ => exact h1.elim⟩
end
end Qd
end
section
set_option Elab.async false
set_option linter.all false
set_option maxRecDepth 100000
set_option maxHeartbeats 1000000
/-! Dicts by data. -/
namespace Qd
open PySem PySem.Spec PyProof.Rows L2

def isK : W → Option Key
  | .int i => some (.inl i)
  | .str x => some (.inr x)
  | _ => none
def isKs : List W → Option (List Key)
  | [] => some []
  | w :: r => match isK w, isKs r with
    | some k, some ks => some (k :: ks)
    | _, _ => none
def isT : W → Option (List Key)
  | .tuple ws => isKs ws
  | _ => none
@[simp] theorem isK_keyD (k : Key) : isK (keyD k) = some k := by cases k <;> rfl
theorem isK_some {w : W} {k : Key} (h : isK w = some k) : w = keyD k := by
  cases w <;> simp [isK] at h <;> subst h <;> rfl
@[simp] theorem isKs_keyD : ∀ ks : List Key, isKs (ks.map keyD) = some ks
  | [] => rfl
  | k :: r => by simp [isKs, isKs_keyD r]
theorem isKs_some : ∀ {ws : List W} {ks : List Key}, isKs ws = some ks → ws = ks.map keyD
  | [], ks, h => by cases h; rfl
  | w :: r, ks, h => by
    unfold isKs at h
    split at h
    · rename_i k l h1 h2
      cases h
      rw [isK_some h1, isKs_some h2]; rfl
    · cases h
def eT (ks : List Key) : W := .tuple (ks.map keyD)
@[simp] theorem isT_eT (ks : List Key) : isT (eT ks) = some ks := isKs_keyD ks
theorem isT_some {w : W} {ks : List Key} (h : isT w = some ks) : w = eT ks := by
  cases w <;> simp [isT] at h
  rw [isKs_some h]; rfl
/-- a dict's items by data: keys by tuples or not, and the items -/
def dkind : List (W × W) → Option (Bool × List (W × W))
  | [] => some (false, [])
  | (.none, .none) :: r => some (true, r)
  | (.none, _) :: _ => none
  | l => some (false, l)
section
variable {κ : Type} [DecidableEq κ]
def getG (dec : W → Option κ) (ds : List (W × W)) (k : κ) : Option W := (ds.find? fun kv => decide (dec kv.1 = some k)).map (·.2)
def putG (dec : W → Option κ) (enc : κ → W) (ds : List (W × W)) (k : κ) (w : W) : List (W × W) :=
  if (ds.any fun kv => decide (dec kv.1 = some k)) = true then ds.map (fun kv => if dec kv.1 = some k then (kv.1, w) else kv) else ds ++ [(enc k, w)]
end
def dfind (u k : W) : Option (Option W) := match u with
  | .dict ds => match dkind ds with
    | some (true, l) => (isT k).map (getG isT l)
    | some (false, l) => (isK k).map (getG isK l)
    | none => none
  | _ => none
def dput (u k w : W) : Option W := match u with
  | .dict ds => match dkind ds with
    | some (true, l) => match isT k with
      | some t => if l.length < sizeLine then some (.dict (tagT :: putG isT eT l t w)) else none
      | none => none
    | some (false, l) => match isK k with
      | some t => if l.length < sizeLine then some (.dict (putG isK keyD l t w)) else none
      | none => none
    | none => none
  | _ => none
section
variable {κ : Type} [DecidableEq κ] {R : V → W → Prop} {enc : κ → W} {dec : W → Option κ}
inductive GK (R : V → W → Prop) (enc : κ → W) : List (κ × V) → List (W × W) → Prop
  | nil : GK R enc [] []
  | cons {k : κ} {v : V} {w : W} {r : List (κ × V)} {s : List (W × W)} : R v w → GK R enc r s → GK R enc ((k, v) :: r) ((enc k, w) :: s)
theorem GK.length {l : List (κ × V)} {ds : List (W × W)} (g : GK R enc l ds) : l.length = ds.length := by
  induction g with
  | nil => rfl
  | cons _ _ ih => rw [List.length_cons, List.length_cons, ih]
theorem GK.get (hd : ∀ k, dec (enc k) = some k) {l : List (κ × V)} {ds : List (W × W)} (g : GK R enc l ds) (k : κ) : (valV l k = none ∧ getG dec ds k = none) ∨ ∃ v w, valV l k = some v ∧ getG dec ds k = some w ∧ R v w := by
  induction g with
  | nil => exact .inl ⟨rfl, rfl⟩
  | @cons k' v w r s h t ih =>
    by_cases e : k' = k
    · subst e
      refine .inr ⟨v, w, by simp [valV, List.find?_cons], by simp [getG, List.find?_cons, hd], h⟩
    · have e1 : valV ((k', v) :: r) k = valV r k := by simp [valV, List.find?_cons, e]
      have e2 : getG dec ((enc k', w) :: s) k = getG dec s k := by simp [getG, List.find?_cons, hd, e]
      rw [e1, e2]; exact ih
theorem GK.any (hd : ∀ k, dec (enc k) = some k) {l : List (κ × V)} {ds : List (W × W)} (g : GK R enc l ds) (k : κ) : (l.any fun kv => decide (kv.1 = k)) = ds.any fun kv => decide (dec kv.1 = some k) := by
  induction g with
  | nil => rfl
  | cons h t ih => rw [List.any_cons, List.any_cons, ih, hd]; simp
theorem GK.upd (hd : ∀ k, dec (enc k) = some k) {v : V} {w : W} (r : R v w) {k : κ} {l : List (κ × V)} {ds : List (W × W)} (g : GK R enc l ds) : GK R enc (l.map fun kv => if kv.1 = k then (kv.1, v) else kv) (ds.map fun kv => if dec kv.1 = some k then (kv.1, w) else kv) := by
  induction g with
  | nil => exact .nil
  | @cons k' v' w' r' s h t ih =>
    rw [List.map_cons, List.map_cons]
    by_cases e : k' = k
    · subst e
      simp only [hd, if_true]
      exact .cons r ih
    · rw [if_neg e, if_neg (by rw [hd]; simpa using e)]
      exact .cons h ih
theorem GK.snoc {l : List (κ × V)} {ds : List (W × W)} (g : GK R enc l ds) {k : κ} {v : V} {w : W} (r : R v w) : GK R enc (l ++ [(k, v)]) (ds ++ [(enc k, w)]) := by
  induction g with
  | nil => exact .cons r .nil
  | cons h t ih => exact .cons h ih
theorem GK.put (hd : ∀ k, dec (enc k) = some k) {v : V} {w : W} (r : R v w) {k : κ} {l : List (κ × V)} {ds : List (W × W)} (g : GK R enc l ds) : GK R enc (putK l k v) (putG dec enc ds k w) := by
  unfold putK putG
  rw [g.any hd]
  split
  · exact g.upd hd r
  · exact g.snoc r
end
section
variable {K : PySem.W.Frag} {Ex : Addr → Nat → Prop} {O : Addr → Prop} {H : Hp}
theorem rpK_g {l : List (Key × V)} {ds : List (W × W)} : RpK K Ex O H l ds ↔ GK (Rp K Ex O H) keyD l ds := by
  constructor
  · intro h
    induction l generalizing ds with
    | nil => cases h; exact .nil
    | cons p r ih => cases h with | cons a b => exact .cons a (ih b)
  · intro h
    induction h with
    | nil => exact .nil
    | cons a b ih => exact .cons a ih
theorem rpT_g {l : List (List Key × V)} {ds : List (W × W)} : RpT K Ex O H l ds ↔ GK (Rp K Ex O H) eT l ds := by
  constructor
  · intro h
    induction l generalizing ds with
    | nil => cases h; exact .nil
    | cons p r ih => cases h with | cons a b => exact .cons a (ih b)
  · intro h
    induction h with
    | nil => exact .nil
    | cons a b ih => exact .cons a ih
theorem dkind_K {l : List (Key × V)} {ds : List (W × W)} (h : RpK K Ex O H l ds) : dkind ds = some (false, ds) := by
  cases h with
  | nil => rfl
  | @cons k v w vs ws a b => cases k <;> rfl
theorem rp_key {y : V} {k : W} {t : Key} (r : Rp K Ex O H y k) (h : isK k = some t) : y = kV t := by
  rw [isK_some h] at r
  cases t with
  | inl i => cases r; rfl
  | inr x => cases r; rfl
theorem rpA_keys : ∀ {xs : List V} {ks : List Key}, RpA K Ex O H xs (ks.map keyD) → xs = ks.map kV
  | _, [], r => by cases r; rfl
  | _, k :: ks, r => by
    cases r with
    | cons a b =>
      rw [rp_key a (isK_keyD k), rpA_keys b]; rfl
theorem rp_keyT (hx : ∀ a, ¬ Ex a cN) {y : V} {k : W} {t : List Key} (r : Rp K Ex O H y k) (h : isT k = some t) : ∃ b, y = .ref b ∧ H b = some (.tup (t.map kV)) := by
  rw [isT_some h] at r
  cases r with
  | tup l ra =>
    rcases l with ⟨_, e⟩ | ⟨z, _⟩
    · exact ⟨_, rfl, by rw [e, rpA_keys ra]⟩
    · exact absurd z (hx _)
/-- what a dict's object tells of a key -/
theorem Ob.dget (hx : ∀ a, ¬ Ex a cN) {p : Addr} {u k : W} {y : V} {o : Option W} (ob : Ob K Ex O H p u) (ry : Rp K Ex O H y k) (h : dfind u k = some o) : (o = none ∧ DGet H p y none) ∨ ∃ w v, o = some w ∧ DGet H p y (some v) ∧ Rp K Ex O H v w := by
  unfold dfind at h
  split at h
  · rename_i ds
    rcases ob with ⟨kvs, e, r⟩ | ⟨kvs, ds', rfl, e, r⟩
    · rw [dkind_K r] at h
      dsimp only at h
      cases q : isK k with
      | none => rw [q] at h; cases h
      | some t =>
        rw [q] at h
        cases h
        rw [rp_key ry q]
        rcases (rpK_g.mp r).get isK_keyD t with ⟨h1, h2⟩ | ⟨v, w, h1, h2, h3⟩
        · exact .inl ⟨h2, .inl ⟨kvs, t, .inl e, rfl, h1.symm⟩⟩
        · exact .inr ⟨w, v, h2, .inl ⟨kvs, t, .inl e, rfl, h1.symm⟩, h3⟩
    · dsimp only [dkind] at h
      cases q : isT k with
      | none => rw [q] at h; cases h
      | some t =>
        rw [q] at h
        cases h
        obtain ⟨b, rfl, eb⟩ := rp_keyT hx ry q
        rcases (rpT_g.mp r).get isT_eT t with ⟨h1, h2⟩ | ⟨v, w, h1, h2, h3⟩
        · exact .inl ⟨h2, .inr ⟨kvs, t, b, .inl e, rfl, eb, h1.symm⟩⟩
        · exact .inr ⟨w, v, h2, .inr ⟨kvs, t, b, .inl e, rfl, eb, h1.symm⟩, h3⟩
  · cases h
theorem Rp.dget (hx : ∀ a, ¬ Ex a cN) {x : V} {u k : W} {y : V} {o : Option W} (rx : Rp K Ex O H x u) (ry : Rp K Ex O H y k) (h : dfind u k = some o) : ∃ p, x = .ref p ∧ ((o = none ∧ DGet H p y none) ∨ ∃ w v, o = some w ∧ DGet H p y (some v) ∧ Rp K Ex O H v w) := by
  cases rx with
  | dK n e r =>
    refine ⟨_, rfl, ?_⟩
    unfold dfind at h
    dsimp only at h
    rw [dkind_K r] at h
    dsimp only at h
    cases q : isK k with
    | none => rw [q] at h; cases h
    | some t =>
      rw [q] at h
      cases h
      rw [rp_key ry q]
      rcases (rpK_g.mp r).get isK_keyD t with ⟨h1, h2⟩ | ⟨v, w, h1, h2, h3⟩
      · exact .inl ⟨h2, .inl ⟨_, t, e, rfl, h1.symm⟩⟩
      · exact .inr ⟨w, v, h2, .inl ⟨_, t, e, rfl, h1.symm⟩, h3⟩
  | dT n e r =>
    refine ⟨_, rfl, ?_⟩
    unfold dfind at h
    dsimp only [dkind] at h
    cases q : isT k with
    | none => rw [q] at h; cases h
    | some t =>
      rw [q] at h
      cases h
      obtain ⟨b, rfl, eb⟩ := rp_keyT hx ry q
      rcases (rpT_g.mp r).get isT_eT t with ⟨h1, h2⟩ | ⟨v, w, h1, h2, h3⟩
      · exact .inl ⟨h2, .inr ⟨_, t, b, e, rfl, eb, h1.symm⟩⟩
      · exact .inr ⟨w, v, h2, .inr ⟨_, t, b, e, rfl, eb, h1.symm⟩, h3⟩
  | exc z => unfold dfind at h; cases h
  | non => cases h
  | bl b => cases h
  | int i => cases h
  | str x => cases h
  | lst _ _ => cases h
  | tup _ _ => cases h
theorem Ob.dput (hx : ∀ a, ¬ Ex a cN) {p : Addr} {u k w u' : W} {y v : V} (hp : O p) (ob : Ob K Ex O H p u) (ry : Rp K Ex O H y k) (rv : Rp K Ex O H v w) (h : Qd.dput u k w = some u') : ∃ H', DPut H p y v H' ∧ But p H H' ∧ Ob K Ex O H' p u' := by
  have key : ∀ u : HO, But p H (upd H p u) := fun u a o n e => by rw [upd_ne n]; exact e
  have ke : ∀ u : HO, Ke O H O (upd H p u) := fun u a o n e => ⟨n, by rw [upd_ne (fun z => n (by rw [z]; exact hp))]; exact e⟩
  unfold Qd.dput at h
  split at h
  · rename_i ds
    rcases ob with ⟨kvs, e, r⟩ | ⟨kvs, ds', rfl, e, r⟩
    · rw [dkind_K r] at h
      dsimp only at h
      cases q : isK k with
      | none => rw [q] at h; cases h
      | some t =>
        rw [q] at h
        dsimp only at h
        split at h
        · rename_i hl
          cases h
          rw [rp_key ry q]
          refine ⟨_, .inl ⟨kvs, t, e, rfl, by rw [(rpK_g.mp r).length]; exact hl, rfl⟩, key _, .inl ⟨_, upd_same, ?_⟩⟩
          exact (rpK_g.mpr ((rpK_g.mp r).put isK_keyD rv)).mono (ke _) fun _ _ z => z
        · cases h
    · dsimp only [dkind] at h
      cases q : isT k with
      | none => rw [q] at h; cases h
      | some t =>
        rw [q] at h
        dsimp only at h
        split at h
        · rename_i hl
          cases h
          obtain ⟨b, rfl, eb⟩ := rp_keyT hx ry q
          refine ⟨_, .inr ⟨kvs, t, b, e, rfl, eb, by rw [(rpT_g.mp r).length]; exact hl, rfl⟩, key _, .inr ⟨_, _, rfl, upd_same, ?_⟩⟩
          exact (rpT_g.mpr ((rpT_g.mp r).put isT_eT rv)).mono (ke _) fun _ _ z => z
        · cases h
  · cases h
end

/-! ### the rules -/
section
variable {X : Cx} {Y : Yx}
def mDGet (a b : M W) : M W := fun d => (a d).bind fun u d1 => (b d1).bind fun k d2 => match dfind u k with
  | some (some w) => .ok w d2
  | _ => .bad
theorem d_dget {pa pb : Bool} {o i : Expr} {pos : Pos} {a b : M W} (hu : X.A.units + 1 < cLine) (hx : ∀ a, ¬ Y.Ex a cN) (ho : DE X Y pa o a) (hi : DE X Y pb i b) (hs : NoSl i) : DE X Y (pa && pb) (.Subscript o i pos) (mDGet a b) := ⟨pe_weak (pe_dget hu ho.pe hi.pe hs) fun σ H Q h => by
  obtain ⟨Oc, d, rs, h⟩ := h
  refine ⟨Oc, d, rs, (Po.bind h).imp fun u d1 H1 g1 h1 xv rx => ⟨Oc, d1, g1.rs, (Po.bind1 h1).imp fun k d2 H2 g2 h2 yv ry => ?_⟩⟩
  cases q : dfind u k with
  | none => rw [q] at h2; exact h2.elim
  | some o =>
    rw [q] at h2
    obtain ⟨p, rfl, ⟨rfl, _⟩ | ⟨w, v, rfl, dg, rv⟩⟩ := (g2.rp rx).dget hx ry q
    · exact h2.elim
    · exact ⟨p, v, rfl, dg, h2 H2 (.refl g2.rs) v rv⟩⟩
def mDIn (neg : Bool) (b a : M W) : M W := fun d => (b d).bind fun k d1 => (a d1).bind fun u d2 => match dfind u k with
  | some o => .ok (.bool (if neg then !o.isSome else o.isSome)) d2
  | none => .bad
theorem t_din {pa pb neg : Bool} {a b : M W} (hx : ∀ a, ¬ Y.Ex a cN) (σ : St) (H : Hp) (Q : VK) (h : tE X Y (pb && pa) (mDIn neg b a) σ H Q) : tE X Y pb b σ H fun y H1 => tE X Y pa a σ H1 fun x H2 => ∃ p o, x = .ref p ∧ DGet H2 p y o ∧ Q (.bl (if neg then !o.isSome else o.isSome)) H2 := by
  obtain ⟨Oc, d, rs, h⟩ := h
  refine ⟨Oc, d, rs, (Po.bind h).imp fun k d1 H1 g1 h1 yv ry => ⟨Oc, d1, g1.rs, (Po.bind1 h1).imp fun u d2 H2 g2 h2 xv rx => ?_⟩⟩
  cases q : dfind u k with
  | none => rw [q] at h2; exact h2.elim
  | some o =>
    rw [q] at h2
    obtain ⟨p, rfl, ⟨rfl, dg⟩ | ⟨w, v, rfl, dg, rv⟩⟩ := rx.dget hx (g2.rp ry) q
    · exact ⟨p, none, rfl, dg, h2 H2 (.refl g2.rs) _ (.bl _)⟩
    · exact ⟨p, some v, rfl, dg, h2 H2 (.refl g2.rs) _ (.bl _)⟩
theorem d_din {pa pb : Bool} {o i : Expr} {pos : Pos} {a b : M W} (hu : X.A.units + 1 < cLine) (hx : ∀ a, ¬ Y.Ex a cN) (hi : DE X Y pb i b) (ho : DE X Y pa o a) (hm : behindInMarks .In o = false := by rfl) : DE X Y (pb && pa) (.Compare i [.In] [o] pos) (mDIn false b a) :=
  ⟨pe_weak (pe_cmp (pc_din hu hi.pe ho.pe) hm) fun σ H Q h => t_din (neg := false) hx σ H Q h⟩
theorem d_dnotin {pa pb : Bool} {o i : Expr} {pos : Pos} {a b : M W} (hu : X.A.units + 1 < cLine) (hx : ∀ a, ¬ Y.Ex a cN) (hi : DE X Y pb i b) (ho : DE X Y pa o a) (hm : behindInMarks .NotIn o = false := by rfl) : DE X Y (pb && pa) (.Compare i [.NotIn] [o] pos) (mDIn true b a) :=
  ⟨pe_weak (pe_cmp (pc_dnotin hu hi.pe ho.pe) hm) fun σ H Q h => t_din (neg := true) hx σ H Q h⟩
/-- a test whose value is a bool -/
theorem tTest_B {pu : Bool} {m : M W} {t : TE} (w : ∀ σ H Q, tE X Y pu m σ H Q → t σ H Q) (σ : St) (H : Hp) (Q : Bool → Hp → Prop) (h : tT X Y pu (mTest m) σ H Q) : tB t σ H Q := by
  obtain ⟨Oc, d, rs, h⟩ := h
  refine w _ _ _ ⟨Oc, d, rs, (Po.bind1 h).imp fun c d1 H1 g1 h1 v r => ?_⟩
  cases c with
  | bool b => cases r; exact ⟨b, rfl, h1 H1 (.refl g1.rs) g1.rs⟩
  | _ => exact h1.elim
theorem dt_din {pa pb : Bool} {o i : Expr} {pos : Pos} {a b : M W} (hu : X.A.units + 1 < cLine) (hx : ∀ a, ¬ Y.Ex a cN) (hi : DE X Y pb i b) (ho : DE X Y pa o a) (hm : behindInMarks .In o = false := by rfl) : DT X Y (pb && pa) (.Compare i [.In] [o] pos) (mTest (mDIn false b a)) :=
  ⟨pt_weak (pt_cmp (pc_din hu hi.pe ho.pe) hm) (tTest_B fun σ H Q h => t_din (neg := false) hx σ H Q h)⟩
theorem dt_dnotin {pa pb : Bool} {o i : Expr} {pos : Pos} {a b : M W} (hu : X.A.units + 1 < cLine) (hx : ∀ a, ¬ Y.Ex a cN) (hi : DE X Y pb i b) (ho : DE X Y pa o a) (hm : behindInMarks .NotIn o = false := by rfl) : DT X Y (pb && pa) (.Compare i [.NotIn] [o] pos) (mTest (mDIn true b a)) :=
  ⟨pt_weak (pt_cmp (pc_dnotin hu hi.pe ho.pe) hm) (tTest_B fun σ H Q h => t_din (neg := true) hx σ H Q h)⟩
/-- d.get(k, x) -/
def isDW : W → Bool
  | .dict ds => (dkind ds).isSome
  | _ => false
def mDGet2 (a b c : M W) : M W := fun d => (a d).bind fun u d1 => if isDW u = true then (b d1).bind fun k d2 => (c d2).bind fun z d3 => match dfind u k with
  | some (some w) => .ok w d3
  | some none => .ok z d3
  | none => .bad else .bad
theorem rp_isD {K : PySem.W.Frag} {Ex : Addr → Nat → Prop} {O : Addr → Prop} {H : Hp} {v : V} {u : W} (r : Rp K Ex O H v u) (h : isDW u = true) : ∃ p, v = .ref p ∧ IsD H p := by
  cases r with
  | dK n e r => exact ⟨_, rfl, .inl ⟨_, e⟩⟩
  | dT n e r => exact ⟨_, rfl, .inr ⟨_, e⟩⟩
  | exc z => cases h
  | non => cases h
  | bl b => cases h
  | int i => cases h
  | str x => cases h
  | lst _ _ => cases h
  | tup _ _ => cases h
theorem d_dget2 {pa pb pc : Bool} {o e f : Expr} {apos cpos : Pos} {a b c : M W} (hu : X.A.units + 1 < cLine) (hx : ∀ a, ¬ Y.Ex a cN) (ho : DE X Y pa o a) (he : DE X Y pb e b) (hf : DE X Y pc f c) (m : M2 X o "get" apos e f cpos) :
    DE X Y (pa && (pb && pc)) (.Call (.Attribute o "get" apos) [e, f] [] cpos) (mDGet2 a b c) := ⟨pe_weak (pe_dget2 hu ho.pe he.pe hf.pe m) fun σ H Q h => by
  obtain ⟨Oc, d, rs, h⟩ := h
  refine ⟨Oc, d, rs, (Po.bind h).imp fun u d1 H1 g1 h1 xv rx => ?_⟩
  by_cases hz : isDW u = true
  · rw [if_pos hz] at h1
    obtain ⟨p, rfl, hp⟩ := rp_isD rx hz
    refine ⟨p, rfl, hp, Oc, d1, g1.rs, (Po.bind h1).imp fun k d2 H2 g2 h2 yv ry => ⟨Oc, d2, g2.rs, (Po.bind1 h2).imp fun z d3 H3 g3 h3 zv rz => ?_⟩⟩
    have g23 := g2.trans g3
    cases q : dfind u k with
    | none => rw [q] at h3; exact h3.elim
    | some o =>
      rw [q] at h3
      obtain ⟨p', e, ⟨rfl, dg⟩ | ⟨w, v, rfl, dg, rv⟩⟩ := (g23.rp rx).dget hx (g3.rp ry) q
      · cases e; exact ⟨none, dg, h3 H3 (.refl g3.rs) _ rz⟩
      · cases e; exact ⟨some v, dg, h3 H3 (.refl g3.rs) _ rv⟩
  · rw [if_neg hz] at h1; exact h1.elim⟩
/-- d[k] = v, d an own dict -/
theorem ds_dput {pe pi : Bool} {i : Nat} {y : Str} {ix e : Expr} {p pos pos' : Pos} {mi m : M W} (hu : X.A.units + 1 < cLine) (hx : ∀ a, ¬ Y.Ex a cN) (hi : DE X Y pi ix mi) (he : DE X Y pe e m)
    (hs : swapsWith e (some (.Subscript (.Name y p) ix pos')) pos.line X.env = pure false := by rfl) (hN : X.N[i]? = some y := by rfl) (hv : Vis X.env.scope y := by first | exact Or.inl rfl | exact Or.inr (Or.inl rfl) | exact Or.inr (Or.inr rfl)) (hd : (y == ("__debug__" : Str)) = false := by decide)
    (hcd : (y == ("__classdict__" : Str)) = false := by decide) : DS X Y (.Assign [.Subscript (.Name y p) ix pos'] e pos) (mSetIx dput i mi m) := by
  refine ⟨ps_weak (ps_dput hu (pe_var hN hv hd hcd) hi.pe he.pe hs) fun D σ H h => ?_⟩
  obtain ⟨Oc, d, rs, h⟩ := h
  refine ⟨Oc, d, rs, (Po.toS h).imp fun w d1 H1 g1 h1 v rv => ?_⟩
  cases q0 : mineAt i d1 with
  | none => rw [q0] at h1; exact h1.elim
  | some u0 =>
    rw [q0] at h1
    dsimp only [ofOpt, Out.toS] at h1
    obtain ⟨s0, f1, f2⟩ := mineAt_some q0
    obtain ⟨a, ea, _, ob0⟩ := g1.rs.own i s0 u0 f1 f2
    refine ⟨_, ea, Oc, d1, g1.rs, (Po.toS (p := pi) h1).imp fun k d2 H2 g2 h2 kv rk => ?_⟩
    cases q1 : mineAt i d2 with
    | none => rw [q1] at h2; exact h2.elim
    | some u =>
      rw [q1] at h2
      dsimp only [ofOpt, Out.toS] at h2
      obtain ⟨p', s, ep', _, e1, e2, np, ob⟩ := slot_same g1.rs q0 g2 q1
      rw [ea] at ep'; cases ep'
      cases q2 : dput u k w with
      | none => rw [q2] at h2; exact h2.elim
      | some u' =>
        rw [q2] at h2
        obtain ⟨H', dp, b, ob'⟩ := ob.dput hx (.inr ⟨i, s, u, e1, e2, ea⟩) rk (g2.rp rv) q2
        exact ⟨a, H', rfl, dp, h2 σ H' (setMine_go g2.rs e1 e2 ea b ob').toS⟩
/-- {} -/
def mDNew (tup : Bool) : M W := fun d => .ok (.dict (if tup then [tagT] else [])) d
theorem df_dnew (tup : Bool) {pos : Pos} : DF X Y true (.Dict [] [] pos) (mDNew tup) := by
  cases tup with
  | false => exact ⟨pe_weak pe_dnewK fun σ H Q h p np => by
      obtain ⟨Oc, d, rs, h⟩ := h
      have rs1 := rs.withNew (o := .dK []) np
      exact h _ (.same rs (same_new np)) p np rs1 (.inl ⟨_, upd_same, .nil⟩)⟩
  | true => exact ⟨pe_weak pe_dnewT fun σ H Q h p np => by
      obtain ⟨Oc, d, rs, h⟩ := h
      have rs1 := rs.withNew (o := .dT []) np
      exact h _ (.same rs (same_new np)) p np rs1 (.inr ⟨_, _, rfl, upd_same, .nil⟩)⟩
end
end Qd
end
section
set_option Elab.async false
set_option linter.all false
set_option maxRecDepth 100000
set_option maxHeartbeats 1000000
/-! More rules on values: comparisons of data, in, subscripts, slices, built-in calls. -/
namespace Qd
open PySem PySem.Spec PyProof.Rows L2

/-! ### one rule or another -/
def or2 (g g' : W → W → Option W) : W → W → Option W := fun a b => match g a b with
  | some c => some c
  | none => g' a b
theorem or2_some {g g' : W → W → Option W} {a b c : W} (h : or2 g g' a b = some c) : g a b = some c ∨ g' a b = some c := by
  unfold or2 at h
  split at h
  · rename_i q; rw [q]; exact .inl h
  · exact .inr h
def orL (g g' : List W → Option W) : List W → Option W := fun a => match g a with
  | some c => some c
  | none => g' a
theorem orL_some {g g' : List W → Option W} {a : List W} {c : W} (h : orL g g' a = some c) : g a = some c ∨ g' a = some c := by
  unfold orL at h
  split at h
  · rename_i q; rw [q]; exact .inl h
  · exact .inr h
section
variable {X : Cx}
theorem OpR.or' {f : Value → Value → Sem Value} {r r' : R2} (h : OpR X f r) (h' : OpR X f r') : OpR X f (fun x y H Q => r x y H Q ∨ r' x y H Q) := by
  intro pins s σ H x y v u Q I rx ry q
  rcases q with q | q
  · exact h pins s σ H x y v u Q I rx ry q
  · exact h' pins s σ H x y v u Q I rx ry q
theorem OpD.or {f : Value → Value → Sem Value} {g g' : W → W → Option W} (h : OpD X f g) (h' : OpD X f g') : OpD X f (or2 g g') := by
  obtain ⟨r, hr, hd⟩ := h
  obtain ⟨r', hr', hd'⟩ := h'
  exact ⟨_, OpR.or' hr hr', fun Ex O H x y a b c Q hO e rx ry q => (or2_some e).imp (fun e => hd Ex O H x y a b c Q hO e rx ry q) fun e => hd' Ex O H x y a b c Q hO e rx ry q⟩
theorem CallR.or' {f : Value} {r r' : List V → Hp → VK → Prop} (h : CallR X f r) (h' : CallR X f r') : CallR X f (fun x H Q => r x H Q ∨ r' x H Q) := by
  intro pins s σ H xs us Q I rx q
  rcases q with q | q
  · exact h pins s σ H xs us Q I rx q
  · exact h' pins s σ H xs us Q I rx q
theorem CallD.or {f : Value} {g g' : List W → Option W} (h : CallD X f g) (h' : CallD X f g') : CallD X f (orL g g') := by
  obtain ⟨r, hr, hd⟩ := h
  obtain ⟨r', hr', hd'⟩ := h'
  exact ⟨_, CallR.or' hr hr', fun Ex O H xs as c Q hO e rx q => (orL_some e).imp (fun e => hd Ex O H xs as c Q hO e rx q) fun e => hd' Ex O H xs as c Q hO e rx q⟩

/-! ### order of data -/
def ordOk (a b : W) : Bool := PySem.W.alike a b && !isNone a && (okD a && okD b)
def ltD : W → W → Option W := fun a b => if ordOk a b = true then some (.bool (PySem.W.dataLt a b)) else none
def gtD : W → W → Option W := fun a b => if ordOk a b = true then some (.bool (PySem.W.dataLt b a)) else none
def leD : W → W → Option W := fun a b => if ordOk a b = true then some (.bool (!PySem.W.dataLt b a)) else none
def geD : W → W → Option W := fun a b => if ordOk a b = true then some (.bool (!PySem.W.dataLt a b)) else none
theorem ordOk_of {a b : W} (h : ordOk a b = true) : PySem.W.alike a b = true ∧ a ≠ .none ∧ (noD a = true ∧ SeqAt.shaped a = true) ∧ noD b = true ∧ SeqAt.shaped b = true := by
  unfold ordOk at h
  rw [Bool.and_eq_true, Bool.and_eq_true] at h
  refine ⟨h.1.1, fun e => ?_, okD_and h.2⟩
  subst e
  simp [isNone] at h
theorem opd_ord {f : Value → Value → Sem Value} {k : W → W → Bool} (hf : ∀ {A : Around} {E : Value → Shared → Prop} {s : Shared} {u v : Value} {a b : W} {as bs : List Addr} {Q : Value → Shared → Prop}, Reads s.heap u a as → Reads s.heap v b bs → PySem.W.alike a b = true → a ≠ .none → A.units + min a.depth b.depth < cLine → Q (.bool (k a b)) s → wpAny (model X.prog X.w) A (f u v) Q E s)
    (hu : X.A.units + 64 < cLine) : OpD X f (fun a b => if ordOk a b = true then some (.bool (k a b)) else none) := by
  refine ⟨fun x y H Q => ∃ a b, Dp X.K H x a ∧ Dp X.K H y b ∧ ordOk a b = true ∧ Q (.bl (k a b)) H, ?_, fun Ex O H x y a b c Q hO h rx ry q => ?_⟩
  · intro pins s σ H x y v u Q I rx ry h
    obtain ⟨a, b, h1, h2, h3, q⟩ := h
    obtain ⟨e1, e2, ⟨_, e4⟩, _, e6⟩ := ordOk_of h3
    obtain ⟨as, r1⟩ := Dp.reads I a x v h1 rx
    obtain ⟨bs, r2⟩ := Dp.reads I b y u h2 ry
    exact hf r1 r2 e1 e2 (SeqAt.room_of_shaped e4 hu) ⟨.bl _, H, I, rfl, q⟩
  · dsimp only at h
    split at h
    · rename_i z
      cases h
      obtain ⟨_, _, ⟨e3, _⟩, e5, _⟩ := ordOk_of z
      exact ⟨a, b, rx.dp e3, ry.dp e5, z, q H _ (fun _ _ e => e) (.bl _)⟩
    · cases h
theorem od_ltD (hu : X.A.units + 64 < cLine) : OpD X (compareOp .Lt) ltD := opd_ord (fun r1 r2 e1 e2 e3 q => PySem.W.lt_data r1 r2 e1 e2 e3 q) hu
theorem od_gtD (hu : X.A.units + 64 < cLine) : OpD X (compareOp .Gt) gtD := opd_ord (k := fun a b => PySem.W.dataLt b a) (fun r1 r2 e1 e2 e3 q => PySem.W.gt_data r1 r2 e1 e2 e3 q) hu
theorem od_leD (hu : X.A.units + 64 < cLine) : OpD X (compareOp .LtE) leD := opd_ord (k := fun a b => !PySem.W.dataLt b a) (fun r1 r2 e1 e2 e3 q => PySem.W.le_data r1 r2 e1 e2 e3 q) hu
theorem od_geD (hu : X.A.units + 64 < cLine) : OpD X (compareOp .GtE) geD := opd_ord (k := fun a b => !PySem.W.dataLt a b) (fun r1 r2 e1 e2 e3 q => PySem.W.ge_data r1 r2 e1 e2 e3 q) hu
noncomputable abbrev ltW := or2 ltI ltD
noncomputable abbrev gtW := or2 gtI gtD
noncomputable abbrev leW := or2 leI leD
noncomputable abbrev geW := or2 geI geD
theorem od_lt (hu : X.A.units + 64 < cLine) : OpD X (compareOp .Lt) ltW := od_ltI.or (od_ltD hu)
theorem od_gt (hu : X.A.units + 64 < cLine) : OpD X (compareOp .Gt) gtW := od_gtI.or (od_gtD hu)
theorem od_le (hu : X.A.units + 64 < cLine) : OpD X (compareOp .LtE) leW := od_leI.or (od_leD hu)
theorem od_ge (hu : X.A.units + 64 < cLine) : OpD X (compareOp .GtE) geW := od_geI.or (od_geD hu)

/-! ### in -/
def itemsOf : W → Option (List W)
  | .list ds => some ds
  | .tuple ds => some ds
  | _ => none
theorem canLay_plain {d : W} (h : SeqAt.shaped d = true) : d.plain = true := PyData.plain_of_canLay0 d (SeqAt.canLay_of_shaped h)
def inW (neg : Bool) : W → W → Option W := fun a b => match itemsOf b with
  | some ds => if (okD a && okD b) = true then some (.bool (if neg then !ds.any fun z => PyData.eqv z a else ds.any fun z => PyData.eqv z a)) else none
  | none => none
theorem opd_in (neg : Bool) (hu : X.A.units + 65 < cLine) : OpD X (compareOp (if neg then .NotIn else .In)) (inW neg) := by
  refine ⟨fun x y H Q => ∃ a b ds, Dp X.K H x a ∧ Dp X.K H y b ∧ itemsOf b = some ds ∧ (okD a && okD b) = true ∧ Q (.bl (if neg then !ds.any fun z => PyData.eqv z a else ds.any fun z => PyData.eqv z a)) H, ?_, fun Ex O H x y a b c Q hO h rx ry q => ?_⟩
  · intro pins s σ H x y v u Q I rx ry h
    obtain ⟨a, b, ds, h1, h2, hi, h3, q⟩ := h
    obtain ⟨⟨e3, e4⟩, e5, e6⟩ := okD_and h3
    obtain ⟨as, r1⟩ := Dp.reads I a x v h1 rx
    obtain ⟨bs, r2⟩ := Dp.reads I b y u h2 ry
    have p1 := canLay_plain e4
    have p2 := canLay_plain e6
    have fin : EP X pins σ Q (.bool (if neg then !ds.any fun z => PyData.eqv z a else ds.any fun z => PyData.eqv z a)) s := ⟨.bl _, H, I, rfl, q⟩
    cases b with
    | list l =>
      cases hi
      cases neg with
      | false => exact SeqAt.in_list_data r2 r1 p2 p1 (room_in_shaped e4 hu) fin
      | true => exact SeqAt.notIn_list_data r2 r1 p2 p1 (room_in_shaped e4 hu) fin
    | tuple l =>
      cases hi
      cases neg with
      | false => exact SeqAt.in_tuple_data r2 r1 p2 p1 (room_in_shaped e4 hu) fin
      | true => exact SeqAt.notIn_tuple_data r2 r1 p2 p1 (room_in_shaped e4 hu) fin
    | _ => cases hi
  · unfold inW at h
    split at h
    · rename_i ds hi
      split at h
      · rename_i z
        cases h
        obtain ⟨⟨e3, _⟩, e5, _⟩ := okD_and z
        exact ⟨a, b, ds, rx.dp e3, ry.dp e5, hi, z, q H _ (fun _ _ e => e) (.bl _)⟩
      · cases h
    · cases h
theorem od_in (hu : X.A.units + 65 < cLine) : OpD X (compareOp .In) (inW false) := opd_in false hu
theorem od_notin (hu : X.A.units + 65 < cLine) : OpD X (compareOp .NotIn) (inW true) := opd_in true hu

/-! ### x[i] -/
def ixW : W → W → Option W := fun a b => match a, b with
  | .list ds, .int i => atI ds i
  | .tuple ds, .int i => atI ds i
  | .str z, .int i => if z.length ≤ sizeLine then (atI z.cps.toList i).map (fun c => .str ⟨#[c]⟩) else none
  | _, _ => none
theorem d_ix {Y : Yx} {pa pb : Bool} {a b : Expr} {pos : Pos} {ma mb : M W} (ha : DE X Y pa a ma) (hb : DE X Y pb b mb) (hs : PlainIx b) : DE X Y (pa && pb) (.Subscript a b pos) (mBin ixW ma mb) := by
  refine ⟨pe_weak (pe_ix ((ix_list.or ix_tup).or ix_str) ha.pe hb.pe hs) (t_bin (f := fun _ _ => pure .none) fun Ex O H x y u k c Q hO h rx ry q => ?_)⟩
  unfold ixW at h
  split at h
  · rename_i ds i
    cases rp_int ry
    cases rx with
    | lst l r =>
      obtain ⟨v, ev, rv⟩ := r.atI h
      exact .inl (.inl ⟨_, _, i, v, rfl, rfl, l.sq, ev, q H v (fun _ _ e => e) rv⟩)
  · rename_i ds i
    cases rp_int ry
    cases rx with
    | tup l r =>
      obtain ⟨v, ev, rv⟩ := r.atI h
      exact .inl (.inr ⟨_, _, i, v, rfl, rfl, l.sq, ev, q H v (fun _ _ e => e) rv⟩)
  · rename_i z i
    split at h
    · rename_i hz
      cases rp_int ry
      cases rp_str rx
      cases e : atI z.cps.toList i with
      | none => rw [e] at h; cases h
      | some ch =>
        rw [e] at h
        cases h
        exact .inr ⟨z, i, ch, rfl, rfl, hz, e, q H _ (fun _ _ e => e) (.str _)⟩
    · cases h
  · cases h
end
end Qd
end
section
set_option Elab.async false
set_option linter.all false
set_option maxRecDepth 100000
set_option maxHeartbeats 1000000
/-! Slices, built-in calls, isinstance. -/
namespace Qd
open PySem PySem.Spec PyProof.Rows L2

/-! ### x[lo:hi] -/
abbrev MO := SD → Out (Option Int)
def tO (X : Cx) (Y : Yx) (pu : Bool) (m : MO) : TO := fun σ H Q => ∃ Oc d, RS X.K Y.Ex Oc H d σ ∧ Po X Y pu Oc σ d H (m d) fun b d' H' => RS X.K Y.Ex Oc H' d' σ → Q b H'
structure DO (X : Cx) (Y : Yx) (pu : Bool) (e : Option Expr) (m : MO) : Prop where
  po : ∃ t, PO X e t ∧ ∀ σ H Q, tO X Y pu m σ H Q → t σ H Q
def mNoPart : MO := fun d => .ok none d
def asI : W → Option Int
  | .int i => some i
  | _ => none
def mPart (m : M W) : MO := fun d => (m d).bind fun w d1 => (ofOpt (asI w) d1).bind fun i d1 => .ok (some i) d1
section
variable {X : Cx} {Y : Yx}
theorem do_none : DO X Y true none mNoPart := ⟨_, po_none, fun σ H Q h => by
  obtain ⟨Oc, d, rs, h⟩ := h
  exact h H (.refl rs) rs⟩
theorem do_some {pu : Bool} {e : Expr} {m : M W} (h : DE X Y pu e m) : DO X Y pu (some e) (mPart m) := ⟨_, po_some h.pe, fun σ H Q h => by
  obtain ⟨Oc, d, rs, h⟩ := h
  refine ⟨Oc, d, rs, (Po.bind1 h).imp fun w d1 H1 g1 h1 v r => ?_⟩
  cases w with
  | int i => cases rp_int r; exact ⟨i, rfl, h1 H1 (.refl g1.rs) g1.rs⟩
  | _ => exact h1.elim⟩
def cutA {α : Type} (xs : List α) (lo hi : Option Int) : List α := (xs.drop (HT.sIx xs.length 0 lo)).take (HT.sIx xs.length xs.length hi - HT.sIx xs.length 0 lo)
theorem RpA.cut {K : PySem.W.Frag} {Ex : Addr → Nat → Prop} {O : Addr → Prop} {H : Hp} {vs : List V} {ws : List W} (lo hi : Option Int) (r : RpA K Ex O H vs ws) : RpA K Ex O H (cutV vs lo hi) (cutA ws lo hi) := by
  unfold cutV cutA
  rw [r.length]
  exact (r.drop _).take _
def slW (u : W) (lo hi : Option Int) : Option W := match u with
  | .list ds => some (.list (cutA ds lo hi))
  | .tuple ds => some (.tuple (cutA ds lo hi))
  | .str z => if z.length ≤ sizeLine then some (.str (cutS z lo hi)) else none
  | _ => none
def mSl (a : M W) (lo hi : MO) : M W := fun d => (a d).bind fun u d1 => (lo d1).bind fun l d2 => (hi d2).bind fun h d3 => ofOpt (slW u l h) d3
theorem cutA_all {α : Type} {xs : List α} {lo hi : Option Int} (h1 : HT.sIx xs.length 0 lo = 0) (h2 : HT.sIx xs.length xs.length hi = xs.length) : cutA xs lo hi = xs := by
  unfold cutA
  rw [h1, h2, List.drop_zero, Nat.sub_zero, List.take_length]
theorem d_slice {pa pl ph : Bool} {e : Expr} {lo hi : Option Expr} {p2 pos : Pos} {a : M W} {ml mh : MO} (ha : DE X Y pa e a) (hl : DO X Y pl lo ml) (hh : DO X Y ph hi mh) : DE X Y (pa && (pl && ph)) (.Subscript e (.Slice lo hi none p2) pos) (mSl a ml mh) := by
  obtain ⟨tl, hpl, wl⟩ := hl.po
  obtain ⟨th, hph, wh⟩ := hh.po
  refine ⟨pe_weak (pe_slice ((sl_list.or sl_tupA).or sl_str) ha.pe hpl hph) fun σ H Q h => ?_⟩
  obtain ⟨Oc, d, rs, h⟩ := h
  refine ⟨Oc, d, rs, (Po.bind h).imp fun u d1 H1 g1 h1 v rv => wl _ _ _ ⟨Oc, d1, g1.rs, (Po.bind h1).imp fun l d2 H2 g2 h2 _ => wh _ _ _ ⟨Oc, d2, g2.rs, (Po.bind1 h2).imp fun hh d3 H3 g3 h3 _ => ?_⟩⟩⟩
  obtain ⟨c, ec, k⟩ := Po.opt h3
  have rv3 := (g2.trans g3).rp rv
  unfold slW at ec
  split at ec
  · rename_i ds
    cases ec
    cases rv3 with
    | lst l r =>
      refine .inl (.inl ⟨_, _, rfl, l.sq, fun p np => ?_⟩)
      obtain ⟨sm, rp⟩ := rp_newLst (fun b hb => g3.rs.there (a := b) hb) np (r.cut _ _)
      exact k _ (.same g3.rs sm) _ rp
  · rename_i ds
    cases ec
    cases rv3 with
    | tup l r =>
      refine .inl (.inr ⟨_, _, rfl, l.sq, fun ⟨e1, e2⟩ => ?_, fun _ p np => ?_⟩)
      · rw [r.length] at e1 e2
        exact k _ (.refl g3.rs) _ (by rw [cutA_all e1 e2]; exact .tup l r)
      · obtain ⟨sm, rp⟩ := rp_newTup (fun b hb => g3.rs.there (a := b) hb) np (r.cut _ _)
        exact k _ (.same g3.rs sm) _ rp
  · rename_i z
    split at ec
    · rename_i hz
      cases ec
      cases rp_str rv3
      exact .inr ⟨z, rfl, hz, k _ (.refl g3.rs) _ (.str _)⟩
    · cases ec
  · cases ec
/-- a new list, nobody else's -/
def mSlF (a : M W) (lo hi : MO) : M W := fun d => (a d).bind fun u d1 => (lo d1).bind fun l d2 => (hi d2).bind fun h d3 => match u with
  | .list ds => .ok (.list (cutA ds l h)) d3
  | _ => .bad
theorem df_slice {pa pl ph : Bool} {e : Expr} {lo hi : Option Expr} {p2 pos : Pos} {a : M W} {ml mh : MO} (ha : DE X Y pa e a) (hl : DO X Y pl lo ml) (hh : DO X Y ph hi mh) : DF X Y (pa && (pl && ph)) (.Subscript e (.Slice lo hi none p2) pos) (mSlF a ml mh) := by
  obtain ⟨tl, hpl, wl⟩ := hl.po
  obtain ⟨th, hph, wh⟩ := hh.po
  refine ⟨pe_weak (pe_slice sl_list ha.pe hpl hph) fun σ H Q h => ?_⟩
  obtain ⟨Oc, d, rs, h⟩ := h
  refine ⟨Oc, d, rs, (Po.bind h).imp fun u d1 H1 g1 h1 v rv => wl _ _ _ ⟨Oc, d1, g1.rs, (Po.bind h1).imp fun l d2 H2 g2 h2 _ => wh _ _ _ ⟨Oc, d2, g2.rs, (Po.bind1 h2).imp fun hh d3 H3 g3 h3 _ => ?_⟩⟩⟩
  have rv3 := (g2.trans g3).rp rv
  split at h3
  · rename_i ds
    cases rv3 with
    | lst l r => exact ⟨_, _, rfl, l.sq, fun p np => h3 _ (.same g3.rs (same_new np)) p ((g1.trans (g2.trans g3)).free np) (g3.rs.withNew np) ⟨_, upd_same, (r.cut _ _).mono (ke_new np) fun _ _ z => z⟩⟩
  · exact h3.elim

/-! ### built-in calls -/
def lenW : List W → Option W
  | [.list ds] => some (.int ds.length)
  | [.tuple ds] => some (.int ds.length)
  | [.str z] => if z.length ≤ sizeLine then some (.int z.length) else none
  | _ => none
theorem cd_len : CallD X (.builtin "len") lenW := by
  refine ⟨_, CallR.or' call_len_seq call_len_str, fun Ex O H xs as c Q hO h ra q => ?_⟩
  unfold lenW at h
  split at h
  · cases h
    obtain ⟨v, rfl, r⟩ := rpA1 ra
    cases r with
    | lst l r => exact .inl ⟨_, _, rfl, .inl l.sq, q H _ (fun _ _ e => e) (by rw [r.length]; exact .int _)⟩
  · cases h
    obtain ⟨v, rfl, r⟩ := rpA1 ra
    cases r with
    | tup l r => exact .inl ⟨_, _, rfl, .inr l.sq, q H _ (fun _ _ e => e) (by rw [r.length]; exact .int _)⟩
  · split at h
    · rename_i z hz
      cases h
      obtain ⟨v, rfl, r⟩ := rpA1 ra
      cases rp_str r
      exact .inr ⟨z, rfl, hz, q H _ (fun _ _ e => e) (.int _)⟩
    · cases h
  · cases h
def absW : List W → Option W
  | [.int i] => some (.int (if i < 0 then -i else i))
  | _ => none
theorem cd_abs : CallD X (.builtin "abs") absW := by
  refine ⟨_, call_abs, fun Ex O H xs as c Q hO h ra q => ?_⟩
  unfold absW at h
  split at h
  · cases h
    obtain ⟨v, rfl, r⟩ := rpA1 ra
    cases rp_int r
    exact ⟨_, rfl, q H _ (fun _ _ e => e) (.int _)⟩
  · cases h
def intW : List W → Option W
  | [.int i] => some (.int i)
  | [.bool b] => some (.int (if b then 1 else 0))
  | _ => none
theorem cd_int : CallD X (.type "int") intW := by
  refine ⟨_, call_int1, fun Ex O H xs as c Q hO h ra q => ?_⟩
  unfold intW at h
  split at h
  · cases h
    obtain ⟨v, rfl, r⟩ := rpA1 ra
    cases rp_int r
    exact .inl ⟨_, rfl, q H _ (fun _ _ e => e) (.int _)⟩
  · cases h
    obtain ⟨v, rfl, r⟩ := rpA1 ra
    cases rp_bool r
    exact .inr ⟨_, rfl, q H _ (fun _ _ e => e) (.int _)⟩
  · cases h
def max2W : List W → Option W
  | [.int i, .int j] => some (.int (if j > i then j else i))
  | _ => none
def min2W : List W → Option W
  | [.int i, .int j] => some (.int (if j < i then j else i))
  | _ => none
theorem cd_max2 (hc : X.calm = true) : CallD X (.builtin "max") max2W := by
  refine ⟨_, call_max2 hc, fun Ex O H xs as c Q hO h ra q => ?_⟩
  unfold max2W at h
  split at h
  · cases h
    obtain ⟨v, u, rfl, r, r2⟩ := rpA2 ra
    cases rp_int r
    cases rp_int r2
    exact ⟨_, _, rfl, q H _ (fun _ _ e => e) (.int _)⟩
  · cases h
theorem cd_min2 (hc : X.calm = true) : CallD X (.builtin "min") min2W := by
  refine ⟨_, call_min2 hc, fun Ex O H xs as c Q hO h ra q => ?_⟩
  unfold min2W at h
  split at h
  · cases h
    obtain ⟨v, u, rfl, r, r2⟩ := rpA2 ra
    cases rp_int r
    cases rp_int r2
    exact ⟨_, _, rfl, q H _ (fun _ _ e => e) (.int _)⟩
  · cases h
/-- a list's ints -/
def intsOf : List W → Option (List Int)
  | [] => some []
  | .int i :: r => (intsOf r).map (i :: ·)
  | _ => none
theorem intsOf_some : ∀ {ws : List W} {ns : List Int}, intsOf ws = some ns → ws = ns.map PyData.int
  | [], _, h => by cases h; rfl
  | .int i :: r, ns, h => by
    unfold intsOf at h
    cases q : intsOf r with
    | none => rw [q] at h; cases h
    | some ms => rw [q] at h; cases h; rw [intsOf_some q]; rfl
  | .none :: _, _, h => by simp [intsOf] at h
  | .bool _ :: _, _, h => by simp [intsOf] at h
  | .str _ :: _, _, h => by simp [intsOf] at h
  | .list _ :: _, _, h => by simp [intsOf] at h
  | .tuple _ :: _, _, h => by simp [intsOf] at h
  | .dict _ :: _, _, h => by simp [intsOf] at h
theorem intsOf_map (ns : List Int) : intsOf (ns.map PyData.int) = some ns := by
  induction ns with
  | nil => rfl
  | cons n r ih => simp [intsOf, ih]
def sumW : List W → Option W
  | [.list ds] => (intsOf ds).map fun ns => .int ns.sum
  | [.tuple ds] => (intsOf ds).map fun ns => .int ns.sum
  | _ => none
theorem cr_sumA (hc : X.calm = true) : CallR X (.builtin "sum") (fun vs H Q => ∃ (a : Addr) (ns : List Int), vs = [V.ref a] ∧ (SqL X.K H a (ns.map V.int) ∨ SqT X.K H a (ns.map V.int)) ∧ Q (.int ns.sum) H) := by
  intro pins s σ H vs us Q I r h
  obtain ⟨a, ns, rfl, hs, q⟩ := h
  rcases hs with hs | hs
  · obtain ⟨its, rv, hl, _⟩ := I.list hs
    rw [Vals.ref1 r]
    exact sum_raw (I.ok.hd hc) hl.isList rv.ints fun h' tk t' hk => ⟨.int _, H, I.kept hk, ⟨_, rfl⟩, q⟩
  · obtain ⟨its, rv, hl, _⟩ := I.tuple hs
    rw [Vals.ref1 r]
    obtain ⟨xs, e⟩ := rv.ints.allInts.items
    have hn : numsOf (intItems xs).toList = ns := by rw [← e]; exact rv.ints.numsOf
    rw [nums_intItems] at hn
    rw [e] at hl
    refine PySem.W.ktm_sumG (I.ok.hd hc) hl fun h' tk t' hk => ?_
    rw [preSum_eq, List.take_of_length_le (by simp), hn]
    exact ⟨.int _, H, I.kept hk, ⟨_, rfl⟩, q⟩
theorem cd_sum (hc : X.calm = true) : CallD X (.builtin "sum") sumW := by
  refine ⟨_, cr_sumA hc, fun Ex O H xs as c Q hO h ra q => ?_⟩
  unfold sumW at h
  split at h
  · rename_i ds
    cases e : intsOf ds with
    | none => rw [e] at h; cases h
    | some ns =>
      rw [e] at h
      cases h
      obtain ⟨v, rfl, r⟩ := rpA1 ra
      rw [intsOf_some e] at r
      cases r with
      | lst l r => exact ⟨_, ns, rfl, .inl (by rw [← r.ints]; exact l.sq), q H _ (fun _ _ e => e) (.int _)⟩
  · rename_i ds
    cases e : intsOf ds with
    | none => rw [e] at h; cases h
    | some ns =>
      rw [e] at h
      cases h
      obtain ⟨v, rfl, r⟩ := rpA1 ra
      rw [intsOf_some e] at r
      cases r with
      | tup l r => exact ⟨_, ns, rfl, .inr (by rw [← r.ints]; exact l.sq), q H _ (fun _ _ e => e) (.int _)⟩
  · cases h

/-! ### least, greatest of a list, a tuple -/
def alikeB (ds : List W) : Bool := (ds.all fun x => ds.all fun y => PySem.W.alike x y) && ds.all fun x => !isNone x
theorem alikeB_of {ds : List W} (h : alikeB ds = true) : PySem.W.AlikeAll ds := by
  unfold alikeB at h
  rw [Bool.and_eq_true, List.all_eq_true, List.all_eq_true] at h
  refine ⟨fun x hx y hy => List.all_eq_true.mp (h.1 x hx) y hy, fun x hx e => ?_⟩
  have z := h.2 x hx
  subst e
  simp [isNone] at z
def bestW (k : W → List W → W) : List W → Option W
  | [u] => match itemsOf u with
    | some (x :: xs) => if (okD u && alikeB (x :: xs)) = true then some (k x xs) else none
    | _ => none
  | _ => none
theorem cr_best {f : String} {k : W → List W → W} (hu : X.A.units + 66 < cLine)
    (hl : ∀ {A : Around} {E : Value → Shared → Prop} {s : Shared} {l : Addr} {vs : Array Value} {x : W} {xs : List W} {as : List Addr} {Q : Value → Shared → Prop}, A.handled = none → s.heap.IsList l vs → ReadsAll s.heap vs.toList (x :: xs) as → PySem.W.AlikeAll (x :: xs) → A.units + 1 + PyData.depthAll (x :: xs) < cLine →
      (∀ (i : Nat) (v : Value) (h' : Heap) (tk : Nat) (bs : List Addr), vs[i]? = some v → Reads h' v (k x xs) bs → (∀ b o, s.heap.get? b = some o → h'.get? b = some o) → Q v { s with heap := h', toks := tk }) → wpAny (model X.prog X.w) A (call (.builtin f) [.ref l]) Q E s)
    (ht : ∀ {A : Around} {E : Value → Shared → Prop} {s : Shared} {l : Addr} {vs : Array Value} {x : W} {xs : List W} {as : List Addr} {Q : Value → Shared → Prop}, A.handled = none → s.heap.IsTuple l vs → ReadsAll s.heap vs.toList (x :: xs) as → PySem.W.AlikeAll (x :: xs) → A.units + 1 + PyData.depthAll (x :: xs) < cLine →
      (∀ (i : Nat) (v : Value) (h' : Heap) (tk : Nat) (bs : List Addr), vs[i]? = some v → Reads h' v (k x xs) bs → (∀ b o, s.heap.get? b = some o → h'.get? b = some o) → Q v { s with heap := h', toks := tk }) → wpAny (model X.prog X.w) A (call (.builtin f) [.ref l]) Q E s)
    (hk : ∀ x xs, k x xs ∈ x :: xs) (hc : X.calm = true) : CallR X (.builtin f) (fun vs H Q => ∃ a u ys x xs, vs = [.ref a] ∧ ((SqL X.K H a ys ∧ u = PyData.list (x :: xs)) ∨ (SqT X.K H a ys ∧ u = PyData.tuple (x :: xs))) ∧ DpAll X.K H ys (x :: xs) ∧ SeqAt.shaped u = true ∧ alikeB (x :: xs) = true ∧ ∀ (i : Nat) (y : V), ys[i]? = some y → (x :: xs)[i]? = some (k x xs) → Q y H) := by
  intro pins s σ H vs us Q I r h
  obtain ⟨a, u, ys, x, xs, rfl, hs, hd, hsh, hal, q⟩ := h
  have dep : X.A.units + 1 + PyData.depthAll (x :: xs) < cLine := by
    have z := SeqAt.depth_of_shaped hsh
    have e : u.depth = PyData.depthAll (x :: xs) + 1 := by rcases hs with ⟨_, e⟩ | ⟨_, e⟩ <;> rw [e] <;> simp only [PyData.depth]
    omega
  have pl : PyData.plainAll (x :: xs) = true := by
    have z := canLay_plain hsh
    rcases hs with ⟨_, e⟩ | ⟨_, e⟩ <;> (rw [e] at z; simpa only [PyData.plain] using z)
  have plm : ∀ (l : List W), PyData.plainAll l = true → ∀ y ∈ l, y.plain = true := fun l => by
    induction l with
    | nil => intro _ y hy; cases hy
    | cons z r ih =>
      intro hp y hy
      simp only [PyData.plainAll, Bool.and_eq_true] at hp
      rcases List.mem_cons.mp hy with e | hy
      · rw [e]; exact hp.1
      · exact ih hp.2 y hy
  cases r with
  | cons rx rr =>
    cases rr
    cases rx
    -- the items, and what the answer is
    have fin : ∀ {its : List Value} {as : List Addr}, Vals ys its → ReadsAll s.heap its (x :: xs) as → ∀ (i : Nat) (v : Value) (h' : Heap) (tk : Nat) (bs : List Addr), its.toArray[i]? = some v → Reads h' v (k x xs) bs → (∀ b o, s.heap.get? b = some o → h'.get? b = some o) → EP X pins σ Q v { s with heap := h', toks := tk } := fun {its as} rv ra i v h' tk bs e1 e2 kp => by
      have e1 : its[i]? = some v := by simpa using e1
      have lt : i < ys.length := by rw [rv.length]; exact (List.getElem?_eq_some_iff.mp e1).1
      obtain ⟨v', e3, rv'⟩ := rv.get (List.getElem?_eq_getElem lt)
      rw [e1] at e3; cases e3
      obtain ⟨bs2, e4, e5, e6, _⟩ := PySem.W.readsAll_at ra i v e1
      have e7 : (x :: xs).getD i .none = k x xs := by
        have z1 := SeqAt.readOf_plain (plm _ pl _ e6) (PySem.W.reads_keeps kp e4)
        have z2 := SeqAt.readOf_plain (plm _ pl _ (hk x xs)) e2
        rw [← z1, ← z2]
      refine ⟨ys[i], H, I.kept (t' := tk) kp, rv', q i _ (List.getElem?_eq_getElem lt) ?_⟩
      rw [List.getElem?_eq_getElem e5, ← e7, List.getD_eq_getElem?_getD, List.getElem?_eq_getElem e5]
      rfl
    rcases hs with ⟨hs, _⟩ | ⟨hs, _⟩
    · obtain ⟨its, rv, p, hz⟩ := I.list hs
      obtain ⟨as, ra⟩ := Dp.readsAll I (x :: xs) ys its hd rv
      exact hl (I.ok.hd hc) p.isList ra (alikeB_of hal) dep (fin rv ra)
    · obtain ⟨its, rv, p, hz⟩ := I.tuple hs
      obtain ⟨as, ra⟩ := Dp.readsAll I (x :: xs) ys its hd rv
      exact ht (I.ok.hd hc) (show s.heap.IsTuple a its.toArray from p) ra (alikeB_of hal) dep (fin rv ra)
theorem cd_best {f : String} {k : W → List W → W} (h : CallR X (.builtin f) (fun vs H Q => ∃ a u ys x xs, vs = [.ref a] ∧ ((SqL X.K H a ys ∧ u = PyData.list (x :: xs)) ∨ (SqT X.K H a ys ∧ u = PyData.tuple (x :: xs))) ∧ DpAll X.K H ys (x :: xs) ∧ SeqAt.shaped u = true ∧ alikeB (x :: xs) = true ∧ ∀ (i : Nat) (y : V), ys[i]? = some y → (x :: xs)[i]? = some (k x xs) → Q y H)) : CallD X (.builtin f) (bestW k) := by
  refine ⟨_, h, fun Ex O H vs as c Q hO e ra q => ?_⟩
  unfold bestW at e
  split at e
  · rename_i u
    split at e
    · rename_i x xs hi
      split at e
      · rename_i z
        cases e
        rw [Bool.and_eq_true] at z
        obtain ⟨z1, z2⟩ := z
        unfold okD at z1
        rw [Bool.and_eq_true] at z1
        obtain ⟨v, rfl, r⟩ := rpA1 ra
        cases u with
        | list ds =>
          cases hi
          cases r with
          | lst l r => exact ⟨_, _, _, x, xs, rfl, .inl ⟨l.sq, rfl⟩, r.dp (by simpa [noD] using z1.1), z1.2, z2, fun i y e1 e2 => by
              obtain ⟨w, e3, rw'⟩ := r.get' e1
              rw [e2] at e3; cases e3
              exact q H y (fun _ _ e => e) rw'⟩
        | tuple ds =>
          cases hi
          cases r with
          | tup l r => exact ⟨_, _, _, x, xs, rfl, .inr ⟨l.sq, rfl⟩, r.dp (by simpa [noD] using z1.1), z1.2, z2, fun i y e1 e2 => by
              obtain ⟨w, e3, rw'⟩ := r.get' e1
              rw [e2] at e3; cases e3
              exact q H y (fun _ _ e => e) rw'⟩
        | _ => cases hi
      · cases e
    · cases e
  · cases e
theorem minD_mem : ∀ (x : W) (xs : List W), PySem.W.minD x xs ∈ x :: xs := fun x xs => by
  unfold PySem.W.minD
  induction xs generalizing x with
  | nil => exact List.mem_cons_self
  | cons y r ih =>
    rw [List.foldl_cons]
    split
    · rcases List.mem_cons.mp (ih y) with e | e
      · rw [e]; exact List.mem_cons_of_mem _ List.mem_cons_self
      · exact List.mem_cons_of_mem _ (List.mem_cons_of_mem _ e)
    · rcases List.mem_cons.mp (ih x) with e | e
      · rw [e]; exact List.mem_cons_self
      · exact List.mem_cons_of_mem _ (List.mem_cons_of_mem _ e)
theorem maxD_mem : ∀ (x : W) (xs : List W), PySem.W.maxD x xs ∈ x :: xs := fun x xs => by
  unfold PySem.W.maxD
  induction xs generalizing x with
  | nil => exact List.mem_cons_self
  | cons y r ih =>
    rw [List.foldl_cons]
    split
    · rcases List.mem_cons.mp (ih y) with e | e
      · rw [e]; exact List.mem_cons_of_mem _ List.mem_cons_self
      · exact List.mem_cons_of_mem _ (List.mem_cons_of_mem _ e)
    · rcases List.mem_cons.mp (ih x) with e | e
      · rw [e]; exact List.mem_cons_self
      · exact List.mem_cons_of_mem _ (List.mem_cons_of_mem _ e)
abbrev minW := bestW PySem.W.minD
abbrev maxW := bestW PySem.W.maxD
theorem cd_min (hc : X.calm = true) (hu : X.A.units + 66 < cLine) : CallD X (.builtin "min") minW := cd_best (cr_best hu (fun a b c d e f => PySem.W.min_list_data a b c d e f) (fun a b c d e f => PySem.W.min_tuple_data a b c d e f) minD_mem hc)
theorem cd_max (hc : X.calm = true) (hu : X.A.units + 66 < cLine) : CallD X (.builtin "max") maxW := cd_best (cr_best hu (fun a b c d e f => PySem.W.max_list_data a b c d e f) (fun a b c d e f => PySem.W.max_tuple_data a b c d e f) maxD_mem hc)
/-- list(x), tuple(x) -/
def listW : List W → Option W
  | [.list ds] => some (.list ds)
  | [.tuple ds] => some (.list ds)
  | _ => none
def tupleW : List W → Option W
  | [.list ds] => some (.tuple ds)
  | [.tuple ds] => some (.tuple ds)
  | _ => none
theorem cd_list : CallD X (.type "list") listW := by
  refine ⟨_, call_list_of, fun Ex O H xs as c Q hO h ra q => ?_⟩
  unfold listW at h
  split at h
  · cases h
    obtain ⟨v, rfl, r⟩ := rpA1 ra
    cases r with
    | lst l r => exact ⟨_, _, rfl, .inl l.sq, fun p np => let ⟨sm, rp⟩ := rp_newLst hO np r; q _ _ sm rp⟩
  · cases h
    obtain ⟨v, rfl, r⟩ := rpA1 ra
    cases r with
    | tup l r => exact ⟨_, _, rfl, .inr l.sq, fun p np => let ⟨sm, rp⟩ := rp_newLst hO np r; q _ _ sm rp⟩
  · cases h
theorem cd_tuple : CallD X (.type "tuple") tupleW := by
  refine ⟨_, call_tuple_of, fun Ex O H xs as c Q hO h ra q => ?_⟩
  unfold tupleW at h
  split at h
  · cases h
    obtain ⟨v, rfl, r⟩ := rpA1 ra
    cases r with
    | lst l r => exact ⟨_, _, rfl, .inl ⟨l.sq, fun p np => let ⟨sm, rp⟩ := rp_newTup hO np r; q _ _ sm rp⟩⟩
  · cases h
    obtain ⟨v, rfl, r⟩ := rpA1 ra
    cases r with
    | tup l r => exact ⟨_, _, rfl, .inr ⟨l.sq, q _ _ (fun _ _ e => e) (.tup l r)⟩⟩
  · cases h

/-! ### isinstance(x, T) -/
def tyN : W → Option String
  | .none => some "NoneType"
  | .bool _ => some "bool"
  | .int _ => some "int"
  | .str _ => some "str"
  | .list _ => some "list"
  | .tuple _ => some "tuple"
  | .dict ds => match dkind ds with
    | some (false, _) => some "dict"
    | _ => none
theorem rp_ty {K : PySem.W.Frag} {Ex : Addr → Nat → Prop} {O : Addr → Prop} {H : Hp} {v : V} {w : W} {t : String} (r : Rp K Ex O H v w) (h : tyN w = some t) : TyX K H v (.type t) := by
  cases r with
  | non => cases h; exact .base .non
  | bl b => cases h; exact .base (.bl b)
  | int i => cases h; exact .base (.int i)
  | str x => cases h; exact .base (.str x)
  | lst l r =>
    cases h
    rcases l.sq with (e | ⟨_, e⟩) | ⟨o, its, n, hk, hc, _⟩
    · exact .base (.lst e)
    · exact .base (.frz e)
    · exact .kList hk hc
  | tup l r =>
    cases h
    rcases l.sq with (e | ⟨_, e⟩) | ⟨o, its, n, hk, hc, _⟩
    · exact .base (.tup e)
    · exact .fTuple e
    · exact .kTuple hk hc
  | dK n e r =>
    unfold tyN at h
    dsimp only at h
    rw [dkind_K r] at h
    cases h
    rcases e with e | ⟨_, e⟩
    · exact .base (.dK e)
    · exact .fDict e
  | dT n e r => simp [tyN, dkind] at h
  | exc z => simp [tyN, dkind] at h
def isiW (T : String) (w : W) : Option W := match tyN w with
  | some t => (kitB t T).map .bool
  | none => none
theorem d_isi {Y : Yx} {pu : Bool} {e : Expr} {x : Str} {T : String} {p q pos : Pos} {m : M W} (he : DE X Y pu e m) (hm : X.mg "isinstance" = none) (hmT : X.mg x = none) (hT : bootBuiltins x = some (.type T)) (hg : Gl X "isinstance" := by rfl) (hgx : Gl X x := by rfl) (hn : x ≠ "__name__" := by decide)
    (hdb : (x == ("__debug__" : Str)) = false := by decide) (h1 : starEach [e, .Name x q] X.env = (false, eval e X.env) :: starEach [.Name x q] X.env := by rfl) (h2 : starEach [.Name x q] X.env = (false, eval (.Name x q) X.env) :: starEach [] X.env := by rfl) (hpl : (backTo pos (starEach [.Name x q] X.env)).any (·.1) = false := by rfl) :
    DE X Y pu (.Call (.Name "isinstance" p) [e, .Name x q] [] pos) (mUn (isiW T) m) := by
  refine ⟨pe_weak (pe_callB call_isi hg hm boot_isinstance (pa_cons he.pe (pa_cons (pe_bltn (v := .ty T) hgx hmT hT rfl hn hdb) pa_nil h2) h1) (by decide) (by decide) h1 hpl) fun σ H Q h => ?_⟩
  obtain ⟨Oc, d, rs, h⟩ := h
  refine ⟨Oc, d, rs, (Po.bind1 h).imp fun w d1 H1 g1 h1 v r => ?_⟩
  obtain ⟨c, ec, k⟩ := Po.opt h1
  unfold isiW at ec
  cases e1 : tyN w with
  | none => rw [e1] at ec; cases ec
  | some t =>
    rw [e1] at ec
    dsimp only at ec
    cases e2 : kitB t T with
    | none => rw [e2] at ec; cases ec
    | some b =>
      rw [e2] at ec
      cases ec
      exact ⟨v, .ty T, .type t, .type T, b, rfl, .ty T, rp_ty r e1, kit_ty e2, k H1 (.refl g1.rs) _ (.bl b)⟩
end
end Qd
end
section
set_option Elab.async false
set_option linter.all false
set_option maxRecDepth 100000
set_option maxHeartbeats 1000000
/-! Unpacking an own list, augmented assignment, methods of values, new lists. -/
namespace Qd
open PySem PySem.Spec PyProof.Rows L2

/-- a, b, .. = x, x an own list -/
def mUnpOwn (i n : Nat) (g : GWs) : MS := fun d => match mineAt i d with
  | some (.list ws) => if ws.length = n then sOpt (g ws d) else .bad
  | _ => .bad
section
variable {X : Cx} {Y : Yx}
theorem ds_unpOwn {es : List Expr} {k i n : Nat} {y : Str} {p pos pos' : Pos} {g : GWs} {is : List Nat} (hc : X.calm = true) (h : DGs X Y es g is) (hN : X.N[i]? = some y := by rfl) (hv : Vis X.env.scope y := by first | exact Or.inl rfl | exact Or.inr (Or.inl rfl) | exact Or.inr (Or.inr rfl)) (hd : (y == ("__debug__" : Str)) = false := by decide)
    (hcd : (y == ("__classdict__" : Str)) = false := by decide) (hn : (assignEach es X.env).length = n := by rfl) (hst : (assignEach es X.env).findIdx? (·.1) = none := by rfl)
    (hs : swapsWithSole [.Tuple es k pos'] (.Name y p) pos.line X.env = pure false := by rfl) (hw : swappedStores [.Tuple es k pos'] (.Name y p) X.env = pure none := by rfl) (h1 : (assignEach [.Tuple es k pos'] X.env).map (·.2) = [assign (.Tuple es k pos') X.env] := by rfl) :
    DS X Y (.Assign [.Tuple es k pos'] (.Name y p) pos) (mUnpOwn i n g) := by
  refine ⟨ps_weak (ps_asg (pe_var hN hv hd hcd) (pg_lst hc h.pg hn hst) hs hw h1) fun D σ H h => ?_⟩
  obtain ⟨Oc, d, rs, h⟩ := h
  unfold mUnpOwn at h
  split at h
  · rename_i ws q0
    split at h
    · rename_i hl
      obtain ⟨s0, f1, f2⟩ := mineAt_some q0
      obtain ⟨a, ea, _, ys, eH, r⟩ := rs.own i s0 _ f1 f2
      cases q1 : g ws d with
      | none => rw [q1] at h; exact h.elim
      | some d' =>
        rw [q1] at h
        exact ⟨_, ea, a, ys, rfl, .inl (.inl eH), by rw [r.length]; exact hl, Oc, d, ws, d', rs, r, q1, fun σ' g _ => h σ' H g⟩
    · exact h.elim
  · exact h.elim
/-- x op= e -/
def mAug (g : W → W → Option W) (i : Nat) (m : M W) : MS := fun d => (mVar i d).toS fun x d0 => (m d0).toS fun y d1 => match g x y with
  | some z => sOpt (store i z d1)
  | none => .bad
theorem ds_aug {pu : Bool} {i : Nat} {x : Str} {e : Expr} {op : Operator} {g : W → W → Option W} {m : M W} {pos pos' : Pos} (hN : X.N.Nodup) (he : DE X Y pu e m) (ho : OpD X (inplaceOp op) g) (hi : X.N[i]? = some x := by rfl) (hx : Loc X.env.scope x := by first | exact .inl rfl | exact .inr rfl)
    (hf : X.fn x = true ∨ X.env.scope.names.lookup x = some .local := by first | exact .inl rfl | exact .inr rfl | assumption) : DS X Y (.AugAssign (.Name x pos') op e pos) (mAug g i m) := by
  obtain ⟨r, hr, hd⟩ := ho
  refine ⟨ps_weak (ps_aug hN hi hx he.pe (ti := r) hr hf) fun D σ H h => ?_⟩
  obtain ⟨Oc, d, rs, h⟩ := h
  unfold mAug mVar at h
  split at h
  · rename_i w ew
    obtain ⟨v, ev, rv⟩ := rs.val i w ew
    refine ⟨v, ev, Oc, d, rs, (Po.toS (p := pu) (show PoS X Y Oc d σ H ((m d).toS _) D from h)).imp fun y d1 H1 g1 h1 yv ry => ?_⟩
    cases q : g w y with
    | none => rw [q] at h1; exact h1.elim
    | some z =>
      rw [q] at h1
      refine hd Y.Ex (Ow Oc d1 σ) H1 v yv w y z _ (fun p hp => g1.rs.there hp) q (g1.rp rv) ry fun H' zv sm rz => ?_
      have rs2 := g1.rs.same sm
      cases q2 : store i z d1 with
      | none => dsimp only at h1; rw [q2] at h1; exact h1.elim
      | some d2 =>
        dsimp only at h1
        rw [q2] at h1
        exact h1 _ _ ((GoS.trans (Go.same (pu := true) g1.rs sm).toS (store_go rs2 rz q2)))
  · exact h.elim
theorem opd_ipI {op : Operator} {f : Int → Int → Int} (h : PIp X op (ipI f)) : OpD X (inplaceOp op) (i2 (fun _ _ => true) f) := by
  refine ⟨_, h, fun Ex O H x y a b c Q hO e rx ry q => ?_⟩
  obtain ⟨i, j, rfl, rfl, _, rfl⟩ := i2_some e
  cases rp_int rx
  cases rp_int ry
  exact ⟨i, j, rfl, rfl, q H _ (fun _ _ e => e) (.int _)⟩
theorem od_iadd : OpD X (inplaceOp .Add) (i2 (fun _ _ => true) fun i j => i + j) := opd_ipI ip_add
theorem od_isub : OpD X (inplaceOp .Sub) (i2 (fun _ _ => true) fun i j => i - j) := opd_ipI ip_sub

/-! ### methods of values -/
def MetV (X : Cx) (id : String) (g : W → List W → Option W) : Prop :=
  ∃ r, MtR X id r ∧ ∀ (Ex : Addr → Nat → Prop) (O : Addr → Prop) (H : Hp) (x : V) (u : W) (xs : List V) (as : List W) (c : W) (Q : VK), (∀ q, O q → ∃ o, H q = some o) → g u as = some c → Rp X.K Ex O H x u → RpA X.K Ex O H xs as →
    (∀ H' v, Same H H' → Rp X.K Ex O H' v c → Q v H') → r x xs H Q
def isDict : W → Bool
  | .dict _ => true
  | _ => false
def mMetV (T : String) (g : W → List W → Option W) (a : M W) (as : M (List W)) : M W := fun d => (a d).bind fun u d1 => if tyW u = T ∧ isDict u = false then (as d1).bind fun ws d2 => ofOpt (g u ws) d2 else .bad
theorem d_metV {pa pu : Bool} {T id : String} {name : Str} {g : W → List W → Option W} {o e : Expr} {es : List Expr} {a : M W} {as : M (List W)} {apos cpos : Pos} (pla : PlainAttrs T) (slot : PySem.Slot T name id) (hty : typeOf (.builtin id) = pure (.type "method_descriptor")) (hm : MetV X id g) (hT : T ≠ "") (ho : DE X Y pa o a) (ha : DL X Y pu (e :: es) as)
    (hbase : attributeBase o name X.env (eval o X.env) = eval o X.env := by rfl)
    (hfew : ((backTo cpos (starEach (e :: es) X.env)).all (fun x => !x.1) && (backToKw cpos (keywordEach [] X.env)).all (fun x => x.1.isSome) && decide ((e :: es).length + ([] : List Keyword).length + (if ([] : List Keyword).isEmpty then 0 else 1) < 30)) = true := by rfl)
    (hline : (apos.endLine == cpos.line) = true := by rfl) (hs : starEach (e :: es) X.env = (false, eval e X.env) :: starEach es X.env := by rfl) (hplain : (backTo cpos (starEach es X.env)).any (·.1) = false := by rfl) :
    DE X Y (pa && pu) (.Call (.Attribute o name apos) (e :: es) [] cpos) (mMetV T g a as) := by
  obtain ⟨r, hr, hd⟩ := hm
  refine ⟨pe_weak (pe_bm pla slot hty hr ho.pe ha.pa hbase hfew hline hs hplain) fun σ H Q h => ?_⟩
  obtain ⟨Oc, d, rs, h⟩ := h
  refine ⟨Oc, d, rs, (Po.bind h).imp fun u d1 H1 g1 h1 x rx => ?_⟩
  split at h1
  · rename_i ht
    refine ⟨rx.tyV ht.1 (fun ds e => by rw [e] at ht; exact Bool.noConfusion (ht.2 : true = false)) hT, Oc, d1, g1.rs, (Po.bind1 h1).imp fun ws d2 H2 g2 h2 xs ra => ?_⟩
    obtain ⟨c, ec, k⟩ := Po.opt h2
    exact hd Y.Ex (Ow Oc d2 σ) H2 x u xs ws c Q (fun p hp => g2.rs.there hp) ec (g2.rp rx) ra fun H' v sm rv => k H' (.same g2.rs sm) v rv
  · exact h1.elim
/-- l.index(x): the first place -/
def indexW : W → List W → Option W := fun u as => match u, as with
  | .list ds, [w] => if (okD u && okD w) = true then (match ds.findIdx? fun z => PyData.eqv z w with
    | some j => some (.int j)
    | none => none) else none
  | _, _ => none
theorem mv_index (hu : X.A.units + 65 < cLine) : MetV X "list.index" indexW := by
  refine ⟨_, mt_indexD hu, fun Ex O H x u xs as c Q hO h rx ra q => ?_⟩
  unfold indexW at h
  split at h
  · rename_i ds w
    split at h
    · rename_i z
      obtain ⟨⟨e3, e4⟩, e5, e6⟩ := okD_and z
      split at h
      · rename_i j hj
        cases h
        obtain ⟨v, rfl, rv⟩ := rpA1 ra
        obtain ⟨hlt, h1, h2⟩ := List.findIdx?_eq_some_iff_getElem.mp hj
        have dp := rx.dp e3
        cases rx with
        | lst l r =>
          refine ⟨_, v, w, ds, j, ds[j], rfl, rfl, dp, rv.dp e5, e4, e6, List.getElem?_eq_getElem hlt, h1, fun m z' hm e => ?_, q H _ (fun _ _ e => e) (.int _)⟩
          have hm' : m < ds.length := Nat.lt_trans hm hlt
          rw [List.getElem?_eq_getElem hm'] at e
          cases e
          simpa using h2 m hm
      · cases h
    · cases h
  · cases h
def countW : W → List W → Option W := fun u as => match u, as with
  | .list ds, [w] => if (okD u && okD w) = true then some (.int (ds.countP fun z => PyData.eqv z w : Nat)) else none
  | _, _ => none
theorem mv_count (hu : X.A.units + 65 < cLine) : MetV X "list.count" countW := by
  refine ⟨fun x xs H Q => ∃ a y d ds, x = V.ref a ∧ xs = [y] ∧ Dp X.K H (V.ref a) (.list ds) ∧ Dp X.K H y d ∧ SeqAt.shaped (.list ds) = true ∧ SeqAt.shaped d = true ∧ Q (.int (ds.countP fun z => PyData.eqv z d : Nat)) H, ?_, fun Ex O H x u xs as c Q hO h rx ra q => ?_⟩
  · intro pins s σ H x xs v us Q I rx rxs h
    obtain ⟨a, y, d, ds, rfl, rfl, hl, hy, sl, sd, q⟩ := h
    cases rx
    cases rxs with
    | cons ry rt =>
      cases rt
      obtain ⟨bs, r1⟩ := Dp.reads I d y _ hy ry
      cases hl with
      | lst hs ha =>
        obtain ⟨its, rv, p, hz⟩ := I.list hs
        obtain ⟨as, r2⟩ := Dp.readsAll I ds _ its ha rv
        have pl : PyData.plainAll ds = true := by simpa only [PyData.plain] using canLay_plain sl
        exact SeqAt.count_list_data p.isList r2 r1 pl (canLay_plain sd) (room_in_shaped sd hu) ⟨.int _, H, I.tok _, ⟨_, rfl⟩, q⟩
  · unfold countW at h
    split at h
    · rename_i ds w
      split at h
      · rename_i z
        cases h
        obtain ⟨⟨e3, e4⟩, e5, e6⟩ := okD_and z
        obtain ⟨v, rfl, rv⟩ := rpA1 ra
        have dp := rx.dp e3
        cases rx with
        | lst l r => exact ⟨_, v, w, ds, rfl, rfl, dp, rv.dp e5, e4, e6, q H _ (fun _ _ e => e) (.int _)⟩
      · cases h
    · cases h

/-! ### new lists, nobody else's -/
def mCatF (a b : M W) : M W := fun d => (a d).bind fun x d1 => (b d1).bind fun y d2 => match x, y with
  | .list xs, .list ys => if xs.length + ys.length ≤ sizeLine then .ok (.list (xs ++ ys)) d2 else .bad
  | _, _ => .bad
theorem df_cat {pa pb : Bool} {a b : Expr} {pos : Pos} {ma mb : M W} (ha : DE X Y pa a ma) (hb : DE X Y pb b mb) : DF X Y (pa && pb) (.BinOp a .Add b pos) (mCatF ma mb) := by
  refine ⟨pe_weak (pe_op op_catL ha.pe hb.pe) fun σ H Q h => ?_⟩
  obtain ⟨Oc, d, rs, h⟩ := h
  refine ⟨Oc, d, rs, (Po.bind h).imp fun w d1 H1 g1 h1 v r1 => ⟨Oc, d1, g1.rs, (Po.bind1 h1).imp fun w2 d2 H2 g2 h2 v2 r2 => ?_⟩⟩
  have r1' := g2.rp r1
  split at h2
  · rename_i xs ys
    split at h2
    · rename_i hl
      cases r1' with
      | lst l ra =>
        cases r2 with
        | lst l2 rb =>
          exact ⟨_, _, _, _, rfl, rfl, l.sq, l2.sq, by rw [ra.length, rb.length]; exact hl, fun p np => h2 _ (.same g2.rs (same_new np)) p ((g1.trans g2).free np) (g2.rs.withNew np) ⟨_, upd_same, (ra.append rb).mono (ke_new np) fun _ _ z => z⟩⟩
    · exact h2.elim
  · exact h2.elim
def mListF (a : M (List W)) : M W := fun d => (a d).bind fun ws d1 => match listW ws with
  | some w => .ok w d1
  | none => .bad
theorem df_list {pu : Bool} {e : Expr} {p pos : Pos} {as : M (List W)} (hm : X.mg "list" = none) (ha : DL X Y pu [e] as) (hg : Gl X "list" := by rfl) (he : starEach [e] X.env = (false, eval e X.env) :: starEach [] X.env := by rfl) : DF X Y pu (.Call (.Name "list" p) [e] [] pos) (mListF as) := by
  refine ⟨pe_weak (pe_callTy call_list_of hg hm (by decide +kernel) ha.pa (by decide) (by decide) he rfl) fun σ H Q h => ?_⟩
  obtain ⟨Oc, d, rs, h⟩ := h
  refine ⟨Oc, d, rs, (Po.bind1 h).imp fun ws d1 H1 g1 h1 vs ra => ?_⟩
  cases q : listW ws with
  | none => rw [q] at h1; exact h1.elim
  | some w =>
    rw [q] at h1
    unfold listW at q
    split at q
    · cases q
      obtain ⟨v, rfl, r⟩ := rpA1 ra
      cases r with
      | lst l r => exact ⟨_, _, rfl, .inl l.sq, fun p np => h1 _ (.same g1.rs (same_new np)) p (g1.free np) (g1.rs.withNew np) ⟨_, upd_same, r.mono (ke_new np) fun _ _ z => z⟩⟩
    · cases q
      obtain ⟨v, rfl, r⟩ := rpA1 ra
      cases r with
      | tup l r => exact ⟨_, _, rfl, .inr l.sq, fun p np => h1 _ (.same g1.rs (same_new np)) p (g1.free np) (g1.rs.withNew np) ⟨_, upd_same, r.mono (ke_new np) fun _ _ z => z⟩⟩
    · cases q
/-- return of an own object -/
def mRetF (m : M W) : MS := fun d => (m d).toS fun w d1 => .ret (.own w) d1
theorem ds_retOwn {pu : Bool} {e : Expr} {pos : Pos} {m : M W} (he : DF X Y pu e m) : DS X Y (.Return (some e) pos) (mRetF m) := ⟨ps_weak (ps_ret he.pe) fun D σ H h => by
  obtain ⟨Oc, d, rs, h⟩ := h
  refine ⟨Oc, d, rs, ?_⟩
  unfold mRetF at h
  cases q : m d with
  | bad => rw [q] at h; exact h
  | exc c d1 => rw [q] at h; exact fun H1 g1 => h σ H1 g1.toS
  | ok w d1 => rw [q] at h; exact fun H1 g1 p np rsp ob => h σ H1 p g1.toS (.inl np) rsp ob⟩
/-- return x, x an own object: it is the caller's now -/
def mRetOwn (i : Nat) : MS := fun d => match d[i]? with
  | some (some (.own w)) => .ret (.own w) (d.set i none)
  | _ => .bad
theorem ds_retMine {i : Nat} {y : Str} {p pos : Pos} (hN : X.N[i]? = some y := by rfl) (hv : Vis X.env.scope y := by first | exact Or.inl rfl | exact Or.inr (Or.inl rfl) | exact Or.inr (Or.inr rfl)) (hd : (y == ("__debug__" : Str)) = false := by decide) (hcd : (y == ("__classdict__" : Str)) = false := by decide) :
    DS X Y (.Return (some (.Name y p)) pos) (mRetOwn i) := ⟨ps_weak (ps_ret (pe_var hN hv hd hcd)) fun D σ H h => by
  obtain ⟨Oc, d, rs, h⟩ := h
  unfold mRetOwn at h
  split at h
  · rename_i w e
    obtain ⟨a, ea, na, ob⟩ := rs.own i _ w e rfl
    refine ⟨_, ea, ?_⟩
    have lt : i < d.length := (List.getElem?_eq_some_iff.mp e).1
    have up : ∀ {j : Nat} {s : Slot}, (d.set i none)[j]? = some (some s) → i ≠ j ∧ d[j]? = some (some s) := fun {j s} f => by
      by_cases ej : i = j
      · subst ej; rw [List.getElem?_set_self lt] at f; cases f
      · rw [List.getElem?_set_ne ej] at f; exact ⟨ej, f⟩
    have mn : ∀ {b : Addr}, Mine (d.set i none) σ b → Mine d σ b ∧ b ≠ a := fun {b} ⟨j, s, u, h1, h2, h3⟩ => by
      obtain ⟨ej, h1⟩ := up h1
      exact ⟨⟨j, s, u, h1, h2, h3⟩, fun z => rs.sep i j _ s w u a ej e rfl h1 h2 ea (by rw [h3, z])⟩
    have ow : ∀ {b : Addr}, Ow (With Oc a) (d.set i none) σ b → Ow Oc d σ b := fun {b} z => by
      rcases z with (z | z) | z
      · exact .inl z
      · exact .inr ⟨i, _, w, e, rfl, by rw [z]; exact ea⟩
      · exact .inr (mn z).1
    have ke : ∀ {O : Addr → Prop}, (∀ b, O b → Ow Oc d σ b) → Ke (Ow Oc d σ) H O H := fun ho b u n e => ⟨fun z => n (ho b z), e⟩
    have rs1 : ∀ {O : Addr → Prop}, (∀ b, Ow O (d.set i none) σ b → Ow Oc d σ b) → (∀ b, O b → b = a ∨ Oc b) → Thr Y.Ex O H → RS X.K Y.Ex O H (d.set i none) σ := fun {O} ho h1 h2 => ⟨by rw [List.length_set]; exact rs.len, fun j u f => by
        obtain ⟨v, e1, r⟩ := rs.val j u (up f).2
        exact ⟨v, e1, r.mono (ke ho) fun _ _ z => z⟩, fun j s u f1 f2 => by
        obtain ⟨ej, f1⟩ := up f1
        obtain ⟨q, e1, nq, o⟩ := rs.own j s u f1 f2
        exact ⟨q, e1, fun z => (h1 q z).elim (fun z => rs.sep i j _ s w u a ej e rfl f1 f2 ea (by rw [e1, z])) nq, o.mono (ke ho) (fun _ _ z => z) rfl⟩, fun j k s t u u' q ne f1 f2 f3 f4 f5 => rs.sep j k s t u u' q ne (up f1).2 f2 (up f3).2 f4 f5, h2⟩
    have owO : ∀ {b : Addr}, Ow Oc (d.set i none) σ b → Ow Oc d σ b := fun {b} z => z.imp id fun z => (mn z).1
    have g : GoS X.K Y.Ex Oc d σ H (d.set i none) σ H := ⟨rs1 (fun b z => owO z) (fun b z => .inr z) rs.oc, fun _ _ e _ => e, fun b z => .inl (mn z).1, fun j u f => by
      by_cases ej : i = j
      · subst ej; rw [e] at f; cases f
      · exact ⟨⟨u, by rw [List.getElem?_set_ne ej]; exact f⟩, rfl⟩⟩
    exact h σ H a g (.inr ⟨i, _, w, e, rfl, ea⟩) (rs1 (fun b z => ow z) (fun b z => z.symm) ⟨fun b z => z.elim (rs.oc.at_ b) fun z => by rw [z]; exact ob.at, fun b hb => ⟨(rs.oc.tb b hb).1, fun z => z.elim (rs.oc.tb b hb).2 fun z => rs.noTab hb (by rw [z]; exact .inr ⟨i, _, w, e, rfl, ea⟩)⟩⟩) (ob.mono (ke fun b z => ow z) (fun _ _ z => z) rfl)
  · exact h.elim⟩
end
end Qd
end
section
set_option Elab.async false
set_option linter.all false
set_option maxRecDepth 100000
set_option maxHeartbeats 1000000
/-! What the printed derivations use. -/
namespace Qd
open PySem PySem.Spec PyProof.Rows L2 L2H

theorem takesF {X : Cx} : L2N.Takes X (fun _ _ _ _ => False) := fun _ _ ⟨_, _, _, _, _, _, _, _, _, _, _, _, _, _, _, _, w⟩ => w.elim
theorem room_hu {k : Nat} {A : Around} (r : Room k A) : A.units + 66 < cLine := Nat.lt_of_le_of_lt (Nat.add_le_add_left (by decide : 66 ≤ 64 + 64) _) (by have := r.un; omega)
theorem hu64 {A : Around} (h : A.units + 66 < cLine) : A.units + 64 < cLine := by omega
theorem hu65 {A : Around} (h : A.units + 66 < cLine) : A.units + 65 < cLine := by omega
theorem hu1 {A : Around} (h : A.units + 66 < cLine) : A.units + 1 < cLine := by omega
theorem roomH_hu {k : Nat} {A : Around} (r : RoomH k A) : A.units + 66 < cLine := by have := r.un; omega
theorem roomH_mark {j k : Nat} {A : Around} {x : Option Value} (r : Room k A) (h : j ≤ k) : RoomH j (A.mark x) := let z := r.mono h; ⟨z.dp, z.un⟩
theorem kit_sub {K : PySem.W.Frag} {C D : Addr} {b : Bool} (hi : PySem.W.isClsIn K D = true) (ht : PySem.W.typeIn K (.ref D) = some (.type "type")) (h : PySem.W.subIn K (.ref C) (.ref D) = some b) (hd : PySem.W.subIn K (.ref D) (.ref D) = some true) : PySem.W.kitOne K (.ref C) (.ref D) = some b := by
  unfold PySem.W.kitOne
  by_cases e : C = D
  · subst e
    rw [hd] at h
    rw [if_pos (by simp)]; exact h
  · rw [if_neg (by simpa using e)]
    show (if ((PySem.W.clsIn K D).isSome && PySem.W.typeIn K (.ref D) == some (.type "type")) = true then PySem.W.subIn K (.ref C) (.ref D) else none) = some b
    rw [if_pos (by rw [show (PySem.W.clsIn K D).isSome = true from hi, ht]; rfl)]
    exact h
abbrev offT (tb : Addr → Prop) : On := ⟨false, tb⟩
theorem exF {tb : Addr → Prop} (a : Addr) : ¬ cEx (offT tb) a cN := fun h => h.elim (fun h => Bool.noConfusion h.1) fun h => absurd h.1 (by decide)
theorem exH {n : Nat} {on : On} {tb : Addr → Prop} {X : Cx} {Y : Yx} (h : HotK on X Y n) (he : on = offT tb) (hn : n < cN) : ∀ a, ¬ Y.Ex a cN := fun a z => by
  obtain ⟨p, c, hc, _, _, _, _, e⟩ := h
  rw [e] at z
  rcases z with ⟨_, z⟩ | z
  · omega
  · subst he; exact exF a z
section
variable {X : Cx} {Y : Yx}
theorem d_globI {x : Str} {i : Int} {pos : Pos} (h : ∃ t, X.mg x = some (.int i t)) (hg : Gl X x := by rfl) (hd : (x == ("__debug__" : Str)) = false := by decide) : DE X Y true (.Name x pos) (mC (.int i)) := by
  obtain ⟨t, h⟩ := h
  exact d_glob (v := .int i) h ⟨t, rfl⟩ rfl hg hd
theorem d_globS {x i : Str} {pos : Pos} (h : ∃ t, X.mg x = some (.str i t)) (hg : Gl X x := by rfl) (hd : (x == ("__debug__" : Str)) = false := by decide) : DE X Y true (.Name x pos) (mC (.str i)) := by
  obtain ⟨t, h⟩ := h
  exact d_glob (v := .str i) h ⟨t, rfl⟩ rfl hg hd
/-- what is walked: a list or a tuple -/
def mItS (a : M W) : M (List W) := fun d => (a d).bind fun w d1 => ofOpt (itemsOf w) d1
theorem pi_or {tg e : Expr} {w1 w2 : TI} (h1 : PI X tg e w1) (h2 : PI X tg e w2) : PI X tg e (fun σ H R => w1 σ H R ∨ w2 σ H R) := ⟨fun pins s σ H R I h => h.elim (h1.run pins s σ H R I) (h2.run pins s σ H R I)⟩
theorem di_seq {pu : Bool} {tg e : Expr} {m : M W} (h : DE X Y pu e m) : DI X Y pu tg e (mItS m) := by
  refine ⟨_, pi_or (pi_list h.pe) (pi_tup h.pe), fun σ H R h => ?_⟩
  obtain ⟨Oc, d, rs, h⟩ := h
  unfold mItS at h
  have left : (∃ w d1, m d = .ok w d1 ∧ ∃ ds, w = .tuple ds) ∨ ¬ ∃ w d1, m d = .ok w d1 ∧ ∃ ds, w = .tuple ds := Classical.em _
  rcases left with ⟨w, d1, e1, ds, rfl⟩ | hno
  · refine .inr ⟨Oc, d, rs, ?_⟩
    rw [e1] at h ⊢
    intro H1 g1 v r
    have h1 := h H1 g1
    cases r with
    | tup l r => exact ⟨_, rfl, ⟨_, l.sq⟩, h1 _ _ wk_tup ⟨_, l, r⟩⟩
  · refine .inl ⟨Oc, d, rs, ?_⟩
    cases q : m d with
    | bad => rw [q] at h; exact h
    | exc c d1 => rw [q] at h; exact h
    | ok w d1 =>
      rw [q] at h
      dsimp only [Out.bind] at h
      cases w with
      | list ds =>
        intro H1 g1 v r
        have h1 := h H1 g1
        cases r with
        | lst l r => exact ⟨_, rfl, ⟨_, l.sq⟩, h1 _ _ wk_list ⟨_, l, r⟩⟩
      | tuple ds => exact absurd ⟨_, _, q, _, rfl⟩ hno
      | none => exact h.elim
      | bool b => exact h.elim
      | int i => exact h.elim
      | str s => exact h.elim
      | dict l => exact h.elim
end
end Qd
end
section
set_option Elab.async false
set_option linter.all false
set_option maxRecDepth 100000
set_option maxHeartbeats 1000000
/-! a, b, .. = x, y, .. : some of them new objects that are the def's own from now on. -/
namespace Qd
open PySem PySem.Spec PyProof.Rows L2

abbrev More (O : Addr → Prop) (ps : List Addr) (a : Addr) : Prop := O a ∨ a ∈ ps
inductive RL (K : PySem.W.Frag) (Ex : Addr → Nat → Prop) (O : Addr → Prop) (H : Hp) : List V → List (Bool × W) → List Addr → Prop
  | nil : RL K Ex O H [] [] []
  | val {v : V} {w : W} {vs : List V} {ws : List (Bool × W)} {ps : List Addr} : Rp K Ex O H v w → RL K Ex O H vs ws ps → RL K Ex O H (v :: vs) ((false, w) :: ws) ps
  | own {p : Addr} {w : W} {vs : List V} {ws : List (Bool × W)} {ps : List Addr} : Ob K Ex O H p w → RL K Ex O H vs ws ps → RL K Ex O H (.ref p :: vs) ((true, w) :: ws) (p :: ps)
section
variable {K : PySem.W.Frag} {Ex : Addr → Nat → Prop} {O O' Oc : Addr → Prop} {H H' : Hp} {d d' : SD} {σ : St}
theorem RL.mono (k : Ke O H O' H') {vs : List V} {ws : List (Bool × W)} {ps : List Addr} (e : ∀ p ∈ ps, H' p = H p) (r : RL K Ex O H vs ws ps) : RL K Ex O' H' vs ws ps := by
  induction r with
  | nil => exact .nil
  | val a b ih => exact .val (a.mono k fun _ _ z => z) (ih e)
  | own a b ih => exact .own (a.mono k (fun _ _ z => z) (e _ List.mem_cons_self)) (ih fun p hp => e p (List.mem_cons_of_mem _ hp))
theorem RL.same (s : Same H H') {vs : List V} {ws : List (Bool × W)} {ps : List Addr} (r : RL K Ex O H vs ws ps) : RL K Ex O H' vs ws ps := by
  have k : Ke O H O H' := fun a u n e => ⟨n, s a u e⟩
  induction r with
  | nil => exact .nil
  | val a b ih => exact .val (a.mono k fun _ _ z => z) ih
  | own a b ih => exact .own (a.mono k (fun _ _ z => z) (by obtain ⟨o, e⟩ := a.at; rw [e]; exact s _ _ e)) ih
theorem RL.length {vs : List V} {ws : List (Bool × W)} {ps : List Addr} (r : RL K Ex O H vs ws ps) : vs.length = ws.length := by
  induction r with
  | nil => rfl
  | val a b ih => rw [List.length_cons, List.length_cons, ih]
  | own a b ih => rw [List.length_cons, List.length_cons, ih]
theorem ow_congr (h : ∀ a, O a ↔ O' a) {a : Addr} : Ow O d σ a ↔ Ow O' d σ a := ⟨fun z => z.imp (h a).mp id, fun z => z.imp (h a).mpr id⟩
theorem RS.congr (h : ∀ a, O a ↔ O' a) (rs : RS K Ex O H d σ) : RS K Ex O' H d σ := by
  have ke : Ke (Ow O d σ) H (Ow O' d σ) H := fun a u n e => ⟨fun z => n ((ow_congr h).mpr z), e⟩
  exact ⟨rs.len, fun i w e => let ⟨v, a, b⟩ := rs.val i w e; ⟨v, a, b.mono ke fun _ _ z => z⟩, fun i s w e1 e2 => let ⟨p, a, n, b⟩ := rs.own i s w e1 e2; ⟨p, a, fun z => n ((h p).mpr z), b.mono ke (fun _ _ z => z) rfl⟩, rs.sep, rs.oc.sub fun a z => (h a).mpr z⟩
theorem Go.less {pu : Bool} {p : Addr} (g : Go K Ex (With Oc p) pu σ d H d' H') : Go K Ex Oc pu σ d H d' H' := ⟨g.rs.less, g.fr, g.sim, g.pur⟩
theorem Po.less {α : Type} {X : Cx} {Y : Yx} {pu : Bool} {p : Addr} {o : Out α} {k : α → SD → Hp → Prop} (h : Po X Y pu Oc σ d H o k) : Po X Y pu (With Oc p) σ d H o (fun a d' H' => Go X.K Y.Ex (With Oc p) pu σ d H d' H' → k a d' H') := by
  cases o with
  | ok a d1 => exact fun H1 g1 _ => h H1 g1.less
  | exc c d1 => exact fun H1 g1 => h H1 g1.less
  | bad => exact h
end
def tLo (X : Cx) (Y : Yx) (pu : Bool) (m : M (List (Bool × W))) : TA := fun σ H Q => ∃ Oc d, RS X.K Y.Ex Oc H d σ ∧ Po X Y pu Oc σ d H (m d) fun ws d' H' => ∀ vs ps, ps.Nodup → (∀ p ∈ ps, H p = none) → RS X.K Y.Ex (More Oc ps) H' d' σ → RL X.K Y.Ex (Ow (More Oc ps) d' σ) H' vs ws ps → Q vs H'
structure DLo (X : Cx) (Y : Yx) (pu : Bool) (es : List Expr) (m : M (List (Bool × W))) : Prop where
  pa : PA X es (tLo X Y pu m)
def mNilO : M (List (Bool × W)) := fun d => .ok [] d
def mConsV (a : M W) (r : M (List (Bool × W))) : M (List (Bool × W)) := fun d => (a d).bind fun x d1 => (r d1).bind fun xs d2 => .ok ((false, x) :: xs) d2
def mConsO (a : M W) (r : M (List (Bool × W))) : M (List (Bool × W)) := fun d => (a d).bind fun x d1 => (r d1).bind fun xs d2 => .ok ((true, x) :: xs) d2
section
variable {X : Cx} {Y : Yx}
theorem dlo_nil : DLo X Y true [] mNilO := ⟨by
  refine pa_weak pa_nil fun σ H Q h => ?_
  obtain ⟨Oc, d, rs, h⟩ := h
  exact h H (.refl rs) [] [] List.nodup_nil (fun _ z => nomatch z) (rs.congr fun a => ⟨.inl, fun z => z.elim (fun y => y) fun y => nomatch y⟩) .nil⟩
theorem dlo_val {pa pb : Bool} {e : Expr} {es : List Expr} {a : M W} {r : M (List (Bool × W))} (ha : DE X Y pa e a) (hr : DLo X Y pb es r) (hs : starEach (e :: es) X.env = (false, eval e X.env) :: starEach es X.env := by rfl) : DLo X Y (pa && pb) (e :: es) (mConsV a r) := ⟨by
  refine pa_weak (pa_cons ha.pe hr.pa hs) fun σ H Q h => ?_
  obtain ⟨Oc, d, rs, h⟩ := h
  refine ⟨Oc, d, rs, (Po.bind h).imp fun w d1 H1 g1 h1 v r1 => ⟨Oc, d1, g1.rs, (Po.bind1 h1).imp fun ws d2 H2 g2 h2 vs ps nd np rs2 rl => ?_⟩⟩
  refine h2 H2 (.refl g2.rs) (v :: vs) ps nd (fun p hp => g1.free (np p hp)) rs2 (.val (r1.mono (fun a u n e => ⟨fun z => ?_, g2.fr a u e fun z => n (.inr z)⟩) fun _ _ z => z) rl)
  rcases z with (z | z) | z
  · exact n (.inl z)
  · rw [np a z] at e; cases e
  · exact n (.inr (g2.sim.mine.mp z))⟩
theorem dlo_own {pa pb : Bool} {e : Expr} {es : List Expr} {a : M W} {r : M (List (Bool × W))} (ha : DF X Y pa e a) (hr : DLo X Y pb es r) (hs : starEach (e :: es) X.env = (false, eval e X.env) :: starEach es X.env := by rfl) : DLo X Y (pa && pb) (e :: es) (mConsO a r) := ⟨by
  refine pa_weak (pa_cons ha.pe hr.pa hs) fun σ H Q h => ?_
  obtain ⟨Oc, d, rs, h⟩ := h
  refine ⟨Oc, d, rs, (Po.bind h).imp fun w d1 H1 g1 h1 p np rsp ob => ⟨With Oc p, d1, rsp, (Po.less (Po.bind1 h1)).imp fun ws d2 H2 g2 h2 vs ps nd nps rs2 rl => ?_⟩⟩
  have p1 : ∃ o, H1 p = some o := ob.at
  have pn : p ∉ ps := fun z => by obtain ⟨o, e⟩ := p1; rw [nps p z] at e; cases e
  have cg : ∀ b, More (With Oc p) ps b ↔ More Oc (p :: ps) b := fun b => by
    constructor
    · rintro ((z | z) | z)
      · exact .inl z
      · exact .inr (by rw [z]; exact List.mem_cons_self)
      · exact .inr (List.mem_cons_of_mem _ z)
    · rintro (z | z)
      · exact .inl (.inl z)
      · rcases List.mem_cons.mp z with z | z
        · exact .inl (.inr z)
        · exact .inr z
  have ke1 : Ke (Ow (More (With Oc p) ps) d2 σ) H2 (Ow (More Oc (p :: ps)) d2 σ) H2 := fun b u n e => ⟨fun z => n ((ow_congr cg).mpr z), e⟩
  have nm : ¬ Mine d1 σ p := rsp.nMine (.inr rfl)
  have e2 : H2 p = H1 p := by obtain ⟨o, e⟩ := p1; rw [e]; exact g2.fr p o e nm
  refine (h2 g2) H2 (.refl g2.less.rs) (.ref p :: vs) (p :: ps) (List.nodup_cons.mpr ⟨pn, nd⟩) (fun b hb => ?_) (rs2.congr cg) (.own (ob.mono (fun b u n e => ⟨fun z => ?_, g2.fr b u e fun z => n (.inr z)⟩) (fun _ _ z => z) e2) (rl.mono ke1 fun _ _ => rfl))
  · rcases List.mem_cons.mp hb with z | z
    · rw [z]; exact np
    · exact g1.free (nps b z)
  · rcases z with z | z
    · rcases (cg b).mpr z with (z | z) | z
      · exact n (.inl (.inl z))
      · exact n (.inl (.inr z))
      · rw [nps b z] at e; cases e
    · exact n (.inr (g2.sim.mine.mp z))⟩
end
/-- stored from the left -/
def stores : List Nat → List (Bool × W) → SD → Option SD
  | [], [], d => some d
  | i :: is, (b, w) :: ws, d => (if b then storeOwn i w d else store i w d).bind fun d1 => stores is ws d1
  | _, _, _ => none
def setsS : List Nat → List V → St → St
  | i :: is, v :: vs, σ => setsS is vs (σ.set i (some v))
  | _, _, σ => σ
theorem stores_go {K : PySem.W.Frag} {Ex : Addr → Nat → Prop} {Oc : Addr → Prop} {H : Hp} : ∀ (is : List Nat) {vs : List V} {ws : List (Bool × W)} {ps : List Addr} {d d' : SD} {σ : St}, ps.Nodup → (∀ p ∈ ps, ¬ Oc p) → RS K Ex (More Oc ps) H d σ → RL K Ex (Ow (More Oc ps) d σ) H vs ws ps → stores is ws d = some d' →
    RS K Ex Oc H d' (setsS is vs σ) ∧ (∀ a, Mine d' (setsS is vs σ) a → Mine d σ a ∨ a ∈ ps) ∧ ∀ (j : Nat) (u : W), d[j]? = some (some (.par u)) → (∃ w', d'[j]? = some (some (.par w'))) ∧ (setsS is vs σ)[j]? = σ[j]?
  | [], vs, ws, ps, d, d', σ, nd, np, rs, rl, h => by
    cases rl with
    | nil =>
      cases h
      exact ⟨rs.congr (fun a => ⟨fun z => z.elim (fun y => y) (fun y => nomatch y), .inl⟩), fun a z => .inl z, fun j u e => ⟨⟨u, e⟩, rfl⟩⟩
    | val a b => cases h
    | own a b => cases h
  | i :: is, vs, ws, ps, d, d', σ, nd, np, rs, rl, h => by
    cases rl with
    | nil => cases h
    | @val v w vs ws ps a b =>
      unfold stores at h
      rw [if_neg Bool.false_ne_true] at h
      cases q : store i w d with
      | none => rw [q] at h; cases h
      | some d1 =>
        rw [q] at h
        have h : stores is ws d1 = some d' := h
        have g := store_go rs a q
        obtain ⟨r1, r2, r3⟩ := stores_go is nd np g.rs (b.mono g.ke fun _ _ => rfl) h
        refine ⟨r1, fun x z => ?_, fun j u e => ?_⟩
        · rcases r2 x z with z | z
          · rcases g.mine x z with z | z
            · exact .inl z
            · exfalso; obtain ⟨o, e⟩ := g.rs.there (.inr (by assumption)); rw [z] at e; cases e
          · exact .inr z
        · obtain ⟨⟨w', e'⟩, e2⟩ := g.par j u e
          obtain ⟨e3, e4⟩ := r3 j w' e'
          exact ⟨e3, e4.trans e2⟩
    | @own p w vs ws ps a b =>
      unfold stores at h
      rw [if_pos rfl] at h
      cases q : storeOwn i w d with
      | none => rw [q] at h; cases h
      | some d1 =>
        rw [q] at h
        have h : stores is ws d1 = some d' := h
        obtain ⟨hp, nd⟩ := List.nodup_cons.mp nd
        have cg : ∀ b, More Oc (p :: ps) b ↔ With (More Oc ps) p b := fun b => by
          constructor
          · rintro (z | z)
            · exact .inl (.inl z)
            · rcases List.mem_cons.mp z with z | z
              · exact .inr z
              · exact .inl (.inr z)
          · rintro ((z | z) | z)
            · exact .inl z
            · exact .inr (List.mem_cons_of_mem _ z)
            · exact .inr (by rw [z]; exact List.mem_cons_self)
        have no : ¬ More Oc ps p := fun z => z.elim (np p List.mem_cons_self) hp
        have rs' := rs.congr cg
        have ke0 : Ke (Ow (More Oc (p :: ps)) d σ) H (Ow (With (More Oc ps) p) d σ) H := fun b u n e => ⟨fun z => n ((ow_congr cg).mpr z), e⟩
        obtain ⟨a1, a2, a3⟩ := storeOwn_go no rs' (a.mono ke0 (fun _ _ z => z) rfl) q
        have ke1 : Ke (Ow (More Oc (p :: ps)) d σ) H (Ow (More Oc ps) d1 (σ.set i (some (.ref p)))) H := fun b u n e => ⟨fun z => by
          rcases z with z | z
          · exact n (.inl ((cg b).mpr (.inl z)))
          · rcases a2 b z with z | z
            · exact n (.inr z)
            · exact n (.inl ((cg b).mpr (.inr z))), e⟩
        obtain ⟨r1, r2, r3⟩ := stores_go is nd (fun b hb => np b (List.mem_cons_of_mem _ hb)) a1 (b.mono ke1 fun _ _ => rfl) h
        refine ⟨r1, fun x z => ?_, fun j u e => ?_⟩
        · rcases r2 x z with z | z
          · rcases a2 x z with z | z
            · exact .inl z
            · exact .inr (by rw [z]; exact List.mem_cons_self)
          · exact .inr (List.mem_cons_of_mem _ z)
        · obtain ⟨⟨w', e'⟩, e2⟩ := a3 j u e
          obtain ⟨e3, e4⟩ := r3 j w' e'
          exact ⟨e3, e4.trans e2⟩
def mPar (is : List Nat) (m : M (List (Bool × W))) : MS := fun d => (m d).toS fun ws d1 => sOpt (stores is ws d1)
theorem t_par {X : Cx} {Y : Yx} {pu : Bool} {is : List Nat} {m : M (List (Bool × W))} {D : Ends} {σ : St} {H : Hp} (h : tS X Y (mPar is m) D σ H) : tLo X Y pu m σ H fun vs H1 => ∀ H2, Same H1 H2 → D.nx (setsS is vs σ) H2 := by
  obtain ⟨Oc, d, rs, h⟩ := h
  refine ⟨Oc, d, rs, ?_⟩
  unfold mPar at h
  cases q0 : m d with
  | bad => rw [q0] at h; exact h
  | exc c d1 => rw [q0] at h; exact fun H1 g1 => h σ H1 g1.toS
  | ok ws d1 =>
    rw [q0] at h
    intro H1 g1 vs ps nd np rs1 rl H2 sm
    have h : PoS X Y Oc d σ H (sOpt (stores is ws d1)) D := h
    cases q : stores is ws d1 with
    | none => rw [q] at h; exact h.elim
    | some d2 =>
      rw [q] at h
      have no : ∀ p ∈ ps, ¬ Oc p := fun p hp z => by
        obtain ⟨o, e⟩ := rs.oc.at_ p z
        rw [np p hp] at e; cases e
      obtain ⟨a1, a2, a3⟩ := stores_go is nd no (rs1.same sm) (rl.same sm) q
      refine h _ H2 ⟨a1, fun a o e n => sm a o (g1.fr a o e n), fun a z => ?_, fun j u e => ?_⟩
      · rcases a2 a z with z | z
        · exact .inl (g1.sim.mine.mp z)
        · exact .inr (np a z)
      · obtain ⟨⟨w', e'⟩, _⟩ := g1.toS.par j u e
        exact a3 j w' e'
section
variable {X : Cx} {Y : Yx}
theorem dlo_len {pu : Bool} {es : List Expr} {m : M (List (Bool × W))} (h : DLo X Y pu es m) : True := trivial
def LenO (n : Nat) (m : M (List (Bool × W))) : Prop := ∀ d ws d1, m d = .ok ws d1 → ws.length = n
theorem lenO_nil : LenO 0 mNilO := fun d ws d1 h => by cases h; rfl
theorem lenO_cons {n : Nat} {b : Bool} {a : M W} {r : M (List (Bool × W))} (h : LenO n r) : LenO (n + 1) (fun d => (a d).bind fun x d1 => (r d1).bind fun xs d2 => .ok ((b, x) :: xs) d2) := fun d ws d1 e => by
  dsimp only at e
  cases q : a d with
  | bad => rw [q] at e; cases e
  | exc c d2 => rw [q] at e; cases e
  | ok x d2 =>
    rw [q] at e
    dsimp only [Out.bind] at e
    cases q2 : r d2 with
    | bad => rw [q2] at e; cases e
    | exc c d3 => rw [q2] at e; cases e
    | ok xs d3 =>
      rw [q2] at e
      cases e
      rw [List.length_cons, h _ _ _ q2]
/-- a list's reading with its length known -/
theorem tLo_len {pu : Bool} {n : Nat} {m : M (List (Bool × W))} {σ : St} {H : Hp} {Q : List V → Hp → Prop} (hl : LenO n m) (h : tLo X Y pu m σ H Q) : tLo X Y pu m σ H fun vs H1 => vs.length = n ∧ Q vs H1 := by
  obtain ⟨Oc, d, rs, h⟩ := h
  refine ⟨Oc, d, rs, ?_⟩
  cases q : m d with
  | bad => rw [q] at h; exact h
  | exc c d1 => rw [q] at h; exact h
  | ok ws d1 =>
    rw [q] at h
    exact fun H1 g1 vs ps nd np rs1 rl => ⟨rl.length.trans (hl _ _ _ q), h H1 g1 vs ps nd np rs1 rl⟩
/-- a, b = x, y (names on one line) -/
theorem ds_par2 {pu : Bool} {i j : Nat} {x y : Str} {a b : Expr} {px py pt pos : Pos} {kt k2 : Nat} {pt2 : Pos} {m : M (List (Bool × W))} (hc : X.calm = true) (hN : X.N.Nodup) (hm : DLo X Y pu [a, b] m) (hl : LenO 2 m) (hij : i ≠ j) (hi : X.N[i]? = some x := by rfl) (hj : X.N[j]? = some y := by rfl)
    (hx : X.env.scope.names.lookup x = some .local := by rfl) (hy : X.env.scope.names.lookup y = some .local := by rfl) (hw : swappedStores [.Tuple [.Name x px, .Name y py] kt pt] (.Tuple [a, b] k2 pt2) X.env = pure (some [x, y]) := by rfl)
    (hs : swapsWithSole [.Tuple [.Name x px, .Name y py] kt pt] (.Tuple [a, b] k2 pt2) pos.line X.env = pure false := by rfl) : DS X Y (.Assign [.Tuple [.Name x px, .Name y py] kt pt] (.Tuple [a, b] k2 pt2) pos) (mPar [i, j] m) := by
  refine ⟨ps_weak (ps_par hc hN hi hj hij hx hy hm.pa hw hs) fun D σ H h => ?_⟩
  have h := tLo_len hl (t_par (pu := pu) h)
  obtain ⟨Oc, d, rs, h⟩ := h
  refine ⟨Oc, d, rs, h.imp fun ws d1 H1 g1 h1 vs ps nd np rs1 rl => ?_⟩
  obtain ⟨e, h2⟩ := h1 vs ps nd np rs1 rl
  match vs, e, h2 with
  | [v, u], _, h2 => exact ⟨v, u, rfl, h2 H1 fun _ _ e => e⟩
theorem ds_par3 {pu : Bool} {i j l : Nat} {x y z : Str} {a b c : Expr} {px py pz pt pos : Pos} {kt k2 : Nat} {pt2 : Pos} {m : M (List (Bool × W))} (hc : X.calm = true) (hN : X.N.Nodup) (hm : DLo X Y pu [a, b, c] m) (hln : LenO 3 m) (hij : i ≠ j) (hil : i ≠ l) (hjl : j ≠ l) (hi : X.N[i]? = some x := by rfl) (hj : X.N[j]? = some y := by rfl) (hl : X.N[l]? = some z := by rfl)
    (hx : X.env.scope.names.lookup x = some .local := by rfl) (hy : X.env.scope.names.lookup y = some .local := by rfl) (hz : X.env.scope.names.lookup z = some .local := by rfl) (hw : swappedStores [.Tuple [.Name x px, .Name y py, .Name z pz] kt pt] (.Tuple [a, b, c] k2 pt2) X.env = pure (some [x, y, z]) := by rfl)
    (hs : swapsWithSole [.Tuple [.Name x px, .Name y py, .Name z pz] kt pt] (.Tuple [a, b, c] k2 pt2) pos.line X.env = pure false := by rfl) : DS X Y (.Assign [.Tuple [.Name x px, .Name y py, .Name z pz] kt pt] (.Tuple [a, b, c] k2 pt2) pos) (mPar [i, j, l] m) := by
  refine ⟨ps_weak (ps_par3 hc hN hi hj hl hij hil hjl hx hy hz hm.pa hw hs) fun D σ H h => ?_⟩
  have h := tLo_len hln (t_par (pu := pu) h)
  obtain ⟨Oc, d, rs, h⟩ := h
  refine ⟨Oc, d, rs, h.imp fun ws d1 H1 g1 h1 vs ps nd np rs1 rl => ?_⟩
  obtain ⟨e, h2⟩ := h1 vs ps nd np rs1 rl
  match vs, e, h2 with
  | [v, u, t], _, h2 => exact ⟨v, u, t, rfl, h2 H1 fun _ _ e => e⟩
/-- plain names as targets -/
inductive Nms (X : Cx) : List Expr → List Nat → TGs → Prop
  | nil : Nms X [] [] gNil
  | cons {x : Str} {pos : Pos} {i : Nat} {es : List Expr} {is : List Nat} {t : TGs} : PG X (.Name x pos) (gName i) → ((assignEach (.Name x pos :: es) X.env).map (·.2) = assign (.Name x pos) X.env :: (assignEach es X.env).map (·.2)) → Nms X es is t → Nms X (.Name x pos :: es) (i :: is) (gCons (gName i) t)
theorem nms_cons {x : Str} {pos : Pos} {i : Nat} {es : List Expr} {is : List Nat} {t : TGs} (hN : X.N.Nodup) (r : Nms X es is t) (hi : X.N[i]? = some x := by rfl) (hx : Loc X.env.scope x := by first | exact .inl rfl | exact .inr rfl) (hf : X.fn x = true ∨ X.env.scope.names.lookup x = some .local := by first | exact .inl rfl | exact .inr rfl | assumption)
    (hs : (assignEach (.Name x pos :: es) X.env).map (·.2) = assign (.Name x pos) X.env :: (assignEach es X.env).map (·.2) := by rfl) : Nms X (.Name x pos :: es) (i :: is) (gCons (gName i) t) := .cons (pg_name hN hi hx hf) hs r
theorem Nms.pg {es : List Expr} {is : List Nat} {t : TGs} (h : Nms X es is t) : PGs X es t := by
  induction h with
  | nil => exact pgs_nil
  | cons a b _ ih => exact pgs_cons a ih b
theorem Nms.to {es : List Expr} {is : List Nat} {t : TGs} (h : Nms X es is t) : ∀ {vs : List V} {σ : St} {H : Hp} {Q : St → Hp → Prop}, vs.length = is.length → Q (setsS is vs σ) H → t vs σ H Q := by
  induction h with
  | nil =>
    intro vs σ H Q e q
    match vs, e with
    | [], _ => exact ⟨rfl, q⟩
  | cons a b _ ih =>
    intro vs σ H Q e q
    match vs, e with
    | v :: vs, e => exact ⟨v, vs, rfl, ih (by simpa using e) q⟩
/-- a, b, c, d = .. by a tuple that nobody keeps -/
theorem ds_parN {pu : Bool} {es ts : List Expr} {is : List Nat} {k k2 : Nat} {pt pt2 pos : Pos} {t : TGs} {m : M (List (Bool × W))} (hc : X.calm = true) (hm : DLo X Y pu es m) (hl : LenO is.length m) (ht : Nms X ts is t) (hsz : is.length ≤ sizeLine) (hn : (assignEach ts X.env).length = is.length := by rfl)
    (hst : (assignEach ts X.env).findIdx? (·.1) = none := by rfl) (hs : swapsWithSole [.Tuple ts k pt] (.Tuple es k2 pt2) pos.line X.env = pure false := by rfl) (hw : swappedStores [.Tuple ts k pt] (.Tuple es k2 pt2) X.env = pure none := by rfl)
    (h1 : (assignEach [.Tuple ts k pt] X.env).map (·.2) = [assign (.Tuple ts k pt) X.env] := by rfl) : DS X Y (.Assign [.Tuple ts k pt] (.Tuple es k2 pt2) pos) (mPar is m) := by
  refine ⟨ps_weak (ps_asg (pe_tup hm.pa) (pg_tup hc ht.pg hn hst) hs hw h1) fun D σ H h => ?_⟩
  have h := tLo_len hl (t_par (pu := pu) h)
  obtain ⟨Oc, d, rs, h⟩ := h
  refine ⟨Oc, d, rs, h.imp fun ws d1 H1 g1 h1 vs ps nd np rs1 rl => ?_⟩
  obtain ⟨e, h2⟩ := h1 vs ps nd np rs1 rl
  exact ⟨by rw [e]; exact hsz, fun p np => ⟨p, vs, rfl, .inl (.inl upd_same), e, ht.to e (h2 _ (same_new np))⟩⟩
end
end Qd
end
section
set_option Elab.async false
set_option linter.all false
set_option maxRecDepth 100000
set_option maxHeartbeats 1000000
/-! More operations. -/
namespace Qd
open PySem PySem.Spec PyProof.Rows L2
section
variable {X : Cx} {Y : Yx}
def bitsW : W → Option W
  | .int i => some (.int (Builtin.Int.intBits i : Nat))
  | _ => none
theorem d_bits {pa : Bool} {o : Expr} {a : M W} {apos pos : Pos} (ho : DE X Y pa o a) (hbase : attributeBase o "bit_length" X.env (eval o X.env) = eval o X.env := by rfl) (hline : (apos.endLine == pos.line) = true := by rfl) : DE X Y pa (.Call (.Attribute o "bit_length" apos) [] [] pos) (mUn bitsW a) := by
  refine ⟨pe_weak (L2.pe_bits ho.pe hbase hline) fun σ H Q h => ?_⟩
  obtain ⟨Oc, d, rs, h⟩ := h
  refine ⟨Oc, d, rs, (Po.bind1 h).imp fun w d1 H1 g1 h1 v r1 => ?_⟩
  obtain ⟨c, ec, k⟩ := Po.opt h1
  unfold bitsW at ec
  split at ec
  · cases ec
    cases rp_int r1
    exact ⟨_, rfl, k H1 (.same g1.rs fun _ _ e => e) _ (.int _)⟩
  · cases ec
end
end Qd
end
section
set_option Elab.async false
set_option linter.all false
set_option maxRecDepth 100000
set_option maxHeartbeats 1000000
/-! all(..), any(..) by their data. -/
namespace Qd
open PySem PySem.Spec PyProof.Rows L2
def gxD (stop : Bool) (vs : List Nat) (g : GW) (t : M Bool) (e : M W) : List W → M Bool
  | [], d => .ok (!stop) d
  | w :: ws, d => match g w (wipeD d vs) with
    | none => .bad
    | some d1 => (t d1).bind fun b d2 => if b = true then (e d2).bind fun y d3 => (ofOpt (asB y) d3).bind fun k d4 => if k = stop then .ok stop d4 else gxD stop vs g t e ws d4 else gxD stop vs g t e ws d2
def mGx (stop : Bool) (vs : List Nat) (it : M (List W)) (g : GW) (t : M Bool) (e : M W) : M W := fun d => (it d).bind fun ws d1 => if cleanD d1 vs = true then
  (match gxD stop vs g t e ws d1 with
    | .ok b d2 => .ok (.bool b) (backD d1 vs d2)
    | _ => .bad) else .bad
section
variable {K : PySem.W.Frag} {Ex : Addr → Nat → Prop} {Oc : Addr → Prop}
/-- between two turns -/
structure GxI (pu : Bool) (K : PySem.W.Frag) (Ex : Addr → Nat → Prop) (Oc : Addr → Prop) (S : (Addr → Prop) → Hp → Prop) (vs : List Nat) (d₁ : SD) (σ : St) (H₁ : Hp) (d : SD) (H : Hp) : Prop where
  rs : RS K Ex Oc H (wipeD d vs) (wipe σ vs)
  cl : cleanD d vs = true
  len : d.length = d₁.length
  out : ∀ j : Nat, j ∉ vs → SlotLike d₁[j]? d[j]?
  fr : ∀ a o, H₁ a = some o → ¬ Mine d₁ σ a → H a = some o
  st : S (Ow Oc (wipeD d vs) (wipe σ vs)) H
  pur : pu = true → (∀ a o, H₁ a = some o → H a = some o) ∧ ∀ j : Nat, j ∉ vs → d[j]? = d₁[j]?
theorem GxI.back {pu : Bool} {S : (Addr → Prop) → Hp → Prop} {vs : List Nat} {d₁ d : SD} {σ : St} {H₁ H : Hp} (rs₁ : RS K Ex Oc H₁ d₁ σ) (cl₁ : cleanD d₁ vs = true) (I : GxI pu K Ex Oc S vs d₁ σ H₁ d H) : RS K Ex Oc H (backD d₁ vs d) σ ∧ Sim d₁ (backD d₁ vs d) := by
  have sim : Sim d₁ (backD d₁ vs d) := by
    refine ⟨by rw [backD_length]; exact I.len.symm, fun j => ?_⟩
    by_cases m : j ∈ vs
    · by_cases l : j < d.length
      · rw [backD_in m l I.len.symm]; exact .refl _
      · rw [List.getElem?_eq_none (by rw [← I.len]; omega), List.getElem?_eq_none (by rw [backD_length]; omega)]; exact .refl _
    · rw [backD_out m]; exact I.out j m
  have nin : ∀ {j : Nat} {s : Slot} {w : W}, (backD d₁ vs d)[j]? = some (some s) → Slot.mine? s = some w → j ∉ vs := fun {j s w} h1 h2 => by
    obtain ⟨s', w', e1, e2⟩ := (sim.2 j).mine.mpr ⟨s, w, h1, h2⟩
    exact cleanD_at e1 e2 cl₁
  have ow : ∀ a, Ow Oc (backD d₁ vs d) σ a → Ow Oc (wipeD d vs) (wipe σ vs) a := fun a z => z.imp id fun ⟨j, s, w, h1, h2, h3⟩ => by
    have m := nin h1 h2
    rw [backD_out m] at h1
    exact ⟨j, s, w, by rw [wipeD_out m]; exact h1, h2, by rw [wipe_out m]; exact h3⟩
  have ke : Ke (Ow Oc (wipeD d vs) (wipe σ vs)) H (Ow Oc (backD d₁ vs d) σ) H := fun a u n e => ⟨fun z => n (ow a z), e⟩
  -- for the names that the block hid
  have ke1 : Ke (Ow Oc d₁ σ) H₁ (Ow Oc (backD d₁ vs d) σ) H := fun a u n e => by
    refine ⟨fun z => ?_, I.fr a u e fun z => n (.inr z)⟩
    rcases z with z | z
    · exact n (.inl z)
    · exact n (.inr (sim.mine.mp z))
  refine ⟨⟨by rw [backD_length, I.len]; exact rs₁.len, fun j u e => ?_, fun j s u e1 e2 => ?_, fun j k s t u u' q ne e1 e2 e3 e4 e5 => ?_, I.rs.oc⟩, sim⟩
  · by_cases m : j ∈ vs
    · have l : j < d.length := by
        obtain ⟨lt, _⟩ := List.getElem?_eq_some_iff.mp e
        rw [backD_length] at lt; exact lt
      rw [backD_in m l I.len.symm] at e
      obtain ⟨v, e', r⟩ := rs₁.val j u e
      exact ⟨v, e', r.mono ke1 fun _ _ z => z⟩
    · rw [backD_out m] at e
      obtain ⟨v, e', r⟩ := I.rs.val j u (by rw [wipeD_out m]; exact e)
      exact ⟨v, by rw [wipe_out m] at e'; exact e', r.mono ke fun _ _ z => z⟩
  · have m := nin e1 e2
    rw [backD_out m] at e1
    obtain ⟨q, e', n, ob⟩ := I.rs.own j s u (by rw [wipeD_out m]; exact e1) e2
    exact ⟨q, by rw [wipe_out m] at e'; exact e', n, ob.mono ke (fun _ _ z => z) rfl⟩
  · have m := nin e1 e2
    have m2 := nin e3 e4
    rw [backD_out m] at e1
    rw [backD_out m2] at e3
    have z := I.rs.sep j k s t u u' q ne (by rw [wipeD_out m]; exact e1) e2 (by rw [wipeD_out m2]; exact e3) e4 (by rw [wipe_out m]; exact e5)
    rw [wipe_out m2] at z
    exact z
end
section
variable {X : Cx} {Y : Yx}
theorem t_gx {pi pt pe stop : Bool} {P : Addr} {mi : M (List W)} {g : GW} {is vs : List Nat} {t : M Bool} {e : M W} {wi : TI} (hP : Y.Ex P tN) (hwi : ∀ σ H R, tI X Y pi mi σ H R → wi σ H R) (ho : ∀ w d d', g w d = some d' → Only is d d') (his : ∀ i ∈ is, i ∈ vs)
    (σ : St) (H : Hp) (Q : VK) (h : tE X Y (pi && (pt && pe)) (mGx stop vs mi g t e) σ H Q) : tGx P stop wi (tG X.K Y.blk g is) (tT X Y.blk pt t) (tE X Y.blk pe e) vs σ H Q := by
  obtain ⟨Oc, d, rs, h⟩ := h
  refine hwi σ H _ ⟨Oc, d, rs, (Po.bind h).imp fun ws d₁ H₁ g₁ h₁ J S wk hS => ?_⟩
  refine ⟨(g₁.rs.oc.tb P hP).1, ?_⟩
  have cl : cleanD d₁ vs = true := by
    by_cases z : cleanD d₁ vs = true
    · exact z
    · rw [if_neg z] at h₁; exact h₁.elim
  rw [if_pos cl] at h₁
  cases q : gxD stop vs g t e ws d₁ with
  | bad => rw [q] at h₁; exact h₁.elim
  | exc c d2 => rw [q] at h₁; exact h₁.elim
  | ok bb d₂ =>
    rw [q] at h₁
    have h₁ : ∀ H', Go X.K Y.Ex Oc (pt && pe) σ d₁ H₁ (backD d₁ vs d₂) H' → ∀ v, Rp X.K Y.Ex (Ow Oc (backD d₁ vs d₂) σ) H' v (.bool bb) → Q v H' := h₁
    have fin : ∀ H', GxI (pt && pe) X.K Y.Ex Oc S vs d₁ σ H₁ d₂ H' → Q (.bl bb) H' := fun H' I => by
      obtain ⟨r2, sim⟩ := I.back g₁.rs cl
      refine h₁ H' ⟨r2, I.fr, sim, fun z => ?_⟩ _ (.bl bb)
      obtain ⟨p1, p2⟩ := I.pur z
      refine ⟨p1, List.ext_getElem? fun j => ?_⟩
      by_cases m : j ∈ vs
      · by_cases l : j < d₂.length
        · exact backD_in m l I.len.symm
        · rw [List.getElem?_eq_none (by rw [backD_length]; omega), List.getElem?_eq_none (by rw [← I.len]; omega)]
      · rw [backD_out m]; exact p2 j m
    have start : GxI (pt && pe) X.K Y.Ex Oc S vs d₁ σ H₁ d₁ H₁ :=
      ⟨g₁.rs.wipe cl, cl, rfl, fun _ _ => .refl _, fun _ _ e _ => e, wk.keep _ _ _ _ (fun a u n e' => ⟨fun z => n (z.imp id (mine_wipe g₁.rs.len cl).mp), e'⟩) hS, fun _ => ⟨fun _ _ e => e, fun _ _ => rfl⟩⟩
    refine ⟨fun i m H' => m = ws.length - i ∧ i ≤ ws.length ∧ ∃ d', GxI (pt && pe) X.K Y.Ex Oc S vs d₁ σ H₁ d' H' ∧ gxD stop vs g t e (ws.drop i) d' = .ok bb d₂, ⟨ws.length, by simp, Nat.zero_le _, d₁, start, q⟩, ?_⟩
    rintro i m H' ⟨rfl, hi, d', I, hq⟩
    by_cases lt : i < ws.length
    · refine .inr ⟨wk.go _ _ _ I.st lt, fun H2 => ∃ d', GxI (pt && pe) X.K Y.Ex Oc S vs d₁ σ H₁ d' H2 ∧ gxD stop vs g t e (ws.drop (i + 1)) d' = .ok bb d₂, fun H2 z => ⟨ws.length - (i + 1), by omega, rfl, lt, z⟩, fun x H2 y => ?_⟩
      obtain ⟨sm, hr⟩ := wk.yld _ H' i x H2 (fun a z => I.rs.there z) I.st y
      have rx := hr _ (List.getElem?_eq_getElem lt)
      rw [List.drop_eq_getElem_cons lt] at hq
      unfold gxD at hq
      cases qg : g ws[i] (wipeD d' vs) with
      | none => rw [qg] at hq; cases hq
      | some d1' =>
        rw [qg] at hq
        dsimp only at hq
        have go2 := Go.same (pu := true) I.rs sm
        refine ⟨Oc, wipeD d' vs, _, d1', go2.rs, rx, qg, fun σ2 gs o1 => ?_⟩
        have only := ho _ _ _ qg
        have hσ2 : ∀ j : Nat, j ∉ vs → σ2[j]? = σ[j]? := fun j m => by rw [o1.2 j fun z => m (his j z), wipe_out m]
        have hσl : σ2.length = σ.length := by rw [o1.1, wipe_length]
        refine ⟨wipe_ext hσl hσ2, Oc, d1', gs.rs, ?_⟩
        have hS2 : S (Ow Oc d1' σ2) H2 := wk.keep _ _ _ _ gs.ke (wk.keep _ _ _ _ go2.ke I.st)
        have fr2 : ∀ a o, H₁ a = some o → ¬ Mine d₁ σ a → H2 a = some o := fun a o e n => sm a o (I.fr a o e n)
        have out1 : ∀ j : Nat, j ∉ vs → SlotLike d₁[j]? d1'[j]? := fun j m => by
          rw [only.2.1 j fun z => m (his j z), wipeD_out m]; exact I.out j m
        have cl1 : cleanD d1' vs = true := by
          refine cleanD_of fun j hj s e => ?_
          have l : j < d'.length := by
            obtain ⟨lt, _⟩ := List.getElem?_eq_some_iff.mp e
            rw [only.1, wipeD_length] at lt; exact lt
          rcases only.2.2 j with z | ⟨u, z⟩
          · rw [z, wipeD_in hj l] at e; cases e
          · rw [z] at e; cases e; rfl
        have len1 : d1'.length = d₁.length := by rw [only.1, wipeD_length]; exact I.len
        have pur1 : (pt && pe) = true → (∀ a o, H₁ a = some o → H2 a = some o) ∧ ∀ j : Nat, j ∉ vs → d1'[j]? = d₁[j]? := fun z => by
          obtain ⟨z1, z2⟩ := I.pur z
          exact ⟨fun a o e => sm a o (z1 a o e), fun j m => by rw [only.2.1 j fun z => m (his j z), wipeD_out m]; exact z2 j m⟩
        have mk : ∀ {pu : Bool} {d3 : SD} {H3 : Hp}, ((pt && pe) = true → pu = true) → Go X.K Y.Ex Oc pu σ2 d1' H2 d3 H3 → GxI (pt && pe) X.K Y.Ex Oc S vs d₁ σ H₁ d3 H3 := fun {pu d3 H3} hpu g3 => by
          have out3 : ∀ j : Nat, j ∉ vs → SlotLike d₁[j]? d3[j]? := fun j m => (out1 j m).trans (g3.sim.2 j)
          have cl3 : cleanD d3 vs = true := by
            refine cleanD_of fun j hj s e => ?_
            cases hm : Slot.mine? s with
            | none => rfl
            | some w =>
              obtain ⟨s', w', f1, f2⟩ := (g3.sim.2 j).mine.mpr ⟨s, w, e, hm⟩
              exact absurd hj (cleanD_at f1 f2 cl1)
          have r3 := (g3.rs.wipe (vs := vs) cl3)
          rw [wipe_ext hσl hσ2] at r3
          have ke3 : Ke (Ow Oc d3 σ2) H3 (Ow Oc (wipeD d3 vs) (wipe σ vs)) H3 := fun a u n e => ⟨fun z => n (by
            rw [← wipe_ext hσl hσ2] at z
            exact z.imp id (mine_wipe g3.rs.len cl3).mp), e⟩
          refine ⟨r3, cl3, by rw [← g3.sim.1]; exact len1, out3, fun a o e n => g3.fr a o (fr2 a o e n) fun z => n (mine_out cl1 out1 hσ2 z), wk.keep _ _ _ _ ke3 (wk.keep _ _ _ _ g3.ke hS2), fun z => ?_⟩
          obtain ⟨p1, p2⟩ := pur1 z
          obtain ⟨p3, p4⟩ := g3.pur (hpu z)
          subst p4
          exact ⟨fun a o e => p3 a o (p1 a o e), p2⟩
        cases qt : t d1' with
        | bad => rw [qt] at hq; cases hq
        | exc c d2' => rw [qt] at hq; cases hq
        | ok b d2' =>
          rw [qt] at hq
          dsimp only [Out.bind] at hq
          intro H3 g3 rs3
          cases b with
          | false =>
            rw [if_neg Bool.false_ne_true] at hq
            refine iteF ?_
            exact ⟨d2', mk (fun z => (Bool.and_eq_true _ _ ▸ z).1) g3, hq⟩
          | true =>
            rw [if_pos rfl] at hq
            refine iteT ⟨Oc, d2', rs3, ?_⟩
            cases qe : e d2' with
            | bad => rw [qe] at hq; cases hq
            | exc c d3' => rw [qe] at hq; cases hq
            | ok yv d3' =>
              rw [qe] at hq
              dsimp only [Out.bind] at hq
              intro H4 g4 v rv
              have z := mk id (g3.trans g4)
              cases yv with
              | bool k =>
                dsimp only [asB, ofOpt, Out.bind] at hq
                cases rv
                refine ⟨k, rfl, ?_⟩
                by_cases hk : k = stop
                · rw [if_pos hk] at hq ⊢
                  cases hq
                  exact fin H4 z
                · rw [if_neg hk] at hq ⊢
                  exact ⟨d3', z, hq⟩
              | _ => cases hq
    · have ei : i = ws.length := by omega
      subst ei
      rw [List.drop_length] at hq
      cases hq
      exact .inl ⟨wk.stop _ _ _ I.st (Nat.le_refl _), fin H' I⟩
/-- all(elt for tg in iter if ..) -/
theorem d_allG {pi pt pe : Bool} {c P : Addr} {k : Nat} {elt tg iter : Expr} {ifs : List Expr} {scope : Scope} {own : List (Str × Nat)} {p pos gpos : Pos} {mi : M (List W)} {g : GW} {is : List Nat} {t : M Bool} {e : M W}
    (hr : Room (k + 1) X.A) (hm : X.mg "all" = none) (TB : GxR.TabB X.base X.mg c P) (hcode : X.env.code = .ref c) (hP : Y.Ex P tN) (S : GxScope X scope own) (hN : X.N.Nodup) (hc : X.calm = true) (hi : DI X Y pi tg iter mi) (his : ∀ i ∈ is, i ∈ own.map (·.2))
    (hg : ∀ (A : Around) (s : Shared) (H : Hp) (cl : List (Str × Addr)) (C : Addr) (code : Value) (fp : List Addr) (pn : List (Addr × Obj)), Room k A → DG (gxC X A s H (genEnv scope cl C code builtinsNs X.env) fp pn) Y.blk tg g is)
    (ht : ∀ (A : Around) (s : Shared) (H : Hp) (cl : List (Str × Addr)) (C : Addr) (code : Value) (fp : List Addr) (pn : List (Addr × Obj)), Room k A → DTs (gxC X A s H (genEnv scope cl C code builtinsNs X.env) fp pn) Y.blk pt ifs t)
    (he : ∀ (A : Around) (s : Shared) (H : Hp) (cl : List (Str × Addr)) (C : Addr) (code : Value) (fp : List Addr) (pn : List (Addr × Obj)), Room k A → DE (gxC X A s H (genEnv scope cl C code builtinsNs X.env) fp pn) Y.blk pe elt e)
    (hgl : Gl X "all" := by rfl) (hs : ∀ v, genFold iter X.env v = pure v := by intro _; rfl)
    (hst : starEach [.GeneratorExp elt [⟨tg, iter, ifs, 0⟩] scope gpos] X.env = (false, eval (.GeneratorExp elt [⟨tg, iter, ifs, 0⟩] scope gpos) X.env) :: starEach [] X.env := by rfl) :
    DE X Y (pi && (pt && pe)) (.Call (.Name "all" p) [.GeneratorExp elt [⟨tg, iter, ifs, 0⟩] scope gpos] [] pos) (mGx false (own.map (·.2)) mi g t e) := by
  obtain ⟨wi, hpi, hwi⟩ := hi.pi
  exact ⟨pe_weak (pe_allG hr hm TB hcode S hN hc hpi (fun A s H cl C code fp pn r => (hg A s H cl C code fp pn r).pg) (fun A s H cl C code fp pn r => (ht A s H cl C code fp pn r).pts) (fun A s H cl C code fp pn r => (he A s H cl C code fp pn r).pe) hgl hs hst)
    (t_gx hP hwi (hg X.A {} noH [] 0 .none [] [] (hr.mono (Nat.le_succ k))).only his)⟩
theorem d_anyG {pi pt pe : Bool} {c P : Addr} {k : Nat} {elt tg iter : Expr} {ifs : List Expr} {scope : Scope} {own : List (Str × Nat)} {p pos gpos : Pos} {mi : M (List W)} {g : GW} {is : List Nat} {t : M Bool} {e : M W}
    (hr : Room (k + 1) X.A) (hm : X.mg "any" = none) (TB : GxR.TabB X.base X.mg c P) (hcode : X.env.code = .ref c) (hP : Y.Ex P tN) (S : GxScope X scope own) (hN : X.N.Nodup) (hc : X.calm = true) (hi : DI X Y pi tg iter mi) (his : ∀ i ∈ is, i ∈ own.map (·.2))
    (hg : ∀ (A : Around) (s : Shared) (H : Hp) (cl : List (Str × Addr)) (C : Addr) (code : Value) (fp : List Addr) (pn : List (Addr × Obj)), Room k A → DG (gxC X A s H (genEnv scope cl C code builtinsNs X.env) fp pn) Y.blk tg g is)
    (ht : ∀ (A : Around) (s : Shared) (H : Hp) (cl : List (Str × Addr)) (C : Addr) (code : Value) (fp : List Addr) (pn : List (Addr × Obj)), Room k A → DTs (gxC X A s H (genEnv scope cl C code builtinsNs X.env) fp pn) Y.blk pt ifs t)
    (he : ∀ (A : Around) (s : Shared) (H : Hp) (cl : List (Str × Addr)) (C : Addr) (code : Value) (fp : List Addr) (pn : List (Addr × Obj)), Room k A → DE (gxC X A s H (genEnv scope cl C code builtinsNs X.env) fp pn) Y.blk pe elt e)
    (hgl : Gl X "any" := by rfl) (hs : ∀ v, genFold iter X.env v = pure v := by intro _; rfl)
    (hst : starEach [.GeneratorExp elt [⟨tg, iter, ifs, 0⟩] scope gpos] X.env = (false, eval (.GeneratorExp elt [⟨tg, iter, ifs, 0⟩] scope gpos) X.env) :: starEach [] X.env := by rfl) :
    DE X Y (pi && (pt && pe)) (.Call (.Name "any" p) [.GeneratorExp elt [⟨tg, iter, ifs, 0⟩] scope gpos] [] pos) (mGx true (own.map (·.2)) mi g t e) := by
  obtain ⟨wi, hpi, hwi⟩ := hi.pi
  exact ⟨pe_weak (pe_anyG hr hm TB hcode S hN hc hpi (fun A s H cl C code fp pn r => (hg A s H cl C code fp pn r).pg) (fun A s H cl C code fp pn r => (ht A s H cl C code fp pn r).pts) (fun A s H cl C code fp pn r => (he A s H cl C code fp pn r).pe) hgl hs hst)
    (t_gx hP hwi (hg X.A {} noH [] 0 .none [] [] (hr.mono (Nat.le_succ k))).only his)⟩
end
/-! ### a def whose code object is known -/
structure FunC (K : PySem.W.Frag) (x qual : Str) (st : Stmt) (f : Addr) (fd : FuncData) (c : Addr) : Prop where
  ex : ∃ (oc : Value) (od : Option Addr) (kV doc pm : Value) (an : Option Addr) (ct : Value) (osl : Array (Option Value)),
    fd = PySem.W.fnOf x qual (defArgs st) (defBody st) (defScope st) .none kV doc pm an (.ref c) ct ∧ K.lookup f = some ⟨oc, od, .func fd, osl⟩ ∧ PySem.W.codeIn K (.ref c) qual = true
  kp : PySem.W.keepIn K (.ref f) = true
theorem funC_mk {K : PySem.W.Frag} {x qual : Str} {st : Stmt} {f c : Addr} {oc : Value} {od an : Option Addr} {osl : Array (Option Value)} {kV doc pm ct : Value} (l : K.lookup f = some ⟨oc, od, .func (PySem.W.fnOf x qual (defArgs st) (defBody st) (defScope st) .none kV doc pm an (.ref c) ct), osl⟩)
    (h : PySem.W.codeIn K (.ref c) qual = true) (k : PySem.W.keepIn K (.ref f) = true) : FunC K x qual st f (PySem.W.fnOf x qual (defArgs st) (defBody st) (defScope st) .none kV doc pm an (.ref c) ct) c := ⟨⟨oc, od, kV, doc, pm, an, ct, osl, rfl, l, h⟩, k⟩
section
variable {P : Program} {w : World} {K : PySem.W.Frag} {mg : Str → Option Value} {base : Heap} {T : Nat → Value} {on : On}
theorem fn_Vc {x qual : Str} {st : Stmt} {f c : Addr} {fd : FuncData} {N ps : List Str} {k np : Nat} {m : MS} (F : FunC K x qual st f fd c) (S : FnScope N ps (defScope st)) (hps : ps.length = np) (hnp : np ≤ N.length)
    (hb : ∀ (A : Around) (outer : List Env) (s : Shared) (H : Hp) (E : XK), Room k (A.deeper (envOfC qual (defScope st) s.heap.objs.size f (.ref c))) → DSs (cxOf (L2N.CX P w) P w K mg base N qual (defScope st) f (.ref c) A outer s H E) (Yf T on E) (defBody st) m) :
    FnOk P w K mg base (L2N.CX P w) (k + 1) f fd ps (spV K T on (runV N.length m) np) := by
  obtain ⟨oc, od, kV, doc, pm, an, ct, osl, rfl, lk, hcd⟩ := F.ex
  refine fn_of lk hcd S (fun vs H Q E h => ?_) fun A outer s H vs Q E hr h => ⟨_, (hb A outer s H E hr).ps, tS_V hnp rfl h⟩
  obtain ⟨Oc, ws, hl, oc, r, h⟩ := h
  rw [r.length, hl, hps]
theorem fn_Pc {x qual : Str} {st : Stmt} {f c : Addr} {fd : FuncData} {N ps : List Str} {k np : Nat} {m : MS} (F : FunC K x qual st f fd c) (S : FnScope N ps (defScope st)) (hps : ps.length = np) (hnp : np ≤ N.length)
    (hb : ∀ (A : Around) (outer : List Env) (s : Shared) (H : Hp) (E : XK), Room k (A.deeper (envOfC qual (defScope st) s.heap.objs.size f (.ref c))) → DSs (cxOf (L2N.CX P w) P w K mg base N qual (defScope st) f (.ref c) A outer s H E) (Yf T on E) (defBody st) m) :
    FnOk P w K mg base (L2N.CX P w) (k + 1) f fd ps (spP K T on (runP N.length m) np) := by
  obtain ⟨oc, od, kV, doc, pm, an, ct, osl, rfl, lk, hcd⟩ := F.ex
  refine fn_of lk hcd S (fun vs H Q E h => ?_) fun A outer s H vs Q E hr h => ⟨_, (hb A outer s H E hr).ps, tS_P hnp rfl h⟩
  obtain ⟨Oc, p, vs', u, ws, rfl, hl, oc, no, ob, r, h⟩ := h
  rw [List.length_cons, r.length, hl, hps]
end
end Qd
end
section
set_option Elab.async false
set_option linter.all false
set_option maxRecDepth 100000
set_option maxHeartbeats 1000000
/-! The end of a law with tables of code objects. -/
namespace Qd
open PySem PySem.Spec PyProof.Rows L2
/-- the tables seen as such, whatever stands in them -/
def extT (cs : List (Addr × Addr)) (H : Hp) : Hp := fun a => if a ∈ cs.map (·.2) then some (tabO a) else H a
/-- a promise over a heap whose tables are empty at first -/
def spTab (cs : List (Addr × Addr)) (sp : Sp) : Sp := fun vs H Q E => (∀ p ∈ cs, H p.2 = some (.tbl #[])) ∧ (E = fun _ _ _ => False) ∧ (∀ H3, Q (.bl true) H3) ∧ sp vs (extT cs H) (fun v H2 => v = .bl true ∧ ∀ p ∈ cs, H2 p.2 = some (tabO p.2)) fun _ _ _ => False
theorem fn_tabs {P : Program} {w : World} {K : PySem.W.Frag} {mg : Str → Option Value} {base : Heap} {CX : CXT} {k : Nat} {f : Addr} {fd : FuncData} {ps : List Str} {sp : Sp} (cs : List (Addr × Addr)) (hCX : ∀ outer H s e s', CX outer H s (fun _ _ _ => False) e s' → False) (F : FnOk P w K mg base CX k f fd ps sp) : FnOk P w K mg base CX k f fd ps (spTab cs sp) := by
  refine ⟨fun vs H Q E h => F.len _ _ _ _ h.2.2.2, fun A outer s H args us vs Q E hr e0 hb hv hsp => ?_⟩
  obtain ⟨hT, rfl, hQ, hs⟩ := hsp
  have inT : ∀ {b : Addr}, b ∈ cs.map (·.2) → H b = some (.tbl #[]) := fun {b} hb => by
    obtain ⟨p, hp, e⟩ := List.mem_map.mp hb
    rw [← e]; exact hT p hp
  have out : ∀ {b : Addr}, H b ≠ some (.tbl #[]) → extT cs H b = H b := fun {b} h => if_neg fun z => h (inT z)
  have outN : ∀ {b : Addr}, H b = none → extT cs H b = none := fun {b} h => (out (by rw [h]; exact fun z => by cases z)).trans h
  have hok : HOk P w (extT cs H) s.heap := fun b u e => by
    by_cases hb : b ∈ cs.map (·.2)
    · have e' : extT cs H b = some (tabO b) := if_pos hb
      rw [e'] at e; cases e
      exact tabO_ok (ps := #[]) (e0.hok b _ (inT hb)) (by trivial)
    · have e' : extT cs H b = H b := if_neg hb
      rw [e'] at e
      exact (e0.hok b u e).stay (fun _ _ _ q => q) (fun d q => by rw [out (by rw [q]; exact fun z => by cases z)]; exact q) fun d xs q => by rw [out (by rw [q]; exact fun z => by cases z)]; exact q
  have e1 : Env0 P w K mg base A outer s (extT cs H) := ⟨e0.frames, e0.mod, fun b o e => ⟨(e0.bs b o e).1, outN (e0.bs b o e).2⟩, e0.bsz, e0.funs, fun b z => outN (e0.frf b z), hok, e0.bare⟩
  refine codeAny_mono (F.run A outer s (extT cs H) args us vs _ _ hr e1 hb hv hs) fun r s' h => ?_
  cases r with
  | error e => exact (hCX _ _ _ _ _ h).elim
  | ok fl =>
    cases fl with
    | next => exact h
    | brk => exact h
    | cont => exact h
    | ret u =>
      obtain ⟨v, H2, os, bare, un, hok2, rv, ev, ht2⟩ := h
      subst ev
      have in2 : ∀ {b : Addr}, b ∈ cs.map (·.2) → ∃ qs : Array Value, s'.heap.get? b = some { cls := .none, data := .fields qs } := fun {b} hb => by
        obtain ⟨p, hp, e⟩ := List.mem_map.mp hb
        have e2 := ht2 p hp
        rw [e] at e2
        obtain ⟨⟨qs, e3, _⟩, _⟩ := hok2 b _ e2
        exact ⟨qs, e3⟩
      -- the tables as they stand in the end
      let H3 : Hp := fun a => if h : a ∈ cs.map (·.2) then some (.tbl (Classical.choose (in2 h))) else H2 a
      have h3n : ∀ {b : Addr}, b ∉ cs.map (·.2) → H3 b = H2 b := fun {b} h => dif_neg h
      have h3t : ∀ {b : Addr}, b ∈ cs.map (·.2) → ∃ qs, H3 b = some (.tbl qs) ∧ s'.heap.get? b = some { cls := .none, data := .fields qs } := fun {b} h => ⟨_, dif_pos h, Classical.choose_spec (in2 h)⟩
      have nT : ∀ {b : Addr}, H b ≠ some (.tbl #[]) → b ∉ cs.map (·.2) := fun {b} h z => h (inT z)
      have nT2 : ∀ {b : Addr} {u : HO}, H2 b = some u → u ≠ tabO b → b ∉ cs.map (·.2) := fun {b u} e n z => by
        obtain ⟨p, hp, ep⟩ := List.mem_map.mp z
        have e2 := ht2 p hp
        rw [ep, e] at e2
        exact n (Option.some.inj e2)
      have hok3 : HOk P w H3 s'.heap := fun b u e => by
        by_cases hb : b ∈ cs.map (·.2)
        · obtain ⟨qs, e3, e4⟩ := h3t hb
          rw [e3] at e; cases e
          exact e4
        · rw [h3n hb] at e
          exact (hok2 b u e).stay (fun _ _ _ q => q) (fun d q => by rw [h3n (nT2 q fun z => by cases z)]; exact q) fun d xs q => by rw [h3n (nT2 q fun z => by cases z)]; exact q
      refine ⟨.bl true, H3, os, bare, ⟨fun b o e n hf hx => un.keep b o e (outN n) hf hx, fun b o e n hf hx => un.slot b o e (outN n) hf hx, fun b o e n hx => ?_, fun b o e hx => un.there b o e hx, fun b xs e => ?_, fun b o u e => ?_, fun b qs e => ?_⟩, hok3, rv, hQ H3⟩
      · rw [h3n (nT (by rw [n]; exact fun z => by cases z))]
        exact un.free b o e (outN n) hx
      · have nb := nT (b := b) (by rw [e]; exact fun z => by cases z)
        rw [h3n nb]
        exact un.tups b xs ((out (by rw [e]; exact fun z => by cases z)).trans e)
      · have nb := nT (b := b) (by rw [e]; exact fun z => by cases z)
        rw [h3n nb]
        exact un.frzs b o u ((out (by rw [e]; exact fun z => by cases z)).trans e)
      · by_cases hb : b ∈ cs.map (·.2)
        · rw [inT hb] at e
          cases e
          obtain ⟨qs, e3, _⟩ := h3t hb
          exact ⟨qs, by rw [e3, Array.empty_append]⟩
        · obtain ⟨more, e2⟩ := un.tbls b qs ((if_neg hb : extT cs H b = H b).trans e)
          exact ⟨more, by rw [h3n hb]; exact e2⟩
theorem sqL_ext {K : PySem.W.Frag} {H : Hp} {a : Addr} {xs : List V} {cs : List (Addr × Addr)} (hT : ∀ p ∈ cs, H p.2 = some (.tbl #[])) (h : SqL K H a xs) : Rd (extT cs H) a (.lst xs) ∨ SqL K noH a xs := by
  have inT : ∀ {b : Addr}, b ∈ cs.map (·.2) → H b = some (.tbl #[]) := fun {b} hb => by
    obtain ⟨p, hp, e⟩ := List.mem_map.mp hb
    rw [← e]; exact hT p hp
  rcases h with (h | ⟨o, h⟩) | h
  · exact .inl (.inl ((if_neg fun z => by rw [inT z] at h; cases h).trans h))
  · exact .inl (.inr ⟨o, (if_neg fun z => by rw [inT z] at h; cases h).trans h⟩)
  · exact .inr (.inr h)
theorem FunC.binds {K : PySem.W.Frag} {x qual : Str} {st : Stmt} {f c : Addr} {fd : FuncData} {ps : List Str} (F : FunC K x qual st f fd c)
    (h : ∀ (kV doc pm : Value) (an : Option Addr) (cdv ct : Value) (us : List Value), us.length = ps.length → bindArgs (PySem.W.fnOf x qual (defArgs st) (defBody st) (defScope st) .none kV doc pm an cdv ct) ⟨us, []⟩ = pure (ps.zip us)) : Binds K fd ps [] := by
  obtain ⟨oc, od, kV, doc, pm, an, ct, osl, rfl, lk, hcd⟩ := F.ex
  exact .all (h kV doc pm an (.ref c) ct)
/-- a def's code object and its table -/
theorem tab_in {K : PySem.W.Frag} {x : Str} {f c P : Addr} {oc o2 : Value} {od d2 : Option Addr} {fd : FuncData} {vs : Array Value} {sl s2 : Array (Option Value)} (g : PySem.W.nsIn K mainGlobals x = some (some (.ref f))) (l : K.lookup f = some ⟨oc, od, .func fd, sl⟩) (hc : fd.code = .ref c)
    (lc : K.lookup c = some ⟨o2, d2, .fields vs, s2⟩) (hv : (vs[11]? : Option Value) = some (.ref P)) : PySem.W.tabIn K x = some (c, P) := by
  unfold PySem.W.tabIn
  rw [g]
  dsimp only
  rw [l]
  dsimp only
  rw [hc]
  dsimp only
  rw [lc]
  dsimp only
  rw [hv]
/-- the law's promise, from its answer by data -/
theorem sp_tabs {K : PySem.W.Frag} {T : Nat → Value} {F : FV} {cs : List (Addr × Addr)} {H : Hp} {a : Addr} {ns : List Int} (h1 : F [.list (ns.map PyData.int)] = .ok (.val (.bool true))) (hT : ∀ p ∈ cs, H p.2 = some (.tbl #[])) (hS : SqL K H a (ns.map V.int)) :
    spTab cs (spV K T (offT fun b => b ∈ cs.map (·.2)) F 1) [.ref a] H (fun v _ => v = .bl true) fun _ _ _ => False := by
  refine ⟨hT, rfl, fun _ => rfl, fun _ => False, [.list (ns.map PyData.int)], rfl, ⟨fun _ z => z.elim, fun b z => ?_⟩, .cons (.lst ?_ (RpA.of_ints ns)) .nil, ?_⟩
  · rcases z with ⟨z, _⟩ | ⟨_, z⟩
    · cases z
    · exact ⟨if_pos z, fun z => z⟩
  · rcases sqL_ext hT hS with r | r
    · exact .inl ⟨fun z => z, r⟩
    · exact .inr r
  · rw [h1]
    intro H' v sm rv
    cases rv
    exact ⟨rfl, fun p hp => sm _ _ (if_pos (List.mem_map.mpr ⟨p, hp, rfl⟩))⟩
/-- the walk; the tables of the defs called xs -/
theorem walk_tabs {l : PySem.W.OpenLaw} {n k : Nat} {q : Program} {loose : List Str} {XP : (Str → Option Value) → Heap → Prop} {YP : World → Heap → Prop} {d : DefRec} {K : Params → PySem.W.Frag} {CX : World → CXT} {x : Str} (xs : List Str)
    (hn : l.most = some n) (hn2 : n ≤ sizeLine) (hdf : d.params.defaults = []) (hr : Room k callerA) (hrec : (xs.all fun x => (recsOf q).any fun e => e.name == x) = true) (hY : ∀ (w : World) (h : Heap), YP w h → (K w.params).In h)
    (F : ∀ (w : World) (mg : Str → Option Value) (fa : Addr) (h : Heap), YP w h → (K w.params).In h → h.Ns mainGlobals mg → mg d.name = some (.ref fa) → (∀ y ∈ xs, ∀ c P, PySem.W.tabIn (K w.params) y = some (c, P) → PySem.W.CodeHd h c P ∧ h.get? P = some { cls := .none, data := .fields #[] }) → LamX.LawAtS l w (K w.params) (CX w) k n x mg fa h)
    (hCX : ∀ (w : World) (H : Hp) (s : Shared) (e : Value) (s' : Shared), CX w [] H s (fun _ _ _ => False) e s' → False) :
    PySem.W.WalkO q loose XP YP l.row.toRowW d [] (fun f vs => PySem.call f vs) := by
  refine Att.attach_callB hn hdf fun w s0 s1 mg mb fa ob pm cd doc av vs ns Gr Y ho hd hcd hmg hobj hin hlen hbits hgn => ?_
  have KX := hY w _ Y
  have tabs : ∀ y ∈ xs, ∀ c P, PySem.W.tabIn (K w.params) y = some (c, P) → PySem.W.CodeHd s1.heap c P ∧ s1.heap.get? P = some { cls := .none, data := .fields #[] } := fun y hy c P e => by
    obtain ⟨dd, hm, hnn⟩ := List.any_eq_true.mp (List.all_eq_true.mp hrec y hy)
    cases hfd : (recsOf q).find? (fun e => e.name == y) with
    | none => exact absurd hnn (by have := List.find?_eq_none.mp hfd dd hm; simpa using this)
    | some d2 => exact PySem.W.tab_of Gr.T KX hfd e
  obtain ⟨fd, cs, sp, hT, nT, C, hb, hsp, hF⟩ := F w mg fa _ Y KX Gr.T.g hmg tabs
  exact LamX.law_callTs KX Gr.T.g Gr.T.b Gr.T.builtins Gr.T.nolimit hgn hT nT C Gr.T.bmain hobj hin (Nat.le_trans hlen hn2) hr hF hb (fun H hH hS => hsp H av ns hlen hbits hH hS) fun H e s' => hCX w H s1 e s'
end Qd
end
section
set_option Elab.async false
set_option linter.all false
set_option maxRecDepth 100000
set_option maxHeartbeats 1000000
/-! list(reversed(x)), x a list. -/
namespace Qd
open PySem PySem.Spec PyProof.Rows L2
section
variable {prog : Program} {w : World} {A : Around} {E : Value → Shared → Prop} {s : Shared}
theorem call_list_rev {it l : Addr} {items : Array Value} {Q : Value → Shared → Prop} (hh : A.handled = none) (hit : s.heap.IsRevIter it l ((items.size : Int) - 1)) (hl : s.heap.IsList l items) (hne : l ≠ it) (hn : items.size ≤ sizeLine)
    (hQ : ∀ (h' : Heap) (tk : Nat) (acc : Array Value) (c : Nat), (∀ b o, b ≠ it → s.heap.get? b = some o → h'.get? b = some o) → h'.get? s.heap.objs.size = some { cls := .type "list", dict := none, data := .seq acc c, slots := #[] } → ItemsOf (fun i v => items[items.size - 1 - i]? = some v) acc items.size →
      Q (.ref s.heap.objs.size) { s with heap := h', toks := tk }) :
    wpAny (model prog w) A (call (.type "list") [.ref it]) Q E s := by
  have W := (Walks.listRev (prog := prog) (w := w) (A := A.in1.in1) hh it l hne items).toS
  obtain ⟨oi, hoi, _⟩ := id hit
  obtain ⟨ol, hol, _⟩ := id hl
  have hSi : s.heap.objs.size ≠ it := Nat.ne_of_gt (Heap.lt_size hoi)
  have hSl : s.heap.objs.size ≠ l := Nat.ne_of_gt (Heap.lt_size hol)
  have hSf : s.heap.objs.size ∉ [it, l] := by simp only [List.mem_cons, List.not_mem_nil, or_false, not_or]; exact ⟨hSi, hSl⟩
  refine callType_codes (Q₁ := fun obj s₁ => obj = .ref s.heap.objs.size ∧ s₁ = { s with heap := s.heap.push { cls := .type "list", data := .seq #[] } }) F.called_list (F.typeCall_list_1 _) F.entry_list_init
    (code_list_new _ ⟨rfl, rfl⟩) fun obj s₁ h₁ => ?_
  obtain ⟨rfl, rfl⟩ := h₁
  have hS : (s.heap.push { cls := .type "list", data := .seq #[] }).get? s.heap.objs.size = some { cls := .type "list", data := .seq #[] } := Heap.get?_push_size _ rfl
  refine ⟨⟨_, hS, rfl⟩, F.args_list_init_2 _ _, ?_⟩
  show wpAny _ A.in1.in1 (do let old ← Builtin.List.listItems (.ref s.heap.objs.size); Builtin.List.listUpdate (.ref s.heap.objs.size) (fun _ => #[]); letGo old.toList.reverse; Builtin.List.listExtendWith (.ref s.heap.objs.size) (.ref it) .none) _ _ _
  refine wpAny_bind ?_
  unfold Builtin.List.listItems
  refine wpAny_bind (wpAny_seqItems hS rfl (wpAny_pure ?_))
  show wpAny _ A.in1.in1 (updateSeq s.heap.objs.size (fun _ => #[]) >>= fun _ => letGo (#[] : Array Value).toList.reverse >>= fun _ => Builtin.List.listExtendWith (.ref s.heap.objs.size) (.ref it) .none) _ _ _
  refine wpAny_bind (wpAny_updateSeq hS rfl ?_)
  have hS2 := Heap.get?_update_self (Obj.mapSeq (fun _ => (#[] : Array Value))) hS rfl
  refine wpAny_bind (wpAny_letGo ?_)
  have k1 : ∀ b o, s.heap.get? b = some o → ((s.heap.push { cls := .type "list", data := .seq #[] }).update s.heap.objs.size (Obj.mapSeq (fun _ => (#[] : Array Value)))).get? b = some o := fun b o e =>
    (Heap.get?_update_other _ _ (Ne.symm (Nat.ne_of_lt (Heap.lt_size e)))).trans (Heap.get?_push_of_some _ e)
  have hit1 := hit.at fun o e => k1 it o e
  have hl1 : ((s.heap.push { cls := .type "list", data := .seq #[] }).update s.heap.objs.size (Obj.mapSeq (fun _ => (#[] : Array Value)))).IsList l items := let ⟨o, a, b⟩ := hl; ⟨o, k1 l o a, b⟩
  have hT := Heap.IsRevIter.typeIs (s := { s with heap := (s.heap.push { cls := .type "list", data := .seq #[] }).update s.heap.objs.size (Obj.mapSeq (fun _ => (#[] : Array Value))) }) hit1
  have h1 : Builtin.List.listSameRef (.ref s.heap.objs.size) (.ref it) = false := by simp [Builtin.List.listSameRef, hSi]
  unfold Builtin.List.listExtendWith
  refine wpAny_bind (wpAny_typeOf hT ?_)
  rw [if_neg (by rw [h1]; decide)]
  refine wpAny_bind (wpAny_pyIter_revIter (s := { s with heap := _ }) hit1 ?_)
  refine wpAny_bind (wpAny_holding ?_)
  unfold Builtin.List.listLengthHint
  refine wpAny_bind (wpAny_specialOf hT RT.nolen_lri ?_)
  show wpAny _ A.in1.in1 (specialOf (Value.ref it) (Str.ofString "__length_hint__") >>= _) _ _ _
  refine wpAny_bind (wpAny_specialOf hT RT.hint_lri ?_)
  generalize hid : ("list_reverseiterator.__length_hint__" : String) = id0
  wp_delta
  rw [show splitId id0 = some ("list_reverseiterator", "__length_hint__") from by subst hid; decide +kernel]
  subst hid
  refine wpAny_bind (wpAny_isInstance (b := true) hT (by rw [isSubtype_type]; kernel_rfl) ?_)
  refine wpAny_pure ?_
  rw [if_neg (by decide)]
  have e0 : ((items.size : Nat) : Int) - 1 - ((0 : Nat) : Int) = (items.size : Int) - 1 := by omega
  refine wpAny_pure ⟨plainId_quiet F.plain_extend_loop _, codeAny_extend_loopS (A := A.in1) W hn _ hSf _ items.size 0 _ _ _ rfl (Nat.zero_le _) ⟨Nat.zero_le _, by rw [e0]; exact hit1, hl1⟩ hS2 (ItemsOf.nil _) fun s' acc' c' hm hS' hacc => ?_⟩
  rw [Moved.eq_with hm]
  refine ⟨rfl, hQ s'.heap s'.toks acc' c' (fun b o hb e => hm.heap b o (fun hmem => ?_) (k1 b o e)) hS' hacc⟩
  rcases List.mem_cons.mp hmem with e' | hmem
  · exact absurd (Heap.lt_size e) (by rw [e']; exact Nat.lt_irrefl _)
  · exact hb (List.mem_singleton.mp hmem)
end
/-! ### list(reversed(x)) -/
def tListRev (K : PySem.W.Frag) (te : TE) : TE := fun σ H Q => te σ H fun v H1 => ∃ (a : Addr) (xs : List V), v = .ref a ∧ SqL K H1 a xs ∧ ∀ q, H1 q = none → Q (.ref q) (upd H1 q (.lst xs.reverse))
section
variable {X : Cx} {Y : Yx}
theorem pe_listRev {e : Expr} {te : TE} {p p2 pos pos2 : Pos} (hc : X.calm = true) (hm : X.mg "list" = none) (hm2 : X.mg "reversed" = none) (he : PE X e te) (hg : Gl X "list" := by rfl) (hg2 : Gl X "reversed" := by rfl)
    (hs : starEach [e] X.env = (false, eval e X.env) :: starEach [] X.env := by rfl)
    (hs2 : starEach [.Call (.Name "reversed" p2) [e] [] pos2] X.env = (false, eval (.Call (.Name "reversed" p2) [e] [] pos2) X.env) :: starEach [] X.env := by rfl) :
    PE X (.Call (.Name "list" p) [.Call (.Name "reversed" p2) [e] [] pos2] [] pos) (tListRev X.K te) := by
  refine ⟨fun pins s σ H Q I h => ?_⟩
  refine Call_ (ld_blt I hg hm (by decide +kernel : bootBuiltins "list" = some (.type "list")) (PyProof.Rows.callWith_type1 (args_cons (Call_ (ld_blt I hg2 hm2 PyProof.Rows.boot_reversed (PyProof.Rows.callWith_type1 (args_cons (thn (he.run pins s σ H _ I h) fun u s1 ⟨v, H1, I1, r1, q1⟩ => args_nil ?_) hs) hs rfl))) hs2) hs2 rfl))
  obtain ⟨a, xs, ev, hq, q⟩ := q1
  subst ev
  obtain rfl : u = Value.ref a := r1
  obtain ⟨its, rv, p', hz⟩ := I1.list hq
  refine call_reversed_list p'.isList (args_nil ?_)
  have k0 : ∀ b o, s1.heap.get? b = some o → (s1.heap.push (revObj a ((its.toArray.size : Int) - 1))).get? b = some o := fun b o e => Heap.get?_push_of_some _ e
  have I2 : Inv X pins σ H1 { s1 with heap := s1.heap.push (revObj a ((its.toArray.size : Int) - 1)) } := I1.kept (t' := s1.toks) k0
  obtain ⟨f0, f1, f2, f3, f4, f5⟩ := I1.fpOk (H' := H1) (b := s1.heap.objs.size) (Nat.le_refl _) (I1.hok.fresh (Nat.le_refl _))
  have hl := p'.isList
  obtain ⟨ol, hol, _⟩ := id hl
  have hne : a ≠ s1.heap.objs.size := Nat.ne_of_lt (Heap.lt_size hol)
  have hn : its.toArray.size ≤ sizeLine := by rw [List.size_toArray, ← rv.length]; exact hz
  refine call_list_rev (s := { s1 with heap := s1.heap.push (revObj a ((its.toArray.size : Int) - 1)) }) (I1.ok.hd hc) ⟨_, Heap.get?_push_size _ rfl, rfl, rfl⟩ (hl.push _) hne hn fun h' tk acc c hk hS hi => ?_
  have I3 : Inv X pins σ H1 { s1 with heap := h', toks := tk } := I2.turned (t' := tk) (fun b o hb e => hk b o hb e) f0 f1 f3 f4 f5
  generalize hSg : (s1.heap.push (revObj a ((its.toArray.size : Int) - 1))).objs.size = S at hS ⊢
  have hS0 : H1 S = none := I2.hok.fresh (Nat.le_of_eq hSg)
  refine ⟨.ref S, upd H1 S (.lst xs.reverse), ?_, rfl, q S hS0⟩
  refine I2.drained (ex := [s1.heap.objs.size]) (out := xs.reverse) (Nat.le_of_eq hSg) (by rw [List.length_reverse]; exact hz) hS (RT.vals_rev rv hi) (fun b hb => ?_) rfl I3.bare ?_ I3.hok hS0
  · rw [List.mem_singleton.mp hb]; exact ⟨f3, f1, f4, f5⟩
  · have nb : ∀ b, b ∉ [s1.heap.objs.size] → b ≠ s1.heap.objs.size := fun b hb z => hb (by rw [z]; exact List.mem_singleton.mpr rfl)
    exact ⟨fun b o e _ _ hx => hk b o (nb b hx) e, fun b o e _ _ hx => ⟨o.slots, hk b o (nb b hx) e⟩, fun _ _ _ n _ => n, fun b o e hx => ⟨o, hk b o (nb b hx) e⟩, fun _ _ e => e, fun _ _ _ e => e, fun _ ps e => ⟨#[], by rw [e]; simp⟩⟩
def mListRev (a : M W) : M W := fun d => (a d).bind fun w d1 => match w with
  | .list ws => .ok (.list ws.reverse) d1
  | _ => .bad
theorem df_listRev {pu : Bool} {e : Expr} {p p2 pos pos2 : Pos} {m : M W} (hc : X.calm = true) (hm : X.mg "list" = none) (hm2 : X.mg "reversed" = none) (he : DE X Y pu e m) (hg : Gl X "list" := by rfl) (hg2 : Gl X "reversed" := by rfl)
    (hs : starEach [e] X.env = (false, eval e X.env) :: starEach [] X.env := by rfl)
    (hs2 : starEach [.Call (.Name "reversed" p2) [e] [] pos2] X.env = (false, eval (.Call (.Name "reversed" p2) [e] [] pos2) X.env) :: starEach [] X.env := by rfl) :
    DF X Y pu (.Call (.Name "list" p) [.Call (.Name "reversed" p2) [e] [] pos2] [] pos) (mListRev m) := ⟨by
  refine pe_weak (pe_listRev hc hm hm2 he.pe hg hg2 hs hs2) fun σ H Q h => ?_
  obtain ⟨Oc, d, rs, h⟩ := h
  refine ⟨Oc, d, rs, (Po.bind1 h).imp fun w d1 H1 g1 h1 v r => ?_⟩
  cases r with
  | lst l r =>
    refine ⟨_, _, rfl, l.sq, fun q np => ?_⟩
    exact h1 _ (.same g1.rs (same_new np)) q (g1.free np) (g1.rs.withNew np) ⟨_, upd_same, (RpA.reverse r).mono (ke_new np) fun _ _ z => z⟩
  | _ => exact h1.elim⟩
/-! ### more that is walked -/
theorem wk_rev {K : PySem.W.Frag} {Ex : Addr → Nat → Prop} {a : Addr} {ws : List W} : Wk K Ex (Itv K a ws.length) (fun O H => ∃ xs, LAt K O H a xs ∧ RpA K Ex O H xs ws) ws.reverse where
  keep := fun O H O' H' k ⟨xs, l, r⟩ => ⟨xs, l.mono k, r.mono k fun _ _ z => z⟩
  go := fun O H i ⟨xs, l, r⟩ hi => by
    rw [List.length_reverse] at hi
    have : ws.length - 1 - i < xs.length := by rw [r.length]; omega
    exact ⟨hi, xs, xs[ws.length - 1 - i], l.sq, List.getElem?_eq_getElem this⟩
  yld := fun O H i x H' _ ⟨xs, l, r⟩ ⟨e, y⟩ => by
    subst e
    refine ⟨.refl _, fun w hw => ?_⟩
    obtain ⟨lt, _⟩ := List.getElem?_eq_some_iff.mp hw
    rw [List.length_reverse] at lt
    rw [List.getElem?_reverse lt] at hw
    obtain ⟨v, hv, rv⟩ := r.get hw
    rw [y xs l.sq] at hv
    cases hv
    exact rv
  stop := fun O H i _ hi => by rw [List.length_reverse] at hi; exact hi
theorem wk_revT {K : PySem.W.Frag} {Ex : Addr → Nat → Prop} {a : Addr} {ws : List W} : Wk K Ex (RT.ItvT K a ws.length) (fun O H => ∃ xs, TAt K Ex O H a xs ∧ RpA K Ex O H xs ws) ws.reverse where
  keep := fun O H O' H' k ⟨xs, l, r⟩ => ⟨xs, l.mono k (fun _ _ z => z), r.mono k fun _ _ z => z⟩
  go := fun O H i ⟨xs, l, r⟩ hi => by
    rw [List.length_reverse] at hi
    have : ws.length - 1 - i < xs.length := by rw [r.length]; omega
    exact ⟨hi, xs, xs[ws.length - 1 - i], l.sq, List.getElem?_eq_getElem this⟩
  yld := fun O H i x H' _ ⟨xs, l, r⟩ ⟨e, y⟩ => by
    subst e
    refine ⟨.refl _, fun w hw => ?_⟩
    obtain ⟨lt, _⟩ := List.getElem?_eq_some_iff.mp hw
    rw [List.length_reverse] at lt
    rw [List.getElem?_reverse lt] at hw
    obtain ⟨v, hv, rv⟩ := r.get hw
    rw [y xs l.sq] at hv
    cases hv
    exact rv
  stop := fun O H i _ hi => by rw [List.length_reverse] at hi; exact hi
def mItRev (a : M W) : M (List W) := fun d => (a d).bind fun w d1 => (ofOpt (itemsOf w) d1).bind fun ws d2 => .ok ws.reverse d2
theorem di_rev {pu : Bool} {tg e : Expr} {p pos : Pos} {m : M W} (hm : X.mg "reversed" = none) (h : DE X Y pu e m) (hg : Gl X "reversed" := by rfl) (hs : starEach [e] X.env = (false, eval e X.env) :: starEach [] X.env := by rfl) : DI X Y pu tg (.Call (.Name "reversed" p) [e] [] pos) (mItRev m) := by
  refine ⟨_, RT.pi_revA hg hm h.pe hs, fun σ H R h => ?_⟩
  obtain ⟨Oc, d, rs, h⟩ := h
  refine ⟨Oc, d, rs, (Po.bind1 h).imp fun w d1 H1 g1 h1 v r => ?_⟩
  cases r with
  | lst l r => exact ⟨_, _, rfl, .inl ⟨l.sq, by rw [r.length]; exact h1 H1 (.refl g1.rs) _ _ wk_rev ⟨_, l, r⟩⟩⟩
  | tup l r => exact ⟨_, _, rfl, .inr ⟨l.sq, by rw [r.length]; exact h1 H1 (.refl g1.rs) _ _ wk_revT ⟨_, l, r⟩⟩⟩
  | _ => exact h1.elim
def rangeC (lo c : Int) (n : Nat) : List W := (List.range n).map fun (i : Nat) => PyData.int (lo + (i : Int) * c)
theorem rangeC_length (lo c : Int) (n : Nat) : (rangeC lo c n).length = n := by unfold rangeC; simp
theorem wk_rangeC {K : PySem.W.Frag} {Ex : Addr → Nat → Prop} {lo c : Int} {n : Nat} : Wk K Ex (Itc lo c n) (fun _ _ => True) (rangeC lo c n) where
  keep := fun _ _ _ _ _ _ => trivial
  go := fun O H i _ hi => by rw [rangeC_length] at hi; exact hi
  yld := fun O H i x H' _ _ ⟨e, y⟩ => by
    subst e
    refine ⟨.refl _, fun w hw => ?_⟩
    unfold rangeC at hw
    rw [List.getElem?_map] at hw
    cases q : (List.range n)[i]? with
    | none => rw [q] at hw; cases hw
    | some j =>
      rw [q] at hw
      obtain ⟨hj, e⟩ := List.getElem?_eq_some_iff.mp q
      rw [List.getElem_range] at e
      subst e
      cases hw
      rw [y]
      exact .int _
  stop := fun O H i _ hi => by rw [rangeC_length] at hi; exact hi
noncomputable def range3? : List W → Option (List W)
  | [.int i, .int j, .int c] => if cdec (∃ n, RgC i j c n) = true then some (rangeC i c (Builtin.Range.rangeSize i j c).toNat) else none
  | _ => none
noncomputable def mRng3 (a : M (List W)) : M (List W) := fun d => (a d).bind fun w d1 => ofOpt (range3? w) d1
theorem di_range3 {pu : Bool} {tg a b c : Expr} {p pos : Pos} {m : M (List W)} (hm : X.mg "range" = none) (ha : DL X Y pu [a, b, c] m) (hg : Gl X "range" := by rfl)
    (hs : starEach [a, b, c] X.env = (false, eval a X.env) :: starEach [b, c] X.env := by rfl) (hpl : (backTo pos (starEach [b, c] X.env)).any (·.1) = false := by rfl) : DI X Y pu tg (.Call (.Name "range" p) [a, b, c] [] pos) (mRng3 m) := by
  refine ⟨_, pi_range3 hg hm ha.pa hs hpl, fun σ H R h => ?_⟩
  obtain ⟨Oc, d, rs, h⟩ := h
  refine ⟨Oc, d, rs, (Po.bind1 h).imp fun w d1 H1 g1 h1 v r => ?_⟩
  obtain ⟨ws, ew, k⟩ := Po.opt h1
  unfold range3? at ew
  split at ew
  · rename_i i j c
    split at ew
    · rename_i z
      obtain ⟨n, hn⟩ := cdec_iff.mp z
      cases ew
      have en : (Builtin.Range.rangeSize i j c).toNat = n := by have := hn.2.2.2; omega
      rw [en] at k
      cases r with
      | cons r1 r =>
        obtain ⟨u2, u3, rfl, r2, r3⟩ := rpA2 r
        exact ⟨i, j, c, n, by rw [rp_int r1, rp_int r2, rp_int r3], hn, k H1 (.refl g1.rs) _ _ wk_rangeC trivial⟩
    · cases ew
  · cases ew
/-! ### enumerate, zip -/
def enumW : Nat → List W → List W
  | _, [] => []
  | k, w :: r => .tuple [.int (k : Int), w] :: enumW (k + 1) r
theorem enumW_length : ∀ (k : Nat) (ws : List W), (enumW k ws).length = ws.length
  | _, [] => rfl
  | k, w :: r => by unfold enumW; rw [List.length_cons, List.length_cons, enumW_length]
theorem enumW_get : ∀ {k : Nat} {ws : List W} {i : Nat} {u : W}, (enumW k ws)[i]? = some u → ∃ w, ws[i]? = some w ∧ u = .tuple [.int ((k + i : Nat) : Int), w]
  | _, [], _, _, h => by cases h
  | k, w :: r, 0, u, h => by cases h; exact ⟨w, rfl, rfl⟩
  | k, w :: r, i + 1, u, h => by
    obtain ⟨w', h1, h2⟩ := enumW_get (k := k + 1) (ws := r) (i := i) h
    exact ⟨w', h1, by rw [h2, show k + 1 + i = k + (i + 1) by omega]⟩
def zipW : List W → List W → List W
  | a :: r, b :: t => .tuple [a, b] :: zipW r t
  | _, _ => []
theorem zipW_get : ∀ {as bs : List W} {i : Nat} {u : W}, (zipW as bs)[i]? = some u → ∃ a b, as[i]? = some a ∧ bs[i]? = some b ∧ u = .tuple [a, b]
  | [], _, _, _, h => by unfold zipW at h; cases h
  | a :: r, [], _, _, h => by unfold zipW at h; cases h
  | a :: r, b :: t, 0, u, h => by cases h; exact ⟨a, b, rfl, rfl, rfl⟩
  | a :: r, b :: t, i + 1, u, h => by
    obtain ⟨x, y, h1, h2, h3⟩ := zipW_get (as := r) (bs := t) (i := i) h
    exact ⟨x, y, h1, h2, h3⟩
theorem zipW_length : ∀ (as bs : List W), (zipW as bs).length = min as.length bs.length
  | [], _ => by unfold zipW; simp
  | a :: r, [] => by unfold zipW; simp
  | a :: r, b :: t => by unfold zipW; rw [List.length_cons, zipW_length, List.length_cons, List.length_cons]; omega
theorem new_tup {K : PySem.W.Frag} {Ex : Addr → Nat → Prop} {O : Addr → Prop} {H : Hp} {T : Addr} {xs : List V} {ws : List W} (hO : ∀ a, O a → ∃ o, H a = some o) (hT : H T = none) (r : RpA K Ex O H xs ws) : Rp K Ex O (upd H T (.tup xs)) (.ref T) (.tuple ws) := by
  have sm : Same H (upd H T (.tup xs)) := same_new hT
  exact .tup (.inl ⟨fun z => (by obtain ⟨o, e⟩ := hO T z; rw [hT] at e; cases e), upd_same⟩) (r.mono (fun a u n e => ⟨n, sm a u e⟩) fun _ _ z => z)
theorem wk_enum {K : PySem.W.Frag} {Ex : Addr → Nat → Prop} {a : Addr} {ws : List W} : Wk K Ex (Ite K a) (fun O H => ∃ xs, LAt K O H a xs ∧ RpA K Ex O H xs ws) (enumW 0 ws) where
  keep := fun O H O' H' k ⟨xs, l, r⟩ => ⟨xs, l.mono k, r.mono k fun _ _ z => z⟩
  go := fun O H i ⟨xs, l, r⟩ hi => by
    rw [enumW_length] at hi
    have : i < xs.length := by rw [r.length]; exact hi
    exact ⟨xs, xs[i], l.sq, List.getElem?_eq_getElem this⟩
  yld := fun O H i x H' hO ⟨xs, l, r⟩ ⟨T, y, e, hT, eH, hy⟩ => by
    subst eH
    refine ⟨same_new hT, fun w hw => ?_⟩
    obtain ⟨w', h1, rfl⟩ := enumW_get hw
    obtain ⟨v, hv, rv⟩ := r.get h1
    rw [hy xs l.sq] at hv
    cases hv
    subst e
    rw [Nat.zero_add]
    exact new_tup hO hT (.cons (.int _) (.cons rv .nil))
  stop := fun O H i ⟨xs, l, r⟩ hi => ⟨xs, l.sq, by rw [r.length]; rw [enumW_length] at hi; exact hi⟩
def mEnum (a : M (List W)) : M (List W) := fun d => (a d).bind fun ws d1 => match ws with
  | [.list us] => .ok (enumW 0 us) d1
  | _ => .bad
theorem di_enum {pu : Bool} {e : Expr} {elts : List Expr} {kk : Nat} {p pos tpos : Pos} {m : M (List W)} (hm : X.mg "enumerate" = none) (h : DL X Y pu [e] m) (hg : Gl X "enumerate" := by rfl) (hs : starEach [e] X.env = [(false, eval e X.env)] := by rfl) : DI X Y pu (.Tuple elts kk tpos) (.Call (.Name "enumerate" p) [e] [] pos) (mEnum m) := by
  refine ⟨_, pi_enum hg hm h.pa hs, fun σ H R h => ?_⟩
  obtain ⟨Oc, d, rs, h⟩ := h
  refine ⟨Oc, d, rs, (Po.bind1 h).imp fun ws d1 H1 g1 h1 vs ra => ?_⟩
  split at h1
  · obtain ⟨v, rfl, r⟩ := rpA1 ra
    cases r with
    | lst l r => exact ⟨_, _, rfl, l.sq, h1 H1 (.refl g1.rs) _ _ wk_enum ⟨_, l, r⟩⟩
  · exact h1.elim
theorem wk_zip {K : PySem.W.Frag} {Ex : Addr → Nat → Prop} {a b : Addr} {as bs : List W} : Wk K Ex (Itz K a b) (fun O H => ∃ xs ys, LAt K O H a xs ∧ RpA K Ex O H xs as ∧ LAt K O H b ys ∧ RpA K Ex O H ys bs) (zipW as bs) where
  keep := fun O H O' H' k ⟨xs, ys, l, r, l2, r2⟩ => ⟨xs, ys, l.mono k, r.mono k fun _ _ z => z, l2.mono k, r2.mono k fun _ _ z => z⟩
  go := fun O H i ⟨xs, ys, l, r, l2, r2⟩ hi => by
    rw [zipW_length] at hi
    have h1 : i < xs.length := by rw [r.length]; omega
    have h2 : i < ys.length := by rw [r2.length]; omega
    exact ⟨xs, ys, xs[i], ys[i], l.sq, l2.sq, List.getElem?_eq_getElem h1, List.getElem?_eq_getElem h2⟩
  yld := fun O H i x H' hO ⟨xs, ys, l, r, l2, r2⟩ ⟨T, y1, y2, e, hT, eH, hy, hz⟩ => by
    subst eH
    refine ⟨same_new hT, fun w hw => ?_⟩
    obtain ⟨u1, u2, h1, h2, rfl⟩ := zipW_get hw
    obtain ⟨v1, hv1, rv1⟩ := r.get h1
    obtain ⟨v2, hv2, rv2⟩ := r2.get h2
    rw [hy xs l.sq] at hv1
    rw [hz ys l2.sq] at hv2
    cases hv1; cases hv2
    subst e
    exact new_tup hO hT (.cons rv1 (.cons rv2 .nil))
  stop := fun O H i ⟨xs, ys, l, r, l2, r2⟩ hi => ⟨xs, ys, l.sq, l2.sq, by rw [r.length, r2.length]; rw [zipW_length] at hi; omega⟩
theorem wk_zipT {K : PySem.W.Frag} {Ex : Addr → Nat → Prop} {a b : Addr} {as bs : List W} : Wk K Ex (RZ.ItzT K a b) (fun O H => ∃ xs ys, TAt K Ex O H a xs ∧ RpA K Ex O H xs as ∧ TAt K Ex O H b ys ∧ RpA K Ex O H ys bs) (zipW as bs) where
  keep := fun O H O' H' k ⟨xs, ys, l, r, l2, r2⟩ => ⟨xs, ys, l.mono k (fun _ _ z => z), r.mono k fun _ _ z => z, l2.mono k (fun _ _ z => z), r2.mono k fun _ _ z => z⟩
  go := fun O H i ⟨xs, ys, l, r, l2, r2⟩ hi => by
    rw [zipW_length] at hi
    have h1 : i < xs.length := by rw [r.length]; omega
    have h2 : i < ys.length := by rw [r2.length]; omega
    exact ⟨xs, ys, xs[i], ys[i], l.sq, l2.sq, List.getElem?_eq_getElem h1, List.getElem?_eq_getElem h2⟩
  yld := fun O H i x H' hO ⟨xs, ys, l, r, l2, r2⟩ ⟨T, y1, y2, e, hT, eH, hy, hz⟩ => by
    subst eH
    refine ⟨same_new hT, fun w hw => ?_⟩
    obtain ⟨u1, u2, h1, h2, rfl⟩ := zipW_get hw
    obtain ⟨v1, hv1, rv1⟩ := r.get h1
    obtain ⟨v2, hv2, rv2⟩ := r2.get h2
    rw [hy xs l.sq] at hv1
    rw [hz ys l2.sq] at hv2
    cases hv1; cases hv2
    subst e
    exact new_tup hO hT (.cons rv1 (.cons rv2 .nil))
  stop := fun O H i ⟨xs, ys, l, r, l2, r2⟩ hi => ⟨xs, ys, l.sq, l2.sq, by rw [r.length, r2.length]; rw [zipW_length] at hi; omega⟩
def mZip (a : M (List W)) : M (List W) := fun d => (a d).bind fun ws d1 => match ws with
  | [.list us, .list ts] => .ok (zipW us ts) d1
  | [.tuple us, .tuple ts] => .ok (zipW us ts) d1
  | _ => .bad
theorem di_zip {pu : Bool} {e e2 : Expr} {elts : List Expr} {kk : Nat} {p pos tpos : Pos} {m : M (List W)} (hm : X.mg "zip" = none) (h : DL X Y pu [e, e2] m) (hg : Gl X "zip" := by rfl) (hs : starEach [e, e2] X.env = (false, eval e X.env) :: starEach [e2] X.env := by rfl) (hpl : (backTo pos (starEach [e2] X.env)).any (·.1) = false := by rfl) :
    DI X Y pu (.Tuple elts kk tpos) (.Call (.Name "zip" p) [e, e2] [] pos) (mZip m) := by
  refine ⟨_, RZ.pi_zipA hg hm h.pa hs hpl, fun σ H R h => ?_⟩
  obtain ⟨Oc, d, rs, h⟩ := h
  refine ⟨Oc, d, rs, (Po.bind1 h).imp fun ws d1 H1 g1 h1 vs ra => ?_⟩
  split at h1
  · obtain ⟨v, v2, rfl, r, r2⟩ := rpA2 ra
    cases r with
    | lst l r =>
      cases r2 with
      | lst l2 r2 => exact ⟨_, _, _, _, rfl, .inl ⟨l.sq, l2.sq, h1 H1 (.refl g1.rs) _ _ wk_zip ⟨_, _, l, r, l2, r2⟩⟩⟩
  · obtain ⟨v, v2, rfl, r, r2⟩ := rpA2 ra
    cases r with
    | tup l r =>
      cases r2 with
      | tup l2 r2 => exact ⟨_, _, _, _, rfl, .inr ⟨l.sq, l2.sq, h1 H1 (.refl g1.rs) _ _ wk_zipT ⟨_, _, l, r, l2, r2⟩⟩⟩
  · exact h1.elim
/-! ### *x in a display -/
def mStar (a : M W) (r : M (List W)) : M (List W) := fun d => (a d).bind fun w d1 => (ofOpt (itemsOf w) d1).bind fun us d2 => (r d2).bind fun ws d3 => .ok (us ++ ws) d3
theorem dl_star {pa pb : Bool} {e : Expr} {es : List Expr} {p : Pos} {a : M W} {r : M (List W)} (ha : DE X Y pa e a) (hr : DL X Y pb es r) (hs : starEach (.Starred e p :: es) X.env = (true, eval e X.env) :: starEach es X.env := by rfl) : DL X Y (pa && pb) (.Starred e p :: es) (mStar a r) := ⟨by
  refine pa_weak (StX.pa_star ha.pe hr.pa hs) fun σ H Q h => ?_
  obtain ⟨Oc, d, rs, h⟩ := h
  refine ⟨Oc, d, rs, (Po.bind h).imp fun w d1 H1 g1 h1 v r1 => ?_⟩
  have main : ∀ {us : List W} {xs : List V}, itemsOf w = some us → RpA X.K Y.Ex (Ow Oc d1 σ) H1 xs us → tL X Y pb r σ H1 fun ys H2 => Q (xs ++ ys) H2 := fun {us xs} e ra => by
    rw [e] at h1
    have h1 : Po X Y pb Oc σ d1 H1 ((r d1).bind fun ws d3 => .ok (us ++ ws) d3) _ := h1
    exact ⟨Oc, d1, g1.rs, (Po.bind1 h1).imp fun w2 d2 H2 g2 h2 v2 r2 => h2 H2 (.refl g2.rs) (xs ++ v2) ((g2.rpA ra).append r2)⟩
  cases r1 with
  | lst l r1 => exact ⟨_, _, rfl, .inr l.sq, main rfl r1⟩
  | tup l r1 => exact ⟨_, _, rfl, .inl l.sq, main rfl r1⟩
  | _ => exact h1.elim⟩
end
end Qd
end
section
set_option Elab.async false
set_option linter.all false
set_option maxRecDepth 100000
set_option maxHeartbeats 1000000
/-! sorted(a list), by data. -/
namespace Qd
open PySem PySem.Spec PyProof.Rows L2
def sortableB (ds : List W) : Bool := (ds.all fun d => match d with
  | .tuple (_ :: _) => true
  | _ => false) || ds.all fun d => match d with
  | .tuple _ => false
  | .none => false
  | _ => true
theorem sortable_of {ds : List W} (h : sortableB ds = true) : PySem.W.Sortable ds := by
  unfold sortableB at h
  rw [Bool.or_eq_true, List.all_eq_true, List.all_eq_true] at h
  rcases h with h | h
  · refine .inl fun d hd => ?_
    have z := h d hd
    split at z
    · exact ⟨_, _, rfl⟩
    · cases z
  · refine .inr fun d hd => ?_
    have z := h d hd
    split at z
    · cases z
    · cases z
    · rename_i n1 n2
      exact ⟨n2, n1⟩
def sortP (ps : List (V × W)) : List (V × W) := ps.mergeSort (PySem.W.dataLe false fun p => p.2)
def sortW (ds : List W) : List W := ds.mergeSort (PySem.W.dataLe false fun d => d)
theorem sortP_snd (ps : List (V × W)) : (sortP ps).map (·.2) = sortW (ps.map (·.2)) := List.map_mergeSort fun _ _ _ _ => rfl
theorem sortP_mem {ps : List (V × W)} {p : V × W} (h : p ∈ sortP ps) : p ∈ ps := (List.mergeSort_perm _ _).mem_iff.mp h
theorem zip_snd {α β : Type} : ∀ {as : List α} {bs : List β}, as.length = bs.length → (as.zip bs).map (·.2) = bs
  | [], [], _ => rfl
  | a :: r, b :: t, h => by rw [List.zip_cons_cons, List.map_cons, zip_snd (by simpa using h)]
theorem RpA.zip {K : PySem.W.Frag} {Ex : Addr → Nat → Prop} {O : Addr → Prop} {H : Hp} : ∀ {vs : List V} {ws : List W}, RpA K Ex O H vs ws → ∀ p ∈ vs.zip ws, Rp K Ex O H p.1 p.2
  | _, _, .nil, p, h => by cases h
  | _, _, .cons a b, p, h => by
    rw [List.zip_cons_cons] at h
    rcases List.mem_cons.mp h with rfl | h
    · exact a
    · exact RpA.zip b p h
theorem RpA.of_pairs {K : PySem.W.Frag} {Ex : Addr → Nat → Prop} {O : Addr → Prop} {H : Hp} : ∀ {ps : List (V × W)}, (∀ p ∈ ps, Rp K Ex O H p.1 p.2) → RpA K Ex O H (ps.map (·.1)) (ps.map (·.2))
  | [], _ => .nil
  | p :: r, h => .cons (h p List.mem_cons_self) (RpA.of_pairs fun q hq => h q (List.mem_cons_of_mem _ hq))
theorem vals_pairs : ∀ {out : List Value} {ps : List (V × W)}, PySem.W.EachIs (fun v (b : V × W) => RelV b.1 v) out ps → Vals (ps.map (·.1)) out
  | _, _, .nil => .nil
  | _, _, .cons a b => .cons a (vals_pairs b)
theorem pairs_vals : ∀ {ys : List V} {its : List Value} {ds : List W}, Vals ys its → ys.length = ds.length → PySem.W.EachIs (fun v (b : V × W) => RelV b.1 v) its (ys.zip ds)
  | _, _, [], .nil, _ => .nil
  | _, _, d :: r, .cons a b, h => .cons a (pairs_vals b (by simpa using h))
  | _, _, _ :: _, .nil, h => by cases h
  | _, _, [], .cons _ _, h => by cases h
theorem pairs_reads {h : Heap} : ∀ {ys : List V} {its : List Value} {ds : List W} {as : List Addr}, Vals ys its → ReadsAll h its ds as → PySem.W.EachIs (fun v (b : V × W) => ∃ as, Reads h v b.2 as) its (ys.zip ds)
  | _, _, _, _, .nil, .nil => .nil
  | _, _, _, _, .cons _ b, .cons r s => .cons ⟨_, r⟩ (pairs_reads b s)
theorem depth_mem : ∀ {ds : List W} {d : W}, d ∈ ds → d.depth ≤ PyData.depthAll ds
  | x :: r, d, h => by
    unfold PyData.depthAll
    rcases List.mem_cons.mp h with rfl | h
    · omega
    · have := depth_mem h; omega
section
variable {X : Cx} {Y : Yx}
theorem cr_sortD (hu : X.A.units + 66 < cLine) : CallR X (.builtin "sorted") (fun vs H Q => ∃ (a : Addr) (ys : List V) (ds : List W), vs = [.ref a] ∧ SqL X.K H a ys ∧ DpAll X.K H ys ds ∧ SeqAt.shaped (.list ds) = true ∧ PySem.W.AllAlike ds ∧ PySem.W.Sortable ds ∧ ∀ q, H q = none → Q (.ref q) (upd H q (.lst ((sortP (ys.zip ds)).map (·.1))))) := by
  intro pins s σ H vs us Q I r h
  obtain ⟨a, ys, ds, rfl, hs, hd, hsh, hal, hso, q⟩ := h
  obtain ⟨its, rv, hl, hz⟩ := I.list hs
  obtain ⟨as, ra⟩ := Dp.readsAll I ds ys its hd rv
  rw [Vals.ref1 r]
  have hlen : ys.length = ds.length := by rw [rv.length]; exact PySem.W.readsAll_len ra
  have es : (ys.zip ds).map (fun p : V × W => p.2) = ds := zip_snd hlen
  have dep : PyData.depthAll ds + 1 ≤ 64 := by
    have z := SeqAt.depth_of_shaped hsh
    have e : (PyData.list ds).depth = PyData.depthAll ds + 1 := by simp only [PyData.depth]
    omega
  have dm : ∀ d ∈ ds, d.depth ≤ PyData.depthAll ds := fun d hd => depth_mem hd
  refine PySem.W.sorted_data (R := fun v (b : V × W) => RelV b.1 v) (enc := fun b : V × W => b.2) hl.isList (pairs_vals rv hlen) (pairs_reads rv ra) (by rw [es]; exact hal) (by rw [es]; exact hso) (by rw [List.length_zip]; omega) (fun b hb => ?_) fun out h1 h2 => ?_
  · have hb2 : b.2 ∈ ds := by rw [← es]; exact List.mem_map.mpr ⟨b, hb, rfl⟩
    have := dm _ hb2
    omega
  · obtain ⟨ep, he'⟩ := PyProof.Rows.sortedAll_at s.heap its (List.toArray out)
    have hlo : ((sortP (ys.zip ds)).map (fun p : V × W => p.1)).length ≤ sizeLine := by rw [List.length_map]; unfold sortP; rw [List.length_mergeSort, List.length_zip]; omega
    exact ⟨.ref _, upd H (s.heap.objs.size + 1) (.lst ((sortP (ys.zip ds)).map (·.1))), I.laid (t' := s.toks) (fun _ _ => PyProof.Rows.sortedAll_old) (Nat.le_succ _) ⟨hlo, out, ep, vals_pairs h2, he'⟩, rfl, q _ (I.hok.fresh (Nat.le_succ _))⟩
def mSorted (as : M (List W)) : M W := fun d => (as d).bind fun ws d1 => match ws with
  | [.list ds] => if (okD (.list ds) && (ds.all fun x => ds.all fun y => PySem.W.alike x y) && sortableB ds) = true then .ok (.list (sortW ds)) d1 else .bad
  | _ => .bad
theorem boot_sorted_ : bootBuiltins "sorted" = some (.builtin "sorted") := by decide +kernel
theorem df_sorted {pu : Bool} {e : Expr} {p pos : Pos} {as : M (List W)} (hu : X.A.units + 66 < cLine) (hm : X.mg "sorted" = none) (ha : DL X Y pu [e] as) (hg : Gl X "sorted" := by rfl) (he : starEach [e] X.env = (false, eval e X.env) :: starEach [] X.env := by rfl) : DF X Y pu (.Call (.Name "sorted" p) [e] [] pos) (mSorted as) := by
  refine ⟨pe_weak (pe_callB (cr_sortD hu) hg hm boot_sorted_ ha.pa (by decide) (by decide) he rfl) fun σ H Q h => ?_⟩
  obtain ⟨Oc, d, rs, h⟩ := h
  refine ⟨Oc, d, rs, (Po.bind1 h).imp fun ws d1 H1 g1 h1 vs ra => ?_⟩
  split at h1
  · rename_i ds
    obtain ⟨v, rfl, r⟩ := rpA1 ra
    split at h1
    · rename_i z
      rw [Bool.and_eq_true, Bool.and_eq_true] at z
      obtain ⟨⟨z1, z2⟩, z3⟩ := z
      unfold okD at z1
      rw [Bool.and_eq_true] at z1
      cases r with
      | lst l r =>
        rename_i xs
        refine ⟨_, _, _, rfl, l.sq, r.dp (by simpa [noD] using z1.1), z1.2, fun x hx y hy => List.all_eq_true.mp (List.all_eq_true.mp z2 x hx) y hy, sortable_of z3, fun q np => ?_⟩
        refine h1 _ (.same g1.rs (same_new np)) q (g1.free np) (g1.rs.withNew np) ⟨_, upd_same, ?_⟩
        have z : RpA X.K Y.Ex (Ow Oc d1 σ) H1 ((sortP (xs.zip ds)).map (·.1)) ((sortP (xs.zip ds)).map (·.2)) := RpA.of_pairs fun p hp => RpA.zip r p (sortP_mem hp)
        rw [sortP_snd, zip_snd r.length] at z
        exact z.mono (ke_new np) fun _ _ z => z
    · exact h1.elim
  · exact h1.elim
end
end Qd
end
section
set_option Elab.async false
set_option linter.all false
set_option maxRecDepth 100000
set_option maxHeartbeats 1000000
/-! t.index(x), t.count(x) of tuples of data. -/
namespace Qd
open PySem PySem.Spec PyProof.Rows L2
section
variable {X : Cx}
theorem mt_indexT (hu : X.A.units + 65 < cLine) : MtR X "tuple.index" (fun x xs H Q => ∃ a y d ds j z, x = V.ref a ∧ xs = [y] ∧ Dp X.K H (V.ref a) (.tuple ds) ∧ Dp X.K H y d ∧ SeqAt.shaped (.tuple ds) = true ∧ SeqAt.shaped d = true ∧ ds[j]? = some z ∧ PyData.eqv z d = true ∧ (∀ m z', m < j → ds[m]? = some z' → PyData.eqv z' d = false) ∧ Q (.int (j : Nat)) H) := by
  intro pins s σ H x xs v us Q I rx rxs h
  obtain ⟨a, y, d, ds, j, z, rfl, rfl, hl, hy, sl, sd, hz, hzj, hno, q⟩ := h
  cases rx
  cases rxs with
  | cons ry rt =>
    rename_i uy ut
    cases rt
    obtain ⟨bs, r1⟩ := Dp.reads I d y uy hy ry
    have hxs : PyData.canLayAll0 ds = true := by have := SeqAt.canLay_of_shaped sl; simpa only [PyData.canLay0] using this
    have hroom : X.A.units + 1 + min (PyData.depthAll ds) d.depth < cLine := room_in_shaped sd hu
    cases hl with
    | tup hs ha =>
      obtain ⟨its, rv, ⟨⟨cls, dd, data, sls⟩, ho, hc, n, hdt⟩, hlen⟩ := I.tuple hs
      simp only at hc hdt
      subst hc hdt
      obtain ⟨as, h4⟩ := Dp.readsAll I ds _ its ha rv
      have hn : its.length = ds.length := SeqAt.ReadsAll.length ds its as h4
      have hmap : its.map (SeqAt.readOf s.heap) = ds := SeqAt.readsAll_map ds its as hxs h4
      obtain ⟨hjd, _⟩ := List.getElem?_eq_some_iff.mp hz
      have hjl : j < its.length := by omega
      have hj : j < its.toArray.size := by simpa using hjl
      have at_ : ∀ (m : Nat) (hm : m < its.toArray.size) (z' : PyData), ds[m]? = some z' → SeqAt.readOf s.heap its.toArray[m] = z' := by
        intro m hm z' hz'
        have hml : m < its.length := by simpa using hm
        rw [← hmap, List.getElem?_map, List.getElem?_eq_getElem hml] at hz'
        have e1 : SeqAt.readOf s.heap its[m] = z' := Option.some.inj (show some (SeqAt.readOf s.heap its[m]) = some z' from hz')
        simpa using e1
      refine call_meets PySem.F.slot_tuple_index ⟨_, ho, rfl⟩ PySem.F.entry_tuple_index (PySem.F.args_tuple_index_2 _ _)
        (TI.tuple_indexAt a its.toArray n dd sls uy (fun u => PyData.eqv (SeqAt.readOf s.heap u) d) j hj ?_ ?_) ⟨ho, SeqAt.items_eqAt (vs := its.toArray) (show ReadsAll s.heap its.toArray.toList ds as from h4) r1 hxs (SeqAt.canLay_of_shaped sd) hroom, ?_⟩
      · show PyData.eqv (SeqAt.readOf s.heap its.toArray[j]) d = true
        rw [at_ j hj z hz]
        exact hzj
      · intro m hm hmj
        have hmd : m < ds.length := by omega
        have hz' : ds[m]? = some ds[m] := List.getElem?_eq_getElem hmd
        show PyData.eqv (SeqAt.readOf s.heap its.toArray[m]) d = false
        rw [at_ m hm _ hz']
        exact hno m _ hmj hz'
      · exact ⟨.int (j : Nat), H, I.tok _, ⟨_, rfl⟩, q⟩
def indexTW : W → List W → Option W := fun u as => match u, as with
  | .tuple ds, [w] => if (okD u && okD w) = true then (match ds.findIdx? fun z => PyData.eqv z w with
    | some j => some (.int j)
    | none => none) else none
  | _, _ => none
theorem mv_indexT (hu : X.A.units + 65 < cLine) : MetV X "tuple.index" indexTW := by
  refine ⟨_, mt_indexT hu, fun Ex O H x u xs as c Q hO h rx ra q => ?_⟩
  unfold indexTW at h
  split at h
  · rename_i ds w
    split at h
    · rename_i z
      obtain ⟨⟨e3, e4⟩, e5, e6⟩ := okD_and z
      split at h
      · rename_i j hj
        cases h
        obtain ⟨v, rfl, rv⟩ := rpA1 ra
        obtain ⟨hlt, h1, h2⟩ := List.findIdx?_eq_some_iff_getElem.mp hj
        have dp := rx.dp e3
        cases rx with
        | tup l r =>
          refine ⟨_, v, w, ds, j, ds[j], rfl, rfl, dp, rv.dp e5, e4, e6, List.getElem?_eq_getElem hlt, h1, fun m z' hm e => ?_, q H _ (fun _ _ e => e) (.int _)⟩
          have hm' : m < ds.length := Nat.lt_trans hm hlt
          rw [List.getElem?_eq_getElem hm'] at e
          cases e
          simpa using h2 m hm
      · cases h
    · cases h
  · cases h
def countTW : W → List W → Option W := fun u as => match u, as with
  | .tuple ds, [w] => if (okD u && okD w) = true then some (.int (ds.countP fun z => PyData.eqv z w : Nat)) else none
  | _, _ => none
theorem mv_countT (hu : X.A.units + 65 < cLine) : MetV X "tuple.count" countTW := by
  refine ⟨fun x xs H Q => ∃ a y d ds, x = V.ref a ∧ xs = [y] ∧ Dp X.K H (V.ref a) (.tuple ds) ∧ Dp X.K H y d ∧ SeqAt.shaped (.tuple ds) = true ∧ SeqAt.shaped d = true ∧ Q (.int (ds.countP fun z => PyData.eqv z d : Nat)) H, ?_, fun Ex O H x u xs as c Q hO h rx ra q => ?_⟩
  · intro pins s σ H x xs v us Q I rx rxs h
    obtain ⟨a, y, d, ds, rfl, rfl, hl, hy, sl, sd, q⟩ := h
    cases rx
    cases rxs with
    | cons ry rt =>
      cases rt
      obtain ⟨bs, r1⟩ := Dp.reads I d y _ hy ry
      cases hl with
      | tup hs ha =>
        obtain ⟨its, rv, p, hz⟩ := I.tuple hs
        obtain ⟨as, r2⟩ := Dp.readsAll I ds _ its ha rv
        have pl : PyData.plainAll ds = true := by have := canLay_plain sl; simpa only [PyData.plain] using this
        obtain ⟨o, ho, hc, n, hd⟩ := p
        exact SeqAt.count_tuple_data (vs := its.toArray) ⟨o, ho, hc, n, hd⟩ r2 r1 pl (canLay_plain sd) (room_in_shaped sd hu) ⟨.int _, H, I.tok _, ⟨_, rfl⟩, q⟩
  · unfold countTW at h
    split at h
    · rename_i ds w
      split at h
      · rename_i z
        cases h
        obtain ⟨⟨e3, e4⟩, e5, e6⟩ := okD_and z
        obtain ⟨v, rfl, rv⟩ := rpA1 ra
        have dp := rx.dp e3
        cases rx with
        | tup l r => exact ⟨_, v, w, ds, rfl, rfl, dp, rv.dp e5, e4, e6, q H _ (fun _ _ e => e) (.int _)⟩
      · cases h
    · cases h
end
end Qd
end
section
set_option Elab.async false
set_option linter.all false
set_option maxRecDepth 100000
set_option maxHeartbeats 1000000
/-! xs[::-1], t[::-1]. -/
namespace Qd
open PySem PySem.Spec PyProof.Rows L2 HT
section
variable {prog : Program} {w : World} {A : Around} {E : Value → Shared → Prop} {s : Shared}
theorem sliceApplied_rev {sl : Addr} {vl vu vs : Value} {n : Nat} {Q : Int × Int × Nat → Shared → Prop} (hs : s.heap.IsSliceOf sl vl vu vs) (pl : IsPart vl none) (pu : IsPart vu none) (ps : IsPart vs (some (-1)))
    (h : Q ((n : Int) - 1, -1, n) s) : wpAny (model prog w) A (Builtin.Slice.sliceApplied (.ref sl) (pure (n : Int))) Q E s := by
  obtain ⟨os, hos, hcs, hds⟩ := id hs
  unfold Builtin.Slice.sliceApplied Builtin.Slice.sliceFields
  refine wpAny_bind (wpAny_bind (wpAny_field hos hds (x := vl) rfl (wpAny_bind (wpAny_field hos hds (x := vu) rfl (wpAny_bind (wpAny_field hos hds (x := vs) rfl (wpAny_pure ?_)))))))
  refine wpAny_bind (slicePart_ ps ?_)
  show wpAny _ _ (if ((-1 : Int) == 0) = true then _ else _) _ _ s
  rw [if_neg (by decide)]
  refine wpAny_bind (slicePart_ pl (wpAny_bind (slicePart_ pu (wpAny_bind (wpAny_pure ?_)))))
  show wpAny _ _ (pure ((n : Int) - 1, (-1 : Int), Builtin.Slice.slicePlaces ((n : Int) - 1) (-1) (-1))) _ _ s
  have e : Builtin.Slice.slicePlaces ((n : Int) - 1) (-1) (-1) = n := by
    unfold Builtin.Slice.slicePlaces
    have h1 : ¬ ((-1 : Int) > 0) := by omega
    have h2 : (-(-1) : Int) = 1 := by omega
    simp only [h1, if_false, h2, Int.ediv_one]
    split <;> omega
  rw [e]
  exact wpAny_pure h
theorem pick_rev (xs : Array Value) : ((List.range xs.size).filterMap fun (m : Nat) => xs[(((xs.size : Int) - 1) + (m : Int) * (-1)).toNat]?).toArray = xs.toList.reverse.toArray := by
  have e : (fun (m : Nat) => xs[(((xs.size : Int) - 1) + (m : Int) * (-1)).toNat]?) = fun m => xs[xs.size - 1 - m]? := by
    funext m
    have : (((xs.size : Int) - 1) + (m : Int) * (-1)).toNat = xs.size - 1 - m := by omega
    rw [this]
  rw [e]
  have h : (List.range xs.size).filterMap (fun m => xs[xs.size - 1 - m]?) = ((List.range xs.size).map fun k => xs.size - 1 - k).filterMap (xs[·]?) := by rw [List.filterMap_map]; rfl
  rw [h, PySem.W.krv_range, List.filterMap_reverse, PySem.W.krv_all]
theorem getItem_tuple_rev {t sl : Addr} {items : Array Value} {vl vu vs : Value} {Q : Value → Shared → Prop} (ht : IsTup s.heap t items) (hs : s.heap.IsSliceOf sl vl vu vs) (pl : IsPart vl none) (pu : IsPart vu none) (ps : IsPart vs (some (-1)))
    (h : Q (.ref s.heap.objs.size) { s with heap := s.heap.push { cls := .type "tuple", data := .seq items.toList.reverse.toArray } })
    (hsz : items.size ≤ sizeLine) : wpAny (model prog w) A (getItem (.ref t) (.ref sl)) Q E s := by
  have htake : sizeOk (.seq items.toList.reverse.toArray) := by
    show items.toList.reverse.toArray.size ≤ sizeLine
    rw [List.size_toArray, List.length_reverse, Array.length_toList]
    exact hsz
  obtain ⟨os, hos, hcs, hds⟩ := id hs
  have hTs : s.TypeIs (.ref sl) "slice" := ⟨os, hos, hcs⟩
  unfold getItem
  try with_reducible refine wpAny_holding ?_
  first | refine wpAny_bind (wpAny_pure ?_) | skip
  refine wpAny_bind (wpAny_sequenceKey ht.typeIs (by decide) ?_)
  refine wpAny_bind (wpAny_callSpecial?_slot (name := Str.ofString "__getitem__") ht.typeIs PyProof.Rows.slot_tuple_getitem
    (wpAny_call_entry PyProof.Rows.slot_tuple_getitem ht.typeIs entry_tuple_getitem ?_ (args_tuple_getitem _ _)))
  show wpAny _ _ (Builtin.Tuple.tupleItemsOf (.ref t) >>= _) _ _ s
  refine wpAny_bind (tupleItemsOf_ ht ?_)
  refine wpAny_bind (wpAny_typeOf hTs ?_)
  rw [if_pos (by decide)]
  refine wpAny_bind (sliceApplied_rev hs pl pu ps ?_)
  have hno : ¬ ((((items.size : Int) - 1) == 0 && (-1 : Int) == 1 && items.size == items.size) = true) := by
    intro q
    rw [Bool.and_eq_true, Bool.and_eq_true] at q
    exact absurd q.1.2 (by decide)
  show wpAny _ _ (if (((items.size : Int) - 1) == 0 && (-1 : Int) == 1 && items.size == items.size) = true then _ else _) _ _ s
  rw [if_neg hno, pick_rev]
  first
    | exact wpAny_bind (m := Builtin.Tuple.tupleExact _) (wpAny_newObj_type (wpAny_pure ⟨_, rfl, wpAny_pure h⟩) htake)
    | exact wpAny_bind (m := Builtin.Tuple.tupleExact _) (wpAny_newObj_type (wpAny_bind (wpAny_pure (wpAny_pure ⟨_, rfl, wpAny_pure h⟩))) htake)
    | exact wpAny_bind (wpAny_bind (m := Builtin.Tuple.tupleExact _) (wpAny_newObj_type (wpAny_pure (wpAny_pure ⟨_, rfl, wpAny_pure h⟩)) htake))
    | exact wpAny_bind (wpAny_bind (m := Builtin.Tuple.tupleExact _) (wpAny_newObj_type (wpAny_pure ⟨_, rfl, wpAny_pure h⟩) htake))
end
section
variable {X : Cx} {Y : Yx}
def tRevA (K : PySem.W.Frag) (te : TE) : TE := fun σ H Q => te σ H fun x H1 => ∃ a xs, x = .ref a ∧ ((SqL K H1 a xs ∧ ∀ p, H1 p = none → Q (.ref p) (upd H1 p (.lst xs.reverse))) ∨ (SqT K H1 a xs ∧ ∀ p, H1 p = none → Q (.ref p) (upd H1 p (.tup xs.reverse))))
theorem pe_revA {e : Expr} {te : TE} {k : Nat} {p1 p2 p3 pos : Pos} (he : PE X e te) : PE X (.Subscript e (.Slice none none (some (.UnaryOp .USub (.Constant (.int 1) k p1) p2)) p3) pos) (tRevA X.K te) := by
  refine ⟨fun pins s σ H Q I h => ?_⟩
  refine Subscript_ (thn (he.run pins s σ H _ I h) fun v s1 ⟨x, H1, I1, r1, q1⟩ => ?_)
  obtain ⟨a, xs, ex, q⟩ := q1
  subst ex
  cases r1
  have hst : PO X (some (.UnaryOp .USub (.Constant (.int 1) k p1) p2)) (tPart (tUn (rU fun i => .int (-i)) (tC (.int 1)))) := po_some (pe_un un_neg pe_int)
  refine wpAny_Slice (thn (po_none.run pins s1 σ H1 (fun o H2 => o = none ∧ H2 = H1) I1 ⟨rfl, rfl⟩) fun vl s2 ⟨l, H2, I2, pl, el, e2⟩ => ?_)
  subst el e2
  refine thn (po_none.run pins s2 σ H2 (fun o H3 => o = none ∧ H3 = H2) I2 ⟨rfl, rfl⟩) fun vu s3 ⟨u, H3, I3, pu, eu, e3⟩ => ?_
  subst eu e3
  refine thn (hst.run pins s3 σ H3 (fun o H4 => o = some (-1) ∧ H4 = H3) I3 ⟨1, rfl, -1, rfl, rfl, rfl⟩) fun vs s4 ⟨o, H4, I4, ps, eo, e4⟩ => ?_
  subst eo e4
  have I5 : Inv X pins σ H4 { s4 with heap := s4.heap.push { cls := .type "slice", data := .fields #[vl, vu, vs] } } := I4.kept (t' := s4.toks) fun b ob q => Heap.get?_push_of_some _ q
  show wpAny (model X.prog X.w) X.A (subscriptTail e (.Slice none none (some (.UnaryOp .USub (.Constant (.int 1) k p1) p2)) p3) (.ref a) (.ref s4.heap.objs.size)) (EP X pins σ Q) X.xe { s4 with heap := s4.heap.push { cls := .type "slice", data := .fields #[vl, vu, vs] } }
  rcases q with ⟨hx, q⟩ | ⟨hx, q⟩
  · obtain ⟨its, r, ht, hz⟩ := I5.list hx
    have hlen := r.length
    refine tail_any (ops := [.ref a, .ref s4.heap.objs.size]) ht.isList.typeIs (PySem.slot_list_getitem.lookup) ?_ (by with_unfolding_all rfl)
    refine wpAny_getItem_list_slice ht.isList (Heap.IsSliceOf.new _ vl vu vs) pl pu ps (by decide) ?_ (by rw [List.size_toArray]; omega)
    rw [PySem.W.krv_pick]
    refine ⟨.ref _, _, I5.laid (t' := s4.toks) (o := .lst xs.reverse) (fun b ob q => Heap.get?_push_of_some _ q) (Nat.le_refl _) ?_, rfl, q _ (I5.hok.fresh (Nat.le_refl _))⟩
    exact ⟨by rw [List.length_reverse]; exact hz, _, 0, r.reverse, Heap.get?_push_size _ rfl⟩
  · obtain ⟨its, r, ht, hz⟩ := I5.tuple hx
    have hlen := r.length
    refine tail_any (ops := [.ref a, .ref s4.heap.objs.size]) ht.typeIs (PyProof.Rows.slot_tuple_getitem.lookup) ?_ (by with_unfolding_all rfl)
    refine getItem_tuple_rev ht (Heap.IsSliceOf.new _ vl vu vs) pl pu ps ?_ (by rw [List.size_toArray]; omega)
    refine ⟨.ref _, _, I5.laid (t' := s4.toks) (o := .tup xs.reverse) (fun b ob q => Heap.get?_push_of_some _ q) (Nat.le_refl _) ?_, rfl, q _ (I5.hok.fresh (Nat.le_refl _))⟩
    exact ⟨by rw [List.length_reverse]; exact hz, _, r.reverse, IsTup.new _ _⟩
def mRevS (a : M W) : M W := fun d => (a d).bind fun w d1 => match w with
  | .list ws => .ok (.list ws.reverse) d1
  | .tuple ws => .ok (.tuple ws.reverse) d1
  | _ => .bad
theorem d_revS {pu : Bool} {e : Expr} {k : Nat} {p1 p2 p3 pos : Pos} {m : M W} (he : DE X Y pu e m) : DE X Y pu (.Subscript e (.Slice none none (some (.UnaryOp .USub (.Constant (.int 1) k p1) p2)) p3) pos) (mRevS m) := by
  refine ⟨pe_weak (pe_revA he.pe) fun σ H Q h => ?_⟩
  obtain ⟨Oc, d, rs, h⟩ := h
  refine ⟨Oc, d, rs, (Po.bind1 h).imp fun w d1 H1 g1 h1 v r => ?_⟩
  cases w with
  | list ws =>
    cases r with
    | lst l r =>
      refine ⟨_, _, rfl, .inl ⟨l.sq, fun p np => ?_⟩⟩
      obtain ⟨sm, rp⟩ := rp_newLst (fun b hb => g1.rs.there (a := b) hb) np r.reverse
      exact h1 _ (.same g1.rs sm) _ rp
  | tuple ws =>
    cases r with
    | tup l r =>
      refine ⟨_, _, rfl, .inr ⟨l.sq, fun p np => ?_⟩⟩
      obtain ⟨sm, rp⟩ := rp_newTup (fun b hb => g1.rs.there (a := b) hb) np r.reverse
      exact h1 _ (.same g1.rs sm) _ rp
  | _ => exact h1.elim
theorem df_revS {pu : Bool} {e : Expr} {k : Nat} {p1 p2 p3 pos : Pos} {m : M W} (he : DE X Y pu e m) : DE X Y pu (.Subscript e (.Slice none none (some (.UnaryOp .USub (.Constant (.int 1) k p1) p2)) p3) pos) (mRevS m) := d_revS he
end
/-! ### xs += [..], n *= k -/
section
variable {X : Cx} {Y : Yx}
def mExt (i : Nat) (m : M W) : MS := fun d => (ofOpt (mineAt i d) d).toS fun _ d0 => (m d0).toS fun y d1 => match mineAt i d1, y with
  | some (.list ds), .list es => if ds.length + es.length ≤ sizeLine then .next (setMine i (.list (ds ++ es)) d1) else .bad
  | _, _ => .bad
theorem ds_ext {pu : Bool} {i : Nat} {x : Str} {e : Expr} {m : M W} {pos pos' : Pos} (hN : X.N.Nodup) (he : DF X Y pu e m) (hi : X.N[i]? = some x := by rfl) (hx : Loc X.env.scope x := by first | exact .inl rfl | exact .inr rfl)
    (hf : X.fn x = true ∨ X.env.scope.names.lookup x = some .local := by first | exact .inl rfl | exact .inr rfl | assumption) : DS X Y (.AugAssign (.Name x pos') .Add e pos) (mExt i m) := by
  refine ⟨ps_weak (ps_aug hN hi hx he.pe (ti := rExt2) iop_ext hf) fun D σ H h => ?_⟩
  obtain ⟨Oc, d, rs, h⟩ := h
  unfold mExt at h
  cases q0 : mineAt i d with
  | none => rw [q0] at h; exact h.elim
  | some u0 =>
    rw [q0] at h
    obtain ⟨s0, f1, f2⟩ := mineAt_some q0
    obtain ⟨p, ep, _, ob0⟩ := rs.own i s0 u0 f1 f2
    refine ⟨.ref p, ep, Oc, d, rs, (Po.toS (p := pu) (show PoS X Y Oc d σ H ((m d).toS _) D from h)).imp fun w d1 H1 g1 h1 b np rsb obb => ?_⟩
    cases q1 : mineAt i d1 with
    | none => rw [q1] at h1; exact h1.elim
    | some u =>
      rw [q1] at h1
      obtain ⟨p', s, ep', _, e1, e2, nop, ob⟩ := slot_same rs q0 g1 q1
      rw [ep] at ep'; cases ep'
      cases u with
      | list ds =>
        cases w with
        | list es =>
          have h1 : PoS X Y Oc d1 σ H1 (if ds.length + es.length ≤ sizeLine then SOut.next (setMine i (.list (ds ++ es)) d1) else .bad) D := h1
          split at h1
          · rename_i hl
            obtain ⟨ys, ey, r⟩ := ob
            obtain ⟨zs, ez, r2⟩ := obb
            refine ⟨p, b, ys, zs, rfl, rfl, ey, ez, by rw [r.length, r2.length]; exact hl, ?_⟩
            obtain ⟨bt, ob'⟩ := Ob.put (.inr ⟨i, s, _, e1, e2, ep⟩) (r.append (r2.mono ke_with fun _ _ z => z))
            have fin := setMine_go g1.rs e1 e2 ep bt ob'
            have es' : σ.set i (some (V.ref p)) = σ := by
              obtain ⟨lt, e⟩ := List.getElem?_eq_some_iff.mp ep
              rw [← e]
              exact List.set_getElem_self lt
            rw [es']
            exact h1 _ _ fin.toS
          · exact h1.elim
        | _ => exact h1.elim
      | _ => exact h1.elim
noncomputable abbrev mulI := i2 (fun i j => cdec (CMulX i j)) fun i j => i * j
theorem od_imul : OpD X (inplaceOp .Mult) mulI := by
  refine ⟨fun x y H Q => ∃ i j, x = .int i ∧ y = .int j ∧ CMulX i j ∧ Q (.int (i * j)) H, ?_, fun Ex O H x y a b c Q hO e rx ry q => ?_⟩
  · intro pins s σ H x y v u Q I r1 r2 h
    obtain ⟨i, j, e1, e2, hc, q⟩ := h
    subst e1; subst e2
    obtain ⟨t, rfl⟩ := r1
    obtain ⟨t', rfl⟩ := r2
    exact imul_int ⟨.int _, H, I.tok _, ⟨_, rfl⟩, q⟩ hc.ok
  · obtain ⟨i, j, rfl, rfl, hc, rfl⟩ := i2_some e
    cases rp_int rx
    cases rp_int ry
    exact ⟨i, j, rfl, rfl, cdec_iff.mp hc, q H _ (fun _ _ e => e) (.int _)⟩
/-! ### math.gcd -/
def gcdW : List W → Option W
  | [.int a, .int b] => some (.int ((Nat.gcd a.natAbs b.natAbs : Nat) : Int))
  | _ => none
theorem cd_gcd : CallD X (.builtin "math.gcd") gcdW := by
  refine ⟨_, cr_gcd, fun Ex O H xs as c Q hO h ra q => ?_⟩
  unfold gcdW at h
  split at h
  · cases h
    cases ra with
    | cons r1 ra => cases ra with
      | cons r2 ra =>
        cases ra
        cases rp_int r1
        cases rp_int r2
        exact ⟨_, _, rfl, q H _ (fun _ _ e => e) (.int _)⟩
  · cases h
theorem d_callBf {pu : Bool} {x : Str} {p pos : Pos} {e : Expr} {es : List Expr} {id : String} {g : List W → Option W} {as : M (List W)} (hc : CallD X (.builtin id) g) (hm : X.mg x = some (.builtin id)) (ha : DL X Y pu (e :: es) as) (hg : Gl X x := by rfl) (hdb : (x == ("__debug__" : Str)) = false := by decide)
    (he : starEach (e :: es) X.env = (false, eval e X.env) :: starEach es X.env := by rfl) (hpl : (backTo pos (starEach es X.env)).any (·.1) = false := by rfl) : DE X Y pu (.Call (.Name x p) (e :: es) [] pos) (mCallB g as) :=
  let ⟨_, hr, hd⟩ := hc
  ⟨pe_weak (pe_callBfun hr hg hm ha.pa hdb he hpl) (t_callB (f := .builtin id) hd)⟩
end
/-! ### a < b < c < d -/
section
variable {X : Cx} {Y : Yx}
def tChain3 (r r' r'' : R2) (ta tb tc td : TE) : TE := fun σ H Q => ta σ H fun x H1 => tb σ H1 fun y H2 => r x y H2 fun z H3 => ∃ k, z = .bl k ∧
  (if k = true then tc σ H3 fun w' H4 => r' y w' H4 fun z' H5 => ∃ k', z' = .bl k' ∧ (if k' = true then td σ H5 fun v' H6 => r'' w' v' H6 Q else Q (.bl false) H5) else Q (.bl false) H3)
theorem pe_chain3 {a b c e : Expr} {ta tb tc td : TE} {pos : Pos} {op op' op'' : CmpOp} {r r' r'' : R2} (ho : OpR X (compareOp op) r) (ho' : OpR X (compareOp op') r') (ho'' : OpR X (compareOp op'') r'') (ha : PE X a ta) (hb : PE X b tb) (hc : PE X c tc) (he : PE X e td)
    (hm : lastMarks [op, op', op''] [b, c, e] = false := by with_unfolding_all rfl) : PE X (.Compare a [op, op', op''] [b, c, e] pos) (tChain3 r r' r'' ta tb tc td) := by
  refine ⟨fun pins s σ H Q I h => ?_⟩
  refine Compare_chain (thn (ha.run pins s σ H _ I h) fun v s1 ⟨x, H1, I1, r1, q1⟩ => chain_link (thn (hb.run pins s1 σ H1 _ I1 q1) fun u s2 ⟨y, H2, I2, r2, q2⟩ =>
    thn (ho pins s2 σ H2 x y v u _ I2 r1 r2 q2) fun d s3 ⟨z, H3, I3, r3, k, e, q3⟩ => ?_)) hm
  subst e
  cases r3
  refine wpAny_truthy_bool ?_
  cases k with
  | false => exact ite_ff ⟨.bl false, H3, I3, rfl, q3⟩
  | true =>
    refine ite_tt (chain_link (thn (hc.run pins s3 σ H3 _ I3 q3) fun w' s4 ⟨z', H4, I4, r4, q4⟩ => thn (ho' pins s4 σ H4 y z' u w' _ I4 r2 r4 q4) fun d' s5 ⟨z2, H5, I5, r5, k2, e2, q5⟩ => ?_))
    subst e2
    cases r5
    refine wpAny_truthy_bool ?_
    cases k2 with
    | false => exact ite_ff ⟨.bl false, H5, I5, rfl, q5⟩
    | true => exact ite_tt (chain_last (thn (he.run pins s5 σ H5 _ I5 q5) fun w2 s6 ⟨z3, H6, I6, r6, q6⟩ => ho'' pins s6 σ H6 z' z3 w' w2 Q I6 r4 r6 q6))
theorem pt_chain3 {a b c e : Expr} {ta tb tc td : TE} {pos : Pos} {op op' op'' : CmpOp} {r r' r'' : R2} (ho : OpR X (compareOp op) r) (ho' : OpR X (compareOp op') r') (ho'' : OpR X (compareOp op'') r'') (ha : PE X a ta) (hb : PE X b tb) (hc : PE X c tc) (he : PE X e td)
    (hm : lastMarks [op, op', op''] [b, c, e] = false := by with_unfolding_all rfl) : PT X (.Compare a [op, op', op''] [b, c, e] pos) (tTest (tChain3 r r' r'' ta tb tc td)) := by
  refine ⟨fun pins s σ H Q I h => ?_⟩
  refine isTrue_chain (thn (ha.run pins s σ H _ I h) fun v s1 ⟨x, H1, I1, r1, q1⟩ => test_link (thn (hb.run pins s1 σ H1 _ I1 q1) fun u s2 ⟨y, H2, I2, r2, q2⟩ =>
    thn (ho pins s2 σ H2 x y v u _ I2 r1 r2 q2) fun d s3 ⟨z, H3, I3, r3, k, e, q3⟩ => ?_)) hm
  subst e
  cases r3
  refine wpAny_truthy_bool ?_
  cases k with
  | false =>
    obtain ⟨k', e', q'⟩ := q3
    cases e'
    exact ite_ff ⟨H3, I3, q'⟩
  | true =>
    refine ite_tt (test_link (thn (hc.run pins s3 σ H3 _ I3 q3) fun w' s4 ⟨z', H4, I4, r4, q4⟩ => thn (ho' pins s4 σ H4 y z' u w' _ I4 r2 r4 q4) fun d' s5 ⟨z2, H5, I5, r5, k2, e2, q5⟩ => ?_))
    subst e2
    cases r5
    refine wpAny_truthy_bool ?_
    cases k2 with
    | false =>
      obtain ⟨k', e', q'⟩ := q5
      cases e'
      exact ite_ff ⟨H5, I5, q'⟩
    | true =>
      refine ite_tt (test_last (thn (he.run pins s5 σ H5 _ I5 q5) fun w2 s6 ⟨z3, H6, I6, r6, q6⟩ => thn (ho'' pins s6 σ H6 z' z3 w' w2 _ I6 r4 r6 q6) fun d2 s7 ⟨z4, H7, I7, r7, k3, e3, q7⟩ => ?_))
      subst e3
      cases r7
      exact wpAny_truthy_bool ⟨H7, I7, q7⟩
def mChain3 (g g' g'' : W → W → Option W) (ma mb mc me : M W) : M W := fun d => (ma d).bind fun x d1 => (mb d1).bind fun y d2 => (ofOpt (g x y) d2).bind fun z d2 => match z with
  | .bool true => (mc d2).bind fun u d3 => (ofOpt (g' y u) d3).bind fun z' d3 => match z' with
    | .bool true => (me d3).bind fun v d4 => ofOpt (g'' u v) d4
    | .bool false => .ok (.bool false) d3
    | _ => .bad
  | .bool false => .ok (.bool false) d2
  | _ => .bad
theorem t_chain3 {pa pb pc pd : Bool} {r r' r'' : R2} {g g' g'' : W → W → Option W} {ma mb mc me : M W} (hd : ∀ (Ex : Addr → Nat → Prop) (O : Addr → Prop) (H : Hp) (x y : V) (a b c : W) (Q : VK), (∀ p, O p → ∃ o, H p = some o) → g a b = some c → Rp X.K Ex O H x a → Rp X.K Ex O H y b → (∀ H' v, Same H H' → Rp X.K Ex O H' v c → Q v H') → r x y H Q) (hd' : ∀ (Ex : Addr → Nat → Prop) (O : Addr → Prop) (H : Hp) (x y : V) (a b c : W) (Q : VK), (∀ p, O p → ∃ o, H p = some o) → g' a b = some c → Rp X.K Ex O H x a → Rp X.K Ex O H y b → (∀ H' v, Same H H' → Rp X.K Ex O H' v c → Q v H') → r' x y H Q) (hd'' : ∀ (Ex : Addr → Nat → Prop) (O : Addr → Prop) (H : Hp) (x y : V) (a b c : W) (Q : VK), (∀ p, O p → ∃ o, H p = some o) → g'' a b = some c → Rp X.K Ex O H x a → Rp X.K Ex O H y b → (∀ H' v, Same H H' → Rp X.K Ex O H' v c → Q v H') → r'' x y H Q) (σ : St) (H : Hp) (Q : VK) (h : tE X Y (pa && (pb && (pc && pd))) (mChain3 g g' g'' ma mb mc me) σ H Q) : tChain3 r r' r'' (tE X Y pa ma) (tE X Y pb mb) (tE X Y pc mc) (tE X Y pd me) σ H Q := by
  obtain ⟨Oc, d, rs, h⟩ := h
  refine ⟨Oc, d, rs, (Po.bind h).imp fun x d1 H1 g1 q1 v1 r1 => ⟨Oc, d1, g1.rs, (Po.bind q1).imp fun y d2 H2 g2 q2 v2 r2 => ?_⟩⟩
  obtain ⟨z, ez, k⟩ := Po.opt (Po.bind0 q2)
  refine hd Y.Ex (Ow Oc d2 σ) H2 v1 v2 x y z _ (fun p hp => g2.rs.there hp) ez (g2.rp r1) r2 fun H3 v3 s3 r3 => ?_
  have g3 : Go X.K Y.Ex Oc true σ d2 H2 d2 H3 := .same g2.rs s3
  have k3 := k H3 g3
  cases z with
  | bool b =>
    cases r3
    cases b with
    | true =>
      refine ⟨true, rfl, ?_⟩
      rw [if_pos rfl]
      refine ⟨Oc, d2, g3.rs, (Po.bind k3).imp fun u d4 H4 g4 q4 v4 r4 => ?_⟩
      obtain ⟨c, ec, k5⟩ := Po.opt (Po.bind0 q4)
      refine hd' Y.Ex (Ow Oc d4 σ) H4 v2 v4 y u c _ (fun p hp => g4.rs.there hp) ec (g4.rp (g3.rp r2)) r4 fun H5 v5 s5 r5 => ?_
      have g5 : Go X.K Y.Ex Oc true σ d4 H4 d4 H5 := .same g4.rs s5
      have k6 := k5 H5 g5
      cases c with
      | bool b2 =>
        cases r5
        cases b2 with
        | true =>
          refine ⟨true, rfl, ?_⟩
          rw [if_pos rfl]
          refine ⟨Oc, d4, g5.rs, (Po.bind1 k6).imp fun w d6 H6 g6 q6 v6 r6 => ?_⟩
          obtain ⟨c2, ec2, k7⟩ := Po.opt q6
          exact hd'' Y.Ex (Ow Oc d6 σ) H6 v4 v6 u w c2 Q (fun p hp => g6.rs.there hp) ec2 (g6.rp (g5.rp r4)) r6 fun H7 v7 s7 r7 => k7 H7 (.same g6.rs s7) v7 r7
        | false =>
          refine ⟨false, rfl, ?_⟩
          rw [if_neg Bool.false_ne_true]
          exact k6 H5 (.refl g5.rs) (.bl false) (.bl false)
      | none => exact k6.elim
      | int i => exact k6.elim
      | str s => exact k6.elim
      | tuple t => exact k6.elim
      | list l => exact k6.elim
      | dict l => exact k6.elim
    | false =>
      refine ⟨false, rfl, ?_⟩
      rw [if_neg Bool.false_ne_true]
      exact k3 H3 (.refl g3.rs) (.bl false) (.bl false)
  | none => exact k3.elim
  | int i => exact k3.elim
  | str s => exact k3.elim
  | tuple t => exact k3.elim
  | list l => exact k3.elim
  | dict l => exact k3.elim
theorem d_chain3 {pa pb pc pd : Bool} {op op' op'' : CmpOp} {g g' g'' : W → W → Option W} {a b c e : Expr} {pos : Pos} {ma mb mc me : M W} (ho : OpD X (compareOp op) g) (ho' : OpD X (compareOp op') g') (ho'' : OpD X (compareOp op'') g'') (ha : DE X Y pa a ma) (hb : DE X Y pb b mb) (hc : DE X Y pc c mc) (he : DE X Y pd e me)
    (hm : lastMarks [op, op', op''] [b, c, e] = false := by rfl) : DE X Y (pa && (pb && (pc && pd))) (.Compare a [op, op', op''] [b, c, e] pos) (mChain3 g g' g'' ma mb mc me) :=
  let ⟨_, hr, hd⟩ := ho
  let ⟨_, hr', hd'⟩ := ho'
  let ⟨_, hr'', hd''⟩ := ho''
  ⟨pe_weak (pe_chain3 hr hr' hr'' ha.pe hb.pe hc.pe he.pe hm) (t_chain3 hd hd' hd'')⟩
theorem dt_chain3 {pa pb pc pd : Bool} {op op' op'' : CmpOp} {g g' g'' : W → W → Option W} {a b c e : Expr} {pos : Pos} {ma mb mc me : M W} (ho : OpD X (compareOp op) g) (ho' : OpD X (compareOp op') g') (ho'' : OpD X (compareOp op'') g'') (ha : DE X Y pa a ma) (hb : DE X Y pb b mb) (hc : DE X Y pc c mc) (he : DE X Y pd e me)
    (hm : lastMarks [op, op', op''] [b, c, e] = false := by rfl) : DT X Y (pa && (pb && (pc && pd))) (.Compare a [op, op', op''] [b, c, e] pos) (mTest (mChain3 g g' g'' ma mb mc me)) := by
  obtain ⟨r, hr, hd⟩ := ho
  obtain ⟨r', hr', hd'⟩ := ho'
  obtain ⟨r'', hr'', hd''⟩ := ho''
  exact ⟨pt_weak (pt_chain3 hr hr' hr'' ha.pe hb.pe hc.pe he.pe hm) fun σ H Q h => tTest_of (fun Q q => t_chain3 hd hd' hd'' σ H Q q) h⟩
end
end Qd
end
section
set_option Elab.async false
set_option linter.all false
set_option maxRecDepth 100000
set_option maxHeartbeats 1000000
/-! Evaluating the semantics: equations for simp. -/
namespace Qd
open PySem PySem.Spec PyProof.Rows L2

section
variable (d : SD)
@[simp] theorem ev_seq (a b : MS) : mSeq a b d = (a d).seq b := rfl
@[simp] theorem ev_skip : mSkip d = .next d := rfl
@[simp] theorem ev_ret (a : M W) : mRet a d = (a d).toS fun w d1 => .ret (.val w) d1 := rfl
@[simp] theorem ev_retF (a : M W) : mRetF a d = (a d).toS fun w d1 => .ret (.own w) d1 := rfl
@[simp] theorem ev_drop (a : M W) : mDrop a d = (a d).toS fun _ d1 => .next d1 := rfl
@[simp] theorem ev_if (t : M Bool) (a b : MS) : mIf t a b d = (t d).toS fun c d1 => if c = true then a d1 else b d1 := rfl
@[simp] theorem ev_asg (g : GW) (a : M W) : mAsg g a d = (a d).toS fun w d1 => sOpt (g w d1) := rfl
@[simp] theorem ev_asgOwn (i : Nat) (a : M W) : mAsgOwn i a d = (a d).toS fun w d1 => sOpt (storeOwn i w d1) := rfl
@[simp] theorem ev_raise (c : Nat) : mRaise c d = .exc c d := rfl
@[simp] theorem ev_for (it : M (List W)) (g : GW) (b : MS) : mFor it g b d = (it d).toS fun ws d1 => forD g b ws d1 := rfl
@[simp] theorem ev_c (w : W) : mC w d = .ok w d := rfl
@[simp] theorem ev_nil : mNil d = .ok [] d := rfl
@[simp] theorem ev_cons (a : M W) (r : M (List W)) : mCons a r d = (a d).bind fun x d1 => (r d1).bind fun xs d2 => .ok (x :: xs) d2 := rfl
@[simp] theorem ev_bin (g : W → W → Option W) (a b : M W) : mBin g a b d = (a d).bind fun x d1 => (b d1).bind fun y d2 => ofOpt (g x y) d2 := rfl
@[simp] theorem ev_un (g : W → Option W) (a : M W) : mUn g a d = (a d).bind fun x d1 => ofOpt (g x) d1 := rfl
@[simp] theorem ev_callB (g : List W → Option W) (a : M (List W)) : mCallB g a d = (a d).bind fun xs d1 => ofOpt (g xs) d1 := rfl
@[simp] theorem ev_andT (a b : M Bool) : mAndT a b d = (a d).bind fun x d1 => if x = true then b d1 else .ok false d1 := rfl
@[simp] theorem ev_orT (a b : M Bool) : mOrT a b d = (a d).bind fun x d1 => if x = true then .ok true d1 else b d1 := rfl
@[simp] theorem ev_notT (a : M Bool) : mNotT a d = (a d).bind fun x d1 => .ok (!x) d1 := rfl
@[simp] theorem ev_test (a : M W) : mTest a d = (a d).bind fun x d1 => match x with
  | .bool b => .ok b d1
  | _ => .bad := rfl
@[simp] theorem ev_truth (a : M W) : mTruth a d = (a d).bind fun x d1 => ofOpt (truth x) d1 := rfl
@[simp] theorem ev_ifE (t : M Bool) (a b : M W) : mIfE t a b d = (t d).bind fun c d1 => if c = true then a d1 else b d1 := rfl
@[simp] theorem ev_andV (a b : M W) : mAndV a b d = (a d).bind fun x d1 => (ofOpt (asB x) d1).bind fun k d2 => if k = true then b d2 else .ok (.bool false) d2 := rfl
@[simp] theorem ev_orV (a b : M W) : mOrV a b d = (a d).bind fun x d1 => (ofOpt (asB x) d1).bind fun k d2 => if k = true then .ok (.bool true) d2 else b d2 := rfl
@[simp] theorem ev_notV (a : M W) : mNotV a d = (a d).bind fun x d1 => (ofOpt (asB x) d1).bind fun k d2 => .ok (.bool (!k)) d2 := rfl
@[simp] theorem ev_chain (g g' : W → W → Option W) (a b c : M W) : mChain g g' a b c d = (a d).bind fun x d1 => (b d1).bind fun y d2 => (ofOpt (g x y) d2).bind fun z d3 => match z with
  | .bool true => (c d3).bind fun u d4 => ofOpt (g' y u) d4
  | .bool false => .ok (.bool false) d3
  | _ => .bad := rfl
@[simp] theorem ev_lst (a : M (List W)) : mLst a d = (a d).bind fun ws d1 => if ws.length ≤ sizeLine then .ok (.list ws) d1 else .bad := rfl
@[simp] theorem ev_tup (a : M (List W)) : mTup a d = (a d).bind fun ws d1 => if ws.length ≤ sizeLine then .ok (.tuple ws) d1 else .bad := rfl
@[simp] theorem ev_rng1 (a : M (List W)) : mRng1 a d = (a d).bind fun w d1 => ofOpt (range1? w) d1 := rfl
@[simp] theorem ev_rng2 (a : M (List W)) : mRng2 a d = (a d).bind fun w d1 => ofOpt (range2? w) d1 := rfl
@[simp] theorem ev_itS (a : M W) : mItS a d = (a d).bind fun w d1 => ofOpt (itemsOf w) d1 := rfl
@[simp] theorem ev_itL (a : M W) : mItL a d = (a d).bind fun w d1 => ofOpt (listOf? w) d1 := rfl
@[simp] theorem ev_yes : mYes d = .ok true d := rfl
@[simp] theorem ev_callV (F : FV) (as : M (List W)) : mCallV F as d = (as d).bind fun ws d1 => match F ws with
  | .ok (.val w) => .ok w d1
  | .ok (.own w) => .ok w d1
  | .ok (.par _) => .bad
  | .exc c => .exc c d1
  | .bad => .bad := rfl
@[simp] theorem ev_callO (F : FV) (as : M (List W)) : mCallO F as d = (as d).bind fun ws d1 => match F ws with
  | .ok (.own w) => .ok w d1
  | .exc c => .exc c d1
  | _ => .bad := rfl
@[simp] theorem ev_callE (F : FV) (as : M (List W)) : mCallE F as d = (as d).bind fun ws d1 => match F ws with
  | .ok (.val w) => .ok w d1
  | _ => .bad := rfl
@[simp] theorem ev_callP (F : FW) (i : Nat) (as : M (List W)) : mCallP F i as d = (ofOpt (mineAt i d) d).bind fun _ d0 => (as d0).bind fun ws d1 => (ofOpt (mineAt i d1) d1).bind fun u d2 => match F u ws with
  | .ok (.val w) u' => .ok w (setMine i u' d2)
  | .exc c u' => .exc c (setMine i u' d2)
  | _ => .bad := rfl
@[simp] theorem ev_var (i : Nat) : mVar i d = match d[i]? with
  | some (some (.val w)) => .ok w d
  | _ => .bad := rfl
@[simp] theorem ev_store (i : Nat) (w : W) : store i w d = match d[i]? with
  | some (some (.par _)) => none
  | some _ => some (d.set i (some (.val w)))
  | none => none := rfl
@[simp] theorem ev_storeOwn (i : Nat) (w : W) : storeOwn i w d = match d[i]? with
  | some (some (.par _)) => none
  | some _ => some (d.set i (some (.own w)))
  | none => none := rfl
@[simp] theorem ev_mineAt (i : Nat) : mineAt i d = match d[i]? with
  | some (some s) => Slot.mine? s
  | _ => none := rfl
@[simp] theorem ev_setMine (i : Nat) (u : W) : setMine i u d = match d[i]? with
  | some (some s) => d.set i (some (Slot.upd s u))
  | _ => d := rfl
@[simp] theorem ev_mineO (w : W) : Slot.mine? (.own w) = some w := rfl
@[simp] theorem ev_mineP (w : W) : Slot.mine? (.par w) = some w := rfl
@[simp] theorem ev_mineV (w : W) : Slot.mine? (.val w) = none := rfl
@[simp] theorem ev_updO (w u : W) : Slot.upd (.own w) u = .own u := rfl
@[simp] theorem ev_updP (w u : W) : Slot.upd (.par w) u = .par u := rfl
@[simp] theorem ev_frz : mFrzS [] (fun d => .next d) d = .next d := rfl
@[simp] theorem ev_frzS (is : List Nat) (m : MS) : mFrzS is m d = m (is.foldl (fun d i => frzAt i d) d) := rfl
@[simp] theorem ev_frzAt (i : Nat) : frzAt i d = match d[i]? with
  | some (some (.own w)) => d.set i (some (.val w))
  | _ => d := rfl
@[simp] theorem ev_frzE (m : M W) : mFrz m d = match m (frzD d) with
  | .ok w _ => if noLD w = true then .ok w d else .bad
  | .exc c _ => .exc c d
  | .bad => .bad := rfl
@[simp] theorem ev_frzT (m : M Bool) : mFrzT m d = match m (frzD d) with
  | .ok b _ => .ok b d
  | .exc c _ => .exc c d
  | .bad => .bad := rfl
@[simp] theorem ev_frzNil : frzD [] = [] := rfl
@[simp] theorem ev_frzCons (o : Option Slot) (r : SD) : frzD (o :: r) = o.map Slot.frz :: frzD r := rfl
@[simp] theorem ev_frzO (w : W) : Slot.frz (.own w) = .val w := rfl
@[simp] theorem ev_frzP (w : W) : Slot.frz (.par w) = .val w := rfl
@[simp] theorem ev_frzV (w : W) : Slot.frz (.val w) = .val w := rfl
@[simp] theorem ev_aug (g : W → W → Option W) (i : Nat) (m : M W) : mAug g i m d = (mVar i d).toS fun x d0 => (m d0).toS fun y d1 => match g x y with
  | some z => sOpt (store i z d1)
  | none => .bad := rfl
@[simp] theorem ev_setIx (g : W → W → W → Option W) (i : Nat) (ix m : M W) : mSetIx g i ix m d = (m d).toS fun w d1 => (ofOpt (mineAt i d1) d1).toS fun _ d1 => (ix d1).toS fun k d2 => (ofOpt (mineAt i d2) d2).toS fun u d2 => match g u k w with
  | some u' => .next (setMine i u' d2)
  | none => .bad := rfl
@[simp] theorem ev_meth (T : String) (g : W → List W → Option (W × W)) (i : Nat) (as : M (List W)) : mMeth T g i as d = (ofOpt (mineAt i d) d).bind fun u0 d0 => if tyW u0 = T then (as d0).bind fun ws d1 => (ofOpt (mineAt i d1) d1).bind fun u d2 => match g u ws with
  | some (c, u') => .ok c (setMine i u' d2)
  | none => .bad else .bad := rfl
@[simp] theorem ev_dget (a b : M W) : mDGet a b d = (a d).bind fun u d1 => (b d1).bind fun k d2 => match dfind u k with
  | some (some w) => .ok w d2
  | _ => .bad := rfl
@[simp] theorem ev_dnew (t : Bool) : mDNew t d = .ok (.dict (if t then [tagT] else [])) d := rfl
@[simp] theorem ev_unpOwn (i n : Nat) (g : GWs) : mUnpOwn i n g d = match mineAt i d with
  | some (.list ws) => if ws.length = n then sOpt (g ws d) else .bad
  | _ => .bad := rfl
@[simp] theorem ev_tupT (n : Nat) (g : GWs) (ws : List W) : gTupW n g (.tuple ws) d = if ws.length = n then g ws d else none := rfl
@[simp] theorem ev_gsNil : gsNil [] d = some d := rfl
@[simp] theorem ev_gsCons (g : GW) (r : GWs) (w : W) (ws : List W) : gsCons g r (w :: ws) d = (g w d).bind fun d1 => r ws d1 := rfl
@[simp] theorem ev_noPart : mNoPart d = .ok none d := rfl
@[simp] theorem ev_part (m : M W) : mPart m d = (m d).bind fun w d1 => (ofOpt (asI w) d1).bind fun i d1 => .ok (some i) d1 := rfl
@[simp] theorem ev_sl (a : M W) (lo hi : MO) : mSl a lo hi d = (a d).bind fun u d1 => (lo d1).bind fun l d2 => (hi d2).bind fun h d3 => ofOpt (slW u l h) d3 := rfl
@[simp] theorem ev_repF (a b : M W) : mRepF a b d = (a d).bind fun x d1 => (b d1).bind fun y d2 => match x, y with
  | .list xs, .int k => if cdec (-(2 ^ 63) ≤ k ∧ k < 2 ^ 63 ∧ xs.length * k.toNat ≤ sizeLine) = true then .ok (.list (List.replicate k.toNat xs).flatten) d2 else .bad
  | _, _ => .bad := rfl
@[simp] theorem ev_nilO : mNilO d = .ok [] d := rfl
@[simp] theorem ev_consV (a : M W) (r : M (List (Bool × W))) : mConsV a r d = (a d).bind fun x d1 => (r d1).bind fun xs d2 => .ok ((false, x) :: xs) d2 := rfl
@[simp] theorem ev_consO (a : M W) (r : M (List (Bool × W))) : mConsO a r d = (a d).bind fun x d1 => (r d1).bind fun xs d2 => .ok ((true, x) :: xs) d2 := rfl
@[simp] theorem ev_par (is : List Nat) (m : M (List (Bool × W))) : mPar is m d = (m d).toS fun ws d1 => sOpt (stores is ws d1) := rfl
@[simp] theorem ev_storesN : stores [] [] d = some d := rfl
@[simp] theorem ev_storesV (i : Nat) (is : List Nat) (w : W) (ws : List (Bool × W)) : stores (i :: is) ((false, w) :: ws) d = (store i w d).bind fun d1 => stores is ws d1 := rfl
@[simp] theorem ev_storesO (i : Nat) (is : List Nat) (w : W) (ws : List (Bool × W)) : stores (i :: is) ((true, w) :: ws) d = (storeOwn i w d).bind fun d1 => stores is ws d1 := rfl
@[simp] theorem ev_isE (n : Nat) (f : Nat → Bool) (m : M W) : mIsE n f m d = (m d).bind fun w d1 => match exOf w with
  | some k => if k < n then .ok (.bool (f k)) d1 else .bad
  | none => .bad := rfl
@[simp] theorem ev_exD (k : Nat) : exOf (exD k) = some k := by simp [exOf]
@[simp] theorem ev_forNil (g : GW) (b : MS) : forD g b [] d = .next d := rfl
@[simp] theorem ev_metV (T : String) (g : W → List W → Option W) (a : M W) (as : M (List W)) : mMetV T g a as d = (a d).bind fun u d1 => if tyW u = T ∧ isDict u = false then (as d1).bind fun ws d2 => ofOpt (g u ws) d2 else .bad := rfl
@[simp] theorem ev_subOwn (i : Nat) (ix : M W) : mSubOwn i ix d = (ofOpt (mineAt i d) d).bind fun _ d => (ix d).bind fun k d1 => (ofOpt (mineAt i d1) d1).bind fun u d1 => match u, k with
  | .list ds, .int j => ofOpt (atI ds j) d1
  | _, _ => .bad := rfl
end
/-! ### operators -/
@[simp] theorem ev_add (i j : Int) : addW (.int i) (.int j) = some (.int (i + j)) := rfl
@[simp] theorem ev_i2 (c : Int → Int → Bool) (g : Int → Int → Int) (i j : Int) : i2 c g (.int i) (.int j) = if c i j = true then some (.int (g i j)) else none := rfl
@[simp] theorem ev_c2 (g : Int → Int → Bool) (i j : Int) : c2 g (.int i) (.int j) = some (.bool (g i j)) := rfl
@[simp] theorem ev_or2 (g g' : W → W → Option W) (a b : W) : or2 g g' a b = match g a b with
  | some c => some c
  | none => g' a b := rfl
@[simp] theorem ev_neg (i : Int) : negW (.int i) = some (.int (-i)) := rfl
theorem ev_mul (i j : Int) (h : i.natAbs.log2 + j.natAbs.log2 < 8000000) : mulW (.int i) (.int j) = some (.int (i * j)) := by
  show (if cdec _ = true then _ else _) = _
  rw [if_pos (cdec_iff.mpr h)]
@[simp] theorem ev_eqI (i j : Int) : eqW (.int i) (.int j) = some (.bool (decide (i = j))) := by
  have h : okD (.int i) = true := by unfold okD; simp [noD, SeqAt.shaped, PyData.canLay0, PyData.depth]
  have h2 : okD (.int j) = true := by unfold okD; simp [noD, SeqAt.shaped, PyData.canLay0, PyData.depth]
  unfold eqW
  rw [h, h2]
  simp [PyData.eqv]
  rfl
@[simp] theorem ev_neI (i j : Int) : neW (.int i) (.int j) = some (.bool (!decide (i = j))) := by
  have h : okD (.int i) = true := by unfold okD; simp [noD, SeqAt.shaped, PyData.canLay0, PyData.depth]
  have h2 : okD (.int j) = true := by unfold okD; simp [noD, SeqAt.shaped, PyData.canLay0, PyData.depth]
  unfold neW
  rw [h, h2]
  simp [PyData.eqv]
  rfl
@[simp] theorem ev_truB (b : Bool) : truth (.bool b) = some b := rfl
@[simp] theorem ev_truI (i : Int) : truth (.int i) = some (i != 0) := rfl
@[simp] theorem ev_truL (ds : List W) : truth (.list ds) = some (!ds.isEmpty) := rfl
@[simp] theorem ev_truT (ds : List W) : truth (.tuple ds) = some (!ds.isEmpty) := rfl
@[simp] theorem ev_asB (b : Bool) : asB (.bool b) = some b := rfl
@[simp] theorem ev_asI (i : Int) : asI (.int i) = some i := rfl
@[simp] theorem ev_min2 (i j : Int) : min2W [.int i, .int j] = some (.int (if j < i then j else i)) := rfl
@[simp] theorem ev_max2 (i j : Int) : max2W [.int i, .int j] = some (.int (if j > i then j else i)) := rfl
@[simp] theorem ev_abs (i : Int) : absW [.int i] = some (.int (if i < 0 then -i else i)) := rfl
@[simp] theorem ev_intI (i : Int) : intW [.int i] = some (.int i) := rfl
@[simp] theorem ev_intB (b : Bool) : intW [.bool b] = some (.int (if b then 1 else 0)) := rfl
@[simp] theorem ev_lenL (ds : List W) : lenW [.list ds] = some (.int ds.length) := rfl
@[simp] theorem ev_lenT (ds : List W) : lenW [.tuple ds] = some (.int ds.length) := rfl
@[simp] theorem ev_itemsL (ds : List W) : itemsOf (.list ds) = some ds := rfl
@[simp] theorem ev_itemsT (ds : List W) : itemsOf (.tuple ds) = some ds := rfl
@[simp] theorem ev_listOf (ds : List W) : listOf? (.list ds) = some ds := rfl
@[simp] theorem ev_isN (a : W) : isNW a .none = some (.bool (isNone a)) := rfl
@[simp] theorem ev_notN (a : W) : notNW a .none = some (.bool (!isNone a)) := rfl
@[simp] theorem ev_isNoneN : isNone .none = true := rfl
@[simp] theorem ev_isNoneI (i : Int) : isNone (.int i) = false := rfl
@[simp] theorem ev_isNoneL (l : List W) : isNone (.list l) = false := rfl
@[simp] theorem ev_isNoneT (l : List W) : isNone (.tuple l) = false := rfl
@[simp] theorem ev_isNoneS (x : Str) : isNone (.str x) = false := rfl
@[simp] theorem ev_isNoneB (b : Bool) : isNone (.bool b) = false := rfl
@[simp] theorem ev_ixL (ds : List W) (i : Int) : ixW (.list ds) (.int i) = atI ds i := rfl
@[simp] theorem ev_ixT (ds : List W) (i : Int) : ixW (.tuple ds) (.int i) = atI ds i := rfl
@[simp] theorem ev_slL (ds : List W) (lo hi : Option Int) : slW (.list ds) lo hi = some (.list (cutA ds lo hi)) := rfl
@[simp] theorem ev_slT (ds : List W) (lo hi : Option Int) : slW (.tuple ds) lo hi = some (.tuple (cutA ds lo hi)) := rfl
@[simp] theorem ev_app (ds : List W) (w : W) : appendW (.list ds) [w] = if ds.length < sizeLine then some (.none, .list (ds ++ [w])) else none := rfl
@[simp] theorem ev_tyL (ds : List W) : tyW (.list ds) = "list" := rfl
@[simp] theorem ev_noI (i : Int) : noLD (.int i) = true := rfl
@[simp] theorem ev_noB (b : Bool) : noLD (.bool b) = true := rfl
@[simp] theorem ev_noN : noLD .none = true := rfl
@[simp] theorem ev_noS (x : Str) : noLD (.str x) = true := rfl
theorem kit_int_int : kitB "int" "int" = some true := by decide +kernel
theorem kit_int_bool : kitB "int" "bool" = some false := by decide +kernel
theorem kit_bool_int : kitB "bool" "int" = some true := by decide +kernel
theorem kit_bool_bool : kitB "bool" "bool" = some true := by decide +kernel
theorem kit_none_int : kitB "NoneType" "int" = some false := by decide +kernel
theorem kit_none_bool : kitB "NoneType" "bool" = some false := by decide +kernel
theorem kit_str_int : kitB "str" "int" = some false := by decide +kernel
theorem kit_str_bool : kitB "str" "bool" = some false := by decide +kernel
theorem kit_str_str : kitB "str" "str" = some true := by decide +kernel
theorem kit_list_int : kitB "list" "int" = some false := by decide +kernel
theorem kit_tuple_int : kitB "tuple" "int" = some false := by decide +kernel
theorem kit_list_list : kitB "list" "list" = some true := by decide +kernel
theorem kit_tuple_tuple : kitB "tuple" "tuple" = some true := by decide +kernel
theorem kit_list_tuple : kitB "list" "tuple" = some false := by decide +kernel
theorem kit_tuple_list : kitB "tuple" "list" = some false := by decide +kernel
@[simp] theorem ev_ii (i : Int) : isiW "int" (.int i) = some (.bool true) := by unfold isiW tyN; simp [kit_int_int]
@[simp] theorem ev_ib (i : Int) : isiW "bool" (.int i) = some (.bool false) := by unfold isiW tyN; simp [kit_int_bool]
@[simp] theorem ev_ni : isiW "int" .none = some (.bool false) := by unfold isiW tyN; simp [kit_none_int]
@[simp] theorem ev_si (x : Str) : isiW "int" (.str x) = some (.bool false) := by unfold isiW tyN; simp [kit_str_int]
@[simp] theorem ev_bi (b : Bool) : isiW "int" (.bool b) = some (.bool true) := by unfold isiW tyN; simp [kit_bool_int]
@[simp] theorem ev_bb (b : Bool) : isiW "bool" (.bool b) = some (.bool true) := by unfold isiW tyN; simp [kit_bool_bool]
@[simp] theorem ev_li (l : List W) : isiW "int" (.list l) = some (.bool false) := by unfold isiW tyN; simp [kit_list_int]
@[simp] theorem ev_ti (l : List W) : isiW "int" (.tuple l) = some (.bool false) := by unfold isiW tyN; simp [kit_tuple_int]
@[simp] theorem ev_ll (l : List W) : isiW "list" (.list l) = some (.bool true) := by unfold isiW tyN; simp [kit_list_list]
@[simp] theorem ev_tt (l : List W) : isiW "tuple" (.tuple l) = some (.bool true) := by unfold isiW tyN; simp [kit_tuple_tuple]
@[simp] theorem ev_lt (l : List W) : isiW "tuple" (.list l) = some (.bool false) := by unfold isiW tyN; simp [kit_list_tuple]
@[simp] theorem ev_tl (l : List W) : isiW "list" (.tuple l) = some (.bool false) := by unfold isiW tyN; simp [kit_tuple_list]
/-! ### running a def -/
@[simp] theorem ev_sdV (n : Nat) (ws : List W) : sdV n ws = ws.map (fun w => some (.val w)) ++ List.replicate (n - ws.length) none := rfl
@[simp] theorem log_small {n : Nat} (h : n < 9000) : n.log2 < 9000 := Nat.lt_of_le_of_lt (Nat.log2_le_self n) h
@[simp] theorem le_line {n : Nat} (h : n ≤ 16000000) : n ≤ sizeLine := Nat.le_trans h (by decide)
@[simp] theorem lt_line {n : Nat} (h : n < 16000000) : n < sizeLine := Nat.lt_of_lt_of_le h (by decide)
section
variable (d : SD)
@[simp] theorem ev_lc (vs : List Nat) (it : M (List W)) (g : GW) (t : M Bool) (e : M W) : mLc vs it g t e d = (it d).bind fun ws d1 => if cleanD d1 vs = true ∧ ws.length ≤ sizeLine then (match lcD vs g t e ws d1 with
  | .ok ys d2 => .ok (.list ys) (backD d1 vs d2)
  | _ => .bad) else .bad := rfl
@[simp] theorem ev_lcNil (vs : List Nat) (g : GW) (t : M Bool) (e : M W) : lcD vs g t e [] d = .ok [] d := rfl
@[simp] theorem ev_clean0 : cleanD d [] = true := rfl
@[simp] theorem ev_clean (v : Nat) (vs : List Nat) : cleanD d (v :: vs) = ((match d[v]? with
  | some (some (.own _)) => false
  | some (some (.par _)) => false
  | _ => true) && cleanD d vs) := rfl
@[simp] theorem ev_wipe0 : wipeD d [] = d := rfl
@[simp] theorem ev_wipe (v : Nat) (vs : List Nat) : wipeD d (v :: vs) = (wipeD d vs).set v none := rfl
@[simp] theorem ev_back0 (d0 : SD) : backD d0 [] d = d := rfl
@[simp] theorem ev_back (d0 : SD) (v : Nat) (vs : List Nat) : backD d0 (v :: vs) d = (backD d0 vs d).set v (d0.getD v none) := rfl
theorem lcD_cons (vs : List Nat) (g : GW) (t : M Bool) (e : M W) (w : W) (ws : List W) : lcD vs g t e (w :: ws) d = match g w (wipeD d vs) with
  | none => .bad
  | some d1 => (t d1).bind fun b d2 => if b = true then (e d2).bind fun y d3 => (lcD vs g t e ws d3).bind fun ys d4 => .ok (y :: ys) d4 else lcD vs g t e ws d2 := rfl
end
theorem sizeLine_big : 1000000 ≤ sizeLine := by decide
/-- a for over a range, by its turns -/
theorem forD_cons (g : GW) (b : MS) (w : W) (ws : List W) (d : SD) : forD g b (w :: ws) d = match g w d with
  | none => .bad
  | some d1 => match b d1 with
    | .next d2 => forD g b ws d2
    | .cont d2 => forD g b ws d2
    | .brk d2 => .next d2
    | .ret r d2 => .ret r d2
    | .exc c d2 => .exc c d2
    | .bad => .bad := rfl
theorem rangeW_succ (lo : Int) (n : Nat) : rangeW lo (n + 1) = .int lo :: rangeW (lo + 1) n := by
  unfold rangeW
  rw [List.range_succ_eq_map, List.map_cons, List.map_map]
  congr 1
  · simp
  · apply List.map_congr_left
    intro i _
    show PyData.int _ = PyData.int _
    congr 1
    push_cast
    omega
theorem rangeW_zero (lo : Int) : rangeW lo 0 = [] := rfl
theorem range2_of {a b : Int} {n : Nat} (h1 : -4611686018427387904 ≤ a) (h2 : a < 4611686018427387904) (h3 : -4611686018427387904 ≤ b) (h4 : b < 4611686018427387904) (h : (b - a).toNat = n) : range2? [.int a, .int b] = some (rangeW a n) := by
  subst h
  show (if (small62 a && small62 b) = true then _ else _) = _
  rw [small62_mk h1 h2, small62_mk h3 h4]
  rfl
theorem range1_of {b : Int} {n : Nat} (h3 : -4611686018427387904 ≤ b) (h4 : b < 4611686018427387904) (h : b.toNat = n) : range1? [.int b] = some (rangeW 0 n) := by
  subst h
  show (if small62 b = true then _ else _) = _
  rw [small62_mk h3 h4]
  rfl
/-- an invariant carried through a for over a range -/
theorem forD_range {g : GW} {b : MS} (P : Nat → SD → Prop) (lo : Int) : ∀ (n : Nat) (k : Nat) (d : SD), P k d →
    (∀ (i : Nat) (d : SD), k ≤ i → i < k + n → P i d → ∃ d1 d2, g (.int (lo + (i : Int))) d = some d1 ∧ (b d1 = .next d2 ∨ b d1 = .cont d2) ∧ P (i + 1) d2) → ∃ d', forD g b (rangeW (lo + (k : Int)) n) d = .next d' ∧ P (k + n) d'
  | 0, k, d, h, _ => ⟨d, rfl, h⟩
  | n + 1, k, d, h, hs => by
    obtain ⟨d1, d2, e1, e2, h2⟩ := hs k d (Nat.le_refl _) (by omega) h
    obtain ⟨d', e3, h3⟩ := forD_range P lo n (k + 1) d2 h2 fun i d a b c => hs i d (by omega) (by omega) c
    refine ⟨d', ?_, by rw [show k + (n + 1) = k + 1 + n by omega]; exact h3⟩
    rw [rangeW_succ, forD_cons, e1]
    have e : lo + (k : Int) + 1 = lo + ((k + 1 : Nat) : Int) := by push_cast; omega
    rcases e2 with e2 | e2 <;> (dsimp only; rw [e2, e]; exact e3)
theorem depthAll_ints' (ns : List Int) : PyData.depthAll (ns.map PyData.int) ≤ 1 := by
  induction ns with
  | nil => simp [PyData.depthAll]
  | cons n r ih => simp [PyData.depthAll, PyData.depth] at ih ⊢; omega
theorem okD_ints (ns : List Int) : okD (.list (ns.map PyData.int)) = true := by
  have h1 : noD (.list (ns.map PyData.int)) = true := by
    show noDs (ns.map PyData.int) = true
    induction ns with
    | nil => rfl
    | cons n r ih => simp [noDs, noD, ih]
  unfold okD
  rw [h1, Bool.true_and]
  exact PySem.W.shaped_ints ns
/-! ### comprehensions -/
theorem back_of_wipe {d0 d : SD} {vs : List Nat} (h : wipeD d vs = wipeD d0 vs) : backD d0 vs d = d0 := by
  have hl : d.length = d0.length := by rw [← wipeD_length d vs, h, wipeD_length]
  apply List.ext_getElem?
  intro j
  by_cases hj : j ∈ vs
  · by_cases lt : j < d.length
    · rw [backD_in hj lt hl.symm]
    · rw [List.getElem?_eq_none (by rw [backD_length]; omega), List.getElem?_eq_none (by omega)]
  · rw [backD_out hj, ← wipeD_out (d := d) hj, h, wipeD_out hj]
theorem lcD_filter {vs : List Nat} {g : GW} {t : M Bool} {e : M W} {d0 : SD} {p : W → Bool} {f : W → W} : ∀ {ws : List W} {d : SD}, wipeD d vs = wipeD d0 vs →
    (∀ w ∈ ws, ∃ d1 d2, g w (wipeD d0 vs) = some d1 ∧ t d1 = .ok (p w) d2 ∧ (p w = true → ∃ d3, e d2 = .ok (f w) d3 ∧ wipeD d3 vs = wipeD d0 vs) ∧ (p w = false → wipeD d2 vs = wipeD d0 vs)) → ∃ d4, lcD vs g t e ws d = .ok ((ws.filter p).map f) d4 ∧ wipeD d4 vs = wipeD d0 vs
  | [], d, hd, _ => ⟨d, rfl, hd⟩
  | w :: ws, d, hd, h => by
    obtain ⟨d1, d2, h1, h2, h3, h4⟩ := h w List.mem_cons_self
    rw [lcD_cons, hd, h1]
    dsimp only
    rw [h2]
    dsimp only [Out.bind]
    cases q : p w with
    | true =>
      obtain ⟨d3, h5, h6⟩ := h3 q
      obtain ⟨d4, h7, h8⟩ := lcD_filter (ws := ws) h6 fun x hx => h x (List.mem_cons_of_mem _ hx)
      refine ⟨d4, ?_, h8⟩
      rw [if_pos rfl, h5]
      dsimp only
      rw [h7, List.filter_cons, if_pos q]
      rfl
    | false =>
      obtain ⟨d4, h7, h8⟩ := lcD_filter (ws := ws) (h4 q) fun x hx => h x (List.mem_cons_of_mem _ hx)
      refine ⟨d4, ?_, h8⟩
      rw [if_neg Bool.false_ne_true, h7, List.filter_cons, if_neg (by rw [q]; exact Bool.false_ne_true)]
theorem mLc_filter {vs : List Nat} {it : M (List W)} {g : GW} {t : M Bool} {e : M W} {d d' : SD} {ws : List W} (p : W → Bool) (f : W → W) (hit : it d = .ok ws d') (hc : cleanD d' vs = true) (hl : ws.length ≤ sizeLine)
    (h : ∀ w ∈ ws, ∃ d1 d2, g w (wipeD d' vs) = some d1 ∧ t d1 = .ok (p w) d2 ∧ (p w = true → ∃ d3, e d2 = .ok (f w) d3 ∧ wipeD d3 vs = wipeD d' vs) ∧ (p w = false → wipeD d2 vs = wipeD d' vs)) : mLc vs it g t e d = .ok (.list ((ws.filter p).map f)) d' := by
  obtain ⟨d4, h1, h2⟩ := lcD_filter (d := d') rfl h
  rw [ev_lc, hit]
  dsimp only [Out.bind]
  rw [if_pos ⟨hc, hl⟩, h1]
  dsimp only
  rw [back_of_wipe h2]
theorem mLc_map {vs : List Nat} {it : M (List W)} {g : GW} {t : M Bool} {e : M W} {d d' : SD} {ws : List W} (f : W → W) (hit : it d = .ok ws d') (hc : cleanD d' vs = true) (hl : ws.length ≤ sizeLine)
    (h : ∀ w ∈ ws, ∃ d1 d2 d3, g w (wipeD d' vs) = some d1 ∧ t d1 = .ok true d2 ∧ e d2 = .ok (f w) d3 ∧ wipeD d3 vs = wipeD d' vs) : mLc vs it g t e d = .ok (.list (ws.map f)) d' := by
  have := mLc_filter (fun _ => true) f hit hc hl fun w hw => by
    obtain ⟨d1, d2, d3, h1, h2, h3, h4⟩ := h w hw
    exact ⟨d1, d2, h1, h2, fun _ => ⟨d3, h3, h4⟩, fun z => Bool.noConfusion z⟩
  rw [List.filter_eq_self.mpr (fun _ _ => rfl)] at this
  exact this
end Qd
end
section
set_option Elab.async false
set_option linter.all false
set_option maxRecDepth 100000
set_option maxHeartbeats 1000000
/-! More equations; steps of a law. -/
namespace Qd
open PySem PySem.Spec PyProof.Rows L2
/-- the law's answer is True -/
def Yes (o : SOut) : Prop := ∃ d, o = .ret (.val (.bool true)) d
theorem sqE {a b : MS} {d d' : SD} (h : a d = .next d') (k : Yes (b d')) : Yes (mSeq a b d) := by
  rw [ev_seq, h]; exact k
theorem frzE {is : List Nat} {m : MS} {d d' : SD} (h : is.foldl (fun d i => frzAt i d) d = d') (k : Yes (m d')) : Yes (mFrzS is m d) := by
  rw [ev_frzS, h]; exact k
/-- an answer -/
def Ret (r : Slot) (o : SOut) : Prop := ∃ d, o = .ret r d
theorem sqT {r : Slot} {a b : MS} {d d' : SD} (h : a d = .next d') (k : Ret r (b d')) : Ret r (mSeq a b d) := by
  rw [ev_seq, h]; exact k
theorem frzT {r : Slot} {is : List Nat} {m : MS} {d d' : SD} (h : is.foldl (fun d i => frzAt i d) d = d') (k : Ret r (m d')) : Ret r (mFrzS is m d) := by
  rw [ev_frzS, h]; exact k
theorem retT {r : Slot} {m : MS} {d d' : SD} (h : m d = .ret r d') : Ret r (m d) := ⟨d', h⟩
theorem runV_of {n : Nat} {m : MS} {ws : List W} {r : Slot} (h : Ret r (m (sdV n ws))) : runV n m ws = .ok r := by
  obtain ⟨d, e⟩ := h
  unfold runV
  rw [e]
/-- a def's answer -/
theorem sqR {a b : MS} {d d' : SD} {o : SOut} (h : a d = .next d') (k : b d' = o) : mSeq a b d = o := by
  rw [ev_seq, h]; exact k
theorem frzR {is : List Nat} {m : MS} {d d' : SD} {o : SOut} (h : is.foldl (fun d i => frzAt i d) d = d') (k : m d' = o) : mFrzS is m d = o := by
  rw [ev_frzS, h]; exact k
abbrev iv (n : Nat) : Option Slot := some (.val (.int (n : Int)))
abbrev sv (w : W) : Option Slot := some (.val w)
/-- data of a few levels, without dicts and deep texts -/
def lv : Nat → W → Prop
  | _, .none => True
  | _, .bool _ => True
  | _, .int _ => True
  | _, .str x => PyData.strOk x = true
  | k + 1, .list ds => ∀ d ∈ ds, lv k d
  | k + 1, .tuple ds => ∀ d ∈ ds, lv k d
  | _, _ => False
theorem noDs_of : ∀ {ds : List W}, (∀ d ∈ ds, noD d = true) → noDs ds = true
  | [], _ => rfl
  | d :: r, h => by
    show (noD d && noDs r) = true
    rw [h d List.mem_cons_self, noDs_of fun x hx => h x (List.mem_cons_of_mem _ hx)]; rfl
theorem canLayAll0_of : ∀ {ds : List W}, (∀ d ∈ ds, PyData.canLay0 d = true) → PyData.canLayAll0 ds = true
  | [], _ => by unfold PyData.canLayAll0; rfl
  | d :: r, h => by
    unfold PyData.canLayAll0
    rw [h d List.mem_cons_self, canLayAll0_of fun x hx => h x (List.mem_cons_of_mem _ hx)]; rfl
theorem depthAll_of {k : Nat} : ∀ {ds : List W}, (∀ d ∈ ds, PyData.depth d ≤ k) → PyData.depthAll ds ≤ k
  | [], _ => by unfold PyData.depthAll; exact Nat.zero_le _
  | d :: r, h => by
    unfold PyData.depthAll
    have h1 := h d List.mem_cons_self
    have h2 := depthAll_of (ds := r) fun x hx => h x (List.mem_cons_of_mem _ hx)
    omega
theorem lv_all : ∀ {k : Nat} {w : W}, lv k w → noD w = true ∧ PyData.canLay0 w = true ∧ PyData.depth w ≤ k + 1
  | k, .none, _ => ⟨rfl, by simp [PyData.canLay0], by simp [PyData.depth]⟩
  | k, .bool _, _ => ⟨rfl, by simp [PyData.canLay0], by simp [PyData.depth]⟩
  | k, .int _, _ => ⟨rfl, by simp [PyData.canLay0], by simp [PyData.depth]⟩
  | k, .str x, h => ⟨rfl, by
      cases k <;> (unfold PyData.canLay0; exact h), by simp [PyData.depth]⟩
  | 0, .list ds, h => h.elim
  | 0, .tuple ds, h => h.elim
  | k + 1, .list ds, h => by
    have h : ∀ d ∈ ds, lv k d := h
    refine ⟨noDs_of fun d hd => (lv_all (h d hd)).1, ?_, ?_⟩
    · unfold PyData.canLay0; exact canLayAll0_of fun d hd => (lv_all (h d hd)).2.1
    · have := depthAll_of fun d hd => (lv_all (h d hd)).2.2
      unfold PyData.depth; omega
  | k + 1, .tuple ds, h => by
    have h : ∀ d ∈ ds, lv k d := h
    refine ⟨noDs_of fun d hd => (lv_all (h d hd)).1, ?_, ?_⟩
    · unfold PyData.canLay0; exact canLayAll0_of fun d hd => (lv_all (h d hd)).2.1
    · have := depthAll_of fun d hd => (lv_all (h d hd)).2.2
      unfold PyData.depth; omega
  | k, .dict _, h => by cases k <;> exact h.elim
theorem lv_ok {k : Nat} (hk : k ≤ 60) {w : W} (h : lv k w) : okD w = true := by
  obtain ⟨h1, h2, h3⟩ := lv_all h
  unfold okD SeqAt.shaped
  rw [h1, h2, Bool.true_and, Bool.true_and]
  exact decide_eq_true (by omega)
theorem okD_refl {w : W} (h : okD w = true) : PyData.eqv w w = true := by
  unfold okD at h
  rw [Bool.and_eq_true] at h
  exact SeqAt.eqv_refl w (SeqAt.canLay_of_shaped h.2)
theorem eq_self {w : W} (h : okD w = true) : eqW w w = some (.bool true) := by
  unfold eqW
  rw [h, okD_refl h]
  rfl
theorem ne_self {w : W} (h : okD w = true) : neW w w = some (.bool false) := by
  unfold neW
  rw [h, okD_refl h]
  rfl
/-! ### comprehensions over a list that is a map -/
theorem lcD_of {α : Type} {vs : List Nat} {g : GW} {t : M Bool} {e : M W} {d0 : SD} (f0 f : α → W) (p : α → Bool) : ∀ (l : List α) {d : SD}, wipeD d vs = wipeD d0 vs →
    (∀ a ∈ l, ∃ d1 d2, g (f0 a) (wipeD d0 vs) = some d1 ∧ t d1 = .ok (p a) d2 ∧ (p a = true → ∃ d3, e d2 = .ok (f a) d3 ∧ wipeD d3 vs = wipeD d0 vs) ∧ (p a = false → wipeD d2 vs = wipeD d0 vs)) → ∃ d4, lcD vs g t e (l.map f0) d = .ok ((l.filter p).map f) d4 ∧ wipeD d4 vs = wipeD d0 vs
  | [], d, hd, _ => ⟨d, rfl, hd⟩
  | a :: l, d, hd, h => by
    obtain ⟨d1, d2, h1, h2, h3, h4⟩ := h a List.mem_cons_self
    rw [List.map_cons, lcD_cons, hd, h1]
    dsimp only
    rw [h2]
    dsimp only [Out.bind]
    cases q : p a with
    | true =>
      obtain ⟨d3, h5, h6⟩ := h3 q
      obtain ⟨d4, h7, h8⟩ := lcD_of f0 f p l h6 fun x hx => h x (List.mem_cons_of_mem _ hx)
      refine ⟨d4, ?_, h8⟩
      rw [if_pos rfl, h5]
      dsimp only
      rw [h7, List.filter_cons, if_pos q]
      rfl
    | false =>
      obtain ⟨d4, h7, h8⟩ := lcD_of f0 f p l (h4 q) fun x hx => h x (List.mem_cons_of_mem _ hx)
      refine ⟨d4, ?_, h8⟩
      rw [if_neg Bool.false_ne_true, h7, List.filter_cons, if_neg (by rw [q]; exact Bool.false_ne_true)]
theorem mLc_of {α : Type} {vs : List Nat} {it : M (List W)} {g : GW} {t : M Bool} {e : M W} {d d' : SD} (l : List α) (f0 f : α → W) (p : α → Bool) (hit : it d = .ok (l.map f0) d') (hc : cleanD d' vs = true) (hl : l.length ≤ sizeLine)
    (h : ∀ a ∈ l, ∃ d1 d2, g (f0 a) (wipeD d' vs) = some d1 ∧ t d1 = .ok (p a) d2 ∧ (p a = true → ∃ d3, e d2 = .ok (f a) d3 ∧ wipeD d3 vs = wipeD d' vs) ∧ (p a = false → wipeD d2 vs = wipeD d' vs)) : mLc vs it g t e d = .ok (.list ((l.filter p).map f)) d' := by
  obtain ⟨d4, h1, h2⟩ := lcD_of f0 f p l (d := d') rfl h
  rw [ev_lc, hit]
  dsimp only [Out.bind]
  rw [if_pos ⟨hc, by rw [List.length_map]; exact hl⟩, h1]
  dsimp only
  rw [back_of_wipe h2]
theorem mLc_all {α : Type} {vs : List Nat} {it : M (List W)} {g : GW} {t : M Bool} {e : M W} {d d' : SD} (l : List α) (f0 f : α → W) (hit : it d = .ok (l.map f0) d') (hc : cleanD d' vs = true) (hl : l.length ≤ sizeLine)
    (h : ∀ a ∈ l, ∃ d1 d2 d3, g (f0 a) (wipeD d' vs) = some d1 ∧ t d1 = .ok true d2 ∧ e d2 = .ok (f a) d3 ∧ wipeD d3 vs = wipeD d' vs) : mLc vs it g t e d = .ok (.list (l.map f)) d' := by
  have := mLc_of l f0 f (fun _ => true) hit hc hl fun a ha => by
    obtain ⟨d1, d2, d3, h1, h2, h3, h4⟩ := h a ha
    exact ⟨d1, d2, h1, h2, fun _ => ⟨d3, h3, h4⟩, fun z => Bool.noConfusion z⟩
  rw [List.filter_eq_self.mpr (fun _ _ => rfl)] at this
  exact this
theorem rangeW_map (lo : Int) (n : Nat) : rangeW lo n = (List.range n).map fun (i : Nat) => PyData.int (lo + (i : Int)) := rfl
/-- a for over a list, with what holds between the turns -/
theorem forD_inv {α : Type} {g : GW} {b : MS} (f0 : α → W) (P : List α → SD → Prop) : ∀ (l : List α) (d : SD), P l d →
    (∀ (a : α) (r : List α) (d : SD), P (a :: r) d → ∃ d1 d2, g (f0 a) d = some d1 ∧ (b d1 = .next d2 ∨ b d1 = .cont d2) ∧ P r d2) → ∃ d', forD g b (l.map f0) d = .next d' ∧ P [] d'
  | [], d, h, _ => ⟨d, rfl, h⟩
  | a :: r, d, h, hs => by
    obtain ⟨d1, d2, e1, e2, h2⟩ := hs a r d h
    obtain ⟨d', e3, h3⟩ := forD_inv f0 P r d2 h2 hs
    refine ⟨d', ?_, h3⟩
    rw [List.map_cons, forD_cons, e1]
    rcases e2 with e2 | e2 <;> (dsimp only; rw [e2]; exact e3)
end Qd
end
section
set_option Elab.async false
set_option linter.all false
set_option maxRecDepth 100000
set_option maxHeartbeats 1000000
/-! Yet more equations; answers of defs. -/
namespace Qd
open PySem PySem.Spec PyProof.Rows L2
/-- the recursion's ground: promises nothing -/
theorem fn_bad {P : Program} {w : World} {K : PySem.W.Frag} {mg : Str → Option Value} {base : Heap} {CX : CXT} {k : Nat} {f : Addr} {fd : FuncData} {ps : List Str} {T : Nat → Value} {on : On} {np : Nat} : FnOk P w K mg base CX k f fd ps (spV K T on (fun _ => .bad) np) :=
  ⟨fun vs H Q E h => by obtain ⟨_, _, _, _, _, z⟩ := h; exact z.elim, fun A outer s H args us vs Q E hr he hb hv h => by obtain ⟨_, _, _, _, _, z⟩ := h; exact z.elim⟩
section
variable (d : SD)
@[simp] theorem ev_gx (stop : Bool) (vs : List Nat) (it : M (List W)) (g : GW) (t : M Bool) (e : M W) : mGx stop vs it g t e d = (it d).bind fun ws d1 => if cleanD d1 vs = true then
  (match gxD stop vs g t e ws d1 with
    | .ok b d2 => .ok (.bool b) (backD d1 vs d2)
    | _ => .bad) else .bad := rfl
@[simp] theorem ev_gxNil (stop : Bool) (vs : List Nat) (g : GW) (t : M Bool) (e : M W) : gxD stop vs g t e [] d = .ok (!stop) d := rfl
theorem gxD_cons (stop : Bool) (vs : List Nat) (g : GW) (t : M Bool) (e : M W) (w : W) (ws : List W) : gxD stop vs g t e (w :: ws) d = match g w (wipeD d vs) with
    | none => .bad
    | some d1 => (t d1).bind fun b d2 => if b = true then (e d2).bind fun y d3 => (ofOpt (asB y) d3).bind fun k d4 => if k = stop then .ok stop d4 else gxD stop vs g t e ws d4 else gxD stop vs g t e ws d2 := rfl
@[simp] theorem ev_listRev (a : M W) : mListRev a d = (a d).bind fun w d1 => match w with
  | .list ws => .ok (.list ws.reverse) d1
  | _ => .bad := rfl
@[simp] theorem ev_itRev (a : M W) : mItRev a d = (a d).bind fun w d1 => (ofOpt (itemsOf w) d1).bind fun ws d2 => .ok ws.reverse d2 := rfl
@[simp] theorem ev_rng3 (a : M (List W)) : mRng3 a d = (a d).bind fun w d1 => ofOpt (range3? w) d1 := rfl
@[simp] theorem ev_enum (a : M (List W)) : mEnum a d = (a d).bind fun ws d1 => match ws with
  | [.list us] => .ok (enumW 0 us) d1
  | _ => .bad := rfl
@[simp] theorem ev_zip (a : M (List W)) : mZip a d = (a d).bind fun ws d1 => match ws with
  | [.list us, .list ts] => .ok (zipW us ts) d1
  | [.tuple us, .tuple ts] => .ok (zipW us ts) d1
  | _ => .bad := rfl
@[simp] theorem ev_star (a : M W) (r : M (List W)) : mStar a r d = (a d).bind fun w d1 => (ofOpt (itemsOf w) d1).bind fun us d2 => (r d2).bind fun ws d3 => .ok (us ++ ws) d3 := rfl
@[simp] theorem ev_sorted (as : M (List W)) : mSorted as d = (as d).bind fun ws d1 => match ws with
  | [.list ds] => if (okD (.list ds) && (ds.all fun x => ds.all fun y => PySem.W.alike x y) && sortableB ds) = true then .ok (.list (sortW ds)) d1 else .bad
  | _ => .bad := rfl
end
theorem range3_of {i j c : Int} {n : Nat} (h : RgC i j c n) (hn : (Builtin.Range.rangeSize i j c).toNat = n) : range3? [.int i, .int j, .int c] = some (rangeC i c n) := by
  show (if cdec (∃ n, RgC i j c n) = true then some (rangeC i c (Builtin.Range.rangeSize i j c).toNat) else none) = _
  rw [if_pos (cdec_iff.mpr ⟨n, h⟩), hn]
/-! ### answers -/
def Exc (c : Nat) (o : SOut) : Prop := ∃ d, o = .exc c d
theorem sqX {c : Nat} {a b : MS} {d d' : SD} (h : a d = .next d') (k : Exc c (b d')) : Exc c (mSeq a b d) := by
  rw [ev_seq, h]; exact k
theorem sqX1 {c : Nat} {a b : MS} {d d' : SD} (h : a d = .exc c d') : Exc c (mSeq a b d) := ⟨d', by rw [ev_seq, h]; rfl⟩
theorem sqT1 {r : Slot} {a b : MS} {d d' : SD} (h : a d = .ret r d') : Ret r (mSeq a b d) := ⟨d', by rw [ev_seq, h]; rfl⟩
theorem sqY1 {a b : MS} {d d' : SD} (h : a d = .ret (.val (.bool true)) d') : Yes (mSeq a b d) := ⟨d', by rw [ev_seq, h]; rfl⟩
theorem retY {m : MS} {d d' : SD} (h : m d = .ret (.val (.bool true)) d') : Yes (m d) := ⟨d', h⟩
theorem runV_exc {n : Nat} {m : MS} {ws : List W} {c : Nat} (h : Exc c (m (sdV n ws))) : runV n m ws = .exc c := by
  obtain ⟨d, e⟩ := h
  unfold runV
  rw [e]
theorem runV_yes {n : Nat} {m : MS} {ws : List W} (h : Yes (m (sdV n ws))) : runV n m ws = .ok (.val (.bool true)) := by
  obtain ⟨d, e⟩ := h
  unfold runV
  rw [e]
/-- a step is a sequence -/
theorem sqA {a b c : MS} {d : SD} : mSeq (mSeq a b) c d = mSeq a (mSeq b c) d := by
  simp only [ev_seq]
  cases a d <;> rfl
/-! ### list and tuple sums, repetition -/
theorem add_list {xs ys : List W} (h : xs.length + ys.length ≤ 16000000) : addW (.list xs) (.list ys) = some (.list (xs ++ ys)) := by
  have c : xs.length + ys.length ≤ sizeLine := le_line h
  show (if xs.length + ys.length ≤ sizeLine then some (PyData.list (xs ++ ys)) else none) = _
  rw [if_pos c]
theorem add_tup {xs ys : List W} (h : xs.length + ys.length ≤ 16000000) : addW (.tuple xs) (.tuple ys) = some (.tuple (xs ++ ys)) := by
  have c : xs.length + ys.length ≤ sizeLine := le_line h
  show (if xs.length + ys.length ≤ sizeLine then some (PyData.tuple (xs ++ ys)) else none) = _
  rw [if_pos c]
theorem log2_le_of {n k : Nat} (h : n < 2 ^ k) : n.log2 ≤ k := by
  by_cases e : n = 0
  · subst e; exact Nat.zero_le _
  · exact Nat.le_of_lt ((Nat.log2_lt e).mpr h)
theorem mul_fit {i j : Int} {a b : Nat} (hi : i.natAbs < 2 ^ a) (hj : j.natAbs < 2 ^ b) (h : a + b < 8000000) : mulW (.int i) (.int j) = some (.int (i * j)) := by
  refine ev_mul i j ?_
  have := log2_le_of hi
  have := log2_le_of hj
  omega
theorem mul_sm {i j : Int} (hi : i.natAbs < 18446744073709551616) (hj : j.natAbs < 18446744073709551616) : mulW (.int i) (.int j) = some (.int (i * j)) :=
  mul_fit (a := 64) (b := 64) hi hj (by decide)
/-! ### naturals as data -/
def natW (cs : List Nat) : List W := cs.map fun (c : Nat) => PyData.int (c : Int)
def intW' (cs : List Int) : List W := cs.map PyData.int
theorem natW_len (cs : List Nat) : (natW cs).length = cs.length := List.length_map ..
theorem natW_ints (cs : List Nat) : natW cs = (cs.map fun (x : Nat) => (x : Int)).map PyData.int := by
  unfold natW
  rw [List.map_map]
  rfl
theorem natW_app (a b : List Nat) : natW (a ++ b) = natW a ++ natW b := List.map_append ..
theorem natW_get {cs : List Nat} {i : Nat} {c : Nat} (h : cs[i]? = some c) : (natW cs)[i]? = some (.int (c : Int)) := by
  unfold natW
  rw [List.getElem?_map, h]; rfl
theorem ints_ok (cs : List Int) : okD (.list (cs.map PyData.int)) = true ∧ alikeB (cs.map PyData.int) = true := by
  constructor
  · exact okD_ints _
  · unfold alikeB
    rw [Bool.and_eq_true, List.all_eq_true, List.all_eq_true]
    refine ⟨fun x hx => List.all_eq_true.mpr fun y hy => ?_, fun x hx => ?_⟩
    · obtain ⟨i, _, rfl⟩ := List.mem_map.mp hx
      obtain ⟨j, _, rfl⟩ := List.mem_map.mp hy
      simp [PySem.W.alike]
    · obtain ⟨i, _, rfl⟩ := List.mem_map.mp hx
      rfl
theorem natW_ok (cs : List Nat) : okD (.list (natW cs)) = true ∧ alikeB (natW cs) = true := by
  rw [natW_ints]; exact ints_ok _
theorem max_ints (c : Int) (cs : List Int) : maxW [.list ((c :: cs).map PyData.int)] = some (.int (cs.foldl max c)) := by
  obtain ⟨h1, h2⟩ := ints_ok (c :: cs)
  rw [List.map_cons] at h1 h2 ⊢
  show (if (okD _ && alikeB _) = true then some (PySem.W.maxD _ _) else none) = _
  rw [h1, h2, PySem.W.maxD_ints]
  rfl
theorem min_ints (c : Int) (cs : List Int) : minW [.list ((c :: cs).map PyData.int)] = some (.int (cs.foldl min c)) := by
  obtain ⟨h1, h2⟩ := ints_ok (c :: cs)
  rw [List.map_cons] at h1 h2 ⊢
  show (if (okD _ && alikeB _) = true then some (PySem.W.minD _ _) else none) = _
  rw [h1, h2, PySem.W.minD_ints]
  rfl
theorem foldl_cast (f : Nat → Nat → Nat) (g : Int → Int → Int) (h : ∀ a b : Nat, g a b = (f a b : Nat)) : ∀ (cs : List Nat) (c : Nat), (cs.map fun (x : Nat) => (x : Int)).foldl g (c : Int) = ((cs.foldl f c : Nat) : Int)
  | [], c => rfl
  | x :: r, c => by
    rw [List.map_cons, List.foldl_cons, List.foldl_cons, h]
    exact foldl_cast f g h r (f c x)
theorem max_nat (c : Nat) (cs : List Nat) : maxW [.list (natW (c :: cs))] = some (.int ((cs.foldl max c : Nat) : Int)) := by
  rw [natW_ints, List.map_cons, max_ints, foldl_cast max max (fun a b => by omega)]
theorem min_nat (c : Nat) (cs : List Nat) : minW [.list (natW (c :: cs))] = some (.int ((cs.foldl min c : Nat) : Int)) := by
  rw [natW_ints, List.map_cons, min_ints, foldl_cast min min (fun a b => by omega)]
/-! ### items -/
theorem atI_nat' {ws : List W} {i : Nat} {w : W} (h : ws[i]? = some w) : atI ws (i : Int) = some w := atI_nat h
theorem atI_natW {cs : List Nat} {i : Nat} {c : Nat} (h : cs[i]? = some c) : atI (natW cs) (i : Int) = some (.int (c : Int)) := atI_nat (natW_get h)
/-! ### all(..), any(..) over a list that is a map -/
theorem gxD_of {α : Type} {stop : Bool} {vs : List Nat} {g : GW} {t : M Bool} {e : M W} {d0 : SD} (f0 : α → W) (f p : α → Bool) : ∀ (l : List α) {d : SD}, wipeD d vs = wipeD d0 vs →
    (∀ a ∈ l, ∃ d1 d2, g (f0 a) (wipeD d0 vs) = some d1 ∧ t d1 = .ok (p a) d2 ∧ (p a = true → ∃ d3, e d2 = .ok (.bool (f a)) d3 ∧ wipeD d3 vs = wipeD d0 vs) ∧ (p a = false → wipeD d2 vs = wipeD d0 vs)) → ∃ d4, gxD stop vs g t e (l.map f0) d = .ok (if stop = true then (l.filter p).any f else (l.filter p).all f) d4 ∧ wipeD d4 vs = wipeD d0 vs
  | [], d, hd, _ => ⟨d, by cases stop <;> rfl, hd⟩
  | a :: l, d, hd, h => by
    obtain ⟨d1, d2, h1, h2, h3, h4⟩ := h a List.mem_cons_self
    rw [List.map_cons, gxD_cons, hd, h1]
    dsimp only
    rw [h2]
    dsimp only [Out.bind]
    cases q : p a with
    | true =>
      obtain ⟨d3, h5, h6⟩ := h3 q
      obtain ⟨d4, h7, h8⟩ := gxD_of f0 f p l h6 fun x hx => h x (List.mem_cons_of_mem _ hx)
      rw [if_pos rfl, h5, List.filter_cons, if_pos q]
      by_cases r : f a = stop
      · refine ⟨d3, ?_, h6⟩
        show (if f a = stop then Out.ok stop d3 else gxD stop vs g t e (l.map f0) d3) = _
        rw [if_pos r]
        subst r
        cases r : f a
        · simp [r]
        · simp [r]
      · refine ⟨d4, ?_, h8⟩
        show (if f a = stop then Out.ok stop d3 else gxD stop vs g t e (l.map f0) d3) = _
        rw [if_neg r, h7, List.any_cons, List.all_cons]
        cases r2 : f a <;> cases r3 : stop
        · exact absurd (r2.trans r3.symm) r
        · rfl
        · rfl
        · exact absurd (r2.trans r3.symm) r
    | false =>
      obtain ⟨d4, h7, h8⟩ := gxD_of f0 f p l (h4 q) fun x hx => h x (List.mem_cons_of_mem _ hx)
      refine ⟨d4, ?_, h8⟩
      rw [if_neg Bool.false_ne_true, h7, List.filter_cons, if_neg (c := p a = true) (by rw [q]; exact Bool.false_ne_true)]
theorem mGx_of {α : Type} {stop : Bool} {vs : List Nat} {it : M (List W)} {g : GW} {t : M Bool} {e : M W} {d d' : SD} (l : List α) (f0 : α → W) (f p : α → Bool) (hit : it d = .ok (l.map f0) d') (hc : cleanD d' vs = true)
    (h : ∀ a ∈ l, ∃ d1 d2, g (f0 a) (wipeD d' vs) = some d1 ∧ t d1 = .ok (p a) d2 ∧ (p a = true → ∃ d3, e d2 = .ok (.bool (f a)) d3 ∧ wipeD d3 vs = wipeD d' vs) ∧ (p a = false → wipeD d2 vs = wipeD d' vs)) : mGx stop vs it g t e d = .ok (.bool (if stop = true then (l.filter p).any f else (l.filter p).all f)) d' := by
  obtain ⟨d4, h1, h2⟩ := gxD_of (stop := stop) f0 f p l (d := d') rfl h
  rw [ev_gx, hit]
  dsimp only [Out.bind]
  rw [if_pos hc, h1]
  dsimp only
  rw [back_of_wipe h2]
/-- all(e for .. in ..) -/
theorem mAll_of {α : Type} {vs : List Nat} {it : M (List W)} {g : GW} {t : M Bool} {e : M W} {d d' : SD} (l : List α) (f0 : α → W) (f : α → Bool) (hit : it d = .ok (l.map f0) d') (hc : cleanD d' vs = true)
    (h : ∀ a ∈ l, ∃ d1 d2 d3, g (f0 a) (wipeD d' vs) = some d1 ∧ t d1 = .ok true d2 ∧ e d2 = .ok (.bool (f a)) d3 ∧ wipeD d3 vs = wipeD d' vs) : mGx false vs it g t e d = .ok (.bool (l.all f)) d' := by
  have := mGx_of (stop := false) l f0 f (fun _ => true) hit hc fun a ha => by
    obtain ⟨d1, d2, d3, h1, h2, h3, h4⟩ := h a ha
    exact ⟨d1, d2, h1, h2, fun _ => ⟨d3, h3, h4⟩, fun z => Bool.noConfusion z⟩
  rw [List.filter_eq_self.mpr (fun _ _ => rfl)] at this
  exact this
theorem mAny_of {α : Type} {vs : List Nat} {it : M (List W)} {g : GW} {t : M Bool} {e : M W} {d d' : SD} (l : List α) (f0 : α → W) (f : α → Bool) (hit : it d = .ok (l.map f0) d') (hc : cleanD d' vs = true)
    (h : ∀ a ∈ l, ∃ d1 d2 d3, g (f0 a) (wipeD d' vs) = some d1 ∧ t d1 = .ok true d2 ∧ e d2 = .ok (.bool (f a)) d3 ∧ wipeD d3 vs = wipeD d' vs) : mGx true vs it g t e d = .ok (.bool (l.any f)) d' := by
  have := mGx_of (stop := true) l f0 f (fun _ => true) hit hc fun a ha => by
    obtain ⟨d1, d2, d3, h1, h2, h3, h4⟩ := h a ha
    exact ⟨d1, d2, h1, h2, fun _ => ⟨d3, h3, h4⟩, fun z => Bool.noConfusion z⟩
  rw [List.filter_eq_self.mpr (fun _ _ => rfl)] at this
  exact this
/-! ### equality of data that need not be equal -/
theorem eqv_lv {a b : W} (ha : okD a = true) (hb : okD b = true) : eqW a b = some (.bool (PyData.eqv a b)) := by
  unfold eqW
  rw [ha, hb]; rfl
theorem nev_lv {a b : W} (ha : okD a = true) (hb : okD b = true) : neW a b = some (.bool (!PyData.eqv a b)) := by
  unfold neW
  rw [ha, hb]; rfl
@[simp] theorem is_bool_none : isiW "bool" .none = some (.bool false) := by unfold isiW tyN; simp [show kitB "NoneType" "bool" = some false from by decide +kernel]
@[simp] theorem is_bool_str (x : Str) : isiW "bool" (.str x) = some (.bool false) := by unfold isiW tyN; simp [show kitB "str" "bool" = some false from by decide +kernel]
@[simp] theorem is_bool_list (l : List W) : isiW "bool" (.list l) = some (.bool false) := by unfold isiW tyN; simp [show kitB "list" "bool" = some false from by decide +kernel]
@[simp] theorem is_bool_tuple (l : List W) : isiW "bool" (.tuple l) = some (.bool false) := by unfold isiW tyN; simp [show kitB "tuple" "bool" = some false from by decide +kernel]
@[simp] theorem is_str_none : isiW "str" .none = some (.bool false) := by unfold isiW tyN; simp [show kitB "NoneType" "str" = some false from by decide +kernel]
@[simp] theorem is_str_bool (b : Bool) : isiW "str" (.bool b) = some (.bool false) := by unfold isiW tyN; simp [show kitB "bool" "str" = some false from by decide +kernel]
@[simp] theorem is_str_int (i : Int) : isiW "str" (.int i) = some (.bool false) := by unfold isiW tyN; simp [show kitB "int" "str" = some false from by decide +kernel]
@[simp] theorem is_str_str (x : Str) : isiW "str" (.str x) = some (.bool true) := by unfold isiW tyN; simp [show kitB "str" "str" = some true from by decide +kernel]
@[simp] theorem is_str_list (l : List W) : isiW "str" (.list l) = some (.bool false) := by unfold isiW tyN; simp [show kitB "list" "str" = some false from by decide +kernel]
@[simp] theorem is_str_tuple (l : List W) : isiW "str" (.tuple l) = some (.bool false) := by unfold isiW tyN; simp [show kitB "tuple" "str" = some false from by decide +kernel]
@[simp] theorem is_list_none : isiW "list" .none = some (.bool false) := by unfold isiW tyN; simp [show kitB "NoneType" "list" = some false from by decide +kernel]
@[simp] theorem is_list_bool (b : Bool) : isiW "list" (.bool b) = some (.bool false) := by unfold isiW tyN; simp [show kitB "bool" "list" = some false from by decide +kernel]
@[simp] theorem is_list_int (i : Int) : isiW "list" (.int i) = some (.bool false) := by unfold isiW tyN; simp [show kitB "int" "list" = some false from by decide +kernel]
@[simp] theorem is_list_str (x : Str) : isiW "list" (.str x) = some (.bool false) := by unfold isiW tyN; simp [show kitB "str" "list" = some false from by decide +kernel]
@[simp] theorem is_tuple_none : isiW "tuple" .none = some (.bool false) := by unfold isiW tyN; simp [show kitB "NoneType" "tuple" = some false from by decide +kernel]
@[simp] theorem is_tuple_bool (b : Bool) : isiW "tuple" (.bool b) = some (.bool false) := by unfold isiW tyN; simp [show kitB "bool" "tuple" = some false from by decide +kernel]
@[simp] theorem is_tuple_int (i : Int) : isiW "tuple" (.int i) = some (.bool false) := by unfold isiW tyN; simp [show kitB "int" "tuple" = some false from by decide +kernel]
@[simp] theorem is_tuple_str (x : Str) : isiW "tuple" (.str x) = some (.bool false) := by unfold isiW tyN; simp [show kitB "str" "tuple" = some false from by decide +kernel]
def RP (r : Slot) (u : W) (o : SOut) : Prop := ∃ d, o = .ret r d ∧ parAt d = some u
theorem sqP {r : Slot} {u : W} {a b : MS} {d d' : SD} (h : a d = .next d') (k : RP r u (b d')) : RP r u (mSeq a b d) := by
  rw [ev_seq, h]; exact k
theorem sqP1 {r : Slot} {u : W} {a b : MS} {d d' : SD} (h : a d = .ret r d') (hp : parAt d' = some u) : RP r u (mSeq a b d) := ⟨d', by rw [ev_seq, h]; rfl, hp⟩
theorem frzP {r : Slot} {u : W} {is : List Nat} {m : MS} {d d' : SD} (h : is.foldl (fun d i => frzAt i d) d = d') (k : RP r u (m d')) : RP r u (mFrzS is m d) := by
  rw [ev_frzS, h]; exact k
theorem retP {r : Slot} {u : W} {m : MS} {d d' : SD} (h : m d = .ret r d') (hp : parAt d' = some u) : RP r u (m d) := ⟨d', h, hp⟩
theorem runP_of {n : Nat} {m : MS} {u u' : W} {ws : List W} {r : Slot} (h : RP r u' (m (sdP n u ws))) : runP n m u ws = .ok r u' := by
  obtain ⟨d, e, hp⟩ := h
  unfold runP
  rw [e]
  dsimp only
  rw [hp]
theorem ok_bool (b : Bool) : okD (.bool b) = true := by unfold okD; simp [noD, SeqAt.shaped, PyData.canLay0, PyData.depth]
theorem ok_none : okD .none = true := by unfold okD; simp [noD, SeqAt.shaped, PyData.canLay0, PyData.depth]
theorem ok_int (i : Int) : okD (.int i) = true := by unfold okD; simp [noD, SeqAt.shaped, PyData.canLay0, PyData.depth]
@[simp] theorem ev_eqB (a b : Bool) : eqW (.bool a) (.bool b) = some (.bool (a == b)) := by
  rw [eqv_lv (ok_bool a) (ok_bool b)]
  cases a <;> cases b <;> simp [PyData.eqv] <;> rfl
@[simp] theorem ev_neB (a b : Bool) : neW (.bool a) (.bool b) = some (.bool (a != b)) := by
  rw [nev_lv (ok_bool a) (ok_bool b)]
  cases a <;> cases b <;> simp [PyData.eqv] <;> rfl
theorem pop_last (ds : List W) (x : W) : popW (.list (ds ++ [x])) [] = some (x, .list ds) := by
  unfold popW
  have e : (ds ++ [x])[(ds ++ [x]).length - 1]? = some x := by simp
  dsimp only
  rw [e]
  simp
/-- data of a few levels, each of at most sixteen million items -/
def al : Nat → W → Prop
  | _, .none => True
  | _, .bool _ => True
  | _, .int _ => True
  | _, .str x => PyData.strOk x = true
  | k + 1, .list ds => ds.length ≤ 16000000 ∧ ∀ d ∈ ds, al k d
  | k + 1, .tuple ds => ds.length ≤ 16000000 ∧ ∀ d ∈ ds, al k d
  | _, _ => False
theorem al_lv : ∀ {k : Nat} {w : W}, al k w → lv k w
  | k, .none, _ => by cases k <;> trivial
  | k, .bool _, _ => by cases k <;> trivial
  | k, .int _, _ => by cases k <;> trivial
  | k, .str x, h => by cases k <;> exact h
  | 0, .list ds, h => h.elim
  | 0, .tuple ds, h => h.elim
  | k + 1, .list ds, h => fun d hd => al_lv (h.2 d hd)
  | k + 1, .tuple ds, h => fun d hd => al_lv (h.2 d hd)
  | k, .dict _, h => by cases k <;> exact h.elim
theorem al_up : ∀ {k : Nat} {w : W}, al k w → al (k + 1) w
  | k, .none, _ => trivial
  | k, .bool _, _ => trivial
  | k, .int _, _ => trivial
  | k, .str x, h => by cases k <;> exact h
  | 0, .list ds, h => h.elim
  | 0, .tuple ds, h => h.elim
  | k + 1, .list ds, h => ⟨h.1, fun d hd => al_up (h.2 d hd)⟩
  | k + 1, .tuple ds, h => ⟨h.1, fun d hd => al_up (h.2 d hd)⟩
  | k, .dict _, h => by cases k <;> exact h.elim
theorem al_int (k : Nat) (i : Int) : al k (.int i) := by cases k <;> trivial
theorem al_bool (k : Nat) (b : Bool) : al k (.bool b) := by cases k <;> trivial
theorem al_none (k : Nat) : al k .none := by cases k <;> trivial
theorem al_natW {k : Nat} {cs : List Nat} (h : cs.length ≤ 16000000) : al (k + 1) (.tuple (natW cs)) ∧ al (k + 1) (.list (natW cs)) := by
  have z : ∀ d ∈ natW cs, al k d := fun d hd => by
    obtain ⟨c, _, rfl⟩ := List.mem_map.mp hd
    exact al_int _ _
  exact ⟨⟨by rw [natW_len]; exact h, z⟩, ⟨by rw [natW_len]; exact h, z⟩⟩
end Qd
end
section
set_option Elab.async false
set_option linter.all false
set_option maxRecDepth 100000
set_option maxHeartbeats 1000000
/-! Slices, sums, equal data, comprehensions that write. -/
namespace Qd
open PySem PySem.Spec PyProof.Rows L2
theorem cut_take {α : Type} (xs : List α) (k : Nat) : cutA xs none (some (k : Int)) = xs.take k := by
  unfold cutA
  rw [HT.sIx_none, HT.sIx_nat, List.drop_zero, Nat.sub_zero]
  rcases Nat.le_total k xs.length with h | h
  · rw [Nat.min_eq_left h]
  · rw [Nat.min_eq_right h, List.take_length, List.take_of_length_le h]
theorem cut_drop {α : Type} (xs : List α) (k : Nat) : cutA xs (some (k : Int)) none = xs.drop k := by
  unfold cutA
  rw [HT.sIx_none, HT.sIx_nat]
  rcases Nat.le_total k xs.length with h | h
  · rw [Nat.min_eq_left h]
    exact List.take_of_length_le (by rw [List.length_drop]; omega)
  · rw [Nat.min_eq_right h, List.drop_length, List.drop_of_length_le h, List.take_nil]
theorem cut_mid {α : Type} (xs : List α) (j k : Nat) (h : j ≤ k) (hk : k ≤ xs.length) : cutA xs (some (j : Int)) (some (k : Int)) = (xs.drop j).take (k - j) := by
  unfold cutA
  rw [HT.sIx_nat, HT.sIx_nat, Nat.min_eq_left hk, Nat.min_eq_left (show j ≤ xs.length by omega)]
theorem natW_take (a : List Nat) (k : Nat) : (natW a).take k = natW (a.take k) := List.map_take.symm
theorem natW_drop (a : List Nat) (k : Nat) : (natW a).drop k = natW (a.drop k) := List.map_drop.symm
/-! ### sums of ints -/
theorem sum_ints (cs : List Int) : sumW [.list (cs.map PyData.int)] = some (.int cs.sum) := by
  show (intsOf _).map _ = _
  rw [intsOf_map]; rfl
theorem sum_cast (cs : List Nat) : (cs.map fun (x : Nat) => (x : Int)).sum = ((cs.sum : Nat) : Int) := by
  induction cs with
  | nil => rfl
  | cons c r ih => rw [List.map_cons, List.sum_cons, List.sum_cons, ih]; push_cast; rfl
theorem sum_nat (cs : List Nat) : sumW [.list (natW cs)] = some (.int ((cs.sum : Nat) : Int)) := by
  rw [natW_ints, sum_ints, sum_cast]
theorem sum_natT (cs : List Nat) : sumW [.tuple (natW cs)] = some (.int ((cs.sum : Nat) : Int)) := by
  rw [← sum_nat cs]; rfl
theorem lcD_idx {vs : List Nat} {g : GW} {t : M Bool} {e : M W} (P : Nat → SD → Prop) (Q : W → Prop) : ∀ {ws : List W} {i : Nat} {d : SD}, P i d →
    (∀ w ∈ ws, ∀ j d, i ≤ j → j < i + ws.length → P j d → ∃ d1 d2 y d3, g w (wipeD d vs) = some d1 ∧ t d1 = .ok true d2 ∧ e d2 = .ok y d3 ∧ P (j + 1) d3 ∧ Q y) → ∃ ys d', lcD vs g t e ws d = .ok ys d' ∧ P (i + ws.length) d' ∧ ys.length = ws.length ∧ ∀ y ∈ ys, Q y
  | [], i, d, h, _ => ⟨[], d, rfl, h, rfl, fun y hy => by cases hy⟩
  | w :: ws, i, d, h, hs => by
    obtain ⟨d1, d2, y, d3, h1, h2, h3, h4, h5⟩ := hs w List.mem_cons_self i d (Nat.le_refl _) (by simp) h
    obtain ⟨ys, d', e1, e2, e3, e4⟩ := lcD_idx P Q (ws := ws) h4 fun x hx j d hj hj2 hp => hs x (List.mem_cons_of_mem _ hx) j d (by omega) (by rw [List.length_cons]; omega) hp
    refine ⟨y :: ys, d', ?_, by rw [List.length_cons, show i + (ws.length + 1) = i + 1 + ws.length by omega]; exact e2, by rw [List.length_cons, List.length_cons, e3], fun z hz => ?_⟩
    · rw [lcD_cons, h1]
      dsimp only
      rw [h2]
      dsimp only [Out.bind]
      rw [if_pos rfl, h3]
      dsimp only
      rw [e1]
    · rcases List.mem_cons.mp hz with rfl | hz
      · exact h5
      · exact e4 z hz
/-- a comprehension that writes, by its turns -/
theorem mLc_idx {vs : List Nat} {it : M (List W)} {g : GW} {t : M Bool} {e : M W} {d d1 : SD} {ws : List W} (P : Nat → SD → Prop) (Q : W → Prop) (hit : it d = .ok ws d1) (hc : cleanD d1 vs = true) (hl : ws.length ≤ sizeLine) (hP : P 0 d1)
    (h : ∀ w ∈ ws, ∀ j d, j < ws.length → P j d → ∃ d1 d2 y d3, g w (wipeD d vs) = some d1 ∧ t d1 = .ok true d2 ∧ e d2 = .ok y d3 ∧ P (j + 1) d3 ∧ Q y) : ∃ ys d', mLc vs it g t e d = .ok (.list ys) (backD d1 vs d') ∧ P ws.length d' ∧ ys.length = ws.length ∧ ∀ y ∈ ys, Q y := by
  obtain ⟨ys, d', e1, e2, e3, e4⟩ := lcD_idx P Q (i := 0) hP fun w hw j d _ hj hp => h w hw j d (by omega) hp
  rw [Nat.zero_add] at e2
  refine ⟨ys, d', ?_, e2, e3, e4⟩
  rw [ev_lc, hit]
  dsimp only [Out.bind]
  rw [if_pos ⟨hc, hl⟩, e1]
/-! ### equal data -/
/-- data of a few levels without bools -/
def nb : Nat → W → Prop
  | _, .none => True
  | _, .int _ => True
  | _, .str x => PyData.strOk x = true
  | k + 1, .list ds => ∀ d ∈ ds, nb k d
  | k + 1, .tuple ds => ∀ d ∈ ds, nb k d
  | _, _ => False
theorem nb_lv : ∀ {k : Nat} {w : W}, nb k w → lv k w
  | k, .none, _ => by cases k <;> trivial
  | k, .bool _, h => by cases k <;> exact h.elim
  | k, .int _, _ => by cases k <;> trivial
  | k, .str x, h => by cases k <;> exact h
  | 0, .list ds, h => h.elim
  | 0, .tuple ds, h => h.elim
  | k + 1, .list ds, h => fun d hd => nb_lv (h d hd)
  | k + 1, .tuple ds, h => fun d hd => nb_lv (h d hd)
  | k, .dict _, h => by cases k <;> exact h.elim
mutual
theorem eqv_nb : ∀ (a b : W) (j k : Nat), nb j a → nb k b → (PyData.eqv a b = true ↔ a = b)
  | .bool _, _, j, _, h, _ => by cases j <;> exact h.elim
  | .dict _, _, j, _, h, _ => by cases j <;> exact h.elim
  | .none, b, j, k, h, h2 => by cases b <;> simp [PyData.eqv]
  | .int i, b, j, k, h, h2 => by
    cases b with
    | bool _ => cases k <;> exact h2.elim
    | _ => simp [PyData.eqv]
  | .str x, b, j, k, h, h2 => by cases b <;> simp [PyData.eqv]
  | .list xs, b, j, k, h, h2 => by
    cases b with
    | list ys => cases j with
      | zero => exact h.elim
      | succ j => cases k with
        | zero => exact h2.elim
        | succ k =>
          have := eqvAll_nb xs ys j k h h2
          simp only [PyData.eqv, PyData.list.injEq]
          exact this
    | _ => simp [PyData.eqv]
  | .tuple xs, b, j, k, h, h2 => by
    cases b with
    | tuple ys => cases j with
      | zero => exact h.elim
      | succ j => cases k with
        | zero => exact h2.elim
        | succ k =>
          have := eqvAll_nb xs ys j k h h2
          simp only [PyData.eqv, PyData.tuple.injEq]
          exact this
    | _ => simp [PyData.eqv]
theorem eqvAll_nb : ∀ (xs ys : List W) (j k : Nat), (∀ d ∈ xs, nb j d) → (∀ d ∈ ys, nb k d) → (PyData.eqvAll xs ys = true ↔ xs = ys)
  | [], [], _, _, _, _ => by simp [PyData.eqvAll]
  | [], _ :: _, _, _, _, _ => by simp [PyData.eqvAll]
  | _ :: _, [], _, _, _, _ => by simp [PyData.eqvAll]
  | x :: xs, y :: ys, j, k, h, h2 => by
    have e1 := eqv_nb x y j k (h x List.mem_cons_self) (h2 y List.mem_cons_self)
    have e2 := eqvAll_nb xs ys j k (fun d hd => h d (List.mem_cons_of_mem _ hd)) fun d hd => h2 d (List.mem_cons_of_mem _ hd)
    simp only [PyData.eqvAll, Bool.and_eq_true, e1, e2, List.cons.injEq]
end
theorem eqv_dec {a b : W} {j k : Nat} (h : nb j a) (h2 : nb k b) {p : Prop} [Decidable p] (hp : a = b ↔ p) : PyData.eqv a b = decide p := by
  have := eqv_nb a b j k h h2
  by_cases c : p
  · rw [decide_eq_true c]; exact this.mpr (hp.mpr c)
  · rw [decide_eq_false c]
    cases z : PyData.eqv a b with
    | false => rfl
    | true => exact absurd (hp.mp (this.mp z)) c
theorem eq_dec {a b : W} {j k : Nat} (hj : j ≤ 60) (hk : k ≤ 60) (h : nb j a) (h2 : nb k b) {p : Prop} [Decidable p] (hp : a = b ↔ p) : eqW a b = some (.bool (decide p)) := by
  rw [eqv_lv (lv_ok hj (nb_lv h)) (lv_ok hk (nb_lv h2)), eqv_dec h h2 hp]
theorem ne_dec {a b : W} {j k : Nat} (hj : j ≤ 60) (hk : k ≤ 60) (h : nb j a) (h2 : nb k b) {p : Prop} [Decidable p] (hp : a = b ↔ p) : neW a b = some (.bool (!decide p)) := by
  rw [nev_lv (lv_ok hj (nb_lv h)) (lv_ok hk (nb_lv h2)), eqv_dec h h2 hp]
theorem nb_int (k : Nat) (i : Int) : nb k (.int i) := by cases k <;> trivial
theorem nb_none (k : Nat) : nb k .none := by cases k <;> trivial
theorem nb_nat {k : Nat} {cs : List Nat} : ∀ d ∈ natW cs, nb k d := fun d hd => by
  obtain ⟨c, _, rfl⟩ := List.mem_map.mp hd
  exact nb_int _ _
theorem nb_natT (k : Nat) (cs : List Nat) : nb (k + 1) (.tuple (natW cs)) := nb_nat
theorem nb_natL (k : Nat) (cs : List Nat) : nb (k + 1) (.list (natW cs)) := nb_nat
theorem natW_inj {a b : List Nat} : natW a = natW b ↔ a = b := by
  constructor
  · intro h
    induction a generalizing b with
    | nil => cases b with
      | nil => rfl
      | cons y b => cases h
    | cons x a ih => cases b with
      | nil => cases h
      | cons y b =>
        unfold natW at h
        rw [List.map_cons, List.map_cons] at h
        injection h with h1 h2
        injection h1 with h1
        rw [ih h2, Int.ofNat.inj h1]
  · rintro rfl; rfl
theorem eq_natT (a b : List Nat) : eqW (.tuple (natW a)) (.tuple (natW b)) = some (.bool (decide (a = b))) := eq_dec (j := 1) (k := 1) (by decide) (by decide) (nb_natT 0 a) (nb_natT 0 b) (by rw [PyData.tuple.injEq, natW_inj])
theorem eq_natL (a b : List Nat) : eqW (.list (natW a)) (.list (natW b)) = some (.bool (decide (a = b))) := eq_dec (j := 1) (k := 1) (by decide) (by decide) (nb_natL 0 a) (nb_natL 0 b) (by rw [PyData.list.injEq, natW_inj])
theorem eq_emptyL (xs : List W) (k : Nat) (hk : k ≤ 59) (h : ∀ d ∈ xs, lv k d) : eqW (.list xs) (.list []) = some (.bool xs.isEmpty) ∧ neW (.list xs) (.list []) = some (.bool (!xs.isEmpty)) := by
  have h1 : okD (.list xs) = true := lv_ok (k := k + 1) (by omega) h
  have h2 : okD (.list []) = true := lv_ok (k := 1) (by omega) fun d hd => by cases hd
  rw [eqv_lv h1 h2, nev_lv h1 h2]
  cases xs <;> simp [PyData.eqv, PyData.eqvAll]
/-- x in a list of data -/
theorem in_any {neg : Bool} {a : W} {ds : List W} {k : Nat} (hk : k ≤ 59) (h : nb k a) (h2 : ∀ d ∈ ds, nb k d) {p : Prop} [Decidable p] (hp : a ∈ ds ↔ p) (b : W) (hb : itemsOf b = some ds) (hb2 : nb (k + 1) b) : inW neg a b = some (.bool (if neg then !decide p else decide p)) := by
  have e1 : okD a = true := lv_ok (k := k) (by omega) (nb_lv h)
  have e2 : okD b = true := lv_ok (k := k + 1) (by omega) (nb_lv hb2)
  have e : (ds.any fun z => PyData.eqv z a) = decide p := by
    rw [Bool.eq_iff_iff, List.any_eq_true, decide_eq_true_iff, ← hp]
    constructor
    · rintro ⟨z, hz, q⟩
      rw [← (eqv_nb z a k k (h2 z hz) h).mp q]; exact hz
    · intro hz
      exact ⟨a, hz, (eqv_nb a a k k h h).mpr rfl⟩
  unfold inW
  rw [hb]
  dsimp only
  rw [e1, e2, e]
  rfl
theorem eqv_intI (i j : Int) : PyData.eqv (.int i) (.int j) = decide (i = j) := by simp [PyData.eqv]; rfl
/-- places and counts of naturals -/
theorem findIdx_natW (cs : List Nat) (m : Nat) : (natW cs).findIdx? (fun z => PyData.eqv z (.int (m : Int))) = cs.findIdx? fun c => c == m := by
  unfold natW
  rw [List.findIdx?_map]
  congr 1
  funext c
  show PyData.eqv (.int (c : Int)) (.int (m : Int)) = _
  rw [eqv_intI]
  by_cases h : c = m
  · subst h; simp
  · have : ¬ ((c : Int) = (m : Int)) := by omega
    simp [h, this]
theorem count_natW (cs : List Nat) (m : Nat) : (natW cs).countP (fun z => PyData.eqv z (.int (m : Int))) = cs.countP fun c => c == m := by
  unfold natW
  rw [List.countP_map]
  congr 1
  funext c
  show PyData.eqv (.int (c : Int)) (.int (m : Int)) = _
  rw [eqv_intI]
  by_cases h : c = m
  · subst h; simp
  · have : ¬ ((c : Int) = (m : Int)) := by omega
    simp [h, this]
theorem ok_natT (cs : List Nat) : okD (.tuple (natW cs)) = true := lv_ok (k := 1) (by decide) (nb_lv (nb_natT 0 cs))
theorem ok_natL (cs : List Nat) : okD (.list (natW cs)) = true := lv_ok (k := 1) (by decide) (nb_lv (nb_natL 0 cs))
theorem index_natL (cs : List Nat) (m : Nat) : indexW (.list (natW cs)) [.int (m : Int)] = (cs.findIdx? fun c => c == m).map fun (j : Nat) => .int (j : Int) := by
  show (if (okD _ && okD _) = true then _ else _) = _
  rw [ok_natL, ok_int, findIdx_natW]
  cases cs.findIdx? fun c => c == m <;> rfl
theorem index_natT (cs : List Nat) (m : Nat) : indexTW (.tuple (natW cs)) [.int (m : Int)] = (cs.findIdx? fun c => c == m).map fun (j : Nat) => .int (j : Int) := by
  show (if (okD _ && okD _) = true then _ else _) = _
  rw [ok_natT, ok_int, findIdx_natW]
  cases cs.findIdx? fun c => c == m <;> rfl
theorem count_natL (cs : List Nat) (m : Nat) : countW (.list (natW cs)) [.int (m : Int)] = some (.int ((cs.countP fun c => c == m : Nat) : Int)) := by
  show (if (okD _ && okD _) = true then _ else _) = _
  rw [ok_natL, ok_int, count_natW]
  rfl
theorem count_natT (cs : List Nat) (m : Nat) : countTW (.tuple (natW cs)) [.int (m : Int)] = some (.int ((cs.countP fun c => c == m : Nat) : Int)) := by
  show (if (okD _ && okD _) = true then _ else _) = _
  rw [ok_natT, ok_int, count_natW]
  rfl
/-- max, min of tuples of naturals -/
theorem max_natT (c : Nat) (cs : List Nat) : maxW [.tuple (natW (c :: cs))] = some (.int ((cs.foldl max c : Nat) : Int)) := by
  obtain ⟨h1, h2⟩ := natW_ok (c :: cs)
  have h1 := ok_natT (c :: cs)
  have e : natW (c :: cs) = PyData.int (c : Int) :: natW cs := rfl
  rw [e] at h1 h2 ⊢
  show (if (okD _ && alikeB _) = true then some (PySem.W.maxD _ _) else none) = _
  rw [h1, h2, natW_ints, PySem.W.maxD_ints, foldl_cast max max (fun a b => by omega)]
  rfl
/-! ### comprehensions that write -/
theorem lcD_ind {vs : List Nat} {g : GW} {t : M Bool} {e : M W} (P : SD → Prop) (Q : W → Prop) : ∀ {ws : List W} {d : SD}, P d →
    (∀ w ∈ ws, ∀ d, P d → ∃ d1 d2 y d3, g w (wipeD d vs) = some d1 ∧ t d1 = .ok true d2 ∧ e d2 = .ok y d3 ∧ P d3 ∧ Q y) → ∃ ys d', lcD vs g t e ws d = .ok ys d' ∧ P d' ∧ ys.length = ws.length ∧ ∀ y ∈ ys, Q y
  | [], d, h, _ => ⟨[], d, rfl, h, rfl, fun y hy => by cases hy⟩
  | w :: ws, d, h, hs => by
    obtain ⟨d1, d2, y, d3, h1, h2, h3, h4, h5⟩ := hs w List.mem_cons_self d h
    obtain ⟨ys, d', e1, e2, e3, e4⟩ := lcD_ind P Q (ws := ws) h4 fun x hx => hs x (List.mem_cons_of_mem _ hx)
    refine ⟨y :: ys, d', ?_, e2, by rw [List.length_cons, List.length_cons, e3], fun z hz => ?_⟩
    · rw [lcD_cons, h1]
      dsimp only
      rw [h2]
      dsimp only [Out.bind]
      rw [if_pos rfl, h3]
      dsimp only
      rw [e1]
    · rcases List.mem_cons.mp hz with rfl | hz
      · exact h5
      · exact e4 z hz
theorem mLc_ind {vs : List Nat} {it : M (List W)} {g : GW} {t : M Bool} {e : M W} {d d1 : SD} {ws : List W} (P : SD → Prop) (Q : W → Prop) (hit : it d = .ok ws d1) (hc : cleanD d1 vs = true) (hl : ws.length ≤ sizeLine) (hP : P d1)
    (h : ∀ w ∈ ws, ∀ d, P d → ∃ d1 d2 y d3, g w (wipeD d vs) = some d1 ∧ t d1 = .ok true d2 ∧ e d2 = .ok y d3 ∧ P d3 ∧ Q y) : ∃ ys d', mLc vs it g t e d = .ok (.list ys) (backD d1 vs d') ∧ P d' ∧ ys.length = ws.length ∧ ∀ y ∈ ys, Q y := by
  obtain ⟨ys, d', e1, e2, e3, e4⟩ := lcD_ind P Q hP h
  refine ⟨ys, d', ?_, e2, e3, e4⟩
  rw [ev_lc, hit]
  dsimp only [Out.bind]
  rw [if_pos ⟨hc, hl⟩, e1]
theorem natW_of {c : Nat} : ∀ {ys : List W}, (∀ y ∈ ys, ∃ r : Nat, r < c ∧ y = .int (r : Int)) → ∃ a : List Nat, ys = natW a ∧ a.length = ys.length ∧ ∀ x ∈ a, x < c
  | [], _ => ⟨[], rfl, rfl, fun x hx => by cases hx⟩
  | y :: ys, h => by
    obtain ⟨r, hr, rfl⟩ := h y List.mem_cons_self
    obtain ⟨a, e1, e2, e3⟩ := natW_of fun z hz => h z (List.mem_cons_of_mem _ hz)
    refine ⟨r :: a, by rw [e1]; rfl, by rw [List.length_cons, List.length_cons, e2], fun x hx => ?_⟩
    rcases List.mem_cons.mp hx with rfl | hx
    · exact hr
    · exact e3 x hx
theorem zip_natW : ∀ (a b : List Nat), zipW (natW a) (natW b) = (a.zip b).map fun p => PyData.tuple [.int (p.1 : Int), .int (p.2 : Int)]
  | [], b => by cases b <;> rfl
  | x :: a, [] => rfl
  | x :: a, y :: b => by
    show PyData.tuple _ :: zipW (natW a) (natW b) = _
    rw [zip_natW a b]
    rfl
/-! ### while -/
theorem whileF_inv {t : M Bool} {b : MS} (P Q : SD → Prop) (μ : SD → Nat)
    (h : ∀ d, P d → (∃ d1, t d = .ok false d1 ∧ Q d1) ∨ ∃ d1 d2, t d = .ok true d1 ∧ (b d1 = .next d2 ∨ b d1 = .cont d2) ∧ P d2 ∧ μ d2 < μ d) : ∀ (n : Nat) (d : SD), P d → μ d < n → ∃ d', whileF t b n d = some (.next d') ∧ Q d'
  | 0, d, _, hn => absurd hn (Nat.not_lt_zero _)
  | n + 1, d, hp, hn => by
    rcases h d hp with ⟨d1, e, q⟩ | ⟨d1, d2, e, eb, hp2, lt⟩
    · exact ⟨d1, by unfold whileF; rw [e], q⟩
    · obtain ⟨d', e2, q⟩ := whileF_inv P Q μ h n d2 hp2 (by omega)
      refine ⟨d', ?_, q⟩
      unfold whileF
      rw [e]
      rcases eb with eb | eb <;> (dsimp only; rw [eb]; exact e2)
theorem mWhile_inv {t : M Bool} {b : MS} (P Q : SD → Prop) (μ : SD → Nat) (d : SD) (hp : P d)
    (h : ∀ d, P d → (∃ d1, t d = .ok false d1 ∧ Q d1) ∨ ∃ d1 d2, t d = .ok true d1 ∧ (b d1 = .next d2 ∨ b d1 = .cont d2) ∧ P d2 ∧ μ d2 < μ d) : ∃ d', mWhile t b d = .next d' ∧ Q d' := by
  obtain ⟨d', e, q⟩ := whileF_inv P Q μ h _ d hp (Nat.lt_succ_self _)
  exact ⟨d', mWhile_eq e, q⟩
/-! ### the least of a sorted list -/
theorem sort_head {ds : List W} {m : W} (hm : m ∈ ds) (h : ∀ x ∈ ds, x = m ∨ lexLt PyProof.Rows.itemOrd (PySem.W.keyToks m) (PySem.W.keyToks x) = true) : (sortW ds)[0]? = some m := by
  have hp : (sortW ds).Perm ds := List.mergeSort_perm _ _
  have T := PySem.W.sortLe_total (listOrd PyProof.Rows.itemOrd) false (fun d : W => PySem.W.keyToks d)
  have hs : (sortW ds).Pairwise fun a b => PySem.W.dataLe false (fun d : W => d) a b = true := List.pairwise_mergeSort T.trans (fun a b => by rw [Bool.or_eq_true]; exact T.total a b) ds
  have hm2 : m ∈ sortW ds := hp.mem_iff.mpr hm
  cases q : sortW ds with
  | nil => rw [q] at hm2; cases hm2
  | cons x r =>
    rw [q] at hs hm2
    have hx : x ∈ ds := hp.mem_iff.mp (by rw [q]; exact List.mem_cons_self)
    rcases h x hx with rfl | lt
    · rfl
    · rcases List.mem_cons.mp hm2 with rfl | hr
      · rfl
      · have := List.rel_of_pairwise_cons hs hr
        unfold PySem.W.dataLe PySem.W.sortLe at this
        simp only [cond_false] at this
        rw [lt] at this
        cases this
theorem sort_mem {ds : List W} {x : W} : x ∈ sortW ds ↔ x ∈ ds := (List.mergeSort_perm _ _).mem_iff
def ltN : List Nat → List Nat → Bool
  | [], [] => false
  | [], _ :: _ => true
  | _ :: _, [] => false
  | x :: r, y :: t => decide (x < y) || (decide (x = y) && ltN r t)
theorem lex_natW : ∀ a b : List Nat, lexLt PyProof.Rows.itemOrd (PySem.W.keyToksAll (natW a)) (PySem.W.keyToksAll (natW b)) = ltN a b
  | [], [] => by decide +kernel
  | [], y :: b => by
    show lexLt PyProof.Rows.itemOrd [.inl 0] (.inl 1 :: _) = true
    rw [PyProof.Rows.lex_cons]; rfl
  | x :: a, [] => by
    show lexLt PyProof.Rows.itemOrd (.inl 1 :: _) [.inl 0] = false
    rw [PyProof.Rows.lex_cons]; rfl
  | x :: a, y :: b => by
    show lexLt PyProof.Rows.itemOrd (.inl 1 :: .inl (x : Int) :: PySem.W.keyToksAll (natW a)) (.inl 1 :: .inl (y : Int) :: PySem.W.keyToksAll (natW b)) = _
    rw [PyProof.Rows.lex_cons, PyProof.Rows.lex_cons, lex_natW a b]
    show (decide ((1 : Int) < 1) || (!decide ((1 : Int) < 1) && (decide ((x : Int) < y) || (!decide ((y : Int) < x) && ltN a b)))) = (decide (x < y) || (decide (x = y) && ltN a b))
    by_cases h1 : x < y
    · simp [h1]
    · by_cases h2 : x = y
      · subst h2; simp
      · have : y < x := by omega
        simp [h1, h2, this]
theorem lex_natT (a b : List Nat) : lexLt PyProof.Rows.itemOrd (PySem.W.keyToks (.tuple (natW a))) (PySem.W.keyToks (.tuple (natW b))) = ltN a b := lex_natW a b
theorem alike_natT : ∀ a b : List Nat, PySem.W.alike (.tuple (natW a)) (.tuple (natW b)) = true := by
  intro a b
  show PySem.W.alikeAll (natW a) (natW b) = true
  induction a generalizing b with
  | nil => cases b <;> rfl
  | cons x a ih =>
    cases b with
    | nil => rfl
    | cons y b =>
      show (PySem.W.alike (.int (x : Int)) (.int (y : Int)) && PySem.W.alikeAll (natW a) (natW b)) = true
      rw [ih]; rfl
/-- sorted of tuples of naturals, none of them empty -/
theorem sorted_natT {d d1 : SD} {as : M (List W)} {ls : List (List Nat)} (h : as d = .ok [.list (ls.map fun a => .tuple (natW a))] d1) (hne : ∀ a ∈ ls, a ≠ []) : mSorted as d = .ok (.list (sortW (ls.map fun a => .tuple (natW a)))) d1 := by
  rw [ev_sorted, h]
  dsimp only [Out.bind]
  rw [if_pos]
  rw [Bool.and_eq_true, Bool.and_eq_true]
  refine ⟨⟨lv_ok (k := 2) (by decide) fun x hx => ?_, ?_⟩, ?_⟩
  · obtain ⟨a, _, rfl⟩ := List.mem_map.mp hx
    exact nb_lv (nb_natT 0 a)
  · refine List.all_eq_true.mpr fun x hx => List.all_eq_true.mpr fun y hy => ?_
    obtain ⟨a, _, rfl⟩ := List.mem_map.mp hx
    obtain ⟨b, _, rfl⟩ := List.mem_map.mp hy
    exact alike_natT a b
  · unfold sortableB
    rw [Bool.or_eq_true]
    refine .inl (List.all_eq_true.mpr fun x hx => ?_)
    obtain ⟨a, ha, rfl⟩ := List.mem_map.mp hx
    cases a with
    | nil => exact absurd rfl (hne _ ha)
    | cons c cs => rfl
/-! ### loops over a list of places -/
theorem forD_idx {g : GW} {b : MS} (f0 : Nat → W) (P : Nat → SD → Prop) (n : Nat) (d : SD) (h : P 0 d)
    (hs : ∀ (i : Nat) (d : SD), i < n → P i d → ∃ d1 d2, g (f0 i) d = some d1 ∧ (b d1 = .next d2 ∨ b d1 = .cont d2) ∧ P (i + 1) d2) : ∃ d', forD g b ((List.range n).map f0) d = .next d' ∧ P n d' := by
  obtain ⟨d', e, hp⟩ := forD_inv (g := g) (b := b) f0 (fun r d => ∃ i, i ≤ n ∧ r = (List.range n).drop i ∧ P i d) (List.range n) d ⟨0, Nat.zero_le _, rfl, h⟩ (by
    rintro a r d ⟨i, hi, e, hp⟩
    have hlt : i < n := by
      rcases Nat.lt_or_ge i n with c | c
      · exact c
      · rw [List.drop_of_length_le (by simpa using c)] at e; cases e
    rw [List.drop_eq_getElem_cons (by simpa using hlt)] at e
    injection e with e1 e2
    rw [List.getElem_range] at e1
    subst e1
    obtain ⟨d1, d2, h1, h2, h3⟩ := hs a d hlt hp
    exact ⟨d1, d2, h1, h2, a + 1, hlt, e2, h3⟩)
  obtain ⟨i, hi, e2, hp⟩ := hp
  have : i = n := by
    rcases Nat.lt_or_ge i n with c | c
    · have := congrArg List.length e2
      rw [List.length_drop, List.length_range, List.length_nil] at this
      omega
    · omega
  rw [this] at hp
  exact ⟨d', e, hp⟩
/-- range(n - 1, -1, -1) -/
theorem range3_down {n : Nat} (h : n ≤ 1000000000) : range3? [.int ((n : Int) - 1), .int (-1), .int (-1)] = some ((List.range n).map fun i => PyData.int ((n - 1 - i : Nat) : Int)) := by
  have hr := RgC.neg (i := (n : Int) - 1) (j := -1) (by omega) (by omega) (by omega) (by omega)
  rw [show ((n : Int) - 1 - -1).toNat = n by omega] at hr
  rw [range3_of hr (by rw [hr.2.2.2]; rfl)]
  unfold rangeC
  congr 1
  apply List.map_congr_left
  intro i hi
  have hi : i < n := by simpa using hi
  show PyData.int _ = PyData.int _
  congr 1
  omega
theorem max_ge : ∀ (cs : List Nat) (c x : Nat), x ∈ c :: cs → x ≤ cs.foldl max c
  | [], c, x, h => by rcases List.mem_cons.mp h with rfl | h; exact Nat.le_refl _; cases h
  | d :: cs, c, x, h => by
    rw [List.foldl_cons]
    rcases List.mem_cons.mp h with rfl | h
    · exact Nat.le_trans (Nat.le_max_left _ _) (max_ge cs _ _ List.mem_cons_self)
    · rcases List.mem_cons.mp h with rfl | h
      · exact Nat.le_trans (Nat.le_max_right _ _) (max_ge cs _ _ List.mem_cons_self)
      · exact max_ge cs _ _ (List.mem_cons_of_mem _ h)
theorem max_in : ∀ (cs : List Nat) (c : Nat), cs.foldl max c ∈ c :: cs
  | [], c => List.mem_cons_self
  | d :: cs, c => by
    rw [List.foldl_cons]
    rcases List.mem_cons.mp (max_in cs (max c d)) with h | h
    · rw [h]
      rcases Nat.le_total c d with z | z
      · rw [Nat.max_eq_right z]; exact List.mem_cons_of_mem _ List.mem_cons_self
      · rw [Nat.max_eq_left z]; exact List.mem_cons_self
    · exact List.mem_cons_of_mem _ (List.mem_cons_of_mem _ h)
theorem ixN_at {n j : Nat} (hj : j < n) : ixN n (j : Int) = some j := by
  unfold ixN
  rw [if_pos (by omega), if_pos (by omega)]
  simp
theorem rep_ev {a b : M W} {d d1 d2 : SD} {xs : List W} {n : Nat} (ha : a d = .ok (.list xs) d1) (hb : b d1 = .ok (.int (n : Int)) d2) (h : xs.length * n ≤ 16000000) (hn : n ≤ 16000000) : mRepF a b d = .ok (.list (List.replicate n xs).flatten) d2 := by
  rw [ev_repF, ha]
  dsimp only [Out.bind]
  rw [hb]
  dsimp only [Out.bind]
  rw [if_pos (cdec_iff.mpr ⟨by omega, by omega, le_line (by rw [Int.toNat_natCast]; exact h)⟩), Int.toNat_natCast]
/-- a value repeated -/
theorem rep_nat (n v : Nat) : (List.replicate n [PyData.int (v : Int)]).flatten = natW (List.replicate n v) := by
  induction n with
  | zero => rfl
  | succ n ih => rw [List.replicate_succ, List.flatten_cons, ih]; rfl
theorem mul_tup {xs : List W} {k : Nat} (h1 : xs ≠ []) (h2 : 2 ≤ k) (h3 : k ≤ 1000) (h4 : xs.length ≤ 1000) : mulW (.tuple xs) (.int (k : Int)) = some (.tuple (List.replicate k xs).flatten) := by
  show (if cdec (xs ≠ [] ∧ 2 ≤ (k : Int) ∧ (k : Int) ≤ 1000 ∧ xs.length ≤ 1000) = true then _ else _) = _
  rw [if_pos (cdec_iff.mpr ⟨h1, by omega, by omega, h4⟩), Int.toNat_natCast]
/-! ### one name's comprehension, at any state -/
theorem wipe_set {d : SD} {v : Nat} {x : Option Slot} : wipeD (d.set v x) [v] = wipeD d [v] := by
  show (d.set v x).set v none = d.set v none
  rw [List.set_set]
theorem store_wipe {d : SD} {v : Nat} {w : W} (h : v < d.length) : store v w (wipeD d [v]) = some (d.set v (some (.val w))) := by
  rw [ev_store]
  have e : (wipeD d [v])[v]? = some none := by
    show (d.set v none)[v]? = _
    rw [List.getElem?_set_self h]
  rw [e]
  show some ((d.set v none).set v _) = _
  rw [List.set_set]
theorem mLc_set {α : Type} {v : Nat} {it : M (List W)} {t : M Bool} {e : M W} {d : SD} (l : List α) (f0 f : α → W) (p : α → Bool) (hit : it d = .ok (l.map f0) d) (hv : v < d.length) (hc : cleanD d [v] = true) (hl : l.length ≤ 16000000)
    (h : ∀ a ∈ l, t (d.set v (some (.val (f0 a)))) = .ok (p a) (d.set v (some (.val (f0 a)))) ∧ (p a = true → e (d.set v (some (.val (f0 a)))) = .ok (f a) (d.set v (some (.val (f0 a)))))) : mLc [v] it (store v) t e d = .ok (.list ((l.filter p).map f)) d := by
  refine mLc_of l f0 f p hit hc (le_line hl) fun a ha => ?_
  obtain ⟨h1, h2⟩ := h a ha
  exact ⟨_, _, store_wipe hv, h1, fun q => ⟨_, h2 q, wipe_set⟩, fun _ => wipe_set⟩
theorem mLc_none {α : Type} {v : Nat} {it : M (List W)} {t : M Bool} {e : M W} {d : SD} (l : List α) (f0 : α → W) (hit : it d = .ok (l.map f0) d) (hv : v < d.length) (hc : cleanD d [v] = true) (hl : l.length ≤ 16000000)
    (h : ∀ a ∈ l, t (d.set v (some (.val (f0 a)))) = .ok false (d.set v (some (.val (f0 a))))) : mLc [v] it (store v) t e d = .ok (.list []) d := by
  have := mLc_set (e := e) l f0 f0 (fun _ => false) hit hv hc hl fun a ha => ⟨h a ha, fun z => Bool.noConfusion z⟩
  rw [this]
  simp
theorem mLc_setA {α : Type} {v : Nat} {it : M (List W)} {e : M W} {d : SD} (l : List α) (f0 f : α → W) (hit : it d = .ok (l.map f0) d) (hv : v < d.length) (hc : cleanD d [v] = true) (hl : l.length ≤ 16000000)
    (h : ∀ a ∈ l, e (d.set v (some (.val (f0 a)))) = .ok (f a) (d.set v (some (.val (f0 a))))) : mLc [v] it (store v) mYes e d = .ok (.list (l.map f)) d := by
  have := mLc_set (t := mYes) (e := e) l f0 f (fun _ => true) hit hv hc hl fun a ha => ⟨rfl, fun _ => h a ha⟩
  rw [this]
  rw [List.filter_eq_self.mpr (fun _ _ => rfl)]
@[simp] theorem ev_notBW (x y : Bool) : notBW (.bool x) (.bool y) = some (.bool (!decide (x = y))) := rfl
theorem ne_nilL : neW (.list []) (.list []) = some (.bool false) := ne_self (lv_ok (k := 1) (by decide) (by intro d hd; cases hd))
theorem rangeW_nat (n : Nat) : rangeW 0 n = (List.range n).map fun (i : Nat) => PyData.int (i : Int) := by
  rw [rangeW_map]
  apply List.map_congr_left
  intro i _
  rw [Int.zero_add]
@[simp] theorem ev_listWL (ds : List W) : listW [.list ds] = some (.list ds) := rfl
@[simp] theorem ev_listWT (ds : List W) : listW [.tuple ds] = some (.list ds) := rfl
@[simp] theorem ev_tupleWL (ds : List W) : tupleW [.list ds] = some (.tuple ds) := rfl
@[simp] theorem ev_tupleWT (ds : List W) : tupleW [.tuple ds] = some (.tuple ds) := rfl
@[simp] theorem ev_tyT (ds : List W) : isDict (.tuple ds) = false := rfl
@[simp] theorem ev_dL (ds : List W) : isDict (.list ds) = false := rfl
theorem yes_of {o : SOut} (d : SD) (h : o = .ret (.val (.bool true)) d) : Yes o := ⟨d, h⟩
end Qd
end
section
set_option Elab.async false
set_option linter.all false
set_option maxRecDepth 100000
set_option maxHeartbeats 1000000
/-! Dicts of naturals; tuples of naturals in order. -/
namespace Qd
open PySem PySem.Spec PyProof.Rows L2
section
variable (d : SD)
@[simp] theorem ev_revS (a : M W) : mRevS a d = (a d).bind fun w d1 => match w with
  | .list ws => .ok (.list ws.reverse) d1
  | .tuple ws => .ok (.tuple ws.reverse) d1
  | _ => .bad := rfl
@[simp] theorem ev_chain3 (g g' g'' : W → W → Option W) (ma mb mc me : M W) : mChain3 g g' g'' ma mb mc me d = (ma d).bind fun x d1 => (mb d1).bind fun y d2 => (ofOpt (g x y) d2).bind fun z d2 => match z with
  | .bool true => (mc d2).bind fun u d3 => (ofOpt (g' y u) d3).bind fun z' d3 => match z' with
    | .bool true => (me d3).bind fun v d4 => ofOpt (g'' u v) d4
    | .bool false => .ok (.bool false) d3
    | _ => .bad
  | .bool false => .ok (.bool false) d2
  | _ => .bad := rfl
@[simp] theorem ev_ext (i : Nat) (m : M W) : mExt i m d = (ofOpt (mineAt i d) d).toS fun _ d0 => (m d0).toS fun y d1 => match mineAt i d1, y with
  | some (.list ds), .list es => if ds.length + es.length ≤ sizeLine then .next (setMine i (.list (ds ++ es)) d1) else .bad
  | _, _ => .bad := rfl
end
@[simp] theorem ev_gcd (a b : Int) : gcdW [.int a, .int b] = some (.int ((Nat.gcd a.natAbs b.natAbs : Nat) : Int)) := rfl
theorem at0 (w : W) (r : List W) : atI (w :: r) 0 = some w := show atI (w :: r) ((0 : Nat) : Int) = some w from atI_nat rfl
theorem at1 (w x : W) (r : List W) : atI (w :: x :: r) 1 = some x := show atI (w :: x :: r) ((1 : Nat) : Int) = some x from atI_nat rfl
theorem ch3_ev {d : SD} {a b c e : M W} {i j k l : Nat} (ha : a d = .ok (.int (i : Int)) d) (hb : b d = .ok (.int (j : Int)) d) (hc : c d = .ok (.int (k : Int)) d) (he : e d = .ok (.int (l : Int)) d) :
    mChain3 ltW ltW ltW a b c e d = .ok (.bool (decide (i < j) && (decide (j < k) && decide (k < l)))) d := by
  rw [ev_chain3, ha]
  dsimp only [Out.bind]
  rw [hb]
  dsimp only [Out.bind]
  by_cases h1 : i < j
  · by_cases h2 : j < k
    · simp [h1, hc, h2, he]
    · simp [h1, hc, h2]
  · simp [h1]
/-- a comprehension whose test writes: some of the items, in their order -/
theorem lcD_sub {α : Type} {vs : List Nat} {g : GW} {t : M Bool} {e : M W} (f0 : α → W) (P : SD → Prop) : ∀ {l : List α} {d : SD}, P d →
    (∀ a ∈ l, ∀ d, P d → ∃ d1 d2 b, g (f0 a) (wipeD d vs) = some d1 ∧ t d1 = .ok b d2 ∧ (b = true → ∃ d3, e d2 = .ok (f0 a) d3 ∧ P d3) ∧ (b = false → P d2)) → ∃ (cs : List α) (d' : SD), lcD vs g t e (l.map f0) d = .ok (cs.map f0) d' ∧ P d' ∧ cs.Sublist l
  | [], d, h, _ => ⟨[], d, rfl, h, List.Sublist.refl _⟩
  | a :: l, d, h, hs => by
    obtain ⟨d1, d2, b, h1, h2, h3, h4⟩ := hs a List.mem_cons_self d h
    rw [List.map_cons, lcD_cons, h1]
    dsimp only
    rw [h2]
    dsimp only [Out.bind]
    cases b with
    | true =>
      obtain ⟨d3, h5, h6⟩ := h3 rfl
      obtain ⟨cs, d', e1, e2, e3⟩ := lcD_sub f0 P (l := l) h6 fun x hx => hs x (List.mem_cons_of_mem _ hx)
      refine ⟨a :: cs, d', ?_, e2, e3.cons_cons a⟩
      rw [if_pos rfl, h5]
      dsimp only
      rw [e1]
      rfl
    | false =>
      obtain ⟨cs, d', e1, e2, e3⟩ := lcD_sub f0 P (l := l) (h4 rfl) fun x hx => hs x (List.mem_cons_of_mem _ hx)
      refine ⟨cs, d', ?_, e2, e3.cons a⟩
      rw [if_neg Bool.false_ne_true, e1]
theorem mLc_sub {α : Type} {vs : List Nat} {it : M (List W)} {g : GW} {t : M Bool} {e : M W} {d d1 : SD} (f0 : α → W) (P : SD → Prop) (l : List α) (hit : it d = .ok (l.map f0) d1) (hc : cleanD d1 vs = true) (hl : l.length ≤ 16000000) (hP : P d1)
    (h : ∀ a ∈ l, ∀ d, P d → ∃ d1 d2 b, g (f0 a) (wipeD d vs) = some d1 ∧ t d1 = .ok b d2 ∧ (b = true → ∃ d3, e d2 = .ok (f0 a) d3 ∧ P d3) ∧ (b = false → P d2)) : ∃ (cs : List α) (d' : SD), mLc vs it g t e d = .ok (.list (cs.map f0)) (backD d1 vs d') ∧ P d' ∧ cs.Sublist l := by
  obtain ⟨cs, d', e1, e2, e3⟩ := lcD_sub (t := t) f0 P hP h
  refine ⟨cs, d', ?_, e2, e3⟩
  rw [ev_lc, hit]
  dsimp only [Out.bind]
  rw [if_pos ⟨hc, by rw [List.length_map]; exact le_line hl⟩, e1]
def mkD (l : List (Nat × Nat)) : W := .dict (l.map fun p => (PyData.int (p.1 : Int), PyData.int (p.2 : Int)))
def getN (l : List (Nat × Nat)) (k : Nat) : Option Nat := (l.find? fun p => p.1 == k).map (·.2)
def putN (l : List (Nat × Nat)) (k v : Nat) : List (Nat × Nat) := if (l.any fun p => p.1 == k) = true then l.map (fun p => if p.1 = k then (p.1, v) else p) else l ++ [(k, v)]
theorem dkind_mkD (l : List (Nat × Nat)) : dkind (l.map fun p => (PyData.int (p.1 : Int), PyData.int (p.2 : Int))) = some (false, l.map fun p => (PyData.int (p.1 : Int), PyData.int (p.2 : Int))) := by
  cases l <;> rfl
theorem key_eq (i k : Nat) : decide (isK (.int (i : Int)) = some (.inl (k : Int))) = (i == k) := by
  show decide ((some (Sum.inl (i : Int)) : Option Key) = some (Sum.inl (k : Int))) = _
  by_cases h : i = k
  · subst h; simp
  · have : ¬ ((i : Int) = (k : Int)) := by omega
    simp [h, this]
theorem dfind_mkD (l : List (Nat × Nat)) (k : Nat) : dfind (mkD l) (.int (k : Int)) = some ((getN l k).map fun (v : Nat) => PyData.int (v : Int)) := by
  unfold mkD dfind
  dsimp only
  rw [dkind_mkD]
  dsimp only
  show (some (Sum.inl (k : Int)) : Option Key).map (getG isK _) = _
  show some (getG isK _ _) = _
  congr 1
  unfold getG getN
  rw [List.find?_map]
  have e : ((fun kv : W × W => decide (isK kv.1 = some (Sum.inl (k : Int)))) ∘ fun p : Nat × Nat => (PyData.int (p.1 : Int), PyData.int (p.2 : Int))) = fun p => p.1 == k := by
    funext p; exact key_eq p.1 k
  rw [e]
  cases l.find? fun p => p.1 == k <;> rfl
theorem dput_mkD (l : List (Nat × Nat)) (k v : Nat) (h : l.length < 16000000) : dput (mkD l) (.int (k : Int)) (.int (v : Int)) = some (mkD (putN l k v)) := by
  unfold mkD dput
  dsimp only
  rw [dkind_mkD]
  dsimp only
  show (if (l.map _).length < sizeLine then some (PyData.dict (putG isK keyD _ (Sum.inl (k : Int)) _)) else none) = _
  rw [List.length_map, if_pos (lt_line h)]
  congr 2
  unfold putG putN
  rw [List.any_map]
  have e : ((fun kv : W × W => decide (isK kv.1 = some (Sum.inl (k : Int)))) ∘ fun p : Nat × Nat => (PyData.int (p.1 : Int), PyData.int (p.2 : Int))) = fun p => p.1 == k := by
    funext p; exact key_eq p.1 k
  rw [e]
  by_cases q : (l.any fun p => p.1 == k) = true
  · rw [if_pos q, if_pos q, List.map_map, List.map_map]
    apply List.map_congr_left
    intro p _
    show (if isK (PyData.int (p.1 : Int)) = some (Sum.inl (k : Int)) then (PyData.int (p.1 : Int), PyData.int (v : Int)) else (PyData.int (p.1 : Int), PyData.int (p.2 : Int))) = ((fun p : Nat × Nat => (PyData.int (p.1 : Int), PyData.int (p.2 : Int))) (if p.1 = k then (p.1, v) else p))
    by_cases z : p.1 = k
    · rw [if_pos z, if_pos (by subst z; rfl)]
    · rw [if_neg z, if_neg (fun y => z (by
        have := key_eq p.1 k
        rw [decide_eq_true y] at this
        simpa using this.symm))]
  · rw [if_neg q, if_neg q, List.map_append]
    rfl
theorem putN_len (l : List (Nat × Nat)) (k v : Nat) : (putN l k v).length ≤ l.length + 1 := by
  unfold putN
  split
  · rw [List.length_map]; omega
  · simp
theorem getN_put (l : List (Nat × Nat)) (k v j : Nat) : getN (putN l k v) j = if j = k then some v else getN l j := by
  unfold putN getN
  split
  · rename_i h
    induction l with
    | nil => simp at h
    | cons p l ih =>
      rw [List.map_cons, List.find?_cons, List.find?_cons]
      by_cases e : p.1 = k
      · rw [if_pos e]
        by_cases z : j = k
        · subst z; simp [e]
        · have e2 : (p.1 == j) = false := by simp; omega
          rw [if_neg z, e2]
          dsimp only
          by_cases h' : (l.any fun p => p.1 == k) = true
          · have := ih h'
            rw [if_neg z] at this
            exact this
          · have hid : l.map (fun p => if p.1 = k then (p.1, v) else p) = l := by
              have : ∀ p ∈ l, (fun p : Nat × Nat => if p.1 = k then (p.1, v) else p) p = id p := fun p hp => by
                have : ¬ p.1 = k := fun y => h' (List.any_eq_true.mpr ⟨p, hp, by simp [y]⟩)
                simp [this]
              rw [List.map_congr_left this, List.map_id]
            rw [hid]
      · rw [if_neg e]
        have h' : (l.any fun p => p.1 == k) = true := by simpa [e] using h
        by_cases z : p.1 = j
        · have : ¬ j = k := by omega
          simp [z, this]
        · have e2 : (p.1 == j) = false := by simp [z]
          rw [e2]
          exact ih h'
  · rename_i h
    rw [List.find?_append]
    by_cases z : j = k
    · subst z
      have : l.find? (fun p => p.1 == j) = none := by
        rw [List.find?_eq_none]
        intro p hp q
        exact h (List.any_eq_true.mpr ⟨p, hp, q⟩)
      simp [this]
    · have e2 : ((k : Nat) == j) = false := by simp; omega
      rw [if_neg z]
      cases l.find? (fun p => p.1 == j) <;> simp [e2]
theorem ltD_nat (a b : List Nat) : ltW (.tuple (natW a)) (.tuple (natW b)) = some (.bool (ltN a b)) := by
  show (match ltI (.tuple (natW a)) (.tuple (natW b)) with
    | some c => some c
    | none => ltD (.tuple (natW a)) (.tuple (natW b))) = _
  show ltD (.tuple (natW a)) (.tuple (natW b)) = _
  unfold ltD ordOk
  rw [alike_natT, ok_natT, ok_natT]
  simp only [Bool.and_self, Bool.true_and, if_true]
  have : isNone (.tuple (natW a)) = false := rfl
  simp [this]
  rw [PySem.W.dataLt_tuple]
  exact lex_natW a b
end Qd
end
section
set_option Elab.async false
set_option linter.all false
set_option maxRecDepth 100000
/-! [f, g][which](x, ..). -/
namespace Qd
open PySem PySem.Spec PyProof.Rows L2
theorem arm_eval_Call_Sub (o i : Expr) (p : Pos) (args : List Expr) (keywords : List Keyword) (pos : Pos) (env : Env) : eval (.Call (.Subscript o i p) args keywords pos) env = (do
    callWith pos (← eval (.Subscript o i p) env) [] (backTo pos (starEach args env)) (backToKw pos (keywordEach keywords env))) := rfl
section
variable {X : Cx} {Y : Yx} {CX : CXT} {k k2 : Nat} {f f2 : Addr} {fd fd2 : FuncData} {ps ps2 : List Str} {sp sp2 : Sp} {E : St → XK} {x x2 : Str} {p1 p2 p3 p4 pos : Pos} {e wE : Expr} {es : List Expr} {tw : TE} {t : TA}
def tPick (K : PySem.W.Frag) (f f2 : Addr) (sp sp2 : Sp) (E : St → XK) (tw : TE) (t : TA) : TE := fun σ H Q => ∀ q, H q = none → tw σ (upd H q (.lst [.ref f, .ref f2])) fun y H2 => rIxL K (.ref q) y H2 fun z H3 =>
  (z = .ref f ∧ t σ H3 fun vs H4 => sp vs H4 Q (E σ)) ∨ (z = .ref f2 ∧ t σ H3 fun vs H4 => sp2 vs H4 Q (E σ))
theorem pe_pick (F : FnOk X.prog X.w X.K X.mg X.base CX k f fd ps sp) (hr : Room k X.A) (hg : Gl X x) (hm : X.mg x = some (.ref f)) (hk : PySem.W.keepIn X.K (.ref f) = true) (hb : Binds X.K fd ps [])
    (F2 : FnOk X.prog X.w X.K X.mg X.base CX k2 f2 fd2 ps2 sp2) (hr2 : Room k2 X.A) (hg2 : Gl X x2) (hm2 : X.mg x2 = some (.ref f2)) (hk2 : PySem.W.keepIn X.K (.ref f2) = true) (hb2 : Binds X.K fd2 ps2 []) (hx : ∀ σ, PassesAt CX X σ (E σ))
    (hw : PE X wE tw) (hs : PlainIx wE) (ha : PA X (e :: es) t) (hd : (x == ("__debug__" : Str)) = false := by decide) (hd2 : (x2 == ("__debug__" : Str)) = false := by decide) (he : starEach (e :: es) X.env = (false, eval e X.env) :: starEach es X.env := by rfl) (hpl : (backTo pos (starEach es X.env)).any (·.1) = false := by rfl)
    (hn : starEach [.Name x p1, .Name x2 p2] X.env = (false, eval (.Name x p1) X.env) :: starEach [.Name x2 p2] X.env := by rfl) :
    PE X (.Call (.Subscript (.List [.Name x p1, .Name x2 p2] p3) wE p4) (e :: es) [] pos) (tPick X.K f f2 sp sp2 E tw t) := by
  refine ⟨fun pins s σ H Q I h => ?_⟩
  rw [arm_eval_Call_Sub]
  have hl : PE X (.List [.Name x p1, .Name x2 p2] p3) (tLst (tCons (tC (.ref f)) (tCons (tC (.ref f2)) tNil))) := pe_lst (pa_cons (pe_glob hg hm rfl hd) (pa_cons (pe_glob hg2 hm2 rfl hd2) pa_nil))
  refine wpAny_bind (thn ((pe_ix ix_list hl hw hs).run pins s σ H (fun y H2 => (y = .ref f ∧ t σ H2 fun vs H3 => sp vs H3 Q (E σ)) ∨ (y = .ref f2 ∧ t σ H2 fun vs H3 => sp2 vs H3 Q (E σ))) I ⟨by simp [sizeLine_eq], fun q hq => ?_⟩) fun v s1 hh => ?_)
  · exact h q hq
  · obtain ⟨y, H1, I1, ry, q⟩ := hh
    rcases q with ⟨rfl, q⟩ | ⟨rfl, q⟩
    · cases ry
      exact PySem.W.callWith_K (h₀ := X.base) I1.ok.mod.kin hk (thn (ha.run pos pins s1 σ H1 _ I1 q) fun us s2 ⟨vs, H2, I2, r, q2⟩ => ⟨I2.kIn, run_fnS F hr hb (hx σ) I2 r q2⟩) he hpl
    · cases ry
      exact PySem.W.callWith_K (h₀ := X.base) I1.ok.mod.kin hk2 (thn (ha.run pos pins s1 σ H1 _ I1 q) fun us s2 ⟨vs, H2, I2, r, q2⟩ => ⟨I2.kIn, run_fnS F2 hr2 hb2 (hx σ) I2 r q2⟩) he hpl
end
/-- [f, g][which](x, ..) -/
def mPick (F F2 : FV) (mw : M W) (as : M (List W)) : M W := fun d => (mw d).bind fun w d1 => match w with
  | .int i => if i = 0 then mCallV F as d1 else if i = 1 then mCallV F2 as d1 else .bad
  | _ => .bad
theorem Go.back {K : PySem.W.Frag} {Ex : Addr → Nat → Prop} {Oc : Addr → Prop} {pu : Bool} {σ : St} {d d' : SD} {H H1 H' : Hp} (s : Same H H1) (g : Go K Ex Oc pu σ d H1 d' H') : Go K Ex Oc pu σ d H d' H' :=
  ⟨g.rs, fun a o e n => g.fr a o (s a o e) n, g.sim, fun z => ⟨fun a o e => (g.pur z).1 a o (s a o e), (g.pur z).2⟩⟩
section
variable {X : Cx} {Y : Yx}
theorem Po.back {α : Type} {p : Bool} {Oc : Addr → Prop} {σ : St} {d : SD} {H H1 : Hp} {o : Out α} {k : α → SD → Hp → Prop} (s : Same H H1) (h : Po X Y p Oc σ d H o k) : Po X Y p Oc σ d H1 o k := by
  cases o with
  | ok a d1 => exact fun H2 g => h H2 (g.back s)
  | exc c d1 => exact fun H2 g => h H2 (g.back s)
  | bad => exact h
theorem d_pick {on : On} {pw pu : Bool} {k k2 : Nat} {f f2 : Addr} {fd fd2 : FuncData} {ps ps2 : List Str} {F F2 : FV} {x x2 : Str} {p1 p2 p3 p4 pos : Pos} {e wE : Expr} {es : List Expr} {mw : M W} {as : M (List W)} {np np2 : Nat}
    (G : FnOk X.prog X.w X.K X.mg X.base (L2N.CX X.prog X.w) k f fd ps (spV X.K Y.T on F np)) (hr : Room k X.A) (tk : L2N.Takes X Y.W) (hE : Y.Ex = (cEx on)) (hm : X.mg x = some (.ref f)) (hk : PySem.W.keepIn X.K (.ref f) = true) (hb : Binds X.K fd ps [])
    (G2 : FnOk X.prog X.w X.K X.mg X.base (L2N.CX X.prog X.w) k2 f2 fd2 ps2 (spV X.K Y.T on F2 np2)) (hr2 : Room k2 X.A) (hm2 : X.mg x2 = some (.ref f2)) (hk2 : PySem.W.keepIn X.K (.ref f2) = true) (hb2 : Binds X.K fd2 ps2 [])
    (hw : DE X Y pw wE mw) (ha : DL X Y pu (e :: es) as) (hl : Len np as) (hl2 : Len np2 as) (hg : Gl X x := by rfl) (hg2 : Gl X x2 := by rfl) (hs : PlainIx wE := by intro _ _; rfl)
    (hd : (x == ("__debug__" : Str)) = false := by decide) (hd2 : (x2 == ("__debug__" : Str)) = false := by decide) (he : starEach (e :: es) X.env = (false, eval e X.env) :: starEach es X.env := by rfl) (hpl : (backTo pos (starEach es X.env)).any (·.1) = false := by rfl)
    (hn : starEach [.Name x p1, .Name x2 p2] X.env = (false, eval (.Name x p1) X.env) :: starEach [.Name x2 p2] X.env := by rfl) :
    DE X Y (pw && pu) (.Call (.Subscript (.List [.Name x p1, .Name x2 p2] p3) wE p4) (e :: es) [] pos) (mPick F F2 mw as) :=
  ⟨pe_weak (pe_pick G hr hg hm hk hb G2 hr2 hg2 hm2 hk2 hb2 (E := fun σ => WE Y.W σ) (fun σ => L2N.passAt tk σ) hw.pe hs ha.pa hd hd2 he hpl hn) fun σ H Q h => by
    intro q hq
    obtain ⟨Oc, d, rs, h⟩ := h
    have s1 : Same H (upd H q (.lst [.ref f, .ref f2])) := same_new hq
    have h1 := Po.back s1 h
    refine ⟨Oc, d, rs.same s1, (Po.bind h1).imp fun w d1 H1 g1 h2 v r => ?_⟩
    have nq : ¬ Mine d σ q := fun z => rs.nOw hq (.inr z)
    have hq1 : H1 q = some (.lst [.ref f, .ref f2]) := g1.fr q _ upd_same nq
    cases w with
    | int i =>
      cases rp_int r
      have h2 : Po X Y pu Oc σ d1 H1 (if i = 0 then mCallV F as d1 else if i = 1 then mCallV F2 as d1 else .bad) _ := h2
      have sl : SqL X.K H1 q [.ref f, .ref f2] := .inl (.inl hq1)
      by_cases i0 : i = 0
      · subst i0
        rw [if_pos rfl] at h2
        refine ⟨q, _, 0, .ref f, rfl, rfl, sl, (show atI [V.ref f, V.ref f2] ((0 : Nat) : Int) = some (V.ref f) from atI_nat rfl), .inl ⟨rfl, ?_⟩⟩
        exact t_callV hE σ H1 Q hl ⟨Oc, d1, g1.rs, h2⟩
      · rw [if_neg i0] at h2
        by_cases i1 : i = 1
        · subst i1
          rw [if_pos rfl] at h2
          refine ⟨q, _, 1, .ref f2, rfl, rfl, sl, (show atI [V.ref f, V.ref f2] ((1 : Nat) : Int) = some (V.ref f2) from atI_nat rfl), .inr ⟨rfl, ?_⟩⟩
          exact t_callV hE σ H1 Q hl2 ⟨Oc, d1, g1.rs, h2⟩
        · rw [if_neg i1] at h2
          exact h2.elim
    | bool b => exact h2.elim
    | none => exact h2.elim
    | str s => exact h2.elim
    | tuple t => exact h2.elim
    | list l => exact h2.elim
    | dict l => exact h2.elim⟩
end
end Qd
end
section
set_option Elab.async false
set_option linter.all false
set_option maxRecDepth 100000
/-! sorted(d), d a dict of fewer than 64 int keys. -/
namespace Qd
open PySem PySem.Spec PyProof.Rows L2
def intKeys : List (W × W) → Option (List Int)
  | [] => some []
  | (.int i, _) :: r => (intKeys r).map (i :: ·)
  | _ => none
def sortI (ks : List Int) : List Int := ks.mergeSort fun a b => decide (a ≤ b)
theorem sortI_perm (ks : List Int) : (sortI ks).Perm ks := List.mergeSort_perm _ _
theorem sortI_sorted (ks : List Int) : (sortI ks).Pairwise (· ≤ ·) := by
  have := List.pairwise_mergeSort (le := fun a b : Int => decide (a ≤ b)) (fun a b c h1 h2 => by simp at h1 h2 ⊢; omega) (fun a b => by simp; omega) ks
  exact this.imp fun h => by simpa using h
theorem sorted_uniq : ∀ {as bs : List Int}, as.Perm bs → as.Pairwise (· ≤ ·) → bs.Pairwise (· ≤ ·) → as = bs := fun h h1 h2 => h.eq_of_pairwise (fun a b _ _ x y => by omega) h1 h2
theorem intKeys_rp {K : PySem.W.Frag} {Ex : Addr → Nat → Prop} {O : Addr → Prop} {H : Hp} : ∀ {kvs : List (Key × V)} {ds : List (W × W)} {ks : List Int}, RpK K Ex O H kvs ds → intKeys ds = some ks → kvs.map (·.1) = ks.map Sum.inl
  | _, _, ks, .nil, h => by cases h; rfl
  | _, _, ks, @RpK.cons _ _ _ _ k v w vs ws a b, h => by
    cases k with
    | inl i =>
      have h : (intKeys ws).map (i :: ·) = some ks := h
      cases e : intKeys ws with
      | none => rw [e] at h; cases h
      | some r =>
        rw [e] at h
        cases h
        rw [List.map_cons, List.map_cons, intKeys_rp b e]
    | inr x => cases h
theorem rpA_ints {K : PySem.W.Frag} {Ex : Addr → Nat → Prop} {O : Addr → Prop} {H : Hp} : ∀ ys : List Int, RpA K Ex O H (ys.map V.int) (ys.map PyData.int)
  | [] => .nil
  | y :: ys => .cons (.int y) (rpA_ints ys)
def mSortedD (as : M (List W)) : M W := fun d => (as d).bind fun ws d1 => match ws with
  | [.dict ds] => match intKeys ds with
    | some ks => if ks.length < 64 then .ok (.list ((sortI ks).map PyData.int)) d1 else .bad
    | none => .bad
  | _ => .bad
section
variable {X : Cx} {Y : Yx}
theorem df_sortedD {pu : Bool} {e : Expr} {p pos : Pos} {as : M (List W)} (hc : X.calm = true) (hm : X.mg "sorted" = none) (ha : DL X Y pu [e] as) (hg : Gl X "sorted" := by rfl) (he : starEach [e] X.env = (false, eval e X.env) :: starEach [] X.env := by rfl) : DF X Y pu (.Call (.Name "sorted" p) [e] [] pos) (mSortedD as) := by
  refine ⟨pe_weak (pe_callB (call_sortedDI hc) hg hm boot_sorted_ ha.pa (by decide) (by decide) he rfl) fun σ H Q h => ?_⟩
  obtain ⟨Oc, d, rs, h⟩ := h
  refine ⟨Oc, d, rs, (Po.bind1 h).imp fun ws d1 H1 g1 h1 vs ra => ?_⟩
  split at h1
  · rename_i ds
    obtain ⟨v, rfl, r⟩ := rpA1 ra
    split at h1
    · rename_i ks hk
      split at h1
      · rename_i hl
        cases r with
        | dK n rd rk =>
          refine ⟨_, _, ks, rfl, rd, intKeys_rp rk hk, hl, fun ys q hp hs np => ?_⟩
          obtain rfl : ys = sortI ks := sorted_uniq (hp.trans (sortI_perm ks).symm) hs (sortI_sorted ks)
          refine h1 _ (.same g1.rs (same_new np)) q (g1.free np) (g1.rs.withNew np) ⟨_, upd_same, ?_⟩
          exact (rpA_ints _)
        | dT n rd rk => cases hk
        | exc x => cases hk
      · exact h1.elim
    · exact h1.elim
  · exact h1.elim
end
end Qd
end
section
set_option Elab.async false
set_option linter.all false
set_option maxRecDepth 100000
set_option maxHeartbeats 4000000
namespace K34
open PySem PySem.Spec PyProof.Rows L2 L2H Qd
def top (i : Nat) : Stmt := PySem.Challenge.pw_shardsheld_k34_whole_bowls_that_are_fill.main.body.getD i (.Pass ⟨0, 0, 0, 0⟩)
abbrev s__law_draws : Stmt := top 31
abbrev s__law_gcd : Stmt := top 36
abbrev s__law_part : Stmt := top 37
abbrev s__law_minus : Stmt := top 39
abbrev s__law_plus : Stmt := top 38
abbrev s__law_less : Stmt := top 41
abbrev s__law_times : Stmt := top 40
abbrev s__law_volume : Stmt := top 45
abbrev s_square_at : Stmt := top 28
abbrev s_joined : Stmt := top 27
abbrev s_less : Stmt := top 16
abbrev s_lowest : Stmt := top 11
abbrev s_minus : Stmt := top 14
abbrev s_plus : Stmt := top 13
abbrev s_times : Stmt := top 15
abbrev s_whole_of : Stmt := top 24
abbrev s_made : Stmt := top 12
abbrev s_joined_level : Stmt := top 29
abbrev s__law_word : Stmt := top 35
abbrev s_top_of : Stmt := top 23
abbrev s_volume_to : Stmt := top 25
abbrev s_level_for : Stmt := top 26
abbrev s__law_told : Stmt := top 43
abbrev s__law_take : Stmt := top 32
abbrev s__law_bowl : Stmt := top 44
abbrev s__law_says : Stmt := top 33
abbrev s__law_alike : Stmt := top 34
abbrev s_is_number : Stmt := top 9
abbrev s_is_ring : Stmt := top 21
abbrev s_is_bowl : Stmt := top 22
abbrev s__law_is_part : Stmt := top 42
abbrev s_law : Stmt := top 46
def subC : Nat → Nat → Bool := fun i j => [(0, 0), (1, 0), (1, 1), (2, 0), (2, 2), (3, 0), (3, 3), (4, 0), (4, 4), (5, 0), (5, 5)].contains (i, j)
structure Tx (K : PySem.W.Frag) (mg : Str → Option Value) (TC : Nat → Value) : Prop where
  c_MOST_HEIGHT : ∃ t, mg "MOST_HEIGHT" = some (.int 20 t)
  c_MOST_RADIUS : ∃ t, mg "MOST_RADIUS" = some (.int 30 t)
  c_MOST_RINGS : ∃ t, mg "MOST_RINGS" = some (.int 8 t)
  n_abs : mg "abs" = none
  n_all : mg "all" = none
  n_bool : mg "bool" = none
  n_int : mg "int" = none
  n_isinstance : mg "isinstance" = none
  n_len : mg "len" = none
  n_list : mg "list" = none
  n_max : mg "max" = none
  n_min : mg "min" = none
  n_range : mg "range" = none
  n_reversed : mg "reversed" = none
  n_sorted : mg "sorted" = none
  n_str : mg "str" = none
  n_sum : mg "sum" = none
  n_tuple : mg "tuple" = none
  m_gcd : mg "gcd" = some (.builtin "math.gcd")
  e_ShardError : mg "ShardError" = some (TC 0)
  e_OutOfRange : mg "OutOfRange" = some (TC 1)
  r_OutOfRange : RF K mg (TC 1) "OutOfRange"
  e_Malformed : mg "Malformed" = some (TC 2)
  e_NotThere : mg "NotThere" = some (TC 3)
  e_Refused : mg "Refused" = some (TC 4)
  e_TooMuch : mg "TooMuch" = some (TC 5)
  cf : CF K TC 6 subC
structure Cl (K : PySem.W.Frag) (mg : Str → Option Value) (x : Str) (f : Addr) (fd : FuncData) (ps : List Str) : Prop where
  g : mg x = some (.ref f)
  k : PySem.W.keepIn K (.ref f) = true
  b : Binds K fd ps []
noncomputable def m__law_draws : MS := (mSeq (mAsgOwn 1 (mLst mNil))
    (mSeq (mFor (mItS (mVar 0)) (store 2)
    (mSeq (mAsg (store 3) (mCallB absW (mCons (mVar 2) mNil)))
    (mSeq (mIf (mTest (mBin ltW (mVar 3) (mBin powW (mC (.int 10)) (mC (.int 18)))))
    (mSeq (mAsg (store 4) (mBin modW (mCallB intW (mCons (mBin addW (mBin mulW (mVar 3) (mC (.int 48271))) (mC (.int 11))) mNil)) (mC (.int 2147483647))))
    (mSeq (mDrop (mMeth "list" appendW 1 (mCons (mBin modW (mCallB intW (mCons (mBin addW (mBin mulW (mVar 4) (mC (.int 69621))) (mVar 3)) mNil)) (mC (.int 2147483629))) mNil)))
    (mSeq (mDrop (mMeth "list" appendW 1 (mCons (mBin modW (mCallB intW (mCons (mBin addW (mVar 4) (mBin fdivW (mVar 3) (mC (.int 7)))) mNil)) (mC (.int 1000003))) mNil)))
    (mAsg (store 3) (mC (.int 0))))))
    mSkip)
    (mFor (mRng1 (mCons (mC (.int 60)) mNil)) (store 5)
    (mIf (mTest (mBin gtW (mVar 3) (mC (.int 0))))
    (mSeq (mDrop (mMeth "list" appendW 1 (mCons (mBin modW (mCallB intW (mCons (mVar 3) mNil)) (mC (.int 997))) mNil)))
    (mAsg (store 3) (mBin fdivW (mVar 3) (mC (.int 997)))))
    mSkip)))))
    (mSeq (mAsg (store 6) (mC (.int 1)))
    (mSeq (mIf (mTest (mBin gtW (mCallB lenW (mCons (mVar 0) mNil)) (mC (.int 0))))
    (mAsg (store 6) (mBin addW (mC (.int 1)) (mCallB absW (mCons (mBin ixW (mVar 0) (mC (.int 0))) mNil))))
    mSkip)
    (mSeq (mFor (mRng1 (mCons (mC (.int 900)) mNil)) (store 5)
    (mSeq (mAsg (store 6) (mBin modW (mCallB intW (mCons (mBin addW (mBin mulW (mVar 6) (mC (.int 48271))) (mC (.int 69621))) mNil)) (mC (.int 2147483647))))
    (mDrop (mMeth "list" appendW 1 (mCons (mBin fdivW (mVar 6) (mC (.int 5))) mNil)))))
    (mFrzS [1] (mRetF (mListRev (mVar 1)))))))))
noncomputable abbrev F__law_draws : FV := runV 7 m__law_draws
noncomputable def m__law_gcd : MS := (mSeq (mPar [0, 1] (mConsV (mCallB absW (mCons (mVar 0) mNil)) (mConsV (mCallB absW (mCons (mVar 1) mNil)) mNilO)))
    (mSeq (mWhile (mTest (mBin gtW (mVar 1) (mC (.int 0)))) (mPar [0, 1] (mConsV (mVar 1) (mConsV (mBin modW (mCallB intW (mCons (mVar 0) mNil)) (mVar 1)) mNilO))))
    (mRet (mVar 0))))
noncomputable abbrev F__law_gcd : FV := runV 2 m__law_gcd
noncomputable def m__law_part : MS := (mSeq (mAsg (store 2) (mIfE (mTest (mBin gtW (mVar 1) (mC (.int 0)))) (mCallV F__law_gcd (mCons (mVar 0) (mCons (mVar 1) mNil))) (mBin subW (mC (.int 0)) (mCallV F__law_gcd (mCons (mVar 0) (mCons (mVar 1) mNil))))))
    (mRet (mTup (mCons (mBin fdivW (mVar 0) (mVar 2)) (mCons (mBin fdivW (mVar 1) (mVar 2)) mNil)))))
noncomputable abbrev F__law_part : FV := runV 3 m__law_part
noncomputable def m__law_minus : MS := (mRet (mCallV F__law_part (mCons (mBin subW (mBin mulW (mBin ixW (mVar 0) (mC (.int 0))) (mBin ixW (mVar 1) (mC (.int 1)))) (mBin mulW (mBin ixW (mVar 1) (mC (.int 0))) (mBin ixW (mVar 0) (mC (.int 1))))) (mCons (mBin mulW (mBin ixW (mVar 0) (mC (.int 1))) (mBin ixW (mVar 1) (mC (.int 1)))) mNil))))
noncomputable abbrev F__law_minus : FV := runV 2 m__law_minus
noncomputable def m__law_plus : MS := (mRet (mCallV F__law_part (mCons (mBin addW (mBin mulW (mBin ixW (mVar 0) (mC (.int 0))) (mBin ixW (mVar 1) (mC (.int 1)))) (mBin mulW (mBin ixW (mVar 1) (mC (.int 0))) (mBin ixW (mVar 0) (mC (.int 1))))) (mCons (mBin mulW (mBin ixW (mVar 0) (mC (.int 1))) (mBin ixW (mVar 1) (mC (.int 1)))) mNil))))
noncomputable abbrev F__law_plus : FV := runV 2 m__law_plus
noncomputable def m__law_less : MS := (mRet (mBin ltW (mBin mulW (mBin ixW (mVar 0) (mC (.int 0))) (mBin ixW (mVar 1) (mC (.int 1)))) (mBin mulW (mBin ixW (mVar 1) (mC (.int 0))) (mBin ixW (mVar 0) (mC (.int 1))))))
noncomputable abbrev F__law_less : FV := runV 2 m__law_less
noncomputable def m__law_times : MS := (mRet (mCallV F__law_part (mCons (mBin mulW (mBin ixW (mVar 0) (mC (.int 0))) (mBin ixW (mVar 1) (mC (.int 0)))) (mCons (mBin mulW (mBin ixW (mVar 0) (mC (.int 1))) (mBin ixW (mVar 1) (mC (.int 1)))) mNil))))
noncomputable abbrev F__law_times : FV := runV 2 m__law_times
noncomputable def m__law_volume : MS := (mSeq (mAsg (gTupW 2 (gsCons (store 2) (gsCons (store 3) gsNil))) (mTup (mCons (mTup (mCons (mC (.int 0)) (mCons (mC (.int 1)) mNil))) (mCons (mTup (mCons (mC (.int 0)) (mCons (mC (.int 1)) mNil))) mNil))))
    (mSeq (mFor (mItS (mVar 0)) (gTupW 2 (gsCons (store 4) (gsCons (store 5) gsNil)))
    (mSeq (mAsg (store 6) (mCallV F__law_minus (mCons (mVar 1) (mCons (mVar 3) mNil))))
    (mSeq (mAsg (store 7) (mIfE (mTest (mBin leW (mBin ixW (mVar 6) (mC (.int 0))) (mC (.int 0)))) (mTup (mCons (mC (.int 0)) (mCons (mC (.int 1)) mNil))) (mIfE (mTruth (mCallV F__law_less (mCons (mVar 6) (mCons (mTup (mCons (mVar 5) (mCons (mC (.int 1)) mNil))) mNil)))) (mVar 6) (mTup (mCons (mVar 5) (mCons (mC (.int 1)) mNil))))))
    (mPar [2, 3] (mConsV (mCallV F__law_plus (mCons (mVar 2) (mCons (mCallV F__law_times (mCons (mTup (mCons (mBin mulW (mVar 4) (mVar 4)) (mCons (mC (.int 1)) mNil))) (mCons (mVar 7) mNil))) mNil))) (mConsV (mCallV F__law_plus (mCons (mVar 3) (mCons (mTup (mCons (mVar 5) (mCons (mC (.int 1)) mNil))) mNil))) mNilO))))))
    (mRet (mVar 2))))
noncomputable abbrev F__law_volume : FV := runV 8 m__law_volume
noncomputable def m_square_at : MS := (mSeq (mAsg (store 2) (mC (.int 0)))
    (mSeq (mFor (mItS (mVar 0)) (gTupW 2 (gsCons (store 3) (gsCons (store 4) gsNil)))
    (mSeq (mIf (mTest (mChain leW ltW (mVar 2) (mVar 1) (mBin addW (mVar 2) (mVar 4))))
    (mRet (mBin mulW (mVar 3) (mVar 3)))
    mSkip)
    (mAug (i2 (fun _ _ => true) fun i j => i + j) 2 (mVar 4))))
    (mRet (mC (.int 0)))))
noncomputable abbrev F_square_at : FV := runV 5 m_square_at
noncomputable def m_joined : MS := (mSeq (mAsgOwn 2 (mDNew false))
    (mSeq (mFor (mItS (mTup (mCons (mVar 0) (mCons (mVar 1) mNil)))) (store 3)
    (mSeq (mAsg (store 4) (mC (.int 0)))
    (mFor (mItS (mVar 3)) (gTupW 2 (gsCons (store 5) (gsCons (store 6) gsNil)))
    (mSeq (mAug (i2 (fun _ _ => true) fun i j => i + j) 4 (mVar 6))
    (mSetIx dput 2 (mVar 4) (mC (.bool true)))))))
    (mFrzS [2] (mSeq (mPar [7, 8] (mConsO (mLst mNil) (mConsV (mC (.int 0)) mNilO)))
    (mSeq (mFor (mItS (mSortedD (mCons (mVar 2) mNil))) (store 9)
    (mSeq (mDrop (mMeth "list" appendW 7 (mCons (mTup (mCons (mBin addW (mCallV F_square_at (mCons (mVar 0) (mCons (mVar 8) mNil))) (mCallV F_square_at (mCons (mVar 1) (mCons (mVar 8) mNil)))) (mCons (mBin subW (mVar 9) (mVar 8)) mNil))) mNil)))
    (mAsg (store 8) (mVar 9))))
    (mFrzS [7] (mRet (mVar 7))))))))
noncomputable abbrev F_joined : FV := runV 10 m_joined
noncomputable def m_less : MS := (mRet (mBin ltW (mBin mulW (mBin ixW (mVar 0) (mC (.int 0))) (mBin ixW (mVar 1) (mC (.int 1)))) (mBin mulW (mBin ixW (mVar 1) (mC (.int 0))) (mBin ixW (mVar 0) (mC (.int 1))))))
noncomputable abbrev F_less : FV := runV 2 m_less
noncomputable def m_lowest : MS := (mSeq (mAsg (store 2) (mCallB gcdW (mCons (mVar 0) (mCons (mVar 1) mNil))))
    (mSeq (mIf (mTest (mBin ltW (mVar 1) (mC (.int 0))))
    (mAsg (store 2) (mUn negW (mVar 2)))
    mSkip)
    (mRet (mTup (mCons (mBin fdivW (mVar 0) (mVar 2)) (mCons (mBin fdivW (mVar 1) (mVar 2)) mNil))))))
noncomputable abbrev F_lowest : FV := runV 3 m_lowest
noncomputable def m_minus : MS := (mRet (mCallV F_lowest (mCons (mBin subW (mBin mulW (mBin ixW (mVar 0) (mC (.int 0))) (mBin ixW (mVar 1) (mC (.int 1)))) (mBin mulW (mBin ixW (mVar 1) (mC (.int 0))) (mBin ixW (mVar 0) (mC (.int 1))))) (mCons (mBin mulW (mBin ixW (mVar 0) (mC (.int 1))) (mBin ixW (mVar 1) (mC (.int 1)))) mNil))))
noncomputable abbrev F_minus : FV := runV 2 m_minus
noncomputable def m_plus : MS := (mRet (mCallV F_lowest (mCons (mBin addW (mBin mulW (mBin ixW (mVar 0) (mC (.int 0))) (mBin ixW (mVar 1) (mC (.int 1)))) (mBin mulW (mBin ixW (mVar 1) (mC (.int 0))) (mBin ixW (mVar 0) (mC (.int 1))))) (mCons (mBin mulW (mBin ixW (mVar 0) (mC (.int 1))) (mBin ixW (mVar 1) (mC (.int 1)))) mNil))))
noncomputable abbrev F_plus : FV := runV 2 m_plus
noncomputable def m_times : MS := (mRet (mCallV F_lowest (mCons (mBin mulW (mBin ixW (mVar 0) (mC (.int 0))) (mBin ixW (mVar 1) (mC (.int 0)))) (mCons (mBin mulW (mBin ixW (mVar 0) (mC (.int 1))) (mBin ixW (mVar 1) (mC (.int 1)))) mNil))))
noncomputable abbrev F_times : FV := runV 2 m_times
noncomputable def m_whole_of : MS := (mRet (mCallB sumW (mCons (mLc [1, 2] (mItS (mVar 0)) (gTupW 2 (gsCons (store 1) (gsCons (store 2) gsNil))) mYes (mBin mulW (mBin mulW (mVar 1) (mVar 1)) (mVar 2))) mNil)))
noncomputable abbrev F_whole_of : FV := runV 3 m_whole_of
noncomputable def m_made : MS := (mSeq (mIf (mTest (mBin eqW (mVar 1) (mC (.int 0))))
    (mRaise 1)
    mSkip)
    (mRet (mCallV F_lowest (mCons (mVar 0) (mCons (mVar 1) mNil)))))
noncomputable abbrev F_made : FV := runV 2 m_made
noncomputable def m_joined_level : MS := (mSeq (mIf (mOrT (mTruth (mCallV F_less (mCons (mVar 2) (mCons (mTup (mCons (mC (.int 0)) (mCons (mC (.int 1)) mNil))) mNil)))) (mTruth (mCallV F_less (mCons (mTup (mCons (mBin addW (mCallV F_whole_of (mCons (mVar 0) mNil)) (mCallV F_whole_of (mCons (mVar 1) mNil))) (mCons (mC (.int 1)) mNil))) (mCons (mVar 2) mNil)))))
    (mRaise 1)
    mSkip)
    (mSeq (mPar [3, 4] (mConsV (mVar 2) (mConsV (mC (.int 0)) mNilO)))
    (mSeq (mFor (mItS (mCallV F_joined (mCons (mVar 0) (mCons (mVar 1) mNil)))) (gTupW 2 (gsCons (store 5) (gsCons (store 6) gsNil)))
    (mSeq (mAsg (store 7) (mTup (mCons (mBin mulW (mVar 5) (mVar 6)) (mCons (mC (.int 1)) mNil))))
    (mSeq (mIf (mNotT (mTruth (mCallV F_less (mCons (mVar 7) (mCons (mVar 3) mNil)))))
    (mRet (mCallV F_plus (mCons (mTup (mCons (mVar 4) (mCons (mC (.int 1)) mNil))) (mCons (mCallV F_times (mCons (mVar 3) (mCons (mCallV F_made (mCons (mC (.int 1)) (mCons (mVar 5) mNil))) mNil))) mNil))))
    mSkip)
    (mSeq (mAsg (store 3) (mCallV F_minus (mCons (mVar 3) (mCons (mVar 7) mNil))))
    (mAug (i2 (fun _ _ => true) fun i j => i + j) 4 (mVar 6))))))
    (mRet (mTup (mCons (mVar 4) (mCons (mC (.int 1)) mNil)))))))
noncomputable abbrev F_joined_level : FV := runV 8 m_joined_level
noncomputable def m__law_word : MS := (mSeq (mAsg (store 1) (mLst (mCons (mIsE 6 (fun k => subC k 1) (mVar 0)) (mCons (mIsE 6 (fun k => subC k 4) (mVar 0)) (mCons (mIsE 6 (fun k => subC k 2) (mVar 0)) (mCons (mIsE 6 (fun k => subC k 3) (mVar 0)) (mCons (mIsE 6 (fun k => subC k 5) (mVar 0)) mNil)))))))
    (mSeq (mIf (mTest (mBin neW (mCallB lenW (mCons (mLc [2] (mItL (mVar 1)) (store 2) (mTruth (mVar 2)) (mVar 2)) mNil)) (mC (.int 1))))
    (mRet (mC (.str "another")))
    mSkip)
    (mRet (mBin ixW (mLst (mCons (mC (.str "range")) (mCons (mC (.str "refused")) (mCons (mC (.str "form")) (mCons (mC (.str "none")) (mCons (mC (.str "much")) mNil)))))) (mMetV "list" indexW (mVar 1) (mCons (mC (.bool true)) mNil))))))
noncomputable abbrev F__law_word : FV := runV 3 m__law_word
noncomputable def m_top_of : MS := (mRet (mCallB sumW (mCons (mLc [1, 2] (mItS (mVar 0)) (gTupW 2 (gsCons (store 1) (gsCons (store 2) gsNil))) mYes (mVar 2)) mNil)))
noncomputable abbrev F_top_of : FV := runV 3 m_top_of
noncomputable def m_volume_to : MS := (mSeq (mIf (mOrT (mTruth (mCallV F_less (mCons (mVar 1) (mCons (mTup (mCons (mC (.int 0)) (mCons (mC (.int 1)) mNil))) mNil)))) (mTruth (mCallV F_less (mCons (mTup (mCons (mCallV F_top_of (mCons (mVar 0) mNil)) (mCons (mC (.int 1)) mNil))) (mCons (mVar 1) mNil)))))
    (mRaise 1)
    mSkip)
    (mSeq (mAsg (gTupW 2 (gsCons (store 2) (gsCons (store 3) gsNil))) (mTup (mCons (mTup (mCons (mC (.int 0)) (mCons (mC (.int 1)) mNil))) (mCons (mC (.int 0)) mNil))))
    (mSeq (mFor (mItS (mVar 0)) (gTupW 2 (gsCons (store 4) (gsCons (store 5) gsNil)))
    (mSeq (mAsg (store 6) (mCallV F_minus (mCons (mVar 1) (mCons (mTup (mCons (mVar 3) (mCons (mC (.int 1)) mNil))) mNil))))
    (mSeq (mAsg (store 7) (mIfE (mTruth (mCallV F_less (mCons (mVar 6) (mCons (mTup (mCons (mVar 5) (mCons (mC (.int 1)) mNil))) mNil)))) (mVar 6) (mTup (mCons (mVar 5) (mCons (mC (.int 1)) mNil)))))
    (mSeq (mIf (mTruth (mCallV F_less (mCons (mTup (mCons (mC (.int 0)) (mCons (mC (.int 1)) mNil))) (mCons (mVar 7) mNil))))
    (mAsg (store 2) (mCallV F_plus (mCons (mVar 2) (mCons (mCallV F_times (mCons (mTup (mCons (mBin mulW (mVar 4) (mVar 4)) (mCons (mC (.int 1)) mNil))) (mCons (mVar 7) mNil))) mNil))))
    mSkip)
    (mAug (i2 (fun _ _ => true) fun i j => i + j) 3 (mVar 5))))))
    (mRet (mVar 2)))))
noncomputable abbrev F_volume_to : FV := runV 8 m_volume_to
noncomputable def m_level_for : MS := (mSeq (mIf (mOrT (mTruth (mCallV F_less (mCons (mVar 1) (mCons (mTup (mCons (mC (.int 0)) (mCons (mC (.int 1)) mNil))) mNil)))) (mTruth (mCallV F_less (mCons (mTup (mCons (mCallV F_whole_of (mCons (mVar 0) mNil)) (mCons (mC (.int 1)) mNil))) (mCons (mVar 1) mNil)))))
    (mRaise 1)
    mSkip)
    (mSeq (mPar [2, 3] (mConsV (mVar 1) (mConsV (mC (.int 0)) mNilO)))
    (mSeq (mFor (mItS (mVar 0)) (gTupW 2 (gsCons (store 4) (gsCons (store 5) gsNil)))
    (mSeq (mAsg (store 6) (mTup (mCons (mBin mulW (mBin mulW (mVar 4) (mVar 4)) (mVar 5)) (mCons (mC (.int 1)) mNil))))
    (mSeq (mIf (mNotT (mTruth (mCallV F_less (mCons (mVar 6) (mCons (mVar 2) mNil)))))
    (mRet (mCallV F_plus (mCons (mTup (mCons (mVar 3) (mCons (mC (.int 1)) mNil))) (mCons (mCallV F_times (mCons (mVar 2) (mCons (mCallV F_made (mCons (mC (.int 1)) (mCons (mBin mulW (mVar 4) (mVar 4)) mNil))) mNil))) mNil))))
    mSkip)
    (mSeq (mAsg (store 2) (mCallV F_minus (mCons (mVar 2) (mCons (mVar 6) mNil))))
    (mAug (i2 (fun _ _ => true) fun i j => i + j) 3 (mVar 5))))))
    (mRet (mTup (mCons (mVar 3) (mCons (mC (.int 1)) mNil)))))))
noncomputable abbrev F_level_for : FV := runV 7 m_level_for
noncomputable def m__law_told : MS := (mTryRet 6 (fun k => subC k 0) 4
    (mRet (mIfE (mTest (mBin eqW (mVar 0) (mC (.int 2)))) (mCallV F_joined_level (mCons (mVar 1) (mCons (mVar 2) (mCons (mVar 3) mNil)))) (mPick F_volume_to F_level_for (mVar 0) (mCons (mVar 1) (mCons (mVar 3) mNil)))))
    (mCallE F__law_word (mCons (mVar 4) mNil)))
noncomputable abbrev F__law_told : FV := runV 5 m__law_told
noncomputable def m__law_take : MS := (mSeq (mIf (mTest (mBin eqW (mFrz (mCallB lenW (mCons (mVar 0) mNil))) (mC (.int 0))))
    (mRet (mC (.int 0)))
    mSkip)
    (mRet (mBin modW (mCallB intW (mCons (mMeth "list" popW 0 mNil) mNil)) (mVar 1))))
noncomputable abbrev F__law_take : FW := runP 2 m__law_take
noncomputable def m__law_bowl : MS := (mRet (mCallB tupleW (mCons (mLc [1] (mRng1 (mCons (mBin addW (mC (.int 1)) (mCallP F__law_take 0 (mCons (mC (.int 5)) mNil))) mNil)) (store 1) mYes (mTup (mCons (mBin addW (mC (.int 1)) (mCallP F__law_take 0 (mCons (mBin ixW (mLst (mCons (mC (.int 3)) (mCons (mC (.int 30)) mNil))) (mCallP F__law_take 0 (mCons (mC (.int 2)) mNil))) mNil))) (mCons (mBin addW (mC (.int 1)) (mCallP F__law_take 0 (mCons (mBin ixW (mLst (mCons (mC (.int 3)) (mCons (mC (.int 20)) mNil))) (mCallP F__law_take 0 (mCons (mC (.int 2)) mNil))) mNil))) mNil)))) mNil)))
noncomputable abbrev F__law_bowl : FW := runP 2 m__law_bowl
noncomputable def m__law_says : MS := (mRet (mAndV (mUn (isiW "bool") (mVar 0)) (mBin eqW (mVar 0) (mVar 1))))
noncomputable abbrev F__law_says : FV := runV 2 m__law_says
noncomputable def m__law_alike (REC : FV) : MS := (mSeq (mIf (mOrT (mTruth (mUn (isiW "list") (mVar 1))) (mTruth (mUn (isiW "tuple") (mVar 1))))
    (mSeq (mIf (mOrT (mTest (mBin neW (mUn (isiW "list") (mVar 0)) (mUn (isiW "list") (mVar 1)))) (mTest (mBin neW (mUn (isiW "tuple") (mVar 0)) (mUn (isiW "tuple") (mVar 1)))))
    (mRet (mC (.bool false)))
    mSkip)
    (mRet (mAndV (mBin eqW (mCallB lenW (mCons (mVar 0) mNil)) (mCallB lenW (mCons (mVar 1) mNil))) (mBin eqW (mLc [2] (mRng1 (mCons (mCallB lenW (mCons (mVar 1) mNil)) mNil)) (store 2) (mNotT (mTruth (mCallV REC (mCons (mBin ixW (mVar 0) (mVar 2)) (mCons (mBin ixW (mVar 1) (mVar 2)) mNil))))) (mVar 2)) (mLst mNil)))))
    mSkip)
    (mSeq (mIf (mTest (mBin isNW (mVar 1) (mC .none)))
    (mRet (mBin isNW (mVar 0) (mC .none)))
    mSkip)
    (mSeq (mIf (mOrT (mTruth (mUn (isiW "bool") (mVar 1))) (mTruth (mUn (isiW "bool") (mVar 0))))
    (mRet (mAndV (mUn (isiW "bool") (mVar 0)) (mAndV (mUn (isiW "bool") (mVar 1)) (mBin eqW (mVar 0) (mVar 1)))))
    mSkip)
    (mSeq (mIf (mTruth (mUn (isiW "int") (mVar 1)))
    (mRet (mAndV (mUn (isiW "int") (mVar 0)) (mBin eqW (mVar 0) (mVar 1))))
    mSkip)
    (mRet (mAndV (mUn (isiW "str") (mVar 0)) (mBin eqW (mVar 0) (mVar 1))))))))
noncomputable def R__law_alike : Nat → FV
  | 0 => fun _ => .bad
  | k + 1 => runV 3 (m__law_alike (R__law_alike k))
noncomputable abbrev F__law_alike : FV := R__law_alike 6
noncomputable def m_is_number : MS := (mRet (mAndV (mUn (isiW "int") (mVar 0)) (mAndV (mNotV (mUn (isiW "bool") (mVar 0))) (mChain leW leW (mVar 1) (mVar 0) (mVar 2)))))
noncomputable abbrev F_is_number : FV := runV 3 m_is_number
noncomputable def m_is_ring : MS := (mSeq (mIf (mOrT (mNotT (mTruth (mUn (isiW "tuple") (mVar 0)))) (mTest (mBin neW (mCallB lenW (mCons (mVar 0) mNil)) (mC (.int 2)))))
    (mRet (mC (.bool false)))
    mSkip)
    (mRet (mAndV (mCallV F_is_number (mCons (mBin ixW (mVar 0) (mC (.int 0))) (mCons (mC (.int 1)) (mCons (mC (.int 30)) mNil)))) (mCallV F_is_number (mCons (mBin ixW (mVar 0) (mC (.int 1))) (mCons (mC (.int 1)) (mCons (mC (.int 20)) mNil)))))))
noncomputable abbrev F_is_ring : FV := runV 1 m_is_ring
noncomputable def m_is_bowl : MS := (mRet (mAndV (mUn (isiW "tuple") (mVar 0)) (mAndV (mChain leW leW (mC (.int 1)) (mCallB lenW (mCons (mVar 0) mNil)) (mC (.int 8))) (mGx false [1] (mItS (mVar 0)) (store 1) mYes (mCallV F_is_ring (mCons (mVar 1) mNil))))))
noncomputable abbrev F_is_bowl : FV := runV 2 m_is_bowl
noncomputable def m__law_is_part : MS := (mSeq (mIf (mOrT (mNotT (mTruth (mUn (isiW "tuple") (mVar 0)))) (mOrT (mTest (mBin neW (mCallB lenW (mCons (mVar 0) mNil)) (mC (.int 2)))) (mTest (mBin neW (mLc [1] (mItS (mVar 0)) (store 1) (mOrT (mNotT (mTruth (mUn (isiW "int") (mVar 1)))) (mTruth (mUn (isiW "bool") (mVar 1)))) (mVar 1)) (mLst mNil)))))
    (mRet (mC (.bool false)))
    mSkip)
    (mRet (mAndV (mBin gtW (mBin ixW (mVar 0) (mC (.int 1))) (mC (.int 0))) (mBin eqW (mCallV F__law_gcd (mCons (mBin ixW (mVar 0) (mC (.int 0))) (mCons (mBin ixW (mVar 0) (mC (.int 1))) mNil))) (mC (.int 1))))))
noncomputable abbrev F__law_is_part : FV := runV 2 m__law_is_part
noncomputable def m_law : MS := (mSeq (mAsgOwn 1 (mCallO F__law_draws (mCons (mVar 0) mNil)))
    (mSeq (mFor (mRng1 (mCons (mC (.int 3)) mNil)) (store 2)
    (mSeq (mAsg (gTupW 2 (gsCons (store 3) (gsCons (store 4) gsNil))) (mTup (mCons (mCallP F__law_bowl 1 mNil) (mCons (mCallP F__law_bowl 1 mNil) mNil))))
    (mSeq (mIf (mNotT (mTruth (mCallV F__law_says (mCons (mCallV F_is_bowl (mCons (mVar 3) mNil)) (mCons (mC (.bool true)) mNil)))))
    (mRet (mC (.bool false)))
    mSkip)
    (mSeq (mPar [5, 6] (mConsV (mCallB sumW (mCons (mLc [19, 20] (mItS (mVar 3)) (gTupW 2 (gsCons (store 19) (gsCons (store 20) gsNil))) mYes (mVar 20)) mNil)) (mConsV (mCallB sumW (mCons (mLc [19, 20] (mItS (mVar 3)) (gTupW 2 (gsCons (store 19) (gsCons (store 20) gsNil))) mYes (mBin mulW (mBin mulW (mVar 19) (mVar 19)) (mVar 20))) mNil)) mNilO)))
    (mSeq (mAsg (store 7) (mBin addW (mC (.int 1)) (mCallP F__law_take 1 (mCons (mBin ixW (mLst (mCons (mC (.int 6)) (mCons (mC (.int 9973)) mNil))) (mCallP F__law_take 1 (mCons (mC (.int 2)) mNil))) mNil))))
    (mSeq (mAsg (store 8) (mCallV F__law_part (mCons (mCallP F__law_take 1 (mCons (mBin addW (mBin mulW (mVar 5) (mVar 7)) (mC (.int 1))) mNil)) (mCons (mVar 7) mNil))))
    (mSeq (mAsg (store 9) (mCallV F__law_volume (mCons (mVar 3) (mCons (mVar 8) mNil))))
    (mSeq (mIf (mNotT (mTruth (mCallV F__law_alike (mCons (mLst (mCons (mCallV F__law_told (mCons (mC (.int 0)) (mCons (mVar 3) (mCons (mC .none) (mCons (mVar 8) mNil))))) (mCons (mCallV F__law_told (mCons (mC (.int 1)) (mCons (mVar 3) (mCons (mC .none) (mCons (mVar 9) mNil))))) mNil))) (mCons (mLst (mCons (mVar 9) (mCons (mVar 8) mNil))) mNil)))))
    (mRet (mC (.bool false)))
    mSkip)
    (mSeq (mAsg (store 10) (mCallV F__law_part (mCons (mCallP F__law_take 1 (mCons (mBin addW (mBin mulW (mVar 6) (mVar 7)) (mC (.int 1))) mNil)) (mCons (mVar 7) mNil))))
    (mSeq (mAsg (store 11) (mCallV F__law_told (mCons (mC (.int 1)) (mCons (mVar 3) (mCons (mC .none) (mCons (mVar 10) mNil))))))
    (mSeq (mIf (mOrT (mNotT (mTruth (mCallV F__law_is_part (mCons (mVar 11) mNil)))) (mOrT (mTest (mBin neW (mCallV F__law_volume (mCons (mVar 3) (mCons (mVar 11) mNil))) (mVar 10))) (mOrT (mTest (mBin ltW (mBin ixW (mVar 11) (mC (.int 0))) (mC (.int 0)))) (mTruth (mCallV F__law_less (mCons (mTup (mCons (mVar 5) (mCons (mC (.int 1)) mNil))) (mCons (mVar 11) mNil)))))))
    (mRet (mC (.bool false)))
    mSkip)
    (mSeq (mAsg (store 12) (mCallV F__law_told (mCons (mC (.int 1)) (mCons (mVar 3) (mCons (mC .none) (mCons (mCallV F__law_part (mCons (mBin addW (mBin ixW (mVar 10) (mC (.int 0))) (mBin mulW (mVar 6) (mBin ixW (mVar 10) (mC (.int 1))))) (mCons (mBin mulW (mC (.int 2)) (mBin ixW (mVar 10) (mC (.int 1)))) mNil))) mNil))))))
    (mSeq (mIf (mAndT (mTruth (mCallV F__law_less (mCons (mVar 10) (mCons (mTup (mCons (mVar 6) (mCons (mC (.int 1)) mNil))) mNil)))) (mNotT (mTruth (mCallV F__law_less (mCons (mVar 11) (mCons (mVar 12) mNil))))))
    (mRet (mC (.bool false)))
    mSkip)
    (mSeq (mAsg (store 13) (mCallB tupleW (mCons (mLc [19, 20] (mItS (mVar 3)) (gTupW 2 (gsCons (store 19) (gsCons (store 20) gsNil))) mYes (mTup (mCons (mCallB min2W (mCons (mC (.int 30)) (mCons (mBin addW (mVar 19) (mCallP F__law_take 1 (mCons (mC (.int 3)) mNil))) mNil))) (mCons (mVar 20) mNil)))) mNil)))
    (mSeq (mIf (mTruth (mCallV F__law_less (mCons (mVar 11) (mCons (mCallV F__law_told (mCons (mC (.int 1)) (mCons (mVar 13) (mCons (mC .none) (mCons (mVar 10) mNil))))) mNil))))
    (mRet (mC (.bool false)))
    mSkip)
    (mSeq (mIf (mTest (mBin neW (mLst (mCons (mCallV F__law_told (mCons (mC (.int 1)) (mCons (mVar 3) (mCons (mC .none) (mCons (mTup (mCons (mC (.int 0)) (mCons (mC (.int 1)) mNil))) mNil))))) (mCons (mCallV F__law_told (mCons (mC (.int 1)) (mCons (mVar 3) (mCons (mC .none) (mCons (mTup (mCons (mVar 6) (mCons (mC (.int 1)) mNil))) mNil))))) (mCons (mCallV F__law_told (mCons (mC (.int 0)) (mCons (mVar 3) (mCons (mC .none) (mCons (mTup (mCons (mVar 5) (mCons (mC (.int 1)) mNil))) mNil))))) mNil)))) (mLst (mCons (mTup (mCons (mC (.int 0)) (mCons (mC (.int 1)) mNil))) (mCons (mTup (mCons (mVar 5) (mCons (mC (.int 1)) mNil))) (mCons (mTup (mCons (mVar 6) (mCons (mC (.int 1)) mNil))) mNil))))))
    (mRet (mC (.bool false)))
    mSkip)
    (mSeq (mAsg (store 14) (mCallB max2W (mCons (mVar 5) (mCons (mCallB sumW (mCons (mLc [19, 20] (mItS (mVar 4)) (gTupW 2 (gsCons (store 19) (gsCons (store 20) gsNil))) mYes (mVar 20)) mNil)) mNil))))
    (mSeq (mAsg (store 15) (mBin addW (mVar 6) (mCallB sumW (mCons (mLc [19, 20] (mItS (mVar 4)) (gTupW 2 (gsCons (store 19) (gsCons (store 20) gsNil))) mYes (mBin mulW (mBin mulW (mVar 19) (mVar 19)) (mVar 20))) mNil))))
    (mSeq (mAsg (store 8) (mCallV F__law_part (mCons (mCallP F__law_take 1 (mCons (mBin addW (mBin mulW (mVar 14) (mVar 7)) (mC (.int 1))) mNil)) (mCons (mVar 7) mNil))))
    (mSeq (mAsg (store 9) (mCallV F__law_plus (mCons (mCallV F__law_volume (mCons (mVar 3) (mCons (mVar 8) mNil))) (mCons (mCallV F__law_volume (mCons (mVar 4) (mCons (mVar 8) mNil))) mNil))))
    (mSeq (mIf (mNotT (mTruth (mCallV F__law_alike (mCons (mLst (mCons (mCallV F__law_told (mCons (mC (.int 2)) (mCons (mVar 3) (mCons (mVar 4) (mCons (mVar 9) mNil))))) (mCons (mCallV F__law_told (mCons (mC (.int 2)) (mCons (mVar 4) (mCons (mVar 3) (mCons (mVar 9) mNil))))) mNil))) (mCons (mLst (mCons (mVar 8) (mCons (mVar 8) mNil))) mNil)))))
    (mRet (mC (.bool false)))
    mSkip)
    (mSeq (mAsg (store 10) (mCallV F__law_part (mCons (mCallP F__law_take 1 (mCons (mBin addW (mBin mulW (mVar 15) (mVar 7)) (mC (.int 1))) mNil)) (mCons (mVar 7) mNil))))
    (mSeq (mAsg (store 11) (mCallV F__law_told (mCons (mC (.int 2)) (mCons (mVar 3) (mCons (mVar 4) (mCons (mVar 10) mNil))))))
    (mSeq (mIf (mOrT (mNotT (mTruth (mCallV F__law_is_part (mCons (mVar 11) mNil)))) (mTest (mBin neW (mCallV F__law_plus (mCons (mCallV F__law_volume (mCons (mVar 3) (mCons (mVar 11) mNil))) (mCons (mCallV F__law_volume (mCons (mVar 4) (mCons (mVar 11) mNil))) mNil))) (mVar 10))))
    (mRet (mC (.bool false)))
    mSkip)
    (mSeq (mAsg (store 16) (mBin addW (mLc [21] (mItS (mLst (mCons (mTup (mCons (mUn negW (mC (.int 1))) (mCons (mC (.int 2)) mNil))) (mCons (mTup (mCons (mBin addW (mBin mulW (mC (.int 2)) (mVar 5)) (mC (.int 1))) (mCons (mC (.int 2)) mNil))) mNil)))) (store 21) mYes (mCallV F__law_told (mCons (mC (.int 0)) (mCons (mVar 3) (mCons (mC .none) (mCons (mVar 21) mNil)))))) (mLc [21] (mItS (mLst (mCons (mTup (mCons (mUn negW (mC (.int 1))) (mCons (mC (.int 9)) mNil))) (mCons (mTup (mCons (mBin addW (mBin mulW (mC (.int 2)) (mVar 6)) (mC (.int 1))) (mCons (mC (.int 2)) mNil))) mNil)))) (store 21) mYes (mCallV F__law_told (mCons (mC (.int 1)) (mCons (mVar 3) (mCons (mC .none) (mCons (mVar 21) mNil))))))))
    (mIf (mTest (mBin neW (mBin addW (mVar 16) (mLc [21] (mItS (mLst (mCons (mTup (mCons (mUn negW (mC (.int 1))) (mCons (mC (.int 3)) mNil))) (mCons (mTup (mCons (mBin addW (mBin mulW (mC (.int 3)) (mVar 15)) (mC (.int 1))) (mCons (mC (.int 3)) mNil))) mNil)))) (store 21) mYes (mCallV F__law_told (mCons (mC (.int 2)) (mCons (mVar 3) (mCons (mVar 4) (mCons (mVar 21) mNil))))))) (mRepF (mLst (mCons (mC (.str "range")) mNil)) (mC (.int 6)))))
    (mRet (mC (.bool false)))
    mSkip))))))))))))))))))))))))))
    (mFrzS [1] (mSeq (mAsg (store 17) (mLst (mCons (mC .none) (mCons (mCallB listW (mCons (mVar 3) mNil)) (mCons (mTup mNil) (mCons (mBin mulW (mSl (mVar 3) mNoPart (mPart (mC (.int 1)))) (mC (.int 9))) (mCons (mTup (mCons (mC .none) mNil)) (mCons (mTup (mCons (mLst (mCons (mC (.int 1)) (mCons (mC (.int 1)) mNil))) mNil)) (mCons (mTup (mCons (mTup (mCons (mC (.int 1)) mNil)) mNil)) (mCons (mTup (mCons (mTup (mCons (mC (.int 1)) (mCons (mC (.int 1)) (mCons (mC (.int 1)) mNil)))) mNil)) (mCons (mTup (mCons (mTup (mCons (mC (.int 0)) (mCons (mC (.int 1)) mNil))) mNil)) (mCons (mTup (mCons (mTup (mCons (mC (.int 31)) (mCons (mC (.int 1)) mNil))) mNil)) (mCons (mTup (mCons (mTup (mCons (mC (.int 1)) (mCons (mC (.int 0)) mNil))) mNil)) (mCons (mTup (mCons (mTup (mCons (mC (.int 1)) (mCons (mC (.int 21)) mNil))) mNil)) (mCons (mTup (mCons (mTup (mCons (mC (.bool true)) (mCons (mC (.int 1)) mNil))) mNil)) (mCons (mTup (mCons (mTup (mCons (mC (.int 1)) (mCons (mC .none) mNil))) mNil)) mNil))))))))))))))))
    (mRet (mBin eqW (mLc [18] (mItS (mVar 17)) (store 18) (mTest (mBin notBW (mCallV F_is_bowl (mCons (mVar 18) mNil)) (mC (.bool false)))) (mVar 18)) (mLst mNil)))))))
noncomputable abbrev F_law : FV := runV 22 m_law
section
variable {P : Program} {w : World} {K : PySem.W.Frag} {mg : Str → Option Value} {base : Heap} {TC : Nat → Value} {TBs : Addr → Prop}
theorem sc__law_draws : FnScope ["script", "draws", "cell", "number", "first", "k", "seed"] ["script"] (defScope s__law_draws) := ⟨rfl, rfl, rfl, by decide +kernel, rfl, by decide +kernel, by decide +kernel⟩
theorem ok__law_draws {a__law_draws : Addr} {fd__law_draws : FuncData} (F : Fun K "_law_draws" "_law_draws" s__law_draws a__law_draws fd__law_draws) (T : Tx K mg TC) : FnOk P w K mg base (L2N.CX P w) 1 a__law_draws fd__law_draws ["script"] (spV K TC (offT TBs) F__law_draws 1) :=
  fn_V F sc__law_draws rfl (by decide) fun cdv A outer s H E hr => by
    have hu := room_hu hr
    exact (ds_cons (ds_setOwn (i := 1) sc__law_draws.nd (df_lst d_nil))
    (ds_cons (ds_for (passes_of rfl) rfl (di_seq (d_var 0)) (dg_name 2 sc__law_draws.nd)
    (ds_cons (ds_set (i := 3) sc__law_draws.nd (d_callB cd_abs T.n_abs (by decide +kernel) (d_cons (d_var 2) d_nil)))
    (ds_cons (ds_if (dt_cmp (od_lt (hu64 hu)) (d_var 3) (d_op od_pow d_int d_int))
    (ds_cons (ds_set (i := 4) sc__law_draws.nd (d_op od_mod (d_callTy cd_int T.n_int (by decide +kernel) (d_cons (d_op od_add (d_op od_mul (d_var 3) d_int) d_int) d_nil)) d_int))
    (ds_cons (ds_expr (d_meth (i := 1) PySem.F.plainAttrs_list PySem.F.slot_list_append PySem.F.type_list_append md_append (d_cons (d_op od_mod (d_callTy cd_int T.n_int (by decide +kernel) (d_cons (d_op od_add (d_op od_mul (d_var 4) d_int) (d_var 3)) d_nil)) d_int) d_nil)))
    (ds_cons (ds_expr (d_meth (i := 1) PySem.F.plainAttrs_list PySem.F.slot_list_append PySem.F.type_list_append md_append (d_cons (d_op od_mod (d_callTy cd_int T.n_int (by decide +kernel) (d_cons (d_op od_add (d_var 4) (d_op od_fdiv (d_var 3) d_int)) d_nil)) d_int) d_nil)))
    (ds_one (ds_set (i := 3) sc__law_draws.nd d_int)))))
    ds_nil)
    (ds_one (ds_for (passes_of rfl) rfl (di_range1 T.n_range (d_cons d_int d_nil)) (dg_name 5 sc__law_draws.nd)
    (ds_one (ds_if (dt_cmp (od_gt (hu64 hu)) (d_var 3) d_int)
    (ds_cons (ds_expr (d_meth (i := 1) PySem.F.plainAttrs_list PySem.F.slot_list_append PySem.F.type_list_append md_append (d_cons (d_op od_mod (d_callTy cd_int T.n_int (by decide +kernel) (d_cons (d_var 3) d_nil)) d_int) d_nil)))
    (ds_one (ds_set (i := 3) sc__law_draws.nd (d_op od_fdiv (d_var 3) d_int))))
    ds_nil)))))))
    (ds_cons (ds_set (i := 6) sc__law_draws.nd d_int)
    (ds_cons (ds_if (dt_cmp (od_gt (hu64 hu)) (d_callB cd_len T.n_len (by decide +kernel) (d_cons (d_var 0) d_nil)) d_int)
    (ds_one (ds_set (i := 6) sc__law_draws.nd (d_op od_add d_int (d_callB cd_abs T.n_abs (by decide +kernel) (d_cons (d_ix (d_var 0) d_int (fun _ _ => rfl)) d_nil)))))
    ds_nil)
    (ds_cons (ds_for (passes_of rfl) rfl (di_range1 T.n_range (d_cons d_int d_nil)) (dg_name 5 sc__law_draws.nd)
    (ds_cons (ds_set (i := 6) sc__law_draws.nd (d_op od_mod (d_callTy cd_int T.n_int (by decide +kernel) (d_cons (d_op od_add (d_op od_mul (d_var 6) d_int) d_int) d_nil)) d_int))
    (ds_one (ds_expr (d_meth (i := 1) PySem.F.plainAttrs_list PySem.F.slot_list_append PySem.F.type_list_append md_append (d_cons (d_op od_fdiv (d_var 6) d_int) d_nil))))))
    (dss_frz [1] (ds_one (ds_retOwn (df_listRev rfl T.n_list T.n_reversed (d_var 1))))))))))
theorem sc__law_gcd : FnScope ["one", "other"] ["one", "other"] (defScope s__law_gcd) := ⟨rfl, rfl, rfl, by decide +kernel, rfl, by decide +kernel, by decide +kernel⟩
theorem ok__law_gcd {a__law_gcd : Addr} {fd__law_gcd : FuncData} (F : Fun K "_law_gcd" "_law_gcd" s__law_gcd a__law_gcd fd__law_gcd) (T : Tx K mg TC) : FnOk P w K mg base (L2N.CX P w) 1 a__law_gcd fd__law_gcd ["one", "other"] (spV K TC (offT TBs) F__law_gcd 2) :=
  fn_V F sc__law_gcd rfl (by decide) fun cdv A outer s H E hr => by
    have hu := room_hu hr
    exact (ds_cons (ds_par2 (i := 0) (j := 1) rfl sc__law_gcd.nd (dlo_val (d_callB cd_abs T.n_abs (by decide +kernel) (d_cons (d_var 0) d_nil)) (dlo_val (d_callB cd_abs T.n_abs (by decide +kernel) (d_cons (d_var 1) d_nil)) dlo_nil)) (lenO_cons (lenO_cons lenO_nil)) (by decide))
    (ds_cons (ds_while (passes_of rfl) (dt_cmp (od_gt (hu64 hu)) (d_var 1) d_int) (ds_one (ds_par2 (i := 0) (j := 1) rfl sc__law_gcd.nd (dlo_val (d_var 1) (dlo_val (d_op od_mod (d_callTy cd_int T.n_int (by decide +kernel) (d_cons (d_var 0) d_nil)) (d_var 1)) dlo_nil)) (lenO_cons (lenO_cons lenO_nil)) (by decide))))
    (ds_one (ds_ret (d_var 0)))))
theorem sc__law_part : FnScope ["one", "other", "common"] ["one", "other"] (defScope s__law_part) := ⟨rfl, rfl, rfl, by decide +kernel, rfl, by decide +kernel, by decide +kernel⟩
theorem ok__law_part {a__law_part : Addr} {fd__law_part : FuncData} {a__law_gcd : Addr} {fd__law_gcd : FuncData} (F : Fun K "_law_part" "_law_part" s__law_part a__law_part fd__law_part) (T : Tx K mg TC) (C__law_gcd : Cl K mg "_law_gcd" a__law_gcd fd__law_gcd ["one", "other"]) (G__law_gcd : FnOk P w K mg base (L2N.CX P w) 1 a__law_gcd fd__law_gcd ["one", "other"] (spV K TC (offT TBs) F__law_gcd 2)) : FnOk P w K mg base (L2N.CX P w) 2 a__law_part fd__law_part ["one", "other"] (spV K TC (offT TBs) F__law_part 2) :=
  fn_V F sc__law_part rfl (by decide) fun cdv A outer s H E hr => by
    have hu := room_hu hr
    exact (ds_cons (ds_set (i := 2) sc__law_part.nd (d_ifE (dt_cmp (od_gt (hu64 hu)) (d_var 1) d_int) (d_callV G__law_gcd (hr.mono (by decide)) (L2N.takes_of rfl rfl rfl rfl) rfl C__law_gcd.g C__law_gcd.k C__law_gcd.b (d_cons (d_var 0) (d_cons (d_var 1) d_nil)) (len_cons (len_cons len_nil))) (d_op od_sub d_int (d_callV G__law_gcd (hr.mono (by decide)) (L2N.takes_of rfl rfl rfl rfl) rfl C__law_gcd.g C__law_gcd.k C__law_gcd.b (d_cons (d_var 0) (d_cons (d_var 1) d_nil)) (len_cons (len_cons len_nil))))))
    (ds_one (ds_ret (d_tup (d_cons (d_op od_fdiv (d_var 0) (d_var 2)) (d_cons (d_op od_fdiv (d_var 1) (d_var 2)) d_nil))))))
theorem sc__law_minus : FnScope ["one", "other"] ["one", "other"] (defScope s__law_minus) := ⟨rfl, rfl, rfl, by decide +kernel, rfl, by decide +kernel, by decide +kernel⟩
theorem ok__law_minus {a__law_minus : Addr} {fd__law_minus : FuncData} {a__law_part : Addr} {fd__law_part : FuncData} (F : Fun K "_law_minus" "_law_minus" s__law_minus a__law_minus fd__law_minus) (T : Tx K mg TC) (C__law_part : Cl K mg "_law_part" a__law_part fd__law_part ["one", "other"]) (G__law_part : FnOk P w K mg base (L2N.CX P w) 2 a__law_part fd__law_part ["one", "other"] (spV K TC (offT TBs) F__law_part 2)) : FnOk P w K mg base (L2N.CX P w) 3 a__law_minus fd__law_minus ["one", "other"] (spV K TC (offT TBs) F__law_minus 2) :=
  fn_V F sc__law_minus rfl (by decide) fun cdv A outer s H E hr => by
    have hu := room_hu hr
    exact (ds_one (ds_ret (d_callV G__law_part (hr.mono (by decide)) (L2N.takes_of rfl rfl rfl rfl) rfl C__law_part.g C__law_part.k C__law_part.b (d_cons (d_op od_sub (d_op od_mul (d_ix (d_var 0) d_int (fun _ _ => rfl)) (d_ix (d_var 1) d_int (fun _ _ => rfl))) (d_op od_mul (d_ix (d_var 1) d_int (fun _ _ => rfl)) (d_ix (d_var 0) d_int (fun _ _ => rfl)))) (d_cons (d_op od_mul (d_ix (d_var 0) d_int (fun _ _ => rfl)) (d_ix (d_var 1) d_int (fun _ _ => rfl))) d_nil)) (len_cons (len_cons len_nil)))))
theorem sc__law_plus : FnScope ["one", "other"] ["one", "other"] (defScope s__law_plus) := ⟨rfl, rfl, rfl, by decide +kernel, rfl, by decide +kernel, by decide +kernel⟩
theorem ok__law_plus {a__law_plus : Addr} {fd__law_plus : FuncData} {a__law_part : Addr} {fd__law_part : FuncData} (F : Fun K "_law_plus" "_law_plus" s__law_plus a__law_plus fd__law_plus) (T : Tx K mg TC) (C__law_part : Cl K mg "_law_part" a__law_part fd__law_part ["one", "other"]) (G__law_part : FnOk P w K mg base (L2N.CX P w) 2 a__law_part fd__law_part ["one", "other"] (spV K TC (offT TBs) F__law_part 2)) : FnOk P w K mg base (L2N.CX P w) 3 a__law_plus fd__law_plus ["one", "other"] (spV K TC (offT TBs) F__law_plus 2) :=
  fn_V F sc__law_plus rfl (by decide) fun cdv A outer s H E hr => by
    have hu := room_hu hr
    exact (ds_one (ds_ret (d_callV G__law_part (hr.mono (by decide)) (L2N.takes_of rfl rfl rfl rfl) rfl C__law_part.g C__law_part.k C__law_part.b (d_cons (d_op od_add (d_op od_mul (d_ix (d_var 0) d_int (fun _ _ => rfl)) (d_ix (d_var 1) d_int (fun _ _ => rfl))) (d_op od_mul (d_ix (d_var 1) d_int (fun _ _ => rfl)) (d_ix (d_var 0) d_int (fun _ _ => rfl)))) (d_cons (d_op od_mul (d_ix (d_var 0) d_int (fun _ _ => rfl)) (d_ix (d_var 1) d_int (fun _ _ => rfl))) d_nil)) (len_cons (len_cons len_nil)))))
theorem sc__law_less : FnScope ["one", "other"] ["one", "other"] (defScope s__law_less) := ⟨rfl, rfl, rfl, by decide +kernel, rfl, by decide +kernel, by decide +kernel⟩
theorem ok__law_less {a__law_less : Addr} {fd__law_less : FuncData} (F : Fun K "_law_less" "_law_less" s__law_less a__law_less fd__law_less) (T : Tx K mg TC) : FnOk P w K mg base (L2N.CX P w) 1 a__law_less fd__law_less ["one", "other"] (spV K TC (offT TBs) F__law_less 2) :=
  fn_V F sc__law_less rfl (by decide) fun cdv A outer s H E hr => by
    have hu := room_hu hr
    exact (ds_one (ds_ret (d_cmp (od_lt (hu64 hu)) (d_op od_mul (d_ix (d_var 0) d_int (fun _ _ => rfl)) (d_ix (d_var 1) d_int (fun _ _ => rfl))) (d_op od_mul (d_ix (d_var 1) d_int (fun _ _ => rfl)) (d_ix (d_var 0) d_int (fun _ _ => rfl))))))
theorem sc__law_times : FnScope ["one", "other"] ["one", "other"] (defScope s__law_times) := ⟨rfl, rfl, rfl, by decide +kernel, rfl, by decide +kernel, by decide +kernel⟩
theorem ok__law_times {a__law_times : Addr} {fd__law_times : FuncData} {a__law_part : Addr} {fd__law_part : FuncData} (F : Fun K "_law_times" "_law_times" s__law_times a__law_times fd__law_times) (T : Tx K mg TC) (C__law_part : Cl K mg "_law_part" a__law_part fd__law_part ["one", "other"]) (G__law_part : FnOk P w K mg base (L2N.CX P w) 2 a__law_part fd__law_part ["one", "other"] (spV K TC (offT TBs) F__law_part 2)) : FnOk P w K mg base (L2N.CX P w) 3 a__law_times fd__law_times ["one", "other"] (spV K TC (offT TBs) F__law_times 2) :=
  fn_V F sc__law_times rfl (by decide) fun cdv A outer s H E hr => by
    have hu := room_hu hr
    exact (ds_one (ds_ret (d_callV G__law_part (hr.mono (by decide)) (L2N.takes_of rfl rfl rfl rfl) rfl C__law_part.g C__law_part.k C__law_part.b (d_cons (d_op od_mul (d_ix (d_var 0) d_int (fun _ _ => rfl)) (d_ix (d_var 1) d_int (fun _ _ => rfl))) (d_cons (d_op od_mul (d_ix (d_var 0) d_int (fun _ _ => rfl)) (d_ix (d_var 1) d_int (fun _ _ => rfl))) d_nil)) (len_cons (len_cons len_nil)))))
theorem sc__law_volume : FnScope ["bowl", "level", "found", "below", "radius", "height", "above", "part"] ["bowl", "level"] (defScope s__law_volume) := ⟨rfl, rfl, rfl, by decide +kernel, rfl, by decide +kernel, by decide +kernel⟩
theorem ok__law_volume {a__law_volume : Addr} {fd__law_volume : FuncData} {a__law_minus : Addr} {fd__law_minus : FuncData} {a__law_plus : Addr} {fd__law_plus : FuncData} {a__law_less : Addr} {fd__law_less : FuncData} {a__law_times : Addr} {fd__law_times : FuncData} (F : Fun K "_law_volume" "_law_volume" s__law_volume a__law_volume fd__law_volume) (T : Tx K mg TC) (C__law_minus : Cl K mg "_law_minus" a__law_minus fd__law_minus ["one", "other"]) (G__law_minus : FnOk P w K mg base (L2N.CX P w) 3 a__law_minus fd__law_minus ["one", "other"] (spV K TC (offT TBs) F__law_minus 2)) (C__law_plus : Cl K mg "_law_plus" a__law_plus fd__law_plus ["one", "other"]) (G__law_plus : FnOk P w K mg base (L2N.CX P w) 3 a__law_plus fd__law_plus ["one", "other"] (spV K TC (offT TBs) F__law_plus 2)) (C__law_less : Cl K mg "_law_less" a__law_less fd__law_less ["one", "other"]) (G__law_less : FnOk P w K mg base (L2N.CX P w) 1 a__law_less fd__law_less ["one", "other"] (spV K TC (offT TBs) F__law_less 2)) (C__law_times : Cl K mg "_law_times" a__law_times fd__law_times ["one", "other"]) (G__law_times : FnOk P w K mg base (L2N.CX P w) 3 a__law_times fd__law_times ["one", "other"] (spV K TC (offT TBs) F__law_times 2)) : FnOk P w K mg base (L2N.CX P w) 4 a__law_volume fd__law_volume ["bowl", "level"] (spV K TC (offT TBs) F__law_volume 2) :=
  fn_V F sc__law_volume rfl (by decide) fun cdv A outer s H E hr => by
    have hu := room_hu hr
    exact (ds_cons (ds_asg (dg_tup rfl (dgs_cons (dg_name 2 sc__law_volume.nd) (dgs_cons (dg_name 3 sc__law_volume.nd) dgs_nil))) (d_tup (d_cons (d_tup (d_cons d_int (d_cons d_int d_nil))) (d_cons (d_tup (d_cons d_int (d_cons d_int d_nil))) d_nil))))
    (ds_cons (ds_for (passes_of rfl) rfl (di_seq (d_var 0)) (dg_tup rfl (dgs_cons (dg_name 4 sc__law_volume.nd) (dgs_cons (dg_name 5 sc__law_volume.nd) dgs_nil)))
    (ds_cons (ds_set (i := 6) sc__law_volume.nd (d_callV G__law_minus (hr.mono (by decide)) (L2N.takes_of rfl rfl rfl rfl) rfl C__law_minus.g C__law_minus.k C__law_minus.b (d_cons (d_var 1) (d_cons (d_var 3) d_nil)) (len_cons (len_cons len_nil))))
    (ds_cons (ds_set (i := 7) sc__law_volume.nd (d_ifE (dt_cmp (od_le (hu64 hu)) (d_ix (d_var 6) d_int (fun _ _ => rfl)) d_int) (d_tup (d_cons d_int (d_cons d_int d_nil))) (d_ifE (dt_val (d_callV G__law_less (hr.mono (by decide)) (L2N.takes_of rfl rfl rfl rfl) rfl C__law_less.g C__law_less.k C__law_less.b (d_cons (d_var 6) (d_cons (d_tup (d_cons (d_var 5) (d_cons d_int d_nil))) d_nil)) (len_cons (len_cons len_nil)))) (d_var 6) (d_tup (d_cons (d_var 5) (d_cons d_int d_nil))))))
    (ds_one (ds_par2 (i := 2) (j := 3) rfl sc__law_volume.nd (dlo_val (d_callV G__law_plus (hr.mono (by decide)) (L2N.takes_of rfl rfl rfl rfl) rfl C__law_plus.g C__law_plus.k C__law_plus.b (d_cons (d_var 2) (d_cons (d_callV G__law_times (hr.mono (by decide)) (L2N.takes_of rfl rfl rfl rfl) rfl C__law_times.g C__law_times.k C__law_times.b (d_cons (d_tup (d_cons (d_op od_mul (d_var 4) (d_var 4)) (d_cons d_int d_nil))) (d_cons (d_var 7) d_nil)) (len_cons (len_cons len_nil))) d_nil)) (len_cons (len_cons len_nil))) (dlo_val (d_callV G__law_plus (hr.mono (by decide)) (L2N.takes_of rfl rfl rfl rfl) rfl C__law_plus.g C__law_plus.k C__law_plus.b (d_cons (d_var 3) (d_cons (d_tup (d_cons (d_var 5) (d_cons d_int d_nil))) d_nil)) (len_cons (len_cons len_nil))) dlo_nil)) (lenO_cons (lenO_cons lenO_nil)) (by decide))))))
    (ds_one (ds_ret (d_var 2)))))
theorem sc_square_at : FnScope ["bowl", "place", "below", "radius", "height"] ["bowl", "place"] (defScope s_square_at) := ⟨rfl, rfl, rfl, by decide +kernel, rfl, by decide +kernel, by decide +kernel⟩
theorem ok_square_at {a_square_at : Addr} {fd_square_at : FuncData} (F : Fun K "square_at" "square_at" s_square_at a_square_at fd_square_at) (T : Tx K mg TC) : FnOk P w K mg base (L2N.CX P w) 1 a_square_at fd_square_at ["bowl", "place"] (spV K TC (offT TBs) F_square_at 2) :=
  fn_V F sc_square_at rfl (by decide) fun cdv A outer s H E hr => by
    have hu := room_hu hr
    exact (ds_cons (ds_set (i := 2) sc_square_at.nd d_int)
    (ds_cons (ds_for (passes_of rfl) rfl (di_seq (d_var 0)) (dg_tup rfl (dgs_cons (dg_name 3 sc_square_at.nd) (dgs_cons (dg_name 4 sc_square_at.nd) dgs_nil)))
    (ds_cons (ds_if (dt_chain (od_le (hu64 hu)) (od_lt (hu64 hu)) (d_var 2) (d_var 1) (d_op od_add (d_var 2) (d_var 4)))
    (ds_one (ds_ret (d_op od_mul (d_var 3) (d_var 3))))
    ds_nil)
    (ds_one (ds_aug (i := 2) sc_square_at.nd (d_var 4) od_iadd))))
    (ds_one (ds_ret d_int))))
theorem sc_joined : FnScope ["one", "other", "ends", "bowl", "below", "_", "height", "found", "last", "end"] ["one", "other"] (defScope s_joined) := ⟨rfl, rfl, rfl, by decide +kernel, rfl, by decide +kernel, by decide +kernel⟩
theorem ok_joined {a_joined : Addr} {fd_joined : FuncData} {a_square_at : Addr} {fd_square_at : FuncData} (F : Fun K "joined" "joined" s_joined a_joined fd_joined) (T : Tx K mg TC) (C_square_at : Cl K mg "square_at" a_square_at fd_square_at ["bowl", "place"]) (G_square_at : FnOk P w K mg base (L2N.CX P w) 1 a_square_at fd_square_at ["bowl", "place"] (spV K TC (offT TBs) F_square_at 2)) : FnOk P w K mg base (L2N.CX P w) 2 a_joined fd_joined ["one", "other"] (spV K TC (offT TBs) F_joined 2) :=
  fn_V F sc_joined rfl (by decide) fun cdv A outer s H E hr => by
    have hu := room_hu hr
    exact (ds_cons (ds_setOwn (i := 2) sc_joined.nd (df_dnew false))
    (ds_cons (ds_for (passes_of rfl) rfl (di_seq (d_tup (d_cons (d_var 0) (d_cons (d_var 1) d_nil)))) (dg_name 3 sc_joined.nd)
    (ds_cons (ds_set (i := 4) sc_joined.nd d_int)
    (ds_one (ds_for (passes_of rfl) rfl (di_seq (d_var 3)) (dg_tup rfl (dgs_cons (dg_name 5 sc_joined.nd) (dgs_cons (dg_name 6 sc_joined.nd) dgs_nil)))
    (ds_cons (ds_aug (i := 4) sc_joined.nd (d_var 6) od_iadd)
    (ds_one (ds_dput (i := 2) (hu1 hu) exF (d_var 4) d_bl)))))))
    (dss_frz [2] (ds_cons (ds_par2 (i := 7) (j := 8) rfl sc_joined.nd (dlo_own (df_lst d_nil) (dlo_val d_int dlo_nil)) (lenO_cons (lenO_cons lenO_nil)) (by decide))
    (ds_cons (ds_for (passes_of rfl) rfl (di_seq ((df_sortedD rfl T.n_sorted (d_cons (d_var 2) d_nil))).e) (dg_name 9 sc_joined.nd)
    (ds_cons (ds_expr (d_meth (i := 7) PySem.F.plainAttrs_list PySem.F.slot_list_append PySem.F.type_list_append md_append (d_cons (d_tup (d_cons (d_op od_add (d_callV G_square_at (hr.mono (by decide)) (L2N.takes_of rfl rfl rfl rfl) rfl C_square_at.g C_square_at.k C_square_at.b (d_cons (d_var 0) (d_cons (d_var 8) d_nil)) (len_cons (len_cons len_nil))) (d_callV G_square_at (hr.mono (by decide)) (L2N.takes_of rfl rfl rfl rfl) rfl C_square_at.g C_square_at.k C_square_at.b (d_cons (d_var 1) (d_cons (d_var 8) d_nil)) (len_cons (len_cons len_nil)))) (d_cons (d_op od_sub (d_var 9) (d_var 8)) d_nil))) d_nil)))
    (ds_one (ds_set (i := 8) sc_joined.nd (d_var 9)))))
    (dss_frz [7] (ds_one (ds_ret (d_var 7)))))))))
theorem sc_less : FnScope ["one", "other"] ["one", "other"] (defScope s_less) := ⟨rfl, rfl, rfl, by decide +kernel, rfl, by decide +kernel, by decide +kernel⟩
theorem ok_less {a_less : Addr} {fd_less : FuncData} (F : Fun K "less" "less" s_less a_less fd_less) (T : Tx K mg TC) : FnOk P w K mg base (L2N.CX P w) 1 a_less fd_less ["one", "other"] (spV K TC (offT TBs) F_less 2) :=
  fn_V F sc_less rfl (by decide) fun cdv A outer s H E hr => by
    have hu := room_hu hr
    exact (ds_one (ds_ret (d_cmp (od_lt (hu64 hu)) (d_op od_mul (d_ix (d_var 0) d_int (fun _ _ => rfl)) (d_ix (d_var 1) d_int (fun _ _ => rfl))) (d_op od_mul (d_ix (d_var 1) d_int (fun _ _ => rfl)) (d_ix (d_var 0) d_int (fun _ _ => rfl))))))
theorem sc_lowest : FnScope ["part", "whole", "common"] ["part", "whole"] (defScope s_lowest) := ⟨rfl, rfl, rfl, by decide +kernel, rfl, by decide +kernel, by decide +kernel⟩
theorem ok_lowest {a_lowest : Addr} {fd_lowest : FuncData} (F : Fun K "lowest" "lowest" s_lowest a_lowest fd_lowest) (T : Tx K mg TC) : FnOk P w K mg base (L2N.CX P w) 1 a_lowest fd_lowest ["part", "whole"] (spV K TC (offT TBs) F_lowest 2) :=
  fn_V F sc_lowest rfl (by decide) fun cdv A outer s H E hr => by
    have hu := room_hu hr
    exact (ds_cons (ds_set (i := 2) sc_lowest.nd (d_callBf cd_gcd T.m_gcd (d_cons (d_var 0) (d_cons (d_var 1) d_nil))))
    (ds_cons (ds_if (dt_cmp (od_lt (hu64 hu)) (d_var 1) d_int)
    (ds_one (ds_set (i := 2) sc_lowest.nd (d_un od_neg (d_var 2))))
    ds_nil)
    (ds_one (ds_ret (d_tup (d_cons (d_op od_fdiv (d_var 0) (d_var 2)) (d_cons (d_op od_fdiv (d_var 1) (d_var 2)) d_nil)))))))
theorem sc_minus : FnScope ["one", "other"] ["one", "other"] (defScope s_minus) := ⟨rfl, rfl, rfl, by decide +kernel, rfl, by decide +kernel, by decide +kernel⟩
theorem ok_minus {a_minus : Addr} {fd_minus : FuncData} {a_lowest : Addr} {fd_lowest : FuncData} (F : Fun K "minus" "minus" s_minus a_minus fd_minus) (T : Tx K mg TC) (C_lowest : Cl K mg "lowest" a_lowest fd_lowest ["part", "whole"]) (G_lowest : FnOk P w K mg base (L2N.CX P w) 1 a_lowest fd_lowest ["part", "whole"] (spV K TC (offT TBs) F_lowest 2)) : FnOk P w K mg base (L2N.CX P w) 2 a_minus fd_minus ["one", "other"] (spV K TC (offT TBs) F_minus 2) :=
  fn_V F sc_minus rfl (by decide) fun cdv A outer s H E hr => by
    have hu := room_hu hr
    exact (ds_one (ds_ret (d_callV G_lowest (hr.mono (by decide)) (L2N.takes_of rfl rfl rfl rfl) rfl C_lowest.g C_lowest.k C_lowest.b (d_cons (d_op od_sub (d_op od_mul (d_ix (d_var 0) d_int (fun _ _ => rfl)) (d_ix (d_var 1) d_int (fun _ _ => rfl))) (d_op od_mul (d_ix (d_var 1) d_int (fun _ _ => rfl)) (d_ix (d_var 0) d_int (fun _ _ => rfl)))) (d_cons (d_op od_mul (d_ix (d_var 0) d_int (fun _ _ => rfl)) (d_ix (d_var 1) d_int (fun _ _ => rfl))) d_nil)) (len_cons (len_cons len_nil)))))
theorem sc_plus : FnScope ["one", "other"] ["one", "other"] (defScope s_plus) := ⟨rfl, rfl, rfl, by decide +kernel, rfl, by decide +kernel, by decide +kernel⟩
theorem ok_plus {a_plus : Addr} {fd_plus : FuncData} {a_lowest : Addr} {fd_lowest : FuncData} (F : Fun K "plus" "plus" s_plus a_plus fd_plus) (T : Tx K mg TC) (C_lowest : Cl K mg "lowest" a_lowest fd_lowest ["part", "whole"]) (G_lowest : FnOk P w K mg base (L2N.CX P w) 1 a_lowest fd_lowest ["part", "whole"] (spV K TC (offT TBs) F_lowest 2)) : FnOk P w K mg base (L2N.CX P w) 2 a_plus fd_plus ["one", "other"] (spV K TC (offT TBs) F_plus 2) :=
  fn_V F sc_plus rfl (by decide) fun cdv A outer s H E hr => by
    have hu := room_hu hr
    exact (ds_one (ds_ret (d_callV G_lowest (hr.mono (by decide)) (L2N.takes_of rfl rfl rfl rfl) rfl C_lowest.g C_lowest.k C_lowest.b (d_cons (d_op od_add (d_op od_mul (d_ix (d_var 0) d_int (fun _ _ => rfl)) (d_ix (d_var 1) d_int (fun _ _ => rfl))) (d_op od_mul (d_ix (d_var 1) d_int (fun _ _ => rfl)) (d_ix (d_var 0) d_int (fun _ _ => rfl)))) (d_cons (d_op od_mul (d_ix (d_var 0) d_int (fun _ _ => rfl)) (d_ix (d_var 1) d_int (fun _ _ => rfl))) d_nil)) (len_cons (len_cons len_nil)))))
theorem sc_times : FnScope ["one", "other"] ["one", "other"] (defScope s_times) := ⟨rfl, rfl, rfl, by decide +kernel, rfl, by decide +kernel, by decide +kernel⟩
theorem ok_times {a_times : Addr} {fd_times : FuncData} {a_lowest : Addr} {fd_lowest : FuncData} (F : Fun K "times" "times" s_times a_times fd_times) (T : Tx K mg TC) (C_lowest : Cl K mg "lowest" a_lowest fd_lowest ["part", "whole"]) (G_lowest : FnOk P w K mg base (L2N.CX P w) 1 a_lowest fd_lowest ["part", "whole"] (spV K TC (offT TBs) F_lowest 2)) : FnOk P w K mg base (L2N.CX P w) 2 a_times fd_times ["one", "other"] (spV K TC (offT TBs) F_times 2) :=
  fn_V F sc_times rfl (by decide) fun cdv A outer s H E hr => by
    have hu := room_hu hr
    exact (ds_one (ds_ret (d_callV G_lowest (hr.mono (by decide)) (L2N.takes_of rfl rfl rfl rfl) rfl C_lowest.g C_lowest.k C_lowest.b (d_cons (d_op od_mul (d_ix (d_var 0) d_int (fun _ _ => rfl)) (d_ix (d_var 1) d_int (fun _ _ => rfl))) (d_cons (d_op od_mul (d_ix (d_var 0) d_int (fun _ _ => rfl)) (d_ix (d_var 1) d_int (fun _ _ => rfl))) d_nil)) (len_cons (len_cons len_nil)))))
theorem sc_whole_of : FnScope ["bowl", "radius", "height"] ["bowl"] (defScope s_whole_of) := ⟨rfl, rfl, rfl, by decide +kernel, rfl, by decide +kernel, by decide +kernel⟩
theorem ok_whole_of {a_whole_of : Addr} {fd_whole_of : FuncData} (F : Fun K "whole_of" "whole_of" s_whole_of a_whole_of fd_whole_of) (T : Tx K mg TC) : FnOk P w K mg base (L2N.CX P w) 1 a_whole_of fd_whole_of ["bowl"] (spV K TC (offT TBs) F_whole_of 1) :=
  fn_V F sc_whole_of rfl (by decide) fun cdv A outer s H E hr => by
    have hu := room_hu hr
    exact (ds_one (ds_ret (d_callB (cd_sum rfl) T.n_sum (by decide +kernel) (d_cons ((df_lc (own := [("radius", 1), ("height", 2)]) rfl sc_whole_of.nd (di_seq (d_var 0)) (blkOk_by (by kernel_rfl)) (by decide) (fun s H C cl fp => (dg_tup rfl (dgs_cons (dg_name 1 sc_whole_of.nd) (dgs_cons (dg_name 2 sc_whole_of.nd) dgs_nil)))) (fun s H C cl fp => dts_nil) (fun s H C cl fp => (d_op od_mul (d_op od_mul (d_var 1) (d_var 1)) (d_var 2))))).e d_nil))))
theorem sc_made : FnScope ["part", "whole"] ["part", "whole"] (defScope s_made) := ⟨rfl, rfl, rfl, by decide +kernel, rfl, by decide +kernel, by decide +kernel⟩
theorem ok_made {a_made : Addr} {fd_made : FuncData} {a_lowest : Addr} {fd_lowest : FuncData} (F : Fun K "made" "made" s_made a_made fd_made) (T : Tx K mg TC) (C_lowest : Cl K mg "lowest" a_lowest fd_lowest ["part", "whole"]) (G_lowest : FnOk P w K mg base (L2N.CX P w) 1 a_lowest fd_lowest ["part", "whole"] (spV K TC (offT TBs) F_lowest 2)) : FnOk P w K mg base (L2N.CX P w) 2 a_made fd_made ["part", "whole"] (spV K TC (offT TBs) F_made 2) :=
  fn_V F sc_made rfl (by decide) fun cdv A outer s H E hr => by
    have hu := room_hu hr
    exact (ds_cons (ds_if (dt_cmp (od_eq (hu64 hu)) (d_var 1) d_int)
    (ds_one (ds_raise rfl (L2N.takes_of rfl rfl rfl rfl) T.r_OutOfRange))
    ds_nil)
    (ds_one (ds_ret (d_callV G_lowest (hr.mono (by decide)) (L2N.takes_of rfl rfl rfl rfl) rfl C_lowest.g C_lowest.k C_lowest.b (d_cons (d_var 0) (d_cons (d_var 1) d_nil)) (len_cons (len_cons len_nil))))))
theorem sc_joined_level : FnScope ["one", "other", "volume", "left", "below", "square", "height", "full"] ["one", "other", "volume"] (defScope s_joined_level) := ⟨rfl, rfl, rfl, by decide +kernel, rfl, by decide +kernel, by decide +kernel⟩
theorem ok_joined_level {a_joined_level : Addr} {fd_joined_level : FuncData} {a_joined : Addr} {fd_joined : FuncData} {a_less : Addr} {fd_less : FuncData} {a_minus : Addr} {fd_minus : FuncData} {a_plus : Addr} {fd_plus : FuncData} {a_times : Addr} {fd_times : FuncData} {a_whole_of : Addr} {fd_whole_of : FuncData} {a_made : Addr} {fd_made : FuncData} (F : Fun K "joined_level" "joined_level" s_joined_level a_joined_level fd_joined_level) (T : Tx K mg TC) (C_joined : Cl K mg "joined" a_joined fd_joined ["one", "other"]) (G_joined : FnOk P w K mg base (L2N.CX P w) 2 a_joined fd_joined ["one", "other"] (spV K TC (offT TBs) F_joined 2)) (C_less : Cl K mg "less" a_less fd_less ["one", "other"]) (G_less : FnOk P w K mg base (L2N.CX P w) 1 a_less fd_less ["one", "other"] (spV K TC (offT TBs) F_less 2)) (C_minus : Cl K mg "minus" a_minus fd_minus ["one", "other"]) (G_minus : FnOk P w K mg base (L2N.CX P w) 2 a_minus fd_minus ["one", "other"] (spV K TC (offT TBs) F_minus 2)) (C_plus : Cl K mg "plus" a_plus fd_plus ["one", "other"]) (G_plus : FnOk P w K mg base (L2N.CX P w) 2 a_plus fd_plus ["one", "other"] (spV K TC (offT TBs) F_plus 2)) (C_times : Cl K mg "times" a_times fd_times ["one", "other"]) (G_times : FnOk P w K mg base (L2N.CX P w) 2 a_times fd_times ["one", "other"] (spV K TC (offT TBs) F_times 2)) (C_whole_of : Cl K mg "whole_of" a_whole_of fd_whole_of ["bowl"]) (G_whole_of : FnOk P w K mg base (L2N.CX P w) 1 a_whole_of fd_whole_of ["bowl"] (spV K TC (offT TBs) F_whole_of 1)) (C_made : Cl K mg "made" a_made fd_made ["part", "whole"]) (G_made : FnOk P w K mg base (L2N.CX P w) 2 a_made fd_made ["part", "whole"] (spV K TC (offT TBs) F_made 2)) : FnOk P w K mg base (L2N.CX P w) 3 a_joined_level fd_joined_level ["one", "other", "volume"] (spV K TC (offT TBs) F_joined_level 3) :=
  fn_V F sc_joined_level rfl (by decide) fun cdv A outer s H E hr => by
    have hu := room_hu hr
    exact (ds_cons (ds_if ((dw_or (dt_val (d_callV G_less (hr.mono (by decide)) (L2N.takes_of rfl rfl rfl rfl) rfl C_less.g C_less.k C_less.b (d_cons (d_var 2) (d_cons (d_tup (d_cons d_int (d_cons d_int d_nil))) d_nil)) (len_cons (len_cons len_nil)))) (dw_or1 (dt_val (d_callV G_less (hr.mono (by decide)) (L2N.takes_of rfl rfl rfl rfl) rfl C_less.g C_less.k C_less.b (d_cons (d_tup (d_cons (d_op od_add (d_callV G_whole_of (hr.mono (by decide)) (L2N.takes_of rfl rfl rfl rfl) rfl C_whole_of.g C_whole_of.k C_whole_of.b (d_cons (d_var 0) d_nil) (len_cons len_nil)) (d_callV G_whole_of (hr.mono (by decide)) (L2N.takes_of rfl rfl rfl rfl) rfl C_whole_of.g C_whole_of.k C_whole_of.b (d_cons (d_var 1) d_nil) (len_cons len_nil))) (d_cons d_int d_nil))) (d_cons (d_var 2) d_nil)) (len_cons (len_cons len_nil))))))).dt
    (ds_one (ds_raise rfl (L2N.takes_of rfl rfl rfl rfl) T.r_OutOfRange))
    ds_nil)
    (ds_cons (ds_par2 (i := 3) (j := 4) rfl sc_joined_level.nd (dlo_val (d_var 2) (dlo_val d_int dlo_nil)) (lenO_cons (lenO_cons lenO_nil)) (by decide))
    (ds_cons (ds_for (passes_of rfl) rfl (di_seq (d_callV G_joined (hr.mono (by decide)) (L2N.takes_of rfl rfl rfl rfl) rfl C_joined.g C_joined.k C_joined.b (d_cons (d_var 0) (d_cons (d_var 1) d_nil)) (len_cons (len_cons len_nil)))) (dg_tup rfl (dgs_cons (dg_name 5 sc_joined_level.nd) (dgs_cons (dg_name 6 sc_joined_level.nd) dgs_nil)))
    (ds_cons (ds_set (i := 7) sc_joined_level.nd (d_tup (d_cons (d_op od_mul (d_var 5) (d_var 6)) (d_cons d_int d_nil))))
    (ds_cons (ds_if (dt_not (dt_val (d_callV G_less (hr.mono (by decide)) (L2N.takes_of rfl rfl rfl rfl) rfl C_less.g C_less.k C_less.b (d_cons (d_var 7) (d_cons (d_var 3) d_nil)) (len_cons (len_cons len_nil)))))
    (ds_one (ds_ret (d_callV G_plus (hr.mono (by decide)) (L2N.takes_of rfl rfl rfl rfl) rfl C_plus.g C_plus.k C_plus.b (d_cons (d_tup (d_cons (d_var 4) (d_cons d_int d_nil))) (d_cons (d_callV G_times (hr.mono (by decide)) (L2N.takes_of rfl rfl rfl rfl) rfl C_times.g C_times.k C_times.b (d_cons (d_var 3) (d_cons (d_callV G_made (hr.mono (by decide)) (L2N.takes_of rfl rfl rfl rfl) rfl C_made.g C_made.k C_made.b (d_cons d_int (d_cons (d_var 5) d_nil)) (len_cons (len_cons len_nil))) d_nil)) (len_cons (len_cons len_nil))) d_nil)) (len_cons (len_cons len_nil)))))
    ds_nil)
    (ds_cons (ds_set (i := 3) sc_joined_level.nd (d_callV G_minus (hr.mono (by decide)) (L2N.takes_of rfl rfl rfl rfl) rfl C_minus.g C_minus.k C_minus.b (d_cons (d_var 3) (d_cons (d_var 7) d_nil)) (len_cons (len_cons len_nil))))
    (ds_one (ds_aug (i := 4) sc_joined_level.nd (d_var 6) od_iadd))))))
    (ds_one (ds_ret (d_tup (d_cons (d_var 4) (d_cons d_int d_nil))))))))
theorem sc__law_word : FnScope ["error", "kinds", "one"] ["error"] (defScope s__law_word) := ⟨rfl, rfl, rfl, by decide +kernel, rfl, by decide +kernel, by decide +kernel⟩
theorem ok__law_word {a__law_word : Addr} {fd__law_word : FuncData} (F : Fun K "_law_word" "_law_word" s__law_word a__law_word fd__law_word) (T : Tx K mg TC) : FnE (offT TBs) P w K mg base TC 6 1 a__law_word fd__law_word ["error"] F__law_word :=
  fn_E F sc__law_word rfl (by decide) (by decide) fun cdv A outer s H p c hk hrH => by
    have hu := roomH_hu hrH
    exact (ds_cons (ds_set (i := 1) sc__law_word.nd ((df_lst (d_cons (d_isE hk T.cf (by decide : 1 < 6) T.e_OutOfRange (d_var 0) T.n_isinstance) (d_cons (d_isE hk T.cf (by decide : 4 < 6) T.e_Refused (d_var 0) T.n_isinstance) (d_cons (d_isE hk T.cf (by decide : 2 < 6) T.e_Malformed (d_var 0) T.n_isinstance) (d_cons (d_isE hk T.cf (by decide : 3 < 6) T.e_NotThere (d_var 0) T.n_isinstance) (d_cons (d_isE hk T.cf (by decide : 5 < 6) T.e_TooMuch (d_var 0) T.n_isinstance) d_nil))))))).e)
    (ds_cons (ds_if (dt_cmp (od_ne (hu64 hu)) (d_callB cd_len T.n_len (by decide +kernel) (d_cons ((df_lcH (own := [("one", 2)]) (HotK.c hk) sc__law_word.nd (di_listH (d_var 1)) (blkOk_by (by kernel_rfl)) (by decide) (fun s H C cl fp p hot => (dg_name 2 sc__law_word.nd)) (fun s H C cl fp p hot => (dts_one (dt_val (d_var 2)))) (fun s H C cl fp p hot => (d_var 2)))).e d_nil)) d_int)
    (ds_one (ds_ret d_str))
    ds_nil)
    (ds_one (ds_ret (d_ix ((df_lst (d_cons d_str (d_cons d_str (d_cons d_str (d_cons d_str (d_cons d_str d_nil))))))).e (d_metV PySem.F.plainAttrs_list PySem.F.slot_list_index PySem.F.type_list_index (mv_index (hu65 hu)) (by decide) (d_var 1) (d_cons d_bl d_nil)) (fun _ _ => rfl))))))
theorem sc_top_of : FnScope ["bowl", "_", "height"] ["bowl"] (defScope s_top_of) := ⟨rfl, rfl, rfl, by decide +kernel, rfl, by decide +kernel, by decide +kernel⟩
theorem ok_top_of {a_top_of : Addr} {fd_top_of : FuncData} (F : Fun K "top_of" "top_of" s_top_of a_top_of fd_top_of) (T : Tx K mg TC) : FnOk P w K mg base (L2N.CX P w) 1 a_top_of fd_top_of ["bowl"] (spV K TC (offT TBs) F_top_of 1) :=
  fn_V F sc_top_of rfl (by decide) fun cdv A outer s H E hr => by
    have hu := room_hu hr
    exact (ds_one (ds_ret (d_callB (cd_sum rfl) T.n_sum (by decide +kernel) (d_cons ((df_lc (own := [("_", 1), ("height", 2)]) rfl sc_top_of.nd (di_seq (d_var 0)) (blkOk_by (by kernel_rfl)) (by decide) (fun s H C cl fp => (dg_tup rfl (dgs_cons (dg_name 1 sc_top_of.nd) (dgs_cons (dg_name 2 sc_top_of.nd) dgs_nil)))) (fun s H C cl fp => dts_nil) (fun s H C cl fp => (d_var 2)))).e d_nil))))
theorem sc_volume_to : FnScope ["bowl", "level", "found", "below", "radius", "height", "full", "part"] ["bowl", "level"] (defScope s_volume_to) := ⟨rfl, rfl, rfl, by decide +kernel, rfl, by decide +kernel, by decide +kernel⟩
theorem ok_volume_to {a_volume_to : Addr} {fd_volume_to : FuncData} {a_less : Addr} {fd_less : FuncData} {a_minus : Addr} {fd_minus : FuncData} {a_plus : Addr} {fd_plus : FuncData} {a_times : Addr} {fd_times : FuncData} {a_top_of : Addr} {fd_top_of : FuncData} (F : Fun K "volume_to" "volume_to" s_volume_to a_volume_to fd_volume_to) (T : Tx K mg TC) (C_less : Cl K mg "less" a_less fd_less ["one", "other"]) (G_less : FnOk P w K mg base (L2N.CX P w) 1 a_less fd_less ["one", "other"] (spV K TC (offT TBs) F_less 2)) (C_minus : Cl K mg "minus" a_minus fd_minus ["one", "other"]) (G_minus : FnOk P w K mg base (L2N.CX P w) 2 a_minus fd_minus ["one", "other"] (spV K TC (offT TBs) F_minus 2)) (C_plus : Cl K mg "plus" a_plus fd_plus ["one", "other"]) (G_plus : FnOk P w K mg base (L2N.CX P w) 2 a_plus fd_plus ["one", "other"] (spV K TC (offT TBs) F_plus 2)) (C_times : Cl K mg "times" a_times fd_times ["one", "other"]) (G_times : FnOk P w K mg base (L2N.CX P w) 2 a_times fd_times ["one", "other"] (spV K TC (offT TBs) F_times 2)) (C_top_of : Cl K mg "top_of" a_top_of fd_top_of ["bowl"]) (G_top_of : FnOk P w K mg base (L2N.CX P w) 1 a_top_of fd_top_of ["bowl"] (spV K TC (offT TBs) F_top_of 1)) : FnOk P w K mg base (L2N.CX P w) 3 a_volume_to fd_volume_to ["bowl", "level"] (spV K TC (offT TBs) F_volume_to 2) :=
  fn_V F sc_volume_to rfl (by decide) fun cdv A outer s H E hr => by
    have hu := room_hu hr
    exact (ds_cons (ds_if ((dw_or (dt_val (d_callV G_less (hr.mono (by decide)) (L2N.takes_of rfl rfl rfl rfl) rfl C_less.g C_less.k C_less.b (d_cons (d_var 1) (d_cons (d_tup (d_cons d_int (d_cons d_int d_nil))) d_nil)) (len_cons (len_cons len_nil)))) (dw_or1 (dt_val (d_callV G_less (hr.mono (by decide)) (L2N.takes_of rfl rfl rfl rfl) rfl C_less.g C_less.k C_less.b (d_cons (d_tup (d_cons (d_callV G_top_of (hr.mono (by decide)) (L2N.takes_of rfl rfl rfl rfl) rfl C_top_of.g C_top_of.k C_top_of.b (d_cons (d_var 0) d_nil) (len_cons len_nil)) (d_cons d_int d_nil))) (d_cons (d_var 1) d_nil)) (len_cons (len_cons len_nil))))))).dt
    (ds_one (ds_raise rfl (L2N.takes_of rfl rfl rfl rfl) T.r_OutOfRange))
    ds_nil)
    (ds_cons (ds_asg (dg_tup rfl (dgs_cons (dg_name 2 sc_volume_to.nd) (dgs_cons (dg_name 3 sc_volume_to.nd) dgs_nil))) (d_tup (d_cons (d_tup (d_cons d_int (d_cons d_int d_nil))) (d_cons d_int d_nil))))
    (ds_cons (ds_for (passes_of rfl) rfl (di_seq (d_var 0)) (dg_tup rfl (dgs_cons (dg_name 4 sc_volume_to.nd) (dgs_cons (dg_name 5 sc_volume_to.nd) dgs_nil)))
    (ds_cons (ds_set (i := 6) sc_volume_to.nd (d_callV G_minus (hr.mono (by decide)) (L2N.takes_of rfl rfl rfl rfl) rfl C_minus.g C_minus.k C_minus.b (d_cons (d_var 1) (d_cons (d_tup (d_cons (d_var 3) (d_cons d_int d_nil))) d_nil)) (len_cons (len_cons len_nil))))
    (ds_cons (ds_set (i := 7) sc_volume_to.nd (d_ifE (dt_val (d_callV G_less (hr.mono (by decide)) (L2N.takes_of rfl rfl rfl rfl) rfl C_less.g C_less.k C_less.b (d_cons (d_var 6) (d_cons (d_tup (d_cons (d_var 5) (d_cons d_int d_nil))) d_nil)) (len_cons (len_cons len_nil)))) (d_var 6) (d_tup (d_cons (d_var 5) (d_cons d_int d_nil)))))
    (ds_cons (ds_if (dt_val (d_callV G_less (hr.mono (by decide)) (L2N.takes_of rfl rfl rfl rfl) rfl C_less.g C_less.k C_less.b (d_cons (d_tup (d_cons d_int (d_cons d_int d_nil))) (d_cons (d_var 7) d_nil)) (len_cons (len_cons len_nil))))
    (ds_one (ds_set (i := 2) sc_volume_to.nd (d_callV G_plus (hr.mono (by decide)) (L2N.takes_of rfl rfl rfl rfl) rfl C_plus.g C_plus.k C_plus.b (d_cons (d_var 2) (d_cons (d_callV G_times (hr.mono (by decide)) (L2N.takes_of rfl rfl rfl rfl) rfl C_times.g C_times.k C_times.b (d_cons (d_tup (d_cons (d_op od_mul (d_var 4) (d_var 4)) (d_cons d_int d_nil))) (d_cons (d_var 7) d_nil)) (len_cons (len_cons len_nil))) d_nil)) (len_cons (len_cons len_nil)))))
    ds_nil)
    (ds_one (ds_aug (i := 3) sc_volume_to.nd (d_var 5) od_iadd))))))
    (ds_one (ds_ret (d_var 2))))))
theorem sc_level_for : FnScope ["bowl", "volume", "left", "below", "radius", "height", "full"] ["bowl", "volume"] (defScope s_level_for) := ⟨rfl, rfl, rfl, by decide +kernel, rfl, by decide +kernel, by decide +kernel⟩
theorem ok_level_for {a_level_for : Addr} {fd_level_for : FuncData} {a_less : Addr} {fd_less : FuncData} {a_minus : Addr} {fd_minus : FuncData} {a_plus : Addr} {fd_plus : FuncData} {a_times : Addr} {fd_times : FuncData} {a_whole_of : Addr} {fd_whole_of : FuncData} {a_made : Addr} {fd_made : FuncData} (F : Fun K "level_for" "level_for" s_level_for a_level_for fd_level_for) (T : Tx K mg TC) (C_less : Cl K mg "less" a_less fd_less ["one", "other"]) (G_less : FnOk P w K mg base (L2N.CX P w) 1 a_less fd_less ["one", "other"] (spV K TC (offT TBs) F_less 2)) (C_minus : Cl K mg "minus" a_minus fd_minus ["one", "other"]) (G_minus : FnOk P w K mg base (L2N.CX P w) 2 a_minus fd_minus ["one", "other"] (spV K TC (offT TBs) F_minus 2)) (C_plus : Cl K mg "plus" a_plus fd_plus ["one", "other"]) (G_plus : FnOk P w K mg base (L2N.CX P w) 2 a_plus fd_plus ["one", "other"] (spV K TC (offT TBs) F_plus 2)) (C_times : Cl K mg "times" a_times fd_times ["one", "other"]) (G_times : FnOk P w K mg base (L2N.CX P w) 2 a_times fd_times ["one", "other"] (spV K TC (offT TBs) F_times 2)) (C_whole_of : Cl K mg "whole_of" a_whole_of fd_whole_of ["bowl"]) (G_whole_of : FnOk P w K mg base (L2N.CX P w) 1 a_whole_of fd_whole_of ["bowl"] (spV K TC (offT TBs) F_whole_of 1)) (C_made : Cl K mg "made" a_made fd_made ["part", "whole"]) (G_made : FnOk P w K mg base (L2N.CX P w) 2 a_made fd_made ["part", "whole"] (spV K TC (offT TBs) F_made 2)) : FnOk P w K mg base (L2N.CX P w) 3 a_level_for fd_level_for ["bowl", "volume"] (spV K TC (offT TBs) F_level_for 2) :=
  fn_V F sc_level_for rfl (by decide) fun cdv A outer s H E hr => by
    have hu := room_hu hr
    exact (ds_cons (ds_if ((dw_or (dt_val (d_callV G_less (hr.mono (by decide)) (L2N.takes_of rfl rfl rfl rfl) rfl C_less.g C_less.k C_less.b (d_cons (d_var 1) (d_cons (d_tup (d_cons d_int (d_cons d_int d_nil))) d_nil)) (len_cons (len_cons len_nil)))) (dw_or1 (dt_val (d_callV G_less (hr.mono (by decide)) (L2N.takes_of rfl rfl rfl rfl) rfl C_less.g C_less.k C_less.b (d_cons (d_tup (d_cons (d_callV G_whole_of (hr.mono (by decide)) (L2N.takes_of rfl rfl rfl rfl) rfl C_whole_of.g C_whole_of.k C_whole_of.b (d_cons (d_var 0) d_nil) (len_cons len_nil)) (d_cons d_int d_nil))) (d_cons (d_var 1) d_nil)) (len_cons (len_cons len_nil))))))).dt
    (ds_one (ds_raise rfl (L2N.takes_of rfl rfl rfl rfl) T.r_OutOfRange))
    ds_nil)
    (ds_cons (ds_par2 (i := 2) (j := 3) rfl sc_level_for.nd (dlo_val (d_var 1) (dlo_val d_int dlo_nil)) (lenO_cons (lenO_cons lenO_nil)) (by decide))
    (ds_cons (ds_for (passes_of rfl) rfl (di_seq (d_var 0)) (dg_tup rfl (dgs_cons (dg_name 4 sc_level_for.nd) (dgs_cons (dg_name 5 sc_level_for.nd) dgs_nil)))
    (ds_cons (ds_set (i := 6) sc_level_for.nd (d_tup (d_cons (d_op od_mul (d_op od_mul (d_var 4) (d_var 4)) (d_var 5)) (d_cons d_int d_nil))))
    (ds_cons (ds_if (dt_not (dt_val (d_callV G_less (hr.mono (by decide)) (L2N.takes_of rfl rfl rfl rfl) rfl C_less.g C_less.k C_less.b (d_cons (d_var 6) (d_cons (d_var 2) d_nil)) (len_cons (len_cons len_nil)))))
    (ds_one (ds_ret (d_callV G_plus (hr.mono (by decide)) (L2N.takes_of rfl rfl rfl rfl) rfl C_plus.g C_plus.k C_plus.b (d_cons (d_tup (d_cons (d_var 3) (d_cons d_int d_nil))) (d_cons (d_callV G_times (hr.mono (by decide)) (L2N.takes_of rfl rfl rfl rfl) rfl C_times.g C_times.k C_times.b (d_cons (d_var 2) (d_cons (d_callV G_made (hr.mono (by decide)) (L2N.takes_of rfl rfl rfl rfl) rfl C_made.g C_made.k C_made.b (d_cons d_int (d_cons (d_op od_mul (d_var 4) (d_var 4)) d_nil)) (len_cons (len_cons len_nil))) d_nil)) (len_cons (len_cons len_nil))) d_nil)) (len_cons (len_cons len_nil)))))
    ds_nil)
    (ds_cons (ds_set (i := 2) sc_level_for.nd (d_callV G_minus (hr.mono (by decide)) (L2N.takes_of rfl rfl rfl rfl) rfl C_minus.g C_minus.k C_minus.b (d_cons (d_var 2) (d_cons (d_var 6) d_nil)) (len_cons (len_cons len_nil))))
    (ds_one (ds_aug (i := 3) sc_level_for.nd (d_var 5) od_iadd))))))
    (ds_one (ds_ret (d_tup (d_cons (d_var 3) (d_cons d_int d_nil))))))))
theorem sc__law_told : FnScope ["which", "one", "other", "volume", "e"] ["which", "one", "other", "volume"] (defScope s__law_told) := ⟨rfl, rfl, rfl, by decide +kernel, rfl, by decide +kernel, by decide +kernel⟩
theorem ok__law_told {a__law_told : Addr} {fd__law_told : FuncData} {a_joined_level : Addr} {fd_joined_level : FuncData} {a__law_word : Addr} {fd__law_word : FuncData} {a_volume_to : Addr} {fd_volume_to : FuncData} {a_level_for : Addr} {fd_level_for : FuncData} (F : Fun K "_law_told" "_law_told" s__law_told a__law_told fd__law_told) (T : Tx K mg TC) (C_joined_level : Cl K mg "joined_level" a_joined_level fd_joined_level ["one", "other", "volume"]) (G_joined_level : FnOk P w K mg base (L2N.CX P w) 3 a_joined_level fd_joined_level ["one", "other", "volume"] (spV K TC (offT TBs) F_joined_level 3)) (C__law_word : Cl K mg "_law_word" a__law_word fd__law_word ["error"]) (G__law_word : FnE (offT TBs) P w K mg base TC 6 1 a__law_word fd__law_word ["error"] F__law_word) (C_volume_to : Cl K mg "volume_to" a_volume_to fd_volume_to ["bowl", "level"]) (G_volume_to : FnOk P w K mg base (L2N.CX P w) 3 a_volume_to fd_volume_to ["bowl", "level"] (spV K TC (offT TBs) F_volume_to 2)) (C_level_for : Cl K mg "level_for" a_level_for fd_level_for ["bowl", "volume"]) (G_level_for : FnOk P w K mg base (L2N.CX P w) 3 a_level_for fd_level_for ["bowl", "volume"] (spV K TC (offT TBs) F_level_for 2)) : FnOk P w K mg base (L2N.CX P w) 4 a__law_told fd__law_told ["which", "one", "other", "volume"] (spV K TC (offT TBs) F__law_told 4) :=
  fn_V F sc__law_told rfl (by decide) fun cdv A outer s H E hr => by
    have hu := room_hu hr
    exact (ds_one (ds_try (i := 4) rfl rfl sc__law_told.nd rfl rfl rfl T.cf (by decide) (by decide : 0 < 6) T.e_ShardError rfl (by decide) (L2N.takes_of rfl rfl rfl rfl)
    (fun V pn xe tk hp => (ds_one (ds_ret (d_ifE (dt_cmp (od_eq (hu64 hu)) (d_var 0) d_int) (d_callV G_joined_level (hr.mono (by decide)) tk rfl C_joined_level.g C_joined_level.k C_joined_level.b (d_cons (d_var 1) (d_cons (d_var 2) (d_cons (d_var 3) d_nil))) (len_cons (len_cons (len_cons len_nil)))) (d_pick G_volume_to (hr.mono (by decide)) tk rfl C_volume_to.g C_volume_to.k C_volume_to.b G_level_for (hr.mono (by decide)) C_level_for.g C_level_for.k C_level_for.b (d_var 0) (d_cons (d_var 1) (d_cons (d_var 3) d_nil)) (len_cons (len_cons len_nil)) (len_cons (len_cons len_nil)))))))
    (fun a oe k pn hk => (d_callE G__law_word (roomH_mark hr (by decide)) hk takesF C__law_word.g C__law_word.k C__law_word.b (d_cons (d_var 4) d_nil) (len_cons len_nil)))))
theorem sc__law_take : FnScope ["draws", "bound"] ["draws", "bound"] (defScope s__law_take) := ⟨rfl, rfl, rfl, by decide +kernel, rfl, by decide +kernel, by decide +kernel⟩
theorem ok__law_take {a__law_take : Addr} {fd__law_take : FuncData} (F : Fun K "_law_take" "_law_take" s__law_take a__law_take fd__law_take) (T : Tx K mg TC) : FnOk P w K mg base (L2N.CX P w) 1 a__law_take fd__law_take ["draws", "bound"] (spP K TC (offT TBs) F__law_take 2) :=
  fn_P F sc__law_take rfl (by decide) fun cdv A outer s H E hr => by
    have hu := room_hu hr
    exact (ds_cons (ds_if (dt_cmp (od_eq (hu64 hu)) (d_frz (d_callB cd_len T.n_len (by decide +kernel) (d_cons (d_var 0) d_nil))) d_int)
    (ds_one (ds_ret d_int))
    ds_nil)
    (ds_one (ds_ret (d_op od_mod (d_callTy cd_int T.n_int (by decide +kernel) (d_cons (d_meth0 (i := 0) PySem.F.plainAttrs_list PySem.F.slot_list_pop PySem.F.type_list_pop md_pop) d_nil)) (d_var 1)))))
theorem sc__law_bowl : FnScope ["draws", "ring"] ["draws"] (defScope s__law_bowl) := ⟨rfl, rfl, rfl, by decide +kernel, rfl, by decide +kernel, by decide +kernel⟩
theorem ok__law_bowl {a__law_bowl : Addr} {fd__law_bowl : FuncData} {a__law_take : Addr} {fd__law_take : FuncData} (F : Fun K "_law_bowl" "_law_bowl" s__law_bowl a__law_bowl fd__law_bowl) (T : Tx K mg TC) (C__law_take : Cl K mg "_law_take" a__law_take fd__law_take ["draws", "bound"]) (G__law_take : FnOk P w K mg base (L2N.CX P w) 1 a__law_take fd__law_take ["draws", "bound"] (spP K TC (offT TBs) F__law_take 2)) : FnOk P w K mg base (L2N.CX P w) 2 a__law_bowl fd__law_bowl ["draws"] (spP K TC (offT TBs) F__law_bowl 1) :=
  fn_P F sc__law_bowl rfl (by decide) fun cdv A outer s H E hr => by
    have hu := room_hu hr
    exact (ds_one (ds_ret (d_callTy cd_tuple T.n_tuple (by decide +kernel) (d_cons ((df_lc (own := [("ring", 1)]) rfl sc__law_bowl.nd (di_range1 T.n_range (d_cons (d_op od_add d_int (d_callP (i := 0) G__law_take (hr.mono (by decide)) (L2N.takes_of rfl rfl rfl rfl) rfl C__law_take.g C__law_take.k C__law_take.b (d_cons d_int d_nil) (len_cons len_nil))) d_nil)) (blkOk_by (by kernel_rfl)) (by decide) (fun s H C cl fp => (dg_name 1 sc__law_bowl.nd)) (fun s H C cl fp => dts_nil) (fun s H C cl fp => (d_tup (d_cons (d_op od_add d_int (d_callP (i := 0) G__law_take (hr.mono (by decide)) takesF rfl C__law_take.g C__law_take.k C__law_take.b (d_cons (d_ix ((df_lst (d_cons d_int (d_cons d_int d_nil)))).e (d_callP (i := 0) G__law_take (hr.mono (by decide)) takesF rfl C__law_take.g C__law_take.k C__law_take.b (d_cons d_int d_nil) (len_cons len_nil)) (fun _ _ => rfl)) d_nil) (len_cons len_nil))) (d_cons (d_op od_add d_int (d_callP (i := 0) G__law_take (hr.mono (by decide)) takesF rfl C__law_take.g C__law_take.k C__law_take.b (d_cons (d_ix ((df_lst (d_cons d_int (d_cons d_int d_nil)))).e (d_callP (i := 0) G__law_take (hr.mono (by decide)) takesF rfl C__law_take.g C__law_take.k C__law_take.b (d_cons d_int d_nil) (len_cons len_nil)) (fun _ _ => rfl)) d_nil) (len_cons len_nil))) d_nil)))))).e d_nil))))
theorem sc__law_says : FnScope ["told", "due"] ["told", "due"] (defScope s__law_says) := ⟨rfl, rfl, rfl, by decide +kernel, rfl, by decide +kernel, by decide +kernel⟩
theorem ok__law_says {a__law_says : Addr} {fd__law_says : FuncData} (F : Fun K "_law_says" "_law_says" s__law_says a__law_says fd__law_says) (T : Tx K mg TC) : FnOk P w K mg base (L2N.CX P w) 1 a__law_says fd__law_says ["told", "due"] (spV K TC (offT TBs) F__law_says 2) :=
  fn_V F sc__law_says rfl (by decide) fun cdv A outer s H E hr => by
    have hu := room_hu hr
    exact (ds_one (ds_ret (d_and (d_isi (T := "bool") (d_var 0) T.n_isinstance T.n_bool (by decide +kernel)) (d_one (d_cmp (od_eq (hu64 hu)) (d_var 0) (d_var 1))))))
theorem sc__law_alike : FnScope ["found", "due", "k"] ["found", "due"] (defScope s__law_alike) := ⟨rfl, rfl, rfl, by decide +kernel, rfl, by decide +kernel, by decide +kernel⟩
theorem okR__law_alike {a__law_alike : Addr} {fd__law_alike : FuncData} (F : Fun K "_law_alike" "_law_alike" s__law_alike a__law_alike fd__law_alike) (T : Tx K mg TC) (C__law_alike : Cl K mg "_law_alike" a__law_alike fd__law_alike ["found", "due"]) : ∀ k : Nat, FnOk P w K mg base (L2N.CX P w) (0 + k) a__law_alike fd__law_alike ["found", "due"] (spV K TC (offT TBs) (R__law_alike k) 2)
  | 0 => fn_bad
  | k + 1 => fn_V F sc__law_alike rfl (by decide) fun cdv A outer s H E hr => by
    have hu := room_hu hr
    have G_REC := okR__law_alike F T C__law_alike  k
    exact (ds_cons (ds_if ((dw_or (dt_val (d_isi (T := "list") (d_var 1) T.n_isinstance T.n_list (by decide +kernel))) (dw_or1 (dt_val (d_isi (T := "tuple") (d_var 1) T.n_isinstance T.n_tuple (by decide +kernel)))))).dt
    (ds_cons (ds_if ((dw_or (dt_cmp (od_ne (hu64 hu)) (d_isi (T := "list") (d_var 0) T.n_isinstance T.n_list (by decide +kernel)) (d_isi (T := "list") (d_var 1) T.n_isinstance T.n_list (by decide +kernel))) (dw_or1 (dt_cmp (od_ne (hu64 hu)) (d_isi (T := "tuple") (d_var 0) T.n_isinstance T.n_tuple (by decide +kernel)) (d_isi (T := "tuple") (d_var 1) T.n_isinstance T.n_tuple (by decide +kernel)))))).dt
    (ds_one (ds_ret d_bl))
    ds_nil)
    (ds_one (ds_ret (d_and (d_cmp (od_eq (hu64 hu)) (d_callB cd_len T.n_len (by decide +kernel) (d_cons (d_var 0) d_nil)) (d_callB cd_len T.n_len (by decide +kernel) (d_cons (d_var 1) d_nil))) (d_one (d_cmp (od_eq (hu64 hu)) ((df_lc (own := [("k", 2)]) rfl sc__law_alike.nd (di_range1 T.n_range (d_cons (d_callB cd_len T.n_len (by decide +kernel) (d_cons (d_var 1) d_nil)) d_nil)) (blkOk_by (by kernel_rfl)) (by decide) (fun s H C cl fp => (dg_name 2 sc__law_alike.nd)) (fun s H C cl fp => (dts_one (dt_not (dt_val (d_callV G_REC (hr.mono (by first | omega | (simp only [Nat.add_eq]; omega))) takesF rfl C__law_alike.g C__law_alike.k C__law_alike.b (d_cons (d_ix (d_var 0) (d_var 2) (fun _ _ => rfl)) (d_cons (d_ix (d_var 1) (d_var 2) (fun _ _ => rfl)) d_nil)) (len_cons (len_cons len_nil))))))) (fun s H C cl fp => (d_var 2)))).e ((df_lst d_nil)).e))))))
    ds_nil)
    (ds_cons (ds_if (dt_cmp od_isN (d_var 1) d_non)
    (ds_one (ds_ret (d_cmp od_isN (d_var 0) d_non)))
    ds_nil)
    (ds_cons (ds_if ((dw_or (dt_val (d_isi (T := "bool") (d_var 1) T.n_isinstance T.n_bool (by decide +kernel))) (dw_or1 (dt_val (d_isi (T := "bool") (d_var 0) T.n_isinstance T.n_bool (by decide +kernel)))))).dt
    (ds_one (ds_ret (d_and (d_isi (T := "bool") (d_var 0) T.n_isinstance T.n_bool (by decide +kernel)) (d_and (d_isi (T := "bool") (d_var 1) T.n_isinstance T.n_bool (by decide +kernel)) (d_one (d_cmp (od_eq (hu64 hu)) (d_var 0) (d_var 1)))))))
    ds_nil)
    (ds_cons (ds_if (dt_val (d_isi (T := "int") (d_var 1) T.n_isinstance T.n_int (by decide +kernel)))
    (ds_one (ds_ret (d_and (d_isi (T := "int") (d_var 0) T.n_isinstance T.n_int (by decide +kernel)) (d_one (d_cmp (od_eq (hu64 hu)) (d_var 0) (d_var 1))))))
    ds_nil)
    (ds_one (ds_ret (d_and (d_isi (T := "str") (d_var 0) T.n_isinstance T.n_str (by decide +kernel)) (d_one (d_cmp (od_eq (hu64 hu)) (d_var 0) (d_var 1))))))))))
theorem ok__law_alike {a__law_alike : Addr} {fd__law_alike : FuncData} (F : Fun K "_law_alike" "_law_alike" s__law_alike a__law_alike fd__law_alike) (T : Tx K mg TC) (C__law_alike : Cl K mg "_law_alike" a__law_alike fd__law_alike ["found", "due"]) : FnOk P w K mg base (L2N.CX P w) 6 a__law_alike fd__law_alike ["found", "due"] (spV K TC (offT TBs) F__law_alike 2) := okR__law_alike F T C__law_alike  6
theorem sc_is_number : FnScope ["value", "least", "most"] ["value", "least", "most"] (defScope s_is_number) := ⟨rfl, rfl, rfl, by decide +kernel, rfl, by decide +kernel, by decide +kernel⟩
theorem ok_is_number {a_is_number : Addr} {fd_is_number : FuncData} (F : Fun K "is_number" "is_number" s_is_number a_is_number fd_is_number) (T : Tx K mg TC) : FnOk P w K mg base (L2N.CX P w) 1 a_is_number fd_is_number ["value", "least", "most"] (spV K TC (offT TBs) F_is_number 3) :=
  fn_V F sc_is_number rfl (by decide) fun cdv A outer s H E hr => by
    have hu := room_hu hr
    exact (ds_one (ds_ret (d_and (d_isi (T := "int") (d_var 0) T.n_isinstance T.n_int (by decide +kernel)) (d_and (d_not (d_isi (T := "bool") (d_var 0) T.n_isinstance T.n_bool (by decide +kernel))) (d_one (d_chain (od_le (hu64 hu)) (od_le (hu64 hu)) (d_var 1) (d_var 0) (d_var 2)))))))
theorem sc_is_ring : FnScope ["value"] ["value"] (defScope s_is_ring) := ⟨rfl, rfl, rfl, by decide +kernel, rfl, by decide +kernel, by decide +kernel⟩
theorem ok_is_ring {a_is_ring : Addr} {fd_is_ring : FuncData} {a_is_number : Addr} {fd_is_number : FuncData} (F : Fun K "is_ring" "is_ring" s_is_ring a_is_ring fd_is_ring) (T : Tx K mg TC) (C_is_number : Cl K mg "is_number" a_is_number fd_is_number ["value", "least", "most"]) (G_is_number : FnOk P w K mg base (L2N.CX P w) 1 a_is_number fd_is_number ["value", "least", "most"] (spV K TC (offT TBs) F_is_number 3)) : FnOk P w K mg base (L2N.CX P w) 2 a_is_ring fd_is_ring ["value"] (spV K TC (offT TBs) F_is_ring 1) :=
  fn_V F sc_is_ring rfl (by decide) fun cdv A outer s H E hr => by
    have hu := room_hu hr
    exact (ds_cons (ds_if ((dw_or (dt_not (dt_val (d_isi (T := "tuple") (d_var 0) T.n_isinstance T.n_tuple (by decide +kernel)))) (dw_or1 (dt_cmp (od_ne (hu64 hu)) (d_callB cd_len T.n_len (by decide +kernel) (d_cons (d_var 0) d_nil)) d_int)))).dt
    (ds_one (ds_ret d_bl))
    ds_nil)
    (ds_one (ds_ret (d_and (d_callV G_is_number (hr.mono (by decide)) (L2N.takes_of rfl rfl rfl rfl) rfl C_is_number.g C_is_number.k C_is_number.b (d_cons (d_ix (d_var 0) d_int (fun _ _ => rfl)) (d_cons d_int (d_cons (d_globI T.c_MOST_RADIUS) d_nil))) (len_cons (len_cons (len_cons len_nil)))) (d_one (d_callV G_is_number (hr.mono (by decide)) (L2N.takes_of rfl rfl rfl rfl) rfl C_is_number.g C_is_number.k C_is_number.b (d_cons (d_ix (d_var 0) d_int (fun _ _ => rfl)) (d_cons d_int (d_cons (d_globI T.c_MOST_HEIGHT) d_nil))) (len_cons (len_cons (len_cons len_nil)))))))))
theorem sc_is_bowl : FnScope ["value", "one"] ["value"] (defScope s_is_bowl) := ⟨rfl, rfl, rfl, by decide +kernel, rfl, by decide +kernel, by decide +kernel⟩
theorem ok_is_bowl {a_is_bowl : Addr} {fd_is_bowl : FuncData} {a_is_ring : Addr} {fd_is_ring : FuncData} {c_is_bowl P_is_bowl : Addr} (F : FunC K "is_bowl" "is_bowl" s_is_bowl a_is_bowl fd_is_bowl c_is_bowl) (T : Tx K mg TC) (TB_is_bowl : GxR.TabB base mg c_is_bowl P_is_bowl) (hT_is_bowl : TBs P_is_bowl) (C_is_ring : Cl K mg "is_ring" a_is_ring fd_is_ring ["value"]) (G_is_ring : FnOk P w K mg base (L2N.CX P w) 2 a_is_ring fd_is_ring ["value"] (spV K TC (offT TBs) F_is_ring 1)) : FnOk P w K mg base (L2N.CX P w) 4 a_is_bowl fd_is_bowl ["value"] (spV K TC (offT TBs) F_is_bowl 1) :=
  fn_Vc F sc_is_bowl rfl (by decide) fun A outer s H E hr => by
    have hu := room_hu hr
    exact (ds_one (ds_ret (d_and (d_isi (T := "tuple") (d_var 0) T.n_isinstance T.n_tuple (by decide +kernel)) (d_and (d_chain (od_le (hu64 hu)) (od_le (hu64 hu)) d_int (d_callB cd_len T.n_len (by decide +kernel) (d_cons (d_var 0) d_nil)) (d_globI T.c_MOST_RINGS)) (d_one (d_allG (k := 2) (own := [("one", 1)]) (hr.mono (by decide)) T.n_all TB_is_bowl rfl (by exact .inr ⟨rfl, hT_is_bowl⟩) ⟨blkOk_by (by kernel_rfl), rfl, by decide +kernel, rfl⟩ sc_is_bowl.nd rfl (di_seq (d_var 0)) (by decide) (fun A s H cl C code fp pn hrA => have huA := room_hu hrA; (dg_name 1 sc_is_bowl.nd)) (fun A s H cl C code fp pn hrA => have huA := room_hu hrA; dts_nil) (fun A s H cl C code fp pn hrA => have huA := room_hu hrA; (d_callV G_is_ring (hrA.mono (by decide)) takesF rfl C_is_ring.g C_is_ring.k C_is_ring.b (d_cons (d_var 1) d_nil) (len_cons len_nil)))))))))
theorem sc__law_is_part : FnScope ["value", "one"] ["value"] (defScope s__law_is_part) := ⟨rfl, rfl, rfl, by decide +kernel, rfl, by decide +kernel, by decide +kernel⟩
theorem ok__law_is_part {a__law_is_part : Addr} {fd__law_is_part : FuncData} {a__law_gcd : Addr} {fd__law_gcd : FuncData} (F : Fun K "_law_is_part" "_law_is_part" s__law_is_part a__law_is_part fd__law_is_part) (T : Tx K mg TC) (C__law_gcd : Cl K mg "_law_gcd" a__law_gcd fd__law_gcd ["one", "other"]) (G__law_gcd : FnOk P w K mg base (L2N.CX P w) 1 a__law_gcd fd__law_gcd ["one", "other"] (spV K TC (offT TBs) F__law_gcd 2)) : FnOk P w K mg base (L2N.CX P w) 2 a__law_is_part fd__law_is_part ["value"] (spV K TC (offT TBs) F__law_is_part 1) :=
  fn_V F sc__law_is_part rfl (by decide) fun cdv A outer s H E hr => by
    have hu := room_hu hr
    exact (ds_cons (ds_if ((dw_or (dt_not (dt_val (d_isi (T := "tuple") (d_var 0) T.n_isinstance T.n_tuple (by decide +kernel)))) (dw_or (dt_cmp (od_ne (hu64 hu)) (d_callB cd_len T.n_len (by decide +kernel) (d_cons (d_var 0) d_nil)) d_int) (dw_or1 (dt_cmp (od_ne (hu64 hu)) ((df_lc (own := [("one", 1)]) rfl sc__law_is_part.nd (di_seq (d_var 0)) (blkOk_by (by kernel_rfl)) (by decide) (fun s H C cl fp => (dg_name 1 sc__law_is_part.nd)) (fun s H C cl fp => (dts_one ((dw_or (dt_not (dt_val (d_isi (T := "int") (d_var 1) T.n_isinstance T.n_int (by decide +kernel)))) (dw_or1 (dt_val (d_isi (T := "bool") (d_var 1) T.n_isinstance T.n_bool (by decide +kernel)))))).dt)) (fun s H C cl fp => (d_var 1)))).e ((df_lst d_nil)).e))))).dt
    (ds_one (ds_ret d_bl))
    ds_nil)
    (ds_one (ds_ret (d_and (d_cmp (od_gt (hu64 hu)) (d_ix (d_var 0) d_int (fun _ _ => rfl)) d_int) (d_one (d_cmp (od_eq (hu64 hu)) (d_callV G__law_gcd (hr.mono (by decide)) (L2N.takes_of rfl rfl rfl rfl) rfl C__law_gcd.g C__law_gcd.k C__law_gcd.b (d_cons (d_ix (d_var 0) d_int (fun _ _ => rfl)) (d_cons (d_ix (d_var 0) d_int (fun _ _ => rfl)) d_nil)) (len_cons (len_cons len_nil))) d_int))))))
theorem sc_law : FnScope ["script", "draws", "turn", "bowl", "other", "top", "whole", "parts", "level", "due", "volume", "told", "more", "wide", "high", "both", "words", "odd", "value", "radius", "height", "one"] ["script"] (defScope s_law) := ⟨rfl, rfl, rfl, by decide +kernel, rfl, by decide +kernel, by decide +kernel⟩
theorem ok_law {a_law : Addr} {fd_law : FuncData} {a__law_draws : Addr} {fd__law_draws : FuncData} {a__law_part : Addr} {fd__law_part : FuncData} {a__law_plus : Addr} {fd__law_plus : FuncData} {a__law_less : Addr} {fd__law_less : FuncData} {a__law_volume : Addr} {fd__law_volume : FuncData} {a__law_told : Addr} {fd__law_told : FuncData} {a__law_take : Addr} {fd__law_take : FuncData} {a__law_bowl : Addr} {fd__law_bowl : FuncData} {a__law_says : Addr} {fd__law_says : FuncData} {a__law_alike : Addr} {fd__law_alike : FuncData} {a_is_bowl : Addr} {fd_is_bowl : FuncData} {a__law_is_part : Addr} {fd__law_is_part : FuncData} (F : Fun K "law" "law" s_law a_law fd_law) (T : Tx K mg TC) (C__law_draws : Cl K mg "_law_draws" a__law_draws fd__law_draws ["script"]) (G__law_draws : FnOk P w K mg base (L2N.CX P w) 1 a__law_draws fd__law_draws ["script"] (spV K TC (offT TBs) F__law_draws 1)) (C__law_part : Cl K mg "_law_part" a__law_part fd__law_part ["one", "other"]) (G__law_part : FnOk P w K mg base (L2N.CX P w) 2 a__law_part fd__law_part ["one", "other"] (spV K TC (offT TBs) F__law_part 2)) (C__law_plus : Cl K mg "_law_plus" a__law_plus fd__law_plus ["one", "other"]) (G__law_plus : FnOk P w K mg base (L2N.CX P w) 3 a__law_plus fd__law_plus ["one", "other"] (spV K TC (offT TBs) F__law_plus 2)) (C__law_less : Cl K mg "_law_less" a__law_less fd__law_less ["one", "other"]) (G__law_less : FnOk P w K mg base (L2N.CX P w) 1 a__law_less fd__law_less ["one", "other"] (spV K TC (offT TBs) F__law_less 2)) (C__law_volume : Cl K mg "_law_volume" a__law_volume fd__law_volume ["bowl", "level"]) (G__law_volume : FnOk P w K mg base (L2N.CX P w) 4 a__law_volume fd__law_volume ["bowl", "level"] (spV K TC (offT TBs) F__law_volume 2)) (C__law_told : Cl K mg "_law_told" a__law_told fd__law_told ["which", "one", "other", "volume"]) (G__law_told : FnOk P w K mg base (L2N.CX P w) 4 a__law_told fd__law_told ["which", "one", "other", "volume"] (spV K TC (offT TBs) F__law_told 4)) (C__law_take : Cl K mg "_law_take" a__law_take fd__law_take ["draws", "bound"]) (G__law_take : FnOk P w K mg base (L2N.CX P w) 1 a__law_take fd__law_take ["draws", "bound"] (spP K TC (offT TBs) F__law_take 2)) (C__law_bowl : Cl K mg "_law_bowl" a__law_bowl fd__law_bowl ["draws"]) (G__law_bowl : FnOk P w K mg base (L2N.CX P w) 2 a__law_bowl fd__law_bowl ["draws"] (spP K TC (offT TBs) F__law_bowl 1)) (C__law_says : Cl K mg "_law_says" a__law_says fd__law_says ["told", "due"]) (G__law_says : FnOk P w K mg base (L2N.CX P w) 1 a__law_says fd__law_says ["told", "due"] (spV K TC (offT TBs) F__law_says 2)) (C__law_alike : Cl K mg "_law_alike" a__law_alike fd__law_alike ["found", "due"]) (G__law_alike : FnOk P w K mg base (L2N.CX P w) 6 a__law_alike fd__law_alike ["found", "due"] (spV K TC (offT TBs) F__law_alike 2)) (C_is_bowl : Cl K mg "is_bowl" a_is_bowl fd_is_bowl ["value"]) (G_is_bowl : FnOk P w K mg base (L2N.CX P w) 4 a_is_bowl fd_is_bowl ["value"] (spV K TC (offT TBs) F_is_bowl 1)) (C__law_is_part : Cl K mg "_law_is_part" a__law_is_part fd__law_is_part ["value"]) (G__law_is_part : FnOk P w K mg base (L2N.CX P w) 2 a__law_is_part fd__law_is_part ["value"] (spV K TC (offT TBs) F__law_is_part 1)) : FnOk P w K mg base (L2N.CX P w) 7 a_law fd_law ["script"] (spV K TC (offT TBs) F_law 1) :=
  fn_V F sc_law rfl (by decide) fun cdv A outer s H E hr => by
    have hu := room_hu hr
    exact (ds_cons (ds_setOwn (i := 1) sc_law.nd (df_callO G__law_draws (hr.mono (by decide)) (L2N.takes_of rfl rfl rfl rfl) rfl C__law_draws.g C__law_draws.k C__law_draws.b (d_cons (d_var 0) d_nil) (len_cons len_nil)))
    (ds_cons (ds_for (passes_of rfl) rfl (di_range1 T.n_range (d_cons d_int d_nil)) (dg_name 2 sc_law.nd)
    (ds_cons (ds_asg (dg_tup rfl (dgs_cons (dg_name 3 sc_law.nd) (dgs_cons (dg_name 4 sc_law.nd) dgs_nil))) (d_tup (d_cons (d_callP (i := 1) G__law_bowl (hr.mono (by decide)) (L2N.takes_of rfl rfl rfl rfl) rfl C__law_bowl.g C__law_bowl.k C__law_bowl.b d_nil len_nil) (d_cons (d_callP (i := 1) G__law_bowl (hr.mono (by decide)) (L2N.takes_of rfl rfl rfl rfl) rfl C__law_bowl.g C__law_bowl.k C__law_bowl.b d_nil len_nil) d_nil))))
    (ds_cons (ds_if (dt_not (dt_val (d_callV G__law_says (hr.mono (by decide)) (L2N.takes_of rfl rfl rfl rfl) rfl C__law_says.g C__law_says.k C__law_says.b (d_cons (d_callV G_is_bowl (hr.mono (by decide)) (L2N.takes_of rfl rfl rfl rfl) rfl C_is_bowl.g C_is_bowl.k C_is_bowl.b (d_cons (d_var 3) d_nil) (len_cons len_nil)) (d_cons d_bl d_nil)) (len_cons (len_cons len_nil)))))
    (ds_one (ds_ret d_bl))
    ds_nil)
    (ds_cons (ds_par2 (i := 5) (j := 6) rfl sc_law.nd (dlo_val (d_callB (cd_sum rfl) T.n_sum (by decide +kernel) (d_cons ((df_lc (own := [("radius", 19), ("height", 20)]) rfl sc_law.nd (di_seq (d_var 3)) (blkOk_by (by kernel_rfl)) (by decide) (fun s H C cl fp => (dg_tup rfl (dgs_cons (dg_name 19 sc_law.nd) (dgs_cons (dg_name 20 sc_law.nd) dgs_nil)))) (fun s H C cl fp => dts_nil) (fun s H C cl fp => (d_var 20)))).e d_nil)) (dlo_val (d_callB (cd_sum rfl) T.n_sum (by decide +kernel) (d_cons ((df_lc (own := [("radius", 19), ("height", 20)]) rfl sc_law.nd (di_seq (d_var 3)) (blkOk_by (by kernel_rfl)) (by decide) (fun s H C cl fp => (dg_tup rfl (dgs_cons (dg_name 19 sc_law.nd) (dgs_cons (dg_name 20 sc_law.nd) dgs_nil)))) (fun s H C cl fp => dts_nil) (fun s H C cl fp => (d_op od_mul (d_op od_mul (d_var 19) (d_var 19)) (d_var 20))))).e d_nil)) dlo_nil)) (lenO_cons (lenO_cons lenO_nil)) (by decide))
    (ds_cons (ds_set (i := 7) sc_law.nd (d_op od_add d_int (d_callP (i := 1) G__law_take (hr.mono (by decide)) (L2N.takes_of rfl rfl rfl rfl) rfl C__law_take.g C__law_take.k C__law_take.b (d_cons (d_ix ((df_lst (d_cons d_int (d_cons d_int d_nil)))).e (d_callP (i := 1) G__law_take (hr.mono (by decide)) (L2N.takes_of rfl rfl rfl rfl) rfl C__law_take.g C__law_take.k C__law_take.b (d_cons d_int d_nil) (len_cons len_nil)) (fun _ _ => rfl)) d_nil) (len_cons len_nil))))
    (ds_cons (ds_set (i := 8) sc_law.nd (d_callV G__law_part (hr.mono (by decide)) (L2N.takes_of rfl rfl rfl rfl) rfl C__law_part.g C__law_part.k C__law_part.b (d_cons (d_callP (i := 1) G__law_take (hr.mono (by decide)) (L2N.takes_of rfl rfl rfl rfl) rfl C__law_take.g C__law_take.k C__law_take.b (d_cons (d_op od_add (d_op od_mul (d_var 5) (d_var 7)) d_int) d_nil) (len_cons len_nil)) (d_cons (d_var 7) d_nil)) (len_cons (len_cons len_nil))))
    (ds_cons (ds_set (i := 9) sc_law.nd (d_callV G__law_volume (hr.mono (by decide)) (L2N.takes_of rfl rfl rfl rfl) rfl C__law_volume.g C__law_volume.k C__law_volume.b (d_cons (d_var 3) (d_cons (d_var 8) d_nil)) (len_cons (len_cons len_nil))))
    (ds_cons (ds_if (dt_not (dt_val (d_callV G__law_alike (hr.mono (by decide)) (L2N.takes_of rfl rfl rfl rfl) rfl C__law_alike.g C__law_alike.k C__law_alike.b (d_cons ((df_lst (d_cons (d_callV G__law_told (hr.mono (by decide)) (L2N.takes_of rfl rfl rfl rfl) rfl C__law_told.g C__law_told.k C__law_told.b (d_cons d_int (d_cons (d_var 3) (d_cons d_non (d_cons (d_var 8) d_nil)))) (len_cons (len_cons (len_cons (len_cons len_nil))))) (d_cons (d_callV G__law_told (hr.mono (by decide)) (L2N.takes_of rfl rfl rfl rfl) rfl C__law_told.g C__law_told.k C__law_told.b (d_cons d_int (d_cons (d_var 3) (d_cons d_non (d_cons (d_var 9) d_nil)))) (len_cons (len_cons (len_cons (len_cons len_nil))))) d_nil)))).e (d_cons ((df_lst (d_cons (d_var 9) (d_cons (d_var 8) d_nil)))).e d_nil)) (len_cons (len_cons len_nil)))))
    (ds_one (ds_ret d_bl))
    ds_nil)
    (ds_cons (ds_set (i := 10) sc_law.nd (d_callV G__law_part (hr.mono (by decide)) (L2N.takes_of rfl rfl rfl rfl) rfl C__law_part.g C__law_part.k C__law_part.b (d_cons (d_callP (i := 1) G__law_take (hr.mono (by decide)) (L2N.takes_of rfl rfl rfl rfl) rfl C__law_take.g C__law_take.k C__law_take.b (d_cons (d_op od_add (d_op od_mul (d_var 6) (d_var 7)) d_int) d_nil) (len_cons len_nil)) (d_cons (d_var 7) d_nil)) (len_cons (len_cons len_nil))))
    (ds_cons (ds_set (i := 11) sc_law.nd (d_callV G__law_told (hr.mono (by decide)) (L2N.takes_of rfl rfl rfl rfl) rfl C__law_told.g C__law_told.k C__law_told.b (d_cons d_int (d_cons (d_var 3) (d_cons d_non (d_cons (d_var 10) d_nil)))) (len_cons (len_cons (len_cons (len_cons len_nil))))))
    (ds_cons (ds_if ((dw_or (dt_not (dt_val (d_callV G__law_is_part (hr.mono (by decide)) (L2N.takes_of rfl rfl rfl rfl) rfl C__law_is_part.g C__law_is_part.k C__law_is_part.b (d_cons (d_var 11) d_nil) (len_cons len_nil)))) (dw_or (dt_cmp (od_ne (hu64 hu)) (d_callV G__law_volume (hr.mono (by decide)) (L2N.takes_of rfl rfl rfl rfl) rfl C__law_volume.g C__law_volume.k C__law_volume.b (d_cons (d_var 3) (d_cons (d_var 11) d_nil)) (len_cons (len_cons len_nil))) (d_var 10)) (dw_or (dt_cmp (od_lt (hu64 hu)) (d_ix (d_var 11) d_int (fun _ _ => rfl)) d_int) (dw_or1 (dt_val (d_callV G__law_less (hr.mono (by decide)) (L2N.takes_of rfl rfl rfl rfl) rfl C__law_less.g C__law_less.k C__law_less.b (d_cons (d_tup (d_cons (d_var 5) (d_cons d_int d_nil))) (d_cons (d_var 11) d_nil)) (len_cons (len_cons len_nil))))))))).dt
    (ds_one (ds_ret d_bl))
    ds_nil)
    (ds_cons (ds_set (i := 12) sc_law.nd (d_callV G__law_told (hr.mono (by decide)) (L2N.takes_of rfl rfl rfl rfl) rfl C__law_told.g C__law_told.k C__law_told.b (d_cons d_int (d_cons (d_var 3) (d_cons d_non (d_cons (d_callV G__law_part (hr.mono (by decide)) (L2N.takes_of rfl rfl rfl rfl) rfl C__law_part.g C__law_part.k C__law_part.b (d_cons (d_op od_add (d_ix (d_var 10) d_int (fun _ _ => rfl)) (d_op od_mul (d_var 6) (d_ix (d_var 10) d_int (fun _ _ => rfl)))) (d_cons (d_op od_mul d_int (d_ix (d_var 10) d_int (fun _ _ => rfl))) d_nil)) (len_cons (len_cons len_nil))) d_nil)))) (len_cons (len_cons (len_cons (len_cons len_nil))))))
    (ds_cons (ds_if ((dw_and (dt_val (d_callV G__law_less (hr.mono (by decide)) (L2N.takes_of rfl rfl rfl rfl) rfl C__law_less.g C__law_less.k C__law_less.b (d_cons (d_var 10) (d_cons (d_tup (d_cons (d_var 6) (d_cons d_int d_nil))) d_nil)) (len_cons (len_cons len_nil)))) (dw_and1 (dt_not (dt_val (d_callV G__law_less (hr.mono (by decide)) (L2N.takes_of rfl rfl rfl rfl) rfl C__law_less.g C__law_less.k C__law_less.b (d_cons (d_var 11) (d_cons (d_var 12) d_nil)) (len_cons (len_cons len_nil)))))))).dt
    (ds_one (ds_ret d_bl))
    ds_nil)
    (ds_cons (ds_set (i := 13) sc_law.nd (d_callTy cd_tuple T.n_tuple (by decide +kernel) (d_cons ((df_lc (own := [("radius", 19), ("height", 20)]) rfl sc_law.nd (di_seq (d_var 3)) (blkOk_by (by kernel_rfl)) (by decide) (fun s H C cl fp => (dg_tup rfl (dgs_cons (dg_name 19 sc_law.nd) (dgs_cons (dg_name 20 sc_law.nd) dgs_nil)))) (fun s H C cl fp => dts_nil) (fun s H C cl fp => (d_tup (d_cons (d_callB (cd_min2 rfl) T.n_min (by decide +kernel) (d_cons d_int (d_cons (d_op od_add (d_var 19) (d_callP (i := 1) G__law_take (hr.mono (by decide)) takesF rfl C__law_take.g C__law_take.k C__law_take.b (d_cons d_int d_nil) (len_cons len_nil))) d_nil))) (d_cons (d_var 20) d_nil)))))).e d_nil)))
    (ds_cons (ds_if (dt_val (d_callV G__law_less (hr.mono (by decide)) (L2N.takes_of rfl rfl rfl rfl) rfl C__law_less.g C__law_less.k C__law_less.b (d_cons (d_var 11) (d_cons (d_callV G__law_told (hr.mono (by decide)) (L2N.takes_of rfl rfl rfl rfl) rfl C__law_told.g C__law_told.k C__law_told.b (d_cons d_int (d_cons (d_var 13) (d_cons d_non (d_cons (d_var 10) d_nil)))) (len_cons (len_cons (len_cons (len_cons len_nil))))) d_nil)) (len_cons (len_cons len_nil))))
    (ds_one (ds_ret d_bl))
    ds_nil)
    (ds_cons (ds_if (dt_cmp (od_ne (hu64 hu)) ((df_lst (d_cons (d_callV G__law_told (hr.mono (by decide)) (L2N.takes_of rfl rfl rfl rfl) rfl C__law_told.g C__law_told.k C__law_told.b (d_cons d_int (d_cons (d_var 3) (d_cons d_non (d_cons (d_tup (d_cons d_int (d_cons d_int d_nil))) d_nil)))) (len_cons (len_cons (len_cons (len_cons len_nil))))) (d_cons (d_callV G__law_told (hr.mono (by decide)) (L2N.takes_of rfl rfl rfl rfl) rfl C__law_told.g C__law_told.k C__law_told.b (d_cons d_int (d_cons (d_var 3) (d_cons d_non (d_cons (d_tup (d_cons (d_var 6) (d_cons d_int d_nil))) d_nil)))) (len_cons (len_cons (len_cons (len_cons len_nil))))) (d_cons (d_callV G__law_told (hr.mono (by decide)) (L2N.takes_of rfl rfl rfl rfl) rfl C__law_told.g C__law_told.k C__law_told.b (d_cons d_int (d_cons (d_var 3) (d_cons d_non (d_cons (d_tup (d_cons (d_var 5) (d_cons d_int d_nil))) d_nil)))) (len_cons (len_cons (len_cons (len_cons len_nil))))) d_nil))))).e ((df_lst (d_cons (d_tup (d_cons d_int (d_cons d_int d_nil))) (d_cons (d_tup (d_cons (d_var 5) (d_cons d_int d_nil))) (d_cons (d_tup (d_cons (d_var 6) (d_cons d_int d_nil))) d_nil))))).e)
    (ds_one (ds_ret d_bl))
    ds_nil)
    (ds_cons (ds_set (i := 14) sc_law.nd (d_callB (cd_max2 rfl) T.n_max (by decide +kernel) (d_cons (d_var 5) (d_cons (d_callB (cd_sum rfl) T.n_sum (by decide +kernel) (d_cons ((df_lc (own := [("radius", 19), ("height", 20)]) rfl sc_law.nd (di_seq (d_var 4)) (blkOk_by (by kernel_rfl)) (by decide) (fun s H C cl fp => (dg_tup rfl (dgs_cons (dg_name 19 sc_law.nd) (dgs_cons (dg_name 20 sc_law.nd) dgs_nil)))) (fun s H C cl fp => dts_nil) (fun s H C cl fp => (d_var 20)))).e d_nil)) d_nil))))
    (ds_cons (ds_set (i := 15) sc_law.nd (d_op od_add (d_var 6) (d_callB (cd_sum rfl) T.n_sum (by decide +kernel) (d_cons ((df_lc (own := [("radius", 19), ("height", 20)]) rfl sc_law.nd (di_seq (d_var 4)) (blkOk_by (by kernel_rfl)) (by decide) (fun s H C cl fp => (dg_tup rfl (dgs_cons (dg_name 19 sc_law.nd) (dgs_cons (dg_name 20 sc_law.nd) dgs_nil)))) (fun s H C cl fp => dts_nil) (fun s H C cl fp => (d_op od_mul (d_op od_mul (d_var 19) (d_var 19)) (d_var 20))))).e d_nil))))
    (ds_cons (ds_set (i := 8) sc_law.nd (d_callV G__law_part (hr.mono (by decide)) (L2N.takes_of rfl rfl rfl rfl) rfl C__law_part.g C__law_part.k C__law_part.b (d_cons (d_callP (i := 1) G__law_take (hr.mono (by decide)) (L2N.takes_of rfl rfl rfl rfl) rfl C__law_take.g C__law_take.k C__law_take.b (d_cons (d_op od_add (d_op od_mul (d_var 14) (d_var 7)) d_int) d_nil) (len_cons len_nil)) (d_cons (d_var 7) d_nil)) (len_cons (len_cons len_nil))))
    (ds_cons (ds_set (i := 9) sc_law.nd (d_callV G__law_plus (hr.mono (by decide)) (L2N.takes_of rfl rfl rfl rfl) rfl C__law_plus.g C__law_plus.k C__law_plus.b (d_cons (d_callV G__law_volume (hr.mono (by decide)) (L2N.takes_of rfl rfl rfl rfl) rfl C__law_volume.g C__law_volume.k C__law_volume.b (d_cons (d_var 3) (d_cons (d_var 8) d_nil)) (len_cons (len_cons len_nil))) (d_cons (d_callV G__law_volume (hr.mono (by decide)) (L2N.takes_of rfl rfl rfl rfl) rfl C__law_volume.g C__law_volume.k C__law_volume.b (d_cons (d_var 4) (d_cons (d_var 8) d_nil)) (len_cons (len_cons len_nil))) d_nil)) (len_cons (len_cons len_nil))))
    (ds_cons (ds_if (dt_not (dt_val (d_callV G__law_alike (hr.mono (by decide)) (L2N.takes_of rfl rfl rfl rfl) rfl C__law_alike.g C__law_alike.k C__law_alike.b (d_cons ((df_lst (d_cons (d_callV G__law_told (hr.mono (by decide)) (L2N.takes_of rfl rfl rfl rfl) rfl C__law_told.g C__law_told.k C__law_told.b (d_cons d_int (d_cons (d_var 3) (d_cons (d_var 4) (d_cons (d_var 9) d_nil)))) (len_cons (len_cons (len_cons (len_cons len_nil))))) (d_cons (d_callV G__law_told (hr.mono (by decide)) (L2N.takes_of rfl rfl rfl rfl) rfl C__law_told.g C__law_told.k C__law_told.b (d_cons d_int (d_cons (d_var 4) (d_cons (d_var 3) (d_cons (d_var 9) d_nil)))) (len_cons (len_cons (len_cons (len_cons len_nil))))) d_nil)))).e (d_cons ((df_lst (d_cons (d_var 8) (d_cons (d_var 8) d_nil)))).e d_nil)) (len_cons (len_cons len_nil)))))
    (ds_one (ds_ret d_bl))
    ds_nil)
    (ds_cons (ds_set (i := 10) sc_law.nd (d_callV G__law_part (hr.mono (by decide)) (L2N.takes_of rfl rfl rfl rfl) rfl C__law_part.g C__law_part.k C__law_part.b (d_cons (d_callP (i := 1) G__law_take (hr.mono (by decide)) (L2N.takes_of rfl rfl rfl rfl) rfl C__law_take.g C__law_take.k C__law_take.b (d_cons (d_op od_add (d_op od_mul (d_var 15) (d_var 7)) d_int) d_nil) (len_cons len_nil)) (d_cons (d_var 7) d_nil)) (len_cons (len_cons len_nil))))
    (ds_cons (ds_set (i := 11) sc_law.nd (d_callV G__law_told (hr.mono (by decide)) (L2N.takes_of rfl rfl rfl rfl) rfl C__law_told.g C__law_told.k C__law_told.b (d_cons d_int (d_cons (d_var 3) (d_cons (d_var 4) (d_cons (d_var 10) d_nil)))) (len_cons (len_cons (len_cons (len_cons len_nil))))))
    (ds_cons (ds_if ((dw_or (dt_not (dt_val (d_callV G__law_is_part (hr.mono (by decide)) (L2N.takes_of rfl rfl rfl rfl) rfl C__law_is_part.g C__law_is_part.k C__law_is_part.b (d_cons (d_var 11) d_nil) (len_cons len_nil)))) (dw_or1 (dt_cmp (od_ne (hu64 hu)) (d_callV G__law_plus (hr.mono (by decide)) (L2N.takes_of rfl rfl rfl rfl) rfl C__law_plus.g C__law_plus.k C__law_plus.b (d_cons (d_callV G__law_volume (hr.mono (by decide)) (L2N.takes_of rfl rfl rfl rfl) rfl C__law_volume.g C__law_volume.k C__law_volume.b (d_cons (d_var 3) (d_cons (d_var 11) d_nil)) (len_cons (len_cons len_nil))) (d_cons (d_callV G__law_volume (hr.mono (by decide)) (L2N.takes_of rfl rfl rfl rfl) rfl C__law_volume.g C__law_volume.k C__law_volume.b (d_cons (d_var 4) (d_cons (d_var 11) d_nil)) (len_cons (len_cons len_nil))) d_nil)) (len_cons (len_cons len_nil))) (d_var 10))))).dt
    (ds_one (ds_ret d_bl))
    ds_nil)
    (ds_cons (ds_set (i := 16) sc_law.nd (d_op od_add ((df_lc (own := [("one", 21)]) rfl sc_law.nd (di_seq ((df_lst (d_cons (d_tup (d_cons (d_un od_neg d_int) (d_cons d_int d_nil))) (d_cons (d_tup (d_cons (d_op od_add (d_op od_mul d_int (d_var 5)) d_int) (d_cons d_int d_nil))) d_nil)))).e) (blkOk_by (by kernel_rfl)) (by decide) (fun s H C cl fp => (dg_name 21 sc_law.nd)) (fun s H C cl fp => dts_nil) (fun s H C cl fp => (d_callV G__law_told (hr.mono (by decide)) takesF rfl C__law_told.g C__law_told.k C__law_told.b (d_cons d_int (d_cons (d_var 3) (d_cons d_non (d_cons (d_var 21) d_nil)))) (len_cons (len_cons (len_cons (len_cons len_nil)))))))).e ((df_lc (own := [("one", 21)]) rfl sc_law.nd (di_seq ((df_lst (d_cons (d_tup (d_cons (d_un od_neg d_int) (d_cons d_int d_nil))) (d_cons (d_tup (d_cons (d_op od_add (d_op od_mul d_int (d_var 6)) d_int) (d_cons d_int d_nil))) d_nil)))).e) (blkOk_by (by kernel_rfl)) (by decide) (fun s H C cl fp => (dg_name 21 sc_law.nd)) (fun s H C cl fp => dts_nil) (fun s H C cl fp => (d_callV G__law_told (hr.mono (by decide)) takesF rfl C__law_told.g C__law_told.k C__law_told.b (d_cons d_int (d_cons (d_var 3) (d_cons d_non (d_cons (d_var 21) d_nil)))) (len_cons (len_cons (len_cons (len_cons len_nil)))))))).e))
    (ds_one (ds_if (dt_cmp (od_ne (hu64 hu)) (d_op od_add (d_var 16) ((df_lc (own := [("one", 21)]) rfl sc_law.nd (di_seq ((df_lst (d_cons (d_tup (d_cons (d_un od_neg d_int) (d_cons d_int d_nil))) (d_cons (d_tup (d_cons (d_op od_add (d_op od_mul d_int (d_var 15)) d_int) (d_cons d_int d_nil))) d_nil)))).e) (blkOk_by (by kernel_rfl)) (by decide) (fun s H C cl fp => (dg_name 21 sc_law.nd)) (fun s H C cl fp => dts_nil) (fun s H C cl fp => (d_callV G__law_told (hr.mono (by decide)) takesF rfl C__law_told.g C__law_told.k C__law_told.b (d_cons d_int (d_cons (d_var 3) (d_cons (d_var 4) (d_cons (d_var 21) d_nil)))) (len_cons (len_cons (len_cons (len_cons len_nil)))))))).e) ((df_rep (df_lst (d_cons d_str d_nil)) d_int)).e)
    (ds_one (ds_ret d_bl))
    ds_nil)))))))))))))))))))))))))))
    (dss_frz [1] (ds_cons (ds_set (i := 17) sc_law.nd ((df_lst (d_cons d_non (d_cons (d_callTy cd_list T.n_list (by decide +kernel) (d_cons (d_var 3) d_nil)) (d_cons (d_tup d_nil) (d_cons (d_op od_mul (d_slice (d_var 3) do_none (do_some d_int)) d_int) (d_cons (d_tup (d_cons d_non d_nil)) (d_cons (d_tup (d_cons ((df_lst (d_cons d_int (d_cons d_int d_nil)))).e d_nil)) (d_cons (d_tup (d_cons (d_tup (d_cons d_int d_nil)) d_nil)) (d_cons (d_tup (d_cons (d_tup (d_cons d_int (d_cons d_int (d_cons d_int d_nil)))) d_nil)) (d_cons (d_tup (d_cons (d_tup (d_cons d_int (d_cons d_int d_nil))) d_nil)) (d_cons (d_tup (d_cons (d_tup (d_cons d_int (d_cons d_int d_nil))) d_nil)) (d_cons (d_tup (d_cons (d_tup (d_cons d_int (d_cons d_int d_nil))) d_nil)) (d_cons (d_tup (d_cons (d_tup (d_cons d_int (d_cons d_int d_nil))) d_nil)) (d_cons (d_tup (d_cons (d_tup (d_cons d_bl (d_cons d_int d_nil))) d_nil)) (d_cons (d_tup (d_cons (d_tup (d_cons d_int (d_cons d_non d_nil))) d_nil)) d_nil)))))))))))))))).e)
    (ds_one (ds_ret (d_cmp (od_eq (hu64 hu)) ((df_lc (own := [("value", 18)]) rfl sc_law.nd (di_seq (d_var 17)) (blkOk_by (by kernel_rfl)) (by decide) (fun s H C cl fp => (dg_name 18 sc_law.nd)) (fun s H C cl fp => (dts_one (dt_cmp od_notB (d_callV G_is_bowl (hr.mono (by decide)) takesF rfl C_is_bowl.g C_is_bowl.k C_is_bowl.b (d_cons (d_var 18) d_nil) (len_cons len_nil)) d_bl))) (fun s H C cl fp => (d_var 18)))).e ((df_lst d_nil)).e)))))))
end
end K34
end
section
set_option Elab.async false
set_option linter.all false
set_option maxRecDepth 100000
set_option maxHeartbeats 1000000
/-! k34: bowls. Nothing of the program. -/
namespace K34
/-- rings: (square of the radius, height) -/
abbrev Rings := List (Nat × Nat)
def cl (t : Rat) (h : Nat) : Rat := if t ≤ 0 then 0 else if t < (h : Rat) then t else h
def vol : Rings → Rat → Rat
  | [], _ => 0
  | (s, h) :: r, t => (s : Rat) * cl t h + vol r (t - (h : Rat))
def tot : Rings → Nat
  | [] => 0
  | (_, h) :: r => h + tot r
def whole : Rings → Nat
  | [] => 0
  | (s, h) :: r => s * h + whole r
def lev : Rings → Rat → Rat
  | [], _ => 0
  | (s, h) :: r, v => if v ≤ ((s * h : Nat) : Rat) then v / (s : Rat) else (h : Rat) + lev r (v - ((s * h : Nat) : Rat))
def good (r : Rings) : Prop := ∀ p ∈ r, 0 < p.1 ∧ 0 < p.2
theorem good_cons {s h : Nat} {r : Rings} (g : good ((s, h) :: r)) : 0 < s ∧ 0 < h ∧ good r := ⟨(g (s, h) List.mem_cons_self).1, (g (s, h) List.mem_cons_self).2, fun p hp => g p (List.mem_cons_of_mem _ hp)⟩
theorem natR_pos {n : Nat} (h : 0 < n) : (0 : Rat) < (n : Rat) := by exact_mod_cast h
theorem natR_nonneg (n : Nat) : (0 : Rat) ≤ (n : Rat) := by exact_mod_cast Nat.zero_le n
theorem natR_mul (a b : Nat) : ((a * b : Nat) : Rat) = (a : Rat) * (b : Rat) := by push_cast; rfl
theorem natR_add (a b : Nat) : ((a + b : Nat) : Rat) = (a : Rat) + (b : Rat) := by push_cast; rfl
theorem cl_neg {t : Rat} {h : Nat} (ht : t ≤ 0) : cl t h = 0 := by unfold cl; rw [if_pos ht]
theorem cl_big {t : Rat} {h : Nat} (ht : (h : Rat) ≤ t) : cl t h = h := by
  have := natR_nonneg h
  unfold cl
  grind
theorem cl_mid {t : Rat} {h : Nat} (h0 : 0 ≤ t) (ht : t ≤ (h : Rat)) : cl t h = t := by
  unfold cl
  grind
theorem cl_mono {t u : Rat} {h : Nat} (htu : t ≤ u) : cl t h ≤ cl u h := by
  have := natR_nonneg h
  unfold cl
  grind
theorem cl_nonneg (t : Rat) (h : Nat) : 0 ≤ cl t h := by
  have := natR_nonneg h
  unfold cl
  grind
theorem mulR_mono {s : Nat} {a b : Rat} (h : a ≤ b) : (s : Rat) * a ≤ (s : Rat) * b := Rat.mul_le_mul_of_nonneg_left h (natR_nonneg s)
theorem vol_neg : ∀ {r : Rings} {t : Rat}, t ≤ 0 → vol r t = 0
  | [], _, _ => rfl
  | (s, h) :: r, t, ht => by
    have := natR_nonneg h
    have ih := vol_neg (r := r) (t := t - (h : Rat)) (by grind)
    show (s : Rat) * cl t h + vol r (t - (h : Rat)) = 0
    rw [ih, cl_neg ht]
    grind
theorem vol_mono : ∀ {r : Rings} {t u : Rat}, t ≤ u → vol r t ≤ vol r u
  | [], _, _, _ => Rat.le_refl
  | (s, h) :: r, t, u, htu => by
    have ih := vol_mono (r := r) (t := t - (h : Rat)) (u := u - (h : Rat)) (by grind)
    have := mulR_mono (s := s) (cl_mono (h := h) htu)
    show (s : Rat) * cl t h + vol r (t - (h : Rat)) ≤ (s : Rat) * cl u h + vol r (u - (h : Rat))
    grind
theorem vol_nonneg (r : Rings) (t : Rat) : 0 ≤ vol r t := by
  rcases Rat.le_total (a := t) (b := 0) with h | h
  · rw [vol_neg h]; exact Rat.le_refl
  · have := vol_mono (r := r) h
    rw [vol_neg Rat.le_refl] at this
    exact this
theorem vol_top : ∀ {r : Rings} {t : Rat}, (tot r : Rat) ≤ t → vol r t = whole r
  | [], _, _ => rfl
  | (s, h) :: r, t, ht => by
    have ht : ((h + tot r : Nat) : Rat) ≤ t := ht
    rw [natR_add] at ht
    have := natR_nonneg (tot r)
    have ih := vol_top (r := r) (t := t - (h : Rat)) (by grind)
    show (s : Rat) * cl t h + vol r (t - (h : Rat)) = ((s * h + whole r : Nat) : Rat)
    rw [ih, cl_big (by grind), natR_add, natR_mul]
theorem vol_le (r : Rings) (t : Rat) : vol r t ≤ whole r := by
  rcases Rat.le_total (a := t) (b := (tot r : Rat)) with h | h
  · have := vol_mono (r := r) h
    rw [vol_top Rat.le_refl] at this
    exact this
  · rw [vol_top h]; exact Rat.le_refl
theorem divR {s : Nat} (hs : 0 < s) (v : Rat) : (s : Rat) * (v / (s : Rat)) = v := by
  have := natR_pos hs
  have h0 : (s : Rat) ≠ 0 := by grind
  grind
theorem divR_le {s h : Nat} (hs : 0 < s) {v : Rat} (hv : v ≤ ((s * h : Nat) : Rat)) : v / (s : Rat) ≤ (h : Rat) := by
  have := natR_pos hs
  rcases Rat.le_total (a := v / (s : Rat)) (b := (h : Rat)) with c | c
  · exact c
  · have := mulR_mono (s := s) c
    rw [divR hs, ← natR_mul] at this
    have e : v = ((s * h : Nat) : Rat) := Rat.le_antisymm hv this
    rw [e, natR_mul]
    have h0 : (s : Rat) ≠ 0 := by grind
    have : (s : Rat) * (h : Rat) / (s : Rat) = (h : Rat) := by grind
    rw [this]
    exact Rat.le_refl
theorem divR_nonneg {s : Nat} (hs : 0 < s) {v : Rat} (hv : 0 ≤ v) : 0 ≤ v / (s : Rat) := by
  rcases Rat.le_total (a := 0) (b := v / (s : Rat)) with c | c
  · exact c
  · have := mulR_mono (s := s) c
    rw [divR hs] at this
    have e : v = 0 := by grind
    rw [e]
    have := natR_pos hs
    have : (0 : Rat) / (s : Rat) = 0 := by grind
    rw [this]
    exact Rat.le_refl
theorem lev_ok : ∀ {r : Rings} {v : Rat}, good r → 0 ≤ v → v ≤ (whole r : Rat) → 0 ≤ lev r v ∧ lev r v ≤ (tot r : Rat) ∧ vol r (lev r v) = v
  | [], v, _, h0, h1 => by
    have h1 : v ≤ ((0 : Nat) : Rat) := h1
    refine ⟨Rat.le_refl, Rat.le_refl, ?_⟩
    show (0 : Rat) = v
    have : ((0 : Nat) : Rat) = 0 := rfl
    grind
  | (s, h) :: r, v, g, h0, h1 => by
    obtain ⟨hs, hh, gr⟩ := good_cons g
    have h1 : v ≤ ((s * h + whole r : Nat) : Rat) := h1
    rw [natR_add] at h1
    have nt := natR_nonneg (tot r)
    have nh := natR_nonneg h
    show 0 ≤ (if v ≤ ((s * h : Nat) : Rat) then v / (s : Rat) else (h : Rat) + lev r (v - ((s * h : Nat) : Rat))) ∧ (if v ≤ ((s * h : Nat) : Rat) then v / (s : Rat) else (h : Rat) + lev r (v - ((s * h : Nat) : Rat))) ≤ ((h + tot r : Nat) : Rat) ∧ (s : Rat) * cl (if v ≤ ((s * h : Nat) : Rat) then v / (s : Rat) else (h : Rat) + lev r (v - ((s * h : Nat) : Rat))) h + vol r ((if v ≤ ((s * h : Nat) : Rat) then v / (s : Rat) else (h : Rat) + lev r (v - ((s * h : Nat) : Rat))) - (h : Rat)) = v
    rw [natR_add]
    by_cases c : v ≤ ((s * h : Nat) : Rat)
    · rw [if_pos c]
      have d1 := divR_nonneg hs h0
      have d2 := divR_le hs c
      refine ⟨d1, by grind, ?_⟩
      rw [cl_mid d1 d2, vol_neg (by grind), divR hs]
      grind
    · rw [if_neg c]
      obtain ⟨i1, i2, i3⟩ := lev_ok (r := r) (v := v - ((s * h : Nat) : Rat)) gr (by grind) (by grind)
      refine ⟨by grind, by grind, ?_⟩
      rw [cl_big (by grind), show (h : Rat) + lev r (v - ((s * h : Nat) : Rat)) - (h : Rat) = lev r (v - ((s * h : Nat) : Rat)) by grind, i3, natR_mul]
      grind
theorem lev_lt {r : Rings} {v u : Rat} (g : good r) (h0 : 0 ≤ v) (h : v < u) (h1 : u ≤ (whole r : Rat)) : lev r v < lev r u := by
  obtain ⟨_, _, a⟩ := lev_ok (v := v) g h0 (by grind)
  obtain ⟨_, _, b⟩ := lev_ok (v := u) g (by grind) h1
  rcases Rat.le_total (a := lev r u) (b := lev r v) with c | c
  · have := vol_mono (r := r) c
    rw [a, b] at this
    grind
  · by_cases e : lev r v = lev r u
    · rw [e] at a
      rw [a] at b
      grind
    · grind
theorem lev_le {r : Rings} {v u : Rat} (g : good r) (h0 : 0 ≤ v) (h : v ≤ u) (h1 : u ≤ (whole r : Rat)) : lev r v ≤ lev r u := by
  by_cases e : v = u
  · rw [e]; exact Rat.le_refl
  · exact Rat.le_of_lt (lev_lt g h0 (by grind) h1)
theorem mulR_pos {s : Nat} (hs : 0 < s) {t : Rat} (h : 0 < t) : 0 < (s : Rat) * t := Rat.mul_pos (natR_pos hs) h
theorem vol_pos {r : Rings} {t : Rat} (g : good r) (h0 : 0 < t) (h1 : t ≤ (tot r : Rat)) : 0 < vol r t := by
  cases r with
  | nil =>
    have h1 : t ≤ ((0 : Nat) : Rat) := h1
    have : ((0 : Nat) : Rat) = 0 := rfl
    grind
  | cons p r =>
    obtain ⟨s, h⟩ := p
    obtain ⟨hs, hh, gr⟩ := good_cons g
    show 0 < (s : Rat) * cl t h + vol r (t - (h : Rat))
    have n1 := vol_nonneg r (t - (h : Rat))
    have n2 : 0 < cl t h := by
      have := natR_pos hh
      unfold cl
      grind
    have := mulR_pos hs n2
    grind
theorem lev_vol : ∀ {r : Rings} {t : Rat}, good r → 0 ≤ t → t ≤ (tot r : Rat) → lev r (vol r t) = t
  | [], t, _, h0, h1 => by
    have h1 : t ≤ ((0 : Nat) : Rat) := h1
    have : ((0 : Nat) : Rat) = 0 := rfl
    show (0 : Rat) = t
    grind
  | (s, h) :: r, t, g, h0, h1 => by
    obtain ⟨hs, hh, gr⟩ := good_cons g
    have h1 : t ≤ ((h + tot r : Nat) : Rat) := h1
    rw [natR_add] at h1
    have ns := natR_pos hs
    have hs0 : (s : Rat) ≠ 0 := by grind
    show (if (s : Rat) * cl t h + vol r (t - (h : Rat)) ≤ ((s * h : Nat) : Rat) then ((s : Rat) * cl t h + vol r (t - (h : Rat))) / (s : Rat) else (h : Rat) + lev r ((s : Rat) * cl t h + vol r (t - (h : Rat)) - ((s * h : Nat) : Rat))) = t
    rw [natR_mul]
    by_cases c : t ≤ (h : Rat)
    · rw [cl_mid h0 c, vol_neg (by grind)]
      have := mulR_mono (s := s) c
      rw [if_pos (by grind)]
      grind
    · have vp := vol_pos (r := r) (t := t - (h : Rat)) gr (by grind) (by grind)
      have ih := lev_vol (r := r) (t := t - (h : Rat)) gr (by grind) (by grind)
      rw [cl_big (by grind), if_neg (by grind), show (s : Rat) * (h : Rat) + vol r (t - (h : Rat)) - (s : Rat) * (h : Rat) = vol r (t - (h : Rat)) by grind, ih]
      grind
/-- wider rings -/
def wider : Rings → Rings → Prop
  | [], [] => True
  | (s, h) :: r, (s', h') :: r' => s ≤ s' ∧ h = h' ∧ wider r r'
  | _, _ => False
theorem vol_wide : ∀ {r r' : Rings} {t : Rat}, wider r r' → vol r t ≤ vol r' t
  | [], [], _, _ => Rat.le_refl
  | (s, h) :: r, (s', h') :: r', t, w => by
    obtain ⟨w1, rfl, w3⟩ := w
    have ih := vol_wide (t := t - (h : Rat)) w3
    have n := cl_nonneg t h
    have : (s : Rat) ≤ (s' : Rat) := by exact_mod_cast w1
    have := Rat.mul_le_mul_of_nonneg_right this n
    show (s : Rat) * cl t h + vol r (t - (h : Rat)) ≤ (s' : Rat) * cl t h + vol r' (t - (h : Rat))
    grind
theorem tot_wide : ∀ {r r' : Rings}, wider r r' → tot r = tot r'
  | [], [], _ => rfl
  | (s, h) :: r, (s', h') :: r', w => by
    obtain ⟨w1, rfl, w3⟩ := w
    show h + tot r = h + tot r'
    rw [tot_wide w3]
theorem whole_wide : ∀ {r r' : Rings}, wider r r' → whole r ≤ whole r'
  | [], [], _ => Nat.le_refl _
  | (s, h) :: r, (s', h') :: r', w => by
    obtain ⟨w1, rfl, w3⟩ := w
    have := whole_wide w3
    have := Nat.mul_le_mul_right h w1
    show s * h + whole r ≤ s' * h + whole r'
    omega
theorem lev_wide {r r' : Rings} {v : Rat} (w : wider r r') (g : good r) (g' : good r') (h0 : 0 ≤ v) (h1 : v ≤ (whole r : Rat)) : lev r' v ≤ lev r v := by
  obtain ⟨a1, a2, a3⟩ := lev_ok g h0 h1
  have b := vol_wide (t := lev r v) w
  rw [a3] at b
  have c := lev_vol (r := r') (t := lev r v) g' a1 (by rw [← tot_wide w]; exact a2)
  have d := lev_le (r := r') g' h0 b (vol_le _ _)
  rw [c] at d
  exact d
/-! ### two that are joined -/
def sqAt : Rings → Nat → Nat
  | [], _ => 0
  | (s, h) :: r, p => if p < h then s else sqAt r (p - h)
def endsF : Rings → Nat → List Nat
  | [], _ => []
  | (_, h) :: r, b => (b + h) :: endsF r (b + h)
theorem vol_piece : ∀ {r : Rings} {l e b : Nat} {t : Rat}, (∀ p ∈ endsF r b, p ≤ b + l ∨ b + e ≤ p) → 0 ≤ t → (l : Rat) + t ≤ (e : Rat) → vol r ((l : Rat) + t) = vol r (l : Rat) + (sqAt r l : Rat) * t
  | [], l, e, b, t, _, _, _ => by
    show (0 : Rat) = 0 + ((0 : Nat) : Rat) * t
    have : ((0 : Nat) : Rat) = 0 := rfl
    grind
  | (s, h) :: r, l, e, b, t, he, h0, ht => by
    have h1 := he (b + h) List.mem_cons_self
    show (s : Rat) * cl ((l : Rat) + t) h + vol r ((l : Rat) + t - (h : Rat)) = (s : Rat) * cl (l : Rat) h + vol r ((l : Rat) - (h : Rat)) + ((if l < h then s else sqAt r (l - h) : Nat) : Rat) * t
    have nl := natR_nonneg l
    by_cases c : l < h
    · rw [if_pos c]
      have e1 : e ≤ h := by omega
      have e1 : (e : Rat) ≤ (h : Rat) := by exact_mod_cast e1
      have c1 : (l : Rat) ≤ (h : Rat) := by exact_mod_cast Nat.le_of_lt c
      rw [cl_mid (by grind) (by grind), cl_mid nl c1, vol_neg (by grind), vol_neg (by grind)]
      grind
    · rw [if_neg c]
      have c1 : (h : Rat) ≤ (l : Rat) := by exact_mod_cast Nat.le_of_not_lt c
      have e2 : (l : Rat) - (h : Rat) = ((l - h : Nat) : Rat) := by
        have : l = (l - h) + h := by omega
        have : (l : Rat) = ((l - h : Nat) : Rat) + (h : Rat) := by rw [← natR_add, ← this]
        grind
      have e0 : e = (e - h) + h ∨ (e : Rat) ≤ (h : Rat) := by
        rcases Nat.lt_or_ge e h with x | x
        · exact .inr (by exact_mod_cast Nat.le_of_lt x)
        · exact .inl (by omega)
      rw [cl_big (by grind), cl_big c1, show (l : Rat) + t - (h : Rat) = ((l - h : Nat) : Rat) + t by grind, e2]
      rcases e0 with e0 | e0
      · have e3 : (e : Rat) = ((e - h : Nat) : Rat) + (h : Rat) := by rw [← natR_add, ← e0]
        have ih := vol_piece (r := r) (l := l - h) (e := e - h) (b := b + h) (t := t) (fun p hp => by
          have := he p (List.mem_cons_of_mem _ hp)
          omega) h0 (by grind)
        rw [ih]
        grind
      · have t0 : t = 0 := by grind
        rw [t0]
        grind
def joinJ (r1 r2 : Rings) : Nat → List Nat → Rings
  | _, [] => []
  | l, e :: es => (sqAt r1 l + sqAt r2 l, e - l) :: joinJ r1 r2 e es
def asc : Nat → List Nat → Prop
  | _, [] => True
  | l, e :: es => l < e ∧ asc e es
theorem vol_const {r : Rings} {l : Nat} {t : Rat} (h : (tot r : Nat) ≤ l) (h0 : 0 ≤ t) : vol r ((l : Rat) + t) = vol r (l : Rat) := by
  have : (tot r : Rat) ≤ (l : Rat) := by exact_mod_cast h
  rw [vol_top this, vol_top (by grind)]
theorem ends_top : ∀ (r : Rings) (b : Nat), r ≠ [] → b + tot r ∈ endsF r b
  | [], _, h => absurd rfl h
  | (s, h) :: r, b, _ => by
    show b + (h + tot r) ∈ (b + h) :: endsF r (b + h)
    cases r with
    | nil => exact List.mem_cons.mpr (.inl rfl)
    | cons p r =>
      have := ends_top (p :: r) (b + h) (by simp)
      rw [Nat.add_assoc] at this
      exact List.mem_cons_of_mem _ this
theorem join_vol {r1 r2 : Rings} : ∀ {es : List Nat} {l : Nat} {t : Rat}, asc l es → (∀ p ∈ endsF r1 0 ++ endsF r2 0, p ≤ l ∨ p ∈ es) → 0 ≤ t → vol (joinJ r1 r2 l es) t = vol r1 ((l : Rat) + t) + vol r2 ((l : Rat) + t) - (vol r1 (l : Rat) + vol r2 (l : Rat))
  | [], l, t, _, h, h0 => by
    have ht : ∀ r : Rings, (∀ p ∈ endsF r 0, p ∈ endsF r1 0 ++ endsF r2 0) → vol r ((l : Rat) + t) = vol r (l : Rat) := fun r hr => by
      by_cases e : r = []
      · subst e; rfl
      · have := h _ (hr _ (ends_top r 0 e))
        refine vol_const ?_ h0
        rcases this with z | z
        · omega
        · cases z
    show (0 : Rat) = _
    rw [ht r1 (fun p hp => List.mem_append_left _ hp), ht r2 (fun p hp => List.mem_append_right _ hp)]
    grind
  | e :: es, l, t, ha, h, h0 => by
    obtain ⟨a1, a2⟩ := ha
    have asc_ge : ∀ {es : List Nat} {e : Nat}, asc e es → ∀ p ∈ es, e < p := by
      intro es
      induction es with
      | nil => intro e _ p hp; cases hp
      | cons x es ih =>
        intro e h p hp
        rcases List.mem_cons.mp hp with rfl | hp
        · exact h.1
        · exact Nat.lt_trans h.1 (ih h.2 p hp)
    have hp : ∀ p ∈ endsF r1 0 ++ endsF r2 0, p ≤ l ∨ e ≤ p := fun p hp => by
      rcases h p hp with z | z
      · exact .inl z
      · rcases List.mem_cons.mp z with rfl | z
        · exact .inr (Nat.le_refl _)
        · exact .inr (Nat.le_of_lt (asc_ge a2 p z))
    have he : (e : Rat) = ((e - l : Nat) : Rat) + (l : Rat) := by rw [← natR_add, Nat.sub_add_cancel (Nat.le_of_lt a1)]
    have n1 := natR_nonneg (e - l)
    have p1 := fun u (u0 : (0 : Rat) ≤ u) (u1 : (l : Rat) + u ≤ (e : Rat)) => vol_piece (r := r1) (l := l) (e := e) (b := 0) (t := u) (fun p q => by have := hp p (List.mem_append_left _ q); omega) u0 u1
    have p2 := fun u (u0 : (0 : Rat) ≤ u) (u1 : (l : Rat) + u ≤ (e : Rat)) => vol_piece (r := r2) (l := l) (e := e) (b := 0) (t := u) (fun p q => by have := hp p (List.mem_append_right _ q); omega) u0 u1
    show ((sqAt r1 l + sqAt r2 l : Nat) : Rat) * cl t (e - l) + vol (joinJ r1 r2 e es) (t - ((e - l : Nat) : Rat)) = _
    rw [natR_add]
    by_cases c : t ≤ ((e - l : Nat) : Rat)
    · rw [cl_mid h0 c, vol_neg (by grind), p1 t h0 (by grind), p2 t h0 (by grind)]
      grind
    · have ih := join_vol (r1 := r1) (r2 := r2) (es := es) (l := e) (t := t - ((e - l : Nat) : Rat)) a2 (fun p hp => by
        rcases h p hp with z | z
        · exact .inl (by omega)
        · rcases List.mem_cons.mp z with rfl | z
          · exact .inl (Nat.le_refl _)
          · exact .inr z) (by grind)
      have q1 := p1 ((e - l : Nat) : Rat) n1 (by grind)
      have q2 := p2 ((e - l : Nat) : Rat) n1 (by grind)
      have e5 : (l : Rat) + ((e - l : Nat) : Rat) = (e : Rat) := by grind
      rw [e5] at q1 q2
      rw [cl_big (by grind), ih, show (e : Rat) + (t - ((e - l : Nat) : Rat)) = (l : Rat) + t by grind, q1, q2]
      grind
theorem join_vol0 {r1 r2 : Rings} {es : List Nat} {t : Rat} (ha : asc 0 es) (h : ∀ p ∈ endsF r1 0 ++ endsF r2 0, p ∈ es) (h0 : 0 ≤ t) : vol (joinJ r1 r2 0 es) t = vol r1 t + vol r2 t := by
  have := join_vol (r1 := r1) (r2 := r2) (l := 0) ha (fun p hp => .inr (h p hp)) h0
  have z : ((0 : Nat) : Rat) = 0 := rfl
  rw [z, vol_neg Rat.le_refl, vol_neg Rat.le_refl, show (0 : Rat) + t = t by grind] at this
  rw [this]
  grind
theorem sq_pos : ∀ {r : Rings} {p : Nat}, good r → p < tot r → 0 < sqAt r p
  | [], p, _, h => by cases h
  | (s, h) :: r, p, g, hp => by
    obtain ⟨hs, hh, gr⟩ := good_cons g
    have hp : p < h + tot r := hp
    show 0 < if p < h then s else sqAt r (p - h)
    split
    · exact hs
    · exact sq_pos gr (by omega)
theorem join_good {r1 r2 : Rings} (g1 : good r1) (g2 : good r2) : ∀ {es : List Nat} {l : Nat}, asc l es → (∀ e ∈ es, e ≤ max (tot r1) (tot r2)) → good (joinJ r1 r2 l es)
  | [], l, _, _ => fun p hp => by cases hp
  | e :: es, l, ha, h => fun p hp => by
    obtain ⟨a1, a2⟩ := ha
    have he := h e List.mem_cons_self
    rcases List.mem_cons.mp hp with rfl | hp
    · refine ⟨?_, by show 0 < e - l; omega⟩
      show 0 < sqAt r1 l + sqAt r2 l
      rcases Nat.lt_or_ge l (tot r1) with c | c
      · have := sq_pos g1 c; omega
      · have := sq_pos g2 (p := l) (by omega); omega
    · exact join_good g1 g2 a2 (fun x hx => h x (List.mem_cons_of_mem _ hx)) p hp
theorem join_top {r1 r2 : Rings} : ∀ {es : List Nat} {l : Nat}, asc l es → (es = [] ∧ tot (joinJ r1 r2 l es) = 0) ∨ ∃ e ∈ es, l + tot (joinJ r1 r2 l es) = e ∧ ∀ p ∈ es, p ≤ e
  | [], l, _ => .inl ⟨rfl, rfl⟩
  | e :: es, l, ⟨a1, a2⟩ => by
    refine .inr ?_
    have e1 : tot (joinJ r1 r2 l (e :: es)) = (e - l) + tot (joinJ r1 r2 e es) := rfl
    rcases join_top (r1 := r1) (r2 := r2) a2 with ⟨rfl, h⟩ | ⟨x, hx, h, hm⟩
    · exact ⟨e, List.mem_cons_self, by rw [e1, h]; omega, fun p hp => by rw [List.mem_singleton.mp hp]; exact Nat.le_refl _⟩
    · refine ⟨x, List.mem_cons_of_mem _ hx, by rw [e1]; omega, fun p hp => ?_⟩
      rcases List.mem_cons.mp hp with rfl | hp
      · omega
      · exact hm p hp
/-- the joined bowl has both volumes at every level, and both wholes -/
theorem join_all {r1 r2 : Rings} {es : List Nat} (g1 : good r1) (g2 : good r2) (ha : asc 0 es) (h : ∀ p, p ∈ es ↔ p ∈ endsF r1 0 ++ endsF r2 0) (n1 : r1 ≠ []) (hm : ∀ p ∈ es, p ≤ max (tot r1) (tot r2)) :
    good (joinJ r1 r2 0 es) ∧ tot (joinJ r1 r2 0 es) = max (tot r1) (tot r2) ∧ whole (joinJ r1 r2 0 es) = whole r1 + whole r2 ∧ ∀ t : Rat, 0 ≤ t → vol (joinJ r1 r2 0 es) t = vol r1 t + vol r2 t := by
  have hv : ∀ t : Rat, 0 ≤ t → vol (joinJ r1 r2 0 es) t = vol r1 t + vol r2 t := fun t h0 => join_vol0 ha (fun p hp => (h p).mpr hp) h0
  have hg := join_good g1 g2 ha hm
  have t1 : tot r1 ∈ es := (h _).mpr (List.mem_append_left _ (by have := ends_top r1 0 n1; rwa [Nat.zero_add] at this))
  have t2 : r2 = [] ∨ tot r2 ∈ es := by
    by_cases e : r2 = []
    · exact .inl e
    · exact .inr ((h _).mpr (List.mem_append_right _ (by have := ends_top r2 0 e; rwa [Nat.zero_add] at this)))
  have ht : tot (joinJ r1 r2 0 es) = max (tot r1) (tot r2) := by
    rcases join_top (r1 := r1) (r2 := r2) ha with ⟨rfl, _⟩ | ⟨e, he, h1, h2⟩
    · cases t1
    · rw [Nat.zero_add] at h1
      have a := hm e he
      have b := h2 _ t1
      rcases t2 with rfl | t2
      · have : tot ([] : Rings) = 0 := rfl
        omega
      · have c := h2 _ t2
        omega
  refine ⟨hg, ht, ?_, hv⟩
  have a1 : (tot r1 : Rat) ≤ (tot (joinJ r1 r2 0 es) : Rat) := by rw [ht]; exact_mod_cast Nat.le_max_left _ _
  have a2 : (tot r2 : Rat) ≤ (tot (joinJ r1 r2 0 es) : Rat) := by rw [ht]; exact_mod_cast Nat.le_max_right _ _
  have := hv (tot (joinJ r1 r2 0 es)) (natR_nonneg _)
  rw [vol_top Rat.le_refl, vol_top a1, vol_top a2, ← natR_add] at this
  exact_mod_cast this
theorem ends_le : ∀ {r : Rings} {b p : Nat}, p ∈ endsF r b → p ≤ b + tot r
  | [], b, p, h => by cases h
  | (s, h) :: r, b, p, hp => by
    show p ≤ b + (h + tot r)
    rcases List.mem_cons.mp hp with rfl | hp
    · omega
    · have := ends_le hp
      omega
theorem ends_gt : ∀ {r : Rings} {b p : Nat}, good r → p ∈ endsF r b → b < p
  | [], b, p, _, h => by cases h
  | (s, h) :: r, b, p, g, hp => by
    obtain ⟨hs, hh, gr⟩ := good_cons g
    rcases List.mem_cons.mp hp with rfl | hp
    · omega
    · have := ends_gt gr hp
      omega
end K34
end
section
set_option Elab.async false
set_option linter.all false
set_option maxRecDepth 100000
set_option maxHeartbeats 4000000
set_option exponentiation.threshold 100000
namespace K34
open Qd PySem L2
/-! ### the draws of a script: the same in every law -/
abbrev dL (ds : List Int) : Option Slot := some (.own (.list (ds.map PyData.int)))
def Dr (u : W) : Prop := ∃ ds : List Int, u = .list (ds.map PyData.int)
noncomputable abbrev mIn : MS := mIf (mTest (mBin gtW (mVar 3) (mC (.int 0))))
    (mSeq (mDrop (mMeth "list" appendW 1 (mCons (mBin modW (mCallB intW (mCons (mVar 3) mNil)) (mC (.int 997))) mNil)))
    (mAsg (store 3) (mBin fdivW (mVar 3) (mC (.int 997)))))
    mSkip
theorem dr_in (s c x4 : Option Slot) (L : Nat) (hL : L ≤ 15000000) (ds : List Int) (hds : ds.length ≤ L) (m : Int) (x5 : Option W) :
    ∃ (ds' : List Int) (m' : Int) (x5' : Option W), ds'.length ≤ L + 60 ∧ forD (store 5) mIn (rangeW 0 60) [s, dL ds, c, sv (.int m), x4, x5.map Slot.val, none] = .next [s, dL ds', c, sv (.int m'), x4, x5'.map Slot.val, none] := by
  obtain ⟨d', e, ds', m', x5', h, rfl⟩ := forD_range (g := store 5) (b := mIn) (fun k d => ∃ (ds' : List Int) (m' : Int) (x5' : Option W), ds'.length ≤ L + k ∧ d = [s, dL ds', c, sv (.int m'), x4, x5'.map Slot.val, none]) 0 60 0
    [s, dL ds, c, sv (.int m), x4, x5.map Slot.val, none] ⟨ds, m, x5, hds, rfl⟩ (by
      rintro i d _ hi ⟨ds, m, x5, h, rfl⟩
      by_cases hm : m > 0
      · refine ⟨[s, dL ds, c, sv (.int m), x4, sv (.int (0 + (i : Int))), none], [s, dL (ds ++ [m % 997]), c, sv (.int (m / 997)), x4, sv (.int (0 + (i : Int))), none], by cases x5 <;> simp, .inl ?_, ds ++ [m % 997], m / 997, some _, by simp; omega, rfl⟩
        have hl : ds.length < 16000000 := by omega
        simp [hm, hl]
      · refine ⟨[s, dL ds, c, sv (.int m), x4, sv (.int (0 + (i : Int))), none], [s, dL ds, c, sv (.int m), x4, sv (.int (0 + (i : Int))), none], by cases x5 <;> simp, .inl ?_, ds, m, some _, by omega, rfl⟩
        simp [hm])
  exact ⟨ds', m', x5', by omega, e⟩
noncomputable abbrev mCell : MS := (mSeq (mAsg (store 3) (mCallB absW (mCons (mVar 2) mNil)))
    (mSeq (mIf (mTest (mBin ltW (mVar 3) (mBin powW (mC (.int 10)) (mC (.int 18)))))
    (mSeq (mAsg (store 4) (mBin modW (mCallB intW (mCons (mBin addW (mBin mulW (mVar 3) (mC (.int 48271))) (mC (.int 11))) mNil)) (mC (.int 2147483647))))
    (mSeq (mDrop (mMeth "list" appendW 1 (mCons (mBin modW (mCallB intW (mCons (mBin addW (mBin mulW (mVar 4) (mC (.int 69621))) (mVar 3)) mNil)) (mC (.int 2147483629))) mNil)))
    (mSeq (mDrop (mMeth "list" appendW 1 (mCons (mBin modW (mCallB intW (mCons (mBin addW (mVar 4) (mBin fdivW (mVar 3) (mC (.int 7)))) mNil)) (mC (.int 1000003))) mNil)))
    (mAsg (store 3) (mC (.int 0))))))
    mSkip)
    (mFor (mRng1 (mCons (mC (.int 60)) mNil)) (store 5) mIn)))
theorem dr_cell (s : Option Slot) (L : Nat) (hL : L ≤ 14000000) (ds : List Int) (hds : ds.length ≤ L) (z : Int) (x3 x4 x5 : Option W) :
    ∃ (ds' : List Int) (x3' x4' x5' : Option W), ds'.length ≤ L + 62 ∧ mCell [s, dL ds, sv (.int z), x3.map Slot.val, x4.map Slot.val, x5.map Slot.val, none] = .next [s, dL ds', sv (.int z), x3'.map Slot.val, x4'.map Slot.val, x5'.map Slot.val, none] := by
  have hr : range1? [.int 60] = some (rangeW 0 60) := range1_of (by decide) (by decide) (by decide)
  obtain ⟨a, ha, ha0⟩ : ∃ a : Int, (if z < 0 then -z else z) = a ∧ 0 ≤ a := ⟨_, rfl, by split <;> omega⟩
  have s1 : mAsg (store 3) (mCallB absW (mCons (mVar 2) mNil)) [s, dL ds, sv (.int z), x3.map Slot.val, x4.map Slot.val, x5.map Slot.val, none] = .next [s, dL ds, sv (.int z), sv (.int a), x4.map Slot.val, x5.map Slot.val, none] := by
    cases x3 <;> simp [ha]
  by_cases hs : a < 1000000000000000000
  · have h1 : mulW (.int a) (.int 48271) = some (.int (a * 48271)) := mul_sm (by omega) (by decide)
    obtain ⟨f, hf, hf1, hf2⟩ : ∃ f : Int, (a * 48271 + 11) % 2147483647 = f ∧ 0 ≤ f ∧ f < 2147483647 := ⟨_, rfl, Int.emod_nonneg _ (by decide), Int.emod_lt_of_pos _ (by decide)⟩
    have h2 : mulW (.int f) (.int 69621) = some (.int (f * 69621)) := mul_sm (by omega) (by decide)
    have hl : ds.length < 16000000 := by omega
    have hl2 : ds.length + 1 < 16000000 := by omega
    obtain ⟨ds', m', x5', hd, e⟩ := dr_in s (sv (.int z)) (sv (.int f)) (L + 2) (by omega) (ds ++ [(f * 69621 + a) % 2147483629, (f + a / 7) % 1000003]) (by simp; omega) 0 x5
    refine ⟨ds', some (.int m'), some (.int f), x5', by omega, ?_⟩
    refine sqR s1 ?_
    refine sqR (d' := [s, dL (ds ++ [(f * 69621 + a) % 2147483629, (f + a / 7) % 1000003]), sv (.int z), sv (.int 0), sv (.int f), x5.map Slot.val, none]) ?_ ?_
    · cases x4 <;> simp [hs, h1, hf, h2, hl, hl2]
    · rw [ev_for]
      simp only [ev_rng1, ev_cons, ev_c, ev_nil, Out.bind, hr]
      exact e
  · obtain ⟨ds', m', x5', hd, e⟩ := dr_in s (sv (.int z)) (x4.map Slot.val) (L + 2) (by omega) ds (by omega) a x5
    refine ⟨ds', some (.int m'), x4, x5', by omega, ?_⟩
    refine sqR s1 ?_
    refine sqR (d' := [s, dL ds, sv (.int z), sv (.int a), x4.map Slot.val, x5.map Slot.val, none]) ?_ ?_
    · simp [hs]
    · rw [ev_for]
      simp only [ev_rng1, ev_cons, ev_c, ev_nil, Out.bind, hr]
      exact e
theorem dr_cells (s : Option Slot) (ns : List Int) (hl : ns.length ≤ 63) : ∃ (ds : List Int) (x2 x3 x4 x5 : Option W), ds.length ≤ 100000 ∧ forD (store 2) mCell (ns.map PyData.int) [s, dL [], none, none, none, none, none] = .next [s, dL ds, x2.map Slot.val, x3.map Slot.val, x4.map Slot.val, x5.map Slot.val, none] := by
  obtain ⟨d', e, ds, x2, x3, x4, x5, h, rfl⟩ := forD_inv (g := store 2) (b := mCell) PyData.int (fun r d => ∃ (ds : List Int) (x2 x3 x4 x5 : Option W), ds.length + r.length * 62 ≤ 10000 ∧ d = [s, dL ds, x2.map Slot.val, x3.map Slot.val, x4.map Slot.val, x5.map Slot.val, none]) ns
    [s, dL [], none, none, none, none, none] ⟨[], none, none, none, none, by simp; omega, rfl⟩ (by
      rintro z r d ⟨ds, x2, x3, x4, x5, h, rfl⟩
      rw [List.length_cons] at h
      obtain ⟨ds', x3', x4', x5', h', e⟩ := dr_cell s ds.length (by omega) ds (Nat.le_refl _) z x3 x4 x5
      exact ⟨_, _, by cases x2 <;> simp <;> exact rfl, .inl e, ds', some (.int z), x3', x4', x5', by omega, rfl⟩)
  exact ⟨ds, x2, x3, x4, x5, by simp at h; omega, e⟩
noncomputable abbrev mSeed : MS := (mSeq (mAsg (store 6) (mBin modW (mCallB intW (mCons (mBin addW (mBin mulW (mVar 6) (mC (.int 48271))) (mC (.int 69621))) mNil)) (mC (.int 2147483647))))
    (mDrop (mMeth "list" appendW 1 (mCons (mBin fdivW (mVar 6) (mC (.int 5))) mNil))))
theorem dr_seed (s x2 x3 x4 : Option Slot) (x5 : Option W) (ds : List Int) (hds : ds.length ≤ 100000) (i : Int) (hi : i.natAbs.log2 ≤ 2000000) :
    ∃ (ds' : List Int) (i' : Int) (x5' : Option W), forD (store 5) mSeed (rangeW 0 900) [s, dL ds, x2, x3, x4, x5.map Slot.val, sv (.int i)] = .next [s, dL ds', x2, x3, x4, x5'.map Slot.val, sv (.int i')] := by
  obtain ⟨d', e, ds', i', x5', h, _, rfl⟩ := forD_range (g := store 5) (b := mSeed) (fun k d => ∃ (ds' : List Int) (i' : Int) (x5' : Option W), ds'.length ≤ 100000 + k ∧ i'.natAbs.log2 ≤ 2000000 ∧ d = [s, dL ds', x2, x3, x4, x5'.map Slot.val, sv (.int i')]) 0 900 0
    [s, dL ds, x2, x3, x4, x5.map Slot.val, sv (.int i)] ⟨ds, i, x5, hds, hi, rfl⟩ (by
      rintro k d _ hk ⟨ds, i, x5, h, hi, rfl⟩
      have h1 : mulW (.int i) (.int 48271) = some (.int (i * 48271)) := ev_mul _ _ (by
        have : (48271 : Int).natAbs.log2 ≤ 16 := log2_le_of (by decide)
        omega)
      obtain ⟨j, hj, hj1, hj2⟩ : ∃ j : Int, (i * 48271 + 69621) % 2147483647 = j ∧ 0 ≤ j ∧ j < 2147483647 := ⟨_, rfl, Int.emod_nonneg _ (by decide), Int.emod_lt_of_pos _ (by decide)⟩
      have hl : ds.length < 16000000 := by omega
      refine ⟨[s, dL ds, x2, x3, x4, sv (.int (0 + (k : Int))), sv (.int i)], [s, dL (ds ++ [j / 5]), x2, x3, x4, sv (.int (0 + (k : Int))), sv (.int j)], by cases x5 <;> simp, .inl ?_, ds ++ [j / 5], j, some _, by simp; omega, ?_, rfl⟩
      · simp [h1, hj, hl]
      · exact Nat.le_trans (log2_le_of (k := 31) (by omega)) (by decide))
  exact ⟨ds', i', x5', e⟩
theorem log2_succ (n : Nat) : (n + 1).log2 ≤ n.log2 + 1 := by
  by_cases h : n = 0
  · subst h; decide
  · have h1 : n < 2 ^ (n.log2 + 1) := (Nat.log2_lt h).mp (Nat.lt_succ_self _)
    have h2 : n + 1 < 2 ^ (n.log2 + 1 + 1) := by rw [Nat.pow_succ]; omega
    have := (Nat.log2_lt (by omega)).mpr h2
    omega
theorem e_draws (ns : List Int) (hl : ns.length ≤ 63) (hb : ∀ z ∈ ns, Builtin.Int.intBits z ≤ 1048576) : ∃ u, F__law_draws [.list (ns.map PyData.int)] = .ok (.own u) ∧ Dr u := by
  obtain ⟨ds, x2, x3, x4, x5, hd, e1⟩ := dr_cells (sv (.list (ns.map PyData.int))) ns hl
  obtain ⟨i, hi, e2⟩ : ∃ i : Int, i.natAbs.log2 ≤ 2000000 ∧ (mSeq (mAsg (store 6) (mC (.int 1)))
    (mIf (mTest (mBin gtW (mCallB lenW (mCons (mVar 0) mNil)) (mC (.int 0))))
    (mAsg (store 6) (mBin addW (mC (.int 1)) (mCallB absW (mCons (mBin ixW (mVar 0) (mC (.int 0))) mNil))))
    mSkip)) [sv (.list (ns.map PyData.int)), dL ds, x2.map Slot.val, x3.map Slot.val, x4.map Slot.val, x5.map Slot.val, none] = .next [sv (.list (ns.map PyData.int)), dL ds, x2.map Slot.val, x3.map Slot.val, x4.map Slot.val, x5.map Slot.val, sv (.int i)] := by
    cases ns with
    | nil => exact ⟨1, by decide, by simp⟩
    | cons z r =>
      have hz := hb z List.mem_cons_self
      refine ⟨1 + (if z < 0 then -z else z), ?_, ?_⟩
      · have e : (1 + (if z < 0 then -z else z)).natAbs = z.natAbs + 1 := by split <;> omega
        have h2 := log2_succ z.natAbs
        have h3 : z.natAbs.log2 ≤ 1048576 := by
          unfold Builtin.Int.intBits at hz
          split at hz
          · rename_i q
            have q : z = 0 := by simpa using q
            subst q
            decide
          · omega
        rw [e]
        omega
      · have hp : (0 : Int) < (r.length : Int) + 1 := by omega
        have ha : atI ((z :: r).map PyData.int) 0 = some (.int z) := show atI _ ((0 : Nat) : Int) = _ from atI_nat rfl
        rw [List.map_cons] at ha
        simp [hp, ha]
  obtain ⟨ds', i', x5', e3⟩ := dr_seed (sv (.list (ns.map PyData.int))) (x2.map Slot.val) (x3.map Slot.val) (x4.map Slot.val) x5 ds hd i hi
  have hr : range1? [.int 900] = some (rangeW 0 900) := range1_of (by decide) (by decide) (by decide)
  refine ⟨_, runV_of ?_, ds'.reverse, rfl⟩
  unfold m__law_draws
  rw [show sdV 7 [.list (ns.map PyData.int)] = [sv (.list (ns.map PyData.int)), none, none, none, none, none, none] from rfl]
  generalize hw : ns.map PyData.int = w at *
  refine sqT (by simp; exact rfl) ?_
  refine sqT (d' := _) (by rw [ev_for]; simp only [ev_itS, ev_var, ev_itemsL, Out.bind, List.getElem?_cons_zero, ofOpt]; exact e1) ?_
  rw [← sqA]
  refine sqT e2 ?_
  refine sqT (d' := _) (by rw [ev_for]; simp only [ev_rng1, ev_cons, ev_c, ev_nil, Out.bind, hr]; exact e3) ?_
  exact frzT (by simp; exact rfl) (retT (by simp; exact rfl))
theorem e_take (u : W) (n : Nat) (h : Dr u) (hn : 0 < n) : ∃ (r : Nat) (u' : W), r < n ∧ Dr u' ∧ F__law_take u [.int (n : Int)] = .ok (.val (.int (r : Int))) u' := by
  obtain ⟨ds, rfl⟩ := h
  have hn' : (0 : Int) < n := by omega
  rcases List.eq_nil_or_concat ds with rfl | ⟨ds, x, rfl⟩
  · refine ⟨0, .list [], hn, ⟨[], rfl⟩, runP_of ?_⟩
    unfold m__law_take
    rw [show sdP 2 (.list (([] : List Int).map PyData.int)) [.int (n : Int)] = [some (.par (.list [])), sv (.int n)] from rfl]
    exact sqP1 (by simp; exact rfl) rfl
  · refine ⟨(x % (n : Int)).toNat, .list (ds.map PyData.int), ?_, ⟨ds, rfl⟩, runP_of ?_⟩
    · have h1 := Int.emod_nonneg x (show (n : Int) ≠ 0 by omega)
      have h2 := Int.emod_lt_of_pos x hn'
      omega
    · rw [Int.toNat_of_nonneg (Int.emod_nonneg x (show (n : Int) ≠ 0 by omega))]
      have hp := pop_last (ds.map PyData.int) (.int x)
      rw [List.concat_eq_append, List.map_append]
      unfold m__law_take
      rw [show sdP 2 (.list (ds.map PyData.int ++ [x].map PyData.int)) [.int (n : Int)] = [some (.par (.list (ds.map PyData.int ++ [.int x]))), sv (.int n)] from rfl]
      generalize ds.map PyData.int = w at *
      have hne : (w.length : Int) + 1 ≠ 0 := by omega
      refine sqP (by simp [hne]; exact rfl) ?_
      exact retP (by simp [hp, hn]; exact rfl) rfl
theorem e_says (a b : Bool) : F__law_says [.bool a, .bool b] = .ok (.val (.bool (a == b))) := by
  unfold F__law_says runV m__law_says
  simp
end K34
namespace K34
open Qd PySem L2
/-! ### alike -/
theorem al_le {j k : Nat} {w : W} (h : al j w) (hk : j ≤ k) : al k w := by
  induction k with
  | zero => rw [Nat.le_zero.mp hk] at h; exact h
  | succ k ih =>
    rcases Nat.lt_or_ge j (k + 1) with c | c
    · exact al_up (ih (by omega))
    · rw [show k + 1 = j by omega]; exact h
theorem eq_nilL : eqW (.list []) (.list []) = some (.bool true) := eq_self (lv_ok (k := 1) (by decide) (fun d hd => by cases hd))
theorem alike_lc (REC : FV) (w : W) (ds : List W) (hl : ds.length ≤ 16000000) (hw : ∀ i, ixW w i = match i with
    | .int i => atI ds i
    | _ => none) (hlen : lenW [w] = some (.int ds.length)) (h : ∀ d ∈ ds, REC [d, d] = .ok (.val (.bool true))) :
    mLc [2] (mRng1 (mCons (mCallB lenW (mCons (mVar 1) mNil)) mNil)) (store 2) (mNotT (mTruth (mCallV REC (mCons (mBin ixW (mVar 0) (mVar 2)) (mCons (mBin ixW (mVar 1) (mVar 2)) mNil))))) (mVar 2) [sv w, sv w, none] = .ok (.list []) [sv w, sv w, none] := by
  have hr : range1? [.int (ds.length : Int)] = some (rangeW 0 ds.length) := range1_of (by omega) (by omega) (by omega)
  have e := mLc_of (List.range ds.length) (fun i : Nat => PyData.int (0 + (i : Int))) (fun _ => .none) (fun _ => false) (vs := [2]) (it := mRng1 (mCons (mCallB lenW (mCons (mVar 1) mNil)) mNil)) (g := store 2) (t := mNotT (mTruth (mCallV REC (mCons (mBin ixW (mVar 0) (mVar 2)) (mCons (mBin ixW (mVar 1) (mVar 2)) mNil))))) (e := mVar 2) (d := [sv w, sv w, none]) (d' := [sv w, sv w, none])
    (by simp [hlen, hr, rangeW_map]) (by simp) (by rw [List.length_range]; exact le_line hl) fun i hi => by
      have hi : i < ds.length := by simpa using hi
      have ha : atI ds (i : Int) = some ds[i] := atI_nat (List.getElem?_eq_getElem hi)
      have hx := hw (.int (i : Int))
      have hh := h _ (List.getElem_mem hi)
      refine ⟨[sv w, sv w, sv (.int (0 + (i : Int)))], [sv w, sv w, sv (.int (0 + (i : Int)))], by simp, ?_, (fun z => Bool.noConfusion z), fun _ => by simp⟩
      simp [hx, ha, hh]
  rw [e]
  simp
theorem e_alike_k : ∀ (k : Nat) (w : W), al k w → R__law_alike (k + 1) [w, w] = .ok (.val (.bool true))
  | k, .none, _ => by
    show runV 3 (m__law_alike (R__law_alike k)) _ = _
    refine runV_of ?_
    unfold m__law_alike
    exact sqT (by simp; exact rfl) (sqT1 (by simp; exact rfl))
  | k, .bool b, _ => by
    show runV 3 (m__law_alike (R__law_alike k)) _ = _
    refine runV_of ?_
    unfold m__law_alike
    exact sqT (by simp; exact rfl) (sqT (by simp; exact rfl) (sqT1 (by simp; exact rfl)))
  | k, .int i, _ => by
    show runV 3 (m__law_alike (R__law_alike k)) _ = _
    refine runV_of ?_
    unfold m__law_alike
    exact sqT (by simp; exact rfl) (sqT (by simp; exact rfl) (sqT (by simp; exact rfl) (sqT1 (by simp; exact rfl))))
  | k, .str x, h => by
    have h2 : eqW (.str x) (.str x) = some (.bool true) := eq_self (lv_ok (k := 0) (by decide) (by cases k <;> exact h))
    show runV 3 (m__law_alike (R__law_alike k)) _ = _
    refine runV_of ?_
    unfold m__law_alike
    exact sqT (by simp; exact rfl) (sqT (by simp; exact rfl) (sqT (by simp; exact rfl) (sqT (by simp; exact rfl) (retT (by simp [h2]; exact rfl)))))
  | 0, .list ds, h => h.elim
  | 0, .tuple ds, h => h.elim
  | k + 1, .list ds, h => by
    have e := alike_lc (R__law_alike (k + 1)) (.list ds) ds h.1 (fun i => by cases i <;> rfl) rfl fun d hd => e_alike_k k d (h.2 d hd)
    have hn := eq_nilL
    show runV 3 (m__law_alike (R__law_alike (k + 1))) _ = _
    refine runV_of ?_
    unfold m__law_alike
    rw [show sdV 3 [PyData.list ds, PyData.list ds] = [sv (.list ds), sv (.list ds), none] from rfl]
    exact sqT1 (by simp [e, hn, -ev_lc]; exact rfl)
  | k + 1, .tuple ds, h => by
    have e := alike_lc (R__law_alike (k + 1)) (.tuple ds) ds h.1 (fun i => by cases i <;> rfl) rfl fun d hd => e_alike_k k d (h.2 d hd)
    have hn := eq_nilL
    show runV 3 (m__law_alike (R__law_alike (k + 1))) _ = _
    refine runV_of ?_
    unfold m__law_alike
    rw [show sdV 3 [PyData.tuple ds, PyData.tuple ds] = [sv (.tuple ds), sv (.tuple ds), none] from rfl]
    exact sqT1 (by simp [e, hn, -ev_lc]; exact rfl)
  | k, .dict _, h => by cases k <;> exact h.elim
theorem e_alike {k : Nat} (hk : k ≤ 5) {w : W} (h : al k w) : F__law_alike [w, w] = .ok (.val (.bool true)) := e_alike_k 5 w (al_le h hk)
end K34
end
section
set_option Elab.async false
set_option linter.all false
set_option maxRecDepth 100000
set_option maxHeartbeats 4000000
set_option exponentiation.threshold 100000
/-! fractions in lowest terms: the program's (parts) and the law's own -/
namespace K34
open Qd PySem L2
theorem e_is_number (v a b : Int) : F_is_number [.int v, .int a, .int b] = .ok (.val (.bool (decide (a ≤ v ∧ v ≤ b)))) := by
  unfold F_is_number runV m_is_number
  by_cases h : a ≤ v <;> simp [h]
theorem e_num_in {v a b : Int} (h : a ≤ v ∧ v ≤ b) : F_is_number [.int v, .int a, .int b] = .ok (.val (.bool true)) := by
  rw [e_is_number, decide_eq_true h]
theorem e_num_out {v a b : Int} (h : ¬ (a ≤ v ∧ v ≤ b)) : F_is_number [.int v, .int a, .int b] = .ok (.val (.bool false)) := by
  rw [e_is_number, decide_eq_false h]
theorem e_num_b (c : Bool) (a b : Int) : F_is_number [.bool c, .int a, .int b] = .ok (.val (.bool false)) := by
  unfold F_is_number runV m_is_number
  simp
theorem e_num_n (a b : Int) : F_is_number [.none, .int a, .int b] = .ok (.val (.bool false)) := by
  unfold F_is_number runV m_is_number
  simp
theorem rg (n : Nat) (hn : n ≤ 100000) : range1? [.int (n : Int)] = some ((List.range n).map fun i : Nat => PyData.int (i : Int)) := by rw [← rangeW_nat]; exact range1_of (by omega) (by omega) (by omega)
theorem size_ok {n : Nat} (h : n ≤ 1000) : n ≤ sizeLine := Nat.le_trans (by omega) sizeLine_big
theorem log_lt {n k : Nat} (h : n < 2 ^ k) (hk : 0 < k) : n.log2 < k := by
  by_cases h0 : n = 0
  · subst h0; exact hk
  · exact (Nat.log2_lt h0).mpr h
theorem mulN {a b : Nat} (ha : a < 2 ^ 64) (hb : b < 2 ^ 64) : mulW (.int (a : Int)) (.int (b : Int)) = some (.int ((a * b : Nat) : Int)) := by
  rw [mul_fit (a := 64) (b := 64) (by simpa using ha) (by simpa using hb) (by decide)]
  push_cast; rfl
theorem fdivI (a : Int) {c : Nat} (h0 : 0 < c) (hc : c < 2 ^ 4000) : fdivW (.int a) (.int (c : Int)) = some (.int (a / (c : Int))) := by
  show (if cdec (0 < (c : Int) ∧ (c : Int).natAbs.log2 < 9000) = true then some (PyData.int (a / (c : Int))) else none) = _
  rw [if_pos (cdec_iff.mpr ⟨by omega, by
    have h2 := log_lt hc (by decide)
    rw [Int.natAbs_natCast]
    exact Nat.lt_trans h2 (by decide)⟩)]
theorem modN {a b : Nat} (h0 : 0 < b) : modW (.int (a : Int)) (.int (b : Int)) = some (.int ((a % b : Nat) : Int)) := by
  show (if cdec (0 < (b : Int)) = true then some (PyData.int ((a : Int) % (b : Int))) else none) = _
  rw [if_pos (cdec_iff.mpr (by omega)), Int.natCast_emod]
/-! ### a fraction -/
abbrev rW (q : Rat) : W := .tuple [.int q.num, .int (q.den : Int)]
def okR (q : Rat) : Prop := q.num.natAbs < 2 ^ 1000 ∧ q.den < 2 ^ 1000
theorem rw_mk (a : Int) {b : Nat} (hb : 0 < b) : rW (mkRat a b) = .tuple [.int (a / ((Nat.gcd a.natAbs b : Nat) : Int)), .int ((b : Int) / ((Nat.gcd a.natAbs b : Nat) : Int))] := by
  unfold rW
  rw [Rat.num_mkRat, Rat.den_mkRat, if_neg (by omega), if_neg (by omega), Nat.gcd_comm, Int.natCast_ediv]
theorem rw_nat (n : Nat) : rW (n : Rat) = .tuple [.int (n : Int), .int 1] := rfl
theorem rw_zero : rW 0 = .tuple [.int 0, .int 1] := rfl
theorem gcd_ok {a : Nat} {b : Nat} (hb : 0 < b) (hs : b < 2 ^ 4000) : 0 < Nat.gcd a b ∧ Nat.gcd a b < 2 ^ 4000 :=
  ⟨Nat.gcd_pos_of_pos_right _ hb, Nat.lt_of_le_of_lt (Nat.gcd_le_right _ hb) hs⟩
theorem e_lowest {a : Int} {b : Nat} (hb : 0 < b) (hs : b < 2 ^ 4000) : F_lowest [.int a, .int (b : Int)] = .ok (.val (rW (mkRat a b))) := by
  obtain ⟨c0, c1⟩ := gcd_ok (a := a.natAbs) hb hs
  have f1 := fdivI a c0 c1
  have f2 := fdivI (b : Int) c0 c1
  rw [rw_mk a hb]
  refine runV_of ?_
  unfold m_lowest
  rw [show sdV 3 [.int a, .int (b : Int)] = [sv (.int a), sv (.int (b : Int)), none] from rfl]
  have g : gcdW [.int a, .int (b : Int)] = some (.int ((Nat.gcd a.natAbs b : Nat) : Int)) := by rw [ev_gcd]; rfl
  generalize Nat.gcd a.natAbs b = c at *
  have hn : ¬ (b : Int) < 0 := by omega
  refine sqT (d' := [sv (.int a), sv (.int (b : Int)), iv c]) (by simp [g, -ev_gcd]) ?_
  refine sqT (d' := [sv (.int a), sv (.int (b : Int)), iv c]) (by simp [hn]) ?_
  exact retT (by simp [f1, f2]; exact rfl)
theorem mulB {i j : Int} (hi : i.natAbs < 2 ^ 1000) (hj : j.natAbs < 2 ^ 1000) : mulW (.int i) (.int j) = some (.int (i * j)) := mul_fit hi hj (by decide)
theorem natB {n : Nat} (h : n < 2 ^ 1000) : (n : Int).natAbs < 2 ^ 1000 := by rw [Int.natAbs_natCast]; exact h
theorem denB {p q : Nat} (hp : p < 2 ^ 1000) (hq : q < 2 ^ 1000) : p * q < 2 ^ 4000 :=
  Nat.lt_of_lt_of_le (Nat.mul_lt_mul'' hp hq) (by rw [← Nat.pow_add]; exact Nat.pow_le_pow_right (by decide) (by decide))
theorem e_plus {p q : Rat} (hp : okR p) (hq : okR q) : F_plus [rW p, rW q] = .ok (.val (rW (p + q))) := by
  have m1 := mulB hp.1 (natB hq.2)
  have m2 := mulB hq.1 (natB hp.2)
  have m3 := mulB (natB hp.2) (natB hq.2)
  have f := e_lowest (a := p.num * (q.den : Int) + q.num * (p.den : Int)) (b := p.den * q.den) (Nat.mul_pos p.den_pos q.den_pos) (denB hp.2 hq.2)
  rw [Int.natCast_mul, ← Rat.add_def'] at f
  refine runV_of ?_
  unfold m_plus
  generalize rW (p + q) = w at *
  exact retT (by simp [at0, at1, m1, m2, m3, f]; exact rfl)
theorem e_minus {p q : Rat} (hp : okR p) (hq : okR q) : F_minus [rW p, rW q] = .ok (.val (rW (p - q))) := by
  have m1 := mulB hp.1 (natB hq.2)
  have m2 := mulB hq.1 (natB hp.2)
  have m3 := mulB (natB hp.2) (natB hq.2)
  have f := e_lowest (a := p.num * (q.den : Int) - q.num * (p.den : Int)) (b := p.den * q.den) (Nat.mul_pos p.den_pos q.den_pos) (denB hp.2 hq.2)
  rw [Int.natCast_mul, ← Rat.sub_def'] at f
  refine runV_of ?_
  unfold m_minus
  generalize rW (p - q) = w at *
  exact retT (by simp [at0, at1, m1, m2, m3, f]; exact rfl)
theorem e_times {p q : Rat} (hp : okR p) (hq : okR q) : F_times [rW p, rW q] = .ok (.val (rW (p * q))) := by
  have m1 := mulB hp.1 hq.1
  have m3 := mulB (natB hp.2) (natB hq.2)
  have f := e_lowest (a := p.num * q.num) (b := p.den * q.den) (Nat.mul_pos p.den_pos q.den_pos) (denB hp.2 hq.2)
  rw [Int.natCast_mul, ← Rat.mul_def'] at f
  refine runV_of ?_
  unfold m_times
  generalize rW (p * q) = w at *
  exact retT (by simp [at0, at1, m1, m3, f]; exact rfl)
theorem e_less {p q : Rat} (hp : okR p) (hq : okR q) : F_less [rW p, rW q] = .ok (.val (.bool (decide (p < q)))) := by
  have m1 := mulB hp.1 (natB hq.2)
  have m2 := mulB hq.1 (natB hp.2)
  have e : decide (p < q) = decide (p.num * (q.den : Int) < q.num * (p.den : Int)) := decide_eq_decide.mpr (Rat.lt_iff p q)
  rw [e]
  refine runV_of ?_
  unfold m_less
  exact retT (by simp [at0, at1, m1, m2]; exact rfl)
theorem e_made {a : Int} {b : Nat} (hb : 0 < b) (hs : b < 2 ^ 4000) : F_made [.int a, .int (b : Int)] = .ok (.val (rW (mkRat a b))) := by
  have f := e_lowest (a := a) hb hs
  have hn : ¬ b = 0 := by omega
  refine runV_of ?_
  unfold m_made
  generalize rW (mkRat a b) = w at *
  refine sqT (by simp [hn]; exact rfl) ?_
  exact retT (by simp [f]; exact rfl)
/-! ### the law's own -/
theorem l_gcd (a b : Int) : F__law_gcd [.int a, .int b] = .ok (.val (.int ((Nat.gcd a.natAbs b.natAbs : Nat) : Int))) := by
  obtain ⟨d', e, x, h, rfl⟩ := mWhile_inv (t := mTest (mBin gtW (mVar 1) (mC (.int 0)))) (b := mPar [0, 1] (mConsV (mVar 1) (mConsV (mBin modW (mCallB intW (mCons (mVar 0) mNil)) (mVar 1)) mNilO)))
    (fun d => ∃ x y : Nat, Nat.gcd x y = Nat.gcd a.natAbs b.natAbs ∧ d = [iv x, iv y]) (fun d => ∃ x : Nat, x = Nat.gcd a.natAbs b.natAbs ∧ d = [iv x, iv 0])
    (fun d => match d[1]? with
      | some (some (Slot.val (.int y))) => y.natAbs
      | _ => 0) [iv a.natAbs, iv b.natAbs] ⟨_, _, rfl, rfl⟩ (by
      rintro d ⟨x, y, h, rfl⟩
      rcases Nat.eq_zero_or_pos y with rfl | h0
      · refine .inl ⟨[iv x, iv 0], by simp, x, ?_, rfl⟩
        rw [Nat.gcd_zero_right] at h
        exact h
      · have f := modN (a := x) (b := y) h0
        have h1 : (0 : Int) < (y : Int) := by omega
        refine .inr ⟨[iv x, iv y], [iv y, iv (x % y)], by simp [h0], .inl ?_, ⟨y, x % y, ?_, rfl⟩, ?_⟩
        · generalize x % y = z at *
          simp [f]
        · rw [← h, Nat.gcd_comm x y, Nat.gcd_rec y x, Nat.gcd_comm]
        · show ((x % y : Nat) : Int).natAbs < (y : Int).natAbs
          rw [Int.natAbs_natCast, Int.natAbs_natCast]
          exact Nat.mod_lt _ h0)
  have aa : ∀ i : Int, (if i < 0 then -i else i) = ((i.natAbs : Nat) : Int) := fun i => by split <;> omega
  have ha := aa a
  have hb := aa b
  refine runV_of ?_
  unfold m__law_gcd
  rw [show sdV 2 [.int a, .int b] = [sv (.int a), sv (.int b)] from rfl]
  refine sqT (d' := [iv a.natAbs, iv b.natAbs]) (by simp [ha, hb]) ?_
  refine sqT e ?_
  rw [h]
  exact retT (by simp; exact rfl)
theorem l_part {a : Int} {b : Nat} (hb : 0 < b) (hs : b < 2 ^ 4000) : F__law_part [.int a, .int (b : Int)] = .ok (.val (rW (mkRat a b))) := by
  obtain ⟨c0, c1⟩ := gcd_ok (a := a.natAbs) hb hs
  have f1 := fdivI a c0 c1
  have f2 := fdivI (b : Int) c0 c1
  have g := l_gcd a (b : Int)
  rw [Int.natAbs_natCast] at g
  rw [rw_mk a hb]
  refine runV_of ?_
  unfold m__law_part
  rw [show sdV 3 [.int a, .int (b : Int)] = [sv (.int a), sv (.int (b : Int)), none] from rfl]
  generalize Nat.gcd a.natAbs b = c at *
  refine sqT (d' := [sv (.int a), sv (.int (b : Int)), iv c]) (by simp [hb, g]) ?_
  exact retT (by simp [f1, f2]; exact rfl)
theorem l_plus {p q : Rat} (hp : okR p) (hq : okR q) : F__law_plus [rW p, rW q] = .ok (.val (rW (p + q))) := by
  have m1 := mulB hp.1 (natB hq.2)
  have m2 := mulB hq.1 (natB hp.2)
  have m3 := mulB (natB hp.2) (natB hq.2)
  have f := l_part (a := p.num * (q.den : Int) + q.num * (p.den : Int)) (b := p.den * q.den) (Nat.mul_pos p.den_pos q.den_pos) (denB hp.2 hq.2)
  rw [Int.natCast_mul, ← Rat.add_def'] at f
  refine runV_of ?_
  unfold m__law_plus
  generalize rW (p + q) = w at *
  exact retT (by simp [at0, at1, m1, m2, m3, f]; exact rfl)
theorem l_minus {p q : Rat} (hp : okR p) (hq : okR q) : F__law_minus [rW p, rW q] = .ok (.val (rW (p - q))) := by
  have m1 := mulB hp.1 (natB hq.2)
  have m2 := mulB hq.1 (natB hp.2)
  have m3 := mulB (natB hp.2) (natB hq.2)
  have f := l_part (a := p.num * (q.den : Int) - q.num * (p.den : Int)) (b := p.den * q.den) (Nat.mul_pos p.den_pos q.den_pos) (denB hp.2 hq.2)
  rw [Int.natCast_mul, ← Rat.sub_def'] at f
  refine runV_of ?_
  unfold m__law_minus
  generalize rW (p - q) = w at *
  exact retT (by simp [at0, at1, m1, m2, m3, f]; exact rfl)
theorem l_times {p q : Rat} (hp : okR p) (hq : okR q) : F__law_times [rW p, rW q] = .ok (.val (rW (p * q))) := by
  have m1 := mulB hp.1 hq.1
  have m3 := mulB (natB hp.2) (natB hq.2)
  have f := l_part (a := p.num * q.num) (b := p.den * q.den) (Nat.mul_pos p.den_pos q.den_pos) (denB hp.2 hq.2)
  rw [Int.natCast_mul, ← Rat.mul_def'] at f
  refine runV_of ?_
  unfold m__law_times
  generalize rW (p * q) = w at *
  exact retT (by simp [at0, at1, m1, m3, f]; exact rfl)
theorem l_less {p q : Rat} (hp : okR p) (hq : okR q) : F__law_less [rW p, rW q] = .ok (.val (.bool (decide (p < q)))) := by
  have m1 := mulB hp.1 (natB hq.2)
  have m2 := mulB hq.1 (natB hp.2)
  have e : decide (p < q) = decide (p.num * (q.den : Int) < q.num * (p.den : Int)) := decide_eq_decide.mpr (Rat.lt_iff p q)
  rw [e]
  refine runV_of ?_
  unfold m__law_less
  exact retT (by simp [at0, at1, m1, m2]; exact rfl)
/-! ### how great a fraction is: q * D is whole -/
def Fr (D : Nat) (q : Rat) : Prop := ∃ n : Int, q * (D : Rat) = (n : Rat)
theorem castD {D : Nat} (h0 : 0 < D) : (D : Rat) ≠ 0 := by
  intro h
  have : D = 0 := by exact_mod_cast h
  omega
theorem fr_eq {D : Nat} {q : Rat} {n : Int} (h0 : 0 < D) (h : q * (D : Rat) = (n : Rat)) : q = mkRat n D := by
  have hd := castD h0
  rw [Rat.mkRat_eq_div, ← h]
  grind
theorem fr_mk (a : Int) {D : Nat} (h0 : 0 < D) : Fr D (mkRat a D) := ⟨a, by
  have hd := castD h0
  rw [Rat.mkRat_eq_div]
  grind⟩
theorem fr_den {D : Nat} {q : Rat} (h0 : 0 < D) (h : Fr D q) : q.den ≤ D := by
  obtain ⟨n, h⟩ := h
  rw [fr_eq h0 h, Rat.den_mkRat, if_neg (by omega)]
  exact Nat.div_le_self _ _
theorem fr_nat (D n : Nat) : Fr D (n : Rat) := ⟨((n * D : Nat) : Int), by push_cast; rfl⟩
theorem fr_add {D : Nat} {p q : Rat} (hp : Fr D p) (hq : Fr D q) : Fr D (p + q) := by
  obtain ⟨n, hn⟩ := hp
  obtain ⟨m, hm⟩ := hq
  exact ⟨n + m, by rw [Rat.intCast_add, ← hn, ← hm]; grind⟩
theorem fr_sub {D : Nat} {p q : Rat} (hp : Fr D p) (hq : Fr D q) : Fr D (p - q) := by
  obtain ⟨n, hn⟩ := hp
  obtain ⟨m, hm⟩ := hq
  exact ⟨n - m, by rw [Rat.intCast_sub, ← hn, ← hm]; grind⟩
theorem fr_mul {D : Nat} {q : Rat} (n : Nat) (hq : Fr D q) : Fr D ((n : Rat) * q) := by
  obtain ⟨m, hm⟩ := hq
  exact ⟨(n : Int) * m, by rw [Rat.intCast_mul, ← hm]; push_cast; grind⟩
theorem fr_up {D : Nat} (E : Nat) {q : Rat} (hq : Fr D q) : Fr (D * E) q := by
  obtain ⟨m, hm⟩ := hq
  exact ⟨m * (E : Int), by rw [Rat.intCast_mul, ← hm]; push_cast; grind⟩
theorem numR (q : Rat) : (q.num : Rat) = q * (q.den : Rat) := by
  have hd := castD q.den_pos
  have := Rat.mkRat_self q
  rw [Rat.mkRat_eq_div] at this
  have h2 : (q.num : Rat) = ((q.num : Rat) / (q.den : Rat)) * (q.den : Rat) := by grind
  rw [this] at h2
  exact h2
theorem num_le {B : Nat} {q : Rat} (l : -(B : Rat) ≤ q) (u : q ≤ (B : Rat)) : q.num.natAbs ≤ B * q.den := by
  have h := numR q
  have d0 : (0 : Rat) ≤ (q.den : Rat) := by exact_mod_cast Nat.zero_le q.den
  have h1 : q * (q.den : Rat) ≤ (B : Rat) * (q.den : Rat) := Rat.mul_le_mul_of_nonneg_right u d0
  have h2 : -(B : Rat) * (q.den : Rat) ≤ q * (q.den : Rat) := Rat.mul_le_mul_of_nonneg_right l d0
  rw [← h] at h1 h2
  have e1 : (B : Rat) * (q.den : Rat) = (((B * q.den : Nat) : Int) : Rat) := by push_cast; rfl
  have e2 : -(B : Rat) * (q.den : Rat) = ((-((B * q.den : Nat) : Int) : Int) : Rat) := by push_cast; grind
  rw [e1] at h1
  rw [e2] at h2
  have h1 : q.num ≤ ((B * q.den : Nat) : Int) := by exact_mod_cast h1
  have h2 : -((B * q.den : Nat) : Int) ≤ q.num := by exact_mod_cast h2
  omega
theorem ok_of {D B : Nat} {q : Rat} (h0 : 0 < D) (hD : D ≤ 2 ^ 400) (hB : B ≤ 2 ^ 400) (h : Fr D q) (l : -(B : Rat) ≤ q) (u : q ≤ (B : Rat)) : okR q := by
  have h1 := fr_den h0 h
  have h2 := num_le l u
  have h3 : q.den ≤ 2 ^ 400 := Nat.le_trans h1 hD
  have h4 : B * q.den ≤ 2 ^ 400 * 2 ^ 400 := Nat.mul_le_mul hB h3
  rw [← Nat.pow_add] at h4
  exact ⟨Nat.lt_of_le_of_lt (Nat.le_trans h2 h4) (Nat.pow_lt_pow_right (by decide) (by decide)), Nat.lt_of_le_of_lt h3 (Nat.pow_lt_pow_right (by decide) (by decide))⟩
theorem ok_nat {n : Nat} (h : n ≤ 2 ^ 400) : okR (n : Rat) := ⟨by
  show ((n : Int)).natAbs < 2 ^ 1000
  rw [Int.natAbs_natCast]
  exact Nat.lt_of_le_of_lt h (Nat.pow_lt_pow_right (by decide) (by decide)), by
  show 1 < 2 ^ 1000
  exact Nat.one_lt_two_pow (by decide)⟩
end K34
end
section
set_option Elab.async false
set_option linter.all false
set_option maxRecDepth 100000
set_option maxHeartbeats 4000000
/-! k34: the functions' answers -/
namespace K34
open Qd PySem L2
theorem sqN {a b : MS} {d d' : SD} {o : SOut} (h : a d = .next d') (k : b d' = o) : mSeq a b d = o := by rw [ev_seq, h]; exact k
theorem for_step {g : GW} {b : MS} {w : W} {ws : List W} {d d1 d2 : SD} (h1 : g w d = some d1) (h2 : b d1 = .next d2) : forD g b (w :: ws) d = forD g b ws d2 := by rw [forD_cons, h1]; dsimp only; rw [h2]
theorem for_ret {g : GW} {b : MS} {w : W} {ws : List W} {d d1 d2 : SD} {s : Slot} (h1 : g w d = some d1) (h2 : b d1 = .ret s d2) : forD g b (w :: ws) d = .ret s d2 := by rw [forD_cons, h1]; dsimp only; rw [h2]
theorem mLc_set2 {α : Type} {a b : Nat} {it : M (List W)} {e : M W} {d : SD} (l : List α) (f0 f x y : α → W) (hf : ∀ p, f0 p = .tuple [x p, y p]) (hit : it d = .ok (l.map f0) d) (ha : a < d.length) (hb : b < d.length) (hab : a ≠ b) (hc : cleanD d [a, b] = true) (hl : l.length ≤ 16000000)
    (h : ∀ p ∈ l, e ((d.set a (some (.val (x p)))).set b (some (.val (y p)))) = .ok (f p) ((d.set a (some (.val (x p)))).set b (some (.val (y p))))) : mLc [a, b] it (gTupW 2 (gsCons (store a) (gsCons (store b) gsNil))) mYes e d = .ok (.list (l.map f)) d := by
  have w0 : wipeD d [a, b] = (d.set b none).set a none := rfl
  have wS : ∀ u v : Option Slot, wipeD ((d.set a u).set b v) [a, b] = wipeD d [a, b] := fun u v => by
    show (((d.set a u).set b v).set b none).set a none = (d.set b none).set a none
    rw [List.set_set, List.set_comm _ _ hab, List.set_set]
  refine mLc_all l f0 f hit hc (le_line hl) fun p hp => ?_
  refine ⟨_, _, _, ?_, rfl, h p hp, wS _ _⟩
  have e1 : ((d.set b none).set a none)[a]? = some none := List.getElem?_set_self (by rw [List.length_set]; exact ha)
  have e2 : ((d.set b none).set a (some (.val (x p))))[b]? = some none := by rw [List.getElem?_set_ne hab, List.getElem?_set_self hb]
  rw [hf, ev_tupT, if_pos (show [x p, y p].length = 2 from rfl), ev_gsCons, ev_store, w0, e1]
  dsimp only [Option.bind]
  rw [List.set_set, ev_gsCons, ev_store, e2]
  dsimp only [Option.bind]
  rw [ev_gsNil, List.set_comm _ _ hab, List.set_set, List.set_comm _ _ (Ne.symm hab)]
/-! ### a bowl -/
abbrev Bowl := List (Nat × Nat)
def pr (p : Nat × Nat) : W := .tuple [.int (p.1 : Int), .int (p.2 : Int)]
abbrev bW (b : Bowl) : W := .tuple (b.map pr)
def sq (b : Bowl) : Rings := b.map fun p => (p.1 * p.1, p.2)
def ringOk (p : Nat × Nat) : Prop := 1 ≤ p.1 ∧ p.1 ≤ 30 ∧ 1 ≤ p.2 ∧ p.2 ≤ 20
def bnd (b : Bowl) : Prop := b.length ≤ 8 ∧ ∀ p ∈ b, ringOk p
theorem bnd_good {b : Bowl} (h : bnd b) : good (sq b) := fun p hp => by
  obtain ⟨q, hq, rfl⟩ := List.mem_map.mp hp
  have := h.2 q hq
  exact ⟨Nat.mul_pos this.1 this.1, this.2.2.1⟩
theorem top_sum : ∀ b : Bowl, tot (sq b) = (b.map (·.2)).sum
  | [] => rfl
  | p :: b => by
    show p.2 + tot (sq b) = _
    rw [top_sum b, List.map_cons, List.sum_cons]
theorem whole_sum : ∀ b : Bowl, whole (sq b) = (b.map fun p => p.1 * p.1 * p.2).sum
  | [] => rfl
  | p :: b => by
    show p.1 * p.1 * p.2 + whole (sq b) = _
    rw [whole_sum b, List.map_cons, List.sum_cons]
theorem top_le' : ∀ {b : Bowl}, (∀ p ∈ b, ringOk p) → tot (sq b) ≤ 20 * b.length
  | [], _ => Nat.le_refl _
  | p :: b, h => by
    have := h p List.mem_cons_self
    have ih := top_le' (b := b) fun q hq => h q (List.mem_cons_of_mem _ hq)
    show p.2 + tot (sq b) ≤ _
    rw [List.length_cons]
    have := this.2.2.2
    omega
theorem ring_whole {p : Nat × Nat} (h : ringOk p) : p.1 * p.1 ≤ 900 ∧ p.1 * p.1 * p.2 ≤ 18000 := by
  have h1 : p.1 * p.1 ≤ 30 * 30 := Nat.mul_le_mul h.2.1 h.2.1
  have h2 : p.1 * p.1 * p.2 ≤ 900 * 20 := Nat.mul_le_mul h1 h.2.2.2
  exact ⟨h1, h2⟩
theorem whole_le' : ∀ {b : Bowl}, (∀ p ∈ b, ringOk p) → whole (sq b) ≤ 18000 * b.length
  | [], _ => Nat.le_refl _
  | p :: b, h => by
    have := (ring_whole (h p List.mem_cons_self)).2
    have ih := whole_le' (b := b) fun q hq => h q (List.mem_cons_of_mem _ hq)
    show p.1 * p.1 * p.2 + whole (sq b) ≤ _
    rw [List.length_cons]
    omega
theorem tot_b {b : Bowl} (h : bnd b) : tot (sq b) ≤ 160 := by have := top_le' h.2; have := h.1; omega
theorem whole_b {b : Bowl} (h : bnd b) : whole (sq b) ≤ 144000 := by have := whole_le' h.2; have := h.1; omega
theorem sum_cons2 {α : Type} (b : List α) (f : α → Nat) : (b.map fun p => PyData.int (f p : Int)) = natW (b.map f) := by
  show _ = (b.map f).map fun (x : Nat) => PyData.int (x : Int)
  rw [List.map_map]
  rfl
theorem mulS {p : Nat × Nat} (h : ringOk p) : mulW (.int (p.1 : Int)) (.int (p.1 : Int)) = some (.int ((p.1 * p.1 : Nat) : Int)) ∧ mulW (.int ((p.1 * p.1 : Nat) : Int)) (.int (p.2 : Int)) = some (.int ((p.1 * p.1 * p.2 : Nat) : Int)) := by
  have h1 := ring_whole h
  have h2 := h.2.1
  have h3 := h.2.2.2
  exact ⟨mulN (by omega) (by omega), mulN (by omega) (by omega)⟩
theorem e_top {b : Bowl} (h : bnd b) : F_top_of [bW b] = .ok (.val (.int (tot (sq b) : Nat))) := by
  have l := h.1
  refine runV_of ?_
  unfold m_top_of
  refine retT (d' := [sv (bW b), none, none]) ?_
  rw [show sdV 3 [bW b] = [sv (bW b), none, none] from rfl, ev_ret, ev_callB, ev_cons, mLc_set2 b pr (fun p => PyData.int (p.2 : Int)) (fun p => PyData.int (p.1 : Int)) (fun p => PyData.int (p.2 : Int)) (fun p => rfl) (by simp) (by simp) (by simp) (by decide) (by simp) (by omega) fun p _ => by simp]
  rw [sum_cons2, top_sum]
  simp [sum_nat]
theorem e_whole {b : Bowl} (h : bnd b) : F_whole_of [bW b] = .ok (.val (.int (whole (sq b) : Nat))) := by
  have l := h.1
  refine runV_of ?_
  unfold m_whole_of
  refine retT (d' := [sv (bW b), none, none]) ?_
  rw [show sdV 3 [bW b] = [sv (bW b), none, none] from rfl, ev_ret, ev_callB, ev_cons, mLc_set2 b pr (fun p => PyData.int ((p.1 * p.1 * p.2 : Nat) : Int)) (fun p => PyData.int (p.1 : Int)) (fun p => PyData.int (p.2 : Int)) (fun p => rfl) (by simp) (by simp) (by simp) (by decide) (by simp) (by omega) fun p hp => by
    have m := mulS (h.2 p hp)
    simp [m.1, m.2, -Int.natCast_mul]]
  rw [sum_cons2, whole_sum]
  simp [sum_nat, -Int.natCast_mul]
/-! ### the square at a place -/
theorem sqat_loop (w0 w1 : W) : ∀ (r : Bowl) (below p : Nat) (x3 x4 : Option W), (∀ p ∈ r, ringOk p) → below ≤ p → (∃ d', forD (gTupW 2 (gsCons (store 3) (gsCons (store 4) gsNil))) (mSeq (mIf (mTest (mChain leW ltW (mVar 2) (mVar 1) (mBin addW (mVar 2) (mVar 4)))) (mRet (mBin mulW (mVar 3) (mVar 3))) mSkip) (mAug (i2 (fun _ _ => true) fun i j => i + j) 2 (mVar 4))) (r.map pr) [sv w0, iv p, iv below, x3.map Slot.val, x4.map Slot.val] = .ret (.val (.int (sqAt (sq r) (p - below) : Nat))) d') ∨
      (sqAt (sq r) (p - below) = 0 ∧ ∃ d', forD (gTupW 2 (gsCons (store 3) (gsCons (store 4) gsNil))) (mSeq (mIf (mTest (mChain leW ltW (mVar 2) (mVar 1) (mBin addW (mVar 2) (mVar 4)))) (mRet (mBin mulW (mVar 3) (mVar 3))) mSkip) (mAug (i2 (fun _ _ => true) fun i j => i + j) 2 (mVar 4))) (r.map pr) [sv w0, iv p, iv below, x3.map Slot.val, x4.map Slot.val] = .next d')
  | [], below, p, x3, x4, _, _ => .inr ⟨rfl, _, rfl⟩
  | (a, h) :: r, below, p, x3, x4, hb, hp => by
    have rk := hb (a, h) List.mem_cons_self
    have m := (mulS rk).1
    have e0 : sqAt (sq ((a, h) :: r)) (p - below) = if p - below < h then a * a else sqAt (sq r) (p - below - h) := rfl
    have hs : (gTupW 2 (gsCons (store 3) (gsCons (store 4) gsNil))) (pr (a, h)) [sv w0, iv p, iv below, x3.map Slot.val, x4.map Slot.val] = some [sv w0, iv p, iv below, iv a, iv h] := by cases x3 <;> cases x4 <;> simp [pr]
    have hle : (below : Int) ≤ (p : Int) := by omega
    by_cases c : p - below < h
    · have c1 : (p : Int) < (below : Int) + (h : Int) := by omega
      rw [e0, if_pos c]
      exact .inl ⟨_, for_ret hs (by simp [m, hp, c1, -Int.natCast_mul]; exact rfl)⟩
    · have c1 : ¬ (p : Int) < (below : Int) + (h : Int) := by omega
      rw [e0, if_neg c, show p - below - h = p - (below + h) by omega]
      have st : (mSeq (mIf (mTest (mChain leW ltW (mVar 2) (mVar 1) (mBin addW (mVar 2) (mVar 4)))) (mRet (mBin mulW (mVar 3) (mVar 3))) mSkip) (mAug (i2 (fun _ _ => true) fun i j => i + j) 2 (mVar 4))) [sv w0, iv p, iv below, iv a, iv h] = .next [sv w0, iv p, iv (below + h), iv a, iv h] := by simp [hp, c1]
      rw [show List.map pr ((a, h) :: r) = pr (a, h) :: r.map pr from rfl, for_step hs st]
      exact sqat_loop w0 w1 r (below + h) p (some (.int (a : Int))) (some (.int (h : Int))) (fun q hq => hb q (List.mem_cons_of_mem _ hq)) (by omega)
theorem e_sqat {b : Bowl} (h : bnd b) (p : Nat) : F_square_at [bW b, .int (p : Int)] = .ok (.val (.int (sqAt (sq b) p : Nat))) := by
  have e := sqat_loop (bW b) (.int 0) b 0 p none none h.2 (Nat.zero_le _)
  rw [Nat.sub_zero] at e
  refine runV_of ?_
  unfold m_square_at
  rw [show sdV 5 [bW b, .int (p : Int)] = [sv (bW b), iv p, none, none, none] from rfl]
  refine sqT (d' := [sv (bW b), iv p, iv (0 : Nat), none, none]) (by simp) ?_
  rcases e with ⟨d', e⟩ | ⟨z, d', e⟩
  · exact sqT1 (d' := d') (by rw [ev_for]; simp only [ev_itS, ev_var, List.getElem?_cons_zero, Out.bind, ofOpt, ev_itemsT]; exact e)
  · rw [z]
    refine sqT (d' := d') (by rw [ev_for]; simp only [ev_itS, ev_var, List.getElem?_cons_zero, Out.bind, ofOpt, ev_itemsT]; exact e) ?_
    exact retT (by simp; exact rfl)
end K34
end
section
set_option Elab.async false
set_option linter.all false
set_option maxRecDepth 100000
set_option maxHeartbeats 4000000
/-! k34: the volume to a level, the level for a volume -/
namespace K34
open Qd PySem L2
def BB : Nat := 2 ^ 300
theorem BB_le : BB ≤ 2 ^ 400 := Nat.pow_le_pow_right (by decide) (by decide)
theorem BB_big : 2 ^ 64 ≤ BB := Nat.pow_le_pow_right (by decide) (by decide)
theorem okB {D : Nat} {q : Rat} (h0 : 0 < D) (hD : D ≤ 2 ^ 400) (h : Fr D q) (l : -(BB : Rat) ≤ q) (u : q ≤ (BB : Rat)) : okR q := ok_of h0 hD BB_le h l u
theorem okN {n : Nat} (h : n ≤ BB) : okR (n : Rat) := ok_nat (Nat.le_trans h BB_le)
theorem castB {n : Nat} (h : n ≤ BB) : (n : Rat) ≤ (BB : Rat) := by exact_mod_cast h
theorem bb0 : (0 : Rat) ≤ (BB : Rat) := natR_nonneg _
theorem mul_fr {D s : Nat} {t : Rat} (h : Fr D t) : Fr D ((s : Rat) * t) := fr_mul s h
theorem cl_le (t : Rat) (h : Nat) : cl t h ≤ (h : Rat) := by
  have := natR_nonneg h
  unfold cl
  grind
theorem vol_loop {D : Nat} {t : Rat} (w0 : W) (hD0 : 0 < D) (hD : D ≤ 2 ^ 400) (ht : Fr D t) (t0 : 0 ≤ t) (t1 : t ≤ (BB : Rat)) : ∀ (r : Bowl) (found : Rat) (below : Nat) (x4 x5 x6 x7 : Option W), (∀ p ∈ r, ringOk p) → Fr D found → 0 ≤ found → found + (whole (sq r) : Rat) ≤ (BB : Rat) → below + tot (sq r) ≤ BB →
    ∃ (n : Nat) (y4 y5 y6 y7 : Option W), forD (gTupW 2 (gsCons (store 4) (gsCons (store 5) gsNil))) (mSeq (mAsg (store 6) (mCallV F_minus (mCons (mVar 1) (mCons (mTup (mCons (mVar 3) (mCons (mC (.int 1)) mNil))) mNil)))) (mSeq (mAsg (store 7) (mIfE (mTruth (mCallV F_less (mCons (mVar 6) (mCons (mTup (mCons (mVar 5) (mCons (mC (.int 1)) mNil))) mNil)))) (mVar 6) (mTup (mCons (mVar 5) (mCons (mC (.int 1)) mNil))))) (mSeq (mIf (mTruth (mCallV F_less (mCons (mTup (mCons (mC (.int 0)) (mCons (mC (.int 1)) mNil))) (mCons (mVar 7) mNil)))) (mAsg (store 2) (mCallV F_plus (mCons (mVar 2) (mCons (mCallV F_times (mCons (mTup (mCons (mBin mulW (mVar 4) (mVar 4)) (mCons (mC (.int 1)) mNil))) (mCons (mVar 7) mNil))) mNil)))) mSkip) (mAug (i2 (fun _ _ => true) fun i j => i + j) 3 (mVar 5))))) (r.map pr) [sv w0, sv (rW t), sv (rW found), iv below, x4.map Slot.val, x5.map Slot.val, x6.map Slot.val, x7.map Slot.val] = .next [sv w0, sv (rW t), sv (rW (found + vol (sq r) (t - (below : Rat)))), iv n, y4.map Slot.val, y5.map Slot.val, y6.map Slot.val, y7.map Slot.val]
  | [], found, below, x4, x5, x6, x7, _, _, _, _, _ => ⟨below, x4, x5, x6, x7, by
    have : found + vol (sq []) (t - (below : Rat)) = found := by
      show found + 0 = found
      grind
    rw [this]
    rfl⟩
  | (a, h) :: r, found, below, x4, x5, x6, x7, hb, ff, f0, f1, b1 => by
    have rk := hb (a, h) List.mem_cons_self
    have m := (mulS rk).1
    obtain ⟨ra1, ra2, rh1, rh2⟩ := rk
    dsimp only at ra1 ra2 rh1 rh2 m
    have w1 : whole (sq ((a, h) :: r)) = a * a * h + whole (sq r) := rfl
    have tp : tot (sq ((a, h) :: r)) = h + tot (sq r) := rfl
    rw [w1, natR_add, natR_mul] at f1
    rw [tp] at b1
    have n1 := natR_nonneg h
    have n2 := natR_nonneg (whole (sq r))
    have n3 := natR_nonneg below
    have n4 := castB (n := below) (by omega)
    have n5 := castB (n := h) (by omega)
    have n6 := natR_nonneg (a * a)
    have n7 := bb0
    have cle := mulR_mono (s := a * a) (cl_le (t - (below : Rat)) h)
    have cge := mulR_mono (s := a * a) (cl_nonneg (t - (below : Rat)) h)
    have ffull := fr_sub ht (fr_nat D below)
    have okt := okB hD0 hD ht (by grind) t1
    have okf := okB hD0 hD ff (by grind) (by grind)
    have okb := okN (n := below) (by omega)
    have okh := okN (n := h) (by omega)
    have oka := okN (n := a * a) (by have := Nat.mul_le_mul ra2 ra2; have := BB_big; omega)
    have okfull := okB hD0 hD ffull (by grind) (by grind)
    have g1 : F_minus [rW t, .tuple [.int (below : Int), .int 1]] = .ok (.val (rW (t - (below : Rat)))) := e_minus okt okb
    have g2 : F_less [rW (t - (below : Rat)), .tuple [.int (h : Int), .int 1]] = .ok (.val (.bool (decide (t - (below : Rat) < (h : Rat))))) := e_less okfull okh
    have ev : vol (sq ((a, h) :: r)) (t - (below : Rat)) = ((a * a : Nat) : Rat) * cl (t - (below : Rat)) h + vol (sq r) (t - (below : Rat) - (h : Rat)) := rfl
    have e2 : t - ((below + h : Nat) : Rat) = t - (below : Rat) - (h : Rat) := by rw [natR_add]; grind
    obtain ⟨part, okp, fp, pe, pc, pn, ple⟩ : ∃ part : Rat, okR part ∧ Fr D part ∧ (if (decide (t - (below : Rat) < (h : Rat))) = true then rW (t - (below : Rat)) else rW (h : Rat)) = rW part ∧ (0 < part → cl (t - (below : Rat)) h = part) ∧ (¬ 0 < part → cl (t - (below : Rat)) h = 0) ∧ part ≤ (h : Rat) := by
      by_cases c : t - (below : Rat) < (h : Rat)
      · refine ⟨_, okfull, ffull, by rw [decide_eq_true c, if_pos rfl], fun z => cl_mid (by grind) (by grind), fun z => cl_neg (by grind), by grind⟩
      · refine ⟨_, okh, fr_nat D h, by rw [decide_eq_false c, if_neg (by decide)], fun z => cl_big (by grind), fun z => ?_, by grind⟩
        exact absurd (natR_pos rh1) z
    have g3 : F_less [.tuple [.int 0, .int 1], rW part] = .ok (.val (.bool (decide (0 < part)))) := e_less (p := ((0 : Nat) : Rat)) (okN (n := 0) (by omega)) okp
    have hs : (gTupW 2 (gsCons (store 4) (gsCons (store 5) gsNil))) (pr (a, h)) [sv w0, sv (rW t), sv (rW found), iv below, x4.map Slot.val, x5.map Slot.val, x6.map Slot.val, x7.map Slot.val] = some [sv w0, sv (rW t), sv (rW found), iv below, iv a, iv h, x6.map Slot.val, x7.map Slot.val] := by
      generalize rW t = wt at *
      generalize rW found = wf at *
      cases x4 <;> cases x5 <;> simp [pr]
    have st : (mSeq (mAsg (store 6) (mCallV F_minus (mCons (mVar 1) (mCons (mTup (mCons (mVar 3) (mCons (mC (.int 1)) mNil))) mNil)))) (mSeq (mAsg (store 7) (mIfE (mTruth (mCallV F_less (mCons (mVar 6) (mCons (mTup (mCons (mVar 5) (mCons (mC (.int 1)) mNil))) mNil)))) (mVar 6) (mTup (mCons (mVar 5) (mCons (mC (.int 1)) mNil))))) (mSeq (mIf (mTruth (mCallV F_less (mCons (mTup (mCons (mC (.int 0)) (mCons (mC (.int 1)) mNil))) (mCons (mVar 7) mNil)))) (mAsg (store 2) (mCallV F_plus (mCons (mVar 2) (mCons (mCallV F_times (mCons (mTup (mCons (mBin mulW (mVar 4) (mVar 4)) (mCons (mC (.int 1)) mNil))) (mCons (mVar 7) mNil))) mNil)))) mSkip) (mAug (i2 (fun _ _ => true) fun i j => i + j) 3 (mVar 5))))) [sv w0, sv (rW t), sv (rW found), iv below, iv a, iv h, x6.map Slot.val, x7.map Slot.val] = .next [sv w0, sv (rW t), sv (rW (found + ((a * a : Nat) : Rat) * cl (t - (below : Rat)) h)), iv (below + h), iv a, iv h, sv (rW (t - (below : Rat))), sv (rW part)] := by
      by_cases c : 0 < part
      · rw [pc c] at cle ⊢
        have okq := okB hD0 hD (mul_fr (s := a * a) fp) (by have := mulR_mono (s := a * a) (Rat.le_of_lt c); grind) (by grind)
        have g4 : F_times [.tuple [.int ((a * a : Nat) : Int), .int 1], rW part] = .ok (.val (rW (((a * a : Nat) : Rat) * part))) := e_times oka okp
        have g5 := e_plus okf okq
        rw [decide_eq_true c] at g3
        rw [show rW (h : Rat) = .tuple [.int (h : Int), .int 1] from rfl] at pe
        generalize decide (t - (below : Rat) < (h : Rat)) = dl at *
        generalize rW t = wt at *
        generalize rW found = wf at *
        generalize rW (t - (below : Rat)) = wfull at *
        generalize rW (found + ((a * a : Nat) : Rat) * part) = w5 at *
        generalize rW (((a * a : Nat) : Rat) * part) = w4 at *
        generalize rW part = wp at *
        refine sqN (d' := [sv w0, sv wt, sv wf, iv below, iv a, iv h, sv wfull, x7.map Slot.val]) (by cases x6 <;> simp [g1]) ?_
        refine sqN (d' := [sv w0, sv wt, sv wf, iv below, iv a, iv h, sv wfull, sv wp]) (by
          cases dl
          · have pe : PyData.tuple [.int (h : Int), .int 1] = wp := pe
            subst pe
            cases x7 <;> simp [g2]
          · have pe : wfull = wp := pe
            subst pe
            cases x7 <;> simp [g2]) ?_
        refine sqN (d' := [sv w0, sv wt, sv w5, iv below, iv a, iv h, sv wfull, sv wp]) (by simp [g3, g4, g5, m, -Int.natCast_mul]) ?_
        simp
      · rw [pn c]
        have e0 : found + ((a * a : Nat) : Rat) * 0 = found := by grind
        rw [e0]
        rw [decide_eq_false c] at g3
        rw [show rW (h : Rat) = .tuple [.int (h : Int), .int 1] from rfl] at pe
        generalize decide (t - (below : Rat) < (h : Rat)) = dl at *
        generalize rW t = wt at *
        generalize rW found = wf at *
        generalize rW (t - (below : Rat)) = wfull at *
        generalize rW part = wp at *
        refine sqN (d' := [sv w0, sv wt, sv wf, iv below, iv a, iv h, sv wfull, x7.map Slot.val]) (by cases x6 <;> simp [g1]) ?_
        refine sqN (d' := [sv w0, sv wt, sv wf, iv below, iv a, iv h, sv wfull, sv wp]) (by
          cases dl
          · have pe : PyData.tuple [.int (h : Int), .int 1] = wp := pe
            subst pe
            cases x7 <;> simp [g2]
          · have pe : wfull = wp := pe
            subst pe
            cases x7 <;> simp [g2]) ?_
        refine sqN (d' := [sv w0, sv wt, sv wf, iv below, iv a, iv h, sv wfull, sv wp]) (by simp [g3]) ?_
        simp
    have fc : Fr D (((a * a : Nat) : Rat) * cl (t - (below : Rat)) h) := by
      by_cases c : 0 < part
      · rw [pc c]; exact mul_fr fp
      · rw [pn c]
        exact mul_fr (fr_nat D 0)
    rw [show List.map pr ((a, h) :: r) = pr (a, h) :: r.map pr from rfl, for_step hs st, ev]
    obtain ⟨n, y4, y5, y6, y7, e⟩ := vol_loop w0 hD0 hD ht t0 t1 r (found + ((a * a : Nat) : Rat) * cl (t - (below : Rat)) h) (below + h) (some (.int (a : Int))) (some (.int (h : Int))) (some (rW (t - (below : Rat)))) (some (rW part)) (fun q hq => hb q (List.mem_cons_of_mem _ hq)) (fr_add ff fc) (by grind) (by rw [natR_mul] at *; grind) (by omega)
    rw [e2] at e
    refine ⟨n, y4, y5, y6, y7, ?_⟩
    rw [show found + (((a * a : Nat) : Rat) * cl (t - (below : Rat)) h + vol (sq r) (t - (below : Rat) - (h : Rat))) = found + ((a * a : Nat) : Rat) * cl (t - (below : Rat)) h + vol (sq r) (t - (below : Rat) - (h : Rat)) by grind]
    exact e
theorem e_vol {b : Bowl} {D : Nat} {t : Rat} (hb : bnd b) (hD0 : 0 < D) (hD : D ≤ 2 ^ 400) (ht : Fr D t) (t0 : 0 ≤ t) (t1 : t ≤ (tot (sq b) : Rat)) : F_volume_to [bW b, rW t] = .ok (.val (rW (vol (sq b) t))) := by
  have tb := tot_b hb
  have wb := whole_b hb
  have big := BB_big
  have tB := castB (n := tot (sq b)) (by omega)
  have wB := castB (n := whole (sq b)) (by omega)
  have n7 := bb0
  have okt := okB hD0 hD ht (by grind) (by grind)
  have g0 := e_top hb
  have g1 : F_less [rW t, .tuple [.int 0, .int 1]] = .ok (.val (.bool (decide (t < 0)))) := e_less (q := ((0 : Nat) : Rat)) okt (okN (n := 0) (by omega))
  have g2 : F_less [.tuple [.int (tot (sq b) : Int), .int 1], rW t] = .ok (.val (.bool (decide ((tot (sq b) : Rat) < t)))) := e_less (p := (tot (sq b) : Rat)) (okN (by omega)) okt
  rw [decide_eq_false (by grind)] at g1 g2
  obtain ⟨n, y4, y5, y6, y7, e⟩ := vol_loop (D := D) (t := t) (bW b) hD0 hD ht t0 (by grind) b 0 0 none none none none hb.2 (fr_nat D 0) (by grind) (by grind) (by omega)
  rw [show (0 : Rat) + vol (sq b) (t - ((0 : Nat) : Rat)) = vol (sq b) t by
    have : t - ((0 : Nat) : Rat) = t := by
      have : ((0 : Nat) : Rat) = 0 := rfl
      grind
    rw [this]
    grind] at e
  rw [rw_zero] at e
  refine runV_of ?_
  unfold m_volume_to
  rw [show sdV 8 [bW b, rW t] = [sv (bW b), sv (rW t), none, none, none, none, none, none] from rfl]
  generalize rW t = wt at *
  generalize rW (vol (sq b) t) = wv at *
  refine sqT (d' := [sv (bW b), sv wt, none, none, none, none, none, none]) (by simp [g0, g1, g2]) ?_
  refine sqT (d' := [sv (bW b), sv wt, sv (.tuple [.int 0, .int 1]), iv (0 : Nat), none, none, none, none]) (by simp) ?_
  refine sqT (d' := _) (by rw [ev_for]; simp only [ev_itS, ev_var, List.getElem?_cons_zero, Out.bind, ofOpt, ev_itemsT]; exact e) ?_
  exact retT (by simp; exact rfl)
theorem x_vol {b : Bowl} {t : Rat} (hb : bnd b) (okt : okR t) (ht : t < 0 ∨ (tot (sq b) : Rat) < t) : F_volume_to [bW b, rW t] = .exc 1 := by
  have tb := tot_b hb
  have big := BB_big
  have g0 := e_top hb
  have g1 : F_less [rW t, .tuple [.int 0, .int 1]] = .ok (.val (.bool (decide (t < 0)))) := e_less (q := ((0 : Nat) : Rat)) okt (okN (n := 0) (by omega))
  have g2 : F_less [.tuple [.int (tot (sq b) : Int), .int 1], rW t] = .ok (.val (.bool (decide ((tot (sq b) : Rat) < t)))) := e_less (p := (tot (sq b) : Rat)) (okN (by omega)) okt
  refine runV_exc ?_
  unfold m_volume_to
  rw [show sdV 8 [bW b, rW t] = [sv (bW b), sv (rW t), none, none, none, none, none, none] from rfl]
  by_cases c : t < 0
  · rw [decide_eq_true c] at g1
    generalize rW t = wt at *
    exact sqX1 (by simp [g0, g1]; exact rfl)
  · have c2 := ht.resolve_left c
    rw [decide_eq_false c] at g1
    rw [decide_eq_true c2] at g2
    generalize rW t = wt at *
    exact sqX1 (by simp [g0, g1, g2]; exact rfl)
end K34
end
section
set_option Elab.async false
set_option linter.all false
set_option maxRecDepth 100000
set_option maxHeartbeats 4000000
/-! k34: the level for a volume -/
namespace K34
open Qd PySem L2
theorem inv_mk {s : Nat} (v : Rat) : v * mkRat 1 s = v / (s : Rat) := by
  rw [Rat.mkRat_eq_div]
  show v * ((1 : Rat) / (s : Rat)) = _
  grind
theorem fr_inv {D s : Nat} {v : Rat} (hs : 0 < s) (h : Fr D v) : Fr (D * s) (v / (s : Rat)) := by
  obtain ⟨n, hn⟩ := h
  refine ⟨n, ?_⟩
  rw [← hn, natR_mul]
  have := natR_pos hs
  have h0 : (s : Rat) ≠ 0 := by grind
  grind
/-- what is done at a ring at which the volume ends -/
theorem end_ok {D s h below : Nat} {v : Rat} (hD0 : 0 < D) (hD : D ≤ BB) (hs : 0 < s) (hs1 : s ≤ 4000) (hh : h ≤ 1000) (hb : below ≤ 100000) (ff : Fr D v) (v0 : 0 ≤ v) (v1 : v ≤ ((s * h : Nat) : Rat)) :
    F_made [.int 1, .int (s : Int)] = .ok (.val (rW (mkRat 1 s))) ∧ F_times [rW v, rW (mkRat 1 s)] = .ok (.val (rW (v / (s : Rat)))) ∧ F_plus [.tuple [.int (below : Int), .int 1], rW (v / (s : Rat))] = .ok (.val (rW ((below : Rat) + v / (s : Rat)))) := by
  have big := BB_big
  have hB := BB_le
  have hDs : D * s ≤ 2 ^ 400 := by
    have h1 : D * s ≤ 2 ^ 300 * 2 ^ 12 := Nat.mul_le_mul hD (by omega)
    rw [← Nat.pow_add] at h1
    exact Nat.le_trans h1 (Nat.pow_le_pow_right (by decide) (by decide))
  have hs2 : s < 2 ^ 64 := by omega
  have n5 := castB (n := s * h) (by have := Nat.mul_le_mul hs1 hh; omega)
  have n7 := bb0
  have okv := okB hD0 (Nat.le_trans hD hB) ff (by grind) (by grind)
  have fi : Fr s (mkRat 1 s) := fr_mk 1 hs
  have i0 : 0 ≤ mkRat 1 s := by
    have := divR_nonneg hs (v := 1) (by decide)
    rw [← inv_mk] at this
    grind
  have i1 : mkRat 1 s ≤ (1 : Nat) := by
    have : (1 : Rat) ≤ ((s * 1 : Nat) : Rat) := by rw [Nat.mul_one]; exact_mod_cast hs
    have := divR_le hs (v := 1) this
    rw [← inv_mk] at this
    grind
  have n1 := castB (n := 1) (by omega)
  have oki := okB hs (by omega) fi (by grind) (by grind)
  have q0 := divR_nonneg hs v0
  have q1 := divR_le hs v1
  have n2 := castB (n := h) (by omega)
  have okq := okB (Nat.mul_pos hD0 hs) hDs (fr_inv hs ff) (by grind) (by grind)
  have g2 := e_times okv oki
  rw [inv_mk] at g2
  exact ⟨e_made (a := 1) hs (Nat.lt_trans hs2 (Nat.pow_lt_pow_right (by decide) (by decide))), g2, e_plus (okN (n := below) (by omega)) okq⟩
theorem lev_loop {D : Nat} (w0 w1 : W) (hD0 : 0 < D) (hD : D ≤ BB) : ∀ (r : Bowl) (v : Rat) (below : Nat) (x4 x5 x6 : Option W), (∀ p ∈ r, ringOk p) → Fr D v → 0 ≤ v → v ≤ ((2 ^ 50 : Nat) : Rat) → below + tot (sq r) ≤ 1000 →
    (∃ d', forD (gTupW 2 (gsCons (store 4) (gsCons (store 5) gsNil))) (mSeq (mAsg (store 6) (mTup (mCons (mBin mulW (mBin mulW (mVar 4) (mVar 4)) (mVar 5)) (mCons (mC (.int 1)) mNil)))) (mSeq (mIf (mNotT (mTruth (mCallV F_less (mCons (mVar 6) (mCons (mVar 2) mNil))))) (mRet (mCallV F_plus (mCons (mTup (mCons (mVar 3) (mCons (mC (.int 1)) mNil))) (mCons (mCallV F_times (mCons (mVar 2) (mCons (mCallV F_made (mCons (mC (.int 1)) (mCons (mBin mulW (mVar 4) (mVar 4)) mNil))) mNil))) mNil)))) mSkip) (mSeq (mAsg (store 2) (mCallV F_minus (mCons (mVar 2) (mCons (mVar 6) mNil)))) (mAug (i2 (fun _ _ => true) fun i j => i + j) 3 (mVar 5))))) (r.map pr) [sv w0, sv w1, sv (rW v), iv below, x4.map Slot.val, x5.map Slot.val, x6.map Slot.val] = .ret (.val (rW ((below : Rat) + lev (sq r) v))) d') ∨
      ∃ (n : Nat) (wl : W) (y4 y5 y6 : Option W), (n : Rat) = (below : Rat) + lev (sq r) v ∧ forD (gTupW 2 (gsCons (store 4) (gsCons (store 5) gsNil))) (mSeq (mAsg (store 6) (mTup (mCons (mBin mulW (mBin mulW (mVar 4) (mVar 4)) (mVar 5)) (mCons (mC (.int 1)) mNil)))) (mSeq (mIf (mNotT (mTruth (mCallV F_less (mCons (mVar 6) (mCons (mVar 2) mNil))))) (mRet (mCallV F_plus (mCons (mTup (mCons (mVar 3) (mCons (mC (.int 1)) mNil))) (mCons (mCallV F_times (mCons (mVar 2) (mCons (mCallV F_made (mCons (mC (.int 1)) (mCons (mBin mulW (mVar 4) (mVar 4)) mNil))) mNil))) mNil)))) mSkip) (mSeq (mAsg (store 2) (mCallV F_minus (mCons (mVar 2) (mCons (mVar 6) mNil)))) (mAug (i2 (fun _ _ => true) fun i j => i + j) 3 (mVar 5))))) (r.map pr) [sv w0, sv w1, sv (rW v), iv below, x4.map Slot.val, x5.map Slot.val, x6.map Slot.val] = .next [sv w0, sv w1, sv wl, iv n, y4.map Slot.val, y5.map Slot.val, y6.map Slot.val]
  | [], v, below, x4, x5, x6, _, _, _, _, _ => .inr ⟨below, rW v, x4, x5, x6, by show (below : Rat) = (below : Rat) + 0; grind, rfl⟩
  | (a, h) :: r, v, below, x4, x5, x6, hb, ff, v0, v1, b1 => by
    have rk := hb (a, h) List.mem_cons_self
    obtain ⟨m1, m2⟩ := mulS rk
    obtain ⟨q1, q2⟩ := ring_whole rk
    obtain ⟨ra1, ra2, rh1, rh2⟩ := rk
    dsimp only at ra1 ra2 rh1 rh2 m1 m2 q1 q2
    have tp : tot (sq ((a, h) :: r)) = h + tot (sq r) := rfl
    rw [tp] at b1
    have big := BB_big
    have hB := BB_le
    have n1 := castB (n := 2 ^ 50) (by omega)
    have n7 := bb0
    have okv := okB hD0 (Nat.le_trans hD hB) ff (by grind) (by grind)
    have okf := okN (n := a * a * h) (by omega)
    have g1 : F_less [.tuple [.int ((a * a * h : Nat) : Int), .int 1], rW v] = .ok (.val (.bool (decide (((a * a * h : Nat) : Rat) < v)))) := e_less okf okv
    have hs : (gTupW 2 (gsCons (store 4) (gsCons (store 5) gsNil))) (pr (a, h)) [sv w0, sv w1, sv (rW v), iv below, x4.map Slot.val, x5.map Slot.val, x6.map Slot.val] = some [sv w0, sv w1, sv (rW v), iv below, iv a, iv h, x6.map Slot.val] := by
      generalize rW v = wv at *
      cases x4 <;> cases x5 <;> simp [pr]
    have el : lev (sq ((a, h) :: r)) v = if v ≤ ((a * a * h : Nat) : Rat) then v / ((a * a : Nat) : Rat) else (h : Rat) + lev (sq r) (v - ((a * a * h : Nat) : Rat)) := rfl
    by_cases c : v ≤ ((a * a * h : Nat) : Rat)
    · rw [decide_eq_false (by grind)] at g1
      obtain ⟨f1, f2, f3⟩ := end_ok (below := below) hD0 hD (Nat.mul_pos ra1 ra1) (by omega) (by omega) (by omega) ff v0 c
      rw [el, if_pos c]
      have st : (mSeq (mAsg (store 6) (mTup (mCons (mBin mulW (mBin mulW (mVar 4) (mVar 4)) (mVar 5)) (mCons (mC (.int 1)) mNil)))) (mSeq (mIf (mNotT (mTruth (mCallV F_less (mCons (mVar 6) (mCons (mVar 2) mNil))))) (mRet (mCallV F_plus (mCons (mTup (mCons (mVar 3) (mCons (mC (.int 1)) mNil))) (mCons (mCallV F_times (mCons (mVar 2) (mCons (mCallV F_made (mCons (mC (.int 1)) (mCons (mBin mulW (mVar 4) (mVar 4)) mNil))) mNil))) mNil)))) mSkip) (mSeq (mAsg (store 2) (mCallV F_minus (mCons (mVar 2) (mCons (mVar 6) mNil)))) (mAug (i2 (fun _ _ => true) fun i j => i + j) 3 (mVar 5))))) [sv w0, sv w1, sv (rW v), iv below, iv a, iv h, x6.map Slot.val] = .ret (.val (rW ((below : Rat) + v / ((a * a : Nat) : Rat)))) [sv w0, sv w1, sv (rW v), iv below, iv a, iv h, sv (.tuple [.int ((a * a * h : Nat) : Int), .int 1])] := by
        generalize rW ((below : Rat) + v / ((a * a : Nat) : Rat)) = w3 at *
        generalize rW (v / ((a * a : Nat) : Rat)) = w2 at *
        generalize rW (mkRat 1 (a * a)) = wi at *
        generalize rW v = wv at *
        refine sqN (d' := [sv w0, sv w1, sv wv, iv below, iv a, iv h, sv (.tuple [.int ((a * a * h : Nat) : Int), .int 1])]) (by cases x6 <;> simp [m1, m2, -Int.natCast_mul]) ?_
        rw [ev_seq]
        simp [m1, g1, f1, f2, f3, -Int.natCast_mul]
      exact .inl ⟨_, for_ret hs st⟩
    · rw [decide_eq_true (by grind)] at g1
      have g2 : F_minus [rW v, .tuple [.int ((a * a * h : Nat) : Int), .int 1]] = .ok (.val (rW (v - ((a * a * h : Nat) : Rat)))) := e_minus okv okf
      have st : (mSeq (mAsg (store 6) (mTup (mCons (mBin mulW (mBin mulW (mVar 4) (mVar 4)) (mVar 5)) (mCons (mC (.int 1)) mNil)))) (mSeq (mIf (mNotT (mTruth (mCallV F_less (mCons (mVar 6) (mCons (mVar 2) mNil))))) (mRet (mCallV F_plus (mCons (mTup (mCons (mVar 3) (mCons (mC (.int 1)) mNil))) (mCons (mCallV F_times (mCons (mVar 2) (mCons (mCallV F_made (mCons (mC (.int 1)) (mCons (mBin mulW (mVar 4) (mVar 4)) mNil))) mNil))) mNil)))) mSkip) (mSeq (mAsg (store 2) (mCallV F_minus (mCons (mVar 2) (mCons (mVar 6) mNil)))) (mAug (i2 (fun _ _ => true) fun i j => i + j) 3 (mVar 5))))) [sv w0, sv w1, sv (rW v), iv below, iv a, iv h, x6.map Slot.val] = .next [sv w0, sv w1, sv (rW (v - ((a * a * h : Nat) : Rat))), iv (below + h), iv a, iv h, sv (.tuple [.int ((a * a * h : Nat) : Int), .int 1])] := by
        generalize rW (v - ((a * a * h : Nat) : Rat)) = w2 at *
        generalize rW v = wv at *
        refine sqN (d' := [sv w0, sv w1, sv wv, iv below, iv a, iv h, sv (.tuple [.int ((a * a * h : Nat) : Int), .int 1])]) (by cases x6 <;> simp [m1, m2, -Int.natCast_mul]) ?_
        simp [g1, g2, -Int.natCast_mul]
      have n8 := natR_nonneg (a * a * h)
      have e3 : ((below + h : Nat) : Rat) + lev (sq r) (v - ((a * a * h : Nat) : Rat)) = (below : Rat) + lev (sq ((a, h) :: r)) v := by rw [el, if_neg c, natR_add]; grind
      have ih := lev_loop w0 w1 hD0 hD r (v - ((a * a * h : Nat) : Rat)) (below + h) (some (.int (a : Int))) (some (.int (h : Int))) (some (.tuple [.int ((a * a * h : Nat) : Int), .int 1])) (fun q hq => hb q (List.mem_cons_of_mem _ hq)) (fr_sub ff (fr_nat D _)) (by grind) (by grind) (by omega)
      rw [e3] at ih
      rw [show List.map pr ((a, h) :: r) = pr (a, h) :: r.map pr from rfl, for_step hs st]
      exact ih
theorem e_lev {b : Bowl} {D : Nat} {v : Rat} (hb : bnd b) (hD0 : 0 < D) (hD : D ≤ BB) (hv : Fr D v) (v0 : 0 ≤ v) (v1 : v ≤ (whole (sq b) : Rat)) : F_level_for [bW b, rW v] = .ok (.val (rW (lev (sq b) v))) := by
  have tb := tot_b hb
  have wb := whole_b hb
  have big := BB_big
  have hB := BB_le
  have wB := castB (n := whole (sq b)) (by omega)
  have n7 := bb0
  have okv := okB hD0 (Nat.le_trans hD hB) hv (by grind) (by grind)
  have g0 := e_whole hb
  have g1 : F_less [rW v, .tuple [.int 0, .int 1]] = .ok (.val (.bool (decide (v < 0)))) := e_less (q := ((0 : Nat) : Rat)) okv (okN (n := 0) (by omega))
  have g2 : F_less [.tuple [.int (whole (sq b) : Int), .int 1], rW v] = .ok (.val (.bool (decide ((whole (sq b) : Rat) < v)))) := e_less (p := (whole (sq b) : Rat)) (okN (by omega)) okv
  rw [decide_eq_false (by grind)] at g1 g2
  have w50 : (whole (sq b) : Rat) ≤ ((2 ^ 50 : Nat) : Rat) := by
    have : whole (sq b) ≤ 2 ^ 50 := by omega
    exact_mod_cast this
  have e := lev_loop (D := D) (bW b) (rW v) hD0 hD b v 0 none none none hb.2 hv v0 (by grind) (by omega)
  rw [show ((0 : Nat) : Rat) + lev (sq b) v = lev (sq b) v by
    have : ((0 : Nat) : Rat) = 0 := rfl
    grind] at e
  refine runV_of ?_
  unfold m_level_for
  rw [show sdV 7 [bW b, rW v] = [sv (bW b), sv (rW v), none, none, none, none, none] from rfl]
  generalize rW v = wv at *
  refine sqT (d' := [sv (bW b), sv wv, none, none, none, none, none]) (by simp [g0, g1, g2]) ?_
  refine sqT (d' := [sv (bW b), sv wv, sv wv, iv (0 : Nat), none, none, none]) (by simp) ?_
  rcases e with ⟨d', e⟩ | ⟨n, wl, y4, y5, y6, en, e⟩
  · generalize rW (lev (sq b) v) = wr at *
    exact sqT1 (d' := d') (by rw [ev_for]; simp only [ev_itS, ev_var, List.getElem?_cons_zero, Out.bind, ofOpt, ev_itemsT]; exact e)
  · rw [← en, rw_nat]
    refine sqT (d' := _) (by rw [ev_for]; simp only [ev_itS, ev_var, List.getElem?_cons_zero, Out.bind, ofOpt, ev_itemsT]; exact e) ?_
    exact retT (by simp; exact rfl)
theorem x_lev {b : Bowl} {v : Rat} (hb : bnd b) (okv : okR v) (hv : v < 0 ∨ (whole (sq b) : Rat) < v) : F_level_for [bW b, rW v] = .exc 1 := by
  have tb := whole_b hb
  have big := BB_big
  have g0 := e_whole hb
  have g1 : F_less [rW v, .tuple [.int 0, .int 1]] = .ok (.val (.bool (decide (v < 0)))) := e_less (q := ((0 : Nat) : Rat)) okv (okN (n := 0) (by omega))
  have g2 : F_less [.tuple [.int (whole (sq b) : Int), .int 1], rW v] = .ok (.val (.bool (decide ((whole (sq b) : Rat) < v)))) := e_less (p := (whole (sq b) : Rat)) (okN (by omega)) okv
  refine runV_exc ?_
  unfold m_level_for
  rw [show sdV 7 [bW b, rW v] = [sv (bW b), sv (rW v), none, none, none, none, none] from rfl]
  by_cases c : v < 0
  · rw [decide_eq_true c] at g1
    generalize rW v = wv at *
    exact sqX1 (by simp [g0, g1]; exact rfl)
  · have c2 := hv.resolve_left c
    rw [decide_eq_false c] at g1
    rw [decide_eq_true c2] at g2
    generalize rW v = wv at *
    exact sqX1 (by simp [g0, g1, g2]; exact rfl)
end K34
end
section
set_option Elab.async false
set_option linter.all false
set_option maxRecDepth 100000
set_option maxHeartbeats 4000000
/-! k34: two bowls joined -/
namespace K34
open Qd PySem L2
/-! ### the dict of the ends -/
def kD (ks : List Nat) : W := .dict (ks.map fun k : Nat => (PyData.int (k : Int), PyData.bool true))
def ins (ks : List Nat) (k : Nat) : List Nat := if k ∈ ks then ks else ks ++ [k]
def insAll : List Nat → List Nat → List Nat
  | ks, [] => ks
  | ks, k :: l => insAll (ins ks k) l
theorem dkind_kD (ks : List Nat) : dkind (ks.map fun k : Nat => (PyData.int (k : Int), PyData.bool true)) = some (false, ks.map fun k : Nat => (PyData.int (k : Int), PyData.bool true)) := by
  cases ks <;> rfl
theorem dput_kD (ks : List Nat) (k : Nat) (h : ks.length < 16000000) : dput (kD ks) (.int (k : Int)) (.bool true) = some (kD (ins ks k)) := by
  unfold kD dput
  dsimp only
  rw [dkind_kD]
  dsimp only
  show (if (ks.map _).length < sizeLine then some (PyData.dict (putG isK keyD _ (Sum.inl (k : Int)) _)) else none) = _
  rw [List.length_map, if_pos (lt_line h)]
  congr 2
  unfold putG ins
  rw [List.any_map]
  have e : ((fun kv : W × W => decide (isK kv.1 = some (Sum.inl (k : Int)))) ∘ fun p : Nat => (PyData.int (p : Int), PyData.bool true)) = fun p => p == k := by
    funext p; exact key_eq p k
  rw [e]
  by_cases q : k ∈ ks
  · have q' : (ks.any fun p => p == k) = true := List.any_eq_true.mpr ⟨k, q, by simp⟩
    rw [if_pos q', if_pos q, List.map_map]
    apply List.map_congr_left
    intro p _
    show (if isK (PyData.int (p : Int)) = some (Sum.inl (k : Int)) then (PyData.int (p : Int), PyData.bool true) else (PyData.int (p : Int), PyData.bool true)) = _
    split <;> rfl
  · have q' : ¬ (ks.any fun p => p == k) = true := fun z => by
      obtain ⟨x, hx, e⟩ := List.any_eq_true.mp z
      have : x = k := by simpa using e
      subst this
      exact q hx
    rw [if_neg q', if_neg q, List.map_append]
    rfl
theorem mem_ins {ks : List Nat} {k x : Nat} : x ∈ ins ks k ↔ x ∈ ks ∨ x = k := by
  unfold ins
  by_cases h : k ∈ ks
  · rw [if_pos h]
    exact ⟨.inl, fun z => z.elim id fun e => e ▸ h⟩
  · rw [if_neg h, List.mem_append, List.mem_singleton]
theorem nodup_ins {ks : List Nat} {k : Nat} (h : ks.Nodup) : (ins ks k).Nodup := by
  unfold ins
  by_cases q : k ∈ ks
  · rw [if_pos q]; exact h
  · rw [if_neg q, List.nodup_append]
    refine ⟨h, by simp, fun a ha b hb => ?_⟩
    rw [List.mem_singleton] at hb
    rintro rfl
    exact q (hb ▸ ha)
theorem len_ins (ks : List Nat) (k : Nat) : (ins ks k).length ≤ ks.length + 1 := by
  unfold ins
  split
  · omega
  · simp
theorem mem_insAll : ∀ {l ks : List Nat} {x : Nat}, x ∈ insAll ks l ↔ x ∈ ks ∨ x ∈ l
  | [], ks, x => ⟨.inl, fun h => h.elim id fun z => by cases z⟩
  | k :: l, ks, x => by
    show x ∈ insAll (ins ks k) l ↔ _
    rw [mem_insAll, mem_ins, List.mem_cons]
    exact or_assoc
theorem nodup_insAll : ∀ {l ks : List Nat}, ks.Nodup → (insAll ks l).Nodup
  | [], _, h => h
  | _ :: l, _, h => nodup_insAll (l := l) (nodup_ins h)
theorem len_insAll : ∀ (l ks : List Nat), (insAll ks l).length ≤ ks.length + l.length
  | [], ks => by show ks.length ≤ _; omega
  | k :: l, ks => by
    have := len_insAll l (ins ks k)
    have := len_ins ks k
    show (insAll (ins ks k) l).length ≤ _
    rw [List.length_cons]
    omega
theorem len_ends : ∀ (r : Rings) (b : Nat), (endsF r b).length = r.length
  | [], _ => rfl
  | (_, h) :: r, b => by
    show (endsF r (b + h)).length + 1 = _
    rw [len_ends r, List.length_cons]
theorem dict_loop (w0 w1 w3 : W) : ∀ (r : Bowl) (below : Nat) (ks : List Nat) (x5 x6 : Option W), ks.length + r.length ≤ 1000 →
    ∃ (n : Nat) (y5 y6 : Option W), forD (gTupW 2 (gsCons (store 5) (gsCons (store 6) gsNil))) (mSeq (mAug (i2 (fun _ _ => true) fun i j => i + j) 4 (mVar 6)) (mSetIx dput 2 (mVar 4) (mC (.bool true)))) (r.map pr) [sv w0, sv w1, some (.own (kD ks)), sv w3, iv below, x5.map Slot.val, x6.map Slot.val, none, none, none] = .next [sv w0, sv w1, some (.own (kD (insAll ks (endsF (sq r) below)))), sv w3, iv n, y5.map Slot.val, y6.map Slot.val, none, none, none]
  | [], below, ks, x5, x6, _ => ⟨below, x5, x6, rfl⟩
  | (a, h) :: r, below, ks, x5, x6, hl => by
    rw [List.length_cons] at hl
    have dp := dput_kD ks (below + h) (by omega)
    rw [Int.natCast_add] at dp
    have li := len_ins ks (below + h)
    have hs : (gTupW 2 (gsCons (store 5) (gsCons (store 6) gsNil))) (pr (a, h)) [sv w0, sv w1, some (.own (kD ks)), sv w3, iv below, x5.map Slot.val, x6.map Slot.val, none, none, none] = some [sv w0, sv w1, some (.own (kD ks)), sv w3, iv below, iv a, iv h, none, none, none] := by
      generalize kD ks = wk at *
      cases x5 <;> cases x6 <;> simp [pr]
    have st : (mSeq (mAug (i2 (fun _ _ => true) fun i j => i + j) 4 (mVar 6)) (mSetIx dput 2 (mVar 4) (mC (.bool true)))) [sv w0, sv w1, some (.own (kD ks)), sv w3, iv below, iv a, iv h, none, none, none] = .next [sv w0, sv w1, some (.own (kD (ins ks (below + h)))), sv w3, iv (below + h), iv a, iv h, none, none, none] := by
      generalize kD (ins ks (below + h)) = wk2 at *
      generalize kD ks = wk at *
      simp [dp]
    rw [show List.map pr ((a, h) :: r) = pr (a, h) :: r.map pr from rfl, for_step hs st]
    exact dict_loop w0 w1 w3 r (below + h) (ins ks (below + h)) (some (.int (a : Int))) (some (.int (h : Int))) (by omega)
theorem keys_kD : ∀ ks : List Nat, intKeys (ks.map fun k : Nat => (PyData.int (k : Int), PyData.bool true)) = some (ks.map fun n : Nat => (n : Int))
  | [] => rfl
  | k :: ks => by
    show (intKeys (ks.map fun k : Nat => (PyData.int (k : Int), PyData.bool true))).map ((k : Int) :: ·) = _
    rw [keys_kD ks]
    rfl
theorem asc_of : ∀ {es : List Nat} {l : Nat}, es.Pairwise (· < ·) → (∀ x ∈ es, l < x) → asc l es
  | [], _, _, _ => trivial
  | e :: es, l, h, h0 => ⟨h0 e List.mem_cons_self, asc_of (List.pairwise_cons.mp h).2 (List.pairwise_cons.mp h).1⟩
theorem es_of (ks : List Nat) (hn : ks.Nodup) (hp : ∀ k ∈ ks, 0 < k) : ∃ es : List Nat, sortI (ks.map fun n : Nat => (n : Int)) = es.map (fun n : Nat => (n : Int)) ∧ asc 0 es ∧ (∀ x, x ∈ es ↔ x ∈ ks) ∧ es.length = ks.length := by
  have pm := sortI_perm (ks.map fun n : Nat => (n : Int))
  have so := sortI_sorted (ks.map fun n : Nat => (n : Int))
  generalize sortI (ks.map fun n : Nat => (n : Int)) = zs at *
  have hz : ∀ z ∈ zs, ∃ k ∈ ks, z = (k : Int) := fun z hz => by
    obtain ⟨k, hk, e⟩ := List.mem_map.mp (pm.mem_iff.mp hz)
    exact ⟨k, hk, e.symm⟩
  have nd : zs.Nodup := pm.nodup_iff.mpr (List.pairwise_map.mpr (hn.imp fun h e => h (by omega)))
  have e1 : zs = (zs.map Int.toNat).map (fun n : Nat => (n : Int)) := by
    rw [List.map_map]
    have : zs.map ((fun n : Nat => (n : Int)) ∘ Int.toNat) = zs.map id := List.map_congr_left fun z hz' => by obtain ⟨k, _, rfl⟩ := hz z hz'; rfl
    rw [this, List.map_id]
  refine ⟨zs.map Int.toNat, e1, ?_, fun x => ?_, by rw [List.length_map, pm.length_eq, List.length_map]⟩
  · refine asc_of ?_ fun x hx => ?_
    · rw [List.pairwise_map]
      refine (so.and nd).imp_of_mem fun {a b} ha hb h => ?_
      obtain ⟨k, _, rfl⟩ := hz a ha
      obtain ⟨j, _, rfl⟩ := hz b hb
      have h1 := h.1
      have h2 : (k : Int) ≠ (j : Int) := h.2
      show (k : Int).toNat < (j : Int).toNat
      omega
    · obtain ⟨z, hz', rfl⟩ := List.mem_map.mp hx
      obtain ⟨k, hk, rfl⟩ := hz z hz'
      have := hp k hk
      show 0 < (k : Int).toNat
      omega
  · constructor
    · intro h
      obtain ⟨z, hz', rfl⟩ := List.mem_map.mp h
      obtain ⟨k, hk, rfl⟩ := hz z hz'
      exact hk
    · intro h
      have : (x : Int) ∈ zs := pm.mem_iff.mpr (List.mem_map.mpr ⟨x, h, rfl⟩)
      exact List.mem_map.mpr ⟨_, this, rfl⟩
theorem list_loop {a b : Bowl} (ha : bnd a) (hb : bnd b) (w2 w3 : W) (o4 o5 o6 : Option Slot) : ∀ (es : List Nat) (l : Nat) (acc : Rings) (x9 : Option W), asc l es → acc.length + es.length ≤ 1000 →
    ∃ (n : Nat) (y9 : Option W), forD (store 9) (mSeq (mDrop (mMeth "list" appendW 7 (mCons (mTup (mCons (mBin addW (mCallV F_square_at (mCons (mVar 0) (mCons (mVar 8) mNil))) (mCallV F_square_at (mCons (mVar 1) (mCons (mVar 8) mNil)))) (mCons (mBin subW (mVar 9) (mVar 8)) mNil))) mNil))) (mAsg (store 8) (mVar 9))) (natW es) [sv (bW a), sv (bW b), sv w2, sv w3, o4, o5, o6, some (.own (.list (acc.map pr))), iv l, x9.map Slot.val] = .next [sv (bW a), sv (bW b), sv w2, sv w3, o4, o5, o6, some (.own (.list ((acc ++ joinJ (sq a) (sq b) l es).map pr))), iv n, y9.map Slot.val]
  | [], l, acc, x9, _, _ => ⟨l, x9, by
    show _ = SOut.next _
    rw [show joinJ (sq a) (sq b) l [] = [] from rfl, List.append_nil]
    rfl⟩
  | e :: es, l, acc, x9, has, hl => by
    obtain ⟨a1, a2⟩ := has
    rw [List.length_cons] at hl
    have f1 := e_sqat ha l
    have f2 := e_sqat hb l
    have lt : (acc.map pr).length < sizeLine := by rw [List.length_map]; exact lt_line (by omega)
    have es' : (e : Int) - (l : Int) = ((e - l : Nat) : Int) := by omega
    have st : (mSeq (mDrop (mMeth "list" appendW 7 (mCons (mTup (mCons (mBin addW (mCallV F_square_at (mCons (mVar 0) (mCons (mVar 8) mNil))) (mCallV F_square_at (mCons (mVar 1) (mCons (mVar 8) mNil)))) (mCons (mBin subW (mVar 9) (mVar 8)) mNil))) mNil))) (mAsg (store 8) (mVar 9))) [sv (bW a), sv (bW b), sv w2, sv w3, o4, o5, o6, some (.own (.list (acc.map pr))), iv l, iv e] = .next [sv (bW a), sv (bW b), sv w2, sv w3, o4, o5, o6, some (.own (.list ((acc ++ [(sqAt (sq a) l + sqAt (sq b) l, e - l)]).map pr))), iv e, iv e] := by
      rw [List.map_append, show List.map pr [(sqAt (sq a) l + sqAt (sq b) l, e - l)] = [PyData.tuple [.int ((sqAt (sq a) l : Nat) + (sqAt (sq b) l : Nat) : Int), .int ((e - l : Nat) : Int)]] by rw [← Int.natCast_add]; rfl]
      generalize sqAt (sq a) l = z1 at *
      generalize sqAt (sq b) l = z2 at *
      generalize acc.map pr = wl at *
      generalize bW a = wa at *
      generalize bW b = wb at *
      refine sqN (d' := [sv wa, sv wb, sv w2, sv w3, o4, o5, o6, some (.own (.list (wl ++ [PyData.tuple [.int ((z1 : Int) + (z2 : Int)), .int ((e - l : Nat) : Int)]]))), iv l, iv e]) (by simp [f1, f2, lt, es']) ?_
      simp
    rw [show natW (e :: es) = PyData.int (e : Int) :: natW es from rfl, for_step (d1 := [sv (bW a), sv (bW b), sv w2, sv w3, o4, o5, o6, some (.own (.list (acc.map pr))), iv l, iv e]) (by cases x9 <;> simp) st]
    obtain ⟨n, y9, h⟩ := list_loop ha hb w2 w3 o4 o5 o6 es e (acc ++ [(sqAt (sq a) l + sqAt (sq b) l, e - l)]) (some (.int (e : Int))) a2 (by rw [List.length_append, List.length_singleton]; omega)
    refine ⟨n, y9, ?_⟩
    rw [List.append_assoc] at h
    exact h
end K34
end
section
set_option Elab.async false
set_option linter.all false
set_option maxRecDepth 100000
set_option maxHeartbeats 4000000
/-! k34: the level of two that are joined -/
namespace K34
open Qd PySem L2
theorem mem_ends {b : Bowl} (hb : bnd b) {p : Nat} (h : p ∈ endsF (sq b) 0) : 0 < p ∧ p ≤ tot (sq b) := by
  have h1 := ends_gt (bnd_good hb) h
  have h2 := ends_le h
  omega
theorem e_joined {a b : Bowl} (ha : bnd a) (hb : bnd b) : ∃ es : List Nat, asc 0 es ∧ (∀ p, p ∈ es ↔ p ∈ endsF (sq a) 0 ++ endsF (sq b) 0) ∧ F_joined [bW a, bW b] = .ok (.val (.list ((joinJ (sq a) (sq b) 0 es).map pr))) := by
  have la := len_ends (sq a) 0
  have lb := len_ends (sq b) 0
  rw [show (sq a).length = a.length from List.length_map ..] at la
  rw [show (sq b).length = b.length from List.length_map ..] at lb
  have a8 := ha.1
  have b8 := hb.1
  have l1 := len_insAll (endsF (sq a) 0) []
  have l2 := len_insAll (endsF (sq b) 0) (insAll [] (endsF (sq a) 0))
  rw [List.length_nil] at l1
  have nd : (insAll (insAll [] (endsF (sq a) 0)) (endsF (sq b) 0)).Nodup := nodup_insAll (nodup_insAll List.nodup_nil)
  have mm : ∀ x, x ∈ insAll (insAll [] (endsF (sq a) 0)) (endsF (sq b) 0) ↔ x ∈ endsF (sq a) 0 ++ endsF (sq b) 0 := fun x => by
    rw [mem_insAll, mem_insAll, List.mem_append]
    simp
  obtain ⟨es, e1, e2, e3, e4⟩ := es_of _ nd fun k hk => by
    rcases List.mem_append.mp ((mm k).mp hk) with z | z
    · exact (mem_ends ha z).1
    · exact (mem_ends hb z).1
  refine ⟨es, e2, fun p => by rw [e3, mm], ?_⟩
  obtain ⟨n1, y5, y6, d1⟩ := dict_loop (bW a) (bW b) (bW a) a 0 [] none none (by simp; omega)
  obtain ⟨n2, z5, z6, d2⟩ := dict_loop (bW a) (bW b) (bW b) b 0 (insAll [] (endsF (sq a) 0)) y5 y6 (by omega)
  obtain ⟨n3, y9, d3⟩ := list_loop ha hb (kD (insAll (insAll [] (endsF (sq a) 0)) (endsF (sq b) 0))) (bW b) (iv n2) (z5.map Slot.val) (z6.map Slot.val) es 0 [] none e2 (by simp; omega)
  rw [List.nil_append] at d3
  have kk := keys_kD (insAll (insAll [] (endsF (sq a) 0)) (endsF (sq b) 0))
  have so : ∀ d : SD, d[2]? = some (sv (kD (insAll (insAll [] (endsF (sq a) 0)) (endsF (sq b) 0)))) → mItS (mSortedD (mCons (mVar 2) mNil)) d = .ok (natW es) d := fun d hd => by
    have h1 : mSortedD (mCons (mVar 2) mNil) d = .ok (.list (natW es)) d := by
      unfold mSortedD
      rw [ev_cons, ev_var, hd]
      dsimp only [Out.bind, ev_nil]
      unfold kD
      dsimp only
      rw [kk]
      dsimp only
      rw [if_pos (by rw [List.length_map]; omega), e1]
      show Out.ok (PyData.list (List.map PyData.int (List.map (fun n : Nat => (n : Int)) es))) d = _
      rw [List.map_map]
      rfl
    rw [ev_itS, h1]
    rfl
  generalize insAll (insAll [] (endsF (sq a) 0)) (endsF (sq b) 0) = k2 at *
  generalize insAll [] (endsF (sq a) 0) = k1 at *
  generalize joinJ (sq a) (sq b) 0 es = J at *
  refine runV_of ?_
  unfold m_joined
  rw [show sdV 10 [bW a, bW b] = [sv (bW a), sv (bW b), none, none, none, none, none, none, none, none] from rfl]
  refine sqT (d' := [sv (bW a), sv (bW b), some (.own (kD [])), none, none, none, none, none, none, none]) (by simp [kD]) ?_
  refine sqT (d' := [sv (bW a), sv (bW b), some (.own (kD k2)), sv (bW b), iv n2, z5.map Slot.val, z6.map Slot.val, none, none, none]) ?_ ?_
  · rw [ev_for, show mItS (mTup (mCons (mVar 0) (mCons (mVar 1) mNil))) [sv (bW a), sv (bW b), some (.own (kD [])), none, none, none, none, none, none, none] = .ok [bW a, bW b] [sv (bW a), sv (bW b), some (.own (kD [])), none, none, none, none, none, none, none] by simp]
    dsimp only [Out.toS]
    rw [for_step (d1 := [sv (bW a), sv (bW b), some (.own (kD [])), sv (bW a), none, none, none, none, none, none]) (d2 := [sv (bW a), sv (bW b), some (.own (kD k1)), sv (bW a), iv n1, y5.map Slot.val, y6.map Slot.val, none, none, none]) (by simp) ?_, for_step (d1 := [sv (bW a), sv (bW b), some (.own (kD k1)), sv (bW b), iv n1, y5.map Slot.val, y6.map Slot.val, none, none, none]) (d2 := [sv (bW a), sv (bW b), some (.own (kD k2)), sv (bW b), iv n2, z5.map Slot.val, z6.map Slot.val, none, none, none]) (by simp) ?_]
    · rfl
    · refine sqN (d' := [sv (bW a), sv (bW b), some (.own (kD k1)), sv (bW b), iv (0 : Nat), y5.map Slot.val, y6.map Slot.val, none, none, none]) (by simp) ?_
      rw [ev_for]
      simp only [ev_itS, ev_var, List.getElem?_cons_zero, List.getElem?_cons_succ, Out.bind, ofOpt, ev_itemsT]
      exact d2
    · refine sqN (d' := [sv (bW a), sv (bW b), some (.own (kD [])), sv (bW a), iv (0 : Nat), none, none, none, none, none]) (by simp) ?_
      rw [ev_for]
      simp only [ev_itS, ev_var, List.getElem?_cons_zero, List.getElem?_cons_succ, Out.bind, ofOpt, ev_itemsT]
      exact d1
  refine frzT (d' := [sv (bW a), sv (bW b), sv (kD k2), sv (bW b), iv n2, z5.map Slot.val, z6.map Slot.val, none, none, none]) (by simp) ?_
  refine sqT (d' := [sv (bW a), sv (bW b), sv (kD k2), sv (bW b), iv n2, z5.map Slot.val, z6.map Slot.val, some (.own (.list [])), iv (0 : Nat), none]) (by simp) ?_
  refine sqT (d' := _) (by
    rw [ev_for, so _ rfl]
    exact d3) ?_
  refine frzT (d' := [sv (bW a), sv (bW b), sv (kD k2), sv (bW b), iv n2, z5.map Slot.val, z6.map Slot.val, sv (.list (J.map pr)), iv n3, y9.map Slot.val]) (by simp) ?_
  exact retT (by simp; exact rfl)
theorem sqAt_le {b : Bowl} (h : ∀ p ∈ b, ringOk p) (p : Nat) : sqAt (sq b) p ≤ 900 := by
  induction b generalizing p with
  | nil => exact Nat.zero_le _
  | cons x b ih =>
    have := (ring_whole (h x List.mem_cons_self)).1
    show (if p < x.2 then x.1 * x.1 else sqAt (sq b) (p - x.2)) ≤ 900
    split
    · exact this
    · exact ih (fun q hq => h q (List.mem_cons_of_mem _ hq)) _
theorem join_le {a b : Bowl} (ha : bnd a) (hb : bnd b) : ∀ {es : List Nat} {l : Nat}, (∀ e ∈ es, e ≤ 160) → ∀ p ∈ joinJ (sq a) (sq b) l es, p.1 ≤ 1800 ∧ p.2 ≤ 160
  | [], _, _, p, hp => by cases hp
  | e :: es, l, h, p, hp => by
    rcases List.mem_cons.mp hp with rfl | hp
    · have := sqAt_le ha.2 l
      have := sqAt_le hb.2 l
      have := h e List.mem_cons_self
      refine ⟨?_, ?_⟩
      · show _ + _ ≤ 1800
        omega
      · show e - l ≤ 160
        omega
    · exact join_le ha hb (fun x hx => h x (List.mem_cons_of_mem _ hx)) p hp
theorem jlev_loop {D : Nat} (w0 w1 w2 : W) (hD0 : 0 < D) (hD : D ≤ BB) : ∀ (r : Rings) (v : Rat) (below : Nat) (x5 x6 x7 : Option W), good r → (∀ p ∈ r, p.1 ≤ 1800 ∧ p.2 ≤ 160) → Fr D v → 0 ≤ v → v ≤ ((2 ^ 50 : Nat) : Rat) → below + tot r ≤ 1000 →
    (∃ d', forD (gTupW 2 (gsCons (store 5) (gsCons (store 6) gsNil))) (mSeq (mAsg (store 7) (mTup (mCons (mBin mulW (mVar 5) (mVar 6)) (mCons (mC (.int 1)) mNil)))) (mSeq (mIf (mNotT (mTruth (mCallV F_less (mCons (mVar 7) (mCons (mVar 3) mNil))))) (mRet (mCallV F_plus (mCons (mTup (mCons (mVar 4) (mCons (mC (.int 1)) mNil))) (mCons (mCallV F_times (mCons (mVar 3) (mCons (mCallV F_made (mCons (mC (.int 1)) (mCons (mVar 5) mNil))) mNil))) mNil)))) mSkip) (mSeq (mAsg (store 3) (mCallV F_minus (mCons (mVar 3) (mCons (mVar 7) mNil)))) (mAug (i2 (fun _ _ => true) fun i j => i + j) 4 (mVar 6))))) (r.map pr) [sv w0, sv w1, sv w2, sv (rW v), iv below, x5.map Slot.val, x6.map Slot.val, x7.map Slot.val] = .ret (.val (rW ((below : Rat) + lev r v))) d') ∨
      ∃ (n : Nat) (wl : W) (y5 y6 y7 : Option W), (n : Rat) = (below : Rat) + lev r v ∧ forD (gTupW 2 (gsCons (store 5) (gsCons (store 6) gsNil))) (mSeq (mAsg (store 7) (mTup (mCons (mBin mulW (mVar 5) (mVar 6)) (mCons (mC (.int 1)) mNil)))) (mSeq (mIf (mNotT (mTruth (mCallV F_less (mCons (mVar 7) (mCons (mVar 3) mNil))))) (mRet (mCallV F_plus (mCons (mTup (mCons (mVar 4) (mCons (mC (.int 1)) mNil))) (mCons (mCallV F_times (mCons (mVar 3) (mCons (mCallV F_made (mCons (mC (.int 1)) (mCons (mVar 5) mNil))) mNil))) mNil)))) mSkip) (mSeq (mAsg (store 3) (mCallV F_minus (mCons (mVar 3) (mCons (mVar 7) mNil)))) (mAug (i2 (fun _ _ => true) fun i j => i + j) 4 (mVar 6))))) (r.map pr) [sv w0, sv w1, sv w2, sv (rW v), iv below, x5.map Slot.val, x6.map Slot.val, x7.map Slot.val] = .next [sv w0, sv w1, sv w2, sv wl, iv n, y5.map Slot.val, y6.map Slot.val, y7.map Slot.val]
  | [], v, below, x5, x6, x7, _, _, _, _, _, _ => .inr ⟨below, rW v, x5, x6, x7, by show (below : Rat) = (below : Rat) + 0; grind, rfl⟩
  | (s, h) :: r, v, below, x5, x6, x7, hg, hb, ff, v0, v1, b1 => by
    obtain ⟨s0, h0, gr⟩ := good_cons hg
    obtain ⟨s1, h1⟩ := hb (s, h) List.mem_cons_self
    dsimp only at s1 h1
    have m1 : mulW (.int (s : Int)) (.int (h : Int)) = some (.int ((s * h : Nat) : Int)) := mulN (by omega) (by omega)
    have q2 : s * h ≤ 1800 * 160 := Nat.mul_le_mul s1 h1
    have tp : tot ((s, h) :: r) = h + tot r := rfl
    rw [tp] at b1
    have big := BB_big
    have hB := BB_le
    have n1 := castB (n := 2 ^ 50) (by omega)
    have n7 := bb0
    have okv := okB hD0 (Nat.le_trans hD hB) ff (by grind) (by grind)
    have okf := okN (n := s * h) (by omega)
    have g1 : F_less [.tuple [.int ((s * h : Nat) : Int), .int 1], rW v] = .ok (.val (.bool (decide (((s * h : Nat) : Rat) < v)))) := e_less okf okv
    have hs : (gTupW 2 (gsCons (store 5) (gsCons (store 6) gsNil))) (pr (s, h)) [sv w0, sv w1, sv w2, sv (rW v), iv below, x5.map Slot.val, x6.map Slot.val, x7.map Slot.val] = some [sv w0, sv w1, sv w2, sv (rW v), iv below, iv s, iv h, x7.map Slot.val] := by
      generalize rW v = wv at *
      cases x5 <;> cases x6 <;> simp [pr]
    have el : lev ((s, h) :: r) v = if v ≤ ((s * h : Nat) : Rat) then v / (s : Rat) else (h : Rat) + lev r (v - ((s * h : Nat) : Rat)) := rfl
    by_cases c : v ≤ ((s * h : Nat) : Rat)
    · rw [decide_eq_false (by grind)] at g1
      obtain ⟨f1, f2, f3⟩ := end_ok (below := below) hD0 hD s0 (by omega) (by omega) (by omega) ff v0 c
      rw [el, if_pos c]
      have st : (mSeq (mAsg (store 7) (mTup (mCons (mBin mulW (mVar 5) (mVar 6)) (mCons (mC (.int 1)) mNil)))) (mSeq (mIf (mNotT (mTruth (mCallV F_less (mCons (mVar 7) (mCons (mVar 3) mNil))))) (mRet (mCallV F_plus (mCons (mTup (mCons (mVar 4) (mCons (mC (.int 1)) mNil))) (mCons (mCallV F_times (mCons (mVar 3) (mCons (mCallV F_made (mCons (mC (.int 1)) (mCons (mVar 5) mNil))) mNil))) mNil)))) mSkip) (mSeq (mAsg (store 3) (mCallV F_minus (mCons (mVar 3) (mCons (mVar 7) mNil)))) (mAug (i2 (fun _ _ => true) fun i j => i + j) 4 (mVar 6))))) [sv w0, sv w1, sv w2, sv (rW v), iv below, iv s, iv h, x7.map Slot.val] = .ret (.val (rW ((below : Rat) + v / (s : Rat)))) [sv w0, sv w1, sv w2, sv (rW v), iv below, iv s, iv h, sv (.tuple [.int ((s * h : Nat) : Int), .int 1])] := by
        generalize rW ((below : Rat) + v / (s : Rat)) = u3 at *
        generalize rW (v / (s : Rat)) = u2 at *
        generalize rW (mkRat 1 s) = wi at *
        generalize rW v = wv at *
        refine sqN (d' := [sv w0, sv w1, sv w2, sv wv, iv below, iv s, iv h, sv (.tuple [.int ((s * h : Nat) : Int), .int 1])]) (by cases x7 <;> simp [m1, -Int.natCast_mul]) ?_
        rw [ev_seq]
        simp [g1, f1, f2, f3, -Int.natCast_mul]
      exact .inl ⟨_, for_ret hs st⟩
    · rw [decide_eq_true (by grind)] at g1
      have g2 : F_minus [rW v, .tuple [.int ((s * h : Nat) : Int), .int 1]] = .ok (.val (rW (v - ((s * h : Nat) : Rat)))) := e_minus okv okf
      have st : (mSeq (mAsg (store 7) (mTup (mCons (mBin mulW (mVar 5) (mVar 6)) (mCons (mC (.int 1)) mNil)))) (mSeq (mIf (mNotT (mTruth (mCallV F_less (mCons (mVar 7) (mCons (mVar 3) mNil))))) (mRet (mCallV F_plus (mCons (mTup (mCons (mVar 4) (mCons (mC (.int 1)) mNil))) (mCons (mCallV F_times (mCons (mVar 3) (mCons (mCallV F_made (mCons (mC (.int 1)) (mCons (mVar 5) mNil))) mNil))) mNil)))) mSkip) (mSeq (mAsg (store 3) (mCallV F_minus (mCons (mVar 3) (mCons (mVar 7) mNil)))) (mAug (i2 (fun _ _ => true) fun i j => i + j) 4 (mVar 6))))) [sv w0, sv w1, sv w2, sv (rW v), iv below, iv s, iv h, x7.map Slot.val] = .next [sv w0, sv w1, sv w2, sv (rW (v - ((s * h : Nat) : Rat))), iv (below + h), iv s, iv h, sv (.tuple [.int ((s * h : Nat) : Int), .int 1])] := by
        generalize rW (v - ((s * h : Nat) : Rat)) = u2 at *
        generalize rW v = wv at *
        refine sqN (d' := [sv w0, sv w1, sv w2, sv wv, iv below, iv s, iv h, sv (.tuple [.int ((s * h : Nat) : Int), .int 1])]) (by cases x7 <;> simp [m1, -Int.natCast_mul]) ?_
        simp [g1, g2, -Int.natCast_mul]
      have n8 := natR_nonneg (s * h)
      have e3 : ((below + h : Nat) : Rat) + lev r (v - ((s * h : Nat) : Rat)) = (below : Rat) + lev ((s, h) :: r) v := by rw [el, if_neg c, natR_add]; grind
      have ih := jlev_loop w0 w1 w2 hD0 hD r (v - ((s * h : Nat) : Rat)) (below + h) (some (.int (s : Int))) (some (.int (h : Int))) (some (.tuple [.int ((s * h : Nat) : Int), .int 1])) gr (fun q hq => hb q (List.mem_cons_of_mem _ hq)) (fr_sub ff (fr_nat D _)) (by grind) (by grind) (by omega)
      rw [e3] at ih
      rw [show List.map pr ((s, h) :: r) = pr (s, h) :: r.map pr from rfl, for_step hs st]
      exact ih
/-- the bowl that two make: its level is that of both -/
theorem e_jlev {a b : Bowl} (ha : bnd a) (hb : bnd b) (ne : a ≠ []) : ∃ J : Rings, good J ∧ tot J = max (tot (sq a)) (tot (sq b)) ∧ whole J = whole (sq a) + whole (sq b) ∧ (∀ t : Rat, 0 ≤ t → vol J t = vol (sq a) t + vol (sq b) t) ∧ (∀ p ∈ J, p.1 ≤ 1800) ∧
    ∀ (D : Nat) (v : Rat), 0 < D → D ≤ BB → Fr D v → 0 ≤ v → v ≤ ((whole (sq a) + whole (sq b) : Nat) : Rat) → F_joined_level [bW a, bW b, rW v] = .ok (.val (rW (lev J v))) := by
  obtain ⟨es, s1, s2, s3⟩ := e_joined ha hb
  have ta := tot_b ha
  have tb := tot_b hb
  have hm : ∀ p ∈ es, p ≤ max (tot (sq a)) (tot (sq b)) := fun p hp => by
    rcases List.mem_append.mp ((s2 p).mp hp) with z | z
    · have := (mem_ends ha z).2; omega
    · have := (mem_ends hb z).2; omega
  have j1 := join_le ha hb (es := es) (l := 0) (fun e he => by have := hm e he; omega)
  obtain ⟨j2, j3, j4, j5⟩ := join_all (r1 := sq a) (r2 := sq b) (bnd_good ha) (bnd_good hb) s1 s2 (by cases a with
    | nil => exact absurd rfl ne
    | cons x r => intro h; cases h) hm
  refine ⟨joinJ (sq a) (sq b) 0 es, j2, j3, j4, j5, fun p hp => (j1 p hp).1, fun D v hD0 hD hv v0 v1 => ?_⟩
  have wa := whole_b ha
  have wb := whole_b hb
  have big := BB_big
  have hB := BB_le
  have wB := castB (n := whole (sq a) + whole (sq b)) (by omega)
  have n7 := bb0
  have okv := okB hD0 (Nat.le_trans hD hB) hv (by grind) (by grind)
  have g0 := e_whole ha
  have g0' := e_whole hb
  have g1 : F_less [rW v, .tuple [.int 0, .int 1]] = .ok (.val (.bool (decide (v < 0)))) := e_less (q := ((0 : Nat) : Rat)) okv (okN (n := 0) (by omega))
  have g2 : F_less [.tuple [.int ((whole (sq a) : Int) + (whole (sq b) : Int)), .int 1], rW v] = .ok (.val (.bool (decide (((whole (sq a) + whole (sq b) : Nat) : Rat) < v)))) := by
    rw [← Int.natCast_add]
    exact e_less (p := ((whole (sq a) + whole (sq b) : Nat) : Rat)) (okN (by omega)) okv
  rw [decide_eq_false (by grind)] at g1 g2
  have w50 : ((whole (sq a) + whole (sq b) : Nat) : Rat) ≤ ((2 ^ 50 : Nat) : Rat) := by
    have : whole (sq a) + whole (sq b) ≤ 2 ^ 50 := by omega
    exact_mod_cast this
  have e := jlev_loop (D := D) (bW a) (bW b) (rW v) hD0 hD (joinJ (sq a) (sq b) 0 es) v 0 none none none j2 j1 hv v0 (by grind) (by omega)
  rw [show ((0 : Nat) : Rat) + lev (joinJ (sq a) (sq b) 0 es) v = lev (joinJ (sq a) (sq b) 0 es) v by
    have : ((0 : Nat) : Rat) = 0 := rfl
    grind] at e
  generalize joinJ (sq a) (sq b) 0 es = J at *
  refine runV_of ?_
  unfold m_joined_level
  rw [show sdV 8 [bW a, bW b, rW v] = [sv (bW a), sv (bW b), sv (rW v), none, none, none, none, none] from rfl]
  generalize rW v = wv at *
  generalize bW a = ua at *
  generalize bW b = ub at *
  refine sqT (d' := [sv ua, sv ub, sv wv, none, none, none, none, none]) (by simp [g0, g0', g1, g2]) ?_
  refine sqT (d' := [sv ua, sv ub, sv wv, sv wv, iv (0 : Nat), none, none, none]) (by simp) ?_
  have hit : mItS (mCallV F_joined (mCons (mVar 0) (mCons (mVar 1) mNil))) [sv ua, sv ub, sv wv, sv wv, iv (0 : Nat), none, none, none] = .ok (J.map pr) [sv ua, sv ub, sv wv, sv wv, iv (0 : Nat), none, none, none] := by simp [s3]
  rcases e with ⟨d', e⟩ | ⟨n, wl, y4, y5, y6, en, e⟩
  · generalize rW (lev J v) = wr at *
    exact sqT1 (d' := d') (by rw [ev_for, hit]; exact e)
  · rw [← en, rw_nat]
    refine sqT (d' := _) (by rw [ev_for, hit]; exact e) ?_
    exact retT (by simp; exact rfl)
theorem x_jlev {a b : Bowl} {v : Rat} (ha : bnd a) (hb : bnd b) (okv : okR v) (hv : v < 0 ∨ ((whole (sq a) + whole (sq b) : Nat) : Rat) < v) : F_joined_level [bW a, bW b, rW v] = .exc 1 := by
  have wa := whole_b ha
  have wb := whole_b hb
  have big := BB_big
  have g0 := e_whole ha
  have g0' := e_whole hb
  have g1 : F_less [rW v, .tuple [.int 0, .int 1]] = .ok (.val (.bool (decide (v < 0)))) := e_less (q := ((0 : Nat) : Rat)) okv (okN (n := 0) (by omega))
  have g2 : F_less [.tuple [.int ((whole (sq a) : Int) + (whole (sq b) : Int)), .int 1], rW v] = .ok (.val (.bool (decide (((whole (sq a) + whole (sq b) : Nat) : Rat) < v)))) := by
    rw [← Int.natCast_add]
    exact e_less (p := ((whole (sq a) + whole (sq b) : Nat) : Rat)) (okN (by omega)) okv
  refine runV_exc ?_
  unfold m_joined_level
  rw [show sdV 8 [bW a, bW b, rW v] = [sv (bW a), sv (bW b), sv (rW v), none, none, none, none, none] from rfl]
  by_cases c : v < 0
  · rw [decide_eq_true c] at g1
    generalize rW v = wv at *
    exact sqX1 (by simp [g0, g0', g1]; exact rfl)
  · have c2 := hv.resolve_left c
    rw [decide_eq_false c] at g1
    rw [decide_eq_true c2] at g2
    generalize rW v = wv at *
    exact sqX1 (by simp [g0, g0', g1, g2]; exact rfl)
end K34
end
section
set_option Elab.async false
set_option linter.all false
set_option maxRecDepth 100000
set_option maxHeartbeats 4000000
/-! k34: the law's own helpers -/
namespace K34
open Qd PySem L2
theorem num_pos {q : Rat} : 0 < q ↔ 0 < q.num := by
  have h := Rat.lt_iff 0 q
  rw [h]
  show 0 * (q.den : Int) < q.num * 1 ↔ _
  omega
theorem lvol_loop {D : Nat} {t : Rat} (w0 : W) (hD0 : 0 < D) (hD : D ≤ 2 ^ 400) (ht : Fr D t) (t0 : 0 ≤ t) (t1 : t ≤ (BB : Rat)) : ∀ (r : Bowl) (found : Rat) (below : Nat) (x4 x5 x6 x7 : Option W), (∀ p ∈ r, ringOk p) → Fr D found → 0 ≤ found → found + (whole (sq r) : Rat) ≤ (BB : Rat) → below + tot (sq r) ≤ BB →
    ∃ (wl : W) (y4 y5 y6 y7 : Option W), forD (gTupW 2 (gsCons (store 4) (gsCons (store 5) gsNil))) (mSeq (mAsg (store 6) (mCallV F__law_minus (mCons (mVar 1) (mCons (mVar 3) mNil)))) (mSeq (mAsg (store 7) (mIfE (mTest (mBin leW (mBin ixW (mVar 6) (mC (.int 0))) (mC (.int 0)))) (mTup (mCons (mC (.int 0)) (mCons (mC (.int 1)) mNil))) (mIfE (mTruth (mCallV F__law_less (mCons (mVar 6) (mCons (mTup (mCons (mVar 5) (mCons (mC (.int 1)) mNil))) mNil)))) (mVar 6) (mTup (mCons (mVar 5) (mCons (mC (.int 1)) mNil)))))) (mPar [2, 3] (mConsV (mCallV F__law_plus (mCons (mVar 2) (mCons (mCallV F__law_times (mCons (mTup (mCons (mBin mulW (mVar 4) (mVar 4)) (mCons (mC (.int 1)) mNil))) (mCons (mVar 7) mNil))) mNil))) (mConsV (mCallV F__law_plus (mCons (mVar 3) (mCons (mTup (mCons (mVar 5) (mCons (mC (.int 1)) mNil))) mNil))) mNilO))))) (r.map pr) [sv w0, sv (rW t), sv (rW found), sv (rW (below : Rat)), x4.map Slot.val, x5.map Slot.val, x6.map Slot.val, x7.map Slot.val] = .next [sv w0, sv (rW t), sv (rW (found + vol (sq r) (t - (below : Rat)))), sv wl, y4.map Slot.val, y5.map Slot.val, y6.map Slot.val, y7.map Slot.val]
  | [], found, below, x4, x5, x6, x7, _, _, _, _, _ => ⟨rW (below : Rat), x4, x5, x6, x7, by
    have : found + vol (sq []) (t - (below : Rat)) = found := by
      show found + 0 = found
      grind
    rw [this]
    rfl⟩
  | (a, h) :: r, found, below, x4, x5, x6, x7, hb, ff, f0, f1, b1 => by
    have rk := hb (a, h) List.mem_cons_self
    have m := (mulS rk).1
    obtain ⟨ra1, ra2, rh1, rh2⟩ := rk
    dsimp only at ra1 ra2 rh1 rh2 m
    have w1 : whole (sq ((a, h) :: r)) = a * a * h + whole (sq r) := rfl
    have tp : tot (sq ((a, h) :: r)) = h + tot (sq r) := rfl
    rw [w1, natR_add, natR_mul] at f1
    rw [tp] at b1
    have n1 := natR_nonneg h
    have n2 := natR_nonneg (whole (sq r))
    have n3 := natR_nonneg below
    have n4 := castB (n := below) (by omega)
    have n5 := castB (n := h) (by omega)
    have n6 := natR_nonneg (a * a)
    have n7 := bb0
    have cle := mulR_mono (s := a * a) (cl_le (t - (below : Rat)) h)
    have cge := mulR_mono (s := a * a) (cl_nonneg (t - (below : Rat)) h)
    have ffull := fr_sub ht (fr_nat D below)
    have okt := okB hD0 hD ht (by grind) t1
    have okf := okB hD0 hD ff (by grind) (by grind)
    have okb := okN (n := below) (by omega)
    have okh := okN (n := h) (by omega)
    have oka := okN (n := a * a) (by have := Nat.mul_le_mul ra2 ra2; have := BB_big; omega)
    have okfull := okB hD0 hD ffull (by grind) (by grind)
    have g1 := l_minus okt okb
    have g2 : F__law_less [rW (t - (below : Rat)), .tuple [.int (h : Int), .int 1]] = .ok (.val (.bool (decide (t - (below : Rat) < (h : Rat))))) := l_less okfull okh
    have ev : vol (sq ((a, h) :: r)) (t - (below : Rat)) = ((a * a : Nat) : Rat) * cl (t - (below : Rat)) h + vol (sq r) (t - (below : Rat) - (h : Rat)) := rfl
    have e2 : t - ((below + h : Nat) : Rat) = t - (below : Rat) - (h : Rat) := by rw [natR_add]; grind
    have fp : Fr D (cl (t - (below : Rat)) h) := by
      unfold cl
      by_cases c : t - (below : Rat) ≤ 0
      · rw [if_pos c]; exact fr_nat D 0
      · rw [if_neg c]
        by_cases c2 : t - (below : Rat) < (h : Rat)
        · rw [if_pos c2]; exact ffull
        · rw [if_neg c2]; exact fr_nat D h
    have cl0 := cl_nonneg (t - (below : Rat)) h
    have cl1 := cl_le (t - (below : Rat)) h
    have okp := okB hD0 hD fp (by grind) (by grind)
    have okq := okB hD0 hD (mul_fr (s := a * a) fp) (by grind) (by grind)
    have g4 : F__law_times [.tuple [.int ((a * a : Nat) : Int), .int 1], rW (cl (t - (below : Rat)) h)] = .ok (.val (rW (((a * a : Nat) : Rat) * cl (t - (below : Rat)) h))) := l_times oka okp
    have g5 := l_plus okf okq
    have g6 : F__law_plus [rW (below : Rat), .tuple [.int (h : Int), .int 1]] = .ok (.val (rW ((below + h : Nat) : Rat))) := by
      rw [natR_add]
      exact l_plus okb okh
    have s7 : mIfE (mTest (mBin leW (mBin ixW (mVar 6) (mC (.int 0))) (mC (.int 0)))) (mTup (mCons (mC (.int 0)) (mCons (mC (.int 1)) mNil))) (mIfE (mTruth (mCallV F__law_less (mCons (mVar 6) (mCons (mTup (mCons (mVar 5) (mCons (mC (.int 1)) mNil))) mNil)))) (mVar 6) (mTup (mCons (mVar 5) (mCons (mC (.int 1)) mNil))))
        [sv w0, sv (rW t), sv (rW found), sv (rW (below : Rat)), iv a, iv h, sv (rW (t - (below : Rat))), x7.map Slot.val] = .ok (rW (cl (t - (below : Rat)) h)) [sv w0, sv (rW t), sv (rW found), sv (rW (below : Rat)), iv a, iv h, sv (rW (t - (below : Rat))), x7.map Slot.val] := by
      obtain ⟨y, z, hw, hy⟩ : ∃ (y z : Int), rW (t - (below : Rat)) = .tuple [.int y, .int z] ∧ (0 < t - (below : Rat) ↔ 0 < y) := ⟨_, _, rfl, num_pos⟩
      rw [hw] at g2 ⊢
      unfold cl
      by_cases c : t - (below : Rat) ≤ 0
      · have c' : y ≤ 0 := by
          have : ¬ 0 < (t - (below : Rat)) := by grind
          rw [hy] at this
          omega
        rw [if_pos c, rw_zero]
        simp [at0, c']
      · have c' : ¬ y ≤ 0 := by
          have : 0 < (t - (below : Rat)) := by grind
          rw [hy] at this
          omega
        rw [if_neg c]
        by_cases c2 : t - (below : Rat) < (h : Rat)
        · rw [decide_eq_true c2] at g2
          rw [if_pos c2, hw]
          simp [at0, c', g2]
        · rw [decide_eq_false c2] at g2
          rw [if_neg c2, rw_nat]
          simp [at0, c', g2]
    have hs : (gTupW 2 (gsCons (store 4) (gsCons (store 5) gsNil))) (pr (a, h)) [sv w0, sv (rW t), sv (rW found), sv (rW (below : Rat)), x4.map Slot.val, x5.map Slot.val, x6.map Slot.val, x7.map Slot.val] = some [sv w0, sv (rW t), sv (rW found), sv (rW (below : Rat)), iv a, iv h, x6.map Slot.val, x7.map Slot.val] := by
      generalize rW (below : Rat) = wb at *
      generalize rW t = wt at *
      generalize rW found = wf at *
      cases x4 <;> cases x5 <;> simp [pr]
    have st : (mSeq (mAsg (store 6) (mCallV F__law_minus (mCons (mVar 1) (mCons (mVar 3) mNil)))) (mSeq (mAsg (store 7) (mIfE (mTest (mBin leW (mBin ixW (mVar 6) (mC (.int 0))) (mC (.int 0)))) (mTup (mCons (mC (.int 0)) (mCons (mC (.int 1)) mNil))) (mIfE (mTruth (mCallV F__law_less (mCons (mVar 6) (mCons (mTup (mCons (mVar 5) (mCons (mC (.int 1)) mNil))) mNil)))) (mVar 6) (mTup (mCons (mVar 5) (mCons (mC (.int 1)) mNil)))))) (mPar [2, 3] (mConsV (mCallV F__law_plus (mCons (mVar 2) (mCons (mCallV F__law_times (mCons (mTup (mCons (mBin mulW (mVar 4) (mVar 4)) (mCons (mC (.int 1)) mNil))) (mCons (mVar 7) mNil))) mNil))) (mConsV (mCallV F__law_plus (mCons (mVar 3) (mCons (mTup (mCons (mVar 5) (mCons (mC (.int 1)) mNil))) mNil))) mNilO))))) [sv w0, sv (rW t), sv (rW found), sv (rW (below : Rat)), iv a, iv h, x6.map Slot.val, x7.map Slot.val] = .next [sv w0, sv (rW t), sv (rW (found + ((a * a : Nat) : Rat) * cl (t - (below : Rat)) h)), sv (rW ((below + h : Nat) : Rat)), iv a, iv h, sv (rW (t - (below : Rat))), sv (rW (cl (t - (below : Rat)) h))] := by
      generalize rW (found + ((a * a : Nat) : Rat) * cl (t - (below : Rat)) h) = w5 at *
      generalize rW (((a * a : Nat) : Rat) * cl (t - (below : Rat)) h) = w4 at *
      generalize rW (cl (t - (below : Rat)) h) = wc at *
      generalize rW (t - (below : Rat)) = wfull at *
      generalize rW ((below + h : Nat) : Rat) = wbh at *
      generalize rW (below : Rat) = wb at *
      generalize rW t = wt at *
      generalize rW found = wf at *
      refine sqN (d' := [sv w0, sv wt, sv wf, sv wb, iv a, iv h, sv wfull, x7.map Slot.val]) (by cases x6 <;> simp [g1]) ?_
      refine sqN (d' := [sv w0, sv wt, sv wf, sv wb, iv a, iv h, sv wfull, sv wc]) (by
        rw [ev_asg, s7]
        cases x7 <;> simp) ?_
      simp [g4, g5, g6, m, -Int.natCast_mul]
    rw [show List.map pr ((a, h) :: r) = pr (a, h) :: r.map pr from rfl, for_step hs st, ev]
    obtain ⟨n, y4, y5, y6, y7, e⟩ := lvol_loop w0 hD0 hD ht t0 t1 r (found + ((a * a : Nat) : Rat) * cl (t - (below : Rat)) h) (below + h) (some (.int (a : Int))) (some (.int (h : Int))) (some (rW (t - (below : Rat)))) (some (rW (cl (t - (below : Rat)) h))) (fun q hq => hb q (List.mem_cons_of_mem _ hq)) (fr_add ff (mul_fr fp)) (by grind) (by rw [natR_mul] at *; grind) (by omega)
    rw [e2] at e
    refine ⟨n, y4, y5, y6, y7, ?_⟩
    rw [show found + (((a * a : Nat) : Rat) * cl (t - (below : Rat)) h + vol (sq r) (t - (below : Rat) - (h : Rat))) = found + ((a * a : Nat) : Rat) * cl (t - (below : Rat)) h + vol (sq r) (t - (below : Rat) - (h : Rat)) by grind]
    exact e
theorem l_vol {b : Bowl} {D : Nat} {t : Rat} (hb : bnd b) (hD0 : 0 < D) (hD : D ≤ 2 ^ 400) (ht : Fr D t) (t0 : 0 ≤ t) (t1 : t ≤ (1000000 : Nat)) : F__law_volume [bW b, rW t] = .ok (.val (rW (vol (sq b) t))) := by
  have tb := tot_b hb
  have wb := whole_b hb
  have big := BB_big
  have wB := castB (n := whole (sq b)) (by omega)
  have mB := castB (n := 1000000) (by omega)
  obtain ⟨n, y4, y5, y6, y7, e⟩ := lvol_loop (D := D) (t := t) (bW b) hD0 hD ht t0 (by grind) b 0 0 none none none none hb.2 (fr_nat D 0) (by grind) (by grind) (by omega)
  rw [show (0 : Rat) + vol (sq b) (t - ((0 : Nat) : Rat)) = vol (sq b) t by
    have : t - ((0 : Nat) : Rat) = t := by
      have : ((0 : Nat) : Rat) = 0 := rfl
      grind
    rw [this]
    grind] at e
  rw [rw_zero, rw_nat] at e
  refine runV_of ?_
  unfold m__law_volume
  rw [show sdV 8 [bW b, rW t] = [sv (bW b), sv (rW t), none, none, none, none, none, none] from rfl]
  generalize rW t = wt at *
  generalize rW (vol (sq b) t) = wv at *
  refine sqT (d' := [sv (bW b), sv wt, sv (.tuple [.int 0, .int 1]), sv (.tuple [.int ((0 : Nat) : Int), .int 1]), none, none, none, none]) (by simp) ?_
  refine sqT (d' := _) (by rw [ev_for]; simp only [ev_itS, ev_var, List.getElem?_cons_zero, Out.bind, ofOpt, ev_itemsT]; exact e) ?_
  exact retT (by simp; exact rfl)
/-! ### is a bowl -/
theorem e_ring {p : Nat × Nat} (h : ringOk p) : F_is_ring [pr p] = .ok (.val (.bool true)) := by
  have f1 := e_num_in (v := (p.1 : Int)) (a := 1) (b := 30) ⟨by have := h.1; omega, by have := h.2.1; omega⟩
  have f2 := e_num_in (v := (p.2 : Int)) (a := 1) (b := 20) ⟨by have := h.2.2.1; omega, by have := h.2.2.2; omega⟩
  refine runV_of ?_
  unfold m_is_ring pr
  refine sqT (by simp; exact rfl) ?_
  exact retT (by simp [at0, at1, f1, f2]; exact rfl)
theorem e_bowl {b : Bowl} (h : bnd b) (ne : b ≠ []) : F_is_bowl [bW b] = .ok (.val (.bool true)) := by
  have l1 : 0 < b.length := List.length_pos_iff.mpr ne
  have l8 := h.1
  have c1 : (1 : Int) ≤ (b.length : Int) := by omega
  have c2 : (b.length : Int) ≤ 8 := by omega
  have ga := mAll_of (vs := [1]) (it := mItS (mVar 0)) (g := store 1) (t := mYes) (e := mCallV F_is_ring (mCons (mVar 1) mNil)) (d := [sv (bW b), none]) (d' := [sv (bW b), none]) b pr (fun _ => true) (by simp) (by simp) fun p hp => by
    have f := e_ring (h.2 p hp)
    generalize pr p = wp at *
    exact ⟨[sv (bW b), sv wp], [sv (bW b), sv wp], [sv (bW b), sv wp], by simp, rfl, by simp [f], by simp⟩
  rw [List.all_eq_true.mpr (fun _ _ => rfl)] at ga
  refine runV_of ?_
  unfold m_is_bowl
  rw [show sdV 2 [bW b] = [sv (bW b), none] from rfl]
  refine retT (d' := [sv (bW b), none]) ?_
  simp [c1, c2, ga, -ev_gx]
/-! ### a fraction's test -/
theorem e_part (q : Rat) : F__law_is_part [rW q] = .ok (.val (.bool true)) := by
  have g := l_gcd q.num (q.den : Int)
  have hc : Nat.gcd q.num.natAbs q.den = 1 := q.reduced
  rw [Int.natAbs_natCast, hc] at g
  have hd : 0 < (q.den : Int) := by have := q.den_pos; omega
  have lc : ∀ i j : Int, mLc [1] (mItS (mVar 0)) (store 1) (mOrT (mNotT (mTruth (mUn (isiW "int") (mVar 1)))) (mTruth (mUn (isiW "bool") (mVar 1)))) (mVar 1) [sv (.tuple [.int i, .int j]), none] = .ok (.list []) [sv (.tuple [.int i, .int j]), none] := fun i j =>
    mLc_none [i, j] PyData.int (by simp) (by simp) (by simp) (by simp) fun a _ => by simp
  refine runV_of ?_
  unfold m__law_is_part
  rw [show sdV 2 [rW q] = [sv (.tuple [.int q.num, .int (q.den : Int)]), none] from rfl]
  generalize q.num = n at *
  generalize (q.den : Int) = m at *
  refine sqT (d' := [sv (.tuple [.int n, .int m]), none]) (by simp [lc, ne_nilL, -ev_lc]) ?_
  exact retT (by simp [at0, at1, hd, g]; exact rfl)
/-! ### told -/
theorem e_word1 : F__law_word [exD 1] = .ok (.val (.str "range")) := by
  have hx : indexW (.list [.bool true, .bool false, .bool false, .bool false, .bool false]) [.bool true] = some (.int 0) := by
    have h1 : okD (.list [.bool true, .bool false, .bool false, .bool false, .bool false]) = true := lv_ok (k := 1) (by decide) (by intro d hd; simp only [List.mem_cons, List.not_mem_nil, or_false] at hd; rcases hd with rfl | rfl | rfl | rfl | rfl <;> trivial)
    unfold indexW
    simp [h1, ok_bool, List.findIdx?_cons, PyData.eqv]
  refine runV_of ?_
  unfold m__law_word
  refine sqT (by simp [subC]; exact rfl) ?_
  refine sqT (by simp [lcD_cons]; exact rfl) ?_
  exact retT (by simp [hx, at0]; exact rfl)
theorem t0 {wb wt w : W} (e : F_volume_to [wb, wt] = .ok (.val w)) : F__law_told [.int 0, wb, .none, wt] = .ok (.val w) := by
  unfold F__law_told runV m__law_told mTryRet mPick
  simp [e]
theorem t1 {wb wt w : W} (e : F_level_for [wb, wt] = .ok (.val w)) : F__law_told [.int 1, wb, .none, wt] = .ok (.val w) := by
  unfold F__law_told runV m__law_told mTryRet mPick
  simp [e]
theorem t2 {wb wo wt w : W} (e : F_joined_level [wb, wo, wt] = .ok (.val w)) : F__law_told [.int 2, wb, wo, wt] = .ok (.val w) := by
  unfold F__law_told runV m__law_told mTryRet mPick
  simp [e]
theorem t0x {wb wt : W} (e : F_volume_to [wb, wt] = .exc 1) : F__law_told [.int 0, wb, .none, wt] = .ok (.val (.str "range")) := by
  have e2 := e_word1
  unfold F__law_told runV m__law_told mTryRet mPick
  simp [e, e2, subC, freeAt, noD]
theorem t1x {wb wt : W} (e : F_level_for [wb, wt] = .exc 1) : F__law_told [.int 1, wb, .none, wt] = .ok (.val (.str "range")) := by
  have e2 := e_word1
  unfold F__law_told runV m__law_told mTryRet mPick
  simp [e, e2, subC, freeAt, noD]
theorem t2x {wb wo wt : W} (e : F_joined_level [wb, wo, wt] = .exc 1) : F__law_told [.int 2, wb, wo, wt] = .ok (.val (.str "range")) := by
  have e2 := e_word1
  unfold F__law_told runV m__law_told mTryRet mPick
  simp [e, e2, subC, freeAt, noD]
theorem rw_low (a : Int) {b : Nat} (hb : 0 < b) (h : Nat.gcd a.natAbs b = 1) : rW (mkRat a b) = .tuple [.int a, .int (b : Int)] := by
  rw [rw_mk a hb, h]
  simp
end K34
end
section
set_option Elab.async false
set_option linter.all false
set_option maxRecDepth 100000
set_option maxHeartbeats 4000000
/-! k34: what is drawn -/
namespace K34
open Qd PySem L2
theorem take_lit {u : W} (n : Nat) (h : Dr u) (hn : 0 < n) : ∃ (r : Nat) (u' : W), r < n ∧ Dr u' ∧ F__law_take u [.int (n : Int)] = .ok (.val (.int (r : Int))) u' := e_take u n h hn
theorem pick2 {a b r : Nat} (h : r < 2) (ha : 0 < a) (hab : a ≤ b) : ∃ n : Nat, 0 < n ∧ n ≤ b ∧ atI [PyData.int (a : Int), .int (b : Int)] (r : Int) = some (.int (n : Int)) := by
  have : r = 0 ∨ r = 1 := by omega
  rcases this with rfl | rfl
  · exact ⟨a, ha, hab, at0 _ _⟩
  · exact ⟨b, by omega, Nat.le_refl _, at1 _ _ _⟩
theorem to_bowl : ∀ {ys : List W}, (∀ y ∈ ys, ∃ p : Nat × Nat, ringOk p ∧ y = pr p) → ∃ b : Bowl, ys = b.map pr ∧ b.length = ys.length ∧ ∀ p ∈ b, ringOk p
  | [], _ => ⟨[], rfl, rfl, fun p hp => by cases hp⟩
  | y :: ys, h => by
    obtain ⟨p, hp, rfl⟩ := h y List.mem_cons_self
    obtain ⟨b, rfl, hl, hb⟩ := to_bowl (ys := ys) fun z hz => h z (List.mem_cons_of_mem _ hz)
    refine ⟨p :: b, rfl, by simp, fun q hq => ?_⟩
    rcases List.mem_cons.mp hq with rfl | hq
    · exact hp
    · exact hb q hq
theorem e_lawbowl {u : W} (D : Dr u) : ∃ (b : Bowl) (u' : W), Dr u' ∧ bnd b ∧ b ≠ [] ∧ F__law_bowl u [] = .ok (.val (bW b)) u' := by
  obtain ⟨r0, u0, h0, D0, e0⟩ := take_lit 5 D (by decide)
  change F__law_take u [.int 5] = _ at e0
  have hr := rg (1 + r0) (by omega)
  rw [show (((1 + r0 : Nat)) : Int) = 1 + (r0 : Int) by omega] at hr
  obtain ⟨ys, d', e1, ⟨u', x1, D', rfl⟩, e3, e4⟩ := mLc_ind (vs := [1]) (it := mRng1 (mCons (mBin addW (mC (.int 1)) (mCallP F__law_take 0 (mCons (mC (.int 5)) mNil))) mNil)) (g := store 1) (t := mYes) (e := mTup (mCons (mBin addW (mC (.int 1)) (mCallP F__law_take 0 (mCons (mBin ixW (mLst (mCons (mC (.int 3)) (mCons (mC (.int 30)) mNil))) (mCallP F__law_take 0 (mCons (mC (.int 2)) mNil))) mNil))) (mCons (mBin addW (mC (.int 1)) (mCallP F__law_take 0 (mCons (mBin ixW (mLst (mCons (mC (.int 3)) (mCons (mC (.int 20)) mNil))) (mCallP F__law_take 0 (mCons (mC (.int 2)) mNil))) mNil))) mNil))) (d := [some (.par u), none]) (d1 := [some (.par u0), none])
    (ws := (List.range (1 + r0)).map fun i : Nat => PyData.int (i : Int)) (fun d => ∃ (u : W) (x1 : Option W), Dr u ∧ d = [some (.par u), x1.map Slot.val]) (fun y => ∃ p : Nat × Nat, ringOk p ∧ y = pr p) (by simp [e0, hr]) (by simp) (by simp; exact size_ok (by omega)) ⟨u0, none, D0, rfl⟩ (by
      rintro w hw' d ⟨u, x1, D, rfl⟩
      obtain ⟨i, _, rfl⟩ := List.mem_map.mp hw'
      obtain ⟨r1, u1, h1, D1, e1⟩ := take_lit 2 D (by decide)
      change F__law_take u [.int 2] = _ at e1
      obtain ⟨n1, p1, q1, a1⟩ := pick2 (a := 3) (b := 30) h1 (by decide) (by decide)
      change atI [PyData.int 3, .int 30] _ = _ at a1
      obtain ⟨r2, u2, h2, D2, e2⟩ := take_lit n1 D1 p1
      obtain ⟨r3, u3, h3, D3, e3⟩ := take_lit 2 D2 (by decide)
      change F__law_take u2 [.int 2] = _ at e3
      obtain ⟨n4, p4, q4, a4⟩ := pick2 (a := 3) (b := 20) h3 (by decide) (by decide)
      change atI [PyData.int 3, .int 20] _ = _ at a4
      obtain ⟨r4, u4, h4, D4, e4⟩ := take_lit n4 D3 p4
      refine ⟨[some (.par u), iv i], [some (.par u), iv i], .tuple [.int (1 + (r2 : Int)), .int (1 + (r4 : Int))], [some (.par u4), iv i], by cases x1 <;> simp, by simp, by simp [e1, a1, e2, e3, a4, e4], ⟨u4, some (.int (i : Int)), D4, rfl⟩, (1 + r2, 1 + r4), ⟨by show 1 ≤ 1 + r2; omega, by show 1 + r2 ≤ 30; omega, by show 1 ≤ 1 + r4; omega, by show 1 + r4 ≤ 20; omega⟩, ?_⟩
      unfold pr
      rw [Int.natCast_add, Int.natCast_add]
      rfl)
  obtain ⟨b, rfl, hl, hb⟩ := to_bowl e4
  have hl : b.length = 1 + r0 := by simpa using e3
  refine ⟨b, u', D', ⟨by omega, hb⟩, by rintro rfl; simp at hl; omega, runP_of ?_⟩
  have hk : backD [some (.par u0), none] [1] [some (.par u'), x1.map Slot.val] = [some (.par u'), none] := by cases x1 <;> simp [backD]
  rw [hk] at e1
  unfold m__law_bowl
  rw [show sdP 2 u [] = [some (.par u), none] from rfl]
  refine retP (d' := [some (.par u'), none]) ?_ rfl
  change _ = SOut.ret (Slot.val (PyData.tuple (b.map pr))) _
  generalize b.map pr = wb at *
  simp [e1, -ev_lc]
/-! ### a wider bowl -/
def All2 {α : Type} (Q : α → W → Prop) : List α → List W → Prop
  | [], [] => True
  | a :: l, y :: ys => Q a y ∧ All2 Q l ys
  | _, _ => False
theorem lcD_rel {α : Type} {vs : List Nat} {g : GW} {e : M W} (f0 : α → W) (P : SD → Prop) (Q : α → W → Prop) : ∀ (l : List α) {d : SD}, P d →
    (∀ a ∈ l, ∀ d, P d → ∃ d1 y d3, g (f0 a) (wipeD d vs) = some d1 ∧ e d1 = .ok y d3 ∧ P d3 ∧ Q a y) → ∃ ys d', lcD vs g mYes e (l.map f0) d = .ok ys d' ∧ P d' ∧ All2 Q l ys
  | [], d, h, _ => ⟨[], d, rfl, h, trivial⟩
  | a :: l, d, h, hs => by
    obtain ⟨d1, y, d3, h1, h3, h4, h5⟩ := hs a List.mem_cons_self d h
    obtain ⟨ys, d', e1, e2, e4⟩ := lcD_rel f0 P Q l h4 fun x hx => hs x (List.mem_cons_of_mem _ hx)
    refine ⟨y :: ys, d', ?_, e2, h5, e4⟩
    rw [List.map_cons, lcD_cons, h1]
    dsimp only
    rw [show mYes d1 = Out.ok true d1 from rfl]
    dsimp only [Out.bind]
    rw [if_pos rfl, h3]
    dsimp only
    rw [e1]
theorem to_wide : ∀ {b : Bowl} {ys : List W}, (∀ p ∈ b, ringOk p) → All2 (fun (p : Nat × Nat) y => ∃ r : Nat, p.1 ≤ r ∧ r ≤ 30 ∧ y = pr (r, p.2)) b ys → ∃ b' : Bowl, ys = b'.map pr ∧ b'.length = b.length ∧ (∀ p ∈ b', ringOk p) ∧ wider (sq b) (sq b')
  | [], [], _, _ => ⟨[], rfl, rfl, fun p hp => (by cases hp), trivial⟩
  | [], _ :: _, _, h => h.elim
  | _ :: _, [], _, h => h.elim
  | p :: b, y :: ys, hb, ⟨⟨r, r1, r2, e⟩, h⟩ => by
    subst e
    have rk := hb p List.mem_cons_self
    obtain ⟨b', rfl, hl, hb', hw⟩ := to_wide (fun q hq => hb q (List.mem_cons_of_mem _ hq)) h
    refine ⟨(r, p.2) :: b', rfl, by simp [hl], fun q hq => ?_, Nat.mul_le_mul r1 r1, rfl, hw⟩
    rcases List.mem_cons.mp hq with rfl | hq
    · exact ⟨Nat.le_trans rk.1 r1, r2, rk.2.2.1, rk.2.2.2⟩
    · exact hb' q hq
theorem e_wide {u : W} (D : Dr u) {b : Bowl} (hb : bnd b) (o0 o2 x4 x5 x6 x7 x8 x9 x10 x11 x12 x13 x14 x15 x16 : Option Slot) : ∃ (b' : Bowl) (u' : W), Dr u' ∧ bnd b' ∧ wider (sq b) (sq b') ∧
    mLc [19, 20] (mItS (mVar 3)) (gTupW 2 (gsCons (store 19) (gsCons (store 20) gsNil))) mYes (mTup (mCons (mCallB min2W (mCons (mC (.int 30)) (mCons (mBin addW (mVar 19) (mCallP F__law_take 1 (mCons (mC (.int 3)) mNil))) mNil))) (mCons (mVar 20) mNil))) [o0, some (.own u), o2, sv (bW b), x4, x5, x6, x7, x8, x9, x10, x11, x12, x13, x14, x15, x16, none, none, none, none, none] = .ok (.list (b'.map pr)) [o0, some (.own u'), o2, sv (bW b), x4, x5, x6, x7, x8, x9, x10, x11, x12, x13, x14, x15, x16, none, none, none, none, none] := by
  obtain ⟨ys, d', e1, ⟨u', z19, z20, D', rfl⟩, e4⟩ := lcD_rel (vs := [19, 20]) (g := (gTupW 2 (gsCons (store 19) (gsCons (store 20) gsNil)))) (e := (mTup (mCons (mCallB min2W (mCons (mC (.int 30)) (mCons (mBin addW (mVar 19) (mCallP F__law_take 1 (mCons (mC (.int 3)) mNil))) mNil))) (mCons (mVar 20) mNil)))) pr (fun d => ∃ (u : W) (z19 z20 : Option W), Dr u ∧ d = [o0, some (.own u), o2, sv (bW b), x4, x5, x6, x7, x8, x9, x10, x11, x12, x13, x14, x15, x16, none, none, z19.map Slot.val, z20.map Slot.val, none]) (fun (p : Nat × Nat) y => ∃ r : Nat, p.1 ≤ r ∧ r ≤ 30 ∧ y = pr (r, p.2)) b (d := [o0, some (.own u), o2, sv (bW b), x4, x5, x6, x7, x8, x9, x10, x11, x12, x13, x14, x15, x16, none, none, none, none, none]) ⟨u, none, none, D, rfl⟩ (by
    rintro ⟨a, h⟩ hp d ⟨u, z19, z20, D, rfl⟩
    have rk := hb.2 (a, h) hp
    obtain ⟨ra1, ra2, _, _⟩ := rk
    dsimp only at ra1 ra2
    obtain ⟨r1, u1, h1, D1, e1⟩ := take_lit 3 D (by decide)
    change F__law_take u [.int 3] = _ at e1
    refine ⟨[o0, some (.own u), o2, sv (bW b), x4, x5, x6, x7, x8, x9, x10, x11, x12, x13, x14, x15, x16, none, none, iv a, iv h, none], pr (if a + r1 < 30 then a + r1 else 30, h), [o0, some (.own u1), o2, sv (bW b), x4, x5, x6, x7, x8, x9, x10, x11, x12, x13, x14, x15, x16, none, none, iv a, iv h, none], ?_, ?_, ⟨u1, some (.int (a : Int)), some (.int (h : Int)), D1, rfl⟩, _, ?_, ?_, rfl⟩
    · generalize bW b = wb at *
      simp [pr]
    · have hm : (if (a : Int) + (r1 : Int) < 30 then (a : Int) + (r1 : Int) else 30) = ((if a + r1 < 30 then a + r1 else 30 : Nat) : Int) := by split <;> split <;> omega
      generalize bW b = wb at *
      simp [e1, hm, pr]
    · show a ≤ _
      split <;> omega
    · split <;> omega)
  obtain ⟨b', rfl, hl, hb', hw⟩ := to_wide hb.2 e4
  refine ⟨b', u', D', ⟨by have := hb.1; omega, hb'⟩, hw, ?_⟩
  have hk : backD [o0, some (.own u), o2, sv (bW b), x4, x5, x6, x7, x8, x9, x10, x11, x12, x13, x14, x15, x16, none, none, none, none, none] [19, 20] [o0, some (.own u'), o2, sv (bW b), x4, x5, x6, x7, x8, x9, x10, x11, x12, x13, x14, x15, x16, none, none, z19.map Slot.val, z20.map Slot.val, none] = [o0, some (.own u'), o2, sv (bW b), x4, x5, x6, x7, x8, x9, x10, x11, x12, x13, x14, x15, x16, none, none, none, none, none] := by cases z19 <;> cases z20 <;> simp [backD]
  rw [ev_lc, show mItS (mVar 3) [o0, some (.own u), o2, sv (bW b), x4, x5, x6, x7, x8, x9, x10, x11, x12, x13, x14, x15, x16, none, none, none, none, none] = .ok (b.map pr) [o0, some (.own u), o2, sv (bW b), x4, x5, x6, x7, x8, x9, x10, x11, x12, x13, x14, x15, x16, none, none, none, none, none] by simp]
  dsimp only [Out.bind]
  rw [if_pos ⟨by simp, by rw [List.length_map]; exact size_ok (by have := hb.1; omega)⟩, e1]
  dsimp only
  rw [hk]
/-! ### the sums of the law -/
theorem lc_top {b : Bowl} (hb : bnd b) (i : Nat) {d : SD} (h : d[i]? = some (sv (bW b))) (hl : d.length = 22) (hc : cleanD d [19, 20] = true) : mLc [19, 20] (mItS (mVar i)) (gTupW 2 (gsCons (store 19) (gsCons (store 20) gsNil))) mYes (mVar 20) d = .ok (.list (natW (b.map (·.2)))) d := by
  have l := hb.1
  rw [← sum_cons2]
  refine mLc_set2 b pr (fun p => PyData.int (p.2 : Int)) (fun p => PyData.int (p.1 : Int)) (fun p => PyData.int (p.2 : Int)) (fun p => rfl) ?_ (by omega) (by omega) (by decide) hc (by omega) fun p _ => ?_
  · rw [ev_itS, ev_var, h]
    rfl
  · rw [ev_var, List.getElem?_set_self (by rw [List.length_set]; omega)]
theorem lc_whole {b : Bowl} (hb : bnd b) (i : Nat) {d : SD} (h : d[i]? = some (sv (bW b))) (hl : d.length = 22) (hc : cleanD d [19, 20] = true) : mLc [19, 20] (mItS (mVar i)) (gTupW 2 (gsCons (store 19) (gsCons (store 20) gsNil))) mYes (mBin mulW (mBin mulW (mVar 19) (mVar 19)) (mVar 20)) d = .ok (.list (natW (b.map fun p => p.1 * p.1 * p.2))) d := by
  have l := hb.1
  rw [← sum_cons2]
  refine mLc_set2 b pr (fun p => PyData.int ((p.1 * p.1 * p.2 : Nat) : Int)) (fun p => PyData.int (p.1 : Int)) (fun p => PyData.int (p.2 : Int)) (fun p => rfl) ?_ (by omega) (by omega) (by decide) hc (by omega) fun p hp => ?_
  · rw [ev_itS, ev_var, h]
    rfl
  · have m := mulS (hb.2 p hp)
    rw [ev_bin, ev_bin, ev_var, List.getElem?_set_ne (by decide), List.getElem?_set_self (by omega)]
    dsimp only [Out.bind]
    rw [ev_var, List.getElem?_set_ne (by decide), List.getElem?_set_self (by omega)]
    dsimp only [Out.bind]
    rw [m.1]
    dsimp only [ofOpt]
    rw [ev_var, List.getElem?_set_self (by rw [List.length_set]; omega)]
    dsimp only [Out.bind]
    rw [m.2]
/-! ### how great a level is -/
theorem lev_fr {D : Nat} : ∀ {r : Rings} {v : Rat}, (∀ p ∈ r, 0 < p.1 ∧ p.1 ≤ 4000) → Fr D v → ∃ s, 0 < s ∧ s ≤ 4000 ∧ Fr (D * s) (lev r v)
  | [], v, _, h => ⟨1, by decide, by decide, fr_nat _ 0⟩
  | (s, k) :: r, v, hb, h => by
    obtain ⟨s0, s1⟩ := hb (s, k) List.mem_cons_self
    dsimp only at s0 s1
    show ∃ s', _ ∧ _ ∧ Fr (D * s') (if v ≤ ((s * k : Nat) : Rat) then v / (s : Rat) else (k : Rat) + lev r (v - ((s * k : Nat) : Rat)))
    by_cases c : v ≤ ((s * k : Nat) : Rat)
    · rw [if_pos c]
      exact ⟨s, s0, s1, fr_inv s0 h⟩
    · rw [if_neg c]
      obtain ⟨z, z0, z1, hz⟩ := lev_fr (r := r) (v := v - ((s * k : Nat) : Rat)) (fun p hp => hb p (List.mem_cons_of_mem _ hp)) (fr_sub h (fr_nat D _))
      exact ⟨z, z0, z1, fr_add (fr_nat _ k) hz⟩
/-! ### values with one thing wrong -/
def oddX (b : Bowl) : List W := [.none, .list (b.map pr), .tuple [], .tuple (List.replicate 9 ((b.map pr).take 1)).flatten, .tuple [.none], .tuple [.list [.int 1, .int 1]], .tuple [.tuple [.int 1]], .tuple [.tuple [.int 1, .int 1, .int 1]], .tuple [.tuple [.int 0, .int 1]], .tuple [.tuple [.int 31, .int 1]], .tuple [.tuple [.int 1, .int 0]], .tuple [.tuple [.int 1, .int 21]], .tuple [.tuple [.bool true, .int 1]], .tuple [.tuple [.int 1, .none]]]
theorem x_b1 (w : W) (h : isiW "tuple" w = some (.bool false)) : F_is_bowl [w] = .ok (.val (.bool false)) := by
  refine runV_of ?_
  unfold m_is_bowl
  exact retT (by simp [h]; exact rfl)
theorem x_b2 (ws : List W) (h : ws.length = 0 ∨ 8 < ws.length) : F_is_bowl [.tuple ws] = .ok (.val (.bool false)) := by
  refine runV_of ?_
  unfold m_is_bowl
  by_cases c1 : (1 : Int) ≤ (ws.length : Int)
  · have c2 : ¬ (ws.length : Int) ≤ 8 := by omega
    exact retT (by simp [c1, c2]; exact rfl)
  · exact retT (by simp [c1]; exact rfl)
theorem x_b3 {w : W} (h : F_is_ring [w] = .ok (.val (.bool false))) : F_is_bowl [.tuple [w]] = .ok (.val (.bool false)) := by
  have ga := mAll_of (vs := [1]) (it := mItS (mVar 0)) (g := store 1) (t := mYes) (e := mCallV F_is_ring (mCons (mVar 1) mNil)) (d := [sv (.tuple [w]), none]) (d' := [sv (.tuple [w]), none]) [w] id (fun _ => false) (by simp) (by simp) fun p hp => by
    rw [List.mem_singleton] at hp
    subst hp
    exact ⟨[sv (.tuple [p]), sv p], [sv (.tuple [p]), sv p], [sv (.tuple [p]), sv p], by simp, rfl, by simp [h], by simp⟩
  refine runV_of ?_
  unfold m_is_bowl
  rw [show sdV 2 [.tuple [w]] = [sv (.tuple [w]), none] from rfl]
  refine retT (d' := [sv (.tuple [w]), none]) ?_
  simp [ga, -ev_gx]
theorem x_r1 (w : W) (h : isiW "tuple" w = some (.bool false)) : F_is_ring [w] = .ok (.val (.bool false)) := by
  refine runV_of ?_
  unfold m_is_ring
  exact sqT1 (by simp [h]; exact rfl)
theorem x_r2 (ws : List W) (h : ws.length ≠ 2) : F_is_ring [.tuple ws] = .ok (.val (.bool false)) := by
  have h' : ¬ (ws.length : Int) = 2 := by omega
  refine runV_of ?_
  unfold m_is_ring
  exact sqT1 (by simp [h']; exact rfl)
theorem x_r3 {x y : W} (h : F_is_number [x, .int 1, .int 30] = .ok (.val (.bool false))) : F_is_ring [.tuple [x, y]] = .ok (.val (.bool false)) := by
  refine runV_of ?_
  unfold m_is_ring
  refine sqT (by simp; exact rfl) ?_
  exact retT (by simp [at0, h]; exact rfl)
theorem x_r4 {x y : W} (h1 : F_is_number [x, .int 1, .int 30] = .ok (.val (.bool true))) (h : F_is_number [y, .int 1, .int 20] = .ok (.val (.bool false))) : F_is_ring [.tuple [x, y]] = .ok (.val (.bool false)) := by
  refine runV_of ?_
  unfold m_is_ring
  refine sqT (by simp; exact rfl) ?_
  exact retT (by simp [at0, at1, h1, h]; exact rfl)
theorem odd_bad {b : Bowl} (ne : b ≠ []) : ∀ w ∈ oddX b, F_is_bowl [w] = .ok (.val (.bool false)) := by
  intro w hw
  unfold oddX at hw
  simp only [List.mem_cons, List.not_mem_nil, or_false] at hw
  rcases hw with rfl | rfl | rfl | rfl | rfl | rfl | rfl | rfl | rfl | rfl | rfl | rfl | rfl | rfl
  · exact x_b1 _ (by simp)
  · exact x_b1 _ (by simp)
  · exact x_b2 _ (.inl rfl)
  · refine x_b2 _ (.inr ?_)
    cases b with
    | nil => exact absurd rfl ne
    | cons p r => simp
  · exact x_b3 (x_r1 _ (by simp))
  · exact x_b3 (x_r1 _ (by simp))
  · exact x_b3 (x_r2 _ (by simp))
  · exact x_b3 (x_r2 _ (by simp))
  · exact x_b3 (x_r3 (e_num_out (by omega)))
  · exact x_b3 (x_r3 (e_num_out (by omega)))
  · exact x_b3 (x_r4 (e_num_in (by omega)) (e_num_out (by omega)))
  · exact x_b3 (x_r4 (e_num_in (by omega)) (e_num_out (by omega)))
  · exact x_b3 (x_r3 (e_num_b _ _ _))
  · exact x_b3 (x_r4 (e_num_in (by omega)) (e_num_n _ _))
end K34
end
section
set_option Elab.async false
set_option linter.all false
set_option maxRecDepth 100000
set_option maxHeartbeats 8000000
/-! k34: a turn of the law, over opaque values -/
namespace K34
open Qd PySem L2
def NX (P : SD → Prop) (o : SOut) : Prop := ∃ d', o = .next d' ∧ P d'
theorem sqNX {P : SD → Prop} {a b : MS} {d d' : SD} (h : a d = .next d') (k : NX P (b d')) : NX P (mSeq a b d) := by
  rw [ev_seq, h]
  exact k
theorem asgN {i : Nat} {m : M W} {d d1 d' : SD} {w : W} {x : Option W} (h : m d = .ok w d1) (hx : d1[i]? = some (x.map Slot.val)) (hd : d1.set i (some (.val w)) = d') : mAsg (store i) m d = .next d' := by
  rw [ev_asg, h]
  dsimp only [Out.toS]
  rw [ev_store, hx]
  cases x <;> (dsimp only [Option.map]; rw [hd]; rfl)
theorem parN {i j : Nat} {m : M (List (Bool × W))} {d d1 d' : SD} {w v : W} {x y : Option W} (h : m d = .ok [(false, w), (false, v)] d1) (hx : d1[i]? = some (x.map Slot.val)) (hy : d1[j]? = some (y.map Slot.val)) (hij : i ≠ j) (hd : (d1.set i (some (.val w))).set j (some (.val v)) = d') : mPar [i, j] m d = .next d' := by
  rw [ev_par, h]
  dsimp only [Out.toS]
  rw [ev_storesV, ev_store, hx]
  have hy' : (d1.set i (some (.val w)))[j]? = some (y.map Slot.val) := by rw [List.getElem?_set_ne hij]; exact hy
  cases x <;> (dsimp only [Option.map, Option.bind]; rw [ev_storesV, ev_store, hy']; cases y <;> (dsimp only [Option.map, Option.bind]; rw [ev_storesN, hd]; rfl))
def after (w0 w2 : W) (d : SD) : Prop := ∃ (u : W) (a : Bowl) (y4 y5 y6 y7 y8 y9 y10 y11 y12 y13 y14 y15 y16 : W), Dr u ∧ bnd a ∧ a ≠ [] ∧ d = [sv w0, some (.own u), sv w2, sv (bW a), sv y4, sv y5, sv y6, sv y7, sv y8, sv y9, sv y10, sv y11, sv y12, sv y13, sv y14, sv y15, sv y16, none, none, none, none, none]
theorem body_of (w0 w2 : W) (x3 x4 x5 x6 x7 x8 x9 x10 x11 x12 x13 x14 x15 x16 : Option W) {u u1 u2 u3 u4 u5 u6 wt1 wd1 wv1 wl1 wv2 wl2 : W} {a b : Bowl} {tA tB wA wB P hi bo : Nat} {r3 n3 r4 N5 k5 N8 k8 n10 n11 d11 M11 Q11 N18 N21 M24 M25 M26 : Int} {c12 c13 : Bool} (D6 : Dr u6) (ba : bnd a) (bb : bnd b) (na : a ≠ [])
    (e1 : F__law_bowl u [] = .ok (.val (bW a)) u1)
    (e2 : F__law_bowl u1 [] = .ok (.val (bW b)) u2)
    (ft : F_is_bowl [bW a] = .ok (.val (.bool true)))
    (fs : F__law_says [.bool true, .bool true] = .ok (.val (.bool true)))
    (sA : sumW [.list (natW (a.map (·.2)))] = some (.int (tA : Int)))
    (sB : sumW [.list (natW (b.map (·.2)))] = some (.int (tB : Int)))
    (vA : sumW [.list (natW (a.map fun p => p.1 * p.1 * p.2))] = some (.int (wA : Int)))
    (vB : sumW [.list (natW (b.map fun p => p.1 * p.1 * p.2))] = some (.int (wB : Int)))
    (e3 : F__law_take u2 [.int 2] = .ok (.val (.int r3)) u3)
    (a3 : atI [PyData.int 6, .int 9973] r3 = some (.int n3))
    (e4 : F__law_take u3 [.int n3] = .ok (.val (.int r4)) u4)
    (hP : 1 + r4 = (P : Int))
    (m5 : mulW (.int (tA : Int)) (.int (P : Int)) = some (.int N5))
    (e5 : F__law_take u4 [.int (N5 + 1)] = .ok (.val (.int k5)) u5)
    (p5 : F__law_part [.int k5, .int (P : Int)] = .ok (.val wt1))
    (f6 : F__law_volume [bW a, wt1] = .ok (.val wd1))
    (f7a : F__law_told [.int 0, bW a, .none, wt1] = .ok (.val wd1))
    (f7b : F__law_told [.int 1, bW a, .none, wd1] = .ok (.val wt1))
    (f7c : F__law_alike [.list [wd1, wt1], .list [wd1, wt1]] = .ok (.val (.bool true)))
    (m8 : mulW (.int (wA : Int)) (.int (P : Int)) = some (.int N8))
    (e8 : F__law_take u5 [.int (N8 + 1)] = .ok (.val (.int k8)) u6)
    (p8 : F__law_part [.int k8, .int (P : Int)] = .ok (.val wv1))
    (f9 : F__law_told [.int 1, bW a, .none, wv1] = .ok (.val wl1))
    (g10 : F__law_is_part [wl1] = .ok (.val (.bool true)))
    (f10 : F__law_volume [bW a, wl1] = .ok (.val wv1))
    (q10 : neW wv1 wv1 = some (.bool false))
    (z10 : ixW wl1 (.int 0) = some (.int n10))
    (c10 : ¬ n10 < 0)
    (h10 : F__law_less [.tuple [.int (tA : Int), .int 1], wl1] = .ok (.val (.bool false)))
    (z11 : ixW wv1 (.int 0) = some (.int n11))
    (y11 : ixW wv1 (.int 1) = some (.int d11))
    (m11 : mulW (.int (wA : Int)) (.int d11) = some (.int M11))
    (k11 : mulW (.int 2) (.int d11) = some (.int Q11))
    (p11 : F__law_part [.int (n11 + M11), .int Q11] = .ok (.val wv2))
    (f11 : F__law_told [.int 1, bW a, .none, wv2] = .ok (.val wl2))
    (h12 : F__law_less [wv1, .tuple [.int (wA : Int), .int 1]] = .ok (.val (.bool c12)))
    (h12b : F__law_less [wl1, wl2] = .ok (.val (.bool c13)))
    (hc : c12 = true → c13 = true)
    (f15a : F__law_told [.int 1, bW a, .none, .tuple [.int 0, .int 1]] = .ok (.val (.tuple [.int 0, .int 1])))
    (f15b : F__law_told [.int 1, bW a, .none, .tuple [.int (wA : Int), .int 1]] = .ok (.val (.tuple [.int (tA : Int), .int 1])))
    (f15c : F__law_told [.int 0, bW a, .none, .tuple [.int (tA : Int), .int 1]] = .ok (.val (.tuple [.int (wA : Int), .int 1])))
    (q15 : neW (.list [.tuple [.int 0, .int 1], .tuple [.int (tA : Int), .int 1], .tuple [.int (wA : Int), .int 1]]) (.list [.tuple [.int 0, .int 1], .tuple [.int (tA : Int), .int 1], .tuple [.int (wA : Int), .int 1]]) = some (.bool false))
    (m16 : max2W [.int (tA : Int), .int (tB : Int)] = some (.int (hi : Int)))
    (m17 : (wA : Int) + (wB : Int) = (bo : Int))
    (m18 : mulW (.int (hi : Int)) (.int (P : Int)) = some (.int N18))
    (m21 : mulW (.int (bo : Int)) (.int (P : Int)) = some (.int N21))
    (m24 : mulW (.int 2) (.int (tA : Int)) = some (.int M24))
    (m25 : mulW (.int 2) (.int (wA : Int)) = some (.int M25))
    (m26 : mulW (.int 3) (.int (bo : Int)) = some (.int M26))
    (w1 : F__law_told [.int 0, bW a, .none, .tuple [.int (-1), .int 2]] = .ok (.val (.str "range")))
    (w2x : F__law_told [.int 0, bW a, .none, .tuple [.int (M24 + 1), .int 2]] = .ok (.val (.str "range")))
    (w3 : F__law_told [.int 1, bW a, .none, .tuple [.int (-1), .int 9]] = .ok (.val (.str "range")))
    (w4 : F__law_told [.int 1, bW a, .none, .tuple [.int (M25 + 1), .int 2]] = .ok (.val (.str "range")))
    (w5 : F__law_told [.int 2, bW a, bW b, .tuple [.int (-1), .int 3]] = .ok (.val (.str "range")))
    (w6 : F__law_told [.int 2, bW a, bW b, .tuple [.int (M26 + 1), .int 3]] = .ok (.val (.str "range")))
    (q7 : neW (.list (List.replicate 6 (.str "range"))) (.list (List.replicate 6 (.str "range"))) = some (.bool false))
    (h13 : ∀ a2 : Bowl, bnd a2 → wider (sq a) (sq a2) → ∃ wl3 : W, F__law_told [.int 1, bW a2, .none, wv1] = .ok (.val wl3) ∧ F__law_less [wl1, wl3] = .ok (.val (.bool false)))
    (h18 : ∀ u7 : W, Dr u7 → ∃ (k18 : Int) (u8 wt2 wz1 wz2 wd2 : W), Dr u8 ∧ F__law_take u7 [.int (N18 + 1)] = .ok (.val (.int k18)) u8 ∧ F__law_part [.int k18, .int (P : Int)] = .ok (.val wt2) ∧ F__law_volume [bW a, wt2] = .ok (.val wz1) ∧ F__law_volume [bW b, wt2] = .ok (.val wz2) ∧ F__law_plus [wz1, wz2] = .ok (.val wd2) ∧ F__law_told [.int 2, bW a, bW b, wd2] = .ok (.val wt2) ∧ F__law_told [.int 2, bW b, bW a, wd2] = .ok (.val wt2) ∧ F__law_alike [.list [wt2, wt2], .list [wt2, wt2]] = .ok (.val (.bool true)))
    (h21 : ∀ u8 : W, Dr u8 → ∃ (k21 : Int) (u9 wv3 wl4 wy1 wy2 : W), Dr u9 ∧ F__law_take u8 [.int (N21 + 1)] = .ok (.val (.int k21)) u9 ∧ F__law_part [.int k21, .int (P : Int)] = .ok (.val wv3) ∧ F__law_told [.int 2, bW a, bW b, wv3] = .ok (.val wl4) ∧ F__law_is_part [wl4] = .ok (.val (.bool true)) ∧ F__law_volume [bW a, wl4] = .ok (.val wy1) ∧ F__law_volume [bW b, wl4] = .ok (.val wy2) ∧ F__law_plus [wy1, wy2] = .ok (.val wv3) ∧ neW wv3 wv3 = some (.bool false)) : NX (after w0 w2) ((mSeq (mAsg (gTupW 2 (gsCons (store 3) (gsCons (store 4) gsNil))) (mTup (mCons (mCallP F__law_bowl 1 mNil) (mCons (mCallP F__law_bowl 1 mNil) mNil)))) (mSeq (mIf (mNotT (mTruth (mCallV F__law_says (mCons (mCallV F_is_bowl (mCons (mVar 3) mNil)) (mCons (mC (.bool true)) mNil))))) (mRet (mC (.bool false))) mSkip) (mSeq (mPar [5, 6] (mConsV (mCallB sumW (mCons (mLc [19, 20] (mItS (mVar 3)) (gTupW 2 (gsCons (store 19) (gsCons (store 20) gsNil))) mYes (mVar 20)) mNil)) (mConsV (mCallB sumW (mCons (mLc [19, 20] (mItS (mVar 3)) (gTupW 2 (gsCons (store 19) (gsCons (store 20) gsNil))) mYes (mBin mulW (mBin mulW (mVar 19) (mVar 19)) (mVar 20))) mNil)) mNilO))) (mSeq (mAsg (store 7) (mBin addW (mC (.int 1)) (mCallP F__law_take 1 (mCons (mBin ixW (mLst (mCons (mC (.int 6)) (mCons (mC (.int 9973)) mNil))) (mCallP F__law_take 1 (mCons (mC (.int 2)) mNil))) mNil)))) (mSeq (mAsg (store 8) (mCallV F__law_part (mCons (mCallP F__law_take 1 (mCons (mBin addW (mBin mulW (mVar 5) (mVar 7)) (mC (.int 1))) mNil)) (mCons (mVar 7) mNil)))) (mSeq (mAsg (store 9) (mCallV F__law_volume (mCons (mVar 3) (mCons (mVar 8) mNil)))) (mSeq (mIf (mNotT (mTruth (mCallV F__law_alike (mCons (mLst (mCons (mCallV F__law_told (mCons (mC (.int 0)) (mCons (mVar 3) (mCons (mC .none) (mCons (mVar 8) mNil))))) (mCons (mCallV F__law_told (mCons (mC (.int 1)) (mCons (mVar 3) (mCons (mC .none) (mCons (mVar 9) mNil))))) mNil))) (mCons (mLst (mCons (mVar 9) (mCons (mVar 8) mNil))) mNil))))) (mRet (mC (.bool false))) mSkip) (mSeq (mAsg (store 10) (mCallV F__law_part (mCons (mCallP F__law_take 1 (mCons (mBin addW (mBin mulW (mVar 6) (mVar 7)) (mC (.int 1))) mNil)) (mCons (mVar 7) mNil)))) (mSeq (mAsg (store 11) (mCallV F__law_told (mCons (mC (.int 1)) (mCons (mVar 3) (mCons (mC .none) (mCons (mVar 10) mNil)))))) (mSeq (mIf (mOrT (mNotT (mTruth (mCallV F__law_is_part (mCons (mVar 11) mNil)))) (mOrT (mTest (mBin neW (mCallV F__law_volume (mCons (mVar 3) (mCons (mVar 11) mNil))) (mVar 10))) (mOrT (mTest (mBin ltW (mBin ixW (mVar 11) (mC (.int 0))) (mC (.int 0)))) (mTruth (mCallV F__law_less (mCons (mTup (mCons (mVar 5) (mCons (mC (.int 1)) mNil))) (mCons (mVar 11) mNil))))))) (mRet (mC (.bool false))) mSkip) (mSeq (mAsg (store 12) (mCallV F__law_told (mCons (mC (.int 1)) (mCons (mVar 3) (mCons (mC .none) (mCons (mCallV F__law_part (mCons (mBin addW (mBin ixW (mVar 10) (mC (.int 0))) (mBin mulW (mVar 6) (mBin ixW (mVar 10) (mC (.int 1))))) (mCons (mBin mulW (mC (.int 2)) (mBin ixW (mVar 10) (mC (.int 1)))) mNil))) mNil)))))) (mSeq (mIf (mAndT (mTruth (mCallV F__law_less (mCons (mVar 10) (mCons (mTup (mCons (mVar 6) (mCons (mC (.int 1)) mNil))) mNil)))) (mNotT (mTruth (mCallV F__law_less (mCons (mVar 11) (mCons (mVar 12) mNil)))))) (mRet (mC (.bool false))) mSkip) (mSeq (mAsg (store 13) (mCallB tupleW (mCons (mLc [19, 20] (mItS (mVar 3)) (gTupW 2 (gsCons (store 19) (gsCons (store 20) gsNil))) mYes (mTup (mCons (mCallB min2W (mCons (mC (.int 30)) (mCons (mBin addW (mVar 19) (mCallP F__law_take 1 (mCons (mC (.int 3)) mNil))) mNil))) (mCons (mVar 20) mNil)))) mNil))) (mSeq (mIf (mTruth (mCallV F__law_less (mCons (mVar 11) (mCons (mCallV F__law_told (mCons (mC (.int 1)) (mCons (mVar 13) (mCons (mC .none) (mCons (mVar 10) mNil))))) mNil)))) (mRet (mC (.bool false))) mSkip) (mSeq (mIf (mTest (mBin neW (mLst (mCons (mCallV F__law_told (mCons (mC (.int 1)) (mCons (mVar 3) (mCons (mC .none) (mCons (mTup (mCons (mC (.int 0)) (mCons (mC (.int 1)) mNil))) mNil))))) (mCons (mCallV F__law_told (mCons (mC (.int 1)) (mCons (mVar 3) (mCons (mC .none) (mCons (mTup (mCons (mVar 6) (mCons (mC (.int 1)) mNil))) mNil))))) (mCons (mCallV F__law_told (mCons (mC (.int 0)) (mCons (mVar 3) (mCons (mC .none) (mCons (mTup (mCons (mVar 5) (mCons (mC (.int 1)) mNil))) mNil))))) mNil)))) (mLst (mCons (mTup (mCons (mC (.int 0)) (mCons (mC (.int 1)) mNil))) (mCons (mTup (mCons (mVar 5) (mCons (mC (.int 1)) mNil))) (mCons (mTup (mCons (mVar 6) (mCons (mC (.int 1)) mNil))) mNil)))))) (mRet (mC (.bool false))) mSkip) (mSeq (mAsg (store 14) (mCallB max2W (mCons (mVar 5) (mCons (mCallB sumW (mCons (mLc [19, 20] (mItS (mVar 4)) (gTupW 2 (gsCons (store 19) (gsCons (store 20) gsNil))) mYes (mVar 20)) mNil)) mNil)))) (mSeq (mAsg (store 15) (mBin addW (mVar 6) (mCallB sumW (mCons (mLc [19, 20] (mItS (mVar 4)) (gTupW 2 (gsCons (store 19) (gsCons (store 20) gsNil))) mYes (mBin mulW (mBin mulW (mVar 19) (mVar 19)) (mVar 20))) mNil)))) (mSeq (mAsg (store 8) (mCallV F__law_part (mCons (mCallP F__law_take 1 (mCons (mBin addW (mBin mulW (mVar 14) (mVar 7)) (mC (.int 1))) mNil)) (mCons (mVar 7) mNil)))) (mSeq (mAsg (store 9) (mCallV F__law_plus (mCons (mCallV F__law_volume (mCons (mVar 3) (mCons (mVar 8) mNil))) (mCons (mCallV F__law_volume (mCons (mVar 4) (mCons (mVar 8) mNil))) mNil)))) (mSeq (mIf (mNotT (mTruth (mCallV F__law_alike (mCons (mLst (mCons (mCallV F__law_told (mCons (mC (.int 2)) (mCons (mVar 3) (mCons (mVar 4) (mCons (mVar 9) mNil))))) (mCons (mCallV F__law_told (mCons (mC (.int 2)) (mCons (mVar 4) (mCons (mVar 3) (mCons (mVar 9) mNil))))) mNil))) (mCons (mLst (mCons (mVar 8) (mCons (mVar 8) mNil))) mNil))))) (mRet (mC (.bool false))) mSkip) (mSeq (mAsg (store 10) (mCallV F__law_part (mCons (mCallP F__law_take 1 (mCons (mBin addW (mBin mulW (mVar 15) (mVar 7)) (mC (.int 1))) mNil)) (mCons (mVar 7) mNil)))) (mSeq (mAsg (store 11) (mCallV F__law_told (mCons (mC (.int 2)) (mCons (mVar 3) (mCons (mVar 4) (mCons (mVar 10) mNil)))))) (mSeq (mIf (mOrT (mNotT (mTruth (mCallV F__law_is_part (mCons (mVar 11) mNil)))) (mTest (mBin neW (mCallV F__law_plus (mCons (mCallV F__law_volume (mCons (mVar 3) (mCons (mVar 11) mNil))) (mCons (mCallV F__law_volume (mCons (mVar 4) (mCons (mVar 11) mNil))) mNil))) (mVar 10)))) (mRet (mC (.bool false))) mSkip) (mSeq (mAsg (store 16) (mBin addW (mLc [21] (mItS (mLst (mCons (mTup (mCons (mUn negW (mC (.int 1))) (mCons (mC (.int 2)) mNil))) (mCons (mTup (mCons (mBin addW (mBin mulW (mC (.int 2)) (mVar 5)) (mC (.int 1))) (mCons (mC (.int 2)) mNil))) mNil)))) (store 21) mYes (mCallV F__law_told (mCons (mC (.int 0)) (mCons (mVar 3) (mCons (mC .none) (mCons (mVar 21) mNil)))))) (mLc [21] (mItS (mLst (mCons (mTup (mCons (mUn negW (mC (.int 1))) (mCons (mC (.int 9)) mNil))) (mCons (mTup (mCons (mBin addW (mBin mulW (mC (.int 2)) (mVar 6)) (mC (.int 1))) (mCons (mC (.int 2)) mNil))) mNil)))) (store 21) mYes (mCallV F__law_told (mCons (mC (.int 1)) (mCons (mVar 3) (mCons (mC .none) (mCons (mVar 21) mNil)))))))) (mIf (mTest (mBin neW (mBin addW (mVar 16) (mLc [21] (mItS (mLst (mCons (mTup (mCons (mUn negW (mC (.int 1))) (mCons (mC (.int 3)) mNil))) (mCons (mTup (mCons (mBin addW (mBin mulW (mC (.int 3)) (mVar 15)) (mC (.int 1))) (mCons (mC (.int 3)) mNil))) mNil)))) (store 21) mYes (mCallV F__law_told (mCons (mC (.int 2)) (mCons (mVar 3) (mCons (mVar 4) (mCons (mVar 21) mNil))))))) (mRepF (mLst (mCons (mC (.str "range")) mNil)) (mC (.int 6))))) (mRet (mC (.bool false))) mSkip))))))))))))))))))))))))) [sv w0, some (.own u), sv w2, x3.map Slot.val, x4.map Slot.val, x5.map Slot.val, x6.map Slot.val, x7.map Slot.val, x8.map Slot.val, x9.map Slot.val, x10.map Slot.val, x11.map Slot.val, x12.map Slot.val, x13.map Slot.val, x14.map Slot.val, x15.map Slot.val, x16.map Slot.val, none, none, none, none, none]) := by
  refine sqNX (d' := [sv w0, some (.own u2), sv w2, sv (bW a), sv (bW b), x5.map Slot.val, x6.map Slot.val, x7.map Slot.val, x8.map Slot.val, x9.map Slot.val, x10.map Slot.val, x11.map Slot.val, x12.map Slot.val, x13.map Slot.val, x14.map Slot.val, x15.map Slot.val, x16.map Slot.val, none, none, none, none, none]) (by
    cases x3 <;> cases x4 <;> simp [e1, e2]) ?_
  refine sqNX (d' := [sv w0, some (.own u2), sv w2, sv (bW a), sv (bW b), x5.map Slot.val, x6.map Slot.val, x7.map Slot.val, x8.map Slot.val, x9.map Slot.val, x10.map Slot.val, x11.map Slot.val, x12.map Slot.val, x13.map Slot.val, x14.map Slot.val, x15.map Slot.val, x16.map Slot.val, none, none, none, none, none]) (by
    simp [ft, fs]) ?_
  have l1 := lc_top ba 3 (d := [sv w0, some (.own u2), sv w2, sv (bW a), sv (bW b), x5.map Slot.val, x6.map Slot.val, x7.map Slot.val, x8.map Slot.val, x9.map Slot.val, x10.map Slot.val, x11.map Slot.val, x12.map Slot.val, x13.map Slot.val, x14.map Slot.val, x15.map Slot.val, x16.map Slot.val, none, none, none, none, none]) rfl rfl (by simp)
  have l2 := lc_whole ba 3 (d := [sv w0, some (.own u2), sv w2, sv (bW a), sv (bW b), x5.map Slot.val, x6.map Slot.val, x7.map Slot.val, x8.map Slot.val, x9.map Slot.val, x10.map Slot.val, x11.map Slot.val, x12.map Slot.val, x13.map Slot.val, x14.map Slot.val, x15.map Slot.val, x16.map Slot.val, none, none, none, none, none]) rfl rfl (by simp)
  refine sqNX (d' := [sv w0, some (.own u2), sv w2, sv (bW a), sv (bW b), iv tA, iv wA, x7.map Slot.val, x8.map Slot.val, x9.map Slot.val, x10.map Slot.val, x11.map Slot.val, x12.map Slot.val, x13.map Slot.val, x14.map Slot.val, x15.map Slot.val, x16.map Slot.val, none, none, none, none, none]) (parN (x := x5) (y := x6) (d1 := [sv w0, some (.own u2), sv w2, sv (bW a), sv (bW b), x5.map Slot.val, x6.map Slot.val, x7.map Slot.val, x8.map Slot.val, x9.map Slot.val, x10.map Slot.val, x11.map Slot.val, x12.map Slot.val, x13.map Slot.val, x14.map Slot.val, x15.map Slot.val, x16.map Slot.val, none, none, none, none, none]) (w := .int (tA : Int)) (v := .int (wA : Int)) (by
    generalize natW (a.map (·.2)) = z1 at *
    generalize natW (a.map fun p => p.1 * p.1 * p.2) = z2 at *
    generalize bW a = wa at *
    generalize bW b = wb at *
    simp [l1, l2, sA, vA, -ev_lc]) rfl rfl (by decide) rfl) ?_
  refine sqNX (d' := [sv w0, some (.own u4), sv w2, sv (bW a), sv (bW b), iv tA, iv wA, iv P, x8.map Slot.val, x9.map Slot.val, x10.map Slot.val, x11.map Slot.val, x12.map Slot.val, x13.map Slot.val, x14.map Slot.val, x15.map Slot.val, x16.map Slot.val, none, none, none, none, none]) (by
    generalize bW a = wa at *
    generalize bW b = wb at *
    cases x7 <;> simp [e3, a3, e4, hP]) ?_
  refine sqNX (d' := [sv w0, some (.own u5), sv w2, sv (bW a), sv (bW b), iv tA, iv wA, iv P, sv wt1, x9.map Slot.val, x10.map Slot.val, x11.map Slot.val, x12.map Slot.val, x13.map Slot.val, x14.map Slot.val, x15.map Slot.val, x16.map Slot.val, none, none, none, none, none]) (by
    generalize bW a = wa at *
    generalize bW b = wb at *
    cases x8 <;> simp [m5, e5, p5]) ?_
  refine sqNX (d' := [sv w0, some (.own u5), sv w2, sv (bW a), sv (bW b), iv tA, iv wA, iv P, sv wt1, sv wd1, x10.map Slot.val, x11.map Slot.val, x12.map Slot.val, x13.map Slot.val, x14.map Slot.val, x15.map Slot.val, x16.map Slot.val, none, none, none, none, none]) (by
    generalize bW a = wa at *
    generalize bW b = wb at *
    cases x9 <;> simp [f6]) ?_
  refine sqNX (d' := [sv w0, some (.own u5), sv w2, sv (bW a), sv (bW b), iv tA, iv wA, iv P, sv wt1, sv wd1, x10.map Slot.val, x11.map Slot.val, x12.map Slot.val, x13.map Slot.val, x14.map Slot.val, x15.map Slot.val, x16.map Slot.val, none, none, none, none, none]) (by
    generalize bW a = wa at *
    generalize bW b = wb at *
    simp [f7a, f7b, f7c]) ?_
  refine sqNX (d' := [sv w0, some (.own u6), sv w2, sv (bW a), sv (bW b), iv tA, iv wA, iv P, sv wt1, sv wd1, sv wv1, x11.map Slot.val, x12.map Slot.val, x13.map Slot.val, x14.map Slot.val, x15.map Slot.val, x16.map Slot.val, none, none, none, none, none]) (by
    generalize bW a = wa at *
    generalize bW b = wb at *
    cases x10 <;> simp [m8, e8, p8]) ?_
  refine sqNX (d' := [sv w0, some (.own u6), sv w2, sv (bW a), sv (bW b), iv tA, iv wA, iv P, sv wt1, sv wd1, sv wv1, sv wl1, x12.map Slot.val, x13.map Slot.val, x14.map Slot.val, x15.map Slot.val, x16.map Slot.val, none, none, none, none, none]) (by
    generalize bW a = wa at *
    generalize bW b = wb at *
    cases x11 <;> simp [f9]) ?_
  refine sqNX (d' := [sv w0, some (.own u6), sv w2, sv (bW a), sv (bW b), iv tA, iv wA, iv P, sv wt1, sv wd1, sv wv1, sv wl1, x12.map Slot.val, x13.map Slot.val, x14.map Slot.val, x15.map Slot.val, x16.map Slot.val, none, none, none, none, none]) (by
    generalize bW a = wa at *
    generalize bW b = wb at *
    simp [g10, f10, q10, z10, c10, h10]) ?_
  refine sqNX (d' := [sv w0, some (.own u6), sv w2, sv (bW a), sv (bW b), iv tA, iv wA, iv P, sv wt1, sv wd1, sv wv1, sv wl1, sv wl2, x13.map Slot.val, x14.map Slot.val, x15.map Slot.val, x16.map Slot.val, none, none, none, none, none]) (by
    generalize bW a = wa at *
    generalize bW b = wb at *
    cases x12 <;> simp [z11, y11, m11, k11, p11, f11]) ?_
  refine sqNX (d' := [sv w0, some (.own u6), sv w2, sv (bW a), sv (bW b), iv tA, iv wA, iv P, sv wt1, sv wd1, sv wv1, sv wl1, sv wl2, x13.map Slot.val, x14.map Slot.val, x15.map Slot.val, x16.map Slot.val, none, none, none, none, none]) (by
    generalize bW a = wa at *
    generalize bW b = wb at *
    cases c12 <;> cases c13 <;> first | (exact absurd (hc rfl) (by decide)) | skip
    all_goals clear hc
    all_goals simp [h12, h12b]) ?_
  obtain ⟨a2, u7, D7, b2, hw, ew⟩ := e_wide D6 ba (sv w0) (sv w2) (sv (bW b)) (iv tA) (iv wA) (iv P) (sv wt1) (sv wd1) (sv wv1) (sv wl1) (sv wl2) (x13.map Slot.val) (x14.map Slot.val) (x15.map Slot.val) (x16.map Slot.val)
  obtain ⟨wl3, f14, h14⟩ := h13 a2 b2 hw
  refine sqNX (d' := [sv w0, some (.own u7), sv w2, sv (bW a), sv (bW b), iv tA, iv wA, iv P, sv wt1, sv wd1, sv wv1, sv wl1, sv wl2, sv (bW a2), x14.map Slot.val, x15.map Slot.val, x16.map Slot.val, none, none, none, none, none]) (asgN (x := x13) (d1 := [sv w0, some (.own u7), sv w2, sv (bW a), sv (bW b), iv tA, iv wA, iv P, sv wt1, sv wd1, sv wv1, sv wl1, sv wl2, x13.map Slot.val, x14.map Slot.val, x15.map Slot.val, x16.map Slot.val, none, none, none, none, none]) (w := bW a2) (by
    change _ = Out.ok (PyData.tuple (a2.map pr)) _
    generalize a2.map pr = z2 at *
    generalize bW a = wa at *
    generalize bW b = wb at *
    simp [ew, -ev_lc]) rfl rfl) ?_
  refine sqNX (d' := [sv w0, some (.own u7), sv w2, sv (bW a), sv (bW b), iv tA, iv wA, iv P, sv wt1, sv wd1, sv wv1, sv wl1, sv wl2, sv (bW a2), x14.map Slot.val, x15.map Slot.val, x16.map Slot.val, none, none, none, none, none]) (by
    generalize bW a2 = w2a at *
    generalize bW a = wa at *
    generalize bW b = wb at *
    simp [f14, h14]) ?_
  refine sqNX (d' := [sv w0, some (.own u7), sv w2, sv (bW a), sv (bW b), iv tA, iv wA, iv P, sv wt1, sv wd1, sv wv1, sv wl1, sv wl2, sv (bW a2), x14.map Slot.val, x15.map Slot.val, x16.map Slot.val, none, none, none, none, none]) (by
    generalize bW a2 = w2a at *
    generalize bW a = wa at *
    generalize bW b = wb at *
    simp [f15a, f15b, f15c, q15]) ?_
  have l3 := lc_top bb 4 (d := [sv w0, some (.own u7), sv w2, sv (bW a), sv (bW b), iv tA, iv wA, iv P, sv wt1, sv wd1, sv wv1, sv wl1, sv wl2, sv (bW a2), x14.map Slot.val, x15.map Slot.val, x16.map Slot.val, none, none, none, none, none]) rfl rfl (by simp)
  refine sqNX (d' := [sv w0, some (.own u7), sv w2, sv (bW a), sv (bW b), iv tA, iv wA, iv P, sv wt1, sv wd1, sv wv1, sv wl1, sv wl2, sv (bW a2), sv (.int (hi : Int)), x15.map Slot.val, x16.map Slot.val, none, none, none, none, none]) (asgN (x := x14) (d1 := [sv w0, some (.own u7), sv w2, sv (bW a), sv (bW b), iv tA, iv wA, iv P, sv wt1, sv wd1, sv wv1, sv wl1, sv wl2, sv (bW a2), x14.map Slot.val, x15.map Slot.val, x16.map Slot.val, none, none, none, none, none]) (w := .int (hi : Int)) (by
    generalize bW a2 = w2a at *
    generalize natW (b.map (·.2)) = z1 at *
    generalize natW (b.map fun p => p.1 * p.1 * p.2) = z2 at *
    generalize bW a = wa at *
    generalize bW b = wb at *
    simp [l3, sB, m16, -ev_lc, -ev_max2]) rfl rfl) ?_
  have l4 := lc_whole bb 4 (d := [sv w0, some (.own u7), sv w2, sv (bW a), sv (bW b), iv tA, iv wA, iv P, sv wt1, sv wd1, sv wv1, sv wl1, sv wl2, sv (bW a2), sv (.int (hi : Int)), x15.map Slot.val, x16.map Slot.val, none, none, none, none, none]) rfl rfl (by simp)
  refine sqNX (d' := [sv w0, some (.own u7), sv w2, sv (bW a), sv (bW b), iv tA, iv wA, iv P, sv wt1, sv wd1, sv wv1, sv wl1, sv wl2, sv (bW a2), sv (.int (hi : Int)), sv (.int (bo : Int)), x16.map Slot.val, none, none, none, none, none]) (asgN (x := x15) (d1 := [sv w0, some (.own u7), sv w2, sv (bW a), sv (bW b), iv tA, iv wA, iv P, sv wt1, sv wd1, sv wv1, sv wl1, sv wl2, sv (bW a2), sv (.int (hi : Int)), x15.map Slot.val, x16.map Slot.val, none, none, none, none, none]) (w := .int (bo : Int)) (by
    generalize bW a2 = w2a at *
    generalize natW (b.map (·.2)) = z1 at *
    generalize natW (b.map fun p => p.1 * p.1 * p.2) = z2 at *
    generalize bW a = wa at *
    generalize bW b = wb at *
    simp [l4, vB, m17, -ev_lc]) rfl rfl) ?_
  obtain ⟨k18, u8, wt2, wz1, wz2, wd2, D8, e18, p18, f19a, f19b, f19c, f20a, f20b, f20c⟩ := h18 u7 D7
  refine sqNX (d' := [sv w0, some (.own u8), sv w2, sv (bW a), sv (bW b), iv tA, iv wA, iv P, sv wt2, sv wd1, sv wv1, sv wl1, sv wl2, sv (bW a2), sv (.int (hi : Int)), sv (.int (bo : Int)), x16.map Slot.val, none, none, none, none, none]) (by
    generalize bW a2 = w2a at *
    generalize bW a = wa at *
    generalize bW b = wb at *
    simp [m18, e18, p18]) ?_
  refine sqNX (d' := [sv w0, some (.own u8), sv w2, sv (bW a), sv (bW b), iv tA, iv wA, iv P, sv wt2, sv wd2, sv wv1, sv wl1, sv wl2, sv (bW a2), sv (.int (hi : Int)), sv (.int (bo : Int)), x16.map Slot.val, none, none, none, none, none]) (by
    generalize bW a2 = w2a at *
    generalize bW a = wa at *
    generalize bW b = wb at *
    simp [f19a, f19b, f19c]) ?_
  refine sqNX (d' := [sv w0, some (.own u8), sv w2, sv (bW a), sv (bW b), iv tA, iv wA, iv P, sv wt2, sv wd2, sv wv1, sv wl1, sv wl2, sv (bW a2), sv (.int (hi : Int)), sv (.int (bo : Int)), x16.map Slot.val, none, none, none, none, none]) (by
    generalize bW a2 = w2a at *
    generalize bW a = wa at *
    generalize bW b = wb at *
    simp [f20a, f20b, f20c]) ?_
  obtain ⟨k21, u9, wv3, wl4, wy1, wy2, D9, e21, p21, f22, g23, f23a, f23b, f23c, q23⟩ := h21 u8 D8
  refine sqNX (d' := [sv w0, some (.own u9), sv w2, sv (bW a), sv (bW b), iv tA, iv wA, iv P, sv wt2, sv wd2, sv wv3, sv wl1, sv wl2, sv (bW a2), sv (.int (hi : Int)), sv (.int (bo : Int)), x16.map Slot.val, none, none, none, none, none]) (by
    generalize bW a2 = w2a at *
    generalize bW a = wa at *
    generalize bW b = wb at *
    simp [m21, e21, p21]) ?_
  refine sqNX (d' := [sv w0, some (.own u9), sv w2, sv (bW a), sv (bW b), iv tA, iv wA, iv P, sv wt2, sv wd2, sv wv3, sv wl4, sv wl2, sv (bW a2), sv (.int (hi : Int)), sv (.int (bo : Int)), x16.map Slot.val, none, none, none, none, none]) (by
    generalize bW a2 = w2a at *
    generalize bW a = wa at *
    generalize bW b = wb at *
    simp [f22]) ?_
  refine sqNX (d' := [sv w0, some (.own u9), sv w2, sv (bW a), sv (bW b), iv tA, iv wA, iv P, sv wt2, sv wd2, sv wv3, sv wl4, sv wl2, sv (bW a2), sv (.int (hi : Int)), sv (.int (bo : Int)), x16.map Slot.val, none, none, none, none, none]) (by
    generalize bW a2 = w2a at *
    generalize bW a = wa at *
    generalize bW b = wb at *
    simp [g23, f23a, f23b, f23c, q23]) ?_
  have l5 : mLc [21] (mItS (mLst (mCons (mTup (mCons (mUn negW (mC (.int 1))) (mCons (mC (.int 2)) mNil))) (mCons (mTup (mCons (mBin addW (mBin mulW (mC (.int 2)) (mVar 5)) (mC (.int 1))) (mCons (mC (.int 2)) mNil))) mNil)))) (store 21) mYes (mCallV F__law_told (mCons (mC (.int 0)) (mCons (mVar 3) (mCons (mC .none) (mCons (mVar 21) mNil))))) [sv w0, some (.own u9), sv w2, sv (bW a), sv (bW b), iv tA, iv wA, iv P, sv wt2, sv wd2, sv wv3, sv wl4, sv wl2, sv (bW a2), sv (.int (hi : Int)), sv (.int (bo : Int)), x16.map Slot.val, none, none, none, none, none] = .ok (.list [.str "range", .str "range"]) [sv w0, some (.own u9), sv w2, sv (bW a), sv (bW b), iv tA, iv wA, iv P, sv wt2, sv wd2, sv wv3, sv wl4, sv wl2, sv (bW a2), sv (.int (hi : Int)), sv (.int (bo : Int)), x16.map Slot.val, none, none, none, none, none] :=
    mLc_setA (v := 21) (it := (mItS (mLst (mCons (mTup (mCons (mUn negW (mC (.int 1))) (mCons (mC (.int 2)) mNil))) (mCons (mTup (mCons (mBin addW (mBin mulW (mC (.int 2)) (mVar 5)) (mC (.int 1))) (mCons (mC (.int 2)) mNil))) mNil))))) (e := (mCallV F__law_told (mCons (mC (.int 0)) (mCons (mVar 3) (mCons (mC .none) (mCons (mVar 21) mNil)))))) (d := [sv w0, some (.own u9), sv w2, sv (bW a), sv (bW b), iv tA, iv wA, iv P, sv wt2, sv wd2, sv wv3, sv wl4, sv wl2, sv (bW a2), sv (.int (hi : Int)), sv (.int (bo : Int)), x16.map Slot.val, none, none, none, none, none]) [PyData.tuple [.int (-1), .int 2], .tuple [.int (M24 + 1), .int 2]] id (fun _ => .str "range") (by
      generalize bW a2 = w2a at *
      generalize bW a = wa at *
      generalize bW b = wb at *
      simp [m24]) (by simp) (by simp) (by simp) (by
      intro x hx
      generalize bW a2 = w2a at *
      generalize bW a = wa at *
      generalize bW b = wb at *
      simp only [List.mem_cons, List.not_mem_nil, or_false] at hx
      rcases hx with rfl | rfl
      · simp [w1]
      · simp [w2x])
  have l6 : mLc [21] (mItS (mLst (mCons (mTup (mCons (mUn negW (mC (.int 1))) (mCons (mC (.int 9)) mNil))) (mCons (mTup (mCons (mBin addW (mBin mulW (mC (.int 2)) (mVar 6)) (mC (.int 1))) (mCons (mC (.int 2)) mNil))) mNil)))) (store 21) mYes (mCallV F__law_told (mCons (mC (.int 1)) (mCons (mVar 3) (mCons (mC .none) (mCons (mVar 21) mNil))))) [sv w0, some (.own u9), sv w2, sv (bW a), sv (bW b), iv tA, iv wA, iv P, sv wt2, sv wd2, sv wv3, sv wl4, sv wl2, sv (bW a2), sv (.int (hi : Int)), sv (.int (bo : Int)), x16.map Slot.val, none, none, none, none, none] = .ok (.list [.str "range", .str "range"]) [sv w0, some (.own u9), sv w2, sv (bW a), sv (bW b), iv tA, iv wA, iv P, sv wt2, sv wd2, sv wv3, sv wl4, sv wl2, sv (bW a2), sv (.int (hi : Int)), sv (.int (bo : Int)), x16.map Slot.val, none, none, none, none, none] :=
    mLc_setA (v := 21) (it := (mItS (mLst (mCons (mTup (mCons (mUn negW (mC (.int 1))) (mCons (mC (.int 9)) mNil))) (mCons (mTup (mCons (mBin addW (mBin mulW (mC (.int 2)) (mVar 6)) (mC (.int 1))) (mCons (mC (.int 2)) mNil))) mNil))))) (e := (mCallV F__law_told (mCons (mC (.int 1)) (mCons (mVar 3) (mCons (mC .none) (mCons (mVar 21) mNil)))))) (d := [sv w0, some (.own u9), sv w2, sv (bW a), sv (bW b), iv tA, iv wA, iv P, sv wt2, sv wd2, sv wv3, sv wl4, sv wl2, sv (bW a2), sv (.int (hi : Int)), sv (.int (bo : Int)), x16.map Slot.val, none, none, none, none, none]) [PyData.tuple [.int (-1), .int 9], .tuple [.int (M25 + 1), .int 2]] id (fun _ => .str "range") (by
      generalize bW a2 = w2a at *
      generalize bW a = wa at *
      generalize bW b = wb at *
      simp [m25]) (by simp) (by simp) (by simp) (by
      intro x hx
      generalize bW a2 = w2a at *
      generalize bW a = wa at *
      generalize bW b = wb at *
      simp only [List.mem_cons, List.not_mem_nil, or_false] at hx
      rcases hx with rfl | rfl
      · simp [w3]
      · simp [w4])
  refine sqNX (d' := [sv w0, some (.own u9), sv w2, sv (bW a), sv (bW b), iv tA, iv wA, iv P, sv wt2, sv wd2, sv wv3, sv wl4, sv wl2, sv (bW a2), sv (.int (hi : Int)), sv (.int (bo : Int)), sv (.list [.str "range", .str "range", .str "range", .str "range"]), none, none, none, none, none]) (asgN (x := x16) (d1 := [sv w0, some (.own u9), sv w2, sv (bW a), sv (bW b), iv tA, iv wA, iv P, sv wt2, sv wd2, sv wv3, sv wl4, sv wl2, sv (bW a2), sv (.int (hi : Int)), sv (.int (bo : Int)), x16.map Slot.val, none, none, none, none, none]) (w := .list [.str "range", .str "range", .str "range", .str "range"]) (by
    generalize bW a2 = w2a at *
    generalize bW a = wa at *
    generalize bW b = wb at *
    simp [l5, l6, add_list, -ev_lc]) rfl rfl) ?_
  have l7 : mLc [21] (mItS (mLst (mCons (mTup (mCons (mUn negW (mC (.int 1))) (mCons (mC (.int 3)) mNil))) (mCons (mTup (mCons (mBin addW (mBin mulW (mC (.int 3)) (mVar 15)) (mC (.int 1))) (mCons (mC (.int 3)) mNil))) mNil)))) (store 21) mYes (mCallV F__law_told (mCons (mC (.int 2)) (mCons (mVar 3) (mCons (mVar 4) (mCons (mVar 21) mNil))))) [sv w0, some (.own u9), sv w2, sv (bW a), sv (bW b), iv tA, iv wA, iv P, sv wt2, sv wd2, sv wv3, sv wl4, sv wl2, sv (bW a2), sv (.int (hi : Int)), sv (.int (bo : Int)), sv (.list [.str "range", .str "range", .str "range", .str "range"]), none, none, none, none, none] = .ok (.list [.str "range", .str "range"]) [sv w0, some (.own u9), sv w2, sv (bW a), sv (bW b), iv tA, iv wA, iv P, sv wt2, sv wd2, sv wv3, sv wl4, sv wl2, sv (bW a2), sv (.int (hi : Int)), sv (.int (bo : Int)), sv (.list [.str "range", .str "range", .str "range", .str "range"]), none, none, none, none, none] :=
    mLc_setA (v := 21) (it := (mItS (mLst (mCons (mTup (mCons (mUn negW (mC (.int 1))) (mCons (mC (.int 3)) mNil))) (mCons (mTup (mCons (mBin addW (mBin mulW (mC (.int 3)) (mVar 15)) (mC (.int 1))) (mCons (mC (.int 3)) mNil))) mNil))))) (e := (mCallV F__law_told (mCons (mC (.int 2)) (mCons (mVar 3) (mCons (mVar 4) (mCons (mVar 21) mNil)))))) (d := [sv w0, some (.own u9), sv w2, sv (bW a), sv (bW b), iv tA, iv wA, iv P, sv wt2, sv wd2, sv wv3, sv wl4, sv wl2, sv (bW a2), sv (.int (hi : Int)), sv (.int (bo : Int)), sv (.list [.str "range", .str "range", .str "range", .str "range"]), none, none, none, none, none]) [PyData.tuple [.int (-1), .int 3], .tuple [.int (M26 + 1), .int 3]] id (fun _ => .str "range") (by
      generalize bW a2 = w2a at *
      generalize bW a = wa at *
      generalize bW b = wb at *
      simp [m26]) (by simp) (by simp) (by simp) (by
      intro x hx
      generalize bW a2 = w2a at *
      generalize bW a = wa at *
      generalize bW b = wb at *
      simp only [List.mem_cons, List.not_mem_nil, or_false] at hx
      rcases hx with rfl | rfl
      · simp [w5]
      · simp [w6])
  have k7 : mRepF (mLst (mCons (mC (.str "range")) mNil)) (mC (.int 6)) [sv w0, some (.own u9), sv w2, sv (bW a), sv (bW b), iv tA, iv wA, iv P, sv wt2, sv wd2, sv wv3, sv wl4, sv wl2, sv (bW a2), sv (.int (hi : Int)), sv (.int (bo : Int)), sv (.list [.str "range", .str "range", .str "range", .str "range"]), none, none, none, none, none] = .ok (.list (List.replicate 6 (.str "range"))) [sv w0, some (.own u9), sv w2, sv (bW a), sv (bW b), iv tA, iv wA, iv P, sv wt2, sv wd2, sv wv3, sv wl4, sv wl2, sv (bW a2), sv (.int (hi : Int)), sv (.int (bo : Int)), sv (.list [.str "range", .str "range", .str "range", .str "range"]), none, none, none, none, none] := rep_ev (xs := [PyData.str "range"]) (n := 6) (by simp) rfl (by simp) (by decide)
  refine ⟨[sv w0, some (.own u9), sv w2, sv (bW a), sv (bW b), iv tA, iv wA, iv P, sv wt2, sv wd2, sv wv3, sv wl4, sv wl2, sv (bW a2), sv (.int (hi : Int)), sv (.int (bo : Int)), sv (.list [.str "range", .str "range", .str "range", .str "range"]), none, none, none, none, none], ?_, u9, a, bW b, .int (tA : Int), .int (wA : Int), .int (P : Int), wt2, wd2, wv3, wl4, wl2, bW a2, .int (hi : Int), .int (bo : Int), .list [.str "range", .str "range", .str "range", .str "range"], D9, ba, na, rfl⟩
  change neW (.list [.str "range", .str "range", .str "range", .str "range", .str "range", .str "range"]) (.list [.str "range", .str "range", .str "range", .str "range", .str "range", .str "range"]) = _ at q7
  generalize bW a2 = w2a at *
  generalize bW a = wa at *
  generalize bW b = wb at *
  simp [l7, k7, q7, add_list, -ev_lc, -ev_repF]
end K34
end
section
set_option Elab.async false
set_option linter.all false
set_option maxRecDepth 100000
set_option maxHeartbeats 8000000
/-! k34: the law -/
namespace K34
open Qd PySem L2
theorem take_up {u : W} (D : Dr u) (n : Nat) : ∃ (r : Nat) (u' : W), r ≤ n ∧ Dr u' ∧ F__law_take u [.int ((n : Int) + 1)] = .ok (.val (.int (r : Int))) u' := by
  obtain ⟨r, u', h, D', e⟩ := take_lit (n + 1) D (by omega)
  rw [Int.natCast_add] at e
  exact ⟨r, u', by omega, D', e⟩
theorem mk_le {k n P : Nat} (hP : 0 < P) (h : k ≤ n * P) : 0 ≤ mkRat (k : Int) P ∧ mkRat (k : Int) P ≤ (n : Rat) := by
  rw [Rat.mkRat_eq_div]
  have e : ((k : Int) : Rat) = (k : Rat) := rfl
  rw [e]
  refine ⟨divR_nonneg hP (natR_nonneg k), divR_le hP ?_⟩
  rw [Nat.mul_comm] at h
  exact_mod_cast h
theorem cl_fr {D : Nat} {t : Rat} {h : Nat} (ft : Fr D t) : Fr D (cl t h) := by
  unfold cl
  by_cases c : t ≤ 0
  · rw [if_pos c]; exact fr_nat D 0
  · rw [if_neg c]
    by_cases c2 : t < (h : Rat)
    · rw [if_pos c2]; exact ft
    · rw [if_neg c2]; exact fr_nat D h
theorem vol_fr {D : Nat} : ∀ {r : Rings} {t : Rat}, Fr D t → Fr D (vol r t)
  | [], _, _ => fr_nat D 0
  | (s, h) :: r, t, ft => fr_add (mul_fr (cl_fr ft)) (vol_fr (fr_sub ft (fr_nat D h)))
theorem small {n : Nat} (h : n ≤ 2 ^ 64) : n < 2 ^ 4000 := Nat.lt_of_le_of_lt h (Nat.pow_lt_pow_right (by decide) (by decide))
theorem al_r (q : Rat) : al 1 (rW q) := ⟨by simp, fun d hd => by
  simp only [List.mem_cons, List.not_mem_nil, or_false] at hd
  rcases hd with rfl | rfl <;> trivial⟩
theorem al_two (p q : Rat) : al 2 (.list [rW p, rW q]) := ⟨by simp, fun d hd => by
  simp only [List.mem_cons, List.not_mem_nil, or_false] at hd
  rcases hd with rfl | rfl
  · exact al_r p
  · exact al_r q⟩
theorem ok_r (q : Rat) : okD (rW q) = true := lv_ok (k := 1) (by decide) (al_lv (al_r q))
theorem bnd_sq {b : Bowl} (h : bnd b) : ∀ p ∈ sq b, 0 < p.1 ∧ p.1 ≤ 4000 := fun p hp => by
  obtain ⟨q, hq, rfl⟩ := List.mem_map.mp hp
  have r := h.2 q hq
  have := (ring_whole r).1
  exact ⟨Nat.mul_pos r.1 r.1, by show q.1 * q.1 ≤ 4000; omega⟩
theorem pow300 {P s : Nat} (h : P ≤ 30000) (hs : s ≤ 4000) : P * s ≤ BB ∧ P * s ≤ 2 ^ 400 := by
  have h1 := Nat.mul_le_mul h hs
  have := BB_big
  have := BB_le
  exact ⟨by omega, by omega⟩
theorem gcd_one (m n : Nat) : Nat.gcd (m * n + 1) m = 1 := by
  have h1 := Nat.gcd_dvd_left (m * n + 1) m
  have h2 := Nat.gcd_dvd_right (m * n + 1) m
  exact Nat.dvd_one.mp ((Nat.dvd_add_right (Nat.dvd_trans h2 (Nat.dvd_mul_right m n))).mp h1)
theorem out_hi {m n : Nat} (hm : 0 < m) (hm2 : m ≤ 10) (hn : n ≤ 1000000) : ∃ q : Rat, (n : Rat) < q ∧ okR q ∧ rW q = .tuple [.int (((m * n : Nat) : Int) + 1), .int (m : Int)] := by
  have e : ((m * n + 1 : Nat) : Int) = ((m * n : Nat) : Int) + 1 := Int.natCast_add ..
  have hq := rw_low ((m * n + 1 : Nat) : Int) hm (by rw [Int.natAbs_natCast]; exact gcd_one m n)
  rw [e] at hq
  have pm := natR_pos hm
  have h0 : (m : Rat) ≠ 0 := by grind
  have ev : mkRat (((m * n : Nat) : Int) + 1) m = (n : Rat) + (1 : Rat) / (m : Rat) := by
    rw [← e, Rat.mkRat_eq_div]
    have : (((m * n + 1 : Nat) : Int) : Rat) = (m : Rat) * (n : Rat) + 1 := by
      rw [← natR_mul]
      exact natR_add (m * n) 1
    rw [this]
    grind
  have d0 := divR_nonneg hm (v := 1) (by decide)
  have d1 := divR_le hm (h := 1) (v := 1) (by rw [Nat.mul_one]; exact_mod_cast hm)
  have d2 : 0 < (1 : Rat) / (m : Rat) := by
    have := divR hm 1
    by_cases z : (1 : Rat) / (m : Rat) = 0
    · rw [z] at this; grind
    · grind
  have big := BB_big
  have nB := castB (n := n + 1) (by omega)
  rw [natR_add] at nB
  have n0 := natR_nonneg n
  have bb := bb0
  refine ⟨mkRat (((m * n : Nat) : Int) + 1) m, by rw [ev]; grind, ?_, hq⟩
  refine okB hm (by omega) (fr_mk _ hm) ?_ ?_
  · rw [ev]; grind
  · rw [ev]; grind
theorem out_lo {m : Nat} (hm : 0 < m) (hm2 : m ≤ 10) : ∃ q : Rat, q < 0 ∧ okR q ∧ rW q = .tuple [.int (-1), .int (m : Int)] := by
  have hq := rw_low (-1) hm (by show Nat.gcd 1 m = 1; exact Nat.gcd_one_left m)
  have pm := natR_pos hm
  have h0 : (m : Rat) ≠ 0 := by grind
  have ev : mkRat (-1) m = - ((1 : Rat) / (m : Rat)) := by
    rw [Rat.mkRat_eq_div]
    show (-1 : Rat) / (m : Rat) = _
    grind
  have d1 := divR_le hm (h := 1) (v := 1) (by rw [Nat.mul_one]; exact_mod_cast hm)
  have d0 := divR_nonneg hm (v := 1) (by decide)
  have d2 : 0 < (1 : Rat) / (m : Rat) := by
    have := divR hm 1
    by_cases z : (1 : Rat) / (m : Rat) = 0
    · rw [z] at this; grind
    · grind
  have big := BB_big
  have nB := castB (n := 1) (by omega)
  have bb := bb0
  refine ⟨mkRat (-1) m, by rw [ev]; grind, ?_, hq⟩
  refine okB hm (by omega) (fr_mk _ hm) ?_ ?_
  · rw [ev]; grind
  · rw [ev]; grind
theorem ok_ra : PyData.strOk ("range" : Str) = true := by decide +kernel
theorem half {q : Rat} (n : Nat) : mkRat (q.num + ((n * q.den : Nat) : Int)) (2 * q.den) = (q + (n : Rat)) / ((2 : Nat) : Rat) := by
  rw [Rat.mkRat_eq_div]
  have hd := castD q.den_pos
  have e1 : ((q.num + ((n * q.den : Nat) : Int) : Int) : Rat) = q * (q.den : Rat) + (n : Rat) * (q.den : Rat) := by
    rw [Rat.intCast_add, numR]
    congr 1
    exact natR_mul n q.den
  have e2 : ((2 * q.den : Nat) : Rat) = ((2 : Nat) : Rat) * (q.den : Rat) := natR_mul 2 q.den
  have h2 : ((2 : Nat) : Rat) ≠ 0 := by decide
  rw [e1, e2]
  grind
theorem turn (w0 w2 : W) (x3 x4 x5 x6 x7 x8 x9 x10 x11 x12 x13 x14 x15 x16 : Option W) {u : W} (D : Dr u) : NX (after w0 w2) ((mSeq (mAsg (gTupW 2 (gsCons (store 3) (gsCons (store 4) gsNil))) (mTup (mCons (mCallP F__law_bowl 1 mNil) (mCons (mCallP F__law_bowl 1 mNil) mNil)))) (mSeq (mIf (mNotT (mTruth (mCallV F__law_says (mCons (mCallV F_is_bowl (mCons (mVar 3) mNil)) (mCons (mC (.bool true)) mNil))))) (mRet (mC (.bool false))) mSkip) (mSeq (mPar [5, 6] (mConsV (mCallB sumW (mCons (mLc [19, 20] (mItS (mVar 3)) (gTupW 2 (gsCons (store 19) (gsCons (store 20) gsNil))) mYes (mVar 20)) mNil)) (mConsV (mCallB sumW (mCons (mLc [19, 20] (mItS (mVar 3)) (gTupW 2 (gsCons (store 19) (gsCons (store 20) gsNil))) mYes (mBin mulW (mBin mulW (mVar 19) (mVar 19)) (mVar 20))) mNil)) mNilO))) (mSeq (mAsg (store 7) (mBin addW (mC (.int 1)) (mCallP F__law_take 1 (mCons (mBin ixW (mLst (mCons (mC (.int 6)) (mCons (mC (.int 9973)) mNil))) (mCallP F__law_take 1 (mCons (mC (.int 2)) mNil))) mNil)))) (mSeq (mAsg (store 8) (mCallV F__law_part (mCons (mCallP F__law_take 1 (mCons (mBin addW (mBin mulW (mVar 5) (mVar 7)) (mC (.int 1))) mNil)) (mCons (mVar 7) mNil)))) (mSeq (mAsg (store 9) (mCallV F__law_volume (mCons (mVar 3) (mCons (mVar 8) mNil)))) (mSeq (mIf (mNotT (mTruth (mCallV F__law_alike (mCons (mLst (mCons (mCallV F__law_told (mCons (mC (.int 0)) (mCons (mVar 3) (mCons (mC .none) (mCons (mVar 8) mNil))))) (mCons (mCallV F__law_told (mCons (mC (.int 1)) (mCons (mVar 3) (mCons (mC .none) (mCons (mVar 9) mNil))))) mNil))) (mCons (mLst (mCons (mVar 9) (mCons (mVar 8) mNil))) mNil))))) (mRet (mC (.bool false))) mSkip) (mSeq (mAsg (store 10) (mCallV F__law_part (mCons (mCallP F__law_take 1 (mCons (mBin addW (mBin mulW (mVar 6) (mVar 7)) (mC (.int 1))) mNil)) (mCons (mVar 7) mNil)))) (mSeq (mAsg (store 11) (mCallV F__law_told (mCons (mC (.int 1)) (mCons (mVar 3) (mCons (mC .none) (mCons (mVar 10) mNil)))))) (mSeq (mIf (mOrT (mNotT (mTruth (mCallV F__law_is_part (mCons (mVar 11) mNil)))) (mOrT (mTest (mBin neW (mCallV F__law_volume (mCons (mVar 3) (mCons (mVar 11) mNil))) (mVar 10))) (mOrT (mTest (mBin ltW (mBin ixW (mVar 11) (mC (.int 0))) (mC (.int 0)))) (mTruth (mCallV F__law_less (mCons (mTup (mCons (mVar 5) (mCons (mC (.int 1)) mNil))) (mCons (mVar 11) mNil))))))) (mRet (mC (.bool false))) mSkip) (mSeq (mAsg (store 12) (mCallV F__law_told (mCons (mC (.int 1)) (mCons (mVar 3) (mCons (mC .none) (mCons (mCallV F__law_part (mCons (mBin addW (mBin ixW (mVar 10) (mC (.int 0))) (mBin mulW (mVar 6) (mBin ixW (mVar 10) (mC (.int 1))))) (mCons (mBin mulW (mC (.int 2)) (mBin ixW (mVar 10) (mC (.int 1)))) mNil))) mNil)))))) (mSeq (mIf (mAndT (mTruth (mCallV F__law_less (mCons (mVar 10) (mCons (mTup (mCons (mVar 6) (mCons (mC (.int 1)) mNil))) mNil)))) (mNotT (mTruth (mCallV F__law_less (mCons (mVar 11) (mCons (mVar 12) mNil)))))) (mRet (mC (.bool false))) mSkip) (mSeq (mAsg (store 13) (mCallB tupleW (mCons (mLc [19, 20] (mItS (mVar 3)) (gTupW 2 (gsCons (store 19) (gsCons (store 20) gsNil))) mYes (mTup (mCons (mCallB min2W (mCons (mC (.int 30)) (mCons (mBin addW (mVar 19) (mCallP F__law_take 1 (mCons (mC (.int 3)) mNil))) mNil))) (mCons (mVar 20) mNil)))) mNil))) (mSeq (mIf (mTruth (mCallV F__law_less (mCons (mVar 11) (mCons (mCallV F__law_told (mCons (mC (.int 1)) (mCons (mVar 13) (mCons (mC .none) (mCons (mVar 10) mNil))))) mNil)))) (mRet (mC (.bool false))) mSkip) (mSeq (mIf (mTest (mBin neW (mLst (mCons (mCallV F__law_told (mCons (mC (.int 1)) (mCons (mVar 3) (mCons (mC .none) (mCons (mTup (mCons (mC (.int 0)) (mCons (mC (.int 1)) mNil))) mNil))))) (mCons (mCallV F__law_told (mCons (mC (.int 1)) (mCons (mVar 3) (mCons (mC .none) (mCons (mTup (mCons (mVar 6) (mCons (mC (.int 1)) mNil))) mNil))))) (mCons (mCallV F__law_told (mCons (mC (.int 0)) (mCons (mVar 3) (mCons (mC .none) (mCons (mTup (mCons (mVar 5) (mCons (mC (.int 1)) mNil))) mNil))))) mNil)))) (mLst (mCons (mTup (mCons (mC (.int 0)) (mCons (mC (.int 1)) mNil))) (mCons (mTup (mCons (mVar 5) (mCons (mC (.int 1)) mNil))) (mCons (mTup (mCons (mVar 6) (mCons (mC (.int 1)) mNil))) mNil)))))) (mRet (mC (.bool false))) mSkip) (mSeq (mAsg (store 14) (mCallB max2W (mCons (mVar 5) (mCons (mCallB sumW (mCons (mLc [19, 20] (mItS (mVar 4)) (gTupW 2 (gsCons (store 19) (gsCons (store 20) gsNil))) mYes (mVar 20)) mNil)) mNil)))) (mSeq (mAsg (store 15) (mBin addW (mVar 6) (mCallB sumW (mCons (mLc [19, 20] (mItS (mVar 4)) (gTupW 2 (gsCons (store 19) (gsCons (store 20) gsNil))) mYes (mBin mulW (mBin mulW (mVar 19) (mVar 19)) (mVar 20))) mNil)))) (mSeq (mAsg (store 8) (mCallV F__law_part (mCons (mCallP F__law_take 1 (mCons (mBin addW (mBin mulW (mVar 14) (mVar 7)) (mC (.int 1))) mNil)) (mCons (mVar 7) mNil)))) (mSeq (mAsg (store 9) (mCallV F__law_plus (mCons (mCallV F__law_volume (mCons (mVar 3) (mCons (mVar 8) mNil))) (mCons (mCallV F__law_volume (mCons (mVar 4) (mCons (mVar 8) mNil))) mNil)))) (mSeq (mIf (mNotT (mTruth (mCallV F__law_alike (mCons (mLst (mCons (mCallV F__law_told (mCons (mC (.int 2)) (mCons (mVar 3) (mCons (mVar 4) (mCons (mVar 9) mNil))))) (mCons (mCallV F__law_told (mCons (mC (.int 2)) (mCons (mVar 4) (mCons (mVar 3) (mCons (mVar 9) mNil))))) mNil))) (mCons (mLst (mCons (mVar 8) (mCons (mVar 8) mNil))) mNil))))) (mRet (mC (.bool false))) mSkip) (mSeq (mAsg (store 10) (mCallV F__law_part (mCons (mCallP F__law_take 1 (mCons (mBin addW (mBin mulW (mVar 15) (mVar 7)) (mC (.int 1))) mNil)) (mCons (mVar 7) mNil)))) (mSeq (mAsg (store 11) (mCallV F__law_told (mCons (mC (.int 2)) (mCons (mVar 3) (mCons (mVar 4) (mCons (mVar 10) mNil)))))) (mSeq (mIf (mOrT (mNotT (mTruth (mCallV F__law_is_part (mCons (mVar 11) mNil)))) (mTest (mBin neW (mCallV F__law_plus (mCons (mCallV F__law_volume (mCons (mVar 3) (mCons (mVar 11) mNil))) (mCons (mCallV F__law_volume (mCons (mVar 4) (mCons (mVar 11) mNil))) mNil))) (mVar 10)))) (mRet (mC (.bool false))) mSkip) (mSeq (mAsg (store 16) (mBin addW (mLc [21] (mItS (mLst (mCons (mTup (mCons (mUn negW (mC (.int 1))) (mCons (mC (.int 2)) mNil))) (mCons (mTup (mCons (mBin addW (mBin mulW (mC (.int 2)) (mVar 5)) (mC (.int 1))) (mCons (mC (.int 2)) mNil))) mNil)))) (store 21) mYes (mCallV F__law_told (mCons (mC (.int 0)) (mCons (mVar 3) (mCons (mC .none) (mCons (mVar 21) mNil)))))) (mLc [21] (mItS (mLst (mCons (mTup (mCons (mUn negW (mC (.int 1))) (mCons (mC (.int 9)) mNil))) (mCons (mTup (mCons (mBin addW (mBin mulW (mC (.int 2)) (mVar 6)) (mC (.int 1))) (mCons (mC (.int 2)) mNil))) mNil)))) (store 21) mYes (mCallV F__law_told (mCons (mC (.int 1)) (mCons (mVar 3) (mCons (mC .none) (mCons (mVar 21) mNil)))))))) (mIf (mTest (mBin neW (mBin addW (mVar 16) (mLc [21] (mItS (mLst (mCons (mTup (mCons (mUn negW (mC (.int 1))) (mCons (mC (.int 3)) mNil))) (mCons (mTup (mCons (mBin addW (mBin mulW (mC (.int 3)) (mVar 15)) (mC (.int 1))) (mCons (mC (.int 3)) mNil))) mNil)))) (store 21) mYes (mCallV F__law_told (mCons (mC (.int 2)) (mCons (mVar 3) (mCons (mVar 4) (mCons (mVar 21) mNil))))))) (mRepF (mLst (mCons (mC (.str "range")) mNil)) (mC (.int 6))))) (mRet (mC (.bool false))) mSkip))))))))))))))))))))))))) [sv w0, some (.own u), sv w2, x3.map Slot.val, x4.map Slot.val, x5.map Slot.val, x6.map Slot.val, x7.map Slot.val, x8.map Slot.val, x9.map Slot.val, x10.map Slot.val, x11.map Slot.val, x12.map Slot.val, x13.map Slot.val, x14.map Slot.val, x15.map Slot.val, x16.map Slot.val, none, none, none, none, none]) := by
  obtain ⟨a, u1, D1, ba, na, e1⟩ := e_lawbowl D
  obtain ⟨b, u2, D2, bb, nb, e2⟩ := e_lawbowl D1
  obtain ⟨r3, u3, h3, D3, e3⟩ := take_lit 2 D2 (by decide)
  change F__law_take u2 [.int 2] = _ at e3
  obtain ⟨n3, p3, q3, a3⟩ := pick2 (a := 6) (b := 9973) h3 (by decide) (by decide)
  change atI [PyData.int 6, .int 9973] _ = _ at a3
  obtain ⟨r4, u4, h4, D4, e4⟩ := take_lit n3 D3 p3
  obtain ⟨P, hP, P0, P1⟩ : ∃ P : Nat, 1 + (r4 : Int) = (P : Int) ∧ 0 < P ∧ P ≤ 9973 := ⟨1 + r4, by omega, by omega, by omega⟩
  have ga := bnd_good ba
  have gb := bnd_good bb
  have ta := tot_b ba
  have tb := tot_b bb
  have va := whole_b ba
  have vb := whole_b bb
  have big := BB_big
  have hB := BB_le
  have PB : P ≤ BB := by omega
  have P400 : P ≤ 2 ^ 400 := by omega
  have n7 := bb0
  have tA0 := natR_nonneg (tot (sq a))
  have tB0 := natR_nonneg (tot (sq b))
  have tAm : (tot (sq a) : Rat) ≤ ((1000000 : Nat) : Rat) := by
    have : tot (sq a) ≤ 1000000 := by omega
    exact_mod_cast this
  have wAB := castB (n := whole (sq a)) (by omega)
  have tAB := castB (n := tot (sq a)) (by omega)
  have wA0 := natR_nonneg (whole (sq a))
  have sA : sumW [.list (natW (a.map (·.2)))] = some (.int (tot (sq a) : Int)) := by rw [sum_nat, ← top_sum]
  have sB : sumW [.list (natW (b.map (·.2)))] = some (.int (tot (sq b) : Int)) := by rw [sum_nat, ← top_sum]
  have vA : sumW [.list (natW (a.map fun p => p.1 * p.1 * p.2))] = some (.int (whole (sq a) : Int)) := by rw [sum_nat, ← whole_sum]
  have vB : sumW [.list (natW (b.map fun p => p.1 * p.1 * p.2))] = some (.int (whole (sq b) : Int)) := by rw [sum_nat, ← whole_sum]
  -- the first level
  have m5 := mulN (a := tot (sq a)) (b := P) (by omega) (by omega)
  obtain ⟨k5, u5, h5, D5, e5⟩ := take_up D4 (tot (sq a) * P)
  have p5 := l_part (a := (k5 : Int)) P0 (small (by omega))
  obtain ⟨T0, T1⟩ := mk_le P0 h5
  have ft : Fr P (mkRat (k5 : Int) P) := fr_mk _ P0
  generalize mkRat (k5 : Int) P = t at *
  have f6 := l_vol ba P0 P400 ft T0 (by grind)
  have f7a := t0 (e_vol ba P0 P400 ft T0 T1)
  have f7b := t1 (e_lev ba P0 PB (vol_fr (r := sq a) ft) (vol_nonneg _ _) (vol_le _ _))
  rw [lev_vol ga T0 T1] at f7b
  have f7c := e_alike (k := 2) (by decide) (al_two (vol (sq a) t) t)
  -- the first volume
  have m8 := mulN (a := whole (sq a)) (b := P) (by omega) (by omega)
  obtain ⟨k8, u6, h8, D6, e8⟩ := take_up D5 (whole (sq a) * P)
  have p8 := l_part (a := (k8 : Int)) P0 (small (by omega))
  obtain ⟨V0, V1⟩ := mk_le P0 h8
  have fv : Fr P (mkRat (k8 : Int) P) := fr_mk _ P0
  generalize mkRat (k8 : Int) P = v at *
  have okv := okB P0 P400 fv (by grind) (by grind)
  have f9 := t1 (e_lev ba P0 PB fv V0 V1)
  obtain ⟨L0, L1, L2⟩ := lev_ok ga V0 V1
  obtain ⟨s1, s10, s11, fl⟩ := lev_fr (bnd_sq ba) fv
  obtain ⟨_, c1⟩ := pow300 (P := P) (by omega) s11
  have okl := okB (Nat.mul_pos P0 s10) c1 fl (by grind) (by grind)
  have g10 := e_part (lev (sq a) v)
  have f10 := l_vol ba (Nat.mul_pos P0 s10) c1 fl L0 (by grind)
  rw [L2] at f10
  have q10 := ne_self (ok_r v)
  have z10 : ixW (rW (lev (sq a) v)) (.int 0) = some (.int (lev (sq a) v).num) := by rw [ev_ixT, at0]
  have c10 : ¬ (lev (sq a) v).num < 0 := by
    have := Rat.num_nonneg.mpr L0
    omega
  have h10 := l_less (p := (tot (sq a) : Rat)) (okN (by omega)) okl
  rw [decide_eq_false (by grind), rw_nat] at h10
  -- half way on
  have z11 : ixW (rW v) (.int 0) = some (.int v.num) := by rw [ev_ixT, at0]
  have y11 : ixW (rW v) (.int 1) = some (.int (v.den : Int)) := by rw [ev_ixT, at1]
  have dv := fr_den P0 fv
  have dv0 := v.den_pos
  have m11 := mulN (a := whole (sq a)) (b := v.den) (by omega) (by omega)
  have k11 := mulN (a := 2) (b := v.den) (by omega) (by omega)
  change mulW (.int 2) (.int (v.den : Int)) = _ at k11
  have p11 := l_part (a := v.num + ((whole (sq a) * v.den : Nat) : Int)) (b := 2 * v.den) (by omega) (small (by omega))
  rw [half] at p11
  have fw : Fr (P * 2) ((v + (whole (sq a) : Rat)) / ((2 : Nat) : Rat)) := fr_inv (by decide) (fr_add fv (fr_nat P _))
  have hv2 : ((v + (whole (sq a) : Rat)) / ((2 : Nat) : Rat)) * 2 = v + (whole (sq a) : Rat) := by
    have : ((2 : Nat) : Rat) = 2 := rfl
    rw [this]
    grind
  generalize (v + (whole (sq a) : Rat)) / ((2 : Nat) : Rat) = v2 at *
  have W0 : 0 ≤ v2 := by grind
  have W1 : v2 ≤ (whole (sq a) : Rat) := by grind
  have f11 := t1 (e_lev ba (D := P * 2) (by omega) (by omega) fw W0 W1)
  obtain ⟨K0, K1, K2⟩ := lev_ok ga W0 W1
  obtain ⟨s2, s20, s21, fl2⟩ := lev_fr (bnd_sq ba) fw
  obtain ⟨_, c2⟩ := pow300 (P := P * 2) (by omega) s21
  have okl2 := okB (Nat.mul_pos (by omega) s20) c2 fl2 (by grind) (by grind)
  have h12 := l_less (q := (whole (sq a) : Rat)) okv (okN (by omega))
  rw [rw_nat] at h12
  have h12b := l_less okl okl2
  have hc : decide (v < (whole (sq a) : Rat)) = true → decide (lev (sq a) v < lev (sq a) v2) = true := fun z => by
    have z := of_decide_eq_true z
    exact decide_eq_true (lev_lt ga V0 (by grind) W1)
  have h13 : ∀ a2 : Bowl, bnd a2 → wider (sq a) (sq a2) → ∃ wl3 : W, F__law_told [.int 1, bW a2, .none, rW v] = .ok (.val wl3) ∧ F__law_less [rW (lev (sq a) v), wl3] = .ok (.val (.bool false)) := fun a2 b2 hw => by
    have hw2 := whole_wide hw
    have hw3 : (whole (sq a) : Rat) ≤ (whole (sq a2) : Rat) := by exact_mod_cast hw2
    have ht3 := tot_wide hw
    obtain ⟨J0, J1, _⟩ := lev_ok (bnd_good b2) V0 (by grind)
    rw [← ht3] at J1
    obtain ⟨s3, s30, s31, fl3⟩ := lev_fr (bnd_sq b2) fv
    obtain ⟨_, c3⟩ := pow300 (P := P) (by omega) s31
    have okl3 := okB (Nat.mul_pos P0 s30) c3 fl3 (by grind) (by grind)
    have hl := lev_wide hw ga (bnd_good b2) V0 V1
    have h14 := l_less okl okl3
    rw [decide_eq_false (by grind)] at h14
    exact ⟨_, t1 (e_lev b2 P0 PB fv V0 (by grind)), h14⟩
  -- the ends
  have f15a := t1 (e_lev ba (D := 1) (v := 0) (by decide) (by omega) (fr_nat 1 0) (by decide) (by grind))
  rw [show lev (sq a) 0 = 0 by
    have := lev_vol ga (t := 0) (by decide) (by grind)
    rwa [vol_neg (by decide)] at this, rw_zero] at f15a
  have f15b := t1 (e_lev ba (D := 1) (v := (whole (sq a) : Rat)) (by decide) (by omega) (fr_nat 1 _) (by grind) (by grind))
  rw [show lev (sq a) (whole (sq a) : Rat) = (tot (sq a) : Rat) by
    have := lev_vol ga (t := (tot (sq a) : Rat)) tA0 (by grind)
    rwa [vol_top (by grind)] at this, rw_nat, rw_nat] at f15b
  have f15c := t0 (e_vol ba (D := 1) (t := (tot (sq a) : Rat)) (by decide) (by omega) (fr_nat 1 _) tA0 (by grind))
  rw [vol_top (by grind), rw_nat, rw_nat] at f15c
  have q15 := ne_self (w := .list [.tuple [.int 0, .int 1], .tuple [.int (tot (sq a) : Int), .int 1], .tuple [.int (whole (sq a) : Int), .int 1]]) (lv_ok (k := 2) (by decide) (by
    intro d hd
    simp only [List.mem_cons, List.not_mem_nil, or_false] at hd
    rcases hd with rfl | rfl | rfl
    · exact al_lv (al_r 0)
    · exact al_lv (al_r (tot (sq a) : Rat))
    · exact al_lv (al_r (whole (sq a) : Rat))))
  -- both
  obtain ⟨J, j1, j2, j3, j4, j5, j6⟩ := e_jlev ba bb na
  obtain ⟨J', i1, i2, i3, i4, i5, i6⟩ := e_jlev bb ba nb
  have m16 : max2W [.int (tot (sq a) : Int), .int (tot (sq b) : Int)] = some (.int ((max (tot (sq a)) (tot (sq b)) : Nat) : Int)) := by
    rw [ev_max2]
    congr 2
    split <;> omega
  have hi1 : max (tot (sq a)) (tot (sq b)) ≤ 160 := by omega
  rw [Nat.max_comm, ← j2] at i2
  rw [← j2] at m16 hi1
  have m17 : (whole (sq a) : Int) + (whole (sq b) : Int) = ((whole (sq a) + whole (sq b) : Nat) : Int) := (Int.natCast_add ..).symm
  have wbB := castB (n := whole (sq a) + whole (sq b)) (by omega)
  have wb0 := natR_nonneg (whole (sq b))
  have cadd := natR_add (whole (sq a)) (whole (sq b))
  have hiM : (tot J : Rat) ≤ ((1000000 : Nat) : Rat) := by
    have : tot J ≤ 1000000 := by omega
    exact_mod_cast this
  have hi0 := natR_nonneg (tot J)
  have hiB := castB (n := tot J) (by omega)
  have m18 := mulN (a := tot J) (b := P) (by omega) (by omega)
  have h18 : ∀ u7 : W, Dr u7 → ∃ (k18 : Int) (u8 wt2 wz1 wz2 wd2 : W), Dr u8 ∧ F__law_take u7 [.int (((tot J * P : Nat) : Int) + 1)] = .ok (.val (.int k18)) u8 ∧ F__law_part [.int k18, .int (P : Int)] = .ok (.val wt2) ∧ F__law_volume [bW a, wt2] = .ok (.val wz1) ∧ F__law_volume [bW b, wt2] = .ok (.val wz2) ∧ F__law_plus [wz1, wz2] = .ok (.val wd2) ∧ F__law_told [.int 2, bW a, bW b, wd2] = .ok (.val wt2) ∧ F__law_told [.int 2, bW b, bW a, wd2] = .ok (.val wt2) ∧ F__law_alike [.list [wt2, wt2], .list [wt2, wt2]] = .ok (.val (.bool true)) := fun u7 D7 => by
    obtain ⟨k, u8, hk, D8, e8⟩ := take_up D7 (tot J * P)
    have p := l_part (a := (k : Int)) P0 (small (by omega))
    obtain ⟨R0, R1⟩ := mk_le P0 hk
    have fr : Fr P (mkRat (k : Int) P) := fr_mk _ P0
    generalize mkRat (k : Int) P = r at *
    have z1 := l_vol ba P0 P400 fr R0 (by grind)
    have z2 := l_vol bb P0 P400 fr R0 (by grind)
    have y1 := vol_fr (r := sq a) fr
    have y2 := vol_fr (r := sq b) fr
    have x1 := vol_nonneg (sq a) r
    have x2 := vol_nonneg (sq b) r
    have w1 := vol_le (sq a) r
    have w2 := vol_le (sq b) r
    have z3 := l_plus (okB P0 P400 y1 (by grind) (by grind)) (okB P0 P400 y2 (by grind) (by grind))
    have v1 := j4 r R0
    have v2 := i4 r R0
    have l1 := lev_vol j1 R0 R1
    have l2 := lev_vol i1 R0 (by rw [i2]; exact R1)
    have t1' := j6 P (vol (sq a) r + vol (sq b) r) P0 PB (fr_add y1 y2) (by grind) (by grind)
    have t2' := i6 P (vol (sq b) r + vol (sq a) r) P0 PB (fr_add y2 y1) (by grind) (by rw [natR_add]; grind)
    rw [← v1, l1, v1] at t1'
    rw [← v2, l2, v2, show vol (sq b) r + vol (sq a) r = vol (sq a) r + vol (sq b) r by grind] at t2'
    exact ⟨_, u8, _, _, _, _, D8, e8, p, z1, z2, z3, t2 t1', t2 t2', e_alike (k := 2) (by decide) (al_two r r)⟩
  have m21 := mulN (a := whole (sq a) + whole (sq b)) (b := P) (by omega) (by omega)
  have h21 : ∀ u8 : W, Dr u8 → ∃ (k21 : Int) (u9 wv3 wl4 wy1 wy2 : W), Dr u9 ∧ F__law_take u8 [.int ((((whole (sq a) + whole (sq b)) * P : Nat) : Int) + 1)] = .ok (.val (.int k21)) u9 ∧ F__law_part [.int k21, .int (P : Int)] = .ok (.val wv3) ∧ F__law_told [.int 2, bW a, bW b, wv3] = .ok (.val wl4) ∧ F__law_is_part [wl4] = .ok (.val (.bool true)) ∧ F__law_volume [bW a, wl4] = .ok (.val wy1) ∧ F__law_volume [bW b, wl4] = .ok (.val wy2) ∧ F__law_plus [wy1, wy2] = .ok (.val wv3) ∧ neW wv3 wv3 = some (.bool false) := fun u8 D8 => by
    obtain ⟨k, u9, hk, D9, e9⟩ := take_up D8 ((whole (sq a) + whole (sq b)) * P)
    have p := l_part (a := (k : Int)) P0 (small (by omega))
    obtain ⟨R0, R1⟩ := mk_le P0 hk
    have fr : Fr P (mkRat (k : Int) P) := fr_mk _ P0
    generalize mkRat (k : Int) P = r at *
    have t3 := j6 P r P0 PB fr R0 R1
    obtain ⟨M0, M1, M2⟩ := lev_ok j1 R0 (by rw [j3]; exact R1)
    obtain ⟨s4, s40, s41, fl4⟩ := lev_fr (fun p hp => ⟨(j1 p hp).1, by have := j5 p hp; omega⟩) fr
    obtain ⟨_, c4⟩ := pow300 (P := P) (by omega) s41
    have v1 := j4 _ M0
    rw [M2] at v1
    generalize lev J r = l at *
    have Q0 : 0 < P * s4 := Nat.mul_pos P0 s40
    have z1 := l_vol ba Q0 c4 fl4 M0 (by grind)
    have z2 := l_vol bb Q0 c4 fl4 M0 (by grind)
    have y1 := vol_fr (r := sq a) fl4
    have y2 := vol_fr (r := sq b) fl4
    have x1 := vol_nonneg (sq a) l
    have x2 := vol_nonneg (sq b) l
    have w1 := vol_le (sq a) l
    have w2 := vol_le (sq b) l
    have z3 := l_plus (okB Q0 c4 y1 (by grind) (by grind)) (okB Q0 c4 y2 (by grind) (by grind))
    rw [← v1] at z3
    exact ⟨_, u9, _, _, _, _, D9, e9, p, t2 t3, e_part l, z1, z2, z3, ne_self (ok_r r)⟩
  -- out of range
  have m24 := mulN (a := 2) (b := tot (sq a)) (by omega) (by omega)
  have m25 := mulN (a := 2) (b := whole (sq a)) (by omega) (by omega)
  have m26 := mulN (a := 3) (b := whole (sq a) + whole (sq b)) (by omega) (by omega)
  obtain ⟨q1, q1a, q1b, q1c⟩ := out_lo (m := 2) (by decide) (by decide)
  obtain ⟨q2, q2a, q2b, q2c⟩ := out_hi (m := 2) (n := tot (sq a)) (by decide) (by decide) (by omega)
  obtain ⟨q4, q4a, q4b, q4c⟩ := out_hi (m := 2) (n := whole (sq a)) (by decide) (by decide) (by omega)
  obtain ⟨q9, q9a, q9b, q9c⟩ := out_lo (m := 9) (by decide) (by decide)
  obtain ⟨q5, q5a, q5b, q5c⟩ := out_lo (m := 3) (by decide) (by decide)
  obtain ⟨q6, q6a, q6b, q6c⟩ := out_hi (m := 3) (n := whole (sq a) + whole (sq b)) (by decide) (by decide) (by omega)
  have w1 := t0x (x_vol ba q1b (.inl q1a))
  have w2' := t0x (x_vol ba q2b (.inr q2a))
  have w3 := t1x (x_lev ba q9b (.inl q9a))
  have w4 := t1x (x_lev ba q4b (.inr q4a))
  have w5 := t2x (x_jlev ba bb q5b (.inl q5a))
  have w6 := t2x (x_jlev ba bb q6b (.inr q6a))
  rw [q1c] at w1
  rw [q2c] at w2'
  rw [q9c] at w3
  rw [q4c] at w4
  rw [q5c] at w5
  rw [q6c] at w6
  have q7 : neW (.list (List.replicate 6 (.str "range"))) (.list (List.replicate 6 (.str "range"))) = some (.bool false) := ne_self (lv_ok (k := 1) (by decide) (by
    intro d hd
    have := List.eq_of_mem_replicate hd
    subst this
    exact ok_ra))
  exact body_of w0 w2 x3 x4 x5 x6 x7 x8 x9 x10 x11 x12 x13 x14 x15 x16 D6 ba bb na e1 e2 (e_bowl ba na) (e_says true true) sA sB vA vB e3 a3 e4 hP m5 e5 p5 f6 f7a f7b f7c m8 e8 p8 f9 g10 f10 q10 z10 c10 h10 z11 y11 m11 k11 p11 f11 h12 h12b hc f15a f15b f15c q15 m16 m17 m18 m21 m24 m25 m26 w1 w2' w3 w4 w5 w6 q7 h13 h18 h21
theorem sqYx {a b : MS} {d : SD} {Q : SD → Prop} (h : ∃ d', a d = .next d' ∧ Q d') (z : ∀ d', Q d' → Yes (b d')) : Yes (mSeq a b d) := by
  obtain ⟨d', e, p⟩ := h
  exact sqE e (z d' p)
theorem law_yes (ns : List Int) (hl : ns.length ≤ 63) (hb : ∀ z ∈ ns, Builtin.Int.intBits z ≤ 1048576) : Yes (m_law (sdV 22 [.list (ns.map PyData.int)])) := by
  obtain ⟨u0, eo, D0⟩ := e_draws ns hl hb
  generalize hsc : PyData.list (ns.map PyData.int) = sc at *
  unfold m_law
  rw [show sdV 22 [sc] = [sv sc, none, none, none, none, none, none, none, none, none, none, none, none, none, none, none, none, none, none, none, none, none] from rfl]
  refine sqE (d' := [sv sc, some (.own u0), none, none, none, none, none, none, none, none, none, none, none, none, none, none, none, none, none, none, none, none]) (by simp [eo]) ?_
  have hr := rg 3 (by decide)
  change range1? [.int 3] = _ at hr
  obtain ⟨d1, b1, u1, a1, y4, y5, y6, y7, y8, y9, y10, y11, y12, y13, y14, y15, y16, D1, ba1, na1, rfl⟩ := turn sc (.int 0) none none none none none none none none none none none none none none D0
  obtain ⟨d2, b2, u2, a2, z4, z5, z6, z7, z8, z9, z10, z11, z12, z13, z14, z15, z16, D2, ba2, na2, rfl⟩ := turn sc (.int 1) (some (bW a1)) (some y4) (some y5) (some y6) (some y7) (some y8) (some y9) (some y10) (some y11) (some y12) (some y13) (some y14) (some y15) (some y16) D1
  obtain ⟨d3, b3, u3, a3, v4, v5, v6, v7, v8, v9, v10, v11, v12, v13, v14, v15, v16, D3, ba3, na3, rfl⟩ := turn sc (.int 2) (some (bW a2)) (some z4) (some z5) (some z6) (some z7) (some z8) (some z9) (some z10) (some z11) (some z12) (some z13) (some z14) (some z15) (some z16) D2
  refine sqE (d' := [sv sc, some (.own u3), sv (.int 2), sv (bW a3), sv v4, sv v5, sv v6, sv v7, sv v8, sv v9, sv v10, sv v11, sv v12, sv v13, sv v14, sv v15, sv v16, none, none, none, none, none]) ?_ ?_
  · rw [ev_for, show mRng1 (mCons (mC (.int 3)) mNil) [sv sc, some (.own u0), none, none, none, none, none, none, none, none, none, none, none, none, none, none, none, none, none, none, none, none] = .ok [.int 0, .int 1, .int 2] [sv sc, some (.own u0), none, none, none, none, none, none, none, none, none, none, none, none, none, none, none, none, none, none, none, none] by simp [hr, List.range_succ]]
    dsimp only [Out.toS]
    rw [for_step (d1 := [sv sc, some (.own u0), sv (.int 0), none, none, none, none, none, none, none, none, none, none, none, none, none, none, none, none, none, none, none]) (by simp) b1, for_step (d1 := [sv sc, some (.own u1), sv (.int 1), sv (bW a1), sv y4, sv y5, sv y6, sv y7, sv y8, sv y9, sv y10, sv y11, sv y12, sv y13, sv y14, sv y15, sv y16, none, none, none, none, none]) (by simp) b2, for_step (d1 := [sv sc, some (.own u2), sv (.int 2), sv (bW a2), sv z4, sv z5, sv z6, sv z7, sv z8, sv z9, sv z10, sv z11, sv z12, sv z13, sv z14, sv z15, sv z16, none, none, none, none, none]) (by simp) b3]
    rfl
  clear b1 b2 b3
  generalize bW a2 = wa2 at *
  have cut := cut_take (a3.map pr) 1
  change cutA (a3.map pr) none (some 1) = _ at cut
  have mt := mul_tup (xs := (a3.map pr).take 1) (k := 9) (by
    cases a3 with
    | nil => exact absurd rfl na3
    | cons p r => simp) (by decide) (by decide) (by rw [List.length_take]; omega)
  change mulW _ (.int 9) = _ at mt
  refine frzE (d' := [sv sc, sv u3, sv (.int 2), sv (bW a3), sv v4, sv v5, sv v6, sv v7, sv v8, sv v9, sv v10, sv v11, sv v12, sv v13, sv v14, sv v15, sv v16, none, none, none, none, none]) (by simp) ?_
  refine sqE (d' := [sv sc, sv u3, sv (.int 2), sv (bW a3), sv v4, sv v5, sv v6, sv v7, sv v8, sv v9, sv v10, sv v11, sv v12, sv v13, sv v14, sv v15, sv v16, sv (.list (oddX a3)), none, none, none, none]) (by
    unfold oddX
    rw [show bW a3 = PyData.tuple (a3.map pr) from rfl]
    generalize (List.replicate 9 ((a3.map pr).take 1)).flatten = z9 at *
    generalize (a3.map pr).take 1 = z1 at *
    generalize a3.map pr = l3 at *
    simp [cut, mt]) ?_
  have ob := odd_bad na3
  have ol : (oddX a3).length ≤ 16000000 := by unfold oddX; simp
  have nl := eq_nilL
  generalize oddX a3 = og at *
  generalize bW a3 = wa3 at *
  have lc4 := mLc_none (v := 18) (it := mItS (mVar 17)) (t := mTest (mBin notBW (mCallV F_is_bowl (mCons (mVar 18) mNil)) (mC (.bool false)))) (e := mVar 18) (d := [sv sc, sv u3, sv (.int 2), sv wa3, sv v4, sv v5, sv v6, sv v7, sv v8, sv v9, sv v10, sv v11, sv v12, sv v13, sv v14, sv v15, sv v16, sv (.list og), none, none, none, none]) og id (by simp) (by simp) (by simp) ol (fun v hv => by
    have := ob v hv
    simp [this])
  exact retY (d' := [sv sc, sv u3, sv (.int 2), sv wa3, sv v4, sv v5, sv v6, sv v7, sv v8, sv v9, sv v10, sv v11, sv v12, sv v13, sv v14, sv v15, sv v16, sv (.list og), none, none, none, none]) (by simp [lc4, nl, -ev_lc])
theorem law_true (ns : List Int) (hl : ns.length ≤ 63) (hb : ∀ z ∈ ns, Builtin.Int.intBits z ≤ 1048576) : F_law [.list (ns.map PyData.int)] = .ok (.val (.bool true)) := runV_yes (law_yes ns hl hb)
end K34
end
namespace K34
open PySem PySem.Spec PyProof.Rows L2 L2H Qd
def TT (C0 C1 C2 C3 C4 C5 : Addr) : Nat → Value
  | 0 => .ref C0
  | 1 => .ref C1
  | 2 => .ref C2
  | 3 => .ref C3
  | 4 => .ref C4
  | 5 => .ref C5
  | _ => .none
theorem all_mk {P : Program} {w : World} {K : PySem.W.Frag} {h : Heap} {mg : Str → Option Value} {fa : Addr} (X : K.In h) (G : h.Ns mainGlobals mg) (hfa : mg "law" = some (.ref fa))
    (hTabs : ∀ y ∈ (["is_bowl"] : List Str), ∀ c P, PySem.W.tabIn K y = some (c, P) → PySem.W.CodeHd h c P ∧ h.get? P = some { cls := .none, data := .fields #[] })
    {C0 C1 C2 C3 C4 C5 a__law_draws a__law_gcd a__law_part a__law_minus a__law_plus a__law_less a__law_times a__law_volume a_square_at a_joined a_less a_lowest a_minus a_plus a_times a_whole_of a_made a_joined_level a__law_word a_top_of a_volume_to a_level_for a__law_told a__law_take a__law_bowl a__law_says a__law_alike a_is_number a_is_ring a_is_bowl a__law_is_part a_law c_is_bowl P_is_bowl : Addr} {od__law_draws an__law_draws od__law_gcd an__law_gcd od__law_part an__law_part od__law_minus an__law_minus od__law_plus an__law_plus od__law_less an__law_less od__law_times an__law_times od__law_volume an__law_volume od_square_at an_square_at od_joined an_joined od_less an_less od_lowest an_lowest od_minus an_minus od_plus an_plus od_times an_times od_whole_of an_whole_of od_made an_made od_joined_level an_joined_level od__law_word an__law_word od_top_of an_top_of od_volume_to an_volume_to od_level_for an_level_for od__law_told an__law_told od__law_take an__law_take od__law_bowl an__law_bowl od__law_says an__law_says od__law_alike an__law_alike od_is_number an_is_number od_is_ring an_is_ring od_is_bowl an_is_bowl od__law_is_part an__law_is_part od_law an_law : Option Addr} {sl__law_draws sl__law_gcd sl__law_part sl__law_minus sl__law_plus sl__law_less sl__law_times sl__law_volume sl_square_at sl_joined sl_less sl_lowest sl_minus sl_plus sl_times sl_whole_of sl_made sl_joined_level sl__law_word sl_top_of sl_volume_to sl_level_for sl__law_told sl__law_take sl__law_bowl sl__law_says sl__law_alike sl_is_number sl_is_ring sl_is_bowl sl__law_is_part sl_law : Array (Option Value)} {oc__law_draws kV__law_draws dc__law_draws pm__law_draws ct__law_draws cd__law_draws oc__law_gcd kV__law_gcd dc__law_gcd pm__law_gcd ct__law_gcd cd__law_gcd oc__law_part kV__law_part dc__law_part pm__law_part ct__law_part cd__law_part oc__law_minus kV__law_minus dc__law_minus pm__law_minus ct__law_minus cd__law_minus oc__law_plus kV__law_plus dc__law_plus pm__law_plus ct__law_plus cd__law_plus oc__law_less kV__law_less dc__law_less pm__law_less ct__law_less cd__law_less oc__law_times kV__law_times dc__law_times pm__law_times ct__law_times cd__law_times oc__law_volume kV__law_volume dc__law_volume pm__law_volume ct__law_volume cd__law_volume oc_square_at kV_square_at dc_square_at pm_square_at ct_square_at cd_square_at oc_joined kV_joined dc_joined pm_joined ct_joined cd_joined oc_less kV_less dc_less pm_less ct_less cd_less oc_lowest kV_lowest dc_lowest pm_lowest ct_lowest cd_lowest oc_minus kV_minus dc_minus pm_minus ct_minus cd_minus oc_plus kV_plus dc_plus pm_plus ct_plus cd_plus oc_times kV_times dc_times pm_times ct_times cd_times oc_whole_of kV_whole_of dc_whole_of pm_whole_of ct_whole_of cd_whole_of oc_made kV_made dc_made pm_made ct_made cd_made oc_joined_level kV_joined_level dc_joined_level pm_joined_level ct_joined_level cd_joined_level oc__law_word kV__law_word dc__law_word pm__law_word ct__law_word cd__law_word oc_top_of kV_top_of dc_top_of pm_top_of ct_top_of cd_top_of oc_volume_to kV_volume_to dc_volume_to pm_volume_to ct_volume_to cd_volume_to oc_level_for kV_level_for dc_level_for pm_level_for ct_level_for cd_level_for oc__law_told kV__law_told dc__law_told pm__law_told ct__law_told cd__law_told oc__law_take kV__law_take dc__law_take pm__law_take ct__law_take cd__law_take oc__law_bowl kV__law_bowl dc__law_bowl pm__law_bowl ct__law_bowl cd__law_bowl oc__law_says kV__law_says dc__law_says pm__law_says ct__law_says cd__law_says oc__law_alike kV__law_alike dc__law_alike pm__law_alike ct__law_alike cd__law_alike oc_is_number kV_is_number dc_is_number pm_is_number ct_is_number cd_is_number oc_is_ring kV_is_ring dc_is_ring pm_is_ring ct_is_ring cd_is_ring oc_is_bowl kV_is_bowl dc_is_bowl pm_is_bowl ct_is_bowl oc__law_is_part kV__law_is_part dc__law_is_part pm__law_is_part ct__law_is_part cd__law_is_part oc_law kV_law dc_law pm_law ct_law cd_law : Value} {tk_MOST_HEIGHT tk_MOST_RADIUS tk_MOST_RINGS : Tok} {to_is_bowl : Value} {td_is_bowl : Option Addr} {tv_is_bowl : Array Value} {ts_is_bowl : Array (Option Value)}
    (gC0 : PySem.W.nsIn K mainGlobals "ShardError" = some (some (.ref C0)))
    (xC0 : PySem.W.excIn K C0 [.type "ValueError", .type "Exception", .type "BaseException", .type "object"] "ValueError.__new__" = true)
    (kC0 : PySem.W.keepIn K (.ref C0) = true)
    (bC0 : PySem.W.subIn K (.ref C0) (.type "BaseException") = some true)
    (tC0 : PySem.W.typeIn K (.ref C0) = some (.type "type"))
    (aC0 : PySem.W.findIn K (.ref C0) "__getattribute__" = some (some (.builtin "BaseException.__getattribute__")))
    (hC0 : PySem.W.findIn K (.ref C0) "__getattr__" = some none)
    (dC0 : PySem.W.hasDictIn K C0 = true)
    (lC0 : PySem.W.findIn K (.ref C0) "__class__" = some (some (.builtin "object.__class__")))
    (iC0 : PySem.W.isClsIn K C0 = true)
    (mC0 : PySem.W.mroIn K C0 (.type "object") = some true)
    (gC1 : PySem.W.nsIn K mainGlobals "OutOfRange" = some (some (.ref C1)))
    (xC1 : PySem.W.excIn K C1 [.type "ValueError", .type "Exception", .type "BaseException", .type "object"] "ValueError.__new__" = true)
    (kC1 : PySem.W.keepIn K (.ref C1) = true)
    (bC1 : PySem.W.subIn K (.ref C1) (.type "BaseException") = some true)
    (tC1 : PySem.W.typeIn K (.ref C1) = some (.type "type"))
    (aC1 : PySem.W.findIn K (.ref C1) "__getattribute__" = some (some (.builtin "BaseException.__getattribute__")))
    (hC1 : PySem.W.findIn K (.ref C1) "__getattr__" = some none)
    (dC1 : PySem.W.hasDictIn K C1 = true)
    (lC1 : PySem.W.findIn K (.ref C1) "__class__" = some (some (.builtin "object.__class__")))
    (iC1 : PySem.W.isClsIn K C1 = true)
    (mC1 : PySem.W.mroIn K C1 (.type "object") = some true)
    (gC2 : PySem.W.nsIn K mainGlobals "Malformed" = some (some (.ref C2)))
    (xC2 : PySem.W.excIn K C2 [.type "ValueError", .type "Exception", .type "BaseException", .type "object"] "ValueError.__new__" = true)
    (kC2 : PySem.W.keepIn K (.ref C2) = true)
    (bC2 : PySem.W.subIn K (.ref C2) (.type "BaseException") = some true)
    (tC2 : PySem.W.typeIn K (.ref C2) = some (.type "type"))
    (aC2 : PySem.W.findIn K (.ref C2) "__getattribute__" = some (some (.builtin "BaseException.__getattribute__")))
    (hC2 : PySem.W.findIn K (.ref C2) "__getattr__" = some none)
    (dC2 : PySem.W.hasDictIn K C2 = true)
    (lC2 : PySem.W.findIn K (.ref C2) "__class__" = some (some (.builtin "object.__class__")))
    (iC2 : PySem.W.isClsIn K C2 = true)
    (mC2 : PySem.W.mroIn K C2 (.type "object") = some true)
    (gC3 : PySem.W.nsIn K mainGlobals "NotThere" = some (some (.ref C3)))
    (xC3 : PySem.W.excIn K C3 [.type "ValueError", .type "Exception", .type "BaseException", .type "object"] "ValueError.__new__" = true)
    (kC3 : PySem.W.keepIn K (.ref C3) = true)
    (bC3 : PySem.W.subIn K (.ref C3) (.type "BaseException") = some true)
    (tC3 : PySem.W.typeIn K (.ref C3) = some (.type "type"))
    (aC3 : PySem.W.findIn K (.ref C3) "__getattribute__" = some (some (.builtin "BaseException.__getattribute__")))
    (hC3 : PySem.W.findIn K (.ref C3) "__getattr__" = some none)
    (dC3 : PySem.W.hasDictIn K C3 = true)
    (lC3 : PySem.W.findIn K (.ref C3) "__class__" = some (some (.builtin "object.__class__")))
    (iC3 : PySem.W.isClsIn K C3 = true)
    (mC3 : PySem.W.mroIn K C3 (.type "object") = some true)
    (gC4 : PySem.W.nsIn K mainGlobals "Refused" = some (some (.ref C4)))
    (xC4 : PySem.W.excIn K C4 [.type "ValueError", .type "Exception", .type "BaseException", .type "object"] "ValueError.__new__" = true)
    (kC4 : PySem.W.keepIn K (.ref C4) = true)
    (bC4 : PySem.W.subIn K (.ref C4) (.type "BaseException") = some true)
    (tC4 : PySem.W.typeIn K (.ref C4) = some (.type "type"))
    (aC4 : PySem.W.findIn K (.ref C4) "__getattribute__" = some (some (.builtin "BaseException.__getattribute__")))
    (hC4 : PySem.W.findIn K (.ref C4) "__getattr__" = some none)
    (dC4 : PySem.W.hasDictIn K C4 = true)
    (lC4 : PySem.W.findIn K (.ref C4) "__class__" = some (some (.builtin "object.__class__")))
    (iC4 : PySem.W.isClsIn K C4 = true)
    (mC4 : PySem.W.mroIn K C4 (.type "object") = some true)
    (gC5 : PySem.W.nsIn K mainGlobals "TooMuch" = some (some (.ref C5)))
    (xC5 : PySem.W.excIn K C5 [.type "ValueError", .type "Exception", .type "BaseException", .type "object"] "ValueError.__new__" = true)
    (kC5 : PySem.W.keepIn K (.ref C5) = true)
    (bC5 : PySem.W.subIn K (.ref C5) (.type "BaseException") = some true)
    (tC5 : PySem.W.typeIn K (.ref C5) = some (.type "type"))
    (aC5 : PySem.W.findIn K (.ref C5) "__getattribute__" = some (some (.builtin "BaseException.__getattribute__")))
    (hC5 : PySem.W.findIn K (.ref C5) "__getattr__" = some none)
    (dC5 : PySem.W.hasDictIn K C5 = true)
    (lC5 : PySem.W.findIn K (.ref C5) "__class__" = some (some (.builtin "object.__class__")))
    (iC5 : PySem.W.isClsIn K C5 = true)
    (mC5 : PySem.W.mroIn K C5 (.type "object") = some true)
    (ng : PySem.W.specialIn K (.builtin "object.__class__") "__get__" = some (some (.builtin "getset_descriptor.__get__")))
    (tg : PySem.W.takesIn K (.builtin "object.__class__") = some true)
    (sb0_0 : PySem.W.subIn K (.ref C0) (.ref C0) = some true)
    (sb0_1 : PySem.W.subIn K (.ref C0) (.ref C1) = some false)
    (sb0_2 : PySem.W.subIn K (.ref C0) (.ref C2) = some false)
    (sb0_3 : PySem.W.subIn K (.ref C0) (.ref C3) = some false)
    (sb0_4 : PySem.W.subIn K (.ref C0) (.ref C4) = some false)
    (sb0_5 : PySem.W.subIn K (.ref C0) (.ref C5) = some false)
    (sb1_0 : PySem.W.subIn K (.ref C1) (.ref C0) = some true)
    (sb1_1 : PySem.W.subIn K (.ref C1) (.ref C1) = some true)
    (sb1_2 : PySem.W.subIn K (.ref C1) (.ref C2) = some false)
    (sb1_3 : PySem.W.subIn K (.ref C1) (.ref C3) = some false)
    (sb1_4 : PySem.W.subIn K (.ref C1) (.ref C4) = some false)
    (sb1_5 : PySem.W.subIn K (.ref C1) (.ref C5) = some false)
    (sb2_0 : PySem.W.subIn K (.ref C2) (.ref C0) = some true)
    (sb2_1 : PySem.W.subIn K (.ref C2) (.ref C1) = some false)
    (sb2_2 : PySem.W.subIn K (.ref C2) (.ref C2) = some true)
    (sb2_3 : PySem.W.subIn K (.ref C2) (.ref C3) = some false)
    (sb2_4 : PySem.W.subIn K (.ref C2) (.ref C4) = some false)
    (sb2_5 : PySem.W.subIn K (.ref C2) (.ref C5) = some false)
    (sb3_0 : PySem.W.subIn K (.ref C3) (.ref C0) = some true)
    (sb3_1 : PySem.W.subIn K (.ref C3) (.ref C1) = some false)
    (sb3_2 : PySem.W.subIn K (.ref C3) (.ref C2) = some false)
    (sb3_3 : PySem.W.subIn K (.ref C3) (.ref C3) = some true)
    (sb3_4 : PySem.W.subIn K (.ref C3) (.ref C4) = some false)
    (sb3_5 : PySem.W.subIn K (.ref C3) (.ref C5) = some false)
    (sb4_0 : PySem.W.subIn K (.ref C4) (.ref C0) = some true)
    (sb4_1 : PySem.W.subIn K (.ref C4) (.ref C1) = some false)
    (sb4_2 : PySem.W.subIn K (.ref C4) (.ref C2) = some false)
    (sb4_3 : PySem.W.subIn K (.ref C4) (.ref C3) = some false)
    (sb4_4 : PySem.W.subIn K (.ref C4) (.ref C4) = some true)
    (sb4_5 : PySem.W.subIn K (.ref C4) (.ref C5) = some false)
    (sb5_0 : PySem.W.subIn K (.ref C5) (.ref C0) = some true)
    (sb5_1 : PySem.W.subIn K (.ref C5) (.ref C1) = some false)
    (sb5_2 : PySem.W.subIn K (.ref C5) (.ref C2) = some false)
    (sb5_3 : PySem.W.subIn K (.ref C5) (.ref C3) = some false)
    (sb5_4 : PySem.W.subIn K (.ref C5) (.ref C4) = some false)
    (sb5_5 : PySem.W.subIn K (.ref C5) (.ref C5) = some true)
    (c_MOST_HEIGHT : PySem.W.nsIn K mainGlobals "MOST_HEIGHT" = some (some (.int 20 tk_MOST_HEIGHT)))
    (c_MOST_RADIUS : PySem.W.nsIn K mainGlobals "MOST_RADIUS" = some (some (.int 30 tk_MOST_RADIUS)))
    (c_MOST_RINGS : PySem.W.nsIn K mainGlobals "MOST_RINGS" = some (some (.int 8 tk_MOST_RINGS)))
    (n_abs : PySem.W.nsIn K mainGlobals "abs" = some none)
    (n_all : PySem.W.nsIn K mainGlobals "all" = some none)
    (n_bool : PySem.W.nsIn K mainGlobals "bool" = some none)
    (n_int : PySem.W.nsIn K mainGlobals "int" = some none)
    (n_isinstance : PySem.W.nsIn K mainGlobals "isinstance" = some none)
    (n_len : PySem.W.nsIn K mainGlobals "len" = some none)
    (n_list : PySem.W.nsIn K mainGlobals "list" = some none)
    (n_max : PySem.W.nsIn K mainGlobals "max" = some none)
    (n_min : PySem.W.nsIn K mainGlobals "min" = some none)
    (n_range : PySem.W.nsIn K mainGlobals "range" = some none)
    (n_reversed : PySem.W.nsIn K mainGlobals "reversed" = some none)
    (n_sorted : PySem.W.nsIn K mainGlobals "sorted" = some none)
    (n_str : PySem.W.nsIn K mainGlobals "str" = some none)
    (n_sum : PySem.W.nsIn K mainGlobals "sum" = some none)
    (n_tuple : PySem.W.nsIn K mainGlobals "tuple" = some none)
    (m_gcd : PySem.W.nsIn K mainGlobals "gcd" = some (some (.builtin "math.gcd")))
    (g__law_draws : PySem.W.nsIn K mainGlobals "_law_draws" = some (some (.ref a__law_draws)))
    (l__law_draws : K.lookup a__law_draws = some ⟨oc__law_draws, od__law_draws, .func (PySem.W.fnOf "_law_draws" "_law_draws" (defArgs s__law_draws) (defBody s__law_draws) (defScope s__law_draws) .none kV__law_draws dc__law_draws pm__law_draws an__law_draws cd__law_draws ct__law_draws), sl__law_draws⟩)
    (d__law_draws : PySem.W.codeIn K cd__law_draws "_law_draws" = true)
    (k__law_draws : PySem.W.keepIn K (.ref a__law_draws) = true)
    (g__law_gcd : PySem.W.nsIn K mainGlobals "_law_gcd" = some (some (.ref a__law_gcd)))
    (l__law_gcd : K.lookup a__law_gcd = some ⟨oc__law_gcd, od__law_gcd, .func (PySem.W.fnOf "_law_gcd" "_law_gcd" (defArgs s__law_gcd) (defBody s__law_gcd) (defScope s__law_gcd) .none kV__law_gcd dc__law_gcd pm__law_gcd an__law_gcd cd__law_gcd ct__law_gcd), sl__law_gcd⟩)
    (d__law_gcd : PySem.W.codeIn K cd__law_gcd "_law_gcd" = true)
    (k__law_gcd : PySem.W.keepIn K (.ref a__law_gcd) = true)
    (g__law_part : PySem.W.nsIn K mainGlobals "_law_part" = some (some (.ref a__law_part)))
    (l__law_part : K.lookup a__law_part = some ⟨oc__law_part, od__law_part, .func (PySem.W.fnOf "_law_part" "_law_part" (defArgs s__law_part) (defBody s__law_part) (defScope s__law_part) .none kV__law_part dc__law_part pm__law_part an__law_part cd__law_part ct__law_part), sl__law_part⟩)
    (d__law_part : PySem.W.codeIn K cd__law_part "_law_part" = true)
    (k__law_part : PySem.W.keepIn K (.ref a__law_part) = true)
    (g__law_minus : PySem.W.nsIn K mainGlobals "_law_minus" = some (some (.ref a__law_minus)))
    (l__law_minus : K.lookup a__law_minus = some ⟨oc__law_minus, od__law_minus, .func (PySem.W.fnOf "_law_minus" "_law_minus" (defArgs s__law_minus) (defBody s__law_minus) (defScope s__law_minus) .none kV__law_minus dc__law_minus pm__law_minus an__law_minus cd__law_minus ct__law_minus), sl__law_minus⟩)
    (d__law_minus : PySem.W.codeIn K cd__law_minus "_law_minus" = true)
    (k__law_minus : PySem.W.keepIn K (.ref a__law_minus) = true)
    (g__law_plus : PySem.W.nsIn K mainGlobals "_law_plus" = some (some (.ref a__law_plus)))
    (l__law_plus : K.lookup a__law_plus = some ⟨oc__law_plus, od__law_plus, .func (PySem.W.fnOf "_law_plus" "_law_plus" (defArgs s__law_plus) (defBody s__law_plus) (defScope s__law_plus) .none kV__law_plus dc__law_plus pm__law_plus an__law_plus cd__law_plus ct__law_plus), sl__law_plus⟩)
    (d__law_plus : PySem.W.codeIn K cd__law_plus "_law_plus" = true)
    (k__law_plus : PySem.W.keepIn K (.ref a__law_plus) = true)
    (g__law_less : PySem.W.nsIn K mainGlobals "_law_less" = some (some (.ref a__law_less)))
    (l__law_less : K.lookup a__law_less = some ⟨oc__law_less, od__law_less, .func (PySem.W.fnOf "_law_less" "_law_less" (defArgs s__law_less) (defBody s__law_less) (defScope s__law_less) .none kV__law_less dc__law_less pm__law_less an__law_less cd__law_less ct__law_less), sl__law_less⟩)
    (d__law_less : PySem.W.codeIn K cd__law_less "_law_less" = true)
    (k__law_less : PySem.W.keepIn K (.ref a__law_less) = true)
    (g__law_times : PySem.W.nsIn K mainGlobals "_law_times" = some (some (.ref a__law_times)))
    (l__law_times : K.lookup a__law_times = some ⟨oc__law_times, od__law_times, .func (PySem.W.fnOf "_law_times" "_law_times" (defArgs s__law_times) (defBody s__law_times) (defScope s__law_times) .none kV__law_times dc__law_times pm__law_times an__law_times cd__law_times ct__law_times), sl__law_times⟩)
    (d__law_times : PySem.W.codeIn K cd__law_times "_law_times" = true)
    (k__law_times : PySem.W.keepIn K (.ref a__law_times) = true)
    (g__law_volume : PySem.W.nsIn K mainGlobals "_law_volume" = some (some (.ref a__law_volume)))
    (l__law_volume : K.lookup a__law_volume = some ⟨oc__law_volume, od__law_volume, .func (PySem.W.fnOf "_law_volume" "_law_volume" (defArgs s__law_volume) (defBody s__law_volume) (defScope s__law_volume) .none kV__law_volume dc__law_volume pm__law_volume an__law_volume cd__law_volume ct__law_volume), sl__law_volume⟩)
    (d__law_volume : PySem.W.codeIn K cd__law_volume "_law_volume" = true)
    (k__law_volume : PySem.W.keepIn K (.ref a__law_volume) = true)
    (g_square_at : PySem.W.nsIn K mainGlobals "square_at" = some (some (.ref a_square_at)))
    (l_square_at : K.lookup a_square_at = some ⟨oc_square_at, od_square_at, .func (PySem.W.fnOf "square_at" "square_at" (defArgs s_square_at) (defBody s_square_at) (defScope s_square_at) .none kV_square_at dc_square_at pm_square_at an_square_at cd_square_at ct_square_at), sl_square_at⟩)
    (d_square_at : PySem.W.codeIn K cd_square_at "square_at" = true)
    (k_square_at : PySem.W.keepIn K (.ref a_square_at) = true)
    (g_joined : PySem.W.nsIn K mainGlobals "joined" = some (some (.ref a_joined)))
    (l_joined : K.lookup a_joined = some ⟨oc_joined, od_joined, .func (PySem.W.fnOf "joined" "joined" (defArgs s_joined) (defBody s_joined) (defScope s_joined) .none kV_joined dc_joined pm_joined an_joined cd_joined ct_joined), sl_joined⟩)
    (d_joined : PySem.W.codeIn K cd_joined "joined" = true)
    (k_joined : PySem.W.keepIn K (.ref a_joined) = true)
    (g_less : PySem.W.nsIn K mainGlobals "less" = some (some (.ref a_less)))
    (l_less : K.lookup a_less = some ⟨oc_less, od_less, .func (PySem.W.fnOf "less" "less" (defArgs s_less) (defBody s_less) (defScope s_less) .none kV_less dc_less pm_less an_less cd_less ct_less), sl_less⟩)
    (d_less : PySem.W.codeIn K cd_less "less" = true)
    (k_less : PySem.W.keepIn K (.ref a_less) = true)
    (g_lowest : PySem.W.nsIn K mainGlobals "lowest" = some (some (.ref a_lowest)))
    (l_lowest : K.lookup a_lowest = some ⟨oc_lowest, od_lowest, .func (PySem.W.fnOf "lowest" "lowest" (defArgs s_lowest) (defBody s_lowest) (defScope s_lowest) .none kV_lowest dc_lowest pm_lowest an_lowest cd_lowest ct_lowest), sl_lowest⟩)
    (d_lowest : PySem.W.codeIn K cd_lowest "lowest" = true)
    (k_lowest : PySem.W.keepIn K (.ref a_lowest) = true)
    (g_minus : PySem.W.nsIn K mainGlobals "minus" = some (some (.ref a_minus)))
    (l_minus : K.lookup a_minus = some ⟨oc_minus, od_minus, .func (PySem.W.fnOf "minus" "minus" (defArgs s_minus) (defBody s_minus) (defScope s_minus) .none kV_minus dc_minus pm_minus an_minus cd_minus ct_minus), sl_minus⟩)
    (d_minus : PySem.W.codeIn K cd_minus "minus" = true)
    (k_minus : PySem.W.keepIn K (.ref a_minus) = true)
    (g_plus : PySem.W.nsIn K mainGlobals "plus" = some (some (.ref a_plus)))
    (l_plus : K.lookup a_plus = some ⟨oc_plus, od_plus, .func (PySem.W.fnOf "plus" "plus" (defArgs s_plus) (defBody s_plus) (defScope s_plus) .none kV_plus dc_plus pm_plus an_plus cd_plus ct_plus), sl_plus⟩)
    (d_plus : PySem.W.codeIn K cd_plus "plus" = true)
    (k_plus : PySem.W.keepIn K (.ref a_plus) = true)
    (g_times : PySem.W.nsIn K mainGlobals "times" = some (some (.ref a_times)))
    (l_times : K.lookup a_times = some ⟨oc_times, od_times, .func (PySem.W.fnOf "times" "times" (defArgs s_times) (defBody s_times) (defScope s_times) .none kV_times dc_times pm_times an_times cd_times ct_times), sl_times⟩)
    (d_times : PySem.W.codeIn K cd_times "times" = true)
    (k_times : PySem.W.keepIn K (.ref a_times) = true)
    (g_whole_of : PySem.W.nsIn K mainGlobals "whole_of" = some (some (.ref a_whole_of)))
    (l_whole_of : K.lookup a_whole_of = some ⟨oc_whole_of, od_whole_of, .func (PySem.W.fnOf "whole_of" "whole_of" (defArgs s_whole_of) (defBody s_whole_of) (defScope s_whole_of) .none kV_whole_of dc_whole_of pm_whole_of an_whole_of cd_whole_of ct_whole_of), sl_whole_of⟩)
    (d_whole_of : PySem.W.codeIn K cd_whole_of "whole_of" = true)
    (k_whole_of : PySem.W.keepIn K (.ref a_whole_of) = true)
    (g_made : PySem.W.nsIn K mainGlobals "made" = some (some (.ref a_made)))
    (l_made : K.lookup a_made = some ⟨oc_made, od_made, .func (PySem.W.fnOf "made" "made" (defArgs s_made) (defBody s_made) (defScope s_made) .none kV_made dc_made pm_made an_made cd_made ct_made), sl_made⟩)
    (d_made : PySem.W.codeIn K cd_made "made" = true)
    (k_made : PySem.W.keepIn K (.ref a_made) = true)
    (g_joined_level : PySem.W.nsIn K mainGlobals "joined_level" = some (some (.ref a_joined_level)))
    (l_joined_level : K.lookup a_joined_level = some ⟨oc_joined_level, od_joined_level, .func (PySem.W.fnOf "joined_level" "joined_level" (defArgs s_joined_level) (defBody s_joined_level) (defScope s_joined_level) .none kV_joined_level dc_joined_level pm_joined_level an_joined_level cd_joined_level ct_joined_level), sl_joined_level⟩)
    (d_joined_level : PySem.W.codeIn K cd_joined_level "joined_level" = true)
    (k_joined_level : PySem.W.keepIn K (.ref a_joined_level) = true)
    (g__law_word : PySem.W.nsIn K mainGlobals "_law_word" = some (some (.ref a__law_word)))
    (l__law_word : K.lookup a__law_word = some ⟨oc__law_word, od__law_word, .func (PySem.W.fnOf "_law_word" "_law_word" (defArgs s__law_word) (defBody s__law_word) (defScope s__law_word) .none kV__law_word dc__law_word pm__law_word an__law_word cd__law_word ct__law_word), sl__law_word⟩)
    (d__law_word : PySem.W.codeIn K cd__law_word "_law_word" = true)
    (k__law_word : PySem.W.keepIn K (.ref a__law_word) = true)
    (g_top_of : PySem.W.nsIn K mainGlobals "top_of" = some (some (.ref a_top_of)))
    (l_top_of : K.lookup a_top_of = some ⟨oc_top_of, od_top_of, .func (PySem.W.fnOf "top_of" "top_of" (defArgs s_top_of) (defBody s_top_of) (defScope s_top_of) .none kV_top_of dc_top_of pm_top_of an_top_of cd_top_of ct_top_of), sl_top_of⟩)
    (d_top_of : PySem.W.codeIn K cd_top_of "top_of" = true)
    (k_top_of : PySem.W.keepIn K (.ref a_top_of) = true)
    (g_volume_to : PySem.W.nsIn K mainGlobals "volume_to" = some (some (.ref a_volume_to)))
    (l_volume_to : K.lookup a_volume_to = some ⟨oc_volume_to, od_volume_to, .func (PySem.W.fnOf "volume_to" "volume_to" (defArgs s_volume_to) (defBody s_volume_to) (defScope s_volume_to) .none kV_volume_to dc_volume_to pm_volume_to an_volume_to cd_volume_to ct_volume_to), sl_volume_to⟩)
    (d_volume_to : PySem.W.codeIn K cd_volume_to "volume_to" = true)
    (k_volume_to : PySem.W.keepIn K (.ref a_volume_to) = true)
    (g_level_for : PySem.W.nsIn K mainGlobals "level_for" = some (some (.ref a_level_for)))
    (l_level_for : K.lookup a_level_for = some ⟨oc_level_for, od_level_for, .func (PySem.W.fnOf "level_for" "level_for" (defArgs s_level_for) (defBody s_level_for) (defScope s_level_for) .none kV_level_for dc_level_for pm_level_for an_level_for cd_level_for ct_level_for), sl_level_for⟩)
    (d_level_for : PySem.W.codeIn K cd_level_for "level_for" = true)
    (k_level_for : PySem.W.keepIn K (.ref a_level_for) = true)
    (g__law_told : PySem.W.nsIn K mainGlobals "_law_told" = some (some (.ref a__law_told)))
    (l__law_told : K.lookup a__law_told = some ⟨oc__law_told, od__law_told, .func (PySem.W.fnOf "_law_told" "_law_told" (defArgs s__law_told) (defBody s__law_told) (defScope s__law_told) .none kV__law_told dc__law_told pm__law_told an__law_told cd__law_told ct__law_told), sl__law_told⟩)
    (d__law_told : PySem.W.codeIn K cd__law_told "_law_told" = true)
    (k__law_told : PySem.W.keepIn K (.ref a__law_told) = true)
    (g__law_take : PySem.W.nsIn K mainGlobals "_law_take" = some (some (.ref a__law_take)))
    (l__law_take : K.lookup a__law_take = some ⟨oc__law_take, od__law_take, .func (PySem.W.fnOf "_law_take" "_law_take" (defArgs s__law_take) (defBody s__law_take) (defScope s__law_take) .none kV__law_take dc__law_take pm__law_take an__law_take cd__law_take ct__law_take), sl__law_take⟩)
    (d__law_take : PySem.W.codeIn K cd__law_take "_law_take" = true)
    (k__law_take : PySem.W.keepIn K (.ref a__law_take) = true)
    (g__law_bowl : PySem.W.nsIn K mainGlobals "_law_bowl" = some (some (.ref a__law_bowl)))
    (l__law_bowl : K.lookup a__law_bowl = some ⟨oc__law_bowl, od__law_bowl, .func (PySem.W.fnOf "_law_bowl" "_law_bowl" (defArgs s__law_bowl) (defBody s__law_bowl) (defScope s__law_bowl) .none kV__law_bowl dc__law_bowl pm__law_bowl an__law_bowl cd__law_bowl ct__law_bowl), sl__law_bowl⟩)
    (d__law_bowl : PySem.W.codeIn K cd__law_bowl "_law_bowl" = true)
    (k__law_bowl : PySem.W.keepIn K (.ref a__law_bowl) = true)
    (g__law_says : PySem.W.nsIn K mainGlobals "_law_says" = some (some (.ref a__law_says)))
    (l__law_says : K.lookup a__law_says = some ⟨oc__law_says, od__law_says, .func (PySem.W.fnOf "_law_says" "_law_says" (defArgs s__law_says) (defBody s__law_says) (defScope s__law_says) .none kV__law_says dc__law_says pm__law_says an__law_says cd__law_says ct__law_says), sl__law_says⟩)
    (d__law_says : PySem.W.codeIn K cd__law_says "_law_says" = true)
    (k__law_says : PySem.W.keepIn K (.ref a__law_says) = true)
    (g__law_alike : PySem.W.nsIn K mainGlobals "_law_alike" = some (some (.ref a__law_alike)))
    (l__law_alike : K.lookup a__law_alike = some ⟨oc__law_alike, od__law_alike, .func (PySem.W.fnOf "_law_alike" "_law_alike" (defArgs s__law_alike) (defBody s__law_alike) (defScope s__law_alike) .none kV__law_alike dc__law_alike pm__law_alike an__law_alike cd__law_alike ct__law_alike), sl__law_alike⟩)
    (d__law_alike : PySem.W.codeIn K cd__law_alike "_law_alike" = true)
    (k__law_alike : PySem.W.keepIn K (.ref a__law_alike) = true)
    (g_is_number : PySem.W.nsIn K mainGlobals "is_number" = some (some (.ref a_is_number)))
    (l_is_number : K.lookup a_is_number = some ⟨oc_is_number, od_is_number, .func (PySem.W.fnOf "is_number" "is_number" (defArgs s_is_number) (defBody s_is_number) (defScope s_is_number) .none kV_is_number dc_is_number pm_is_number an_is_number cd_is_number ct_is_number), sl_is_number⟩)
    (d_is_number : PySem.W.codeIn K cd_is_number "is_number" = true)
    (k_is_number : PySem.W.keepIn K (.ref a_is_number) = true)
    (g_is_ring : PySem.W.nsIn K mainGlobals "is_ring" = some (some (.ref a_is_ring)))
    (l_is_ring : K.lookup a_is_ring = some ⟨oc_is_ring, od_is_ring, .func (PySem.W.fnOf "is_ring" "is_ring" (defArgs s_is_ring) (defBody s_is_ring) (defScope s_is_ring) .none kV_is_ring dc_is_ring pm_is_ring an_is_ring cd_is_ring ct_is_ring), sl_is_ring⟩)
    (d_is_ring : PySem.W.codeIn K cd_is_ring "is_ring" = true)
    (k_is_ring : PySem.W.keepIn K (.ref a_is_ring) = true)
    (g_is_bowl : PySem.W.nsIn K mainGlobals "is_bowl" = some (some (.ref a_is_bowl)))
    (l_is_bowl : K.lookup a_is_bowl = some ⟨oc_is_bowl, od_is_bowl, .func (PySem.W.fnOf "is_bowl" "is_bowl" (defArgs s_is_bowl) (defBody s_is_bowl) (defScope s_is_bowl) .none kV_is_bowl dc_is_bowl pm_is_bowl an_is_bowl (.ref c_is_bowl) ct_is_bowl), sl_is_bowl⟩)
    (d_is_bowl : PySem.W.codeIn K (.ref c_is_bowl) "is_bowl" = true)
    (k_is_bowl : PySem.W.keepIn K (.ref a_is_bowl) = true)
    (t_is_bowl : K.lookup c_is_bowl = some ⟨to_is_bowl, td_is_bowl, .fields tv_is_bowl, ts_is_bowl⟩)
    (p_is_bowl : (tv_is_bowl[11]? : Option Value) = some (.ref P_is_bowl))
    (z_is_bowl : K.lookup P_is_bowl = none)
    (g__law_is_part : PySem.W.nsIn K mainGlobals "_law_is_part" = some (some (.ref a__law_is_part)))
    (l__law_is_part : K.lookup a__law_is_part = some ⟨oc__law_is_part, od__law_is_part, .func (PySem.W.fnOf "_law_is_part" "_law_is_part" (defArgs s__law_is_part) (defBody s__law_is_part) (defScope s__law_is_part) .none kV__law_is_part dc__law_is_part pm__law_is_part an__law_is_part cd__law_is_part ct__law_is_part), sl__law_is_part⟩)
    (d__law_is_part : PySem.W.codeIn K cd__law_is_part "_law_is_part" = true)
    (k__law_is_part : PySem.W.keepIn K (.ref a__law_is_part) = true)
    (g_law : PySem.W.nsIn K mainGlobals "law" = some (some (.ref a_law)))
    (l_law : K.lookup a_law = some ⟨oc_law, od_law, .func (PySem.W.fnOf "law" "law" (defArgs s_law) (defBody s_law) (defScope s_law) .none kV_law dc_law pm_law an_law cd_law ct_law), sl_law⟩)
    (d_law : PySem.W.codeIn K cd_law "law" = true)
    (k_law : PySem.W.keepIn K (.ref a_law) = true)
    : ∃ (fd : FuncData) (cs : List (Addr × Addr)) (sp : Sp), (∀ p ∈ cs, h.get? p.2 = some { cls := .none, data := .fields #[] }) ∧ (∀ p ∈ cs, K.lookup p.2 = none) ∧ (∀ p ∈ cs, PySem.W.CodeHd h p.1 p.2) ∧ (∀ (s : Shared) (u : Value), BindsTo s fd ⟨[u], []⟩ [("script", u)]) ∧
      (∀ (H : Hp) (a : Addr) (ns : List Int), ns.length ≤ 63 → (∀ z ∈ ns, Builtin.Int.intBits z ≤ 1048576) → (∀ p ∈ cs, H p.2 = some (.tbl #[])) → SqL K H a (ns.map V.int) → sp [.ref a] H (fun v _ => v = .bl true) fun _ _ _ => False) ∧
      ∀ base : Heap, K.In base → base.Ns mainGlobals mg → (∀ p ∈ cs, LamX.TabB base mg p.1 p.2) → FnOk P w K mg base (L2N.CX P w) 7 fa fd ["script"] sp := by
  have e := hfa.symm.trans (PySem.W.mg_of X G g_law)
  cases e
  have e0 : ExcC K C0 := ⟨aC0, hC0, bC0, dC0, lC0, ng, tg, mC0⟩
  have e1 : ExcC K C1 := ⟨aC1, hC1, bC1, dC1, lC1, ng, tg, mC1⟩
  have e2 : ExcC K C2 := ⟨aC2, hC2, bC2, dC2, lC2, ng, tg, mC2⟩
  have e3 : ExcC K C3 := ⟨aC3, hC3, bC3, dC3, lC3, ng, tg, mC3⟩
  have e4 : ExcC K C4 := ⟨aC4, hC4, bC4, dC4, lC4, ng, tg, mC4⟩
  have e5 : ExcC K C5 := ⟨aC5, hC5, bC5, dC5, lC5, ng, tg, mC5⟩
  have cf : CF K (TT C0 C1 C2 C3 C4 C5) 6 subC := by
    refine ⟨fun i hi => ?_, fun i j hi hj => ?_, fun i j hi hj => ?_⟩
    · match i, hi with
      | 0, _ => exact ⟨C0, rfl, e0⟩
      | 1, _ => exact ⟨C1, rfl, e1⟩
      | 2, _ => exact ⟨C2, rfl, e2⟩
      | 3, _ => exact ⟨C3, rfl, e3⟩
      | 4, _ => exact ⟨C4, rfl, e4⟩
      | 5, _ => exact ⟨C5, rfl, e5⟩
    · match i, hi, j, hj with
      | 0, _, 0, _ => exact kit_sub iC0 tC0 sb0_0 sb0_0
      | 0, _, 1, _ => exact kit_sub iC1 tC1 sb0_1 sb1_1
      | 0, _, 2, _ => exact kit_sub iC2 tC2 sb0_2 sb2_2
      | 0, _, 3, _ => exact kit_sub iC3 tC3 sb0_3 sb3_3
      | 0, _, 4, _ => exact kit_sub iC4 tC4 sb0_4 sb4_4
      | 0, _, 5, _ => exact kit_sub iC5 tC5 sb0_5 sb5_5
      | 1, _, 0, _ => exact kit_sub iC0 tC0 sb1_0 sb0_0
      | 1, _, 1, _ => exact kit_sub iC1 tC1 sb1_1 sb1_1
      | 1, _, 2, _ => exact kit_sub iC2 tC2 sb1_2 sb2_2
      | 1, _, 3, _ => exact kit_sub iC3 tC3 sb1_3 sb3_3
      | 1, _, 4, _ => exact kit_sub iC4 tC4 sb1_4 sb4_4
      | 1, _, 5, _ => exact kit_sub iC5 tC5 sb1_5 sb5_5
      | 2, _, 0, _ => exact kit_sub iC0 tC0 sb2_0 sb0_0
      | 2, _, 1, _ => exact kit_sub iC1 tC1 sb2_1 sb1_1
      | 2, _, 2, _ => exact kit_sub iC2 tC2 sb2_2 sb2_2
      | 2, _, 3, _ => exact kit_sub iC3 tC3 sb2_3 sb3_3
      | 2, _, 4, _ => exact kit_sub iC4 tC4 sb2_4 sb4_4
      | 2, _, 5, _ => exact kit_sub iC5 tC5 sb2_5 sb5_5
      | 3, _, 0, _ => exact kit_sub iC0 tC0 sb3_0 sb0_0
      | 3, _, 1, _ => exact kit_sub iC1 tC1 sb3_1 sb1_1
      | 3, _, 2, _ => exact kit_sub iC2 tC2 sb3_2 sb2_2
      | 3, _, 3, _ => exact kit_sub iC3 tC3 sb3_3 sb3_3
      | 3, _, 4, _ => exact kit_sub iC4 tC4 sb3_4 sb4_4
      | 3, _, 5, _ => exact kit_sub iC5 tC5 sb3_5 sb5_5
      | 4, _, 0, _ => exact kit_sub iC0 tC0 sb4_0 sb0_0
      | 4, _, 1, _ => exact kit_sub iC1 tC1 sb4_1 sb1_1
      | 4, _, 2, _ => exact kit_sub iC2 tC2 sb4_2 sb2_2
      | 4, _, 3, _ => exact kit_sub iC3 tC3 sb4_3 sb3_3
      | 4, _, 4, _ => exact kit_sub iC4 tC4 sb4_4 sb4_4
      | 4, _, 5, _ => exact kit_sub iC5 tC5 sb4_5 sb5_5
      | 5, _, 0, _ => exact kit_sub iC0 tC0 sb5_0 sb0_0
      | 5, _, 1, _ => exact kit_sub iC1 tC1 sb5_1 sb1_1
      | 5, _, 2, _ => exact kit_sub iC2 tC2 sb5_2 sb2_2
      | 5, _, 3, _ => exact kit_sub iC3 tC3 sb5_3 sb3_3
      | 5, _, 4, _ => exact kit_sub iC4 tC4 sb5_4 sb4_4
      | 5, _, 5, _ => exact kit_sub iC5 tC5 sb5_5 sb5_5
    · match i, hi, j, hj with
      | 0, _, 0, _ => exact PySem.W.exm_ref bC0 dC0 tC0 sb0_0
      | 0, _, 1, _ => exact PySem.W.exm_ref bC1 dC1 tC1 sb0_1
      | 0, _, 2, _ => exact PySem.W.exm_ref bC2 dC2 tC2 sb0_2
      | 0, _, 3, _ => exact PySem.W.exm_ref bC3 dC3 tC3 sb0_3
      | 0, _, 4, _ => exact PySem.W.exm_ref bC4 dC4 tC4 sb0_4
      | 0, _, 5, _ => exact PySem.W.exm_ref bC5 dC5 tC5 sb0_5
      | 1, _, 0, _ => exact PySem.W.exm_ref bC0 dC0 tC0 sb1_0
      | 1, _, 1, _ => exact PySem.W.exm_ref bC1 dC1 tC1 sb1_1
      | 1, _, 2, _ => exact PySem.W.exm_ref bC2 dC2 tC2 sb1_2
      | 1, _, 3, _ => exact PySem.W.exm_ref bC3 dC3 tC3 sb1_3
      | 1, _, 4, _ => exact PySem.W.exm_ref bC4 dC4 tC4 sb1_4
      | 1, _, 5, _ => exact PySem.W.exm_ref bC5 dC5 tC5 sb1_5
      | 2, _, 0, _ => exact PySem.W.exm_ref bC0 dC0 tC0 sb2_0
      | 2, _, 1, _ => exact PySem.W.exm_ref bC1 dC1 tC1 sb2_1
      | 2, _, 2, _ => exact PySem.W.exm_ref bC2 dC2 tC2 sb2_2
      | 2, _, 3, _ => exact PySem.W.exm_ref bC3 dC3 tC3 sb2_3
      | 2, _, 4, _ => exact PySem.W.exm_ref bC4 dC4 tC4 sb2_4
      | 2, _, 5, _ => exact PySem.W.exm_ref bC5 dC5 tC5 sb2_5
      | 3, _, 0, _ => exact PySem.W.exm_ref bC0 dC0 tC0 sb3_0
      | 3, _, 1, _ => exact PySem.W.exm_ref bC1 dC1 tC1 sb3_1
      | 3, _, 2, _ => exact PySem.W.exm_ref bC2 dC2 tC2 sb3_2
      | 3, _, 3, _ => exact PySem.W.exm_ref bC3 dC3 tC3 sb3_3
      | 3, _, 4, _ => exact PySem.W.exm_ref bC4 dC4 tC4 sb3_4
      | 3, _, 5, _ => exact PySem.W.exm_ref bC5 dC5 tC5 sb3_5
      | 4, _, 0, _ => exact PySem.W.exm_ref bC0 dC0 tC0 sb4_0
      | 4, _, 1, _ => exact PySem.W.exm_ref bC1 dC1 tC1 sb4_1
      | 4, _, 2, _ => exact PySem.W.exm_ref bC2 dC2 tC2 sb4_2
      | 4, _, 3, _ => exact PySem.W.exm_ref bC3 dC3 tC3 sb4_3
      | 4, _, 4, _ => exact PySem.W.exm_ref bC4 dC4 tC4 sb4_4
      | 4, _, 5, _ => exact PySem.W.exm_ref bC5 dC5 tC5 sb4_5
      | 5, _, 0, _ => exact PySem.W.exm_ref bC0 dC0 tC0 sb5_0
      | 5, _, 1, _ => exact PySem.W.exm_ref bC1 dC1 tC1 sb5_1
      | 5, _, 2, _ => exact PySem.W.exm_ref bC2 dC2 tC2 sb5_2
      | 5, _, 3, _ => exact PySem.W.exm_ref bC3 dC3 tC3 sb5_3
      | 5, _, 4, _ => exact PySem.W.exm_ref bC4 dC4 tC4 sb5_4
      | 5, _, 5, _ => exact PySem.W.exm_ref bC5 dC5 tC5 sb5_5
  have T : Tx K mg (TT C0 C1 C2 C3 C4 C5) := { c_MOST_HEIGHT := ⟨tk_MOST_HEIGHT, PySem.W.mg_of X G c_MOST_HEIGHT⟩, c_MOST_RADIUS := ⟨tk_MOST_RADIUS, PySem.W.mg_of X G c_MOST_RADIUS⟩, c_MOST_RINGS := ⟨tk_MOST_RINGS, PySem.W.mg_of X G c_MOST_RINGS⟩, n_abs := PySem.W.mg_none_of X G n_abs, n_all := PySem.W.mg_none_of X G n_all, n_bool := PySem.W.mg_none_of X G n_bool, n_int := PySem.W.mg_none_of X G n_int, n_isinstance := PySem.W.mg_none_of X G n_isinstance, n_len := PySem.W.mg_none_of X G n_len, n_list := PySem.W.mg_none_of X G n_list, n_max := PySem.W.mg_none_of X G n_max, n_min := PySem.W.mg_none_of X G n_min, n_range := PySem.W.mg_none_of X G n_range, n_reversed := PySem.W.mg_none_of X G n_reversed, n_sorted := PySem.W.mg_none_of X G n_sorted, n_str := PySem.W.mg_none_of X G n_str, n_sum := PySem.W.mg_none_of X G n_sum, n_tuple := PySem.W.mg_none_of X G n_tuple, m_gcd := PySem.W.mg_of X G m_gcd, e_ShardError := PySem.W.mg_of X G gC0, e_OutOfRange := PySem.W.mg_of X G gC1, r_OutOfRange := ⟨C1, rfl, PySem.W.mg_of X G gC1, xC1, kC1, bC1, tC1⟩, e_Malformed := PySem.W.mg_of X G gC2, e_NotThere := PySem.W.mg_of X G gC3, e_Refused := PySem.W.mg_of X G gC4, e_TooMuch := PySem.W.mg_of X G gC5, cf := cf }
  have F__law_draws := fun_mk (st := s__law_draws) l__law_draws d__law_draws k__law_draws
  have C__law_draws : Cl K mg "_law_draws" a__law_draws _ ["script"] := ⟨PySem.W.mg_of X G g__law_draws, k__law_draws, F__law_draws.binds (ps := ["script"]) fun _ _ _ _ _ _ us hl => match us, hl with | [_], _ => rfl⟩
  have F__law_gcd := fun_mk (st := s__law_gcd) l__law_gcd d__law_gcd k__law_gcd
  have C__law_gcd : Cl K mg "_law_gcd" a__law_gcd _ ["one", "other"] := ⟨PySem.W.mg_of X G g__law_gcd, k__law_gcd, F__law_gcd.binds (ps := ["one", "other"]) fun _ _ _ _ _ _ us hl => match us, hl with | [_, _], _ => rfl⟩
  have F__law_part := fun_mk (st := s__law_part) l__law_part d__law_part k__law_part
  have C__law_part : Cl K mg "_law_part" a__law_part _ ["one", "other"] := ⟨PySem.W.mg_of X G g__law_part, k__law_part, F__law_part.binds (ps := ["one", "other"]) fun _ _ _ _ _ _ us hl => match us, hl with | [_, _], _ => rfl⟩
  have F__law_minus := fun_mk (st := s__law_minus) l__law_minus d__law_minus k__law_minus
  have C__law_minus : Cl K mg "_law_minus" a__law_minus _ ["one", "other"] := ⟨PySem.W.mg_of X G g__law_minus, k__law_minus, F__law_minus.binds (ps := ["one", "other"]) fun _ _ _ _ _ _ us hl => match us, hl with | [_, _], _ => rfl⟩
  have F__law_plus := fun_mk (st := s__law_plus) l__law_plus d__law_plus k__law_plus
  have C__law_plus : Cl K mg "_law_plus" a__law_plus _ ["one", "other"] := ⟨PySem.W.mg_of X G g__law_plus, k__law_plus, F__law_plus.binds (ps := ["one", "other"]) fun _ _ _ _ _ _ us hl => match us, hl with | [_, _], _ => rfl⟩
  have F__law_less := fun_mk (st := s__law_less) l__law_less d__law_less k__law_less
  have C__law_less : Cl K mg "_law_less" a__law_less _ ["one", "other"] := ⟨PySem.W.mg_of X G g__law_less, k__law_less, F__law_less.binds (ps := ["one", "other"]) fun _ _ _ _ _ _ us hl => match us, hl with | [_, _], _ => rfl⟩
  have F__law_times := fun_mk (st := s__law_times) l__law_times d__law_times k__law_times
  have C__law_times : Cl K mg "_law_times" a__law_times _ ["one", "other"] := ⟨PySem.W.mg_of X G g__law_times, k__law_times, F__law_times.binds (ps := ["one", "other"]) fun _ _ _ _ _ _ us hl => match us, hl with | [_, _], _ => rfl⟩
  have F__law_volume := fun_mk (st := s__law_volume) l__law_volume d__law_volume k__law_volume
  have C__law_volume : Cl K mg "_law_volume" a__law_volume _ ["bowl", "level"] := ⟨PySem.W.mg_of X G g__law_volume, k__law_volume, F__law_volume.binds (ps := ["bowl", "level"]) fun _ _ _ _ _ _ us hl => match us, hl with | [_, _], _ => rfl⟩
  have F_square_at := fun_mk (st := s_square_at) l_square_at d_square_at k_square_at
  have C_square_at : Cl K mg "square_at" a_square_at _ ["bowl", "place"] := ⟨PySem.W.mg_of X G g_square_at, k_square_at, F_square_at.binds (ps := ["bowl", "place"]) fun _ _ _ _ _ _ us hl => match us, hl with | [_, _], _ => rfl⟩
  have F_joined := fun_mk (st := s_joined) l_joined d_joined k_joined
  have C_joined : Cl K mg "joined" a_joined _ ["one", "other"] := ⟨PySem.W.mg_of X G g_joined, k_joined, F_joined.binds (ps := ["one", "other"]) fun _ _ _ _ _ _ us hl => match us, hl with | [_, _], _ => rfl⟩
  have F_less := fun_mk (st := s_less) l_less d_less k_less
  have C_less : Cl K mg "less" a_less _ ["one", "other"] := ⟨PySem.W.mg_of X G g_less, k_less, F_less.binds (ps := ["one", "other"]) fun _ _ _ _ _ _ us hl => match us, hl with | [_, _], _ => rfl⟩
  have F_lowest := fun_mk (st := s_lowest) l_lowest d_lowest k_lowest
  have C_lowest : Cl K mg "lowest" a_lowest _ ["part", "whole"] := ⟨PySem.W.mg_of X G g_lowest, k_lowest, F_lowest.binds (ps := ["part", "whole"]) fun _ _ _ _ _ _ us hl => match us, hl with | [_, _], _ => rfl⟩
  have F_minus := fun_mk (st := s_minus) l_minus d_minus k_minus
  have C_minus : Cl K mg "minus" a_minus _ ["one", "other"] := ⟨PySem.W.mg_of X G g_minus, k_minus, F_minus.binds (ps := ["one", "other"]) fun _ _ _ _ _ _ us hl => match us, hl with | [_, _], _ => rfl⟩
  have F_plus := fun_mk (st := s_plus) l_plus d_plus k_plus
  have C_plus : Cl K mg "plus" a_plus _ ["one", "other"] := ⟨PySem.W.mg_of X G g_plus, k_plus, F_plus.binds (ps := ["one", "other"]) fun _ _ _ _ _ _ us hl => match us, hl with | [_, _], _ => rfl⟩
  have F_times := fun_mk (st := s_times) l_times d_times k_times
  have C_times : Cl K mg "times" a_times _ ["one", "other"] := ⟨PySem.W.mg_of X G g_times, k_times, F_times.binds (ps := ["one", "other"]) fun _ _ _ _ _ _ us hl => match us, hl with | [_, _], _ => rfl⟩
  have F_whole_of := fun_mk (st := s_whole_of) l_whole_of d_whole_of k_whole_of
  have C_whole_of : Cl K mg "whole_of" a_whole_of _ ["bowl"] := ⟨PySem.W.mg_of X G g_whole_of, k_whole_of, F_whole_of.binds (ps := ["bowl"]) fun _ _ _ _ _ _ us hl => match us, hl with | [_], _ => rfl⟩
  have F_made := fun_mk (st := s_made) l_made d_made k_made
  have C_made : Cl K mg "made" a_made _ ["part", "whole"] := ⟨PySem.W.mg_of X G g_made, k_made, F_made.binds (ps := ["part", "whole"]) fun _ _ _ _ _ _ us hl => match us, hl with | [_, _], _ => rfl⟩
  have F_joined_level := fun_mk (st := s_joined_level) l_joined_level d_joined_level k_joined_level
  have C_joined_level : Cl K mg "joined_level" a_joined_level _ ["one", "other", "volume"] := ⟨PySem.W.mg_of X G g_joined_level, k_joined_level, F_joined_level.binds (ps := ["one", "other", "volume"]) fun _ _ _ _ _ _ us hl => match us, hl with | [_, _, _], _ => rfl⟩
  have F__law_word := fun_mk (st := s__law_word) l__law_word d__law_word k__law_word
  have C__law_word : Cl K mg "_law_word" a__law_word _ ["error"] := ⟨PySem.W.mg_of X G g__law_word, k__law_word, F__law_word.binds (ps := ["error"]) fun _ _ _ _ _ _ us hl => match us, hl with | [_], _ => rfl⟩
  have F_top_of := fun_mk (st := s_top_of) l_top_of d_top_of k_top_of
  have C_top_of : Cl K mg "top_of" a_top_of _ ["bowl"] := ⟨PySem.W.mg_of X G g_top_of, k_top_of, F_top_of.binds (ps := ["bowl"]) fun _ _ _ _ _ _ us hl => match us, hl with | [_], _ => rfl⟩
  have F_volume_to := fun_mk (st := s_volume_to) l_volume_to d_volume_to k_volume_to
  have C_volume_to : Cl K mg "volume_to" a_volume_to _ ["bowl", "level"] := ⟨PySem.W.mg_of X G g_volume_to, k_volume_to, F_volume_to.binds (ps := ["bowl", "level"]) fun _ _ _ _ _ _ us hl => match us, hl with | [_, _], _ => rfl⟩
  have F_level_for := fun_mk (st := s_level_for) l_level_for d_level_for k_level_for
  have C_level_for : Cl K mg "level_for" a_level_for _ ["bowl", "volume"] := ⟨PySem.W.mg_of X G g_level_for, k_level_for, F_level_for.binds (ps := ["bowl", "volume"]) fun _ _ _ _ _ _ us hl => match us, hl with | [_, _], _ => rfl⟩
  have F__law_told := fun_mk (st := s__law_told) l__law_told d__law_told k__law_told
  have C__law_told : Cl K mg "_law_told" a__law_told _ ["which", "one", "other", "volume"] := ⟨PySem.W.mg_of X G g__law_told, k__law_told, F__law_told.binds (ps := ["which", "one", "other", "volume"]) fun _ _ _ _ _ _ us hl => match us, hl with | [_, _, _, _], _ => rfl⟩
  have F__law_take := fun_mk (st := s__law_take) l__law_take d__law_take k__law_take
  have C__law_take : Cl K mg "_law_take" a__law_take _ ["draws", "bound"] := ⟨PySem.W.mg_of X G g__law_take, k__law_take, F__law_take.binds (ps := ["draws", "bound"]) fun _ _ _ _ _ _ us hl => match us, hl with | [_, _], _ => rfl⟩
  have F__law_bowl := fun_mk (st := s__law_bowl) l__law_bowl d__law_bowl k__law_bowl
  have C__law_bowl : Cl K mg "_law_bowl" a__law_bowl _ ["draws"] := ⟨PySem.W.mg_of X G g__law_bowl, k__law_bowl, F__law_bowl.binds (ps := ["draws"]) fun _ _ _ _ _ _ us hl => match us, hl with | [_], _ => rfl⟩
  have F__law_says := fun_mk (st := s__law_says) l__law_says d__law_says k__law_says
  have C__law_says : Cl K mg "_law_says" a__law_says _ ["told", "due"] := ⟨PySem.W.mg_of X G g__law_says, k__law_says, F__law_says.binds (ps := ["told", "due"]) fun _ _ _ _ _ _ us hl => match us, hl with | [_, _], _ => rfl⟩
  have F__law_alike := fun_mk (st := s__law_alike) l__law_alike d__law_alike k__law_alike
  have C__law_alike : Cl K mg "_law_alike" a__law_alike _ ["found", "due"] := ⟨PySem.W.mg_of X G g__law_alike, k__law_alike, F__law_alike.binds (ps := ["found", "due"]) fun _ _ _ _ _ _ us hl => match us, hl with | [_, _], _ => rfl⟩
  have F_is_number := fun_mk (st := s_is_number) l_is_number d_is_number k_is_number
  have C_is_number : Cl K mg "is_number" a_is_number _ ["value", "least", "most"] := ⟨PySem.W.mg_of X G g_is_number, k_is_number, F_is_number.binds (ps := ["value", "least", "most"]) fun _ _ _ _ _ _ us hl => match us, hl with | [_, _, _], _ => rfl⟩
  have F_is_ring := fun_mk (st := s_is_ring) l_is_ring d_is_ring k_is_ring
  have C_is_ring : Cl K mg "is_ring" a_is_ring _ ["value"] := ⟨PySem.W.mg_of X G g_is_ring, k_is_ring, F_is_ring.binds (ps := ["value"]) fun _ _ _ _ _ _ us hl => match us, hl with | [_], _ => rfl⟩
  have F_is_bowl := funC_mk (st := s_is_bowl) l_is_bowl d_is_bowl k_is_bowl
  have C_is_bowl : Cl K mg "is_bowl" a_is_bowl _ ["value"] := ⟨PySem.W.mg_of X G g_is_bowl, k_is_bowl, F_is_bowl.binds (ps := ["value"]) fun _ _ _ _ _ _ us hl => match us, hl with | [_], _ => rfl⟩
  have F__law_is_part := fun_mk (st := s__law_is_part) l__law_is_part d__law_is_part k__law_is_part
  have C__law_is_part : Cl K mg "_law_is_part" a__law_is_part _ ["value"] := ⟨PySem.W.mg_of X G g__law_is_part, k__law_is_part, F__law_is_part.binds (ps := ["value"]) fun _ _ _ _ _ _ us hl => match us, hl with | [_], _ => rfl⟩
  have F_law := fun_mk (st := s_law) l_law d_law k_law
  have tabs : ∀ p ∈ ([(c_is_bowl, P_is_bowl)] : List (Addr × Addr)), PySem.W.CodeHd h p.1 p.2 ∧ h.get? p.2 = some { cls := .none, data := .fields #[] } := by
    intro p hp
    simp only [List.mem_cons, List.not_mem_nil, or_false] at hp
    rcases hp with rfl
    · exact hTabs "is_bowl" (by simp) _ _ (tab_in g_is_bowl l_is_bowl rfl t_is_bowl p_is_bowl)
  have nt : ∀ p ∈ ([(c_is_bowl, P_is_bowl)] : List (Addr × Addr)), K.lookup p.2 = none := by
    intro p hp
    simp only [List.mem_cons, List.not_mem_nil, or_false] at hp
    rcases hp with rfl
    · exact z_is_bowl
  refine ⟨PySem.W.fnOf "law" "law" (defArgs s_law) (defBody s_law) (defScope s_law) .none kV_law dc_law pm_law an_law cd_law ct_law, [(c_is_bowl, P_is_bowl)], spTab [(c_is_bowl, P_is_bowl)] (spV K (TT C0 C1 C2 C3 C4 C5) (offT fun b => b ∈ ([(c_is_bowl, P_is_bowl)] : List (Addr × Addr)).map (·.2)) K34.F_law 1), fun p hp => (tabs p hp).2, nt, fun p hp => (tabs p hp).1, fun s v => .of_eq rfl, fun H a ns hl hb hT hS => sp_tabs (law_true ns hl hb) hT hS, fun base _ _ hTB => ?_⟩
  have gT : ∀ p ∈ ([(c_is_bowl, P_is_bowl)] : List (Addr × Addr)), GxR.TabB base mg p.1 p.2 := fun p hp => let t := hTB p hp; ⟨t.code, t.bm, t.gP⟩
  have G__law_draws := ok__law_draws (P := P) (w := w) (base := base) (TBs := fun b => b ∈ ([(c_is_bowl, P_is_bowl)] : List (Addr × Addr)).map (·.2)) F__law_draws T 
  have G__law_gcd := ok__law_gcd (P := P) (w := w) (base := base) (TBs := fun b => b ∈ ([(c_is_bowl, P_is_bowl)] : List (Addr × Addr)).map (·.2)) F__law_gcd T 
  have G__law_part := ok__law_part (P := P) (w := w) (base := base) (TBs := fun b => b ∈ ([(c_is_bowl, P_is_bowl)] : List (Addr × Addr)).map (·.2)) F__law_part T C__law_gcd G__law_gcd
  have G__law_minus := ok__law_minus (P := P) (w := w) (base := base) (TBs := fun b => b ∈ ([(c_is_bowl, P_is_bowl)] : List (Addr × Addr)).map (·.2)) F__law_minus T C__law_part G__law_part
  have G__law_plus := ok__law_plus (P := P) (w := w) (base := base) (TBs := fun b => b ∈ ([(c_is_bowl, P_is_bowl)] : List (Addr × Addr)).map (·.2)) F__law_plus T C__law_part G__law_part
  have G__law_less := ok__law_less (P := P) (w := w) (base := base) (TBs := fun b => b ∈ ([(c_is_bowl, P_is_bowl)] : List (Addr × Addr)).map (·.2)) F__law_less T 
  have G__law_times := ok__law_times (P := P) (w := w) (base := base) (TBs := fun b => b ∈ ([(c_is_bowl, P_is_bowl)] : List (Addr × Addr)).map (·.2)) F__law_times T C__law_part G__law_part
  have G__law_volume := ok__law_volume (P := P) (w := w) (base := base) (TBs := fun b => b ∈ ([(c_is_bowl, P_is_bowl)] : List (Addr × Addr)).map (·.2)) F__law_volume T C__law_minus G__law_minus C__law_plus G__law_plus C__law_less G__law_less C__law_times G__law_times
  have G_square_at := ok_square_at (P := P) (w := w) (base := base) (TBs := fun b => b ∈ ([(c_is_bowl, P_is_bowl)] : List (Addr × Addr)).map (·.2)) F_square_at T 
  have G_joined := ok_joined (P := P) (w := w) (base := base) (TBs := fun b => b ∈ ([(c_is_bowl, P_is_bowl)] : List (Addr × Addr)).map (·.2)) F_joined T C_square_at G_square_at
  have G_less := ok_less (P := P) (w := w) (base := base) (TBs := fun b => b ∈ ([(c_is_bowl, P_is_bowl)] : List (Addr × Addr)).map (·.2)) F_less T 
  have G_lowest := ok_lowest (P := P) (w := w) (base := base) (TBs := fun b => b ∈ ([(c_is_bowl, P_is_bowl)] : List (Addr × Addr)).map (·.2)) F_lowest T 
  have G_minus := ok_minus (P := P) (w := w) (base := base) (TBs := fun b => b ∈ ([(c_is_bowl, P_is_bowl)] : List (Addr × Addr)).map (·.2)) F_minus T C_lowest G_lowest
  have G_plus := ok_plus (P := P) (w := w) (base := base) (TBs := fun b => b ∈ ([(c_is_bowl, P_is_bowl)] : List (Addr × Addr)).map (·.2)) F_plus T C_lowest G_lowest
  have G_times := ok_times (P := P) (w := w) (base := base) (TBs := fun b => b ∈ ([(c_is_bowl, P_is_bowl)] : List (Addr × Addr)).map (·.2)) F_times T C_lowest G_lowest
  have G_whole_of := ok_whole_of (P := P) (w := w) (base := base) (TBs := fun b => b ∈ ([(c_is_bowl, P_is_bowl)] : List (Addr × Addr)).map (·.2)) F_whole_of T 
  have G_made := ok_made (P := P) (w := w) (base := base) (TBs := fun b => b ∈ ([(c_is_bowl, P_is_bowl)] : List (Addr × Addr)).map (·.2)) F_made T C_lowest G_lowest
  have G_joined_level := ok_joined_level (P := P) (w := w) (base := base) (TBs := fun b => b ∈ ([(c_is_bowl, P_is_bowl)] : List (Addr × Addr)).map (·.2)) F_joined_level T C_joined G_joined C_less G_less C_minus G_minus C_plus G_plus C_times G_times C_whole_of G_whole_of C_made G_made
  have G__law_word := ok__law_word (P := P) (w := w) (base := base) (TBs := fun b => b ∈ ([(c_is_bowl, P_is_bowl)] : List (Addr × Addr)).map (·.2)) F__law_word T 
  have G_top_of := ok_top_of (P := P) (w := w) (base := base) (TBs := fun b => b ∈ ([(c_is_bowl, P_is_bowl)] : List (Addr × Addr)).map (·.2)) F_top_of T 
  have G_volume_to := ok_volume_to (P := P) (w := w) (base := base) (TBs := fun b => b ∈ ([(c_is_bowl, P_is_bowl)] : List (Addr × Addr)).map (·.2)) F_volume_to T C_less G_less C_minus G_minus C_plus G_plus C_times G_times C_top_of G_top_of
  have G_level_for := ok_level_for (P := P) (w := w) (base := base) (TBs := fun b => b ∈ ([(c_is_bowl, P_is_bowl)] : List (Addr × Addr)).map (·.2)) F_level_for T C_less G_less C_minus G_minus C_plus G_plus C_times G_times C_whole_of G_whole_of C_made G_made
  have G__law_told := ok__law_told (P := P) (w := w) (base := base) (TBs := fun b => b ∈ ([(c_is_bowl, P_is_bowl)] : List (Addr × Addr)).map (·.2)) F__law_told T C_joined_level G_joined_level C__law_word G__law_word C_volume_to G_volume_to C_level_for G_level_for
  have G__law_take := ok__law_take (P := P) (w := w) (base := base) (TBs := fun b => b ∈ ([(c_is_bowl, P_is_bowl)] : List (Addr × Addr)).map (·.2)) F__law_take T 
  have G__law_bowl := ok__law_bowl (P := P) (w := w) (base := base) (TBs := fun b => b ∈ ([(c_is_bowl, P_is_bowl)] : List (Addr × Addr)).map (·.2)) F__law_bowl T C__law_take G__law_take
  have G__law_says := ok__law_says (P := P) (w := w) (base := base) (TBs := fun b => b ∈ ([(c_is_bowl, P_is_bowl)] : List (Addr × Addr)).map (·.2)) F__law_says T 
  have G__law_alike := ok__law_alike (P := P) (w := w) (base := base) (TBs := fun b => b ∈ ([(c_is_bowl, P_is_bowl)] : List (Addr × Addr)).map (·.2)) F__law_alike T C__law_alike 
  have G_is_number := ok_is_number (P := P) (w := w) (base := base) (TBs := fun b => b ∈ ([(c_is_bowl, P_is_bowl)] : List (Addr × Addr)).map (·.2)) F_is_number T 
  have G_is_ring := ok_is_ring (P := P) (w := w) (base := base) (TBs := fun b => b ∈ ([(c_is_bowl, P_is_bowl)] : List (Addr × Addr)).map (·.2)) F_is_ring T C_is_number G_is_number
  have G_is_bowl := ok_is_bowl (P := P) (w := w) (base := base) (TBs := fun b => b ∈ ([(c_is_bowl, P_is_bowl)] : List (Addr × Addr)).map (·.2)) F_is_bowl T (gT (c_is_bowl, P_is_bowl) (by simp)) (by simp) C_is_ring G_is_ring
  have G__law_is_part := ok__law_is_part (P := P) (w := w) (base := base) (TBs := fun b => b ∈ ([(c_is_bowl, P_is_bowl)] : List (Addr × Addr)).map (·.2)) F__law_is_part T C__law_gcd G__law_gcd
  have G_law := ok_law (P := P) (w := w) (base := base) (TBs := fun b => b ∈ ([(c_is_bowl, P_is_bowl)] : List (Addr × Addr)).map (·.2)) F_law T C__law_draws G__law_draws C__law_part G__law_part C__law_plus G__law_plus C__law_less G__law_less C__law_volume G__law_volume C__law_told G__law_told C__law_take G__law_take C__law_bowl G__law_bowl C__law_says G__law_says C__law_alike G__law_alike C_is_bowl G_is_bowl C__law_is_part G__law_is_part
  exact fn_tabs [(c_is_bowl, P_is_bowl)] (fun outer H s e s2 h => by obtain ⟨_, _, _, _, _, _, _, _, _, _, _, _, z⟩ := h; exact z) G_law
end K34
open PySem PySem.W PyProof.Rows
set_option maxHeartbeats 0 in
theorem PySem.Challenge.cw_shardsheld_k34_whole_bowls_that_are_fill_holds : PySem.Challenge.rw_shardsheld_k34_whole_bowls_that_are_fill.Holds := by
  w_on; o_law; k_head; (case hw => w_witness2)
  k_fill
  refine Qd.walk_tabs (l := PySem.Challenge.rw_shardsheld_k34_whole_bowls_that_are_fill) (n := 63) (k := 7) (x := "script") (CX := fun w => L2N.CX PySem.Challenge.rw_shardsheld_k34_whole_bowls_that_are_fill.prog w) ["is_bowl"] rfl (by decide) rfl ⟨rfl, by decide, by decide⟩ (by kernel_rfl) (fun w h Y => PySem.W.kIn_of Y) ?F (fun _ _ _ _ _ h => ?X)
  case F =>
    intro w mg fa h Y KX G hmg hTabs
    refine' K34.all_mk KX G hmg hTabs ?gC0 ?xC0 ?kC0 ?bC0 ?tC0 ?aC0 ?hC0 ?dC0 ?lC0 ?iC0 ?mC0 ?gC1 ?xC1 ?kC1 ?bC1 ?tC1 ?aC1 ?hC1 ?dC1 ?lC1 ?iC1 ?mC1 ?gC2 ?xC2 ?kC2 ?bC2 ?tC2 ?aC2 ?hC2 ?dC2 ?lC2 ?iC2 ?mC2 ?gC3 ?xC3 ?kC3 ?bC3 ?tC3 ?aC3 ?hC3 ?dC3 ?lC3 ?iC3 ?mC3 ?gC4 ?xC4 ?kC4 ?bC4 ?tC4 ?aC4 ?hC4 ?dC4 ?lC4 ?iC4 ?mC4 ?gC5 ?xC5 ?kC5 ?bC5 ?tC5 ?aC5 ?hC5 ?dC5 ?lC5 ?iC5 ?mC5 ?ng ?tg ?sb0_0 ?sb0_1 ?sb0_2 ?sb0_3 ?sb0_4 ?sb0_5 ?sb1_0 ?sb1_1 ?sb1_2 ?sb1_3 ?sb1_4 ?sb1_5 ?sb2_0 ?sb2_1 ?sb2_2 ?sb2_3 ?sb2_4 ?sb2_5 ?sb3_0 ?sb3_1 ?sb3_2 ?sb3_3 ?sb3_4 ?sb3_5 ?sb4_0 ?sb4_1 ?sb4_2 ?sb4_3 ?sb4_4 ?sb4_5 ?sb5_0 ?sb5_1 ?sb5_2 ?sb5_3 ?sb5_4 ?sb5_5 ?c_MOST_HEIGHT ?c_MOST_RADIUS ?c_MOST_RINGS ?n_abs ?n_all ?n_bool ?n_int ?n_isinstance ?n_len ?n_list ?n_max ?n_min ?n_range ?n_reversed ?n_sorted ?n_str ?n_sum ?n_tuple ?m_gcd ?g__law_draws ?l__law_draws ?d__law_draws ?k__law_draws ?g__law_gcd ?l__law_gcd ?d__law_gcd ?k__law_gcd ?g__law_part ?l__law_part ?d__law_part ?k__law_part ?g__law_minus ?l__law_minus ?d__law_minus ?k__law_minus ?g__law_plus ?l__law_plus ?d__law_plus ?k__law_plus ?g__law_less ?l__law_less ?d__law_less ?k__law_less ?g__law_times ?l__law_times ?d__law_times ?k__law_times ?g__law_volume ?l__law_volume ?d__law_volume ?k__law_volume ?g_square_at ?l_square_at ?d_square_at ?k_square_at ?g_joined ?l_joined ?d_joined ?k_joined ?g_less ?l_less ?d_less ?k_less ?g_lowest ?l_lowest ?d_lowest ?k_lowest ?g_minus ?l_minus ?d_minus ?k_minus ?g_plus ?l_plus ?d_plus ?k_plus ?g_times ?l_times ?d_times ?k_times ?g_whole_of ?l_whole_of ?d_whole_of ?k_whole_of ?g_made ?l_made ?d_made ?k_made ?g_joined_level ?l_joined_level ?d_joined_level ?k_joined_level ?g__law_word ?l__law_word ?d__law_word ?k__law_word ?g_top_of ?l_top_of ?d_top_of ?k_top_of ?g_volume_to ?l_volume_to ?d_volume_to ?k_volume_to ?g_level_for ?l_level_for ?d_level_for ?k_level_for ?g__law_told ?l__law_told ?d__law_told ?k__law_told ?g__law_take ?l__law_take ?d__law_take ?k__law_take ?g__law_bowl ?l__law_bowl ?d__law_bowl ?k__law_bowl ?g__law_says ?l__law_says ?d__law_says ?k__law_says ?g__law_alike ?l__law_alike ?d__law_alike ?k__law_alike ?g_is_number ?l_is_number ?d_is_number ?k_is_number ?g_is_ring ?l_is_ring ?d_is_ring ?k_is_ring ?g_is_bowl ?l_is_bowl ?d_is_bowl ?k_is_bowl ?t_is_bowl ?p_is_bowl ?z_is_bowl ?g__law_is_part ?l__law_is_part ?d__law_is_part ?k__law_is_part ?g_law ?l_law ?d_law ?k_law
    (case gC0 => k_is)
    (case xC0 => k_exc)
    (case kC0 => k_is)
    (case bC0 => k_is)
    (case tC0 => k_is)
    (case aC0 => k_is)
    (case hC0 => k_is)
    (case dC0 => k_is)
    (case lC0 => k_is)
    (case iC0 => k_is)
    (case mC0 => k_is)
    (case gC1 => k_is)
    (case xC1 => k_exc)
    (case kC1 => k_is)
    (case bC1 => k_is)
    (case tC1 => k_is)
    (case aC1 => k_is)
    (case hC1 => k_is)
    (case dC1 => k_is)
    (case lC1 => k_is)
    (case iC1 => k_is)
    (case mC1 => k_is)
    (case gC2 => k_is)
    (case xC2 => k_exc)
    (case kC2 => k_is)
    (case bC2 => k_is)
    (case tC2 => k_is)
    (case aC2 => k_is)
    (case hC2 => k_is)
    (case dC2 => k_is)
    (case lC2 => k_is)
    (case iC2 => k_is)
    (case mC2 => k_is)
    (case gC3 => k_is)
    (case xC3 => k_exc)
    (case kC3 => k_is)
    (case bC3 => k_is)
    (case tC3 => k_is)
    (case aC3 => k_is)
    (case hC3 => k_is)
    (case dC3 => k_is)
    (case lC3 => k_is)
    (case iC3 => k_is)
    (case mC3 => k_is)
    (case gC4 => k_is)
    (case xC4 => k_exc)
    (case kC4 => k_is)
    (case bC4 => k_is)
    (case tC4 => k_is)
    (case aC4 => k_is)
    (case hC4 => k_is)
    (case dC4 => k_is)
    (case lC4 => k_is)
    (case iC4 => k_is)
    (case mC4 => k_is)
    (case gC5 => k_is)
    (case xC5 => k_exc)
    (case kC5 => k_is)
    (case bC5 => k_is)
    (case tC5 => k_is)
    (case aC5 => k_is)
    (case hC5 => k_is)
    (case dC5 => k_is)
    (case lC5 => k_is)
    (case iC5 => k_is)
    (case mC5 => k_is)
    (case ng => k_is)
    (case tg => k_is)
    (case sb0_0 => first | rfl | k_is)
    (case sb0_1 => k_is)
    (case sb0_2 => k_is)
    (case sb0_3 => k_is)
    (case sb0_4 => k_is)
    (case sb0_5 => k_is)
    (case sb1_0 => k_is)
    (case sb1_1 => first | rfl | k_is)
    (case sb1_2 => k_is)
    (case sb1_3 => k_is)
    (case sb1_4 => k_is)
    (case sb1_5 => k_is)
    (case sb2_0 => k_is)
    (case sb2_1 => k_is)
    (case sb2_2 => first | rfl | k_is)
    (case sb2_3 => k_is)
    (case sb2_4 => k_is)
    (case sb2_5 => k_is)
    (case sb3_0 => k_is)
    (case sb3_1 => k_is)
    (case sb3_2 => k_is)
    (case sb3_3 => first | rfl | k_is)
    (case sb3_4 => k_is)
    (case sb3_5 => k_is)
    (case sb4_0 => k_is)
    (case sb4_1 => k_is)
    (case sb4_2 => k_is)
    (case sb4_3 => k_is)
    (case sb4_4 => first | rfl | k_is)
    (case sb4_5 => k_is)
    (case sb5_0 => k_is)
    (case sb5_1 => k_is)
    (case sb5_2 => k_is)
    (case sb5_3 => k_is)
    (case sb5_4 => k_is)
    (case sb5_5 => first | rfl | k_is)
    (case c_MOST_HEIGHT => k_is)
    (case c_MOST_RADIUS => k_is)
    (case c_MOST_RINGS => k_is)
    (case n_abs => k_is)
    (case n_all => k_is)
    (case n_bool => k_is)
    (case n_int => k_is)
    (case n_isinstance => k_is)
    (case n_len => k_is)
    (case n_list => k_is)
    (case n_max => k_is)
    (case n_min => k_is)
    (case n_range => k_is)
    (case n_reversed => k_is)
    (case n_sorted => k_is)
    (case n_str => k_is)
    (case n_sum => k_is)
    (case n_tuple => k_is)
    (case m_gcd => k_is)
    (case g__law_draws => k_is)
    (case l__law_draws => k_is)
    (case d__law_draws => k_is)
    (case k__law_draws => k_is)
    (case g__law_gcd => k_is)
    (case l__law_gcd => k_is)
    (case d__law_gcd => k_is)
    (case k__law_gcd => k_is)
    (case g__law_part => k_is)
    (case l__law_part => k_is)
    (case d__law_part => k_is)
    (case k__law_part => k_is)
    (case g__law_minus => k_is)
    (case l__law_minus => k_is)
    (case d__law_minus => k_is)
    (case k__law_minus => k_is)
    (case g__law_plus => k_is)
    (case l__law_plus => k_is)
    (case d__law_plus => k_is)
    (case k__law_plus => k_is)
    (case g__law_less => k_is)
    (case l__law_less => k_is)
    (case d__law_less => k_is)
    (case k__law_less => k_is)
    (case g__law_times => k_is)
    (case l__law_times => k_is)
    (case d__law_times => k_is)
    (case k__law_times => k_is)
    (case g__law_volume => k_is)
    (case l__law_volume => k_is)
    (case d__law_volume => k_is)
    (case k__law_volume => k_is)
    (case g_square_at => k_is)
    (case l_square_at => k_is)
    (case d_square_at => k_is)
    (case k_square_at => k_is)
    (case g_joined => k_is)
    (case l_joined => k_is)
    (case d_joined => k_is)
    (case k_joined => k_is)
    (case g_less => k_is)
    (case l_less => k_is)
    (case d_less => k_is)
    (case k_less => k_is)
    (case g_lowest => k_is)
    (case l_lowest => k_is)
    (case d_lowest => k_is)
    (case k_lowest => k_is)
    (case g_minus => k_is)
    (case l_minus => k_is)
    (case d_minus => k_is)
    (case k_minus => k_is)
    (case g_plus => k_is)
    (case l_plus => k_is)
    (case d_plus => k_is)
    (case k_plus => k_is)
    (case g_times => k_is)
    (case l_times => k_is)
    (case d_times => k_is)
    (case k_times => k_is)
    (case g_whole_of => k_is)
    (case l_whole_of => k_is)
    (case d_whole_of => k_is)
    (case k_whole_of => k_is)
    (case g_made => k_is)
    (case l_made => k_is)
    (case d_made => k_is)
    (case k_made => k_is)
    (case g_joined_level => k_is)
    (case l_joined_level => k_is)
    (case d_joined_level => k_is)
    (case k_joined_level => k_is)
    (case g__law_word => k_is)
    (case l__law_word => k_is)
    (case d__law_word => k_is)
    (case k__law_word => k_is)
    (case g_top_of => k_is)
    (case l_top_of => k_is)
    (case d_top_of => k_is)
    (case k_top_of => k_is)
    (case g_volume_to => k_is)
    (case l_volume_to => k_is)
    (case d_volume_to => k_is)
    (case k_volume_to => k_is)
    (case g_level_for => k_is)
    (case l_level_for => k_is)
    (case d_level_for => k_is)
    (case k_level_for => k_is)
    (case g__law_told => k_is)
    (case l__law_told => k_is)
    (case d__law_told => k_is)
    (case k__law_told => k_is)
    (case g__law_take => k_is)
    (case l__law_take => k_is)
    (case d__law_take => k_is)
    (case k__law_take => k_is)
    (case g__law_bowl => k_is)
    (case l__law_bowl => k_is)
    (case d__law_bowl => k_is)
    (case k__law_bowl => k_is)
    (case g__law_says => k_is)
    (case l__law_says => k_is)
    (case d__law_says => k_is)
    (case k__law_says => k_is)
    (case g__law_alike => k_is)
    (case l__law_alike => k_is)
    (case d__law_alike => k_is)
    (case k__law_alike => k_is)
    (case g_is_number => k_is)
    (case l_is_number => k_is)
    (case d_is_number => k_is)
    (case k_is_number => k_is)
    (case g_is_ring => k_is)
    (case l_is_ring => k_is)
    (case d_is_ring => k_is)
    (case k_is_ring => k_is)
    (case g_is_bowl => k_is)
    (case l_is_bowl => k_is)
    (case d_is_bowl => k_is)
    (case k_is_bowl => k_is)
    (case t_is_bowl => k_is)
    (case p_is_bowl => rfl)
    (case z_is_bowl => first | rfl | kernel_rfl)
    (case g__law_is_part => k_is)
    (case l__law_is_part => k_is)
    (case d__law_is_part => k_is)
    (case k__law_is_part => k_is)
    (case g_law => k_is)
    (case l_law => k_is)
    (case d_law => k_is)
    (case k_law => k_is)
  case X =>
    obtain ⟨_, _, _, _, _, _, _, _, _, _, _, _, z⟩ := h
    exact z
