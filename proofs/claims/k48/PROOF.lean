import PyProof.Rows.All
import HandS.ForMost
import HandS.ForExc
import HandS.WordsExc
import HandS.CallSlots
import HandS.Wide
import HandS.ExcCtx
import HandS.IsInst
import HandS.Style
import HandS.TupMul
import HandS.TupAny
import HandS.Deep
import PyProof.Rows.SeqMore
import HandS.HotCalls
import HandS.ExcIs
import HandS.ExcOwn
import PyProof.Rows.FactsN_isinstance
import HandS.Dict
import HandS.DictTup
import HandS.Remove
import HandS.More
import KE.DataMinMax
import KE.DataFind
import HandS.Text
import HandS.Gcd
import HandS.Rev
import HandS.WideBits
import PySem.Challenge.RW_shardsheld_k48_whole_places_and_costs_of
import KE.SortData
set_option Elab.async false
set_option linter.all false
set_option maxRecDepth 100000
set_option maxHeartbeats 8000000
section
set_option Elab.async false
set_option linter.all false
set_option maxRecDepth 100000
/-! Data without addresses over HandS: a value v of the abstract heap H stands for the data w; O: the addresses that somebody may still write. -/
namespace Qd
open PySem PySem.Spec PyProof.Rows L2

abbrev W := PyData
abbrev St := L2.St
/-- a caught error of the class with number c -/
abbrev exD (c : Nat) : W := PyData.dict [(PyData.none, PyData.int c)]
def keyD : Key → W
  | .inl i => .int i
  | .inr x => .str x
theorem keyD_inj : ∀ {k l : Key}, keyD k = keyD l → k = l
  | .inl i, .inl j, h => by injection h with h; rw [h]
  | .inr i, .inr j, h => by injection h with h; rw [h]
  | .inl i, .inr j, h => by cases h
  | .inr i, .inl j, h => by cases h

/-- ahead of the items of a dict whose keys are tuples -/
abbrev tagT : W × W := (.none, .none)
def noH : Hp := fun _ => none
section
variable (K : PySem.W.Frag) (Ex : Addr → Nat → Prop) (O : Addr → Prop) (H : Hp)
/-- Ex a cN: the module's written tuples and lists may be read -/
abbrev cN : Nat := 1000
def LAt (a : Addr) (xs : List V) : Prop := (¬ O a ∧ Rd H a (.lst xs)) ∨ SqL K noH a xs
def TAt (a : Addr) (xs : List V) : Prop := (¬ O a ∧ H a = some (.tup xs)) ∨ (Ex a cN ∧ SqT K noH a xs)
mutual
inductive Rp : V → W → Prop
  | non : Rp .non .none
  | bl (b : Bool) : Rp (.bl b) (.bool b)
  | int (i : Int) : Rp (.int i) (.int i)
  | str (x : Str) : Rp (.str x) (.str x)
  | lst {a : Addr} {xs : List V} {ds : List W} : LAt K O H a xs → RpA xs ds → Rp (.ref a) (.list ds)
  | tup {a : Addr} {xs : List V} {ds : List W} : TAt K Ex O H a xs → RpA xs ds → Rp (.ref a) (.tuple ds)
  | dK {a : Addr} {kvs : List (Key × V)} {ds : List (W × W)} : ¬ O a → Rd H a (.dK kvs) → RpK kvs ds → Rp (.ref a) (.dict ds)
  | dT {a : Addr} {kvs : List (List Key × V)} {ds : List (W × W)} : ¬ O a → Rd H a (.dT kvs) → RpT kvs ds → Rp (.ref a) (.dict (tagT :: ds))
  | exc {a : Addr} {c : Nat} : Ex a c → Rp (.ref a) (exD c)
inductive RpA : List V → List W → Prop
  | nil : RpA [] []
  | cons {v : V} {w : W} {vs : List V} {ws : List W} : Rp v w → RpA vs ws → RpA (v :: vs) (w :: ws)
inductive RpK : List (Key × V) → List (W × W) → Prop
  | nil : RpK [] []
  | cons {k : Key} {v : V} {w : W} {vs : List (Key × V)} {ws : List (W × W)} : Rp v w → RpK vs ws → RpK ((k, v) :: vs) ((keyD k, w) :: ws)
inductive RpT : List (List Key × V) → List (W × W) → Prop
  | nil : RpT [] []
  | cons {k : List Key} {v : V} {w : W} {vs : List (List Key × V)} {ws : List (W × W)} : Rp v w → RpT vs ws → RpT ((k, v) :: vs) ((.tuple (k.map keyD), w) :: ws)
end
/-- an object that may be written, by its data -/
def Ob (p : Addr) : W → Prop
  | .list ds => ∃ xs, H p = some (.lst xs) ∧ RpA K Ex O H xs ds
  | .dict ds => (∃ kvs, H p = some (.dK kvs) ∧ RpK K Ex O H kvs ds) ∨ ∃ kvs ds', ds = tagT :: ds' ∧ H p = some (.dT kvs) ∧ RpT K Ex O H kvs ds'
  | _ => False
end

section
variable {K : PySem.W.Frag} {Ex Ex' : Addr → Nat → Prop} {O O' : Addr → Prop} {H H' : Hp}
/-- what is fixed at (O, H) is so at (O', H') -/
def Ke (O : Addr → Prop) (H : Hp) (O' : Addr → Prop) (H' : Hp) : Prop := ∀ a u, ¬ O a → H a = some u → ¬ O' a ∧ H' a = some u
theorem Ke.refl : Ke O H O H := fun _ _ h e => ⟨h, e⟩
theorem Ke.trans {O2 : Addr → Prop} {H2 : Hp} (a : Ke O H O' H') (b : Ke O' H' O2 H2) : Ke O H O2 H2 := fun x u h e => let ⟨h1, e1⟩ := a x u h e; b x u h1 e1
theorem Ke.rd (k : Ke O H O' H') {a : Addr} {u : HO} (h : ¬ O a) (r : Rd H a u) : ¬ O' a ∧ Rd H' a u := by
  rcases r with r | ⟨o, r⟩
  · exact ⟨(k a _ h r).1, .inl (k a _ h r).2⟩
  · exact ⟨(k a _ h r).1, .inr ⟨o, (k a _ h r).2⟩⟩
theorem LAt.mono {a : Addr} {xs : List V} (k : Ke O H O' H') (h : LAt K O H a xs) : LAt K O' H' a xs := by
  rcases h with ⟨h, r⟩ | h
  · exact .inl (k.rd h r)
  · exact .inr h
theorem TAt.mono {a : Addr} {xs : List V} (k : Ke O H O' H') (x : ∀ a c, Ex a c → Ex' a c) (h : TAt K Ex O H a xs) : TAt K Ex' O' H' a xs := by
  rcases h with ⟨h, r⟩ | h
  · exact .inl (k _ _ h r)
  · exact .inr ⟨x _ _ h.1, h.2⟩
theorem no_rd {a : Addr} {u : HO} (h : Rd noH a u) : False := by
  rcases h with h | ⟨_, h⟩ <;> cases h
theorem LAt.sq {a : Addr} {xs : List V} (h : LAt K O H a xs) : SqL K H a xs := by
  rcases h with ⟨_, r⟩ | h
  · exact .inl r
  · exact .inr (h.resolve_left no_rd)
theorem TAt.sq {a : Addr} {xs : List V} (h : TAt K Ex O H a xs) : SqT K H a xs := by
  rcases h with ⟨_, r⟩ | h
  · exact .inl (.inl r)
  · exact .inr (h.2.resolve_left no_rd)
mutual
theorem Rp.mono (k : Ke O H O' H') (x : ∀ a c, Ex a c → Ex' a c) : ∀ {v : V} {w : W}, Rp K Ex O H v w → Rp K Ex' O' H' v w
  | _, _, .non => .non
  | _, _, .bl b => .bl b
  | _, _, .int i => .int i
  | _, _, .str i => .str i
  | _, _, .lst h r => .lst (h.mono k) (RpA.mono k x r)
  | _, _, .tup h r => .tup (h.mono k x) (RpA.mono k x r)
  | _, _, .dK h r t => .dK (k.rd h r).1 (k.rd h r).2 (RpK.mono k x t)
  | _, _, .dT h r t => .dT (k.rd h r).1 (k.rd h r).2 (RpT.mono k x t)
  | _, _, .exc h => .exc (x _ _ h)
theorem RpA.mono (k : Ke O H O' H') (x : ∀ a c, Ex a c → Ex' a c) : ∀ {v : List V} {w : List W}, RpA K Ex O H v w → RpA K Ex' O' H' v w
  | _, _, .nil => .nil
  | _, _, .cons a b => .cons (Rp.mono k x a) (RpA.mono k x b)
theorem RpK.mono (k : Ke O H O' H') (x : ∀ a c, Ex a c → Ex' a c) : ∀ {v : List (Key × V)} {w : List (W × W)}, RpK K Ex O H v w → RpK K Ex' O' H' v w
  | _, _, .nil => .nil
  | _, _, .cons a b => .cons (Rp.mono k x a) (RpK.mono k x b)
theorem RpT.mono (k : Ke O H O' H') (x : ∀ a c, Ex a c → Ex' a c) : ∀ {v : List (List Key × V)} {w : List (W × W)}, RpT K Ex O H v w → RpT K Ex' O' H' v w
  | _, _, .nil => .nil
  | _, _, .cons a b => .cons (Rp.mono k x a) (RpT.mono k x b)
end
/-- a change that keeps the object at p -/
theorem Ob.mono {p : Addr} {w : W} (k : Ke O H O' H') (x : ∀ a c, Ex a c → Ex' a c) (e : H' p = H p) (h : Ob K Ex O H p w) : Ob K Ex' O' H' p w := by
  cases w with
  | list ds => obtain ⟨xs, h1, h2⟩ := h; exact ⟨xs, e.trans h1, h2.mono k x⟩
  | dict ds =>
    rcases h with ⟨xs, h1, h2⟩ | ⟨xs, ds', h0, h1, h2⟩
    · exact .inl ⟨xs, e.trans h1, h2.mono k x⟩
    · exact .inr ⟨xs, ds', h0, e.trans h1, h2.mono k x⟩
  | none => exact h.elim
  | bool b => exact h.elim
  | int i => exact h.elim
  | str s => exact h.elim
  | tuple t => exact h.elim
/-- an object that nobody writes any more -/
theorem Ob.rp {p : Addr} {w : W} (n : ¬ O p) (h : Ob K Ex O H p w) : Rp K Ex O H (.ref p) w := by
  cases w with
  | list ds => obtain ⟨xs, h1, h2⟩ := h; exact .lst (.inl ⟨n, .inl h1⟩) h2
  | dict ds =>
    rcases h with ⟨xs, h1, h2⟩ | ⟨xs, ds', rfl, h1, h2⟩
    · exact .dK n (.inl h1) h2
    · exact .dT n (.inl h1) h2
  | none => exact h.elim
  | bool b => exact h.elim
  | int i => exact h.elim
  | str s => exact h.elim
  | tuple t => exact h.elim
theorem Ob.at {p : Addr} {w : W} (h : Ob K Ex O H p w) : ∃ u, H p = some u := by
  cases w with
  | list ds => obtain ⟨xs, h1, h2⟩ := h; exact ⟨_, h1⟩
  | dict ds =>
    rcases h with ⟨xs, h1, h2⟩ | ⟨xs, ds', rfl, h1, h2⟩
    · exact ⟨_, h1⟩
    · exact ⟨_, h1⟩
  | none => exact h.elim
  | bool b => exact h.elim
  | int i => exact h.elim
  | str s => exact h.elim
  | tuple t => exact h.elim
theorem RpA.length : ∀ {vs : List V} {ws : List W}, RpA K Ex O H vs ws → vs.length = ws.length
  | _, _, .nil => rfl
  | _, _, .cons _ b => by rw [List.length_cons, List.length_cons, b.length]
theorem RpA.get : ∀ {vs : List V} {ws : List W} {i : Nat} {w : W}, RpA K Ex O H vs ws → ws[i]? = some w → ∃ v, vs[i]? = some v ∧ Rp K Ex O H v w
  | _, _, _, _, .nil, e => by simp at e
  | _, _, 0, _, .cons a b, e => by simp at e; subst e; exact ⟨_, rfl, a⟩
  | _, _, i + 1, w, .cons a b, e => by
    obtain ⟨v, h1, h2⟩ := b.get (i := i) (w := w) (by simpa using e)
    exact ⟨v, by simpa using h1, h2⟩
theorem RpA.get' : ∀ {vs : List V} {ws : List W} {i : Nat} {v : V}, RpA K Ex O H vs ws → vs[i]? = some v → ∃ w, ws[i]? = some w ∧ Rp K Ex O H v w
  | _, _, _, _, .nil, e => by simp at e
  | _, _, 0, _, .cons a b, e => by simp at e; subst e; exact ⟨_, rfl, a⟩
  | _, _, i + 1, w, .cons a b, e => by
    obtain ⟨v, h1, h2⟩ := b.get' (i := i) (v := w) (by simpa using e)
    exact ⟨v, by simpa using h1, h2⟩
theorem RpA.append : ∀ {vs us : List V} {ws ts : List W}, RpA K Ex O H vs ws → RpA K Ex O H us ts → RpA K Ex O H (vs ++ us) (ws ++ ts)
  | _, _, _, _, .nil, s => s
  | _, _, _, _, .cons a b, s => .cons a (b.append s)
theorem RpA.take : ∀ {vs : List V} {ws : List W} (n : Nat), RpA K Ex O H vs ws → RpA K Ex O H (vs.take n) (ws.take n)
  | _, _, 0, _ => .nil
  | _, _, _ + 1, .nil => .nil
  | _, _, n + 1, .cons a b => .cons a (b.take n)
theorem RpA.drop : ∀ {vs : List V} {ws : List W} (n : Nat), RpA K Ex O H vs ws → RpA K Ex O H (vs.drop n) (ws.drop n)
  | _, _, 0, h => h
  | _, _, _ + 1, .nil => .nil
  | _, _, n + 1, .cons a b => b.drop n
theorem RpA.set {v : V} {w : W} (r : Rp K Ex O H v w) : ∀ {vs : List V} {ws : List W} (i : Nat), RpA K Ex O H vs ws → RpA K Ex O H (vs.set i v) (ws.set i w)
  | _, _, _, .nil => .nil
  | _, _, 0, .cons a b => .cons r b
  | _, _, i + 1, .cons a b => .cons a (RpA.set r i b)
theorem RpA.eraseIdx : ∀ {vs : List V} {ws : List W} (i : Nat), RpA K Ex O H vs ws → RpA K Ex O H (vs.eraseIdx i) (ws.eraseIdx i)
  | _, _, _, .nil => .nil
  | _, _, 0, .cons a b => b
  | _, _, i + 1, .cons a b => .cons a (b.eraseIdx i)
theorem RpA.reverse : ∀ {vs : List V} {ws : List W}, RpA K Ex O H vs ws → RpA K Ex O H vs.reverse ws.reverse
  | _, _, .nil => .nil
  | _, _, .cons a b => by rw [List.reverse_cons, List.reverse_cons]; exact b.reverse.append (.cons a .nil)
theorem RpA.dropLast : ∀ {vs : List V} {ws : List W}, RpA K Ex O H vs ws → RpA K Ex O H vs.dropLast ws.dropLast
  | _, _, h => by
    rw [List.dropLast_eq_take, List.dropLast_eq_take, h.length]
    exact h.take _
theorem RpA.rep {vs : List V} {ws : List W} (h : RpA K Ex O H vs ws) : ∀ n : Nat, RpA K Ex O H (List.replicate n vs).flatten (List.replicate n ws).flatten
  | 0 => .nil
  | n + 1 => by
    rw [List.replicate_succ, List.replicate_succ, List.flatten_cons, List.flatten_cons]
    exact h.append (RpA.rep h n)
/-- lists of ints -/
theorem RpA.ints : ∀ {ns : List Int} {vs : List V}, RpA K Ex O H vs (ns.map PyData.int) → vs = ns.map V.int
  | [], _, h => by cases h; rfl
  | n :: ns, _, h => by
    cases h with
    | cons a b => cases a; rw [b.ints]; rfl
theorem RpA.of_ints : ∀ (ns : List Int), RpA K Ex O H (ns.map V.int) (ns.map PyData.int)
  | [] => .nil
  | n :: ns => .cons (.int n) (RpA.of_ints ns)
theorem RpA.bools : ∀ {ns : List Bool} {vs : List V}, RpA K Ex O H vs (ns.map PyData.bool) → vs = ns.map V.bl
  | [], _, h => by cases h; rfl
  | n :: ns, _, h => by
    cases h with
    | cons a b => cases a; rw [b.bools]; rfl
/-! data without dicts (and errors) -/
mutual
def noD : W → Bool
  | .list ds => noDs ds
  | .tuple ds => noDs ds
  | .dict _ => false
  | _ => true
def noDs : List W → Bool
  | [] => true
  | d :: r => noD d && noDs r
end
mutual
theorem Rp.dp : ∀ {v : V} {w : W}, Rp K Ex O H v w → noD w = true → Dp K H v w
  | _, _, .non, _ => .non
  | _, _, .bl b, _ => .bl b
  | _, _, .int i, _ => .int i
  | _, _, .str i, _ => .str i
  | _, _, .lst h r, n => .lst h.sq (RpA.dp r (by simpa [noD] using n))
  | _, _, .tup h r, n => .tup h.sq (RpA.dp r (by simpa [noD] using n))
  | _, _, .dK h r t, n => by simp [noD] at n
  | _, _, .dT h r t, n => by simp [noD] at n
  | _, _, .exc h, n => by simp [noD] at n
theorem RpA.dp : ∀ {v : List V} {w : List W}, RpA K Ex O H v w → noDs w = true → DpAll K H v w
  | _, _, .nil, _ => .nil
  | _, _, .cons a b, n => by
    simp only [noDs, Bool.and_eq_true] at n
    exact .cons (Rp.dp a n.1) (RpA.dp b n.2)
end
/-! without errors, whatever errors are caught -/
mutual
theorem Rp.anyEx (x : ∀ a, Ex a cN → Ex' a cN) : ∀ {v : V} {w : W}, Rp K Ex O H v w → noD w = true → Rp K Ex' O H v w
  | _, _, .non, _ => .non
  | _, _, .bl b, _ => .bl b
  | _, _, .int i, _ => .int i
  | _, _, .str i, _ => .str i
  | _, _, .lst h r, n => .lst h (RpA.anyEx x r (by simpa [noD] using n))
  | _, _, .tup h r, n => .tup (h.imp id fun z => ⟨x _ z.1, z.2⟩) (RpA.anyEx x r (by simpa [noD] using n))
  | _, _, .dK h r t, n => by simp [noD] at n
  | _, _, .dT h r t, n => by simp [noD] at n
  | _, _, .exc h, n => by simp [noD] at n
theorem RpA.anyEx (x : ∀ a, Ex a cN → Ex' a cN) : ∀ {v : List V} {w : List W}, RpA K Ex O H v w → noDs w = true → RpA K Ex' O H v w
  | _, _, .nil, _ => .nil
  | _, _, .cons a b, n => by
    simp only [noDs, Bool.and_eq_true] at n
    exact .cons (Rp.anyEx x a n.1) (RpA.anyEx x b n.2)
end
end
end Qd
end
section
set_option Elab.async false
set_option linter.all false
set_option maxRecDepth 100000
/-! The data of a def's names; what a step of the walk may change. -/
namespace Qd
open PySem PySem.Spec PyProof.Rows L2

/-- decided, in a way that the kernel does not reckon out -/
noncomputable def cdec (p : Prop) : Bool := @decide p (Classical.propDecidable p)
theorem cdec_iff {p : Prop} : cdec p = true ↔ p := @decide_eq_true_iff p (Classical.propDecidable p)
@[simp] theorem cdec_eq (p : Prop) [inst : Decidable p] : cdec p = decide p := by
  by_cases h : p
  · rw [cdec_iff.mpr h, decide_eq_true h]
  · rw [decide_eq_false h]
    cases e : cdec p with
    | false => rfl
    | true => exact absurd (cdec_iff.mp e) h
/-- what a name holds: a fixed value; an own object that may be written; such an object that the caller gave -/
inductive Slot where
  | val (w : W) | own (w : W) | par (w : W)
abbrev SD := List (Option Slot)
def Slot.mine? : Slot → Option W
  | .own w => some w
  | .par w => some w
  | .val _ => none
inductive Out (α : Type) where
  | ok (a : α) (d : SD) | exc (c : Nat) (d : SD) | bad
abbrev M (α : Type) := SD → Out α
def Out.bind {α β : Type} (o : Out α) (f : α → SD → Out β) : Out β := match o with
  | .ok a d => f a d
  | .exc c d => .exc c d
  | .bad => .bad
@[simp] theorem Out.bind_ok {α β : Type} (a : α) (d : SD) (f : α → SD → Out β) : (Out.ok a d).bind f = f a d := rfl
@[simp] theorem Out.bind_exc {α β : Type} (c : Nat) (d : SD) (f : α → SD → Out β) : (Out.exc c d : Out α).bind f = .exc c d := rfl
@[simp] theorem Out.bind_bad {α β : Type} (f : α → SD → Out β) : (Out.bad : Out α).bind f = .bad := rfl
def ofOpt {α : Type} (o : Option α) (d : SD) : Out α := match o with
  | some a => .ok a d
  | none => .bad
@[simp] theorem ofOpt_some {α : Type} (a : α) (d : SD) : ofOpt (some a) d = .ok a d := rfl
@[simp] theorem ofOpt_none {α : Type} (d : SD) : (ofOpt none d : Out α) = .bad := rfl

def Mine (d : SD) (σ : St) (a : Addr) : Prop := ∃ (i : Nat) (s : Slot) (w : W), d[i]? = some (some s) ∧ Slot.mine? s = some w ∧ σ[i]? = some (some (.ref a))
def Ow (Oc : Addr → Prop) (d : SD) (σ : St) (a : Addr) : Prop := Oc a ∨ Mine d σ a
section
variable (K : PySem.W.Frag) (Ex : Addr → Nat → Prop) (Oc : Addr → Prop)
structure RS (H : Hp) (d : SD) (σ : St) : Prop where
  len : d.length = σ.length
  val : ∀ (i : Nat) (w : W), d[i]? = some (some (.val w)) → ∃ v, σ[i]? = some (some v) ∧ Rp K Ex (Ow Oc d σ) H v w
  own : ∀ (i : Nat) (s : Slot) (w : W), d[i]? = some (some s) → Slot.mine? s = some w → ∃ p, σ[i]? = some (some (.ref p)) ∧ ¬ Oc p ∧ Ob K Ex (Ow Oc d σ) H p w
  sep : ∀ (i j : Nat) (s t : Slot) (w u : W) (p : Addr), i ≠ j → d[i]? = some (some s) → Slot.mine? s = some w → d[j]? = some (some t) → Slot.mine? t = some u → σ[i]? = some (some (.ref p)) → σ[j]? ≠ some (some (.ref p))
  oc : ∀ a, Oc a → ∃ o, H a = some o
/-- the same names hold own objects, the others hold what they held -/
def SlotLike : Option (Option Slot) → Option (Option Slot) → Prop
  | some (some (.own _)), some (some (.own _)) => True
  | some (some (.par _)), some (some (.par _)) => True
  | a, b => a = b
def Sim (d d' : SD) : Prop := d.length = d'.length ∧ ∀ i : Nat, SlotLike d[i]? d'[i]?
/-- a step within an expression -/
structure Go (pu : Bool) (σ : St) (d : SD) (H : Hp) (d' : SD) (H' : Hp) : Prop where
  rs : RS K Ex Oc H' d' σ
  fr : ∀ a o, H a = some o → ¬ Mine d σ a → H' a = some o
  sim : Sim d d'
  pur : pu = true → Same H H' ∧ d' = d
/-- a step of statements -/
structure GoS (d : SD) (σ : St) (H : Hp) (d' : SD) (σ' : St) (H' : Hp) : Prop where
  rs : RS K Ex Oc H' d' σ'
  fr : ∀ a o, H a = some o → ¬ Mine d σ a → H' a = some o
  mine : ∀ a, Mine d' σ' a → Mine d σ a ∨ H a = none
  par : ∀ (i : Nat) (w : W), d[i]? = some (some (.par w)) → (∃ w', d'[i]? = some (some (.par w'))) ∧ σ'[i]? = σ[i]?
end
theorem SlotLike.refl (a : Option (Option Slot)) : SlotLike a a := by
  rcases a with _ | _ | (w | w | w) <;> first | rfl | trivial
theorem SlotLike.trans {a b c : Option (Option Slot)} (h : SlotLike a b) (g : SlotLike b c) : SlotLike a c := by
  rcases a with _ | _ | (w | w | w) <;> rcases b with _ | _ | (w | w | w) <;> rcases c with _ | _ | (w | w | w) <;>
    simp_all [SlotLike]
theorem SlotLike.mine {a b : Option (Option Slot)} (h : SlotLike a b) : (∃ s w, a = some (some s) ∧ Slot.mine? s = some w) ↔ ∃ s w, b = some (some s) ∧ Slot.mine? s = some w := by
  rcases a with _ | _ | (w | w | w) <;> rcases b with _ | _ | (w' | w' | w') <;> simp_all [SlotLike, Slot.mine?]
theorem Sim.refl (d : SD) : Sim d d := ⟨rfl, fun _ => .refl _⟩
theorem Sim.trans {a b c : SD} (h : Sim a b) (g : Sim b c) : Sim a c := ⟨h.1.trans g.1, fun i => (h.2 i).trans (g.2 i)⟩
theorem Sim.mine {d d' : SD} {σ : St} {a : Addr} (h : Sim d d') : Mine d' σ a ↔ Mine d σ a := by
  constructor
  · rintro ⟨i, s, w, h1, h2, h3⟩
    obtain ⟨s', w', e1, e2⟩ := (h.2 i).mine.mpr ⟨s, w, h1, h2⟩
    exact ⟨i, s', w', e1, e2, h3⟩
  · rintro ⟨i, s, w, h1, h2, h3⟩
    obtain ⟨s', w', e1, e2⟩ := (h.2 i).mine.mp ⟨s, w, h1, h2⟩
    exact ⟨i, s', w', e1, e2, h3⟩
section
variable {K : PySem.W.Frag} {Ex : Addr → Nat → Prop} {Oc : Addr → Prop} {σ σ' σ2 : St} {d d' d2 : SD} {H H' H2 : Hp}
theorem Go.ke {pu : Bool} (g : Go K Ex Oc pu σ d H d' H') : Ke (Ow Oc d σ) H (Ow Oc d' σ) H' := fun a u n e => by
  refine ⟨fun z => ?_, g.fr a u e fun z => n (.inr z)⟩
  rcases z with z | z
  · exact n (.inl z)
  · exact n (.inr (g.sim.mine.mp z))
theorem Go.rp {pu : Bool} {v : V} {w : W} (g : Go K Ex Oc pu σ d H d' H') (h : Rp K Ex (Ow Oc d σ) H v w) : Rp K Ex (Ow Oc d' σ) H' v w := h.mono g.ke fun _ _ z => z
theorem Go.rpA {pu : Bool} {v : List V} {w : List W} (g : Go K Ex Oc pu σ d H d' H') (h : RpA K Ex (Ow Oc d σ) H v w) : RpA K Ex (Ow Oc d' σ) H' v w := h.mono g.ke fun _ _ z => z
theorem Go.refl {pu : Bool} (rs : RS K Ex Oc H d σ) : Go K Ex Oc pu σ d H d H := ⟨rs, fun _ _ e _ => e, .refl _, fun _ => ⟨fun _ _ e => e, rfl⟩⟩
theorem Go.trans {p q : Bool} (a : Go K Ex Oc p σ d H d' H') (b : Go K Ex Oc q σ d' H' d2 H2) : Go K Ex Oc (p && q) σ d H d2 H2 :=
  ⟨b.rs, fun x o e n => b.fr x o (a.fr x o e n) fun z => n (a.sim.mine.mp z), a.sim.trans b.sim, fun z => by
    rw [Bool.and_eq_true] at z
    obtain ⟨s1, e1⟩ := a.pur z.1
    obtain ⟨s2, e2⟩ := b.pur z.2
    exact ⟨fun x o e => s2 x o (s1 x o e), e2.trans e1⟩⟩
theorem Go.weak {p q : Bool} (a : Go K Ex Oc p σ d H d' H') (h : q = true → p = true := by intro z; first | exact z | (cases z)) : Go K Ex Oc q σ d H d' H' := ⟨a.rs, a.fr, a.sim, fun z => a.pur (h z)⟩
/-- all owned addresses are there -/
theorem RS.there (rs : RS K Ex Oc H d σ) {a : Addr} (h : Ow Oc d σ a) : ∃ o, H a = some o := by
  rcases h with h | ⟨i, s, w, h1, h2, h3⟩
  · exact rs.oc a h
  · obtain ⟨p, e, _, ob⟩ := rs.own i s w h1 h2
    rw [h3] at e; cases e
    exact ob.at
theorem RS.same (rs : RS K Ex Oc H d σ) (s : Same H H') : RS K Ex Oc H' d σ := by
  have ke : Ke (Ow Oc d σ) H (Ow Oc d σ) H' := fun a u n e => ⟨n, s a u e⟩
  refine ⟨rs.len, fun i w h => ?_, fun i t w h1 h2 => ?_, rs.sep, fun a h => ?_⟩
  · obtain ⟨v, e, r⟩ := rs.val i w h
    exact ⟨v, e, r.mono ke fun _ _ z => z⟩
  · obtain ⟨p, e, n, ob⟩ := rs.own i t w h1 h2
    obtain ⟨u, hu⟩ := ob.at
    exact ⟨p, e, n, ob.mono ke (fun _ _ z => z) ((s _ _ hu).trans hu.symm)⟩
  · obtain ⟨o, e⟩ := rs.oc a h
    exact ⟨o, s a o e⟩
/-- new objects alone -/
theorem Go.same {pu : Bool} (rs : RS K Ex Oc H d σ) (s : Same H H') : Go K Ex Oc pu σ d H d H' := ⟨rs.same s, fun a o e _ => s a o e, .refl _, fun _ => ⟨s, rfl⟩⟩
theorem GoS.ke (g : GoS K Ex Oc d σ H d' σ' H') : Ke (Ow Oc d σ) H (Ow Oc d' σ') H' := fun a u n e => by
  refine ⟨fun z => ?_, g.fr a u e fun z => n (.inr z)⟩
  rcases z with z | z
  · exact n (.inl z)
  · rcases g.mine a z with z | z
    · exact n (.inr z)
    · rw [e] at z; cases z
theorem GoS.refl (rs : RS K Ex Oc H d σ) : GoS K Ex Oc d σ H d σ H := ⟨rs, fun _ _ e _ => e, fun _ z => .inl z, fun i w e => ⟨⟨w, e⟩, rfl⟩⟩
theorem GoS.trans (a : GoS K Ex Oc d σ H d' σ' H') (b : GoS K Ex Oc d' σ' H' d2 σ2 H2) : GoS K Ex Oc d σ H d2 σ2 H2 where
  rs := b.rs
  fr := fun x o e n => b.fr x o (a.fr x o e n) fun z => by
    rcases a.mine x z with z | z
    · exact n z
    · rw [e] at z; cases z
  mine := fun x z => by
    rcases b.mine x z with z | z
    · exact a.mine x z
    · by_cases m : Mine d σ x
      · exact .inl m
      · refine .inr ?_
        cases q : H x with
        | none => rfl
        | some o => rw [a.fr x o q m] at z; cases z
  par := fun i w e => by
    obtain ⟨⟨w', e'⟩, s⟩ := a.par i w e
    obtain ⟨⟨w2, e2⟩, s2⟩ := b.par i w' e'
    exact ⟨⟨w2, e2⟩, s2.trans s⟩
theorem Go.toS {pu : Bool} (g : Go K Ex Oc pu σ d H d' H') : GoS K Ex Oc d σ H d' σ H' where
  rs := g.rs
  fr := g.fr
  mine := fun a z => .inl (g.sim.mine.mp z)
  par := fun i w e => by
    have h := g.sim.2 i
    rw [e] at h
    refine ⟨?_, rfl⟩
    generalize d'[i]? = x at h
    rcases x with _ | _ | (w' | w' | w') <;> simp_all [SlotLike]
end

/-! ### the readings -/
/-- what goes with a context: the caught errors that are at hand, the classes by number, what is wished of an error -/
structure Yx where
  Ex : Addr → Nat → Prop
  T : Nat → Value
  W : WX
def Po {α : Type} (X : Cx) (Y : Yx) (pu : Bool) (Oc : Addr → Prop) (σ : St) (d : SD) (H : Hp) (o : Out α) (k : α → SD → Hp → Prop) : Prop := match o with
  | .ok a d' => ∀ H', Go X.K Y.Ex Oc pu σ d H d' H' → k a d' H'
  | .exc c d' => ∀ H', Go X.K Y.Ex Oc false σ d H d' H' → Y.W (Y.T c) none σ H'
  | .bad => False
section
variable {X : Cx} {Y : Yx} {Oc : Addr → Prop} {σ : St} {d : SD} {H : Hp} {p q : Bool}
theorem Po.bind {α β : Type} {o : Out α} {f : α → SD → Out β} {k : β → SD → Hp → Prop} (h : Po X Y (p && q) Oc σ d H (o.bind f) k) : Po X Y p Oc σ d H o (fun a d1 H1 => Po X Y q Oc σ d1 H1 (f a d1) k) := by
  cases o with
  | ok a d1 =>
    intro H1 g1
    show Po X Y q Oc σ d1 H1 (f a d1) k
    have h : Po X Y (p && q) Oc σ d H (f a d1) k := h
    cases e : f a d1 with
    | ok b d2 => rw [e] at h; exact fun H2 g2 => h H2 (g1.trans g2)
    | exc c d2 => rw [e] at h; exact fun H2 g2 => h H2 (g1.trans g2).weak
    | bad => rw [e] at h; exact h
  | exc c d1 => exact h
  | bad => exact h
theorem Po.imp {α : Type} {o : Out α} {k k' : α → SD → Hp → Prop} (h : Po X Y p Oc σ d H o k) (f : ∀ a d' H', Go X.K Y.Ex Oc p σ d H d' H' → k a d' H' → k' a d' H') : Po X Y p Oc σ d H o k' := by
  cases o with
  | ok a d1 => exact fun H1 g1 => f _ _ _ g1 (h H1 g1)
  | exc c d1 => exact h
  | bad => exact h
theorem Po.opt {α : Type} {o : Option α} {k : α → SD → Hp → Prop} (h : Po X Y p Oc σ d H (ofOpt o d) k) : ∃ a, o = some a ∧ ∀ H', Go X.K Y.Ex Oc p σ d H d H' → k a d H' := by
  cases o with
  | none => exact h.elim
  | some a => exact ⟨a, rfl, h⟩
theorem Po.weak {α : Type} {o : Out α} {k : α → SD → Hp → Prop} (h : Po X Y q Oc σ d H o k) (w : q = true → p = true) : Po X Y p Oc σ d H o k := by
  cases o with
  | ok a d1 => exact fun H1 g1 => h H1 (g1.weak w)
  | exc c d1 => exact h
  | bad => exact h
/-- one step alone, that makes new objects at most -/
theorem Po.bind1 {α β : Type} {o : Out α} {f : α → SD → Out β} {k : β → SD → Hp → Prop} (h : Po X Y p Oc σ d H (o.bind f) k) : Po X Y p Oc σ d H o (fun a d1 H1 => Po X Y true Oc σ d1 H1 (f a d1) k) := by
  have h : Po X Y (p && true) Oc σ d H (o.bind f) k := by rw [Bool.and_true]; exact h
  exact Po.bind h
theorem Po.bindF {α β : Type} {o : Out α} {f : α → SD → Out β} {k : β → SD → Hp → Prop} (h : Po X Y false Oc σ d H (o.bind f) k) : Po X Y p Oc σ d H o (fun a d1 H1 => Po X Y false Oc σ d1 H1 (f a d1) k) := by
  have h : Po X Y (p && false) Oc σ d H (o.bind f) k := by rw [Bool.and_false]; exact h
  exact Po.bind h
/-- a first step that makes new objects at most -/
theorem Po.bind0 {α β : Type} {o : Out α} {f : α → SD → Out β} {k : β → SD → Hp → Prop} (h : Po X Y q Oc σ d H (o.bind f) k) : Po X Y true Oc σ d H o (fun a d1 H1 => Po X Y q Oc σ d1 H1 (f a d1) k) := by
  have h : Po X Y (true && q) Oc σ d H (o.bind f) k := by rw [Bool.true_and]; exact h
  exact Po.bind h
end
def tE (X : Cx) (Y : Yx) (pu : Bool) (m : M W) : TE := fun σ H Q => ∃ Oc d, RS X.K Y.Ex Oc H d σ ∧ Po X Y pu Oc σ d H (m d) fun w d' H' => ∀ v, Rp X.K Y.Ex (Ow Oc d' σ) H' v w → Q v H'
def tT (X : Cx) (Y : Yx) (pu : Bool) (m : M Bool) : TT := fun σ H Q => ∃ Oc d, RS X.K Y.Ex Oc H d σ ∧ Po X Y pu Oc σ d H (m d) fun b d' H' => RS X.K Y.Ex Oc H' d' σ → Q b H'
def tL (X : Cx) (Y : Yx) (pu : Bool) (m : M (List W)) : TA := fun σ H Q => ∃ Oc d, RS X.K Y.Ex Oc H d σ ∧ Po X Y pu Oc σ d H (m d) fun w d' H' => ∀ v, RpA X.K Y.Ex (Ow Oc d' σ) H' v w → Q v H'
structure DE (X : Cx) (Y : Yx) (pu : Bool) (e : Expr) (m : M W) : Prop where
  pe : PE X e (tE X Y pu m)
structure DT (X : Cx) (Y : Yx) (pu : Bool) (e : Expr) (m : M Bool) : Prop where
  pt : PT X e (tT X Y pu m)
structure DL (X : Cx) (Y : Yx) (pu : Bool) (es : List Expr) (m : M (List W)) : Prop where
  pa : PA X es (tL X Y pu m)
theorem pe_weak {X : Cx} {e : Expr} {t t' : TE} (h : PE X e t) (w : ∀ σ H Q, t' σ H Q → t σ H Q) : PE X e t' := ⟨fun pins s σ H Q I q => h.run pins s σ H Q I (w σ H Q q)⟩
theorem pt_weak {X : Cx} {e : Expr} {t t' : TT} (h : PT X e t) (w : ∀ σ H Q, t' σ H Q → t σ H Q) : PT X e t' := ⟨fun pins s σ H Q I q => h.run pins s σ H Q I (w σ H Q q)⟩
theorem pw_weak {X : Cx} {e : Expr} {t t' : TT} (h : PW X e t) (w : ∀ σ H Q, t' σ H Q → t σ H Q) : PW X e t' := ⟨fun wh pins s σ H Q I q => h.run wh pins s σ H Q I (w σ H Q q)⟩
theorem pa_weak {X : Cx} {e : List Expr} {t t' : TA} (h : PA X e t) (w : ∀ σ H Q, t' σ H Q → t σ H Q) : PA X e t' := ⟨fun pos pins s σ H Q I q => h.run pos pins s σ H Q I (w σ H Q q)⟩

/-! ### names and constants -/
section
variable {X : Cx} {Y : Yx}
def mVar (i : Nat) : M W := fun d => match d[i]? with
  | some (some (.val w)) => .ok w d
  | _ => .bad
def mC (w : W) : M W := fun d => .ok w d
theorem d_var (i : Nat) {x : Str} {pos : Pos} (hN : X.N[i]? = some x := by rfl) (hv : Vis X.env.scope x := by first | exact Or.inl rfl | exact Or.inr (Or.inl rfl) | exact Or.inr (Or.inr rfl)) (hd : (x == ("__debug__" : Str)) = false := by decide)
    (hcd : (x == ("__classdict__" : Str)) = false := by decide) : DE X Y true (.Name x pos) (mVar i) := ⟨by
  refine pe_weak (pe_var hN hv hd hcd) fun σ H Q h => ?_
  obtain ⟨Oc, d, rs, h⟩ := h
  unfold mVar at h
  split at h
  · rename_i w e
    obtain ⟨v, ev, r⟩ := rs.val i w e
    exact ⟨v, ev, h H (.refl rs) v r⟩
  · exact h.elim⟩
/-- a constant value -/
def atom : W → V → Prop
  | .none, v => v = .non
  | .bool b, v => v = .bl b
  | .int i, v => v = .int i
  | .str x, v => v = .str x
  | _, _ => False
theorem rp_atom {K : PySem.W.Frag} {Ex : Addr → Nat → Prop} {O : Addr → Prop} {H : Hp} {w : W} {v : V} (h : atom w v) : Rp K Ex O H v w := by
  cases w with
  | none => cases h; exact .non
  | bool b => cases h; exact .bl b
  | int i => cases h; exact .int i
  | str s => cases h; exact .str s
  | list _ => exact h.elim
  | tuple _ => exact h.elim
  | dict _ => exact h.elim
theorem d_const {e : Expr} {v : V} {w : W} (h : PE X e (tC v)) (a : atom w v) : DE X Y true e (mC w) := ⟨by
  refine pe_weak h fun σ H Q h => ?_
  obtain ⟨Oc, d, rs, h⟩ := h
  exact h H (.refl rs) v (rp_atom a)⟩
theorem d_int {i : Int} {j : Nat} {pos : Pos} : DE X Y true (.Constant (.int i) j pos) (mC (.int i)) := d_const pe_int rfl
theorem d_bl {i : Bool} {j : Nat} {pos : Pos} : DE X Y true (.Constant (.bool i) j pos) (mC (.bool i)) := d_const pe_bl rfl
theorem d_non {j : Nat} {pos : Pos} : DE X Y true (.Constant .none j pos) (mC .none) := d_const pe_non rfl
theorem d_str {i : Str} {j : Nat} {pos : Pos} : DE X Y true (.Constant (.str i) j pos) (mC (.str i)) := d_const pe_str rfl
/-- a module's constant -/
theorem d_glob {x : Str} {v : V} {w : W} {u : Value} {pos : Pos} (hm : X.mg x = some u) (r : RelV v u) (a : atom w v) (hg : Gl X x := by rfl) (hd : (x == ("__debug__" : Str)) = false := by decide) : DE X Y true (.Name x pos) (mC w) := d_const (pe_glob hg hm r hd) a
end

/-! ### operators on values -/
section
variable {X : Cx} {Y : Yx}
/-- a rule on two values by their data -/
def OpD (X : Cx) (f : Value → Value → Sem Value) (g : W → W → Option W) : Prop :=
  ∃ r, OpR X f r ∧ ∀ (Ex : Addr → Nat → Prop) (O : Addr → Prop) (H : Hp) (x y : V) (a b c : W) (Q : VK), (∀ p, O p → ∃ o, H p = some o) → g a b = some c → Rp X.K Ex O H x a → Rp X.K Ex O H y b →
    (∀ H' v, Same H H' → Rp X.K Ex O H' v c → Q v H') → r x y H Q
def UnD (X : Cx) (f : Value → Sem Value) (g : W → Option W) : Prop :=
  ∃ r, UnR X f r ∧ ∀ (Ex : Addr → Nat → Prop) (O : Addr → Prop) (H : Hp) (x : V) (a c : W) (Q : VK), (∀ p, O p → ∃ o, H p = some o) → g a = some c → Rp X.K Ex O H x a →
    (∀ H' v, Same H H' → Rp X.K Ex O H' v c → Q v H') → r x H Q
def CallD (X : Cx) (f : Value) (g : List W → Option W) : Prop :=
  ∃ r, CallR X f r ∧ ∀ (Ex : Addr → Nat → Prop) (O : Addr → Prop) (H : Hp) (xs : List V) (as : List W) (c : W) (Q : VK), (∀ p, O p → ∃ o, H p = some o) → g as = some c → RpA X.K Ex O H xs as →
    (∀ H' v, Same H H' → Rp X.K Ex O H' v c → Q v H') → r xs H Q
def mBin (g : W → W → Option W) (a b : M W) : M W := fun d => (a d).bind fun x d1 => (b d1).bind fun y d2 => ofOpt (g x y) d2
def mUn (g : W → Option W) (a : M W) : M W := fun d => (a d).bind fun x d1 => ofOpt (g x) d1
def mNil : M (List W) := fun d => .ok [] d
def mCons (a : M W) (r : M (List W)) : M (List W) := fun d => (a d).bind fun x d1 => (r d1).bind fun xs d2 => .ok (x :: xs) d2
def mCallB (g : List W → Option W) (as : M (List W)) : M W := fun d => (as d).bind fun xs d1 => ofOpt (g xs) d1
theorem t_bin {pa pb : Bool} {f : Value → Value → Sem Value} {r : R2} {g : W → W → Option W} {ma mb : M W} (ho : ∀ (Ex : Addr → Nat → Prop) (O : Addr → Prop) (H : Hp) (x y : V) (a b c : W) (Q : VK), (∀ p, O p → ∃ o, H p = some o) → g a b = some c → Rp X.K Ex O H x a → Rp X.K Ex O H y b →
    (∀ H' v, Same H H' → Rp X.K Ex O H' v c → Q v H') → r x y H Q) (σ : St) (H : Hp) (Q : VK) (h : tE X Y (pa && pb) (mBin g ma mb) σ H Q) : tOp r (tE X Y pa ma) (tE X Y pb mb) σ H Q := by
  obtain ⟨Oc, d, rs, h⟩ := h
  refine ⟨Oc, d, rs, (Po.bind h).imp fun w d1 H1 g1 h1 v r1 => ⟨Oc, d1, g1.rs, (Po.bind1 h1).imp fun w2 d2 H2 g2 h2 v2 r2 => ?_⟩⟩
  obtain ⟨c, ec, k⟩ := Po.opt h2
  exact ho Y.Ex (Ow Oc d2 σ) H2 v v2 w w2 c Q (fun p hp => g2.rs.there hp) ec (g2.rp r1) r2 fun H' v' s r' => k H' (.same g2.rs s) v' r'
theorem d_op {pa pb : Bool} {op : Operator} {g : W → W → Option W} {a b : Expr} {pos : Pos} {ma mb : M W} (ho : OpD X (binaryOp op) g) (ha : DE X Y pa a ma) (hb : DE X Y pb b mb) : DE X Y (pa && pb) (.BinOp a op b pos) (mBin g ma mb) :=
  let ⟨_, hr, hd⟩ := ho
  ⟨pe_weak (pe_op hr ha.pe hb.pe) (t_bin (f := binaryOp op) hd)⟩
theorem d_cmp {pa pb : Bool} {op : CmpOp} {g : W → W → Option W} {a b : Expr} {pos : Pos} {ma mb : M W} (ho : OpD X (compareOp op) g) (ha : DE X Y pa a ma) (hb : DE X Y pb b mb) (hm : behindInMarks op b = false := by first | exact nomark _ | rfl) : DE X Y (pa && pb) (.Compare a [op] [b] pos) (mBin g ma mb) :=
  let ⟨_, hr, hd⟩ := ho
  ⟨pe_weak (pe_cmpR hr ha.pe hb.pe hm) (t_bin (f := compareOp op) hd)⟩
theorem d_un {pa : Bool} {op : UnaryOp} {g : W → Option W} {a : Expr} {pos : Pos} {ma : M W} (ho : UnD X (unaryOp op) g) (ha : DE X Y pa a ma) : DE X Y pa (.UnaryOp op a pos) (mUn g ma) := by
  obtain ⟨r, hr, hd⟩ := ho
  refine ⟨pe_weak (pe_un hr ha.pe) fun σ H Q h => ?_⟩
  obtain ⟨Oc, d, rs, h⟩ := h
  refine ⟨Oc, d, rs, (Po.bind1 h).imp fun w d1 H1 g1 h1 v r1 => ?_⟩
  obtain ⟨c, ec, k⟩ := Po.opt h1
  exact hd Y.Ex (Ow Oc d1 σ) H1 v w c Q (fun p hp => g1.rs.there hp) ec r1 fun H' v' s r' => k H' (.same g1.rs s) v' r'
theorem d_nil : DL X Y true [] mNil := ⟨by
  refine pa_weak pa_nil fun σ H Q h => ?_
  obtain ⟨Oc, d, rs, h⟩ := h
  exact h H (.refl rs) [] .nil⟩
theorem d_cons {pa pb : Bool} {e : Expr} {es : List Expr} {a : M W} {r : M (List W)} (ha : DE X Y pa e a) (hr : DL X Y pb es r) (hs : starEach (e :: es) X.env = (false, eval e X.env) :: starEach es X.env := by rfl) : DL X Y (pa && pb) (e :: es) (mCons a r) := ⟨by
  refine pa_weak (pa_cons ha.pe hr.pa hs) fun σ H Q h => ?_
  obtain ⟨Oc, d, rs, h⟩ := h
  refine ⟨Oc, d, rs, (Po.bind h).imp fun w d1 H1 g1 h1 v r1 => ⟨Oc, d1, g1.rs, (Po.bind1 h1).imp fun w2 d2 H2 g2 h2 v2 r2 => ?_⟩⟩
  exact h2 H2 (.refl g2.rs) (v :: v2) (.cons (g2.rp r1) r2)⟩
theorem t_callB {pu : Bool} {f : Value} {r : List V → Hp → VK → Prop} {g : List W → Option W} {as : M (List W)} (hd : ∀ (Ex : Addr → Nat → Prop) (O : Addr → Prop) (H : Hp) (xs : List V) (as : List W) (c : W) (Q : VK), (∀ p, O p → ∃ o, H p = some o) → g as = some c → RpA X.K Ex O H xs as →
    (∀ H' v, Same H H' → Rp X.K Ex O H' v c → Q v H') → r xs H Q) (σ : St) (H : Hp) (Q : VK) (h : tE X Y pu (mCallB g as) σ H Q) : tCB r (tL X Y pu as) σ H Q := by
  obtain ⟨Oc, d, rs, h⟩ := h
  refine ⟨Oc, d, rs, (Po.bind1 h).imp fun w d1 H1 g1 h1 v r1 => ?_⟩
  obtain ⟨c, ec, k⟩ := Po.opt h1
  exact hd Y.Ex (Ow Oc d1 σ) H1 v w c Q (fun p hp => g1.rs.there hp) ec r1 fun H' v' s r' => k H' (.same g1.rs s) v' r'
theorem d_callB {pu : Bool} {x : Str} {p pos : Pos} {e : Expr} {es : List Expr} {id : String} {g : List W → Option W} {as : M (List W)} (hc : CallD X (.builtin id) g) (hm : X.mg x = none) (hv : bootBuiltins x = some (.builtin id)) (ha : DL X Y pu (e :: es) as) (hg : Gl X x := by rfl) (hn : x ≠ "__name__" := by decide) (hdb : (x == ("__debug__" : Str)) = false := by decide)
    (he : starEach (e :: es) X.env = (false, eval e X.env) :: starEach es X.env := by rfl) (hpl : (backTo pos (starEach es X.env)).any (·.1) = false := by rfl) : DE X Y pu (.Call (.Name x p) (e :: es) [] pos) (mCallB g as) :=
  let ⟨_, hr, hd⟩ := hc
  ⟨pe_weak (pe_callB hr hg hm hv ha.pa hn hdb he hpl) (t_callB (f := .builtin id) hd)⟩
theorem d_callTy {pu : Bool} {x : Str} {p pos : Pos} {e : Expr} {es : List Expr} {id : String} {g : List W → Option W} {as : M (List W)} (hc : CallD X (.type id) g) (hm : X.mg x = none) (hv : bootBuiltins x = some (.type id)) (ha : DL X Y pu (e :: es) as) (hg : Gl X x := by rfl) (hn : x ≠ "__name__" := by decide) (hdb : (x == ("__debug__" : Str)) = false := by decide)
    (he : starEach (e :: es) X.env = (false, eval e X.env) :: starEach es X.env := by rfl) (hpl : (backTo pos (starEach es X.env)).any (·.1) = false := by rfl) : DE X Y pu (.Call (.Name x p) (e :: es) [] pos) (mCallB g as) :=
  let ⟨_, hr, hd⟩ := hc
  ⟨pe_weak (pe_callTy hr hg hm hv ha.pa hn hdb he hpl) (t_callB (f := .type id) hd)⟩
end
end Qd
end
section
set_option Elab.async false
set_option linter.all false
set_option maxRecDepth 100000
/-! Tests, statements, loops by their data. -/
namespace Qd
open PySem PySem.Spec PyProof.Rows L2

/-! ### tests -/
section
variable {X : Cx} {Y : Yx}
structure DW (X : Cx) (Y : Yx) (pu : Bool) (e : Expr) (m : M Bool) : Prop where
  pw : PW X e (tT X Y pu m)
theorem DW.dt {pu : Bool} {e : Expr} {m : M Bool} (h : DW X Y pu e m) : DT X Y pu e m := ⟨h.pw.pt⟩
def mAndT (a b : M Bool) : M Bool := fun d => (a d).bind fun x d1 => if x = true then b d1 else .ok false d1
def mOrT (a b : M Bool) : M Bool := fun d => (a d).bind fun x d1 => if x = true then .ok true d1 else b d1
def mNotT (a : M Bool) : M Bool := fun d => (a d).bind fun x d1 => .ok (!x) d1
theorem dw_and1 {pa : Bool} {a : Expr} {pos : Pos} {t : M Bool} (ha : DT X Y pa a t) : DW X Y pa (.BoolOp .And [a] pos) t := ⟨pw_and1 ha.pt⟩
theorem dw_or1 {pa : Bool} {a : Expr} {pos : Pos} {t : M Bool} (ha : DT X Y pa a t) : DW X Y pa (.BoolOp .Or [a] pos) t := ⟨pw_or1 ha.pt⟩
theorem dw_and {pa pb : Bool} {a b : Expr} {rest : List Expr} {pos : Pos} {t u : M Bool} (ha : DT X Y pa a t) (hb : DW X Y pb (.BoolOp .And (b :: rest) pos) u) : DW X Y (pa && pb) (.BoolOp .And (a :: b :: rest) pos) (mAndT t u) := ⟨by
  refine pw_weak (pw_and ha.pt hb.pw) fun σ H Q h => ?_
  obtain ⟨Oc, d, rs, h⟩ := h
  refine ⟨Oc, d, rs, (Po.bind h).imp fun c d1 H1 g1 h1 rs1 => ?_⟩
  cases c with
  | true => exact iteT ⟨Oc, d1, rs1, h1⟩
  | false => exact iteF (h1 H1 (.refl rs1) rs1)⟩
theorem dw_or {pa pb : Bool} {a b : Expr} {rest : List Expr} {pos : Pos} {t u : M Bool} (ha : DT X Y pa a t) (hb : DW X Y pb (.BoolOp .Or (b :: rest) pos) u) : DW X Y (pa && pb) (.BoolOp .Or (a :: b :: rest) pos) (mOrT t u) := ⟨by
  refine pw_weak (pw_or ha.pt hb.pw) fun σ H Q h => ?_
  obtain ⟨Oc, d, rs, h⟩ := h
  refine ⟨Oc, d, rs, (Po.bind h).imp fun c d1 H1 g1 h1 rs1 => ?_⟩
  cases c with
  | true => exact iteT (h1 H1 (.refl rs1) rs1)
  | false => exact iteF ⟨Oc, d1, rs1, h1⟩⟩
theorem dt_not {pa : Bool} {a : Expr} {pos : Pos} {t : M Bool} (ha : DT X Y pa a t) : DT X Y pa (.UnaryOp .Not a pos) (mNotT t) := ⟨by
  refine pt_weak (pt_not ha.pt) fun σ H Q h => ?_
  obtain ⟨Oc, d, rs, h⟩ := h
  exact ⟨Oc, d, rs, (Po.bind1 h).imp fun c d1 H1 g1 h1 rs1 => h1 H1 (.refl rs1) rs1⟩⟩
/-- a comparison as a test -/
def mTest (a : M W) : M Bool := fun d => (a d).bind fun x d1 => match x with
  | .bool b => .ok b d1
  | _ => .bad
theorem tTest_of {pu : Bool} {t : TE} {m : M W} {σ : St} {H : Hp} {Q : Bool → Hp → Prop} (w : ∀ Q, tE X Y pu m σ H Q → t σ H Q) (h : tT X Y pu (mTest m) σ H Q) : tTest t σ H Q := by
  obtain ⟨Oc, d, rs, h⟩ := h
  refine w _ ⟨Oc, d, rs, (Po.bind1 h).imp fun x d1 H1 g1 h1 v r => ?_⟩
  cases x with
  | bool b => cases r; exact ⟨b, rfl, h1 H1 (.refl g1.rs) g1.rs⟩
  | none => exact h1.elim
  | int i => exact h1.elim
  | str s => exact h1.elim
  | tuple t => exact h1.elim
  | list l => exact h1.elim
  | dict l => exact h1.elim
theorem dt_cmp {pa pb : Bool} {op : CmpOp} {g : W → W → Option W} {a b : Expr} {pos : Pos} {ma mb : M W} (ho : OpD X (compareOp op) g) (ha : DE X Y pa a ma) (hb : DE X Y pb b mb) (hm : behindInMarks op b = false := by first | exact nomark _ | rfl) : DT X Y (pa && pb) (.Compare a [op] [b] pos) (mTest (mBin g ma mb)) := by
  obtain ⟨r, hr, hd⟩ := ho
  exact ⟨pt_weak (pt_cmpR hr ha.pe hb.pe hm) fun σ H Q h => tTest_of (fun Q q => t_bin (f := compareOp op) hd σ H Q q) h⟩
/-- a < b < c -/
def mChain (g g' : W → W → Option W) (a b c : M W) : M W := fun d => (a d).bind fun x d1 => (b d1).bind fun y d2 => (ofOpt (g x y) d2).bind fun z d3 => match z with
  | .bool true => (c d3).bind fun u d4 => ofOpt (g' y u) d4
  | .bool false => .ok (.bool false) d3
  | _ => .bad
theorem t_chain {pa pb pc : Bool} {op op' : CmpOp} {r r' : R2} {g g' : W → W → Option W} {ma mb mc : M W} (h1 : ∀ (Ex : Addr → Nat → Prop) (O : Addr → Prop) (H : Hp) (x y : V) (a b c : W) (Q : VK), (∀ p, O p → ∃ o, H p = some o) → g a b = some c → Rp X.K Ex O H x a → Rp X.K Ex O H y b →
    (∀ H' v, Same H H' → Rp X.K Ex O H' v c → Q v H') → r x y H Q) (h2 : ∀ (Ex : Addr → Nat → Prop) (O : Addr → Prop) (H : Hp) (x y : V) (a b c : W) (Q : VK), (∀ p, O p → ∃ o, H p = some o) → g' a b = some c → Rp X.K Ex O H x a → Rp X.K Ex O H y b →
    (∀ H' v, Same H H' → Rp X.K Ex O H' v c → Q v H') → r' x y H Q) (σ : St) (H : Hp) (Q : VK) (h : tE X Y (pa && (pb && pc)) (mChain g g' ma mb mc) σ H Q) : tChain r r' (tE X Y pa ma) (tE X Y pb mb) (tE X Y pc mc) σ H Q := by
  obtain ⟨Oc, d, rs, h⟩ := h
  refine ⟨Oc, d, rs, (Po.bind h).imp fun x d1 H1 g1 q1 v1 r1 => ⟨Oc, d1, g1.rs, (Po.bind q1).imp fun y d2 H2 g2 q2 v2 r2 => ?_⟩⟩
  obtain ⟨z, ez, k⟩ := Po.opt (Po.bind0 q2)
  refine h1 Y.Ex (Ow Oc d2 σ) H2 v1 v2 x y z _ (fun p hp => g2.rs.there hp) ez (g2.rp r1) r2 fun H3 v3 s3 r3 => ?_
  have g3 : Go X.K Y.Ex Oc true σ d2 H2 d2 H3 := .same g2.rs s3
  have k3 := k H3 g3
  cases z with
  | bool b =>
    cases r3
    cases b with
    | true =>
      refine ⟨true, rfl, ?_⟩
      rw [if_pos rfl]
      refine ⟨Oc, d2, g3.rs, (Po.bind1 k3).imp fun u d4 H4 g4 q4 v4 r4 => ?_⟩
      obtain ⟨c, ec, k5⟩ := Po.opt q4
      exact h2 Y.Ex (Ow Oc d4 σ) H4 v2 v4 y u c Q (fun p hp => g4.rs.there hp) ec (g4.rp (g3.rp r2)) r4 fun H5 v5 s5 r5 => k5 H5 (.same g4.rs s5) v5 r5
    | false =>
      refine ⟨false, rfl, ?_⟩
      rw [if_neg Bool.false_ne_true]
      exact k3 H3 (.refl g3.rs) (.bl false) (.bl false)
  | none => exact k3.elim
  | int i => exact k3.elim
  | str s => exact k3.elim
  | tuple t => exact k3.elim
  | list l => exact k3.elim
  | dict l => exact k3.elim
theorem d_chain {pa pb pc : Bool} {op op' : CmpOp} {g g' : W → W → Option W} {a b c : Expr} {pos : Pos} {ma mb mc : M W} (ho : OpD X (compareOp op) g) (ho' : OpD X (compareOp op') g') (ha : DE X Y pa a ma) (hb : DE X Y pb b mb) (hc : DE X Y pc c mc)
    (hm : lastMarks [op, op'] [b, c] = false := by rfl) : DE X Y (pa && (pb && pc)) (.Compare a [op, op'] [b, c] pos) (mChain g g' ma mb mc) :=
  let ⟨_, hr, hd⟩ := ho
  let ⟨_, hr', hd'⟩ := ho'
  ⟨pe_weak (pe_chain hr hr' ha.pe hb.pe hc.pe hm) (t_chain (op := op) (op' := op') hd hd')⟩
theorem dt_chain {pa pb pc : Bool} {op op' : CmpOp} {g g' : W → W → Option W} {a b c : Expr} {pos : Pos} {ma mb mc : M W} (ho : OpD X (compareOp op) g) (ho' : OpD X (compareOp op') g') (ha : DE X Y pa a ma) (hb : DE X Y pb b mb) (hc : DE X Y pc c mc)
    (hm : lastMarks [op, op'] [b, c] = false := by rfl) : DT X Y (pa && (pb && pc)) (.Compare a [op, op'] [b, c] pos) (mTest (mChain g g' ma mb mc)) := by
  obtain ⟨r, hr, hd⟩ := ho
  obtain ⟨r', hr', hd'⟩ := ho'
  exact ⟨pt_weak (pt_chain hr hr' ha.pe hb.pe hc.pe hm) fun σ H Q h => tTest_of (fun Q q => t_chain (op := op) (op' := op') hd hd' σ H Q q) h⟩
/-- the truth of a value -/
def truth : W → Option Bool
  | .none => some false
  | .bool b => some b
  | .int i => some (i != 0)
  | .str x => if x.length ≤ sizeLine then some ((x.length : Int) != 0) else none
  | .list ds => some (!ds.isEmpty)
  | .tuple ds => some (!ds.isEmpty)
  | .dict _ => none
def mTruth (a : M W) : M Bool := fun d => (a d).bind fun x d1 => ofOpt (truth x) d1
theorem RpA.empty {K : PySem.W.Frag} {Ex : Addr → Nat → Prop} {O : Addr → Prop} {H : Hp} {vs : List V} {ws : List W} (h : RpA K Ex O H vs ws) : vs.isEmpty = ws.isEmpty := by cases h <;> rfl
theorem tru_of {K : PySem.W.Frag} {Ex : Addr → Nat → Prop} {O : Addr → Prop} {H : Hp} {v : V} {w : W} {b : Bool} (r : Rp K Ex O H v w) (h : truth w = some b) : TruV K v H b := by
  cases r with
  | non => cases h; rfl
  | bl b => cases h; rfl
  | int i => cases h; rfl
  | str x =>
    have h : (if x.length ≤ sizeLine then some ((x.length : Int) != 0) else none) = some b := h
    by_cases z : x.length ≤ sizeLine
    · rw [if_pos z] at h
      cases h; exact ⟨z, rfl⟩
    · rw [if_neg z] at h
      cases h
  | lst l r => cases h; exact .inl ⟨_, l.sq, by rw [r.empty]⟩
  | tup l r => cases h; exact .inr (.inl ⟨_, l.sq, by rw [r.empty]⟩)
  | dK _ _ _ => cases h
  | dT _ _ _ => cases h
  | exc _ => cases h
theorem dt_val {pa : Bool} {a : Expr} {m : M W} (ha : DE X Y pa a m) (he : ∀ whole, isTrue a X.env whole = (do let v ← whole; standAt a.pos; holding [v] (truthy v)) := by intro _; rfl) : DT X Y pa a (mTruth m) := ⟨by
  refine pt_weak (pt_truth ha.pe he) fun σ H Q h => ?_
  obtain ⟨Oc, d, rs, h⟩ := h
  refine ⟨Oc, d, rs, (Po.bind1 h).imp fun x d1 H1 g1 h1 v r => ?_⟩
  obtain ⟨b, eb, k⟩ := Po.opt h1
  exact ⟨b, tru_of r eb, k H1 (.refl g1.rs) g1.rs⟩⟩
/-! values of and, or, not, if .. else -/
def mBoolV (a : M Bool) : M W := fun d => (a d).bind fun b d1 => .ok (.bool b) d1
def mIfE (t : M Bool) (a b : M W) : M W := fun d => (t d).bind fun c d1 => if c = true then a d1 else b d1
theorem d_ifE {pt pa pb : Bool} {c a b : Expr} {pos : Pos} {t : M Bool} {ma mb : M W} (hc : DT X Y pt c t) (ha : DE X Y pa a ma) (hb : DE X Y pb b mb) : DE X Y (pt && (pa && pb)) (.IfExp c a b pos) (mIfE t ma mb) := ⟨by
  refine pe_weak (pe_ifExp hc.pt ha.pe hb.pe) fun σ H Q h => ?_
  obtain ⟨Oc, d, rs, h⟩ := h
  refine ⟨Oc, d, rs, (Po.bind h).imp fun c d1 H1 g1 h1 rs1 => ?_⟩
  cases c with
  | true => exact iteT ⟨Oc, d1, rs1, Po.weak h1 fun z => (Bool.and_eq_true _ _ ▸ z).1⟩
  | false => exact iteF ⟨Oc, d1, rs1, Po.weak h1 fun z => (Bool.and_eq_true _ _ ▸ z).2⟩⟩
def asB (x : W) : Option Bool := match x with
  | .bool b => some b
  | _ => none
/-- and, or between truth values -/
def mAndV (a b : M W) : M W := fun d => (a d).bind fun x d1 => (ofOpt (asB x) d1).bind fun k d2 => if k = true then b d2 else .ok (.bool false) d2
def mOrV (a b : M W) : M W := fun d => (a d).bind fun x d1 => (ofOpt (asB x) d1).bind fun k d2 => if k = true then .ok (.bool true) d2 else b d2
def mNotV (a : M W) : M W := fun d => (a d).bind fun x d1 => (ofOpt (asB x) d1).bind fun k d2 => .ok (.bool (!k)) d2
theorem rp_asB {K : PySem.W.Frag} {Ex : Addr → Nat → Prop} {O : Addr → Prop} {H : Hp} {v : V} {w : W} {b : Bool} (r : Rp K Ex O H v w) (h : asB w = some b) : v = .bl b := by
  cases r <;> cases h
  rfl
theorem d_one {pa : Bool} {op : BoolOp} {a : Expr} {pos : Pos} {m : M W} (h : DE X Y pa a m) : DE X Y pa (.BoolOp op [a] pos) m := ⟨pe_one h.pe⟩
theorem d_and {pa pb : Bool} {a b : Expr} {rest : List Expr} {pos : Pos} {ma mb : M W} (ha : DE X Y pa a ma) (hb : DE X Y pb (.BoolOp .And (b :: rest) pos) mb) : DE X Y (pa && pb) (.BoolOp .And (a :: b :: rest) pos) (mAndV ma mb) := ⟨by
  refine pe_weak (pe_and ha.pe hb.pe) fun σ H Q h => ?_
  obtain ⟨Oc, d, rs, h⟩ := h
  refine ⟨Oc, d, rs, (Po.bind h).imp fun x d1 H1 g1 h1 v r => ?_⟩
  obtain ⟨c, ec, k⟩ := Po.opt (Po.bind0 h1)
  refine ⟨c, rp_asB r ec, ?_⟩
  have k := k H1 (.refl g1.rs)
  cases c with
  | true => exact iteT ⟨Oc, d1, g1.rs, k⟩
  | false => exact iteF (k H1 (.refl g1.rs) (.bl false) (.bl false))⟩
theorem d_or {pa pb : Bool} {a b : Expr} {rest : List Expr} {pos : Pos} {ma mb : M W} (ha : DE X Y pa a ma) (hb : DE X Y pb (.BoolOp .Or (b :: rest) pos) mb) : DE X Y (pa && pb) (.BoolOp .Or (a :: b :: rest) pos) (mOrV ma mb) := ⟨by
  refine pe_weak (pe_or ha.pe hb.pe) fun σ H Q h => ?_
  obtain ⟨Oc, d, rs, h⟩ := h
  refine ⟨Oc, d, rs, (Po.bind h).imp fun x d1 H1 g1 h1 v r => ?_⟩
  obtain ⟨c, ec, k⟩ := Po.opt (Po.bind0 h1)
  refine ⟨c, rp_asB r ec, ?_⟩
  have k := k H1 (.refl g1.rs)
  cases c with
  | true => exact iteT (k H1 (.refl g1.rs) (.bl true) (.bl true))
  | false => exact iteF ⟨Oc, d1, g1.rs, k⟩⟩
theorem d_not {pa : Bool} {a : Expr} {pos : Pos} {ma : M W} (ha : DE X Y pa a ma) : DE X Y pa (.UnaryOp .Not a pos) (mNotV ma) := ⟨by
  refine pe_weak (pe_not ha.pe) fun σ H Q h => ?_
  obtain ⟨Oc, d, rs, h⟩ := h
  refine ⟨Oc, d, rs, (Po.bind1 h).imp fun x d1 H1 g1 h1 v r => ?_⟩
  obtain ⟨c, ec, k⟩ := Po.opt (Po.bind1 h1)
  exact ⟨c, rp_asB r ec, k H1 (.refl g1.rs) H1 (.refl g1.rs) (.bl (!c)) (.bl (!c))⟩⟩
end

/-! ### what a name is given -/
def store (i : Nat) (w : W) (d : SD) : Option SD := match d[i]? with
  | some (some (.par _)) => none
  | some _ => some (d.set i (some (.val w)))
  | none => none
section
variable {K : PySem.W.Frag} {Ex : Addr → Nat → Prop} {Oc : Addr → Prop} {σ : St} {d d' : SD} {H : Hp}
theorem store_lt {i : Nat} {w : W} (h : store i w d = some d') : i < d.length ∧ d' = d.set i (some (.val w)) ∧ ∀ u, d[i]? ≠ some (some (.par u)) := by
  unfold store at h
  cases q : d[i]? with
  | none => rw [q] at h; cases h
  | some x =>
    obtain ⟨lt, _⟩ := List.getElem?_eq_some_iff.mp q
    rw [q] at h
    rcases x with _ | (w' | w' | w')
    · exact ⟨lt, (Option.some.inj h).symm, fun u e => nomatch e⟩
    · exact ⟨lt, (Option.some.inj h).symm, fun u e => nomatch e⟩
    · exact ⟨lt, (Option.some.inj h).symm, fun u e => nomatch e⟩
    · cases h
/-- a slot is set to s (with σ's to v), the rest stands -/
theorem mine_set {i : Nat} {w : W} {v : V} {a : Addr} (h : Mine (d.set i (some (.val w))) (σ.set i (some v)) a) : Mine d σ a := by
  obtain ⟨j, s, u, h1, h2, h3⟩ := h
  by_cases e : i = j
  · subst e
    rw [List.getElem?_set] at h1
    simp only [if_true] at h1
    split at h1
    · cases h1; cases h2
    · cases h1
  · rw [List.getElem?_set_ne e] at h1 h3
    exact ⟨j, s, u, h1, h2, h3⟩
theorem store_go {i : Nat} {w : W} {v : V} (rs : RS K Ex Oc H d σ) (r : Rp K Ex (Ow Oc d σ) H v w) (h : store i w d = some d') : GoS K Ex Oc d σ H d' (σ.set i (some v)) H := by
  obtain ⟨lt, rfl, np⟩ := store_lt h
  have ltσ : i < σ.length := by rw [← rs.len]; exact lt
  have ow : ∀ a, Ow Oc (d.set i (some (.val w))) (σ.set i (some v)) a → Ow Oc d σ a := fun a z => z.imp id mine_set
  have ke : Ke (Ow Oc d σ) H (Ow Oc (d.set i (some (.val w))) (σ.set i (some v))) H := fun a u n e => ⟨fun z => n (ow a z), e⟩
  refine ⟨⟨by rw [List.length_set, List.length_set]; exact rs.len, fun j u e => ?_, fun j s u e1 e2 => ?_, fun j k s t u u' p ne e1 e2 e3 e4 e5 => ?_, rs.oc⟩, fun _ _ e _ => e, fun a z => .inl (mine_set z), fun j u e => ?_⟩
  · by_cases ej : i = j
    · subst ej
      rw [List.getElem?_set_self lt] at e
      cases e
      exact ⟨v, List.getElem?_set_self ltσ, r.mono ke fun _ _ z => z⟩
    · rw [List.getElem?_set_ne ej] at e
      obtain ⟨v', e', r'⟩ := rs.val j u e
      exact ⟨v', by rw [List.getElem?_set_ne ej]; exact e', r'.mono ke fun _ _ z => z⟩
  · by_cases ej : i = j
    · subst ej
      rw [List.getElem?_set_self lt] at e1
      cases e1; cases e2
    · rw [List.getElem?_set_ne ej] at e1
      obtain ⟨p, e', n, ob⟩ := rs.own j s u e1 e2
      exact ⟨p, by rw [List.getElem?_set_ne ej]; exact e', n, ob.mono ke (fun _ _ z => z) rfl⟩
  · by_cases ej : i = j
    · subst ej
      rw [List.getElem?_set_self lt] at e1
      cases e1; cases e2
    · by_cases ek : i = k
      · subst ek
        rw [List.getElem?_set_self lt] at e3
        cases e3; cases e4
      · rw [List.getElem?_set_ne ej] at e1 e5
        rw [List.getElem?_set_ne ek] at e3 ⊢
        exact rs.sep j k s t u u' p ne e1 e2 e3 e4 e5
  · have ne : i ≠ j := fun z => by
      subst z
      exact np u e
    exact ⟨⟨u, by rw [List.getElem?_set_ne ne]; exact e⟩, by rw [List.getElem?_set_ne ne]⟩
end

/-! ### targets -/
abbrev GW := W → SD → Option SD
abbrev GWs := List W → SD → Option SD
/-- the names at the places is alone are given something -/
def Out1 (is : List Nat) (σ σ' : St) : Prop := σ'.length = σ.length ∧ ∀ j : Nat, j ∉ is → σ'[j]? = σ[j]?
def Only (is : List Nat) (d d' : SD) : Prop := d'.length = d.length ∧ (∀ j : Nat, j ∉ is → d'[j]? = d[j]?) ∧ ∀ j : Nat, d'[j]? = d[j]? ∨ ∃ w, d'[j]? = some (some (.val w))
def tG (K : PySem.W.Frag) (Y : Yx) (g : GW) (is : List Nat) : TG := fun v σ H Q => ∃ Oc d w d', RS K Y.Ex Oc H d σ ∧ Rp K Y.Ex (Ow Oc d σ) H v w ∧ g w d = some d' ∧ ∀ σ', GoS K Y.Ex Oc d σ H d' σ' H → Out1 is σ σ' → Q σ' H
def tGs (K : PySem.W.Frag) (Y : Yx) (g : GWs) (is : List Nat) : TGs := fun v σ H Q => ∃ Oc d w d', RS K Y.Ex Oc H d σ ∧ RpA K Y.Ex (Ow Oc d σ) H v w ∧ g w d = some d' ∧ ∀ σ', GoS K Y.Ex Oc d σ H d' σ' H → Out1 is σ σ' → Q σ' H
structure DG (X : Cx) (Y : Yx) (tg : Expr) (g : GW) (is : List Nat) : Prop where
  only : ∀ w d d', g w d = some d' → Only is d d'
  pg : PG X tg (tG X.K Y g is)
structure DGs (X : Cx) (Y : Yx) (tgs : List Expr) (g : GWs) (is : List Nat) : Prop where
  only : ∀ w d d', g w d = some d' → Only is d d'
  pg : PGs X tgs (tGs X.K Y g is)
section
variable {X : Cx} {Y : Yx}
theorem pg_weak {e : Expr} {t t' : TG} (h : PG X e t) (w : ∀ v σ H Q, t' v σ H Q → t v σ H Q) : PG X e t' := ⟨fun pins s σ H v u Q I r q => h.run pins s σ H v u Q I r (w v σ H Q q)⟩
theorem pgs_weak {e : List Expr} {t t' : TGs} (h : PGs X e t) (w : ∀ v σ H Q, t' v σ H Q → t v σ H Q) : PGs X e t' := ⟨fun pins s σ H v u Q I r q => h.run pins s σ H v u Q I r (w v σ H Q q)⟩
theorem Only.refl (d : SD) : Only [] d d := ⟨rfl, fun _ _ => rfl, fun _ => .inl rfl⟩
theorem only_store {i : Nat} {w : W} {d d' : SD} (h : store i w d = some d') : Only [i] d d' := by
  obtain ⟨lt, rfl, _⟩ := store_lt h
  refine ⟨List.length_set, fun j hj => List.getElem?_set_ne fun e => hj ?_, fun j => ?_⟩
  · rw [e]; exact List.mem_singleton.mpr rfl
  · by_cases e : i = j
    · subst e
      exact .inr ⟨w, List.getElem?_set_self lt⟩
    · exact .inl (List.getElem?_set_ne e)
theorem out1_set (i : Nat) (v : Option V) (σ : St) : Out1 [i] σ (σ.set i v) := by
  refine ⟨List.length_set, fun j hj => List.getElem?_set_ne fun e => hj ?_⟩
  rw [e]; exact List.mem_singleton.mpr rfl
theorem Out1.trans {is js : List Nat} {a b c : St} (h : Out1 is a b) (g : Out1 js b c) : Out1 (is ++ js) a c :=
  ⟨g.1.trans h.1, fun j hj => (g.2 j fun z => hj (List.mem_append_right _ z)).trans (h.2 j fun z => hj (List.mem_append_left _ z))⟩
theorem Only.trans {is js : List Nat} {a b c : SD} (h : Only is a b) (g : Only js b c) : Only (is ++ js) a c :=
  ⟨g.1.trans h.1, fun j hj => (g.2.1 j fun z => hj (List.mem_append_right _ z)).trans (h.2.1 j fun z => hj (List.mem_append_left _ z)), fun j => by
    rcases g.2.2 j with e | e
    · rw [e]; exact h.2.2 j
    · exact .inr e⟩
theorem dg_name (i : Nat) {x : Str} {pos : Pos} (hN : X.N.Nodup) (hi : X.N[i]? = some x := by rfl) (hx : Loc X.env.scope x := by first | exact .inl rfl | exact .inr rfl) (hf : X.fn x = true ∨ X.env.scope.names.lookup x = some .local := by first | exact .inl rfl | exact .inr rfl | assumption) :
    DG X Y (.Name x pos) (store i) [i] :=
  ⟨fun _ _ _ h => only_store h, pg_weak (pg_name hN hi hx hf) fun v σ H Q ⟨Oc, d, w, d', rs, r, e, k⟩ => k _ (store_go rs r e) (out1_set _ _ _)⟩
def gsNil : GWs := fun ws d => match ws with
  | [] => some d
  | _ => none
def gsCons (g : GW) (r : GWs) : GWs := fun ws d => match ws with
  | w :: ws => (g w d).bind fun d1 => r ws d1
  | [] => none
theorem dgs_nil : DGs X Y [] gsNil [] := by
  refine ⟨fun w d d' h => ?_, pgs_weak pgs_nil fun v σ H Q ⟨Oc, d, w, d', rs, r, e, k⟩ => ?_⟩
  · cases w with
    | nil => cases h; exact .refl _
    | cons _ _ => cases h
  · cases r with
    | nil => cases e; exact ⟨rfl, k _ (.refl rs) ⟨rfl, fun _ _ => rfl⟩⟩
    | cons _ _ => cases e
theorem dgs_cons {e : Expr} {es : List Expr} {g : GW} {r : GWs} {is js : List Nat} (h1 : DG X Y e g is) (h2 : DGs X Y es r js) (hs : (assignEach (e :: es) X.env).map (·.2) = assign e X.env :: (assignEach es X.env).map (·.2) := by rfl) : DGs X Y (e :: es) (gsCons g r) (is ++ js) := by
  refine ⟨fun w d d' h => ?_, pgs_weak (pgs_cons h1.pg h2.pg hs) fun v σ H Q ⟨Oc, d, w, d', rs, ra, e, k⟩ => ?_⟩
  · cases w with
    | nil => cases h
    | cons a b =>
      obtain ⟨d1, e1, e2⟩ := Option.bind_eq_some_iff.mp (show (g _ d).bind _ = some d' from h)
      exact (h1.only _ _ _ e1).trans (h2.only _ _ _ e2)
  · cases ra with
    | nil => cases e
    | cons a b =>
      obtain ⟨d1, e1, e2⟩ := Option.bind_eq_some_iff.mp (show (g _ d).bind _ = some d' from e)
      refine ⟨_, _, rfl, Oc, d, _, d1, rs, a, e1, fun σ1 g1 o1 => ?_⟩
      exact ⟨Oc, d1, _, d', g1.rs, b.mono g1.ke fun _ _ z => z, e2, fun σ2 g2 o2 => k σ2 (g1.trans g2) (o1.trans o2)⟩
/-- (a, b, ..) = a tuple -/
def gTupW (n : Nat) (g : GWs) : GW := fun w d => match w with
  | .tuple ws => if ws.length = n then g ws d else none
  | _ => none
/-- (a, b, ..) = a list -/
def gLstW (n : Nat) (g : GWs) : GW := fun w d => match w with
  | .list ws => if ws.length = n then g ws d else none
  | _ => none
theorem gTupW_some {n : Nat} {g : GWs} {w : W} {d d' : SD} (h : gTupW n g w d = some d') : ∃ ws, w = .tuple ws ∧ ws.length = n ∧ g ws d = some d' := by
  cases w with
  | tuple ws =>
    have h : (if ws.length = n then g ws d else none) = some d' := h
    by_cases z : ws.length = n
    · rw [if_pos z] at h; exact ⟨ws, rfl, z, h⟩
    · rw [if_neg z] at h; cases h
  | _ => cases h
theorem gLstW_some {n : Nat} {g : GWs} {w : W} {d d' : SD} (h : gLstW n g w d = some d') : ∃ ws, w = .list ws ∧ ws.length = n ∧ g ws d = some d' := by
  cases w with
  | list ws =>
    have h : (if ws.length = n then g ws d else none) = some d' := h
    by_cases z : ws.length = n
    · rw [if_pos z] at h; exact ⟨ws, rfl, z, h⟩
    · rw [if_neg z] at h; cases h
  | _ => cases h
theorem dg_tup {es : List Expr} {k : Nat} {pos : Pos} {g : GWs} {n : Nat} {is : List Nat} (hc : X.calm = true) (h : DGs X Y es g is) (hn : (assignEach es X.env).length = n := by rfl) (hst : (assignEach es X.env).findIdx? (·.1) = none := by rfl) : DG X Y (.Tuple es k pos) (gTupW n g) is := by
  refine ⟨fun w d d' e => ?_, pg_weak (pg_tup hc h.pg hn hst) fun v σ H Q ⟨Oc, d, w, d', rs, r, e, k⟩ => ?_⟩
  · obtain ⟨ws, rfl, _, e⟩ := gTupW_some e
    exact h.only _ _ _ e
  · obtain ⟨ws, rfl, el, e⟩ := gTupW_some e
    cases r with
    | tup a b => exact ⟨_, _, rfl, a.sq, b.length.trans el, Oc, d, _, d', rs, b, e, k⟩
theorem dg_lst {es : List Expr} {k : Nat} {pos : Pos} {g : GWs} {n : Nat} {is : List Nat} (hc : X.calm = true) (h : DGs X Y es g is) (hn : (assignEach es X.env).length = n := by rfl) (hst : (assignEach es X.env).findIdx? (·.1) = none := by rfl) : DG X Y (.Tuple es k pos) (gLstW n g) is := by
  refine ⟨fun w d d' e => ?_, pg_weak (pg_lst hc h.pg hn hst) fun v σ H Q ⟨Oc, d, w, d', rs, r, e, k⟩ => ?_⟩
  · obtain ⟨ws, rfl, _, e⟩ := gLstW_some e
    exact h.only _ _ _ e
  · obtain ⟨ws, rfl, el, e⟩ := gLstW_some e
    cases r with
    | lst a b => exact ⟨_, _, rfl, a.sq, b.length.trans el, Oc, d, _, d', rs, b, e, k⟩
end

/-! ### statements -/
inductive SOut where
  | next (d : SD) | ret (r : Slot) (d : SD) | brk (d : SD) | cont (d : SD) | exc (c : Nat) (d : SD) | bad
abbrev MS := SD → SOut
def SOut.seq (o : SOut) (f : MS) : SOut := match o with
  | .next d => f d
  | o => o
@[simp] theorem SOut.seq_next (d : SD) (f : MS) : (SOut.next d).seq f = f d := rfl
@[simp] theorem SOut.seq_ret (r : Slot) (d : SD) (f : MS) : (SOut.ret r d).seq f = .ret r d := rfl
@[simp] theorem SOut.seq_brk (d : SD) (f : MS) : (SOut.brk d).seq f = .brk d := rfl
@[simp] theorem SOut.seq_cont (d : SD) (f : MS) : (SOut.cont d).seq f = .cont d := rfl
@[simp] theorem SOut.seq_exc (c : Nat) (d : SD) (f : MS) : (SOut.exc c d).seq f = .exc c d := rfl
@[simp] theorem SOut.seq_bad (f : MS) : SOut.bad.seq f = .bad := rfl
def Out.toS {α : Type} (o : Out α) (f : α → SD → SOut) : SOut := match o with
  | .ok a d => f a d
  | .exc c d => .exc c d
  | .bad => .bad
@[simp] theorem Out.toS_ok {α : Type} (a : α) (d : SD) (f : α → SD → SOut) : (Out.ok a d).toS f = f a d := rfl
@[simp] theorem Out.toS_exc {α : Type} (c : Nat) (d : SD) (f : α → SD → SOut) : (Out.exc c d : Out α).toS f = .exc c d := rfl
@[simp] theorem Out.toS_bad {α : Type} (f : α → SD → SOut) : (Out.bad : Out α).toS f = .bad := rfl
def sOpt (o : Option SD) : SOut := match o with
  | some d => .next d
  | none => .bad
@[simp] theorem sOpt_some (d : SD) : sOpt (some d) = .next d := rfl
@[simp] theorem sOpt_none : sOpt none = .bad := rfl
def With (O : Addr → Prop) (p : Addr) (a : Addr) : Prop := O a ∨ a = p
def PoS (X : Cx) (Y : Yx) (Oc : Addr → Prop) (d : SD) (σ : St) (H : Hp) (o : SOut) (D : Ends) : Prop := match o with
  | .next d' => ∀ σ' H', GoS X.K Y.Ex Oc d σ H d' σ' H' → D.nx σ' H'
  | .brk d' => ∀ σ' H', GoS X.K Y.Ex Oc d σ H d' σ' H' → D.bk σ' H'
  | .cont d' => ∀ σ' H', GoS X.K Y.Ex Oc d σ H d' σ' H' → D.ct σ' H'
  | .ret (.val w) d' => ∀ σ' H' v, GoS X.K Y.Ex Oc d σ H d' σ' H' → Rp X.K Y.Ex (Ow Oc d' σ') H' v w → D.rt v H'
  | .ret (.own w) d' => ∀ σ' H' p, GoS X.K Y.Ex Oc d σ H d' σ' H' → (H p = none ∨ Mine d σ p) → RS X.K Y.Ex (With Oc p) H' d' σ' → Ob X.K Y.Ex (Ow (With Oc p) d' σ') H' p w → D.rt (.ref p) H'
  | .ret (.par w) _ => False
  | .exc c d' => ∀ σ' H', GoS X.K Y.Ex Oc d σ H d' σ' H' → Y.W (Y.T c) none σ' H'
  | .bad => False
def tS (X : Cx) (Y : Yx) (m : MS) : TS := fun D σ H => ∃ Oc d, RS X.K Y.Ex Oc H d σ ∧ PoS X Y Oc d σ H (m d) D
structure DS (X : Cx) (Y : Yx) (st : Stmt) (m : MS) : Prop where
  ps : PS X st (tS X Y m)
structure DSs (X : Cx) (Y : Yx) (st : List Stmt) (m : MS) : Prop where
  ps : PSs X st (tS X Y m)
theorem ps_weak {X : Cx} {e : Stmt} {t t' : TS} (h : PS X e t) (w : ∀ D σ H, t' D σ H → t D σ H) : PS X e t' := ⟨fun pins s σ H D I q => h.run pins s σ H D I (w D σ H q)⟩
theorem pss_weak {X : Cx} {e : List Stmt} {t t' : TS} (h : PSs X e t) (w : ∀ D σ H, t' D σ H → t D σ H) : PSs X e t' := ⟨fun pins s σ H D I q => h.run pins s σ H D I (w D σ H q)⟩
section
variable {X : Cx} {Y : Yx} {Oc : Addr → Prop} {σ σ' : St} {d d' : SD} {H H' : Hp}
theorem PoS.from {o : SOut} {D : Ends} (g : GoS X.K Y.Ex Oc d σ H d' σ' H') (h : PoS X Y Oc d σ H o D) : PoS X Y Oc d' σ' H' o D := by
  cases o with
  | next d2 => exact fun σ2 H2 g2 => h σ2 H2 (g.trans g2)
  | brk d2 => exact fun σ2 H2 g2 => h σ2 H2 (g.trans g2)
  | cont d2 => exact fun σ2 H2 g2 => h σ2 H2 (g.trans g2)
  | exc c d2 => exact fun σ2 H2 g2 => h σ2 H2 (g.trans g2)
  | bad => exact h
  | ret r d2 =>
    cases r with
    | val w => exact fun σ2 H2 v g2 => h σ2 H2 v (g.trans g2)
    | par w => exact h
    | own w =>
      refine fun σ2 H2 p g2 n => h σ2 H2 p (g.trans g2) ?_
      rcases n with n | n
      · by_cases m : Mine d σ p
        · exact .inr m
        · refine .inl ?_
          cases q : H p with
          | none => rfl
          | some o => rw [g.fr p o q m] at n; cases n
      · exact (g.mine p n).symm
/-- what follows may be asked for what is reached -/
theorem PoS.ends {o : SOut} {D D' : Ends} (h : PoS X Y Oc d σ H o D) (n : ∀ d' σ' H', o = .next d' → GoS X.K Y.Ex Oc d σ H d' σ' H' → D.nx σ' H' → D'.nx σ' H') (b : ∀ d' σ' H', o = .brk d' → GoS X.K Y.Ex Oc d σ H d' σ' H' → D.bk σ' H' → D'.bk σ' H')
    (c : ∀ d' σ' H', o = .cont d' → GoS X.K Y.Ex Oc d σ H d' σ' H' → D.ct σ' H' → D'.ct σ' H') (r : ∀ v H, D.rt v H → D'.rt v H) : PoS X Y Oc d σ H o D' := by
  cases o with
  | next d2 => exact fun σ2 H2 g2 => n _ _ _ rfl g2 (h σ2 H2 g2)
  | brk d2 => exact fun σ2 H2 g2 => b _ _ _ rfl g2 (h σ2 H2 g2)
  | cont d2 => exact fun σ2 H2 g2 => c _ _ _ rfl g2 (h σ2 H2 g2)
  | exc c d2 => exact h
  | bad => exact h
  | ret s d2 =>
    cases s with
    | val w => exact fun σ2 H2 v g2 z => r _ _ (h σ2 H2 v g2 z)
    | par w => exact h
    | own w => exact fun σ2 H2 p g2 a b c => r _ _ (h σ2 H2 p g2 a b c)
theorem PoS.seq {o : SOut} {f : MS} {D : Ends} (h : PoS X Y Oc d σ H (o.seq f) D) : PoS X Y Oc d σ H o { D with nx := tS X Y f D } := by
  cases o with
  | next d2 => exact fun σ2 H2 g2 => ⟨Oc, d2, g2.rs, PoS.from g2 h⟩
  | brk d2 => exact h
  | cont d2 => exact h
  | exc c d2 => exact h
  | bad => exact h
  | ret s d2 => cases s <;> exact h
theorem Po.toS {α : Type} {p : Bool} {o : Out α} {f : α → SD → SOut} {D : Ends} (h : PoS X Y Oc d σ H (o.toS f) D) : Po X Y p Oc σ d H o fun a d1 H1 => PoS X Y Oc d1 σ H1 (f a d1) D := by
  cases o with
  | ok a d1 => exact fun H1 g1 => PoS.from g1.toS h
  | exc c d1 => exact fun H1 g1 => h σ H1 g1.toS
  | bad => exact h
end
section
variable {X : Cx} {Y : Yx}
def mSkip : MS := fun d => .next d
def mSeq (a b : MS) : MS := fun d => (a d).seq b
theorem ds_nil : DSs X Y [] mSkip := ⟨pss_weak pss_nil fun D σ H h => by
  obtain ⟨Oc, d, rs, h⟩ := h
  exact h σ H (.refl rs)⟩
theorem ds_cons {st : Stmt} {rest : List Stmt} {a b : MS} (h1 : DS X Y st a) (h2 : DSs X Y rest b) : DSs X Y (st :: rest) (mSeq a b) := ⟨pss_weak (pss_cons h1.ps h2.ps) fun D σ H h => by
  obtain ⟨Oc, d, rs, h⟩ := h
  exact ⟨Oc, d, rs, h.seq⟩⟩
theorem ds_one {st : Stmt} {a : MS} (h1 : DS X Y st a) : DSs X Y [st] a := ⟨pss_one h1.ps⟩
theorem ds_pass {pos : Pos} : DS X Y (.Pass pos) mSkip := ⟨ps_weak ps_pass fun D σ H h => by
  obtain ⟨Oc, d, rs, h⟩ := h
  exact h σ H (.refl rs)⟩
def mBrk : MS := fun d => .brk d
def mCont : MS := fun d => .cont d
theorem ds_break {pos : Pos} : DS X Y (.Break pos) mBrk := ⟨ps_weak ps_break fun D σ H h => by
  obtain ⟨Oc, d, rs, h⟩ := h
  exact h σ H (.refl rs)⟩
theorem ds_continue {pos : Pos} : DS X Y (.Continue pos) mCont := ⟨ps_weak ps_continue fun D σ H h => by
  obtain ⟨Oc, d, rs, h⟩ := h
  exact h σ H (.refl rs)⟩
theorem ds_doc {x : Str} {j : Nat} {pos pos' : Pos} : DS X Y (.Expr (.Constant (.str x) j pos) pos') mSkip := ⟨ps_weak ps_doc fun D σ H h => by
  obtain ⟨Oc, d, rs, h⟩ := h
  exact h σ H (.refl rs)⟩
def mDrop (a : M W) : MS := fun d => (a d).toS fun _ d1 => .next d1
theorem ds_expr {pu : Bool} {e : Expr} {pos : Pos} {m : M W} (he : DE X Y pu e m) (hs : swapsWith e none pos.line X.env = pure false := by rfl) : DS X Y (.Expr e pos) (mDrop m) := ⟨ps_weak (ps_expr he.pe hs) fun D σ H h => by
  obtain ⟨Oc, d, rs, h⟩ := h
  exact ⟨Oc, d, rs, (Po.toS h).imp fun w d1 H1 g1 h1 v r => h1 σ H1 (.refl g1.rs)⟩⟩
def mRet (a : M W) : MS := fun d => (a d).toS fun w d1 => .ret (.val w) d1
theorem ds_ret {pu : Bool} {e : Expr} {pos : Pos} {m : M W} (he : DE X Y pu e m) : DS X Y (.Return (some e) pos) (mRet m) := ⟨ps_weak (ps_ret he.pe) fun D σ H h => by
  obtain ⟨Oc, d, rs, h⟩ := h
  exact ⟨Oc, d, rs, (Po.toS h).imp fun w d1 H1 g1 h1 v r => h1 σ H1 v (.refl g1.rs) r⟩⟩
def mIf (t : M Bool) (a b : MS) : MS := fun d => (t d).toS fun c d1 => if c = true then a d1 else b d1
theorem ds_if {pu : Bool} {c : Expr} {sa sb : List Stmt} {pos : Pos} {t : M Bool} {a b : MS} (hc : DT X Y pu c t) (ha : DSs X Y sa a) (hb : DSs X Y sb b) : DS X Y (.If c sa sb pos) (mIf t a b) := ⟨ps_weak (ps_if hc.pt ha.ps hb.ps) fun D σ H h => by
  obtain ⟨Oc, d, rs, h⟩ := h
  refine ⟨Oc, d, rs, (Po.toS h).imp fun c d1 H1 g1 h1 rs1 => ?_⟩
  cases c with
  | true => exact iteT ⟨Oc, d1, rs1, h1⟩
  | false => exact iteF ⟨Oc, d1, rs1, h1⟩⟩
/-- target = value -/
def mAsg (g : GW) (a : M W) : MS := fun d => (a d).toS fun w d1 => sOpt (g w d1)
theorem ds_asg {pu : Bool} {tg e : Expr} {pos : Pos} {g : GW} {m : M W} {is : List Nat} (hg : DG X Y tg g is) (he : DE X Y pu e m) (hs : swapsWithSole [tg] e pos.line X.env = pure false := by rfl) (hw : swappedStores [tg] e X.env = pure none := by rfl)
    (h1 : (assignEach [tg] X.env).map (·.2) = [assign tg X.env] := by rfl) : DS X Y (.Assign [tg] e pos) (mAsg g m) := by
  refine ⟨ps_weak (ps_asg he.pe hg.pg hs hw h1) fun D σ H h => ?_⟩
  obtain ⟨Oc, d, rs, h⟩ := h
  refine ⟨Oc, d, rs, (Po.toS h).imp fun w d1 H1 g1 h1 v r => ?_⟩
  cases q : g w d1 with
  | none => rw [q] at h1; exact h1.elim
  | some d2 =>
    rw [q] at h1
    exact ⟨Oc, d1, w, d2, g1.rs, r, q, fun σ' gs _ => h1 σ' H1 gs⟩
/-- name = value -/
theorem ds_ofE {pu : Bool} {i : Nat} {st : Stmt} {m : M W} (hp : PS X st (tAsg (tE X Y pu m) (gName i))) : DS X Y st (mAsg (store i) m) := by
  refine ⟨ps_weak hp fun D σ H h => ?_⟩
  obtain ⟨Oc, d, rs, h⟩ := h
  refine ⟨Oc, d, rs, (Po.toS h).imp fun w d1 H1 g1 h1 v r => ?_⟩
  cases q : store i w d1 with
  | none => rw [q] at h1; exact h1.elim
  | some d2 =>
    rw [q] at h1
    exact h1 _ H1 (store_go g1.rs r q)
theorem ds_set {pu : Bool} {i : Nat} {x : Str} {e : Expr} {pos pos' : Pos} {m : M W} (hN : X.N.Nodup) (he : DE X Y pu e m) (hi : X.N[i]? = some x := by rfl) (hx : Loc X.env.scope x := by first | exact .inl rfl | exact .inr rfl) (hs : swapsWith e (some (.Name x pos')) pos.line X.env = pure false := by rfl)
    (hf : X.fn x = true ∨ X.env.scope.names.lookup x = some .local := by first | exact .inl rfl | exact .inr rfl | assumption) : DS X Y (.Assign [.Name x pos'] e pos) (mAsg (store i) m) := ds_ofE (ps_set hN hi hx he.pe hs hf)
end
end Qd
end
section
set_option Elab.async false
set_option linter.all false
set_option maxRecDepth 100000
/-! Loops and list comprehensions by their data. -/
namespace Qd
open PySem PySem.Spec PyProof.Rows L2

/-! ### what is walked -/
/-- the iterator J hands out the data ws wherever S holds -/
structure Wk (K : PySem.W.Frag) (Ex : Addr → Nat → Prop) (J : It) (S : (Addr → Prop) → Hp → Prop) (ws : List W) : Prop where
  keep : ∀ O H O' H', Ke O H O' H' → S O H → S O' H'
  go : ∀ O H i, S O H → i < ws.length → J.go i H
  yld : ∀ O H i x H', (∀ a, O a → ∃ o, H a = some o) → S O H → J.yld i H x H' → Same H H' ∧ ∀ w, ws[i]? = some w → Rp K Ex O H' x w
  stop : ∀ O H i, S O H → ws.length ≤ i → J.stop i H
def tI (X : Cx) (Y : Yx) (pu : Bool) (m : M (List W)) : TI := fun σ H R => ∃ Oc d, RS X.K Y.Ex Oc H d σ ∧ Po X Y pu Oc σ d H (m d) fun ws d' H' => ∀ J S, Wk X.K Y.Ex J S ws → S (Ow Oc d' σ) H' → R J H'
structure DI (X : Cx) (Y : Yx) (pu : Bool) (tg e : Expr) (m : M (List W)) : Prop where
  pi : ∃ wi, PI X tg e wi ∧ ∀ σ H R, tI X Y pu m σ H R → wi σ H R
section
variable {X : Cx} {Y : Yx} {tg : Expr}
theorem wk_list {K : PySem.W.Frag} {Ex : Addr → Nat → Prop} {a : Addr} {ws : List W} : Wk K Ex (Itl K a) (fun O H => ∃ xs, LAt K O H a xs ∧ RpA K Ex O H xs ws) ws where
  keep := fun O H O' H' k ⟨xs, l, r⟩ => ⟨xs, l.mono k, r.mono k fun _ _ z => z⟩
  go := fun O H i ⟨xs, l, r⟩ hi => by
    have : i < xs.length := by rw [r.length]; exact hi
    exact ⟨xs, xs[i], l.sq, List.getElem?_eq_getElem this⟩
  yld := fun O H i x H' _ ⟨xs, l, r⟩ ⟨e, y⟩ => by
    subst e
    refine ⟨.refl _, fun w hw => ?_⟩
    obtain ⟨v, hv, rv⟩ := r.get hw
    rw [y xs l.sq] at hv
    cases hv
    exact rv
  stop := fun O H i ⟨xs, l, r⟩ hi => ⟨xs, l.sq, by rw [r.length]; exact hi⟩
theorem wk_tup {K : PySem.W.Frag} {Ex : Addr → Nat → Prop} {a : Addr} {ws : List W} : Wk K Ex (Itt K a) (fun O H => ∃ xs, TAt K Ex O H a xs ∧ RpA K Ex O H xs ws) ws where
  keep := fun O H O' H' k ⟨xs, l, r⟩ => ⟨xs, l.mono k (fun _ _ z => z), r.mono k fun _ _ z => z⟩
  go := fun O H i ⟨xs, l, r⟩ hi => by
    have : i < xs.length := by rw [r.length]; exact hi
    exact ⟨xs, xs[i], l.sq, List.getElem?_eq_getElem this⟩
  yld := fun O H i x H' _ ⟨xs, l, r⟩ ⟨e, y⟩ => by
    subst e
    refine ⟨.refl _, fun w hw => ?_⟩
    obtain ⟨v, hv, rv⟩ := r.get hw
    rw [y xs l.sq] at hv
    cases hv
    exact rv
  stop := fun O H i ⟨xs, l, r⟩ hi => ⟨xs, l.sq, by rw [r.length]; exact hi⟩
def rangeW (lo : Int) (n : Nat) : List W := (List.range n).map fun (i : Nat) => PyData.int (lo + (i : Int))
theorem rangeW_length (lo : Int) (n : Nat) : (rangeW lo n).length = n := by unfold rangeW; simp
theorem rangeW_get {lo : Int} {n i : Nat} {w : W} (h : (rangeW lo n)[i]? = some w) : w = .int (lo + (i : Int)) := by
  unfold rangeW at h
  rw [List.getElem?_map] at h
  cases q : (List.range n)[i]? with
  | none => rw [q] at h; cases h
  | some j =>
    rw [q] at h
    obtain ⟨hj, e⟩ := List.getElem?_eq_some_iff.mp q
    rw [List.getElem_range] at e
    subst e
    exact (Option.some.inj h).symm
theorem wk_range {K : PySem.W.Frag} {Ex : Addr → Nat → Prop} {lo : Int} {n : Nat} : Wk K Ex (Itr lo n) (fun _ _ => True) (rangeW lo n) where
  keep := fun _ _ _ _ _ _ => trivial
  go := fun O H i _ hi => by rw [rangeW_length] at hi; exact hi
  yld := fun O H i x H' _ _ ⟨e, y⟩ => by
    subst e
    refine ⟨.refl _, fun w hw => ?_⟩
    rw [rangeW_get hw, y]
    exact .int _
  stop := fun O H i _ hi => by rw [rangeW_length] at hi; exact hi
def listOf? : W → Option (List W)
  | .list ws => some ws
  | _ => none
def tupOf? : W → Option (List W)
  | .tuple ws => some ws
  | _ => none
def mItL (a : M W) : M (List W) := fun d => (a d).bind fun w d1 => ofOpt (listOf? w) d1
def mItT (a : M W) : M (List W) := fun d => (a d).bind fun w d1 => ofOpt (tupOf? w) d1
theorem di_list {pu : Bool} {e : Expr} {m : M W} (h : DE X Y pu e m) : DI X Y pu tg e (mItL m) := by
  refine ⟨_, pi_list h.pe, fun σ H R h => ?_⟩
  obtain ⟨Oc, d, rs, h⟩ := h
  refine ⟨Oc, d, rs, (Po.bind1 h).imp fun w d1 H1 g1 h1 v r => ?_⟩
  obtain ⟨ws, ew, k⟩ := Po.opt h1
  cases r with
  | lst l r =>
    cases ew
    exact ⟨_, rfl, ⟨_, l.sq⟩, k H1 (.refl g1.rs) _ _ wk_list ⟨_, l, r⟩⟩
  | _ => cases ew
theorem di_tup {pu : Bool} {e : Expr} {m : M W} (h : DE X Y pu e m) : DI X Y pu tg e (mItT m) := by
  refine ⟨_, pi_tup h.pe, fun σ H R h => ?_⟩
  obtain ⟨Oc, d, rs, h⟩ := h
  refine ⟨Oc, d, rs, (Po.bind1 h).imp fun w d1 H1 g1 h1 v r => ?_⟩
  obtain ⟨ws, ew, k⟩ := Po.opt h1
  cases r with
  | tup l r =>
    cases ew
    exact ⟨_, rfl, ⟨_, l.sq⟩, k H1 (.refl g1.rs) _ _ wk_tup ⟨_, l, r⟩⟩
  | _ => cases ew
noncomputable def small62 (i : Int) : Bool := cdec (-4611686018427387904 ≤ i ∧ i < 4611686018427387904)
theorem small62_of {i : Int} (h : small62 i = true) : -(2 ^ 62) ≤ i ∧ i < 2 ^ 62 := by
  have h := cdec_iff.mp h
  omega
theorem small62_mk {i : Int} (h : -4611686018427387904 ≤ i) (h2 : i < 4611686018427387904) : small62 i = true := cdec_iff.mpr ⟨h, h2⟩
noncomputable def range1? : List W → Option (List W)
  | [.int j] => if small62 j = true then some (rangeW 0 j.toNat) else none
  | _ => none
noncomputable def range2? : List W → Option (List W)
  | [.int i, .int j] => if (small62 i && small62 j) = true then some (rangeW i (j - i).toNat) else none
  | _ => none
noncomputable def mRng1 (a : M (List W)) : M (List W) := fun d => (a d).bind fun w d1 => ofOpt (range1? w) d1
noncomputable def mRng2 (a : M (List W)) : M (List W) := fun d => (a d).bind fun w d1 => ofOpt (range2? w) d1
theorem range1_some {w u : List W} (h : range1? w = some u) : ∃ j : Int, w = [.int j] ∧ -(2 ^ 62) ≤ j ∧ j < 2 ^ 62 ∧ u = rangeW 0 j.toNat := by
  unfold range1? at h
  split at h
  · split at h
    · rename_i z
      cases h
      exact ⟨_, rfl, (small62_of z).1, (small62_of z).2, rfl⟩
    · cases h
  · cases h
theorem range2_some {w u : List W} (h : range2? w = some u) : ∃ i j : Int, w = [.int i, .int j] ∧ (-(2 ^ 62) ≤ i ∧ i < 2 ^ 62 ∧ -(2 ^ 62) ≤ j ∧ j < 2 ^ 62) ∧ u = rangeW i (j - i).toNat := by
  unfold range2? at h
  split at h
  · split at h
    · rename_i z
      cases h
      rw [Bool.and_eq_true] at z
      exact ⟨_, _, rfl, ⟨(small62_of z.1).1, (small62_of z.1).2, (small62_of z.2).1, (small62_of z.2).2⟩, rfl⟩
    · cases h
  · cases h
theorem rp_int {K : PySem.W.Frag} {Ex : Addr → Nat → Prop} {O : Addr → Prop} {H : Hp} {v : V} {i : Int} (r : Rp K Ex O H v (.int i)) : v = .int i := by cases r; rfl
theorem rpA1 {K : PySem.W.Frag} {Ex : Addr → Nat → Prop} {O : Addr → Prop} {H : Hp} {vs : List V} {a : W} (r : RpA K Ex O H vs [a]) : ∃ v, vs = [v] ∧ Rp K Ex O H v a := by
  cases r with
  | cons x y => cases y; exact ⟨_, rfl, x⟩
theorem rpA2 {K : PySem.W.Frag} {Ex : Addr → Nat → Prop} {O : Addr → Prop} {H : Hp} {vs : List V} {a b : W} (r : RpA K Ex O H vs [a, b]) : ∃ v u, vs = [v, u] ∧ Rp K Ex O H v a ∧ Rp K Ex O H u b := by
  cases r with
  | cons x y =>
    obtain ⟨u, rfl, r⟩ := rpA1 y
    exact ⟨_, _, rfl, x, r⟩
theorem di_range1 {pu : Bool} {a : Expr} {p pos : Pos} {m : M (List W)} (hm : X.mg "range" = none) (ha : DL X Y pu [a] m) (hg : Gl X "range" := by rfl) (hs : starEach [a] X.env = [(false, eval a X.env)] := by rfl) : DI X Y pu tg (.Call (.Name "range" p) [a] [] pos) (mRng1 m) := by
  refine ⟨_, pi_range1 hg hm ha.pa hs, fun σ H R h => ?_⟩
  obtain ⟨Oc, d, rs, h⟩ := h
  refine ⟨Oc, d, rs, (Po.bind1 h).imp fun w d1 H1 g1 h1 v r => ?_⟩
  obtain ⟨ws, ew, k⟩ := Po.opt h1
  obtain ⟨j, rfl, b1, b2, rfl⟩ := range1_some ew
  obtain ⟨u, rfl, r1⟩ := rpA1 r
  exact ⟨j, by rw [rp_int r1], b1, b2, k H1 (.refl g1.rs) _ _ wk_range trivial⟩
theorem di_range2 {pu : Bool} {a b : Expr} {p pos : Pos} {m : M (List W)} (hm : X.mg "range" = none) (ha : DL X Y pu [a, b] m) (hg : Gl X "range" := by rfl) (hs : starEach [a, b] X.env = [(false, eval a X.env), (false, eval b X.env)] := by rfl) (hs2 : starEach [b] X.env = [(false, eval b X.env)] := by rfl) :
    DI X Y pu tg (.Call (.Name "range" p) [a, b] [] pos) (mRng2 m) := by
  refine ⟨_, pi_range2 hg hm ha.pa hs hs2, fun σ H R h => ?_⟩
  obtain ⟨Oc, d, rs, h⟩ := h
  refine ⟨Oc, d, rs, (Po.bind1 h).imp fun w d1 H1 g1 h1 v r => ?_⟩
  obtain ⟨ws, ew, k⟩ := Po.opt h1
  obtain ⟨i, j, rfl, b1, rfl⟩ := range2_some ew
  obtain ⟨u, u2, rfl, r1, r2⟩ := rpA2 r
  exact ⟨i, j, by rw [rp_int r1, rp_int r2], b1, k H1 (.refl g1.rs) _ _ wk_range trivial⟩
end

/-! ### for -/
def forD (g : GW) (body : MS) : List W → MS
  | [], d => .next d
  | w :: ws, d => match g w d with
    | none => .bad
    | some d1 => match body d1 with
      | .next d2 => forD g body ws d2
      | .cont d2 => forD g body ws d2
      | .brk d2 => .next d2
      | .ret r d2 => .ret r d2
      | .exc c d2 => .exc c d2
      | .bad => .bad
def mFor (it : M (List W)) (g : GW) (body : MS) : MS := fun d => (it d).toS fun ws d1 => forD g body ws d1
section
variable {X : Cx} {Y : Yx}
theorem ds_for {pu : Bool} {tg iter : Expr} {body : List Stmt} {pos : Pos} {mi : M (List W)} {g : GW} {is : List Nat} {b : MS} (hp : PassesOwn (model X.prog X.w) X.A X.env X.xe) (hc : X.calm = true) (hi : DI X Y pu tg iter mi) (hg : DG X Y tg g is) (hb : DSs X Y body b)
    (hs : ∀ x, foldedSetIterable iter X.env x = pure x := by intro _; rfl) : DS X Y (.For tg iter body [] pos) (mFor mi g b) := by
  obtain ⟨wi, pi, hwi⟩ := hi.pi
  refine ⟨ps_weak (ps_for hp hc pi hg.pg hb.ps hs) fun D σ H h => ?_⟩
  obtain ⟨Oc, d, rs, h⟩ := h
  refine hwi σ H _ ⟨Oc, d, rs, (Po.toS h).imp fun ws d1 H1 g1 h1 J S wk hS => ?_⟩
  refine ⟨fun i m σ' H' => m = ws.length - i ∧ i ≤ ws.length ∧ ∃ d', RS X.K Y.Ex Oc H' d' σ' ∧ S (Ow Oc d' σ') H' ∧ PoS X Y Oc d' σ' H' (forD g b (ws.drop i) d') D, ⟨ws.length, by simp, Nat.zero_le _, d1, g1.rs, hS, h1⟩, ?_⟩
  rintro i m σ' H' ⟨rfl, hi, d', rs', hS', h'⟩
  by_cases lt : i < ws.length
  · refine .inr ⟨wk.go _ _ _ hS' lt, fun σ2 H2 => ∃ d2, RS X.K Y.Ex Oc H2 d2 σ2 ∧ S (Ow Oc d2 σ2) H2 ∧ PoS X Y Oc d2 σ2 H2 (forD g b (ws.drop (i + 1)) d2) D, fun σ2 H2 ⟨d2, a1, a2, a3⟩ => ⟨ws.length - (i + 1), by omega, rfl, lt, d2, a1, a2, a3⟩, fun x H2 y => ?_⟩
    obtain ⟨sm, hr⟩ := wk.yld (Ow Oc d' σ') H' i x H2 (fun a z => rs'.there z) hS' y
    have rx := hr _ (List.getElem?_eq_getElem lt)
    have go2 : GoS X.K Y.Ex Oc d' σ' H' d' σ' H2 := (Go.same (pu := true) rs' sm).toS
    have hS2 := wk.keep _ _ _ _ go2.ke hS'
    have h2 := PoS.from go2 h'
    rw [List.drop_eq_getElem_cons lt] at h2
    unfold forD at h2
    cases q : g ws[i] d' with
    | none => rw [q] at h2; exact h2.elim
    | some d1' =>
      rw [q] at h2
      refine ⟨Oc, d', _, d1', go2.rs, rx, q, fun σ3 g3 _ => ⟨Oc, d1', g3.rs, ?_⟩⟩
      have h3 := PoS.from g3 h2
      dsimp only at h3
      have hS3 := wk.keep _ _ _ _ g3.ke hS2
      cases qb : b d1' with
      | next d2 => rw [qb] at h3; exact fun σ4 H4 g4 => ⟨d2, g4.rs, wk.keep _ _ _ _ g4.ke hS3, PoS.from g4 h3⟩
      | cont d2 => rw [qb] at h3; exact fun σ4 H4 g4 => ⟨d2, g4.rs, wk.keep _ _ _ _ g4.ke hS3, PoS.from g4 h3⟩
      | brk d2 => rw [qb] at h3; exact h3
      | ret r d2 => rw [qb] at h3; cases r <;> exact h3
      | exc c d2 => rw [qb] at h3; exact h3
      | bad => rw [qb] at h3; exact h3
  · have e : i = ws.length := by omega
    subst e
    rw [List.drop_length] at h'
    exact .inl ⟨wk.stop _ _ _ hS' (Nat.le_refl _), h' σ' H' (.refl rs')⟩

/-! ### while -/
def whileF (t : M Bool) (b : MS) : Nat → SD → Option SOut
  | 0, _ => none
  | n + 1, d => match t d with
    | .ok true d1 => match b d1 with
      | .next d2 => whileF t b n d2
      | .cont d2 => whileF t b n d2
      | .brk d2 => some (.next d2)
      | .ret r d2 => some (.ret r d2)
      | .exc c d2 => some (.exc c d2)
      | .bad => some .bad
    | .ok false d1 => some (.next d1)
    | .exc c d1 => some (.exc c d1)
    | .bad => some .bad
open Classical in
noncomputable def mWhile (t : M Bool) (b : MS) : MS := fun d => if h : ∃ n o, whileF t b n d = some o then h.choose_spec.choose else .bad
theorem whileF_mono {t : M Bool} {b : MS} {o : SOut} : ∀ {n : Nat} {d : SD} (m : Nat), whileF t b n d = some o → whileF t b (n + m) d = some o
  | 0, _, _, h => by cases h
  | n + 1, d, m, h => by
    rw [show n + 1 + m = (n + m) + 1 by omega]
    unfold whileF at h ⊢
    cases q : t d with
    | bad => rw [q] at h; exact h
    | exc c d1 => rw [q] at h; exact h
    | ok k d1 =>
      rw [q] at h
      cases k with
      | false => exact h
      | true =>
        dsimp only at h ⊢
        cases qb : b d1 with
        | next d2 => rw [qb] at h; exact whileF_mono m h
        | cont d2 => rw [qb] at h; exact whileF_mono m h
        | brk d2 => rw [qb] at h; exact h
        | ret r d2 => rw [qb] at h; exact h
        | exc c d2 => rw [qb] at h; exact h
        | bad => rw [qb] at h; exact h
theorem mWhile_eq {t : M Bool} {b : MS} {o : SOut} {n : Nat} {d : SD} (h : whileF t b n d = some o) : mWhile t b d = o := by
  unfold mWhile
  have hh : ∃ n o, whileF t b n d = some o := ⟨n, o, h⟩
  rw [dif_pos hh]
  have e := hh.choose_spec.choose_spec
  have e1 := whileF_mono n e
  have e2 := whileF_mono hh.choose h
  rw [Nat.add_comm] at e2
  exact Option.some.inj (e1.symm.trans e2)
theorem ds_while {pu : Bool} {c : Expr} {body : List Stmt} {pos : Pos} {t : M Bool} {b : MS} (hp : PassesOwn (model X.prog X.w) X.A X.env X.xe) (hc : DT X Y pu c t) (hb : DSs X Y body b) : DS X Y (.While c body [] pos) (mWhile t b) := by
  refine ⟨ps_weak (ps_while hp hc.pt hb.ps) fun D σ H h => ?_⟩
  obtain ⟨Oc, d, rs, h⟩ := h
  by_cases hh : ∃ n o, whileF t b n d = some o
  · obtain ⟨n, o, hn⟩ := hh
    rw [mWhile_eq hn] at h
    refine ⟨fun m σ' H' => ∃ d', RS X.K Y.Ex Oc H' d' σ' ∧ ∃ o, whileF t b m d' = some o ∧ PoS X Y Oc d' σ' H' o D, ⟨n, d, rs, o, hn, h⟩, ?_⟩
    rintro m σ' H' ⟨d', rs', o', hm, h'⟩
    cases m with
    | zero => cases hm
    | succ m =>
      unfold whileF at hm
      refine ⟨Oc, d', rs', ?_⟩
      cases q : t d' with
      | bad => rw [q] at hm; cases hm; exact h'
      | exc c d1 => rw [q] at hm; cases hm; exact fun H1 g1 => h' σ' H1 g1.toS
      | ok k d1 =>
        rw [q] at hm
        intro H1 g1 rs1
        have h1 := PoS.from g1.toS h'
        cases k with
        | false => cases hm; exact iteF (h1 σ' H1 (.refl rs1))
        | true =>
          dsimp only at hm
          refine iteT ⟨fun σ2 H2 => ∃ d2, RS X.K Y.Ex Oc H2 d2 σ2 ∧ ∃ o, whileF t b m d2 = some o ∧ PoS X Y Oc d2 σ2 H2 o D, fun σ2 H2 z => ⟨m, Nat.lt_succ_self _, z⟩, Oc, d1, rs1, ?_⟩
          cases qb : b d1 with
          | next d2 => rw [qb] at hm; exact fun σ4 H4 g4 => ⟨d2, g4.rs, o', hm, PoS.from g4 h1⟩
          | cont d2 => rw [qb] at hm; exact fun σ4 H4 g4 => ⟨d2, g4.rs, o', hm, PoS.from g4 h1⟩
          | brk d2 => rw [qb] at hm; cases hm; exact h1
          | ret r d2 => rw [qb] at hm; cases hm; cases r <;> exact h1
          | exc c d2 => rw [qb] at hm; cases hm; exact h1
          | bad => rw [qb] at hm; cases hm; exact h1
  · unfold mWhile at h
    rw [dif_neg hh] at h
    exact h.elim
end
end Qd
end
section
set_option Elab.async false
set_option linter.all false
set_option maxRecDepth 100000
/-! New objects; list comprehensions by their data. -/
namespace Qd
open PySem PySem.Spec PyProof.Rows L2

section
variable {K : PySem.W.Frag} {Ex : Addr → Nat → Prop} {Oc : Addr → Prop} {H H' : Hp} {d d' : SD} {σ : St} {p : Addr}
theorem same_new {o : HO} (np : H p = none) : Same H (upd H p o) := fun b x e => by rw [upd_ne (ne_of_none e np)]; exact e
theorem RS.nOw (rs : RS K Ex Oc H d σ) (np : H p = none) : ¬ Ow Oc d σ p := fun q => by
  obtain ⟨o, e⟩ := rs.there q
  rw [np] at e; cases e
/-- a place that was free, before -/
theorem Go.free {pu : Bool} (g : Go K Ex Oc pu σ d H d' H') (np : H' p = none) : H p = none := by
  cases q : H p with
  | none => rfl
  | some o =>
    by_cases m : Mine d σ p
    · obtain ⟨o', e⟩ := g.rs.there (.inr (g.sim.mine.mpr m))
      rw [np] at e; cases e
    · rw [g.fr p o q m] at np; cases np
theorem ow_with {a : Addr} : Ow (With Oc p) d σ a ↔ Ow Oc d σ a ∨ a = p := by
  constructor
  · rintro ((h | h) | h)
    · exact .inl (.inl h)
    · exact .inr h
    · exact .inl (.inr h)
  · rintro ((h | h) | h)
    · exact .inl (.inl h)
    · exact .inr h
    · exact .inl (.inr h)
theorem ke_with : Ke (Ow (With Oc p) d σ) H (Ow Oc d σ) H := fun a u n e => ⟨fun z => n (ow_with.mpr (.inl z)), e⟩
theorem ke_new {o : HO} (np : H p = none) : Ke (Ow Oc d σ) H (Ow (With Oc p) d σ) (upd H p o) := fun a u n e => by
  have ne : a ≠ p := ne_of_none e np
  exact ⟨fun z => (ow_with.mp z).elim n ne, by rw [upd_ne ne]; exact e⟩
/-- a new object, not yet anybody's -/
theorem RS.withNew {o : HO} (rs : RS K Ex Oc H d σ) (np : H p = none) : RS K Ex (With Oc p) (upd H p o) d σ := by
  have nw := rs.nOw np
  refine ⟨rs.len, fun i w h => ?_, fun i s w h1 h2 => ?_, rs.sep, fun a h => ?_⟩
  · obtain ⟨v, e, r⟩ := rs.val i w h
    exact ⟨v, e, r.mono (ke_new np) fun _ _ z => z⟩
  · obtain ⟨q, e, n, ob⟩ := rs.own i s w h1 h2
    have ne : q ≠ p := fun z => nw (.inr ⟨i, s, w, h1, h2, by rw [← z]; exact e⟩)
    exact ⟨q, e, fun z => z.elim n ne, ob.mono (ke_new np) (fun _ _ z => z) (upd_ne ne)⟩
  · rcases h with h | h
    · obtain ⟨u, e⟩ := rs.oc a h
      have ne : a ≠ p := ne_of_none e np
      exact ⟨u, by rw [upd_ne ne]; exact e⟩
    · rw [h]; exact ⟨o, upd_same⟩
/-- an object of somebody else's is written -/
theorem RS.poke {o : HO} (rs : RS K Ex Oc H d σ) (hp : Oc p) : RS K Ex Oc (upd H p o) d σ := by
  have ke : Ke (Ow Oc d σ) H (Ow Oc d σ) (upd H p o) := fun a u n e => ⟨n, by rw [upd_ne fun z => n (.inl (by rw [z]; exact hp))]; exact e⟩
  refine ⟨rs.len, fun i w h => ?_, fun i s w h1 h2 => ?_, rs.sep, fun a h => ?_⟩
  · obtain ⟨v, e, r⟩ := rs.val i w h
    exact ⟨v, e, r.mono ke fun _ _ z => z⟩
  · obtain ⟨q, e, n, ob⟩ := rs.own i s w h1 h2
    exact ⟨q, e, n, ob.mono ke (fun _ _ z => z) (upd_ne fun z => n (by rw [z]; exact hp))⟩
  · by_cases e : a = p
    · rw [e]; exact ⟨o, upd_same⟩
    · rw [upd_ne e]; exact rs.oc a h
theorem RS.less (rs : RS K Ex (With Oc p) H d σ) : RS K Ex Oc H d σ := by
  refine ⟨rs.len, fun i w h => ?_, fun i s w h1 h2 => ?_, rs.sep, fun a h => rs.oc a (.inl h)⟩
  · obtain ⟨v, e, r⟩ := rs.val i w h
    exact ⟨v, e, r.mono ke_with fun _ _ z => z⟩
  · obtain ⟨q, e, n, ob⟩ := rs.own i s w h1 h2
    exact ⟨q, e, fun z => n (.inl z), ob.mono ke_with (fun _ _ z => z) rfl⟩
end

/-! ### expressions whose value is a new object that nobody else holds -/
def tF (X : Cx) (Y : Yx) (pu : Bool) (m : M W) : TE := fun σ H Q => ∃ Oc d, RS X.K Y.Ex Oc H d σ ∧ Po X Y pu Oc σ d H (m d) fun w d' H' => ∀ p, H p = none → RS X.K Y.Ex (With Oc p) H' d' σ → Ob X.K Y.Ex (Ow (With Oc p) d' σ) H' p w → Q (.ref p) H'
structure DF (X : Cx) (Y : Yx) (pu : Bool) (e : Expr) (m : M W) : Prop where
  pe : PE X e (tF X Y pu m)
theorem RS.nMine {K : PySem.W.Frag} {Ex : Addr → Nat → Prop} {Oc : Addr → Prop} {H : Hp} {d : SD} {σ : St} {p : Addr} (rs : RS K Ex Oc H d σ) (h : Oc p) : ¬ Mine d σ p := fun ⟨i, s, w, h1, h2, h3⟩ => by
  obtain ⟨q, e, n, _⟩ := rs.own i s w h1 h2
  rw [h3] at e; cases e
  exact n h
section
variable {X : Cx} {Y : Yx}
theorem tF_of {pu : Bool} {m : M W} (σ : St) (H : Hp) (Q : VK) (h : tE X Y pu m σ H Q) : tF X Y pu m σ H Q := by
  obtain ⟨Oc, d, rs, h⟩ := h
  refine ⟨Oc, d, rs, h.imp fun w d1 H1 g1 k p np rs1 ob => k _ ?_⟩
  refine (ob.mono ke_with (fun _ _ z => z) rfl).rp fun z => ?_
  rcases z with z | z
  · obtain ⟨o, e⟩ := rs.oc p z
    rw [np] at e; cases e
  · exact rs1.nMine (.inr rfl) z
theorem DF.e {pu : Bool} {e : Expr} {m : M W} (h : DF X Y pu e m) : DE X Y pu e m := ⟨pe_weak h.pe tF_of⟩
def mLst (a : M (List W)) : M W := fun d => (a d).bind fun ws d1 => if ws.length ≤ sizeLine then .ok (.list ws) d1 else .bad
def mTup (a : M (List W)) : M W := fun d => (a d).bind fun ws d1 => if ws.length ≤ sizeLine then .ok (.tuple ws) d1 else .bad
theorem d_tup {pu : Bool} {es : List Expr} {j : Nat} {pos : Pos} {a : M (List W)} (h : DL X Y pu es a) : DE X Y pu (.Tuple es j pos) (mTup a) := ⟨by
  refine pe_weak (pe_tup h.pa) fun σ H Q h => ?_
  obtain ⟨Oc, d, rs, h⟩ := h
  refine ⟨Oc, d, rs, (Po.bind1 h).imp fun ws d1 H1 g1 h1 v r => ?_⟩
  by_cases z : ws.length ≤ sizeLine
  · rw [if_pos z] at h1
    refine ⟨by rw [r.length]; exact z, fun p np => ?_⟩
    have sm : Same H1 (upd H1 p (.tup v)) := same_new np
    exact h1 _ (.same g1.rs sm) _ (.tup (.inl ⟨g1.rs.nOw np, upd_same⟩) (r.mono (fun a u n e => ⟨n, sm a u e⟩) fun _ _ z => z))
  · rw [if_neg z] at h1; exact h1.elim⟩
theorem df_lst {pu : Bool} {es : List Expr} {pos : Pos} {a : M (List W)} (h : DL X Y pu es a) : DF X Y pu (.List es pos) (mLst a) := ⟨by
  refine pe_weak (pe_lst h.pa) fun σ H Q h => ?_
  obtain ⟨Oc, d, rs, h⟩ := h
  refine ⟨Oc, d, rs, (Po.bind1 h).imp fun ws d1 H1 g1 h1 v r => ?_⟩
  by_cases z : ws.length ≤ sizeLine
  · rw [if_pos z] at h1
    refine ⟨by rw [r.length]; exact z, fun p np => ?_⟩
    exact h1 _ (.same g1.rs (same_new np)) p (g1.free np) (g1.rs.withNew np) ⟨v, upd_same, r.mono (ke_new np) fun _ _ z => z⟩
  · rw [if_neg z] at h1; exact h1.elim⟩
end
/-- name = a new object of its own -/
def storeOwn (i : Nat) (w : W) (d : SD) : Option SD := match d[i]? with
  | some (some (.par _)) => none
  | some _ => some (d.set i (some (.own w)))
  | none => none
def mAsgOwn (i : Nat) (a : M W) : MS := fun d => (a d).toS fun w d1 => sOpt (storeOwn i w d1)
theorem storeOwn_lt {i : Nat} {w : W} {d d' : SD} (h : storeOwn i w d = some d') : i < d.length ∧ d' = d.set i (some (.own w)) ∧ ∀ u, d[i]? ≠ some (some (.par u)) := by
  unfold storeOwn at h
  cases q : d[i]? with
  | none => rw [q] at h; cases h
  | some x =>
    obtain ⟨lt, _⟩ := List.getElem?_eq_some_iff.mp q
    rw [q] at h
    rcases x with _ | (w' | w' | w')
    · exact ⟨lt, (Option.some.inj h).symm, fun u e => nomatch e⟩
    · exact ⟨lt, (Option.some.inj h).symm, fun u e => nomatch e⟩
    · exact ⟨lt, (Option.some.inj h).symm, fun u e => nomatch e⟩
    · cases h
theorem storeOwn_go {K : PySem.W.Frag} {Ex : Addr → Nat → Prop} {Oc : Addr → Prop} {H : Hp} {d d' : SD} {σ : St} {i : Nat} {w : W} {p : Addr} (no : ¬ Oc p) (rs : RS K Ex (With Oc p) H d σ) (ob : Ob K Ex (Ow (With Oc p) d σ) H p w) (h : storeOwn i w d = some d') :
    RS K Ex Oc H d' (σ.set i (some (.ref p))) ∧ (∀ a, Mine d' (σ.set i (some (.ref p))) a → Mine d σ a ∨ a = p) ∧ ∀ (j : Nat) (u : W), d[j]? = some (some (.par u)) → (∃ w', d'[j]? = some (some (.par w'))) ∧ (σ.set i (some (V.ref p)))[j]? = σ[j]? := by
  obtain ⟨lt, rfl, npar⟩ := storeOwn_lt h
  have ltσ : i < σ.length := by rw [← rs.len]; exact lt
  have mi : ∀ a, Mine (d.set i (some (.own w))) (σ.set i (some (.ref p))) a → Mine d σ a ∨ a = p := by
    rintro a ⟨j, s, u, h1, h2, h3⟩
    by_cases e : i = j
    · subst e
      rw [List.getElem?_set_self ltσ] at h3
      cases h3; exact .inr rfl
    · rw [List.getElem?_set_ne e] at h1 h3
      exact .inl ⟨j, s, u, h1, h2, h3⟩
  have ke : Ke (Ow (With Oc p) d σ) H (Ow Oc (d.set i (some (.own w))) (σ.set i (some (.ref p)))) H := fun a u n e => ⟨fun z => n (by
    rcases z with z | z
    · exact .inl (.inl z)
    · rcases mi a z with z | z
      · exact .inr z
      · exact .inl (.inr z)), e⟩
  have np : ∀ (j : Nat) (s : Slot) (u : W), d[j]? = some (some s) → Slot.mine? s = some u → σ[j]? ≠ some (some (.ref p)) := fun j s u e1 e2 e3 => rs.nMine (.inr rfl) ⟨j, s, u, e1, e2, e3⟩
  refine ⟨⟨by rw [List.length_set, List.length_set]; exact rs.len, fun j u e => ?_, fun j s u e1 e2 => ?_, fun j k s t u u' q ne e1 e2 e3 e4 e5 => ?_, fun a h => rs.oc a (.inl h)⟩, mi, fun j u e => ?_⟩
  · by_cases ej : i = j
    · subst ej
      rw [List.getElem?_set_self lt] at e
      cases e
    · rw [List.getElem?_set_ne ej] at e
      obtain ⟨v, e', r⟩ := rs.val j u e
      exact ⟨v, by rw [List.getElem?_set_ne ej]; exact e', r.mono ke fun _ _ z => z⟩
  · by_cases ej : i = j
    · subst ej
      rw [List.getElem?_set_self lt] at e1
      cases e1; cases e2
      exact ⟨p, List.getElem?_set_self ltσ, no, ob.mono ke (fun _ _ z => z) rfl⟩
    · rw [List.getElem?_set_ne ej] at e1
      obtain ⟨q, e', n, ob'⟩ := rs.own j s u e1 e2
      exact ⟨q, by rw [List.getElem?_set_ne ej]; exact e', fun z => n (.inl z), ob'.mono ke (fun _ _ z => z) rfl⟩
  · by_cases ej : i = j
    · subst ej
      rw [List.getElem?_set_self ltσ] at e5
      cases e5
      have ek : i ≠ k := ne
      rw [List.getElem?_set_ne ek] at e3 ⊢
      exact np k t u' e3 e4
    · rw [List.getElem?_set_ne ej] at e1 e5
      by_cases ek : i = k
      · subst ek
        rw [List.getElem?_set_self ltσ]
        intro z
        cases z
        exact np j s u e1 e2 e5
      · rw [List.getElem?_set_ne ek] at e3 ⊢
        exact rs.sep j k s t u u' q ne e1 e2 e3 e4 e5
  · have ne : i ≠ j := fun z => by
      subst z
      exact npar u e
    exact ⟨⟨u, by rw [List.getElem?_set_ne ne]; exact e⟩, by rw [List.getElem?_set_ne ne]⟩
theorem ds_ofF {X : Cx} {Y : Yx} {pu : Bool} {i : Nat} {st : Stmt} {m : M W} (hp : PS X st (tAsg (tF X Y pu m) (gName i))) : DS X Y st (mAsgOwn i m) := by
  refine ⟨ps_weak hp fun D σ H h => ?_⟩
  obtain ⟨Oc, d, rs, h⟩ := h
  cases q0 : m d with
  | bad => unfold mAsgOwn at h; rw [q0] at h; exact h.elim
  | exc c d1 =>
    unfold mAsgOwn at h; rw [q0] at h
    refine ⟨Oc, d, rs, ?_⟩
    rw [q0]
    exact fun H1 g1 => h σ H1 g1.toS
  | ok w d1 =>
    unfold mAsgOwn at h; rw [q0] at h
    refine ⟨Oc, d, rs, ?_⟩
    rw [q0]
    intro H1 g1 p np rs1 ob
    have h : PoS X Y Oc d σ H (sOpt (storeOwn i w d1)) D := h
    cases q : storeOwn i w d1 with
    | none => rw [q] at h; exact h.elim
    | some d2 =>
      rw [q] at h
      have no : ¬ Oc p := fun z => by
        obtain ⟨o, e⟩ := rs.oc p z
        rw [np] at e; cases e
      obtain ⟨a1, a2, a3⟩ := storeOwn_go no rs1 ob q
      refine h _ H1 ⟨a1, g1.fr, fun a z => ?_, fun j u e => ?_⟩
      · rcases a2 a z with z | z
        · exact .inl (g1.sim.mine.mp z)
        · rw [z]; exact .inr np
      · obtain ⟨⟨w', e'⟩, _⟩ := g1.toS.par j u e
        obtain ⟨b1, b2⟩ := a3 j w' e'
        exact ⟨b1, b2⟩
theorem ds_setOwn {X : Cx} {Y : Yx} {pu : Bool} {i : Nat} {x : Str} {e : Expr} {pos pos' : Pos} {m : M W} (hN : X.N.Nodup) (he : DF X Y pu e m) (hi : X.N[i]? = some x := by rfl) (hx : Loc X.env.scope x := by first | exact .inl rfl | exact .inr rfl) (hs : swapsWith e (some (.Name x pos')) pos.line X.env = pure false := by rfl)
    (hf : X.fn x = true ∨ X.env.scope.names.lookup x = some .local := by first | exact .inl rfl | exact .inr rfl | assumption) : DS X Y (.Assign [.Name x pos'] e pos) (mAsgOwn i m) := ds_ofF (ps_set hN hi hx he.pe hs hf)

/-! ### list comprehensions -/
def wipeD (d : SD) : List Nat → SD
  | [] => d
  | v :: vs => (wipeD d vs).set v none
def backD (d0 : SD) : List Nat → SD → SD
  | [], d => d
  | v :: vs, d => (backD d0 vs d).set v (d0.getD v none)
def cleanD (d : SD) : List Nat → Bool
  | [] => true
  | v :: vs => (match d[v]? with
    | some (some (.own _)) => false
    | some (some (.par _)) => false
    | _ => true) && cleanD d vs
def lcD (vs : List Nat) (g : GW) (t : M Bool) (e : M W) : List W → M (List W)
  | [], d => .ok [] d
  | w :: ws, d => match g w (wipeD d vs) with
    | none => .bad
    | some d1 => (t d1).bind fun b d2 => if b = true then (e d2).bind fun y d3 => (lcD vs g t e ws d3).bind fun ys d4 => .ok (y :: ys) d4 else lcD vs g t e ws d2
def mLc (vs : List Nat) (it : M (List W)) (g : GW) (t : M Bool) (e : M W) : M W := fun d => (it d).bind fun ws d1 => if cleanD d1 vs = true ∧ ws.length ≤ sizeLine then
  (match lcD vs g t e ws d1 with
    | .ok ys d2 => .ok (.list ys) (backD d1 vs d2)
    | _ => .bad) else .bad
theorem wipeD_length (d : SD) : ∀ vs : List Nat, (wipeD d vs).length = d.length
  | [] => rfl
  | v :: vs => by unfold wipeD; rw [List.length_set, wipeD_length d vs]
theorem backD_length (d0 d : SD) : ∀ vs : List Nat, (backD d0 vs d).length = d.length
  | [] => rfl
  | v :: vs => by unfold backD; rw [List.length_set, backD_length d0 d vs]
theorem wipeD_out {d : SD} {j : Nat} : ∀ {vs : List Nat}, j ∉ vs → (wipeD d vs)[j]? = d[j]?
  | [], _ => rfl
  | v :: vs, h => by
    unfold wipeD
    rw [List.getElem?_set_ne fun e => h (by rw [e]; exact List.mem_cons_self)]
    exact wipeD_out fun z => h (List.mem_cons_of_mem _ z)
theorem wipeD_in {d : SD} {j : Nat} : ∀ {vs : List Nat}, j ∈ vs → j < d.length → (wipeD d vs)[j]? = some none
  | [], h, _ => by cases h
  | v :: vs, h, l => by
    unfold wipeD
    by_cases e : v = j
    · subst e
      exact List.getElem?_set_self (by rw [wipeD_length]; exact l)
    · rw [List.getElem?_set_ne e]
      exact wipeD_in ((List.mem_cons.mp h).resolve_left fun z => e z.symm) l
theorem backD_out {d0 d : SD} {j : Nat} : ∀ {vs : List Nat}, j ∉ vs → (backD d0 vs d)[j]? = d[j]?
  | [], _ => rfl
  | v :: vs, h => by
    unfold backD
    rw [List.getElem?_set_ne fun e => h (by rw [e]; exact List.mem_cons_self)]
    exact backD_out fun z => h (List.mem_cons_of_mem _ z)
theorem backD_in {d0 d : SD} {j : Nat} : ∀ {vs : List Nat}, j ∈ vs → j < d.length → d0.length = d.length → (backD d0 vs d)[j]? = d0[j]?
  | [], h, _, _ => by cases h
  | v :: vs, h, l, ll => by
    unfold backD
    by_cases e : v = j
    · subst e
      rw [List.getElem?_set_self (by rw [backD_length]; exact l)]
      have l0 : v < d0.length := by rw [ll]; exact l
      rw [List.getElem?_eq_getElem l0]
      rw [List.getD_eq_getElem?_getD, List.getElem?_eq_getElem l0]
      rfl
    · rw [List.getElem?_set_ne e]
      exact backD_in ((List.mem_cons.mp h).resolve_left fun z => e z.symm) l ll
theorem cleanD_at {d : SD} {j : Nat} {s : Slot} {w : W} (e1 : d[j]? = some (some s)) (e2 : Slot.mine? s = some w) : ∀ {vs : List Nat}, cleanD d vs = true → j ∉ vs
  | [], _ => by simp
  | v :: vs, h => by
    unfold cleanD at h
    rw [Bool.and_eq_true] at h
    intro hm
    rcases List.mem_cons.mp hm with e | hm
    · subst e
      rw [e1] at h
      cases s with
      | val _ => cases e2
      | own _ => exact absurd h.1 (by simp)
      | par _ => exact absurd h.1 (by simp)
    · exact cleanD_at e1 e2 h.2 hm
theorem cleanD_of {d : SD} : ∀ {vs : List Nat}, (∀ j ∈ vs, ∀ s, d[j]? = some (some s) → Slot.mine? s = none) → cleanD d vs = true
  | [], _ => rfl
  | v :: vs, h => by
    unfold cleanD
    rw [cleanD_of fun j hj => h j (List.mem_cons_of_mem _ hj), Bool.and_true]
    have hv := h v List.mem_cons_self
    cases q : d[v]? with
    | none => rfl
    | some x =>
      rcases x with _ | (w | w | w)
      · rfl
      · rfl
      · cases hv _ q
      · cases hv _ q
theorem wipe_in {σ : St} {j : Nat} : ∀ {vs : List Nat}, j ∈ vs → j < σ.length → (wipe σ vs)[j]? = some none
  | [], h, _ => by cases h
  | v :: vs, h, l => by
    unfold wipe
    by_cases e : v = j
    · subst e
      exact List.getElem?_set_self (by rw [wipe_length]; exact l)
    · rw [List.getElem?_set_ne e]
      exact wipe_in ((List.mem_cons.mp h).resolve_left fun z => e z.symm) l
theorem wipe_ext {σ σ' : St} {vs : List Nat} (hl : σ'.length = σ.length) (h : ∀ j, j ∉ vs → σ'[j]? = σ[j]?) : wipe σ' vs = wipe σ vs := by
  refine List.ext_getElem? fun j => ?_
  by_cases m : j ∈ vs
  · by_cases l : j < σ.length
    · rw [wipe_in m l, wipe_in m (by rw [hl]; exact l)]
    · rw [List.getElem?_eq_none (by rw [wipe_length, hl]; omega), List.getElem?_eq_none (by rw [wipe_length]; omega)]
  · rw [wipe_out m, wipe_out m, h j m]
section
variable {K : PySem.W.Frag} {Ex : Addr → Nat → Prop} {Oc : Addr → Prop} {H H' : Hp} {d d' : SD} {σ σ' : St} {vs : List Nat}
theorem mine_wipe (hl : d.length = σ.length) (hc : cleanD d vs = true) {a : Addr} : Mine (wipeD d vs) (wipe σ vs) a ↔ Mine d σ a := by
  constructor
  · rintro ⟨j, s, w, h1, h2, h3⟩
    have m : j ∉ vs := fun m => by
      obtain ⟨lt, _⟩ := List.getElem?_eq_some_iff.mp h1
      rw [wipeD_in m (by rw [wipeD_length] at lt; exact lt)] at h1
      cases h1
    rw [wipeD_out m] at h1
    rw [wipe_out m] at h3
    exact ⟨j, s, w, h1, h2, h3⟩
  · rintro ⟨j, s, w, h1, h2, h3⟩
    have m := cleanD_at h1 h2 hc
    exact ⟨j, s, w, by rw [wipeD_out m]; exact h1, h2, by rw [wipe_out m]; exact h3⟩
theorem RS.wipe (rs : RS K Ex Oc H d σ) (hc : cleanD d vs = true) : RS K Ex Oc H (wipeD d vs) (wipe σ vs) := by
  have ke : Ke (Ow Oc d σ) H (Ow Oc (wipeD d vs) (L2.wipe σ vs)) H := fun a u n e => ⟨fun z => n (z.imp id (mine_wipe rs.len hc).mp), e⟩
  have out : ∀ {j : Nat} {s : Slot}, (wipeD d vs)[j]? = some (some s) → j ∉ vs := fun {j s} e m => by
    obtain ⟨lt, _⟩ := List.getElem?_eq_some_iff.mp e
    rw [wipeD_in m (by rw [wipeD_length] at lt; exact lt)] at e
    cases e
  refine ⟨by rw [wipeD_length, wipe_length]; exact rs.len, fun j u e => ?_, fun j s u e1 e2 => ?_, fun j k s t u u' q ne e1 e2 e3 e4 e5 => ?_, rs.oc⟩
  · have m := out e
    rw [wipeD_out m] at e
    obtain ⟨v, e', r⟩ := rs.val j u e
    exact ⟨v, by rw [wipe_out m]; exact e', r.mono ke fun _ _ z => z⟩
  · have m := out e1
    rw [wipeD_out m] at e1
    obtain ⟨q, e', n, ob⟩ := rs.own j s u e1 e2
    exact ⟨q, by rw [wipe_out m]; exact e', n, ob.mono ke (fun _ _ z => z) rfl⟩
  · have m := out e1
    have m2 := out e3
    rw [wipeD_out m] at e1
    rw [wipe_out m] at e5
    rw [wipeD_out m2] at e3
    rw [wipe_out m2]
    exact rs.sep j k s t u u' q ne e1 e2 e3 e4 e5
end
end Qd
end
section
set_option Elab.async false
set_option linter.all false
set_option maxRecDepth 100000
/-! The rule for a list comprehension. -/
namespace Qd
open PySem PySem.Spec PyProof.Rows L2

structure DTs (X : Cx) (Y : Yx) (pu : Bool) (ifs : List Expr) (m : M Bool) : Prop where
  pts : PTs X ifs (tT X Y pu m)
def mYes : M Bool := fun d => .ok true d
section
variable {X : Cx} {Y : Yx}
theorem pts_weak {e : List Expr} {t t' : TT} (h : PTs X e t) (w : ∀ σ H Q, t' σ H Q → t σ H Q) : PTs X e t' := ⟨fun pins s σ H Q I q => h.run pins s σ H Q I (w σ H Q q)⟩
theorem dts_nil : DTs X Y true [] mYes := ⟨pts_weak pts_nil fun σ H Q h => by
  obtain ⟨Oc, d, rs, h⟩ := h
  exact h H (.refl rs) rs⟩
theorem dts_one {pu : Bool} {c : Expr} {t : M Bool} (h : DT X Y pu c t) : DTs X Y pu [c] t := ⟨pts_one h.pt⟩
end
/-- nothing is raised in a comprehension's block -/
abbrev Yx.blk (Y : Yx) : Yx := { Y with W := fun _ _ _ _ => False }

section
variable {K : PySem.W.Frag} {Ex : Addr → Nat → Prop} {Oc : Addr → Prop}
/-- between two turns: d₁, σ, H₁ ahead of the first; D the new list, acc its data -/
structure LcI (pu : Bool) (K : PySem.W.Frag) (Ex : Addr → Nat → Prop) (Oc : Addr → Prop) (S : (Addr → Prop) → Hp → Prop) (vs : List Nat) (d₁ : SD) (σ : St) (H₁ : Hp) (D : Addr) (acc : List W) (d : SD) (H : Hp) : Prop where
  rs : RS K Ex (With Oc D) H (wipeD d vs) (wipe σ vs)
  cl : cleanD d vs = true
  len : d.length = d₁.length
  out : ∀ j : Nat, j ∉ vs → SlotLike d₁[j]? d[j]?
  fr : ∀ a o, H₁ a = some o → ¬ Mine d₁ σ a → H a = some o
  acc : ∃ av, H D = some (.lst av) ∧ RpA K Ex (Ow (With Oc D) (wipeD d vs) (wipe σ vs)) H av acc
  st : S (Ow (With Oc D) (wipeD d vs) (wipe σ vs)) H
  pur : pu = true → (∀ a o, H₁ a = some o → H a = some o) ∧ ∀ j : Nat, j ∉ vs → d[j]? = d₁[j]?
theorem mine_out {d d' : SD} {σ σ' : St} {vs : List Nat} {a : Addr} (hc : cleanD d' vs = true) (hd : ∀ j : Nat, j ∉ vs → SlotLike d[j]? d'[j]?) (hσ : ∀ j : Nat, j ∉ vs → σ'[j]? = σ[j]?) (h : Mine d' σ' a) : Mine d σ a := by
  obtain ⟨j, s, w, h1, h2, h3⟩ := h
  have m := cleanD_at h1 h2 hc
  obtain ⟨s', w', e1, e2⟩ := (hd j m).mine.mpr ⟨s, w, h1, h2⟩
  exact ⟨j, s', w', e1, e2, by rw [← hσ j m]; exact h3⟩
/-- the end: the block's names are given back -/
theorem LcI.back {pu : Bool} {S : (Addr → Prop) → Hp → Prop} {vs : List Nat} {d₁ d : SD} {σ : St} {H₁ H : Hp} {D : Addr} {acc : List W} (rs₁ : RS K Ex Oc H₁ d₁ σ) (cl₁ : cleanD d₁ vs = true) (nD : H₁ D = none) (I : LcI pu K Ex Oc S vs d₁ σ H₁ D acc d H) :
    RS K Ex (With Oc D) H (backD d₁ vs d) σ ∧ Sim d₁ (backD d₁ vs d) ∧ (∀ a, Ow (With Oc D) (backD d₁ vs d) σ a → Ow (With Oc D) (wipeD d vs) (wipe σ vs) a) := by
  have sim : Sim d₁ (backD d₁ vs d) := by
    refine ⟨by rw [backD_length]; exact I.len.symm, fun j => ?_⟩
    by_cases m : j ∈ vs
    · by_cases l : j < d.length
      · rw [backD_in m l I.len.symm]; exact .refl _
      · rw [List.getElem?_eq_none (by rw [← I.len]; omega), List.getElem?_eq_none (by rw [backD_length]; omega)]; exact .refl _
    · rw [backD_out m]; exact I.out j m
  have mi : ∀ a, Mine (backD d₁ vs d) σ a → Mine (wipeD d vs) (wipe σ vs) a := by
    rintro a ⟨j, s, w, h1, h2, h3⟩
    have m : j ∉ vs := by
      obtain ⟨s', w', e1, e2⟩ := (sim.2 j).mine.mpr ⟨s, w, h1, h2⟩
      exact cleanD_at e1 e2 cl₁
    rw [backD_out m] at h1
    exact ⟨j, s, w, by rw [wipeD_out m]; exact h1, h2, by rw [wipe_out m]; exact h3⟩
  have ow : ∀ a, Ow (With Oc D) (backD d₁ vs d) σ a → Ow (With Oc D) (wipeD d vs) (wipe σ vs) a := fun a z => z.imp id (mi a)
  have mi1 : ∀ a, Mine (wipeD d vs) (wipe σ vs) a → Mine d₁ σ a := fun a z => by
    obtain ⟨j, s, w, h1, h2, h3⟩ := z
    have m : j ∉ vs := fun m => by
      obtain ⟨lt, _⟩ := List.getElem?_eq_some_iff.mp h1
      rw [wipeD_in m (by rw [wipeD_length] at lt; exact lt)] at h1
      cases h1
    rw [wipeD_out m] at h1
    rw [wipe_out m] at h3
    obtain ⟨s', w', e1, e2⟩ := (I.out j m).mine.mpr ⟨s, w, h1, h2⟩
    exact ⟨j, s', w', e1, e2, h3⟩
  have ke : Ke (Ow (With Oc D) (wipeD d vs) (wipe σ vs)) H (Ow (With Oc D) (backD d₁ vs d) σ) H := fun a u n e => ⟨fun z => n (ow a z), e⟩
  -- from the start: for the names that the block hid
  have ke1 : Ke (Ow Oc d₁ σ) H₁ (Ow (With Oc D) (backD d₁ vs d) σ) H := fun a u n e => by
    have na : a ≠ D := ne_of_none e nD
    refine ⟨fun z => ?_, I.fr a u e fun z => n (.inr z)⟩
    rcases z with (z | z) | z
    · exact n (.inl z)
    · exact na z
    · exact n (.inr (sim.mine.mp z))
  refine ⟨⟨by rw [backD_length, I.len]; exact rs₁.len, fun j u e => ?_, fun j s u e1 e2 => ?_, fun j k s t u u' q ne e1 e2 e3 e4 e5 => ?_, fun a h => I.rs.oc a h⟩, sim, ow⟩
  · by_cases m : j ∈ vs
    · have l : j < d.length := by
        obtain ⟨lt, _⟩ := List.getElem?_eq_some_iff.mp e
        rw [backD_length] at lt; exact lt
      rw [backD_in m l I.len.symm] at e
      obtain ⟨v, e', r⟩ := rs₁.val j u e
      exact ⟨v, e', r.mono ke1 fun _ _ z => z⟩
    · rw [backD_out m] at e
      obtain ⟨v, e', r⟩ := I.rs.val j u (by rw [wipeD_out m]; exact e)
      exact ⟨v, by rw [wipe_out m] at e'; exact e', r.mono ke fun _ _ z => z⟩
  · have m : j ∉ vs := by
      obtain ⟨s', w', f1, f2⟩ := (sim.2 j).mine.mpr ⟨s, u, e1, e2⟩
      exact cleanD_at f1 f2 cl₁
    rw [backD_out m] at e1
    obtain ⟨q, e', n, ob⟩ := I.rs.own j s u (by rw [wipeD_out m]; exact e1) e2
    exact ⟨q, by rw [wipe_out m] at e'; exact e', n, ob.mono ke (fun _ _ z => z) rfl⟩
  · have m : j ∉ vs := by
      obtain ⟨s', w', f1, f2⟩ := (sim.2 j).mine.mpr ⟨s, u, e1, e2⟩
      exact cleanD_at f1 f2 cl₁
    have m2 : k ∉ vs := by
      obtain ⟨s', w', f1, f2⟩ := (sim.2 k).mine.mpr ⟨t, u', e3, e4⟩
      exact cleanD_at f1 f2 cl₁
    rw [backD_out m] at e1
    rw [backD_out m2] at e3
    have z := I.rs.sep j k s t u u' q ne (by rw [wipeD_out m]; exact e1) e2 (by rw [wipeD_out m2]; exact e3) e4 (by rw [wipe_out m]; exact e5)
    rw [wipe_out m2] at z
    exact z
end

section
variable {X : Cx} {Y : Yx}
theorem t_lc {pi pt pe : Bool} {tg iter : Expr} {mi : M (List W)} {g : GW} {is vs : List Nat} {t : M Bool} {e : M W} {wi : TI} (hwi : ∀ σ H R, tI X Y pi mi σ H R → wi σ H R) (ho : ∀ w d d', g w d = some d' → Only is d d') (his : ∀ i ∈ is, i ∈ vs)
    (σ : St) (H : Hp) (Q : VK) (h : tF X Y (pi && (pt && pe)) (mLc vs mi g t e) σ H Q) : tLc wi (tG X.K Y.blk g is) (tT X Y.blk pt t) (tE X Y.blk pe e) vs σ H Q := by
  obtain ⟨Oc, d, rs, h⟩ := h
  refine hwi σ H _ ⟨Oc, d, rs, (Po.bind h).imp fun ws d₁ H₁ g₁ h₁ J S wk hS D nD => ?_⟩
  have hcl : cleanD d₁ vs = true ∧ ws.length ≤ sizeLine := by
    by_cases z : cleanD d₁ vs = true ∧ ws.length ≤ sizeLine
    · exact z
    · rw [if_neg z] at h₁; exact h₁.elim
  rw [if_pos hcl] at h₁
  obtain ⟨cl, hlen⟩ := hcl
  cases q : lcD vs g t e ws d₁ with
  | bad => rw [q] at h₁; exact h₁.elim
  | exc c d2 => rw [q] at h₁; exact h₁.elim
  | ok ys d₂ =>
    rw [q] at h₁
    have h₁ : ∀ H', Go X.K Y.Ex Oc (pt && pe) σ d₁ H₁ (backD d₁ vs d₂) H' → ∀ p, H p = none → RS X.K Y.Ex (With Oc p) H' (backD d₁ vs d₂) σ → Ob X.K Y.Ex (Ow (With Oc p) (backD d₁ vs d₂) σ) H' p (.list ys) → Q (.ref p) H' := h₁
    have start : LcI (pt && pe) X.K Y.Ex Oc S vs d₁ σ H₁ D [] d₁ (upd H₁ D (.lst [])) := by
      have r2 := g₁.rs.withNew (o := .lst []) nD
      refine ⟨r2.wipe cl, cl, rfl, fun _ _ => .refl _, fun a o e _ => by rw [upd_ne (ne_of_none e nD)]; exact e, ⟨[], upd_same, .nil⟩, wk.keep _ _ _ _ ?_ hS, fun _ => ⟨fun a o e => by rw [upd_ne (ne_of_none e nD)]; exact e, fun _ _ => rfl⟩⟩
      intro a u n e'
      have na : a ≠ D := ne_of_none e' nD
      refine ⟨fun z => ?_, by rw [upd_ne na]; exact e'⟩
      rcases z with (z | z) | z
      · exact n (.inl z)
      · exact na z
      · exact n (.inr ((mine_wipe g₁.rs.len cl).mp z))
    refine ⟨fun i m H' => m = ws.length - i ∧ i ≤ ws.length ∧ ∃ acc ys' d', LcI (pt && pe) X.K Y.Ex Oc S vs d₁ σ H₁ D acc d' H' ∧ acc.length ≤ i ∧ lcD vs g t e (ws.drop i) d' = .ok ys' d₂ ∧ acc ++ ys' = ys, ⟨ws.length, by simp, Nat.zero_le _, [], ys, d₁, start, Nat.le_refl _, q, rfl⟩, ?_⟩
    rintro i m H' ⟨rfl, hi, acc, ys', d', I, hacc, hq, hys⟩
    by_cases lt : i < ws.length
    · refine .inr ⟨wk.go _ _ _ I.st lt, fun H2 => ∃ acc ys' d', LcI (pt && pe) X.K Y.Ex Oc S vs d₁ σ H₁ D acc d' H2 ∧ acc.length ≤ i + 1 ∧ lcD vs g t e (ws.drop (i + 1)) d' = .ok ys' d₂ ∧ acc ++ ys' = ys, fun H2 z => ⟨ws.length - (i + 1), by omega, rfl, lt, z⟩, fun x H2 y => ?_⟩
      obtain ⟨sm, hr⟩ := wk.yld _ H' i x H2 (fun a z => I.rs.there z) I.st y
      have rx := hr _ (List.getElem?_eq_getElem lt)
      rw [List.drop_eq_getElem_cons lt] at hq
      unfold lcD at hq
      cases qg : g ws[i] (wipeD d' vs) with
      | none => rw [qg] at hq; cases hq
      | some d1' =>
        rw [qg] at hq
        dsimp only at hq
        have go2 := Go.same (pu := true) I.rs sm
        refine ⟨With Oc D, wipeD d' vs, _, d1', go2.rs, rx, qg, fun σ2 gs o1 => ?_⟩
        have only := ho _ _ _ qg
        have hσ2 : ∀ j : Nat, j ∉ vs → σ2[j]? = σ[j]? := fun j m => by rw [o1.2 j fun z => m (his j z), wipe_out m]
        have hσl : σ2.length = σ.length := by rw [o1.1, wipe_length]
        refine ⟨wipe_ext hσl hσ2, With Oc D, d1', gs.rs, ?_⟩
        have hD2 : ∃ av, H2 D = some (.lst av) ∧ RpA X.K Y.Ex (Ow (With Oc D) d1' σ2) H2 av acc := by
          obtain ⟨av, e1, e2⟩ := I.acc
          exact ⟨av, sm _ _ e1, (e2.mono go2.ke fun _ _ z => z).mono gs.ke fun _ _ z => z⟩
        have hS2 : S (Ow (With Oc D) d1' σ2) H2 := wk.keep _ _ _ _ gs.ke (wk.keep _ _ _ _ go2.ke I.st)
        have fr2 : ∀ a o, H₁ a = some o → ¬ Mine d₁ σ a → H2 a = some o := fun a o e n => sm a o (I.fr a o e n)
        have out1 : ∀ j : Nat, j ∉ vs → SlotLike d₁[j]? d1'[j]? := fun j m => by
          rw [only.2.1 j fun z => m (his j z), wipeD_out m]; exact I.out j m
        have cl1 : cleanD d1' vs = true := by
          refine cleanD_of fun j hj s e => ?_
          have l : j < d'.length := by
            obtain ⟨lt, _⟩ := List.getElem?_eq_some_iff.mp e
            rw [only.1, wipeD_length] at lt; exact lt
          rcases only.2.2 j with z | ⟨u, z⟩
          · rw [z, wipeD_in hj l] at e; cases e
          · rw [z] at e; cases e; rfl
        have len1 : d1'.length = d₁.length := by rw [only.1, wipeD_length]; exact I.len
        -- a later state within the turn is a state between two turns
        have pur1 : (pt && pe) = true → (∀ a o, H₁ a = some o → H2 a = some o) ∧ ∀ j : Nat, j ∉ vs → d1'[j]? = d₁[j]? := fun z => by
          obtain ⟨z1, z2⟩ := I.pur z
          exact ⟨fun a o e => sm a o (z1 a o e), fun j m => by rw [only.2.1 j fun z => m (his j z), wipeD_out m]; exact z2 j m⟩
        have mk : ∀ {pu : Bool} {d3 : SD} {H3 : Hp} {acc' : List W} {av' : List V}, ((pt && pe) = true → pu = true) → Go X.K Y.Ex (With Oc D) pu σ2 d1' H2 d3 H3 → RpA X.K Y.Ex (Ow (With Oc D) d3 σ2) H3 av' acc' → LcI (pt && pe) X.K Y.Ex Oc S vs d₁ σ H₁ D acc' d3 (upd H3 D (.lst av')) := fun {pu d3 H3 acc' av'} hpu g3 ra => by
          have out3 : ∀ j : Nat, j ∉ vs → SlotLike d₁[j]? d3[j]? := fun j m => (out1 j m).trans (g3.sim.2 j)
          have cl3 : cleanD d3 vs = true := by
            refine cleanD_of fun j hj s e => ?_
            cases hm : Slot.mine? s with
            | none => rfl
            | some w =>
              obtain ⟨s', w', f1, f2⟩ := (g3.sim.2 j).mine.mpr ⟨s, w, e, hm⟩
              exact absurd hj (cleanD_at f1 f2 cl1)
          have r3 := (g3.rs.wipe (vs := vs) cl3)
          rw [wipe_ext hσl hσ2] at r3
          have r4 := r3.poke (o := .lst av') (.inr rfl)
          have owl : ∀ a, Ow (With Oc D) (wipeD d3 vs) (wipe σ vs) a → Ow (With Oc D) d3 σ2 a := fun a z => by
            rw [← wipe_ext hσl hσ2] at z
            exact z.imp id (mine_wipe g3.rs.len cl3).mp
          have ke3 : Ke (Ow (With Oc D) d3 σ2) H3 (Ow (With Oc D) (wipeD d3 vs) (wipe σ vs)) (upd H3 D (.lst av')) := fun a u n e => ⟨fun z => n (owl a z), by rw [upd_ne fun z => n (.inl (.inr z))]; exact e⟩
          refine ⟨r4, cl3, by rw [← g3.sim.1]; exact len1, out3, fun a o e n => ?_, ⟨av', upd_same, ra.mono ke3 fun _ _ z => z⟩, wk.keep _ _ _ _ ke3 (wk.keep _ _ _ _ g3.ke hS2), fun z => ?_⟩
          · have na : a ≠ D := ne_of_none e nD
            rw [upd_ne na]
            exact g3.fr a o (fr2 a o e n) fun z => n (mine_out cl1 out1 hσ2 z)
          · obtain ⟨p1, p2⟩ := pur1 z
            obtain ⟨p3, p4⟩ := g3.pur (hpu z)
            subst p4
            exact ⟨fun a o e => by rw [upd_ne (ne_of_none e nD)]; exact p3 a o (p1 a o e), p2⟩
        cases qt : t d1' with
        | bad => rw [qt] at hq; cases hq
        | exc c d2' => rw [qt] at hq; cases hq
        | ok b d2' =>
          rw [qt] at hq
          dsimp only [Out.bind] at hq
          intro H3 g3 rs3
          obtain ⟨av, hD, ra⟩ := hD2
          have hD3 : H3 D = some (.lst av) := g3.fr D _ hD (gs.rs.nMine (.inr rfl))
          have ra3 := g3.rpA ra
          cases b with
          | false =>
            rw [if_neg Bool.false_ne_true] at hq
            refine iteF ?_
            have z := mk (fun z => (Bool.and_eq_true _ _ ▸ z).1) g3 ra3
            have e : upd H3 D (.lst av) = H3 := by
              funext b
              by_cases hb : b = D
              · rw [hb, upd_same, hD3]
              · rw [upd_ne hb]
            rw [e] at z
            exact ⟨acc, ys', d2', z, Nat.le_succ_of_le hacc, hq, hys⟩
          | true =>
            rw [if_pos rfl] at hq
            refine iteT ⟨With Oc D, d2', rs3, ?_⟩
            cases qe : e d2' with
            | bad => rw [qe] at hq; cases hq
            | exc c d3' => rw [qe] at hq; cases hq
            | ok yv d3' =>
              rw [qe] at hq
              dsimp only [Out.bind] at hq
              intro H4 g4 v rv
              have g34 := g3.trans g4
              have hD4 : H4 D = some (.lst av) := g34.fr D _ hD (gs.rs.nMine (.inr rfl))
              have ra4 := g4.rpA ra3
              cases ql : lcD vs g t e (List.drop (i + 1) ws) d3' with
              | bad => rw [ql] at hq; cases hq
              | exc c d4 => rw [ql] at hq; cases hq
              | ok ys2 d4 =>
                rw [ql] at hq
                cases hq
                refine ⟨av, hD4, ?_, acc ++ [yv], ys2, d3', mk id g34 (ra4.append (.cons rv .nil)), by rw [List.length_append]; exact Nat.succ_le_succ hacc, ql, by rw [List.append_assoc]; exact hys⟩
                rw [ra.length]
                exact Nat.lt_of_le_of_lt hacc (Nat.lt_of_lt_of_le lt hlen)
    · have ei : i = ws.length := by omega
      subst ei
      rw [List.drop_length] at hq
      cases hq
      rw [List.append_nil] at hys
      subst hys
      obtain ⟨r2, sim, ow⟩ := I.back g₁.rs cl nD
      refine .inl ⟨wk.stop _ _ _ I.st (Nat.le_refl _), ?_⟩
      obtain ⟨av, hD, ra⟩ := I.acc
      refine h₁ H' ⟨r2.less, I.fr, sim, fun z => ?_⟩ D (g₁.free nD) r2 ⟨av, hD, ra.mono (fun a u n e => ⟨fun z => n (ow a z), e⟩) fun _ _ z => z⟩
      obtain ⟨p1, p2⟩ := I.pur z
      refine ⟨p1, List.ext_getElem? fun j => ?_⟩
      by_cases m : j ∈ vs
      · by_cases l : j < d₂.length
        · exact backD_in m l I.len.symm
        · rw [List.getElem?_eq_none (by rw [backD_length]; omega), List.getElem?_eq_none (by rw [← I.len]; omega)]
      · rw [backD_out m]; exact p2 j m
/-- [elt for tg in iter if ..] -/
theorem df_lc {pi pt pe : Bool} {elt tg iter : Expr} {ifs : List Expr} {scope : Scope} {own : List (Str × Nat)} {pos : Pos} {mi : M (List W)} {g : GW} {is : List Nat} {t : M Bool} {e : M W} (hc : X.calm = true) (hN : X.N.Nodup) (hi : DI X Y pi tg iter mi) (ok : BlkOk X.N X.env.scope scope own) (his : ∀ i ∈ is, i ∈ own.map (·.2))
    (hg : ∀ (s : Shared) (H : Hp) (C : Addr) (cl : List (Str × Addr)) (fp : List Addr), DG (X.blk s H scope (compEnvC scope cl C X.env) fp) Y.blk tg g is) (ht : ∀ (s : Shared) (H : Hp) (C : Addr) (cl : List (Str × Addr)) (fp : List Addr), DTs (X.blk s H scope (compEnvC scope cl C X.env) fp) Y.blk pt ifs t)
    (he : ∀ (s : Shared) (H : Hp) (C : Addr) (cl : List (Str × Addr)) (fp : List Addr), DE (X.blk s H scope (compEnvC scope cl C X.env) fp) Y.blk pe elt e) (hs : ∀ x, foldedSetIterable iter X.env x = pure x := by intro _; rfl) :
    DF X Y (pi && (pt && pe)) (.ListComp elt [⟨tg, iter, ifs, 0⟩] scope pos) (mLc (own.map (·.2)) mi g t e) := by
  obtain ⟨wi, hpi, hwi⟩ := hi.pi
  exact ⟨pe_weak (pe_lc hc hN hpi ok (fun s H C cl fp => (hg s H C cl fp).pg) (fun s H C cl fp => (ht s H C cl fp).pts) (fun s H C cl fp => (he s H C cl fp).pe) hs)
    (t_lc (tg := tg) (iter := iter) hwi (hg {} noH 0 [] []).only his)⟩
/-- name = [..] on one line -/
theorem as_lc {pi pt pe : Bool} {i : Nat} {y : Str} {py spos : Pos} {elt tg iter : Expr} {ifs : List Expr} {scope : Scope} {own : List (Str × Nat)} {pos : Pos} {mi : M (List W)} {g : GW} {is : List Nat} {t : M Bool} {e : M W} (hc : X.calm = true) (hN : X.N.Nodup) (hi : DI X Y pi tg iter mi) (ok : BlkOk X.N X.env.scope scope own) (his : ∀ i ∈ is, i ∈ own.map (·.2))
    (hg : ∀ (s : Shared) (H : Hp) (C : Addr) (cl : List (Str × Addr)) (fp : List Addr), DG (X.blk s H scope (compEnvC scope cl C X.env) fp) Y.blk tg g is) (ht : ∀ (s : Shared) (H : Hp) (C : Addr) (cl : List (Str × Addr)) (fp : List Addr), DTs (X.blk s H scope (compEnvC scope cl C X.env) fp) Y.blk pt ifs t)
    (he : ∀ (s : Shared) (H : Hp) (C : Addr) (cl : List (Str × Addr)) (fp : List Addr), DE (X.blk s H scope (compEnvC scope cl C X.env) fp) Y.blk pe elt e) (hy : X.N[i]? = some y := by rfl) (hyl : X.env.scope.names.lookup y = some .local := by rfl)
    (hsw : swapsWith (.ListComp elt [⟨tg, iter, ifs, 0⟩] scope pos) (some (.Name y py)) spos.line X.env = pure true := by exact sw_true rfl rfl rfl rfl) (hs : ∀ x, foldedSetIterable iter X.env x = pure x := by intro _; rfl) :
    PS X (.Assign [.Name y py] (.ListComp elt [⟨tg, iter, ifs, 0⟩] scope pos) spos) (tAsg (tF X Y (pi && (pt && pe)) (mLc (own.map (·.2)) mi g t e)) (gName i)) := by
  obtain ⟨wi, hpi, hwi⟩ := hi.pi
  exact ps_weak (ps_setLc hc hN hy hyl hsw hpi ok (fun s H C cl fp => (hg s H C cl fp).pg) (fun s H C cl fp => (ht s H C cl fp).pts) (fun s H C cl fp => (he s H C cl fp).pe) hs)
    fun D σ H h => t_lc (tg := tg) (iter := iter) hwi (hg {} noH 0 [] []).only his σ H _ h
theorem ps_toE {pu : Bool} {i : Nat} {st : Stmt} {m : M W} (h : PS X st (tAsg (tF X Y pu m) (gName i))) : PS X st (tAsg (tE X Y pu m) (gName i)) := ps_weak h fun D σ H h => tF_of σ H _ h
end
end Qd
end
section
set_option Elab.async false
set_option linter.all false
set_option maxRecDepth 100000
/-! Defs: what they promise by data, their calls, their bodies. -/
namespace Qd
open PySem PySem.Spec PyProof.Rows L2

/-- what a call gives: a value, or an object that is the caller's own; an error -/
inductive FR where
  | ok (r : Slot) | exc (c : Nat) | bad
/-- .. of a def that writes the object given first: the object's data behind it -/
inductive FP where
  | ok (r : Slot) (u : W) | exc (c : Nat) (u : W) | bad
abbrev FV := List W → FR
abbrev FW := W → List W → FP
def sdV (n : Nat) (ws : List W) : SD := ws.map (fun w => some (.val w)) ++ List.replicate (n - ws.length) none
def sdP (n : Nat) (u : W) (ws : List W) : SD := some (.par u) :: ws.map (fun w => some (.val w)) ++ List.replicate (n - (ws.length + 1)) none
def runV (n : Nat) (m : MS) : FV := fun ws => match m (sdV n ws) with
  | .next _ => .ok (.val .none)
  | .ret r _ => .ok r
  | .exc c _ => .exc c
  | _ => .bad
def parAt (d : SD) : Option W := match d with
  | some (.par u) :: _ => some u
  | _ => none
def runP (n : Nat) (m : MS) : FW := fun u ws => match m (sdP n u ws) with
  | .next d => (match parAt d with | some u' => .ok (.val .none) u' | none => .bad)
  | .ret r d => (match parAt d with | some u' => .ok r u' | none => .bad)
  | .exc c d => (match parAt d with | some u' => .exc c u' | none => .bad)
  | _ => .bad
/-- on: the module's written tuples and lists are read -/
def cEx (on : Bool) : Addr → Nat → Prop := fun _ k => on = true ∧ k = cN
section
variable (K : PySem.W.Frag) (T : Nat → Value) (on : Bool)
def spV (F : FV) (np : Nat) : Sp := fun vs H Q E => ∃ (Oc : Addr → Prop) (ws : List W), ws.length = np ∧ (∀ a, Oc a → ∃ o, H a = some o) ∧ RpA K (cEx on) Oc H vs ws ∧ match F ws with
  | .ok (.val w) => ∀ H' v, Same H H' → Rp K (cEx on) Oc H' v w → Q v H'
  | .ok (.own w) => ∀ H' p, Same H H' → H p = none → Ob K (cEx on) (With Oc p) H' p w → Q (.ref p) H'
  | .ok (.par _) => False
  | .exc c => ∀ H', Same H H' → E (T c) none H'
  | .bad => False
def But (p : Addr) (H H' : Hp) : Prop := ∀ a o, a ≠ p → H a = some o → H' a = some o
def spP (F : FW) (np : Nat) : Sp := fun vs H Q E => ∃ (Oc : Addr → Prop) (p : Addr) (vs' : List V) (u : W) (ws : List W), vs = .ref p :: vs' ∧ ws.length + 1 = np ∧ (∀ a, Oc a → ∃ o, H a = some o) ∧ ¬ Oc p ∧ Ob K (cEx on) (With Oc p) H p u ∧ RpA K (cEx on) (With Oc p) H vs' ws ∧ match F u ws with
  | .ok (.val w) u' => ∀ H' v, But p H H' → Ob K (cEx on) (With Oc p) H' p u' → Rp K (cEx on) (With Oc p) H' v w → Q v H'
  | .ok (.own _) _ => False
  | .ok (.par _) _ => False
  | .exc c u' => ∀ H', But p H H' → Ob K (cEx on) (With Oc p) H' p u' → E (T c) none H'
  | .bad => False
end
/-- the context of a def's body -/
abbrev Yf (T : Nat → Value) (on : Bool) (E : XK) : Yx := ⟨cEx on, T, fun cls d _ H' => E cls d H'⟩

/-! ### a call -/
section
variable {X : Cx} {Y : Yx}
def mCallV (F : FV) (as : M (List W)) : M W := fun d => (as d).bind fun ws d1 => match F ws with
  | .ok (.val w) => .ok w d1
  | .ok (.own w) => .ok w d1
  | .ok (.par _) => .bad
  | .exc c => .exc c d1
  | .bad => .bad
/-- .. whose value is an object of the caller's own -/
def mCallO (F : FV) (as : M (List W)) : M W := fun d => (as d).bind fun ws d1 => match F ws with
  | .ok (.own w) => .ok w d1
  | .exc c => .exc c d1
  | _ => .bad
theorem same_ke {O : Addr → Prop} {H H' : Hp} (s : Same H H') : Ke O H O H' := fun a u n e => ⟨n, s a u e⟩
theorem t_callV {on : Bool} {pu : Bool} {F : FV} {np : Nat} {as : M (List W)} (hE : Y.Ex = (cEx on)) (σ : St) (H : Hp) (Q : VK) (hl : ∀ d ws d1, as d = .ok ws d1 → ws.length = np) (h : tE X Y pu (mCallV F as) σ H Q) : tCallS (spV X.K Y.T on F np) (fun σ => WE Y.W σ) (tL X Y pu as) σ H Q := by
  obtain ⟨Oc, d, rs, h⟩ := h
  refine ⟨Oc, d, rs, ?_⟩
  have hh := Po.bind1 h
  cases q0 : as d with
  | bad => rw [q0] at hh; exact hh
  | exc c d1 => rw [q0] at hh; exact hh
  | ok ws d1 =>
    rw [q0] at hh
    intro H1 g1 v r
    have h1 := hh H1 g1
    rw [hE] at r
    refine ⟨Ow Oc d1 σ, ws, hl _ _ _ q0, fun a z => g1.rs.there z, r, ?_⟩
    cases q : F ws with
    | bad => rw [q] at h1; exact h1
    | exc c => rw [q] at h1; exact fun H' s => h1 H' (.same g1.rs s)
    | ok s =>
      rw [q] at h1
      cases s with
      | val w => exact fun H' v s r' => h1 H' (.same g1.rs s) v (by rw [hE]; exact r')
      | own w => exact fun H' p s np ob => h1 H' (.same g1.rs s) (.ref p) (by
          rw [hE]
          exact (ob.mono (fun a u n e => ⟨fun z => n (.inl z), e⟩) (fun _ _ z => z) rfl).rp (g1.rs.nOw np))
      | par w => exact h1
theorem t_callO {on : Bool} {pu : Bool} {F : FV} {np : Nat} {as : M (List W)} (hE : Y.Ex = (cEx on)) (σ : St) (H : Hp) (Q : VK) (hl : ∀ d ws d1, as d = .ok ws d1 → ws.length = np) (h : tF X Y pu (mCallO F as) σ H Q) : tCallS (spV X.K Y.T on F np) (fun σ => WE Y.W σ) (tL X Y pu as) σ H Q := by
  obtain ⟨Oc, d, rs, h⟩ := h
  refine ⟨Oc, d, rs, ?_⟩
  have hh := Po.bind1 h
  cases q0 : as d with
  | bad => rw [q0] at hh; exact hh
  | exc c d1 => rw [q0] at hh; exact hh
  | ok ws d1 =>
    rw [q0] at hh
    intro H1 g1 v r
    have h1 := hh H1 g1
    rw [hE] at r
    refine ⟨Ow Oc d1 σ, ws, hl _ _ _ q0, fun a z => g1.rs.there z, r, ?_⟩
    cases q : F ws with
    | bad => rw [q] at h1; exact h1
    | exc c => rw [q] at h1; exact fun H' s => h1 H' (.same g1.rs s)
    | ok s =>
      rw [q] at h1
      cases s with
      | val w => exact h1.elim
      | par w => exact h1.elim
      | own w =>
        refine fun H' p s np ob => h1 H' (.same g1.rs s) p (g1.free np) ?_ ?_
        · -- the callee's new object, as it lies in the end
          have nw := g1.rs.nOw np
          have rs2 := g1.rs.same s
          have ke : Ke (Ow Oc d1 σ) H1 (Ow (With Oc p) d1 σ) H' := fun a u n e => by
            have ne : a ≠ p := ne_of_none e np
            exact ⟨fun z => (ow_with.mp z).elim n ne, s a u e⟩
          refine ⟨rs2.len, fun i w h => ?_, fun i t w a1 a2 => ?_, rs2.sep, fun a h => ?_⟩
          · obtain ⟨v, e, r⟩ := g1.rs.val i w h
            exact ⟨v, e, r.mono ke fun _ _ z => z⟩
          · obtain ⟨q, e, n, ob'⟩ := g1.rs.own i t w a1 a2
            have ne : q ≠ p := fun z => nw (.inr ⟨i, t, w, a1, a2, by rw [← z]; exact e⟩)
            obtain ⟨u, hu⟩ := ob'.at
            exact ⟨q, e, fun z => z.elim n ne, ob'.mono ke (fun _ _ z => z) ((s _ _ hu).trans hu.symm)⟩
          · rcases h with h | h
            · exact rs2.oc a h
            · rw [h]; exact ob.at
        · rw [hE]
          exact ob.mono (fun a u n e => ⟨fun z => n (by rcases ow_with.mp z with z | z; exact .inl z; exact .inr z), e⟩) (fun _ _ z => z) rfl
/-- the number of arguments, whatever they are -/
def Len (n : Nat) (as : M (List W)) : Prop := ∀ d ws d1, as d = .ok ws d1 → ws.length = n
theorem len_nil : Len 0 mNil := fun d ws d1 h => by cases h; rfl
theorem len_cons {n : Nat} {a : M W} {r : M (List W)} (h : Len n r) : Len (n + 1) (mCons a r) := fun d ws d1 e => by
  unfold mCons at e
  cases q : a d with
  | bad => rw [q] at e; cases e
  | exc c d2 => rw [q] at e; cases e
  | ok x d2 =>
    rw [q] at e
    have e : ((r d2).bind fun xs d2 => Out.ok (x :: xs) d2) = .ok ws d1 := e
    cases q2 : r d2 with
    | bad => rw [q2] at e; cases e
    | exc c d3 => rw [q2] at e; cases e
    | ok xs d3 =>
      rw [q2] at e
      cases e
      rw [List.length_cons, h _ _ _ q2]
theorem d_callV {on : Bool} {pu : Bool} {k : Nat} {f : Addr} {fd : FuncData} {ps : List Str} {F : FV} {x : Str} {p pos : Pos} {e : Expr} {es : List Expr} {as : M (List W)} {np : Nat} (G : FnOk X.prog X.w X.K X.mg X.base (L2N.CX X.prog X.w) k f fd ps (spV X.K Y.T on F np)) (hr : Room k X.A) (tk : L2N.Takes X Y.W) (hE : Y.Ex = (cEx on))
    (hm : X.mg x = some (.ref f)) (hk : PySem.W.keepIn X.K (.ref f) = true) (hb : Binds X.K fd ps []) (ha : DL X Y pu (e :: es) as) (hl : Len np as) (hg : Gl X x := by rfl)
    (hdb : (x == ("__debug__" : Str)) = false := by decide) (he : starEach (e :: es) X.env = (false, eval e X.env) :: starEach es X.env := by rfl) (hpl : (backTo pos (starEach es X.env)).any (·.1) = false := by rfl) : DE X Y pu (.Call (.Name x p) (e :: es) [] pos) (mCallV F as) :=
  ⟨pe_weak (pe_callS G hr hg hm hk hb (E := fun σ => WE Y.W σ) (fun σ => L2N.passAt tk σ) ha.pa hdb he hpl) fun σ H Q h => t_callV hE σ H Q hl h⟩
theorem df_callO {on : Bool} {pu : Bool} {k : Nat} {f : Addr} {fd : FuncData} {ps : List Str} {F : FV} {x : Str} {p pos : Pos} {e : Expr} {es : List Expr} {as : M (List W)} {np : Nat} (G : FnOk X.prog X.w X.K X.mg X.base (L2N.CX X.prog X.w) k f fd ps (spV X.K Y.T on F np)) (hr : Room k X.A) (tk : L2N.Takes X Y.W) (hE : Y.Ex = (cEx on))
    (hm : X.mg x = some (.ref f)) (hk : PySem.W.keepIn X.K (.ref f) = true) (hb : Binds X.K fd ps []) (ha : DL X Y pu (e :: es) as) (hl : Len np as) (hg : Gl X x := by rfl)
    (hdb : (x == ("__debug__" : Str)) = false := by decide) (he : starEach (e :: es) X.env = (false, eval e X.env) :: starEach es X.env := by rfl) (hpl : (backTo pos (starEach es X.env)).any (·.1) = false := by rfl) : DF X Y pu (.Call (.Name x p) (e :: es) [] pos) (mCallO F as) :=
  ⟨pe_weak (pe_callS G hr hg hm hk hb (E := fun σ => WE Y.W σ) (fun σ => L2N.passAt tk σ) ha.pa hdb he hpl) fun σ H Q h => t_callO hE σ H Q hl h⟩
/-- f(x, ..), x a name that holds an object which f writes -/
def mineAt (i : Nat) (d : SD) : Option W := match d[i]? with
  | some (some s) => Slot.mine? s
  | _ => none
def Slot.upd (s : Slot) (u : W) : Slot := match s with
  | .own _ => .own u
  | .par _ => .par u
  | .val w => .val w
def setMine (i : Nat) (u : W) (d : SD) : SD := match d[i]? with
  | some (some s) => d.set i (some (Slot.upd s u))
  | _ => d
def mCallP (F : FW) (i : Nat) (as : M (List W)) : M W := fun d => (ofOpt (mineAt i d) d).bind fun _ d0 => (as d0).bind fun ws d1 => (ofOpt (mineAt i d1) d1).bind fun u d2 => match F u ws with
  | .ok (.val w) u' => .ok w (setMine i u' d2)
  | .exc c u' => .exc c (setMine i u' d2)
  | _ => .bad
theorem mineAt_some {i : Nat} {d : SD} {u : W} (h : mineAt i d = some u) : ∃ s, d[i]? = some (some s) ∧ Slot.mine? s = some u := by
  unfold mineAt at h
  split at h
  · exact ⟨_, by assumption, h⟩
  · cases h
/-- the object at p, held by the name i, has new data -/
theorem setMine_go {K : PySem.W.Frag} {Ex : Addr → Nat → Prop} {Oc : Addr → Prop} {H H' : Hp} {d : SD} {σ : St} {i : Nat} {s : Slot} {u u' : W} {p : Addr} (rs : RS K Ex Oc H d σ) (e1 : d[i]? = some (some s)) (e2 : Slot.mine? s = some u) (e3 : σ[i]? = some (some (.ref p))) (b : But p H H') (ob : Ob K Ex (Ow Oc d σ) H' p u') :
    Go K Ex Oc false σ d H (setMine i u' d) H' := by
  have ed : setMine i u' d = d.set i (some (Slot.upd s u')) := by unfold setMine; rw [e1]
  have lt : i < d.length := (List.getElem?_eq_some_iff.mp e1).1
  have mu : Slot.mine? (Slot.upd s u') = some u' := by cases s <;> first | rfl | cases e2
  rw [ed]
  have sim : Sim d (d.set i (some (Slot.upd s u'))) := by
    refine ⟨by rw [List.length_set], fun j => ?_⟩
    by_cases e : i = j
    · subst e
      rw [List.getElem?_set_self lt, e1]
      cases s with
      | val w => cases e2
      | own w => trivial
      | par w => trivial
    · rw [List.getElem?_set_ne e]; exact .refl _
  have mp : Mine d σ p := ⟨i, s, u, e1, e2, e3⟩
  have ke : Ke (Ow Oc d σ) H (Ow Oc (d.set i (some (Slot.upd s u'))) σ) H' := fun a x n e => ⟨fun z => n (z.imp id sim.mine.mp), b a x (fun z => n (.inr (by rw [z]; exact mp))) e⟩
  have ke' : Ke (Ow Oc d σ) H' (Ow Oc (d.set i (some (Slot.upd s u'))) σ) H' := fun a x n e => ⟨fun z => n (z.imp id sim.mine.mp), e⟩
  obtain ⟨p', e3', np, _⟩ := rs.own i s u e1 e2
  rw [e3] at e3'; cases e3'
  refine ⟨⟨by rw [List.length_set]; exact rs.len, fun j w e => ?_, fun j t w f1 f2 => ?_, fun j k t r w x q ne f1 f2 f3 f4 f5 => ?_, fun a h => ?_⟩, fun a x e n => b a x (fun z => n (by rw [z]; exact mp)) e, sim, fun z => nomatch z⟩
  · by_cases ej : i = j
    · subst ej
      rw [List.getElem?_set_self lt] at e
      have e : Slot.upd s u' = .val w := Option.some.inj (Option.some.inj e)
      rw [e] at mu; cases mu
    · rw [List.getElem?_set_ne ej] at e
      obtain ⟨v, e', r⟩ := rs.val j w e
      exact ⟨v, e', r.mono ke fun _ _ z => z⟩
  · by_cases ej : i = j
    · subst ej
      rw [List.getElem?_set_self lt] at f1
      have f1 : Slot.upd s u' = t := Option.some.inj (Option.some.inj f1)
      rw [← f1, mu] at f2; cases f2
      exact ⟨p, e3, np, ob.mono ke' (fun _ _ z => z) rfl⟩
    · rw [List.getElem?_set_ne ej] at f1
      obtain ⟨q, e', n, ob'⟩ := rs.own j t w f1 f2
      have nq : q ≠ p := fun z => rs.sep i j s t u w p ej e1 e2 f1 f2 e3 (by rw [← z]; exact e')
      obtain ⟨x, hx⟩ := ob'.at
      exact ⟨q, e', n, ob'.mono ke (fun _ _ z => z) ((b _ _ nq hx).trans hx.symm)⟩
  · obtain ⟨t', w', g1, g2⟩ := (sim.2 j).mine.mpr ⟨t, w, f1, f2⟩
    obtain ⟨r', x', g3, g4⟩ := (sim.2 k).mine.mpr ⟨r, x, f3, f4⟩
    exact rs.sep j k t' r' w' x' q ne g1 g2 g3 g4 f5
  · obtain ⟨o, e⟩ := rs.oc a h
    exact ⟨o, b a o (fun z => np (by rw [← z]; exact h)) e⟩
theorem d_callP {on : Bool} {pu : Bool} {k : Nat} {f : Addr} {fd : FuncData} {ps : List Str} {F : FW} {x y : Str} {p q pos : Pos} {i : Nat} {es : List Expr} {as : M (List W)} {np : Nat} (G : FnOk X.prog X.w X.K X.mg X.base (L2N.CX X.prog X.w) k f fd ps (spP X.K Y.T on F (np + 1))) (hr : Room k X.A) (tk : L2N.Takes X Y.W) (hE : Y.Ex = (cEx on))
    (hm : X.mg x = some (.ref f)) (hk : PySem.W.keepIn X.K (.ref f) = true) (hb : Binds X.K fd ps []) (ha : DL X Y pu es as) (hl : Len np as) (hN : X.N[i]? = some y := by rfl) (hv : Vis X.env.scope y := by first | exact Or.inl rfl | exact Or.inr (Or.inl rfl) | exact Or.inr (Or.inr rfl)) (hd : (y == ("__debug__" : Str)) = false := by decide)
    (hcd : (y == ("__classdict__" : Str)) = false := by decide) (hg : Gl X x := by rfl)
    (hdb : (x == ("__debug__" : Str)) = false := by decide) (he : starEach (.Name y q :: es) X.env = (false, eval (.Name y q) X.env) :: starEach es X.env := by rfl) (hpl : (backTo pos (starEach es X.env)).any (·.1) = false := by rfl) : DE X Y false (.Call (.Name x p) (.Name y q :: es) [] pos) (mCallP F i as) := by
  refine ⟨pe_weak (pe_callS G hr hg hm hk hb (E := fun σ => WE Y.W σ) (fun σ => L2N.passAt tk σ) (pa_cons (pe_var hN hv hd hcd) ha.pa he) hdb he hpl) fun σ H Q h => ?_⟩
  obtain ⟨Oc, d, rs, h⟩ := h
  cases qm0 : mineAt i d with
  | none => unfold mCallP at h; rw [qm0] at h; exact h.elim
  | some u0 =>
    unfold mCallP at h
    rw [qm0] at h
    have hh := Po.bindF (p := pu) (show Po X Y false Oc σ d H ((as d).bind _) _ from h)
    obtain ⟨s0, f1, f2⟩ := mineAt_some qm0
    obtain ⟨a, ev, _, _⟩ := rs.own i s0 u0 f1 f2
    refine ⟨_, ev, Oc, d, rs, ?_⟩
    cases q0 : as d with
    | bad => rw [q0] at hh; exact hh
    | exc c d1 => rw [q0] at hh; exact hh
    | ok ws d1 =>
      rw [q0] at hh
      intro H1 g1 vs r
      have h1 := hh H1 g1
      dsimp only at h1
      cases qm : mineAt i d1 with
      | none => rw [qm] at h1; exact h1.elim
      | some u =>
        rw [qm] at h1
        dsimp only [ofOpt, Out.bind] at h1
        obtain ⟨s, e1, e2⟩ := mineAt_some qm
        obtain ⟨a1, e3, na, ob⟩ := g1.rs.own i s u e1 e2
        rw [ev] at e3
        cases e3
        have owe : ∀ b, With (fun b => Ow Oc d1 σ b ∧ b ≠ a) a b ↔ Ow Oc d1 σ b := fun b => by
          constructor
          · rintro (z | z)
            · exact z.1
            · rw [z]; exact .inr ⟨i, s, u, e1, e2, ev⟩
          · intro z
            by_cases e : b = a
            · exact .inr e
            · exact .inl ⟨z, e⟩
        have ke1 : ∀ {H : Hp}, Ke (Ow Oc d1 σ) H (With (fun b => Ow Oc d1 σ b ∧ b ≠ a) a) H := fun {H} b x n e => ⟨fun z => n ((owe b).mp z), e⟩
        have ke2 : ∀ {H : Hp}, Ke (With (fun b => Ow Oc d1 σ b ∧ b ≠ a) a) H (Ow Oc d1 σ) H := fun {H} b x n e => ⟨fun z => n ((owe b).mpr z), e⟩
        rw [hE] at r ob
        refine ⟨fun b => Ow Oc d1 σ b ∧ b ≠ a, a, vs, u, ws, rfl, by rw [hl _ _ _ q0], fun b z => g1.rs.there z.1, fun z => z.2 rfl, ob.mono ke1 (fun _ _ z => z) rfl, r.mono ke1 fun _ _ z => z, ?_⟩
        have g1rs := g1.rs
        have fin : ∀ {H' : Hp} {u' : W}, But a H1 H' → Ob X.K (cEx on) (With (fun b => Ow Oc d1 σ b ∧ b ≠ a) a) H' a u' → Go X.K Y.Ex Oc false σ d1 H1 (setMine i u' d1) H' := fun b ob' => by
          rw [hE] at g1rs ⊢
          exact setMine_go g1rs e1 e2 ev b (ob'.mono ke2 (fun _ _ z => z) rfl)
        cases qf : F u ws with
        | bad => rw [qf] at h1; exact h1
        | exc c u' => rw [qf] at h1; exact fun H' b ob' => h1 H' (fin b ob')
        | ok r' u' =>
          rw [qf] at h1
          cases r' with
          | own w => exact h1
          | par w => exact h1
          | val w =>
            refine fun H' v b ob' rv => h1 H' (fin b ob') v ?_
            rw [hE]
            have sm := (fin b ob').sim
            exact (rv.mono ke2 fun _ _ z => z).mono (fun b x n e => ⟨fun z => n (z.imp id sm.mine.mp), e⟩) fun _ _ z => z
end

/-! ### a def by its body -/
section
variable {P : Program} {w : World} {K : PySem.W.Frag} {mg : Str → Option Value} {base : Heap} {T : Nat → Value} {on : Bool}
theorem okN {x qual : Str} {st : Stmt} {f : Addr} {fd : FuncData} {N ps : List Str} {k : Nat} {sp : Sp} (F : Fun K x qual st f fd) (S : FnScope N ps (defScope st)) (len : ∀ vs H Q E, sp vs H Q E → vs.length = ps.length)
    (hbody : ∀ (cdv : Value) (A : Around) (outer : List Env) (s : Shared) (H : Hp) (vs : List V) (Q : VK) (E : XK), Room k (A.deeper (envOfC qual (defScope st) s.heap.objs.size f cdv)) → sp vs H Q E →
      ∃ t, PSs (cxOf (L2N.CX P w) P w K mg base N qual (defScope st) f cdv A outer s H E) (defBody st) t ∧ t { nx := fun _ H' => Q .non H', rt := Q } (L2.start N vs) H) : FnOk P w K mg base (L2N.CX P w) (k + 1) f fd ps sp := by
  obtain ⟨oc, od, kV, doc, pm, an, cdv, ct, osl, rfl, lk, hcd⟩ := F.ex
  exact fn_of lk hcd S len fun A outer s H vs Q E hr hsp => hbody cdv A outer s H vs Q E hr hsp
theorem rpA_of_map {O : Addr → Prop} {H : Hp} {vs : List V} {ws : List W} (r : RpA K (cEx on) O H vs ws) : ∀ (i : Nat) (u : W), (ws.map fun w => some (Slot.val w))[i]? = some (some (.val u)) → ∃ v, (vs.map some)[i]? = some (some v) ∧ Rp K (cEx on) O H v u := fun i u e => by
  rw [List.getElem?_map] at e
  cases q : ws[i]? with
  | none => rw [q] at e; cases e
  | some x =>
    rw [q] at e; cases e
    obtain ⟨v, e1, r1⟩ := r.get q
    exact ⟨v, by rw [List.getElem?_map, e1]; rfl, r1⟩
theorem sdV_get {n : Nat} {ws : List W} {i : Nat} {s : Slot} (h : (sdV n ws)[i]? = some (some s)) : i < ws.length ∧ ∃ u, ws[i]? = some u ∧ s = .val u := by
  unfold sdV at h
  by_cases l : i < ws.length
  · rw [List.getElem?_append_left (by simpa using l), List.getElem?_map] at h
    refine ⟨l, ?_⟩
    rw [List.getElem?_eq_getElem l] at h
    cases h
    exact ⟨_, List.getElem?_eq_getElem l, rfl⟩
  · rw [List.getElem?_append_right (by simpa using l), List.getElem?_replicate] at h
    split at h <;> cases h
theorem sdV_len {n : Nat} {ws : List W} (h : ws.length ≤ n) : (sdV n ws).length = n := by
  unfold sdV
  rw [List.length_append, List.length_map, List.length_replicate]
  omega
theorem start_get {N : List Str} {vs : List V} {i : Nat} {v : V} (h : vs[i]? = some v) : (L2.start N vs)[i]? = some (some v) := by
  obtain ⟨l, e⟩ := List.getElem?_eq_some_iff.mp h
  unfold L2.start
  rw [List.getElem?_append_left (by simpa using l), List.getElem?_map, h]
  rfl
theorem start_len {N : List Str} {vs : List V} (h : vs.length ≤ N.length) : (L2.start N vs).length = N.length := by
  unfold L2.start
  rw [List.length_append, List.length_map, List.length_replicate]
  omega
theorem startV {Oc : Addr → Prop} {H : Hp} {N : List Str} {vs : List V} {ws : List W} (hl : ws.length ≤ N.length) (oc : ∀ a, Oc a → ∃ o, H a = some o) (r : RpA K (cEx on) Oc H vs ws) : RS K (cEx on) Oc H (sdV N.length ws) (L2.start N vs) ∧ ∀ a, ¬ Mine (sdV N.length ws) (L2.start N vs) a := by
  have nm : ∀ a, ¬ Mine (sdV N.length ws) (L2.start N vs) a := fun a ⟨i, s, u, h1, h2, _⟩ => by
    obtain ⟨_, _, _, rfl⟩ := sdV_get h1
    cases h2
  refine ⟨⟨by rw [sdV_len hl, start_len (by rw [r.length]; exact hl)], fun i u e => ?_, fun i s u e1 e2 => ?_, fun i j s t u u' p ne e1 e2 _ _ _ => ?_, oc⟩, nm⟩
  · obtain ⟨l, u', e', es⟩ := sdV_get e
    cases es
    obtain ⟨v, e1, r1⟩ := r.get e'
    exact ⟨v, start_get e1, r1.mono (fun a x n e => ⟨fun z => z.elim n (nm a), e⟩) fun _ _ z => z⟩
  · obtain ⟨_, _, _, rfl⟩ := sdV_get e1
    cases e2
  · obtain ⟨_, _, _, rfl⟩ := sdV_get e1
    cases e2
theorem tS_V {X : Cx} {E : XK} {m : MS} {N : List Str} {H : Hp} {vs : List V} {Q : VK} {np : Nat} (hn : np ≤ N.length) (hK : X.K = K) (h : spV K T on (runV N.length m) np vs H Q E) : tS X (Yf T on E) m { nx := fun _ H' => Q .non H', rt := Q } (L2.start N vs) H := by
  subst hK
  obtain ⟨Oc, ws, hl, oc, r, h⟩ := h
  obtain ⟨rs, nm⟩ := startV (N := N) (by rw [hl]; exact hn) oc r
  refine ⟨Oc, sdV N.length ws, rs, ?_⟩
  unfold runV at h
  have sm : ∀ {d' : SD} {σ' : St} {H' : Hp}, GoS X.K (cEx on) Oc (sdV N.length ws) (L2.start N vs) H d' σ' H' → Same H H' := fun g a o e => g.fr a o e (nm a)
  cases q : m (sdV N.length ws) with
  | next d' => rw [q] at h; exact fun σ' H' g => h H' .non (sm g) .non
  | brk d' => rw [q] at h; exact h.elim
  | cont d' => rw [q] at h; exact h.elim
  | bad => rw [q] at h; exact h.elim
  | exc c d' => rw [q] at h; exact fun σ' H' g => h H' (sm g)
  | ret s d' =>
    rw [q] at h
    cases s with
    | par w => exact h.elim
    | val w => exact fun σ' H' v g rv => h H' v (sm g) (rv.mono (fun a u n e => ⟨fun z => n (.inl z), e⟩) fun _ _ z => z)
    | own w =>
      intro σ' H' p g np' rs' ob
      refine h H' p (sm g) (np'.resolve_right (nm p)) (ob.mono (fun a u n e => ⟨fun z => n ?_, e⟩) (fun _ _ z => z) rfl)
      rcases z with z | z
      · exact .inl (.inl z)
      · exact .inl (.inr z)
/-- a def that writes nothing of its callers' -/
theorem fn_V {x qual : Str} {st : Stmt} {f : Addr} {fd : FuncData} {N ps : List Str} {k np : Nat} {m : MS} (F : Fun K x qual st f fd) (S : FnScope N ps (defScope st)) (hps : ps.length = np) (hnp : np ≤ N.length)
    (hb : ∀ (cdv : Value) (A : Around) (outer : List Env) (s : Shared) (H : Hp) (E : XK), Room k (A.deeper (envOfC qual (defScope st) s.heap.objs.size f cdv)) → DSs (cxOf (L2N.CX P w) P w K mg base N qual (defScope st) f cdv A outer s H E) (Yf T on E) (defBody st) m) :
    FnOk P w K mg base (L2N.CX P w) (k + 1) f fd ps (spV K T on (runV N.length m) np) := by
  refine okN F S (fun vs H Q E h => ?_) (fun cdv A outer s H vs Q E hr h => ⟨_, (hb cdv A outer s H E hr).ps, tS_V hnp rfl h⟩)
  obtain ⟨Oc, ws, hl, oc, r, h⟩ := h
  rw [r.length, hl, hps]
theorem sdP_get {n : Nat} {u : W} {ws : List W} {i : Nat} {s : Slot} (h : (sdP n u ws)[i]? = some (some s)) : (i = 0 ∧ s = .par u) ∨ ∃ j x, i = j + 1 ∧ ws[j]? = some x ∧ s = .val x := by
  unfold sdP at h
  cases i with
  | zero => cases h; exact .inl ⟨rfl, rfl⟩
  | succ j =>
    refine .inr ⟨j, ?_⟩
    rw [List.cons_append, List.getElem?_cons_succ] at h
    by_cases l : j < ws.length
    · rw [List.getElem?_append_left (by simpa using l), List.getElem?_map, List.getElem?_eq_getElem l] at h
      cases h
      exact ⟨_, rfl, List.getElem?_eq_getElem l, rfl⟩
    · rw [List.getElem?_append_right (by simpa using l), List.getElem?_replicate] at h
      split at h <;> cases h
theorem sdP_len {n : Nat} {u : W} {ws : List W} (h : ws.length + 1 ≤ n) : (sdP n u ws).length = n := by
  unfold sdP
  rw [List.cons_append, List.length_cons, List.length_append, List.length_map, List.length_replicate]
  omega
theorem startP {Oc : Addr → Prop} {H : Hp} {N : List Str} {p : Addr} {u : W} {vs : List V} {ws : List W} (hl : ws.length + 1 ≤ N.length) (oc : ∀ a, Oc a → ∃ o, H a = some o) (no : ¬ Oc p) (ob : Ob K (cEx on) (With Oc p) H p u) (r : RpA K (cEx on) (With Oc p) H vs ws) :
    RS K (cEx on) Oc H (sdP N.length u ws) (L2.start N (.ref p :: vs)) ∧ ∀ a, Mine (sdP N.length u ws) (L2.start N (.ref p :: vs)) a ↔ a = p := by
  have e0 : (sdP N.length u ws)[0]? = some (some (.par u)) := rfl
  have f0 : (L2.start N (.ref p :: vs))[0]? = some (some (.ref p)) := start_get rfl
  have nm : ∀ a, Mine (sdP N.length u ws) (L2.start N (.ref p :: vs)) a ↔ a = p := fun a => by
    constructor
    · rintro ⟨i, s, x, h1, h2, h3⟩
      rcases sdP_get h1 with ⟨rfl, _⟩ | ⟨j, y, rfl, _, rfl⟩
      · rw [f0] at h3; cases h3; rfl
      · cases h2
    · rintro rfl
      exact ⟨0, _, _, e0, rfl, f0⟩
  have ke : Ke (With Oc p) H (Ow Oc (sdP N.length u ws) (L2.start N (.ref p :: vs))) H := fun a x n e => ⟨fun z => n (z.imp id (nm a).mp), e⟩
  refine ⟨⟨by rw [sdP_len hl, start_len (by rw [List.length_cons, r.length]; exact hl)], fun i x e => ?_, fun i s x e1 e2 => ?_, fun i j s t x x' q ne e1 e2 e3 e4 e5 => ?_, oc⟩, nm⟩
  · rcases sdP_get e with ⟨_, z⟩ | ⟨j, y, rfl, e', z⟩
    · cases z
    · cases z
      obtain ⟨v, e1, r1⟩ := r.get e'
      exact ⟨v, start_get (vs := .ref p :: vs) (by simpa using e1), r1.mono ke fun _ _ z => z⟩
  · rcases sdP_get e1 with ⟨rfl, rfl⟩ | ⟨j, y, rfl, e', rfl⟩
    · cases e2
      exact ⟨p, f0, no, ob.mono ke (fun _ _ z => z) rfl⟩
    · cases e2
  · rcases sdP_get e1 with ⟨rfl, rfl⟩ | ⟨j', y, rfl, e', rfl⟩
    · rcases sdP_get e3 with ⟨rfl, rfl⟩ | ⟨j', y, rfl, e', rfl⟩
      · exact absurd rfl ne
      · cases e4
    · cases e2
theorem tS_P {X : Cx} {E : XK} {m : MS} {N : List Str} {H : Hp} {vs : List V} {Q : VK} {np : Nat} (hn : np ≤ N.length) (hK : X.K = K) (h : spP K T on (runP N.length m) np vs H Q E) : tS X (Yf T on E) m { nx := fun _ H' => Q .non H', rt := Q } (L2.start N vs) H := by
  subst hK
  obtain ⟨Oc, p, vs', u, ws, rfl, hl, oc, no, ob, r, h⟩ := h
  obtain ⟨rs, nm⟩ := startP (N := N) (by rw [hl]; exact hn) oc no ob r
  refine ⟨Oc, sdP N.length u ws, rs, ?_⟩
  unfold runP at h
  have e0 : (sdP N.length u ws)[0]? = some (some (.par u)) := rfl
  have f0 : (L2.start N (.ref p :: vs'))[0]? = some (some (.ref p)) := start_get rfl
  -- what the end tells of the object given
  have fin : ∀ {d' : SD} {σ' : St} {H' : Hp}, GoS X.K (cEx on) Oc (sdP N.length u ws) (L2.start N (.ref p :: vs')) H d' σ' H' → But p H H' ∧ ∃ u', parAt d' = some u' ∧ Ob X.K (cEx on) (With Oc p) H' p u' ∧ Ke (Ow Oc d' σ') H' (With Oc p) H' := fun {d' σ' H'} g => by
    refine ⟨fun a o na e => g.fr a o e fun z => na ((nm a).mp z), ?_⟩
    obtain ⟨⟨u', e1⟩, e2⟩ := g.par 0 u e0
    rw [f0] at e2
    have ke : Ke (Ow Oc d' σ') H' (With Oc p) H' := fun a x n e => ⟨fun z => n (by
      rcases z with z | z
      · exact .inl z
      · rw [z]; exact .inr ⟨0, _, _, e1, rfl, e2⟩), e⟩
    obtain ⟨q, e3, _, ob'⟩ := g.rs.own 0 _ _ e1 rfl
    rw [e2] at e3; cases e3
    refine ⟨u', ?_, ob'.mono ke (fun _ _ z => z) rfl, ke⟩
    cases d' with
    | nil => cases e1
    | cons a b => cases e1; rfl
  cases q : m (sdP N.length u ws) with
  | next d' =>
    rw [q] at h
    intro σ' H' g
    obtain ⟨b, u', e, ob', _⟩ := fin g
    dsimp only at h
    rw [e] at h
    exact h H' .non b ob' .non
  | brk d' => rw [q] at h; exact h.elim
  | cont d' => rw [q] at h; exact h.elim
  | bad => rw [q] at h; exact h.elim
  | exc c d' =>
    rw [q] at h
    intro σ' H' g
    obtain ⟨b, u', e, ob', _⟩ := fin g
    dsimp only at h
    rw [e] at h
    exact h H' b ob'
  | ret s d' =>
    rw [q] at h
    dsimp only at h
    cases s with
    | par w =>
      cases e : parAt d' with
      | none => rw [e] at h; exact h.elim
      | some u' => rw [e] at h; exact h.elim
    | val w =>
      intro σ' H' v g rv
      obtain ⟨b, u', e, ob', ke⟩ := fin g
      rw [e] at h
      exact h H' v b ob' (rv.mono ke fun _ _ z => z)
    | own w =>
      cases e : parAt d' with
      | none => rw [e] at h; exact h.elim
      | some u' => rw [e] at h; exact h.elim
/-- a def that writes the object given first -/
theorem fn_P {x qual : Str} {st : Stmt} {f : Addr} {fd : FuncData} {N ps : List Str} {k np : Nat} {m : MS} (F : Fun K x qual st f fd) (S : FnScope N ps (defScope st)) (hps : ps.length = np) (hnp : np ≤ N.length)
    (hb : ∀ (cdv : Value) (A : Around) (outer : List Env) (s : Shared) (H : Hp) (E : XK), Room k (A.deeper (envOfC qual (defScope st) s.heap.objs.size f cdv)) → DSs (cxOf (L2N.CX P w) P w K mg base N qual (defScope st) f cdv A outer s H E) (Yf T on E) (defBody st) m) :
    FnOk P w K mg base (L2N.CX P w) (k + 1) f fd ps (spP K T on (runP N.length m) np) := by
  refine okN F S (fun vs H Q E h => ?_) (fun cdv A outer s H vs Q E hr h => ⟨_, (hb cdv A outer s H E hr).ps, tS_P hnp rfl h⟩)
  obtain ⟨Oc, p, vs', u, ws, rfl, hl, oc, no, ob, r, h⟩ := h
  rw [List.length_cons, r.length, hl, hps]
end
end Qd
end
section
set_option Elab.async false
set_option linter.all false
set_option maxRecDepth 100000
/-! Operators and built-ins by their data. -/
namespace Qd
open PySem PySem.Spec PyProof.Rows L2
section
variable {K : PySem.W.Frag} {Ex : Addr → Nat → Prop} {O : Addr → Prop} {H : Hp} {vs : List V} {ws : List W} {p : Addr}
theorem rp_newTup (hO : ∀ p, O p → ∃ o, H p = some o) (np : H p = none) (r : RpA K Ex O H vs ws) : Same H (upd H p (.tup vs)) ∧ Rp K Ex O (upd H p (.tup vs)) (.ref p) (.tuple ws) := by
  have no : ¬ O p := fun z => by
    obtain ⟨o, e⟩ := hO p z
    rw [np] at e; cases e
  have sm : Same H (upd H p (.tup vs)) := same_new np
  exact ⟨sm, .tup (.inl ⟨no, upd_same⟩) (r.mono (same_ke sm) fun _ _ z => z)⟩
theorem rp_newLst (hO : ∀ p, O p → ∃ o, H p = some o) (np : H p = none) (r : RpA K Ex O H vs ws) : Same H (upd H p (.lst vs)) ∧ Rp K Ex O (upd H p (.lst vs)) (.ref p) (.list ws) := by
  have no : ¬ O p := fun z => by
    obtain ⟨o, e⟩ := hO p z
    rw [np] at e; cases e
  have sm : Same H (upd H p (.lst vs)) := same_new np
  exact ⟨sm, .lst (.inl ⟨no, .inl upd_same⟩) (r.mono (same_ke sm) fun _ _ z => z)⟩
end
section
variable {X : Cx}

/-! ### numbers -/
def i2 (c : Int → Int → Bool) (g : Int → Int → Int) : W → W → Option W := fun a b => match a, b with
  | .int i, .int j => if c i j = true then some (.int (g i j)) else none
  | _, _ => none
theorem i2_some {c : Int → Int → Bool} {g : Int → Int → Int} {a b r : W} (h : i2 c g a b = some r) : ∃ i j, a = .int i ∧ b = .int j ∧ c i j = true ∧ r = .int (g i j) := by
  unfold i2 at h
  split at h
  · split at h
    · rename_i z
      cases h
      exact ⟨_, _, rfl, rfl, z, rfl⟩
    · cases h
  · cases h
theorem opd_i2 {f : Value → Value → Sem Value} {C : Int → Int → Prop} {c : Int → Int → Bool} {g : Int → Int → Int} (h : OpR X f (rI C fun i j => .int (g i j))) (hc : ∀ i j, c i j = true → C i j) : OpD X f (i2 c g) :=
  ⟨_, h, fun Ex O H x y a b r Q _ e rx ry k => by
    obtain ⟨i, j, rfl, rfl, z, rfl⟩ := i2_some e
    exact ⟨i, j, rp_int rx, rp_int ry, hc _ _ z, k H _ (.refl _) (.int _)⟩⟩
theorem opd_i0 {f : Value → Value → Sem Value} {g : Int → Int → Int} (h : OpR X f (rI0 fun i j => .int (g i j))) : OpD X f (i2 (fun _ _ => true) g) :=
  ⟨_, h, fun Ex O H x y a b r Q _ e rx ry k => by
    obtain ⟨i, j, rfl, rfl, z, rfl⟩ := i2_some e
    exact ⟨i, j, rp_int rx, rp_int ry, k H _ (.refl _) (.int _)⟩⟩
abbrev subW := i2 (fun _ _ => true) fun i j => i - j
noncomputable abbrev fdivW := i2 (fun _ j => cdec (0 < j ∧ j.natAbs.log2 < 9000)) fun i j => i / j
noncomputable abbrev modW := i2 (fun _ j => cdec (0 < j)) fun i j => i % j
noncomputable abbrev powW := i2 (fun i j => cdec (0 ≤ j ∧ j ≤ 1000000 ∧ i.natAbs < 2 ^ 64)) fun i j => i ^ j.toNat
noncomputable abbrev shlW := i2 (fun i j => cdec (0 ≤ j ∧ j ≤ 1000000 ∧ i.natAbs < 2 ^ 64)) fun i j => i * 2 ^ j.toNat
noncomputable abbrev shrW := i2 (fun _ j => cdec (0 ≤ j)) fun i j => i / 2 ^ j.toNat
abbrev andW := i2 (fun _ _ => true) fun i j => Builtin.bitAnd i j
abbrev orW := i2 (fun _ _ => true) fun i j => Builtin.bitOr i j
abbrev xorW := i2 (fun _ _ => true) fun i j => Builtin.bitXor i j
theorem od_sub : OpD X (binaryOp .Sub) subW := opd_i0 op_sub
theorem od_fdiv : OpD X (binaryOp .FloorDiv) fdivW := opd_i2 op_fdivW fun _ j h => (cdec_iff.mp h : 0 < j ∧ j.natAbs.log2 < 9000)
theorem od_mod : OpD X (binaryOp .Mod) modW := opd_i2 op_mod fun _ _ h => cdec_iff.mp h
theorem od_pow : OpD X (binaryOp .Pow) powW := opd_i2 op_pow fun i j h => (cdec_iff.mp h : 0 ≤ j ∧ j ≤ 1000000 ∧ i.natAbs < 2 ^ 64)
theorem od_shl : OpD X (binaryOp .LShift) shlW := opd_i2 op_shl fun i j h => (cdec_iff.mp h : 0 ≤ j ∧ j ≤ 1000000 ∧ i.natAbs < 2 ^ 64)
theorem od_shr : OpD X (binaryOp .RShift) shrW := opd_i2 op_shr fun _ _ h => cdec_iff.mp h
theorem od_and : OpD X (binaryOp .BitAnd) andW := opd_i0 op_and
theorem od_or : OpD X (binaryOp .BitOr) orW := opd_i0 op_or
theorem od_xor : OpD X (binaryOp .BitXor) xorW := opd_i0 op_xor
def negW : W → Option W
  | .int i => some (.int (-i))
  | _ => none
theorem od_neg : UnD X (unaryOp .USub) negW := ⟨_, un_neg, fun Ex O H x a r Q _ e rx k => by
  cases a with
  | int i => cases e; exact ⟨i, rp_int rx, k H _ (.refl _) (.int _)⟩
  | _ => cases e⟩
/-! ints compared -/
def c2 (g : Int → Int → Bool) : W → W → Option W := fun a b => match a, b with
  | .int i, .int j => some (.bool (g i j))
  | _, _ => none
theorem c2_some {g : Int → Int → Bool} {a b r : W} (h : c2 g a b = some r) : ∃ i j, a = .int i ∧ b = .int j ∧ r = .bool (g i j) := by
  unfold c2 at h
  split at h
  · cases h; exact ⟨_, _, rfl, rfl, rfl⟩
  · cases h
theorem opd_c2 {f : Value → Value → Sem Value} {g : Int → Int → Bool} (h : OpR X f (rI0 fun i j => .bl (g i j))) : OpD X f (c2 g) :=
  ⟨_, h, fun Ex O H x y a b r Q _ e rx ry k => by
    obtain ⟨i, j, rfl, rfl, rfl⟩ := c2_some e
    exact ⟨i, j, rp_int rx, rp_int ry, k H _ (.refl _) (.bl _)⟩⟩
noncomputable abbrev ltI := c2 fun i j => cdec (i < j)
noncomputable abbrev leI := c2 fun i j => cdec (i ≤ j)
noncomputable abbrev gtI := c2 fun i j => cdec (j < i)
noncomputable abbrev geI := c2 fun i j => cdec (j ≤ i)
theorem od_ltI : OpD X (compareOp .Lt) ltI := by
  unfold ltI
  simp only [cdec_eq]
  exact opd_c2 op_lt
theorem od_leI : OpD X (compareOp .LtE) leI := by
  unfold leI
  simp only [cdec_eq]
  exact opd_c2 op_le
theorem od_gtI : OpD X (compareOp .Gt) gtI := by
  unfold gtI
  simp only [cdec_eq]
  exact opd_c2 op_gt
theorem od_geI : OpD X (compareOp .GtE) geI := by
  unfold geI
  simp only [cdec_eq]
  exact opd_c2 op_ge

/-! ### == of data -/
def okD (d : W) : Bool := noD d && SeqAt.shaped d
def eqW : W → W → Option W := fun a b => if (okD a && okD b) = true then some (.bool (PyData.eqv a b)) else none
def neW : W → W → Option W := fun a b => if (okD a && okD b) = true then some (.bool (!PyData.eqv a b)) else none
theorem okD_and {a b : W} (h : (okD a && okD b) = true) : (noD a = true ∧ SeqAt.shaped a = true) ∧ noD b = true ∧ SeqAt.shaped b = true := by
  unfold okD at h
  simpa only [Bool.and_eq_true] using h
theorem od_eq (hu : X.A.units + 64 < cLine) : OpD X (compareOp .Eq) eqW := ⟨_, op_eqD hu, fun Ex O H x y a b r Q _ e rx ry k => by
  unfold eqW at e
  split at e
  · rename_i z
    cases e
    obtain ⟨⟨h1, h2⟩, h3, h4⟩ := okD_and z
    exact ⟨a, b, rx.dp h1, ry.dp h3, h2, h4, k H _ (.refl _) (.bl _)⟩
  · cases e⟩
theorem od_ne (hu : X.A.units + 64 < cLine) : OpD X (compareOp .NotEq) neW := ⟨_, op_neD hu, fun Ex O H x y a b r Q _ e rx ry k => by
  unfold neW at e
  split at e
  · rename_i z
    cases e
    obtain ⟨⟨h1, h2⟩, h3, h4⟩ := okD_and z
    exact ⟨a, b, rx.dp h1, ry.dp h3, h2, h4, k H _ (.refl _) (.bl _)⟩
  · cases e⟩
def isNone : W → Bool
  | .none => true
  | _ => false
theorem rp_isNone {K : PySem.W.Frag} {Ex : Addr → Nat → Prop} {O : Addr → Prop} {H : Hp} {v : V} {w : W} (r : Rp K Ex O H v w) : decide (v = .non) = isNone w := by cases r <;> rfl
/-- x is None -/
def isNW : W → W → Option W := fun a b => if isNone b = true then some (.bool (isNone a)) else none
def notNW : W → W → Option W := fun a b => if isNone b = true then some (.bool (!isNone a)) else none
theorem rp_none {K : PySem.W.Frag} {Ex : Addr → Nat → Prop} {O : Addr → Prop} {H : Hp} {v : V} {w : W} (r : Rp K Ex O H v w) (h : isNone w = true) : v = .non := by cases r <;> first | rfl | cases h
theorem od_isN : OpD X (compareOp .Is) isNW := ⟨_, op_isN, fun Ex O H x y a b r Q _ e rx ry k => by
  unfold isNW at e
  split at e
  · rename_i z
    cases e
    exact ⟨rp_none ry z, by rw [rp_isNone rx]; exact k H _ (.refl _) (.bl _)⟩
  · cases e⟩
theorem od_notN : OpD X (compareOp .IsNot) notNW := ⟨_, op_notN, fun Ex O H x y a b r Q _ e rx ry k => by
  unfold notNW at e
  split at e
  · rename_i z
    cases e
    exact ⟨rp_none ry z, by rw [rp_isNone rx]; exact k H _ (.refl _) (.bl _)⟩
  · cases e⟩
/-- x is True, both truth values -/
def isBW : W → W → Option W := fun a b => match a, b with
  | .bool x, .bool y => some (.bool (decide (x = y)))
  | _, _ => none
def notBW : W → W → Option W := fun a b => match a, b with
  | .bool x, .bool y => some (.bool (!decide (x = y)))
  | _, _ => none
theorem rp_bool {K : PySem.W.Frag} {Ex : Addr → Nat → Prop} {O : Addr → Prop} {H : Hp} {v : V} {b : Bool} (r : Rp K Ex O H v (.bool b)) : v = .bl b := by cases r; rfl
theorem rp_str {K : PySem.W.Frag} {Ex : Addr → Nat → Prop} {O : Addr → Prop} {H : Hp} {v : V} {b : Str} (r : Rp K Ex O H v (.str b)) : v = .str b := by cases r; rfl
theorem od_isB : OpD X (compareOp .Is) isBW := ⟨_, op_isBl, fun Ex O H x y a b r Q _ e rx ry k => by
  unfold isBW at e
  split at e
  · cases e
    exact ⟨_, _, rp_bool rx, rp_bool ry, k H _ (.refl _) (.bl _)⟩
  · cases e⟩
theorem od_notB : OpD X (compareOp .IsNot) notBW := ⟨_, op_notBl, fun Ex O H x y a b r Q _ e rx ry k => by
  unfold notBW at e
  split at e
  · cases e
    exact ⟨_, _, rp_bool rx, rp_bool ry, k H _ (.refl _) (.bl _)⟩
  · cases e⟩

/-! ### + and * of more than numbers -/
/-- list + list, however the two lie -/
theorem op_catL : OpR X (binaryOp .Add) (fun x y H Q => ∃ l b xs zs, x = .ref l ∧ y = .ref b ∧ SqL X.K H l xs ∧ SqL X.K H b zs ∧ xs.length + zs.length ≤ sizeLine ∧ ∀ p, H p = none → Q (.ref p) (upd H p (.lst (xs ++ zs)))) := by
  intro pins s σ H x y v u Q I rx ry h
  obtain ⟨l, b, xs, zs, rfl, rfl, hH, hB, hz, q⟩ := h
  cases rx
  cases ry
  obtain ⟨us, r, ⟨⟨c1, d1, t1, s1⟩, n, ho, hc, hd, ht⟩, hl⟩ := I.list hH
  obtain ⟨us2, r2, ⟨⟨c2, d2, t2, s2⟩, n2, ho2, hc2, hd2, ht2⟩, hl2⟩ := I.list hB
  dsimp only at hc hd ht hc2 hd2 ht2
  subst hc hd ht hc2 hd2 ht2
  have e1 := r.length
  have e2 := r2.length
  refine concat_meets ⟨_, ho, rfl⟩ ⟨_, ho2, rfl⟩ noFill_list_add seq_list_add PySem.F.slot_list_add PySem.F.entry_list_add (PySem.F.args_list_add_2 _ _) (list_addW l b us.toArray us2.toArray n n2 _ _ s1 s2 (by rw [List.size_toArray, List.size_toArray]; omega)) ⟨ho, ho2, ?_⟩
  have ea : us.toArray ++ us2.toArray = (us ++ us2).toArray := by simp
  rw [ea]
  exact ⟨.ref _, _, I.lnew (t' := s.toks) (r.append r2) (by rw [List.length_append]; omega), rfl, q _ I.fresh⟩
def addW : W → W → Option W := fun a b => match a, b with
  | .int i, .int j => some (.int (i + j))
  | .str i, .str j => if i.length + j.length ≤ sizeLine then some (.str (i ++ j)) else none
  | .tuple xs, .tuple ys => if xs.length + ys.length ≤ sizeLine then some (.tuple (xs ++ ys)) else none
  | .list xs, .list ys => if xs.length + ys.length ≤ sizeLine then some (.list (xs ++ ys)) else none
  | _, _ => none
theorem RpA.nil_iff {K : PySem.W.Frag} {Ex : Addr → Nat → Prop} {O : Addr → Prop} {H : Hp} {vs : List V} {ws : List W} (r : RpA K Ex O H vs ws) : vs = [] ↔ ws = [] := by
  cases r <;> simp
theorem od_add : OpD X (binaryOp .Add) addW := by
  refine ⟨_, (op_add.or op_add_str).or (op_catA.or op_catL), fun Ex O H x y a b r Q hO e rx ry k => ?_⟩
  unfold addW at e
  split at e
  · cases e
    exact .inl (.inl ⟨_, _, rp_int rx, rp_int ry, k H _ (.refl _) (.int _)⟩)
  · split at e
    · rename_i z
      cases e
      exact .inl (.inr ⟨_, _, rp_str rx, rp_str ry, z, k H _ (.refl _) (.str _)⟩)
    · cases e
  · split at e
    · rename_i z
      cases e
      refine .inr (.inl ?_)
      cases rx with
      | tup l1 r1 =>
        cases ry with
        | tup l2 r2 =>
          refine ⟨_, _, _, _, rfl, rfl, l1.sq, l2.sq, by rw [r1.length, r2.length]; exact z, fun e1 => ?_, fun e1 e2 => ?_, fun e1 e2 p np => ?_⟩
          · rw [r1.nil_iff] at e1
            subst e1
            exact k H _ (.refl _) (.tup l2 r2)
          · rw [r2.nil_iff] at e2
            subst e2
            rw [List.append_nil] at k
            exact k H _ (.refl _) (.tup l1 r1)
          · exact k _ _ (rp_newTup hO np (r1.append r2)).1 (rp_newTup hO np (r1.append r2)).2
    · cases e
  · split at e
    · rename_i z
      cases e
      refine .inr (.inr ?_)
      cases rx with
      | lst l1 r1 =>
        cases ry with
        | lst l2 r2 =>
          refine ⟨_, _, _, _, rfl, rfl, l1.sq, l2.sq, by rw [r1.length, r2.length]; exact z, fun p np => ?_⟩
          exact k _ _ (rp_newLst hO np (r1.append r2)).1 (rp_newLst hO np (r1.append r2)).2
    · cases e
  · cases e
noncomputable def mulW : W → W → Option W := fun a b => match a, b with
  | .int i, .int j => if cdec (i.natAbs.log2 + j.natAbs.log2 < 1000000) = true then some (.int (i * j)) else none
  | .tuple xs, .int k => if cdec (xs ≠ [] ∧ 2 ≤ k ∧ k ≤ 1000 ∧ xs.length ≤ 1000) = true then some (.tuple (List.replicate k.toNat xs).flatten) else none
  | _, _ => none
theorem od_mul : OpD X (binaryOp .Mult) mulW := by
  refine ⟨_, op_mulW.or op_repT, fun Ex O H x y a b r Q hO e rx ry k => ?_⟩
  unfold mulW at e
  split at e
  · split at e
    · rename_i z
      have z := cdec_iff.mp z
      cases e
      exact .inl ⟨_, _, rp_int rx, rp_int ry, z, k H _ (.refl _) (.int _)⟩
    · cases e
  · split at e
    · rename_i z
      have z := cdec_iff.mp z
      cases e
      cases rx with
      | tup l1 r1 =>
        refine .inr ⟨_, _, _, rfl, rp_int ry, l1.sq, fun h => z.1 (r1.nil_iff.mp h), z.2.1, z.2.2.1, by rw [r1.length]; exact z.2.2.2, fun p np => ?_⟩
        exact k _ _ (rp_newTup hO np (r1.rep _)).1 (rp_newTup hO np (r1.rep _)).2
    · cases e
  · cases e
/-- a new list times a number -/
noncomputable def mRepF (a b : M W) : M W := fun d => (a d).bind fun x d1 => (b d1).bind fun y d2 => match x, y with
  | .list xs, .int k => if cdec (-(2 ^ 63) ≤ k ∧ k < 2 ^ 63 ∧ xs.length * k.toNat ≤ sizeLine) = true then .ok (.list (List.replicate k.toNat xs).flatten) d2 else .bad
  | _, _ => .bad
theorem df_rep {pa pb : Bool} {Y : Yx} {a b : Expr} {pos : Pos} {ma mb : M W} (ha : DF X Y pa a ma) (hb : DE X Y pb b mb) : DF X Y (pa && pb) (.BinOp a .Mult b pos) (mRepF ma mb) := ⟨by
  refine pe_weak (pe_op op_rep ha.pe hb.pe) fun σ H Q h => ?_
  obtain ⟨Oc, d, rs, h⟩ := h
  refine ⟨Oc, d, rs, (Po.bind h).imp fun x d1 H1 g1 h1 p np rsp ob => ?_⟩
  refine ⟨Oc, d1, g1.rs, ?_⟩
  have h2 := Po.bind1 h1
  cases q : mb d1 with
  | bad => rw [q] at h2; exact h2
  | exc c d2 => rw [q] at h2; exact h2
  | ok y d2 =>
    rw [q] at h2
    intro H2 g2 v2 r2
    have h3 := h2 H2 g2
    dsimp only at h3
    split at h3
    · rename_i xs k
      split at h3
      · rename_i z
        have z := cdec_iff.mp z
        obtain ⟨vs, e, ra⟩ := ob
        have ra' : RpA X.K Y.Ex (Ow Oc d1 σ) H1 vs xs := ra.mono ke_with fun _ _ z => z
        have nm : ¬ Mine d1 σ p := rsp.nMine (.inr rfl)
        have e2 : H2 p = some (.lst vs) := g2.fr p _ e nm
        have ra2 := g2.rpA ra'
        refine ⟨p, k, vs, rfl, rp_int r2, e2, z.1, z.2.1, by rw [ra.length]; exact z.2.2, fun t nt => ?_⟩
        exact h3 _ (.same g2.rs (same_new nt)) t ((g1.trans g2).free nt) (g2.rs.withNew nt) ⟨_, upd_same, (ra2.rep _).mono (ke_new nt) fun _ _ z => z⟩
      · exact h3.elim
    · exact h3.elim⟩

end
end Qd
end
section
set_option Elab.async false
set_option linter.all false
set_option maxRecDepth 100000
set_option maxHeartbeats 2000000
/-! Within an except suite: iteration over lists, tuples as targets, comprehensions. -/
namespace Qd
open PySem PySem.Spec PyProof.Rows L2 HotX L2H

section
variable {prog : Program} {w : World} {A : Around} {E : Value → Shared → Prop} {s : Shared}
/-- StopIteration is made, chained to what is handled, and caught -/
theorem stop_hot {α : Type} {x1 it : Addr} {h : Heap} {Q : Option Value → Shared → Prop} (hot : HotAt A x1 s.heap) (hne : x1 ≠ it) (sb : Heap.SameBut it s.heap h)
    (hQ : ∀ h', Heap.ExtBut it s.heap h' → Q none { s with heap := h' }) :
    wpAny (model prog w) A.in1 (Builtin.SmallTypes.stopIteration : Sem α) (fun v s1 => False) (fun e s1 => wpAny (model prog w) A (isInstance e (.type "StopIteration")) (fun b s2 => b = true ∧ Q none s2) E s1) { s with heap := h } := by
  obtain ⟨hh, o1, vs1, h1, d1, c1⟩ := hot
  have h1' : h.get? x1 = some o1 := (sb.2 x1 hne).trans h1
  show wpAny _ _ (newExc (.type "StopIteration") [] >>= _) _ _ _
  refine wpAny_bind ?_
  simp only [newExc, newTuple]
  refine wpAny_bind (wpAny_newObj_type ?_ (by size_fits))
  refine wpAny_bind (m := firstArgMember _ _) (wpAny_of_eq (a := Value.none) (by first | rfl | (simp only [firstArgMember]; rfl)) ?_)
  refine wpAny_newObj_type ?_ (by size_fits)
  refine raiseNew_hot (A := A.in1) ⟨hh, o1, vs1, Heap.get?_push_of_some _ (Heap.get?_push_of_some _ h1'), d1, c1⟩ (Nat.ne_of_lt (Heap.lt_size (Heap.get?_push_of_some _ h1'))) (Heap.get?_push_size _ rfl) rfl (by first | (simp; done) | (simp; omega) | (simp only [Array.size_append]; simp; omega)) ?_
  refine wpAny_isInstance (T := "StopIteration") (b := true) ⟨_, Heap.get?_update_self _ (Heap.get?_push_size _ rfl) rfl, rfl⟩ isSubtype_stop ⟨rfl, ?_⟩
  refine hQ _ fun b o hb e => ?_
  have e' : h.get? b = some o := (sb.2 b hb).trans e
  rw [Heap.get?_update_other _ _ (Nat.ne_of_gt (Heap.lt_size (Heap.get?_push_of_some _ e')))]
  exact Heap.get?_push_of_some _ (Heap.get?_push_of_some _ e')
theorem next_list_end_hot {it l x1 : Addr} {i : Nat} {items : Array Value} {Q : Option Value → Shared → Prop} (hot : HotAt A x1 s.heap) (hne : x1 ≠ it) (hit : s.heap.IsListIter it l i) (hl : s.heap.IsList l items) (hx : items[i]? = none)
    (hQ : ∀ h', Heap.ExtBut it s.heap h' → Q none { s with heap := h' }) : wpAny (model prog w) A (pyNext (.ref it)) Q E s := by
  obtain ⟨o, ho, hc, hd⟩ := id hit
  obtain ⟨ol, hol, _, nl, hdl⟩ := hl
  unfold pyNext
  refine wpAny_bind (wpAny_attempt (wpAny_callSpecial?_slot (name := Str.ofString "__next__") hit.typeIs slot_listiter_next (wpAny_call_entry slot_listiter_next hit.typeIs entry_listiter_next ?_ (args_listiter_next _))))
  show wpAny _ _ (field (.ref it) 0 >>= _) _ _ s
  refine wpAny_bind (wpAny_field ho hd (x := .ref l) rfl ?_)
  show wpAny _ _ (if (Value.ref l == Value.none) = true then _ else _) _ _ s
  rw [if_neg (show ¬ ((Value.ref l == Value.none) = true) from Bool.false_ne_true)]
  show wpAny _ _ (field (.ref it) 1 >>= _) _ _ s
  refine wpAny_bind (wpAny_field ho hd (x := .int i 0) rfl ?_)
  show wpAny _ _ (seqItems? (.ref l) >>= _) _ _ s
  refine wpAny_bind (wpAny_seqItems hol hdl ?_)
  simp only [Int.toNat_natCast, hx]
  refine wpAny_bind (wpAny_rule (wpAny_bind (wpAny_setField ho hd (by simp) ?_)))
  refine wpAny_mono (stop_hot (Q := Q) (E := E) hot hne (Heap.SameBut.update ..) hQ) (fun _ _ z => False.elim z) fun e s1 z => ?_
  exact wpAny_bind (wpAny_mono z (fun b s2 ⟨hb, q⟩ => by subst hb; exact wpAny_pure q) fun _ _ z => z)
theorem next_tup_end_hot {it l x1 : Addr} {i : Nat} {items : Array Value} {Q : Option Value → Shared → Prop} (hot : HotAt A x1 s.heap) (hne : x1 ≠ it) (hit : IsTupIter s.heap it l i) (hl : IsTup s.heap l items) (hx : items[i]? = none)
    (hQ : ∀ h', Heap.ExtBut it s.heap h' → Q none { s with heap := h' }) : wpAny (model prog w) A (pyNext (.ref it)) Q E s := by
  obtain ⟨o, ho, hc, hd⟩ := id hit
  obtain ⟨ol, hol, _, nl, hdl⟩ := hl
  unfold pyNext
  refine wpAny_bind (wpAny_attempt (wpAny_callSpecial?_slot (name := Str.ofString "__next__") hit.typeIs slot_tupleiter_next (wpAny_call_entry slot_tupleiter_next hit.typeIs entry_tupleiter_next ?_ (args_tupleiter_next _))))
  show wpAny _ _ (field (.ref it) 0 >>= _) _ _ s
  refine wpAny_bind (wpAny_field ho hd (x := .ref l) rfl ?_)
  show wpAny _ _ (if (Value.ref l == Value.none) = true then _ else _) _ _ s
  rw [if_neg (show ¬ ((Value.ref l == Value.none) = true) from Bool.false_ne_true)]
  show wpAny _ _ (field (.ref it) 1 >>= _) _ _ s
  refine wpAny_bind (wpAny_field ho hd (x := .int i 0) rfl ?_)
  show wpAny _ _ (seqItems? (.ref l) >>= _) _ _ s
  refine wpAny_bind (wpAny_seqItems hol hdl ?_)
  simp only [Int.toNat_natCast, hx]
  refine wpAny_bind (wpAny_rule (wpAny_bind (wpAny_setField ho hd (by simp) ?_)))
  refine wpAny_mono (stop_hot (Q := Q) (E := E) hot hne (Heap.SameBut.update ..) hQ) (fun _ _ z => False.elim z) fun e s1 z => ?_
  exact wpAny_bind (wpAny_mono z (fun b s2 ⟨hb, q⟩ => by subst hb; exact wpAny_pure q) fun _ _ z => z)
/-- a tuple's items into targets -/
theorem assign_tup_hot {x1 : Addr} {env : Env} {elts : List Expr} {k : Nat} {pos : Pos} {t : Addr} {items : Array Value} {Q : Unit → Shared → Prop} (hot : HotAt A x1 s.heap) (ht : IsTup s.heap t items)
    (hn : (assignEach elts env).length = items.size) (hstar : (assignEach elts env).findIdx? (·.1) = none)
    (h : ∀ h', Heap.ExtBut s.heap.objs.size s.heap h' → wpAny (model prog w) A (assignInOrder ((assignEach elts env).map (·.2)) items.toList) Q E { s with heap := h' }) :
    wpAny (model prog w) A (assign (.Tuple elts k pos) env (.ref t)) Q E s := by
  rw [assign_Tuple]
  refine wpAny_bind (wpAny_standAt ?_)
  unfold unpack
  rw [hn, hstar]
  refine wpAny_bind (wpAny_holding ?_)
  have hlt : t ≠ s.heap.objs.size := by obtain ⟨o, ho, _⟩ := ht; exact Nat.ne_of_lt (Heap.lt_size ho)
  have hx1 : x1 ≠ s.heap.objs.size := by obtain ⟨_, o, vs, ho, _⟩ := hot; exact Nat.ne_of_lt (Heap.lt_size ho)
  unfold unpackItems
  refine wpAny_bind ?_
  unfold notIterableAtAll
  refine wpAny_bind (wpAny_specialOf ht.typeIs slot_tuple_iter.lookup ?_)
  refine wpAny_pure ?_
  simp only [Bool.false_eq_true, if_false]
  refine wpAny_bind (wpAny_holding (iter_tuple ht ?_))
  refine wpAny_bind (wpAny_holding (draw_tuple hlt items.size 0 _ _ ⟨_, Heap.get?_push_size _ rfl, rfl, rfl⟩ (ht.push _) (by omega) fun h₁ hit₁ hs₁ => ?_))
  rw [show List.take items.size (List.drop 0 items.toList) = items.toList by rw [List.drop_zero]; exact List.take_of_length_le (by simp)]
  rw [if_neg (by simp)]
  have ht₁ : IsTup h₁ t items := (ht.push _).extBut hs₁.extBut hlt
  obtain ⟨hh, o, vs, g1, g2, g3⟩ := hot
  have hot₁ : HotAt A x1 h₁ := ⟨hh, o, vs, hs₁.extBut x1 o hx1 (Heap.get?_push_of_some _ g1), g2, g3⟩
  refine wpAny_bind (wpAny_holding (next_tup_end_hot (s := { s with heap := h₁ }) hot₁ hx1 hit₁ ht₁ (by simp) fun h₂ he₂ => ?_))
  simp only [Option.isSome_none, Bool.false_eq_true, if_false]
  exact wpAny_pure (h h₂ fun b o hb e => he₂ b o hb (hs₁.extBut b o hb (Heap.get?_push_of_some _ e)))
end

theorem turn_listH {P : Program} {w : World} {K : PySem.W.Frag} {tg : Expr} (a it : Addr) : TurnH P w K tg (Itl K a) [it] it (fun i h => h.IsListIter it a i) where
  mem := by simp
  obj := fun i h st b hb => by
    have e : b = it := by simpa using hb
    subst e
    obtain ⟨o, e, c, d⟩ := st
    exact ⟨o, e, fun v z => by rw [d] at z; cases z⟩
  keep := fun i h h' st k => st.at fun o e => k it (by simp) o e
  item := by
    intro X hP hw hK hc i pins s σ H E I hf st hg
    subst hP hw hK
    obtain ⟨xs, x, hq, hx⟩ := hg
    obtain ⟨its, rv, p, hz⟩ := I.list hq
    obtain ⟨u, hu, ru⟩ := rv.get hx
    obtain ⟨f0, f1, f2, f3, f4, f5⟩ := hf it (by simp)
    refine wpAny_pyNext_list_item st p.isList (x := u) (by simpa using hu) fun h' st' sb => ?_
    have I1 : Inv X pins σ H { s with heap := h' } := I.turned (t' := s.toks) (fun b o hb e => (sb.2 b hb).trans e) f0 f1 f3 f4 f5
    obtain ⟨o, e, c, d⟩ := id st'
    exact ⟨u, rfl, go_of (s := { s with heap := h' }) e c d (by decide) ⟨x, H, I1, ru, ⟨rfl, fun ys hy => by rw [I.list_inj hy hq]; exact hx⟩, st', fun b hb => (hf b hb).1⟩⟩
  done := by
    intro X hP hw hK hc i pins s σ H E I hf st hg
    subst hP hw hK
    obtain ⟨xs, hq, hx⟩ := hg
    obtain ⟨its, rv, p, hz⟩ := I.list hq
    obtain ⟨f0, f1, f2, f3, f4, f5⟩ := hf it (by simp)
    have hl := rv.length
    obtain ⟨q, ⟨hh, vs, e1, e2⟩, hp⟩ := hc
    have hpin := I.pin q (List.mem_append_left _ hp)
    exact next_list_end_hot (x1 := q.1) ⟨hh, q.2, vs, hpin.1, e1, e2⟩ (f5 q (List.mem_append_left _ hp)) st p.isList (by simp; omega) fun h' eb => ⟨rfl, I.turned (t' := s.toks) (fun b o hb e => eb b o hb e) f0 f1 f3 f4 f5⟩
  self := fun _ _ _ _ _ st h => wpAny_pyIter_listiter st h
section
variable {X : Cx}
theorem pi_listH {tg l : Expr} {tl : TE} (hl : PE X l tl) : PIH X tg l (iList X.K tl) := by
  refine ⟨fun pins s σ H R I h => ?_⟩
  refine thn (hl.run pins s σ H _ I h) fun v s1 ⟨x, H1, I1, r1, q1⟩ => ?_
  obtain ⟨a, e, ⟨xs, hq⟩, q⟩ := q1
  subst e
  cases r1
  obtain ⟨its, rv, p, hz⟩ := I1.list hq
  refine wpAny_pyIter_list p.isList ?_
  refine ⟨s1.heap.objs.size, [s1.heap.objs.size], _, _, H1, rfl, I1.kept (t' := s1.toks) fun b o e => Heap.get?_push_of_some _ e, turn_listH a _, ⟨_, Heap.get?_push_size _ rfl, rfl, rfl⟩, fun b hb => ?_, q⟩
  have e : b = s1.heap.objs.size := by simpa using hb
  subst e
  exact I1.fpOk (Nat.le_refl _) (I1.hok.fresh (Nat.le_refl _))
theorem pg_tupH {es : List Expr} {k : Nat} {pos : Pos} {t : TGs} {n : Nat} (hc : HotC X) (h : PGs X es t) (hn : (assignEach es X.env).length = n := by rfl) (hst : (assignEach es X.env).findIdx? (·.1) = none := by rfl) : PG X (.Tuple es k pos) (gTup X.K n t) := by
  refine ⟨fun pins s σ H v u Q I r hw => ?_⟩
  obtain ⟨a, xs, e1, hq, hl, hw⟩ := hw
  subst e1
  cases r
  obtain ⟨its, rv, ht, hz⟩ := I.tuple hq
  obtain ⟨x1, hot⟩ := hc.at I
  refine assign_tup_hot hot ht (by simp [hn, ← hl, rv.length]) hst fun h' hx => ?_
  have I1 : Inv X pins σ H { s with heap := h' } := I.kept (t' := s.toks) fun b o e => hx b o (Nat.ne_of_lt (Heap.lt_size e)) e
  exact h.run pins _ σ H xs _ Q I1 (by simpa using rv) hw
/-- a comprehension's block within a suite: the handled exception stays pinned -/
abbrev blkH (X : Cx) (s : Shared) (H : Hp) (scope : Scope) (cenv : Env) (fp : List Addr) (p : Addr × Obj) : Cx := { X.blk s H scope cenv fp with pn := [p] }
theorem invToH {σ : St} {H H' : Hp} {s s' : Shared} {scope : Scope} {cenv : Env} {fp : List Addr} {p : Addr × Obj} (I : Inv (X.blk s' H' scope cenv fp) [] σ H s) (hp : s.heap.get? p.1 = some p.2 ∧ H p.1 = none ∧ p.1 ≠ cenv.locals ∧ p.1 ∉ frs X.stack ∧ ∀ v, p.2.data ≠ .cell v) : Inv (blkH X s' H' scope cenv fp p) [] σ H s :=
  ⟨⟨I.ok.mod, I.ok.kind, I.ok.glob, I.ok.blt, I.ok.above, I.ok.inj, I.ok.has, I.ok.cab, I.ok.hd, I.ok.frames, I.ok.stk, I.ok.exf, I.ok.bs, I.ok.bsz, I.ok.noex, I.ok.exfs, I.ok.funs, I.ok.frf⟩, I.os, I.bare, I.base, I.loc, I.cell, I.free, I.freeC, fun q hq => by
    rw [List.append_nil, List.mem_singleton] at hq
    subst hq
    exact hp, I.hok, I.len⟩
/-- [elt for tg in iter if ..] within a suite -/
theorem lc_coreH {pins : List (Addr × Obj)} {s : Shared} {σ : St} {H : Hp} {Q : VK} {elt tg iter : Expr} {ifs : List Expr} {scope : Scope} {own : List (Str × Nat)} {pos pos' : Pos} {wi : TI} {g : TG} {tt : TT} {te : TE} {use : Option (Value → Sem Unit)} {Qf : Value → Shared → Prop}
    (hc : HotC X) (hN : X.N.Nodup) (I : Inv X pins σ H s) (hi : PIH X tg iter wi) (ok : BlkOk X.N X.env.scope scope own)
    (hg : ∀ (s : Shared) (H : Hp) (C : Addr) (cl : List (Str × Addr)) (fp : List Addr) (p : Addr × Obj), Hot1 X.A p → PG (blkH X s H scope (compEnvC scope cl C X.env) fp p) tg g)
    (ht : ∀ (s : Shared) (H : Hp) (C : Addr) (cl : List (Str × Addr)) (fp : List Addr) (p : Addr × Obj), Hot1 X.A p → PTs (blkH X s H scope (compEnvC scope cl C X.env) fp p) ifs tt)
    (he : ∀ (s : Shared) (H : Hp) (C : Addr) (cl : List (Str × Addr)) (fp : List Addr) (p : Addr × Obj), Hot1 X.A p → PE (blkH X s H scope (compEnvC scope cl C X.env) fp p) elt te)
    (hs : ∀ x, foldedSetIterable iter X.env x = pure x) (h : tLc wi g tt te (own.map (·.2)) σ H Q)
    (hRR : ∀ D C s' m H', Inv X pins σ H' s' → Q (.ref D) H' → s'.heap.Ns C m → FpOk X pins H' C → compPost (model X.prog X.w) X.A X.xe use Qf (.ref D) C (.ok .next) s') :
    wpAny (model X.prog X.w) X.A (comprehension (.ListComp elt [⟨tg, iter, ifs, 0⟩] scope pos) scope X.env pos' (newList []) false (eval iter X.env) use) Qf X.xe s := by
  obtain ⟨p, hot, hpm⟩ := hc
  have hc : HotC X := ⟨p, hot, hpm⟩
  have hfree : ∀ y ∈ scope.names, y.2 = .free → ∃ c, X.env.cells.lookup y.1 = some c := fun y hy e => I.ok.has _ (by rcases ok.free y hy e with k | k; exact .inl k; exact .inr k)
  refine wpAny_comprehension_free (use := use) rfl hs (closure_ok hfree) ok.kind (fun y hy e => by rw [ok.uniq y hy, e]) (thn (hi.run pins s σ H _ I h) fun xv s1 hx => thn hx fun itv s2 h2 => ?_)
  obtain ⟨it, fp, tn, J, H2, e, I2, T, st2, f2, q⟩ := h2
  subst e
  refine wpAny_newObj_type (newEnv_comp ?_) (by show 0 ≤ sizeLine; decide)
  -- the new list at D
  generalize hD : s2.heap.objs.size = D
  have hDn : H2 D = none := I2.hok.fresh (Nat.le_of_eq hD)
  obtain ⟨W, ⟨m0, w0⟩, turn⟩ := q D hDn
  generalize hs3 : ({ s2 with heap := s2.heap.push { cls := .type "list", data := .seq ([] : List Value).toArray } } : Shared) = s3
  have h3 : s3.heap = s2.heap.push { cls := .type "list", data := .seq ([] : List Value).toArray } := by rw [← hs3]
  have I3 : Inv X pins σ (upd H2 D (.lst [])) s3 := by
    rw [← hs3]
    exact I2.laid (t' := s2.toks) (fun b o e => Heap.get?_push_of_some _ e) (Nat.le_of_eq hD) ⟨Nat.zero_le _, [], 0, .nil, by rw [← hD]; exact Heap.get?_push_size _ rfl⟩
  have f3 : ∀ b ∈ fp, FpOk X pins (upd H2 D (.lst [])) b ∧ b < s3.heap.objs.size := fun b hb => by
    obtain ⟨o, e, _⟩ := T.obj _ _ st2 b hb
    have hlt := Heap.lt_size e
    exact ⟨⟨by rw [upd_ne (by rw [← hD]; exact Nat.ne_of_lt hlt)]; exact (f2 b hb).1, (f2 b hb).2⟩, by rw [h3, Heap.size_push]; exact Nat.lt_succ_of_lt hlt⟩
  have st3 : tn 0 s3.heap := T.keep _ _ _ st2 fun b _ o e => by rw [h3]; exact Heap.get?_push_of_some _ e
  have I4 := block_start I3 ok hN f3
  generalize hcl : cellsFrom (s3.heap.objs.size + 1) scope.names (cloFrom X.env.cells scope.names []) = cl at I4 ⊢
  show codeAny _ _ (.compStart (.ListComp elt [⟨tg, iter, ifs, 0⟩] scope pos) 0 (.ref it) (.ref D) (compEnvC scope cl s3.heap.objs.size X.env)) (compPost (model X.prog X.w) X.A X.xe use Qf (.ref D) s3.heap.objs.size) { s3 with heap := pushCells (s3.heap.push { cls := .type "dict", data := .dict #[] }) scope.names }
  have pg := hg s3 (upd H2 D (.lst [])) s3.heap.objs.size cl fp p hot
  have pt := ht s3 (upd H2 D (.lst [])) s3.heap.objs.size cl fp p hot
  have pe := he s3 (upd H2 D (.lst [])) s3.heap.objs.size cl fp p hot
  have nfp : ∀ b ∈ fp, (upd H2 D (.lst [])) b = none := fun b hb => (f3 b hb).1.1
  have hp3 := I3.pin p (List.mem_append_left _ hpm)
  generalize hce : compEnvC scope cl s3.heap.objs.size X.env = ce at I4 pg pt pe ⊢
  have cL : ce.locals = s3.heap.objs.size := by subst hce; rfl
  generalize hH3 : upd H2 D (.lst []) = H3 at I3 I4 pg pt pe w0 nfp f3 hp3
  generalize hs4 : ({ s3 with heap := pushCells (s3.heap.push { cls := .type "dict", data := .dict #[] }) scope.names } : Shared) = s4 at I4 ⊢
  have kp4 : ∀ b o, s3.heap.get? b = some o → s4.heap.get? b = some o := fun b o e => by rw [← hs4]; exact pushCells_keeps _ _ _ _ (Heap.get?_push_of_some _ e)
  have st4 : tn 0 s4.heap := T.keep _ _ _ st3 fun b _ o e => kp4 b o e
  have J4 : Inv (blkH X s3 H3 scope ce fp p) [] (wipe σ (own.map (·.2))) H3 s4 := invToH I4 ⟨kp4 _ _ hp3.1, hp3.2.1, by rw [cL]; exact Nat.ne_of_lt (Heap.lt_size hp3.1), fun z => by
    rcases List.mem_cons.mp (I3.stkSub _ z) with e | e
    · exact hp3.2.2.1 e
    · exact hp3.2.2.2.1 e, hp3.2.2.2.2⟩
  have hcB : HotC (blkH X s3 H3 scope ce fp p) := ⟨p, hot, List.mem_singleton.mpr rfl⟩
  have stat : ∀ {σ' : St} {H' : Hp} {s' : Shared}, Inv (blkH X s3 H3 scope ce fp p) [] σ' H' s' → (∀ b ∈ fp, H' b = none) → ∀ b ∈ fp, FpOk (blkH X s3 H3 scope ce fp p) [] H' b := fun {σ' H' s'} I' hn b hb =>
    ⟨hn b hb, (I'.ok.exf b hb).1, I'.ok.exfs b hb, .inl hb, fun x c e => (I'.ok.exf b hb).2 x c e, fun q hq => by
      have hq : q ∈ [p] ++ [] := hq
      rw [List.append_nil, List.mem_singleton] at hq
      rw [hq]
      exact (f3 b hb).1.2.2.2.2.2 p (List.mem_append_left _ hpm)⟩
  have loop : codeAny (model X.prog X.w) X.A (.compLoop (.ListComp elt [⟨tg, iter, ifs, 0⟩] scope pos) 0 (.ref it) (.ref D) ce) (compPost (model X.prog X.w) X.A X.xe use Qf (.ref D) s3.heap.objs.size) s4 := by
    refine compLoop_any (fun n s' => ∃ i H', Inv (blkH X s3 H3 scope ce fp p) [] (wipe σ (own.map (·.2))) H' s' ∧ tn i s'.heap ∧ (∀ b ∈ fp, H' b = none) ∧ W i n H') ?_ m0 ⟨0, H3, J4, st4, nfp, w0⟩
    rintro n s5 ⟨i, H5, I5, st5, n5, w5⟩
    rcases turn i n H5 w5 with ⟨stop, qq⟩ | ⟨go, Nx, hNx, step⟩
    · refine thnF (T.done (blkH X s3 H3 scope ce fp p) rfl rfl rfl hcB i [] s5 _ H5 (fun _ _ => False) I5 (stat I5 n5) st5 stop) fun r s6 ⟨hr, I6⟩ => ?_
      subst hr
      have I7 : Inv X pins σ H5 s6 := I3.call' (ch := fp) I6.os I6.base I6.hok I6.bare fun b hb => ⟨(f3 b hb).1.2.2.2.1, (f3 b hb).1.2.1, (f3 b hb).1.2.2.2.2.1, (f3 b hb).1.2.2.2.2.2⟩
      have nC : H5 s3.heap.objs.size = none := by
        have z : H5 ce.locals = none := I6.free
        rw [cL] at z
        exact z
      obtain ⟨m, hn, _⟩ := I6.loc
      have hn : s6.heap.Ns ce.locals m := hn
      rw [cL] at hn
      exact hRR D s3.heap.objs.size s6 m H5 I7 qq hn (I3.fpOk (Nat.le_refl _) nC)
    · refine thnF (T.item (blkH X s3 H3 scope ce fp p) rfl rfl rfl hcB i [] s5 _ H5 (fun _ _ => False) I5 (stat I5 n5) st5 go) fun r s6 ⟨u, hr, h6⟩ => ?_
      subst hr
      refine thnF h6 fun _ s7 ⟨x, H7, I7, r7, y7, st7, n7⟩ => ?_
      refine thnF (pg.run _ s7 _ H7 x u _ (I7.pinned (stat I7 n7) (T.obj _ _ st7)) r7 (step x H7 y7)) fun _ s8 ⟨σ8, H8, I8, hw8, q8⟩ => ?_
      refine thnF (pt.run _ s8 σ8 H8 _ I8 q8) fun b s9 ⟨H9, I9, q9⟩ => ?_
      have fin : ∀ {s' : Shared} {H' : Hp}, Inv (blkH X s3 H3 scope ce fp p) ([] ++ pinsAt fp s7.heap) σ8 H' s' → Nx H' → ∃ m, m < n ∧ ∃ i H', Inv (blkH X s3 H3 scope ce fp p) [] (wipe σ (own.map (·.2))) H' s' ∧ tn i s'.heap ∧ (∀ b ∈ fp, H' b = none) ∧ W i m H' := fun {s' H'} I' nx => by
        obtain ⟨m', hm, w'⟩ := hNx H' nx
        have pin' : ∀ b ∈ fp, ∀ o, s7.heap.get? b = some o → s'.heap.get? b = some o ∧ H' b = none := fun b hb o e =>
          let z := I'.pin (b, o) (List.mem_append_right _ (List.mem_append_right _ (mem_pinsAt hb e)))
          ⟨z.1, z.2.1⟩
        have hl : (wipe σ (own.map (·.2))).length = σ8.length := by rw [← hw8, wipe_length]
        refine ⟨m', hm, i + 1, H', (I'.unpinned (pins := [])).weak hl (fun j v e => by rw [← hw8] at e; exact (wipe_some e).1), T.keep _ _ _ st7 fun b hb o e => (pin' b hb o e).1, fun b hb => ?_, w'⟩
        obtain ⟨o, e, _⟩ := T.obj _ _ st7 b hb
        exact (pin' b hb o e).2
      cases b with
      | false =>
        simp only [Bool.false_eq_true, if_false] at q9 ⊢
        exact fin I9 q9
      | true =>
        simp only [if_true] at q9 ⊢
        refine thnF (pe.run _ s9 σ8 H9 _ I9 q9) fun z s10 ⟨yv, H10, I10, r10, acc, hD10, hz10, nx⟩ => ?_
        exact app_ok (X := blkH X s3 H3 scope ce fp p) I10 hD10 hz10 r10 fun s11 I11 => fin I11 nx
  exact codeAny_compStart_list loop (T.self X.A 0 _ _ _ st4 loop)
theorem pe_lcH {elt tg iter : Expr} {ifs : List Expr} {scope : Scope} {own : List (Str × Nat)} {pos : Pos} {wi : TI} {g : TG} {tt : TT} {te : TE} (hc : HotC X) (hN : X.N.Nodup) (hi : PIH X tg iter wi) (ok : BlkOk X.N X.env.scope scope own)
    (hg : ∀ (s : Shared) (H : Hp) (C : Addr) (cl : List (Str × Addr)) (fp : List Addr) (p : Addr × Obj), Hot1 X.A p → PG (blkH X s H scope (compEnvC scope cl C X.env) fp p) tg g)
    (ht : ∀ (s : Shared) (H : Hp) (C : Addr) (cl : List (Str × Addr)) (fp : List Addr) (p : Addr × Obj), Hot1 X.A p → PTs (blkH X s H scope (compEnvC scope cl C X.env) fp p) ifs tt)
    (he : ∀ (s : Shared) (H : Hp) (C : Addr) (cl : List (Str × Addr)) (fp : List Addr) (p : Addr × Obj), Hot1 X.A p → PE (blkH X s H scope (compEnvC scope cl C X.env) fp p) elt te)
    (hs : ∀ x, foldedSetIterable iter X.env x = pure x := by intro _; rfl) : PE X (.ListComp elt [⟨tg, iter, ifs, 0⟩] scope pos) (tLc wi g tt te (own.map (·.2))) := by
  refine ⟨fun pins s σ H Q I h => ?_⟩
  rw [eval_ListComp]
  refine lc_coreH hc hN I hi ok hg ht he hs h fun D C s' m H' I' q hn f => ⟨m, hn, fun h'' sb => ?_⟩
  obtain ⟨f0, f1, f2, f3, f4, f5⟩ := f
  exact ⟨.ref D, H', I'.turned (t' := s'.toks) (fun b o hb e => (sb.2 b hb).trans e) f0 f1 f3 f4 f5, rfl, q⟩
/-- name = [..] on one line -/
theorem ps_setLcH {i : Nat} {y : Str} {py : Pos} {elt tg iter : Expr} {ifs : List Expr} {scope : Scope} {own : List (Str × Nat)} {pos spos : Pos} {wi : TI} {g : TG} {tt : TT} {te : TE} (hc : HotC X) (hN : X.N.Nodup) (hy : X.N[i]? = some y) (hyl : X.env.scope.names.lookup y = some .local)
    (hsw : swapsWith (.ListComp elt [⟨tg, iter, ifs, 0⟩] scope pos) (some (.Name y py)) spos.line X.env = pure true) (hi : PIH X tg iter wi) (ok : BlkOk X.N X.env.scope scope own)
    (hg : ∀ (s : Shared) (H : Hp) (C : Addr) (cl : List (Str × Addr)) (fp : List Addr) (p : Addr × Obj), Hot1 X.A p → PG (blkH X s H scope (compEnvC scope cl C X.env) fp p) tg g)
    (ht : ∀ (s : Shared) (H : Hp) (C : Addr) (cl : List (Str × Addr)) (fp : List Addr) (p : Addr × Obj), Hot1 X.A p → PTs (blkH X s H scope (compEnvC scope cl C X.env) fp p) ifs tt)
    (he : ∀ (s : Shared) (H : Hp) (C : Addr) (cl : List (Str × Addr)) (fp : List Addr) (p : Addr × Obj), Hot1 X.A p → PE (blkH X s H scope (compEnvC scope cl C X.env) fp p) elt te)
    (hs : ∀ x, foldedSetIterable iter X.env x = pure x := by intro _; rfl) : PS X (.Assign [.Name y py] (.ListComp elt [⟨tg, iter, ifs, 0⟩] scope pos) spos) (tAsg (tLc wi g tt te (own.map (·.2))) (gName i)) := by
  refine ⟨fun pins s σ H D I h => ?_⟩
  rw [exec_Assign_Name_used _ _ _ _ hsw]
  refine wpAny_bind (wpAny_standAt (wpAny_bind ?_))
  have h : tLc wi g tt te (own.map (·.2)) σ H (fun x H1 => gName i x σ H1 D.nx) := h
  refine wpAny_bind (thn (lc_coreH (use := some (assign (.Name y py) X.env)) (pos' := firstIterPos [⟨tg, iter, ifs, 0⟩] pos) (Qf := fun _ s' => SP X pins D .next s') hc hN I hi ok hg ht he hs h fun L C s' m H' I' q hn f => ?_) fun _ s' hq => wpAny_pure (wpAny_pure hq))
  show wpAny _ _ (assign (.Name y py) X.env (.ref L)) _ _ _
  refine wpAny_assign_Name (store_ok2 (v := V.ref L) I' hN hy (.inl hyl) rfl (fun s2 I2 ⟨a, sb, ha⟩ => ?_) (.inr hyl))
  obtain ⟨f0, f1, f2, f3, f4, f5⟩ := f
  have haC : C ≠ a := ha.elim (fun z => by rw [z]; exact f1) fun z e => f4 y a z e.symm
  exact ⟨m, hn.sameBut sb haC, fun h3 sb3 => ⟨_, H', I2.turned (t' := s2.toks) (fun b o hb e => (sb3.2 b hb).trans e) f0 f1 f3 f4 f5, q⟩⟩
end

/-! ### by data -/
theorem dg_tupH {X : Cx} {Y : Yx} {es : List Expr} {k : Nat} {pos : Pos} {g : GWs} {n : Nat} {is : List Nat} (hc : HotC X) (h : DGs X Y es g is) (hn : (assignEach es X.env).length = n := by rfl) (hst : (assignEach es X.env).findIdx? (·.1) = none := by rfl) : DG X Y (.Tuple es k pos) (gTupW n g) is := by
  refine ⟨fun w d d' e => ?_, pg_weak (pg_tupH hc h.pg hn hst) fun v σ H Q ⟨Oc, d, w, d', rs, r, e, k⟩ => ?_⟩
  · obtain ⟨ws, rfl, _, e⟩ := gTupW_some e
    exact h.only _ _ _ e
  · obtain ⟨ws, rfl, el, e⟩ := gTupW_some e
    cases r with
    | tup a b => exact ⟨_, _, rfl, a.sq, b.length.trans el, Oc, d, _, d', rs, b, e, k⟩
structure DIH (X : Cx) (Y : Yx) (pu : Bool) (tg e : Expr) (m : M (List W)) : Prop where
  pi : ∃ wi, PIH X tg e wi ∧ ∀ σ H R, tI X Y pu m σ H R → wi σ H R
section
variable {X : Cx} {Y : Yx}
theorem di_listH {pu : Bool} {tg e : Expr} {m : M W} (h : DE X Y pu e m) : DIH X Y pu tg e (mItL m) := by
  refine ⟨_, pi_listH h.pe, fun σ H R h => ?_⟩
  obtain ⟨Oc, d, rs, h⟩ := h
  refine ⟨Oc, d, rs, (Po.bind1 h).imp fun w d1 H1 g1 h1 v r => ?_⟩
  obtain ⟨ws, ew, k⟩ := Po.opt h1
  cases r with
  | lst l r =>
    cases ew
    exact ⟨_, rfl, ⟨_, l.sq⟩, k H1 (.refl g1.rs) _ _ wk_list ⟨_, l, r⟩⟩
  | _ => cases ew
theorem df_lcH {pi pt pe : Bool} {elt tg iter : Expr} {ifs : List Expr} {scope : Scope} {own : List (Str × Nat)} {pos : Pos} {mi : M (List W)} {g : GW} {is : List Nat} {t : M Bool} {e : M W} (hc : HotC X) (hN : X.N.Nodup) (hi : DIH X Y pi tg iter mi) (ok : BlkOk X.N X.env.scope scope own) (his : ∀ i ∈ is, i ∈ own.map (·.2))
    (hg : ∀ (s : Shared) (H : Hp) (C : Addr) (cl : List (Str × Addr)) (fp : List Addr) (p : Addr × Obj), Hot1 X.A p → DG (blkH X s H scope (compEnvC scope cl C X.env) fp p) Y.blk tg g is) (ht : ∀ (s : Shared) (H : Hp) (C : Addr) (cl : List (Str × Addr)) (fp : List Addr) (p : Addr × Obj), Hot1 X.A p → DTs (blkH X s H scope (compEnvC scope cl C X.env) fp p) Y.blk pt ifs t)
    (he : ∀ (s : Shared) (H : Hp) (C : Addr) (cl : List (Str × Addr)) (fp : List Addr) (p : Addr × Obj), Hot1 X.A p → DE (blkH X s H scope (compEnvC scope cl C X.env) fp p) Y.blk pe elt e) (hs : ∀ x, foldedSetIterable iter X.env x = pure x := by intro _; rfl) :
    DF X Y (pi && (pt && pe)) (.ListComp elt [⟨tg, iter, ifs, 0⟩] scope pos) (mLc (own.map (·.2)) mi g t e) := by
  obtain ⟨wi, hpi, hwi⟩ := hi.pi
  obtain ⟨p, hot, hpm⟩ := id hc
  exact ⟨pe_weak (pe_lcH hc hN hpi ok (fun s H C cl fp p h => (hg s H C cl fp p h).pg) (fun s H C cl fp p h => (ht s H C cl fp p h).pts) (fun s H C cl fp p h => (he s H C cl fp p h).pe) hs)
    (t_lc (tg := tg) (iter := iter) hwi (hg {} noH 0 [] [] p hot).only his)⟩
theorem as_lcH {pi pt pe : Bool} {i : Nat} {y : Str} {py spos : Pos} {elt tg iter : Expr} {ifs : List Expr} {scope : Scope} {own : List (Str × Nat)} {pos : Pos} {mi : M (List W)} {g : GW} {is : List Nat} {t : M Bool} {e : M W} (hc : HotC X) (hN : X.N.Nodup) (hi : DIH X Y pi tg iter mi) (ok : BlkOk X.N X.env.scope scope own) (his : ∀ i ∈ is, i ∈ own.map (·.2))
    (hg : ∀ (s : Shared) (H : Hp) (C : Addr) (cl : List (Str × Addr)) (fp : List Addr) (p : Addr × Obj), Hot1 X.A p → DG (blkH X s H scope (compEnvC scope cl C X.env) fp p) Y.blk tg g is) (ht : ∀ (s : Shared) (H : Hp) (C : Addr) (cl : List (Str × Addr)) (fp : List Addr) (p : Addr × Obj), Hot1 X.A p → DTs (blkH X s H scope (compEnvC scope cl C X.env) fp p) Y.blk pt ifs t)
    (he : ∀ (s : Shared) (H : Hp) (C : Addr) (cl : List (Str × Addr)) (fp : List Addr) (p : Addr × Obj), Hot1 X.A p → DE (blkH X s H scope (compEnvC scope cl C X.env) fp p) Y.blk pe elt e) (hy : X.N[i]? = some y := by rfl) (hyl : X.env.scope.names.lookup y = some .local := by rfl)
    (hsw : swapsWith (.ListComp elt [⟨tg, iter, ifs, 0⟩] scope pos) (some (.Name y py)) spos.line X.env = pure true := by exact sw_true rfl rfl rfl rfl) (hs : ∀ x, foldedSetIterable iter X.env x = pure x := by intro _; rfl) :
    PS X (.Assign [.Name y py] (.ListComp elt [⟨tg, iter, ifs, 0⟩] scope pos) spos) (tAsg (tF X Y (pi && (pt && pe)) (mLc (own.map (·.2)) mi g t e)) (gName i)) := by
  obtain ⟨wi, hpi, hwi⟩ := hi.pi
  obtain ⟨p, hot, hpm⟩ := id hc
  exact ps_weak (ps_setLcH hc hN hy hyl hsw hpi ok (fun s H C cl fp p h => (hg s H C cl fp p h).pg) (fun s H C cl fp p h => (ht s H C cl fp p h).pts) (fun s H C cl fp p h => (he s H C cl fp p h).pe) hs)
    fun D σ H h => t_lc (tg := tg) (iter := iter) hwi (hg {} noH 0 [] [] p hot).only his σ H _ h
end
end Qd
end
section
set_option Elab.async false
set_option linter.all false
set_option maxRecDepth 100000
set_option maxHeartbeats 1000000
/-! Own objects read as values for a while, or from now on. -/
namespace Qd
open PySem PySem.Spec PyProof.Rows L2

def Slot.frz : Slot → Slot
  | .own w => .val w
  | .par w => .val w
  | .val w => .val w
/-- all own objects as values -/
def frzD (d : SD) : SD := d.map (Option.map Slot.frz)
theorem frzD_get {d : SD} {i : Nat} {s : Slot} (h : (frzD d)[i]? = some (some s)) : ∃ t, d[i]? = some (some t) ∧ s = t.frz := by
  unfold frzD at h
  rw [List.getElem?_map] at h
  cases q : d[i]? with
  | none => rw [q] at h; cases h
  | some o =>
    rw [q] at h
    cases o with
    | none => cases h
    | some t => cases h; exact ⟨t, rfl, rfl⟩
theorem frz_mine (s : Slot) : Slot.mine? s.frz = none := by cases s <;> rfl
theorem frzD_mine {d : SD} {σ : St} {a : Addr} : ¬ Mine (frzD d) σ a := fun ⟨i, s, w, h1, h2, _⟩ => by
  obtain ⟨t, _, rfl⟩ := frzD_get h1
  rw [frz_mine] at h2; cases h2
section
variable {K : PySem.W.Frag} {Ex : Addr → Nat → Prop} {Oc : Addr → Prop} {H H' : Hp} {d : SD} {σ : St}
theorem frz_ow {a : Addr} : Ow Oc (frzD d) σ a ↔ Oc a := ⟨fun z => z.elim id fun m => absurd m frzD_mine, .inl⟩
theorem RS.frz (rs : RS K Ex Oc H d σ) : RS K Ex Oc H (frzD d) σ := by
  have ke : Ke (Ow Oc d σ) H (Ow Oc (frzD d) σ) H := fun a u n e => ⟨fun z => n (.inl (frz_ow.mp z)), e⟩
  refine ⟨by rw [frzD, List.length_map]; exact rs.len, fun i w e => ?_, fun i s w e1 e2 => ?_, fun i j s t w u p ne e1 e2 _ _ _ => ?_, rs.oc⟩
  · obtain ⟨t, e1, e2⟩ := frzD_get e
    cases t with
    | val u =>
      cases e2
      obtain ⟨v, a, r⟩ := rs.val i w e1
      exact ⟨v, a, r.mono ke fun _ _ z => z⟩
    | own u =>
      cases e2
      obtain ⟨p, a, n, ob⟩ := rs.own i _ w e1 rfl
      exact ⟨_, a, (ob.mono ke (fun _ _ z => z) rfl).rp fun z => n (frz_ow.mp z)⟩
    | par u =>
      cases e2
      obtain ⟨p, a, n, ob⟩ := rs.own i _ w e1 rfl
      exact ⟨_, a, (ob.mono ke (fun _ _ z => z) rfl).rp fun z => n (frz_ow.mp z)⟩
  · obtain ⟨t, _, rfl⟩ := frzD_get e1
    rw [frz_mine] at e2; cases e2
  · obtain ⟨t, _, rfl⟩ := frzD_get e1
    rw [frz_mine] at e2; cases e2
mutual
/-- data of tuples and plain values: no own object is such -/
def noLD : W → Bool
  | .list _ => false
  | .dict _ => false
  | .tuple ds => noLDs ds
  | _ => true
def noLDs : List W → Bool
  | [] => true
  | d :: r => noLD d && noLDs r
end
theorem own_no_tup (rs : RS K Ex Oc H d σ) {a : Addr} {xs : List V} (m : Mine d σ a) (s : Same H H') (r : Rd H' a (.tup xs)) : False := by
  obtain ⟨i, t, w, h1, h2, h3⟩ := m
  obtain ⟨p, e, _, ob⟩ := rs.own i t w h1 h2
  rw [h3] at e; cases e
  have k : ∀ u : HO, H a = some u → H' a = some u := fun u e => s a u e
  cases w with
  | list ds =>
    obtain ⟨ys, e, _⟩ := ob
    rcases r with r | ⟨_, r⟩ <;> rw [k _ e] at r <;> cases r
  | dict ds =>
    rcases ob with ⟨ys, e, _⟩ | ⟨ys, _, _, e, _⟩ <;> rcases r with r | ⟨_, r⟩ <;> rw [k _ e] at r <;> cases r
  | none => exact ob.elim
  | bool b => exact ob.elim
  | int i => exact ob.elim
  | str s => exact ob.elim
  | tuple t => exact ob.elim
mutual
theorem Rp.thaw (rs : RS K Ex Oc H d σ) (s : Same H H') : ∀ {v : V} {w : W}, Rp K Ex Oc H' v w → noLD w = true → Rp K Ex (Ow Oc d σ) H' v w
  | _, _, .non, _ => .non
  | _, _, .bl b, _ => .bl b
  | _, _, .int i, _ => .int i
  | _, _, .str x, _ => .str x
  | _, _, .lst h r, n => by simp [noLD] at n
  | _, _, .tup h r, n => .tup (h.imp (fun ⟨no, rd⟩ => ⟨fun z => z.elim no fun m => own_no_tup rs m s (.inl rd), rd⟩) id) (RpA.thaw rs s r (by simpa [noLD] using n))
  | _, _, .dK h r t, n => by simp [noLD] at n
  | _, _, .dT h r t, n => by simp [noLD] at n
  | _, _, .exc h, n => by simp [noLD] at n
theorem RpA.thaw (rs : RS K Ex Oc H d σ) (s : Same H H') : ∀ {v : List V} {w : List W}, RpA K Ex Oc H' v w → noLDs w = true → RpA K Ex (Ow Oc d σ) H' v w
  | _, _, .nil, _ => .nil
  | _, _, .cons a b, n => by
    simp only [noLDs, Bool.and_eq_true] at n
    exact .cons (Rp.thaw rs s a n.1) (RpA.thaw rs s b n.2)
end
end
/-- a reading of own objects whose value is none of them -/
def mFrz (m : M W) : M W := fun d => match m (frzD d) with
  | .ok w _ => if noLD w = true then .ok w d else .bad
  | .exc c _ => .exc c d
  | .bad => .bad
def mFrzT (m : M Bool) : M Bool := fun d => match m (frzD d) with
  | .ok b _ => .ok b d
  | .exc c _ => .exc c d
  | .bad => .bad
section
variable {X : Cx} {Y : Yx}
theorem frz_back {K : PySem.W.Frag} {Ex : Addr → Nat → Prop} {Oc : Addr → Prop} {H H' : Hp} {d d' : SD} {σ : St} {pu : Bool} (rs : RS K Ex Oc H d σ) (g : Go K Ex Oc pu σ (frzD d) H d' H') : Same H H' := fun a o e => g.fr a o e frzD_mine
theorem d_frz {e : Expr} {m : M W} (h : DE X Y true e m) : DE X Y true e (mFrz m) := ⟨pe_weak h.pe fun σ H Q h => by
  obtain ⟨Oc, d, rs, h⟩ := h
  refine ⟨Oc, frzD d, rs.frz, ?_⟩
  unfold mFrz at h
  cases q : m (frzD d) with
  | bad => rw [q] at h; exact h
  | exc c d1 => rw [q] at h; exact fun H' g => h H' (.same rs (frz_back rs g))
  | ok w d1 =>
    rw [q] at h
    dsimp only at h
    by_cases n : noLD w = true
    · rw [if_pos n] at h
      intro H' g v r
      have s := frz_back rs g
      have e1 := (g.pur rfl).2
      refine h H' (.same rs s) v (Rp.thaw rs s (r.mono (fun a u n e => ⟨fun z => n (.inl z), e⟩) fun _ _ z => z) n)
    · rw [if_neg n] at h; exact h.elim⟩
theorem frz_t {t : M Bool} (σ : St) (H : Hp) (Q : Bool → Hp → Prop) (h : tT X Y true (mFrzT t) σ H Q) : tT X Y true t σ H Q := by
  obtain ⟨Oc, d, rs, h⟩ := h
  refine ⟨Oc, frzD d, rs.frz, ?_⟩
  unfold mFrzT at h
  cases q : t (frzD d) with
  | bad => rw [q] at h; exact h
  | exc c d1 => rw [q] at h; exact fun H' g => h H' (.same rs (frz_back rs g))
  | ok w d1 =>
    rw [q] at h
    exact fun H' g _ => h H' (.same rs (frz_back rs g)) (rs.same (frz_back rs g))
theorem dt_frz {e : Expr} {t : M Bool} (h : DT X Y true e t) : DT X Y true e (mFrzT t) := ⟨pt_weak h.pt frz_t⟩
/-- from here on the object of the name i is written no more -/
def frzAt (i : Nat) (d : SD) : SD := match d[i]? with
  | some (some (.own w)) => d.set i (some (.val w))
  | _ => d
theorem frzAt_go {K : PySem.W.Frag} {Ex : Addr → Nat → Prop} {Oc : Addr → Prop} {H : Hp} {d : SD} {σ : St} (i : Nat) (rs : RS K Ex Oc H d σ) : GoS K Ex Oc d σ H (frzAt i d) σ H := by
  unfold frzAt
  split
  · rename_i w e
    obtain ⟨p, ep, n, ob⟩ := rs.own i _ w e rfl
    have lt : i < d.length := (List.getElem?_eq_some_iff.mp e).1
    have mn : ∀ a, Mine (d.set i (some (.val w))) σ a → Mine d σ a ∧ a ≠ p := fun a ⟨j, s, u, h1, h2, h3⟩ => by
      by_cases ej : i = j
      · subst ej
        rw [List.getElem?_set_self lt] at h1
        cases h1; cases h2
      · rw [List.getElem?_set_ne ej] at h1
        exact ⟨⟨j, s, u, h1, h2, h3⟩, fun z => rs.sep i j _ s w u p ej e rfl h1 h2 ep (by rw [h3, z])⟩
    have ke : Ke (Ow Oc d σ) H (Ow Oc (d.set i (some (.val w))) σ) H := fun a u n e => ⟨fun z => n (z.imp id fun m => (mn a m).1), e⟩
    have np : ¬ Ow Oc (d.set i (some (.val w))) σ p := fun z => z.elim n fun m => (mn p m).2 rfl
    refine ⟨⟨by rw [List.length_set]; exact rs.len, fun j u ej => ?_, fun j s u f1 f2 => ?_, fun j k s t u u' q ne f1 f2 f3 f4 f5 => ?_, rs.oc⟩, fun _ _ e _ => e, fun a m => .inl (mn a m).1, fun j u ej => ?_⟩
    · by_cases hj : i = j
      · subst hj
        rw [List.getElem?_set_self lt] at ej
        cases ej
        exact ⟨_, ep, (ob.mono ke (fun _ _ z => z) rfl).rp np⟩
      · rw [List.getElem?_set_ne hj] at ej
        obtain ⟨v, a, r⟩ := rs.val j u ej
        exact ⟨v, a, r.mono ke fun _ _ z => z⟩
    · by_cases hj : i = j
      · subst hj
        rw [List.getElem?_set_self lt] at f1
        cases f1; cases f2
      · rw [List.getElem?_set_ne hj] at f1
        obtain ⟨q, a, n', o⟩ := rs.own j s u f1 f2
        exact ⟨q, a, n', o.mono ke (fun _ _ z => z) rfl⟩
    · have g : ∀ {j : Nat} {s : Slot} {u : W}, (d.set i (some (Slot.val w)))[j]? = some (some s) → Slot.mine? s = some u → d[j]? = some (some s) := fun {j s u} f1 f2 => by
        by_cases hj : i = j
        · subst hj
          rw [List.getElem?_set_self lt] at f1
          cases f1; cases f2
        · rwa [List.getElem?_set_ne hj] at f1
      exact rs.sep j k s t u u' q ne (g f1 f2) f2 (g f3 f4) f4 f5
    · by_cases hj : i = j
      · subst hj
        rw [e] at ej; cases ej
      · exact ⟨⟨u, by rw [List.getElem?_set_ne hj]; exact ej⟩, rfl⟩
  · exact .refl rs
/-- the names' objects are written no more behind here -/
def mFrzS (is : List Nat) (m : MS) : MS := fun d => m (is.foldl (fun d i => frzAt i d) d)
theorem frzAts_go {K : PySem.W.Frag} {Ex : Addr → Nat → Prop} {Oc : Addr → Prop} {H : Hp} {σ : St} : ∀ (is : List Nat) {d : SD}, RS K Ex Oc H d σ → GoS K Ex Oc d σ H (is.foldl (fun d i => frzAt i d) d) σ H
  | [], _, rs => .refl rs
  | i :: is, _, rs => (frzAt_go i rs).trans (frzAts_go is (frzAt_go i rs).rs)
theorem dss_frz {st : List Stmt} {m : MS} (is : List Nat) (h : DSs X Y st m) : DSs X Y st (mFrzS is m) := ⟨pss_weak h.ps fun D σ H h => by
  obtain ⟨Oc, d, rs, h⟩ := h
  have g := frzAts_go is rs
  exact ⟨Oc, _, g.rs, h.from g⟩⟩
end
end Qd
end
section
set_option Elab.async false
set_option linter.all false
set_option maxRecDepth 100000
set_option maxHeartbeats 2000000
/-! Errors: raise, try, what a suite does with the caught error. -/
namespace Qd
open PySem PySem.Spec PyProof.Rows L2 HotX L2H

/-- facts of the error classes, by number -/
structure CF (K : PySem.W.Frag) (T : Nat → Value) (n : Nat) (sub : Nat → Nat → Bool) : Prop where
  exc : ∀ i, i < n → ∃ D, T i = .ref D ∧ ExcC K D
  kit : ∀ i j, i < n → j < n → PySem.W.kitOne K (T i) (T j) = some (sub i j)
  exm : ∀ i j, i < n → j < n → PySem.W.exmOne K (T i) (T j) = some (sub i j)
/-- facts for raise C('..') -/
structure RF (K : PySem.W.Frag) (mg : Str → Option Value) (v : Value) (x : Str) : Prop where
  ex : ∃ C, v = .ref C ∧ mg x = some (.ref C) ∧ PySem.W.excIn K C [.type "ValueError", .type "Exception", .type "BaseException", .type "object"] "ValueError.__new__" = true ∧ PySem.W.keepIn K (.ref C) = true ∧
    PySem.W.subIn K (.ref C) (.type "BaseException") = some true ∧ PySem.W.typeIn K (.ref C) = some (.type "type")
def mRaise (c : Nat) : MS := fun d => .exc c d
theorem ds_raise {X : Cx} {Y : Yx} {c : Nat} {x m : Str} {j : Nat} {p p2 pos pos' : Pos} (hc : X.calm = true) (tk : L2N.Takes X Y.W) (h : RF X.K X.mg (Y.T c) x) (hg : Gl X x := by rfl) (hdb : (x == ("__debug__" : Str)) = false := by decide) :
    DS X Y (.Raise (some (.Call (.Name x p) [.Constant (.str m) j p2] [] pos)) none pos') (mRaise c) := by
  obtain ⟨C, e, gC, q, kC, b1, t1⟩ := h.ex
  refine ⟨ps_weak (L2N.ps_raise hc tk (L2N.pmk_own (m := m) (j := j) PySem.F.excBase_ValueError q gC kC (raises_own b1 t1) hg hdb)) fun D σ H h => ?_⟩
  obtain ⟨Oc, d, rs, h⟩ := h
  have z := h σ H (.refl rs)
  rw [e] at z
  exact z

/-! ### the handled error as data -/
abbrev exAt (on : Bool) (a : Addr) (c : Nat) : Addr → Nat → Prop := fun b k => (b = a ∧ k = c) ∨ cEx on b k
/-- within a suite: the handled error is pinned, its class told -/
def HotK (on : Bool) (X : Cx) (Y : Yx) (n : Nat) : Prop := ∃ (p : Addr × Obj) (c : Nat), c < n ∧ Hot1 X.A p ∧ p ∈ X.pn ∧ Zc (Y.T c) none p.2 ∧ n ≤ cN ∧ Y.Ex = exAt on p.1 c
theorem HotK.c {on : Bool} {X : Cx} {Y : Yx} {n : Nat} (h : HotK on X Y n) : HotC X := let ⟨p, _, _, a, b, _, _, _⟩ := h; ⟨p, a, b⟩
section
variable {K : PySem.W.Frag} {Ex Ex' : Addr → Nat → Prop} {Oc : Addr → Prop} {H : Hp} {d : SD} {σ : St}
theorem RS.ex (rs : RS K Ex Oc H d σ) (x : ∀ a c, Ex a c → Ex' a c) : RS K Ex' Oc H d σ where
  len := rs.len
  val := fun i w e => let ⟨v, a, b⟩ := rs.val i w e; ⟨v, a, b.mono .refl x⟩
  own := fun i s w e1 e2 => let ⟨p, a, n, b⟩ := rs.own i s w e1 e2; ⟨p, a, n, b.mono .refl x rfl⟩
  sep := rs.sep
  oc := rs.oc
end
def exOf : W → Option Nat
  | .dict [(.none, .int i)] => some i.toNat
  | _ => none
theorem exOf_some {w : W} {k : Nat} (h : exOf w = some k) : ∃ i : Int, w = .dict [(.none, .int i)] ∧ k = i.toNat := by
  unfold exOf at h
  split at h
  · cases h; exact ⟨_, rfl, rfl⟩
  · cases h
theorem keyD_ne (k : Key) : keyD k ≠ .none := by cases k <;> intro h <;> cases h
theorem rp_exc {K : PySem.W.Frag} {Ex : Addr → Nat → Prop} {O : Addr → Prop} {H : Hp} {v : V} {i : Int} (r : Rp K Ex O H v (.dict [(.none, .int i)])) : ∃ a c, v = .ref a ∧ Ex a c ∧ i = (c : Int) := by
  generalize e : (PyData.dict [(.none, .int i)] : W) = w at r
  cases r with
  | non => cases e
  | bl b => cases e
  | int j => cases e
  | str x => cases e
  | lst _ _ => cases e
  | tup _ _ => cases e
  | dK _ _ t =>
    cases e
    generalize e2 : ([(PyData.none, PyData.int i)] : List (W × W)) = l at t
    cases t with
    | nil => cases e2
    | @cons k v w vs ws a b => injection e2 with e3 _; injection e3 with e4 _; exact absurd e4.symm (keyD_ne k)
  | dT _ _ t => cases e
  | @exc a c h => injection e with e1; injection e1 with e2 _; injection e2 with _ e3; injection e3 with e4; exact ⟨a, c, rfl, h, e4⟩
/-- isinstance(the handled error, a class) -/
def mIsE (n : Nat) (f : Nat → Bool) (m : M W) : M W := fun d => (m d).bind fun w d1 => match exOf w with
  | some k => if k < n then .ok (.bool (f k)) d1 else .bad
  | none => .bad
theorem call_isH {X : Cx} {a D : Addr} {oe : Obj} (C : ExcC X.K D) (hp : (a, oe) ∈ X.pn) (hz : Zc (.ref D) none oe) (hf : ∃ vs, oe.data = .fields vs) : CallR X (.builtin "isinstance") (rIsE X.K D a) := by
  intro pins s σ H xs us Q I r h
  obtain ⟨c, cv, b, rfl, hcv, e, q⟩ := h
  cases r with
  | cons rx rr =>
    cases rr with
    | cons rt rr =>
      cases rr
      cases rx
      have ec := hcv _ rt
      subst ec
      obtain ⟨hget, _⟩ := I.pin (a, oe) (List.mem_append_left _ hp)
      obtain ⟨vs, hv⟩ := hf
      have J : PySem.W.InstAt s.heap a oe D none := ⟨hget, hz.1, by unfold PySem.W.notCls; rw [hv] <;> rfl, by rw [hz.2]; trivial⟩
      exact PySem.W.kia_one (PySem.W.handS_kitx_exc C.hg C.hk C.hs C.hd C.ha C.hn C.ht C.hm) I.kIn J e (fun z => nomatch z) fun tk => ⟨.bl b, H, I.kept (t' := tk) fun _ _ z => z, rfl, q⟩
theorem d_isE {on : Bool} {X : Cx} {Y : Yx} {pu : Bool} {n j : Nat} {sub : Nat → Nat → Bool} {e : Expr} {x : Str} {p q pos : Pos} {m : M W} (hk : HotK on X Y n) (cf : CF X.K Y.T n sub) (hj : j < n) (hc : X.mg x = some (Y.T j)) (he : DE X Y pu e m) (hm : X.mg "isinstance" = none) (hg : Gl X "isinstance" := by rfl) (hgx : Gl X x := by rfl)
    (hdb : (x == ("__debug__" : Str)) = false := by decide) (h1 : starEach [e, .Name x q] X.env = (false, eval e X.env) :: starEach [.Name x q] X.env := by rfl) (h2 : starEach [.Name x q] X.env = (false, eval (.Name x q) X.env) :: starEach [] X.env := by rfl) (hpl : (backTo pos (starEach [.Name x q] X.env)).any (·.1) = false := by rfl) :
    DE X Y pu (.Call (.Name "isinstance" p) [e, .Name x q] [] pos) (mIsE n (fun k => sub k j) m) := by
  obtain ⟨⟨a, oe⟩, c, hcn, hot, hpm, hz, hn, hex⟩ := hk
  obtain ⟨D, eD, C⟩ := cf.exc c hcn
  obtain ⟨Dj, ej, _⟩ := cf.exc j hj
  have hf : ∃ vs, oe.data = .fields vs := let ⟨_, vs, e, _⟩ := hot; ⟨vs, e⟩
  rw [eD] at hz
  rw [ej] at hc
  refine ⟨pe_weak (pe_callB (call_isH C hpm hz hf) hg hm boot_isinstance (pa_cons he.pe (pa_cons (pe_glob (x := x) (v := .ref Dj) hgx hc rfl hdb) pa_nil h2) h1) (by decide) (by decide) h1 hpl) fun σ H Q h => ?_⟩
  obtain ⟨Oc, d, rs, h⟩ := h
  refine ⟨Oc, d, rs, (Po.bind1 h).imp fun w d1 H1 g1 h1 v r => ?_⟩
  dsimp only at h1
  cases q1 : exOf w with
  | none => rw [q1] at h1; exact h1.elim
  | some k =>
    rw [q1] at h1
    obtain ⟨i, rfl, rfl⟩ := exOf_some q1
    obtain ⟨b, c', rfl, hx, ei⟩ := rp_exc r
    rw [hex] at hx
    rw [ei, Int.toNat_natCast] at h1
    dsimp only at h1
    rcases hx with ⟨rfl, rfl⟩ | ⟨_, rfl⟩
    rotate_left
    · rw [if_neg (Nat.not_lt_of_le hn)] at h1; exact h1.elim
    rw [if_pos hcn] at h1
    refine ⟨.ref Dj, .ref Dj, sub c' j, rfl, fun u z => z, ?_, h1 H1 (.refl g1.rs) _ (.bl _)⟩
    rw [← eD, ← ej]
    exact cf.kit c' j hcn hj

/-! ### defs called with the handled error -/
def spE (on : Bool) (K : PySem.W.Frag) (F : FV) (np : Nat) (a : Addr) (c : Nat) : Sp := fun vs H Q _ => ∃ (Oc : Addr → Prop) (ws : List W), ws.length = np ∧ (∀ b, Oc b → ∃ o, H b = some o) ∧ RpA K (exAt on a c) Oc H vs ws ∧ match F ws with
  | .ok (.val w) => ∀ H' v, Same H H' → Rp K (exAt on a c) Oc H' v w → Q v H'
  | _ => False
structure FnE (on : Bool) (P : Program) (w : World) (K : PySem.W.Frag) (mg : Str → Option Value) (base : Heap) (T : Nat → Value) (n : Nat) (k : Nat) (f : Addr) (fd : FuncData) (ps : List Str) (F : FV) : Prop where
  run : ∀ (A : Around) (outer : List Env) (s : Shared) (H : Hp) (args : Args) (us : List Value) (vs : List V) (Q : VK) (p : Addr × Obj) (c : Nat), c < n → RoomH k A → Hot1 A p → Zc (T c) none p.2 → PinOk outer H s p → Env0 P w K mg base A outer s H → BindsTo s fd args (ps.zip us) → Vals vs us → spE on K F ps.length p.1 c vs H Q (fun _ _ _ => False) →
    codeAny (model P w) A (.call (.ref f) args) (CR (L2N.CX P w) outer P w H s Q fun _ _ _ => False) s
abbrev Yfe (on : Bool) (T : Nat → Value) (p : Addr × Obj) (c : Nat) : Yx := ⟨exAt on p.1 c, T, fun _ _ _ _ => False⟩
section
variable {P : Program} {w : World} {K : PySem.W.Frag} {mg : Str → Option Value} {base : Heap} {T : Nat → Value} {n : Nat} {on : Bool}
theorem startE {Ex : Addr → Nat → Prop} {Oc : Addr → Prop} {H : Hp} {N : List Str} {vs : List V} {ws : List W} (hl : ws.length ≤ N.length) (oc : ∀ a, Oc a → ∃ o, H a = some o) (r : RpA K Ex Oc H vs ws) : RS K Ex Oc H (sdV N.length ws) (L2.start N vs) ∧ ∀ a, ¬ Mine (sdV N.length ws) (L2.start N vs) a := by
  have nm : ∀ a, ¬ Mine (sdV N.length ws) (L2.start N vs) a := fun a ⟨i, s, u, h1, h2, _⟩ => by
    obtain ⟨_, _, _, rfl⟩ := sdV_get h1
    cases h2
  refine ⟨⟨by rw [sdV_len hl, start_len (by rw [r.length]; exact hl)], fun i u e => ?_, fun i s u e1 e2 => ?_, fun i j s t u u' p ne e1 e2 _ _ _ => ?_, oc⟩, nm⟩
  · obtain ⟨l, u', e', es⟩ := sdV_get e
    cases es
    obtain ⟨v, e1, r1⟩ := r.get e'
    exact ⟨v, start_get e1, r1.mono (fun a x n e => ⟨fun z => z.elim n (nm a), e⟩) fun _ _ z => z⟩
  · obtain ⟨_, _, _, rfl⟩ := sdV_get e1
    cases e2
  · obtain ⟨_, _, _, rfl⟩ := sdV_get e1
    cases e2
theorem tS_E {X : Cx} {p : Addr × Obj} {c : Nat} {m : MS} {N : List Str} {H : Hp} {vs : List V} {Q : VK} {E : XK} {np : Nat} (hn : np ≤ N.length) (hK : X.K = K) (h : spE on K (runV N.length m) np p.1 c vs H Q E) : tS X (Yfe on T p c) m { nx := fun _ H' => Q .non H', rt := Q } (L2.start N vs) H := by
  subst hK
  obtain ⟨Oc, ws, hl, oc, r, h⟩ := h
  obtain ⟨rs, nm⟩ := startE (N := N) (by rw [hl]; exact hn) oc r
  refine ⟨Oc, sdV N.length ws, rs, ?_⟩
  unfold runV at h
  have sm : ∀ {d' : SD} {σ' : St} {H' : Hp}, GoS X.K (exAt on p.1 c) Oc (sdV N.length ws) (L2.start N vs) H d' σ' H' → Same H H' := fun g a o e => g.fr a o e (nm a)
  cases q : m (sdV N.length ws) with
  | next d' => rw [q] at h; exact fun σ' H' g => h H' .non (sm g) .non
  | brk d' => rw [q] at h; exact h.elim
  | cont d' => rw [q] at h; exact h.elim
  | bad => rw [q] at h; exact h.elim
  | exc k d' => rw [q] at h; exact h.elim
  | ret s d' =>
    rw [q] at h
    cases s with
    | par w => exact h.elim
    | own w => exact h.elim
    | val w => exact fun σ' H' v g rv => h H' v (sm g) (rv.mono (fun a u n e => ⟨fun z => n (.inl z), e⟩) fun _ _ z => z)
/-- a def that is called with the handled error, by its body -/
theorem fn_E {x qual : Str} {st : Stmt} {f : Addr} {fd : FuncData} {N ps : List Str} {k np : Nat} {m : MS} (F : Fun K x qual st f fd) (S : FnScope N ps (defScope st)) (hps : ps.length = np) (hnp : np ≤ N.length) (hnn : n ≤ cN)
    (hb : ∀ (cdv : Value) (A : Around) (outer : List Env) (s : Shared) (H : Hp) (p : Addr × Obj) (c : Nat), HotK on (cxH (L2N.CX P w) P w K mg base N qual (defScope st) f cdv A outer s H (fun _ _ _ => False) p) (Yfe on T p c) n → RoomH k (A.deeper (envOfC qual (defScope st) s.heap.objs.size f cdv)) →
      DSs (cxH (L2N.CX P w) P w K mg base N qual (defScope st) f cdv A outer s H (fun _ _ _ => False) p) (Yfe on T p c) (defBody st) m) : FnE on P w K mg base T n (k + 1) f fd ps (runV N.length m) := by
  obtain ⟨oc, od, kV, doc, pm, an, cdv, ct, osl, rfl, lk, hcd⟩ := F.ex
  refine ⟨fun A outer s H args us vs Q p c hcn hr hot hz hpin e0 hb' r hsp => ?_⟩
  subst hps
  have hl : vs.length = ps.length := by obtain ⟨Oc, ws, h1, _, h2, _⟩ := hsp; rw [h2.length, h1]
  have KX : K.In s.heap := e0.mod.kin.keeps fun b o e => (e0.bs b o e).1
  have lim : s.heap.NoLimit := e0.mod.nolimit.keeps fun b o e => (e0.bs b o e).1
  have hkind : ∀ y ∈ ps.zip us, (defScope st).names.lookup y.1 = some .local ∨ ((defScope st).names.lookup y.1 = some .cell ∧ ((cellsFrom (s.heap.objs.size + 1) (defScope st).names []).lookup y.1).isSome = true) := fun y hy => by
    rcases S.par y.1 (List.of_mem_zip (show (y.1, y.2) ∈ _ from hy)).1 with q | q
    · exact .inl q
    · exact .inr ⟨q, PySem.W.cellsFrom_some _ _ _ (.inl q)⟩
  refine codeAny_call_function hr.depth (KX _ _ lk) rfl S.co S.gen rfl (PySem.W.codeRec_of KX hcd) (hb' _ _ _ _ ?_)
  refine wpAny_newFunctionEnv_cells S.kind hkind fun env he s1 x => ?_
  subst he
  refine ⟨lim.keeps x.toInCall.keep, codeAny_func ?_⟩
  have hk : HotK on (cxH (L2N.CX P w) P w K mg base N qual (defScope st) f cdv A outer s H (fun _ _ _ => False) p) (Yfe on T p c) n := ⟨p, c, hcn, hot, List.mem_singleton.mpr rfl, hz, hnn, rfl⟩
  have I : Inv (cxH (L2N.CX P w) P w K mg base N qual (defScope st) f cdv A outer s H (fun _ _ _ => False) p) [] (L2.start N vs) H s1 := inv_startH S hpin e0 hl r x
  refine wpAny_mono ((hb cdv A outer s H p c hk (hr.deeper _)).ps.run [] s1 (L2.start N vs) H _ I (tS_E hnp rfl hsp)) (fun fl s' hs => ?_) fun e s' hs => hs
  have fin : ∀ {σ' : St} {H' : Hp} {v : V} {u : Value}, Inv (cxH (L2N.CX P w) P w K mg base N qual (defScope st) f cdv A outer s H (fun _ _ _ => False) p) [] σ' H' s' → RelV v u → Q v H' → CE outer P w H s Q u s' :=
    fun {σ' H' v u} J rv q => ⟨v, H', J.os, J.bare, J.base, J.hok, rv, q⟩
  cases fl with
  | ret u => obtain ⟨v, σ', H', J, rv, q⟩ := hs; exact fin J rv q
  | next => obtain ⟨σ', H', J, q⟩ := hs; exact fin (v := V.non) (u := Value.none) J rfl q
  | brk => obtain ⟨_, _, _, q⟩ := hs; exact False.elim q
  | cont => obtain ⟨_, _, _, q⟩ := hs; exact False.elim q
end
section
variable {X : Cx} {Y : Yx}
def mCallE (F : FV) (as : M (List W)) : M W := fun d => (as d).bind fun ws d1 => match F ws with
  | .ok (.val w) => .ok w d1
  | _ => .bad
/-- f(the handled error, ..) within a suite -/
theorem d_callE {on : Bool} {pu : Bool} {k n : Nat} {f : Addr} {fd : FuncData} {ps : List Str} {F : FV} {x : Str} {p pos : Pos} {e : Expr} {es : List Expr} {as : M (List W)} (G : FnE on X.prog X.w X.K X.mg X.base Y.T n k f fd ps F) (hr : RoomH k X.A) (hk : HotK on X Y n) (tk : L2N.Takes X fun _ _ _ _ => False)
    (hm : X.mg x = some (.ref f)) (hkp : PySem.W.keepIn X.K (.ref f) = true) (hb : Binds X.K fd ps []) (ha : DL X Y pu (e :: es) as) (hl : Len ps.length as) (hg : Gl X x := by rfl)
    (hdb : (x == ("__debug__" : Str)) = false := by decide) (he : starEach (e :: es) X.env = (false, eval e X.env) :: starEach es X.env := by rfl) (hpl : (backTo pos (starEach es X.env)).any (·.1) = false := by rfl) : DE X Y pu (.Call (.Name x p) (e :: es) [] pos) (mCallE F as) := by
  obtain ⟨pp, c, hcn, hot, hpm, hz, hn, hex⟩ := hk
  refine ⟨⟨fun pins s σ H Q I h => ?_⟩⟩
  refine wpAny_Call_Name_kw (ld_glob I hg hm ?_ hdb)
  -- what the arguments are, and the def's promise at them
  have h' : tL X Y pu as σ H fun vs H1 => spE on X.K F ps.length pp.1 c vs H1 Q fun _ _ _ => False := by
    obtain ⟨Oc, d, rs, h⟩ := h
    refine ⟨Oc, d, rs, ?_⟩
    have hh := Po.bind1 h
    cases q0 : as d with
    | bad => rw [q0] at hh; exact hh
    | exc c d1 => rw [q0] at hh; exact hh
    | ok ws d1 =>
      rw [q0] at hh
      intro H1 g1 v r
      have h1 := hh H1 g1
      rw [hex] at r
      refine ⟨Ow Oc d1 σ, ws, hl _ _ _ q0, fun a z => g1.rs.there z, r, ?_⟩
      cases q : F ws with
      | bad => rw [q] at h1; exact h1.elim
      | exc c => rw [q] at h1; exact h1.elim
      | ok s =>
        rw [q] at h1
        cases s with
        | val w => exact fun H' v s r' => h1 H' (.same g1.rs s) v (by rw [hex]; exact r')
        | own w => exact h1.elim
        | par w => exact h1.elim
  refine PySem.W.callWith_K (h₀ := X.base) I.ok.mod.kin hkp (thn (ha.pa.run pos pins s σ H _ I h') fun us s1 ⟨vs, H1, I1, r, q⟩ => ⟨I1.kIn, ?_⟩) he hpl
  have hlen : us.length = ps.length := by rw [← r.length]; obtain ⟨Oc, ws, h1, _, h2, _⟩ := q; rw [h2.length, h1]
  have b := hb s1 us I1.kIn (by rw [List.append_nil]; exact hlen)
  rw [List.append_nil] at b
  have P1 := I1.pin pp (List.mem_append_left _ hpm)
  have hpin : PinOk X.stack H1 s1 pp := ⟨P1.1, P1.2.1, fun hm => (List.mem_cons.mp (I1.stkSub pp.1 hm)).elim P1.2.2.1 P1.2.2.2.1, P1.2.2.2.2⟩
  refine wpAny_call (codeAny_mono (G.run X.A X.stack s1 H1 ⟨us, []⟩ us vs Q pp c hcn hr hot hz hpin I1.env0 b r q) fun r s' hq => ?_)
  cases r with
  | error e => exact L2N.passAt tk σ pins H1 s1 e s' I1 hq
  | ok fl =>
    cases fl with
    | ret u => exact I1.after hq
    | next => exact False.elim hq
    | brk => exact False.elim hq
    | cont => exact False.elim hq

/-! ### try: body, except C as x: return e -/
def freeAt (i : Nat) (d : SD) : Bool := match d[i]? with
  | some none => true
  | some (some (.val _)) => true
  | _ => false
def mTryRet (n : Nat) (sub : Nat → Bool) (i : Nat) (body : MS) (e : M W) : MS := fun d => match body d with
  | .exc k d1 => if k < n then (if sub k = true then (if freeAt i d1 = true then (match e (d1.set i (some (.val (exD k)))) with
      | .ok w _ => if noD w = true then .ret (.val w) d1 else .bad
      | _ => .bad) else .bad) else .exc k d1) else .bad
  | o => o
theorem freeAt_ow {Oc : Addr → Prop} {i : Nat} {d : SD} {σ : St} {a a' : Addr} {w : W} (h : freeAt i d = true) (x : Ow Oc d σ a) : Ow Oc (d.set i (some (.val w))) (σ.set i (some (.ref a'))) a := by
  refine x.imp id fun ⟨j, s, u, h1, h2, h3⟩ => ?_
  by_cases e : i = j
  · subst e
    unfold freeAt at h
    rw [h1] at h
    cases s with
    | val w => cases h2
    | own w => cases h
    | par w => cases h
  · exact ⟨j, s, u, by rw [List.getElem?_set_ne e]; exact h1, h2, by rw [List.getElem?_set_ne e]; exact h3⟩
theorem freeAt_store {i : Nat} {d : SD} {w : W} (h : freeAt i d = true) : store i w d = some (d.set i (some (.val w))) := by
  unfold freeAt at h
  unfold store
  split at h <;> rename_i e
  · rw [e]
  · rw [e]
  · cases h
theorem GoS.same {K : PySem.W.Frag} {Ex : Addr → Nat → Prop} {Oc : Addr → Prop} {H H' : Hp} {d : SD} {σ : St} (rs : RS K Ex Oc H d σ) (s : Same H H') : GoS K Ex Oc d σ H d σ H' := (Go.same (pu := true) rs s).toS
theorem PSs.many {X : Cx} {st : List Stmt} {α : Type} {p : α → Prop} {t : α → TS} (h : ∀ a, p a → PSs X st (t a)) : PSs X st (fun D σ H => ∃ a, p a ∧ t a D σ H) := ⟨fun pins s σ H D I q => let ⟨a, ha, q⟩ := q; (h a ha).run pins s σ H D I q⟩
theorem PoS.wish {Oc : Addr → Prop} {d : SD} {σ : St} {H : Hp} {o : SOut} {D : Ends} {V : WX} (h : PoS X Y Oc d σ H o D) (x : ∀ k d1, o = .exc k d1 → ∀ σ' H', GoS X.K Y.Ex Oc d σ H d1 σ' H' → V (Y.T k) none σ' H') : PoS X { Y with W := V } Oc d σ H o D := by
  cases o with
  | next d1 => exact h
  | brk d1 => exact h
  | cont d1 => exact h
  | ret r d1 => cases r <;> exact h
  | exc k d1 => exact fun σ' H' g => x k d1 rfl σ' H' g
  | bad => exact h
theorem ds_try {on : Bool} {n i j : Nat} {sub : Nat → Nat → Bool} {x y : Str} {body : List Stmt} {e : Expr} {np pos pos' pos2 : Pos} {b : MS} {m : M W} (hs : X.stack = X.env :: X.outer) (hf : X.env.frame = some X.env.locals) (hN : X.N.Nodup) (hi : X.N[i]? = some y) (hln : X.env.kindOf y = some .local) (hE : Y.Ex = cEx on)
    (cf : CF X.K Y.T n sub) (hnn : n ≤ cN) (hj : j < n) (hc : X.mg x = some (Y.T j)) (hgx : Gl X x) (hdb : (x == ("__debug__" : Str)) = false) (tk : L2N.Takes X Y.W)
    (hb : ∀ (V : WX) (pn : List (Addr × Obj)) (xe : Value → Shared → Prop), L2N.Takes (X.tr pn xe) V → PassesOwn (model X.prog X.w) X.A X.env xe → DSs (X.tr pn xe) { Y with W := V } body b)
    (he : ∀ (a : Addr) (oe : Obj) (k : Nat) (pn : List (Addr × Obj)), HotK on (X.suite a ((a, oe) :: pn)) (Yfe on Y.T (a, oe) k) n → DE (X.suite a ((a, oe) :: pn)) (Yfe on Y.T (a, oe) k) true e m) :
    DS X Y (.Try body [.ExceptHandler (some (.Name x np)) (some y) [.Return (some e) pos2] pos'] [] [] pos) (mTryRet n (fun k => sub k j) i b m) := by
  refine ⟨ps_weak (L2N.ps_try_as (c := Y.T j) (i := i) (Wout := Y.W) (tb := fun V => tS X { Y with W := V } b) (ts := fun a cls dd D σ H => ∃ k, (k < n ∧ cls = Y.T k ∧ dd = none) ∧ tRet (tE X ⟨exAt on a k, Y.T, fun _ _ _ _ => False⟩ true m) D σ H) hs hf hN hi hln ⟨hgx, hdb, .inl hc⟩ tk
    (fun V pn xe tk' hp => (hb V pn xe tk' hp).ps) (fun a oe cls dd pn hz hfl => PSs.many (t := fun k => tRet (tE X ⟨exAt on a k, Y.T, fun _ _ _ _ => False⟩ true m)) fun k ⟨hk, e1, e2⟩ => ?_)) fun D σ H h => ?_⟩
  · subst e1 e2
    obtain ⟨vs, hv⟩ := hfl
    have hK : HotK on (X.suite a ((a, oe) :: pn)) (Yfe on Y.T (a, oe) k) n := ⟨(a, oe), k, hk, ⟨rfl, vs, hv, hz.2.2 vs hv⟩, List.mem_cons_self, hz.zc, hnn, rfl⟩
    exact pss_one (ps_ret (he a oe k pn hK).pe)
  · obtain ⟨Oc, d, rs, h⟩ := h
    refine ⟨Oc, d, rs, ?_⟩
    unfold mTryRet at h
    have keep : ∀ o : SOut, b d = o → (∀ k d1, o ≠ .exc k d1) → PoS X Y Oc d σ H o D → PoS X { Y with W := wAs X.K (Y.T j) i (fun a cls dd D σ H => ∃ k, (k < n ∧ cls = Y.T k ∧ dd = none) ∧ tRet (tE X ⟨exAt on a k, Y.T, fun _ _ _ _ => False⟩ true m) D σ H) Y.W D } Oc d σ H o D := fun o _ no h => h.wish fun k d1 e => absurd e (no k d1)
    cases q : b d with
    | next d1 => rw [q] at h; exact keep _ q (fun _ _ => nofun) h
    | brk d1 => rw [q] at h; exact keep _ q (fun _ _ => nofun) h
    | cont d1 => rw [q] at h; exact keep _ q (fun _ _ => nofun) h
    | ret r d1 => rw [q] at h; exact keep _ q (fun _ _ => nofun) h
    | bad => rw [q] at h; exact h
    | exc k d1 =>
      rw [q] at h
      dsimp only at h
      intro σ1 H1 g1
      by_cases hk : k < n
      · rw [if_pos hk] at h
        refine ⟨sub k j, cf.exm k j hk hj, fun hsub a ha => ⟨k, ⟨hk, rfl, rfl⟩, ?_⟩, fun hsub => ?_⟩
        · rw [if_pos hsub] at h
          by_cases hfr : freeAt i d1 = true
          · rw [if_pos hfr] at h
            have rs1 : RS X.K (exAt on a k) Oc H1 d1 σ1 := g1.rs.ex fun b c z => by rw [hE] at z; exact .inr z
            have g2 := store_go (i := i) rs1 (.exc (a := a) (c := k) (.inl ⟨rfl, rfl⟩)) (freeAt_store (w := exD k) hfr)
            refine ⟨Oc, _, g2.rs, ?_⟩
            cases q2 : m (d1.set i (some (.val (exD k)))) with
            | bad => rw [q2] at h; exact h.elim
            | exc c d2 => rw [q2] at h; exact h.elim
            | ok w d2 =>
              rw [q2] at h
              dsimp only at h
              by_cases hw : noD w = true
              · rw [if_pos hw] at h
                intro H3 g3 v rv
                have sm := (g3.pur rfl).1
                have e2 := (g3.pur rfl).2
                have g4 := g1.trans (GoS.same g1.rs sm)
                refine h σ1 H3 v g4 ?_
                have rv2 : Rp X.K Y.Ex (Ow Oc d2 (σ1.set i (some (.ref a)))) H3 v w := rv.anyEx (fun b z => by
                  rw [hE]
                  rcases z with ⟨_, z⟩ | z
                  · exact absurd z (Nat.ne_of_gt (Nat.lt_of_lt_of_le hk hnn))
                  · exact z) hw
                exact rv2.mono (fun b u n e => ⟨fun z => n (by rw [e2]; exact freeAt_ow hfr z), e⟩) fun _ _ z => z
              · rw [if_neg hw] at h; exact h.elim
          · rw [if_neg hfr] at h; exact h.elim
        · rw [if_neg (by rw [hsub]; exact Bool.false_ne_true)] at h
          exact h σ1 H1 g1
      · rw [if_neg hk] at h; exact h.elim
end
end Qd
end
section
set_option Elab.async false
set_option linter.all false
set_option maxRecDepth 100000
set_option maxHeartbeats 1000000
/-! Own lists and dicts: methods, stores, items. -/
namespace Qd
open PySem PySem.Spec PyProof.Rows L2

def tyW : W → String
  | .list _ => "list"
  | .dict _ => "dict"
  | .int _ => "int"
  | .str _ => "str"
  | _ => ""
section
variable {K : PySem.W.Frag} {Ex : Addr → Nat → Prop} {O : Addr → Prop} {H : Hp} {p : Addr} {xs : List V} {ds : List W}
theorem Ob.put (hp : O p) (r : RpA K Ex O H xs ds) : But p H (upd H p (.lst xs)) ∧ Ob K Ex O (upd H p (.lst xs)) p (.list ds) :=
  ⟨fun a o n e => by rw [upd_ne n]; exact e, ⟨_, upd_same, r.mono (fun a u n e => ⟨n, by rw [upd_ne (fun z => n (by rw [z]; exact hp))]; exact e⟩) fun _ _ z => z⟩⟩
theorem Ob.tyV {u : W} {T : String} (ob : Ob K Ex O H p u) (e : tyW u = T) : L2.tyV K T (.ref p) H := by
  cases u with
  | list ds => obtain ⟨ys, h, _⟩ := ob; exact .inl ⟨e.symm, _, .inl (.inl h)⟩
  | dict ds =>
    rcases ob with ⟨ys, h, _⟩ | ⟨ys, _, _, h, _⟩
    · exact .inr (.inr (.inl ⟨e.symm, .inl ⟨_, h⟩⟩))
    · exact .inr (.inr (.inl ⟨e.symm, .inr ⟨_, h⟩⟩))
  | none => exact ob.elim
  | bool b => exact ob.elim
  | int i => exact ob.elim
  | str s => exact ob.elim
  | tuple t => exact ob.elim
theorem Rp.tyV {v : V} {u : W} {T : String} (r : Rp K Ex O H v u) (e : tyW u = T) (h : ∀ ds, u ≠ .dict ds) (ht : T ≠ "") : L2.tyV K T v H := by
  cases r with
  | non => exact absurd e.symm ht
  | bl b => exact absurd e.symm ht
  | int i => exact e.symm
  | str x => exact e.symm
  | lst l _ => exact .inl ⟨e.symm, _, l.sq⟩
  | tup _ _ => exact absurd e.symm ht
  | dK _ _ _ => exact absurd rfl (h _)
  | dT _ _ _ => exact absurd rfl (h _)
  | exc _ => exact absurd rfl (h _)
end
/-- a method that may write its object, by data: the answer, the object's data behind it -/
def MetD (X : Cx) (id : String) (g : W → List W → Option (W × W)) : Prop :=
  ∃ r, MtR X id r ∧ ∀ (Ex : Addr → Nat → Prop) (O : Addr → Prop) (H : Hp) (p : Addr) (u : W) (xs : List V) (as : List W) (c u' : W) (Q : VK), (∀ q, O q → ∃ o, H q = some o) → g u as = some (c, u') → O p → Ob X.K Ex O H p u → RpA X.K Ex O H xs as →
    (∀ H' v, But p H H' → Ob X.K Ex O H' p u' → Rp X.K Ex O H' v c → Q v H') → r (.ref p) xs H Q
def mMeth (T : String) (g : W → List W → Option (W × W)) (i : Nat) (as : M (List W)) : M W := fun d => (ofOpt (mineAt i d) d).bind fun u0 d0 => if tyW u0 = T then (as d0).bind fun ws d1 => (ofOpt (mineAt i d1) d1).bind fun u d2 => match g u ws with
  | some (c, u') => .ok c (setMine i u' d2)
  | none => .bad else .bad
section
variable {X : Cx} {Y : Yx}
theorem slot_same {d d1 : SD} {σ : St} {i : Nat} {u0 u : W} {K : PySem.W.Frag} {Ex : Addr → Nat → Prop} {Oc : Addr → Prop} {H H1 : Hp} {pu : Bool} (rs : RS K Ex Oc H d σ) (e0 : mineAt i d = some u0) (g : Go K Ex Oc pu σ d H d1 H1) (e1 : mineAt i d1 = some u) :
    ∃ (p : Addr) (s : Slot), σ[i]? = some (some (.ref p)) ∧ Ob K Ex (Ow Oc d σ) H p u0 ∧ d1[i]? = some (some s) ∧ Slot.mine? s = some u ∧ ¬ Oc p ∧ Ob K Ex (Ow Oc d1 σ) H1 p u := by
  obtain ⟨s0, f1, f2⟩ := mineAt_some e0
  obtain ⟨p, ep, _, ob0⟩ := rs.own i s0 u0 f1 f2
  obtain ⟨s, g1, g2⟩ := mineAt_some e1
  obtain ⟨p1, ep1, np, ob⟩ := g.rs.own i s u g1 g2
  rw [ep] at ep1; cases ep1
  exact ⟨p, s, ep, ob0, g1, g2, np, ob⟩
theorem t_meth {pu : Bool} {T id : String} {g : W → List W → Option (W × W)} {r : V → List V → Hp → VK → Prop} {i : Nat} {as : M (List W)} (hd : ∀ (Ex : Addr → Nat → Prop) (O : Addr → Prop) (H : Hp) (p : Addr) (u : W) (xs : List V) (as : List W) (c u' : W) (Q : VK), (∀ q, O q → ∃ o, H q = some o) → g u as = some (c, u') → O p → Ob X.K Ex O H p u → RpA X.K Ex O H xs as →
    (∀ H' v, But p H H' → Ob X.K Ex O H' p u' → Rp X.K Ex O H' v c → Q v H') → r (.ref p) xs H Q) (σ : St) (H : Hp) (Q : VK) (h : tE X Y false (mMeth T g i as) σ H Q) : tVar i σ H fun x H1 => L2.tyV X.K T x H1 ∧ tL X Y pu as σ H1 fun xs H2 => r x xs H2 Q := by
  obtain ⟨Oc, d, rs, h⟩ := h
  unfold mMeth at h
  cases q0 : mineAt i d with
  | none => rw [q0] at h; exact h.elim
  | some u0 =>
    rw [q0] at h
    dsimp only [ofOpt, Out.bind] at h
    by_cases ht : tyW u0 = T
    · rw [if_pos ht] at h
      obtain ⟨s0, f1, f2⟩ := mineAt_some q0
      obtain ⟨p, ep, _, ob0⟩ := rs.own i s0 u0 f1 f2
      refine ⟨_, ep, ob0.tyV ht, Oc, d, rs, ?_⟩
      have hh := Po.bindF (p := pu) (show Po X Y false Oc σ d H ((as d).bind _) _ from h)
      refine hh.imp fun ws d1 H1 g1 h1 vs ra => ?_
      cases q1 : mineAt i d1 with
      | none => rw [q1] at h1; exact h1.elim
      | some u =>
        rw [q1] at h1
        dsimp only [ofOpt, Out.bind] at h1
        obtain ⟨p', s, ep', _, e1, e2, np, ob⟩ := slot_same rs q0 g1 q1
        rw [ep] at ep'; cases ep'
        cases q2 : g u ws with
        | none => rw [q2] at h1; exact h1.elim
        | some cu =>
          obtain ⟨c, u'⟩ := cu
          rw [q2] at h1
          refine hd Y.Ex (Ow Oc d1 σ) H1 p u vs ws c u' Q (fun q z => g1.rs.there z) q2 (.inr ⟨i, s, u, e1, e2, ep⟩) ob ra fun H' v b ob' rv => ?_
          have fin := setMine_go g1.rs e1 e2 ep b ob'
          exact h1 H' fin v (rv.mono (fun a x n e => ⟨fun z => n (z.imp (fun y => y) fin.sim.mine.mp), e⟩) fun _ _ z => z)
    · rw [if_neg ht] at h; exact h.elim
theorem d_meth {pu : Bool} {T id : String} {name y : Str} {g : W → List W → Option (W × W)} {i : Nat} {e : Expr} {es : List Expr} {as : M (List W)} {p apos cpos : Pos} (pa : PlainAttrs T) (slot : PySem.Slot T name id) (hty : typeOf (.builtin id) = pure (.type "method_descriptor")) (hm : MetD X id g) (ha : DL X Y pu (e :: es) as)
    (hN : X.N[i]? = some y := by rfl) (hv : Vis X.env.scope y := by first | exact Or.inl rfl | exact Or.inr (Or.inl rfl) | exact Or.inr (Or.inr rfl)) (hd : (y == ("__debug__" : Str)) = false := by decide) (hcd : (y == ("__classdict__" : Str)) = false := by decide)
    (hbase : attributeBase (.Name y p) name X.env (eval (.Name y p) X.env) = eval (.Name y p) X.env := by rfl)
    (hfew : ((backTo cpos (starEach (e :: es) X.env)).all (fun x => !x.1) && (backToKw cpos (keywordEach [] X.env)).all (fun x => x.1.isSome) && decide ((e :: es).length + ([] : List Keyword).length + (if ([] : List Keyword).isEmpty then 0 else 1) < 30)) = true := by rfl)
    (hline : (apos.endLine == cpos.line) = true := by rfl) (hs : starEach (e :: es) X.env = (false, eval e X.env) :: starEach es X.env := by rfl) (hplain : (backTo cpos (starEach es X.env)).any (·.1) = false := by rfl) :
    DE X Y false (.Call (.Attribute (.Name y p) name apos) (e :: es) [] cpos) (mMeth T g i as) :=
  let ⟨_, hr, hdd⟩ := hm
  ⟨pe_weak (pe_bm pa slot hty hr (pe_var hN hv hd hcd) ha.pa hbase hfew hline hs hplain) fun σ H Q h => t_meth (id := id) hdd σ H Q h⟩
theorem d_meth0 {T id : String} {name y : Str} {g : W → List W → Option (W × W)} {i : Nat} {p apos cpos : Pos} (pa : PlainAttrs T) (slot : PySem.Slot T name id) (hty : typeOf (.builtin id) = pure (.type "method_descriptor")) (hm : MetD X id g)
    (hN : X.N[i]? = some y := by rfl) (hv : Vis X.env.scope y := by first | exact Or.inl rfl | exact Or.inr (Or.inl rfl) | exact Or.inr (Or.inr rfl)) (hd : (y == ("__debug__" : Str)) = false := by decide) (hcd : (y == ("__classdict__" : Str)) = false := by decide)
    (hbase : attributeBase (.Name y p) name X.env (eval (.Name y p) X.env) = eval (.Name y p) X.env := by rfl) (hline : (apos.endLine == cpos.line) = true := by rfl) : DE X Y false (.Call (.Attribute (.Name y p) name apos) [] [] cpos) (mMeth T g i mNil) :=
  let ⟨r, hr, hdd⟩ := hm
  ⟨pe_weak (pe_bm0 pa slot hty hr (pe_var hN hv hd hcd) hbase hline) fun σ H Q h => by
    obtain ⟨v, e1, t1, h1⟩ := t_meth (id := id) (pu := true) (r := r) hdd σ H Q h
    refine ⟨v, e1, t1, ?_⟩
    obtain ⟨Oc, d, rs, h1⟩ := h1
    exact h1 H (.refl rs) [] .nil⟩
end

/-! ### lists -/
section
variable {X : Cx}
def appendW : W → List W → Option (W × W) := fun u as => match u, as with
  | .list ds, [w] => if ds.length < sizeLine then some (.none, .list (ds ++ [w])) else none
  | _, _ => none
theorem md_append : MetD X "list.append" appendW := by
  refine ⟨_, mt_append, fun Ex O H p u xs as c u' Q hO h hp ob ra q => ?_⟩
  unfold appendW at h
  split at h
  · split at h
    · rename_i ds w hl
      cases h
      obtain ⟨ys, e, r⟩ := ob
      obtain ⟨v, rfl, rv⟩ := rpA1 ra
      obtain ⟨b, o⟩ := Ob.put hp (r.append (.cons rv .nil))
      exact ⟨p, ys, v, rfl, rfl, e, by rw [r.length]; exact hl, q _ _ b o .non⟩
    · cases h
  · cases h
def popW : W → List W → Option (W × W) := fun u as => match u, as with
  | .list ds, [] => match ds[ds.length - 1]? with
    | some y => some (y, .list ds.dropLast)
    | none => none
  | _, _ => none
theorem md_pop : MetD X "list.pop" popW := by
  refine ⟨_, mt_pop, fun Ex O H p u xs as c u' Q hO h hp ob ra q => ?_⟩
  unfold popW at h
  split at h
  · split at h
    · rename_i ds y hl
      cases h
      obtain ⟨ys, e, r⟩ := ob
      cases ra
      rw [← r.length] at hl
      obtain ⟨v, ev, rv⟩ := r.get hl
      obtain ⟨b, o⟩ := Ob.put hp r.dropLast
      refine ⟨p, ys, v, rfl, rfl, e, ev, q _ _ b o (rv.mono (fun a u n e => ⟨n, b a u (fun z => n (by rw [z]; exact hp)) e⟩) fun _ _ z => z)⟩
    · cases h
  · cases h
noncomputable def popAtW : W → List W → Option (W × W) := fun u as => match u, as with
  | .list ds, [.int i] => if cdec (-(2 ^ 63) ≤ i ∧ i < 2 ^ 63) = true then (match seqIndex? i ds.length with
    | some k => (match ds[k]? with
      | some y => some (y, .list (ds.eraseIdx k))
      | none => none)
    | none => none) else none
  | _, _ => none
theorem md_popAt : MetD X "list.pop" popAtW := by
  refine ⟨_, mt_popAt, fun Ex O H p u xs as c u' Q hO h hp ob ra q => ?_⟩
  unfold popAtW at h
  split at h
  · split at h
    · rename_i ds i hi
      have hi := cdec_iff.mp hi
      obtain ⟨ys, e, r⟩ := ob
      obtain ⟨v, rfl, rv⟩ := rpA1 ra
      cases rp_int rv
      cases q1 : seqIndex? i ds.length with
      | none => rw [q1] at h; cases h
      | some k =>
        rw [q1] at h
        dsimp only at h
        cases q2 : ds[k]? with
        | none => rw [q2] at h; cases h
        | some y =>
          rw [q2] at h
          cases h
          obtain ⟨v, ev, rv⟩ := r.get q2
          obtain ⟨b, o⟩ := Ob.put hp (r.eraseIdx k)
          exact ⟨p, ys, i, k, v, rfl, rfl, e, hi.1, hi.2, by rw [r.length]; exact q1, ev, q _ _ b o (rv.mono (fun a u n e => ⟨n, b a u (fun z => n (by rw [z]; exact hp)) e⟩) fun _ _ z => z)⟩
    · cases h
  · cases h
noncomputable def insertW : W → List W → Option (W × W) := fun u as => match u, as with
  | .list ds, [.int i, w] => if cdec (ds.length < sizeLine ∧ 0 ≤ i ∧ i < 2 ^ 63) = true then some (.none, .list (ds.take i.toNat ++ [w] ++ ds.drop i.toNat)) else none
  | _, _ => none
theorem md_insert : MetD X "list.insert" insertW := by
  refine ⟨_, mt_insert, fun Ex O H p u xs as c u' Q hO h hp ob ra q => ?_⟩
  unfold insertW at h
  split at h
  · split at h
    · rename_i ds i w hi
      have hi := cdec_iff.mp hi
      cases h
      obtain ⟨ys, e, r⟩ := ob
      obtain ⟨v, v2, rfl, rv, rv2⟩ := rpA2 ra
      cases rp_int rv
      obtain ⟨b, o⟩ := Ob.put hp (((r.take i.toNat).append (.cons rv2 .nil)).append (r.drop i.toNat))
      exact ⟨p, ys, i, v2, rfl, rfl, e, by rw [r.length]; exact hi.1, hi.2.1, hi.2.2, q _ _ b o .non⟩
    · cases h
  · cases h
end

/-! ### x[i] = v -/
def SetD (X : Cx) (g : W → W → W → Option W) : Prop :=
  ∃ t, PSet X t ∧ ∀ (Ex : Addr → Nat → Prop) (O : Addr → Prop) (H : Hp) (p : Addr) (u k w u' : W) (y v : V) (Q : Hp → Prop), (∀ q, O q → ∃ o, H q = some o) → g u k w = some u' → O p → Ob X.K Ex O H p u → Rp X.K Ex O H y k → Rp X.K Ex O H v w →
    (∀ H', But p H H' → Ob X.K Ex O H' p u' → Q H') → t (.ref p) y v H Q
def setLW : W → W → W → Option W := fun u k w => match u, k with
  | .list ds, .int i => match ixN ds.length i with
    | some j => some (.list (ds.set j w))
    | none => none
  | _, _ => none
theorem sd_list {X : Cx} : SetD X setLW := by
  refine ⟨_, set_list, fun Ex O H p u k w u' y v Q hO h hp ob ry rv q => ?_⟩
  unfold setLW at h
  split at h
  · split at h
    · rename_i ds i j hj
      cases h
      obtain ⟨ys, e, r⟩ := ob
      cases rp_int ry
      obtain ⟨b, o⟩ := Ob.put hp (r.set rv j)
      exact ⟨p, ys, _, j, rfl, rfl, e, by rw [r.length]; exact hj, q _ b o⟩
    · cases h
  · cases h
def mSetIx (g : W → W → W → Option W) (i : Nat) (ix m : M W) : MS := fun d => (m d).toS fun w d1 => (ofOpt (mineAt i d1) d1).toS fun _ d1 => (ix d1).toS fun k d2 => (ofOpt (mineAt i d2) d2).toS fun u d2 => match g u k w with
  | some u' => .next (setMine i u' d2)
  | none => .bad
section
variable {X : Cx} {Y : Yx}
theorem ds_setIx {pe pi : Bool} {g : W → W → W → Option W} {i : Nat} {y : Str} {ix e : Expr} {p pos pos' : Pos} {mi m : M W} (hs : SetD X g) (hi : DE X Y pi ix mi) (he : DE X Y pe e m)
    (hN : X.N[i]? = some y := by rfl) (hv : Vis X.env.scope y := by first | exact Or.inl rfl | exact Or.inr (Or.inl rfl) | exact Or.inr (Or.inr rfl)) (hd : (y == ("__debug__" : Str)) = false := by decide) (hcd : (y == ("__classdict__" : Str)) = false := by decide)
    (ha : ∀ v, assign (.Subscript (.Name y p) ix pos') X.env v = (do
      let ov ← holding [v] (eval (.Name y p) X.env)
      let iv ← holding [v, ov] (eval ix X.env)
      standAt pos'
      holding [v, ov, iv] (setItem ov iv v)
      release [v, ov, iv] []) := by intro _; rfl)
    (hsw : swapsWithSole [.Subscript (.Name y p) ix pos'] e pos.line X.env = pure false := by rfl) (hw : swappedStores [.Subscript (.Name y p) ix pos'] e X.env = pure none := by rfl) (h1 : (assignEach [.Subscript (.Name y p) ix pos'] X.env).map (·.2) = [assign (.Subscript (.Name y p) ix pos') X.env] := by rfl) :
    DS X Y (.Assign [.Subscript (.Name y p) ix pos'] e pos) (mSetIx g i mi m) := by
  obtain ⟨t, ht, hdd⟩ := hs
  refine ⟨ps_weak (ps_asg he.pe (pg_sub (pe_var hN hv hd hcd) hi.pe ht ha) hsw hw h1) fun D σ H h => ?_⟩
  obtain ⟨Oc, d, rs, h⟩ := h
  refine ⟨Oc, d, rs, (Po.toS h).imp fun w d1 H1 g1 h1 v rv => ?_⟩
  cases q0 : mineAt i d1 with
  | none => rw [q0] at h1; exact h1.elim
  | some u0 =>
    rw [q0] at h1
    dsimp only [ofOpt, Out.toS] at h1
    obtain ⟨s0, f1, f2⟩ := mineAt_some q0
    obtain ⟨a, ea, _, ob0⟩ := g1.rs.own i s0 u0 f1 f2
    refine ⟨_, ea, Oc, d1, g1.rs, (Po.toS (p := pi) h1).imp fun k d2 H2 g2 h2 kv rk => ?_⟩
    cases q1 : mineAt i d2 with
    | none => rw [q1] at h2; exact h2.elim
    | some u =>
      rw [q1] at h2
      dsimp only [ofOpt, Out.toS] at h2
      obtain ⟨p', s, ep', _, e1, e2, np, ob⟩ := slot_same g1.rs q0 g2 q1
      rw [ea] at ep'; cases ep'
      cases q2 : g u k w with
      | none => rw [q2] at h2; exact h2.elim
      | some u' =>
        rw [q2] at h2
        refine hdd Y.Ex (Ow Oc d2 σ) H2 a u k w u' kv v _ (fun q z => g2.rs.there z) q2 (.inr ⟨i, s, u, e1, e2, ea⟩) ob rk (g2.rp rv) fun H' b ob' => ?_
        exact h2 σ H' (setMine_go g2.rs e1 e2 ea b ob').toS
/-- x[i], x an own list -/
def mSubOwn (i : Nat) (ix : M W) : M W := fun d => (ofOpt (mineAt i d) d).bind fun _ d => (ix d).bind fun k d1 => (ofOpt (mineAt i d1) d1).bind fun u d1 => match u, k with
  | .list ds, .int j => ofOpt (atI ds j) d1
  | _, _ => .bad
theorem RpA.atI {K : PySem.W.Frag} {Ex : Addr → Nat → Prop} {O : Addr → Prop} {H : Hp} {vs : List V} {ws : List W} {i : Int} {w : W} (r : RpA K Ex O H vs ws) (h : L2.atI ws i = some w) : ∃ v, L2.atI vs i = some v ∧ Rp K Ex O H v w := by
  unfold L2.atI at h ⊢
  rw [r.length]
  cases q : ixN ws.length i with
  | none => rw [q] at h; cases h
  | some j => rw [q] at h; exact r.get h
theorem d_subOwn {pi : Bool} {i : Nat} {y : Str} {ix : Expr} {p pos : Pos} {mi : M W} (hi : DE X Y pi ix mi) (hpl : PlainIx ix) (hN : X.N[i]? = some y := by rfl) (hv : Vis X.env.scope y := by first | exact Or.inl rfl | exact Or.inr (Or.inl rfl) | exact Or.inr (Or.inr rfl)) (hd : (y == ("__debug__" : Str)) = false := by decide)
    (hcd : (y == ("__classdict__" : Str)) = false := by decide) : DE X Y pi (.Subscript (.Name y p) ix pos) (mSubOwn i mi) := ⟨pe_weak (pe_ix ix_list (pe_var hN hv hd hcd) hi.pe hpl) fun σ H Q h => by
  obtain ⟨Oc, d, rs, h⟩ := h
  unfold mSubOwn at h
  cases q0 : mineAt i d with
  | none => rw [q0] at h; exact h.elim
  | some u0 =>
    rw [q0] at h
    dsimp only [ofOpt, Out.bind] at h
    obtain ⟨s0, f1, f2⟩ := mineAt_some q0
    obtain ⟨a, ea, _, ob0⟩ := rs.own i s0 u0 f1 f2
    refine ⟨_, ea, Oc, d, rs, (Po.bind1 (show Po X Y pi Oc σ d H ((mi d).bind _) _ from h)).imp fun k d1 H1 g1 h1 kv rk => ?_⟩
    cases q1 : mineAt i d1 with
    | none => rw [q1] at h1; exact h1.elim
    | some u =>
      rw [q1] at h1
      dsimp only [ofOpt, Out.bind] at h1
      obtain ⟨p', s, ep', _, e1, e2, np, ob⟩ := slot_same rs q0 g1 q1
      rw [ea] at ep'; cases ep'
      cases u with
      | list ds =>
        cases k with
        | int j =>
          dsimp only at h1
          cases q2 : L2.atI ds j with
          | none => rw [q2] at h1; exact h1.elim
          | some w =>
            rw [q2] at h1
            obtain ⟨ys, eH, r⟩ := ob
            obtain ⟨v, ev, rv⟩ := r.atI q2
            cases rp_int rk
            exact ⟨a, ys, j, v, rfl, rfl, .inl (.inl eH), ev, h1 H1 (.refl g1.rs) v rv⟩
        | _ => exact h1.elim
      | _ => exact h1.elim⟩
end
end Qd
end
section
set_option Elab.async false
set_option linter.all false
set_option maxRecDepth 100000
set_option maxHeartbeats 1000000
/-! Dicts by data. -/
namespace Qd
open PySem PySem.Spec PyProof.Rows L2

def isK : W → Option Key
  | .int i => some (.inl i)
  | .str x => some (.inr x)
  | _ => none
def isKs : List W → Option (List Key)
  | [] => some []
  | w :: r => match isK w, isKs r with
    | some k, some ks => some (k :: ks)
    | _, _ => none
def isT : W → Option (List Key)
  | .tuple ws => isKs ws
  | _ => none
@[simp] theorem isK_keyD (k : Key) : isK (keyD k) = some k := by cases k <;> rfl
theorem isK_some {w : W} {k : Key} (h : isK w = some k) : w = keyD k := by
  cases w <;> simp [isK] at h <;> subst h <;> rfl
@[simp] theorem isKs_keyD : ∀ ks : List Key, isKs (ks.map keyD) = some ks
  | [] => rfl
  | k :: r => by simp [isKs, isKs_keyD r]
theorem isKs_some : ∀ {ws : List W} {ks : List Key}, isKs ws = some ks → ws = ks.map keyD
  | [], ks, h => by cases h; rfl
  | w :: r, ks, h => by
    unfold isKs at h
    split at h
    · rename_i k l h1 h2
      cases h
      rw [isK_some h1, isKs_some h2]; rfl
    · cases h
def eT (ks : List Key) : W := .tuple (ks.map keyD)
@[simp] theorem isT_eT (ks : List Key) : isT (eT ks) = some ks := isKs_keyD ks
theorem isT_some {w : W} {ks : List Key} (h : isT w = some ks) : w = eT ks := by
  cases w <;> simp [isT] at h
  rw [isKs_some h]; rfl
/-- a dict's items by data: keys by tuples or not, and the items -/
def dkind : List (W × W) → Option (Bool × List (W × W))
  | [] => some (false, [])
  | (.none, .none) :: r => some (true, r)
  | (.none, _) :: _ => none
  | l => some (false, l)
section
variable {κ : Type} [DecidableEq κ]
def getG (dec : W → Option κ) (ds : List (W × W)) (k : κ) : Option W := (ds.find? fun kv => decide (dec kv.1 = some k)).map (·.2)
def putG (dec : W → Option κ) (enc : κ → W) (ds : List (W × W)) (k : κ) (w : W) : List (W × W) :=
  if (ds.any fun kv => decide (dec kv.1 = some k)) = true then ds.map (fun kv => if dec kv.1 = some k then (kv.1, w) else kv) else ds ++ [(enc k, w)]
end
def dfind (u k : W) : Option (Option W) := match u with
  | .dict ds => match dkind ds with
    | some (true, l) => (isT k).map (getG isT l)
    | some (false, l) => (isK k).map (getG isK l)
    | none => none
  | _ => none
def dput (u k w : W) : Option W := match u with
  | .dict ds => match dkind ds with
    | some (true, l) => match isT k with
      | some t => if l.length < sizeLine then some (.dict (tagT :: putG isT eT l t w)) else none
      | none => none
    | some (false, l) => match isK k with
      | some t => if l.length < sizeLine then some (.dict (putG isK keyD l t w)) else none
      | none => none
    | none => none
  | _ => none
section
variable {κ : Type} [DecidableEq κ] {R : V → W → Prop} {enc : κ → W} {dec : W → Option κ}
inductive GK (R : V → W → Prop) (enc : κ → W) : List (κ × V) → List (W × W) → Prop
  | nil : GK R enc [] []
  | cons {k : κ} {v : V} {w : W} {r : List (κ × V)} {s : List (W × W)} : R v w → GK R enc r s → GK R enc ((k, v) :: r) ((enc k, w) :: s)
theorem GK.length {l : List (κ × V)} {ds : List (W × W)} (g : GK R enc l ds) : l.length = ds.length := by
  induction g with
  | nil => rfl
  | cons _ _ ih => rw [List.length_cons, List.length_cons, ih]
theorem GK.get (hd : ∀ k, dec (enc k) = some k) {l : List (κ × V)} {ds : List (W × W)} (g : GK R enc l ds) (k : κ) : (valV l k = none ∧ getG dec ds k = none) ∨ ∃ v w, valV l k = some v ∧ getG dec ds k = some w ∧ R v w := by
  induction g with
  | nil => exact .inl ⟨rfl, rfl⟩
  | @cons k' v w r s h t ih =>
    by_cases e : k' = k
    · subst e
      refine .inr ⟨v, w, by simp [valV, List.find?_cons], by simp [getG, List.find?_cons, hd], h⟩
    · have e1 : valV ((k', v) :: r) k = valV r k := by simp [valV, List.find?_cons, e]
      have e2 : getG dec ((enc k', w) :: s) k = getG dec s k := by simp [getG, List.find?_cons, hd, e]
      rw [e1, e2]; exact ih
theorem GK.any (hd : ∀ k, dec (enc k) = some k) {l : List (κ × V)} {ds : List (W × W)} (g : GK R enc l ds) (k : κ) : (l.any fun kv => decide (kv.1 = k)) = ds.any fun kv => decide (dec kv.1 = some k) := by
  induction g with
  | nil => rfl
  | cons h t ih => rw [List.any_cons, List.any_cons, ih, hd]; simp
theorem GK.upd (hd : ∀ k, dec (enc k) = some k) {v : V} {w : W} (r : R v w) {k : κ} {l : List (κ × V)} {ds : List (W × W)} (g : GK R enc l ds) : GK R enc (l.map fun kv => if kv.1 = k then (kv.1, v) else kv) (ds.map fun kv => if dec kv.1 = some k then (kv.1, w) else kv) := by
  induction g with
  | nil => exact .nil
  | @cons k' v' w' r' s h t ih =>
    rw [List.map_cons, List.map_cons]
    by_cases e : k' = k
    · subst e
      simp only [hd, if_true]
      exact .cons r ih
    · rw [if_neg e, if_neg (by rw [hd]; simpa using e)]
      exact .cons h ih
theorem GK.snoc {l : List (κ × V)} {ds : List (W × W)} (g : GK R enc l ds) {k : κ} {v : V} {w : W} (r : R v w) : GK R enc (l ++ [(k, v)]) (ds ++ [(enc k, w)]) := by
  induction g with
  | nil => exact .cons r .nil
  | cons h t ih => exact .cons h ih
theorem GK.put (hd : ∀ k, dec (enc k) = some k) {v : V} {w : W} (r : R v w) {k : κ} {l : List (κ × V)} {ds : List (W × W)} (g : GK R enc l ds) : GK R enc (putK l k v) (putG dec enc ds k w) := by
  unfold putK putG
  rw [g.any hd]
  split
  · exact g.upd hd r
  · exact g.snoc r
end
section
variable {K : PySem.W.Frag} {Ex : Addr → Nat → Prop} {O : Addr → Prop} {H : Hp}
theorem rpK_g {l : List (Key × V)} {ds : List (W × W)} : RpK K Ex O H l ds ↔ GK (Rp K Ex O H) keyD l ds := by
  constructor
  · intro h
    induction l generalizing ds with
    | nil => cases h; exact .nil
    | cons p r ih => cases h with | cons a b => exact .cons a (ih b)
  · intro h
    induction h with
    | nil => exact .nil
    | cons a b ih => exact .cons a ih
theorem rpT_g {l : List (List Key × V)} {ds : List (W × W)} : RpT K Ex O H l ds ↔ GK (Rp K Ex O H) eT l ds := by
  constructor
  · intro h
    induction l generalizing ds with
    | nil => cases h; exact .nil
    | cons p r ih => cases h with | cons a b => exact .cons a (ih b)
  · intro h
    induction h with
    | nil => exact .nil
    | cons a b ih => exact .cons a ih
theorem dkind_K {l : List (Key × V)} {ds : List (W × W)} (h : RpK K Ex O H l ds) : dkind ds = some (false, ds) := by
  cases h with
  | nil => rfl
  | @cons k v w vs ws a b => cases k <;> rfl
theorem rp_key {y : V} {k : W} {t : Key} (r : Rp K Ex O H y k) (h : isK k = some t) : y = kV t := by
  rw [isK_some h] at r
  cases t with
  | inl i => cases r; rfl
  | inr x => cases r; rfl
theorem rpA_keys : ∀ {xs : List V} {ks : List Key}, RpA K Ex O H xs (ks.map keyD) → xs = ks.map kV
  | _, [], r => by cases r; rfl
  | _, k :: ks, r => by
    cases r with
    | cons a b =>
      rw [rp_key a (isK_keyD k), rpA_keys b]; rfl
theorem rp_keyT (hx : ∀ a, ¬ Ex a cN) {y : V} {k : W} {t : List Key} (r : Rp K Ex O H y k) (h : isT k = some t) : ∃ b, y = .ref b ∧ H b = some (.tup (t.map kV)) := by
  rw [isT_some h] at r
  cases r with
  | tup l ra =>
    rcases l with ⟨_, e⟩ | ⟨z, _⟩
    · exact ⟨_, rfl, by rw [e, rpA_keys ra]⟩
    · exact absurd z (hx _)
/-- what a dict's object tells of a key -/
theorem Ob.dget (hx : ∀ a, ¬ Ex a cN) {p : Addr} {u k : W} {y : V} {o : Option W} (ob : Ob K Ex O H p u) (ry : Rp K Ex O H y k) (h : dfind u k = some o) : (o = none ∧ DGet H p y none) ∨ ∃ w v, o = some w ∧ DGet H p y (some v) ∧ Rp K Ex O H v w := by
  unfold dfind at h
  split at h
  · rename_i ds
    rcases ob with ⟨kvs, e, r⟩ | ⟨kvs, ds', rfl, e, r⟩
    · rw [dkind_K r] at h
      dsimp only at h
      cases q : isK k with
      | none => rw [q] at h; cases h
      | some t =>
        rw [q] at h
        cases h
        rw [rp_key ry q]
        rcases (rpK_g.mp r).get isK_keyD t with ⟨h1, h2⟩ | ⟨v, w, h1, h2, h3⟩
        · exact .inl ⟨h2, .inl ⟨kvs, t, .inl e, rfl, h1.symm⟩⟩
        · exact .inr ⟨w, v, h2, .inl ⟨kvs, t, .inl e, rfl, h1.symm⟩, h3⟩
    · dsimp only [dkind] at h
      cases q : isT k with
      | none => rw [q] at h; cases h
      | some t =>
        rw [q] at h
        cases h
        obtain ⟨b, rfl, eb⟩ := rp_keyT hx ry q
        rcases (rpT_g.mp r).get isT_eT t with ⟨h1, h2⟩ | ⟨v, w, h1, h2, h3⟩
        · exact .inl ⟨h2, .inr ⟨kvs, t, b, .inl e, rfl, eb, h1.symm⟩⟩
        · exact .inr ⟨w, v, h2, .inr ⟨kvs, t, b, .inl e, rfl, eb, h1.symm⟩, h3⟩
  · cases h
theorem Rp.dget (hx : ∀ a, ¬ Ex a cN) {x : V} {u k : W} {y : V} {o : Option W} (rx : Rp K Ex O H x u) (ry : Rp K Ex O H y k) (h : dfind u k = some o) : ∃ p, x = .ref p ∧ ((o = none ∧ DGet H p y none) ∨ ∃ w v, o = some w ∧ DGet H p y (some v) ∧ Rp K Ex O H v w) := by
  cases rx with
  | dK n e r =>
    refine ⟨_, rfl, ?_⟩
    unfold dfind at h
    dsimp only at h
    rw [dkind_K r] at h
    dsimp only at h
    cases q : isK k with
    | none => rw [q] at h; cases h
    | some t =>
      rw [q] at h
      cases h
      rw [rp_key ry q]
      rcases (rpK_g.mp r).get isK_keyD t with ⟨h1, h2⟩ | ⟨v, w, h1, h2, h3⟩
      · exact .inl ⟨h2, .inl ⟨_, t, e, rfl, h1.symm⟩⟩
      · exact .inr ⟨w, v, h2, .inl ⟨_, t, e, rfl, h1.symm⟩, h3⟩
  | dT n e r =>
    refine ⟨_, rfl, ?_⟩
    unfold dfind at h
    dsimp only [dkind] at h
    cases q : isT k with
    | none => rw [q] at h; cases h
    | some t =>
      rw [q] at h
      cases h
      obtain ⟨b, rfl, eb⟩ := rp_keyT hx ry q
      rcases (rpT_g.mp r).get isT_eT t with ⟨h1, h2⟩ | ⟨v, w, h1, h2, h3⟩
      · exact .inl ⟨h2, .inr ⟨_, t, b, e, rfl, eb, h1.symm⟩⟩
      · exact .inr ⟨w, v, h2, .inr ⟨_, t, b, e, rfl, eb, h1.symm⟩, h3⟩
  | exc z => unfold dfind at h; cases h
  | non => cases h
  | bl b => cases h
  | int i => cases h
  | str x => cases h
  | lst _ _ => cases h
  | tup _ _ => cases h
theorem Ob.dput (hx : ∀ a, ¬ Ex a cN) {p : Addr} {u k w u' : W} {y v : V} (hp : O p) (ob : Ob K Ex O H p u) (ry : Rp K Ex O H y k) (rv : Rp K Ex O H v w) (h : Qd.dput u k w = some u') : ∃ H', DPut H p y v H' ∧ But p H H' ∧ Ob K Ex O H' p u' := by
  have key : ∀ u : HO, But p H (upd H p u) := fun u a o n e => by rw [upd_ne n]; exact e
  have ke : ∀ u : HO, Ke O H O (upd H p u) := fun u a o n e => ⟨n, by rw [upd_ne (fun z => n (by rw [z]; exact hp))]; exact e⟩
  unfold Qd.dput at h
  split at h
  · rename_i ds
    rcases ob with ⟨kvs, e, r⟩ | ⟨kvs, ds', rfl, e, r⟩
    · rw [dkind_K r] at h
      dsimp only at h
      cases q : isK k with
      | none => rw [q] at h; cases h
      | some t =>
        rw [q] at h
        dsimp only at h
        split at h
        · rename_i hl
          cases h
          rw [rp_key ry q]
          refine ⟨_, .inl ⟨kvs, t, e, rfl, by rw [(rpK_g.mp r).length]; exact hl, rfl⟩, key _, .inl ⟨_, upd_same, ?_⟩⟩
          exact (rpK_g.mpr ((rpK_g.mp r).put isK_keyD rv)).mono (ke _) fun _ _ z => z
        · cases h
    · dsimp only [dkind] at h
      cases q : isT k with
      | none => rw [q] at h; cases h
      | some t =>
        rw [q] at h
        dsimp only at h
        split at h
        · rename_i hl
          cases h
          obtain ⟨b, rfl, eb⟩ := rp_keyT hx ry q
          refine ⟨_, .inr ⟨kvs, t, b, e, rfl, eb, by rw [(rpT_g.mp r).length]; exact hl, rfl⟩, key _, .inr ⟨_, _, rfl, upd_same, ?_⟩⟩
          exact (rpT_g.mpr ((rpT_g.mp r).put isT_eT rv)).mono (ke _) fun _ _ z => z
        · cases h
  · cases h
end

/-! ### the rules -/
section
variable {X : Cx} {Y : Yx}
def mDGet (a b : M W) : M W := fun d => (a d).bind fun u d1 => (b d1).bind fun k d2 => match dfind u k with
  | some (some w) => .ok w d2
  | _ => .bad
theorem d_dget {pa pb : Bool} {o i : Expr} {pos : Pos} {a b : M W} (hu : X.A.units + 1 < cLine) (hx : ∀ a, ¬ Y.Ex a cN) (ho : DE X Y pa o a) (hi : DE X Y pb i b) (hs : NoSl i) : DE X Y (pa && pb) (.Subscript o i pos) (mDGet a b) := ⟨pe_weak (pe_dget hu ho.pe hi.pe hs) fun σ H Q h => by
  obtain ⟨Oc, d, rs, h⟩ := h
  refine ⟨Oc, d, rs, (Po.bind h).imp fun u d1 H1 g1 h1 xv rx => ⟨Oc, d1, g1.rs, (Po.bind1 h1).imp fun k d2 H2 g2 h2 yv ry => ?_⟩⟩
  cases q : dfind u k with
  | none => rw [q] at h2; exact h2.elim
  | some o =>
    rw [q] at h2
    obtain ⟨p, rfl, ⟨rfl, _⟩ | ⟨w, v, rfl, dg, rv⟩⟩ := (g2.rp rx).dget hx ry q
    · exact h2.elim
    · exact ⟨p, v, rfl, dg, h2 H2 (.refl g2.rs) v rv⟩⟩
def mDIn (neg : Bool) (b a : M W) : M W := fun d => (b d).bind fun k d1 => (a d1).bind fun u d2 => match dfind u k with
  | some o => .ok (.bool (if neg then !o.isSome else o.isSome)) d2
  | none => .bad
theorem t_din {pa pb neg : Bool} {a b : M W} (hx : ∀ a, ¬ Y.Ex a cN) (σ : St) (H : Hp) (Q : VK) (h : tE X Y (pb && pa) (mDIn neg b a) σ H Q) : tE X Y pb b σ H fun y H1 => tE X Y pa a σ H1 fun x H2 => ∃ p o, x = .ref p ∧ DGet H2 p y o ∧ Q (.bl (if neg then !o.isSome else o.isSome)) H2 := by
  obtain ⟨Oc, d, rs, h⟩ := h
  refine ⟨Oc, d, rs, (Po.bind h).imp fun k d1 H1 g1 h1 yv ry => ⟨Oc, d1, g1.rs, (Po.bind1 h1).imp fun u d2 H2 g2 h2 xv rx => ?_⟩⟩
  cases q : dfind u k with
  | none => rw [q] at h2; exact h2.elim
  | some o =>
    rw [q] at h2
    obtain ⟨p, rfl, ⟨rfl, dg⟩ | ⟨w, v, rfl, dg, rv⟩⟩ := rx.dget hx (g2.rp ry) q
    · exact ⟨p, none, rfl, dg, h2 H2 (.refl g2.rs) _ (.bl _)⟩
    · exact ⟨p, some v, rfl, dg, h2 H2 (.refl g2.rs) _ (.bl _)⟩
theorem d_din {pa pb : Bool} {o i : Expr} {pos : Pos} {a b : M W} (hu : X.A.units + 1 < cLine) (hx : ∀ a, ¬ Y.Ex a cN) (hi : DE X Y pb i b) (ho : DE X Y pa o a) (hm : behindInMarks .In o = false := by rfl) : DE X Y (pb && pa) (.Compare i [.In] [o] pos) (mDIn false b a) :=
  ⟨pe_weak (pe_cmp (pc_din hu hi.pe ho.pe) hm) fun σ H Q h => t_din (neg := false) hx σ H Q h⟩
theorem d_dnotin {pa pb : Bool} {o i : Expr} {pos : Pos} {a b : M W} (hu : X.A.units + 1 < cLine) (hx : ∀ a, ¬ Y.Ex a cN) (hi : DE X Y pb i b) (ho : DE X Y pa o a) (hm : behindInMarks .NotIn o = false := by rfl) : DE X Y (pb && pa) (.Compare i [.NotIn] [o] pos) (mDIn true b a) :=
  ⟨pe_weak (pe_cmp (pc_dnotin hu hi.pe ho.pe) hm) fun σ H Q h => t_din (neg := true) hx σ H Q h⟩
/-- a test whose value is a bool -/
theorem tTest_B {pu : Bool} {m : M W} {t : TE} (w : ∀ σ H Q, tE X Y pu m σ H Q → t σ H Q) (σ : St) (H : Hp) (Q : Bool → Hp → Prop) (h : tT X Y pu (mTest m) σ H Q) : tB t σ H Q := by
  obtain ⟨Oc, d, rs, h⟩ := h
  refine w _ _ _ ⟨Oc, d, rs, (Po.bind1 h).imp fun c d1 H1 g1 h1 v r => ?_⟩
  cases c with
  | bool b => cases r; exact ⟨b, rfl, h1 H1 (.refl g1.rs) g1.rs⟩
  | _ => exact h1.elim
theorem dt_din {pa pb : Bool} {o i : Expr} {pos : Pos} {a b : M W} (hu : X.A.units + 1 < cLine) (hx : ∀ a, ¬ Y.Ex a cN) (hi : DE X Y pb i b) (ho : DE X Y pa o a) (hm : behindInMarks .In o = false := by rfl) : DT X Y (pb && pa) (.Compare i [.In] [o] pos) (mTest (mDIn false b a)) :=
  ⟨pt_weak (pt_cmp (pc_din hu hi.pe ho.pe) hm) (tTest_B fun σ H Q h => t_din (neg := false) hx σ H Q h)⟩
theorem dt_dnotin {pa pb : Bool} {o i : Expr} {pos : Pos} {a b : M W} (hu : X.A.units + 1 < cLine) (hx : ∀ a, ¬ Y.Ex a cN) (hi : DE X Y pb i b) (ho : DE X Y pa o a) (hm : behindInMarks .NotIn o = false := by rfl) : DT X Y (pb && pa) (.Compare i [.NotIn] [o] pos) (mTest (mDIn true b a)) :=
  ⟨pt_weak (pt_cmp (pc_dnotin hu hi.pe ho.pe) hm) (tTest_B fun σ H Q h => t_din (neg := true) hx σ H Q h)⟩
/-- d.get(k, x) -/
def isDW : W → Bool
  | .dict ds => (dkind ds).isSome
  | _ => false
def mDGet2 (a b c : M W) : M W := fun d => (a d).bind fun u d1 => if isDW u = true then (b d1).bind fun k d2 => (c d2).bind fun z d3 => match dfind u k with
  | some (some w) => .ok w d3
  | some none => .ok z d3
  | none => .bad else .bad
theorem rp_isD {K : PySem.W.Frag} {Ex : Addr → Nat → Prop} {O : Addr → Prop} {H : Hp} {v : V} {u : W} (r : Rp K Ex O H v u) (h : isDW u = true) : ∃ p, v = .ref p ∧ IsD H p := by
  cases r with
  | dK n e r => exact ⟨_, rfl, .inl ⟨_, e⟩⟩
  | dT n e r => exact ⟨_, rfl, .inr ⟨_, e⟩⟩
  | exc z => cases h
  | non => cases h
  | bl b => cases h
  | int i => cases h
  | str x => cases h
  | lst _ _ => cases h
  | tup _ _ => cases h
theorem d_dget2 {pa pb pc : Bool} {o e f : Expr} {apos cpos : Pos} {a b c : M W} (hu : X.A.units + 1 < cLine) (hx : ∀ a, ¬ Y.Ex a cN) (ho : DE X Y pa o a) (he : DE X Y pb e b) (hf : DE X Y pc f c) (m : M2 X o "get" apos e f cpos) :
    DE X Y (pa && (pb && pc)) (.Call (.Attribute o "get" apos) [e, f] [] cpos) (mDGet2 a b c) := ⟨pe_weak (pe_dget2 hu ho.pe he.pe hf.pe m) fun σ H Q h => by
  obtain ⟨Oc, d, rs, h⟩ := h
  refine ⟨Oc, d, rs, (Po.bind h).imp fun u d1 H1 g1 h1 xv rx => ?_⟩
  by_cases hz : isDW u = true
  · rw [if_pos hz] at h1
    obtain ⟨p, rfl, hp⟩ := rp_isD rx hz
    refine ⟨p, rfl, hp, Oc, d1, g1.rs, (Po.bind h1).imp fun k d2 H2 g2 h2 yv ry => ⟨Oc, d2, g2.rs, (Po.bind1 h2).imp fun z d3 H3 g3 h3 zv rz => ?_⟩⟩
    have g23 := g2.trans g3
    cases q : dfind u k with
    | none => rw [q] at h3; exact h3.elim
    | some o =>
      rw [q] at h3
      obtain ⟨p', e, ⟨rfl, dg⟩ | ⟨w, v, rfl, dg, rv⟩⟩ := (g23.rp rx).dget hx (g3.rp ry) q
      · cases e; exact ⟨none, dg, h3 H3 (.refl g3.rs) _ rz⟩
      · cases e; exact ⟨some v, dg, h3 H3 (.refl g3.rs) _ rv⟩
  · rw [if_neg hz] at h1; exact h1.elim⟩
/-- d[k] = v, d an own dict -/
theorem ds_dput {pe pi : Bool} {i : Nat} {y : Str} {ix e : Expr} {p pos pos' : Pos} {mi m : M W} (hu : X.A.units + 1 < cLine) (hx : ∀ a, ¬ Y.Ex a cN) (hi : DE X Y pi ix mi) (he : DE X Y pe e m)
    (hs : swapsWith e (some (.Subscript (.Name y p) ix pos')) pos.line X.env = pure false := by rfl) (hN : X.N[i]? = some y := by rfl) (hv : Vis X.env.scope y := by first | exact Or.inl rfl | exact Or.inr (Or.inl rfl) | exact Or.inr (Or.inr rfl)) (hd : (y == ("__debug__" : Str)) = false := by decide)
    (hcd : (y == ("__classdict__" : Str)) = false := by decide) : DS X Y (.Assign [.Subscript (.Name y p) ix pos'] e pos) (mSetIx dput i mi m) := by
  refine ⟨ps_weak (ps_dput hu (pe_var hN hv hd hcd) hi.pe he.pe hs) fun D σ H h => ?_⟩
  obtain ⟨Oc, d, rs, h⟩ := h
  refine ⟨Oc, d, rs, (Po.toS h).imp fun w d1 H1 g1 h1 v rv => ?_⟩
  cases q0 : mineAt i d1 with
  | none => rw [q0] at h1; exact h1.elim
  | some u0 =>
    rw [q0] at h1
    dsimp only [ofOpt, Out.toS] at h1
    obtain ⟨s0, f1, f2⟩ := mineAt_some q0
    obtain ⟨a, ea, _, ob0⟩ := g1.rs.own i s0 u0 f1 f2
    refine ⟨_, ea, Oc, d1, g1.rs, (Po.toS (p := pi) h1).imp fun k d2 H2 g2 h2 kv rk => ?_⟩
    cases q1 : mineAt i d2 with
    | none => rw [q1] at h2; exact h2.elim
    | some u =>
      rw [q1] at h2
      dsimp only [ofOpt, Out.toS] at h2
      obtain ⟨p', s, ep', _, e1, e2, np, ob⟩ := slot_same g1.rs q0 g2 q1
      rw [ea] at ep'; cases ep'
      cases q2 : dput u k w with
      | none => rw [q2] at h2; exact h2.elim
      | some u' =>
        rw [q2] at h2
        obtain ⟨H', dp, b, ob'⟩ := ob.dput hx (.inr ⟨i, s, u, e1, e2, ea⟩) rk (g2.rp rv) q2
        exact ⟨a, H', rfl, dp, h2 σ H' (setMine_go g2.rs e1 e2 ea b ob').toS⟩
/-- {} -/
def mDNew (tup : Bool) : M W := fun d => .ok (.dict (if tup then [tagT] else [])) d
theorem df_dnew (tup : Bool) {pos : Pos} : DF X Y true (.Dict [] [] pos) (mDNew tup) := by
  cases tup with
  | false => exact ⟨pe_weak pe_dnewK fun σ H Q h p np => by
      obtain ⟨Oc, d, rs, h⟩ := h
      have rs1 := rs.withNew (o := .dK []) np
      exact h _ (.same rs (same_new np)) p np rs1 (.inl ⟨_, upd_same, .nil⟩)⟩
  | true => exact ⟨pe_weak pe_dnewT fun σ H Q h p np => by
      obtain ⟨Oc, d, rs, h⟩ := h
      have rs1 := rs.withNew (o := .dT []) np
      exact h _ (.same rs (same_new np)) p np rs1 (.inr ⟨_, _, rfl, upd_same, .nil⟩)⟩
end
end Qd
end
section
set_option Elab.async false
set_option linter.all false
set_option maxRecDepth 100000
set_option maxHeartbeats 1000000
/-! More rules on values: comparisons of data, in, subscripts, slices, built-in calls. -/
namespace Qd
open PySem PySem.Spec PyProof.Rows L2

/-! ### one rule or another -/
def or2 (g g' : W → W → Option W) : W → W → Option W := fun a b => match g a b with
  | some c => some c
  | none => g' a b
theorem or2_some {g g' : W → W → Option W} {a b c : W} (h : or2 g g' a b = some c) : g a b = some c ∨ g' a b = some c := by
  unfold or2 at h
  split at h
  · rename_i q; rw [q]; exact .inl h
  · exact .inr h
def orL (g g' : List W → Option W) : List W → Option W := fun a => match g a with
  | some c => some c
  | none => g' a
theorem orL_some {g g' : List W → Option W} {a : List W} {c : W} (h : orL g g' a = some c) : g a = some c ∨ g' a = some c := by
  unfold orL at h
  split at h
  · rename_i q; rw [q]; exact .inl h
  · exact .inr h
section
variable {X : Cx}
theorem OpR.or' {f : Value → Value → Sem Value} {r r' : R2} (h : OpR X f r) (h' : OpR X f r') : OpR X f (fun x y H Q => r x y H Q ∨ r' x y H Q) := by
  intro pins s σ H x y v u Q I rx ry q
  rcases q with q | q
  · exact h pins s σ H x y v u Q I rx ry q
  · exact h' pins s σ H x y v u Q I rx ry q
theorem OpD.or {f : Value → Value → Sem Value} {g g' : W → W → Option W} (h : OpD X f g) (h' : OpD X f g') : OpD X f (or2 g g') := by
  obtain ⟨r, hr, hd⟩ := h
  obtain ⟨r', hr', hd'⟩ := h'
  exact ⟨_, OpR.or' hr hr', fun Ex O H x y a b c Q hO e rx ry q => (or2_some e).imp (fun e => hd Ex O H x y a b c Q hO e rx ry q) fun e => hd' Ex O H x y a b c Q hO e rx ry q⟩
theorem CallR.or' {f : Value} {r r' : List V → Hp → VK → Prop} (h : CallR X f r) (h' : CallR X f r') : CallR X f (fun x H Q => r x H Q ∨ r' x H Q) := by
  intro pins s σ H xs us Q I rx q
  rcases q with q | q
  · exact h pins s σ H xs us Q I rx q
  · exact h' pins s σ H xs us Q I rx q
theorem CallD.or {f : Value} {g g' : List W → Option W} (h : CallD X f g) (h' : CallD X f g') : CallD X f (orL g g') := by
  obtain ⟨r, hr, hd⟩ := h
  obtain ⟨r', hr', hd'⟩ := h'
  exact ⟨_, CallR.or' hr hr', fun Ex O H xs as c Q hO e rx q => (orL_some e).imp (fun e => hd Ex O H xs as c Q hO e rx q) fun e => hd' Ex O H xs as c Q hO e rx q⟩

/-! ### order of data -/
def ordOk (a b : W) : Bool := PySem.W.alike a b && !isNone a && (okD a && okD b)
def ltD : W → W → Option W := fun a b => if ordOk a b = true then some (.bool (PySem.W.dataLt a b)) else none
def gtD : W → W → Option W := fun a b => if ordOk a b = true then some (.bool (PySem.W.dataLt b a)) else none
def leD : W → W → Option W := fun a b => if ordOk a b = true then some (.bool (!PySem.W.dataLt b a)) else none
def geD : W → W → Option W := fun a b => if ordOk a b = true then some (.bool (!PySem.W.dataLt a b)) else none
theorem ordOk_of {a b : W} (h : ordOk a b = true) : PySem.W.alike a b = true ∧ a ≠ .none ∧ (noD a = true ∧ SeqAt.shaped a = true) ∧ noD b = true ∧ SeqAt.shaped b = true := by
  unfold ordOk at h
  rw [Bool.and_eq_true, Bool.and_eq_true] at h
  refine ⟨h.1.1, fun e => ?_, okD_and h.2⟩
  subst e
  simp [isNone] at h
theorem opd_ord {f : Value → Value → Sem Value} {k : W → W → Bool} (hf : ∀ {A : Around} {E : Value → Shared → Prop} {s : Shared} {u v : Value} {a b : W} {as bs : List Addr} {Q : Value → Shared → Prop}, Reads s.heap u a as → Reads s.heap v b bs → PySem.W.alike a b = true → a ≠ .none → A.units + min a.depth b.depth < cLine → Q (.bool (k a b)) s → wpAny (model X.prog X.w) A (f u v) Q E s)
    (hu : X.A.units + 64 < cLine) : OpD X f (fun a b => if ordOk a b = true then some (.bool (k a b)) else none) := by
  refine ⟨fun x y H Q => ∃ a b, Dp X.K H x a ∧ Dp X.K H y b ∧ ordOk a b = true ∧ Q (.bl (k a b)) H, ?_, fun Ex O H x y a b c Q hO h rx ry q => ?_⟩
  · intro pins s σ H x y v u Q I rx ry h
    obtain ⟨a, b, h1, h2, h3, q⟩ := h
    obtain ⟨e1, e2, ⟨_, e4⟩, _, e6⟩ := ordOk_of h3
    obtain ⟨as, r1⟩ := Dp.reads I a x v h1 rx
    obtain ⟨bs, r2⟩ := Dp.reads I b y u h2 ry
    exact hf r1 r2 e1 e2 (SeqAt.room_of_shaped e4 hu) ⟨.bl _, H, I, rfl, q⟩
  · dsimp only at h
    split at h
    · rename_i z
      cases h
      obtain ⟨_, _, ⟨e3, _⟩, e5, _⟩ := ordOk_of z
      exact ⟨a, b, rx.dp e3, ry.dp e5, z, q H _ (fun _ _ e => e) (.bl _)⟩
    · cases h
theorem od_ltD (hu : X.A.units + 64 < cLine) : OpD X (compareOp .Lt) ltD := opd_ord (fun r1 r2 e1 e2 e3 q => PySem.W.lt_data r1 r2 e1 e2 e3 q) hu
theorem od_gtD (hu : X.A.units + 64 < cLine) : OpD X (compareOp .Gt) gtD := opd_ord (k := fun a b => PySem.W.dataLt b a) (fun r1 r2 e1 e2 e3 q => PySem.W.gt_data r1 r2 e1 e2 e3 q) hu
theorem od_leD (hu : X.A.units + 64 < cLine) : OpD X (compareOp .LtE) leD := opd_ord (k := fun a b => !PySem.W.dataLt b a) (fun r1 r2 e1 e2 e3 q => PySem.W.le_data r1 r2 e1 e2 e3 q) hu
theorem od_geD (hu : X.A.units + 64 < cLine) : OpD X (compareOp .GtE) geD := opd_ord (k := fun a b => !PySem.W.dataLt a b) (fun r1 r2 e1 e2 e3 q => PySem.W.ge_data r1 r2 e1 e2 e3 q) hu
noncomputable abbrev ltW := or2 ltI ltD
noncomputable abbrev gtW := or2 gtI gtD
noncomputable abbrev leW := or2 leI leD
noncomputable abbrev geW := or2 geI geD
theorem od_lt (hu : X.A.units + 64 < cLine) : OpD X (compareOp .Lt) ltW := od_ltI.or (od_ltD hu)
theorem od_gt (hu : X.A.units + 64 < cLine) : OpD X (compareOp .Gt) gtW := od_gtI.or (od_gtD hu)
theorem od_le (hu : X.A.units + 64 < cLine) : OpD X (compareOp .LtE) leW := od_leI.or (od_leD hu)
theorem od_ge (hu : X.A.units + 64 < cLine) : OpD X (compareOp .GtE) geW := od_geI.or (od_geD hu)

/-! ### in -/
def itemsOf : W → Option (List W)
  | .list ds => some ds
  | .tuple ds => some ds
  | _ => none
theorem canLay_plain {d : W} (h : SeqAt.shaped d = true) : d.plain = true := PyData.plain_of_canLay0 d (SeqAt.canLay_of_shaped h)
def inW (neg : Bool) : W → W → Option W := fun a b => match itemsOf b with
  | some ds => if (okD a && okD b) = true then some (.bool (if neg then !ds.any fun z => PyData.eqv z a else ds.any fun z => PyData.eqv z a)) else none
  | none => none
theorem opd_in (neg : Bool) (hu : X.A.units + 65 < cLine) : OpD X (compareOp (if neg then .NotIn else .In)) (inW neg) := by
  refine ⟨fun x y H Q => ∃ a b ds, Dp X.K H x a ∧ Dp X.K H y b ∧ itemsOf b = some ds ∧ (okD a && okD b) = true ∧ Q (.bl (if neg then !ds.any fun z => PyData.eqv z a else ds.any fun z => PyData.eqv z a)) H, ?_, fun Ex O H x y a b c Q hO h rx ry q => ?_⟩
  · intro pins s σ H x y v u Q I rx ry h
    obtain ⟨a, b, ds, h1, h2, hi, h3, q⟩ := h
    obtain ⟨⟨e3, e4⟩, e5, e6⟩ := okD_and h3
    obtain ⟨as, r1⟩ := Dp.reads I a x v h1 rx
    obtain ⟨bs, r2⟩ := Dp.reads I b y u h2 ry
    have p1 := canLay_plain e4
    have p2 := canLay_plain e6
    have fin : EP X pins σ Q (.bool (if neg then !ds.any fun z => PyData.eqv z a else ds.any fun z => PyData.eqv z a)) s := ⟨.bl _, H, I, rfl, q⟩
    cases b with
    | list l =>
      cases hi
      cases neg with
      | false => exact SeqAt.in_list_data r2 r1 p2 p1 (room_in_shaped e4 hu) fin
      | true => exact SeqAt.notIn_list_data r2 r1 p2 p1 (room_in_shaped e4 hu) fin
    | tuple l =>
      cases hi
      cases neg with
      | false => exact SeqAt.in_tuple_data r2 r1 p2 p1 (room_in_shaped e4 hu) fin
      | true => exact SeqAt.notIn_tuple_data r2 r1 p2 p1 (room_in_shaped e4 hu) fin
    | _ => cases hi
  · unfold inW at h
    split at h
    · rename_i ds hi
      split at h
      · rename_i z
        cases h
        obtain ⟨⟨e3, _⟩, e5, _⟩ := okD_and z
        exact ⟨a, b, ds, rx.dp e3, ry.dp e5, hi, z, q H _ (fun _ _ e => e) (.bl _)⟩
      · cases h
    · cases h
theorem od_in (hu : X.A.units + 65 < cLine) : OpD X (compareOp .In) (inW false) := opd_in false hu
theorem od_notin (hu : X.A.units + 65 < cLine) : OpD X (compareOp .NotIn) (inW true) := opd_in true hu

/-! ### x[i] -/
def ixW : W → W → Option W := fun a b => match a, b with
  | .list ds, .int i => atI ds i
  | .tuple ds, .int i => atI ds i
  | .str z, .int i => if z.length ≤ sizeLine then (atI z.cps.toList i).map (fun c => .str ⟨#[c]⟩) else none
  | _, _ => none
theorem d_ix {Y : Yx} {pa pb : Bool} {a b : Expr} {pos : Pos} {ma mb : M W} (ha : DE X Y pa a ma) (hb : DE X Y pb b mb) (hs : PlainIx b) : DE X Y (pa && pb) (.Subscript a b pos) (mBin ixW ma mb) := by
  refine ⟨pe_weak (pe_ix ((ix_list.or ix_tup).or ix_str) ha.pe hb.pe hs) (t_bin (f := fun _ _ => pure .none) fun Ex O H x y u k c Q hO h rx ry q => ?_)⟩
  unfold ixW at h
  split at h
  · rename_i ds i
    cases rp_int ry
    cases rx with
    | lst l r =>
      obtain ⟨v, ev, rv⟩ := r.atI h
      exact .inl (.inl ⟨_, _, i, v, rfl, rfl, l.sq, ev, q H v (fun _ _ e => e) rv⟩)
  · rename_i ds i
    cases rp_int ry
    cases rx with
    | tup l r =>
      obtain ⟨v, ev, rv⟩ := r.atI h
      exact .inl (.inr ⟨_, _, i, v, rfl, rfl, l.sq, ev, q H v (fun _ _ e => e) rv⟩)
  · rename_i z i
    split at h
    · rename_i hz
      cases rp_int ry
      cases rp_str rx
      cases e : atI z.cps.toList i with
      | none => rw [e] at h; cases h
      | some ch =>
        rw [e] at h
        cases h
        exact .inr ⟨z, i, ch, rfl, rfl, hz, e, q H _ (fun _ _ e => e) (.str _)⟩
    · cases h
  · cases h
end
end Qd
end
section
set_option Elab.async false
set_option linter.all false
set_option maxRecDepth 100000
set_option maxHeartbeats 1000000
/-! Slices, built-in calls, isinstance. -/
namespace Qd
open PySem PySem.Spec PyProof.Rows L2

/-! ### x[lo:hi] -/
abbrev MO := SD → Out (Option Int)
def tO (X : Cx) (Y : Yx) (pu : Bool) (m : MO) : TO := fun σ H Q => ∃ Oc d, RS X.K Y.Ex Oc H d σ ∧ Po X Y pu Oc σ d H (m d) fun b d' H' => RS X.K Y.Ex Oc H' d' σ → Q b H'
structure DO (X : Cx) (Y : Yx) (pu : Bool) (e : Option Expr) (m : MO) : Prop where
  po : ∃ t, PO X e t ∧ ∀ σ H Q, tO X Y pu m σ H Q → t σ H Q
def mNoPart : MO := fun d => .ok none d
def asI : W → Option Int
  | .int i => some i
  | _ => none
def mPart (m : M W) : MO := fun d => (m d).bind fun w d1 => (ofOpt (asI w) d1).bind fun i d1 => .ok (some i) d1
section
variable {X : Cx} {Y : Yx}
theorem do_none : DO X Y true none mNoPart := ⟨_, po_none, fun σ H Q h => by
  obtain ⟨Oc, d, rs, h⟩ := h
  exact h H (.refl rs) rs⟩
theorem do_some {pu : Bool} {e : Expr} {m : M W} (h : DE X Y pu e m) : DO X Y pu (some e) (mPart m) := ⟨_, po_some h.pe, fun σ H Q h => by
  obtain ⟨Oc, d, rs, h⟩ := h
  refine ⟨Oc, d, rs, (Po.bind1 h).imp fun w d1 H1 g1 h1 v r => ?_⟩
  cases w with
  | int i => cases rp_int r; exact ⟨i, rfl, h1 H1 (.refl g1.rs) g1.rs⟩
  | _ => exact h1.elim⟩
def cutA {α : Type} (xs : List α) (lo hi : Option Int) : List α := (xs.drop (HT.sIx xs.length 0 lo)).take (HT.sIx xs.length xs.length hi - HT.sIx xs.length 0 lo)
theorem RpA.cut {K : PySem.W.Frag} {Ex : Addr → Nat → Prop} {O : Addr → Prop} {H : Hp} {vs : List V} {ws : List W} (lo hi : Option Int) (r : RpA K Ex O H vs ws) : RpA K Ex O H (cutV vs lo hi) (cutA ws lo hi) := by
  unfold cutV cutA
  rw [r.length]
  exact (r.drop _).take _
def slW (u : W) (lo hi : Option Int) : Option W := match u with
  | .list ds => some (.list (cutA ds lo hi))
  | .tuple ds => some (.tuple (cutA ds lo hi))
  | .str z => if z.length ≤ sizeLine then some (.str (cutS z lo hi)) else none
  | _ => none
def mSl (a : M W) (lo hi : MO) : M W := fun d => (a d).bind fun u d1 => (lo d1).bind fun l d2 => (hi d2).bind fun h d3 => ofOpt (slW u l h) d3
theorem cutA_all {α : Type} {xs : List α} {lo hi : Option Int} (h1 : HT.sIx xs.length 0 lo = 0) (h2 : HT.sIx xs.length xs.length hi = xs.length) : cutA xs lo hi = xs := by
  unfold cutA
  rw [h1, h2, List.drop_zero, Nat.sub_zero, List.take_length]
theorem d_slice {pa pl ph : Bool} {e : Expr} {lo hi : Option Expr} {p2 pos : Pos} {a : M W} {ml mh : MO} (ha : DE X Y pa e a) (hl : DO X Y pl lo ml) (hh : DO X Y ph hi mh) : DE X Y (pa && (pl && ph)) (.Subscript e (.Slice lo hi none p2) pos) (mSl a ml mh) := by
  obtain ⟨tl, hpl, wl⟩ := hl.po
  obtain ⟨th, hph, wh⟩ := hh.po
  refine ⟨pe_weak (pe_slice ((sl_list.or sl_tupA).or sl_str) ha.pe hpl hph) fun σ H Q h => ?_⟩
  obtain ⟨Oc, d, rs, h⟩ := h
  refine ⟨Oc, d, rs, (Po.bind h).imp fun u d1 H1 g1 h1 v rv => wl _ _ _ ⟨Oc, d1, g1.rs, (Po.bind h1).imp fun l d2 H2 g2 h2 _ => wh _ _ _ ⟨Oc, d2, g2.rs, (Po.bind1 h2).imp fun hh d3 H3 g3 h3 _ => ?_⟩⟩⟩
  obtain ⟨c, ec, k⟩ := Po.opt h3
  have rv3 := (g2.trans g3).rp rv
  unfold slW at ec
  split at ec
  · rename_i ds
    cases ec
    cases rv3 with
    | lst l r =>
      refine .inl (.inl ⟨_, _, rfl, l.sq, fun p np => ?_⟩)
      obtain ⟨sm, rp⟩ := rp_newLst (fun b hb => g3.rs.there (a := b) hb) np (r.cut _ _)
      exact k _ (.same g3.rs sm) _ rp
  · rename_i ds
    cases ec
    cases rv3 with
    | tup l r =>
      refine .inl (.inr ⟨_, _, rfl, l.sq, fun ⟨e1, e2⟩ => ?_, fun _ p np => ?_⟩)
      · rw [r.length] at e1 e2
        exact k _ (.refl g3.rs) _ (by rw [cutA_all e1 e2]; exact .tup l r)
      · obtain ⟨sm, rp⟩ := rp_newTup (fun b hb => g3.rs.there (a := b) hb) np (r.cut _ _)
        exact k _ (.same g3.rs sm) _ rp
  · rename_i z
    split at ec
    · rename_i hz
      cases ec
      cases rp_str rv3
      exact .inr ⟨z, rfl, hz, k _ (.refl g3.rs) _ (.str _)⟩
    · cases ec
  · cases ec
/-- a new list, nobody else's -/
def mSlF (a : M W) (lo hi : MO) : M W := fun d => (a d).bind fun u d1 => (lo d1).bind fun l d2 => (hi d2).bind fun h d3 => match u with
  | .list ds => .ok (.list (cutA ds l h)) d3
  | _ => .bad
theorem df_slice {pa pl ph : Bool} {e : Expr} {lo hi : Option Expr} {p2 pos : Pos} {a : M W} {ml mh : MO} (ha : DE X Y pa e a) (hl : DO X Y pl lo ml) (hh : DO X Y ph hi mh) : DF X Y (pa && (pl && ph)) (.Subscript e (.Slice lo hi none p2) pos) (mSlF a ml mh) := by
  obtain ⟨tl, hpl, wl⟩ := hl.po
  obtain ⟨th, hph, wh⟩ := hh.po
  refine ⟨pe_weak (pe_slice sl_list ha.pe hpl hph) fun σ H Q h => ?_⟩
  obtain ⟨Oc, d, rs, h⟩ := h
  refine ⟨Oc, d, rs, (Po.bind h).imp fun u d1 H1 g1 h1 v rv => wl _ _ _ ⟨Oc, d1, g1.rs, (Po.bind h1).imp fun l d2 H2 g2 h2 _ => wh _ _ _ ⟨Oc, d2, g2.rs, (Po.bind1 h2).imp fun hh d3 H3 g3 h3 _ => ?_⟩⟩⟩
  have rv3 := (g2.trans g3).rp rv
  split at h3
  · rename_i ds
    cases rv3 with
    | lst l r => exact ⟨_, _, rfl, l.sq, fun p np => h3 _ (.same g3.rs (same_new np)) p ((g1.trans (g2.trans g3)).free np) (g3.rs.withNew np) ⟨_, upd_same, (r.cut _ _).mono (ke_new np) fun _ _ z => z⟩⟩
  · exact h3.elim

/-! ### built-in calls -/
def lenW : List W → Option W
  | [.list ds] => some (.int ds.length)
  | [.tuple ds] => some (.int ds.length)
  | [.str z] => if z.length ≤ sizeLine then some (.int z.length) else none
  | _ => none
theorem cd_len : CallD X (.builtin "len") lenW := by
  refine ⟨_, CallR.or' call_len_seq call_len_str, fun Ex O H xs as c Q hO h ra q => ?_⟩
  unfold lenW at h
  split at h
  · cases h
    obtain ⟨v, rfl, r⟩ := rpA1 ra
    cases r with
    | lst l r => exact .inl ⟨_, _, rfl, .inl l.sq, q H _ (fun _ _ e => e) (by rw [r.length]; exact .int _)⟩
  · cases h
    obtain ⟨v, rfl, r⟩ := rpA1 ra
    cases r with
    | tup l r => exact .inl ⟨_, _, rfl, .inr l.sq, q H _ (fun _ _ e => e) (by rw [r.length]; exact .int _)⟩
  · split at h
    · rename_i z hz
      cases h
      obtain ⟨v, rfl, r⟩ := rpA1 ra
      cases rp_str r
      exact .inr ⟨z, rfl, hz, q H _ (fun _ _ e => e) (.int _)⟩
    · cases h
  · cases h
def absW : List W → Option W
  | [.int i] => some (.int (if i < 0 then -i else i))
  | _ => none
theorem cd_abs : CallD X (.builtin "abs") absW := by
  refine ⟨_, call_abs, fun Ex O H xs as c Q hO h ra q => ?_⟩
  unfold absW at h
  split at h
  · cases h
    obtain ⟨v, rfl, r⟩ := rpA1 ra
    cases rp_int r
    exact ⟨_, rfl, q H _ (fun _ _ e => e) (.int _)⟩
  · cases h
def intW : List W → Option W
  | [.int i] => some (.int i)
  | [.bool b] => some (.int (if b then 1 else 0))
  | _ => none
theorem cd_int : CallD X (.type "int") intW := by
  refine ⟨_, call_int1, fun Ex O H xs as c Q hO h ra q => ?_⟩
  unfold intW at h
  split at h
  · cases h
    obtain ⟨v, rfl, r⟩ := rpA1 ra
    cases rp_int r
    exact .inl ⟨_, rfl, q H _ (fun _ _ e => e) (.int _)⟩
  · cases h
    obtain ⟨v, rfl, r⟩ := rpA1 ra
    cases rp_bool r
    exact .inr ⟨_, rfl, q H _ (fun _ _ e => e) (.int _)⟩
  · cases h
def max2W : List W → Option W
  | [.int i, .int j] => some (.int (if j > i then j else i))
  | _ => none
def min2W : List W → Option W
  | [.int i, .int j] => some (.int (if j < i then j else i))
  | _ => none
theorem cd_max2 (hc : X.calm = true) : CallD X (.builtin "max") max2W := by
  refine ⟨_, call_max2 hc, fun Ex O H xs as c Q hO h ra q => ?_⟩
  unfold max2W at h
  split at h
  · cases h
    obtain ⟨v, u, rfl, r, r2⟩ := rpA2 ra
    cases rp_int r
    cases rp_int r2
    exact ⟨_, _, rfl, q H _ (fun _ _ e => e) (.int _)⟩
  · cases h
theorem cd_min2 (hc : X.calm = true) : CallD X (.builtin "min") min2W := by
  refine ⟨_, call_min2 hc, fun Ex O H xs as c Q hO h ra q => ?_⟩
  unfold min2W at h
  split at h
  · cases h
    obtain ⟨v, u, rfl, r, r2⟩ := rpA2 ra
    cases rp_int r
    cases rp_int r2
    exact ⟨_, _, rfl, q H _ (fun _ _ e => e) (.int _)⟩
  · cases h
/-- a list's ints -/
def intsOf : List W → Option (List Int)
  | [] => some []
  | .int i :: r => (intsOf r).map (i :: ·)
  | _ => none
theorem intsOf_some : ∀ {ws : List W} {ns : List Int}, intsOf ws = some ns → ws = ns.map PyData.int
  | [], _, h => by cases h; rfl
  | .int i :: r, ns, h => by
    unfold intsOf at h
    cases q : intsOf r with
    | none => rw [q] at h; cases h
    | some ms => rw [q] at h; cases h; rw [intsOf_some q]; rfl
  | .none :: _, _, h => by simp [intsOf] at h
  | .bool _ :: _, _, h => by simp [intsOf] at h
  | .str _ :: _, _, h => by simp [intsOf] at h
  | .list _ :: _, _, h => by simp [intsOf] at h
  | .tuple _ :: _, _, h => by simp [intsOf] at h
  | .dict _ :: _, _, h => by simp [intsOf] at h
theorem intsOf_map (ns : List Int) : intsOf (ns.map PyData.int) = some ns := by
  induction ns with
  | nil => rfl
  | cons n r ih => simp [intsOf, ih]
def sumW : List W → Option W
  | [.list ds] => (intsOf ds).map fun ns => .int ns.sum
  | _ => none
theorem cd_sum (hc : X.calm = true) : CallD X (.builtin "sum") sumW := by
  refine ⟨_, cr_sum hc, fun Ex O H xs as c Q hO h ra q => ?_⟩
  unfold sumW at h
  split at h
  · rename_i ds
    cases e : intsOf ds with
    | none => rw [e] at h; cases h
    | some ns =>
      rw [e] at h
      cases h
      obtain ⟨v, rfl, r⟩ := rpA1 ra
      rw [intsOf_some e] at r
      cases r with
      | lst l r => exact ⟨_, ns, rfl, by rw [← r.ints]; exact l.sq, q H _ (fun _ _ e => e) (.int _)⟩
  · cases h

/-! ### least, greatest of a list, a tuple -/
def alikeB (ds : List W) : Bool := (ds.all fun x => ds.all fun y => PySem.W.alike x y) && ds.all fun x => !isNone x
theorem alikeB_of {ds : List W} (h : alikeB ds = true) : PySem.W.AlikeAll ds := by
  unfold alikeB at h
  rw [Bool.and_eq_true, List.all_eq_true, List.all_eq_true] at h
  refine ⟨fun x hx y hy => List.all_eq_true.mp (h.1 x hx) y hy, fun x hx e => ?_⟩
  have z := h.2 x hx
  subst e
  simp [isNone] at z
def bestW (k : W → List W → W) : List W → Option W
  | [u] => match itemsOf u with
    | some (x :: xs) => if (okD u && alikeB (x :: xs)) = true then some (k x xs) else none
    | _ => none
  | _ => none
theorem cr_best {f : String} {k : W → List W → W} (hu : X.A.units + 66 < cLine)
    (hl : ∀ {A : Around} {E : Value → Shared → Prop} {s : Shared} {l : Addr} {vs : Array Value} {x : W} {xs : List W} {as : List Addr} {Q : Value → Shared → Prop}, A.handled = none → s.heap.IsList l vs → ReadsAll s.heap vs.toList (x :: xs) as → PySem.W.AlikeAll (x :: xs) → A.units + 1 + PyData.depthAll (x :: xs) < cLine →
      (∀ (i : Nat) (v : Value) (h' : Heap) (tk : Nat) (bs : List Addr), vs[i]? = some v → Reads h' v (k x xs) bs → (∀ b o, s.heap.get? b = some o → h'.get? b = some o) → Q v { s with heap := h', toks := tk }) → wpAny (model X.prog X.w) A (call (.builtin f) [.ref l]) Q E s)
    (ht : ∀ {A : Around} {E : Value → Shared → Prop} {s : Shared} {l : Addr} {vs : Array Value} {x : W} {xs : List W} {as : List Addr} {Q : Value → Shared → Prop}, A.handled = none → s.heap.IsTuple l vs → ReadsAll s.heap vs.toList (x :: xs) as → PySem.W.AlikeAll (x :: xs) → A.units + 1 + PyData.depthAll (x :: xs) < cLine →
      (∀ (i : Nat) (v : Value) (h' : Heap) (tk : Nat) (bs : List Addr), vs[i]? = some v → Reads h' v (k x xs) bs → (∀ b o, s.heap.get? b = some o → h'.get? b = some o) → Q v { s with heap := h', toks := tk }) → wpAny (model X.prog X.w) A (call (.builtin f) [.ref l]) Q E s)
    (hk : ∀ x xs, k x xs ∈ x :: xs) (hc : X.calm = true) : CallR X (.builtin f) (fun vs H Q => ∃ a u ys x xs, vs = [.ref a] ∧ ((SqL X.K H a ys ∧ u = PyData.list (x :: xs)) ∨ (SqT X.K H a ys ∧ u = PyData.tuple (x :: xs))) ∧ DpAll X.K H ys (x :: xs) ∧ SeqAt.shaped u = true ∧ alikeB (x :: xs) = true ∧ ∀ (i : Nat) (y : V), ys[i]? = some y → (x :: xs)[i]? = some (k x xs) → Q y H) := by
  intro pins s σ H vs us Q I r h
  obtain ⟨a, u, ys, x, xs, rfl, hs, hd, hsh, hal, q⟩ := h
  have dep : X.A.units + 1 + PyData.depthAll (x :: xs) < cLine := by
    have z := SeqAt.depth_of_shaped hsh
    have e : u.depth = PyData.depthAll (x :: xs) + 1 := by rcases hs with ⟨_, e⟩ | ⟨_, e⟩ <;> rw [e] <;> simp only [PyData.depth]
    omega
  have pl : PyData.plainAll (x :: xs) = true := by
    have z := canLay_plain hsh
    rcases hs with ⟨_, e⟩ | ⟨_, e⟩ <;> (rw [e] at z; simpa only [PyData.plain] using z)
  have plm : ∀ (l : List W), PyData.plainAll l = true → ∀ y ∈ l, y.plain = true := fun l => by
    induction l with
    | nil => intro _ y hy; cases hy
    | cons z r ih =>
      intro hp y hy
      simp only [PyData.plainAll, Bool.and_eq_true] at hp
      rcases List.mem_cons.mp hy with e | hy
      · rw [e]; exact hp.1
      · exact ih hp.2 y hy
  cases r with
  | cons rx rr =>
    cases rr
    cases rx
    -- the items, and what the answer is
    have fin : ∀ {its : List Value} {as : List Addr}, Vals ys its → ReadsAll s.heap its (x :: xs) as → ∀ (i : Nat) (v : Value) (h' : Heap) (tk : Nat) (bs : List Addr), its.toArray[i]? = some v → Reads h' v (k x xs) bs → (∀ b o, s.heap.get? b = some o → h'.get? b = some o) → EP X pins σ Q v { s with heap := h', toks := tk } := fun {its as} rv ra i v h' tk bs e1 e2 kp => by
      have e1 : its[i]? = some v := by simpa using e1
      have lt : i < ys.length := by rw [rv.length]; exact (List.getElem?_eq_some_iff.mp e1).1
      obtain ⟨v', e3, rv'⟩ := rv.get (List.getElem?_eq_getElem lt)
      rw [e1] at e3; cases e3
      obtain ⟨bs2, e4, e5, e6, _⟩ := PySem.W.readsAll_at ra i v e1
      have e7 : (x :: xs).getD i .none = k x xs := by
        have z1 := SeqAt.readOf_plain (plm _ pl _ e6) (PySem.W.reads_keeps kp e4)
        have z2 := SeqAt.readOf_plain (plm _ pl _ (hk x xs)) e2
        rw [← z1, ← z2]
      refine ⟨ys[i], H, I.kept (t' := tk) kp, rv', q i _ (List.getElem?_eq_getElem lt) ?_⟩
      rw [List.getElem?_eq_getElem e5, ← e7, List.getD_eq_getElem?_getD, List.getElem?_eq_getElem e5]
      rfl
    rcases hs with ⟨hs, _⟩ | ⟨hs, _⟩
    · obtain ⟨its, rv, p, hz⟩ := I.list hs
      obtain ⟨as, ra⟩ := Dp.readsAll I (x :: xs) ys its hd rv
      exact hl (I.ok.hd hc) p.isList ra (alikeB_of hal) dep (fin rv ra)
    · obtain ⟨its, rv, p, hz⟩ := I.tuple hs
      obtain ⟨as, ra⟩ := Dp.readsAll I (x :: xs) ys its hd rv
      exact ht (I.ok.hd hc) (show s.heap.IsTuple a its.toArray from p) ra (alikeB_of hal) dep (fin rv ra)
theorem cd_best {f : String} {k : W → List W → W} (h : CallR X (.builtin f) (fun vs H Q => ∃ a u ys x xs, vs = [.ref a] ∧ ((SqL X.K H a ys ∧ u = PyData.list (x :: xs)) ∨ (SqT X.K H a ys ∧ u = PyData.tuple (x :: xs))) ∧ DpAll X.K H ys (x :: xs) ∧ SeqAt.shaped u = true ∧ alikeB (x :: xs) = true ∧ ∀ (i : Nat) (y : V), ys[i]? = some y → (x :: xs)[i]? = some (k x xs) → Q y H)) : CallD X (.builtin f) (bestW k) := by
  refine ⟨_, h, fun Ex O H vs as c Q hO e ra q => ?_⟩
  unfold bestW at e
  split at e
  · rename_i u
    split at e
    · rename_i x xs hi
      split at e
      · rename_i z
        cases e
        rw [Bool.and_eq_true] at z
        obtain ⟨z1, z2⟩ := z
        unfold okD at z1
        rw [Bool.and_eq_true] at z1
        obtain ⟨v, rfl, r⟩ := rpA1 ra
        cases u with
        | list ds =>
          cases hi
          cases r with
          | lst l r => exact ⟨_, _, _, x, xs, rfl, .inl ⟨l.sq, rfl⟩, r.dp (by simpa [noD] using z1.1), z1.2, z2, fun i y e1 e2 => by
              obtain ⟨w, e3, rw'⟩ := r.get' e1
              rw [e2] at e3; cases e3
              exact q H y (fun _ _ e => e) rw'⟩
        | tuple ds =>
          cases hi
          cases r with
          | tup l r => exact ⟨_, _, _, x, xs, rfl, .inr ⟨l.sq, rfl⟩, r.dp (by simpa [noD] using z1.1), z1.2, z2, fun i y e1 e2 => by
              obtain ⟨w, e3, rw'⟩ := r.get' e1
              rw [e2] at e3; cases e3
              exact q H y (fun _ _ e => e) rw'⟩
        | _ => cases hi
      · cases e
    · cases e
  · cases e
theorem minD_mem : ∀ (x : W) (xs : List W), PySem.W.minD x xs ∈ x :: xs := fun x xs => by
  unfold PySem.W.minD
  induction xs generalizing x with
  | nil => exact List.mem_cons_self
  | cons y r ih =>
    rw [List.foldl_cons]
    split
    · rcases List.mem_cons.mp (ih y) with e | e
      · rw [e]; exact List.mem_cons_of_mem _ List.mem_cons_self
      · exact List.mem_cons_of_mem _ (List.mem_cons_of_mem _ e)
    · rcases List.mem_cons.mp (ih x) with e | e
      · rw [e]; exact List.mem_cons_self
      · exact List.mem_cons_of_mem _ (List.mem_cons_of_mem _ e)
theorem maxD_mem : ∀ (x : W) (xs : List W), PySem.W.maxD x xs ∈ x :: xs := fun x xs => by
  unfold PySem.W.maxD
  induction xs generalizing x with
  | nil => exact List.mem_cons_self
  | cons y r ih =>
    rw [List.foldl_cons]
    split
    · rcases List.mem_cons.mp (ih y) with e | e
      · rw [e]; exact List.mem_cons_of_mem _ List.mem_cons_self
      · exact List.mem_cons_of_mem _ (List.mem_cons_of_mem _ e)
    · rcases List.mem_cons.mp (ih x) with e | e
      · rw [e]; exact List.mem_cons_self
      · exact List.mem_cons_of_mem _ (List.mem_cons_of_mem _ e)
abbrev minW := bestW PySem.W.minD
abbrev maxW := bestW PySem.W.maxD
theorem cd_min (hc : X.calm = true) (hu : X.A.units + 66 < cLine) : CallD X (.builtin "min") minW := cd_best (cr_best hu (fun a b c d e f => PySem.W.min_list_data a b c d e f) (fun a b c d e f => PySem.W.min_tuple_data a b c d e f) minD_mem hc)
theorem cd_max (hc : X.calm = true) (hu : X.A.units + 66 < cLine) : CallD X (.builtin "max") maxW := cd_best (cr_best hu (fun a b c d e f => PySem.W.max_list_data a b c d e f) (fun a b c d e f => PySem.W.max_tuple_data a b c d e f) maxD_mem hc)
/-- list(x), tuple(x) -/
def listW : List W → Option W
  | [.list ds] => some (.list ds)
  | [.tuple ds] => some (.list ds)
  | _ => none
def tupleW : List W → Option W
  | [.list ds] => some (.tuple ds)
  | [.tuple ds] => some (.tuple ds)
  | _ => none
theorem cd_list : CallD X (.type "list") listW := by
  refine ⟨_, call_list_of, fun Ex O H xs as c Q hO h ra q => ?_⟩
  unfold listW at h
  split at h
  · cases h
    obtain ⟨v, rfl, r⟩ := rpA1 ra
    cases r with
    | lst l r => exact ⟨_, _, rfl, .inl l.sq, fun p np => let ⟨sm, rp⟩ := rp_newLst hO np r; q _ _ sm rp⟩
  · cases h
    obtain ⟨v, rfl, r⟩ := rpA1 ra
    cases r with
    | tup l r => exact ⟨_, _, rfl, .inr l.sq, fun p np => let ⟨sm, rp⟩ := rp_newLst hO np r; q _ _ sm rp⟩
  · cases h
theorem cd_tuple : CallD X (.type "tuple") tupleW := by
  refine ⟨_, call_tuple_of, fun Ex O H xs as c Q hO h ra q => ?_⟩
  unfold tupleW at h
  split at h
  · cases h
    obtain ⟨v, rfl, r⟩ := rpA1 ra
    cases r with
    | lst l r => exact ⟨_, _, rfl, .inl ⟨l.sq, fun p np => let ⟨sm, rp⟩ := rp_newTup hO np r; q _ _ sm rp⟩⟩
  · cases h
    obtain ⟨v, rfl, r⟩ := rpA1 ra
    cases r with
    | tup l r => exact ⟨_, _, rfl, .inr ⟨l.sq, q _ _ (fun _ _ e => e) (.tup l r)⟩⟩
  · cases h

/-! ### isinstance(x, T) -/
def tyN : W → Option String
  | .none => some "NoneType"
  | .bool _ => some "bool"
  | .int _ => some "int"
  | .str _ => some "str"
  | .list _ => some "list"
  | .tuple _ => some "tuple"
  | .dict ds => match dkind ds with
    | some (false, _) => some "dict"
    | _ => none
theorem rp_ty {K : PySem.W.Frag} {Ex : Addr → Nat → Prop} {O : Addr → Prop} {H : Hp} {v : V} {w : W} {t : String} (r : Rp K Ex O H v w) (h : tyN w = some t) : TyX K H v (.type t) := by
  cases r with
  | non => cases h; exact .base .non
  | bl b => cases h; exact .base (.bl b)
  | int i => cases h; exact .base (.int i)
  | str x => cases h; exact .base (.str x)
  | lst l r =>
    cases h
    rcases l.sq with (e | ⟨_, e⟩) | ⟨o, its, n, hk, hc, _⟩
    · exact .base (.lst e)
    · exact .base (.frz e)
    · exact .kList hk hc
  | tup l r =>
    cases h
    rcases l.sq with (e | ⟨_, e⟩) | ⟨o, its, n, hk, hc, _⟩
    · exact .base (.tup e)
    · exact .fTuple e
    · exact .kTuple hk hc
  | dK n e r =>
    unfold tyN at h
    dsimp only at h
    rw [dkind_K r] at h
    cases h
    rcases e with e | ⟨_, e⟩
    · exact .base (.dK e)
    · exact .fDict e
  | dT n e r => simp [tyN, dkind] at h
  | exc z => simp [tyN, dkind] at h
def isiW (T : String) (w : W) : Option W := match tyN w with
  | some t => (kitB t T).map .bool
  | none => none
theorem d_isi {Y : Yx} {pu : Bool} {e : Expr} {x : Str} {T : String} {p q pos : Pos} {m : M W} (he : DE X Y pu e m) (hm : X.mg "isinstance" = none) (hmT : X.mg x = none) (hT : bootBuiltins x = some (.type T)) (hg : Gl X "isinstance" := by rfl) (hgx : Gl X x := by rfl) (hn : x ≠ "__name__" := by decide)
    (hdb : (x == ("__debug__" : Str)) = false := by decide) (h1 : starEach [e, .Name x q] X.env = (false, eval e X.env) :: starEach [.Name x q] X.env := by rfl) (h2 : starEach [.Name x q] X.env = (false, eval (.Name x q) X.env) :: starEach [] X.env := by rfl) (hpl : (backTo pos (starEach [.Name x q] X.env)).any (·.1) = false := by rfl) :
    DE X Y pu (.Call (.Name "isinstance" p) [e, .Name x q] [] pos) (mUn (isiW T) m) := by
  refine ⟨pe_weak (pe_callB call_isi hg hm boot_isinstance (pa_cons he.pe (pa_cons (pe_bltn (v := .ty T) hgx hmT hT rfl hn hdb) pa_nil h2) h1) (by decide) (by decide) h1 hpl) fun σ H Q h => ?_⟩
  obtain ⟨Oc, d, rs, h⟩ := h
  refine ⟨Oc, d, rs, (Po.bind1 h).imp fun w d1 H1 g1 h1 v r => ?_⟩
  obtain ⟨c, ec, k⟩ := Po.opt h1
  unfold isiW at ec
  cases e1 : tyN w with
  | none => rw [e1] at ec; cases ec
  | some t =>
    rw [e1] at ec
    dsimp only at ec
    cases e2 : kitB t T with
    | none => rw [e2] at ec; cases ec
    | some b =>
      rw [e2] at ec
      cases ec
      exact ⟨v, .ty T, .type t, .type T, b, rfl, .ty T, rp_ty r e1, kit_ty e2, k H1 (.refl g1.rs) _ (.bl b)⟩
end
end Qd
end
section
set_option Elab.async false
set_option linter.all false
set_option maxRecDepth 100000
set_option maxHeartbeats 1000000
/-! Unpacking an own list, augmented assignment, methods of values, new lists. -/
namespace Qd
open PySem PySem.Spec PyProof.Rows L2

/-- a, b, .. = x, x an own list -/
def mUnpOwn (i n : Nat) (g : GWs) : MS := fun d => match mineAt i d with
  | some (.list ws) => if ws.length = n then sOpt (g ws d) else .bad
  | _ => .bad
section
variable {X : Cx} {Y : Yx}
theorem ds_unpOwn {es : List Expr} {k i n : Nat} {y : Str} {p pos pos' : Pos} {g : GWs} {is : List Nat} (hc : X.calm = true) (h : DGs X Y es g is) (hN : X.N[i]? = some y := by rfl) (hv : Vis X.env.scope y := by first | exact Or.inl rfl | exact Or.inr (Or.inl rfl) | exact Or.inr (Or.inr rfl)) (hd : (y == ("__debug__" : Str)) = false := by decide)
    (hcd : (y == ("__classdict__" : Str)) = false := by decide) (hn : (assignEach es X.env).length = n := by rfl) (hst : (assignEach es X.env).findIdx? (·.1) = none := by rfl)
    (hs : swapsWithSole [.Tuple es k pos'] (.Name y p) pos.line X.env = pure false := by rfl) (hw : swappedStores [.Tuple es k pos'] (.Name y p) X.env = pure none := by rfl) (h1 : (assignEach [.Tuple es k pos'] X.env).map (·.2) = [assign (.Tuple es k pos') X.env] := by rfl) :
    DS X Y (.Assign [.Tuple es k pos'] (.Name y p) pos) (mUnpOwn i n g) := by
  refine ⟨ps_weak (ps_asg (pe_var hN hv hd hcd) (pg_lst hc h.pg hn hst) hs hw h1) fun D σ H h => ?_⟩
  obtain ⟨Oc, d, rs, h⟩ := h
  unfold mUnpOwn at h
  split at h
  · rename_i ws q0
    split at h
    · rename_i hl
      obtain ⟨s0, f1, f2⟩ := mineAt_some q0
      obtain ⟨a, ea, _, ys, eH, r⟩ := rs.own i s0 _ f1 f2
      cases q1 : g ws d with
      | none => rw [q1] at h; exact h.elim
      | some d' =>
        rw [q1] at h
        exact ⟨_, ea, a, ys, rfl, .inl (.inl eH), by rw [r.length]; exact hl, Oc, d, ws, d', rs, r, q1, fun σ' g _ => h σ' H g⟩
    · exact h.elim
  · exact h.elim
/-- x op= e -/
def mAug (g : W → W → Option W) (i : Nat) (m : M W) : MS := fun d => (mVar i d).toS fun x d0 => (m d0).toS fun y d1 => match g x y with
  | some z => sOpt (store i z d1)
  | none => .bad
theorem ds_aug {pu : Bool} {i : Nat} {x : Str} {e : Expr} {op : Operator} {g : W → W → Option W} {m : M W} {pos pos' : Pos} (hN : X.N.Nodup) (he : DE X Y pu e m) (ho : OpD X (inplaceOp op) g) (hi : X.N[i]? = some x := by rfl) (hx : Loc X.env.scope x := by first | exact .inl rfl | exact .inr rfl)
    (hf : X.fn x = true ∨ X.env.scope.names.lookup x = some .local := by first | exact .inl rfl | exact .inr rfl | assumption) : DS X Y (.AugAssign (.Name x pos') op e pos) (mAug g i m) := by
  obtain ⟨r, hr, hd⟩ := ho
  refine ⟨ps_weak (ps_aug hN hi hx he.pe (ti := r) hr hf) fun D σ H h => ?_⟩
  obtain ⟨Oc, d, rs, h⟩ := h
  unfold mAug mVar at h
  split at h
  · rename_i w ew
    obtain ⟨v, ev, rv⟩ := rs.val i w ew
    refine ⟨v, ev, Oc, d, rs, (Po.toS (p := pu) (show PoS X Y Oc d σ H ((m d).toS _) D from h)).imp fun y d1 H1 g1 h1 yv ry => ?_⟩
    cases q : g w y with
    | none => rw [q] at h1; exact h1.elim
    | some z =>
      rw [q] at h1
      refine hd Y.Ex (Ow Oc d1 σ) H1 v yv w y z _ (fun p hp => g1.rs.there hp) q (g1.rp rv) ry fun H' zv sm rz => ?_
      have rs2 := g1.rs.same sm
      cases q2 : store i z d1 with
      | none => dsimp only at h1; rw [q2] at h1; exact h1.elim
      | some d2 =>
        dsimp only at h1
        rw [q2] at h1
        exact h1 _ _ ((GoS.trans (Go.same (pu := true) g1.rs sm).toS (store_go rs2 rz q2)))
  · exact h.elim
theorem opd_ipI {op : Operator} {f : Int → Int → Int} (h : PIp X op (ipI f)) : OpD X (inplaceOp op) (i2 (fun _ _ => true) f) := by
  refine ⟨_, h, fun Ex O H x y a b c Q hO e rx ry q => ?_⟩
  obtain ⟨i, j, rfl, rfl, _, rfl⟩ := i2_some e
  cases rp_int rx
  cases rp_int ry
  exact ⟨i, j, rfl, rfl, q H _ (fun _ _ e => e) (.int _)⟩
theorem od_iadd : OpD X (inplaceOp .Add) (i2 (fun _ _ => true) fun i j => i + j) := opd_ipI ip_add
theorem od_isub : OpD X (inplaceOp .Sub) (i2 (fun _ _ => true) fun i j => i - j) := opd_ipI ip_sub

/-! ### methods of values -/
def MetV (X : Cx) (id : String) (g : W → List W → Option W) : Prop :=
  ∃ r, MtR X id r ∧ ∀ (Ex : Addr → Nat → Prop) (O : Addr → Prop) (H : Hp) (x : V) (u : W) (xs : List V) (as : List W) (c : W) (Q : VK), (∀ q, O q → ∃ o, H q = some o) → g u as = some c → Rp X.K Ex O H x u → RpA X.K Ex O H xs as →
    (∀ H' v, Same H H' → Rp X.K Ex O H' v c → Q v H') → r x xs H Q
def isDict : W → Bool
  | .dict _ => true
  | _ => false
def mMetV (T : String) (g : W → List W → Option W) (a : M W) (as : M (List W)) : M W := fun d => (a d).bind fun u d1 => if tyW u = T ∧ isDict u = false then (as d1).bind fun ws d2 => ofOpt (g u ws) d2 else .bad
theorem d_metV {pa pu : Bool} {T id : String} {name : Str} {g : W → List W → Option W} {o e : Expr} {es : List Expr} {a : M W} {as : M (List W)} {apos cpos : Pos} (pla : PlainAttrs T) (slot : PySem.Slot T name id) (hty : typeOf (.builtin id) = pure (.type "method_descriptor")) (hm : MetV X id g) (hT : T ≠ "") (ho : DE X Y pa o a) (ha : DL X Y pu (e :: es) as)
    (hbase : attributeBase o name X.env (eval o X.env) = eval o X.env := by rfl)
    (hfew : ((backTo cpos (starEach (e :: es) X.env)).all (fun x => !x.1) && (backToKw cpos (keywordEach [] X.env)).all (fun x => x.1.isSome) && decide ((e :: es).length + ([] : List Keyword).length + (if ([] : List Keyword).isEmpty then 0 else 1) < 30)) = true := by rfl)
    (hline : (apos.endLine == cpos.line) = true := by rfl) (hs : starEach (e :: es) X.env = (false, eval e X.env) :: starEach es X.env := by rfl) (hplain : (backTo cpos (starEach es X.env)).any (·.1) = false := by rfl) :
    DE X Y (pa && pu) (.Call (.Attribute o name apos) (e :: es) [] cpos) (mMetV T g a as) := by
  obtain ⟨r, hr, hd⟩ := hm
  refine ⟨pe_weak (pe_bm pla slot hty hr ho.pe ha.pa hbase hfew hline hs hplain) fun σ H Q h => ?_⟩
  obtain ⟨Oc, d, rs, h⟩ := h
  refine ⟨Oc, d, rs, (Po.bind h).imp fun u d1 H1 g1 h1 x rx => ?_⟩
  split at h1
  · rename_i ht
    refine ⟨rx.tyV ht.1 (fun ds e => by rw [e] at ht; exact Bool.noConfusion (ht.2 : true = false)) hT, Oc, d1, g1.rs, (Po.bind1 h1).imp fun ws d2 H2 g2 h2 xs ra => ?_⟩
    obtain ⟨c, ec, k⟩ := Po.opt h2
    exact hd Y.Ex (Ow Oc d2 σ) H2 x u xs ws c Q (fun p hp => g2.rs.there hp) ec (g2.rp rx) ra fun H' v sm rv => k H' (.same g2.rs sm) v rv
  · exact h1.elim
/-- l.index(x): the first place -/
def indexW : W → List W → Option W := fun u as => match u, as with
  | .list ds, [w] => if (okD u && okD w) = true then (match ds.findIdx? fun z => PyData.eqv z w with
    | some j => some (.int j)
    | none => none) else none
  | _, _ => none
theorem mv_index (hu : X.A.units + 65 < cLine) : MetV X "list.index" indexW := by
  refine ⟨_, mt_indexD hu, fun Ex O H x u xs as c Q hO h rx ra q => ?_⟩
  unfold indexW at h
  split at h
  · rename_i ds w
    split at h
    · rename_i z
      obtain ⟨⟨e3, e4⟩, e5, e6⟩ := okD_and z
      split at h
      · rename_i j hj
        cases h
        obtain ⟨v, rfl, rv⟩ := rpA1 ra
        obtain ⟨hlt, h1, h2⟩ := List.findIdx?_eq_some_iff_getElem.mp hj
        have dp := rx.dp e3
        cases rx with
        | lst l r =>
          refine ⟨_, v, w, ds, j, ds[j], rfl, rfl, dp, rv.dp e5, e4, e6, List.getElem?_eq_getElem hlt, h1, fun m z' hm e => ?_, q H _ (fun _ _ e => e) (.int _)⟩
          have hm' : m < ds.length := Nat.lt_trans hm hlt
          rw [List.getElem?_eq_getElem hm'] at e
          cases e
          simpa using h2 m hm
      · cases h
    · cases h
  · cases h
def countW : W → List W → Option W := fun u as => match u, as with
  | .list ds, [w] => if (okD u && okD w) = true then some (.int (ds.countP fun z => PyData.eqv z w : Nat)) else none
  | _, _ => none
theorem mv_count (hu : X.A.units + 65 < cLine) : MetV X "list.count" countW := by
  refine ⟨fun x xs H Q => ∃ a y d ds, x = V.ref a ∧ xs = [y] ∧ Dp X.K H (V.ref a) (.list ds) ∧ Dp X.K H y d ∧ SeqAt.shaped (.list ds) = true ∧ SeqAt.shaped d = true ∧ Q (.int (ds.countP fun z => PyData.eqv z d : Nat)) H, ?_, fun Ex O H x u xs as c Q hO h rx ra q => ?_⟩
  · intro pins s σ H x xs v us Q I rx rxs h
    obtain ⟨a, y, d, ds, rfl, rfl, hl, hy, sl, sd, q⟩ := h
    cases rx
    cases rxs with
    | cons ry rt =>
      cases rt
      obtain ⟨bs, r1⟩ := Dp.reads I d y _ hy ry
      cases hl with
      | lst hs ha =>
        obtain ⟨its, rv, p, hz⟩ := I.list hs
        obtain ⟨as, r2⟩ := Dp.readsAll I ds _ its ha rv
        have pl : PyData.plainAll ds = true := by simpa only [PyData.plain] using canLay_plain sl
        exact SeqAt.count_list_data p.isList r2 r1 pl (canLay_plain sd) (room_in_shaped sd hu) ⟨.int _, H, I.tok _, ⟨_, rfl⟩, q⟩
  · unfold countW at h
    split at h
    · rename_i ds w
      split at h
      · rename_i z
        cases h
        obtain ⟨⟨e3, e4⟩, e5, e6⟩ := okD_and z
        obtain ⟨v, rfl, rv⟩ := rpA1 ra
        have dp := rx.dp e3
        cases rx with
        | lst l r => exact ⟨_, v, w, ds, rfl, rfl, dp, rv.dp e5, e4, e6, q H _ (fun _ _ e => e) (.int _)⟩
      · cases h
    · cases h

/-! ### new lists, nobody else's -/
def mCatF (a b : M W) : M W := fun d => (a d).bind fun x d1 => (b d1).bind fun y d2 => match x, y with
  | .list xs, .list ys => if xs.length + ys.length ≤ sizeLine then .ok (.list (xs ++ ys)) d2 else .bad
  | _, _ => .bad
theorem df_cat {pa pb : Bool} {a b : Expr} {pos : Pos} {ma mb : M W} (ha : DE X Y pa a ma) (hb : DE X Y pb b mb) : DF X Y (pa && pb) (.BinOp a .Add b pos) (mCatF ma mb) := by
  refine ⟨pe_weak (pe_op op_catL ha.pe hb.pe) fun σ H Q h => ?_⟩
  obtain ⟨Oc, d, rs, h⟩ := h
  refine ⟨Oc, d, rs, (Po.bind h).imp fun w d1 H1 g1 h1 v r1 => ⟨Oc, d1, g1.rs, (Po.bind1 h1).imp fun w2 d2 H2 g2 h2 v2 r2 => ?_⟩⟩
  have r1' := g2.rp r1
  split at h2
  · rename_i xs ys
    split at h2
    · rename_i hl
      cases r1' with
      | lst l ra =>
        cases r2 with
        | lst l2 rb =>
          exact ⟨_, _, _, _, rfl, rfl, l.sq, l2.sq, by rw [ra.length, rb.length]; exact hl, fun p np => h2 _ (.same g2.rs (same_new np)) p ((g1.trans g2).free np) (g2.rs.withNew np) ⟨_, upd_same, (ra.append rb).mono (ke_new np) fun _ _ z => z⟩⟩
    · exact h2.elim
  · exact h2.elim
def mListF (a : M (List W)) : M W := fun d => (a d).bind fun ws d1 => match listW ws with
  | some w => .ok w d1
  | none => .bad
theorem df_list {pu : Bool} {e : Expr} {p pos : Pos} {as : M (List W)} (hm : X.mg "list" = none) (ha : DL X Y pu [e] as) (hg : Gl X "list" := by rfl) (he : starEach [e] X.env = (false, eval e X.env) :: starEach [] X.env := by rfl) : DF X Y pu (.Call (.Name "list" p) [e] [] pos) (mListF as) := by
  refine ⟨pe_weak (pe_callTy call_list_of hg hm (by decide +kernel) ha.pa (by decide) (by decide) he rfl) fun σ H Q h => ?_⟩
  obtain ⟨Oc, d, rs, h⟩ := h
  refine ⟨Oc, d, rs, (Po.bind1 h).imp fun ws d1 H1 g1 h1 vs ra => ?_⟩
  cases q : listW ws with
  | none => rw [q] at h1; exact h1.elim
  | some w =>
    rw [q] at h1
    unfold listW at q
    split at q
    · cases q
      obtain ⟨v, rfl, r⟩ := rpA1 ra
      cases r with
      | lst l r => exact ⟨_, _, rfl, .inl l.sq, fun p np => h1 _ (.same g1.rs (same_new np)) p (g1.free np) (g1.rs.withNew np) ⟨_, upd_same, r.mono (ke_new np) fun _ _ z => z⟩⟩
    · cases q
      obtain ⟨v, rfl, r⟩ := rpA1 ra
      cases r with
      | tup l r => exact ⟨_, _, rfl, .inr l.sq, fun p np => h1 _ (.same g1.rs (same_new np)) p (g1.free np) (g1.rs.withNew np) ⟨_, upd_same, r.mono (ke_new np) fun _ _ z => z⟩⟩
    · cases q
/-- return of an own object -/
def mRetF (m : M W) : MS := fun d => (m d).toS fun w d1 => .ret (.own w) d1
theorem ds_retOwn {pu : Bool} {e : Expr} {pos : Pos} {m : M W} (he : DF X Y pu e m) : DS X Y (.Return (some e) pos) (mRetF m) := ⟨ps_weak (ps_ret he.pe) fun D σ H h => by
  obtain ⟨Oc, d, rs, h⟩ := h
  refine ⟨Oc, d, rs, ?_⟩
  unfold mRetF at h
  cases q : m d with
  | bad => rw [q] at h; exact h
  | exc c d1 => rw [q] at h; exact fun H1 g1 => h σ H1 g1.toS
  | ok w d1 => rw [q] at h; exact fun H1 g1 p np rsp ob => h σ H1 p g1.toS (.inl np) rsp ob⟩
/-- return x, x an own object: it is the caller's now -/
def mRetOwn (i : Nat) : MS := fun d => match d[i]? with
  | some (some (.own w)) => .ret (.own w) (d.set i none)
  | _ => .bad
theorem ds_retMine {i : Nat} {y : Str} {p pos : Pos} (hN : X.N[i]? = some y := by rfl) (hv : Vis X.env.scope y := by first | exact Or.inl rfl | exact Or.inr (Or.inl rfl) | exact Or.inr (Or.inr rfl)) (hd : (y == ("__debug__" : Str)) = false := by decide) (hcd : (y == ("__classdict__" : Str)) = false := by decide) :
    DS X Y (.Return (some (.Name y p)) pos) (mRetOwn i) := ⟨ps_weak (ps_ret (pe_var hN hv hd hcd)) fun D σ H h => by
  obtain ⟨Oc, d, rs, h⟩ := h
  unfold mRetOwn at h
  split at h
  · rename_i w e
    obtain ⟨a, ea, na, ob⟩ := rs.own i _ w e rfl
    refine ⟨_, ea, ?_⟩
    have lt : i < d.length := (List.getElem?_eq_some_iff.mp e).1
    have up : ∀ {j : Nat} {s : Slot}, (d.set i none)[j]? = some (some s) → i ≠ j ∧ d[j]? = some (some s) := fun {j s} f => by
      by_cases ej : i = j
      · subst ej; rw [List.getElem?_set_self lt] at f; cases f
      · rw [List.getElem?_set_ne ej] at f; exact ⟨ej, f⟩
    have mn : ∀ {b : Addr}, Mine (d.set i none) σ b → Mine d σ b ∧ b ≠ a := fun {b} ⟨j, s, u, h1, h2, h3⟩ => by
      obtain ⟨ej, h1⟩ := up h1
      exact ⟨⟨j, s, u, h1, h2, h3⟩, fun z => rs.sep i j _ s w u a ej e rfl h1 h2 ea (by rw [h3, z])⟩
    have ow : ∀ {b : Addr}, Ow (With Oc a) (d.set i none) σ b → Ow Oc d σ b := fun {b} z => by
      rcases z with (z | z) | z
      · exact .inl z
      · exact .inr ⟨i, _, w, e, rfl, by rw [z]; exact ea⟩
      · exact .inr (mn z).1
    have ke : ∀ {O : Addr → Prop}, (∀ b, O b → Ow Oc d σ b) → Ke (Ow Oc d σ) H O H := fun ho b u n e => ⟨fun z => n (ho b z), e⟩
    have rs1 : ∀ {O : Addr → Prop}, (∀ b, Ow O (d.set i none) σ b → Ow Oc d σ b) → (∀ b, O b → b = a ∨ Oc b) → (∀ b, O b → ∃ o, H b = some o) → RS X.K Y.Ex O H (d.set i none) σ := fun {O} ho h1 h2 => ⟨by rw [List.length_set]; exact rs.len, fun j u f => by
        obtain ⟨v, e1, r⟩ := rs.val j u (up f).2
        exact ⟨v, e1, r.mono (ke ho) fun _ _ z => z⟩, fun j s u f1 f2 => by
        obtain ⟨ej, f1⟩ := up f1
        obtain ⟨q, e1, nq, o⟩ := rs.own j s u f1 f2
        exact ⟨q, e1, fun z => (h1 q z).elim (fun z => rs.sep i j _ s w u a ej e rfl f1 f2 ea (by rw [e1, z])) nq, o.mono (ke ho) (fun _ _ z => z) rfl⟩, fun j k s t u u' q ne f1 f2 f3 f4 f5 => rs.sep j k s t u u' q ne (up f1).2 f2 (up f3).2 f4 f5, h2⟩
    have owO : ∀ {b : Addr}, Ow Oc (d.set i none) σ b → Ow Oc d σ b := fun {b} z => z.imp id fun z => (mn z).1
    have g : GoS X.K Y.Ex Oc d σ H (d.set i none) σ H := ⟨rs1 (fun b z => owO z) (fun b z => .inr z) rs.oc, fun _ _ e _ => e, fun b z => .inl (mn z).1, fun j u f => by
      by_cases ej : i = j
      · subst ej; rw [e] at f; cases f
      · exact ⟨⟨u, by rw [List.getElem?_set_ne ej]; exact f⟩, rfl⟩⟩
    exact h σ H a g (.inr ⟨i, _, w, e, rfl, ea⟩) (rs1 (fun b z => ow z) (fun b z => z.symm) fun b z => z.elim (rs.oc b) fun z => by rw [z]; exact ob.at) (ob.mono (ke fun b z => ow z) (fun _ _ z => z) rfl)
  · exact h.elim⟩
end
end Qd
end
section
set_option Elab.async false
set_option linter.all false
set_option maxRecDepth 100000
set_option maxHeartbeats 1000000
/-! What the printed derivations use. -/
namespace Qd
open PySem PySem.Spec PyProof.Rows L2 L2H

theorem takesF {X : Cx} : L2N.Takes X (fun _ _ _ _ => False) := fun _ _ ⟨_, _, _, _, _, _, _, _, _, _, _, _, _, _, _, _, w⟩ => w.elim
theorem room_hu {k : Nat} {A : Around} (r : Room k A) : A.units + 66 < cLine := Nat.lt_of_le_of_lt (Nat.add_le_add_left (by decide : 66 ≤ 64 + 64) _) (by have := r.un; omega)
theorem hu64 {A : Around} (h : A.units + 66 < cLine) : A.units + 64 < cLine := by omega
theorem hu65 {A : Around} (h : A.units + 66 < cLine) : A.units + 65 < cLine := by omega
theorem hu1 {A : Around} (h : A.units + 66 < cLine) : A.units + 1 < cLine := by omega
theorem roomH_hu {k : Nat} {A : Around} (r : RoomH k A) : A.units + 66 < cLine := by have := r.un; omega
theorem roomH_mark {j k : Nat} {A : Around} {x : Option Value} (r : Room k A) (h : j ≤ k) : RoomH j (A.mark x) := let z := r.mono h; ⟨z.dp, z.un⟩
theorem kit_sub {K : PySem.W.Frag} {C D : Addr} {b : Bool} (hi : PySem.W.isClsIn K D = true) (ht : PySem.W.typeIn K (.ref D) = some (.type "type")) (h : PySem.W.subIn K (.ref C) (.ref D) = some b) (hd : PySem.W.subIn K (.ref D) (.ref D) = some true) : PySem.W.kitOne K (.ref C) (.ref D) = some b := by
  unfold PySem.W.kitOne
  by_cases e : C = D
  · subst e
    rw [hd] at h
    rw [if_pos (by simp)]; exact h
  · rw [if_neg (by simpa using e)]
    show (if ((PySem.W.clsIn K D).isSome && PySem.W.typeIn K (.ref D) == some (.type "type")) = true then PySem.W.subIn K (.ref C) (.ref D) else none) = some b
    rw [if_pos (by rw [show (PySem.W.clsIn K D).isSome = true from hi, ht]; rfl)]
    exact h
theorem exF (a : Addr) : ¬ cEx false a cN := fun h => Bool.noConfusion h.1
theorem exH {n : Nat} {on : Bool} {X : Cx} {Y : Yx} (h : HotK on X Y n) (he : on = false) (hn : n < cN) : ∀ a, ¬ Y.Ex a cN := fun a z => by
  obtain ⟨p, c, hc, _, _, _, _, e⟩ := h
  rw [e] at z
  rcases z with ⟨_, z⟩ | z
  · omega
  · subst he; exact exF a z
section
variable {X : Cx} {Y : Yx}
theorem d_globI {x : Str} {i : Int} {pos : Pos} (h : ∃ t, X.mg x = some (.int i t)) (hg : Gl X x := by rfl) (hd : (x == ("__debug__" : Str)) = false := by decide) : DE X Y true (.Name x pos) (mC (.int i)) := by
  obtain ⟨t, h⟩ := h
  exact d_glob (v := .int i) h ⟨t, rfl⟩ rfl hg hd
theorem d_globS {x i : Str} {pos : Pos} (h : ∃ t, X.mg x = some (.str i t)) (hg : Gl X x := by rfl) (hd : (x == ("__debug__" : Str)) = false := by decide) : DE X Y true (.Name x pos) (mC (.str i)) := by
  obtain ⟨t, h⟩ := h
  exact d_glob (v := .str i) h ⟨t, rfl⟩ rfl hg hd
/-- what is walked: a list or a tuple -/
def mItS (a : M W) : M (List W) := fun d => (a d).bind fun w d1 => ofOpt (itemsOf w) d1
theorem pi_or {tg e : Expr} {w1 w2 : TI} (h1 : PI X tg e w1) (h2 : PI X tg e w2) : PI X tg e (fun σ H R => w1 σ H R ∨ w2 σ H R) := ⟨fun pins s σ H R I h => h.elim (h1.run pins s σ H R I) (h2.run pins s σ H R I)⟩
theorem di_seq {pu : Bool} {tg e : Expr} {m : M W} (h : DE X Y pu e m) : DI X Y pu tg e (mItS m) := by
  refine ⟨_, pi_or (pi_list h.pe) (pi_tup h.pe), fun σ H R h => ?_⟩
  obtain ⟨Oc, d, rs, h⟩ := h
  unfold mItS at h
  have left : (∃ w d1, m d = .ok w d1 ∧ ∃ ds, w = .tuple ds) ∨ ¬ ∃ w d1, m d = .ok w d1 ∧ ∃ ds, w = .tuple ds := Classical.em _
  rcases left with ⟨w, d1, e1, ds, rfl⟩ | hno
  · refine .inr ⟨Oc, d, rs, ?_⟩
    rw [e1] at h ⊢
    intro H1 g1 v r
    have h1 := h H1 g1
    cases r with
    | tup l r => exact ⟨_, rfl, ⟨_, l.sq⟩, h1 _ _ wk_tup ⟨_, l, r⟩⟩
  · refine .inl ⟨Oc, d, rs, ?_⟩
    cases q : m d with
    | bad => rw [q] at h; exact h
    | exc c d1 => rw [q] at h; exact h
    | ok w d1 =>
      rw [q] at h
      dsimp only [Out.bind] at h
      cases w with
      | list ds =>
        intro H1 g1 v r
        have h1 := h H1 g1
        cases r with
        | lst l r => exact ⟨_, rfl, ⟨_, l.sq⟩, h1 _ _ wk_list ⟨_, l, r⟩⟩
      | tuple ds => exact absurd ⟨_, _, q, _, rfl⟩ hno
      | none => exact h.elim
      | bool b => exact h.elim
      | int i => exact h.elim
      | str s => exact h.elim
      | dict l => exact h.elim
end
end Qd
end
section
set_option Elab.async false
set_option linter.all false
set_option maxRecDepth 100000
set_option maxHeartbeats 1000000
/-! a, b, .. = x, y, .. : some of them new objects that are the def's own from now on. -/
namespace Qd
open PySem PySem.Spec PyProof.Rows L2

abbrev More (O : Addr → Prop) (ps : List Addr) (a : Addr) : Prop := O a ∨ a ∈ ps
inductive RL (K : PySem.W.Frag) (Ex : Addr → Nat → Prop) (O : Addr → Prop) (H : Hp) : List V → List (Bool × W) → List Addr → Prop
  | nil : RL K Ex O H [] [] []
  | val {v : V} {w : W} {vs : List V} {ws : List (Bool × W)} {ps : List Addr} : Rp K Ex O H v w → RL K Ex O H vs ws ps → RL K Ex O H (v :: vs) ((false, w) :: ws) ps
  | own {p : Addr} {w : W} {vs : List V} {ws : List (Bool × W)} {ps : List Addr} : Ob K Ex O H p w → RL K Ex O H vs ws ps → RL K Ex O H (.ref p :: vs) ((true, w) :: ws) (p :: ps)
section
variable {K : PySem.W.Frag} {Ex : Addr → Nat → Prop} {O O' Oc : Addr → Prop} {H H' : Hp} {d d' : SD} {σ : St}
theorem RL.mono (k : Ke O H O' H') {vs : List V} {ws : List (Bool × W)} {ps : List Addr} (e : ∀ p ∈ ps, H' p = H p) (r : RL K Ex O H vs ws ps) : RL K Ex O' H' vs ws ps := by
  induction r with
  | nil => exact .nil
  | val a b ih => exact .val (a.mono k fun _ _ z => z) (ih e)
  | own a b ih => exact .own (a.mono k (fun _ _ z => z) (e _ List.mem_cons_self)) (ih fun p hp => e p (List.mem_cons_of_mem _ hp))
theorem RL.same (s : Same H H') {vs : List V} {ws : List (Bool × W)} {ps : List Addr} (r : RL K Ex O H vs ws ps) : RL K Ex O H' vs ws ps := by
  have k : Ke O H O H' := fun a u n e => ⟨n, s a u e⟩
  induction r with
  | nil => exact .nil
  | val a b ih => exact .val (a.mono k fun _ _ z => z) ih
  | own a b ih => exact .own (a.mono k (fun _ _ z => z) (by obtain ⟨o, e⟩ := a.at; rw [e]; exact s _ _ e)) ih
theorem RL.length {vs : List V} {ws : List (Bool × W)} {ps : List Addr} (r : RL K Ex O H vs ws ps) : vs.length = ws.length := by
  induction r with
  | nil => rfl
  | val a b ih => rw [List.length_cons, List.length_cons, ih]
  | own a b ih => rw [List.length_cons, List.length_cons, ih]
theorem ow_congr (h : ∀ a, O a ↔ O' a) {a : Addr} : Ow O d σ a ↔ Ow O' d σ a := ⟨fun z => z.imp (h a).mp id, fun z => z.imp (h a).mpr id⟩
theorem RS.congr (h : ∀ a, O a ↔ O' a) (rs : RS K Ex O H d σ) : RS K Ex O' H d σ := by
  have ke : Ke (Ow O d σ) H (Ow O' d σ) H := fun a u n e => ⟨fun z => n ((ow_congr h).mpr z), e⟩
  exact ⟨rs.len, fun i w e => let ⟨v, a, b⟩ := rs.val i w e; ⟨v, a, b.mono ke fun _ _ z => z⟩, fun i s w e1 e2 => let ⟨p, a, n, b⟩ := rs.own i s w e1 e2; ⟨p, a, fun z => n ((h p).mpr z), b.mono ke (fun _ _ z => z) rfl⟩, rs.sep, fun a z => rs.oc a ((h a).mpr z)⟩
theorem Go.less {pu : Bool} {p : Addr} (g : Go K Ex (With Oc p) pu σ d H d' H') : Go K Ex Oc pu σ d H d' H' := ⟨g.rs.less, g.fr, g.sim, g.pur⟩
theorem Po.less {α : Type} {X : Cx} {Y : Yx} {pu : Bool} {p : Addr} {o : Out α} {k : α → SD → Hp → Prop} (h : Po X Y pu Oc σ d H o k) : Po X Y pu (With Oc p) σ d H o (fun a d' H' => Go X.K Y.Ex (With Oc p) pu σ d H d' H' → k a d' H') := by
  cases o with
  | ok a d1 => exact fun H1 g1 _ => h H1 g1.less
  | exc c d1 => exact fun H1 g1 => h H1 g1.less
  | bad => exact h
end
def tLo (X : Cx) (Y : Yx) (pu : Bool) (m : M (List (Bool × W))) : TA := fun σ H Q => ∃ Oc d, RS X.K Y.Ex Oc H d σ ∧ Po X Y pu Oc σ d H (m d) fun ws d' H' => ∀ vs ps, ps.Nodup → (∀ p ∈ ps, H p = none) → RS X.K Y.Ex (More Oc ps) H' d' σ → RL X.K Y.Ex (Ow (More Oc ps) d' σ) H' vs ws ps → Q vs H'
structure DLo (X : Cx) (Y : Yx) (pu : Bool) (es : List Expr) (m : M (List (Bool × W))) : Prop where
  pa : PA X es (tLo X Y pu m)
def mNilO : M (List (Bool × W)) := fun d => .ok [] d
def mConsV (a : M W) (r : M (List (Bool × W))) : M (List (Bool × W)) := fun d => (a d).bind fun x d1 => (r d1).bind fun xs d2 => .ok ((false, x) :: xs) d2
def mConsO (a : M W) (r : M (List (Bool × W))) : M (List (Bool × W)) := fun d => (a d).bind fun x d1 => (r d1).bind fun xs d2 => .ok ((true, x) :: xs) d2
section
variable {X : Cx} {Y : Yx}
theorem dlo_nil : DLo X Y true [] mNilO := ⟨by
  refine pa_weak pa_nil fun σ H Q h => ?_
  obtain ⟨Oc, d, rs, h⟩ := h
  exact h H (.refl rs) [] [] List.nodup_nil (fun _ z => nomatch z) (rs.congr fun a => ⟨.inl, fun z => z.elim (fun y => y) fun y => nomatch y⟩) .nil⟩
theorem dlo_val {pa pb : Bool} {e : Expr} {es : List Expr} {a : M W} {r : M (List (Bool × W))} (ha : DE X Y pa e a) (hr : DLo X Y pb es r) (hs : starEach (e :: es) X.env = (false, eval e X.env) :: starEach es X.env := by rfl) : DLo X Y (pa && pb) (e :: es) (mConsV a r) := ⟨by
  refine pa_weak (pa_cons ha.pe hr.pa hs) fun σ H Q h => ?_
  obtain ⟨Oc, d, rs, h⟩ := h
  refine ⟨Oc, d, rs, (Po.bind h).imp fun w d1 H1 g1 h1 v r1 => ⟨Oc, d1, g1.rs, (Po.bind1 h1).imp fun ws d2 H2 g2 h2 vs ps nd np rs2 rl => ?_⟩⟩
  refine h2 H2 (.refl g2.rs) (v :: vs) ps nd (fun p hp => g1.free (np p hp)) rs2 (.val (r1.mono (fun a u n e => ⟨fun z => ?_, g2.fr a u e fun z => n (.inr z)⟩) fun _ _ z => z) rl)
  rcases z with (z | z) | z
  · exact n (.inl z)
  · rw [np a z] at e; cases e
  · exact n (.inr (g2.sim.mine.mp z))⟩
theorem dlo_own {pa pb : Bool} {e : Expr} {es : List Expr} {a : M W} {r : M (List (Bool × W))} (ha : DF X Y pa e a) (hr : DLo X Y pb es r) (hs : starEach (e :: es) X.env = (false, eval e X.env) :: starEach es X.env := by rfl) : DLo X Y (pa && pb) (e :: es) (mConsO a r) := ⟨by
  refine pa_weak (pa_cons ha.pe hr.pa hs) fun σ H Q h => ?_
  obtain ⟨Oc, d, rs, h⟩ := h
  refine ⟨Oc, d, rs, (Po.bind h).imp fun w d1 H1 g1 h1 p np rsp ob => ⟨With Oc p, d1, rsp, (Po.less (Po.bind1 h1)).imp fun ws d2 H2 g2 h2 vs ps nd nps rs2 rl => ?_⟩⟩
  have p1 : ∃ o, H1 p = some o := ob.at
  have pn : p ∉ ps := fun z => by obtain ⟨o, e⟩ := p1; rw [nps p z] at e; cases e
  have cg : ∀ b, More (With Oc p) ps b ↔ More Oc (p :: ps) b := fun b => by
    constructor
    · rintro ((z | z) | z)
      · exact .inl z
      · exact .inr (by rw [z]; exact List.mem_cons_self)
      · exact .inr (List.mem_cons_of_mem _ z)
    · rintro (z | z)
      · exact .inl (.inl z)
      · rcases List.mem_cons.mp z with z | z
        · exact .inl (.inr z)
        · exact .inr z
  have ke1 : Ke (Ow (More (With Oc p) ps) d2 σ) H2 (Ow (More Oc (p :: ps)) d2 σ) H2 := fun b u n e => ⟨fun z => n ((ow_congr cg).mpr z), e⟩
  have nm : ¬ Mine d1 σ p := rsp.nMine (.inr rfl)
  have e2 : H2 p = H1 p := by obtain ⟨o, e⟩ := p1; rw [e]; exact g2.fr p o e nm
  refine (h2 g2) H2 (.refl g2.less.rs) (.ref p :: vs) (p :: ps) (List.nodup_cons.mpr ⟨pn, nd⟩) (fun b hb => ?_) (rs2.congr cg) (.own (ob.mono (fun b u n e => ⟨fun z => ?_, g2.fr b u e fun z => n (.inr z)⟩) (fun _ _ z => z) e2) (rl.mono ke1 fun _ _ => rfl))
  · rcases List.mem_cons.mp hb with z | z
    · rw [z]; exact np
    · exact g1.free (nps b z)
  · rcases z with z | z
    · rcases (cg b).mpr z with (z | z) | z
      · exact n (.inl (.inl z))
      · exact n (.inl (.inr z))
      · rw [nps b z] at e; cases e
    · exact n (.inr (g2.sim.mine.mp z))⟩
end
/-- stored from the left -/
def stores : List Nat → List (Bool × W) → SD → Option SD
  | [], [], d => some d
  | i :: is, (b, w) :: ws, d => (if b then storeOwn i w d else store i w d).bind fun d1 => stores is ws d1
  | _, _, _ => none
def setsS : List Nat → List V → St → St
  | i :: is, v :: vs, σ => setsS is vs (σ.set i (some v))
  | _, _, σ => σ
theorem stores_go {K : PySem.W.Frag} {Ex : Addr → Nat → Prop} {Oc : Addr → Prop} {H : Hp} : ∀ (is : List Nat) {vs : List V} {ws : List (Bool × W)} {ps : List Addr} {d d' : SD} {σ : St}, ps.Nodup → (∀ p ∈ ps, ¬ Oc p) → RS K Ex (More Oc ps) H d σ → RL K Ex (Ow (More Oc ps) d σ) H vs ws ps → stores is ws d = some d' →
    RS K Ex Oc H d' (setsS is vs σ) ∧ (∀ a, Mine d' (setsS is vs σ) a → Mine d σ a ∨ a ∈ ps) ∧ ∀ (j : Nat) (u : W), d[j]? = some (some (.par u)) → (∃ w', d'[j]? = some (some (.par w'))) ∧ (setsS is vs σ)[j]? = σ[j]?
  | [], vs, ws, ps, d, d', σ, nd, np, rs, rl, h => by
    cases rl with
    | nil =>
      cases h
      exact ⟨rs.congr (fun a => ⟨fun z => z.elim (fun y => y) (fun y => nomatch y), .inl⟩), fun a z => .inl z, fun j u e => ⟨⟨u, e⟩, rfl⟩⟩
    | val a b => cases h
    | own a b => cases h
  | i :: is, vs, ws, ps, d, d', σ, nd, np, rs, rl, h => by
    cases rl with
    | nil => cases h
    | @val v w vs ws ps a b =>
      unfold stores at h
      rw [if_neg Bool.false_ne_true] at h
      cases q : store i w d with
      | none => rw [q] at h; cases h
      | some d1 =>
        rw [q] at h
        have h : stores is ws d1 = some d' := h
        have g := store_go rs a q
        obtain ⟨r1, r2, r3⟩ := stores_go is nd np g.rs (b.mono g.ke fun _ _ => rfl) h
        refine ⟨r1, fun x z => ?_, fun j u e => ?_⟩
        · rcases r2 x z with z | z
          · rcases g.mine x z with z | z
            · exact .inl z
            · exfalso; obtain ⟨o, e⟩ := g.rs.there (.inr (by assumption)); rw [z] at e; cases e
          · exact .inr z
        · obtain ⟨⟨w', e'⟩, e2⟩ := g.par j u e
          obtain ⟨e3, e4⟩ := r3 j w' e'
          exact ⟨e3, e4.trans e2⟩
    | @own p w vs ws ps a b =>
      unfold stores at h
      rw [if_pos rfl] at h
      cases q : storeOwn i w d with
      | none => rw [q] at h; cases h
      | some d1 =>
        rw [q] at h
        have h : stores is ws d1 = some d' := h
        obtain ⟨hp, nd⟩ := List.nodup_cons.mp nd
        have cg : ∀ b, More Oc (p :: ps) b ↔ With (More Oc ps) p b := fun b => by
          constructor
          · rintro (z | z)
            · exact .inl (.inl z)
            · rcases List.mem_cons.mp z with z | z
              · exact .inr z
              · exact .inl (.inr z)
          · rintro ((z | z) | z)
            · exact .inl z
            · exact .inr (List.mem_cons_of_mem _ z)
            · exact .inr (by rw [z]; exact List.mem_cons_self)
        have no : ¬ More Oc ps p := fun z => z.elim (np p List.mem_cons_self) hp
        have rs' := rs.congr cg
        have ke0 : Ke (Ow (More Oc (p :: ps)) d σ) H (Ow (With (More Oc ps) p) d σ) H := fun b u n e => ⟨fun z => n ((ow_congr cg).mpr z), e⟩
        obtain ⟨a1, a2, a3⟩ := storeOwn_go no rs' (a.mono ke0 (fun _ _ z => z) rfl) q
        have ke1 : Ke (Ow (More Oc (p :: ps)) d σ) H (Ow (More Oc ps) d1 (σ.set i (some (.ref p)))) H := fun b u n e => ⟨fun z => by
          rcases z with z | z
          · exact n (.inl ((cg b).mpr (.inl z)))
          · rcases a2 b z with z | z
            · exact n (.inr z)
            · exact n (.inl ((cg b).mpr (.inr z))), e⟩
        obtain ⟨r1, r2, r3⟩ := stores_go is nd (fun b hb => np b (List.mem_cons_of_mem _ hb)) a1 (b.mono ke1 fun _ _ => rfl) h
        refine ⟨r1, fun x z => ?_, fun j u e => ?_⟩
        · rcases r2 x z with z | z
          · rcases a2 x z with z | z
            · exact .inl z
            · exact .inr (by rw [z]; exact List.mem_cons_self)
          · exact .inr (List.mem_cons_of_mem _ z)
        · obtain ⟨⟨w', e'⟩, e2⟩ := a3 j u e
          obtain ⟨e3, e4⟩ := r3 j w' e'
          exact ⟨e3, e4.trans e2⟩
def mPar (is : List Nat) (m : M (List (Bool × W))) : MS := fun d => (m d).toS fun ws d1 => sOpt (stores is ws d1)
theorem t_par {X : Cx} {Y : Yx} {pu : Bool} {is : List Nat} {m : M (List (Bool × W))} {D : Ends} {σ : St} {H : Hp} (h : tS X Y (mPar is m) D σ H) : tLo X Y pu m σ H fun vs H1 => ∀ H2, Same H1 H2 → D.nx (setsS is vs σ) H2 := by
  obtain ⟨Oc, d, rs, h⟩ := h
  refine ⟨Oc, d, rs, ?_⟩
  unfold mPar at h
  cases q0 : m d with
  | bad => rw [q0] at h; exact h
  | exc c d1 => rw [q0] at h; exact fun H1 g1 => h σ H1 g1.toS
  | ok ws d1 =>
    rw [q0] at h
    intro H1 g1 vs ps nd np rs1 rl H2 sm
    have h : PoS X Y Oc d σ H (sOpt (stores is ws d1)) D := h
    cases q : stores is ws d1 with
    | none => rw [q] at h; exact h.elim
    | some d2 =>
      rw [q] at h
      have no : ∀ p ∈ ps, ¬ Oc p := fun p hp z => by
        obtain ⟨o, e⟩ := rs.oc p z
        rw [np p hp] at e; cases e
      obtain ⟨a1, a2, a3⟩ := stores_go is nd no (rs1.same sm) (rl.same sm) q
      refine h _ H2 ⟨a1, fun a o e n => sm a o (g1.fr a o e n), fun a z => ?_, fun j u e => ?_⟩
      · rcases a2 a z with z | z
        · exact .inl (g1.sim.mine.mp z)
        · exact .inr (np a z)
      · obtain ⟨⟨w', e'⟩, _⟩ := g1.toS.par j u e
        exact a3 j w' e'
section
variable {X : Cx} {Y : Yx}
theorem dlo_len {pu : Bool} {es : List Expr} {m : M (List (Bool × W))} (h : DLo X Y pu es m) : True := trivial
def LenO (n : Nat) (m : M (List (Bool × W))) : Prop := ∀ d ws d1, m d = .ok ws d1 → ws.length = n
theorem lenO_nil : LenO 0 mNilO := fun d ws d1 h => by cases h; rfl
theorem lenO_cons {n : Nat} {b : Bool} {a : M W} {r : M (List (Bool × W))} (h : LenO n r) : LenO (n + 1) (fun d => (a d).bind fun x d1 => (r d1).bind fun xs d2 => .ok ((b, x) :: xs) d2) := fun d ws d1 e => by
  dsimp only at e
  cases q : a d with
  | bad => rw [q] at e; cases e
  | exc c d2 => rw [q] at e; cases e
  | ok x d2 =>
    rw [q] at e
    dsimp only [Out.bind] at e
    cases q2 : r d2 with
    | bad => rw [q2] at e; cases e
    | exc c d3 => rw [q2] at e; cases e
    | ok xs d3 =>
      rw [q2] at e
      cases e
      rw [List.length_cons, h _ _ _ q2]
/-- a list's reading with its length known -/
theorem tLo_len {pu : Bool} {n : Nat} {m : M (List (Bool × W))} {σ : St} {H : Hp} {Q : List V → Hp → Prop} (hl : LenO n m) (h : tLo X Y pu m σ H Q) : tLo X Y pu m σ H fun vs H1 => vs.length = n ∧ Q vs H1 := by
  obtain ⟨Oc, d, rs, h⟩ := h
  refine ⟨Oc, d, rs, ?_⟩
  cases q : m d with
  | bad => rw [q] at h; exact h
  | exc c d1 => rw [q] at h; exact h
  | ok ws d1 =>
    rw [q] at h
    exact fun H1 g1 vs ps nd np rs1 rl => ⟨rl.length.trans (hl _ _ _ q), h H1 g1 vs ps nd np rs1 rl⟩
/-- a, b = x, y (names on one line) -/
theorem ds_par2 {pu : Bool} {i j : Nat} {x y : Str} {a b : Expr} {px py pt pos : Pos} {kt k2 : Nat} {pt2 : Pos} {m : M (List (Bool × W))} (hc : X.calm = true) (hN : X.N.Nodup) (hm : DLo X Y pu [a, b] m) (hl : LenO 2 m) (hij : i ≠ j) (hi : X.N[i]? = some x := by rfl) (hj : X.N[j]? = some y := by rfl)
    (hx : X.env.scope.names.lookup x = some .local := by rfl) (hy : X.env.scope.names.lookup y = some .local := by rfl) (hw : swappedStores [.Tuple [.Name x px, .Name y py] kt pt] (.Tuple [a, b] k2 pt2) X.env = pure (some [x, y]) := by rfl)
    (hs : swapsWithSole [.Tuple [.Name x px, .Name y py] kt pt] (.Tuple [a, b] k2 pt2) pos.line X.env = pure false := by rfl) : DS X Y (.Assign [.Tuple [.Name x px, .Name y py] kt pt] (.Tuple [a, b] k2 pt2) pos) (mPar [i, j] m) := by
  refine ⟨ps_weak (ps_par hc hN hi hj hij hx hy hm.pa hw hs) fun D σ H h => ?_⟩
  have h := tLo_len hl (t_par (pu := pu) h)
  obtain ⟨Oc, d, rs, h⟩ := h
  refine ⟨Oc, d, rs, h.imp fun ws d1 H1 g1 h1 vs ps nd np rs1 rl => ?_⟩
  obtain ⟨e, h2⟩ := h1 vs ps nd np rs1 rl
  match vs, e, h2 with
  | [v, u], _, h2 => exact ⟨v, u, rfl, h2 H1 fun _ _ e => e⟩
theorem ds_par3 {pu : Bool} {i j l : Nat} {x y z : Str} {a b c : Expr} {px py pz pt pos : Pos} {kt k2 : Nat} {pt2 : Pos} {m : M (List (Bool × W))} (hc : X.calm = true) (hN : X.N.Nodup) (hm : DLo X Y pu [a, b, c] m) (hln : LenO 3 m) (hij : i ≠ j) (hil : i ≠ l) (hjl : j ≠ l) (hi : X.N[i]? = some x := by rfl) (hj : X.N[j]? = some y := by rfl) (hl : X.N[l]? = some z := by rfl)
    (hx : X.env.scope.names.lookup x = some .local := by rfl) (hy : X.env.scope.names.lookup y = some .local := by rfl) (hz : X.env.scope.names.lookup z = some .local := by rfl) (hw : swappedStores [.Tuple [.Name x px, .Name y py, .Name z pz] kt pt] (.Tuple [a, b, c] k2 pt2) X.env = pure (some [x, y, z]) := by rfl)
    (hs : swapsWithSole [.Tuple [.Name x px, .Name y py, .Name z pz] kt pt] (.Tuple [a, b, c] k2 pt2) pos.line X.env = pure false := by rfl) : DS X Y (.Assign [.Tuple [.Name x px, .Name y py, .Name z pz] kt pt] (.Tuple [a, b, c] k2 pt2) pos) (mPar [i, j, l] m) := by
  refine ⟨ps_weak (ps_par3 hc hN hi hj hl hij hil hjl hx hy hz hm.pa hw hs) fun D σ H h => ?_⟩
  have h := tLo_len hln (t_par (pu := pu) h)
  obtain ⟨Oc, d, rs, h⟩ := h
  refine ⟨Oc, d, rs, h.imp fun ws d1 H1 g1 h1 vs ps nd np rs1 rl => ?_⟩
  obtain ⟨e, h2⟩ := h1 vs ps nd np rs1 rl
  match vs, e, h2 with
  | [v, u, t], _, h2 => exact ⟨v, u, t, rfl, h2 H1 fun _ _ e => e⟩
/-- plain names as targets -/
inductive Nms (X : Cx) : List Expr → List Nat → TGs → Prop
  | nil : Nms X [] [] gNil
  | cons {x : Str} {pos : Pos} {i : Nat} {es : List Expr} {is : List Nat} {t : TGs} : PG X (.Name x pos) (gName i) → ((assignEach (.Name x pos :: es) X.env).map (·.2) = assign (.Name x pos) X.env :: (assignEach es X.env).map (·.2)) → Nms X es is t → Nms X (.Name x pos :: es) (i :: is) (gCons (gName i) t)
theorem nms_cons {x : Str} {pos : Pos} {i : Nat} {es : List Expr} {is : List Nat} {t : TGs} (hN : X.N.Nodup) (r : Nms X es is t) (hi : X.N[i]? = some x := by rfl) (hx : Loc X.env.scope x := by first | exact .inl rfl | exact .inr rfl) (hf : X.fn x = true ∨ X.env.scope.names.lookup x = some .local := by first | exact .inl rfl | exact .inr rfl | assumption)
    (hs : (assignEach (.Name x pos :: es) X.env).map (·.2) = assign (.Name x pos) X.env :: (assignEach es X.env).map (·.2) := by rfl) : Nms X (.Name x pos :: es) (i :: is) (gCons (gName i) t) := .cons (pg_name hN hi hx hf) hs r
theorem Nms.pg {es : List Expr} {is : List Nat} {t : TGs} (h : Nms X es is t) : PGs X es t := by
  induction h with
  | nil => exact pgs_nil
  | cons a b _ ih => exact pgs_cons a ih b
theorem Nms.to {es : List Expr} {is : List Nat} {t : TGs} (h : Nms X es is t) : ∀ {vs : List V} {σ : St} {H : Hp} {Q : St → Hp → Prop}, vs.length = is.length → Q (setsS is vs σ) H → t vs σ H Q := by
  induction h with
  | nil =>
    intro vs σ H Q e q
    match vs, e with
    | [], _ => exact ⟨rfl, q⟩
  | cons a b _ ih =>
    intro vs σ H Q e q
    match vs, e with
    | v :: vs, e => exact ⟨v, vs, rfl, ih (by simpa using e) q⟩
/-- a, b, c, d = .. by a tuple that nobody keeps -/
theorem ds_parN {pu : Bool} {es ts : List Expr} {is : List Nat} {k k2 : Nat} {pt pt2 pos : Pos} {t : TGs} {m : M (List (Bool × W))} (hc : X.calm = true) (hm : DLo X Y pu es m) (hl : LenO is.length m) (ht : Nms X ts is t) (hsz : is.length ≤ sizeLine) (hn : (assignEach ts X.env).length = is.length := by rfl)
    (hst : (assignEach ts X.env).findIdx? (·.1) = none := by rfl) (hs : swapsWithSole [.Tuple ts k pt] (.Tuple es k2 pt2) pos.line X.env = pure false := by rfl) (hw : swappedStores [.Tuple ts k pt] (.Tuple es k2 pt2) X.env = pure none := by rfl)
    (h1 : (assignEach [.Tuple ts k pt] X.env).map (·.2) = [assign (.Tuple ts k pt) X.env] := by rfl) : DS X Y (.Assign [.Tuple ts k pt] (.Tuple es k2 pt2) pos) (mPar is m) := by
  refine ⟨ps_weak (ps_asg (pe_tup hm.pa) (pg_tup hc ht.pg hn hst) hs hw h1) fun D σ H h => ?_⟩
  have h := tLo_len hl (t_par (pu := pu) h)
  obtain ⟨Oc, d, rs, h⟩ := h
  refine ⟨Oc, d, rs, h.imp fun ws d1 H1 g1 h1 vs ps nd np rs1 rl => ?_⟩
  obtain ⟨e, h2⟩ := h1 vs ps nd np rs1 rl
  exact ⟨by rw [e]; exact hsz, fun p np => ⟨p, vs, rfl, .inl (.inl upd_same), e, ht.to e (h2 _ (same_new np))⟩⟩
end
end Qd
end
section
set_option Elab.async false
set_option linter.all false
set_option maxRecDepth 100000
set_option maxHeartbeats 1000000
/-! More operations. -/
namespace Qd
open PySem PySem.Spec PyProof.Rows L2
section
variable {X : Cx} {Y : Yx}
def bitsW : W → Option W
  | .int i => some (.int (Builtin.Int.intBits i : Nat))
  | _ => none
theorem d_bits {pa : Bool} {o : Expr} {a : M W} {apos pos : Pos} (ho : DE X Y pa o a) (hbase : attributeBase o "bit_length" X.env (eval o X.env) = eval o X.env := by rfl) (hline : (apos.endLine == pos.line) = true := by rfl) : DE X Y pa (.Call (.Attribute o "bit_length" apos) [] [] pos) (mUn bitsW a) := by
  refine ⟨pe_weak (L2.pe_bits ho.pe hbase hline) fun σ H Q h => ?_⟩
  obtain ⟨Oc, d, rs, h⟩ := h
  refine ⟨Oc, d, rs, (Po.bind1 h).imp fun w d1 H1 g1 h1 v r1 => ?_⟩
  obtain ⟨c, ec, k⟩ := Po.opt h1
  unfold bitsW at ec
  split at ec
  · cases ec
    cases rp_int r1
    exact ⟨_, rfl, k H1 (.same g1.rs fun _ _ e => e) _ (.int _)⟩
  · cases ec
end
end Qd
end
section
set_option Elab.async false
set_option linter.all false
set_option maxRecDepth 100000
set_option maxHeartbeats 1000000
/-! Evaluating the semantics: equations for simp. -/
namespace Qd
open PySem PySem.Spec PyProof.Rows L2

section
variable (d : SD)
@[simp] theorem ev_seq (a b : MS) : mSeq a b d = (a d).seq b := rfl
@[simp] theorem ev_skip : mSkip d = .next d := rfl
@[simp] theorem ev_ret (a : M W) : mRet a d = (a d).toS fun w d1 => .ret (.val w) d1 := rfl
@[simp] theorem ev_retF (a : M W) : mRetF a d = (a d).toS fun w d1 => .ret (.own w) d1 := rfl
@[simp] theorem ev_drop (a : M W) : mDrop a d = (a d).toS fun _ d1 => .next d1 := rfl
@[simp] theorem ev_if (t : M Bool) (a b : MS) : mIf t a b d = (t d).toS fun c d1 => if c = true then a d1 else b d1 := rfl
@[simp] theorem ev_asg (g : GW) (a : M W) : mAsg g a d = (a d).toS fun w d1 => sOpt (g w d1) := rfl
@[simp] theorem ev_asgOwn (i : Nat) (a : M W) : mAsgOwn i a d = (a d).toS fun w d1 => sOpt (storeOwn i w d1) := rfl
@[simp] theorem ev_raise (c : Nat) : mRaise c d = .exc c d := rfl
@[simp] theorem ev_for (it : M (List W)) (g : GW) (b : MS) : mFor it g b d = (it d).toS fun ws d1 => forD g b ws d1 := rfl
@[simp] theorem ev_c (w : W) : mC w d = .ok w d := rfl
@[simp] theorem ev_nil : mNil d = .ok [] d := rfl
@[simp] theorem ev_cons (a : M W) (r : M (List W)) : mCons a r d = (a d).bind fun x d1 => (r d1).bind fun xs d2 => .ok (x :: xs) d2 := rfl
@[simp] theorem ev_bin (g : W → W → Option W) (a b : M W) : mBin g a b d = (a d).bind fun x d1 => (b d1).bind fun y d2 => ofOpt (g x y) d2 := rfl
@[simp] theorem ev_un (g : W → Option W) (a : M W) : mUn g a d = (a d).bind fun x d1 => ofOpt (g x) d1 := rfl
@[simp] theorem ev_callB (g : List W → Option W) (a : M (List W)) : mCallB g a d = (a d).bind fun xs d1 => ofOpt (g xs) d1 := rfl
@[simp] theorem ev_andT (a b : M Bool) : mAndT a b d = (a d).bind fun x d1 => if x = true then b d1 else .ok false d1 := rfl
@[simp] theorem ev_orT (a b : M Bool) : mOrT a b d = (a d).bind fun x d1 => if x = true then .ok true d1 else b d1 := rfl
@[simp] theorem ev_notT (a : M Bool) : mNotT a d = (a d).bind fun x d1 => .ok (!x) d1 := rfl
@[simp] theorem ev_test (a : M W) : mTest a d = (a d).bind fun x d1 => match x with
  | .bool b => .ok b d1
  | _ => .bad := rfl
@[simp] theorem ev_truth (a : M W) : mTruth a d = (a d).bind fun x d1 => ofOpt (truth x) d1 := rfl
@[simp] theorem ev_ifE (t : M Bool) (a b : M W) : mIfE t a b d = (t d).bind fun c d1 => if c = true then a d1 else b d1 := rfl
@[simp] theorem ev_andV (a b : M W) : mAndV a b d = (a d).bind fun x d1 => (ofOpt (asB x) d1).bind fun k d2 => if k = true then b d2 else .ok (.bool false) d2 := rfl
@[simp] theorem ev_orV (a b : M W) : mOrV a b d = (a d).bind fun x d1 => (ofOpt (asB x) d1).bind fun k d2 => if k = true then .ok (.bool true) d2 else b d2 := rfl
@[simp] theorem ev_notV (a : M W) : mNotV a d = (a d).bind fun x d1 => (ofOpt (asB x) d1).bind fun k d2 => .ok (.bool (!k)) d2 := rfl
@[simp] theorem ev_chain (g g' : W → W → Option W) (a b c : M W) : mChain g g' a b c d = (a d).bind fun x d1 => (b d1).bind fun y d2 => (ofOpt (g x y) d2).bind fun z d3 => match z with
  | .bool true => (c d3).bind fun u d4 => ofOpt (g' y u) d4
  | .bool false => .ok (.bool false) d3
  | _ => .bad := rfl
@[simp] theorem ev_lst (a : M (List W)) : mLst a d = (a d).bind fun ws d1 => if ws.length ≤ sizeLine then .ok (.list ws) d1 else .bad := rfl
@[simp] theorem ev_tup (a : M (List W)) : mTup a d = (a d).bind fun ws d1 => if ws.length ≤ sizeLine then .ok (.tuple ws) d1 else .bad := rfl
@[simp] theorem ev_rng1 (a : M (List W)) : mRng1 a d = (a d).bind fun w d1 => ofOpt (range1? w) d1 := rfl
@[simp] theorem ev_rng2 (a : M (List W)) : mRng2 a d = (a d).bind fun w d1 => ofOpt (range2? w) d1 := rfl
@[simp] theorem ev_itS (a : M W) : mItS a d = (a d).bind fun w d1 => ofOpt (itemsOf w) d1 := rfl
@[simp] theorem ev_itL (a : M W) : mItL a d = (a d).bind fun w d1 => ofOpt (listOf? w) d1 := rfl
@[simp] theorem ev_yes : mYes d = .ok true d := rfl
@[simp] theorem ev_callV (F : FV) (as : M (List W)) : mCallV F as d = (as d).bind fun ws d1 => match F ws with
  | .ok (.val w) => .ok w d1
  | .ok (.own w) => .ok w d1
  | .ok (.par _) => .bad
  | .exc c => .exc c d1
  | .bad => .bad := rfl
@[simp] theorem ev_callO (F : FV) (as : M (List W)) : mCallO F as d = (as d).bind fun ws d1 => match F ws with
  | .ok (.own w) => .ok w d1
  | .exc c => .exc c d1
  | _ => .bad := rfl
@[simp] theorem ev_callE (F : FV) (as : M (List W)) : mCallE F as d = (as d).bind fun ws d1 => match F ws with
  | .ok (.val w) => .ok w d1
  | _ => .bad := rfl
@[simp] theorem ev_callP (F : FW) (i : Nat) (as : M (List W)) : mCallP F i as d = (ofOpt (mineAt i d) d).bind fun _ d0 => (as d0).bind fun ws d1 => (ofOpt (mineAt i d1) d1).bind fun u d2 => match F u ws with
  | .ok (.val w) u' => .ok w (setMine i u' d2)
  | .exc c u' => .exc c (setMine i u' d2)
  | _ => .bad := rfl
@[simp] theorem ev_var (i : Nat) : mVar i d = match d[i]? with
  | some (some (.val w)) => .ok w d
  | _ => .bad := rfl
@[simp] theorem ev_store (i : Nat) (w : W) : store i w d = match d[i]? with
  | some (some (.par _)) => none
  | some _ => some (d.set i (some (.val w)))
  | none => none := rfl
@[simp] theorem ev_storeOwn (i : Nat) (w : W) : storeOwn i w d = match d[i]? with
  | some (some (.par _)) => none
  | some _ => some (d.set i (some (.own w)))
  | none => none := rfl
@[simp] theorem ev_mineAt (i : Nat) : mineAt i d = match d[i]? with
  | some (some s) => Slot.mine? s
  | _ => none := rfl
@[simp] theorem ev_setMine (i : Nat) (u : W) : setMine i u d = match d[i]? with
  | some (some s) => d.set i (some (Slot.upd s u))
  | _ => d := rfl
@[simp] theorem ev_mineO (w : W) : Slot.mine? (.own w) = some w := rfl
@[simp] theorem ev_mineP (w : W) : Slot.mine? (.par w) = some w := rfl
@[simp] theorem ev_mineV (w : W) : Slot.mine? (.val w) = none := rfl
@[simp] theorem ev_updO (w u : W) : Slot.upd (.own w) u = .own u := rfl
@[simp] theorem ev_updP (w u : W) : Slot.upd (.par w) u = .par u := rfl
@[simp] theorem ev_frz : mFrzS [] (fun d => .next d) d = .next d := rfl
@[simp] theorem ev_frzS (is : List Nat) (m : MS) : mFrzS is m d = m (is.foldl (fun d i => frzAt i d) d) := rfl
@[simp] theorem ev_frzAt (i : Nat) : frzAt i d = match d[i]? with
  | some (some (.own w)) => d.set i (some (.val w))
  | _ => d := rfl
@[simp] theorem ev_frzE (m : M W) : mFrz m d = match m (frzD d) with
  | .ok w _ => if noLD w = true then .ok w d else .bad
  | .exc c _ => .exc c d
  | .bad => .bad := rfl
@[simp] theorem ev_frzT (m : M Bool) : mFrzT m d = match m (frzD d) with
  | .ok b _ => .ok b d
  | .exc c _ => .exc c d
  | .bad => .bad := rfl
@[simp] theorem ev_frzNil : frzD [] = [] := rfl
@[simp] theorem ev_frzCons (o : Option Slot) (r : SD) : frzD (o :: r) = o.map Slot.frz :: frzD r := rfl
@[simp] theorem ev_frzO (w : W) : Slot.frz (.own w) = .val w := rfl
@[simp] theorem ev_frzP (w : W) : Slot.frz (.par w) = .val w := rfl
@[simp] theorem ev_frzV (w : W) : Slot.frz (.val w) = .val w := rfl
@[simp] theorem ev_aug (g : W → W → Option W) (i : Nat) (m : M W) : mAug g i m d = (mVar i d).toS fun x d0 => (m d0).toS fun y d1 => match g x y with
  | some z => sOpt (store i z d1)
  | none => .bad := rfl
@[simp] theorem ev_setIx (g : W → W → W → Option W) (i : Nat) (ix m : M W) : mSetIx g i ix m d = (m d).toS fun w d1 => (ofOpt (mineAt i d1) d1).toS fun _ d1 => (ix d1).toS fun k d2 => (ofOpt (mineAt i d2) d2).toS fun u d2 => match g u k w with
  | some u' => .next (setMine i u' d2)
  | none => .bad := rfl
@[simp] theorem ev_meth (T : String) (g : W → List W → Option (W × W)) (i : Nat) (as : M (List W)) : mMeth T g i as d = (ofOpt (mineAt i d) d).bind fun u0 d0 => if tyW u0 = T then (as d0).bind fun ws d1 => (ofOpt (mineAt i d1) d1).bind fun u d2 => match g u ws with
  | some (c, u') => .ok c (setMine i u' d2)
  | none => .bad else .bad := rfl
@[simp] theorem ev_dget (a b : M W) : mDGet a b d = (a d).bind fun u d1 => (b d1).bind fun k d2 => match dfind u k with
  | some (some w) => .ok w d2
  | _ => .bad := rfl
@[simp] theorem ev_dnew (t : Bool) : mDNew t d = .ok (.dict (if t then [tagT] else [])) d := rfl
@[simp] theorem ev_unpOwn (i n : Nat) (g : GWs) : mUnpOwn i n g d = match mineAt i d with
  | some (.list ws) => if ws.length = n then sOpt (g ws d) else .bad
  | _ => .bad := rfl
@[simp] theorem ev_tupT (n : Nat) (g : GWs) (ws : List W) : gTupW n g (.tuple ws) d = if ws.length = n then g ws d else none := rfl
@[simp] theorem ev_gsNil : gsNil [] d = some d := rfl
@[simp] theorem ev_gsCons (g : GW) (r : GWs) (w : W) (ws : List W) : gsCons g r (w :: ws) d = (g w d).bind fun d1 => r ws d1 := rfl
@[simp] theorem ev_noPart : mNoPart d = .ok none d := rfl
@[simp] theorem ev_part (m : M W) : mPart m d = (m d).bind fun w d1 => (ofOpt (asI w) d1).bind fun i d1 => .ok (some i) d1 := rfl
@[simp] theorem ev_sl (a : M W) (lo hi : MO) : mSl a lo hi d = (a d).bind fun u d1 => (lo d1).bind fun l d2 => (hi d2).bind fun h d3 => ofOpt (slW u l h) d3 := rfl
@[simp] theorem ev_repF (a b : M W) : mRepF a b d = (a d).bind fun x d1 => (b d1).bind fun y d2 => match x, y with
  | .list xs, .int k => if cdec (-(2 ^ 63) ≤ k ∧ k < 2 ^ 63 ∧ xs.length * k.toNat ≤ sizeLine) = true then .ok (.list (List.replicate k.toNat xs).flatten) d2 else .bad
  | _, _ => .bad := rfl
@[simp] theorem ev_nilO : mNilO d = .ok [] d := rfl
@[simp] theorem ev_consV (a : M W) (r : M (List (Bool × W))) : mConsV a r d = (a d).bind fun x d1 => (r d1).bind fun xs d2 => .ok ((false, x) :: xs) d2 := rfl
@[simp] theorem ev_consO (a : M W) (r : M (List (Bool × W))) : mConsO a r d = (a d).bind fun x d1 => (r d1).bind fun xs d2 => .ok ((true, x) :: xs) d2 := rfl
@[simp] theorem ev_par (is : List Nat) (m : M (List (Bool × W))) : mPar is m d = (m d).toS fun ws d1 => sOpt (stores is ws d1) := rfl
@[simp] theorem ev_storesN : stores [] [] d = some d := rfl
@[simp] theorem ev_storesV (i : Nat) (is : List Nat) (w : W) (ws : List (Bool × W)) : stores (i :: is) ((false, w) :: ws) d = (store i w d).bind fun d1 => stores is ws d1 := rfl
@[simp] theorem ev_storesO (i : Nat) (is : List Nat) (w : W) (ws : List (Bool × W)) : stores (i :: is) ((true, w) :: ws) d = (storeOwn i w d).bind fun d1 => stores is ws d1 := rfl
@[simp] theorem ev_isE (n : Nat) (f : Nat → Bool) (m : M W) : mIsE n f m d = (m d).bind fun w d1 => match exOf w with
  | some k => if k < n then .ok (.bool (f k)) d1 else .bad
  | none => .bad := rfl
@[simp] theorem ev_exD (k : Nat) : exOf (exD k) = some k := by simp [exOf]
@[simp] theorem ev_forNil (g : GW) (b : MS) : forD g b [] d = .next d := rfl
@[simp] theorem ev_metV (T : String) (g : W → List W → Option W) (a : M W) (as : M (List W)) : mMetV T g a as d = (a d).bind fun u d1 => if tyW u = T ∧ isDict u = false then (as d1).bind fun ws d2 => ofOpt (g u ws) d2 else .bad := rfl
@[simp] theorem ev_subOwn (i : Nat) (ix : M W) : mSubOwn i ix d = (ofOpt (mineAt i d) d).bind fun _ d => (ix d).bind fun k d1 => (ofOpt (mineAt i d1) d1).bind fun u d1 => match u, k with
  | .list ds, .int j => ofOpt (atI ds j) d1
  | _, _ => .bad := rfl
end
/-! ### operators -/
@[simp] theorem ev_add (i j : Int) : addW (.int i) (.int j) = some (.int (i + j)) := rfl
@[simp] theorem ev_i2 (c : Int → Int → Bool) (g : Int → Int → Int) (i j : Int) : i2 c g (.int i) (.int j) = if c i j = true then some (.int (g i j)) else none := rfl
@[simp] theorem ev_c2 (g : Int → Int → Bool) (i j : Int) : c2 g (.int i) (.int j) = some (.bool (g i j)) := rfl
@[simp] theorem ev_or2 (g g' : W → W → Option W) (a b : W) : or2 g g' a b = match g a b with
  | some c => some c
  | none => g' a b := rfl
@[simp] theorem ev_neg (i : Int) : negW (.int i) = some (.int (-i)) := rfl
theorem ev_mul (i j : Int) (h : i.natAbs.log2 + j.natAbs.log2 < 1000000) : mulW (.int i) (.int j) = some (.int (i * j)) := by
  show (if cdec _ = true then _ else _) = _
  rw [if_pos (cdec_iff.mpr h)]
@[simp] theorem ev_eqI (i j : Int) : eqW (.int i) (.int j) = some (.bool (decide (i = j))) := by
  have h : okD (.int i) = true := by unfold okD; simp [noD, SeqAt.shaped, PyData.canLay0, PyData.depth]
  have h2 : okD (.int j) = true := by unfold okD; simp [noD, SeqAt.shaped, PyData.canLay0, PyData.depth]
  unfold eqW
  rw [h, h2]
  simp [PyData.eqv]
  rfl
@[simp] theorem ev_neI (i j : Int) : neW (.int i) (.int j) = some (.bool (!decide (i = j))) := by
  have h : okD (.int i) = true := by unfold okD; simp [noD, SeqAt.shaped, PyData.canLay0, PyData.depth]
  have h2 : okD (.int j) = true := by unfold okD; simp [noD, SeqAt.shaped, PyData.canLay0, PyData.depth]
  unfold neW
  rw [h, h2]
  simp [PyData.eqv]
  rfl
@[simp] theorem ev_truB (b : Bool) : truth (.bool b) = some b := rfl
@[simp] theorem ev_truI (i : Int) : truth (.int i) = some (i != 0) := rfl
@[simp] theorem ev_truL (ds : List W) : truth (.list ds) = some (!ds.isEmpty) := rfl
@[simp] theorem ev_truT (ds : List W) : truth (.tuple ds) = some (!ds.isEmpty) := rfl
@[simp] theorem ev_asB (b : Bool) : asB (.bool b) = some b := rfl
@[simp] theorem ev_asI (i : Int) : asI (.int i) = some i := rfl
@[simp] theorem ev_min2 (i j : Int) : min2W [.int i, .int j] = some (.int (if j < i then j else i)) := rfl
@[simp] theorem ev_max2 (i j : Int) : max2W [.int i, .int j] = some (.int (if j > i then j else i)) := rfl
@[simp] theorem ev_abs (i : Int) : absW [.int i] = some (.int (if i < 0 then -i else i)) := rfl
@[simp] theorem ev_intI (i : Int) : intW [.int i] = some (.int i) := rfl
@[simp] theorem ev_intB (b : Bool) : intW [.bool b] = some (.int (if b then 1 else 0)) := rfl
@[simp] theorem ev_lenL (ds : List W) : lenW [.list ds] = some (.int ds.length) := rfl
@[simp] theorem ev_lenT (ds : List W) : lenW [.tuple ds] = some (.int ds.length) := rfl
@[simp] theorem ev_itemsL (ds : List W) : itemsOf (.list ds) = some ds := rfl
@[simp] theorem ev_itemsT (ds : List W) : itemsOf (.tuple ds) = some ds := rfl
@[simp] theorem ev_listOf (ds : List W) : listOf? (.list ds) = some ds := rfl
@[simp] theorem ev_isN (a : W) : isNW a .none = some (.bool (isNone a)) := rfl
@[simp] theorem ev_notN (a : W) : notNW a .none = some (.bool (!isNone a)) := rfl
@[simp] theorem ev_isNoneN : isNone .none = true := rfl
@[simp] theorem ev_isNoneI (i : Int) : isNone (.int i) = false := rfl
@[simp] theorem ev_isNoneL (l : List W) : isNone (.list l) = false := rfl
@[simp] theorem ev_isNoneT (l : List W) : isNone (.tuple l) = false := rfl
@[simp] theorem ev_isNoneS (x : Str) : isNone (.str x) = false := rfl
@[simp] theorem ev_isNoneB (b : Bool) : isNone (.bool b) = false := rfl
@[simp] theorem ev_ixL (ds : List W) (i : Int) : ixW (.list ds) (.int i) = atI ds i := rfl
@[simp] theorem ev_ixT (ds : List W) (i : Int) : ixW (.tuple ds) (.int i) = atI ds i := rfl
@[simp] theorem ev_slL (ds : List W) (lo hi : Option Int) : slW (.list ds) lo hi = some (.list (cutA ds lo hi)) := rfl
@[simp] theorem ev_slT (ds : List W) (lo hi : Option Int) : slW (.tuple ds) lo hi = some (.tuple (cutA ds lo hi)) := rfl
@[simp] theorem ev_app (ds : List W) (w : W) : appendW (.list ds) [w] = if ds.length < sizeLine then some (.none, .list (ds ++ [w])) else none := rfl
@[simp] theorem ev_tyL (ds : List W) : tyW (.list ds) = "list" := rfl
@[simp] theorem ev_noI (i : Int) : noLD (.int i) = true := rfl
@[simp] theorem ev_noB (b : Bool) : noLD (.bool b) = true := rfl
@[simp] theorem ev_noN : noLD .none = true := rfl
@[simp] theorem ev_noS (x : Str) : noLD (.str x) = true := rfl
theorem kit_int_int : kitB "int" "int" = some true := by decide +kernel
theorem kit_int_bool : kitB "int" "bool" = some false := by decide +kernel
theorem kit_bool_int : kitB "bool" "int" = some true := by decide +kernel
theorem kit_bool_bool : kitB "bool" "bool" = some true := by decide +kernel
theorem kit_none_int : kitB "NoneType" "int" = some false := by decide +kernel
theorem kit_none_bool : kitB "NoneType" "bool" = some false := by decide +kernel
theorem kit_str_int : kitB "str" "int" = some false := by decide +kernel
theorem kit_str_bool : kitB "str" "bool" = some false := by decide +kernel
theorem kit_str_str : kitB "str" "str" = some true := by decide +kernel
theorem kit_list_int : kitB "list" "int" = some false := by decide +kernel
theorem kit_tuple_int : kitB "tuple" "int" = some false := by decide +kernel
theorem kit_list_list : kitB "list" "list" = some true := by decide +kernel
theorem kit_tuple_tuple : kitB "tuple" "tuple" = some true := by decide +kernel
theorem kit_list_tuple : kitB "list" "tuple" = some false := by decide +kernel
theorem kit_tuple_list : kitB "tuple" "list" = some false := by decide +kernel
@[simp] theorem ev_ii (i : Int) : isiW "int" (.int i) = some (.bool true) := by unfold isiW tyN; simp [kit_int_int]
@[simp] theorem ev_ib (i : Int) : isiW "bool" (.int i) = some (.bool false) := by unfold isiW tyN; simp [kit_int_bool]
@[simp] theorem ev_ni : isiW "int" .none = some (.bool false) := by unfold isiW tyN; simp [kit_none_int]
@[simp] theorem ev_si (x : Str) : isiW "int" (.str x) = some (.bool false) := by unfold isiW tyN; simp [kit_str_int]
@[simp] theorem ev_bi (b : Bool) : isiW "int" (.bool b) = some (.bool true) := by unfold isiW tyN; simp [kit_bool_int]
@[simp] theorem ev_bb (b : Bool) : isiW "bool" (.bool b) = some (.bool true) := by unfold isiW tyN; simp [kit_bool_bool]
@[simp] theorem ev_li (l : List W) : isiW "int" (.list l) = some (.bool false) := by unfold isiW tyN; simp [kit_list_int]
@[simp] theorem ev_ti (l : List W) : isiW "int" (.tuple l) = some (.bool false) := by unfold isiW tyN; simp [kit_tuple_int]
@[simp] theorem ev_ll (l : List W) : isiW "list" (.list l) = some (.bool true) := by unfold isiW tyN; simp [kit_list_list]
@[simp] theorem ev_tt (l : List W) : isiW "tuple" (.tuple l) = some (.bool true) := by unfold isiW tyN; simp [kit_tuple_tuple]
@[simp] theorem ev_lt (l : List W) : isiW "tuple" (.list l) = some (.bool false) := by unfold isiW tyN; simp [kit_list_tuple]
@[simp] theorem ev_tl (l : List W) : isiW "list" (.tuple l) = some (.bool false) := by unfold isiW tyN; simp [kit_tuple_list]
/-! ### running a def -/
@[simp] theorem ev_sdV (n : Nat) (ws : List W) : sdV n ws = ws.map (fun w => some (.val w)) ++ List.replicate (n - ws.length) none := rfl
@[simp] theorem log_small {n : Nat} (h : n < 9000) : n.log2 < 9000 := Nat.lt_of_le_of_lt (Nat.log2_le_self n) h
@[simp] theorem le_line {n : Nat} (h : n ≤ 16000000) : n ≤ sizeLine := Nat.le_trans h (by decide)
@[simp] theorem lt_line {n : Nat} (h : n < 16000000) : n < sizeLine := Nat.lt_of_lt_of_le h (by decide)
section
variable (d : SD)
@[simp] theorem ev_lc (vs : List Nat) (it : M (List W)) (g : GW) (t : M Bool) (e : M W) : mLc vs it g t e d = (it d).bind fun ws d1 => if cleanD d1 vs = true ∧ ws.length ≤ sizeLine then (match lcD vs g t e ws d1 with
  | .ok ys d2 => .ok (.list ys) (backD d1 vs d2)
  | _ => .bad) else .bad := rfl
@[simp] theorem ev_lcNil (vs : List Nat) (g : GW) (t : M Bool) (e : M W) : lcD vs g t e [] d = .ok [] d := rfl
@[simp] theorem ev_clean0 : cleanD d [] = true := rfl
@[simp] theorem ev_clean (v : Nat) (vs : List Nat) : cleanD d (v :: vs) = ((match d[v]? with
  | some (some (.own _)) => false
  | some (some (.par _)) => false
  | _ => true) && cleanD d vs) := rfl
@[simp] theorem ev_wipe0 : wipeD d [] = d := rfl
@[simp] theorem ev_wipe (v : Nat) (vs : List Nat) : wipeD d (v :: vs) = (wipeD d vs).set v none := rfl
@[simp] theorem ev_back0 (d0 : SD) : backD d0 [] d = d := rfl
@[simp] theorem ev_back (d0 : SD) (v : Nat) (vs : List Nat) : backD d0 (v :: vs) d = (backD d0 vs d).set v (d0.getD v none) := rfl
theorem lcD_cons (vs : List Nat) (g : GW) (t : M Bool) (e : M W) (w : W) (ws : List W) : lcD vs g t e (w :: ws) d = match g w (wipeD d vs) with
  | none => .bad
  | some d1 => (t d1).bind fun b d2 => if b = true then (e d2).bind fun y d3 => (lcD vs g t e ws d3).bind fun ys d4 => .ok (y :: ys) d4 else lcD vs g t e ws d2 := rfl
end
theorem sizeLine_big : 1000000 ≤ sizeLine := by decide
/-- a for over a range, by its turns -/
theorem forD_cons (g : GW) (b : MS) (w : W) (ws : List W) (d : SD) : forD g b (w :: ws) d = match g w d with
  | none => .bad
  | some d1 => match b d1 with
    | .next d2 => forD g b ws d2
    | .cont d2 => forD g b ws d2
    | .brk d2 => .next d2
    | .ret r d2 => .ret r d2
    | .exc c d2 => .exc c d2
    | .bad => .bad := rfl
theorem rangeW_succ (lo : Int) (n : Nat) : rangeW lo (n + 1) = .int lo :: rangeW (lo + 1) n := by
  unfold rangeW
  rw [List.range_succ_eq_map, List.map_cons, List.map_map]
  congr 1
  · simp
  · apply List.map_congr_left
    intro i _
    show PyData.int _ = PyData.int _
    congr 1
    push_cast
    omega
theorem rangeW_zero (lo : Int) : rangeW lo 0 = [] := rfl
theorem range2_of {a b : Int} {n : Nat} (h1 : -4611686018427387904 ≤ a) (h2 : a < 4611686018427387904) (h3 : -4611686018427387904 ≤ b) (h4 : b < 4611686018427387904) (h : (b - a).toNat = n) : range2? [.int a, .int b] = some (rangeW a n) := by
  subst h
  show (if (small62 a && small62 b) = true then _ else _) = _
  rw [small62_mk h1 h2, small62_mk h3 h4]
  rfl
theorem range1_of {b : Int} {n : Nat} (h3 : -4611686018427387904 ≤ b) (h4 : b < 4611686018427387904) (h : b.toNat = n) : range1? [.int b] = some (rangeW 0 n) := by
  subst h
  show (if small62 b = true then _ else _) = _
  rw [small62_mk h3 h4]
  rfl
/-- an invariant carried through a for over a range -/
theorem forD_range {g : GW} {b : MS} (P : Nat → SD → Prop) (lo : Int) : ∀ (n : Nat) (k : Nat) (d : SD), P k d →
    (∀ (i : Nat) (d : SD), k ≤ i → i < k + n → P i d → ∃ d1 d2, g (.int (lo + (i : Int))) d = some d1 ∧ (b d1 = .next d2 ∨ b d1 = .cont d2) ∧ P (i + 1) d2) → ∃ d', forD g b (rangeW (lo + (k : Int)) n) d = .next d' ∧ P (k + n) d'
  | 0, k, d, h, _ => ⟨d, rfl, h⟩
  | n + 1, k, d, h, hs => by
    obtain ⟨d1, d2, e1, e2, h2⟩ := hs k d (Nat.le_refl _) (by omega) h
    obtain ⟨d', e3, h3⟩ := forD_range P lo n (k + 1) d2 h2 fun i d a b c => hs i d (by omega) (by omega) c
    refine ⟨d', ?_, by rw [show k + (n + 1) = k + 1 + n by omega]; exact h3⟩
    rw [rangeW_succ, forD_cons, e1]
    have e : lo + (k : Int) + 1 = lo + ((k + 1 : Nat) : Int) := by push_cast; omega
    rcases e2 with e2 | e2 <;> (dsimp only; rw [e2, e]; exact e3)
theorem depthAll_ints' (ns : List Int) : PyData.depthAll (ns.map PyData.int) ≤ 1 := by
  induction ns with
  | nil => simp [PyData.depthAll]
  | cons n r ih => simp [PyData.depthAll, PyData.depth] at ih ⊢; omega
theorem okD_ints (ns : List Int) : okD (.list (ns.map PyData.int)) = true := by
  have h1 : noD (.list (ns.map PyData.int)) = true := by
    show noDs (ns.map PyData.int) = true
    induction ns with
    | nil => rfl
    | cons n r ih => simp [noDs, noD, ih]
  unfold okD
  rw [h1, Bool.true_and]
  exact PySem.W.shaped_ints ns
/-! ### comprehensions -/
theorem back_of_wipe {d0 d : SD} {vs : List Nat} (h : wipeD d vs = wipeD d0 vs) : backD d0 vs d = d0 := by
  have hl : d.length = d0.length := by rw [← wipeD_length d vs, h, wipeD_length]
  apply List.ext_getElem?
  intro j
  by_cases hj : j ∈ vs
  · by_cases lt : j < d.length
    · rw [backD_in hj lt hl.symm]
    · rw [List.getElem?_eq_none (by rw [backD_length]; omega), List.getElem?_eq_none (by omega)]
  · rw [backD_out hj, ← wipeD_out (d := d) hj, h, wipeD_out hj]
theorem lcD_filter {vs : List Nat} {g : GW} {t : M Bool} {e : M W} {d0 : SD} {p : W → Bool} {f : W → W} : ∀ {ws : List W} {d : SD}, wipeD d vs = wipeD d0 vs →
    (∀ w ∈ ws, ∃ d1 d2, g w (wipeD d0 vs) = some d1 ∧ t d1 = .ok (p w) d2 ∧ (p w = true → ∃ d3, e d2 = .ok (f w) d3 ∧ wipeD d3 vs = wipeD d0 vs) ∧ (p w = false → wipeD d2 vs = wipeD d0 vs)) → ∃ d4, lcD vs g t e ws d = .ok ((ws.filter p).map f) d4 ∧ wipeD d4 vs = wipeD d0 vs
  | [], d, hd, _ => ⟨d, rfl, hd⟩
  | w :: ws, d, hd, h => by
    obtain ⟨d1, d2, h1, h2, h3, h4⟩ := h w List.mem_cons_self
    rw [lcD_cons, hd, h1]
    dsimp only
    rw [h2]
    dsimp only [Out.bind]
    cases q : p w with
    | true =>
      obtain ⟨d3, h5, h6⟩ := h3 q
      obtain ⟨d4, h7, h8⟩ := lcD_filter (ws := ws) h6 fun x hx => h x (List.mem_cons_of_mem _ hx)
      refine ⟨d4, ?_, h8⟩
      rw [if_pos rfl, h5]
      dsimp only
      rw [h7, List.filter_cons, if_pos q]
      rfl
    | false =>
      obtain ⟨d4, h7, h8⟩ := lcD_filter (ws := ws) (h4 q) fun x hx => h x (List.mem_cons_of_mem _ hx)
      refine ⟨d4, ?_, h8⟩
      rw [if_neg Bool.false_ne_true, h7, List.filter_cons, if_neg (by rw [q]; exact Bool.false_ne_true)]
theorem mLc_filter {vs : List Nat} {it : M (List W)} {g : GW} {t : M Bool} {e : M W} {d d' : SD} {ws : List W} (p : W → Bool) (f : W → W) (hit : it d = .ok ws d') (hc : cleanD d' vs = true) (hl : ws.length ≤ sizeLine)
    (h : ∀ w ∈ ws, ∃ d1 d2, g w (wipeD d' vs) = some d1 ∧ t d1 = .ok (p w) d2 ∧ (p w = true → ∃ d3, e d2 = .ok (f w) d3 ∧ wipeD d3 vs = wipeD d' vs) ∧ (p w = false → wipeD d2 vs = wipeD d' vs)) : mLc vs it g t e d = .ok (.list ((ws.filter p).map f)) d' := by
  obtain ⟨d4, h1, h2⟩ := lcD_filter (d := d') rfl h
  rw [ev_lc, hit]
  dsimp only [Out.bind]
  rw [if_pos ⟨hc, hl⟩, h1]
  dsimp only
  rw [back_of_wipe h2]
theorem mLc_map {vs : List Nat} {it : M (List W)} {g : GW} {t : M Bool} {e : M W} {d d' : SD} {ws : List W} (f : W → W) (hit : it d = .ok ws d') (hc : cleanD d' vs = true) (hl : ws.length ≤ sizeLine)
    (h : ∀ w ∈ ws, ∃ d1 d2 d3, g w (wipeD d' vs) = some d1 ∧ t d1 = .ok true d2 ∧ e d2 = .ok (f w) d3 ∧ wipeD d3 vs = wipeD d' vs) : mLc vs it g t e d = .ok (.list (ws.map f)) d' := by
  have := mLc_filter (fun _ => true) f hit hc hl fun w hw => by
    obtain ⟨d1, d2, d3, h1, h2, h3, h4⟩ := h w hw
    exact ⟨d1, d2, h1, h2, fun _ => ⟨d3, h3, h4⟩, fun z => Bool.noConfusion z⟩
  rw [List.filter_eq_self.mpr (fun _ _ => rfl)] at this
  exact this
end Qd
end
section
set_option Elab.async false
set_option linter.all false
set_option maxRecDepth 100000
set_option maxHeartbeats 1000000
/-! More equations; steps of a law. -/
namespace Qd
open PySem PySem.Spec PyProof.Rows L2
/-- the law's answer is True -/
def Yes (o : SOut) : Prop := ∃ d, o = .ret (.val (.bool true)) d
theorem sqE {a b : MS} {d d' : SD} (h : a d = .next d') (k : Yes (b d')) : Yes (mSeq a b d) := by
  rw [ev_seq, h]; exact k
theorem frzE {is : List Nat} {m : MS} {d d' : SD} (h : is.foldl (fun d i => frzAt i d) d = d') (k : Yes (m d')) : Yes (mFrzS is m d) := by
  rw [ev_frzS, h]; exact k
/-- an answer -/
def Ret (r : Slot) (o : SOut) : Prop := ∃ d, o = .ret r d
theorem sqT {r : Slot} {a b : MS} {d d' : SD} (h : a d = .next d') (k : Ret r (b d')) : Ret r (mSeq a b d) := by
  rw [ev_seq, h]; exact k
theorem frzT {r : Slot} {is : List Nat} {m : MS} {d d' : SD} (h : is.foldl (fun d i => frzAt i d) d = d') (k : Ret r (m d')) : Ret r (mFrzS is m d) := by
  rw [ev_frzS, h]; exact k
theorem retT {r : Slot} {m : MS} {d d' : SD} (h : m d = .ret r d') : Ret r (m d) := ⟨d', h⟩
theorem runV_of {n : Nat} {m : MS} {ws : List W} {r : Slot} (h : Ret r (m (sdV n ws))) : runV n m ws = .ok r := by
  obtain ⟨d, e⟩ := h
  unfold runV
  rw [e]
/-- a def's answer -/
theorem sqR {a b : MS} {d d' : SD} {o : SOut} (h : a d = .next d') (k : b d' = o) : mSeq a b d = o := by
  rw [ev_seq, h]; exact k
theorem frzR {is : List Nat} {m : MS} {d d' : SD} {o : SOut} (h : is.foldl (fun d i => frzAt i d) d = d') (k : m d' = o) : mFrzS is m d = o := by
  rw [ev_frzS, h]; exact k
abbrev iv (n : Nat) : Option Slot := some (.val (.int (n : Int)))
abbrev sv (w : W) : Option Slot := some (.val w)
/-- data of a few levels, without dicts and deep texts -/
def lv : Nat → W → Prop
  | _, .none => True
  | _, .bool _ => True
  | _, .int _ => True
  | _, .str x => PyData.strOk x = true
  | k + 1, .list ds => ∀ d ∈ ds, lv k d
  | k + 1, .tuple ds => ∀ d ∈ ds, lv k d
  | _, _ => False
theorem noDs_of : ∀ {ds : List W}, (∀ d ∈ ds, noD d = true) → noDs ds = true
  | [], _ => rfl
  | d :: r, h => by
    show (noD d && noDs r) = true
    rw [h d List.mem_cons_self, noDs_of fun x hx => h x (List.mem_cons_of_mem _ hx)]; rfl
theorem canLayAll0_of : ∀ {ds : List W}, (∀ d ∈ ds, PyData.canLay0 d = true) → PyData.canLayAll0 ds = true
  | [], _ => by unfold PyData.canLayAll0; rfl
  | d :: r, h => by
    unfold PyData.canLayAll0
    rw [h d List.mem_cons_self, canLayAll0_of fun x hx => h x (List.mem_cons_of_mem _ hx)]; rfl
theorem depthAll_of {k : Nat} : ∀ {ds : List W}, (∀ d ∈ ds, PyData.depth d ≤ k) → PyData.depthAll ds ≤ k
  | [], _ => by unfold PyData.depthAll; exact Nat.zero_le _
  | d :: r, h => by
    unfold PyData.depthAll
    have h1 := h d List.mem_cons_self
    have h2 := depthAll_of (ds := r) fun x hx => h x (List.mem_cons_of_mem _ hx)
    omega
theorem lv_all : ∀ {k : Nat} {w : W}, lv k w → noD w = true ∧ PyData.canLay0 w = true ∧ PyData.depth w ≤ k + 1
  | k, .none, _ => ⟨rfl, by simp [PyData.canLay0], by simp [PyData.depth]⟩
  | k, .bool _, _ => ⟨rfl, by simp [PyData.canLay0], by simp [PyData.depth]⟩
  | k, .int _, _ => ⟨rfl, by simp [PyData.canLay0], by simp [PyData.depth]⟩
  | k, .str x, h => ⟨rfl, by
      cases k <;> (unfold PyData.canLay0; exact h), by simp [PyData.depth]⟩
  | 0, .list ds, h => h.elim
  | 0, .tuple ds, h => h.elim
  | k + 1, .list ds, h => by
    have h : ∀ d ∈ ds, lv k d := h
    refine ⟨noDs_of fun d hd => (lv_all (h d hd)).1, ?_, ?_⟩
    · unfold PyData.canLay0; exact canLayAll0_of fun d hd => (lv_all (h d hd)).2.1
    · have := depthAll_of fun d hd => (lv_all (h d hd)).2.2
      unfold PyData.depth; omega
  | k + 1, .tuple ds, h => by
    have h : ∀ d ∈ ds, lv k d := h
    refine ⟨noDs_of fun d hd => (lv_all (h d hd)).1, ?_, ?_⟩
    · unfold PyData.canLay0; exact canLayAll0_of fun d hd => (lv_all (h d hd)).2.1
    · have := depthAll_of fun d hd => (lv_all (h d hd)).2.2
      unfold PyData.depth; omega
  | k, .dict _, h => by cases k <;> exact h.elim
theorem lv_ok {k : Nat} (hk : k ≤ 60) {w : W} (h : lv k w) : okD w = true := by
  obtain ⟨h1, h2, h3⟩ := lv_all h
  unfold okD SeqAt.shaped
  rw [h1, h2, Bool.true_and, Bool.true_and]
  exact decide_eq_true (by omega)
theorem okD_refl {w : W} (h : okD w = true) : PyData.eqv w w = true := by
  unfold okD at h
  rw [Bool.and_eq_true] at h
  exact SeqAt.eqv_refl w (SeqAt.canLay_of_shaped h.2)
theorem eq_self {w : W} (h : okD w = true) : eqW w w = some (.bool true) := by
  unfold eqW
  rw [h, okD_refl h]
  rfl
theorem ne_self {w : W} (h : okD w = true) : neW w w = some (.bool false) := by
  unfold neW
  rw [h, okD_refl h]
  rfl
/-! ### comprehensions over a list that is a map -/
theorem lcD_of {α : Type} {vs : List Nat} {g : GW} {t : M Bool} {e : M W} {d0 : SD} (f0 f : α → W) (p : α → Bool) : ∀ (l : List α) {d : SD}, wipeD d vs = wipeD d0 vs →
    (∀ a ∈ l, ∃ d1 d2, g (f0 a) (wipeD d0 vs) = some d1 ∧ t d1 = .ok (p a) d2 ∧ (p a = true → ∃ d3, e d2 = .ok (f a) d3 ∧ wipeD d3 vs = wipeD d0 vs) ∧ (p a = false → wipeD d2 vs = wipeD d0 vs)) → ∃ d4, lcD vs g t e (l.map f0) d = .ok ((l.filter p).map f) d4 ∧ wipeD d4 vs = wipeD d0 vs
  | [], d, hd, _ => ⟨d, rfl, hd⟩
  | a :: l, d, hd, h => by
    obtain ⟨d1, d2, h1, h2, h3, h4⟩ := h a List.mem_cons_self
    rw [List.map_cons, lcD_cons, hd, h1]
    dsimp only
    rw [h2]
    dsimp only [Out.bind]
    cases q : p a with
    | true =>
      obtain ⟨d3, h5, h6⟩ := h3 q
      obtain ⟨d4, h7, h8⟩ := lcD_of f0 f p l h6 fun x hx => h x (List.mem_cons_of_mem _ hx)
      refine ⟨d4, ?_, h8⟩
      rw [if_pos rfl, h5]
      dsimp only
      rw [h7, List.filter_cons, if_pos q]
      rfl
    | false =>
      obtain ⟨d4, h7, h8⟩ := lcD_of f0 f p l (h4 q) fun x hx => h x (List.mem_cons_of_mem _ hx)
      refine ⟨d4, ?_, h8⟩
      rw [if_neg Bool.false_ne_true, h7, List.filter_cons, if_neg (by rw [q]; exact Bool.false_ne_true)]
theorem mLc_of {α : Type} {vs : List Nat} {it : M (List W)} {g : GW} {t : M Bool} {e : M W} {d d' : SD} (l : List α) (f0 f : α → W) (p : α → Bool) (hit : it d = .ok (l.map f0) d') (hc : cleanD d' vs = true) (hl : l.length ≤ sizeLine)
    (h : ∀ a ∈ l, ∃ d1 d2, g (f0 a) (wipeD d' vs) = some d1 ∧ t d1 = .ok (p a) d2 ∧ (p a = true → ∃ d3, e d2 = .ok (f a) d3 ∧ wipeD d3 vs = wipeD d' vs) ∧ (p a = false → wipeD d2 vs = wipeD d' vs)) : mLc vs it g t e d = .ok (.list ((l.filter p).map f)) d' := by
  obtain ⟨d4, h1, h2⟩ := lcD_of f0 f p l (d := d') rfl h
  rw [ev_lc, hit]
  dsimp only [Out.bind]
  rw [if_pos ⟨hc, by rw [List.length_map]; exact hl⟩, h1]
  dsimp only
  rw [back_of_wipe h2]
theorem mLc_all {α : Type} {vs : List Nat} {it : M (List W)} {g : GW} {t : M Bool} {e : M W} {d d' : SD} (l : List α) (f0 f : α → W) (hit : it d = .ok (l.map f0) d') (hc : cleanD d' vs = true) (hl : l.length ≤ sizeLine)
    (h : ∀ a ∈ l, ∃ d1 d2 d3, g (f0 a) (wipeD d' vs) = some d1 ∧ t d1 = .ok true d2 ∧ e d2 = .ok (f a) d3 ∧ wipeD d3 vs = wipeD d' vs) : mLc vs it g t e d = .ok (.list (l.map f)) d' := by
  have := mLc_of l f0 f (fun _ => true) hit hc hl fun a ha => by
    obtain ⟨d1, d2, d3, h1, h2, h3, h4⟩ := h a ha
    exact ⟨d1, d2, h1, h2, fun _ => ⟨d3, h3, h4⟩, fun z => Bool.noConfusion z⟩
  rw [List.filter_eq_self.mpr (fun _ _ => rfl)] at this
  exact this
theorem rangeW_map (lo : Int) (n : Nat) : rangeW lo n = (List.range n).map fun (i : Nat) => PyData.int (lo + (i : Int)) := rfl
/-- a for over a list, with what holds between the turns -/
theorem forD_inv {α : Type} {g : GW} {b : MS} (f0 : α → W) (P : List α → SD → Prop) : ∀ (l : List α) (d : SD), P l d →
    (∀ (a : α) (r : List α) (d : SD), P (a :: r) d → ∃ d1 d2, g (f0 a) d = some d1 ∧ (b d1 = .next d2 ∨ b d1 = .cont d2) ∧ P r d2) → ∃ d', forD g b (l.map f0) d = .next d' ∧ P [] d'
  | [], d, h, _ => ⟨d, rfl, h⟩
  | a :: r, d, h, hs => by
    obtain ⟨d1, d2, e1, e2, h2⟩ := hs a r d h
    obtain ⟨d', e3, h3⟩ := forD_inv f0 P r d2 h2 hs
    refine ⟨d', ?_, h3⟩
    rw [List.map_cons, forD_cons, e1]
    rcases e2 with e2 | e2 <;> (dsimp only; rw [e2]; exact e3)
end Qd
end
section
set_option Elab.async false
set_option linter.all false
set_option maxRecDepth 100000
set_option maxHeartbeats 4000000
namespace K48
open PySem PySem.Spec PyProof.Rows L2 L2H Qd
def top (i : Nat) : Stmt := PySem.Challenge.pw_shardsheld_k48_whole_places_and_costs_of.main.body.getD i (.Pass ⟨0, 0, 0, 0⟩)
abbrev s__law_open : Stmt := top 23
abbrev s_is_number : Stmt := top 8
abbrev s_are_results : Stmt := top 18
abbrev s_place_between : Stmt := top 19
abbrev s_fewest_tests : Stmt := top 20
abbrev s_told_mineral : Stmt := top 21
abbrev s_tables : Stmt := top 12
abbrev s_worst_cost : Stmt := top 13
abbrev s_told_level : Stmt := top 14
abbrev s__law_told : Stmt := top 26
abbrev s__law_asked : Stmt := top 28
abbrev s__law_mixed : Stmt := top 24
abbrev s__law_draw : Stmt := top 25
abbrev s__law_tests : Stmt := top 29
abbrev s__law_int : Stmt := top 27
abbrev s__law_places : Stmt := top 30
abbrev s_law : Stmt := top 31
def subC : Nat → Nat → Bool := fun i j => [(0, 0), (1, 0), (1, 1), (2, 0), (2, 2), (3, 0), (3, 3), (4, 0), (4, 4), (5, 0), (5, 5)].contains (i, j)
structure Tx (K : PySem.W.Frag) (mg : Str → Option Value) (TC : Nat → Value) : Prop where
  c_MOST_COST : ∃ t, mg "MOST_COST" = some (.int 100 t)
  c_MOST_LEVELS : ∃ t, mg "MOST_LEVELS" = some (.int 60 t)
  c_MOST_MINERALS : ∃ t, mg "MOST_MINERALS" = some (.int 1000000 t)
  c_MOST_RESULTS : ∃ t, mg "MOST_RESULTS" = some (.int 40 t)
  n_abs : mg "abs" = none
  n_bool : mg "bool" = none
  n_int : mg "int" = none
  n_isinstance : mg "isinstance" = none
  n_len : mg "len" = none
  n_list : mg "list" = none
  n_max : mg "max" = none
  n_min : mg "min" = none
  n_range : mg "range" = none
  n_tuple : mg "tuple" = none
  e_ShardError : mg "ShardError" = some (TC 0)
  e_OutOfRange : mg "OutOfRange" = some (TC 1)
  r_OutOfRange : RF K mg (TC 1) "OutOfRange"
  e_Malformed : mg "Malformed" = some (TC 2)
  e_NotThere : mg "NotThere" = some (TC 3)
  e_Refused : mg "Refused" = some (TC 4)
  r_Refused : RF K mg (TC 4) "Refused"
  e_TooMuch : mg "TooMuch" = some (TC 5)
  cf : CF K TC 6 subC
structure Cl (K : PySem.W.Frag) (mg : Str → Option Value) (x : Str) (f : Addr) (fd : FuncData) (ps : List Str) : Prop where
  g : mg x = some (.ref f)
  k : PySem.W.keepIn K (.ref f) = true
  b : Binds K fd ps []
noncomputable def m__law_open : MS := (mSeq (mAsg (store 1) (mLc [2] (mItS (mSl (mVar 0) mNoPart (mPart (mC (.int 63))))) (store 2) mYes (mCallB absW (mCons (mCallB intW (mCons (mVar 2) mNil)) mNil))))
    (mRetF (mLst (mCons (mC (.int 0)) (mCons (mC (.int 0)) (mCons (mBin addW (mVar 1) (mLst (mCons (mC (.int 0)) mNil))) mNil))))))
noncomputable abbrev F__law_open : FV := runV 3 m__law_open
noncomputable def m_is_number : MS := (mRet (mAndV (mUn (isiW "int") (mVar 0)) (mAndV (mNotV (mUn (isiW "bool") (mVar 0))) (mChain leW leW (mVar 1) (mVar 0) (mVar 2)))))
noncomputable abbrev F_is_number : FV := runV 3 m_is_number
noncomputable def m_are_results : MS := (mSeq (mIf (mNotT (mTruth (mCallV F_is_number (mCons (mVar 0) (mCons (mC (.int 1)) (mCons (mC (.int 1000000)) mNil))))))
    (mRaise 1)
    mSkip)
    (mSeq (mIf (mOrT (mNotT (mTruth (mUn (isiW "tuple") (mVar 1)))) (mTest (mBin gtW (mCallB lenW (mCons (mVar 1) mNil)) (mC (.int 40)))))
    (mRet (mC (.bool false)))
    mSkip)
    (mSeq (mFor (mItS (mVar 1)) (store 2)
    (mSeq (mIf (mOrT (mNotT (mTruth (mUn (isiW "tuple") (mVar 2)))) (mOrT (mTest (mBin neW (mCallB lenW (mCons (mVar 2) mNil)) (mC (.int 2)))) (mNotT (mTruth (mCallV F_is_number (mCons (mBin ixW (mVar 2) (mC (.int 0))) (mCons (mC (.int 1)) (mCons (mVar 0) mNil))))))))
    (mRet (mC (.bool false)))
    mSkip)
    (mIf (mNotT (mTruth (mUn (isiW "bool") (mBin ixW (mVar 2) (mC (.int 1))))))
    (mRet (mC (.bool false)))
    mSkip)))
    (mRet (mC (.bool true))))))
noncomputable abbrev F_are_results : FV := runV 3 m_are_results
noncomputable def m_place_between : MS := (mSeq (mIf (mNotT (mTruth (mCallV F_is_number (mCons (mVar 0) (mCons (mC (.int 1)) (mCons (mC (.int 1000000)) mNil))))))
    (mRaise 1)
    mSkip)
    (mSeq (mAsg (store 2) (mCallB maxW (mCons (mBin addW (mLst (mCons (mC (.int 0)) mNil)) (mLc [4, 5] (mItS (mVar 1)) (gTupW 2 (gsCons (store 4) (gsCons (store 5) gsNil))) (mTruth (mVar 5)) (mVar 4))) mNil)))
    (mSeq (mAsg (store 3) (mCallB minW (mCons (mBin addW (mLst (mCons (mBin addW (mVar 0) (mC (.int 1))) mNil)) (mLc [4, 5] (mItS (mVar 1)) (gTupW 2 (gsCons (store 4) (gsCons (store 5) gsNil))) (mNotT (mTruth (mVar 5))) (mVar 4))) mNil)))
    (mSeq (mIf (mTest (mBin geW (mVar 2) (mVar 3)))
    (mRaise 4)
    mSkip)
    (mRet (mTup (mCons (mVar 2) (mCons (mVar 3) mNil))))))))
noncomputable abbrev F_place_between : FV := runV 6 m_place_between
noncomputable def m_fewest_tests : MS := (mSeq (mAsg (gTupW 2 (gsCons (store 2) (gsCons (store 3) gsNil))) (mCallV F_place_between (mCons (mVar 0) (mCons (mVar 1) mNil))))
    (mRet (mUn bitsW (mBin subW (mBin subW (mVar 3) (mVar 2)) (mC (.int 1))))))
noncomputable abbrev F_fewest_tests : FV := runV 4 m_fewest_tests
noncomputable def m_told_mineral : MS := (mSeq (mAsg (gTupW 2 (gsCons (store 2) (gsCons (store 3) gsNil))) (mCallV F_place_between (mCons (mVar 0) (mCons (mVar 1) mNil))))
    (mSeq (mAsg (store 4) (mCallV F_fewest_tests (mCons (mVar 0) (mCons (mVar 1) mNil))))
    (mSeq (mIf (mTest (mBin eqW (mVar 4) (mC (.int 0))))
    (mRet (mC .none))
    mSkip)
    (mSeq (mAsg (store 5) (mC (.int 1)))
    (mSeq (mFor (mRng1 (mCons (mBin subW (mVar 4) (mC (.int 1))) mNil)) (store 6)
    (mAsg (store 5) (mBin mulW (mC (.int 2)) (mVar 5))))
    (mRet (mCallB max2W (mCons (mBin addW (mVar 2) (mC (.int 1))) (mCons (mBin subW (mVar 3) (mVar 5)) mNil)))))))))
noncomputable abbrev F_told_mineral : FV := runV 7 m_told_mineral
noncomputable def m_tables : MS := (mSeq (mIf (mOrT (mNotT (mTruth (mCallV F_is_number (mCons (mVar 0) (mCons (mC (.int 0)) (mCons (mC (.int 60)) mNil)))))) (mOrT (mNotT (mTruth (mCallV F_is_number (mCons (mVar 1) (mCons (mC (.int 0)) (mCons (mC (.int 100)) mNil)))))) (mNotT (mTruth (mCallV F_is_number (mCons (mVar 2) (mCons (mC (.int 0)) (mCons (mC (.int 100)) mNil))))))))
    (mRaise 1)
    mSkip)
    (mSeq (mPar [3, 4] (mConsO (mLst (mCons (mC (.int 0)) mNil)) (mConsO (mLst (mCons (mC .none) mNil)) mNilO)))
    (mSeq (mFor (mRng2 (mCons (mC (.int 1)) (mCons (mBin addW (mVar 0) (mC (.int 1))) mNil))) (store 5)
    (mSeq (mAsg (store 6) (mLc [7] (mRng2 (mCons (mC (.int 1)) (mCons (mBin addW (mVar 5) (mC (.int 1))) mNil))) (store 7) mYes (mTup (mCons (mCallB max2W (mCons (mBin addW (mVar 1) (mSubOwn 3 (mBin subW (mVar 5) (mVar 7)))) (mCons (mBin addW (mVar 2) (mSubOwn 3 (mBin subW (mVar 7) (mC (.int 1))))) mNil))) (mCons (mVar 7) mNil)))))
    (mSeq (mDrop (mMeth "list" appendW 3 (mCons (mBin ixW (mCallB minW (mCons (mVar 6) mNil)) (mC (.int 0))) mNil)))
    (mDrop (mMeth "list" appendW 4 (mCons (mBin ixW (mCallB minW (mCons (mVar 6) mNil)) (mC (.int 1))) mNil))))))
    (mFrzS [3, 4] (mRet (mTup (mCons (mVar 3) (mCons (mVar 4) mNil))))))))
noncomputable abbrev F_tables : FV := runV 8 m_tables
noncomputable def m_worst_cost : MS := (mSeq (mAsg (gTupW 2 (gsCons (store 3) (gsCons (store 4) gsNil))) (mCallV F_tables (mCons (mVar 0) (mCons (mVar 1) (mCons (mVar 2) mNil)))))
    (mRet (mBin ixW (mVar 3) (mVar 0))))
noncomputable abbrev F_worst_cost : FV := runV 5 m_worst_cost
noncomputable def m_told_level : MS := (mSeq (mAsg (gTupW 2 (gsCons (store 3) (gsCons (store 4) gsNil))) (mCallV F_tables (mCons (mVar 0) (mCons (mVar 1) (mCons (mVar 2) mNil)))))
    (mRet (mBin ixW (mVar 4) (mVar 0))))
noncomputable abbrev F_told_level : FV := runV 5 m_told_level
noncomputable def m__law_told : MS := (mSeq (mAsg (store 1) (mLst (mCons (mTup (mCons (mC (.str "OutOfRange")) (mCons (mIsE 6 (fun k => subC k 1) (mVar 0)) mNil))) (mCons (mTup (mCons (mC (.str "Malformed")) (mCons (mIsE 6 (fun k => subC k 2) (mVar 0)) mNil))) (mCons (mTup (mCons (mC (.str "NotThere")) (mCons (mIsE 6 (fun k => subC k 3) (mVar 0)) mNil))) (mCons (mTup (mCons (mC (.str "Refused")) (mCons (mIsE 6 (fun k => subC k 4) (mVar 0)) mNil))) (mCons (mTup (mCons (mC (.str "TooMuch")) (mCons (mIsE 6 (fun k => subC k 5) (mVar 0)) mNil))) mNil)))))))
    (mSeq (mAsg (store 2) (mLc [3, 4] (mItL (mVar 1)) (gTupW 2 (gsCons (store 3) (gsCons (store 4) gsNil))) (mTruth (mVar 4)) (mVar 3)))
    (mSeq (mIf (mOrT (mTest (mBin neW (mCallB lenW (mCons (mVar 2) mNil)) (mC (.int 1)))) (mNotT (mTruth (mIsE 6 (fun k => subC k 0) (mVar 0)))))
    (mRet (mC (.str "several")))
    mSkip)
    (mRet (mBin ixW (mVar 2) (mC (.int 0)))))))
noncomputable abbrev F__law_told : FV := runV 5 m__law_told
noncomputable def m__law_asked : MS := (mTryRet 6 (fun k => subC k 0) 4
    (mSeq (mIf (mTest (mBin eqW (mVar 0) (mC (.int 0))))
    (mRet (mCallV F_are_results (mCons (mVar 1) (mCons (mVar 2) mNil))))
    mSkip)
    (mSeq (mIf (mTest (mBin eqW (mVar 0) (mC (.int 1))))
    (mRet (mCallV F_place_between (mCons (mVar 1) (mCons (mVar 2) mNil))))
    mSkip)
    (mSeq (mIf (mTest (mBin eqW (mVar 0) (mC (.int 2))))
    (mRet (mCallV F_fewest_tests (mCons (mVar 1) (mCons (mVar 2) mNil))))
    mSkip)
    (mSeq (mIf (mTest (mBin eqW (mVar 0) (mC (.int 3))))
    (mRet (mCallV F_told_mineral (mCons (mVar 1) (mCons (mVar 2) mNil))))
    mSkip)
    (mRet (mIfE (mTest (mBin eqW (mVar 0) (mC (.int 4)))) (mCallV F_worst_cost (mCons (mVar 1) (mCons (mVar 2) (mCons (mVar 3) mNil)))) (mCallV F_told_level (mCons (mVar 1) (mCons (mVar 2) (mCons (mVar 3) mNil))))))))))
    (mCallE F__law_told (mCons (mVar 4) mNil)))
noncomputable abbrev F__law_asked : FV := runV 5 m__law_asked
noncomputable def m__law_mixed : MS := (mSeq (mAsg (store 2) (mBin modW (mBin addW (mBin addW (mBin mulW (mBin modW (mVar 0) (mBin subW (mBin powW (mC (.int 2)) (mC (.int 61))) (mC (.int 1)))) (mC (.int 6364136223846793005))) (mBin mulW (mVar 1) (mC (.int 1442695040888963407)))) (mC (.int 97))) (mBin powW (mC (.int 2)) (mC (.int 61)))))
    (mSeq (mAsg (store 2) (mBin modW (mBin mulW (mBin xorW (mVar 2) (mBin shrW (mVar 2) (mC (.int 29)))) (mC (.int 3935559000370003845))) (mBin powW (mC (.int 2)) (mC (.int 61)))))
    (mRet (mBin modW (mBin mulW (mBin xorW (mVar 2) (mBin shrW (mVar 2) (mC (.int 31)))) (mC (.int 2862933555777941757))) (mBin powW (mC (.int 2)) (mC (.int 61)))))))
noncomputable abbrev F__law_mixed : FV := runV 3 m__law_mixed
noncomputable def m__law_draw : MS := (mSeq (mUnpOwn 0 3 (gsCons (store 2) (gsCons (store 3) (gsCons (store 4) gsNil))))
    (mSeq (mIf (mTest (mBin ltW (mVar 3) (mVar 1)))
    (mSeq (mAsg (store 5) (mBin ixW (mVar 4) (mBin modW (mVar 2) (mCallB lenW (mCons (mVar 4) mNil)))))
    (mSeq (mAsg (store 3) (mIfE (mAndT (mTest (mBin ltW (mVar 2) (mCallB lenW (mCons (mVar 4) mNil)))) (mTest (mBin geW (mVar 5) (mBin powW (mC (.int 10)) (mC (.int 18)))))) (mVar 5) (mCallV F__law_mixed (mCons (mVar 5) (mCons (mVar 2) mNil)))))
    (mAsg (store 2) (mBin addW (mVar 2) (mC (.int 1))))))
    mSkip)
    (mSeq (mSetIx setLW 0 (mC (.int 0)) (mVar 2))
    (mSeq (mSetIx setLW 0 (mC (.int 1)) (mBin fdivW (mVar 3) (mVar 1)))
    (mRet (mBin modW (mVar 3) (mVar 1)))))))
noncomputable abbrev F__law_draw : FW := runP 6 m__law_draw
noncomputable def m__law_tests : MS := (mSeq (mAsgOwn 1 (mLst (mCons (mTup (mCons (mC (.int 0)) (mCons (mC .none) mNil))) (mCons (mTup (mCons (mC (.int 0)) (mCons (mC .none) mNil))) mNil))))
    (mSeq (mFor (mRng2 (mCons (mC (.int 2)) (mCons (mBin addW (mVar 0) (mC (.int 1))) mNil))) (store 2)
    (mDrop (mMeth "list" appendW 1 (mCons (mCallB minW (mCons (mLc [3] (mRng2 (mCons (mC (.int 1)) (mCons (mVar 2) mNil))) (store 3) mYes (mTup (mCons (mBin addW (mC (.int 1)) (mCallB max2W (mCons (mBin ixW (mSubOwn 1 (mVar 3)) (mC (.int 0))) (mCons (mBin ixW (mSubOwn 1 (mBin subW (mVar 2) (mVar 3))) (mC (.int 0))) mNil)))) (mCons (mVar 3) mNil)))) mNil)) mNil))))
    (mFrzS [1] (mRet (mVar 1)))))
noncomputable abbrev F__law_tests : FV := runV 4 m__law_tests
noncomputable def m__law_int : MS := (mRet (mAndV (mUn (isiW "int") (mVar 0)) (mNotV (mUn (isiW "bool") (mVar 0)))))
noncomputable abbrev F__law_int : FV := runV 1 m__law_int
noncomputable def m__law_places : MS := (mSeq (mAsg (store 1) (mBin addW (mC (.int 1)) (mCallP F__law_draw 0 (mCons (mBin ixW (mLst (mCons (mC (.int 9)) (mCons (mC (.int 40)) (mCons (mBin powW (mC (.int 10)) (mC (.int 6))) mNil)))) (mCallP F__law_draw 0 (mCons (mC (.int 3)) mNil))) mNil))))
    (mSeq (mAsg (gTupW 2 (gsCons (store 2) (gsCons (store 3) gsNil))) (mTup (mCons (mCallP F__law_draw 0 (mCons (mBin addW (mVar 1) (mC (.int 1))) mNil)) (mCons (mTup mNil) mNil))))
    (mSeq (mFor (mRng1 (mCons (mCallP F__law_draw 0 (mCons (mC (.int 6)) mNil)) mNil)) (store 4)
    (mSeq (mAsg (store 5) (mBin addW (mC (.int 1)) (mCallP F__law_draw 0 (mCons (mVar 1) mNil))))
    (mAsg (store 3) (mBin addW (mVar 3) (mTup (mCons (mTup (mCons (mVar 5) (mCons (mIfE (mTest (mBin gtW (mCallP F__law_draw 0 (mCons (mC (.int 12)) mNil)) (mC (.int 0)))) (mBin leW (mVar 5) (mVar 2)) (mBin gtW (mVar 5) (mVar 2))) mNil))) mNil))))))
    (mSeq (mAsg (store 6) (mLst (mCons (mC .none) (mCons (mCallB listW (mCons (mVar 3) mNil)) (mCons (mBin mulW (mTup (mCons (mTup (mCons (mC (.int 1)) (mCons (mC (.bool true)) mNil))) mNil)) (mC (.int 41))) (mCons (mTup (mCons (mC .none) mNil)) (mCons (mTup (mCons (mTup (mCons (mC (.int 1)) mNil)) mNil)) (mCons (mTup (mCons (mLst (mCons (mC (.int 1)) (mCons (mC (.bool true)) mNil))) mNil)) (mCons (mTup (mCons (mTup (mCons (mC (.int 0)) (mCons (mC (.bool true)) mNil))) mNil)) (mCons (mTup (mCons (mTup (mCons (mBin addW (mVar 1) (mC (.int 1))) (mCons (mC (.bool true)) mNil))) mNil)) (mCons (mTup (mCons (mTup (mCons (mC (.int 1)) (mCons (mC (.int 1)) mNil))) mNil)) (mCons (mTup (mCons (mTup (mCons (mC (.int 1)) (mCons (mC .none) mNil))) mNil)) (mCons (mTup (mCons (mTup (mCons (mC (.bool true)) (mCons (mC (.bool true)) mNil))) mNil)) (mCons (mTup (mCons (mTup (mCons (mC .none) (mCons (mC (.bool false)) mNil))) mNil)) (mCons (mTup (mCons (mTup (mCons (mC (.int 1)) (mCons (mC (.bool true)) (mCons (mC (.int 0)) mNil)))) mNil)) (mCons (mC (.int 5)) mNil))))))))))))))))
    (mSeq (mIf (mOrT (mTest (mBin notBW (mCallV F__law_asked (mCons (mC (.int 0)) (mCons (mVar 1) (mCons (mVar 3) (mCons (mC (.int 0)) mNil))))) (mC (.bool true)))) (mTest (mBin neW (mLc [19] (mItS (mVar 6)) (store 19) (mTest (mBin notBW (mCallV F__law_asked (mCons (mC (.int 0)) (mCons (mVar 1) (mCons (mVar 19) (mCons (mC (.int 0)) mNil))))) (mC (.bool false)))) (mVar 19)) (mLst mNil))))
    (mRet (mC (.bool false)))
    mSkip)
    (mSeq (mAsg (store 7) (mCallB maxW (mCons (mBin addW (mLst (mCons (mC (.int 0)) mNil)) (mLc [5, 20] (mItS (mVar 3)) (gTupW 2 (gsCons (store 5) (gsCons (store 20) gsNil))) (mTruth (mVar 20)) (mVar 5))) mNil)))
    (mSeq (mAsg (store 8) (mCallB minW (mCons (mBin addW (mLst (mCons (mBin addW (mVar 1) (mC (.int 1))) mNil)) (mLc [5, 20] (mItS (mVar 3)) (gTupW 2 (gsCons (store 5) (gsCons (store 20) gsNil))) (mNotT (mTruth (mVar 20))) (mVar 5))) mNil)))
    (mSeq (mIf (mTest (mBin geW (mVar 7) (mVar 8)))
    (mRet (mBin eqW (mLc [18] (mItS (mTup (mCons (mC (.int 1)) (mCons (mC (.int 2)) (mCons (mC (.int 3)) mNil))))) (store 18) mYes (mCallV F__law_asked (mCons (mVar 18) (mCons (mVar 1) (mCons (mVar 3) (mCons (mC (.int 0)) mNil)))))) (mRepF (mLst (mCons (mC (.str "Refused")) mNil)) (mC (.int 3)))))
    mSkip)
    (mSeq (mAsg (store 9) (mCallV F__law_asked (mCons (mC (.int 2)) (mCons (mVar 1) (mCons (mVar 3) (mCons (mC (.int 0)) mNil))))))
    (mSeq (mIf (mOrT (mTest (mBin neW (mCallV F__law_asked (mCons (mC (.int 1)) (mCons (mVar 1) (mCons (mVar 3) (mCons (mC (.int 0)) mNil))))) (mTup (mCons (mVar 7) (mCons (mVar 8) mNil))))) (mNotT (mTruth (mCallV F__law_int (mCons (mVar 9) mNil)))))
    (mRet (mC (.bool false)))
    mSkip)
    (mSeq (mAsgOwn 10 (mLst (mCons (mC (.int 1)) mNil)))
    (mSeq (mFor (mRng1 (mCons (mC (.int 21)) mNil)) (store 11)
    (mDrop (mMeth "list" appendW 10 (mCons (mBin mulW (mC (.int 2)) (mSubOwn 10 (mUn negW (mC (.int 1))))) mNil))))
    (mFrzS [10] (mSeq (mIf (mTest (mBin neW (mVar 9) (mBin ixW (mLc [11] (mRng1 (mCons (mC (.int 21)) mNil)) (store 11) (mTest (mBin geW (mBin ixW (mVar 10) (mVar 11)) (mBin subW (mVar 8) (mVar 7)))) (mVar 11)) (mC (.int 0)))))
    (mRet (mC (.bool false)))
    mSkip)
    (mSeq (mIf (mTest (mBin ltW (mBin subW (mVar 8) (mVar 7)) (mC (.int 45))))
    (mSeq (mAsg (store 12) (mCallV F__law_tests (mCons (mBin subW (mVar 8) (mVar 7)) mNil)))
    (mSeq (mAsg (store 13) (mBin ixW (mBin ixW (mVar 12) (mBin subW (mVar 8) (mVar 7))) (mC (.int 1))))
    (mIf (mOrT (mTest (mBin neW (mVar 9) (mBin ixW (mBin ixW (mVar 12) (mBin subW (mVar 8) (mVar 7))) (mC (.int 0))))) (mTest (mBin neW (mCallV F__law_asked (mCons (mC (.int 3)) (mCons (mVar 1) (mCons (mVar 3) (mCons (mC (.int 0)) mNil))))) (mIfE (mTest (mBin notNW (mVar 13) (mC .none))) (mBin addW (mVar 7) (mVar 13)) (mC .none)))))
    (mRet (mC (.bool false)))
    mSkip)))
    mSkip)
    (mSeq (mPar [14, 15] (mConsV (mBin addW (mVar 7) (mCallP F__law_draw 0 (mCons (mBin subW (mVar 8) (mVar 7)) mNil))) (mConsV (mSl (mVar 3) mNoPart (mPart (mC (.int 8)))) mNilO)))
    (mSeq (mFor (mRng1 (mCons (mVar 9) mNil)) (store 4)
    (mSeq (mAsg (store 5) (mCallV F__law_asked (mCons (mC (.int 3)) (mCons (mVar 1) (mCons (mVar 15) (mCons (mC (.int 0)) mNil))))))
    (mIf (mTest (mBin notNW (mVar 5) (mC .none)))
    (mAsg (store 15) (mBin addW (mVar 15) (mTup (mCons (mTup (mCons (mVar 5) (mCons (mBin leW (mVar 5) (mVar 14)) mNil))) mNil))))
    mSkip)))
    (mSeq (mIf (mOrT (mTest (mBin neW (mCallV F__law_asked (mCons (mC (.int 1)) (mCons (mVar 1) (mCons (mVar 15) (mCons (mC (.int 0)) mNil))))) (mTup (mCons (mVar 14) (mCons (mBin addW (mVar 14) (mC (.int 1))) mNil))))) (mTest (mBin notNW (mCallV F__law_asked (mCons (mC (.int 3)) (mCons (mVar 1) (mCons (mVar 15) (mCons (mC (.int 0)) mNil))))) (mC .none))))
    (mRet (mC (.bool false)))
    mSkip)
    (mSeq (mAsg (store 16) (mTup (mCons (mTup (mCons (mC (.int 1)) (mCons (mC (.bool true)) mNil))) (mCons (mTup (mCons (mC (.int 1)) (mCons (mC (.bool false)) mNil))) mNil))))
    (mSeq (mAsg (store 17) (mLst mNil))
    (mSeq (mFor (mRng1 (mCons (mC (.int 4)) mNil)) (store 18)
    (mAsg (store 17) (mBin addW (mVar 17) (mLc [5] (mItS (mTup (mCons (mC (.int 0)) (mCons (mBin addW (mBin powW (mC (.int 10)) (mC (.int 6))) (mC (.int 1))) mNil)))) (store 5) mYes (mCallV F__law_asked (mCons (mVar 18) (mCons (mVar 5) (mCons (mVar 16) (mCons (mC (.int 0)) mNil)))))))))
    (mRet (mBin eqW (mVar 17) (mRepF (mLst (mCons (mC (.str "OutOfRange")) mNil)) (mC (.int 8))))))))))))))))))))))))))
noncomputable abbrev F__law_places : FW := runP 21 m__law_places
noncomputable def m_law : MS := (mSeq (mAsgOwn 1 (mCallO F__law_open (mCons (mVar 0) mNil)))
    (mSeq (mIf (mNotT (mTruth (mCallP F__law_places 1 mNil)))
    (mRet (mC (.bool false)))
    mSkip)
    (mSeq (mAsg (gTupW 2 (gsCons (store 2) (gsCons (store 3) gsNil))) (mTup (mCons (mCallP F__law_draw 1 (mCons (mBin ixW (mLst (mCons (mC (.int 9)) (mCons (mC (.int 61)) mNil))) (mCallP F__law_draw 1 (mCons (mC (.int 2)) mNil))) mNil)) (mCons (mCallP F__law_draw 1 (mCons (mC (.int 4)) mNil)) mNil))))
    (mSeq (mPar [4, 5] (mConsV (mBin ixW (mLst (mCons (mCallP F__law_draw 1 (mCons (mC (.int 6)) mNil)) (mCons (mCallP F__law_draw 1 (mCons (mC (.int 101)) mNil)) (mCons (mC (.int 1)) (mCons (mC (.int 0)) mNil))))) (mVar 3)) (mConsV (mBin ixW (mLst (mCons (mCallP F__law_draw 1 (mCons (mC (.int 40)) mNil)) (mCons (mCallP F__law_draw 1 (mCons (mC (.int 101)) mNil)) (mCons (mC (.int 1)) (mCons (mCallP F__law_draw 1 (mCons (mC (.int 101)) mNil)) mNil))))) (mVar 3)) mNilO)))
    (mFrzS [1] (mSeq (mPar [6, 7] (mConsO (mLst (mCons (mC (.int 0)) mNil)) (mConsO (mLst (mCons (mC .none) mNil)) mNilO)))
    (mSeq (mFor (mRng2 (mCons (mC (.int 1)) (mCons (mBin addW (mVar 2) (mC (.int 1))) mNil))) (store 8)
    (mSeq (mAsgOwn 9 (mLst mNil))
    (mSeq (mFor (mRng2 (mCons (mC (.int 1)) (mCons (mBin addW (mVar 8) (mC (.int 1))) mNil))) (store 10)
    (mDrop (mMeth "list" appendW 9 (mCons (mTup (mCons (mCallB max2W (mCons (mBin addW (mVar 4) (mSubOwn 6 (mBin subW (mVar 8) (mVar 10)))) (mCons (mBin addW (mVar 5) (mSubOwn 6 (mBin subW (mVar 10) (mC (.int 1))))) mNil))) (mCons (mVar 10) mNil))) mNil))))
    (mFrzS [9] (mSeq (mDrop (mMeth "list" appendW 6 (mCons (mBin ixW (mCallB minW (mCons (mVar 9) mNil)) (mC (.int 0))) mNil)))
    (mDrop (mMeth "list" appendW 7 (mCons (mBin ixW (mCallB minW (mCons (mVar 9) mNil)) (mC (.int 1))) mNil))))))))
    (mFrzS [6, 7, 9] (mSeq (mAsg (store 11) (mCallV F__law_asked (mCons (mC (.int 4)) (mCons (mVar 2) (mCons (mVar 4) (mCons (mVar 5) mNil))))))
    (mSeq (mIf (mOrT (mTest (mBin neW (mVar 11) (mBin ixW (mVar 6) (mVar 2)))) (mOrT (mNotT (mTruth (mCallV F__law_int (mCons (mVar 11) mNil)))) (mTest (mBin neW (mCallV F__law_asked (mCons (mC (.int 5)) (mCons (mVar 2) (mCons (mVar 4) (mCons (mVar 5) mNil))))) (mBin ixW (mVar 7) (mVar 2))))))
    (mRet (mC (.bool false)))
    mSkip)
    (mSeq (mIf (mTest (mBin neW (mLc [15] (mRng2 (mCons (mC (.int 1)) (mCons (mBin addW (mVar 2) (mC (.int 1))) mNil))) (store 15) (mTest (mBin ltW (mBin ixW (mVar 6) (mVar 15)) (mBin ixW (mVar 6) (mBin subW (mVar 15) (mC (.int 1)))))) (mVar 15)) (mLst mNil)))
    (mRet (mC (.bool false)))
    mSkip)
    (mSeq (mIf (mTest (mBin eqW (mVar 3) (mC (.int 2))))
    (mSeq (mAsg (store 12) (mLst (mCons (mC (.int 1)) (mCons (mC (.int 2)) (mCons (mC (.int 4)) (mCons (mC (.int 8)) (mCons (mC (.int 16)) (mCons (mC (.int 32)) (mCons (mC (.int 64)) mNil)))))))))
    (mIf (mTest (mBin neW (mVar 11) (mBin ixW (mLc [15] (mRng1 (mCons (mC (.int 7)) mNil)) (store 15) (mTest (mBin gtW (mBin ixW (mVar 12) (mVar 15)) (mVar 2))) (mVar 15)) (mC (.int 0)))))
    (mRet (mC (.bool false)))
    mSkip))
    mSkip)
    (mSeq (mIf (mAndT (mTest (mBin eqW (mVar 3) (mC (.int 3)))) (mAndT (mTest (mBin gtW (mVar 2) (mC (.int 0)))) (mTest (mBin neW (mVar 11) (mVar 5)))))
    (mRet (mC (.bool false)))
    mSkip)
    (mSeq (mIf (mOrT (mAndT (mTest (mBin gtW (mVar 4) (mC (.int 0)))) (mTest (mBin gtW (mCallV F_worst_cost (mCons (mVar 2) (mCons (mBin subW (mVar 4) (mC (.int 1))) (mCons (mVar 5) mNil)))) (mVar 11)))) (mAndT (mTest (mBin gtW (mVar 5) (mC (.int 0)))) (mTest (mBin gtW (mCallV F_worst_cost (mCons (mVar 2) (mCons (mVar 4) (mCons (mBin subW (mVar 5) (mC (.int 1))) mNil)))) (mVar 11)))))
    (mRet (mC (.bool false)))
    mSkip)
    (mSeq (mAsg (store 13) (mLst mNil))
    (mSeq (mFor (mItS (mTup (mCons (mC (.int 4)) (mCons (mC (.int 5)) mNil)))) (store 14)
    (mAsg (store 13) (mBin addW (mVar 13) (mLc [16, 17, 18] (mItS (mLst (mCons (mTup (mCons (mUn negW (mC (.int 1))) (mCons (mC (.int 0)) (mCons (mC (.int 0)) mNil)))) (mCons (mTup (mCons (mC (.int 61)) (mCons (mC (.int 0)) (mCons (mC (.int 0)) mNil)))) (mCons (mTup (mCons (mC (.int 5)) (mCons (mUn negW (mC (.int 1))) (mCons (mC (.int 0)) mNil)))) (mCons (mTup (mCons (mC (.int 5)) (mCons (mC (.int 101)) (mCons (mC (.int 0)) mNil)))) (mCons (mTup (mCons (mC (.int 5)) (mCons (mC (.int 0)) (mCons (mUn negW (mC (.int 1))) mNil)))) (mCons (mTup (mCons (mC (.int 5)) (mCons (mC (.int 0)) (mCons (mC (.int 101)) mNil)))) mNil)))))))) (gTupW 3 (gsCons (store 16) (gsCons (store 17) (gsCons (store 18) gsNil)))) mYes (mCallV F__law_asked (mCons (mVar 14) (mCons (mVar 16) (mCons (mVar 17) (mCons (mVar 18) mNil)))))))))
    (mRet (mBin eqW (mVar 13) (mRepF (mLst (mCons (mC (.str "OutOfRange")) mNil)) (mC (.int 12)))))))))))))))))))))
noncomputable abbrev F_law : FV := runV 19 m_law
section
variable {P : Program} {w : World} {K : PySem.W.Frag} {mg : Str → Option Value} {base : Heap} {TC : Nat → Value}
theorem sc__law_open : FnScope ["script", "cells", "cell"] ["script"] (defScope s__law_open) := ⟨rfl, rfl, rfl, by decide +kernel, rfl, by decide +kernel, by decide +kernel⟩
theorem ok__law_open {a__law_open : Addr} {fd__law_open : FuncData} (F : Fun K "_law_open" "_law_open" s__law_open a__law_open fd__law_open) (T : Tx K mg TC) : FnOk P w K mg base (L2N.CX P w) 1 a__law_open fd__law_open ["script"] (spV K TC false F__law_open 1) :=
  fn_V F sc__law_open rfl (by decide) fun cdv A outer s H E hr => by
    have hu := room_hu hr
    exact (ds_cons (ds_ofE (i := 1) (ps_toE (as_lc (own := [("cell", 2)]) rfl sc__law_open.nd (di_seq (d_slice (d_var 0) do_none (do_some d_int))) (blkOk_by (by kernel_rfl)) (by decide) (fun s H C cl fp => (dg_name 2 sc__law_open.nd)) (fun s H C cl fp => dts_nil) (fun s H C cl fp => (d_callB cd_abs T.n_abs (by decide +kernel) (d_cons (d_callTy cd_int T.n_int (by decide +kernel) (d_cons (d_var 2) d_nil)) d_nil))))))
    (ds_one (ds_retOwn (df_lst (d_cons d_int (d_cons d_int (d_cons (d_op od_add (d_var 1) ((df_lst (d_cons d_int d_nil))).e) d_nil)))))))
theorem sc_is_number : FnScope ["value", "least", "most"] ["value", "least", "most"] (defScope s_is_number) := ⟨rfl, rfl, rfl, by decide +kernel, rfl, by decide +kernel, by decide +kernel⟩
theorem ok_is_number {a_is_number : Addr} {fd_is_number : FuncData} (F : Fun K "is_number" "is_number" s_is_number a_is_number fd_is_number) (T : Tx K mg TC) : FnOk P w K mg base (L2N.CX P w) 1 a_is_number fd_is_number ["value", "least", "most"] (spV K TC false F_is_number 3) :=
  fn_V F sc_is_number rfl (by decide) fun cdv A outer s H E hr => by
    have hu := room_hu hr
    exact (ds_one (ds_ret (d_and (d_isi (T := "int") (d_var 0) T.n_isinstance T.n_int (by decide +kernel)) (d_and (d_not (d_isi (T := "bool") (d_var 0) T.n_isinstance T.n_bool (by decide +kernel))) (d_one (d_chain (od_le (hu64 hu)) (od_le (hu64 hu)) (d_var 1) (d_var 0) (d_var 2)))))))
theorem sc_are_results : FnScope ["minerals", "value", "pair"] ["minerals", "value"] (defScope s_are_results) := ⟨rfl, rfl, rfl, by decide +kernel, rfl, by decide +kernel, by decide +kernel⟩
theorem ok_are_results {a_are_results : Addr} {fd_are_results : FuncData} {a_is_number : Addr} {fd_is_number : FuncData} (F : Fun K "are_results" "are_results" s_are_results a_are_results fd_are_results) (T : Tx K mg TC) (C_is_number : Cl K mg "is_number" a_is_number fd_is_number ["value", "least", "most"]) (G_is_number : FnOk P w K mg base (L2N.CX P w) 1 a_is_number fd_is_number ["value", "least", "most"] (spV K TC false F_is_number 3)) : FnOk P w K mg base (L2N.CX P w) 2 a_are_results fd_are_results ["minerals", "value"] (spV K TC false F_are_results 2) :=
  fn_V F sc_are_results rfl (by decide) fun cdv A outer s H E hr => by
    have hu := room_hu hr
    exact (ds_cons (ds_if (dt_not (dt_val (d_callV G_is_number (hr.mono (by decide)) (L2N.takes_of rfl rfl rfl rfl) rfl C_is_number.g C_is_number.k C_is_number.b (d_cons (d_var 0) (d_cons d_int (d_cons (d_globI T.c_MOST_MINERALS) d_nil))) (len_cons (len_cons (len_cons len_nil))))))
    (ds_one (ds_raise rfl (L2N.takes_of rfl rfl rfl rfl) T.r_OutOfRange))
    ds_nil)
    (ds_cons (ds_if ((dw_or (dt_not (dt_val (d_isi (T := "tuple") (d_var 1) T.n_isinstance T.n_tuple (by decide +kernel)))) (dw_or1 (dt_cmp (od_gt (hu64 hu)) (d_callB cd_len T.n_len (by decide +kernel) (d_cons (d_var 1) d_nil)) (d_globI T.c_MOST_RESULTS))))).dt
    (ds_one (ds_ret d_bl))
    ds_nil)
    (ds_cons (ds_for (passes_of rfl) rfl (di_seq (d_var 1)) (dg_name 2 sc_are_results.nd)
    (ds_cons (ds_if ((dw_or (dt_not (dt_val (d_isi (T := "tuple") (d_var 2) T.n_isinstance T.n_tuple (by decide +kernel)))) (dw_or (dt_cmp (od_ne (hu64 hu)) (d_callB cd_len T.n_len (by decide +kernel) (d_cons (d_var 2) d_nil)) d_int) (dw_or1 (dt_not (dt_val (d_callV G_is_number (hr.mono (by decide)) (L2N.takes_of rfl rfl rfl rfl) rfl C_is_number.g C_is_number.k C_is_number.b (d_cons (d_ix (d_var 2) d_int (fun _ _ => rfl)) (d_cons d_int (d_cons (d_var 0) d_nil))) (len_cons (len_cons (len_cons len_nil)))))))))).dt
    (ds_one (ds_ret d_bl))
    ds_nil)
    (ds_one (ds_if (dt_not (dt_val (d_isi (T := "bool") (d_ix (d_var 2) d_int (fun _ _ => rfl)) T.n_isinstance T.n_bool (by decide +kernel))))
    (ds_one (ds_ret d_bl))
    ds_nil))))
    (ds_one (ds_ret d_bl)))))
theorem sc_place_between : FnScope ["minerals", "results", "low", "high", "one", "scratched"] ["minerals", "results"] (defScope s_place_between) := ⟨rfl, rfl, rfl, by decide +kernel, rfl, by decide +kernel, by decide +kernel⟩
theorem ok_place_between {a_place_between : Addr} {fd_place_between : FuncData} {a_is_number : Addr} {fd_is_number : FuncData} (F : Fun K "place_between" "place_between" s_place_between a_place_between fd_place_between) (T : Tx K mg TC) (C_is_number : Cl K mg "is_number" a_is_number fd_is_number ["value", "least", "most"]) (G_is_number : FnOk P w K mg base (L2N.CX P w) 1 a_is_number fd_is_number ["value", "least", "most"] (spV K TC false F_is_number 3)) : FnOk P w K mg base (L2N.CX P w) 2 a_place_between fd_place_between ["minerals", "results"] (spV K TC false F_place_between 2) :=
  fn_V F sc_place_between rfl (by decide) fun cdv A outer s H E hr => by
    have hu := room_hu hr
    exact (ds_cons (ds_if (dt_not (dt_val (d_callV G_is_number (hr.mono (by decide)) (L2N.takes_of rfl rfl rfl rfl) rfl C_is_number.g C_is_number.k C_is_number.b (d_cons (d_var 0) (d_cons d_int (d_cons (d_globI T.c_MOST_MINERALS) d_nil))) (len_cons (len_cons (len_cons len_nil))))))
    (ds_one (ds_raise rfl (L2N.takes_of rfl rfl rfl rfl) T.r_OutOfRange))
    ds_nil)
    (ds_cons (ds_set (i := 2) sc_place_between.nd (d_callB (cd_max rfl hu) T.n_max (by decide +kernel) (d_cons (d_op od_add ((df_lst (d_cons d_int d_nil))).e ((df_lc (own := [("one", 4), ("scratched", 5)]) rfl sc_place_between.nd (di_seq (d_var 1)) (blkOk_by (by kernel_rfl)) (by decide) (fun s H C cl fp => (dg_tup rfl (dgs_cons (dg_name 4 sc_place_between.nd) (dgs_cons (dg_name 5 sc_place_between.nd) dgs_nil)))) (fun s H C cl fp => (dts_one (dt_val (d_var 5)))) (fun s H C cl fp => (d_var 4)))).e) d_nil)))
    (ds_cons (ds_set (i := 3) sc_place_between.nd (d_callB (cd_min rfl hu) T.n_min (by decide +kernel) (d_cons (d_op od_add ((df_lst (d_cons (d_op od_add (d_var 0) d_int) d_nil))).e ((df_lc (own := [("one", 4), ("scratched", 5)]) rfl sc_place_between.nd (di_seq (d_var 1)) (blkOk_by (by kernel_rfl)) (by decide) (fun s H C cl fp => (dg_tup rfl (dgs_cons (dg_name 4 sc_place_between.nd) (dgs_cons (dg_name 5 sc_place_between.nd) dgs_nil)))) (fun s H C cl fp => (dts_one (dt_not (dt_val (d_var 5))))) (fun s H C cl fp => (d_var 4)))).e) d_nil)))
    (ds_cons (ds_if (dt_cmp (od_ge (hu64 hu)) (d_var 2) (d_var 3))
    (ds_one (ds_raise rfl (L2N.takes_of rfl rfl rfl rfl) T.r_Refused))
    ds_nil)
    (ds_one (ds_ret (d_tup (d_cons (d_var 2) (d_cons (d_var 3) d_nil)))))))))
theorem sc_fewest_tests : FnScope ["minerals", "results", "low", "high"] ["minerals", "results"] (defScope s_fewest_tests) := ⟨rfl, rfl, rfl, by decide +kernel, rfl, by decide +kernel, by decide +kernel⟩
theorem ok_fewest_tests {a_fewest_tests : Addr} {fd_fewest_tests : FuncData} {a_place_between : Addr} {fd_place_between : FuncData} (F : Fun K "fewest_tests" "fewest_tests" s_fewest_tests a_fewest_tests fd_fewest_tests) (T : Tx K mg TC) (C_place_between : Cl K mg "place_between" a_place_between fd_place_between ["minerals", "results"]) (G_place_between : FnOk P w K mg base (L2N.CX P w) 2 a_place_between fd_place_between ["minerals", "results"] (spV K TC false F_place_between 2)) : FnOk P w K mg base (L2N.CX P w) 3 a_fewest_tests fd_fewest_tests ["minerals", "results"] (spV K TC false F_fewest_tests 2) :=
  fn_V F sc_fewest_tests rfl (by decide) fun cdv A outer s H E hr => by
    have hu := room_hu hr
    exact (ds_cons (ds_asg (dg_tup rfl (dgs_cons (dg_name 2 sc_fewest_tests.nd) (dgs_cons (dg_name 3 sc_fewest_tests.nd) dgs_nil))) (d_callV G_place_between (hr.mono (by decide)) (L2N.takes_of rfl rfl rfl rfl) rfl C_place_between.g C_place_between.k C_place_between.b (d_cons (d_var 0) (d_cons (d_var 1) d_nil)) (len_cons (len_cons len_nil))))
    (ds_one (ds_ret (d_bits (d_op od_sub (d_op od_sub (d_var 3) (d_var 2)) d_int)))))
theorem sc_told_mineral : FnScope ["minerals", "results", "low", "high", "tests", "half", "turn"] ["minerals", "results"] (defScope s_told_mineral) := ⟨rfl, rfl, rfl, by decide +kernel, rfl, by decide +kernel, by decide +kernel⟩
theorem ok_told_mineral {a_told_mineral : Addr} {fd_told_mineral : FuncData} {a_place_between : Addr} {fd_place_between : FuncData} {a_fewest_tests : Addr} {fd_fewest_tests : FuncData} (F : Fun K "told_mineral" "told_mineral" s_told_mineral a_told_mineral fd_told_mineral) (T : Tx K mg TC) (C_place_between : Cl K mg "place_between" a_place_between fd_place_between ["minerals", "results"]) (G_place_between : FnOk P w K mg base (L2N.CX P w) 2 a_place_between fd_place_between ["minerals", "results"] (spV K TC false F_place_between 2)) (C_fewest_tests : Cl K mg "fewest_tests" a_fewest_tests fd_fewest_tests ["minerals", "results"]) (G_fewest_tests : FnOk P w K mg base (L2N.CX P w) 3 a_fewest_tests fd_fewest_tests ["minerals", "results"] (spV K TC false F_fewest_tests 2)) : FnOk P w K mg base (L2N.CX P w) 4 a_told_mineral fd_told_mineral ["minerals", "results"] (spV K TC false F_told_mineral 2) :=
  fn_V F sc_told_mineral rfl (by decide) fun cdv A outer s H E hr => by
    have hu := room_hu hr
    exact (ds_cons (ds_asg (dg_tup rfl (dgs_cons (dg_name 2 sc_told_mineral.nd) (dgs_cons (dg_name 3 sc_told_mineral.nd) dgs_nil))) (d_callV G_place_between (hr.mono (by decide)) (L2N.takes_of rfl rfl rfl rfl) rfl C_place_between.g C_place_between.k C_place_between.b (d_cons (d_var 0) (d_cons (d_var 1) d_nil)) (len_cons (len_cons len_nil))))
    (ds_cons (ds_set (i := 4) sc_told_mineral.nd (d_callV G_fewest_tests (hr.mono (by decide)) (L2N.takes_of rfl rfl rfl rfl) rfl C_fewest_tests.g C_fewest_tests.k C_fewest_tests.b (d_cons (d_var 0) (d_cons (d_var 1) d_nil)) (len_cons (len_cons len_nil))))
    (ds_cons (ds_if (dt_cmp (od_eq (hu64 hu)) (d_var 4) d_int)
    (ds_one (ds_ret d_non))
    ds_nil)
    (ds_cons (ds_set (i := 5) sc_told_mineral.nd d_int)
    (ds_cons (ds_for (passes_of rfl) rfl (di_range1 T.n_range (d_cons (d_op od_sub (d_var 4) d_int) d_nil)) (dg_name 6 sc_told_mineral.nd)
    (ds_one (ds_set (i := 5) sc_told_mineral.nd (d_op od_mul d_int (d_var 5)))))
    (ds_one (ds_ret (d_callB (cd_max2 rfl) T.n_max (by decide +kernel) (d_cons (d_op od_add (d_var 2) d_int) (d_cons (d_op od_sub (d_var 3) (d_var 5)) d_nil))))))))))
theorem sc_tables : FnScope ["levels", "low", "high", "costs", "firsts", "many", "found", "x"] ["levels", "low", "high"] (defScope s_tables) := ⟨rfl, rfl, rfl, by decide +kernel, rfl, by decide +kernel, by decide +kernel⟩
theorem ok_tables {a_tables : Addr} {fd_tables : FuncData} {a_is_number : Addr} {fd_is_number : FuncData} (F : Fun K "tables" "tables" s_tables a_tables fd_tables) (T : Tx K mg TC) (C_is_number : Cl K mg "is_number" a_is_number fd_is_number ["value", "least", "most"]) (G_is_number : FnOk P w K mg base (L2N.CX P w) 1 a_is_number fd_is_number ["value", "least", "most"] (spV K TC false F_is_number 3)) : FnOk P w K mg base (L2N.CX P w) 2 a_tables fd_tables ["levels", "low", "high"] (spV K TC false F_tables 3) :=
  fn_V F sc_tables rfl (by decide) fun cdv A outer s H E hr => by
    have hu := room_hu hr
    exact (ds_cons (ds_if ((dw_or (dt_not (dt_val (d_callV G_is_number (hr.mono (by decide)) (L2N.takes_of rfl rfl rfl rfl) rfl C_is_number.g C_is_number.k C_is_number.b (d_cons (d_var 0) (d_cons d_int (d_cons (d_globI T.c_MOST_LEVELS) d_nil))) (len_cons (len_cons (len_cons len_nil)))))) (dw_or (dt_not (dt_val (d_callV G_is_number (hr.mono (by decide)) (L2N.takes_of rfl rfl rfl rfl) rfl C_is_number.g C_is_number.k C_is_number.b (d_cons (d_var 1) (d_cons d_int (d_cons (d_globI T.c_MOST_COST) d_nil))) (len_cons (len_cons (len_cons len_nil)))))) (dw_or1 (dt_not (dt_val (d_callV G_is_number (hr.mono (by decide)) (L2N.takes_of rfl rfl rfl rfl) rfl C_is_number.g C_is_number.k C_is_number.b (d_cons (d_var 2) (d_cons d_int (d_cons (d_globI T.c_MOST_COST) d_nil))) (len_cons (len_cons (len_cons len_nil)))))))))).dt
    (ds_one (ds_raise rfl (L2N.takes_of rfl rfl rfl rfl) T.r_OutOfRange))
    ds_nil)
    (ds_cons (ds_parN (is := [3, 4]) rfl (dlo_own (df_lst (d_cons d_int d_nil)) (dlo_own (df_lst (d_cons d_non d_nil)) dlo_nil)) (lenO_cons (lenO_cons lenO_nil)) (nms_cons (i := 3) sc_tables.nd (nms_cons (i := 4) sc_tables.nd .nil)) (by decide))
    (ds_cons (ds_for (passes_of rfl) rfl (di_range2 T.n_range (d_cons d_int (d_cons (d_op od_add (d_var 0) d_int) d_nil))) (dg_name 5 sc_tables.nd)
    (ds_cons (ds_ofE (i := 6) (ps_toE (as_lc (own := [("x", 7)]) rfl sc_tables.nd (di_range2 T.n_range (d_cons d_int (d_cons (d_op od_add (d_var 5) d_int) d_nil))) (blkOk_by (by kernel_rfl)) (by decide) (fun s H C cl fp => (dg_name 7 sc_tables.nd)) (fun s H C cl fp => dts_nil) (fun s H C cl fp => (d_tup (d_cons (d_callB (cd_max2 rfl) T.n_max (by decide +kernel) (d_cons (d_op od_add (d_var 1) (d_subOwn (i := 3) (d_op od_sub (d_var 5) (d_var 7)) (fun _ _ => rfl))) (d_cons (d_op od_add (d_var 2) (d_subOwn (i := 3) (d_op od_sub (d_var 7) d_int) (fun _ _ => rfl))) d_nil))) (d_cons (d_var 7) d_nil)))))))
    (ds_cons (ds_expr (d_meth (i := 3) PySem.F.plainAttrs_list PySem.F.slot_list_append PySem.F.type_list_append md_append (d_cons (d_ix (d_callB (cd_min rfl hu) T.n_min (by decide +kernel) (d_cons (d_var 6) d_nil)) d_int (fun _ _ => rfl)) d_nil)))
    (ds_one (ds_expr (d_meth (i := 4) PySem.F.plainAttrs_list PySem.F.slot_list_append PySem.F.type_list_append md_append (d_cons (d_ix (d_callB (cd_min rfl hu) T.n_min (by decide +kernel) (d_cons (d_var 6) d_nil)) d_int (fun _ _ => rfl)) d_nil)))))))
    (dss_frz [3, 4] (ds_one (ds_ret (d_tup (d_cons (d_var 3) (d_cons (d_var 4) d_nil)))))))))
theorem sc_worst_cost : FnScope ["levels", "low", "high", "costs", "firsts"] ["levels", "low", "high"] (defScope s_worst_cost) := ⟨rfl, rfl, rfl, by decide +kernel, rfl, by decide +kernel, by decide +kernel⟩
theorem ok_worst_cost {a_worst_cost : Addr} {fd_worst_cost : FuncData} {a_tables : Addr} {fd_tables : FuncData} (F : Fun K "worst_cost" "worst_cost" s_worst_cost a_worst_cost fd_worst_cost) (T : Tx K mg TC) (C_tables : Cl K mg "tables" a_tables fd_tables ["levels", "low", "high"]) (G_tables : FnOk P w K mg base (L2N.CX P w) 2 a_tables fd_tables ["levels", "low", "high"] (spV K TC false F_tables 3)) : FnOk P w K mg base (L2N.CX P w) 3 a_worst_cost fd_worst_cost ["levels", "low", "high"] (spV K TC false F_worst_cost 3) :=
  fn_V F sc_worst_cost rfl (by decide) fun cdv A outer s H E hr => by
    have hu := room_hu hr
    exact (ds_cons (ds_asg (dg_tup rfl (dgs_cons (dg_name 3 sc_worst_cost.nd) (dgs_cons (dg_name 4 sc_worst_cost.nd) dgs_nil))) (d_callV G_tables (hr.mono (by decide)) (L2N.takes_of rfl rfl rfl rfl) rfl C_tables.g C_tables.k C_tables.b (d_cons (d_var 0) (d_cons (d_var 1) (d_cons (d_var 2) d_nil))) (len_cons (len_cons (len_cons len_nil)))))
    (ds_one (ds_ret (d_ix (d_var 3) (d_var 0) (fun _ _ => rfl)))))
theorem sc_told_level : FnScope ["levels", "low", "high", "costs", "firsts"] ["levels", "low", "high"] (defScope s_told_level) := ⟨rfl, rfl, rfl, by decide +kernel, rfl, by decide +kernel, by decide +kernel⟩
theorem ok_told_level {a_told_level : Addr} {fd_told_level : FuncData} {a_tables : Addr} {fd_tables : FuncData} (F : Fun K "told_level" "told_level" s_told_level a_told_level fd_told_level) (T : Tx K mg TC) (C_tables : Cl K mg "tables" a_tables fd_tables ["levels", "low", "high"]) (G_tables : FnOk P w K mg base (L2N.CX P w) 2 a_tables fd_tables ["levels", "low", "high"] (spV K TC false F_tables 3)) : FnOk P w K mg base (L2N.CX P w) 3 a_told_level fd_told_level ["levels", "low", "high"] (spV K TC false F_told_level 3) :=
  fn_V F sc_told_level rfl (by decide) fun cdv A outer s H E hr => by
    have hu := room_hu hr
    exact (ds_cons (ds_asg (dg_tup rfl (dgs_cons (dg_name 3 sc_told_level.nd) (dgs_cons (dg_name 4 sc_told_level.nd) dgs_nil))) (d_callV G_tables (hr.mono (by decide)) (L2N.takes_of rfl rfl rfl rfl) rfl C_tables.g C_tables.k C_tables.b (d_cons (d_var 0) (d_cons (d_var 1) (d_cons (d_var 2) d_nil))) (len_cons (len_cons (len_cons len_nil)))))
    (ds_one (ds_ret (d_ix (d_var 4) (d_var 0) (fun _ _ => rfl)))))
theorem sc__law_told : FnScope ["error", "kinds", "names", "name", "true"] ["error"] (defScope s__law_told) := ⟨rfl, rfl, rfl, by decide +kernel, rfl, by decide +kernel, by decide +kernel⟩
theorem ok__law_told {a__law_told : Addr} {fd__law_told : FuncData} (F : Fun K "_law_told" "_law_told" s__law_told a__law_told fd__law_told) (T : Tx K mg TC) : FnE false P w K mg base TC 6 1 a__law_told fd__law_told ["error"] F__law_told :=
  fn_E F sc__law_told rfl (by decide) (by decide) fun cdv A outer s H p c hk hrH => by
    have hu := roomH_hu hrH
    exact (ds_cons (ds_set (i := 1) sc__law_told.nd ((df_lst (d_cons (d_tup (d_cons d_str (d_cons (d_isE hk T.cf (by decide : 1 < 6) T.e_OutOfRange (d_var 0) T.n_isinstance) d_nil))) (d_cons (d_tup (d_cons d_str (d_cons (d_isE hk T.cf (by decide : 2 < 6) T.e_Malformed (d_var 0) T.n_isinstance) d_nil))) (d_cons (d_tup (d_cons d_str (d_cons (d_isE hk T.cf (by decide : 3 < 6) T.e_NotThere (d_var 0) T.n_isinstance) d_nil))) (d_cons (d_tup (d_cons d_str (d_cons (d_isE hk T.cf (by decide : 4 < 6) T.e_Refused (d_var 0) T.n_isinstance) d_nil))) (d_cons (d_tup (d_cons d_str (d_cons (d_isE hk T.cf (by decide : 5 < 6) T.e_TooMuch (d_var 0) T.n_isinstance) d_nil))) d_nil))))))).e)
    (ds_cons (ds_ofE (i := 2) (ps_toE (as_lcH (own := [("name", 3), ("true", 4)]) (HotK.c hk) sc__law_told.nd (di_listH (d_var 1)) (blkOk_by (by kernel_rfl)) (by decide) (fun s H C cl fp p hot => (dg_tupH ⟨p, hot, List.mem_singleton.mpr rfl⟩ (dgs_cons (dg_name 3 sc__law_told.nd) (dgs_cons (dg_name 4 sc__law_told.nd) dgs_nil)))) (fun s H C cl fp p hot => (dts_one (dt_val (d_var 4)))) (fun s H C cl fp p hot => (d_var 3)))))
    (ds_cons (ds_if ((dw_or (dt_cmp (od_ne (hu64 hu)) (d_callB cd_len T.n_len (by decide +kernel) (d_cons (d_var 2) d_nil)) d_int) (dw_or1 (dt_not (dt_val (d_isE hk T.cf (by decide : 0 < 6) T.e_ShardError (d_var 0) T.n_isinstance)))))).dt
    (ds_one (ds_ret d_str))
    ds_nil)
    (ds_one (ds_ret (d_ix (d_var 2) d_int (fun _ _ => rfl)))))))
theorem sc__law_asked : FnScope ["what", "a", "b", "c", "error"] ["what", "a", "b", "c"] (defScope s__law_asked) := ⟨rfl, rfl, rfl, by decide +kernel, rfl, by decide +kernel, by decide +kernel⟩
theorem ok__law_asked {a__law_asked : Addr} {fd__law_asked : FuncData} {a_are_results : Addr} {fd_are_results : FuncData} {a_place_between : Addr} {fd_place_between : FuncData} {a_fewest_tests : Addr} {fd_fewest_tests : FuncData} {a_told_mineral : Addr} {fd_told_mineral : FuncData} {a_worst_cost : Addr} {fd_worst_cost : FuncData} {a_told_level : Addr} {fd_told_level : FuncData} {a__law_told : Addr} {fd__law_told : FuncData} (F : Fun K "_law_asked" "_law_asked" s__law_asked a__law_asked fd__law_asked) (T : Tx K mg TC) (C_are_results : Cl K mg "are_results" a_are_results fd_are_results ["minerals", "value"]) (G_are_results : FnOk P w K mg base (L2N.CX P w) 2 a_are_results fd_are_results ["minerals", "value"] (spV K TC false F_are_results 2)) (C_place_between : Cl K mg "place_between" a_place_between fd_place_between ["minerals", "results"]) (G_place_between : FnOk P w K mg base (L2N.CX P w) 2 a_place_between fd_place_between ["minerals", "results"] (spV K TC false F_place_between 2)) (C_fewest_tests : Cl K mg "fewest_tests" a_fewest_tests fd_fewest_tests ["minerals", "results"]) (G_fewest_tests : FnOk P w K mg base (L2N.CX P w) 3 a_fewest_tests fd_fewest_tests ["minerals", "results"] (spV K TC false F_fewest_tests 2)) (C_told_mineral : Cl K mg "told_mineral" a_told_mineral fd_told_mineral ["minerals", "results"]) (G_told_mineral : FnOk P w K mg base (L2N.CX P w) 4 a_told_mineral fd_told_mineral ["minerals", "results"] (spV K TC false F_told_mineral 2)) (C_worst_cost : Cl K mg "worst_cost" a_worst_cost fd_worst_cost ["levels", "low", "high"]) (G_worst_cost : FnOk P w K mg base (L2N.CX P w) 3 a_worst_cost fd_worst_cost ["levels", "low", "high"] (spV K TC false F_worst_cost 3)) (C_told_level : Cl K mg "told_level" a_told_level fd_told_level ["levels", "low", "high"]) (G_told_level : FnOk P w K mg base (L2N.CX P w) 3 a_told_level fd_told_level ["levels", "low", "high"] (spV K TC false F_told_level 3)) (C__law_told : Cl K mg "_law_told" a__law_told fd__law_told ["error"]) (G__law_told : FnE false P w K mg base TC 6 1 a__law_told fd__law_told ["error"] F__law_told) : FnOk P w K mg base (L2N.CX P w) 5 a__law_asked fd__law_asked ["what", "a", "b", "c"] (spV K TC false F__law_asked 4) :=
  fn_V F sc__law_asked rfl (by decide) fun cdv A outer s H E hr => by
    have hu := room_hu hr
    exact (ds_one (ds_try (i := 4) rfl rfl sc__law_asked.nd rfl rfl rfl T.cf (by decide) (by decide : 0 < 6) T.e_ShardError rfl (by decide) (L2N.takes_of rfl rfl rfl rfl)
    (fun V pn xe tk hp => (ds_cons (ds_if (dt_cmp (od_eq (hu64 hu)) (d_var 0) d_int)
    (ds_one (ds_ret (d_callV G_are_results (hr.mono (by decide)) tk rfl C_are_results.g C_are_results.k C_are_results.b (d_cons (d_var 1) (d_cons (d_var 2) d_nil)) (len_cons (len_cons len_nil)))))
    ds_nil)
    (ds_cons (ds_if (dt_cmp (od_eq (hu64 hu)) (d_var 0) d_int)
    (ds_one (ds_ret (d_callV G_place_between (hr.mono (by decide)) tk rfl C_place_between.g C_place_between.k C_place_between.b (d_cons (d_var 1) (d_cons (d_var 2) d_nil)) (len_cons (len_cons len_nil)))))
    ds_nil)
    (ds_cons (ds_if (dt_cmp (od_eq (hu64 hu)) (d_var 0) d_int)
    (ds_one (ds_ret (d_callV G_fewest_tests (hr.mono (by decide)) tk rfl C_fewest_tests.g C_fewest_tests.k C_fewest_tests.b (d_cons (d_var 1) (d_cons (d_var 2) d_nil)) (len_cons (len_cons len_nil)))))
    ds_nil)
    (ds_cons (ds_if (dt_cmp (od_eq (hu64 hu)) (d_var 0) d_int)
    (ds_one (ds_ret (d_callV G_told_mineral (hr.mono (by decide)) tk rfl C_told_mineral.g C_told_mineral.k C_told_mineral.b (d_cons (d_var 1) (d_cons (d_var 2) d_nil)) (len_cons (len_cons len_nil)))))
    ds_nil)
    (ds_one (ds_ret (d_ifE (dt_cmp (od_eq (hu64 hu)) (d_var 0) d_int) (d_callV G_worst_cost (hr.mono (by decide)) tk rfl C_worst_cost.g C_worst_cost.k C_worst_cost.b (d_cons (d_var 1) (d_cons (d_var 2) (d_cons (d_var 3) d_nil))) (len_cons (len_cons (len_cons len_nil)))) (d_callV G_told_level (hr.mono (by decide)) tk rfl C_told_level.g C_told_level.k C_told_level.b (d_cons (d_var 1) (d_cons (d_var 2) (d_cons (d_var 3) d_nil))) (len_cons (len_cons (len_cons len_nil))))))))))))
    (fun a oe k pn hk => (d_callE G__law_told (roomH_mark hr (by decide)) hk takesF C__law_told.g C__law_told.k C__law_told.b (d_cons (d_var 4) d_nil) (len_cons len_nil)))))
theorem sc__law_mixed : FnScope ["cell", "turn", "number"] ["cell", "turn"] (defScope s__law_mixed) := ⟨rfl, rfl, rfl, by decide +kernel, rfl, by decide +kernel, by decide +kernel⟩
theorem ok__law_mixed {a__law_mixed : Addr} {fd__law_mixed : FuncData} (F : Fun K "_law_mixed" "_law_mixed" s__law_mixed a__law_mixed fd__law_mixed) (T : Tx K mg TC) : FnOk P w K mg base (L2N.CX P w) 1 a__law_mixed fd__law_mixed ["cell", "turn"] (spV K TC false F__law_mixed 2) :=
  fn_V F sc__law_mixed rfl (by decide) fun cdv A outer s H E hr => by
    have hu := room_hu hr
    exact (ds_cons (ds_set (i := 2) sc__law_mixed.nd (d_op od_mod (d_op od_add (d_op od_add (d_op od_mul (d_op od_mod (d_var 0) (d_op od_sub (d_op od_pow d_int d_int) d_int)) d_int) (d_op od_mul (d_var 1) d_int)) d_int) (d_op od_pow d_int d_int)))
    (ds_cons (ds_set (i := 2) sc__law_mixed.nd (d_op od_mod (d_op od_mul (d_op od_xor (d_var 2) (d_op od_shr (d_var 2) d_int)) d_int) (d_op od_pow d_int d_int)))
    (ds_one (ds_ret (d_op od_mod (d_op od_mul (d_op od_xor (d_var 2) (d_op od_shr (d_var 2) d_int)) d_int) (d_op od_pow d_int d_int))))))
theorem sc__law_draw : FnScope ["draws", "size", "turn", "left", "cells", "cell"] ["draws", "size"] (defScope s__law_draw) := ⟨rfl, rfl, rfl, by decide +kernel, rfl, by decide +kernel, by decide +kernel⟩
theorem ok__law_draw {a__law_draw : Addr} {fd__law_draw : FuncData} {a__law_mixed : Addr} {fd__law_mixed : FuncData} (F : Fun K "_law_draw" "_law_draw" s__law_draw a__law_draw fd__law_draw) (T : Tx K mg TC) (C__law_mixed : Cl K mg "_law_mixed" a__law_mixed fd__law_mixed ["cell", "turn"]) (G__law_mixed : FnOk P w K mg base (L2N.CX P w) 1 a__law_mixed fd__law_mixed ["cell", "turn"] (spV K TC false F__law_mixed 2)) : FnOk P w K mg base (L2N.CX P w) 2 a__law_draw fd__law_draw ["draws", "size"] (spP K TC false F__law_draw 2) :=
  fn_P F sc__law_draw rfl (by decide) fun cdv A outer s H E hr => by
    have hu := room_hu hr
    exact (ds_cons (ds_unpOwn (i := 0) rfl (dgs_cons (dg_name 2 sc__law_draw.nd) (dgs_cons (dg_name 3 sc__law_draw.nd) (dgs_cons (dg_name 4 sc__law_draw.nd) dgs_nil))))
    (ds_cons (ds_if (dt_cmp (od_lt (hu64 hu)) (d_var 3) (d_var 1))
    (ds_cons (ds_set (i := 5) sc__law_draw.nd (d_ix (d_var 4) (d_op od_mod (d_var 2) (d_callB cd_len T.n_len (by decide +kernel) (d_cons (d_var 4) d_nil))) (fun _ _ => rfl)))
    (ds_cons (ds_set (i := 3) sc__law_draw.nd (d_ifE ((dw_and (dt_cmp (od_lt (hu64 hu)) (d_var 2) (d_callB cd_len T.n_len (by decide +kernel) (d_cons (d_var 4) d_nil))) (dw_and1 (dt_cmp (od_ge (hu64 hu)) (d_var 5) (d_op od_pow d_int d_int))))).dt (d_var 5) (d_callV G__law_mixed (hr.mono (by decide)) (L2N.takes_of rfl rfl rfl rfl) rfl C__law_mixed.g C__law_mixed.k C__law_mixed.b (d_cons (d_var 5) (d_cons (d_var 2) d_nil)) (len_cons (len_cons len_nil)))))
    (ds_one (ds_set (i := 2) sc__law_draw.nd (d_op od_add (d_var 2) d_int)))))
    ds_nil)
    (ds_cons (ds_setIx (i := 0) sd_list d_int (d_var 2))
    (ds_cons (ds_setIx (i := 0) sd_list d_int (d_op od_fdiv (d_var 3) (d_var 1)))
    (ds_one (ds_ret (d_op od_mod (d_var 3) (d_var 1))))))))
theorem sc__law_tests : FnScope ["most", "table", "places", "k"] ["most"] (defScope s__law_tests) := ⟨rfl, rfl, rfl, by decide +kernel, rfl, by decide +kernel, by decide +kernel⟩
theorem ok__law_tests {a__law_tests : Addr} {fd__law_tests : FuncData} (F : Fun K "_law_tests" "_law_tests" s__law_tests a__law_tests fd__law_tests) (T : Tx K mg TC) : FnOk P w K mg base (L2N.CX P w) 1 a__law_tests fd__law_tests ["most"] (spV K TC false F__law_tests 1) :=
  fn_V F sc__law_tests rfl (by decide) fun cdv A outer s H E hr => by
    have hu := room_hu hr
    exact (ds_cons (ds_setOwn (i := 1) sc__law_tests.nd (df_lst (d_cons (d_tup (d_cons d_int (d_cons d_non d_nil))) (d_cons (d_tup (d_cons d_int (d_cons d_non d_nil))) d_nil))))
    (ds_cons (ds_for (passes_of rfl) rfl (di_range2 T.n_range (d_cons d_int (d_cons (d_op od_add (d_var 0) d_int) d_nil))) (dg_name 2 sc__law_tests.nd)
    (ds_one (ds_expr (d_meth (i := 1) PySem.F.plainAttrs_list PySem.F.slot_list_append PySem.F.type_list_append md_append (d_cons (d_callB (cd_min rfl hu) T.n_min (by decide +kernel) (d_cons ((df_lc (own := [("k", 3)]) rfl sc__law_tests.nd (di_range2 T.n_range (d_cons d_int (d_cons (d_var 2) d_nil))) (blkOk_by (by kernel_rfl)) (by decide) (fun s H C cl fp => (dg_name 3 sc__law_tests.nd)) (fun s H C cl fp => dts_nil) (fun s H C cl fp => (d_tup (d_cons (d_op od_add d_int (d_callB (cd_max2 rfl) T.n_max (by decide +kernel) (d_cons (d_ix (d_subOwn (i := 1) (d_var 3) (fun _ _ => rfl)) d_int (fun _ _ => rfl)) (d_cons (d_ix (d_subOwn (i := 1) (d_op od_sub (d_var 2) (d_var 3)) (fun _ _ => rfl)) d_int (fun _ _ => rfl)) d_nil)))) (d_cons (d_var 3) d_nil)))))).e d_nil)) d_nil)))))
    (dss_frz [1] (ds_one (ds_ret (d_var 1))))))
theorem sc__law_int : FnScope ["value"] ["value"] (defScope s__law_int) := ⟨rfl, rfl, rfl, by decide +kernel, rfl, by decide +kernel, by decide +kernel⟩
theorem ok__law_int {a__law_int : Addr} {fd__law_int : FuncData} (F : Fun K "_law_int" "_law_int" s__law_int a__law_int fd__law_int) (T : Tx K mg TC) : FnOk P w K mg base (L2N.CX P w) 1 a__law_int fd__law_int ["value"] (spV K TC false F__law_int 1) :=
  fn_V F sc__law_int rfl (by decide) fun cdv A outer s H E hr => by
    have hu := room_hu hr
    exact (ds_one (ds_ret (d_and (d_isi (T := "int") (d_var 0) T.n_isinstance T.n_int (by decide +kernel)) (d_one (d_not (d_isi (T := "bool") (d_var 0) T.n_isinstance T.n_bool (by decide +kernel)))))))
theorem sc__law_places : FnScope ["draws", "minerals", "place", "results", "turn", "one", "wrong", "low", "high", "tests", "powers", "k", "table", "first", "spot", "known", "both", "words", "what", "value", "scratched"] ["draws"] (defScope s__law_places) := ⟨rfl, rfl, rfl, by decide +kernel, rfl, by decide +kernel, by decide +kernel⟩
theorem ok__law_places {a__law_places : Addr} {fd__law_places : FuncData} {a__law_asked : Addr} {fd__law_asked : FuncData} {a__law_draw : Addr} {fd__law_draw : FuncData} {a__law_tests : Addr} {fd__law_tests : FuncData} {a__law_int : Addr} {fd__law_int : FuncData} (F : Fun K "_law_places" "_law_places" s__law_places a__law_places fd__law_places) (T : Tx K mg TC) (C__law_asked : Cl K mg "_law_asked" a__law_asked fd__law_asked ["what", "a", "b", "c"]) (G__law_asked : FnOk P w K mg base (L2N.CX P w) 5 a__law_asked fd__law_asked ["what", "a", "b", "c"] (spV K TC false F__law_asked 4)) (C__law_draw : Cl K mg "_law_draw" a__law_draw fd__law_draw ["draws", "size"]) (G__law_draw : FnOk P w K mg base (L2N.CX P w) 2 a__law_draw fd__law_draw ["draws", "size"] (spP K TC false F__law_draw 2)) (C__law_tests : Cl K mg "_law_tests" a__law_tests fd__law_tests ["most"]) (G__law_tests : FnOk P w K mg base (L2N.CX P w) 1 a__law_tests fd__law_tests ["most"] (spV K TC false F__law_tests 1)) (C__law_int : Cl K mg "_law_int" a__law_int fd__law_int ["value"]) (G__law_int : FnOk P w K mg base (L2N.CX P w) 1 a__law_int fd__law_int ["value"] (spV K TC false F__law_int 1)) : FnOk P w K mg base (L2N.CX P w) 6 a__law_places fd__law_places ["draws"] (spP K TC false F__law_places 1) :=
  fn_P F sc__law_places rfl (by decide) fun cdv A outer s H E hr => by
    have hu := room_hu hr
    exact (ds_cons (ds_set (i := 1) sc__law_places.nd (d_op od_add d_int (d_callP (i := 0) G__law_draw (hr.mono (by decide)) (L2N.takes_of rfl rfl rfl rfl) rfl C__law_draw.g C__law_draw.k C__law_draw.b (d_cons (d_ix ((df_lst (d_cons d_int (d_cons d_int (d_cons (d_op od_pow d_int d_int) d_nil))))).e (d_callP (i := 0) G__law_draw (hr.mono (by decide)) (L2N.takes_of rfl rfl rfl rfl) rfl C__law_draw.g C__law_draw.k C__law_draw.b (d_cons d_int d_nil) (len_cons len_nil)) (fun _ _ => rfl)) d_nil) (len_cons len_nil))))
    (ds_cons (ds_asg (dg_tup rfl (dgs_cons (dg_name 2 sc__law_places.nd) (dgs_cons (dg_name 3 sc__law_places.nd) dgs_nil))) (d_tup (d_cons (d_callP (i := 0) G__law_draw (hr.mono (by decide)) (L2N.takes_of rfl rfl rfl rfl) rfl C__law_draw.g C__law_draw.k C__law_draw.b (d_cons (d_op od_add (d_var 1) d_int) d_nil) (len_cons len_nil)) (d_cons (d_tup d_nil) d_nil))))
    (ds_cons (ds_for (passes_of rfl) rfl (di_range1 T.n_range (d_cons (d_callP (i := 0) G__law_draw (hr.mono (by decide)) (L2N.takes_of rfl rfl rfl rfl) rfl C__law_draw.g C__law_draw.k C__law_draw.b (d_cons d_int d_nil) (len_cons len_nil)) d_nil)) (dg_name 4 sc__law_places.nd)
    (ds_cons (ds_set (i := 5) sc__law_places.nd (d_op od_add d_int (d_callP (i := 0) G__law_draw (hr.mono (by decide)) (L2N.takes_of rfl rfl rfl rfl) rfl C__law_draw.g C__law_draw.k C__law_draw.b (d_cons (d_var 1) d_nil) (len_cons len_nil))))
    (ds_one (ds_set (i := 3) sc__law_places.nd (d_op od_add (d_var 3) (d_tup (d_cons (d_tup (d_cons (d_var 5) (d_cons (d_ifE (dt_cmp (od_gt (hu64 hu)) (d_callP (i := 0) G__law_draw (hr.mono (by decide)) (L2N.takes_of rfl rfl rfl rfl) rfl C__law_draw.g C__law_draw.k C__law_draw.b (d_cons d_int d_nil) (len_cons len_nil)) d_int) (d_cmp (od_le (hu64 hu)) (d_var 5) (d_var 2)) (d_cmp (od_gt (hu64 hu)) (d_var 5) (d_var 2))) d_nil))) d_nil)))))))
    (ds_cons (ds_set (i := 6) sc__law_places.nd ((df_lst (d_cons d_non (d_cons (d_callTy cd_list T.n_list (by decide +kernel) (d_cons (d_var 3) d_nil)) (d_cons (d_op od_mul (d_tup (d_cons (d_tup (d_cons d_int (d_cons d_bl d_nil))) d_nil)) d_int) (d_cons (d_tup (d_cons d_non d_nil)) (d_cons (d_tup (d_cons (d_tup (d_cons d_int d_nil)) d_nil)) (d_cons (d_tup (d_cons ((df_lst (d_cons d_int (d_cons d_bl d_nil)))).e d_nil)) (d_cons (d_tup (d_cons (d_tup (d_cons d_int (d_cons d_bl d_nil))) d_nil)) (d_cons (d_tup (d_cons (d_tup (d_cons (d_op od_add (d_var 1) d_int) (d_cons d_bl d_nil))) d_nil)) (d_cons (d_tup (d_cons (d_tup (d_cons d_int (d_cons d_int d_nil))) d_nil)) (d_cons (d_tup (d_cons (d_tup (d_cons d_int (d_cons d_non d_nil))) d_nil)) (d_cons (d_tup (d_cons (d_tup (d_cons d_bl (d_cons d_bl d_nil))) d_nil)) (d_cons (d_tup (d_cons (d_tup (d_cons d_non (d_cons d_bl d_nil))) d_nil)) (d_cons (d_tup (d_cons (d_tup (d_cons d_int (d_cons d_bl (d_cons d_int d_nil)))) d_nil)) (d_cons d_int d_nil)))))))))))))))).e)
    (ds_cons (ds_if ((dw_or (dt_cmp od_notB (d_callV G__law_asked (hr.mono (by decide)) (L2N.takes_of rfl rfl rfl rfl) rfl C__law_asked.g C__law_asked.k C__law_asked.b (d_cons d_int (d_cons (d_var 1) (d_cons (d_var 3) (d_cons d_int d_nil)))) (len_cons (len_cons (len_cons (len_cons len_nil))))) d_bl) (dw_or1 (dt_cmp (od_ne (hu64 hu)) ((df_lc (own := [("value", 19)]) rfl sc__law_places.nd (di_seq (d_var 6)) (blkOk_by (by kernel_rfl)) (by decide) (fun s H C cl fp => (dg_name 19 sc__law_places.nd)) (fun s H C cl fp => (dts_one (dt_cmp od_notB (d_callV G__law_asked (hr.mono (by decide)) takesF rfl C__law_asked.g C__law_asked.k C__law_asked.b (d_cons d_int (d_cons (d_var 1) (d_cons (d_var 19) (d_cons d_int d_nil)))) (len_cons (len_cons (len_cons (len_cons len_nil))))) d_bl))) (fun s H C cl fp => (d_var 19)))).e ((df_lst d_nil)).e)))).dt
    (ds_one (ds_ret d_bl))
    ds_nil)
    (ds_cons (ds_set (i := 7) sc__law_places.nd (d_callB (cd_max rfl hu) T.n_max (by decide +kernel) (d_cons (d_op od_add ((df_lst (d_cons d_int d_nil))).e ((df_lc (own := [("one", 5), ("scratched", 20)]) rfl sc__law_places.nd (di_seq (d_var 3)) (blkOk_by (by kernel_rfl)) (by decide) (fun s H C cl fp => (dg_tup rfl (dgs_cons (dg_name 5 sc__law_places.nd) (dgs_cons (dg_name 20 sc__law_places.nd) dgs_nil)))) (fun s H C cl fp => (dts_one (dt_val (d_var 20)))) (fun s H C cl fp => (d_var 5)))).e) d_nil)))
    (ds_cons (ds_set (i := 8) sc__law_places.nd (d_callB (cd_min rfl hu) T.n_min (by decide +kernel) (d_cons (d_op od_add ((df_lst (d_cons (d_op od_add (d_var 1) d_int) d_nil))).e ((df_lc (own := [("one", 5), ("scratched", 20)]) rfl sc__law_places.nd (di_seq (d_var 3)) (blkOk_by (by kernel_rfl)) (by decide) (fun s H C cl fp => (dg_tup rfl (dgs_cons (dg_name 5 sc__law_places.nd) (dgs_cons (dg_name 20 sc__law_places.nd) dgs_nil)))) (fun s H C cl fp => (dts_one (dt_not (dt_val (d_var 20))))) (fun s H C cl fp => (d_var 5)))).e) d_nil)))
    (ds_cons (ds_if (dt_cmp (od_ge (hu64 hu)) (d_var 7) (d_var 8))
    (ds_one (ds_ret (d_cmp (od_eq (hu64 hu)) ((df_lc (own := [("what", 18)]) rfl sc__law_places.nd (di_seq (d_tup (d_cons d_int (d_cons d_int (d_cons d_int d_nil))))) (blkOk_by (by kernel_rfl)) (by decide) (fun s H C cl fp => (dg_name 18 sc__law_places.nd)) (fun s H C cl fp => dts_nil) (fun s H C cl fp => (d_callV G__law_asked (hr.mono (by decide)) takesF rfl C__law_asked.g C__law_asked.k C__law_asked.b (d_cons (d_var 18) (d_cons (d_var 1) (d_cons (d_var 3) (d_cons d_int d_nil)))) (len_cons (len_cons (len_cons (len_cons len_nil)))))))).e ((df_rep (df_lst (d_cons d_str d_nil)) d_int)).e)))
    ds_nil)
    (ds_cons (ds_set (i := 9) sc__law_places.nd (d_callV G__law_asked (hr.mono (by decide)) (L2N.takes_of rfl rfl rfl rfl) rfl C__law_asked.g C__law_asked.k C__law_asked.b (d_cons d_int (d_cons (d_var 1) (d_cons (d_var 3) (d_cons d_int d_nil)))) (len_cons (len_cons (len_cons (len_cons len_nil))))))
    (ds_cons (ds_if ((dw_or (dt_cmp (od_ne (hu64 hu)) (d_callV G__law_asked (hr.mono (by decide)) (L2N.takes_of rfl rfl rfl rfl) rfl C__law_asked.g C__law_asked.k C__law_asked.b (d_cons d_int (d_cons (d_var 1) (d_cons (d_var 3) (d_cons d_int d_nil)))) (len_cons (len_cons (len_cons (len_cons len_nil))))) (d_tup (d_cons (d_var 7) (d_cons (d_var 8) d_nil)))) (dw_or1 (dt_not (dt_val (d_callV G__law_int (hr.mono (by decide)) (L2N.takes_of rfl rfl rfl rfl) rfl C__law_int.g C__law_int.k C__law_int.b (d_cons (d_var 9) d_nil) (len_cons len_nil))))))).dt
    (ds_one (ds_ret d_bl))
    ds_nil)
    (ds_cons (ds_setOwn (i := 10) sc__law_places.nd (df_lst (d_cons d_int d_nil)))
    (ds_cons (ds_for (passes_of rfl) rfl (di_range1 T.n_range (d_cons d_int d_nil)) (dg_name 11 sc__law_places.nd)
    (ds_one (ds_expr (d_meth (i := 10) PySem.F.plainAttrs_list PySem.F.slot_list_append PySem.F.type_list_append md_append (d_cons (d_op od_mul d_int (d_subOwn (i := 10) (d_un od_neg d_int) (fun _ _ => rfl))) d_nil)))))
    (dss_frz [10] (ds_cons (ds_if (dt_cmp (od_ne (hu64 hu)) (d_var 9) (d_ix ((df_lc (own := [("k", 11)]) rfl sc__law_places.nd (di_range1 T.n_range (d_cons d_int d_nil)) (blkOk_by (by kernel_rfl)) (by decide) (fun s H C cl fp => (dg_name 11 sc__law_places.nd)) (fun s H C cl fp => (dts_one (dt_cmp (od_ge (hu64 hu)) (d_ix (d_var 10) (d_var 11) (fun _ _ => rfl)) (d_op od_sub (d_var 8) (d_var 7))))) (fun s H C cl fp => (d_var 11)))).e d_int (fun _ _ => rfl)))
    (ds_one (ds_ret d_bl))
    ds_nil)
    (ds_cons (ds_if (dt_cmp (od_lt (hu64 hu)) (d_op od_sub (d_var 8) (d_var 7)) d_int)
    (ds_cons (ds_set (i := 12) sc__law_places.nd (d_callV G__law_tests (hr.mono (by decide)) (L2N.takes_of rfl rfl rfl rfl) rfl C__law_tests.g C__law_tests.k C__law_tests.b (d_cons (d_op od_sub (d_var 8) (d_var 7)) d_nil) (len_cons len_nil)))
    (ds_cons (ds_set (i := 13) sc__law_places.nd (d_ix (d_ix (d_var 12) (d_op od_sub (d_var 8) (d_var 7)) (fun _ _ => rfl)) d_int (fun _ _ => rfl)))
    (ds_one (ds_if ((dw_or (dt_cmp (od_ne (hu64 hu)) (d_var 9) (d_ix (d_ix (d_var 12) (d_op od_sub (d_var 8) (d_var 7)) (fun _ _ => rfl)) d_int (fun _ _ => rfl))) (dw_or1 (dt_cmp (od_ne (hu64 hu)) (d_callV G__law_asked (hr.mono (by decide)) (L2N.takes_of rfl rfl rfl rfl) rfl C__law_asked.g C__law_asked.k C__law_asked.b (d_cons d_int (d_cons (d_var 1) (d_cons (d_var 3) (d_cons d_int d_nil)))) (len_cons (len_cons (len_cons (len_cons len_nil))))) (d_ifE (dt_cmp od_notN (d_var 13) d_non) (d_op od_add (d_var 7) (d_var 13)) d_non))))).dt
    (ds_one (ds_ret d_bl))
    ds_nil))))
    ds_nil)
    (ds_cons (ds_par2 (i := 14) (j := 15) rfl sc__law_places.nd (dlo_val (d_op od_add (d_var 7) (d_callP (i := 0) G__law_draw (hr.mono (by decide)) (L2N.takes_of rfl rfl rfl rfl) rfl C__law_draw.g C__law_draw.k C__law_draw.b (d_cons (d_op od_sub (d_var 8) (d_var 7)) d_nil) (len_cons len_nil))) (dlo_val (d_slice (d_var 3) do_none (do_some d_int)) dlo_nil)) (lenO_cons (lenO_cons lenO_nil)) (by decide))
    (ds_cons (ds_for (passes_of rfl) rfl (di_range1 T.n_range (d_cons (d_var 9) d_nil)) (dg_name 4 sc__law_places.nd)
    (ds_cons (ds_set (i := 5) sc__law_places.nd (d_callV G__law_asked (hr.mono (by decide)) (L2N.takes_of rfl rfl rfl rfl) rfl C__law_asked.g C__law_asked.k C__law_asked.b (d_cons d_int (d_cons (d_var 1) (d_cons (d_var 15) (d_cons d_int d_nil)))) (len_cons (len_cons (len_cons (len_cons len_nil))))))
    (ds_one (ds_if (dt_cmp od_notN (d_var 5) d_non)
    (ds_one (ds_set (i := 15) sc__law_places.nd (d_op od_add (d_var 15) (d_tup (d_cons (d_tup (d_cons (d_var 5) (d_cons (d_cmp (od_le (hu64 hu)) (d_var 5) (d_var 14)) d_nil))) d_nil)))))
    ds_nil))))
    (ds_cons (ds_if ((dw_or (dt_cmp (od_ne (hu64 hu)) (d_callV G__law_asked (hr.mono (by decide)) (L2N.takes_of rfl rfl rfl rfl) rfl C__law_asked.g C__law_asked.k C__law_asked.b (d_cons d_int (d_cons (d_var 1) (d_cons (d_var 15) (d_cons d_int d_nil)))) (len_cons (len_cons (len_cons (len_cons len_nil))))) (d_tup (d_cons (d_var 14) (d_cons (d_op od_add (d_var 14) d_int) d_nil)))) (dw_or1 (dt_cmp od_notN (d_callV G__law_asked (hr.mono (by decide)) (L2N.takes_of rfl rfl rfl rfl) rfl C__law_asked.g C__law_asked.k C__law_asked.b (d_cons d_int (d_cons (d_var 1) (d_cons (d_var 15) (d_cons d_int d_nil)))) (len_cons (len_cons (len_cons (len_cons len_nil))))) d_non)))).dt
    (ds_one (ds_ret d_bl))
    ds_nil)
    (ds_cons (ds_set (i := 16) sc__law_places.nd (d_tup (d_cons (d_tup (d_cons d_int (d_cons d_bl d_nil))) (d_cons (d_tup (d_cons d_int (d_cons d_bl d_nil))) d_nil))))
    (ds_cons (ds_set (i := 17) sc__law_places.nd ((df_lst d_nil)).e)
    (ds_cons (ds_for (passes_of rfl) rfl (di_range1 T.n_range (d_cons d_int d_nil)) (dg_name 18 sc__law_places.nd)
    (ds_one (ds_set (i := 17) sc__law_places.nd (d_op od_add (d_var 17) ((df_lc (own := [("one", 5)]) rfl sc__law_places.nd (di_seq (d_tup (d_cons d_int (d_cons (d_op od_add (d_op od_pow d_int d_int) d_int) d_nil)))) (blkOk_by (by kernel_rfl)) (by decide) (fun s H C cl fp => (dg_name 5 sc__law_places.nd)) (fun s H C cl fp => dts_nil) (fun s H C cl fp => (d_callV G__law_asked (hr.mono (by decide)) takesF rfl C__law_asked.g C__law_asked.k C__law_asked.b (d_cons (d_var 18) (d_cons (d_var 5) (d_cons (d_var 16) (d_cons d_int d_nil)))) (len_cons (len_cons (len_cons (len_cons len_nil)))))))).e))))
    (ds_one (ds_ret (d_cmp (od_eq (hu64 hu)) (d_var 17) ((df_rep (df_lst (d_cons d_str d_nil)) d_int)).e))))))))))))))))))))))))
theorem sc_law : FnScope ["script", "draws", "levels", "kind", "low", "high", "costs", "firsts", "many", "marks", "first", "found", "powers", "words", "what", "k", "one", "two", "three"] ["script"] (defScope s_law) := ⟨rfl, rfl, rfl, by decide +kernel, rfl, by decide +kernel, by decide +kernel⟩
theorem ok_law {a_law : Addr} {fd_law : FuncData} {a__law_open : Addr} {fd__law_open : FuncData} {a_worst_cost : Addr} {fd_worst_cost : FuncData} {a__law_asked : Addr} {fd__law_asked : FuncData} {a__law_draw : Addr} {fd__law_draw : FuncData} {a__law_int : Addr} {fd__law_int : FuncData} {a__law_places : Addr} {fd__law_places : FuncData} (F : Fun K "law" "law" s_law a_law fd_law) (T : Tx K mg TC) (C__law_open : Cl K mg "_law_open" a__law_open fd__law_open ["script"]) (G__law_open : FnOk P w K mg base (L2N.CX P w) 1 a__law_open fd__law_open ["script"] (spV K TC false F__law_open 1)) (C_worst_cost : Cl K mg "worst_cost" a_worst_cost fd_worst_cost ["levels", "low", "high"]) (G_worst_cost : FnOk P w K mg base (L2N.CX P w) 3 a_worst_cost fd_worst_cost ["levels", "low", "high"] (spV K TC false F_worst_cost 3)) (C__law_asked : Cl K mg "_law_asked" a__law_asked fd__law_asked ["what", "a", "b", "c"]) (G__law_asked : FnOk P w K mg base (L2N.CX P w) 5 a__law_asked fd__law_asked ["what", "a", "b", "c"] (spV K TC false F__law_asked 4)) (C__law_draw : Cl K mg "_law_draw" a__law_draw fd__law_draw ["draws", "size"]) (G__law_draw : FnOk P w K mg base (L2N.CX P w) 2 a__law_draw fd__law_draw ["draws", "size"] (spP K TC false F__law_draw 2)) (C__law_int : Cl K mg "_law_int" a__law_int fd__law_int ["value"]) (G__law_int : FnOk P w K mg base (L2N.CX P w) 1 a__law_int fd__law_int ["value"] (spV K TC false F__law_int 1)) (C__law_places : Cl K mg "_law_places" a__law_places fd__law_places ["draws"]) (G__law_places : FnOk P w K mg base (L2N.CX P w) 6 a__law_places fd__law_places ["draws"] (spP K TC false F__law_places 1)) : FnOk P w K mg base (L2N.CX P w) 7 a_law fd_law ["script"] (spV K TC false F_law 1) :=
  fn_V F sc_law rfl (by decide) fun cdv A outer s H E hr => by
    have hu := room_hu hr
    exact (ds_cons (ds_setOwn (i := 1) sc_law.nd (df_callO G__law_open (hr.mono (by decide)) (L2N.takes_of rfl rfl rfl rfl) rfl C__law_open.g C__law_open.k C__law_open.b (d_cons (d_var 0) d_nil) (len_cons len_nil)))
    (ds_cons (ds_if (dt_not (dt_val (d_callP (i := 1) G__law_places (hr.mono (by decide)) (L2N.takes_of rfl rfl rfl rfl) rfl C__law_places.g C__law_places.k C__law_places.b d_nil len_nil)))
    (ds_one (ds_ret d_bl))
    ds_nil)
    (ds_cons (ds_asg (dg_tup rfl (dgs_cons (dg_name 2 sc_law.nd) (dgs_cons (dg_name 3 sc_law.nd) dgs_nil))) (d_tup (d_cons (d_callP (i := 1) G__law_draw (hr.mono (by decide)) (L2N.takes_of rfl rfl rfl rfl) rfl C__law_draw.g C__law_draw.k C__law_draw.b (d_cons (d_ix ((df_lst (d_cons d_int (d_cons d_int d_nil)))).e (d_callP (i := 1) G__law_draw (hr.mono (by decide)) (L2N.takes_of rfl rfl rfl rfl) rfl C__law_draw.g C__law_draw.k C__law_draw.b (d_cons d_int d_nil) (len_cons len_nil)) (fun _ _ => rfl)) d_nil) (len_cons len_nil)) (d_cons (d_callP (i := 1) G__law_draw (hr.mono (by decide)) (L2N.takes_of rfl rfl rfl rfl) rfl C__law_draw.g C__law_draw.k C__law_draw.b (d_cons d_int d_nil) (len_cons len_nil)) d_nil))))
    (ds_cons (ds_par2 (i := 4) (j := 5) rfl sc_law.nd (dlo_val (d_ix ((df_lst (d_cons (d_callP (i := 1) G__law_draw (hr.mono (by decide)) (L2N.takes_of rfl rfl rfl rfl) rfl C__law_draw.g C__law_draw.k C__law_draw.b (d_cons d_int d_nil) (len_cons len_nil)) (d_cons (d_callP (i := 1) G__law_draw (hr.mono (by decide)) (L2N.takes_of rfl rfl rfl rfl) rfl C__law_draw.g C__law_draw.k C__law_draw.b (d_cons d_int d_nil) (len_cons len_nil)) (d_cons d_int (d_cons d_int d_nil)))))).e (d_var 3) (fun _ _ => rfl)) (dlo_val (d_ix ((df_lst (d_cons (d_callP (i := 1) G__law_draw (hr.mono (by decide)) (L2N.takes_of rfl rfl rfl rfl) rfl C__law_draw.g C__law_draw.k C__law_draw.b (d_cons d_int d_nil) (len_cons len_nil)) (d_cons (d_callP (i := 1) G__law_draw (hr.mono (by decide)) (L2N.takes_of rfl rfl rfl rfl) rfl C__law_draw.g C__law_draw.k C__law_draw.b (d_cons d_int d_nil) (len_cons len_nil)) (d_cons d_int (d_cons (d_callP (i := 1) G__law_draw (hr.mono (by decide)) (L2N.takes_of rfl rfl rfl rfl) rfl C__law_draw.g C__law_draw.k C__law_draw.b (d_cons d_int d_nil) (len_cons len_nil)) d_nil)))))).e (d_var 3) (fun _ _ => rfl)) dlo_nil)) (lenO_cons (lenO_cons lenO_nil)) (by decide))
    (dss_frz [1] (ds_cons (ds_parN (is := [6, 7]) rfl (dlo_own (df_lst (d_cons d_int d_nil)) (dlo_own (df_lst (d_cons d_non d_nil)) dlo_nil)) (lenO_cons (lenO_cons lenO_nil)) (nms_cons (i := 6) sc_law.nd (nms_cons (i := 7) sc_law.nd .nil)) (by decide))
    (ds_cons (ds_for (passes_of rfl) rfl (di_range2 T.n_range (d_cons d_int (d_cons (d_op od_add (d_var 2) d_int) d_nil))) (dg_name 8 sc_law.nd)
    (ds_cons (ds_setOwn (i := 9) sc_law.nd (df_lst d_nil))
    (ds_cons (ds_for (passes_of rfl) rfl (di_range2 T.n_range (d_cons d_int (d_cons (d_op od_add (d_var 8) d_int) d_nil))) (dg_name 10 sc_law.nd)
    (ds_one (ds_expr (d_meth (i := 9) PySem.F.plainAttrs_list PySem.F.slot_list_append PySem.F.type_list_append md_append (d_cons (d_tup (d_cons (d_callB (cd_max2 rfl) T.n_max (by decide +kernel) (d_cons (d_op od_add (d_var 4) (d_subOwn (i := 6) (d_op od_sub (d_var 8) (d_var 10)) (fun _ _ => rfl))) (d_cons (d_op od_add (d_var 5) (d_subOwn (i := 6) (d_op od_sub (d_var 10) d_int) (fun _ _ => rfl))) d_nil))) (d_cons (d_var 10) d_nil))) d_nil)))))
    (dss_frz [9] (ds_cons (ds_expr (d_meth (i := 6) PySem.F.plainAttrs_list PySem.F.slot_list_append PySem.F.type_list_append md_append (d_cons (d_ix (d_callB (cd_min rfl hu) T.n_min (by decide +kernel) (d_cons (d_var 9) d_nil)) d_int (fun _ _ => rfl)) d_nil)))
    (ds_one (ds_expr (d_meth (i := 7) PySem.F.plainAttrs_list PySem.F.slot_list_append PySem.F.type_list_append md_append (d_cons (d_ix (d_callB (cd_min rfl hu) T.n_min (by decide +kernel) (d_cons (d_var 9) d_nil)) d_int (fun _ _ => rfl)) d_nil)))))))))
    (dss_frz [6, 7, 9] (ds_cons (ds_set (i := 11) sc_law.nd (d_callV G__law_asked (hr.mono (by decide)) (L2N.takes_of rfl rfl rfl rfl) rfl C__law_asked.g C__law_asked.k C__law_asked.b (d_cons d_int (d_cons (d_var 2) (d_cons (d_var 4) (d_cons (d_var 5) d_nil)))) (len_cons (len_cons (len_cons (len_cons len_nil))))))
    (ds_cons (ds_if ((dw_or (dt_cmp (od_ne (hu64 hu)) (d_var 11) (d_ix (d_var 6) (d_var 2) (fun _ _ => rfl))) (dw_or (dt_not (dt_val (d_callV G__law_int (hr.mono (by decide)) (L2N.takes_of rfl rfl rfl rfl) rfl C__law_int.g C__law_int.k C__law_int.b (d_cons (d_var 11) d_nil) (len_cons len_nil)))) (dw_or1 (dt_cmp (od_ne (hu64 hu)) (d_callV G__law_asked (hr.mono (by decide)) (L2N.takes_of rfl rfl rfl rfl) rfl C__law_asked.g C__law_asked.k C__law_asked.b (d_cons d_int (d_cons (d_var 2) (d_cons (d_var 4) (d_cons (d_var 5) d_nil)))) (len_cons (len_cons (len_cons (len_cons len_nil))))) (d_ix (d_var 7) (d_var 2) (fun _ _ => rfl))))))).dt
    (ds_one (ds_ret d_bl))
    ds_nil)
    (ds_cons (ds_if (dt_cmp (od_ne (hu64 hu)) ((df_lc (own := [("k", 15)]) rfl sc_law.nd (di_range2 T.n_range (d_cons d_int (d_cons (d_op od_add (d_var 2) d_int) d_nil))) (blkOk_by (by kernel_rfl)) (by decide) (fun s H C cl fp => (dg_name 15 sc_law.nd)) (fun s H C cl fp => (dts_one (dt_cmp (od_lt (hu64 hu)) (d_ix (d_var 6) (d_var 15) (fun _ _ => rfl)) (d_ix (d_var 6) (d_op od_sub (d_var 15) d_int) (fun _ _ => rfl))))) (fun s H C cl fp => (d_var 15)))).e ((df_lst d_nil)).e)
    (ds_one (ds_ret d_bl))
    ds_nil)
    (ds_cons (ds_if (dt_cmp (od_eq (hu64 hu)) (d_var 3) d_int)
    (ds_cons (ds_set (i := 12) sc_law.nd ((df_lst (d_cons d_int (d_cons d_int (d_cons d_int (d_cons d_int (d_cons d_int (d_cons d_int (d_cons d_int d_nil))))))))).e)
    (ds_one (ds_if (dt_cmp (od_ne (hu64 hu)) (d_var 11) (d_ix ((df_lc (own := [("k", 15)]) rfl sc_law.nd (di_range1 T.n_range (d_cons d_int d_nil)) (blkOk_by (by kernel_rfl)) (by decide) (fun s H C cl fp => (dg_name 15 sc_law.nd)) (fun s H C cl fp => (dts_one (dt_cmp (od_gt (hu64 hu)) (d_ix (d_var 12) (d_var 15) (fun _ _ => rfl)) (d_var 2)))) (fun s H C cl fp => (d_var 15)))).e d_int (fun _ _ => rfl)))
    (ds_one (ds_ret d_bl))
    ds_nil)))
    ds_nil)
    (ds_cons (ds_if ((dw_and (dt_cmp (od_eq (hu64 hu)) (d_var 3) d_int) (dw_and (dt_cmp (od_gt (hu64 hu)) (d_var 2) d_int) (dw_and1 (dt_cmp (od_ne (hu64 hu)) (d_var 11) (d_var 5)))))).dt
    (ds_one (ds_ret d_bl))
    ds_nil)
    (ds_cons (ds_if ((dw_or ((dw_and (dt_cmp (od_gt (hu64 hu)) (d_var 4) d_int) (dw_and1 (dt_cmp (od_gt (hu64 hu)) (d_callV G_worst_cost (hr.mono (by decide)) (L2N.takes_of rfl rfl rfl rfl) rfl C_worst_cost.g C_worst_cost.k C_worst_cost.b (d_cons (d_var 2) (d_cons (d_op od_sub (d_var 4) d_int) (d_cons (d_var 5) d_nil))) (len_cons (len_cons (len_cons len_nil)))) (d_var 11))))).dt (dw_or1 ((dw_and (dt_cmp (od_gt (hu64 hu)) (d_var 5) d_int) (dw_and1 (dt_cmp (od_gt (hu64 hu)) (d_callV G_worst_cost (hr.mono (by decide)) (L2N.takes_of rfl rfl rfl rfl) rfl C_worst_cost.g C_worst_cost.k C_worst_cost.b (d_cons (d_var 2) (d_cons (d_var 4) (d_cons (d_op od_sub (d_var 5) d_int) d_nil))) (len_cons (len_cons (len_cons len_nil)))) (d_var 11))))).dt))).dt
    (ds_one (ds_ret d_bl))
    ds_nil)
    (ds_cons (ds_set (i := 13) sc_law.nd ((df_lst d_nil)).e)
    (ds_cons (ds_for (passes_of rfl) rfl (di_seq (d_tup (d_cons d_int (d_cons d_int d_nil)))) (dg_name 14 sc_law.nd)
    (ds_one (ds_set (i := 13) sc_law.nd (d_op od_add (d_var 13) ((df_lc (own := [("one", 16), ("two", 17), ("three", 18)]) rfl sc_law.nd (di_seq ((df_lst (d_cons (d_tup (d_cons (d_un od_neg d_int) (d_cons d_int (d_cons d_int d_nil)))) (d_cons (d_tup (d_cons d_int (d_cons d_int (d_cons d_int d_nil)))) (d_cons (d_tup (d_cons d_int (d_cons (d_un od_neg d_int) (d_cons d_int d_nil)))) (d_cons (d_tup (d_cons d_int (d_cons d_int (d_cons d_int d_nil)))) (d_cons (d_tup (d_cons d_int (d_cons d_int (d_cons (d_un od_neg d_int) d_nil)))) (d_cons (d_tup (d_cons d_int (d_cons d_int (d_cons d_int d_nil)))) d_nil)))))))).e) (blkOk_by (by kernel_rfl)) (by decide) (fun s H C cl fp => (dg_tup rfl (dgs_cons (dg_name 16 sc_law.nd) (dgs_cons (dg_name 17 sc_law.nd) (dgs_cons (dg_name 18 sc_law.nd) dgs_nil))))) (fun s H C cl fp => dts_nil) (fun s H C cl fp => (d_callV G__law_asked (hr.mono (by decide)) takesF rfl C__law_asked.g C__law_asked.k C__law_asked.b (d_cons (d_var 14) (d_cons (d_var 16) (d_cons (d_var 17) (d_cons (d_var 18) d_nil)))) (len_cons (len_cons (len_cons (len_cons len_nil)))))))).e))))
    (ds_one (ds_ret (d_cmp (od_eq (hu64 hu)) (d_var 13) ((df_rep (df_lst (d_cons d_str d_nil)) d_int)).e)))))))))))))))))))
end
end K48
end
section
set_option Elab.async false
set_option linter.all false
set_option maxRecDepth 100000
set_option maxHeartbeats 4000000
set_option exponentiation.threshold 100000
namespace K48
open Qd PySem L2
/-! ### numbers and draws: the same in every law -/
theorem e_is_number (v a b : Int) : F_is_number [.int v, .int a, .int b] = .ok (.val (.bool (decide (a ≤ v ∧ v ≤ b)))) := by
  unfold F_is_number runV m_is_number
  by_cases h : a ≤ v <;> simp [h]
theorem e_num_in {v a b : Int} (h : a ≤ v ∧ v ≤ b) : F_is_number [.int v, .int a, .int b] = .ok (.val (.bool true)) := by
  rw [e_is_number, decide_eq_true h]
theorem e_num_out {v a b : Int} (h : ¬ (a ≤ v ∧ v ≤ b)) : F_is_number [.int v, .int a, .int b] = .ok (.val (.bool false)) := by
  rw [e_is_number, decide_eq_false h]
theorem e_int (v : Int) : F__law_int [.int v] = .ok (.val (.bool true)) := by
  unfold F__law_int runV m__law_int
  simp
theorem e_intN : F__law_int [.none] = .ok (.val (.bool false)) := by
  unfold F__law_int runV m__law_int
  simp
theorem xor_lt {x y : Int} (hx : 0 ≤ x) (hy : 0 ≤ y) (hx2 : x < 2305843009213693952) (hy2 : y < 2305843009213693952) : 0 ≤ Builtin.bitXor x y ∧ Builtin.bitXor x y < 2305843009213693952 := by
  rw [Bits.bitXor_pp hx hy]
  have : x.toNat ^^^ y.toNat < 2 ^ 61 := Nat.xor_lt_two_pow (by omega) (by omega)
  omega
theorem mul_ok {i j : Int} (hi : i.natAbs < 2 ^ 1000) (hj : j.natAbs < 2 ^ 1000) : mulW (.int i) (.int j) = some (.int (i * j)) := by
  refine ev_mul i j ?_
  have h1 : ∀ {n : Nat}, n < 2 ^ 1000 → n.log2 ≤ 1000 := fun {n} h => by
    by_cases e : n = 0
    · subst e; exact Nat.zero_le _
    · exact Nat.le_of_lt ((Nat.log2_lt e).mpr h)
  have := h1 hi
  have := h1 hj
  omega
theorem mul_61 {i j : Int} (hi : 0 ≤ i) (hi2 : i < 2305843009213693952) (hj : 0 ≤ j) (hj2 : j < 18446744073709551616) : mulW (.int i) (.int j) = some (.int (i * j)) := by
  refine mul_ok ?_ ?_
  · have : i.natAbs < 2 ^ 61 := by omega
    exact Nat.lt_of_lt_of_le this (Nat.pow_le_pow_right (by omega) (by omega))
  · have : j.natAbs < 2 ^ 64 := by omega
    exact Nat.lt_of_lt_of_le this (Nat.pow_le_pow_right (by omega) (by omega))
theorem e_mixed (c t : Nat) (ht : t < 1000000) : ∃ r : Nat, F__law_mixed [.int c, .int t] = .ok (.val (.int r)) := by
  have h1 : mulW (.int ((c : Int) % 2305843009213693951)) (.int 6364136223846793005) = some (.int ((c : Int) % 2305843009213693951 * 6364136223846793005)) := mul_61 (Int.emod_nonneg _ (by decide)) (Int.lt_trans (Int.emod_lt_of_pos _ (by decide)) (by decide)) (by decide) (by decide)
  have h2 : mulW (.int (t : Int)) (.int 1442695040888963407) = some (.int ((t : Int) * 1442695040888963407)) := mul_61 (by omega) (by omega) (by omega) (by omega)
  obtain ⟨n1, e1, b1, b2⟩ : ∃ n1 : Int, n1 = ((c : Int) % 2305843009213693951 * 6364136223846793005 + t * 1442695040888963407 + 97) % 2305843009213693952 ∧ 0 ≤ n1 ∧ n1 < 2305843009213693952 := ⟨_, rfl, Int.emod_nonneg _ (by decide), Int.emod_lt_of_pos _ (by decide)⟩
  obtain ⟨x1, x2⟩ := xor_lt b1 (show 0 ≤ n1 / 536870912 by omega) b2 (by omega)
  have h3 := mul_61 x1 x2 (show (0 : Int) ≤ 3935559000370003845 by decide) (by decide)
  obtain ⟨n2, e2, c1, c2⟩ : ∃ n2 : Int, n2 = (Builtin.bitXor n1 (n1 / 536870912) * 3935559000370003845) % 2305843009213693952 ∧ 0 ≤ n2 ∧ n2 < 2305843009213693952 := ⟨_, rfl, Int.emod_nonneg _ (by decide), Int.emod_lt_of_pos _ (by decide)⟩
  obtain ⟨y1, y2⟩ := xor_lt c1 (show 0 ≤ n2 / 2147483648 by omega) c2 (by omega)
  have h4 := mul_61 y1 y2 (show (0 : Int) ≤ 2862933555777941757 by decide) (by decide)
  refine ⟨((Builtin.bitXor n2 (n2 / 2147483648) * 2862933555777941757) % 2305843009213693952).toNat, ?_⟩
  have e3 : (((Builtin.bitXor n2 (n2 / 2147483648) * 2862933555777941757 % 2305843009213693952).toNat : Nat) : Int) = Builtin.bitXor n2 (n2 / 2147483648) * 2862933555777941757 % 2305843009213693952 := Int.toNat_of_nonneg (Int.emod_nonneg _ (by decide))
  unfold F__law_mixed runV m__law_mixed
  rw [e3]
  simp [h1, h2, ← e1, h3, ← e2, h4]
theorem e_open (ns : List Int) (hl : ns.length ≤ 63) : F__law_open [.list (ns.map PyData.int)] = .ok (.own (.list [.int 0, .int 0, .list ((ns.map fun z => PyData.int (if z < 0 then -z else z)) ++ [.int 0])])) := by
  have hcut : cutA (ns.map PyData.int) none (some 63) = ns.map PyData.int := by
    refine cutA_all rfl ?_
    rw [List.length_map]
    show (if (63 : Int) < 0 then ((63 : Int) + (ns.length : Int)).toNat else min (63 : Int).toNat ns.length) = ns.length
    rw [if_neg (by decide)]
    exact Nat.min_eq_right hl
  let f : W → W := fun w => match w with
    | .int z => .int (if z < 0 then -z else z)
    | w => w
  have key : mLc [2] (mItS (mSl (mVar 0) mNoPart (mPart (mC (.int 63))))) (store 2) mYes (mCallB absW (mCons (mCallB intW (mCons (mVar 2) mNil)) mNil)) [some (.val (.list (ns.map PyData.int))), none, none] = .ok (.list ((ns.map PyData.int).map f)) [some (.val (.list (ns.map PyData.int))), none, none] := by
    refine mLc_map f ?_ rfl (by rw [List.length_map]; exact le_line (by omega)) ?_
    · simp [hcut]
    · intro w hw
      obtain ⟨z, _, rfl⟩ := List.mem_map.mp hw
      exact ⟨[some (.val (.list (ns.map PyData.int))), none, some (.val (.int z))], _, _, by simp, rfl, by simp [f]; rfl, by simp⟩
  have e : (ns.map PyData.int).map f = ns.map fun z => PyData.int (if z < 0 then -z else z) := by
    rw [List.map_map]; rfl
  have ha : addW (.list ((ns.map PyData.int).map f)) (.list [.int 0]) = some (.list ((ns.map PyData.int).map f ++ [.int 0])) := by
    show (if _ then _ else _) = _
    rw [if_pos]
    exact le_line (by simp; omega)
  unfold F__law_open runV m__law_open
  rw [← e]
  have key2 : mAsg (store 1) (mLc [2] (mItS (mSl (mVar 0) mNoPart (mPart (mC (.int 63))))) (store 2) mYes (mCallB absW (mCons (mCallB intW (mCons (mVar 2) mNil)) mNil))) [some (.val (.list (ns.map PyData.int))), none, none] = .next [some (.val (.list (ns.map PyData.int))), some (.val (.list ((ns.map PyData.int).map f))), none] := by
    rw [ev_asg, key]; rfl
  have hs : sdV 3 [PyData.list (ns.map PyData.int)] = [some (.val (.list (ns.map PyData.int))), none, none] := rfl
  rw [hs, ev_seq, key2]
  generalize (ns.map PyData.int).map f = xs at ha ⊢
  simp [ha]
def natW (cs : List Nat) : List W := cs.map fun (c : Nat) => PyData.int (c : Int)
/-- the draws' state: turns so far (at most k), what is left, the cells -/
def Dr (k : Nat) (u : W) : Prop := ∃ (t l : Nat) (cs : List Nat), t ≤ k ∧ cs ≠ [] ∧ cs.length ≤ 1000 ∧ u = .list [.int t, .int l, .list (natW cs)]
theorem dr_open (ns : List Int) (hl : ns.length ≤ 63) : ∃ u, F__law_open [.list (ns.map PyData.int)] = .ok (.own u) ∧ Dr 0 u := by
  refine ⟨_, e_open ns hl, 0, 0, ns.map Int.natAbs ++ [0], Nat.le_refl _, by simp, by simp; omega, ?_⟩
  have e : (ns.map fun z => PyData.int (if z < 0 then -z else z)) ++ [PyData.int 0] = natW (ns.map Int.natAbs ++ [0]) := by
    unfold natW
    rw [List.map_append, List.map_map]
    congr 1
    apply List.map_congr_left
    intro z _
    show PyData.int _ = PyData.int _
    congr 1
    show _ = ((z.natAbs : Nat) : Int)
    split <;> omega
  rw [e]
  rfl
section
variable (n t l : Nat) (cs : List Nat)
abbrev dru (t l : Nat) (cs : List Nat) : W := .list [.int (t : Int), .int (l : Int), .list (natW cs)]
theorem dr1 (u : W) (x : Option Slot) : mUnpOwn 0 3 (gsCons (store 2) (gsCons (store 3) (gsCons (store 4) gsNil))) [some (.par (dru t l cs)), some (.val (.int n)), none, none, none, none] = .next [some (.par (dru t l cs)), some (.val (.int n)), some (.val (.int t)), some (.val (.int l)), some (.val (.list (natW cs))), none] := by
  simp
theorem dr2 (u : W) (c m : Nat) (hcl : 0 < cs.length) (hc : cs[t % cs.length]? = some c) (hm : F__law_mixed [.int c, .int t] = .ok (.val (.int m))) :
    (mSeq (mAsg (store 5) (mBin ixW (mVar 4) (mBin modW (mVar 2) (mCallB lenW (mCons (mVar 4) mNil)))))
    (mSeq (mAsg (store 3) (mIfE (mAndT (mTest (mBin ltW (mVar 2) (mCallB lenW (mCons (mVar 4) mNil)))) (mTest (mBin geW (mVar 5) (mBin powW (mC (.int 10)) (mC (.int 18)))))) (mVar 5) (mCallV F__law_mixed (mCons (mVar 5) (mCons (mVar 2) mNil)))))
    (mAsg (store 2) (mBin addW (mVar 2) (mC (.int 1)))))) [some (.par u), some (.val (.int n)), some (.val (.int t)), some (.val (.int l)), some (.val (.list (natW cs))), none] =
    .next [some (.par u), some (.val (.int n)), some (.val (.int ((t + 1 : Nat) : Int))), some (.val (.int ((if t < cs.length ∧ 1000000000000000000 ≤ c then c else m : Nat) : Int))), some (.val (.list (natW cs))), some (.val (.int c))] := by
  have hlw : (natW cs).length = cs.length := List.length_map ..
  have hcl' : (0 : Int) < cs.length := by omega
  have hat : atI (natW cs) ((t : Int) % (cs.length : Int)) = some (.int c) := by
    have e : (t : Int) % (cs.length : Int) = ((t % cs.length : Nat) : Int) := by simp
    rw [e]
    refine atI_nat ?_
    unfold natW
    rw [List.getElem?_map, hc]; rfl
  have s1 : mAsg (store 5) (mBin ixW (mVar 4) (mBin modW (mVar 2) (mCallB lenW (mCons (mVar 4) mNil)))) [some (.par u), some (.val (.int n)), some (.val (.int t)), some (.val (.int l)), some (.val (.list (natW cs))), none] = .next [some (.par u), some (.val (.int n)), some (.val (.int t)), some (.val (.int l)), some (.val (.list (natW cs))), some (.val (.int c))] := by
    simp [hlw, hcl, hat]
  have s2 : mAsg (store 3) (mIfE (mAndT (mTest (mBin ltW (mVar 2) (mCallB lenW (mCons (mVar 4) mNil)))) (mTest (mBin geW (mVar 5) (mBin powW (mC (.int 10)) (mC (.int 18)))))) (mVar 5) (mCallV F__law_mixed (mCons (mVar 5) (mCons (mVar 2) mNil)))) [some (.par u), some (.val (.int n)), some (.val (.int t)), some (.val (.int l)), some (.val (.list (natW cs))), some (.val (.int c))] =
      .next [some (.par u), some (.val (.int n)), some (.val (.int t)), some (.val (.int ((if t < cs.length ∧ 1000000000000000000 ≤ c then c else m : Nat) : Int))), some (.val (.list (natW cs))), some (.val (.int c))] := by
    by_cases b1 : t < cs.length
    · by_cases b2 : 1000000000000000000 ≤ c
      · have b2' : (1000000000000000000 : Int) ≤ c := by omega
        simp [hlw, b1, b2, b2', hm]
      · have b2' : ¬ (1000000000000000000 : Int) ≤ c := by omega
        simp [hlw, b1, b2, b2', hm]
    · simp [hlw, b1, hm]
  rw [ev_seq, s1, SOut.seq_next, ev_seq, s2, SOut.seq_next]
  simp
theorem dr3 (a : Option Slot) (hn : 0 < n) (hn2 : n ≤ 2000000000000) (x y z : W) (x' y' : W) : (mSeq (mSetIx setLW 0 (mC (.int 0)) (mVar 2)) (mSeq (mSetIx setLW 0 (mC (.int 1)) (mBin fdivW (mVar 3) (mVar 1))) (mRet (mBin modW (mVar 3) (mVar 1))))) [some (.par (.list [x, y, z])), some (.val (.int n)), some (.val (.int t)), some (.val (.int l)), some (.val x'), a] =
    .ret (.val (.int ((l % n : Nat) : Int))) [some (.par (.list [.int t, .int ((l / n : Nat) : Int), z])), some (.val (.int n)), some (.val (.int t)), some (.val (.int l)), some (.val x'), a] := by
  have hlog : n.log2 < 9000 := by
    have : n < 2 ^ 100 := by omega
    have := (Nat.log2_lt (by omega)).mpr this
    omega
  have s1 : mSetIx setLW 0 (mC (.int 0)) (mVar 2) [some (.par (.list [x, y, z])), some (.val (.int n)), some (.val (.int t)), some (.val (.int l)), some (.val x'), a] = .next [some (.par (.list [.int t, y, z])), some (.val (.int n)), some (.val (.int t)), some (.val (.int l)), some (.val x'), a] := by
    simp [setLW, ixN]
  have s2 : mSetIx setLW 0 (mC (.int 1)) (mBin fdivW (mVar 3) (mVar 1)) [some (.par (.list [.int t, y, z])), some (.val (.int n)), some (.val (.int t)), some (.val (.int l)), some (.val x'), a] = .next [some (.par (.list [.int t, .int ((l / n : Nat) : Int), z])), some (.val (.int n)), some (.val (.int t)), some (.val (.int l)), some (.val x'), a] := by
    simp [setLW, ixN, hn, hlog]
  rw [ev_seq, s1, SOut.seq_next, ev_seq, s2, SOut.seq_next]
  simp [hn]
end
theorem e_draw (k : Nat) (u : W) (n : Nat) (h : Dr k u) (hk : k < 900000) (hn : 0 < n) (hn2 : n ≤ 2000000000000) : ∃ (r : Nat) (u' : W), r < n ∧ Dr (k + 1) u' ∧ F__law_draw u [.int n] = .ok (.val (.int r)) u' := by
  obtain ⟨t, l, cs, ht, hne, hlen, rfl⟩ := h
  have hcl : 0 < cs.length := List.length_pos_iff.mpr hne
  obtain ⟨c, hc⟩ : ∃ c, cs[t % cs.length]? = some c := ⟨cs[t % cs.length]'(Nat.mod_lt _ hcl), List.getElem?_eq_getElem _⟩
  obtain ⟨m, hm⟩ := e_mixed c t (by omega)
  have hs : sdP 6 (dru t l cs) [.int n] = [some (.par (dru t l cs)), some (.val (.int n)), none, none, none, none] := rfl
  by_cases hl : l < n
  · refine ⟨(if t < cs.length ∧ 1000000000000000000 ≤ c then c else m) % n, dru (t + 1) ((if t < cs.length ∧ 1000000000000000000 ≤ c then c else m) / n) cs, Nat.mod_lt _ hn, ⟨t + 1, _, cs, by omega, hne, hlen, rfl⟩, ?_⟩
    unfold F__law_draw runP m__law_draw
    rw [hs, ev_seq, dr1 n t l cs .none none, SOut.seq_next, ev_seq, ev_if]
    have ht : mTest (mBin ltW (mVar 3) (mVar 1)) [some (.par (dru t l cs)), some (.val (.int n)), some (.val (.int t)), some (.val (.int l)), some (.val (.list (natW cs))), none] = .ok true [some (.par (dru t l cs)), some (.val (.int n)), some (.val (.int t)), some (.val (.int l)), some (.val (.list (natW cs))), none] := by simp [hl]
    rw [ht]
    dsimp only [Out.toS]
    rw [if_pos rfl, dr2 n t l cs (dru t l cs) c m hcl hc hm, SOut.seq_next, dr3 n (t + 1) _ _ hn hn2 _ _ _ _ .none]
    rfl
  · refine ⟨l % n, dru t (l / n) cs, Nat.mod_lt _ hn, ⟨t, l / n, cs, by omega, hne, hlen, rfl⟩, ?_⟩
    unfold F__law_draw runP m__law_draw
    rw [hs, ev_seq, dr1 n t l cs .none none, SOut.seq_next, ev_seq, ev_if]
    have ht : mTest (mBin ltW (mVar 3) (mVar 1)) [some (.par (dru t l cs)), some (.val (.int n)), some (.val (.int t)), some (.val (.int l)), some (.val (.list (natW cs))), none] = .ok false [some (.par (dru t l cs)), some (.val (.int n)), some (.val (.int t)), some (.val (.int l)), some (.val (.list (natW cs))), none] := by simp [hl]
    rw [ht]
    dsimp only [Out.toS]
    rw [if_neg Bool.false_ne_true, ev_skip, SOut.seq_next, dr3 n t l _ hn hn2 _ _ _ _ .none]
    rfl
end K48
end
section
set_option Elab.async false
set_option linter.all false
set_option maxRecDepth 100000
namespace K48
/-! ### the least first -/
/-- the least place of the least of a 0 .. a n -/
def arg (a : Nat → Nat) : Nat → Nat
  | 0 => 0
  | n + 1 => if a (n + 1) < a (arg a n) then n + 1 else arg a n
theorem arg_le (a : Nat → Nat) : ∀ n, arg a n ≤ n
  | 0 => Nat.le_refl _
  | n + 1 => by unfold arg; split; exact Nat.le_refl _; exact Nat.le_succ_of_le (arg_le a n)
theorem arg_min (a : Nat → Nat) : ∀ n i, i ≤ n → a (arg a n) ≤ a i
  | 0, i, h => by have : i = 0 := by omega
                  subst this; exact Nat.le_refl _
  | n + 1, i, h => by
    unfold arg
    split
    · rename_i c
      by_cases e : i = n + 1
      · subst e; exact Nat.le_refl _
      · have := arg_min a n i (by omega); omega
    · rename_i c
      by_cases e : i = n + 1
      · subst e; omega
      · exact arg_min a n i (by omega)
theorem arg_first (a : Nat → Nat) : ∀ n i, i < arg a n → a (arg a n) < a i
  | 0, i, h => absurd h (Nat.not_lt_zero _)
  | n + 1, i, h => by
    unfold arg at h ⊢
    split at h
    · rename_i c
      rw [if_pos c]
      have := arg_min a n i (by omega); omega
    · rename_i c
      rw [if_neg c]
      exact arg_first a n i h
theorem arg_eq {a : Nat → Nat} {n b : Nat} (hb : b ≤ n) (h1 : ∀ i, i ≤ n → a b ≤ a i) (h2 : ∀ i, i < b → a b < a i) : arg a n = b := by
  have l1 := arg_min a n b hb
  have l2 := h1 (arg a n) (arg_le a n)
  rcases Nat.lt_trichotomy (arg a n) b with h | h | h
  · have := h2 _ h; omega
  · exact h
  · have := arg_first a n b h; omega
theorem arg_congr {a b : Nat → Nat} {n : Nat} (h : ∀ i, i ≤ n → a i = b i) : arg a n = arg b n :=
  arg_eq (arg_le b n) (fun i hi => by rw [h _ (arg_le b n), h i hi]; exact arg_min b n i hi) fun i hi => by
    have := arg_le b n
    rw [h _ (arg_le b n), h i (by omega)]; exact arg_first b n i hi
/-! ### worst costs -/
def Vc (lo hi : Nat) (c : List Nat) (m x : Nat) : Nat := max (lo + c.getD (m - x) 0) (hi + c.getD x 0)
def cs (lo hi : Nat) : Nat → List Nat
  | 0 => [0]
  | m + 1 => cs lo hi m ++ [Vc lo hi (cs lo hi m) m (arg (Vc lo hi (cs lo hi m) m) m)]
def C (lo hi k : Nat) : Nat := (cs lo hi k).getD k 0
def U (lo hi m x : Nat) : Nat := max (lo + C lo hi (m - x)) (hi + C lo hi x)
def Fi (lo hi m : Nat) : Nat := arg (U lo hi m) m + 1
section
variable {lo hi : Nat}
theorem cs_len : ∀ m, (cs lo hi m).length = m + 1
  | 0 => rfl
  | m + 1 => by unfold cs; rw [List.length_append, cs_len m]; rfl
theorem cs_get {k : Nat} : ∀ {m : Nat}, k ≤ m → (cs lo hi m).getD k 0 = C lo hi k
  | 0, h => by have : k = 0 := by omega
               subst this; rfl
  | m + 1, h => by
    by_cases e : k = m + 1
    · subst e; rfl
    · have h1 := cs_get (k := k) (m := m) (by omega)
      rw [← h1]
      conv => lhs; unfold cs
      rw [List.getD_eq_getElem?_getD, List.getD_eq_getElem?_getD, List.getElem?_append_left (by rw [cs_len]; omega)]
theorem V_eq {m x : Nat} (h : x ≤ m) : Vc lo hi (cs lo hi m) m x = U lo hi m x := by
  unfold Vc U
  rw [cs_get (by omega), cs_get h]
theorem C_zero : C lo hi 0 = 0 := rfl
theorem C_succ (m : Nat) : C lo hi (m + 1) = U lo hi m (arg (U lo hi m) m) := by
  have e : arg (Vc lo hi (cs lo hi m) m) m = arg (U lo hi m) m := arg_congr fun i h => V_eq h
  unfold C
  conv => lhs; unfold cs
  rw [List.getD_eq_getElem?_getD, List.getElem?_append_right (by rw [cs_len]; omega), cs_len, Nat.sub_self, e, V_eq (arg_le _ _)]
  rfl
theorem cs_succ (m : Nat) : cs lo hi (m + 1) = cs lo hi m ++ [C lo hi (m + 1)] := by
  have e : arg (Vc lo hi (cs lo hi m) m) m = arg (U lo hi m) m := arg_congr fun i h => V_eq h
  rw [C_succ, ← V_eq (arg_le _ _), ← e]
  rfl
theorem C_le {m x : Nat} (h : x ≤ m) : C lo hi (m + 1) ≤ max (lo + C lo hi (m - x)) (hi + C lo hi x) := by
  rw [C_succ]; exact arg_min _ m x h
theorem C_ex (m : Nat) : ∃ x, x ≤ m ∧ C lo hi (m + 1) = max (lo + C lo hi (m - x)) (hi + C lo hi x) := ⟨_, arg_le _ _, C_succ m⟩
theorem C_up : ∀ m, (∀ k, k ≤ m → C lo hi k ≤ C lo hi (k + 1)) := by
  intro m
  induction m with
  | zero =>
    intro k hk
    have : k = 0 := by omega
    subst this
    rw [C_zero]; exact Nat.zero_le _
  | succ m ih =>
    intro k hk
    by_cases e : k ≤ m
    · exact ih k e
    · have : k = m + 1 := by omega
      subst this
      obtain ⟨x, hx, ex⟩ := C_ex (lo := lo) (hi := hi) (m + 1)
      by_cases c : x ≤ m
      · have h1 := C_le (lo := lo) (hi := hi) (m := m) (x := x) c
        have h2 := ih (m - x) (by omega)
        rw [show m + 1 - x = (m - x) + 1 by omega] at ex
        omega
      · have : x = m + 1 := by omega
        subst this
        have h1 := C_le (lo := lo) (hi := hi) (m := m) (x := m) (Nat.le_refl _)
        have h2 := ih m (Nat.le_refl _)
        rw [Nat.sub_self] at ex h1
        omega
theorem C_step (m : Nat) : C lo hi m ≤ C lo hi (m + 1) := C_up m m (Nat.le_refl _)
end
theorem C_mono {lo hi lo' hi' : Nat} (h1 : lo ≤ lo') (h2 : hi ≤ hi') : ∀ n m, m ≤ n → C lo hi m ≤ C lo' hi' m
  | _, 0, _ => by rw [C_zero]; exact Nat.zero_le _
  | 0, m + 1, h => by omega
  | n + 1, m + 1, h => by
    obtain ⟨x, hx, ex⟩ := C_ex (lo := lo') (hi := hi') m
    have a1 := C_le (lo := lo) (hi := hi) hx
    have a2 := C_mono h1 h2 n (m - x) (by omega)
    have a3 := C_mono h1 h2 n x (by omega)
    omega
theorem C_free (hi : Nat) : ∀ n m, m ≤ n → C 0 hi (m + 1) = hi
  | n, 0, _ => by
    obtain ⟨x, hx, ex⟩ := C_ex (lo := 0) (hi := hi) 0
    have : x = 0 := by omega
    subst this
    rw [Nat.sub_self, C_zero] at ex
    omega
  | 0, m + 1, h => by omega
  | n + 1, m + 1, h => by
    obtain ⟨x, hx, ex⟩ := C_ex (lo := 0) (hi := hi) (m + 1)
    have a1 := C_le (lo := 0) (hi := hi) (m := m + 1) (x := 0) (Nat.zero_le _)
    rw [Nat.sub_zero, C_zero, C_free hi n m (by omega)] at a1
    have : hi ≤ C 0 hi (m + 1 + 1) := by rw [ex]; omega
    omega
theorem C_one : ∀ n, n < 61 → C 1 1 n = ((List.range 7).filter fun k => decide (n < 2 ^ k)).headD 0 := by decide +kernel
/-! ### fewest tests -/
def A (t : List Nat) (j i : Nat) : Nat := 1 + max (t.getD (i + 1) 0) (t.getD (j + 1 - i) 0)
def tt : Nat → List Nat
  | 0 => [0, 0]
  | j + 1 => tt j ++ [A (tt j) j (arg (A (tt j) j) j)]
def tf (j : Nat) : Nat := arg (A (tt j) j) j + 1
theorem tt_len : ∀ j, (tt j).length = j + 2
  | 0 => rfl
  | j + 1 => by unfold tt; rw [List.length_append, tt_len j]; rfl
def bits (n : Nat) : Nat := if n = 0 then 0 else n.log2 + 1
theorem bits_le (n : Nat) : n < 2 ^ bits n := by
  unfold bits
  split
  · rename_i h; subst h; decide
  · exact Nat.lt_log2_self
theorem bits_ge {n k : Nat} (h : k < bits n) : 2 ^ k ≤ n := by
  unfold bits at h
  split at h
  · omega
  · rename_i c
    have h1 := Nat.log2_self_le c
    exact Nat.le_trans (Nat.pow_le_pow_right (by omega) (by omega)) h1
theorem bits_eq {n t : Nat} (h1 : n < 2 ^ t) (h2 : ∀ k, k < t → 2 ^ k ≤ n) : bits n = t := by
  rcases Nat.lt_trichotomy (bits n) t with h | h | h
  · have := h2 _ h; have := bits_le n; omega
  · exact h
  · have := bits_ge h; omega
theorem tt_is : ∀ n, n < 45 → 2 ≤ n → (tt (n - 1)).getD n 0 = bits (n - 1) ∧ tf (n - 2) = max 1 (n - 2 ^ (bits (n - 1) - 1)) := by decide +kernel
end K48
end
section
set_option Elab.async false
set_option linter.all false
set_option maxRecDepth 100000
set_option maxHeartbeats 4000000
set_option exponentiation.threshold 100000
namespace K48
open Qd PySem L2
/-! ### the least of pairs -/
abbrev pr (a k : Nat) : W := .tuple [.int (a : Int), .int (k : Int)]
theorem minD_pairs (a : Nat → Nat) : ∀ n : Nat, PySem.W.minD (pr (a 0) 1) ((List.range n).map fun i => pr (a (i + 1)) (i + 2)) = pr (a (arg a n)) (arg a n + 1)
  | 0 => rfl
  | n + 1 => by
    rw [List.range_succ, List.map_append]
    unfold PySem.W.minD
    rw [List.foldl_append]
    have ih := minD_pairs a n
    unfold PySem.W.minD at ih
    rw [ih]
    show (if PySem.W.dataLt (pr (a (n + 1)) (n + 2)) (pr (a (arg a n)) (arg a n + 1)) = true then pr (a (n + 1)) (n + 2) else pr (a (arg a n)) (arg a n + 1)) = _
    rw [PySem.W.dataLt_ii]
    have hle := arg_le a n
    conv => rhs; unfold arg
    by_cases c : a (n + 1) < a (arg a n)
    · rw [if_pos (decide_eq_true (.inl (by omega))), if_pos c]
    · rw [if_neg (by rw [decide_eq_true_eq]; omega), if_neg c]
theorem pr_lv (a k : Nat) : lv 1 (pr a k) := by
  intro d hd
  rcases List.mem_cons.mp hd with rfl | hd
  · exact trivial
  · rw [List.mem_singleton.mp hd]; exact trivial
theorem alike_pr (a b c d : Nat) : PySem.W.alike (pr a b) (pr c d) = true := by simp [PySem.W.alike, PySem.W.alikeAll]
def prs (a : Nat → Nat) (n : Nat) : List W := (List.range n).map fun i => pr (a i) (i + 1)
theorem prs_cons (a : Nat → Nat) (n : Nat) : prs a (n + 1) = pr (a 0) 1 :: (List.range n).map fun i => pr (a (i + 1)) (i + 2) := by
  unfold prs
  rw [List.range_succ_eq_map, List.map_cons, List.map_map]
  rfl
theorem min_pairs (a : Nat → Nat) (n : Nat) : minW [.list (prs a (n + 1))] = some (pr (a (arg a n)) (arg a n + 1)) := by
  have hok : okD (.list (prs a (n + 1))) = true := by
    refine lv_ok (k := 2) (by omega) fun d hd => ?_
    obtain ⟨i, _, rfl⟩ := List.mem_map.mp hd
    exact pr_lv _ _
  have hal : alikeB (prs a (n + 1)) = true := by
    unfold alikeB
    rw [Bool.and_eq_true, List.all_eq_true, List.all_eq_true]
    refine ⟨fun x hx => List.all_eq_true.mpr fun y hy => ?_, fun x hx => ?_⟩
    · obtain ⟨i, _, rfl⟩ := List.mem_map.mp hx
      obtain ⟨j, _, rfl⟩ := List.mem_map.mp hy
      exact alike_pr _ _ _ _
    · obtain ⟨i, _, rfl⟩ := List.mem_map.mp hx
      rfl
  rw [prs_cons] at hok hal ⊢
  show (if (okD _ && alikeB _) = true then some (PySem.W.minD _ _) else none) = _
  rw [hok, hal, minD_pairs]
  rfl
/-! ### lists of numbers -/
theorem natW_get {cs : List Nat} {i : Nat} {j : Int} (hj : j = (i : Int)) (h : i < cs.length) : atI (natW cs) j = some (.int ((cs.getD i 0 : Nat) : Int)) := by
  subst hj
  refine atI_nat ?_
  unfold natW
  rw [List.getElem?_map, List.getD_eq_getElem?_getD, List.getElem?_eq_getElem h]
  rfl
theorem max2_nat (a b : Nat) : max2W [.int (a : Int), .int (b : Int)] = some (.int ((max a b : Nat) : Int)) := by
  rw [ev_max2]
  congr 2
  split <;> omega
def fiW (lo hi m : Nat) : List W := .none :: (List.range m).map fun i => PyData.int ((Fi lo hi i : Nat) : Int)
theorem fiW_len (lo hi m : Nat) : (fiW lo hi m).length = m + 1 := by unfold fiW; simp
theorem fiW_succ (lo hi m : Nat) : fiW lo hi (m + 1) = fiW lo hi m ++ [.int ((Fi lo hi m : Nat) : Int)] := by
  unfold fiW
  rw [List.range_succ, List.map_append]
  rfl
theorem natW_len (cs : List Nat) : (natW cs).length = cs.length := by unfold natW; simp
theorem natW_app (cs : List Nat) (c : Nat) : natW (cs ++ [c]) = natW cs ++ [.int (c : Int)] := by unfold natW; simp
/-- the marks of one number of levels -/
theorem found_ev (v lo hi i : Nat) (fw : W) (x6 : Option Slot) (hi60 : i < 100) :
    mLc [7] (mRng2 (mCons (mC (.int 1)) (mCons (mBin addW (mVar 5) (mC (.int 1))) mNil))) (store 7) mYes (mTup (mCons (mCallB max2W (mCons (mBin addW (mVar 1) (mSubOwn 3 (mBin subW (mVar 5) (mVar 7)))) (mCons (mBin addW (mVar 2) (mSubOwn 3 (mBin subW (mVar 7) (mC (.int 1))))) mNil))) (mCons (mVar 7) mNil)))
      [iv v, iv lo, iv hi, some (.own (.list (natW (cs lo hi i)))), some (.own fw), sv (.int (1 + (i : Int))), x6, none] =
    .ok (.list (prs (U lo hi i) (i + 1))) [iv v, iv lo, iv hi, some (.own (.list (natW (cs lo hi i)))), some (.own fw), sv (.int (1 + (i : Int))), x6, none] := by
  have hr : range2? [.int 1, .int (1 + (i : Int) + 1)] = some (rangeW 1 (i + 1)) := range2_of (by omega) (by omega) (by omega) (by omega) (by omega)
  refine mLc_all (List.range (i + 1)) (fun (j : Nat) => PyData.int (1 + (j : Int))) (fun (j : Nat) => pr (U lo hi i j) (j + 1)) (by simp [hr, rangeW_map]) (by simp) (le_line (by rw [List.length_range]; omega)) fun j hj => ?_
  have hj := List.mem_range.mp hj
  have g1 : atI (natW (cs lo hi i)) (1 + (i : Int) - (1 + (j : Int))) = some (.int ((C lo hi (i - j) : Nat) : Int)) := by
    rw [natW_get (i := i - j) (by omega) (by rw [cs_len]; omega), cs_get (by omega)]
  have g2 : atI (natW (cs lo hi i)) (1 + (j : Int) - 1) = some (.int ((C lo hi j : Nat) : Int)) := by
    rw [natW_get (i := j) (by omega) (by rw [cs_len]; omega), cs_get (by omega)]
  have g3 := max2_nat (lo + C lo hi (i - j)) (hi + C lo hi j)
  refine ⟨[iv v, iv lo, iv hi, some (.own (.list (natW (cs lo hi i)))), some (.own fw), sv (.int (1 + (i : Int))), x6, sv (.int (1 + (j : Int)))], _, [iv v, iv lo, iv hi, some (.own (.list (natW (cs lo hi i)))), some (.own fw), sv (.int (1 + (i : Int))), x6, sv (.int (1 + (j : Int)))], by simp, rfl, ?_, by simp⟩
  push_cast at g1 g2 g3
  simp [g1, g2, g3, U]
  omega
theorem U_min (lo hi i : Nat) : minW [.list (prs (U lo hi i) (i + 1))] = some (pr (C lo hi (i + 1)) (Fi lo hi i)) := by
  rw [min_pairs, C_succ]
  rfl
theorem e_tables (n lo hi : Nat) (hn : n ≤ 60) (hl : lo ≤ 100) (hh : hi ≤ 100) : F_tables [.int n, .int lo, .int hi] = .ok (.val (.tuple [.list (natW (cs lo hi n)), .list (fiW lo hi n)])) := by
  have i1 := e_num_in (v := n) (a := 0) (b := 60) (by omega)
  have i2 := e_num_in (v := lo) (a := 0) (b := 100) (by omega)
  have i3 := e_num_in (v := hi) (a := 0) (b := 100) (by omega)
  refine runV_of ?_
  unfold m_tables
  rw [show sdV 8 [.int (n : Int), .int (lo : Int), .int (hi : Int)] = [iv n, iv lo, iv hi, none, none, none, none, none] from rfl]
  refine sqT (by simp [i1, i2, i3]; exact rfl) ?_
  refine sqT (by simp; exact rfl) ?_
  have hr : range2? [.int 1, .int ((n : Int) + 1)] = some (rangeW 1 n) := range2_of (by omega) (by omega) (by omega) (by omega) (by omega)
  obtain ⟨d', e1, x5, x6, rfl⟩ := forD_range (g := store 5) (b := (mSeq (mAsg (store 6) (mLc [7] (mRng2 (mCons (mC (.int 1)) (mCons (mBin addW (mVar 5) (mC (.int 1))) mNil))) (store 7) mYes (mTup (mCons (mCallB max2W (mCons (mBin addW (mVar 1) (mSubOwn 3 (mBin subW (mVar 5) (mVar 7)))) (mCons (mBin addW (mVar 2) (mSubOwn 3 (mBin subW (mVar 7) (mC (.int 1))))) mNil))) (mCons (mVar 7) mNil)))))
    (mSeq (mDrop (mMeth "list" appendW 3 (mCons (mBin ixW (mCallB minW (mCons (mVar 6) mNil)) (mC (.int 0))) mNil)))
    (mDrop (mMeth "list" appendW 4 (mCons (mBin ixW (mCallB minW (mCons (mVar 6) mNil)) (mC (.int 1))) mNil))))))
    (fun k d => ∃ x5 x6 : Option W, d = [iv n, iv lo, iv hi, some (.own (.list (natW (cs lo hi k)))), some (.own (.list (fiW lo hi k))), x5.map Slot.val, x6.map Slot.val, none]) 1 n 0
    [iv n, iv lo, iv hi, some (.own (.list [.int 0])), some (.own (.list [.none])), none, none, none] ⟨none, none, rfl⟩ (by
      rintro i d _ hi2 ⟨x5, x6, rfl⟩
      have fe := found_ev n lo hi i (.list (fiW lo hi i)) (x6.map Slot.val) (by omega)
      have l1 : (natW (cs lo hi i)).length < sizeLine := lt_line (by rw [natW_len, cs_len]; omega)
      have l2 : (fiW lo hi i).length < sizeLine := lt_line (by rw [fiW_len]; omega)
      have mn := U_min lo hi i
      refine ⟨[iv n, iv lo, iv hi, some (.own (.list (natW (cs lo hi i)))), some (.own (.list (fiW lo hi i))), sv (.int (1 + (i : Int))), x6.map Slot.val, none], [iv n, iv lo, iv hi, some (.own (.list (natW (cs lo hi (i + 1))))), some (.own (.list (fiW lo hi (i + 1)))), sv (.int (1 + (i : Int))), sv (.list (prs (U lo hi i) (i + 1))), none], by cases x5 <;> simp, .inl ?_, some _, some _, rfl⟩
      refine sqR (by rw [ev_asg, fe, Out.toS_ok]; simp; exact rfl) ?_
      rw [cs_succ, fiW_succ, natW_app]
      generalize prs (U lo hi i) (i + 1) = ps at *
      refine sqR (by simp [mn, l1, atI, ixN]; exact rfl) ?_
      simp [mn, l2, atI, ixN])
  refine sqT (d' := [iv n, iv lo, iv hi, some (.own (.list (natW (cs lo hi n)))), some (.own (.list (fiW lo hi n))), x5.map Slot.val, x6.map Slot.val, none]) ?_ ?_
  · rw [ev_for]
    rw [Nat.zero_add] at e1
    have : mRng2 (mCons (mC (.int 1)) (mCons (mBin addW (mVar 0) (mC (.int 1))) mNil)) [iv n, iv lo, iv hi, some (.own (.list [.int 0])), some (.own (.list [.none])), none, none, none] = .ok (rangeW 1 n) [iv n, iv lo, iv hi, some (.own (.list [.int 0])), some (.own (.list [.none])), none, none, none] := by simp [hr]
    rw [this]
    exact e1
  · refine frzT (by simp; exact rfl) ?_
    exact retT (by simp; exact rfl)
theorem x_tables (n lo hi : Int) (h : ¬ (0 ≤ n ∧ n ≤ 60) ∨ ¬ (0 ≤ lo ∧ lo ≤ 100) ∨ ¬ (0 ≤ hi ∧ hi ≤ 100)) : F_tables [.int n, .int lo, .int hi] = .exc 1 := by
  have i1 := e_is_number n 0 60
  have i2 := e_is_number lo 0 100
  have i3 := e_is_number hi 0 100
  unfold F_tables runV m_tables
  by_cases h1 : 0 ≤ n ∧ n ≤ 60
  · by_cases h2 : 0 ≤ lo ∧ lo ≤ 100
    · have h3 : ¬ (0 ≤ hi ∧ hi ≤ 100) := by omega
      rw [decide_eq_true h1] at i1
      rw [decide_eq_true h2] at i2
      rw [decide_eq_false h3] at i3
      simp [i1, i2, i3]
    · rw [decide_eq_true h1] at i1
      rw [decide_eq_false h2] at i2
      simp [i1, i2]
  · rw [decide_eq_false h1] at i1
    simp [i1]
theorem e_worst_cost (n lo hi : Nat) (hn : n ≤ 60) (hl : lo ≤ 100) (hh : hi ≤ 100) : F_worst_cost [.int n, .int lo, .int hi] = .ok (.val (.int ((C lo hi n : Nat) : Int))) := by
  have t := e_tables n lo hi hn hl hh
  have g : atI (natW (cs lo hi n)) (n : Int) = some (.int ((C lo hi n : Nat) : Int)) := by rw [natW_get (i := n) rfl (by rw [cs_len]; omega), cs_get (Nat.le_refl _)]
  unfold F_worst_cost runV m_worst_cost
  simp [t, g]
theorem fiW_get {lo hi n : Nat} : atI (fiW lo hi n) (n : Int) = some (match n with | 0 => .none | m + 1 => .int ((Fi lo hi m : Nat) : Int)) := by
  refine atI_nat ?_
  cases n with
  | zero => rfl
  | succ m =>
    rw [fiW_succ, List.getElem?_append_right (by rw [fiW_len]; omega), fiW_len, Nat.sub_self]
    rfl
def FiN (lo hi n : Nat) : W := match n with | 0 => .none | m + 1 => .int ((Fi lo hi m : Nat) : Int)
theorem e_told_level (n lo hi : Nat) (hn : n ≤ 60) (hl : lo ≤ 100) (hh : hi ≤ 100) : F_told_level [.int n, .int lo, .int hi] = .ok (.val (FiN lo hi n)) := by
  have t := e_tables n lo hi hn hl hh
  have g : atI (fiW lo hi n) (n : Int) = some (FiN lo hi n) := fiW_get
  unfold F_told_level runV m_told_level
  simp [t, g]
theorem x_worst_cost (n lo hi : Int) (h : ¬ (0 ≤ n ∧ n ≤ 60) ∨ ¬ (0 ≤ lo ∧ lo ≤ 100) ∨ ¬ (0 ≤ hi ∧ hi ≤ 100)) : F_worst_cost [.int n, .int lo, .int hi] = .exc 1 := by
  have t := x_tables n lo hi h
  unfold F_worst_cost runV m_worst_cost
  simp [t]
theorem x_told_level (n lo hi : Int) (h : ¬ (0 ≤ n ∧ n ≤ 60) ∨ ¬ (0 ≤ lo ∧ lo ≤ 100) ∨ ¬ (0 ≤ hi ∧ hi ≤ 100)) : F_told_level [.int n, .int lo, .int hi] = .exc 1 := by
  have t := x_tables n lo hi h
  unfold F_told_level runV m_told_level
  simp [t]
/-! ### the law's table of tests -/
def kN : Nat → W
  | 0 => .none
  | k => .int (k : Int)
def ttW (j : Nat) : List W := [.tuple [.int 0, .none], .tuple [.int 0, .none]] ++ (List.range j).map fun i => pr ((tt (i + 1)).getD (i + 2) 0) (tf i)
theorem ttW_len (j : Nat) : (ttW j).length = j + 2 := by unfold ttW; simp
theorem tt_get {k : Nat} : ∀ {j : Nat}, k < j + 2 → (tt j).getD k 0 = (tt (k - 1)).getD k 0
  | 0, h => by
    have : k = 0 ∨ k = 1 := by omega
    rcases this with rfl | rfl <;> rfl
  | j + 1, h => by
    by_cases e : k = j + 2
    · subst e; rfl
    · have h1 := tt_get (k := k) (j := j) (by omega)
      rw [← h1]
      conv => lhs; unfold tt
      rw [List.getD_eq_getElem?_getD, List.getD_eq_getElem?_getD, List.getElem?_append_left (by rw [tt_len]; omega)]
theorem ttW_get {j k : Nat} (h : k < j + 2) : ∃ w, atI (ttW j) (k : Int) = some (.tuple [.int (((tt j).getD k 0 : Nat) : Int), w]) ∧ (2 ≤ k → w = .int ((tf (k - 2) : Nat) : Int)) ∧ (k < 2 → w = .none) := by
  by_cases c : k < 2
  · have : k = 0 ∨ k = 1 := by omega
    refine ⟨.none, ?_, by omega, fun _ => rfl⟩
    rcases this with rfl | rfl
    · rw [tt_get h]; exact atI_nat rfl
    · rw [tt_get h]; exact atI_nat rfl
  · refine ⟨.int ((tf (k - 2) : Nat) : Int), atI_nat ?_, fun _ => rfl, by omega⟩
    unfold ttW
    rw [List.getElem?_append_right (by simp; omega)]
    rw [List.getElem?_map, show k - [PyData.tuple [PyData.int 0, PyData.none], PyData.tuple [PyData.int 0, PyData.none]].length = k - 2 from rfl, List.getElem?_eq_getElem (by simp; omega), List.getElem_range]
    have e : k - 2 + 2 = k := by omega
    rw [tt_get h]
    show some (pr ((tt (k - 2 + 1)).getD (k - 2 + 2) 0) (tf (k - 2))) = _
    rw [e, show k - 2 + 1 = k - 1 by omega]
theorem row_ev (v : Nat) (j : Nat) (x3 : Option W) (hj : j < 100) :
    mLc [3] (mRng2 (mCons (mC (.int 1)) (mCons (mVar 2) mNil))) (store 3) mYes (mTup (mCons (mBin addW (mC (.int 1)) (mCallB max2W (mCons (mBin ixW (mSubOwn 1 (mVar 3)) (mC (.int 0))) (mCons (mBin ixW (mSubOwn 1 (mBin subW (mVar 2) (mVar 3))) (mC (.int 0))) mNil)))) (mCons (mVar 3) mNil)))
      [iv v, some (.own (.list (ttW j))), sv (.int (2 + (j : Int))), x3.map Slot.val] =
    .ok (.list (prs (A (tt j) j) (j + 1))) [iv v, some (.own (.list (ttW j))), sv (.int (2 + (j : Int))), x3.map Slot.val] := by
  have hr : range2? [.int 1, .int (2 + (j : Int))] = some (rangeW 1 (j + 1)) := range2_of (by omega) (by omega) (by omega) (by omega) (by omega)
  refine mLc_all (List.range (j + 1)) (fun (i : Nat) => PyData.int (1 + (i : Int))) (fun (i : Nat) => pr (A (tt j) j i) (i + 1)) (by simp [hr, rangeW_map]) (by cases x3 <;> simp) (le_line (by rw [List.length_range]; omega)) fun i hi => ?_
  have hi := List.mem_range.mp hi
  obtain ⟨w1, g1, _, _⟩ := ttW_get (j := j) (k := i + 1) (by omega)
  obtain ⟨w2, g2, _, _⟩ := ttW_get (j := j) (k := j + 1 - i) (by omega)
  rw [show ((i + 1 : Nat) : Int) = 1 + (i : Int) by omega] at g1
  rw [show ((j + 1 - i : Nat) : Int) = 2 + (j : Int) - (1 + (i : Int)) by omega] at g2
  have g3 := max2_nat ((tt j).getD (i + 1) 0) ((tt j).getD (j + 1 - i) 0)
  have g4 : ∀ (a : Int) (w : W), atI [.int a, w] 0 = some (.int a) := fun a w => by
    have : atI (PyData.int a :: [w]) ((0 : Nat) : Int) = some (.int a) := atI_nat rfl
    exact this
  refine ⟨[iv v, some (.own (.list (ttW j))), sv (.int (2 + (j : Int))), sv (.int (1 + (i : Int)))], _, [iv v, some (.own (.list (ttW j))), sv (.int (2 + (j : Int))), sv (.int (1 + (i : Int)))], by simp, rfl, ?_, by simp⟩
  generalize ttW j = tw at *
  simp [g1, g2, g3, g4, A]
  omega
theorem e_tests (n : Nat) (h1 : 1 ≤ n) (h2 : n < 45) : ∃ j, n < j + 2 ∧ (2 ≤ n → j = n - 1) ∧ F__law_tests [.int n] = .ok (.val (.list (ttW j))) := by
  refine ⟨n - 1, by omega, fun _ => rfl, runV_of ?_⟩
  unfold m__law_tests
  rw [show sdV 4 [.int (n : Int)] = [iv n, none, none, none] from rfl]
  refine sqT (by simp; exact rfl) ?_
  have hr : range2? [.int 2, .int ((n : Int) + 1)] = some (rangeW 2 (n - 1)) := range2_of (by omega) (by omega) (by omega) (by omega) (by omega)
  obtain ⟨d', e1, x2, x3, rfl⟩ := forD_range (g := store 2) (b := (mDrop (mMeth "list" appendW 1 (mCons (mCallB minW (mCons (mLc [3] (mRng2 (mCons (mC (.int 1)) (mCons (mVar 2) mNil))) (store 3) mYes (mTup (mCons (mBin addW (mC (.int 1)) (mCallB max2W (mCons (mBin ixW (mSubOwn 1 (mVar 3)) (mC (.int 0))) (mCons (mBin ixW (mSubOwn 1 (mBin subW (mVar 2) (mVar 3))) (mC (.int 0))) mNil)))) (mCons (mVar 3) mNil)))) mNil)) mNil))))
    (fun k d => ∃ x2 x3 : Option W, d = [iv n, some (.own (.list (ttW k))), x2.map Slot.val, x3.map Slot.val]) 2 (n - 1) 0
    [iv n, some (.own (.list [.tuple [.int 0, .none], .tuple [.int 0, .none]])), none, none] ⟨none, none, rfl⟩ (by
      rintro i d _ hi2 ⟨x2, x3, rfl⟩
      have fe := row_ev n i x3 (by omega)
      have l1 : (ttW i).length < sizeLine := lt_line (by rw [ttW_len]; omega)
      have mn := min_pairs (A (tt i) i) i
      refine ⟨[iv n, some (.own (.list (ttW i))), sv (.int (2 + (i : Int))), x3.map Slot.val], [iv n, some (.own (.list (ttW (i + 1)))), sv (.int (2 + (i : Int))), x3.map Slot.val], by cases x2 <;> simp, .inl ?_, some _, x3, rfl⟩
      have hs : ttW (i + 1) = ttW i ++ [pr (A (tt i) i (arg (A (tt i) i) i)) (arg (A (tt i) i) i + 1)] := by
        unfold ttW
        rw [List.range_succ, List.map_append, ← List.append_assoc]
        congr 2
        show [pr ((tt (i + 1)).getD (i + 2) 0) (tf i)] = _
        have e : (tt (i + 1)).getD (i + 2) 0 = A (tt i) i (arg (A (tt i) i) i) := by
          conv => lhs; unfold tt
          rw [List.getD_eq_getElem?_getD, List.getElem?_append_right (by rw [tt_len]; omega), tt_len, Nat.sub_self]
          rfl
        rw [e]
        rfl
      rw [hs]
      generalize ttW i = tw at *
      generalize prs (A (tt i) i) (i + 1) = ps at *
      rw [ev_drop, ev_meth]
      simp only [ev_mineAt, List.getElem?_cons_succ, List.getElem?_cons_zero, ev_mineO, ofOpt_some, Out.bind_ok, ev_tyL, if_true, ev_cons, ev_callB, fe, ev_nil, mn, ev_app, l1, ev_setMine, List.set_cons_succ, List.set_cons_zero, ev_updO, Out.toS_ok])
  refine sqT (d' := [iv n, some (.own (.list (ttW (n - 1)))), x2.map Slot.val, x3.map Slot.val]) ?_ ?_
  · rw [ev_for]
    rw [Nat.zero_add] at e1
    have : mRng2 (mCons (mC (.int 2)) (mCons (mBin addW (mVar 0) (mC (.int 1))) mNil)) [iv n, some (.own (.list [.tuple [.int 0, .none], .tuple [.int 0, .none]])), none, none] = .ok (rangeW 2 (n - 1)) [iv n, some (.own (.list [.tuple [.int 0, .none], .tuple [.int 0, .none]])), none, none] := by simp [hr]
    rw [this]
    exact e1
  · refine frzT (by simp; exact rfl) ?_
    exact retT (by simp; exact rfl)
end K48
end
section
set_option Elab.async false
set_option linter.all false
set_option maxRecDepth 100000
set_option maxHeartbeats 4000000
set_option exponentiation.threshold 100000
namespace K48
open Qd PySem L2
theorem add_list {xs ys : List W} (h : xs.length + ys.length ≤ 16000000) : addW (.list xs) (.list ys) = some (.list (xs ++ ys)) := by
  have c : xs.length + ys.length ≤ sizeLine := le_line h
  show (if xs.length + ys.length ≤ sizeLine then some (PyData.list (xs ++ ys)) else none) = _
  rw [if_pos c]
theorem add_tup {xs ys : List W} (h : xs.length + ys.length ≤ 16000000) : addW (.tuple xs) (.tuple ys) = some (.tuple (xs ++ ys)) := by
  have c : xs.length + ys.length ≤ sizeLine := le_line h
  show (if xs.length + ys.length ≤ sizeLine then some (PyData.tuple (xs ++ ys)) else none) = _
  rw [if_pos c]
theorem foldl_cast (f : Nat → Nat → Nat) (g : Int → Int → Int) (h : ∀ a b : Nat, g a b = (f a b : Nat)) : ∀ (cs : List Nat) (c : Nat), (cs.map fun (x : Nat) => (x : Int)).foldl g (c : Int) = ((cs.foldl f c : Nat) : Int)
  | [], c => rfl
  | x :: r, c => by
    rw [List.map_cons, List.foldl_cons, List.foldl_cons, h]
    exact foldl_cast f g h r (f c x)
theorem natW_ints (cs : List Nat) : natW cs = (cs.map fun (x : Nat) => (x : Int)).map PyData.int := by
  unfold natW
  rw [List.map_map]
  rfl
theorem natW_ok (cs : List Nat) : okD (.list (natW cs)) = true ∧ alikeB (natW cs) = true := by
  constructor
  · rw [natW_ints]; exact okD_ints _
  · unfold alikeB
    rw [Bool.and_eq_true, List.all_eq_true, List.all_eq_true]
    refine ⟨fun x hx => List.all_eq_true.mpr fun y hy => ?_, fun x hx => ?_⟩
    · obtain ⟨i, _, rfl⟩ := List.mem_map.mp hx
      obtain ⟨j, _, rfl⟩ := List.mem_map.mp hy
      simp [PySem.W.alike]
    · obtain ⟨i, _, rfl⟩ := List.mem_map.mp hx
      rfl
theorem max_nat (c : Nat) (cs : List Nat) : maxW [.list (natW (c :: cs))] = some (.int ((cs.foldl max c : Nat) : Int)) := by
  obtain ⟨h1, h2⟩ := natW_ok (c :: cs)
  have e : natW (c :: cs) = PyData.int (c : Int) :: natW cs := rfl
  rw [e] at h1 h2 ⊢
  show (if (okD _ && alikeB _) = true then some (PySem.W.maxD _ _) else none) = _
  rw [h1, h2, natW_ints, PySem.W.maxD_ints, foldl_cast max max (fun a b => by omega)]
  rfl
theorem min_nat (c : Nat) (cs : List Nat) : minW [.list (natW (c :: cs))] = some (.int ((cs.foldl min c : Nat) : Int)) := by
  obtain ⟨h1, h2⟩ := natW_ok (c :: cs)
  have e : natW (c :: cs) = PyData.int (c : Int) :: natW cs := rfl
  rw [e] at h1 h2 ⊢
  show (if (okD _ && alikeB _) = true then some (PySem.W.minD _ _) else none) = _
  rw [h1, h2, natW_ints, PySem.W.minD_ints, foldl_cast min min (fun a b => by omega)]
  rfl
def Exc (c : Nat) (o : SOut) : Prop := ∃ d, o = .exc c d
theorem sqX {c : Nat} {a b : MS} {d d' : SD} (h : a d = .next d') (k : Exc c (b d')) : Exc c (mSeq a b d) := by
  rw [ev_seq, h]; exact k
theorem sqX1 {c : Nat} {a b : MS} {d d' : SD} (h : a d = .exc c d') : Exc c (mSeq a b d) := ⟨d', by rw [ev_seq, h]; rfl⟩
theorem sqT1 {r : Slot} {a b : MS} {d d' : SD} (h : a d = .ret r d') : Ret r (mSeq a b d) := ⟨d', by rw [ev_seq, h]; rfl⟩
theorem runV_exc {n : Nat} {m : MS} {ws : List W} {c : Nat} (h : Exc c (m (sdV n ws))) : runV n m ws = .exc c := by
  obtain ⟨d, e⟩ := h
  unfold runV
  rw [e]
/-! ### results -/
abbrev Rs := List (Nat × Bool)
abbrev kp (p : Nat × Bool) : W := .tuple [.int (p.1 : Int), .bool p.2]
def kW (ps : Rs) : List W := ps.map kp
def lows (ps : Rs) : List Nat := (ps.filter fun p => p.2).map fun p => p.1
def highs (ps : Rs) : List Nat := (ps.filter fun p => !p.2).map fun p => p.1
def lo (ps : Rs) : Nat := (lows ps).foldl max 0
def hi (n : Nat) (ps : Rs) : Nat := (highs ps).foldl min (n + 1)
theorem lows_len (ps : Rs) : (lows ps).length ≤ ps.length := by unfold lows; rw [List.length_map]; exact List.length_filter_le _ _
theorem highs_len (ps : Rs) : (highs ps).length ≤ ps.length := by unfold highs; rw [List.length_map]; exact List.length_filter_le _ _
theorem lo_app (ps : Rs) (p : Nat × Bool) : lo (ps ++ [p]) = if p.2 = true then max (lo ps) p.1 else lo ps := by
  unfold lo lows
  rw [List.filter_append, List.map_append, List.foldl_append]
  cases h : p.2 <;> simp [h]
theorem hi_app (n : Nat) (ps : Rs) (p : Nat × Bool) : hi n (ps ++ [p]) = if p.2 = true then hi n ps else min (hi n ps) p.1 := by
  unfold hi highs
  rw [List.filter_append, List.map_append, List.foldl_append]
  cases h : p.2 <;> simp [h]
theorem fold_min_le : ∀ (cs : List Nat) (c : Nat), cs.foldl min c ≤ c
  | [], c => Nat.le_refl _
  | x :: r, c => by
    rw [List.foldl_cons]
    have := fold_min_le r (min c x)
    omega
theorem hi_le (n : Nat) (ps : Rs) : hi n ps ≤ n + 1 := fold_min_le _ _
theorem low_ev (a b : Option Slot) (n : Nat) (ps : Rs) (x4 x5 : Option W) (hl : ps.length ≤ 1000) :
    mCallB maxW (mCons (mBin addW (mLst (mCons (mC (.int 0)) mNil)) (mLc [4, 5] (mItS (mVar 1)) (gTupW 2 (gsCons (store 4) (gsCons (store 5) gsNil))) (mTruth (mVar 5)) (mVar 4))) mNil)
      [a, sv (.tuple (kW ps)), b, none, x4.map Slot.val, x5.map Slot.val] = .ok (.int (lo ps : Nat)) [a, sv (.tuple (kW ps)), b, none, x4.map Slot.val, x5.map Slot.val] := by
  have e : mLc [4, 5] (mItS (mVar 1)) (gTupW 2 (gsCons (store 4) (gsCons (store 5) gsNil))) (mTruth (mVar 5)) (mVar 4) [a, sv (.tuple (kW ps)), b, none, x4.map Slot.val, x5.map Slot.val] =
      .ok (.list ((ps.filter fun p => p.2).map fun p => PyData.int (p.1 : Int))) [a, sv (.tuple (kW ps)), b, none, x4.map Slot.val, x5.map Slot.val] := by
    refine mLc_of ps kp (fun p => PyData.int (p.1 : Int)) (fun p => p.2) (by simp; rfl) (by cases x4 <;> cases x5 <;> simp) (le_line (by omega)) fun p _ => ?_
    exact ⟨[a, sv (.tuple (kW ps)), b, none, iv p.1, sv (.bool p.2)], [a, sv (.tuple (kW ps)), b, none, iv p.1, sv (.bool p.2)], by simp, by simp, fun _ => ⟨_, by simp; exact rfl, by simp⟩, fun _ => by simp⟩
  have e2 : ((ps.filter fun p => p.2).map fun p => PyData.int (p.1 : Int)) = natW (lows ps) := by unfold natW lows; rw [List.map_map]; rfl
  have l := lows_len ps
  have m := max_nat 0 (lows ps)
  have ad := add_list (xs := [.int 0]) (ys := natW (lows ps)) (by rw [natW_len]; simp; omega)
  rw [e2] at e
  have m : maxW [.list ([.int 0] ++ natW (lows ps))] = some (.int ((lo ps : Nat) : Int)) := m
  rw [ev_callB, ev_cons, ev_bin]
  generalize natW (lows ps) = w at *
  simp [e, ad, -ev_lc]
  rw [show PyData.int 0 :: w = [.int 0] ++ w from rfl, m]
  rfl
theorem high_ev (n : Nat) (b c : Option Slot) (ps : Rs) (x4 x5 : Option W) (hl : ps.length ≤ 1000) :
    mCallB minW (mCons (mBin addW (mLst (mCons (mBin addW (mVar 0) (mC (.int 1))) mNil)) (mLc [4, 5] (mItS (mVar 1)) (gTupW 2 (gsCons (store 4) (gsCons (store 5) gsNil))) (mNotT (mTruth (mVar 5))) (mVar 4))) mNil)
      [iv n, sv (.tuple (kW ps)), b, c, x4.map Slot.val, x5.map Slot.val] = .ok (.int (hi n ps : Nat)) [iv n, sv (.tuple (kW ps)), b, c, x4.map Slot.val, x5.map Slot.val] := by
  have e : mLc [4, 5] (mItS (mVar 1)) (gTupW 2 (gsCons (store 4) (gsCons (store 5) gsNil))) (mNotT (mTruth (mVar 5))) (mVar 4) [iv n, sv (.tuple (kW ps)), b, c, x4.map Slot.val, x5.map Slot.val] =
      .ok (.list ((ps.filter fun p => !p.2).map fun p => PyData.int (p.1 : Int))) [iv n, sv (.tuple (kW ps)), b, c, x4.map Slot.val, x5.map Slot.val] := by
    refine mLc_of ps kp (fun p => PyData.int (p.1 : Int)) (fun p => !p.2) (by simp; rfl) (by cases x4 <;> cases x5 <;> simp) (le_line (by omega)) fun p _ => ?_
    exact ⟨[iv n, sv (.tuple (kW ps)), b, c, iv p.1, sv (.bool p.2)], [iv n, sv (.tuple (kW ps)), b, c, iv p.1, sv (.bool p.2)], by simp, by simp, fun _ => ⟨_, by simp; exact rfl, by simp⟩, fun _ => by simp⟩
  have e2 : ((ps.filter fun p => !p.2).map fun p => PyData.int (p.1 : Int)) = natW (highs ps) := by unfold natW highs; rw [List.map_map]; rfl
  have l := highs_len ps
  have m := min_nat (n + 1) (highs ps)
  have ad := add_list (xs := [.int ((n : Int) + 1)]) (ys := natW (highs ps)) (by rw [natW_len]; simp; omega)
  rw [e2] at e
  have m : minW [.list ([.int ((n : Int) + 1)] ++ natW (highs ps))] = some (.int ((hi n ps : Nat) : Int)) := m
  rw [ev_callB, ev_cons, ev_bin]
  generalize natW (highs ps) = w at *
  simp [e, ad, -ev_lc]
  rw [show PyData.int ((n : Int) + 1) :: w = [.int ((n : Int) + 1)] ++ w from rfl, m]
  rfl
theorem e_place (n : Nat) (ps : Rs) (h1 : 1 ≤ n) (h2 : n ≤ 1000000) (hl : ps.length ≤ 1000) (h : lo ps < hi n ps) : F_place_between [.int n, .tuple (kW ps)] = .ok (.val (.tuple [.int (lo ps : Nat), .int (hi n ps : Nat)])) := by
  have i1 := e_num_in (v := n) (a := 1) (b := 1000000) (by omega)
  refine runV_of ?_
  unfold m_place_between
  rw [show sdV 6 [.int (n : Int), .tuple (kW ps)] = [iv n, sv (.tuple (kW ps)), none, none, (none : Option W).map Slot.val, (none : Option W).map Slot.val] from rfl]
  refine sqT (by simp [i1]; exact rfl) ?_
  refine sqT (by rw [ev_asg]; erw [low_ev _ _ n ps none none hl]; simp; exact rfl) ?_
  refine sqT (by rw [ev_asg]; erw [high_ev n (iv (lo ps)) none ps none none hl]; simp; exact rfl) ?_
  generalize kW ps = w at *
  refine sqT (by simp [show ¬ hi n ps ≤ lo ps by omega]; exact rfl) ?_
  exact retT (by simp; exact rfl)
theorem x_place (n : Nat) (ps : Rs) (h1 : 1 ≤ n) (h2 : n ≤ 1000000) (hl : ps.length ≤ 1000) (h : hi n ps ≤ lo ps) : F_place_between [.int n, .tuple (kW ps)] = .exc 4 := by
  have i1 := e_num_in (v := n) (a := 1) (b := 1000000) (by omega)
  refine runV_exc ?_
  unfold m_place_between
  rw [show sdV 6 [.int (n : Int), .tuple (kW ps)] = [iv n, sv (.tuple (kW ps)), none, none, (none : Option W).map Slot.val, (none : Option W).map Slot.val] from rfl]
  refine sqX (by simp [i1]; exact rfl) ?_
  refine sqX (by rw [ev_asg]; erw [low_ev _ _ n ps none none hl]; simp; exact rfl) ?_
  refine sqX (by rw [ev_asg]; erw [high_ev n (iv (lo ps)) none ps none none hl]; simp; exact rfl) ?_
  generalize kW ps = w at *
  exact sqX1 (by simp [show hi n ps ≤ lo ps by omega]; exact rfl)
theorem o_place (n : Int) (w : W) (h : ¬ (1 ≤ n ∧ n ≤ 1000000)) : F_place_between [.int n, w] = .exc 1 := by
  have i1 := e_num_out h
  unfold F_place_between runV m_place_between
  simp [i1]
/-! ### how many tests, the told mineral -/
def gap (n : Nat) (ps : Rs) : Nat := hi n ps - lo ps
def tests (n : Nat) (ps : Rs) : Nat := bits (gap n ps - 1)
theorem bits_int (m : Nat) : bitsW (.int (m : Int)) = some (.int ((bits m : Nat) : Int)) := by
  show some (PyData.int _) = _
  congr 2
  unfold Builtin.Int.intBits bits
  by_cases h : m = 0
  · subst h; rfl
  · have : ((m : Int) == 0) = false := by rw [beq_eq_false_iff_ne]; omega
    rw [this]
    simp [h]
theorem bits_small {m k : Nat} (h : m < 2 ^ k) : bits m ≤ k := by
  rcases Nat.lt_or_ge k (bits m) with c | c
  · have := bits_ge c; omega
  · exact c
theorem e_fewest (n : Nat) (ps : Rs) (h1 : 1 ≤ n) (h2 : n ≤ 1000000) (hl : ps.length ≤ 1000) (h : lo ps < hi n ps) : F_fewest_tests [.int n, .tuple (kW ps)] = .ok (.val (.int (tests n ps : Nat))) := by
  have e := e_place n ps h1 h2 hl h
  have b := bits_int (hi n ps - lo ps - 1)
  rw [show ((hi n ps - lo ps - 1 : Nat) : Int) = (hi n ps : Int) - (lo ps : Int) - 1 by omega] at b
  unfold F_fewest_tests runV m_fewest_tests
  generalize kW ps = w at *
  simp [e, b, tests, gap]
theorem x_fewest (n : Nat) (ps : Rs) (h1 : 1 ≤ n) (h2 : n ≤ 1000000) (hl : ps.length ≤ 1000) (h : hi n ps ≤ lo ps) : F_fewest_tests [.int n, .tuple (kW ps)] = .exc 4 := by
  have e := x_place n ps h1 h2 hl h
  unfold F_fewest_tests runV m_fewest_tests
  generalize kW ps = w at *
  simp [e]
theorem o_fewest (n : Int) (w : W) (h : ¬ (1 ≤ n ∧ n ≤ 1000000)) : F_fewest_tests [.int n, w] = .exc 1 := by
  have e := o_place n w h
  unfold F_fewest_tests runV m_fewest_tests
  simp [e]
/-- the told mineral -/
def told (n : Nat) (ps : Rs) : Nat := max (lo ps + 1) (hi n ps - 2 ^ (tests n ps - 1))
theorem e_told_min (n : Nat) (ps : Rs) (h1 : 1 ≤ n) (h2 : n ≤ 1000000) (hl : ps.length ≤ 1000) (h : lo ps < hi n ps) : F_told_mineral [.int n, .tuple (kW ps)] = .ok (.val (if tests n ps = 0 then .none else .int (told n ps : Nat))) := by
  have e := e_place n ps h1 h2 hl h
  have e2 := e_fewest n ps h1 h2 hl h
  have ht : tests n ps ≤ 20 := bits_small (by have := hi_le n ps; unfold gap; omega)
  refine runV_of ?_
  unfold m_told_mineral
  generalize hw : kW ps = w at *
  rw [show sdV 7 [.int (n : Int), .tuple w] = [iv n, sv (.tuple w), none, none, none, none, none] from rfl]
  refine sqT (by simp [e]; exact rfl) ?_
  refine sqT (by simp [e2]; exact rfl) ?_
  by_cases hz : tests n ps = 0
  · rw [if_pos hz]
    exact sqT1 (by simp [hz]; exact rfl)
  · rw [if_neg hz]
    refine sqT (by simp [hz]; exact rfl) ?_
    refine sqT (by simp; exact rfl) ?_
    have hr : range1? [.int ((tests n ps : Int) - 1)] = some (rangeW 0 (tests n ps - 1)) := range1_of (by omega) (by omega) (by omega)
    obtain ⟨d', e1, x6, rfl⟩ := forD_range (g := store 6) (b := mAsg (store 5) (mBin mulW (mC (.int 2)) (mVar 5))) (fun k d => ∃ x6 : Option W, d = [iv n, sv (.tuple w), iv (lo ps), iv (hi n ps), iv (tests n ps), iv (2 ^ k), x6.map Slot.val]) 0 (tests n ps - 1) 0
      [iv n, sv (.tuple w), iv (lo ps), iv (hi n ps), iv (tests n ps), iv (2 ^ 0), none] ⟨none, rfl⟩ (by
        rintro i d _ hi2 ⟨x6, rfl⟩
        have hp : 2 ^ i ≤ 2 ^ 20 := Nat.pow_le_pow_right (by omega) (by omega)
        have hm : ∀ p : Nat, p ≤ 2000000 → mulW (.int 2) (.int (p : Int)) = some (.int ((p * 2 : Nat) : Int)) := fun p hp => by
          rw [mul_61 (by omega) (by omega) (by omega) (by omega)]
          congr 2
          push_cast
          omega
        have hm := hm (2 ^ i) (Nat.le_trans hp (by decide))
        rw [← Nat.pow_succ] at hm
        refine ⟨[iv n, sv (.tuple w), iv (lo ps), iv (hi n ps), iv (tests n ps), iv (2 ^ i), sv (.int (0 + (i : Int)))], [iv n, sv (.tuple w), iv (lo ps), iv (hi n ps), iv (tests n ps), iv (2 ^ (i + 1)), sv (.int (0 + (i : Int)))], by cases x6 <;> simp, .inl ?_, some _, rfl⟩
        generalize 2 ^ (i + 1) = q at *
        generalize 2 ^ i = p at *
        simp [hm])
    refine sqT (d' := [iv n, sv (.tuple w), iv (lo ps), iv (hi n ps), iv (tests n ps), iv (2 ^ (tests n ps - 1)), x6.map Slot.val]) ?_ ?_
    · rw [ev_for]
      rw [Nat.zero_add] at e1
      have : mRng1 (mCons (mBin subW (mVar 4) (mC (.int 1))) mNil) [iv n, sv (.tuple w), iv (lo ps), iv (hi n ps), iv (tests n ps), sv (.int 1), none] = .ok (rangeW 0 (tests n ps - 1)) [iv n, sv (.tuple w), iv (lo ps), iv (hi n ps), iv (tests n ps), iv (2 ^ 0), none] := by simp [hr]
      rw [this]
      exact e1
    · have hm : (if (hi n ps : Int) - ((2 ^ (tests n ps - 1) : Nat) : Int) > (lo ps : Int) + 1 then (hi n ps : Int) - ((2 ^ (tests n ps - 1) : Nat) : Int) else (lo ps : Int) + 1) = ((told n ps : Nat) : Int) := by
        unfold told
        split <;> omega
      rw [← hm]
      generalize 2 ^ (tests n ps - 1) = q at *
      exact retT (by simp; exact rfl)
theorem x_told_min (n : Nat) (ps : Rs) (h1 : 1 ≤ n) (h2 : n ≤ 1000000) (hl : ps.length ≤ 1000) (h : hi n ps ≤ lo ps) : F_told_mineral [.int n, .tuple (kW ps)] = .exc 4 := by
  have e := x_place n ps h1 h2 hl h
  unfold F_told_mineral runV m_told_mineral
  generalize kW ps = w at *
  simp [e]
theorem o_told_min (n : Int) (w : W) (h : ¬ (1 ≤ n ∧ n ≤ 1000000)) : F_told_mineral [.int n, w] = .exc 1 := by
  have e := o_place n w h
  unfold F_told_mineral runV m_told_mineral
  simp [e]
end K48
end
section
set_option Elab.async false
set_option linter.all false
set_option maxRecDepth 100000
set_option maxHeartbeats 4000000
set_option exponentiation.threshold 100000
namespace K48
open Qd PySem L2
theorem kit_none_tuple : kitB "NoneType" "tuple" = some false := by decide +kernel
theorem kit_int_tuple : kitB "int" "tuple" = some false := by decide +kernel
@[simp] theorem ev_nt : isiW "tuple" .none = some (.bool false) := by unfold isiW tyN; simp [kit_none_tuple]
@[simp] theorem ev_it (i : Int) : isiW "tuple" (.int i) = some (.bool false) := by unfold isiW tyN; simp [kit_int_tuple]
@[simp] theorem ev_nb : isiW "bool" .none = some (.bool false) := by unfold isiW tyN; simp [kit_none_bool]
theorem e_told : F__law_told [exD 1] = .ok (.val (.str "OutOfRange")) := by
  unfold F__law_told runV m__law_told
  simp [lcD_cons, subC, atI, ixN]
theorem e_toldR : F__law_told [exD 4] = .ok (.val (.str "Refused")) := by
  unfold F__law_told runV m__law_told
  simp [lcD_cons, subC, atI, ixN]
/-! ### what is asked -/
section
variable {a b c : W} {v : W}
theorem as0 (h : F_are_results [a, b] = .ok (.val v)) : F__law_asked [.int 0, a, b, c] = .ok (.val v) := by
  unfold F__law_asked runV m__law_asked mTryRet
  simp [h]
theorem as1 (h : F_place_between [a, b] = .ok (.val v)) : F__law_asked [.int 1, a, b, c] = .ok (.val v) := by
  unfold F__law_asked runV m__law_asked mTryRet
  simp [h]
theorem as2 (h : F_fewest_tests [a, b] = .ok (.val v)) : F__law_asked [.int 2, a, b, c] = .ok (.val v) := by
  unfold F__law_asked runV m__law_asked mTryRet
  simp [h]
theorem as3 (h : F_told_mineral [a, b] = .ok (.val v)) : F__law_asked [.int 3, a, b, c] = .ok (.val v) := by
  unfold F__law_asked runV m__law_asked mTryRet
  simp [h]
theorem as4 (h : F_worst_cost [a, b, c] = .ok (.val v)) : F__law_asked [.int 4, a, b, c] = .ok (.val v) := by
  unfold F__law_asked runV m__law_asked mTryRet
  simp [h]
theorem as5 (h : F_told_level [a, b, c] = .ok (.val v)) : F__law_asked [.int 5, a, b, c] = .ok (.val v) := by
  unfold F__law_asked runV m__law_asked mTryRet
  simp [h]
abbrev oor : W := .str "OutOfRange"
abbrev ref : W := .str "Refused"
theorem xs0 (h : F_are_results [a, b] = .exc 1) : F__law_asked [.int 0, a, b, c] = .ok (.val oor) := by
  unfold F__law_asked runV m__law_asked mTryRet
  simp [h, e_told, subC, freeAt, noD]
theorem xs1 (h : F_place_between [a, b] = .exc 1) : F__law_asked [.int 1, a, b, c] = .ok (.val oor) := by
  unfold F__law_asked runV m__law_asked mTryRet
  simp [h, e_told, subC, freeAt, noD]
theorem xs2 (h : F_fewest_tests [a, b] = .exc 1) : F__law_asked [.int 2, a, b, c] = .ok (.val oor) := by
  unfold F__law_asked runV m__law_asked mTryRet
  simp [h, e_told, subC, freeAt, noD]
theorem xs3 (h : F_told_mineral [a, b] = .exc 1) : F__law_asked [.int 3, a, b, c] = .ok (.val oor) := by
  unfold F__law_asked runV m__law_asked mTryRet
  simp [h, e_told, subC, freeAt, noD]
theorem xs4 (h : F_worst_cost [a, b, c] = .exc 1) : F__law_asked [.int 4, a, b, c] = .ok (.val oor) := by
  unfold F__law_asked runV m__law_asked mTryRet
  simp [h, e_told, subC, freeAt, noD]
theorem xs5 (h : F_told_level [a, b, c] = .exc 1) : F__law_asked [.int 5, a, b, c] = .ok (.val oor) := by
  unfold F__law_asked runV m__law_asked mTryRet
  simp [h, e_told, subC, freeAt, noD]
theorem rs1 (h : F_place_between [a, b] = .exc 4) : F__law_asked [.int 1, a, b, c] = .ok (.val ref) := by
  unfold F__law_asked runV m__law_asked mTryRet
  simp [h, e_toldR, subC, freeAt, noD]
theorem rs2 (h : F_fewest_tests [a, b] = .exc 4) : F__law_asked [.int 2, a, b, c] = .ok (.val ref) := by
  unfold F__law_asked runV m__law_asked mTryRet
  simp [h, e_toldR, subC, freeAt, noD]
theorem rs3 (h : F_told_mineral [a, b] = .exc 4) : F__law_asked [.int 3, a, b, c] = .ok (.val ref) := by
  unfold F__law_asked runV m__law_asked mTryRet
  simp [h, e_toldR, subC, freeAt, noD]
end
/-! ### results, and what is none -/
theorem e_results (n : Nat) (ps : Rs) (h1 : 1 ≤ n) (h2 : n ≤ 1000000) (hl : ps.length ≤ 40) (hp : ∀ p ∈ ps, 1 ≤ p.1 ∧ p.1 ≤ n) : F_are_results [.int n, .tuple (kW ps)] = .ok (.val (.bool true)) := by
  have i1 := e_num_in (v := n) (a := 1) (b := 1000000) (by omega)
  have hk : (kW ps).length = ps.length := by unfold kW; simp
  refine runV_of ?_
  unfold m_are_results
  rw [show sdV 3 [.int (n : Int), .tuple (kW ps)] = [iv n, sv (.tuple (kW ps)), none] from rfl]
  refine sqT (by simp [i1]; exact rfl) ?_
  refine sqT (by simp [hk, show ¬ ps.length > 40 by omega, show ¬ (40 : Int) < (ps.length : Int) by omega]; exact rfl) ?_
  have lp := forD_inv (g := store 2) (b := (mSeq (mIf (mOrT (mNotT (mTruth (mUn (isiW "tuple") (mVar 2)))) (mOrT (mTest (mBin neW (mCallB lenW (mCons (mVar 2) mNil)) (mC (.int 2)))) (mNotT (mTruth (mCallV F_is_number (mCons (mBin ixW (mVar 2) (mC (.int 0))) (mCons (mC (.int 1)) (mCons (mVar 0) mNil))))))))
    (mRet (mC (.bool false)))
    mSkip)
    (mIf (mNotT (mTruth (mUn (isiW "bool") (mBin ixW (mVar 2) (mC (.int 1))))))
    (mRet (mC (.bool false)))
    mSkip))) kp (fun r d => (∀ p ∈ r, 1 ≤ p.1 ∧ p.1 ≤ n) ∧ ∃ x2 : Option W, d = [iv n, sv (.tuple (kW ps)), x2.map Slot.val]) ps [iv n, sv (.tuple (kW ps)), none] ⟨hp, none, rfl⟩ (by
      rintro p r d ⟨hr, x2, rfl⟩
      have i2 := e_num_in (v := p.1) (a := 1) (b := n) (by have := hr p List.mem_cons_self; omega)
      generalize kW ps = w at *
      refine ⟨[iv n, sv (.tuple w), sv (kp p)], [iv n, sv (.tuple w), sv (kp p)], by cases x2 <;> simp, .inl ?_, fun q hq => hr q (List.mem_cons_of_mem _ hq), some _, rfl⟩
      simp [atI, ixN, i2])
  obtain ⟨d', e1, _, x2, rfl⟩ := lp
  refine sqT (d' := [iv n, sv (.tuple (kW ps)), x2.map Slot.val]) ?_ (by exact retT (by simp; exact rfl))
  rw [ev_for]
  have : mItS (mVar 1) [iv n, sv (.tuple (kW ps)), none] = .ok (ps.map kp) [iv n, sv (.tuple (kW ps)), none] := by simp; rfl
  rw [this]
  exact e1
theorem o_results (n : Int) (w : W) (h : ¬ (1 ≤ n ∧ n ≤ 1000000)) : F_are_results [.int n, w] = .exc 1 := by
  have i1 := e_num_out h
  unfold F_are_results runV m_are_results
  simp [i1]
/-- a value that is no results -/
def Bad (n : Nat) (w : W) : Prop := F_are_results [.int n, w] = .ok (.val (.bool false))
theorem num_none (a b : Int) : F_is_number [.none, .int a, .int b] = .ok (.val (.bool false)) := by
  unfold F_is_number runV m_is_number
  simp
theorem num_bool (c : Bool) (a b : Int) : F_is_number [.bool c, .int a, .int b] = .ok (.val (.bool false)) := by
  unfold F_is_number runV m_is_number
  simp
section
variable {n : Nat} (h1 : 1 ≤ n) (h2 : n ≤ 1000000)
include h1 h2
theorem bad_none : Bad n .none := by
  have i1 := e_num_in (v := n) (a := 1) (b := 1000000) (by omega)
  unfold Bad F_are_results runV m_are_results
  simp [i1]
theorem bad_list (l : List W) : Bad n (.list l) := by
  have i1 := e_num_in (v := n) (a := 1) (b := 1000000) (by omega)
  unfold Bad F_are_results runV m_are_results
  simp [i1]
theorem bad_int (i : Int) : Bad n (.int i) := by
  have i1 := e_num_in (v := n) (a := 1) (b := 1000000) (by omega)
  unfold Bad F_are_results runV m_are_results
  simp [i1]
theorem bad_long (l : List W) (h : 40 < l.length) : Bad n (.tuple l) := by
  have i1 := e_num_in (v := n) (a := 1) (b := 1000000) (by omega)
  unfold Bad F_are_results runV m_are_results
  simp [i1, h, show (40 : Int) < (l.length : Int) by omega]
theorem bad_t1 (w : W) (h : w = .none ∨ ∃ l, w = .list l) : Bad n (.tuple [w]) := by
  have i1 := e_num_in (v := n) (a := 1) (b := 1000000) (by omega)
  unfold Bad F_are_results runV m_are_results
  rcases h with rfl | ⟨l, rfl⟩ <;> simp [i1, forD_cons]
theorem bad_t2 (l : List W) (h : l.length ≠ 2) : Bad n (.tuple [.tuple l]) := by
  have i1 := e_num_in (v := n) (a := 1) (b := 1000000) (by omega)
  unfold Bad F_are_results runV m_are_results
  simp [i1, forD_cons, h, show ¬ (l.length : Int) = 2 by omega]
theorem bad_t3 (a b : W) (h : F_is_number [a, .int 1, .int n] = .ok (.val (.bool false))) : Bad n (.tuple [.tuple [a, b]]) := by
  have i1 := e_num_in (v := n) (a := 1) (b := 1000000) (by omega)
  unfold Bad F_are_results runV m_are_results
  simp [i1, forD_cons, atI, ixN, h]
theorem bad_t4 (b : W) (h : b = .none ∨ ∃ i, b = .int i) : Bad n (.tuple [.tuple [.int 1, b]]) := by
  have i1 := e_num_in (v := n) (a := 1) (b := 1000000) (by omega)
  have i2 := e_num_in (v := 1) (a := 1) (b := n) (by omega)
  unfold Bad F_are_results runV m_are_results
  rcases h with rfl | ⟨i, rfl⟩ <;> simp [i1, forD_cons, atI, ixN, i2]
end
end K48
end
section
set_option Elab.async false
set_option linter.all false
set_option maxRecDepth 100000
set_option maxHeartbeats 4000000
set_option exponentiation.threshold 100000
namespace K48
open Qd PySem L2
theorem atI_last (xs : List W) (x : W) : atI (xs ++ [x]) (-1) = some x := by
  unfold atI ixN
  rw [if_neg (by decide), if_pos (by rw [List.length_append, List.length_singleton]; push_cast; omega)]
  show (xs ++ [x])[((-1 : Int) + ((xs ++ [x]).length : Nat)).toNat]? = _
  have e : ((-1 : Int) + ((xs ++ [x]).length : Nat)).toNat = xs.length := by rw [List.length_append, List.length_singleton]; push_cast; omega
  rw [e, List.getElem?_append_right (Nat.le_refl _), Nat.sub_self]
  rfl
theorem filter_head {p : Nat → Bool} {n t : Nat} (ht : t < n) (h1 : p t = true) (h2 : ∀ k, k < t → p k = false) : ∃ r, (List.range n).filter p = t :: r := by
  obtain ⟨b, rfl⟩ : ∃ b, n = t + (b + 1) := ⟨n - t - 1, by omega⟩
  rw [List.range_add, List.filter_append]
  have e : (List.range t).filter p = [] := by
    rw [List.filter_eq_nil_iff]
    intro k hk
    rw [h2 k (List.mem_range.mp hk)]
    exact Bool.false_ne_true
  rw [e, List.range_succ_eq_map, List.map_cons, List.filter_cons]
  refine ⟨List.filter p (List.map (fun x => t + x) (List.map Nat.succ (List.range b))), ?_⟩
  rw [if_pos (by simpa using h1)]
  simp
/-- the law's answer is True, the draws go on -/
def RP (k : Nat) (o : SOut) : Prop := ∃ u t, o = .ret (.val (.bool true)) (some (.par u) :: t) ∧ Dr k u
theorem sqP {k : Nat} {a b : MS} {d d' : SD} (h : a d = .next d') (z : RP k (b d')) : RP k (mSeq a b d) := by
  rw [ev_seq, h]; exact z
theorem sqP1 {k : Nat} {a b : MS} {d t : SD} {u : W} (h : a d = .ret (.val (.bool true)) (some (.par u) :: t)) (z : Dr k u) : RP k (mSeq a b d) := ⟨u, t, by rw [ev_seq, h]; rfl, z⟩
theorem frzP {k : Nat} {is : List Nat} {m : MS} {d d' : SD} (h : is.foldl (fun d i => frzAt i d) d = d') (z : RP k (m d')) : RP k (mFrzS is m d) := by
  rw [ev_frzS, h]; exact z
theorem retP {k : Nat} {m : MS} {d t : SD} {u : W} (h : m d = .ret (.val (.bool true)) (some (.par u) :: t)) (z : Dr k u) : RP k (m d) := ⟨u, t, h, z⟩
theorem runP_of {k n : Nat} {m : MS} {u : W} {ws : List W} (h : RP k (m (sdP n u ws))) : ∃ u', runP n m u ws = .ok (.val (.bool true)) u' ∧ Dr k u' := by
  obtain ⟨u', t, e, z⟩ := h
  refine ⟨u', ?_, z⟩
  unfold runP
  rw [e]
  rfl
theorem Dr.mono {k l : Nat} {u : W} (h : Dr k u) (hl : k ≤ l) : Dr l u := by
  obtain ⟨t, x, cs, a, b⟩ := h
  exact ⟨t, x, cs, by omega, b⟩
theorem strs_lv (x : Str) (hx : PyData.strOk x = true) (n : Nat) : okD (.list (List.replicate n (.str x))) = true := by
  refine lv_ok (k := 1) (by omega) fun d hd => ?_
  rw [List.eq_of_mem_replicate hd]
  exact hx
theorem oor_ok : PyData.strOk "OutOfRange" = true := by decide +kernel
theorem ref_ok : PyData.strOk "Refused" = true := by decide +kernel
/-! ### drawn results -/
abbrev stA (u : W) (m pl : Nat) (ps : Rs) (x4 x5 : Option Slot) : SD := [some (.par u), iv m, iv pl, sv (.tuple (kW ps)), x4, x5, none, none, none, none, none, none, none, none, none, none, none, none, none, none, none]
theorem turn_ev (k : Nat) (u : W) (m pl : Nat) (ps : Rs) (x4 : Option Slot) (x5 : Option W) (h : Dr k u) (hk : k < 1000) (h1 : 1 ≤ m) (h2 : m ≤ 1000000) (hl : ps.length ≤ 100) :
    ∃ u' p, Dr (k + 2) u' ∧ 1 ≤ p.1 ∧ p.1 ≤ m ∧ (mSeq (mAsg (store 5) (mBin addW (mC (.int 1)) (mCallP F__law_draw 0 (mCons (mVar 1) mNil))))
    (mAsg (store 3) (mBin addW (mVar 3) (mTup (mCons (mTup (mCons (mVar 5) (mCons (mIfE (mTest (mBin gtW (mCallP F__law_draw 0 (mCons (mC (.int 12)) mNil)) (mC (.int 0)))) (mBin leW (mVar 5) (mVar 2)) (mBin gtW (mVar 5) (mVar 2))) mNil))) mNil))))) (stA u m pl ps x4 (x5.map Slot.val)) = .next (stA u' m pl (ps ++ [p]) x4 (iv p.1)) := by
  obtain ⟨a, u1, ha, D1, e1⟩ := e_draw k u m h (by omega) (by omega) (by omega)
  obtain ⟨b, u2, hb, D2, e2⟩ := e_draw (k + 1) u1 12 D1 (by omega) (by omega) (by omega)
  change F__law_draw u1 [.int 12] = _ at e2
  have hk : kW (ps ++ [(1 + a, if 0 < b then decide (1 + a ≤ pl) else decide (pl < 1 + a))]) = kW ps ++ [kp (1 + a, if 0 < b then decide (1 + a ≤ pl) else decide (pl < 1 + a))] := by unfold kW; simp
  have ad := fun w : W => add_tup (xs := kW ps) (ys := [w]) (by unfold kW; simp; omega)
  refine ⟨u2, (1 + a, if 0 < b then decide (1 + a ≤ pl) else decide (pl < 1 + a)), D2, by simp, by show 1 + a ≤ m; omega, ?_⟩
  unfold stA
  rw [hk]
  generalize kW ps = w at *
  refine sqR (d' := [some (.par u1), iv m, iv pl, sv (.tuple w), x4, iv (1 + a), none, none, none, none, none, none, none, none, none, none, none, none, none, none, none]) (by cases x5 <;> simp [e1]) ?_
  have c1 : (1 + (a : Int) ≤ (pl : Int)) ↔ (1 + a ≤ pl) := by omega
  have c2 : ((pl : Int) < 1 + (a : Int)) ↔ (pl < 1 + a) := by omega
  by_cases c : 0 < b
  · simp [e2, c, ad, kp, c1]
  · have c' : b = 0 := by omega
    subst c'
    simp [e2, ad, kp, c2]
/-! ### the wrong values -/
def L41 : List W := (List.replicate 41 [PyData.tuple [.int 1, .bool true]]).flatten
theorem m41 : mulW (.tuple [.tuple [.int 1, .bool true]]) (.int 41) = some (.tuple L41) := by
  show (if cdec _ = true then some (PyData.tuple (List.replicate (41 : Int).toNat [PyData.tuple [.int 1, .bool true]]).flatten) else none) = _
  rw [if_pos (cdec_iff.mpr ⟨by simp, by omega, by omega, by simp⟩)]
  rfl
def wrongs (m : Nat) (ps : Rs) : List W := [.none, .list (kW ps), .tuple L41, .tuple [.none], .tuple [.tuple [.int 1]], .tuple [.list [.int 1, .bool true]], .tuple [.tuple [.int 0, .bool true]], .tuple [.tuple [.int ((m : Int) + 1), .bool true]], .tuple [.tuple [.int 1, .int 1]], .tuple [.tuple [.int 1, .none]],
  .tuple [.tuple [.bool true, .bool true]], .tuple [.tuple [.none, .bool false]], .tuple [.tuple [.int 1, .bool true, .int 0]], .int 5]
theorem wrongs_bad {m : Nat} (h1 : 1 ≤ m) (h2 : m ≤ 1000000) (ps : Rs) : ∀ w ∈ wrongs m ps, Bad m w := by
  intro w hw
  unfold wrongs at hw
  simp only [List.mem_cons, List.not_mem_nil, or_false] at hw
  rcases hw with rfl | rfl | rfl | rfl | rfl | rfl | rfl | rfl | rfl | rfl | rfl | rfl | rfl | rfl
  · exact bad_none h1 h2
  · exact bad_list h1 h2 _
  · exact bad_long h1 h2 _ (by decide)
  · exact bad_t1 h1 h2 _ (.inl rfl)
  · exact bad_t2 h1 h2 _ (by decide)
  · exact bad_t1 h1 h2 _ (.inr ⟨_, rfl⟩)
  · exact bad_t3 h1 h2 _ _ (e_num_out (by omega))
  · exact bad_t3 h1 h2 _ _ (e_num_out (by omega))
  · exact bad_t4 h1 h2 _ (.inr ⟨_, rfl⟩)
  · exact bad_t4 h1 h2 _ (.inl rfl)
  · exact bad_t3 h1 h2 _ _ (num_bool _ _ _)
  · exact bad_t3 h1 h2 _ _ (num_none _ _)
  · exact bad_t2 h1 h2 _ (by decide)
  · exact bad_int h1 h2 _
theorem wrongs_ev (o0 o2 o3 o4 o5 : Option Slot) (m : Nat) (ps : Rs) (h1 : 1 ≤ m) (h2 : m ≤ 1000000) :
    mLc [19] (mItS (mVar 6)) (store 19) (mTest (mBin notBW (mCallV F__law_asked (mCons (mC (.int 0)) (mCons (mVar 1) (mCons (mVar 19) (mCons (mC (.int 0)) mNil))))) (mC (.bool false)))) (mVar 19) ([o0, iv m, o2, o3, o4, o5, sv (.list (wrongs m ps)), none, none, none, none, none, none, none, none, none, none, none, none, none, none]) =
    .ok (.list []) ([o0, iv m, o2, o3, o4, o5, sv (.list (wrongs m ps)), none, none, none, none, none, none, none, none, none, none, none, none, none, none]) := by
  have := mLc_of (vs := [19]) (it := mItS (mVar 6)) (g := store 19) (t := mTest (mBin notBW (mCallV F__law_asked (mCons (mC (.int 0)) (mCons (mVar 1) (mCons (mVar 19) (mCons (mC (.int 0)) mNil))))) (mC (.bool false)))) (e := mVar 19)
    (d := [o0, iv m, o2, o3, o4, o5, sv (.list (wrongs m ps)), none, none, none, none, none, none, none, none, none, none, none, none, none, none]) (d' := [o0, iv m, o2, o3, o4, o5, sv (.list (wrongs m ps)), none, none, none, none, none, none, none, none, none, none, none, none, none, none]) (wrongs m ps) id id (fun _ => false) (by generalize wrongs m ps = l; simp) (by simp) (le_line (by unfold wrongs; simp)) (fun w hw => by
      have b := as0 (c := .int 0) (wrongs_bad h1 h2 ps w hw)
      generalize wrongs m ps = l at *
      refine ⟨[o0, iv m, o2, o3, o4, o5, sv (.list l), none, none, none, none, none, none, none, none, none, none, none, none, sv w, none], [o0, iv m, o2, o3, o4, o5, sv (.list l), none, none, none, none, none, none, none, none, none, none, none, none, sv w, none], by simp, ?_, fun z => Bool.noConfusion z, fun _ => by simp⟩
      simp [b, notBW])
  rw [this]
  simp
/-! ### the bounds, in the law -/
theorem lowL_ev (o0 o1 o2 o4 o6 : Option Slot) (ps : Rs) (x5 : Option W) (hl : ps.length ≤ 1000) :
    mCallB maxW (mCons (mBin addW (mLst (mCons (mC (.int 0)) mNil)) (mLc [5, 20] (mItS (mVar 3)) (gTupW 2 (gsCons (store 5) (gsCons (store 20) gsNil))) (mTruth (mVar 20)) (mVar 5))) mNil)
      ([o0, o1, o2, sv (.tuple (kW ps)), o4, x5.map Slot.val, o6, none, none, none, none, none, none, none, none, none, none, none, none, none, none]) = .ok (.int (lo ps : Nat)) ([o0, o1, o2, sv (.tuple (kW ps)), o4, x5.map Slot.val, o6, none, none, none, none, none, none, none, none, none, none, none, none, none, none]) := by
  have e : mLc [5, 20] (mItS (mVar 3)) (gTupW 2 (gsCons (store 5) (gsCons (store 20) gsNil))) (mTruth (mVar 20)) (mVar 5) ([o0, o1, o2, sv (.tuple (kW ps)), o4, x5.map Slot.val, o6, none, none, none, none, none, none, none, none, none, none, none, none, none, none]) =
      .ok (.list ((ps.filter fun p => p.2).map fun p => PyData.int (p.1 : Int))) ([o0, o1, o2, sv (.tuple (kW ps)), o4, x5.map Slot.val, o6, none, none, none, none, none, none, none, none, none, none, none, none, none, none]) := by
    refine mLc_of ps kp (fun p => PyData.int (p.1 : Int)) (fun p => p.2) (by simp; rfl) (by cases x5 <;> simp) (le_line (by omega)) fun p _ => ?_
    exact ⟨[o0, o1, o2, sv (.tuple (kW ps)), o4, iv p.1, o6, none, none, none, none, none, none, none, none, none, none, none, none, none, sv (.bool p.2)], [o0, o1, o2, sv (.tuple (kW ps)), o4, iv p.1, o6, none, none, none, none, none, none, none, none, none, none, none, none, none, sv (.bool p.2)], by simp, by simp, fun _ => ⟨_, by simp; exact rfl, by simp⟩, fun _ => by simp⟩
  have e2 : ((ps.filter fun p => p.2).map fun p => PyData.int (p.1 : Int)) = natW (lows ps) := by unfold natW lows; rw [List.map_map]; rfl
  have l := lows_len ps
  have m := max_nat 0 (lows ps)
  have ad := add_list (xs := [.int 0]) (ys := natW (lows ps)) (by rw [natW_len]; simp; omega)
  rw [e2] at e
  have m : maxW [.list ([.int 0] ++ natW (lows ps))] = some (.int ((lo ps : Nat) : Int)) := m
  rw [ev_callB, ev_cons, ev_bin]
  generalize natW (lows ps) = w at *
  simp [e, ad, -ev_lc]
  rw [show PyData.int 0 :: w = [.int 0] ++ w from rfl, m]
  rfl
theorem highL_ev (o0 o2 o4 o6 o7 : Option Slot) (n : Nat) (ps : Rs) (x5 : Option W) (hl : ps.length ≤ 1000) :
    mCallB minW (mCons (mBin addW (mLst (mCons (mBin addW (mVar 1) (mC (.int 1))) mNil)) (mLc [5, 20] (mItS (mVar 3)) (gTupW 2 (gsCons (store 5) (gsCons (store 20) gsNil))) (mNotT (mTruth (mVar 20))) (mVar 5))) mNil)
      ([o0, iv n, o2, sv (.tuple (kW ps)), o4, x5.map Slot.val, o6, o7, none, none, none, none, none, none, none, none, none, none, none, none, none]) = .ok (.int (hi n ps : Nat)) ([o0, iv n, o2, sv (.tuple (kW ps)), o4, x5.map Slot.val, o6, o7, none, none, none, none, none, none, none, none, none, none, none, none, none]) := by
  have e : mLc [5, 20] (mItS (mVar 3)) (gTupW 2 (gsCons (store 5) (gsCons (store 20) gsNil))) (mNotT (mTruth (mVar 20))) (mVar 5) ([o0, iv n, o2, sv (.tuple (kW ps)), o4, x5.map Slot.val, o6, o7, none, none, none, none, none, none, none, none, none, none, none, none, none]) =
      .ok (.list ((ps.filter fun p => !p.2).map fun p => PyData.int (p.1 : Int))) ([o0, iv n, o2, sv (.tuple (kW ps)), o4, x5.map Slot.val, o6, o7, none, none, none, none, none, none, none, none, none, none, none, none, none]) := by
    refine mLc_of ps kp (fun p => PyData.int (p.1 : Int)) (fun p => !p.2) (by simp; rfl) (by cases x5 <;> simp) (le_line (by omega)) fun p _ => ?_
    exact ⟨[o0, iv n, o2, sv (.tuple (kW ps)), o4, iv p.1, o6, o7, none, none, none, none, none, none, none, none, none, none, none, none, sv (.bool p.2)], [o0, iv n, o2, sv (.tuple (kW ps)), o4, iv p.1, o6, o7, none, none, none, none, none, none, none, none, none, none, none, none, sv (.bool p.2)], by simp, by simp, fun _ => ⟨_, by simp; exact rfl, by simp⟩, fun _ => by simp⟩
  have e2 : ((ps.filter fun p => !p.2).map fun p => PyData.int (p.1 : Int)) = natW (highs ps) := by unfold natW highs; rw [List.map_map]; rfl
  have l := highs_len ps
  have m := min_nat (n + 1) (highs ps)
  have ad := add_list (xs := [.int ((n : Int) + 1)]) (ys := natW (highs ps)) (by rw [natW_len]; simp; omega)
  rw [e2] at e
  have m : minW [.list ([.int ((n : Int) + 1)] ++ natW (highs ps))] = some (.int ((hi n ps : Nat) : Int)) := m
  rw [ev_callB, ev_cons, ev_bin]
  generalize natW (highs ps) = w at *
  simp [e, ad, -ev_lc]
  rw [show PyData.int ((n : Int) + 1) :: w = [.int ((n : Int) + 1)] ++ w from rfl, m]
  rfl
end K48
end
section
set_option Elab.async false
set_option linter.all false
set_option maxRecDepth 100000
set_option maxHeartbeats 4000000
set_option exponentiation.threshold 100000
namespace K48
open Qd PySem L2
/-! ### powers -/
def pw (i : Nat) : List Nat := (List.range (i + 1)).map fun k => 2 ^ k
theorem pw_succ (i : Nat) : pw (i + 1) = pw i ++ [2 ^ (i + 1)] := by unfold pw; rw [List.range_succ, List.map_append]; rfl
theorem pw_last (i : Nat) : ∃ r, natW (pw i) = r ++ [.int ((2 ^ i : Nat) : Int)] := by
  refine ⟨natW ((List.range i).map fun k => 2 ^ k), ?_⟩
  unfold pw
  rw [List.range_succ, List.map_append, ← natW_app]
  rfl
theorem pw_get {k n : Nat} (h : k ≤ n) : atI (natW (pw n)) (k : Int) = some (.int ((2 ^ k : Nat) : Int)) := by
  rw [natW_get (i := k) rfl (by unfold pw; simp; omega)]
  congr 3
  unfold pw
  rw [List.getD_eq_getElem?_getD, List.getElem?_map, List.getElem?_eq_getElem (by simp; omega), List.getElem_range]
  rfl
abbrev stB (o0 o1 o2 o3 o4 o5 o6 : Option Slot) (l h t : Nat) (o10 o11 : Option Slot) : SD := [o0, o1, o2, o3, o4, o5, o6, iv l, iv h, iv t, o10, o11, none, none, none, none, none, none, none, none, none]
theorem pows_ev (o0 o1 o2 o3 o4 o5 o6 : Option Slot) (l h t : Nat) : ∃ x11 : Option W, mFor (mRng1 (mCons (mC (.int 21)) mNil)) (store 11)
    (mDrop (mMeth "list" appendW 10 (mCons (mBin mulW (mC (.int 2)) (mSubOwn 10 (mUn negW (mC (.int 1))))) mNil))) (stB o0 o1 o2 o3 o4 o5 o6 l h t (some (.own (.list [.int 1]))) none) =
    .next (stB o0 o1 o2 o3 o4 o5 o6 l h t (some (.own (.list (natW (pw 21))))) (x11.map Slot.val)) := by
  have hr : range1? [.int 21] = some (rangeW 0 21) := range1_of (by omega) (by omega) (by omega)
  obtain ⟨d', e1, x11, rfl⟩ := forD_range (g := store 11) (b := (mDrop (mMeth "list" appendW 10 (mCons (mBin mulW (mC (.int 2)) (mSubOwn 10 (mUn negW (mC (.int 1))))) mNil)))) (fun k d => ∃ x11 : Option W, d = stB o0 o1 o2 o3 o4 o5 o6 l h t (some (.own (.list (natW (pw k))))) (x11.map Slot.val)) 0 21 0
    (stB o0 o1 o2 o3 o4 o5 o6 l h t (some (.own (.list [.int 1]))) none) ⟨none, rfl⟩ (by
      rintro i d _ hi2 ⟨x11, rfl⟩
      have hp : 2 ^ i ≤ 2 ^ 21 := Nat.pow_le_pow_right (by omega) (by omega)
      have hm : ∀ p : Nat, p ≤ 3000000 → mulW (.int 2) (.int (p : Int)) = some (.int ((p * 2 : Nat) : Int)) := fun p hp => by
        rw [mul_61 (by omega) (by omega) (by omega) (by omega)]
        congr 2
        push_cast
        omega
      have hm := hm (2 ^ i) (Nat.le_trans hp (by decide))
      rw [← Nat.pow_succ] at hm
      have l1 : (natW (pw i)).length < sizeLine := lt_line (by rw [natW_len]; unfold pw; simp; omega)
      obtain ⟨r, hr⟩ := pw_last i
      have ha := atI_last r (.int ((2 ^ i : Nat) : Int))
      rw [← hr] at ha
      refine ⟨stB o0 o1 o2 o3 o4 o5 o6 l h t (some (.own (.list (natW (pw i))))) (sv (.int (0 + (i : Int)))), stB o0 o1 o2 o3 o4 o5 o6 l h t (some (.own (.list (natW (pw (i + 1)))))) (sv (.int (0 + (i : Int)))), by cases x11 <;> simp, .inl ?_, some _, rfl⟩
      rw [pw_succ, natW_app]
      show mDrop _ _ = _
      generalize 2 ^ (i + 1) = q at *
      generalize 2 ^ i = p at *
      generalize natW (pw i) = w at *
      simp [hm, ha, l1])
  refine ⟨x11, ?_⟩
  rw [ev_for]
  have : mRng1 (mCons (mC (.int 21)) mNil) (stB o0 o1 o2 o3 o4 o5 o6 l h t (some (.own (.list [.int 1]))) none) = .ok (rangeW 0 21) (stB o0 o1 o2 o3 o4 o5 o6 l h t (some (.own (.list [.int 1]))) none) := by simp [hr]
  rw [this]
  exact e1
theorem firstk_ev (o0 o1 o2 o3 o4 o5 o6 : Option Slot) (l h t : Nat) (x11 : Option W) (hlt : l < h) (ht : h - l - 1 < 2 ^ 20) : ∃ r : List W,
    mLc [11] (mRng1 (mCons (mC (.int 21)) mNil)) (store 11) (mTest (mBin geW (mBin ixW (mVar 10) (mVar 11)) (mBin subW (mVar 8) (mVar 7)))) (mVar 11) (stB o0 o1 o2 o3 o4 o5 o6 l h t (sv (.list (natW (pw 21)))) (x11.map Slot.val)) =
    .ok (.list (.int ((bits (h - l - 1) : Nat) : Int) :: r)) (stB o0 o1 o2 o3 o4 o5 o6 l h t (sv (.list (natW (pw 21)))) (x11.map Slot.val)) := by
  have hr : range1? [.int 21] = some (rangeW 0 21) := range1_of (by omega) (by omega) (by omega)
  have hb : bits (h - l - 1) ≤ 20 := bits_small ht
  obtain ⟨r, er⟩ := filter_head (p := fun k => decide (h - l ≤ 2 ^ k)) (n := 21) (t := bits (h - l - 1)) (by omega) (by have := bits_le (h - l - 1); exact decide_eq_true (by omega)) (fun k hk => by
    have := bits_ge hk
    exact decide_eq_false (by omega))
  refine ⟨r.map fun (k : Nat) => PyData.int (0 + (k : Int)), ?_⟩
  have := mLc_of (vs := [11]) (it := mRng1 (mCons (mC (.int 21)) mNil)) (g := store 11) (t := mTest (mBin geW (mBin ixW (mVar 10) (mVar 11)) (mBin subW (mVar 8) (mVar 7)))) (e := mVar 11) (d := stB o0 o1 o2 o3 o4 o5 o6 l h t (sv (.list (natW (pw 21)))) (x11.map Slot.val)) (d' := stB o0 o1 o2 o3 o4 o5 o6 l h t (sv (.list (natW (pw 21)))) (x11.map Slot.val))
    (List.range 21) (fun (k : Nat) => PyData.int (0 + (k : Int))) (fun (k : Nat) => PyData.int (0 + (k : Int))) (fun k => decide (h - l ≤ 2 ^ k)) (by simp only [ev_rng1, ev_cons, ev_c, Out.bind_ok, ev_nil, hr, ofOpt_some, rangeW_map]) (by cases x11 <;> simp) (le_line (by simp)) (fun k hk => by
      have hk := List.mem_range.mp hk
      have g := pw_get (k := k) (n := 21) (by omega)
      have hc : decide (h - l ≤ 2 ^ k) = decide (((2 ^ k : Nat) : Int) ≥ (h : Int) - (l : Int)) := by
        congr 1
        rw [eq_iff_iff]
        omega
      rw [hc]
      generalize 2 ^ k = q at *
      generalize natW (pw 21) = w at *
      refine ⟨stB o0 o1 o2 o3 o4 o5 o6 l h t (sv (.list w)) (sv (.int (0 + (k : Int)))), stB o0 o1 o2 o3 o4 o5 o6 l h t (sv (.list w)) (sv (.int (0 + (k : Int)))), by simp, by simp [g], fun _ => ⟨stB o0 o1 o2 o3 o4 o5 o6 l h t (sv (.list w)) (sv (.int (0 + (k : Int)))), by simp, by simp⟩, fun _ => by simp⟩)
  rw [this, er]
  simp
/-! ### the told minerals find the place -/
abbrev stC (o0 : Option Slot) (m : Nat) (o2 o3 o4 o5 o6 o7 o8 o9 o10 o11 o12 o13 : Option Slot) (sp : Nat) (kn : Rs) : SD := [o0, iv m, o2, o3, o4, o5, o6, o7, o8, o9, o10, o11, o12, o13, iv sp, sv (.tuple (kW kn)), none, none, none, none, none]
theorem ask_told (m : Nat) (ps : Rs) (c : W) (h1 : 1 ≤ m) (h2 : m ≤ 1000000) (hl : ps.length ≤ 1000) (h : lo ps < hi m ps) : F__law_asked [.int 3, .int m, .tuple (kW ps), c] = .ok (.val (if tests m ps = 0 then .none else .int (told m ps : Nat))) := as3 (e_told_min m ps h1 h2 hl h)
/-- what holds between two tests -/
def Kn (m sp r : Nat) (kn : Rs) : Prop := lo kn ≤ sp ∧ sp < hi m kn ∧ gap m kn ≤ 2 ^ r
theorem kn_step {m sp r : Nat} {kn : Rs} (h : Kn m sp (r + 1) kn) (ht : tests m kn ≠ 0) : Kn m sp r (kn ++ [(told m kn, decide (told m kn ≤ sp))]) := by
  obtain ⟨a, b, c⟩ := h
  have hle : tests m kn ≤ r + 1 := bits_small (by unfold gap at *; omega)
  have g1 := bits_le (gap m kn - 1)
  have g3 : 2 ^ (tests m kn - 1) ≤ 2 ^ r := Nat.pow_le_pow_right (by omega) (by omega)
  have g4 : 2 ^ tests m kn = 2 * 2 ^ (tests m kn - 1) := by
    rw [show tests m kn = (tests m kn - 1) + 1 by omega, Nat.pow_succ]
    simp
    omega
  have g5 : gap m kn - 1 < 2 * 2 ^ (tests m kn - 1) := by rw [← g4]; exact g1
  have g6 : 2 ^ (tests m kn - 1) ≤ gap m kn - 1 := bits_ge (show tests m kn - 1 < bits (gap m kn - 1) by unfold tests at *; omega)
  have g7 : 1 ≤ 2 ^ (tests m kn - 1) := Nat.one_le_two_pow
  unfold Kn gap
  rw [lo_app, hi_app]
  unfold told gap at *
  generalize 2 ^ (tests m kn - 1) = q at *
  generalize 2 ^ r = z at *
  by_cases c1 : max (lo kn + 1) (hi m kn - q) ≤ sp
  · simp only [decide_eq_true c1, if_true]
    omega
  · simp only [decide_eq_false c1, Bool.false_eq_true, if_false]
    omega
theorem kn_rest {m sp r : Nat} {kn : Rs} (h : Kn m sp (r + 1) kn) (ht : tests m kn = 0) : Kn m sp r kn := by
  obtain ⟨a, b, c⟩ := h
  have g1 := bits_le (gap m kn - 1)
  unfold tests at ht
  rw [ht] at g1
  have : 1 ≤ 2 ^ r := Nat.one_le_two_pow
  exact ⟨a, b, by omega⟩
theorem sim_ev (o0 o2 o3 o6 o7 o8 o10 o11 o12 o13 : Option Slot) (m sp t : Nat) (kn : Rs) (x4 x5 : Option W) (h1 : 1 ≤ m) (h2 : m ≤ 1000000) (hl : kn.length ≤ 5) (ht : t ≤ 20) (hk : Kn m sp t kn) : ∃ (kn' : Rs) (x4' x5' : Option W), Kn m sp 0 kn' ∧ kn'.length ≤ 100 ∧
    mFor (mRng1 (mCons (mVar 9) mNil)) (store 4)
    (mSeq (mAsg (store 5) (mCallV F__law_asked (mCons (mC (.int 3)) (mCons (mVar 1) (mCons (mVar 15) (mCons (mC (.int 0)) mNil))))))
    (mIf (mTest (mBin notNW (mVar 5) (mC .none)))
    (mAsg (store 15) (mBin addW (mVar 15) (mTup (mCons (mTup (mCons (mVar 5) (mCons (mBin leW (mVar 5) (mVar 14)) mNil))) mNil))))
    mSkip)) (stC o0 m o2 o3 (x4.map Slot.val) (x5.map Slot.val) o6 o7 o8 (iv t) o10 o11 o12 o13 sp kn) = .next (stC o0 m o2 o3 (x4'.map Slot.val) (x5'.map Slot.val) o6 o7 o8 (iv t) o10 o11 o12 o13 sp kn') := by
  have hr : range1? [.int (t : Int)] = some (rangeW 0 t) := range1_of (by omega) (by omega) (by omega)
  have lp := forD_range (g := store 4) (b := (mSeq (mAsg (store 5) (mCallV F__law_asked (mCons (mC (.int 3)) (mCons (mVar 1) (mCons (mVar 15) (mCons (mC (.int 0)) mNil))))))
    (mIf (mTest (mBin notNW (mVar 5) (mC .none)))
    (mAsg (store 15) (mBin addW (mVar 15) (mTup (mCons (mTup (mCons (mVar 5) (mCons (mBin leW (mVar 5) (mVar 14)) mNil))) mNil))))
    mSkip))) (fun i d => ∃ (kn' : Rs) (x4 x5 : Option W), Kn m sp (t - i) kn' ∧ kn'.length ≤ 5 + i ∧ d = stC o0 m o2 o3 (x4.map Slot.val) (x5.map Slot.val) o6 o7 o8 (iv t) o10 o11 o12 o13 sp kn') 0 t 0 (stC o0 m o2 o3 (x4.map Slot.val) (x5.map Slot.val) o6 o7 o8 (iv t) o10 o11 o12 o13 sp kn) ⟨kn, x4, x5, hk, hl, rfl⟩ (by
      rintro i d _ hi2 ⟨kn, x4, x5, hk, hl, rfl⟩
      have ak := ask_told m kn (.int 0) h1 h2 (by omega) (by have := hk.1; have := hk.2.1; omega)
      rw [show t - i = (t - (i + 1)) + 1 by omega] at hk
      by_cases hz : tests m kn = 0
      · rw [if_pos hz] at ak
        refine ⟨stC o0 m o2 o3 (sv (.int (0 + (i : Int)))) (x5.map Slot.val) o6 o7 o8 (iv t) o10 o11 o12 o13 sp kn, stC o0 m o2 o3 (sv (.int (0 + (i : Int)))) (sv .none) o6 o7 o8 (iv t) o10 o11 o12 o13 sp kn, by cases x4 <;> simp, .inl ?_, kn, some _, some _, kn_rest hk hz, by omega, rfl⟩
        unfold stC
        generalize kW kn = w at *
        refine sqR (d' := [o0, iv m, o2, o3, sv (.int (0 + (i : Int))), sv .none, o6, o7, o8, iv t, o10, o11, o12, o13, iv sp, sv (.tuple w), none, none, none, none, none]) (by cases x5 <;> simp [ak]) ?_
        simp
      · rw [if_neg hz] at ak
        have ad := fun w : W => add_tup (xs := kW kn) (ys := [w]) (by unfold kW; simp; omega)
        have hkw : kW (kn ++ [(told m kn, decide (told m kn ≤ sp))]) = kW kn ++ [kp (told m kn, decide (told m kn ≤ sp))] := by unfold kW; simp
        refine ⟨stC o0 m o2 o3 (sv (.int (0 + (i : Int)))) (x5.map Slot.val) o6 o7 o8 (iv t) o10 o11 o12 o13 sp kn, stC o0 m o2 o3 (sv (.int (0 + (i : Int)))) (iv (told m kn)) o6 o7 o8 (iv t) o10 o11 o12 o13 sp (kn ++ [(told m kn, decide (told m kn ≤ sp))]), by cases x4 <;> simp, .inl ?_, _, some _, some _, kn_step hk hz, by simp; omega, rfl⟩
        unfold stC
        rw [hkw]
        generalize kW kn = w at *
        generalize told m kn = q at *
        refine sqR (d' := [o0, iv m, o2, o3, sv (.int (0 + (i : Int))), iv q, o6, o7, o8, iv t, o10, o11, o12, o13, iv sp, sv (.tuple w), none, none, none, none, none]) (by cases x5 <;> simp [ak]) ?_
        simp [ad, kp])
  obtain ⟨d', e1, kn', x4', x5', hk', hl', rfl⟩ := lp
  rw [Nat.zero_add, Nat.sub_self] at hk'
  refine ⟨kn', x4', x5', hk', by omega, ?_⟩
  rw [ev_for]
  have : mRng1 (mCons (mVar 9) mNil) (stC o0 m o2 o3 (x4.map Slot.val) (x5.map Slot.val) o6 o7 o8 (iv t) o10 o11 o12 o13 sp kn) = .ok (rangeW 0 t) (stC o0 m o2 o3 (x4.map Slot.val) (x5.map Slot.val) o6 o7 o8 (iv t) o10 o11 o12 o13 sp kn) := by simp [hr]
  rw [this]
  exact e1
end K48
end
section
set_option Elab.async false
set_option linter.all false
set_option maxRecDepth 100000
set_option maxHeartbeats 8000000
set_option exponentiation.threshold 100000
namespace K48
open Qd PySem L2
/-! ### nothing of the range -/
theorem both_words (i : Nat) (hi4 : i < 4) (b c : W) (x : Int) (hx : ¬ (1 ≤ x ∧ x ≤ 1000000)) : F__law_asked [.int (0 + (i : Int)), .int x, b, c] = .ok (.val oor) := by
  have : i = 0 ∨ i = 1 ∨ i = 2 ∨ i = 3 := by omega
  rcases this with rfl | rfl | rfl | rfl
  · exact xs0 (o_results x b hx)
  · exact xs1 (o_place x b hx)
  · exact xs2 (o_fewest x b hx)
  · exact xs3 (o_told_min x b hx)
abbrev stD (r : List (Option Slot)) (x5 : Option Slot) (s : List (Option Slot)) (b : W) (n : Nat) (x18 : Option Slot) : SD := [r.getD 0 none, r.getD 1 none, r.getD 2 none, r.getD 3 none, r.getD 4 none, x5, s.getD 0 none, s.getD 1 none, s.getD 2 none, s.getD 3 none, s.getD 4 none, s.getD 5 none, s.getD 6 none, s.getD 7 none, s.getD 8 none, s.getD 9 none, sv b, sv (.list (List.replicate n oor)), x18, none, none]
theorem words_ev (r s : List (Option Slot)) (x5 : Option W) (b : W) : ∃ x18 : Option W, mFor (mRng1 (mCons (mC (.int 4)) mNil)) (store 18)
    (mAsg (store 17) (mBin addW (mVar 17) (mLc [5] (mItS (mTup (mCons (mC (.int 0)) (mCons (mBin addW (mBin powW (mC (.int 10)) (mC (.int 6))) (mC (.int 1))) mNil)))) (store 5) mYes (mCallV F__law_asked (mCons (mVar 18) (mCons (mVar 5) (mCons (mVar 16) (mCons (mC (.int 0)) mNil)))))))) (stD r (x5.map Slot.val) s b 0 none) =
    .next (stD r (x5.map Slot.val) s b 8 (x18.map Slot.val)) := by
  have hr : range1? [.int 4] = some (rangeW 0 4) := range1_of (by omega) (by omega) (by omega)
  obtain ⟨d', e1, x18, rfl⟩ := forD_range (g := store 18) (b := (mAsg (store 17) (mBin addW (mVar 17) (mLc [5] (mItS (mTup (mCons (mC (.int 0)) (mCons (mBin addW (mBin powW (mC (.int 10)) (mC (.int 6))) (mC (.int 1))) mNil)))) (store 5) mYes (mCallV F__law_asked (mCons (mVar 18) (mCons (mVar 5) (mCons (mVar 16) (mCons (mC (.int 0)) mNil)))))))))
    (fun k d => ∃ x18 : Option W, d = stD r (x5.map Slot.val) s b (2 * k) (x18.map Slot.val)) 0 4 0 (stD r (x5.map Slot.val) s b 0 none) ⟨none, rfl⟩ (by
      rintro i d _ hi2 ⟨x18, rfl⟩
      have w1 := both_words i (by omega) b (.int 0) 0 (by omega)
      have w2 := both_words i (by omega) b (.int 0) 1000001 (by omega)
      refine ⟨stD r (x5.map Slot.val) s b (2 * i) (sv (.int (0 + (i : Int)))), stD r (x5.map Slot.val) s b (2 * (i + 1)) (sv (.int (0 + (i : Int)))), by cases x18 <;> simp, .inl ?_, some _, rfl⟩
      have e : mLc [5] (mItS (mTup (mCons (mC (.int 0)) (mCons (mBin addW (mBin powW (mC (.int 10)) (mC (.int 6))) (mC (.int 1))) mNil)))) (store 5) mYes (mCallV F__law_asked (mCons (mVar 18) (mCons (mVar 5) (mCons (mVar 16) (mCons (mC (.int 0)) mNil))))) (stD r (x5.map Slot.val) s b (2 * i) (sv (.int (0 + (i : Int))))) = .ok (.list [oor, oor]) (stD r (x5.map Slot.val) s b (2 * i) (sv (.int (0 + (i : Int))))) := by
        refine mLc_all [0, 1000001] (fun (z : Int) => PyData.int z) (fun _ => oor) (by simp) (by cases x5 <;> simp) (le_line (by simp)) fun z hz => ?_
        have wz : F__law_asked [.int (0 + (i : Int)), .int z, b, .int 0] = .ok (.val oor) := by
          simp only [List.mem_cons, List.not_mem_nil, or_false] at hz
          rcases hz with rfl | rfl
          · exact w1
          · exact w2
        refine ⟨stD r (sv (.int z)) s b (2 * i) (sv (.int (0 + (i : Int)))), _, stD r (sv (.int z)) s b (2 * i) (sv (.int (0 + (i : Int)))), by simp, rfl, ?_, by simp⟩
        rw [ev_callV]
        generalize List.replicate (2 * i) oor = l at *
        rw [show (0 : Int) + (i : Int) = (i : Int) by omega] at *
        simp [wz]
      have ad := add_list (xs := List.replicate (2 * i) oor) (ys := [oor, oor]) (by simp; omega)
      have hs : List.replicate (2 * (i + 1)) oor = List.replicate (2 * i) oor ++ [oor, oor] := by
        rw [show 2 * (i + 1) = 2 * i + 2 by omega, ← List.replicate_append_replicate]
        rfl
      rw [ev_asg, ev_bin]
      have v17 : mVar 17 (stD r (x5.map Slot.val) s b (2 * i) (sv (.int (0 + (i : Int))))) = .ok (.list (List.replicate (2 * i) oor)) (stD r (x5.map Slot.val) s b (2 * i) (sv (.int (0 + (i : Int))))) := by simp
      rw [v17, Out.bind_ok, e, Out.bind_ok, ad]
      unfold stD
      rw [hs]
      generalize List.replicate (2 * i) oor = l at *
      simp)
  refine ⟨x18, ?_⟩
  rw [ev_for]
  have : mRng1 (mCons (mC (.int 4)) mNil) (stD r (x5.map Slot.val) s b 0 none) = .ok (rangeW 0 4) (stD r (x5.map Slot.val) s b 0 none) := by simp [hr]
  rw [this]
  exact e1
theorem rep_str (x : Str) (n : Nat) (hn : n ≤ 100) (d : SD) : mRepF (mLst (mCons (mC (.str x)) mNil)) (mC (.int (n : Int))) d = .ok (.list (List.replicate n (.str x))) d := by
  rw [ev_repF]
  have : mLst (mCons (mC (.str x)) mNil) d = .ok (.list [.str x]) d := by simp
  rw [this, Out.bind_ok, ev_c, Out.bind_ok]
  dsimp only
  have c : cdec (-(2 ^ 63) ≤ (n : Int) ∧ (n : Int) < 2 ^ 63 ∧ ([PyData.str x] : List W).length * (n : Int).toNat ≤ sizeLine) = true := cdec_iff.mpr ⟨by omega, by omega, le_line (by simp; omega)⟩
  rw [if_pos c, Int.toNat_natCast]
  congr 2
  clear c this hn
  induction n with
  | zero => rfl
  | succ n ih => rw [List.replicate_succ, List.flatten_cons, List.replicate_succ, ih]; rfl
theorem eq_strs (x : Str) (hx : PyData.strOk x = true) (n : Nat) : eqW (.list (List.replicate n (.str x))) (.list (List.replicate n (.str x))) = some (.bool true) := eq_self (strs_lv x hx n)
end K48
end
section
set_option Elab.async false
set_option linter.all false
set_option maxRecDepth 100000
set_option maxHeartbeats 8000000
set_option exponentiation.threshold 100000
namespace K48
open Qd PySem L2
theorem drawn_ev (k : Nat) (u : W) (m pl a : Nat) (h : Dr k u) (hk : k < 900) (h1 : 1 ≤ m) (h2 : m ≤ 1000000) (ha : a ≤ 5) (u0 : W) (he : F__law_draw u0 [.int 6] = .ok (.val (.int (a : Nat))) u) : ∃ (u' : W) (ps : Rs) (x4 x5 : Option W), Dr (k + 10) u' ∧ ps.length = a ∧ (∀ p ∈ ps, 1 ≤ p.1 ∧ p.1 ≤ m) ∧
    mFor (mRng1 (mCons (mCallP F__law_draw 0 (mCons (mC (.int 6)) mNil)) mNil)) (store 4)
    (mSeq (mAsg (store 5) (mBin addW (mC (.int 1)) (mCallP F__law_draw 0 (mCons (mVar 1) mNil))))
    (mAsg (store 3) (mBin addW (mVar 3) (mTup (mCons (mTup (mCons (mVar 5) (mCons (mIfE (mTest (mBin gtW (mCallP F__law_draw 0 (mCons (mC (.int 12)) mNil)) (mC (.int 0)))) (mBin leW (mVar 5) (mVar 2)) (mBin gtW (mVar 5) (mVar 2))) mNil))) mNil))))) (stA u0 m pl [] none none) =
    .next (stA u' m pl ps (x4.map Slot.val) (x5.map Slot.val)) := by
  have hr : range1? [.int (a : Int)] = some (rangeW 0 a) := range1_of (by omega) (by omega) (by omega)
  have lp := forD_range (g := store 4) (b := (mSeq (mAsg (store 5) (mBin addW (mC (.int 1)) (mCallP F__law_draw 0 (mCons (mVar 1) mNil))))
    (mAsg (store 3) (mBin addW (mVar 3) (mTup (mCons (mTup (mCons (mVar 5) (mCons (mIfE (mTest (mBin gtW (mCallP F__law_draw 0 (mCons (mC (.int 12)) mNil)) (mC (.int 0)))) (mBin leW (mVar 5) (mVar 2)) (mBin gtW (mVar 5) (mVar 2))) mNil))) mNil))))))
    (fun i d => ∃ (u : W) (ps : Rs) (x4 x5 : Option W), Dr (k + 2 * i) u ∧ ps.length = i ∧ (∀ p ∈ ps, 1 ≤ p.1 ∧ p.1 ≤ m) ∧ d = stA u m pl ps (x4.map Slot.val) (x5.map Slot.val)) 0 a 0 (stA u m pl [] none none) ⟨u, [], none, none, h, rfl, by simp, rfl⟩ (by
      rintro i d _ hi2 ⟨u, ps, x4, x5, D, hl, hp, rfl⟩
      obtain ⟨u', p, D', p1, p2, e⟩ := turn_ev (k + 2 * i) u m pl ps (sv (.int (0 + (i : Int)))) x5 D (by omega) h1 h2 (by omega)
      refine ⟨stA u m pl ps (sv (.int (0 + (i : Int)))) (x5.map Slot.val), _, by cases x4 <;> simp, .inl e, u', ps ++ [p], some _, some _, by rw [show k + 2 * (i + 1) = k + 2 * i + 2 by omega]; exact D', by simp [hl], fun q hq => ?_, rfl⟩
      rcases List.mem_append.mp hq with hq | hq
      · exact hp q hq
      · rw [List.mem_singleton.mp hq]; exact ⟨p1, p2⟩)
  obtain ⟨d', e1, u', ps, x4, x5, D, hl, hp, rfl⟩ := lp
  refine ⟨u', ps, x4, x5, D.mono (by omega), by omega, hp, ?_⟩
  rw [ev_for]
  have : mRng1 (mCons (mCallP F__law_draw 0 (mCons (mC (.int 6)) mNil)) mNil) (stA u0 m pl [] none none) = .ok (rangeW 0 a) (stA u m pl [] none none) := by simp [he, hr]
  rw [this]
  exact e1
theorem sqPx {k : Nat} {a b : MS} {d : SD} {P : SD → Prop} (h : ∃ d', a d = .next d' ∧ P d') (z : ∀ d', P d' → RP k (b d')) : RP k (mSeq a b d) := by
  obtain ⟨d', e, p⟩ := h
  exact sqP e (z d' p)
theorem tt_one (j : Nat) : (tt j).getD 1 0 = 0 := by rw [tt_get (by omega)]; rfl
theorem places (k : Nat) (u : W) (h : Dr k u) (hk : k < 500) : RP (k + 30) (m__law_places (sdP 21 u [])) := by
  obtain ⟨a1, u1, ha1, D1, e1⟩ := e_draw k u 3 h (by omega) (by omega) (by omega)
  have hG : ∃ G : Nat, 0 < G ∧ G < 1000001 ∧ atI [PyData.int 9, PyData.int 40, PyData.int 1000000] (a1 : Int) = some (.int G) := by
    match a1, ha1 with
    | 0, _ => exact ⟨9, by omega, by omega, rfl⟩
    | 1, _ => exact ⟨40, by omega, by omega, rfl⟩
    | 2, _ => exact ⟨1000000, by omega, by omega, rfl⟩
  obtain ⟨G, hG1, hG2, hG3⟩ := hG
  obtain ⟨a2, u2, ha2, D2, e2⟩ := e_draw (k + 1) u1 G D1 (by omega) (by omega) (by omega)
  obtain ⟨a3, u3, ha3, D3, e3⟩ := e_draw (k + 1 + 1) u2 (1 + a2 + 1) D2 (by omega) (by omega) (by omega)
  obtain ⟨a4, u4, ha4, D4, e4⟩ := e_draw (k + 1 + 1 + 1) u3 6 D3 (by omega) (by omega) (by omega)
  change F__law_draw u [.int 3] = _ at e1
  change F__law_draw u3 [.int 6] = _ at e4
  generalize hm : 1 + a2 = m at *
  have hm' : 1 + (a2 : Int) = (m : Int) := by omega
  have e3' : F__law_draw u2 [.int ((m : Int) + 1)] = .ok (.val (.int a3)) u3 := e3
  unfold m__law_places
  rw [show sdP 21 u [] = [some (.par u), none, none, none, none, none, none, none, none, none, none, none, none, none, none, none, none, none, none, none, none] from rfl]
  refine sqP (d' := [some (.par u2), iv m, none, none, none, none, none, none, none, none, none, none, none, none, none, none, none, none, none, none, none]) (by simp [e1, hG3, e2, hm']) ?_
  refine sqP (d' := stA u3 m a3 [] none none) (by simp [e3', kW]) ?_
  obtain ⟨u5, ps, x4, x5, D5, hl, hp, e5⟩ := drawn_ev (k + 1 + 1 + 1 + 1) u4 m a3 a4 D4 (by omega) (by omega) (by omega) (by omega) u3 e4
  refine sqP e5 ?_
  have lw : listW [.tuple (kW ps)] = some (.list (kW ps)) := rfl
  refine sqP (d' := [some (.par u5), iv m, iv a3, sv (.tuple (kW ps)), x4.map Slot.val, x5.map Slot.val, sv (.list (wrongs m ps)), none, none, none, none, none, none, none, none, none, none, none, none, none, none]) ?_ ?_
  · have m41 := m41
    unfold wrongs stA
    generalize kW ps = w at *
    generalize L41 = l41 at *
    simp [lw, m41]
  have r0 := as0 (c := .int 0) (e_results m ps (by omega) (by omega) (by omega) hp)
  have wr := wrongs_ev (some (.par u5)) (iv a3) (sv (.tuple (kW ps))) (x4.map Slot.val) (x5.map Slot.val) m ps (by omega) (by omega)
  have nn : neW (.list []) (.list []) = some (.bool false) := ne_self (lv_ok (k := 1) (by omega) (by intro d hd; cases hd))
  have nb : ∀ b c : Bool, notBW (.bool b) (.bool c) = some (.bool (!decide (b = c))) := fun _ _ => rfl
  refine sqP (d' := [some (.par u5), iv m, iv a3, sv (.tuple (kW ps)), x4.map Slot.val, x5.map Slot.val, sv (.list (wrongs m ps)), none, none, none, none, none, none, none, none, none, none, none, none, none, none]) ?_ ?_
  · generalize wrongs m ps = ww at *
    generalize kW ps = w at *
    simp [r0, nb, wr, nn, -ev_lc]
  generalize hww : wrongs m ps = ww
  refine sqP (d' := [some (.par u5), iv m, iv a3, sv (.tuple (kW ps)), x4.map Slot.val, x5.map Slot.val, sv (.list ww), iv (lo ps), none, none, none, none, none, none, none, none, none, none, none, none, none]) ?_ ?_
  · rw [ev_asg, lowL_ev (some (.par u5)) (iv m) (iv a3) (x4.map Slot.val) (sv (.list ww)) ps x5 (by omega)]
    simp
  refine sqP (d' := [some (.par u5), iv m, iv a3, sv (.tuple (kW ps)), x4.map Slot.val, x5.map Slot.val, sv (.list ww), iv (lo ps), iv (hi m ps), none, none, none, none, none, none, none, none, none, none, none, none]) ?_ ?_
  · rw [ev_asg, highL_ev (some (.par u5)) (iv a3) (x4.map Slot.val) (sv (.list ww)) (iv (lo ps)) m ps x5 (by omega)]
    simp
  by_cases hlh : hi m ps ≤ lo ps
  · -- the results do not agree
    refine sqP1 (u := u5) (t := ([some (.par u5), iv m, iv a3, sv (.tuple (kW ps)), x4.map Slot.val, x5.map Slot.val, sv (.list ww), iv (lo ps), iv (hi m ps), none, none, none, none, none, none, none, none, none, none, none, none]).tail) ?_ (D5.mono (by omega))
    have q1 := rs1 (c := .int 0) (x_place m ps (by omega) (by omega) (by omega) hlh)
    have q2 := rs2 (c := .int 0) (x_fewest m ps (by omega) (by omega) (by omega) hlh)
    have q3 := rs3 (c := .int 0) (x_told_min m ps (by omega) (by omega) (by omega) hlh)
    have el : mLc [18] (mItS (mTup (mCons (mC (.int 1)) (mCons (mC (.int 2)) (mCons (mC (.int 3)) mNil))))) (store 18) mYes (mCallV F__law_asked (mCons (mVar 18) (mCons (mVar 1) (mCons (mVar 3) (mCons (mC (.int 0)) mNil))))) ([some (.par u5), iv m, iv a3, sv (.tuple (kW ps)), x4.map Slot.val, x5.map Slot.val, sv (.list ww), iv (lo ps), iv (hi m ps), none, none, none, none, none, none, none, none, none, none, none, none]) =
        .ok (.list (List.replicate 3 ref)) ([some (.par u5), iv m, iv a3, sv (.tuple (kW ps)), x4.map Slot.val, x5.map Slot.val, sv (.list ww), iv (lo ps), iv (hi m ps), none, none, none, none, none, none, none, none, none, none, none, none]) := by
      generalize kW ps = w at *
      refine mLc_all [1, 2, 3] (fun (z : Int) => PyData.int z) (fun _ => ref) (by simp) (by simp) (le_line (by simp)) fun z hz => ?_
      have wz : F__law_asked [.int z, .int m, .tuple w, .int 0] = .ok (.val ref) := by
        simp only [List.mem_cons, List.not_mem_nil, or_false] at hz
        rcases hz with rfl | rfl | rfl
        · exact q1
        · exact q2
        · exact q3
      exact ⟨[some (.par u5), iv m, iv a3, sv (.tuple w), x4.map Slot.val, x5.map Slot.val, sv (.list ww), iv (lo ps), iv (hi m ps), none, none, none, none, none, none, none, none, none, sv (.int z), none, none], _, [some (.par u5), iv m, iv a3, sv (.tuple w), x4.map Slot.val, x5.map Slot.val, sv (.list ww), iv (lo ps), iv (hi m ps), none, none, none, none, none, none, none, none, none, sv (.int z), none, none], by simp, rfl, by simp [wz], by simp⟩
    have tt : mTest (mBin geW (mVar 7) (mVar 8)) ([some (.par u5), iv m, iv a3, sv (.tuple (kW ps)), x4.map Slot.val, x5.map Slot.val, sv (.list ww), iv (lo ps), iv (hi m ps), none, none, none, none, none, none, none, none, none, none, none, none]) = .ok true ([some (.par u5), iv m, iv a3, sv (.tuple (kW ps)), x4.map Slot.val, x5.map Slot.val, sv (.list ww), iv (lo ps), iv (hi m ps), none, none, none, none, none, none, none, none, none, none, none, none]) := by
      generalize kW ps = w at *
      simp [hlh]
    rw [ev_if, tt, Out.toS_ok, if_pos rfl, ev_ret, ev_bin, el, Out.bind_ok]
    have := rep_str "Refused" 3 (by omega) ([some (.par u5), iv m, iv a3, sv (.tuple (kW ps)), x4.map Slot.val, x5.map Slot.val, sv (.list ww), iv (lo ps), iv (hi m ps), none, none, none, none, none, none, none, none, none, none, none, none])
    erw [this]
    rw [Out.bind_ok, eq_strs _ ref_ok]
    rfl
  have hlh' : lo ps < hi m ps := by omega
  have hgap : gap m ps ≤ 1000001 := by have := hi_le m ps; unfold gap; omega
  have tle : tests m ps ≤ 20 := bits_small (by omega)
  have q1 := as1 (c := .int 0) (e_place m ps (by omega) (by omega) (by omega) hlh')
  have q2 := as2 (c := .int 0) (e_fewest m ps (by omega) (by omega) (by omega) hlh')
  have q3 := ask_told m ps (.int 0) (by omega) (by omega) (by omega) hlh'
  have i2 := e_int (tests m ps)
  have np : neW (.tuple [.int ((lo ps : Nat) : Int), .int ((hi m ps : Nat) : Int)]) (.tuple [.int ((lo ps : Nat) : Int), .int ((hi m ps : Nat) : Int)]) = some (.bool false) := ne_self (lv_ok (k := 1) (by omega) (by intro d hd; simp only [List.mem_cons, List.not_mem_nil, or_false] at hd; rcases hd with rfl | rfl <;> exact trivial))
  generalize hl_ : lo ps = l at *
  generalize hh_ : hi m ps = hh at *
  generalize ht_ : tests m ps = t at *
  have hgl : gap m ps = hh - l := by unfold gap; rw [hl_, hh_]
  refine sqP (d' := [some (.par u5), iv m, iv a3, sv (.tuple (kW ps)), x4.map Slot.val, x5.map Slot.val, sv (.list ww), iv l, iv hh, none, none, none, none, none, none, none, none, none, none, none, none]) ?_ ?_
  · generalize kW ps = w at *
    simp [show ¬ hh ≤ l by omega]
  refine sqP (d' := [some (.par u5), iv m, iv a3, sv (.tuple (kW ps)), x4.map Slot.val, x5.map Slot.val, sv (.list ww), iv l, iv hh, iv t, none, none, none, none, none, none, none, none, none, none, none]) ?_ ?_
  · generalize kW ps = w at *
    simp [q2]
  refine sqP (d' := [some (.par u5), iv m, iv a3, sv (.tuple (kW ps)), x4.map Slot.val, x5.map Slot.val, sv (.list ww), iv l, iv hh, iv t, none, none, none, none, none, none, none, none, none, none, none]) ?_ ?_
  · generalize kW ps = w at *
    simp [q1, np, i2]
  refine sqP (d' := stB (some (.par u5)) (iv m) (iv a3) (sv (.tuple (kW ps))) (x4.map Slot.val) (x5.map Slot.val) (sv (.list ww)) l hh t (some (.own (.list [.int 1]))) none) ?_ ?_
  · generalize kW ps = w at *
    simp
  obtain ⟨x11, ep⟩ := pows_ev (some (.par u5)) (iv m) (iv a3) (sv (.tuple (kW ps))) (x4.map Slot.val) (x5.map Slot.val) (sv (.list ww)) l hh t
  refine sqP ep ?_
  refine frzP (d' := stB (some (.par u5)) (iv m) (iv a3) (sv (.tuple (kW ps))) (x4.map Slot.val) (x5.map Slot.val) (sv (.list ww)) l hh t (sv (.list (natW (pw 21)))) (x11.map Slot.val)) (by simp) ?_
  obtain ⟨r, ef⟩ := firstk_ev (some (.par u5)) (iv m) (iv a3) (sv (.tuple (kW ps))) (x4.map Slot.val) (x5.map Slot.val) (sv (.list ww)) l hh t x11 hlh' (by omega)
  have hbt : bits (hh - l - 1) = t := by rw [← hgl, ← ht_]; rfl
  rw [hbt] at ef
  have at0 : ∀ (w : W) (r : List W), atI (w :: r) 0 = some w := fun w r => by
    have : atI (w :: r) ((0 : Nat) : Int) = some w := atI_nat rfl
    exact this
  generalize hpw : natW (pw 21) = pwl at *
  refine sqP (d' := stB (some (.par u5)) (iv m) (iv a3) (sv (.tuple (kW ps))) (x4.map Slot.val) (x5.map Slot.val) (sv (.list ww)) l hh t (sv (.list pwl)) (x11.map Slot.val)) ?_ ?_
  · unfold stB at ef ⊢
    generalize kW ps = w at *
    simp [ef, at0, -ev_lc]
  have hcast : ((hh - l : Nat) : Int) = (hh : Int) - (l : Int) := by omega
  refine sqPx (P := fun d' => ∃ x12 x13 : Option W, d' = [some (.par u5), iv m, iv a3, sv (.tuple (kW ps)), x4.map Slot.val, x5.map Slot.val, sv (.list ww), iv l, iv hh, iv t, sv (.list pwl), x11.map Slot.val, x12.map Slot.val, x13.map Slot.val, none, none, none, none, none, none, none]) ?_ ?_
  · by_cases h45 : hh - l < 45
    · obtain ⟨j, hj1, hj2, et⟩ := e_tests (hh - l) (by omega) h45
      obtain ⟨w, g1, g2, g3⟩ := ttW_get (j := j) (k := hh - l) (by omega)
      have at1 : ∀ (w v : W), atI [w, v] 1 = some v := fun w v => by
        have : atI [w, v] ((1 : Nat) : Int) = some v := atI_nat rfl
        exact this
      have ht2 : (tt j).getD (hh - l) 0 = t := by
        by_cases c : hh - l = 1
        · rw [c, tt_one, ← hbt, c]; rfl
        · rw [hj2 (by omega), (tt_is (hh - l) h45 (by omega)).1, hbt]
      rw [ht2, hcast] at g1
      rw [hcast] at et
      refine ⟨[some (.par u5), iv m, iv a3, sv (.tuple (kW ps)), x4.map Slot.val, x5.map Slot.val, sv (.list ww), iv l, iv hh, iv t, sv (.list pwl), x11.map Slot.val, sv (.list (ttW j)), sv w, none, none, none, none, none, none, none], ?_, some _, some _, rfl⟩
      have told_ : told m ps = max (l + 1) (hh - 2 ^ (t - 1)) := by unfold told; rw [hl_, hh_, ht_]
      have hq : ∃ v : W, F__law_asked [.int 3, .int m, .tuple (kW ps), .int 0] = .ok (.val v) ∧ neW v (if isNone w = true then .none else .int ((l : Int) + (tf (hh - l - 2) : Int))) = some (.bool false) ∧ (isNone w = false → w = .int ((tf (hh - l - 2) : Nat) : Int)) := by
        refine ⟨_, q3, ?_, fun z => ?_⟩
        · by_cases c : hh - l = 1
          · rw [g3 (by omega)]
            have : t = 0 := by rw [← hbt, c]; rfl
            rw [if_pos this]
            rfl
          · have t0 : t ≠ 0 := by
              have := bits_le (hh - l - 1)
              rw [hbt] at this
              intro z
              rw [z] at this
              omega
            rw [g2 (by omega), if_neg t0]
            have e : ((told m ps : Nat) : Int) = (l : Int) + (tf (hh - l - 2) : Int) := by
              rw [(tt_is (hh - l) h45 (by omega)).2, told_, hbt]
              generalize 2 ^ (t - 1) = q
              omega
            rw [e]
            exact ne_self (lv_ok (k := 0) (by omega) trivial)
        · by_cases c : hh - l = 1
          · rw [g3 (by omega)] at z
            cases z
          · exact g2 (by omega)
      obtain ⟨v, hv1, hv2, hv3⟩ := hq
      unfold stB
      generalize kW ps = ww2 at *
      generalize ttW j = tw at *
      rw [ev_if]
      have tst : mTest (mBin ltW (mBin subW (mVar 8) (mVar 7)) (mC (.int 45))) ([some (.par u5), iv m, iv a3, sv (.tuple ww2), x4.map Slot.val, x5.map Slot.val, sv (.list ww), iv l, iv hh, iv t, sv (.list pwl), x11.map Slot.val, none, none, none, none, none, none, none, none, none]) = .ok true ([some (.par u5), iv m, iv a3, sv (.tuple ww2), x4.map Slot.val, x5.map Slot.val, sv (.list ww), iv l, iv hh, iv t, sv (.list pwl), x11.map Slot.val, none, none, none, none, none, none, none, none, none]) := by
        simp [show (hh : Int) - (l : Int) < 45 by omega]
      rw [tst, Out.toS_ok, if_pos rfl]
      refine sqR (d' := [some (.par u5), iv m, iv a3, sv (.tuple ww2), x4.map Slot.val, x5.map Slot.val, sv (.list ww), iv l, iv hh, iv t, sv (.list pwl), x11.map Slot.val, sv (.list tw), none, none, none, none, none, none, none, none]) (by simp [et]) ?_
      refine sqR (d' := [some (.par u5), iv m, iv a3, sv (.tuple ww2), x4.map Slot.val, x5.map Slot.val, sv (.list ww), iv l, iv hh, iv t, sv (.list pwl), x11.map Slot.val, sv (.list tw), sv w, none, none, none, none, none, none, none]) (by simp [g1, at1]) ?_
      cases hz : isNone w with
      | true =>
        rw [hz, if_pos rfl] at hv2
        simp [g1, at0, hv1, hz, hv2]
      | false =>
        rw [hz, if_neg Bool.false_ne_true] at hv2
        have hw := hv3 hz
        subst hw
        simp [g1, at0, hv1, hz, hv2]
    · refine ⟨_, ?_, none, none, rfl⟩
      unfold stB
      generalize kW ps = ww2 at *
      simp [show ¬ (hh : Int) - (l : Int) < 45 by omega]
  rintro _ ⟨x12, x13, rfl⟩
  obtain ⟨a7, u6, ha7, D6, e7⟩ := e_draw (k + 1 + 1 + 1 + 1 + 10) u5 (hh - l) D5 (by omega) (by omega) (by omega)
  rw [hcast] at e7
  have hcut : cutA (kW ps) none (some 8) = kW ps := by
    have hlen : (kW ps).length ≤ 8 := by unfold kW; rw [List.length_map]; omega
    refine cutA_all rfl ?_
    show (if (8 : Int) < 0 then ((8 : Int) + ((kW ps).length : Int)).toNat else min (8 : Int).toNat (kW ps).length) = (kW ps).length
    rw [if_neg (by decide)]
    exact Nat.min_eq_right hlen
  have hsp : (l : Int) + (a7 : Int) = ((l + a7 : Nat) : Int) := by omega
  generalize hspg : l + a7 = sp at *
  refine sqP (d' := stC (some (.par u6)) m (iv a3) (sv (.tuple (kW ps))) (x4.map Slot.val) (x5.map Slot.val) (sv (.list ww)) (iv l) (iv hh) (iv t) (sv (.list pwl)) (x11.map Slot.val) (x12.map Slot.val) (x13.map Slot.val) sp ps) ?_ ?_
  · unfold stC
    generalize kW ps = w at *
    simp [e7, hcut, hsp]
  have hK : Kn m sp t ps := ⟨by omega, by omega, by have := bits_le (hh - l - 1); rw [hbt] at this; omega⟩
  obtain ⟨kn, x4', x5', hK', hlen, es⟩ := sim_ev (some (.par u6)) (iv a3) (sv (.tuple (kW ps))) (sv (.list ww)) (iv l) (iv hh) (sv (.list pwl)) (x11.map Slot.val) (x12.map Slot.val) (x13.map Slot.val) m sp t ps x4 x5 (by omega) (by omega) (by omega) tle hK
  refine sqP es ?_
  have hlo : lo kn = sp := by have := hK'.1; have := hK'.2.1; have := hK'.2.2; unfold gap at this; omega
  have hhi : hi m kn = sp + 1 := by have := hK'.1; have := hK'.2.1; have := hK'.2.2; unfold gap at this; omega
  have s1 := as1 (c := .int 0) (e_place m kn (by omega) (by omega) (by omega) (by omega))
  have s3 := ask_told m kn (.int 0) (by omega) (by omega) (by omega) (by omega)
  have tz : tests m kn = 0 := by unfold tests gap; rw [hlo, hhi, show sp + 1 - sp - 1 = 0 by omega]; rfl
  rw [if_pos tz] at s3
  rw [hlo, hhi] at s1
  have s1 : F__law_asked [.int 1, .int m, .tuple (kW kn), .int 0] = .ok (.val (.tuple [.int (sp : Int), .int ((sp : Int) + 1)])) := s1
  have np2 : neW (.tuple [.int (sp : Int), .int ((sp : Int) + 1)]) (.tuple [.int (sp : Int), .int ((sp : Int) + 1)]) = some (.bool false) := ne_self (lv_ok (k := 1) (by omega) (by intro d hd; simp only [List.mem_cons, List.not_mem_nil, or_false] at hd; rcases hd with rfl | rfl <;> exact trivial))
  refine sqP (d' := stC (some (.par u6)) m (iv a3) (sv (.tuple (kW ps))) (x4'.map Slot.val) (x5'.map Slot.val) (sv (.list ww)) (iv l) (iv hh) (iv t) (sv (.list pwl)) (x11.map Slot.val) (x12.map Slot.val) (x13.map Slot.val) sp kn) ?_ ?_
  · unfold stC
    generalize kW ps = w at *
    generalize kW kn = w2 at *
    simp [s1, np2, s3]
  obtain ⟨x18, ew⟩ := words_ev [some (.par u6), iv m, iv a3, sv (.tuple (kW ps)), x4'.map Slot.val] [sv (.list ww), iv l, iv hh, iv t, sv (.list pwl), x11.map Slot.val, x12.map Slot.val, x13.map Slot.val, iv sp, sv (.tuple (kW kn))] x5' (.tuple [.tuple [.int 1, .bool true], .tuple [.int 1, .bool false]])
  refine sqP (d' := [some (.par u6), iv m, iv a3, sv (.tuple (kW ps)), x4'.map Slot.val, x5'.map Slot.val, sv (.list ww), iv l, iv hh, iv t, sv (.list pwl), x11.map Slot.val, x12.map Slot.val, x13.map Slot.val, iv sp, sv (.tuple (kW kn)), sv (.tuple [.tuple [.int 1, .bool true], .tuple [.int 1, .bool false]]), none, none, none, none]) ?_ ?_
  · unfold stC
    generalize kW ps = w at *
    generalize kW kn = w2 at *
    simp
  refine sqP (d' := [some (.par u6), iv m, iv a3, sv (.tuple (kW ps)), x4'.map Slot.val, x5'.map Slot.val, sv (.list ww), iv l, iv hh, iv t, sv (.list pwl), x11.map Slot.val, x12.map Slot.val, x13.map Slot.val, iv sp, sv (.tuple (kW kn)), sv (.tuple [.tuple [.int 1, .bool true], .tuple [.int 1, .bool false]]), sv (.list []), none, none, none]) ?_ ?_
  · generalize kW ps = w at *
    generalize kW kn = w2 at *
    simp
  refine sqP ew ?_
  refine retP (u := u6) (t := ([some (.par u6), iv m, iv a3, sv (.tuple (kW ps)), x4'.map Slot.val, x5'.map Slot.val, sv (.list ww), iv l, iv hh, iv t, sv (.list pwl), x11.map Slot.val, x12.map Slot.val, x13.map Slot.val, iv sp, sv (.tuple (kW kn)), sv (.tuple [.tuple [.int 1, .bool true], .tuple [.int 1, .bool false]]), sv (.list (List.replicate 8 oor)), x18.map Slot.val, none, none]).tail) ?_ (D6.mono (by omega))
  have v17 : ∀ d : SD, d[17]? = some (sv (.list (List.replicate 8 oor))) → mVar 17 d = .ok (.list (List.replicate 8 oor)) d := fun d h => by rw [ev_var, h]
  rw [ev_ret, ev_bin, v17 _ rfl, Out.bind_ok]
  have := fun d => rep_str "OutOfRange" 8 (by omega) d
  erw [this]
  rw [Out.bind_ok, eq_strs _ oor_ok]
  rfl
end K48
end
section
set_option Elab.async false
set_option linter.all false
set_option maxRecDepth 100000
set_option maxHeartbeats 8000000
set_option exponentiation.threshold 100000
namespace K48
open Qd PySem L2
theorem prs_succ (a : Nat → Nat) (n : Nat) : prs a (n + 1) = prs a n ++ [pr (a n) (n + 1)] := by unfold prs; rw [List.range_succ, List.map_append]; rfl
theorem prs_len (a : Nat → Nat) (n : Nat) : (prs a n).length = n := by unfold prs; simp
/-- the law's marks of one number of levels -/
theorem marksL_ev (o0 o1 : Option Slot) (n kd lo hi i : Nat) (x10 : Option W) (hi60 : i < 100) : ∃ y10 : Option W,
    mFor (mRng2 (mCons (mC (.int 1)) (mCons (mBin addW (mVar 8) (mC (.int 1))) mNil))) (store 10)
    (mDrop (mMeth "list" appendW 9 (mCons (mTup (mCons (mCallB max2W (mCons (mBin addW (mVar 4) (mSubOwn 6 (mBin subW (mVar 8) (mVar 10)))) (mCons (mBin addW (mVar 5) (mSubOwn 6 (mBin subW (mVar 10) (mC (.int 1))))) mNil))) (mCons (mVar 10) mNil))) mNil)))
      ([o0, o1, iv n, iv kd, iv lo, iv hi, some (.own (.list (natW (cs lo hi i)))), some (.own (.list (fiW lo hi i))), sv (.int (1 + (i : Int))), some (.own (.list [])), x10.map Slot.val, none, none, none, none, none, none, none, none]) =
    .next ([o0, o1, iv n, iv kd, iv lo, iv hi, some (.own (.list (natW (cs lo hi i)))), some (.own (.list (fiW lo hi i))), sv (.int (1 + (i : Int))), some (.own (.list (prs (U lo hi i) (i + 1)))), y10.map Slot.val, none, none, none, none, none, none, none, none]) := by
  have hr : range2? [.int 1, .int (1 + (i : Int) + 1)] = some (rangeW 1 (i + 1)) := range2_of (by omega) (by omega) (by omega) (by omega) (by omega)
  obtain ⟨d', e1, y10, rfl⟩ := forD_range (g := store 10) (b := (mDrop (mMeth "list" appendW 9 (mCons (mTup (mCons (mCallB max2W (mCons (mBin addW (mVar 4) (mSubOwn 6 (mBin subW (mVar 8) (mVar 10)))) (mCons (mBin addW (mVar 5) (mSubOwn 6 (mBin subW (mVar 10) (mC (.int 1))))) mNil))) (mCons (mVar 10) mNil))) mNil))))
    (fun j d => ∃ y10 : Option W, d = [o0, o1, iv n, iv kd, iv lo, iv hi, some (.own (.list (natW (cs lo hi i)))), some (.own (.list (fiW lo hi i))), sv (.int (1 + (i : Int))), some (.own (.list (prs (U lo hi i) j))), y10.map Slot.val, none, none, none, none, none, none, none, none]) 1 (i + 1) 0
    ([o0, o1, iv n, iv kd, iv lo, iv hi, some (.own (.list (natW (cs lo hi i)))), some (.own (.list (fiW lo hi i))), sv (.int (1 + (i : Int))), some (.own (.list [])), x10.map Slot.val, none, none, none, none, none, none, none, none]) ⟨x10, rfl⟩ (by
      rintro j d _ hj ⟨y10, rfl⟩
      have g1 : atI (natW (cs lo hi i)) (1 + (i : Int) - (1 + (j : Int))) = some (.int ((C lo hi (i - j) : Nat) : Int)) := by
        rw [natW_get (i := i - j) (by omega) (by rw [cs_len]; omega), cs_get (by omega)]
      have g2 : atI (natW (cs lo hi i)) (1 + (j : Int) - 1) = some (.int ((C lo hi j : Nat) : Int)) := by
        rw [natW_get (i := j) (by omega) (by rw [cs_len]; omega), cs_get (by omega)]
      have g3 := max2_nat (lo + C lo hi (i - j)) (hi + C lo hi j)
      have l1 : (prs (U lo hi i) j).length < sizeLine := lt_line (by rw [prs_len]; omega)
      refine ⟨[o0, o1, iv n, iv kd, iv lo, iv hi, some (.own (.list (natW (cs lo hi i)))), some (.own (.list (fiW lo hi i))), sv (.int (1 + (i : Int))), some (.own (.list (prs (U lo hi i) j))), sv (.int (1 + (j : Int))), none, none, none, none, none, none, none, none], [o0, o1, iv n, iv kd, iv lo, iv hi, some (.own (.list (natW (cs lo hi i)))), some (.own (.list (fiW lo hi i))), sv (.int (1 + (i : Int))), some (.own (.list (prs (U lo hi i) (j + 1)))), sv (.int (1 + (j : Int))), none, none, none, none, none, none, none, none], by cases y10 <;> simp, .inl ?_, some _, rfl⟩
      rw [prs_succ, show pr (U lo hi i j) (j + 1) = .tuple [.int ((max (lo + C lo hi (i - j)) (hi + C lo hi j) : Nat) : Int), .int (1 + (j : Int))] from by
        show PyData.tuple [_, _] = _
        rw [show ((j + 1 : Nat) : Int) = 1 + (j : Int) by omega]
        rfl]
      generalize prs (U lo hi i) j = pl at *
      generalize natW (cs lo hi i) = cw at *
      generalize fiW lo hi i = fw at *
      push_cast at g1 g2 g3
      simp [g1, g2, g3, l1])
  refine ⟨y10, ?_⟩
  rw [ev_for]
  rw [Nat.zero_add] at e1
  have : mRng2 (mCons (mC (.int 1)) (mCons (mBin addW (mVar 8) (mC (.int 1))) mNil)) ([o0, o1, iv n, iv kd, iv lo, iv hi, some (.own (.list (natW (cs lo hi i)))), some (.own (.list (fiW lo hi i))), sv (.int (1 + (i : Int))), some (.own (.list [])), x10.map Slot.val, none, none, none, none, none, none, none, none]) =
      .ok (rangeW 1 (i + 1)) ([o0, o1, iv n, iv kd, iv lo, iv hi, some (.own (.list (natW (cs lo hi i)))), some (.own (.list (fiW lo hi i))), sv (.int (1 + (i : Int))), some (.own (.list [])), x10.map Slot.val, none, none, none, none, none, none, none, none]) := by simp [hr]
  rw [this]
  exact e1
noncomputable def bodyL : MS := (mSeq (mAsgOwn 9 (mLst mNil))
    (mSeq (mFor (mRng2 (mCons (mC (.int 1)) (mCons (mBin addW (mVar 8) (mC (.int 1))) mNil))) (store 10)
    (mDrop (mMeth "list" appendW 9 (mCons (mTup (mCons (mCallB max2W (mCons (mBin addW (mVar 4) (mSubOwn 6 (mBin subW (mVar 8) (mVar 10)))) (mCons (mBin addW (mVar 5) (mSubOwn 6 (mBin subW (mVar 10) (mC (.int 1))))) mNil))) (mCons (mVar 10) mNil))) mNil))))
    (mFrzS [9] (mSeq (mDrop (mMeth "list" appendW 6 (mCons (mBin ixW (mCallB minW (mCons (mVar 9) mNil)) (mC (.int 0))) mNil)))
    (mDrop (mMeth "list" appendW 7 (mCons (mBin ixW (mCallB minW (mCons (mVar 9) mNil)) (mC (.int 1))) mNil)))))))
abbrev stL (o0 o1 : Option Slot) (n kd lo hi i : Nat) (x8 x9 x10 : Option W) : SD := [o0, o1, iv n, iv kd, iv lo, iv hi, some (.own (.list (natW (cs lo hi i)))), some (.own (.list (fiW lo hi i))), x8.map Slot.val, x9.map Slot.val, x10.map Slot.val, none, none, none, none, none, none, none, none]
theorem tabL_ev (o0 o1 : Option Slot) (n kd lo hi : Nat) (hn : n ≤ 60) : ∃ x8 x9 x10 : Option W, mFor (mRng2 (mCons (mC (.int 1)) (mCons (mBin addW (mVar 2) (mC (.int 1))) mNil))) (store 8) bodyL (stL o0 o1 n kd lo hi 0 none none none) = .next (stL o0 o1 n kd lo hi n x8 x9 x10) := by
  have hr : range2? [.int 1, .int ((n : Int) + 1)] = some (rangeW 1 n) := range2_of (by omega) (by omega) (by omega) (by omega) (by omega)
  obtain ⟨d', e1, x8, x9, x10, rfl⟩ := forD_range (g := store 8) (b := bodyL) (fun i d => ∃ x8 x9 x10 : Option W, d = stL o0 o1 n kd lo hi i x8 x9 x10) 1 n 0 (stL o0 o1 n kd lo hi 0 none none none) ⟨none, none, none, rfl⟩ (by
    rintro i d _ hi2 ⟨x8, x9, x10, rfl⟩
    obtain ⟨y10, em⟩ := marksL_ev o0 o1 n kd lo hi i x10 (by omega)
    have l1 : (natW (cs lo hi i)).length < sizeLine := lt_line (by rw [natW_len, cs_len]; omega)
    have l2 : (fiW lo hi i).length < sizeLine := lt_line (by rw [fiW_len]; omega)
    have mn := U_min lo hi i
    refine ⟨stL o0 o1 n kd lo hi i (some (.int (1 + (i : Int)))) x9 x10, stL o0 o1 n kd lo hi (i + 1) (some (.int (1 + (i : Int)))) (some (.list (prs (U lo hi i) (i + 1)))) y10, by cases x8 <;> simp, .inl ?_, _, _, _, rfl⟩
    unfold bodyL
    refine sqR (d' := [o0, o1, iv n, iv kd, iv lo, iv hi, some (.own (.list (natW (cs lo hi i)))), some (.own (.list (fiW lo hi i))), sv (.int (1 + (i : Int))), some (.own (.list [])), x10.map Slot.val, none, none, none, none, none, none, none, none]) (by cases x9 <;> simp) ?_
    refine sqR em ?_
    unfold stL
    rw [cs_succ, fiW_succ, natW_app]
    generalize prs (U lo hi i) (i + 1) = ps at *
    generalize natW (cs lo hi i) = cw at *
    generalize fiW lo hi i = fw at *
    refine frzR (by simp; exact rfl) ?_
    refine sqR (by simp [mn, l1, atI, ixN]; exact rfl) ?_
    simp [mn, l2, atI, ixN])
  refine ⟨x8, x9, x10, ?_⟩
  rw [ev_for]
  rw [Nat.zero_add] at e1
  have : mRng2 (mCons (mC (.int 1)) (mCons (mBin addW (mVar 2) (mC (.int 1))) mNil)) (stL o0 o1 n kd lo hi 0 none none none) = .ok (rangeW 1 n) (stL o0 o1 n kd lo hi 0 none none none) := by simp [hr]
  rw [this]
  exact e1
end K48
namespace K48
open Qd PySem L2
theorem rev_ev (r : List (Option Slot)) (n lo hi : Nat) (hn : n ≤ 60) (o7 o8 o9 o10 o11 : Option Slot) (o0 o1 o3 o4 o5 : Option Slot) :
    mLc [15] (mRng2 (mCons (mC (.int 1)) (mCons (mBin addW (mVar 2) (mC (.int 1))) mNil))) (store 15) (mTest (mBin ltW (mBin ixW (mVar 6) (mVar 15)) (mBin ixW (mVar 6) (mBin subW (mVar 15) (mC (.int 1)))))) (mVar 15)
      ([o0, o1, iv n, o3, o4, o5, sv (.list (natW (cs lo hi n))), o7, o8, o9, o10, o11, none, none, none, none, none, none, none]) = .ok (.list []) ([o0, o1, iv n, o3, o4, o5, sv (.list (natW (cs lo hi n))), o7, o8, o9, o10, o11, none, none, none, none, none, none, none]) := by
  have hr : range2? [.int 1, .int ((n : Int) + 1)] = some (rangeW 1 n) := range2_of (by omega) (by omega) (by omega) (by omega) (by omega)
  have := mLc_of (vs := [15]) (it := mRng2 (mCons (mC (.int 1)) (mCons (mBin addW (mVar 2) (mC (.int 1))) mNil))) (g := store 15) (t := mTest (mBin ltW (mBin ixW (mVar 6) (mVar 15)) (mBin ixW (mVar 6) (mBin subW (mVar 15) (mC (.int 1)))))) (e := mVar 15)
    (d := [o0, o1, iv n, o3, o4, o5, sv (.list (natW (cs lo hi n))), o7, o8, o9, o10, o11, none, none, none, none, none, none, none]) (d' := [o0, o1, iv n, o3, o4, o5, sv (.list (natW (cs lo hi n))), o7, o8, o9, o10, o11, none, none, none, none, none, none, none])
    (List.range n) (fun (j : Nat) => PyData.int (1 + (j : Int))) (fun _ => .none) (fun _ => false) (by generalize natW (cs lo hi n) = cw; simp [hr, rangeW_map]) (by simp) (le_line (by simp; omega)) (fun j hj => by
      have hj := List.mem_range.mp hj
      have g1 : atI (natW (cs lo hi n)) (1 + (j : Int)) = some (.int ((C lo hi (j + 1) : Nat) : Int)) := by
        rw [natW_get (i := j + 1) (by omega) (by rw [cs_len]; omega), cs_get (by omega)]
      have g2 : atI (natW (cs lo hi n)) (1 + (j : Int) - 1) = some (.int ((C lo hi j : Nat) : Int)) := by
        rw [natW_get (i := j) (by omega) (by rw [cs_len]; omega), cs_get (by omega)]
      have st := C_step (lo := lo) (hi := hi) j
      generalize natW (cs lo hi n) = cw at *
      exact ⟨[o0, o1, iv n, o3, o4, o5, sv (.list cw), o7, o8, o9, o10, o11, none, none, none, sv (.int (1 + (j : Int))), none, none, none], [o0, o1, iv n, o3, o4, o5, sv (.list cw), o7, o8, o9, o10, o11, none, none, none, sv (.int (1 + (j : Int))), none, none, none], by simp, by simp [g1, g2]; omega, fun z => Bool.noConfusion z, fun _ => by simp⟩)
  rw [this]
  simp
def P7 : List W := [.int 1, .int 2, .int 4, .int 8, .int 16, .int 32, .int 64]
theorem P7_get {k : Nat} (h : k < 7) : atI P7 (0 + (k : Int)) = some (.int ((2 ^ k : Nat) : Int)) := by
  rw [show (0 : Int) + (k : Int) = ((k : Nat) : Int) by omega]
  refine atI_nat ?_
  match k, h with
  | 0, _ => rfl
  | 1, _ => rfl
  | 2, _ => rfl
  | 3, _ => rfl
  | 4, _ => rfl
  | 5, _ => rfl
  | 6, _ => rfl
theorem one_ev (n : Nat) (hn : n ≤ 60) (o0 o1 o3 o4 o5 o6 o7 o8 o9 o10 o11 : Option Slot) : ∃ r : List W,
    mLc [15] (mRng1 (mCons (mC (.int 7)) mNil)) (store 15) (mTest (mBin gtW (mBin ixW (mVar 12) (mVar 15)) (mVar 2))) (mVar 15)
      ([o0, o1, iv n, o3, o4, o5, o6, o7, o8, o9, o10, o11, sv (.list P7), none, none, none, none, none, none]) = .ok (.list (.int ((C 1 1 n : Nat) : Int) :: r)) ([o0, o1, iv n, o3, o4, o5, o6, o7, o8, o9, o10, o11, sv (.list P7), none, none, none, none, none, none]) := by
  have hr : range1? [.int 7] = some (rangeW 0 7) := range1_of (by omega) (by omega) (by omega)
  have hc := C_one n (by omega)
  obtain ⟨r, hf⟩ : ∃ r, ((List.range 7).filter fun k => decide (n < 2 ^ k)) = C 1 1 n :: r := by
    rw [hc]
    have hm : 6 ∈ (List.range 7).filter fun k => decide (n < 2 ^ k) := by
      rw [List.mem_filter]
      exact ⟨by decide, decide_eq_true (by omega)⟩
    cases h : (List.range 7).filter fun k => decide (n < 2 ^ k) with
    | nil => rw [h] at hm; cases hm
    | cons a l => exact ⟨l, rfl⟩
  refine ⟨r.map fun (k : Nat) => PyData.int (0 + (k : Int)), ?_⟩
  have := mLc_of (vs := [15]) (it := mRng1 (mCons (mC (.int 7)) mNil)) (g := store 15) (t := mTest (mBin gtW (mBin ixW (mVar 12) (mVar 15)) (mVar 2))) (e := mVar 15)
    (d := [o0, o1, iv n, o3, o4, o5, o6, o7, o8, o9, o10, o11, sv (.list P7), none, none, none, none, none, none]) (d' := [o0, o1, iv n, o3, o4, o5, o6, o7, o8, o9, o10, o11, sv (.list P7), none, none, none, none, none, none])
    (List.range 7) (fun (k : Nat) => PyData.int (0 + (k : Int))) (fun (k : Nat) => PyData.int (0 + (k : Int))) (fun k => decide (n < 2 ^ k)) (by simp only [ev_rng1, ev_cons, ev_c, Out.bind_ok, ev_nil, hr, ofOpt_some, rangeW_map]) (by simp) (le_line (by simp)) (fun k hk => by
      have hk := List.mem_range.mp hk
      have g := P7_get hk
      rw [Int.zero_add] at g
      have hc : decide (n < 2 ^ k) = decide (((2 ^ k : Nat) : Int) > (n : Int)) := by
        congr 1
        rw [eq_iff_iff]
        omega
      rw [hc]
      generalize 2 ^ k = q at *
      generalize P7 = pl at *
      exact ⟨[o0, o1, iv n, o3, o4, o5, o6, o7, o8, o9, o10, o11, sv (.list pl), none, none, sv (.int (0 + (k : Int))), none, none, none], [o0, o1, iv n, o3, o4, o5, o6, o7, o8, o9, o10, o11, sv (.list pl), none, none, sv (.int (0 + (k : Int))), none, none, none], by simp, by simp [g], fun _ => ⟨[o0, o1, iv n, o3, o4, o5, o6, o7, o8, o9, o10, o11, sv (.list pl), none, none, sv (.int (0 + (k : Int))), none, none, none], by simp, by simp⟩, fun _ => by simp⟩)
  rw [this, hf]
  simp
/-! ### six triples out of the range -/
def six : List (Int × Int × Int) := [(-1, 0, 0), (61, 0, 0), (5, -1, 0), (5, 101, 0), (5, 0, -1), (5, 0, 101)]
theorem six_out : ∀ t ∈ six, ¬ (0 ≤ t.1 ∧ t.1 ≤ 60) ∨ ¬ (0 ≤ t.2.1 ∧ t.2.1 ≤ 100) ∨ ¬ (0 ≤ t.2.2 ∧ t.2.2 ≤ 100) := by decide
abbrev t3 (t : Int × Int × Int) : W := .tuple [.int t.1, .int t.2.1, .int t.2.2]
abbrev stW (r : List (Option Slot)) (n : Nat) (x14 : Option Slot) : SD := [r.getD 0 none, r.getD 1 none, r.getD 2 none, r.getD 3 none, r.getD 4 none, r.getD 5 none, r.getD 6 none, r.getD 7 none, r.getD 8 none, r.getD 9 none, r.getD 10 none, r.getD 11 none, r.getD 12 none, sv (.list (List.replicate n oor)), x14, none, none, none, none]
theorem sixes_ev (r : List (Option Slot)) (n : Nat) (z : Int) (hz : z = 4 ∨ z = 5) : mLc [16, 17, 18] (mItS (mLst (mCons (mTup (mCons (mUn negW (mC (.int 1))) (mCons (mC (.int 0)) (mCons (mC (.int 0)) mNil)))) (mCons (mTup (mCons (mC (.int 61)) (mCons (mC (.int 0)) (mCons (mC (.int 0)) mNil)))) (mCons (mTup (mCons (mC (.int 5)) (mCons (mUn negW (mC (.int 1))) (mCons (mC (.int 0)) mNil)))) (mCons (mTup (mCons (mC (.int 5)) (mCons (mC (.int 101)) (mCons (mC (.int 0)) mNil)))) (mCons (mTup (mCons (mC (.int 5)) (mCons (mC (.int 0)) (mCons (mUn negW (mC (.int 1))) mNil)))) (mCons (mTup (mCons (mC (.int 5)) (mCons (mC (.int 0)) (mCons (mC (.int 101)) mNil)))) mNil)))))))) (gTupW 3 (gsCons (store 16) (gsCons (store 17) (gsCons (store 18) gsNil)))) mYes (mCallV F__law_asked (mCons (mVar 14) (mCons (mVar 16) (mCons (mVar 17) (mCons (mVar 18) mNil))))) (stW r n (sv (.int z))) =
    .ok (.list (List.replicate 6 oor)) (stW r n (sv (.int z))) := by
  refine mLc_all six t3 (fun _ => oor) (by generalize List.replicate n oor = l; simp [six]) (by simp) (le_line (by decide)) fun t ht => ?_
  have ho := six_out t ht
  have wz : F__law_asked [.int z, .int t.1, .int t.2.1, .int t.2.2] = .ok (.val oor) := by
    rcases hz with rfl | rfl
    · exact xs4 (x_worst_cost _ _ _ ho)
    · exact xs5 (x_told_level _ _ _ ho)
  generalize hl : List.replicate n oor = l
  refine ⟨[r.getD 0 none, r.getD 1 none, r.getD 2 none, r.getD 3 none, r.getD 4 none, r.getD 5 none, r.getD 6 none, r.getD 7 none, r.getD 8 none, r.getD 9 none, r.getD 10 none, r.getD 11 none, r.getD 12 none, sv (.list l), sv (.int z), none, sv (.int t.1), sv (.int t.2.1), sv (.int t.2.2)], _, [r.getD 0 none, r.getD 1 none, r.getD 2 none, r.getD 3 none, r.getD 4 none, r.getD 5 none, r.getD 6 none, r.getD 7 none, r.getD 8 none, r.getD 9 none, r.getD 10 none, r.getD 11 none, r.getD 12 none, sv (.list l), sv (.int z), none, sv (.int t.1), sv (.int t.2.1), sv (.int t.2.2)], by simp [hl], rfl, by simp [wz], by simp [hl]⟩
end K48
end
section
set_option Elab.async false
set_option linter.all false
set_option maxRecDepth 100000
set_option maxHeartbeats 8000000
set_option exponentiation.threshold 100000
namespace K48
open Qd PySem L2
theorem sqYx {a b : MS} {d : SD} {P : SD → Prop} (h : ∃ d', a d = .next d' ∧ P d') (z : ∀ d', P d' → Yes (b d')) : Yes (mSeq a b d) := by
  obtain ⟨d', e, p⟩ := h
  exact sqE e (z d' p)
theorem fi_self (lo hi n : Nat) : neW (FiN lo hi n) (FiN lo hi n) = some (.bool false) := ne_self (lv_ok (k := 0) (by omega) (by cases n <;> exact trivial))
theorem law_yes (ns : List Int) (hl : ns.length ≤ 63) : Yes (m_law (sdV 19 [.list (ns.map PyData.int)])) := by
  obtain ⟨u0, eo, D0⟩ := dr_open ns hl
  obtain ⟨u1, ep, D1⟩ := runP_of (places 0 u0 D0 (by omega))
  have ep : F__law_places u0 [] = .ok (.val (.bool true)) u1 := ep
  obtain ⟨b1, u2, hb1, D2, e1⟩ := e_draw 30 u1 2 D1 (by omega) (by omega) (by omega)
  change F__law_draw u1 [.int 2] = _ at e1
  have hG : ∃ G : Nat, 0 < G ∧ G ≤ 61 ∧ atI [PyData.int 9, PyData.int 61] (b1 : Int) = some (.int G) := by
    match b1, hb1 with
    | 0, _ => exact ⟨9, by omega, by omega, rfl⟩
    | 1, _ => exact ⟨61, by omega, by omega, rfl⟩
  obtain ⟨G, hG1, hG2, hG3⟩ := hG
  obtain ⟨n, u3, hn, D3, e2⟩ := e_draw 31 u2 G D2 (by omega) (by omega) (by omega)
  obtain ⟨kd, u4, hkd, D4, e3⟩ := e_draw 32 u3 4 D3 (by omega) (by omega) (by omega)
  change F__law_draw u3 [.int 4] = _ at e3
  obtain ⟨c1, u5, hc1, D5, f1⟩ := e_draw 33 u4 6 D4 (by omega) (by omega) (by omega)
  obtain ⟨c2, u6, hc2, D6, f2⟩ := e_draw 34 u5 101 D5 (by omega) (by omega) (by omega)
  obtain ⟨c3, u7, hc3, D7, f3⟩ := e_draw 35 u6 40 D6 (by omega) (by omega) (by omega)
  obtain ⟨c4, u8, hc4, D8, f4⟩ := e_draw 36 u7 101 D7 (by omega) (by omega) (by omega)
  obtain ⟨c5, u9, hc5, D9, f5⟩ := e_draw 37 u8 101 D8 (by omega) (by omega) (by omega)
  change F__law_draw u4 [.int 6] = _ at f1
  change F__law_draw u5 [.int 101] = _ at f2
  change F__law_draw u6 [.int 40] = _ at f3
  change F__law_draw u7 [.int 101] = _ at f4
  change F__law_draw u8 [.int 101] = _ at f5
  obtain ⟨lo, hLo, L1, L2, L3⟩ : ∃ lo : Nat, lo ≤ 100 ∧ atI [PyData.int c1, PyData.int c2, PyData.int 1, PyData.int 0] (kd : Int) = some (.int lo) ∧ (kd = 2 → lo = 1) ∧ (kd = 3 → lo = 0) := by
    match kd, hkd with
    | 0, _ => exact ⟨c1, by omega, rfl, by omega, by omega⟩
    | 1, _ => exact ⟨c2, by omega, rfl, by omega, by omega⟩
    | 2, _ => exact ⟨1, by omega, rfl, by omega, by omega⟩
    | 3, _ => exact ⟨0, by omega, rfl, by omega, by omega⟩
  obtain ⟨hi, hHi, M1, M2⟩ : ∃ hi : Nat, hi ≤ 100 ∧ atI [PyData.int c3, PyData.int c4, PyData.int 1, PyData.int c5] (kd : Int) = some (.int hi) ∧ (kd = 2 → hi = 1) := by
    match kd, hkd with
    | 0, _ => exact ⟨c3, by omega, rfl, by omega⟩
    | 1, _ => exact ⟨c4, by omega, rfl, by omega⟩
    | 2, _ => exact ⟨1, by omega, rfl, by omega⟩
    | 3, _ => exact ⟨c5, by omega, rfl, by omega⟩
  have hn60 : n ≤ 60 := by omega
  clear D0 D1 D2 D3 D4 D5 D6 D7 D8 D9
  generalize hsc : PyData.list (ns.map PyData.int) = sc at *
  unfold m_law
  rw [show sdV 19 [sc] = [sv sc, none, none, none, none, none, none, none, none, none, none, none, none, none, none, none, none, none, none] from rfl]
  refine sqE (d' := [sv sc, some (.own u0), none, none, none, none, none, none, none, none, none, none, none, none, none, none, none, none, none]) (by simp [eo]) ?_
  refine sqE (d' := [sv sc, some (.own u1), none, none, none, none, none, none, none, none, none, none, none, none, none, none, none, none, none]) (by simp [ep]) ?_
  refine sqE (d' := [sv sc, some (.own u4), iv n, iv kd, none, none, none, none, none, none, none, none, none, none, none, none, none, none, none]) (by simp [e1, hG3, e2, e3]) ?_
  refine sqE (d' := [sv sc, some (.own u9), iv n, iv kd, iv lo, iv hi, none, none, none, none, none, none, none, none, none, none, none, none, none]) (by simp [f1, f2, f3, f4, f5, L1, M1]) ?_
  refine frzE (d' := [sv sc, sv u9, iv n, iv kd, iv lo, iv hi, none, none, none, none, none, none, none, none, none, none, none, none, none]) (by simp) ?_
  refine sqE (d' := stL (sv sc) (sv u9) n kd lo hi 0 none none none) (by
    have z1 : natW (cs lo hi 0) = [.int 0] := rfl
    have z2 : fiW lo hi 0 = [.none] := rfl
    unfold stL
    rw [z1, z2]
    simp) ?_
  obtain ⟨x8, x9, x10, et⟩ := tabL_ev (sv sc) (sv u9) n kd lo hi hn60
  refine sqE et ?_
  refine frzE (d' := [sv sc, sv u9, iv n, iv kd, iv lo, iv hi, sv (.list (natW (cs lo hi n))), sv (.list (fiW lo hi n)), x8.map Slot.val, x9.map Slot.val, x10.map Slot.val, none, none, none, none, none, none, none, none]) (by
    unfold stL
    generalize natW (cs lo hi n) = cw at *
    generalize fiW lo hi n = fw at *
    cases x9 <;> simp) ?_
  have q4 := as4 (e_worst_cost n lo hi hn60 hLo hHi)
  have q5 := as5 (e_told_level n lo hi hn60 hLo hHi)
  have g6 : atI (natW (cs lo hi n)) (n : Int) = some (.int ((C lo hi n : Nat) : Int)) := by rw [natW_get (i := n) rfl (by rw [cs_len]; omega), cs_get (Nat.le_refl _)]
  have g7 : atI (fiW lo hi n) (n : Int) = some (FiN lo hi n) := fiW_get
  have ic := e_int (C lo hi n)
  have nf := fi_self lo hi n
  have rv := rev_ev [] n lo hi hn60 (sv (.list (fiW lo hi n))) (x8.map Slot.val) (x9.map Slot.val) (x10.map Slot.val) (iv (C lo hi n)) (sv sc) (sv u9) (iv kd) (iv lo) (iv hi)
  have nn : neW (.list []) (.list []) = some (.bool false) := ne_self (lv_ok (k := 1) (by omega) (by intro d hd; cases hd))
  have m1 : 0 < lo → C (lo - 1) hi n ≤ C lo hi n := fun z => C_mono (by omega) (Nat.le_refl _) n n (Nat.le_refl _)
  have m2 : 0 < hi → C lo (hi - 1) n ≤ C lo hi n := fun z => C_mono (Nat.le_refl _) (by omega) n n (Nat.le_refl _)
  have w1 : 0 < lo → F_worst_cost [.int n, .int ((lo : Int) - 1), .int hi] = .ok (.val (.int ((C (lo - 1) hi n : Nat) : Int))) := fun z => by
    rw [show (lo : Int) - 1 = ((lo - 1 : Nat) : Int) by omega]
    exact e_worst_cost n (lo - 1) hi hn60 (by omega) hHi
  have w2 : 0 < hi → F_worst_cost [.int n, .int lo, .int ((hi : Int) - 1)] = .ok (.val (.int ((C lo (hi - 1) n : Nat) : Int))) := fun z => by
    rw [show (hi : Int) - 1 = ((hi - 1 : Nat) : Int) by omega]
    exact e_worst_cost n lo (hi - 1) hn60 hLo (by omega)
  have k2 : kd = 2 → C lo hi n = C 1 1 n := fun z => by rw [L2 z, M2 z]
  have k3 : kd = 3 → 0 < n → C lo hi n = hi := fun z zn => by
    rw [L3 z]
    obtain ⟨m, rfl⟩ : ∃ m, n = m + 1 := ⟨n - 1, by omega⟩
    exact C_free hi m m (Nat.le_refl _)
  generalize hcn : C lo hi n = c at *
  generalize natW (cs lo hi n) = cw at *
  generalize fiW lo hi n = fw at *
  generalize FiN lo hi n = fn at *
  refine sqE (d' := [sv sc, sv u9, iv n, iv kd, iv lo, iv hi, sv (.list cw), sv (.list fw), x8.map Slot.val, x9.map Slot.val, x10.map Slot.val, iv c, none, none, none, none, none, none, none]) (by simp [q4]) ?_
  refine sqE (d' := [sv sc, sv u9, iv n, iv kd, iv lo, iv hi, sv (.list cw), sv (.list fw), x8.map Slot.val, x9.map Slot.val, x10.map Slot.val, iv c, none, none, none, none, none, none, none]) (by simp [g6, ic, q5, g7, nf]) ?_
  refine sqE (d' := [sv sc, sv u9, iv n, iv kd, iv lo, iv hi, sv (.list cw), sv (.list fw), x8.map Slot.val, x9.map Slot.val, x10.map Slot.val, iv c, none, none, none, none, none, none, none]) (by simp [rv, nn, -ev_lc]) ?_
  have at0 : ∀ (w : W) (r : List W), atI (w :: r) 0 = some w := fun w r => by
    have : atI (w :: r) ((0 : Nat) : Int) = some w := atI_nat rfl
    exact this
  refine sqYx (P := fun d' => ∃ x12 : Option W, d' = [sv sc, sv u9, iv n, iv kd, iv lo, iv hi, sv (.list cw), sv (.list fw), x8.map Slot.val, x9.map Slot.val, x10.map Slot.val, iv c, x12.map Slot.val, none, none, none, none, none, none]) ?_ ?_
  · by_cases hk2 : kd = 2
    · obtain ⟨r, eo⟩ := one_ev n hn60 (sv sc) (sv u9) (iv kd) (iv lo) (iv hi) (sv (.list cw)) (sv (.list fw)) (x8.map Slot.val) (x9.map Slot.val) (x10.map Slot.val) (iv c)
      rw [← k2 hk2] at eo
      refine ⟨_, ?_, some (.list P7), rfl⟩
      rw [ev_if]
      have tst : mTest (mBin eqW (mVar 3) (mC (.int 2))) ([sv sc, sv u9, iv n, iv kd, iv lo, iv hi, sv (.list cw), sv (.list fw), x8.map Slot.val, x9.map Slot.val, x10.map Slot.val, iv c, none, none, none, none, none, none, none]) = .ok true ([sv sc, sv u9, iv n, iv kd, iv lo, iv hi, sv (.list cw), sv (.list fw), x8.map Slot.val, x9.map Slot.val, x10.map Slot.val, iv c, none, none, none, none, none, none, none]) := by
        simp [show (kd : Int) = 2 by omega]
      rw [tst, Out.toS_ok, if_pos rfl]
      refine sqR (d' := [sv sc, sv u9, iv n, iv kd, iv lo, iv hi, sv (.list cw), sv (.list fw), x8.map Slot.val, x9.map Slot.val, x10.map Slot.val, iv c, sv (.list P7), none, none, none, none, none, none]) (by unfold P7; simp) ?_
      generalize P7 = pl at *
      simp [eo, at0, -ev_lc]
    · exact ⟨[sv sc, sv u9, iv n, iv kd, iv lo, iv hi, sv (.list cw), sv (.list fw), x8.map Slot.val, x9.map Slot.val, x10.map Slot.val, iv c, none, none, none, none, none, none, none], by simp [show ¬ (kd : Int) = 2 by omega], none, rfl⟩
  rintro _ ⟨x12, rfl⟩
  refine sqE (d' := [sv sc, sv u9, iv n, iv kd, iv lo, iv hi, sv (.list cw), sv (.list fw), x8.map Slot.val, x9.map Slot.val, x10.map Slot.val, iv c, x12.map Slot.val, none, none, none, none, none, none]) ?_ ?_
  · by_cases hk3 : kd = 3
    · by_cases hn0 : 0 < n
      · have := k3 hk3 hn0
        subst this
        simp [show (kd : Int) = 3 by omega, hn0]
      · simp [show (kd : Int) = 3 by omega, hn0]
    · simp [show ¬ (kd : Int) = 3 by omega]
  refine sqE (d' := [sv sc, sv u9, iv n, iv kd, iv lo, iv hi, sv (.list cw), sv (.list fw), x8.map Slot.val, x9.map Slot.val, x10.map Slot.val, iv c, x12.map Slot.val, none, none, none, none, none, none]) ?_ ?_
  · by_cases z1 : 0 < lo
    · have a1 := m1 z1
      by_cases z2 : 0 < hi
      · have a2 := m2 z2
        simp [z1, z2, w1 z1, w2 z2, show ¬ c < C (lo - 1) hi n by omega, show ¬ c < C lo (hi - 1) n by omega]
      · simp [z1, z2, w1 z1, show ¬ c < C (lo - 1) hi n by omega]
    · by_cases z2 : 0 < hi
      · have a2 := m2 z2
        simp [z1, z2, w2 z2, show ¬ c < C lo (hi - 1) n by omega]
      · simp [z1, z2]
  refine sqE (d' := stW [sv sc, sv u9, iv n, iv kd, iv lo, iv hi, sv (.list cw), sv (.list fw), x8.map Slot.val, x9.map Slot.val, x10.map Slot.val, iv c, x12.map Slot.val] 0 none) (by unfold stW; rw [show List.replicate 0 oor = [] from rfl]; simp) ?_
  generalize hrr : [sv sc, sv u9, iv n, iv kd, iv lo, iv hi, sv (.list cw), sv (.list fw), x8.map Slot.val, x9.map Slot.val, x10.map Slot.val, iv c, x12.map Slot.val] = rr
  have step : ∀ (k : Nat) (z : Int) (x14 : Option W), z = 4 ∨ z = 5 → k ≤ 12 → mAsg (store 13) (mBin addW (mVar 13) (mLc [16, 17, 18] (mItS (mLst (mCons (mTup (mCons (mUn negW (mC (.int 1))) (mCons (mC (.int 0)) (mCons (mC (.int 0)) mNil)))) (mCons (mTup (mCons (mC (.int 61)) (mCons (mC (.int 0)) (mCons (mC (.int 0)) mNil)))) (mCons (mTup (mCons (mC (.int 5)) (mCons (mUn negW (mC (.int 1))) (mCons (mC (.int 0)) mNil)))) (mCons (mTup (mCons (mC (.int 5)) (mCons (mC (.int 101)) (mCons (mC (.int 0)) mNil)))) (mCons (mTup (mCons (mC (.int 5)) (mCons (mC (.int 0)) (mCons (mUn negW (mC (.int 1))) mNil)))) (mCons (mTup (mCons (mC (.int 5)) (mCons (mC (.int 0)) (mCons (mC (.int 101)) mNil)))) mNil)))))))) (gTupW 3 (gsCons (store 16) (gsCons (store 17) (gsCons (store 18) gsNil)))) mYes (mCallV F__law_asked (mCons (mVar 14) (mCons (mVar 16) (mCons (mVar 17) (mCons (mVar 18) mNil))))))) (stW rr k (sv (.int z))) = .next (stW rr (k + 6) (sv (.int z))) := fun k z x14 hz hk => by
    have es := sixes_ev rr k z hz
    have ad := add_list (xs := List.replicate k oor) (ys := List.replicate 6 oor) (by simp; omega)
    rw [List.replicate_append_replicate] at ad
    have v13 : mVar 13 (stW rr k (sv (.int z))) = .ok (.list (List.replicate k oor)) (stW rr k (sv (.int z))) := by rw [ev_var]; rfl
    rw [ev_asg, ev_bin, v13, Out.bind_ok, es, Out.bind_ok, ad]
    rfl
  have st14 : ∀ (k : Nat) (z : Int) (x14 : Option W), store 14 (.int z) (stW rr k (x14.map Slot.val)) = some (stW rr k (sv (.int z))) := fun k z x14 => by cases x14 <;> rfl
  refine sqE (d' := stW rr 12 (sv (.int 5))) ?_ ?_
  · rw [ev_for]
    have hi : mItS (mTup (mCons (mC (.int 4)) (mCons (mC (.int 5)) mNil))) (stW rr 0 none) = .ok [.int 4, .int 5] (stW rr 0 none) := rfl
    rw [hi, Out.toS_ok, forD_cons]
    have s1 := st14 0 4 none
    have s2 := st14 6 5 (some (.int 4))
    erw [s1]
    dsimp only
    rw [step 0 4 none (.inl rfl) (by omega)]
    dsimp only
    rw [forD_cons]
    erw [s2]
    dsimp only
    rw [step 6 5 none (.inr rfl) (by omega)]
    rfl
  have v13 : mVar 13 (stW rr 12 (sv (.int 5))) = .ok (.list (List.replicate 12 oor)) (stW rr 12 (sv (.int 5))) := by rw [ev_var]; rfl
  refine Exists.intro (stW rr 12 (sv (.int 5))) ?_
  rw [ev_ret, ev_bin, v13, Out.bind_ok]
  have := rep_str "OutOfRange" 12 (by omega) (stW rr 12 (sv (.int 5)))
  erw [this]
  rw [Out.bind_ok, eq_strs _ oor_ok]
  rfl
theorem law_true (ns : List Int) (hl : ns.length ≤ 63) : F_law [.list (ns.map PyData.int)] = .ok (.val (.bool true)) := by
  obtain ⟨d, h⟩ := law_yes ns hl
  unfold F_law runV
  rw [h]
end K48
end
namespace K48
open PySem PySem.Spec PyProof.Rows L2 L2H Qd
def TT (C0 C1 C2 C3 C4 C5 : Addr) : Nat → Value
  | 0 => .ref C0
  | 1 => .ref C1
  | 2 => .ref C2
  | 3 => .ref C3
  | 4 => .ref C4
  | 5 => .ref C5
  | _ => .none
def spLaw (K : PySem.W.Frag) : Sp := fun vs H Q _ => ∃ (a : Addr) (ns : List Int), vs = [.ref a] ∧ SqL K H a (ns.map V.int) ∧ ns.length ≤ 63 ∧ ∀ H', Q (.bl true) H'
theorem sp_law {K : PySem.W.Frag} {T : Nat → Value} (vs : List V) (H : Hp) (Q : VK) (E : XK) (h : spLaw K vs H Q E) : spV K T false F_law 1 vs H Q E := by
  obtain ⟨a, ns, rfl, hS, hl, q⟩ := h
  refine ⟨fun _ => False, [.list (ns.map PyData.int)], rfl, fun _ z => z.elim, .cons (.lst ?_ (RpA.of_ints ns)) .nil, ?_⟩
  · rcases hS with r | r
    · exact .inl ⟨fun z => z, r⟩
    · exact .inr (.inr r)
  · rw [law_true ns hl]
    intro H' v _ r
    cases r
    exact q H'
theorem all_mk {P : Program} {w : World} {K : PySem.W.Frag} {h : Heap} {mg : Str → Option Value} {fa : Addr} (X : K.In h) (G : h.Ns mainGlobals mg) (hfa : mg "law" = some (.ref fa))
    {C0 C1 C2 C3 C4 C5 a__law_open a_is_number a_are_results a_place_between a_fewest_tests a_told_mineral a_tables a_worst_cost a_told_level a__law_told a__law_asked a__law_mixed a__law_draw a__law_tests a__law_int a__law_places a_law : Addr} {od__law_open an__law_open od_is_number an_is_number od_are_results an_are_results od_place_between an_place_between od_fewest_tests an_fewest_tests od_told_mineral an_told_mineral od_tables an_tables od_worst_cost an_worst_cost od_told_level an_told_level od__law_told an__law_told od__law_asked an__law_asked od__law_mixed an__law_mixed od__law_draw an__law_draw od__law_tests an__law_tests od__law_int an__law_int od__law_places an__law_places od_law an_law : Option Addr} {sl__law_open sl_is_number sl_are_results sl_place_between sl_fewest_tests sl_told_mineral sl_tables sl_worst_cost sl_told_level sl__law_told sl__law_asked sl__law_mixed sl__law_draw sl__law_tests sl__law_int sl__law_places sl_law : Array (Option Value)} {oc__law_open kV__law_open dc__law_open pm__law_open cd__law_open ct__law_open oc_is_number kV_is_number dc_is_number pm_is_number cd_is_number ct_is_number oc_are_results kV_are_results dc_are_results pm_are_results cd_are_results ct_are_results oc_place_between kV_place_between dc_place_between pm_place_between cd_place_between ct_place_between oc_fewest_tests kV_fewest_tests dc_fewest_tests pm_fewest_tests cd_fewest_tests ct_fewest_tests oc_told_mineral kV_told_mineral dc_told_mineral pm_told_mineral cd_told_mineral ct_told_mineral oc_tables kV_tables dc_tables pm_tables cd_tables ct_tables oc_worst_cost kV_worst_cost dc_worst_cost pm_worst_cost cd_worst_cost ct_worst_cost oc_told_level kV_told_level dc_told_level pm_told_level cd_told_level ct_told_level oc__law_told kV__law_told dc__law_told pm__law_told cd__law_told ct__law_told oc__law_asked kV__law_asked dc__law_asked pm__law_asked cd__law_asked ct__law_asked oc__law_mixed kV__law_mixed dc__law_mixed pm__law_mixed cd__law_mixed ct__law_mixed oc__law_draw kV__law_draw dc__law_draw pm__law_draw cd__law_draw ct__law_draw oc__law_tests kV__law_tests dc__law_tests pm__law_tests cd__law_tests ct__law_tests oc__law_int kV__law_int dc__law_int pm__law_int cd__law_int ct__law_int oc__law_places kV__law_places dc__law_places pm__law_places cd__law_places ct__law_places oc_law kV_law dc_law pm_law cd_law ct_law : Value} {tk_MOST_COST tk_MOST_LEVELS tk_MOST_MINERALS tk_MOST_RESULTS : Tok}
    (gC0 : PySem.W.nsIn K mainGlobals "ShardError" = some (some (.ref C0)))
    (xC0 : PySem.W.excIn K C0 [.type "ValueError", .type "Exception", .type "BaseException", .type "object"] "ValueError.__new__" = true)
    (kC0 : PySem.W.keepIn K (.ref C0) = true)
    (bC0 : PySem.W.subIn K (.ref C0) (.type "BaseException") = some true)
    (tC0 : PySem.W.typeIn K (.ref C0) = some (.type "type"))
    (aC0 : PySem.W.findIn K (.ref C0) "__getattribute__" = some (some (.builtin "BaseException.__getattribute__")))
    (hC0 : PySem.W.findIn K (.ref C0) "__getattr__" = some none)
    (dC0 : PySem.W.hasDictIn K C0 = true)
    (lC0 : PySem.W.findIn K (.ref C0) "__class__" = some (some (.builtin "object.__class__")))
    (iC0 : PySem.W.isClsIn K C0 = true)
    (mC0 : PySem.W.mroIn K C0 (.type "object") = some true)
    (gC1 : PySem.W.nsIn K mainGlobals "OutOfRange" = some (some (.ref C1)))
    (xC1 : PySem.W.excIn K C1 [.type "ValueError", .type "Exception", .type "BaseException", .type "object"] "ValueError.__new__" = true)
    (kC1 : PySem.W.keepIn K (.ref C1) = true)
    (bC1 : PySem.W.subIn K (.ref C1) (.type "BaseException") = some true)
    (tC1 : PySem.W.typeIn K (.ref C1) = some (.type "type"))
    (aC1 : PySem.W.findIn K (.ref C1) "__getattribute__" = some (some (.builtin "BaseException.__getattribute__")))
    (hC1 : PySem.W.findIn K (.ref C1) "__getattr__" = some none)
    (dC1 : PySem.W.hasDictIn K C1 = true)
    (lC1 : PySem.W.findIn K (.ref C1) "__class__" = some (some (.builtin "object.__class__")))
    (iC1 : PySem.W.isClsIn K C1 = true)
    (mC1 : PySem.W.mroIn K C1 (.type "object") = some true)
    (gC2 : PySem.W.nsIn K mainGlobals "Malformed" = some (some (.ref C2)))
    (xC2 : PySem.W.excIn K C2 [.type "ValueError", .type "Exception", .type "BaseException", .type "object"] "ValueError.__new__" = true)
    (kC2 : PySem.W.keepIn K (.ref C2) = true)
    (bC2 : PySem.W.subIn K (.ref C2) (.type "BaseException") = some true)
    (tC2 : PySem.W.typeIn K (.ref C2) = some (.type "type"))
    (aC2 : PySem.W.findIn K (.ref C2) "__getattribute__" = some (some (.builtin "BaseException.__getattribute__")))
    (hC2 : PySem.W.findIn K (.ref C2) "__getattr__" = some none)
    (dC2 : PySem.W.hasDictIn K C2 = true)
    (lC2 : PySem.W.findIn K (.ref C2) "__class__" = some (some (.builtin "object.__class__")))
    (iC2 : PySem.W.isClsIn K C2 = true)
    (mC2 : PySem.W.mroIn K C2 (.type "object") = some true)
    (gC3 : PySem.W.nsIn K mainGlobals "NotThere" = some (some (.ref C3)))
    (xC3 : PySem.W.excIn K C3 [.type "ValueError", .type "Exception", .type "BaseException", .type "object"] "ValueError.__new__" = true)
    (kC3 : PySem.W.keepIn K (.ref C3) = true)
    (bC3 : PySem.W.subIn K (.ref C3) (.type "BaseException") = some true)
    (tC3 : PySem.W.typeIn K (.ref C3) = some (.type "type"))
    (aC3 : PySem.W.findIn K (.ref C3) "__getattribute__" = some (some (.builtin "BaseException.__getattribute__")))
    (hC3 : PySem.W.findIn K (.ref C3) "__getattr__" = some none)
    (dC3 : PySem.W.hasDictIn K C3 = true)
    (lC3 : PySem.W.findIn K (.ref C3) "__class__" = some (some (.builtin "object.__class__")))
    (iC3 : PySem.W.isClsIn K C3 = true)
    (mC3 : PySem.W.mroIn K C3 (.type "object") = some true)
    (gC4 : PySem.W.nsIn K mainGlobals "Refused" = some (some (.ref C4)))
    (xC4 : PySem.W.excIn K C4 [.type "ValueError", .type "Exception", .type "BaseException", .type "object"] "ValueError.__new__" = true)
    (kC4 : PySem.W.keepIn K (.ref C4) = true)
    (bC4 : PySem.W.subIn K (.ref C4) (.type "BaseException") = some true)
    (tC4 : PySem.W.typeIn K (.ref C4) = some (.type "type"))
    (aC4 : PySem.W.findIn K (.ref C4) "__getattribute__" = some (some (.builtin "BaseException.__getattribute__")))
    (hC4 : PySem.W.findIn K (.ref C4) "__getattr__" = some none)
    (dC4 : PySem.W.hasDictIn K C4 = true)
    (lC4 : PySem.W.findIn K (.ref C4) "__class__" = some (some (.builtin "object.__class__")))
    (iC4 : PySem.W.isClsIn K C4 = true)
    (mC4 : PySem.W.mroIn K C4 (.type "object") = some true)
    (gC5 : PySem.W.nsIn K mainGlobals "TooMuch" = some (some (.ref C5)))
    (xC5 : PySem.W.excIn K C5 [.type "ValueError", .type "Exception", .type "BaseException", .type "object"] "ValueError.__new__" = true)
    (kC5 : PySem.W.keepIn K (.ref C5) = true)
    (bC5 : PySem.W.subIn K (.ref C5) (.type "BaseException") = some true)
    (tC5 : PySem.W.typeIn K (.ref C5) = some (.type "type"))
    (aC5 : PySem.W.findIn K (.ref C5) "__getattribute__" = some (some (.builtin "BaseException.__getattribute__")))
    (hC5 : PySem.W.findIn K (.ref C5) "__getattr__" = some none)
    (dC5 : PySem.W.hasDictIn K C5 = true)
    (lC5 : PySem.W.findIn K (.ref C5) "__class__" = some (some (.builtin "object.__class__")))
    (iC5 : PySem.W.isClsIn K C5 = true)
    (mC5 : PySem.W.mroIn K C5 (.type "object") = some true)
    (ng : PySem.W.specialIn K (.builtin "object.__class__") "__get__" = some (some (.builtin "getset_descriptor.__get__")))
    (tg : PySem.W.takesIn K (.builtin "object.__class__") = some true)
    (sb0_0 : PySem.W.subIn K (.ref C0) (.ref C0) = some true)
    (sb0_1 : PySem.W.subIn K (.ref C0) (.ref C1) = some false)
    (sb0_2 : PySem.W.subIn K (.ref C0) (.ref C2) = some false)
    (sb0_3 : PySem.W.subIn K (.ref C0) (.ref C3) = some false)
    (sb0_4 : PySem.W.subIn K (.ref C0) (.ref C4) = some false)
    (sb0_5 : PySem.W.subIn K (.ref C0) (.ref C5) = some false)
    (sb1_0 : PySem.W.subIn K (.ref C1) (.ref C0) = some true)
    (sb1_1 : PySem.W.subIn K (.ref C1) (.ref C1) = some true)
    (sb1_2 : PySem.W.subIn K (.ref C1) (.ref C2) = some false)
    (sb1_3 : PySem.W.subIn K (.ref C1) (.ref C3) = some false)
    (sb1_4 : PySem.W.subIn K (.ref C1) (.ref C4) = some false)
    (sb1_5 : PySem.W.subIn K (.ref C1) (.ref C5) = some false)
    (sb2_0 : PySem.W.subIn K (.ref C2) (.ref C0) = some true)
    (sb2_1 : PySem.W.subIn K (.ref C2) (.ref C1) = some false)
    (sb2_2 : PySem.W.subIn K (.ref C2) (.ref C2) = some true)
    (sb2_3 : PySem.W.subIn K (.ref C2) (.ref C3) = some false)
    (sb2_4 : PySem.W.subIn K (.ref C2) (.ref C4) = some false)
    (sb2_5 : PySem.W.subIn K (.ref C2) (.ref C5) = some false)
    (sb3_0 : PySem.W.subIn K (.ref C3) (.ref C0) = some true)
    (sb3_1 : PySem.W.subIn K (.ref C3) (.ref C1) = some false)
    (sb3_2 : PySem.W.subIn K (.ref C3) (.ref C2) = some false)
    (sb3_3 : PySem.W.subIn K (.ref C3) (.ref C3) = some true)
    (sb3_4 : PySem.W.subIn K (.ref C3) (.ref C4) = some false)
    (sb3_5 : PySem.W.subIn K (.ref C3) (.ref C5) = some false)
    (sb4_0 : PySem.W.subIn K (.ref C4) (.ref C0) = some true)
    (sb4_1 : PySem.W.subIn K (.ref C4) (.ref C1) = some false)
    (sb4_2 : PySem.W.subIn K (.ref C4) (.ref C2) = some false)
    (sb4_3 : PySem.W.subIn K (.ref C4) (.ref C3) = some false)
    (sb4_4 : PySem.W.subIn K (.ref C4) (.ref C4) = some true)
    (sb4_5 : PySem.W.subIn K (.ref C4) (.ref C5) = some false)
    (sb5_0 : PySem.W.subIn K (.ref C5) (.ref C0) = some true)
    (sb5_1 : PySem.W.subIn K (.ref C5) (.ref C1) = some false)
    (sb5_2 : PySem.W.subIn K (.ref C5) (.ref C2) = some false)
    (sb5_3 : PySem.W.subIn K (.ref C5) (.ref C3) = some false)
    (sb5_4 : PySem.W.subIn K (.ref C5) (.ref C4) = some false)
    (sb5_5 : PySem.W.subIn K (.ref C5) (.ref C5) = some true)
    (c_MOST_COST : PySem.W.nsIn K mainGlobals "MOST_COST" = some (some (.int 100 tk_MOST_COST)))
    (c_MOST_LEVELS : PySem.W.nsIn K mainGlobals "MOST_LEVELS" = some (some (.int 60 tk_MOST_LEVELS)))
    (c_MOST_MINERALS : PySem.W.nsIn K mainGlobals "MOST_MINERALS" = some (some (.int 1000000 tk_MOST_MINERALS)))
    (c_MOST_RESULTS : PySem.W.nsIn K mainGlobals "MOST_RESULTS" = some (some (.int 40 tk_MOST_RESULTS)))
    (n_abs : PySem.W.nsIn K mainGlobals "abs" = some none)
    (n_bool : PySem.W.nsIn K mainGlobals "bool" = some none)
    (n_int : PySem.W.nsIn K mainGlobals "int" = some none)
    (n_isinstance : PySem.W.nsIn K mainGlobals "isinstance" = some none)
    (n_len : PySem.W.nsIn K mainGlobals "len" = some none)
    (n_list : PySem.W.nsIn K mainGlobals "list" = some none)
    (n_max : PySem.W.nsIn K mainGlobals "max" = some none)
    (n_min : PySem.W.nsIn K mainGlobals "min" = some none)
    (n_range : PySem.W.nsIn K mainGlobals "range" = some none)
    (n_tuple : PySem.W.nsIn K mainGlobals "tuple" = some none)
    (g__law_open : PySem.W.nsIn K mainGlobals "_law_open" = some (some (.ref a__law_open)))
    (l__law_open : K.lookup a__law_open = some ⟨oc__law_open, od__law_open, .func (PySem.W.fnOf "_law_open" "_law_open" (defArgs s__law_open) (defBody s__law_open) (defScope s__law_open) .none kV__law_open dc__law_open pm__law_open an__law_open cd__law_open ct__law_open), sl__law_open⟩)
    (d__law_open : PySem.W.codeIn K cd__law_open "_law_open" = true)
    (k__law_open : PySem.W.keepIn K (.ref a__law_open) = true)
    (g_is_number : PySem.W.nsIn K mainGlobals "is_number" = some (some (.ref a_is_number)))
    (l_is_number : K.lookup a_is_number = some ⟨oc_is_number, od_is_number, .func (PySem.W.fnOf "is_number" "is_number" (defArgs s_is_number) (defBody s_is_number) (defScope s_is_number) .none kV_is_number dc_is_number pm_is_number an_is_number cd_is_number ct_is_number), sl_is_number⟩)
    (d_is_number : PySem.W.codeIn K cd_is_number "is_number" = true)
    (k_is_number : PySem.W.keepIn K (.ref a_is_number) = true)
    (g_are_results : PySem.W.nsIn K mainGlobals "are_results" = some (some (.ref a_are_results)))
    (l_are_results : K.lookup a_are_results = some ⟨oc_are_results, od_are_results, .func (PySem.W.fnOf "are_results" "are_results" (defArgs s_are_results) (defBody s_are_results) (defScope s_are_results) .none kV_are_results dc_are_results pm_are_results an_are_results cd_are_results ct_are_results), sl_are_results⟩)
    (d_are_results : PySem.W.codeIn K cd_are_results "are_results" = true)
    (k_are_results : PySem.W.keepIn K (.ref a_are_results) = true)
    (g_place_between : PySem.W.nsIn K mainGlobals "place_between" = some (some (.ref a_place_between)))
    (l_place_between : K.lookup a_place_between = some ⟨oc_place_between, od_place_between, .func (PySem.W.fnOf "place_between" "place_between" (defArgs s_place_between) (defBody s_place_between) (defScope s_place_between) .none kV_place_between dc_place_between pm_place_between an_place_between cd_place_between ct_place_between), sl_place_between⟩)
    (d_place_between : PySem.W.codeIn K cd_place_between "place_between" = true)
    (k_place_between : PySem.W.keepIn K (.ref a_place_between) = true)
    (g_fewest_tests : PySem.W.nsIn K mainGlobals "fewest_tests" = some (some (.ref a_fewest_tests)))
    (l_fewest_tests : K.lookup a_fewest_tests = some ⟨oc_fewest_tests, od_fewest_tests, .func (PySem.W.fnOf "fewest_tests" "fewest_tests" (defArgs s_fewest_tests) (defBody s_fewest_tests) (defScope s_fewest_tests) .none kV_fewest_tests dc_fewest_tests pm_fewest_tests an_fewest_tests cd_fewest_tests ct_fewest_tests), sl_fewest_tests⟩)
    (d_fewest_tests : PySem.W.codeIn K cd_fewest_tests "fewest_tests" = true)
    (k_fewest_tests : PySem.W.keepIn K (.ref a_fewest_tests) = true)
    (g_told_mineral : PySem.W.nsIn K mainGlobals "told_mineral" = some (some (.ref a_told_mineral)))
    (l_told_mineral : K.lookup a_told_mineral = some ⟨oc_told_mineral, od_told_mineral, .func (PySem.W.fnOf "told_mineral" "told_mineral" (defArgs s_told_mineral) (defBody s_told_mineral) (defScope s_told_mineral) .none kV_told_mineral dc_told_mineral pm_told_mineral an_told_mineral cd_told_mineral ct_told_mineral), sl_told_mineral⟩)
    (d_told_mineral : PySem.W.codeIn K cd_told_mineral "told_mineral" = true)
    (k_told_mineral : PySem.W.keepIn K (.ref a_told_mineral) = true)
    (g_tables : PySem.W.nsIn K mainGlobals "tables" = some (some (.ref a_tables)))
    (l_tables : K.lookup a_tables = some ⟨oc_tables, od_tables, .func (PySem.W.fnOf "tables" "tables" (defArgs s_tables) (defBody s_tables) (defScope s_tables) .none kV_tables dc_tables pm_tables an_tables cd_tables ct_tables), sl_tables⟩)
    (d_tables : PySem.W.codeIn K cd_tables "tables" = true)
    (k_tables : PySem.W.keepIn K (.ref a_tables) = true)
    (g_worst_cost : PySem.W.nsIn K mainGlobals "worst_cost" = some (some (.ref a_worst_cost)))
    (l_worst_cost : K.lookup a_worst_cost = some ⟨oc_worst_cost, od_worst_cost, .func (PySem.W.fnOf "worst_cost" "worst_cost" (defArgs s_worst_cost) (defBody s_worst_cost) (defScope s_worst_cost) .none kV_worst_cost dc_worst_cost pm_worst_cost an_worst_cost cd_worst_cost ct_worst_cost), sl_worst_cost⟩)
    (d_worst_cost : PySem.W.codeIn K cd_worst_cost "worst_cost" = true)
    (k_worst_cost : PySem.W.keepIn K (.ref a_worst_cost) = true)
    (g_told_level : PySem.W.nsIn K mainGlobals "told_level" = some (some (.ref a_told_level)))
    (l_told_level : K.lookup a_told_level = some ⟨oc_told_level, od_told_level, .func (PySem.W.fnOf "told_level" "told_level" (defArgs s_told_level) (defBody s_told_level) (defScope s_told_level) .none kV_told_level dc_told_level pm_told_level an_told_level cd_told_level ct_told_level), sl_told_level⟩)
    (d_told_level : PySem.W.codeIn K cd_told_level "told_level" = true)
    (k_told_level : PySem.W.keepIn K (.ref a_told_level) = true)
    (g__law_told : PySem.W.nsIn K mainGlobals "_law_told" = some (some (.ref a__law_told)))
    (l__law_told : K.lookup a__law_told = some ⟨oc__law_told, od__law_told, .func (PySem.W.fnOf "_law_told" "_law_told" (defArgs s__law_told) (defBody s__law_told) (defScope s__law_told) .none kV__law_told dc__law_told pm__law_told an__law_told cd__law_told ct__law_told), sl__law_told⟩)
    (d__law_told : PySem.W.codeIn K cd__law_told "_law_told" = true)
    (k__law_told : PySem.W.keepIn K (.ref a__law_told) = true)
    (g__law_asked : PySem.W.nsIn K mainGlobals "_law_asked" = some (some (.ref a__law_asked)))
    (l__law_asked : K.lookup a__law_asked = some ⟨oc__law_asked, od__law_asked, .func (PySem.W.fnOf "_law_asked" "_law_asked" (defArgs s__law_asked) (defBody s__law_asked) (defScope s__law_asked) .none kV__law_asked dc__law_asked pm__law_asked an__law_asked cd__law_asked ct__law_asked), sl__law_asked⟩)
    (d__law_asked : PySem.W.codeIn K cd__law_asked "_law_asked" = true)
    (k__law_asked : PySem.W.keepIn K (.ref a__law_asked) = true)
    (g__law_mixed : PySem.W.nsIn K mainGlobals "_law_mixed" = some (some (.ref a__law_mixed)))
    (l__law_mixed : K.lookup a__law_mixed = some ⟨oc__law_mixed, od__law_mixed, .func (PySem.W.fnOf "_law_mixed" "_law_mixed" (defArgs s__law_mixed) (defBody s__law_mixed) (defScope s__law_mixed) .none kV__law_mixed dc__law_mixed pm__law_mixed an__law_mixed cd__law_mixed ct__law_mixed), sl__law_mixed⟩)
    (d__law_mixed : PySem.W.codeIn K cd__law_mixed "_law_mixed" = true)
    (k__law_mixed : PySem.W.keepIn K (.ref a__law_mixed) = true)
    (g__law_draw : PySem.W.nsIn K mainGlobals "_law_draw" = some (some (.ref a__law_draw)))
    (l__law_draw : K.lookup a__law_draw = some ⟨oc__law_draw, od__law_draw, .func (PySem.W.fnOf "_law_draw" "_law_draw" (defArgs s__law_draw) (defBody s__law_draw) (defScope s__law_draw) .none kV__law_draw dc__law_draw pm__law_draw an__law_draw cd__law_draw ct__law_draw), sl__law_draw⟩)
    (d__law_draw : PySem.W.codeIn K cd__law_draw "_law_draw" = true)
    (k__law_draw : PySem.W.keepIn K (.ref a__law_draw) = true)
    (g__law_tests : PySem.W.nsIn K mainGlobals "_law_tests" = some (some (.ref a__law_tests)))
    (l__law_tests : K.lookup a__law_tests = some ⟨oc__law_tests, od__law_tests, .func (PySem.W.fnOf "_law_tests" "_law_tests" (defArgs s__law_tests) (defBody s__law_tests) (defScope s__law_tests) .none kV__law_tests dc__law_tests pm__law_tests an__law_tests cd__law_tests ct__law_tests), sl__law_tests⟩)
    (d__law_tests : PySem.W.codeIn K cd__law_tests "_law_tests" = true)
    (k__law_tests : PySem.W.keepIn K (.ref a__law_tests) = true)
    (g__law_int : PySem.W.nsIn K mainGlobals "_law_int" = some (some (.ref a__law_int)))
    (l__law_int : K.lookup a__law_int = some ⟨oc__law_int, od__law_int, .func (PySem.W.fnOf "_law_int" "_law_int" (defArgs s__law_int) (defBody s__law_int) (defScope s__law_int) .none kV__law_int dc__law_int pm__law_int an__law_int cd__law_int ct__law_int), sl__law_int⟩)
    (d__law_int : PySem.W.codeIn K cd__law_int "_law_int" = true)
    (k__law_int : PySem.W.keepIn K (.ref a__law_int) = true)
    (g__law_places : PySem.W.nsIn K mainGlobals "_law_places" = some (some (.ref a__law_places)))
    (l__law_places : K.lookup a__law_places = some ⟨oc__law_places, od__law_places, .func (PySem.W.fnOf "_law_places" "_law_places" (defArgs s__law_places) (defBody s__law_places) (defScope s__law_places) .none kV__law_places dc__law_places pm__law_places an__law_places cd__law_places ct__law_places), sl__law_places⟩)
    (d__law_places : PySem.W.codeIn K cd__law_places "_law_places" = true)
    (k__law_places : PySem.W.keepIn K (.ref a__law_places) = true)
    (g_law : PySem.W.nsIn K mainGlobals "law" = some (some (.ref a_law)))
    (l_law : K.lookup a_law = some ⟨oc_law, od_law, .func (PySem.W.fnOf "law" "law" (defArgs s_law) (defBody s_law) (defScope s_law) .none kV_law dc_law pm_law an_law cd_law ct_law), sl_law⟩)
    (d_law : PySem.W.codeIn K cd_law "law" = true)
    (k_law : PySem.W.keepIn K (.ref a_law) = true)
    : ∃ fd : FuncData, (∀ (s : Shared) (u : Value), BindsTo s fd ⟨[u], []⟩ [("script", u)]) ∧ ∀ base : Heap, K.In base → base.Ns mainGlobals mg → FnOk P w K mg base (L2N.CX P w) 7 fa fd ["script"] (spLaw K) := by
  have e := hfa.symm.trans (PySem.W.mg_of X G g_law)
  cases e
  have e0 : ExcC K C0 := ⟨aC0, hC0, bC0, dC0, lC0, ng, tg, mC0⟩
  have e1 : ExcC K C1 := ⟨aC1, hC1, bC1, dC1, lC1, ng, tg, mC1⟩
  have e2 : ExcC K C2 := ⟨aC2, hC2, bC2, dC2, lC2, ng, tg, mC2⟩
  have e3 : ExcC K C3 := ⟨aC3, hC3, bC3, dC3, lC3, ng, tg, mC3⟩
  have e4 : ExcC K C4 := ⟨aC4, hC4, bC4, dC4, lC4, ng, tg, mC4⟩
  have e5 : ExcC K C5 := ⟨aC5, hC5, bC5, dC5, lC5, ng, tg, mC5⟩
  have cf : CF K (TT C0 C1 C2 C3 C4 C5) 6 subC := by
    refine ⟨fun i hi => ?_, fun i j hi hj => ?_, fun i j hi hj => ?_⟩
    · match i, hi with
      | 0, _ => exact ⟨C0, rfl, e0⟩
      | 1, _ => exact ⟨C1, rfl, e1⟩
      | 2, _ => exact ⟨C2, rfl, e2⟩
      | 3, _ => exact ⟨C3, rfl, e3⟩
      | 4, _ => exact ⟨C4, rfl, e4⟩
      | 5, _ => exact ⟨C5, rfl, e5⟩
    · match i, hi, j, hj with
      | 0, _, 0, _ => exact kit_sub iC0 tC0 sb0_0 sb0_0
      | 0, _, 1, _ => exact kit_sub iC1 tC1 sb0_1 sb1_1
      | 0, _, 2, _ => exact kit_sub iC2 tC2 sb0_2 sb2_2
      | 0, _, 3, _ => exact kit_sub iC3 tC3 sb0_3 sb3_3
      | 0, _, 4, _ => exact kit_sub iC4 tC4 sb0_4 sb4_4
      | 0, _, 5, _ => exact kit_sub iC5 tC5 sb0_5 sb5_5
      | 1, _, 0, _ => exact kit_sub iC0 tC0 sb1_0 sb0_0
      | 1, _, 1, _ => exact kit_sub iC1 tC1 sb1_1 sb1_1
      | 1, _, 2, _ => exact kit_sub iC2 tC2 sb1_2 sb2_2
      | 1, _, 3, _ => exact kit_sub iC3 tC3 sb1_3 sb3_3
      | 1, _, 4, _ => exact kit_sub iC4 tC4 sb1_4 sb4_4
      | 1, _, 5, _ => exact kit_sub iC5 tC5 sb1_5 sb5_5
      | 2, _, 0, _ => exact kit_sub iC0 tC0 sb2_0 sb0_0
      | 2, _, 1, _ => exact kit_sub iC1 tC1 sb2_1 sb1_1
      | 2, _, 2, _ => exact kit_sub iC2 tC2 sb2_2 sb2_2
      | 2, _, 3, _ => exact kit_sub iC3 tC3 sb2_3 sb3_3
      | 2, _, 4, _ => exact kit_sub iC4 tC4 sb2_4 sb4_4
      | 2, _, 5, _ => exact kit_sub iC5 tC5 sb2_5 sb5_5
      | 3, _, 0, _ => exact kit_sub iC0 tC0 sb3_0 sb0_0
      | 3, _, 1, _ => exact kit_sub iC1 tC1 sb3_1 sb1_1
      | 3, _, 2, _ => exact kit_sub iC2 tC2 sb3_2 sb2_2
      | 3, _, 3, _ => exact kit_sub iC3 tC3 sb3_3 sb3_3
      | 3, _, 4, _ => exact kit_sub iC4 tC4 sb3_4 sb4_4
      | 3, _, 5, _ => exact kit_sub iC5 tC5 sb3_5 sb5_5
      | 4, _, 0, _ => exact kit_sub iC0 tC0 sb4_0 sb0_0
      | 4, _, 1, _ => exact kit_sub iC1 tC1 sb4_1 sb1_1
      | 4, _, 2, _ => exact kit_sub iC2 tC2 sb4_2 sb2_2
      | 4, _, 3, _ => exact kit_sub iC3 tC3 sb4_3 sb3_3
      | 4, _, 4, _ => exact kit_sub iC4 tC4 sb4_4 sb4_4
      | 4, _, 5, _ => exact kit_sub iC5 tC5 sb4_5 sb5_5
      | 5, _, 0, _ => exact kit_sub iC0 tC0 sb5_0 sb0_0
      | 5, _, 1, _ => exact kit_sub iC1 tC1 sb5_1 sb1_1
      | 5, _, 2, _ => exact kit_sub iC2 tC2 sb5_2 sb2_2
      | 5, _, 3, _ => exact kit_sub iC3 tC3 sb5_3 sb3_3
      | 5, _, 4, _ => exact kit_sub iC4 tC4 sb5_4 sb4_4
      | 5, _, 5, _ => exact kit_sub iC5 tC5 sb5_5 sb5_5
    · match i, hi, j, hj with
      | 0, _, 0, _ => exact PySem.W.exm_ref bC0 dC0 tC0 sb0_0
      | 0, _, 1, _ => exact PySem.W.exm_ref bC1 dC1 tC1 sb0_1
      | 0, _, 2, _ => exact PySem.W.exm_ref bC2 dC2 tC2 sb0_2
      | 0, _, 3, _ => exact PySem.W.exm_ref bC3 dC3 tC3 sb0_3
      | 0, _, 4, _ => exact PySem.W.exm_ref bC4 dC4 tC4 sb0_4
      | 0, _, 5, _ => exact PySem.W.exm_ref bC5 dC5 tC5 sb0_5
      | 1, _, 0, _ => exact PySem.W.exm_ref bC0 dC0 tC0 sb1_0
      | 1, _, 1, _ => exact PySem.W.exm_ref bC1 dC1 tC1 sb1_1
      | 1, _, 2, _ => exact PySem.W.exm_ref bC2 dC2 tC2 sb1_2
      | 1, _, 3, _ => exact PySem.W.exm_ref bC3 dC3 tC3 sb1_3
      | 1, _, 4, _ => exact PySem.W.exm_ref bC4 dC4 tC4 sb1_4
      | 1, _, 5, _ => exact PySem.W.exm_ref bC5 dC5 tC5 sb1_5
      | 2, _, 0, _ => exact PySem.W.exm_ref bC0 dC0 tC0 sb2_0
      | 2, _, 1, _ => exact PySem.W.exm_ref bC1 dC1 tC1 sb2_1
      | 2, _, 2, _ => exact PySem.W.exm_ref bC2 dC2 tC2 sb2_2
      | 2, _, 3, _ => exact PySem.W.exm_ref bC3 dC3 tC3 sb2_3
      | 2, _, 4, _ => exact PySem.W.exm_ref bC4 dC4 tC4 sb2_4
      | 2, _, 5, _ => exact PySem.W.exm_ref bC5 dC5 tC5 sb2_5
      | 3, _, 0, _ => exact PySem.W.exm_ref bC0 dC0 tC0 sb3_0
      | 3, _, 1, _ => exact PySem.W.exm_ref bC1 dC1 tC1 sb3_1
      | 3, _, 2, _ => exact PySem.W.exm_ref bC2 dC2 tC2 sb3_2
      | 3, _, 3, _ => exact PySem.W.exm_ref bC3 dC3 tC3 sb3_3
      | 3, _, 4, _ => exact PySem.W.exm_ref bC4 dC4 tC4 sb3_4
      | 3, _, 5, _ => exact PySem.W.exm_ref bC5 dC5 tC5 sb3_5
      | 4, _, 0, _ => exact PySem.W.exm_ref bC0 dC0 tC0 sb4_0
      | 4, _, 1, _ => exact PySem.W.exm_ref bC1 dC1 tC1 sb4_1
      | 4, _, 2, _ => exact PySem.W.exm_ref bC2 dC2 tC2 sb4_2
      | 4, _, 3, _ => exact PySem.W.exm_ref bC3 dC3 tC3 sb4_3
      | 4, _, 4, _ => exact PySem.W.exm_ref bC4 dC4 tC4 sb4_4
      | 4, _, 5, _ => exact PySem.W.exm_ref bC5 dC5 tC5 sb4_5
      | 5, _, 0, _ => exact PySem.W.exm_ref bC0 dC0 tC0 sb5_0
      | 5, _, 1, _ => exact PySem.W.exm_ref bC1 dC1 tC1 sb5_1
      | 5, _, 2, _ => exact PySem.W.exm_ref bC2 dC2 tC2 sb5_2
      | 5, _, 3, _ => exact PySem.W.exm_ref bC3 dC3 tC3 sb5_3
      | 5, _, 4, _ => exact PySem.W.exm_ref bC4 dC4 tC4 sb5_4
      | 5, _, 5, _ => exact PySem.W.exm_ref bC5 dC5 tC5 sb5_5
  have T : Tx K mg (TT C0 C1 C2 C3 C4 C5) := { c_MOST_COST := ⟨tk_MOST_COST, PySem.W.mg_of X G c_MOST_COST⟩, c_MOST_LEVELS := ⟨tk_MOST_LEVELS, PySem.W.mg_of X G c_MOST_LEVELS⟩, c_MOST_MINERALS := ⟨tk_MOST_MINERALS, PySem.W.mg_of X G c_MOST_MINERALS⟩, c_MOST_RESULTS := ⟨tk_MOST_RESULTS, PySem.W.mg_of X G c_MOST_RESULTS⟩, n_abs := PySem.W.mg_none_of X G n_abs, n_bool := PySem.W.mg_none_of X G n_bool, n_int := PySem.W.mg_none_of X G n_int, n_isinstance := PySem.W.mg_none_of X G n_isinstance, n_len := PySem.W.mg_none_of X G n_len, n_list := PySem.W.mg_none_of X G n_list, n_max := PySem.W.mg_none_of X G n_max, n_min := PySem.W.mg_none_of X G n_min, n_range := PySem.W.mg_none_of X G n_range, n_tuple := PySem.W.mg_none_of X G n_tuple, e_ShardError := PySem.W.mg_of X G gC0, e_OutOfRange := PySem.W.mg_of X G gC1, r_OutOfRange := ⟨C1, rfl, PySem.W.mg_of X G gC1, xC1, kC1, bC1, tC1⟩, e_Malformed := PySem.W.mg_of X G gC2, e_NotThere := PySem.W.mg_of X G gC3, e_Refused := PySem.W.mg_of X G gC4, r_Refused := ⟨C4, rfl, PySem.W.mg_of X G gC4, xC4, kC4, bC4, tC4⟩, e_TooMuch := PySem.W.mg_of X G gC5, cf := cf }
  have F__law_open := fun_mk (st := s__law_open) l__law_open d__law_open k__law_open
  have C__law_open : Cl K mg "_law_open" a__law_open _ ["script"] := ⟨PySem.W.mg_of X G g__law_open, k__law_open, F__law_open.binds (ps := ["script"]) fun _ _ _ _ _ _ us hl => match us, hl with | [_], _ => rfl⟩
  have F_is_number := fun_mk (st := s_is_number) l_is_number d_is_number k_is_number
  have C_is_number : Cl K mg "is_number" a_is_number _ ["value", "least", "most"] := ⟨PySem.W.mg_of X G g_is_number, k_is_number, F_is_number.binds (ps := ["value", "least", "most"]) fun _ _ _ _ _ _ us hl => match us, hl with | [_, _, _], _ => rfl⟩
  have F_are_results := fun_mk (st := s_are_results) l_are_results d_are_results k_are_results
  have C_are_results : Cl K mg "are_results" a_are_results _ ["minerals", "value"] := ⟨PySem.W.mg_of X G g_are_results, k_are_results, F_are_results.binds (ps := ["minerals", "value"]) fun _ _ _ _ _ _ us hl => match us, hl with | [_, _], _ => rfl⟩
  have F_place_between := fun_mk (st := s_place_between) l_place_between d_place_between k_place_between
  have C_place_between : Cl K mg "place_between" a_place_between _ ["minerals", "results"] := ⟨PySem.W.mg_of X G g_place_between, k_place_between, F_place_between.binds (ps := ["minerals", "results"]) fun _ _ _ _ _ _ us hl => match us, hl with | [_, _], _ => rfl⟩
  have F_fewest_tests := fun_mk (st := s_fewest_tests) l_fewest_tests d_fewest_tests k_fewest_tests
  have C_fewest_tests : Cl K mg "fewest_tests" a_fewest_tests _ ["minerals", "results"] := ⟨PySem.W.mg_of X G g_fewest_tests, k_fewest_tests, F_fewest_tests.binds (ps := ["minerals", "results"]) fun _ _ _ _ _ _ us hl => match us, hl with | [_, _], _ => rfl⟩
  have F_told_mineral := fun_mk (st := s_told_mineral) l_told_mineral d_told_mineral k_told_mineral
  have C_told_mineral : Cl K mg "told_mineral" a_told_mineral _ ["minerals", "results"] := ⟨PySem.W.mg_of X G g_told_mineral, k_told_mineral, F_told_mineral.binds (ps := ["minerals", "results"]) fun _ _ _ _ _ _ us hl => match us, hl with | [_, _], _ => rfl⟩
  have F_tables := fun_mk (st := s_tables) l_tables d_tables k_tables
  have C_tables : Cl K mg "tables" a_tables _ ["levels", "low", "high"] := ⟨PySem.W.mg_of X G g_tables, k_tables, F_tables.binds (ps := ["levels", "low", "high"]) fun _ _ _ _ _ _ us hl => match us, hl with | [_, _, _], _ => rfl⟩
  have F_worst_cost := fun_mk (st := s_worst_cost) l_worst_cost d_worst_cost k_worst_cost
  have C_worst_cost : Cl K mg "worst_cost" a_worst_cost _ ["levels", "low", "high"] := ⟨PySem.W.mg_of X G g_worst_cost, k_worst_cost, F_worst_cost.binds (ps := ["levels", "low", "high"]) fun _ _ _ _ _ _ us hl => match us, hl with | [_, _, _], _ => rfl⟩
  have F_told_level := fun_mk (st := s_told_level) l_told_level d_told_level k_told_level
  have C_told_level : Cl K mg "told_level" a_told_level _ ["levels", "low", "high"] := ⟨PySem.W.mg_of X G g_told_level, k_told_level, F_told_level.binds (ps := ["levels", "low", "high"]) fun _ _ _ _ _ _ us hl => match us, hl with | [_, _, _], _ => rfl⟩
  have F__law_told := fun_mk (st := s__law_told) l__law_told d__law_told k__law_told
  have C__law_told : Cl K mg "_law_told" a__law_told _ ["error"] := ⟨PySem.W.mg_of X G g__law_told, k__law_told, F__law_told.binds (ps := ["error"]) fun _ _ _ _ _ _ us hl => match us, hl with | [_], _ => rfl⟩
  have F__law_asked := fun_mk (st := s__law_asked) l__law_asked d__law_asked k__law_asked
  have C__law_asked : Cl K mg "_law_asked" a__law_asked _ ["what", "a", "b", "c"] := ⟨PySem.W.mg_of X G g__law_asked, k__law_asked, F__law_asked.binds (ps := ["what", "a", "b", "c"]) fun _ _ _ _ _ _ us hl => match us, hl with | [_, _, _, _], _ => rfl⟩
  have F__law_mixed := fun_mk (st := s__law_mixed) l__law_mixed d__law_mixed k__law_mixed
  have C__law_mixed : Cl K mg "_law_mixed" a__law_mixed _ ["cell", "turn"] := ⟨PySem.W.mg_of X G g__law_mixed, k__law_mixed, F__law_mixed.binds (ps := ["cell", "turn"]) fun _ _ _ _ _ _ us hl => match us, hl with | [_, _], _ => rfl⟩
  have F__law_draw := fun_mk (st := s__law_draw) l__law_draw d__law_draw k__law_draw
  have C__law_draw : Cl K mg "_law_draw" a__law_draw _ ["draws", "size"] := ⟨PySem.W.mg_of X G g__law_draw, k__law_draw, F__law_draw.binds (ps := ["draws", "size"]) fun _ _ _ _ _ _ us hl => match us, hl with | [_, _], _ => rfl⟩
  have F__law_tests := fun_mk (st := s__law_tests) l__law_tests d__law_tests k__law_tests
  have C__law_tests : Cl K mg "_law_tests" a__law_tests _ ["most"] := ⟨PySem.W.mg_of X G g__law_tests, k__law_tests, F__law_tests.binds (ps := ["most"]) fun _ _ _ _ _ _ us hl => match us, hl with | [_], _ => rfl⟩
  have F__law_int := fun_mk (st := s__law_int) l__law_int d__law_int k__law_int
  have C__law_int : Cl K mg "_law_int" a__law_int _ ["value"] := ⟨PySem.W.mg_of X G g__law_int, k__law_int, F__law_int.binds (ps := ["value"]) fun _ _ _ _ _ _ us hl => match us, hl with | [_], _ => rfl⟩
  have F__law_places := fun_mk (st := s__law_places) l__law_places d__law_places k__law_places
  have C__law_places : Cl K mg "_law_places" a__law_places _ ["draws"] := ⟨PySem.W.mg_of X G g__law_places, k__law_places, F__law_places.binds (ps := ["draws"]) fun _ _ _ _ _ _ us hl => match us, hl with | [_], _ => rfl⟩
  have F_law := fun_mk (st := s_law) l_law d_law k_law
  refine ⟨PySem.W.fnOf "law" "law" (defArgs s_law) (defBody s_law) (defScope s_law) .none kV_law dc_law pm_law an_law cd_law ct_law, fun s v => .of_eq rfl, fun base _ _ => ?_⟩
  have G__law_open := ok__law_open (P := P) (w := w) (base := base) F__law_open T 
  have G_is_number := ok_is_number (P := P) (w := w) (base := base) F_is_number T 
  have G_are_results := ok_are_results (P := P) (w := w) (base := base) F_are_results T C_is_number G_is_number
  have G_place_between := ok_place_between (P := P) (w := w) (base := base) F_place_between T C_is_number G_is_number
  have G_fewest_tests := ok_fewest_tests (P := P) (w := w) (base := base) F_fewest_tests T C_place_between G_place_between
  have G_told_mineral := ok_told_mineral (P := P) (w := w) (base := base) F_told_mineral T C_place_between G_place_between C_fewest_tests G_fewest_tests
  have G_tables := ok_tables (P := P) (w := w) (base := base) F_tables T C_is_number G_is_number
  have G_worst_cost := ok_worst_cost (P := P) (w := w) (base := base) F_worst_cost T C_tables G_tables
  have G_told_level := ok_told_level (P := P) (w := w) (base := base) F_told_level T C_tables G_tables
  have G__law_told := ok__law_told (P := P) (w := w) (base := base) F__law_told T 
  have G__law_asked := ok__law_asked (P := P) (w := w) (base := base) F__law_asked T C_are_results G_are_results C_place_between G_place_between C_fewest_tests G_fewest_tests C_told_mineral G_told_mineral C_worst_cost G_worst_cost C_told_level G_told_level C__law_told G__law_told
  have G__law_mixed := ok__law_mixed (P := P) (w := w) (base := base) F__law_mixed T 
  have G__law_draw := ok__law_draw (P := P) (w := w) (base := base) F__law_draw T C__law_mixed G__law_mixed
  have G__law_tests := ok__law_tests (P := P) (w := w) (base := base) F__law_tests T 
  have G__law_int := ok__law_int (P := P) (w := w) (base := base) F__law_int T 
  have G__law_places := ok__law_places (P := P) (w := w) (base := base) F__law_places T C__law_asked G__law_asked C__law_draw G__law_draw C__law_tests G__law_tests C__law_int G__law_int
  have G_law := ok_law (P := P) (w := w) (base := base) F_law T C__law_open G__law_open C_worst_cost G_worst_cost C__law_asked G__law_asked C__law_draw G__law_draw C__law_int G__law_int C__law_places G__law_places
  exact G_law.imp fun vs H Q E h => sp_law vs H Q E h
end K48
open PySem PySem.W PyProof.Rows
set_option maxHeartbeats 0 in
theorem PySem.Challenge.cw_shardsheld_k48_whole_places_and_costs_of_holds : PySem.Challenge.rw_shardsheld_k48_whole_places_and_costs_of.Holds := by
  w_on; o_law; k_head; (case hw => w_witness2)
  k_fill
  refine L2.walk_of (l := PySem.Challenge.rw_shardsheld_k48_whole_places_and_costs_of) (n := 63) (k := 7) (x := "script") (CX := fun w => L2N.CX PySem.Challenge.rw_shardsheld_k48_whole_places_and_costs_of.prog w) (sp := fun w => K48.spLaw _) rfl (by decide) rfl ⟨rfl, by decide, by decide⟩ (fun w h Y => PySem.W.kIn_of Y) ?F (fun _ _ a ns hl _ hS => ⟨a, ns, rfl, hS, hl, fun _ => rfl⟩) (fun _ _ _ _ _ h => ?X)
  case F =>
    intro w mg fa h KX G hmg
    refine' K48.all_mk KX G hmg ?gC0 ?xC0 ?kC0 ?bC0 ?tC0 ?aC0 ?hC0 ?dC0 ?lC0 ?iC0 ?mC0 ?gC1 ?xC1 ?kC1 ?bC1 ?tC1 ?aC1 ?hC1 ?dC1 ?lC1 ?iC1 ?mC1 ?gC2 ?xC2 ?kC2 ?bC2 ?tC2 ?aC2 ?hC2 ?dC2 ?lC2 ?iC2 ?mC2 ?gC3 ?xC3 ?kC3 ?bC3 ?tC3 ?aC3 ?hC3 ?dC3 ?lC3 ?iC3 ?mC3 ?gC4 ?xC4 ?kC4 ?bC4 ?tC4 ?aC4 ?hC4 ?dC4 ?lC4 ?iC4 ?mC4 ?gC5 ?xC5 ?kC5 ?bC5 ?tC5 ?aC5 ?hC5 ?dC5 ?lC5 ?iC5 ?mC5 ?ng ?tg ?sb0_0 ?sb0_1 ?sb0_2 ?sb0_3 ?sb0_4 ?sb0_5 ?sb1_0 ?sb1_1 ?sb1_2 ?sb1_3 ?sb1_4 ?sb1_5 ?sb2_0 ?sb2_1 ?sb2_2 ?sb2_3 ?sb2_4 ?sb2_5 ?sb3_0 ?sb3_1 ?sb3_2 ?sb3_3 ?sb3_4 ?sb3_5 ?sb4_0 ?sb4_1 ?sb4_2 ?sb4_3 ?sb4_4 ?sb4_5 ?sb5_0 ?sb5_1 ?sb5_2 ?sb5_3 ?sb5_4 ?sb5_5 ?c_MOST_COST ?c_MOST_LEVELS ?c_MOST_MINERALS ?c_MOST_RESULTS ?n_abs ?n_bool ?n_int ?n_isinstance ?n_len ?n_list ?n_max ?n_min ?n_range ?n_tuple ?g__law_open ?l__law_open ?d__law_open ?k__law_open ?g_is_number ?l_is_number ?d_is_number ?k_is_number ?g_are_results ?l_are_results ?d_are_results ?k_are_results ?g_place_between ?l_place_between ?d_place_between ?k_place_between ?g_fewest_tests ?l_fewest_tests ?d_fewest_tests ?k_fewest_tests ?g_told_mineral ?l_told_mineral ?d_told_mineral ?k_told_mineral ?g_tables ?l_tables ?d_tables ?k_tables ?g_worst_cost ?l_worst_cost ?d_worst_cost ?k_worst_cost ?g_told_level ?l_told_level ?d_told_level ?k_told_level ?g__law_told ?l__law_told ?d__law_told ?k__law_told ?g__law_asked ?l__law_asked ?d__law_asked ?k__law_asked ?g__law_mixed ?l__law_mixed ?d__law_mixed ?k__law_mixed ?g__law_draw ?l__law_draw ?d__law_draw ?k__law_draw ?g__law_tests ?l__law_tests ?d__law_tests ?k__law_tests ?g__law_int ?l__law_int ?d__law_int ?k__law_int ?g__law_places ?l__law_places ?d__law_places ?k__law_places ?g_law ?l_law ?d_law ?k_law
    (case gC0 => k_is)
    (case xC0 => k_exc)
    (case kC0 => k_is)
    (case bC0 => k_is)
    (case tC0 => k_is)
    (case aC0 => k_is)
    (case hC0 => k_is)
    (case dC0 => k_is)
    (case lC0 => k_is)
    (case iC0 => k_is)
    (case mC0 => k_is)
    (case gC1 => k_is)
    (case xC1 => k_exc)
    (case kC1 => k_is)
    (case bC1 => k_is)
    (case tC1 => k_is)
    (case aC1 => k_is)
    (case hC1 => k_is)
    (case dC1 => k_is)
    (case lC1 => k_is)
    (case iC1 => k_is)
    (case mC1 => k_is)
    (case gC2 => k_is)
    (case xC2 => k_exc)
    (case kC2 => k_is)
    (case bC2 => k_is)
    (case tC2 => k_is)
    (case aC2 => k_is)
    (case hC2 => k_is)
    (case dC2 => k_is)
    (case lC2 => k_is)
    (case iC2 => k_is)
    (case mC2 => k_is)
    (case gC3 => k_is)
    (case xC3 => k_exc)
    (case kC3 => k_is)
    (case bC3 => k_is)
    (case tC3 => k_is)
    (case aC3 => k_is)
    (case hC3 => k_is)
    (case dC3 => k_is)
    (case lC3 => k_is)
    (case iC3 => k_is)
    (case mC3 => k_is)
    (case gC4 => k_is)
    (case xC4 => k_exc)
    (case kC4 => k_is)
    (case bC4 => k_is)
    (case tC4 => k_is)
    (case aC4 => k_is)
    (case hC4 => k_is)
    (case dC4 => k_is)
    (case lC4 => k_is)
    (case iC4 => k_is)
    (case mC4 => k_is)
    (case gC5 => k_is)
    (case xC5 => k_exc)
    (case kC5 => k_is)
    (case bC5 => k_is)
    (case tC5 => k_is)
    (case aC5 => k_is)
    (case hC5 => k_is)
    (case dC5 => k_is)
    (case lC5 => k_is)
    (case iC5 => k_is)
    (case mC5 => k_is)
    (case ng => k_is)
    (case tg => k_is)
    (case sb0_0 => first | rfl | k_is)
    (case sb0_1 => k_is)
    (case sb0_2 => k_is)
    (case sb0_3 => k_is)
    (case sb0_4 => k_is)
    (case sb0_5 => k_is)
    (case sb1_0 => k_is)
    (case sb1_1 => first | rfl | k_is)
    (case sb1_2 => k_is)
    (case sb1_3 => k_is)
    (case sb1_4 => k_is)
    (case sb1_5 => k_is)
    (case sb2_0 => k_is)
    (case sb2_1 => k_is)
    (case sb2_2 => first | rfl | k_is)
    (case sb2_3 => k_is)
    (case sb2_4 => k_is)
    (case sb2_5 => k_is)
    (case sb3_0 => k_is)
    (case sb3_1 => k_is)
    (case sb3_2 => k_is)
    (case sb3_3 => first | rfl | k_is)
    (case sb3_4 => k_is)
    (case sb3_5 => k_is)
    (case sb4_0 => k_is)
    (case sb4_1 => k_is)
    (case sb4_2 => k_is)
    (case sb4_3 => k_is)
    (case sb4_4 => first | rfl | k_is)
    (case sb4_5 => k_is)
    (case sb5_0 => k_is)
    (case sb5_1 => k_is)
    (case sb5_2 => k_is)
    (case sb5_3 => k_is)
    (case sb5_4 => k_is)
    (case sb5_5 => first | rfl | k_is)
    (case c_MOST_COST => k_is)
    (case c_MOST_LEVELS => k_is)
    (case c_MOST_MINERALS => k_is)
    (case c_MOST_RESULTS => k_is)
    (case n_abs => k_is)
    (case n_bool => k_is)
    (case n_int => k_is)
    (case n_isinstance => k_is)
    (case n_len => k_is)
    (case n_list => k_is)
    (case n_max => k_is)
    (case n_min => k_is)
    (case n_range => k_is)
    (case n_tuple => k_is)
    (case g__law_open => k_is)
    (case l__law_open => k_is)
    (case d__law_open => k_is)
    (case k__law_open => k_is)
    (case g_is_number => k_is)
    (case l_is_number => k_is)
    (case d_is_number => k_is)
    (case k_is_number => k_is)
    (case g_are_results => k_is)
    (case l_are_results => k_is)
    (case d_are_results => k_is)
    (case k_are_results => k_is)
    (case g_place_between => k_is)
    (case l_place_between => k_is)
    (case d_place_between => k_is)
    (case k_place_between => k_is)
    (case g_fewest_tests => k_is)
    (case l_fewest_tests => k_is)
    (case d_fewest_tests => k_is)
    (case k_fewest_tests => k_is)
    (case g_told_mineral => k_is)
    (case l_told_mineral => k_is)
    (case d_told_mineral => k_is)
    (case k_told_mineral => k_is)
    (case g_tables => k_is)
    (case l_tables => k_is)
    (case d_tables => k_is)
    (case k_tables => k_is)
    (case g_worst_cost => k_is)
    (case l_worst_cost => k_is)
    (case d_worst_cost => k_is)
    (case k_worst_cost => k_is)
    (case g_told_level => k_is)
    (case l_told_level => k_is)
    (case d_told_level => k_is)
    (case k_told_level => k_is)
    (case g__law_told => k_is)
    (case l__law_told => k_is)
    (case d__law_told => k_is)
    (case k__law_told => k_is)
    (case g__law_asked => k_is)
    (case l__law_asked => k_is)
    (case d__law_asked => k_is)
    (case k__law_asked => k_is)
    (case g__law_mixed => k_is)
    (case l__law_mixed => k_is)
    (case d__law_mixed => k_is)
    (case k__law_mixed => k_is)
    (case g__law_draw => k_is)
    (case l__law_draw => k_is)
    (case d__law_draw => k_is)
    (case k__law_draw => k_is)
    (case g__law_tests => k_is)
    (case l__law_tests => k_is)
    (case d__law_tests => k_is)
    (case k__law_tests => k_is)
    (case g__law_int => k_is)
    (case l__law_int => k_is)
    (case d__law_int => k_is)
    (case k__law_int => k_is)
    (case g__law_places => k_is)
    (case l__law_places => k_is)
    (case d__law_places => k_is)
    (case k__law_places => k_is)
    (case g_law => k_is)
    (case l_law => k_is)
    (case d_law => k_is)
    (case k_law => k_is)
  case X =>
    obtain ⟨_, _, _, _, _, _, _, _, _, _, _, _, z⟩ := h
    exact z
