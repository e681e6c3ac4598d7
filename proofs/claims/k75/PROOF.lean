import PyProof.Rows.All
import Wide.All
import OpenK.AllK
import Wide.FinOn
import HandS.ForMost
import HandS.ForExc
import HandS.CallSlots
import HandS.TryMany
import HandS.Lambda
import HandS.TupAny
import HandS.TupMul
import HandS.IsInst
import HandS.Zip
import HandS.Walk
import HandS.Rev
import PyProof.EnumMake
import HandS.Replace
import HandS.Text
import HandS.Flow
import HandS.Dict
import KE.KExcSuper
import KE.KExcPX
import HandS.ExcInit
import HandS.ExcField
import PyProof.ReprRoads
import KE.KTryMore
import HandS.HotCalls
import HandS.ExcIs
import HandS.EndTab
import PyProof.ReprLen
import PySem.Challenge.RW_toldtallies_k75_whole_winners_by_rules
set_option Elab.async false
set_option linter.all false
set_option maxRecDepth 100000
set_option maxHeartbeats 4000000
/-! TA: plain data, how the abstract heap bears them, owned containers, steps. -/
namespace TT
open PySem PySem.Spec PyProof.Rows L2
abbrev St := L2.St

/-- plain data -/
inductive D where
  | non | bl (b : Bool) | int (i : Int) | str (x : Str)
  | lst (xs : List D) | tup (xs : List D) | frz (xs : List D)
  | dct (ks : List Key) (vs : List D)
  | ins (c : Str) (ns : List Str) (vs : List D)
  | opq (n : Nat) (vs : List D)

abbrev Sl0 := Option (Bool × D)
abbrev Ev := List Sl0

/-- what comes of a piece of program: a value, an error (its class, its fields), or nothing is said -/
inductive R (A : Type) where
  | ok (a : A) (env : Ev)
  | err (c : Str) (fs : List (Str × D)) (env : Ev)
  | bad

abbrev M (A : Type) := Ev → R A
@[reducible] def M.bind {A B : Type} (m : M A) (f : A → M B) : M B := fun env => match m env with
  | .ok a env' => f a env'
  | .err c fs env' => .err c fs env'
  | .bad => .bad
@[reducible] def M.pure {A : Type} (a : A) : M A := fun env => .ok a env
def M.fail {A : Type} : M A := fun _ => .bad
def M.opt {A : Type} : Option A → M A
  | some a => M.pure a
  | none => M.fail
theorem bind_ok {A B : Type} {m : M A} {f : A → M B} {env env' : Ev} {a : A} (h : m env = .ok a env') : M.bind m f env = f a env' := by
  show (match m env with | .ok a env' => f a env' | .err c fs env' => .err c fs env' | .bad => .bad) = _
  rw [h]
theorem bind_err {A B : Type} {m : M A} {f : A → M B} {env env' : Ev} {c : Str} {fs : List (Str × D)} (h : m env = .err c fs env') : M.bind m f env = .err c fs env' := by
  show (match m env with | .ok a env' => f a env' | .err c fs env' => .err c fs env' | .bad => .bad) = _
  rw [h]
theorem bind_bad {A B : Type} {m : M A} {f : A → M B} {env : Ev} (h : m env = .bad) : M.bind m f env = .bad := by
  show (match m env with | .ok a env' => f a env' | .err c fs env' => .err c fs env' | .bad => .bad) = _
  rw [h]

/-- what is the same in all states of a program's run -/
structure Tb where
  K : PySem.W.Frag
  cl : Str → Option Addr
  op : Nat → Hp → Addr → List V → Prop
  mono : ∀ n F F' a vs, Same F F' → op n F a vs → op n F' a vs
  tabs : List (Addr × Str)
  sm : Obj

section
variable (T : Tb) (F : Hp)
mutual
/-- in the part F of the heap the value bears the data -/
inductive Rep : V → D → Prop
  | non : Rep .non .non
  | bl (b : Bool) : Rep (.bl b) (.bl b)
  | int (i : Int) : Rep (.int i) (.int i)
  | str (x : Str) : Rep (.str x) (.str x)
  | lst {a : Addr} {vs : List V} {ds : List D} (h : F a = some (.lst vs)) (r : Reps vs ds) : Rep (.ref a) (.lst ds)
  | frz {a : Addr} {vs : List V} {ds : List D} (h : SqL T.K F a vs) (r : Reps vs ds) : Rep (.ref a) (.frz ds)
  | tup {a : Addr} {vs : List V} {ds : List D} (h : SqT T.K F a vs) (r : Reps vs ds) : Rep (.ref a) (.tup ds)
  | dct {a : Addr} {kvs : List (Key × V)} {ks : List Key} {vs : List V} {ds : List D} (h : F a = some (.dK kvs)) (e : kvs.map (·.1) = ks) (e2 : kvs.map (·.2) = vs) (r : Reps vs ds) : Rep (.ref a) (.dct ks ds)
  | ins {a C dx : Addr} {c : Str} {fs : List (Str × V)} {ns : List Str} {vs : List V} {ds : List D} (hc : T.cl c = some C) (h : F a = some (.ins C dx fs)) (e : fs.map (·.1) = ns) (e2 : fs.map (·.2) = vs) (r : Reps vs ds) : Rep (.ref a) (.ins c ns ds)
  | opq {a : Addr} {n : Nat} {vs : List V} {ds : List D} (h : T.op n F a vs) (r : Reps vs ds) : Rep (.ref a) (.opq n ds)
inductive Reps : List V → List D → Prop
  | nil : Reps [] []
  | cons {v : V} {vs : List V} {d : D} {ds : List D} (h : Rep v d) (r : Reps vs ds) : Reps (v :: vs) (d :: ds)
end
end

section
variable {T : Tb} {F F' F1 F2 H H' H1 H2 : Hp}
theorem seqT_mono {K : PySem.W.Frag} {a : Addr} {xs : List V} (e : Same F F') (h : SqT K F a xs) : SqT K F' a xs := by
  rcases h with (h | ⟨o, h⟩) | h
  · exact .inl (.inl (e _ _ h))
  · exact .inl (.inr ⟨o, e _ _ h⟩)
  · exact .inr h
mutual
theorem Rep.mono (e : Same F F') : ∀ {v : V} {d : D}, Rep T F v d → Rep T F' v d
  | _, _, .non => .non
  | _, _, .bl b => .bl b
  | _, _, .int i => .int i
  | _, _, .str x => .str x
  | _, _, .lst h r => .lst (e _ _ h) (Reps.mono e r)
  | _, _, .frz h r => .frz (e.seq h) (Reps.mono e r)
  | _, _, .tup h r => .tup (seqT_mono e h) (Reps.mono e r)
  | _, _, .dct h e1 e2 r => .dct (e _ _ h) e1 e2 (Reps.mono e r)
  | _, _, .ins hc h e1 e2 r => .ins hc (e _ _ h) e1 e2 (Reps.mono e r)
  | _, _, .opq h r => .opq (T.mono _ _ _ _ _ e h) (Reps.mono e r)
theorem Reps.mono (e : Same F F') : ∀ {vs : List V} {ds : List D}, Reps T F vs ds → Reps T F' vs ds
  | _, _, .nil => .nil
  | _, _, .cons h r => .cons (Rep.mono e h) (Reps.mono e r)
end
theorem Reps.length : ∀ {vs : List V} {ds : List D}, Reps T F vs ds → vs.length = ds.length
  | _, _, .nil => rfl
  | _, _, .cons _ r => congrArg (· + 1) (Reps.length r)
theorem Reps.get : ∀ {vs : List V} {ds : List D} {i : Nat} {d : D}, Reps T F vs ds → ds[i]? = some d → ∃ v, vs[i]? = some v ∧ Rep T F v d
  | _, _, _, _, .nil, h => by simp at h
  | _, _, 0, _, .cons h _, e => by simp at e; subst e; exact ⟨_, rfl, h⟩
  | _, _, i + 1, d, .cons _ r, e => by
    obtain ⟨v, h1, h2⟩ := Reps.get (i := i) (d := d) r (by simpa using e)
    exact ⟨v, by simpa using h1, h2⟩
theorem Reps.getV : ∀ {vs : List V} {ds : List D} {i : Nat} {v : V}, Reps T F vs ds → vs[i]? = some v → ∃ d, ds[i]? = some d ∧ Rep T F v d
  | _, _, _, _, .nil, h => by simp at h
  | _, _, 0, _, .cons h _, e => by simp at e; subst e; exact ⟨_, rfl, h⟩
  | _, _, i + 1, d, .cons _ r, e => by
    obtain ⟨v, h1, h2⟩ := Reps.getV (i := i) (v := d) r (by simpa using e)
    exact ⟨v, by simpa using h1, h2⟩
theorem Reps.append : ∀ {vs ws : List V} {ds es : List D}, Reps T F vs ds → Reps T F ws es → Reps T F (vs ++ ws) (ds ++ es)
  | _, _, _, _, .nil, s => s
  | _, _, _, _, .cons h r, s => .cons h (Reps.append r s)
theorem Reps.set : ∀ {vs : List V} {ds : List D} {v : V} {d : D} (i : Nat), Rep T F v d → Reps T F vs ds → Reps T F (vs.set i v) (ds.set i d)
  | _, _, _, _, _, _, .nil => .nil
  | _, _, _, _, 0, h, .cons _ r => .cons h r
  | _, _, _, _, i + 1, h, .cons q r => .cons q (Reps.set i h r)
theorem Reps.take : ∀ {vs : List V} {ds : List D} (n : Nat), Reps T F vs ds → Reps T F (vs.take n) (ds.take n)
  | _, _, 0, _ => .nil
  | _, _, _ + 1, .nil => .nil
  | _, _, n + 1, .cons h r => .cons h (Reps.take n r)
theorem Reps.drop : ∀ {vs : List V} {ds : List D} (n : Nat), Reps T F vs ds → Reps T F (vs.drop n) (ds.drop n)
  | _, _, 0, r => r
  | _, _, _ + 1, .nil => .nil
  | _, _, n + 1, .cons _ r => Reps.drop n r
theorem Reps.reverse : ∀ {vs : List V} {ds : List D}, Reps T F vs ds → Reps T F vs.reverse ds.reverse
  | _, _, .nil => .nil
  | _, _, .cons h r => by
    rw [List.reverse_cons, List.reverse_cons]
    exact Reps.append (Reps.reverse r) (.cons h .nil)

/-- an owned container at a: its object is in the heap alone, its items in F -/
def Top (T : Tb) (F H : Hp) (a : Addr) : D → Prop
  | .lst ds => ∃ vs, H a = some (.lst vs) ∧ Reps T F vs ds
  | .dct ks ds => ∃ kvs, H a = some (.dK kvs) ∧ kvs.map (·.1) = ks ∧ Reps T F (kvs.map (·.2)) ds
  | .ins c ns ds => ∃ C dx fs, T.cl c = some C ∧ H a = some (.ins C dx fs) ∧ fs.map (·.1) = ns ∧ Reps T F (fs.map (·.2)) ds
  | _ => False
/-- a list, a dict, an instance -/
def Plain : HO → Prop
  | .lst _ => True
  | .dK _ => True
  | .ins _ _ _ => True
  | _ => False
/-- no table -/
def NT (o : HO) : Prop := ∀ ps, o ≠ .tbl ps
theorem Plain.nt {o : HO} (h : Plain o) : NT o := fun ps e => by subst e; exact h
theorem Plain.nc {o : HO} (h : Plain o) : ∀ c q, o ≠ LamX.CodeO c q := fun c q e => by subst e; exact h
theorem nt_lst {xs : List V} : NT (.lst xs) := fun _ e => by cases e
theorem nt_dK {xs : List (Key × V)} : NT (.dK xs) := fun _ e => by cases e
/-- the tables of code objects stand, out of F; the code objects they tell are in F -/
def TabF (L : List (Addr × Str)) (F H : Hp) : Prop := ∀ p ∈ L, ∃ ps : Array Value, H p.1 = some (.tbl ps) ∧ F p.1 = none ∧ TriplesOk ps.toList ∧ ∀ (pos : Pos) (cv : Value), codeAmong pos ps.toList = some cv → ∃ c, cv = .ref c ∧ F c = some (LamX.CodeO c p.2)
theorem TabF.keep {L : List (Addr × Str)} (t : TabF L F H) (m : ∀ c q, F c = some (LamX.CodeO c q) → F' c = some (LamX.CodeO c q)) (n : ∀ b ps, H b = some (.tbl ps) → F b = none → F' b = none) (k : ∀ b ps, H b = some (.tbl ps) → H' b = some (.tbl ps)) : TabF L F' H' := fun p hp => by
  obtain ⟨ps, h1, h0, h2, h3⟩ := t p hp
  refine ⟨ps, k _ _ h1, n _ _ h1 h0, h2, fun pos cv hc => ?_⟩
  obtain ⟨c, e1, e2⟩ := h3 pos cv hc
  exact ⟨c, e1, m _ _ e2⟩
theorem tabs_new {L : List (Addr × Str)} {a : Addr} {o : HO} (t : TabF L F H) (h : H a = none) : TabF L F (upd H a o) := t.keep (fun _ _ e => e) (fun _ _ _ e => e) fun b ps e => by
  rw [upd_ne (ne_of_none e h)]; exact e
theorem tabs_chg {L : List (Addr × Str)} {a : Addr} {o u : HO} (t : TabF L F H) (h : H a = some u) (p : Plain u) : TabF L F (upd H a o) := t.keep (fun _ _ e => e) (fun _ _ _ e => e) fun b ps e => by
  have nb : b ≠ a := fun y => by
    subst y
    rw [h] at e
    cases e
    exact p.nt ps rfl
  rw [upd_ne nb]; exact e
/-- what is plain is given up: no table -/
theorem tabs_give {L : List (Addr × Str)} {a : Addr} {u : HO} (t : TabF L F H) (fa : F a = none) (h : H a = some u) (p : Plain u) : TabF L (upd F a u) H := t.keep (fun c q e => by rw [upd_ne (ne_of_none e fa)]; exact e) (fun b ps e z => by
  have nb : b ≠ a := fun y => by
    subst y
    rw [h] at e
    cases e
    exact p.nt ps rfl
  rw [upd_ne nb]; exact z) fun _ _ e => e
theorem Top.obj {a : Addr} {d : D} (h : Top T F H a d) : ∃ o, H a = some o ∧ Plain o := by
  cases d with
  | lst ds => obtain ⟨vs, e, _⟩ := h; exact ⟨_, e, trivial⟩
  | dct ks ds => obtain ⟨kvs, e, _⟩ := h; exact ⟨_, e, trivial⟩
  | ins c ns ds => obtain ⟨C, dx, fs, _, e, _⟩ := h; exact ⟨_, e, trivial⟩
  | _ => exact h.elim
theorem Top.imp {a : Addr} {d : D} (h : Top T F H a d) (e : Same F F') (k : ∀ o, H a = some o → Plain o → H' a = some o) : Top T F' H' a d := by
  cases d with
  | lst ds => obtain ⟨vs, q, r⟩ := h; exact ⟨vs, k _ q trivial, r.mono e⟩
  | dct ks ds => obtain ⟨kvs, q, q2, r⟩ := h; exact ⟨kvs, k _ q trivial, q2, r.mono e⟩
  | ins c ns ds => obtain ⟨C, dx, fs, q0, q, q2, r⟩ := h; exact ⟨C, dx, fs, q0, k _ q trivial, q2, r.mono e⟩
  | _ => exact h.elim

/-- a value with its mark: owned (true), or shared -/
def VRep (T : Tb) (F H : Hp) (v : V) (x : Bool × D) : Prop :=
  match x.1 with
  | false => Rep T F v x.2
  | true => ∃ a, v = .ref a ∧ F a = none ∧ Top T F H a x.2
theorem VRep.sh {v : V} {d : D} (h : Rep T F v d) : VRep T F H v (false, d) := h

/-- what marks the address of the modules' dict: nothing new is laid there -/
def smO : HO := .ext fun _ => True
/-- the modules' dict: known to the object -/
def smT (o : Obj) : HO := .frz o (.frz o smO)
/-- the slots' values bear the environment -/
structure ERep (T : Tb) (F H : Hp) (s : St) (env : Ev) : Prop where
  le : Same F H
  len : s.length = env.length
  get : ∀ (i : Nat) (x : Bool × D), env[i]? = some (some x) → ∃ v, s[i]? = some (some v) ∧ VRep T F H v x
  sep : ∀ (i j : Nat) (d e : D) (v : V), env[i]? = some (some (true, d)) → env[j]? = some (some (true, e)) → s[i]? = some (some v) → s[j]? = some (some v) → i = j
  sm : F sysModules = some (smT T.sm)
  tb : TabF T.tabs F H

/-- a is the address of an owned slot's container -/
def OwnE (s : St) (env : Ev) (a : Addr) : Prop := ∃ (i : Nat) (d : D), env[i]? = some (some (true, d)) ∧ s[i]? = some (some (.ref a))

/-- from one state to a later one, the slots' values being as they were -/
structure Step (T : Tb) (s : St) (F H : Hp) (env : Ev) (F' H' : Hp) (env' : Ev) : Prop where
  rep : ERep T F' H' s env'
  mono : Same F F'
  frame : ∀ a o, H a = some o → NT o → ¬ OwnE s env a → H' a = some o
  fresh : ∀ a, F a = none → F' a ≠ none → H a = none ∨ OwnE s env a
  own : ∀ (i : Nat) (d : D), env'[i]? = some (some (true, d)) → ∃ e, env[i]? = some (some (true, e))
  dom : ∀ a, H' a = none → H a = none
section
variable {s : St} {env env1 env2 env' : Ev}
theorem Step.ownE (h : Step T s F H env F' H' env') {a : Addr} (q : OwnE s env' a) : OwnE s env a := by
  obtain ⟨i, d, e1, e2⟩ := q
  obtain ⟨e, e3⟩ := h.own i d e1
  exact ⟨i, e, e3, e2⟩
theorem Step.refl (h : ERep T F H s env) : Step T s F H env F H env :=
  ⟨h, Same.refl _, fun _ _ e _ _ => e, fun _ e n => absurd e n, fun i d e => ⟨d, e⟩, fun _ e => e⟩
theorem Step.trans (a : Step T s F H env F1 H1 env1) (b : Step T s F1 H1 env1 F2 H2 env2) : Step T s F H env F2 H2 env2 where
  rep := b.rep
  mono := a.mono.trans b.mono
  frame := fun c o e t n => b.frame c o (a.frame c o e t n) t fun z => n (a.ownE z)
  fresh := fun c e n => by
    cases q : F1 c with
    | some o => exact a.fresh c e (by rw [q]; simp)
    | none =>
      rcases b.fresh c q n with z | z
      · exact .inl (a.dom c z)
      · exact .inr (a.ownE z)
  own := fun i d e => by
    obtain ⟨d1, e1⟩ := b.own i d e
    exact a.own i d1 e1
  dom := fun c e => a.dom c (b.dom c e)

/-- a value that is held while others are reckoned -/
structure VOk (T : Tb) (s : St) (F H : Hp) (env : Ev) (v : V) (x : Bool × D) : Prop where
  rep : VRep T F H v x
  apart : x.1 = true → ∀ a, v = .ref a → ¬ OwnE s env a
theorem VOk.sh {v : V} {d : D} (h : Rep T F v d) : VOk T s F H env v (false, d) := ⟨h, fun z => by cases z⟩
theorem VOk.step {v : V} {x : Bool × D} (h : VOk T s F H env v x) (q : Step T s F H env F' H' env') : VOk T s F' H' env' v x := by
  obtain ⟨own, d⟩ := x
  cases own with
  | false => exact .sh (Rep.mono q.mono h.rep)
  | true =>
    obtain ⟨a, rfl, fa, t⟩ := h.rep
    have na : ¬ OwnE s env a := h.apart rfl a rfl
    obtain ⟨o, ho, _⟩ := t.obj
    refine ⟨⟨a, rfl, ?_, t.imp q.mono fun o e p => q.frame a o e p.nt na⟩, fun _ b e => ?_⟩
    · cases z : F' a with
      | none => rfl
      | some u =>
        rcases q.fresh a fa (by rw [z]; simp) with y | y
        · rw [ho] at y; cases y
        · exact (na y).elim
    · cases e
      exact fun z => na (q.ownE z)

/-- an operand: a slot that is looked at where it is used, or a value -/
inductive Opd where
  | slot (i : Nat)
  | val (x : Bool × D)
def look (env : Ev) : Opd → Option (Bool × D)
  | .slot i => match env[i]? with
    | some x => x
    | none => none
  | .val x => some x
def OOk (T : Tb) (s : St) (F H : Hp) (env : Ev) (v : V) : Opd → Prop
  | .slot i => s[i]? = some (some v)
  | .val x => VOk T s F H env v x
theorem OOk.step {v : V} {o : Opd} (h : OOk T s F H env v o) (q : Step T s F H env F' H' env') : OOk T s F' H' env' v o := by
  cases o with
  | slot i => exact h
  | val x => exact VOk.step h q

/-- the data of a value as they are read: the container in the heap, its items in F -/
inductive TRep (T : Tb) (F H : Hp) : V → D → Prop
  | non : TRep T F H .non .non
  | bl (b : Bool) : TRep T F H (.bl b) (.bl b)
  | int (i : Int) : TRep T F H (.int i) (.int i)
  | str (x : Str) : TRep T F H (.str x) (.str x)
  | lst {a : Addr} {vs : List V} {ds : List D} (h : H a = some (.lst vs)) (r : Reps T F vs ds) : TRep T F H (.ref a) (.lst ds)
  | frz {a : Addr} {vs : List V} {ds : List D} (h : SqL T.K F a vs) (r : Reps T F vs ds) : TRep T F H (.ref a) (.frz ds)
  | tup {a : Addr} {vs : List V} {ds : List D} (h : SqT T.K F a vs) (r : Reps T F vs ds) : TRep T F H (.ref a) (.tup ds)
  | dct {a : Addr} {kvs : List (Key × V)} {ks : List Key} {vs : List V} {ds : List D} (h : H a = some (.dK kvs)) (e : kvs.map (·.1) = ks) (e2 : kvs.map (·.2) = vs) (r : Reps T F vs ds) : TRep T F H (.ref a) (.dct ks ds)
  | ins {a C dx : Addr} {c : Str} {fs : List (Str × V)} {ns : List Str} {vs : List V} {ds : List D} (hc : T.cl c = some C) (h : H a = some (.ins C dx fs)) (e : fs.map (·.1) = ns) (e2 : fs.map (·.2) = vs) (r : Reps T F vs ds) : TRep T F H (.ref a) (.ins c ns ds)
  | opq {a : Addr} {n : Nat} {vs : List V} {ds : List D} (h : T.op n F a vs) (r : Reps T F vs ds) : TRep T F H (.ref a) (.opq n ds)
theorem Rep.top {v : V} {d : D} (e : Same F H) (h : Rep T F v d) : TRep T F H v d := by
  cases h with
  | non => exact .non
  | bl b => exact .bl b
  | int i => exact .int i
  | str x => exact .str x
  | lst h r => exact .lst (e _ _ h) r
  | frz h r => exact .frz h r
  | tup h r => exact .tup h r
  | dct h e1 e2 r => exact .dct (e _ _ h) e1 e2 r
  | ins hc h e1 e2 r => exact .ins hc (e _ _ h) e1 e2 r
  | opq h r => exact .opq h r
theorem VRep.top {v : V} {x : Bool × D} (e : Same F H) (h : VRep T F H v x) : TRep T F H v x.2 := by
  obtain ⟨own, d⟩ := x
  cases own with
  | false => exact Rep.top e h
  | true =>
    obtain ⟨a, rfl, fa, t⟩ := h
    cases d with
    | lst ds => obtain ⟨vs, q, r⟩ := t; exact .lst q r
    | dct ks ds => obtain ⟨kvs, q, q2, r⟩ := t; exact .dct q q2 rfl r
    | ins c ns ds => obtain ⟨C, dx, fs, q0, q, q2, r⟩ := t; exact .ins q0 q q2 rfl r
    | _ => exact (show False from t).elim
theorem look_slot {i : Nat} {x : Bool × D} (h : look env (.slot i) = some x) : env[i]? = some (some x) := by
  unfold look at h
  cases e : env[i]? with
  | none => simp only [e] at h; cases h
  | some y => simp only [e] at h; rw [h]
theorem OOk.rep {v : V} {o : Opd} {x : Bool × D} (E : ERep T F H s env) (h : OOk T s F H env v o) (l : look env o = some x) : VRep T F H v x := by
  cases o with
  | slot i =>
    obtain ⟨w, e1, e2⟩ := E.get i x (look_slot l)
    have e3 : s[i]? = some (some v) := h
    rw [e1] at e3
    cases e3
    exact e2
  | val y =>
    cases l
    exact VOk.rep h
theorem OOk.top {v : V} {o : Opd} {x : Bool × D} (E : ERep T F H s env) (h : OOk T s F H env v o) (l : look env o = some x) : TRep T F H v x.2 := (h.rep E l).top E.le

/-- what comes new: a value (perhaps a new object), all tracked objects as they were -/
structure New (T : Tb) (F H F' H' : Hp) (v : V) (x : Bool × D) : Prop where
  mono : Same F F'
  le : Same F' H'
  same : Same H H'
  fresh : ∀ a, F a = none → F' a ≠ none → H a = none
  rep : VRep T F' H' v x
  own : x.1 = true → ∀ a, v = .ref a → H a = none
theorem ERep.new (E : ERep T F H s env) (m : Same F F') (l : Same F' H') (k : Same H H') (f : ∀ a, F a = none → F' a ≠ none → H a = none) : ERep T F' H' s env where
  le := l
  len := E.len
  get := fun i x e => by
    obtain ⟨v, e1, r⟩ := E.get i x e
    refine ⟨v, e1, ?_⟩
    obtain ⟨own, d⟩ := x
    cases own with
    | false => exact Rep.mono m r
    | true =>
      obtain ⟨a, rfl, fa, t⟩ := r
      obtain ⟨o, ho, _⟩ := t.obj
      refine ⟨a, rfl, ?_, t.imp m fun o e _ => k a o e⟩
      cases z : F' a with
      | none => rfl
      | some u =>
        have y := f a fa (by rw [z]; simp)
        rw [ho] at y; cases y
  sep := E.sep
  sm := m _ _ E.sm
  tb := E.tb.keep (fun _ _ e => m _ _ e) (fun b ps e z => by
    cases q : F' b with
    | none => rfl
    | some u =>
      have := f b z (by rw [q]; simp)
      rw [e] at this; cases this) fun _ _ e => k _ _ e
theorem OwnE.there (E : ERep T F H s env) {a : Addr} (h : OwnE s env a) : ∃ o, H a = some o := by
  obtain ⟨i, d, e1, e2⟩ := h
  obtain ⟨v, e3, r⟩ := E.get i _ e1
  rw [e2] at e3
  cases e3
  obtain ⟨b, e4, _, t⟩ := (show ∃ b, V.ref a = .ref b ∧ F b = none ∧ Top T F H b d from r)
  cases e4
  exact let ⟨o, h, _⟩ := t.obj; ⟨o, h⟩
theorem New.step {v : V} {x : Bool × D} (n : New T F H F' H' v x) (E : ERep T F H s env) : Step T s F H env F' H' env ∧ VOk T s F' H' env v x := by
  refine ⟨⟨E.new n.mono n.le n.same n.fresh, n.mono, fun a o e _ _ => n.same a o e, fun a e z => .inl (n.fresh a e z), fun i d e => ⟨d, e⟩, fun a e => n.same.free e⟩, n.rep, fun o a e z => ?_⟩
  obtain ⟨o', ho⟩ := z.there E
  rw [n.own o a e] at ho
  cases ho
/-- a value that is there already -/
theorem New.here {v : V} {d : D} (l : Same F H) (r : Rep T F v d) : New T F H F H v (false, d) :=
  ⟨Same.refl _, l, Same.refl _, fun _ e n => absurd e n, r, fun z => by cases z⟩
theorem same_upd {a : Addr} {o : HO} (h : H a = none) : Same H (upd H a o) := fun b u e => by
  rw [upd_ne (ne_of_none e h)]
  exact e
/-- a new list, owned -/
theorem New.lst {a : Addr} {vs : List V} {ds : List D} (l : Same F H) (h : H a = none) (r : Reps T F vs ds) : New T F H F (upd H a (.lst vs)) (.ref a) (true, .lst ds) :=
  ⟨Same.refl _, l.trans (same_upd h), same_upd h, fun _ e n => absurd e n, ⟨a, rfl, l.free h, vs, upd_same, r⟩, fun _ b e => by cases e; exact h⟩
/-- a new dict, owned -/
theorem New.dct {a : Addr} {kvs : List (Key × V)} {ks : List Key} {ds : List D} (l : Same F H) (h : H a = none) (e : kvs.map (·.1) = ks) (r : Reps T F (kvs.map (·.2)) ds) : New T F H F (upd H a (.dK kvs)) (.ref a) (true, .dct ks ds) :=
  ⟨Same.refl _, l.trans (same_upd h), same_upd h, fun _ e n => absurd e n, ⟨a, rfl, l.free h, kvs, upd_same, e, r⟩, fun _ b e => by cases e; exact h⟩
theorem upd_le {a : Addr} {o : HO} (l : Same F H) : Same (upd F a o) (upd H a o) := fun b u e => by
  by_cases hb : b = a
  · subst hb
    rw [upd_same] at e ⊢
    exact e
  · rw [upd_ne hb] at e ⊢
    exact l b u e
/-- a new object, shared from the start -/
theorem New.shared {a : Addr} {o : HO} {d : D} (l : Same F H) (h : H a = none) (r : Rep T (upd F a o) (.ref a) d) : New T F H (upd F a o) (upd H a o) (.ref a) (false, d) :=
  ⟨same_upd (l.free h), upd_le l, same_upd h, fun b e n => by
    by_cases hb : b = a
    · subst hb; exact h
    · rw [upd_ne hb] at n; exact absurd e n, r, fun z => by cases z⟩
theorem New.tup {a : Addr} {vs : List V} {ds : List D} (l : Same F H) (h : H a = none) (r : Reps T F vs ds) : New T F H (upd F a (.tup vs)) (upd H a (.tup vs)) (.ref a) (false, .tup ds) :=
  .shared l h (.tup (SqT.of upd_same) (Reps.mono (same_upd (l.free h)) r))

/-- an owned slot is given up: its container is shared from now on -/
def thaw : HO → HO := id
theorem freeze {i : Nat} {d : D} {v : V} (E : ERep T F H s env) (h : env[i]? = some (some (true, d))) (hv : s[i]? = some (some v)) :
    ∃ F', Step T s F H env F' H (env.set i (some (false, d))) ∧ Rep T F' v d := by
  obtain ⟨w, e1, r⟩ := E.get i _ h
  rw [hv] at e1
  cases e1
  obtain ⟨a, rfl, fa, t⟩ := (show ∃ a, v = .ref a ∧ F a = none ∧ Top T F H a d from r)
  obtain ⟨o, ho, po⟩ := t.obj
  have m : Same F (upd F a o) := same_upd fa
  have rep : Rep T (upd F a o) (.ref a) d := by
    cases d with
    | lst ds =>
      obtain ⟨vs, q, r⟩ := t
      rw [ho] at q; cases q
      exact .lst upd_same (Reps.mono m r)
    | dct ks ds =>
      obtain ⟨kvs, q, q2, r⟩ := t
      rw [ho] at q; cases q
      exact .dct upd_same q2 rfl (Reps.mono m r)
    | ins c ns ds =>
      obtain ⟨C, dx, fs, q0, q, q2, r⟩ := t
      rw [ho] at q; cases q
      exact .ins q0 upd_same q2 rfl (Reps.mono m r)
    | _ => exact (show False from t).elim
  have own : OwnE s env a := ⟨i, d, h, hv⟩
  refine ⟨upd F a o, ⟨⟨fun b u e => ?_, by rw [List.length_set]; exact E.len, fun j x e => ?_, fun j k d1 d2 v1 e1 e2 e3 e4 => ?_, m _ _ E.sm, tabs_give E.tb fa ho po⟩, m, fun _ _ e _ _ => e, fun b e n => ?_, fun j d1 e => ?_, fun _ e => e⟩, rep⟩
  · by_cases hb : b = a
    · subst hb; rw [upd_same] at e; cases e; exact ho
    · rw [upd_ne hb] at e; exact E.le b u e
  · by_cases hj : i = j
    · subst hj
      have hi : i < env.length := (List.getElem?_eq_some_iff.mp h).1
      rw [List.getElem?_set_self hi] at e
      cases e
      exact ⟨_, hv, rep⟩
    · rw [List.getElem?_set_ne hj] at e
      obtain ⟨w, e1, r1⟩ := E.get j x e
      refine ⟨w, e1, ?_⟩
      obtain ⟨ow, dd⟩ := x
      cases ow with
      | false => exact Rep.mono m r1
      | true =>
        obtain ⟨b, rfl, fb, tb⟩ := r1
        refine ⟨b, rfl, ?_, tb.imp m fun o e _ => e⟩
        have nb : b ≠ a := fun z => by
          subst z
          exact hj (E.sep i j d dd _ h e hv e1)
        rw [upd_ne nb]; exact fb
  · have sel : ∀ {j : Nat} {d1 : D}, (env.set i (some (false, d)))[j]? = some (some (true, d1)) → env[j]? = some (some (true, d1)) := fun {j d1} e => by
      by_cases hj : i = j
      · subst hj
        have hi : i < env.length := (List.getElem?_eq_some_iff.mp h).1
        rw [List.getElem?_set_self hi] at e; cases e
      · rw [List.getElem?_set_ne hj] at e; exact e
    exact E.sep j k d1 d2 v1 (sel e1) (sel e2) e3 e4
  · by_cases hb : b = a
    · subst hb; exact .inr own
    · rw [upd_ne hb] at n; exact absurd e n
  · by_cases hj : i = j
    · subst hj; exact ⟨d, h⟩
    · rw [List.getElem?_set_ne hj] at e; exact ⟨d1, e⟩
end
end
end TT

set_option maxRecDepth 100000
set_option maxHeartbeats 4000000
/-! TB: what a piece of program is worth as a function of data: expressions, arguments, tests, statements. -/
namespace TT
open PySem PySem.Spec PyProof.Rows L2

/-- what an error bears -/
def XOk (T : Tb) (F H : Hp) : List (Str × D) → Option Addr → Prop
  | [], d => d = none
  | f :: fs, d => ∃ dd vs, d = some dd ∧ F dd = some (.xd vs) ∧ vs.map (·.1) = (f :: fs).map (·.1) ∧ Reps T F (vs.map (·.2)) ((f :: fs).map (·.2))
def ErrP (T : Tb) (W : WX) (s : St) (F H : Hp) (env : Ev) (c : Str) (fs : List (Str × D)) (env' : Ev) : Prop :=
  ∀ C d F' H', T.cl c = some C → Step T s F H env F' H' env' → XOk T F' H' fs d → W (.ref C) d s H'

/-- the relations between what the machine has and the data: H0 the heap ahead -/
abbrev Rel (A B : Type) := Hp → Hp → Hp → Ev → B → A → Prop
def PG {A B : Type} (T : Tb) (rel : Rel A B) (W : WX) (s : St) (F H : Hp) (env : Ev) (Q : B → Hp → Prop) : R A → Prop
  | .ok x env' => ∀ b F' H', Step T s F H env F' H' env' → rel H F' H' env' b x → Q b H'
  | .err c fs env' => ErrP T W s F H env c fs env'
  | .bad => False
def tG {A B : Type} (T : Tb) (rel : St → Rel A B) (W : WX) (m : M A) : St → Hp → (B → Hp → Prop) → Prop := fun s H Q =>
  ∃ F env, ERep T F H s env ∧ PG T (rel s) W s F H env Q (m env)
/-- what was free ahead of a later heap was free ahead of an earlier one -/
def RelOk {A B : Type} (rel : Rel A B) : Prop := ∀ H H1 F' H' env b x, (∀ a, H1 a = none → H a = none) → rel H1 F' H' env b x → rel H F' H' env b x

def relV (T : Tb) (s : St) : Rel (Bool × D) V := fun H0 F H env v x => VOk T s F H env v x ∧ (x.1 = true → ∀ a, v = .ref a → H0 a = none)
def relO (T : Tb) (s : St) : Rel Opd V := fun _ F H env v o => OOk T s F H env v o
def relB (_ : Tb) (_ : St) : Rel Bool Bool := fun _ _ _ _ b x => b = x
/-- values in a row; the owned ones new, and unlike each other -/
inductive OOks (T : Tb) (s : St) (F H : Hp) (env : Ev) : List V → List Opd → Prop
  | nil : OOks T s F H env [] []
  | cons {v : V} {vs : List V} {o : Opd} {os : List Opd} (h : OOk T s F H env v o) (r : OOks T s F H env vs os) : OOks T s F H env (v :: vs) (o :: os)
def relA (T : Tb) (s : St) : Rel (List Opd) (List V) := fun _ F H env vs os => OOks T s F H env vs os
def relU (_ : Tb) (_ : St) : Rel Unit Unit := fun _ _ _ _ _ _ => True
theorem relV_ok {T : Tb} {s : St} : RelOk (relV T s) := fun _ _ _ _ _ _ _ f h => ⟨h.1, fun o a e => f a (h.2 o a e)⟩
theorem relO_ok {T : Tb} {s : St} : RelOk (relO T s) := fun _ _ _ _ _ _ _ _ h => h
theorem relB_ok {T : Tb} {s : St} : RelOk (relB T s) := fun _ _ _ _ _ _ _ _ h => h
theorem relA_ok {T : Tb} {s : St} : RelOk (relA T s) := fun _ _ _ _ _ _ _ _ h => h

section
variable {T : Tb} {W : WX} {s : St} {F F' F1 H H' H1 : Hp} {env env1 env' : Ev}
theorem ErrP.later {c : Str} {fs : List (Str × D)} (h : ErrP T W s F H env c fs env') (q : Step T s F H env F1 H1 env1) : ErrP T W s F1 H1 env1 c fs env' :=
  fun C d F' H' hc st x => h C d F' H' hc (q.trans st) x
theorem PG.later {A B : Type} {rel : Rel A B} (ro : RelOk rel) {Q : B → Hp → Prop} : ∀ {r : R A}, PG T rel W s F H env Q r → Step T s F H env F1 H1 env1 → PG T rel W s F1 H1 env1 Q r
  | .ok x env', h, q => fun b F' H' st r => h b F' H' (q.trans st) (ro _ _ _ _ _ _ _ q.dom r)
  | .err c fs env', h, q => ErrP.later h q
  | .bad, h, _ => h
/-- one after the other -/
theorem PG.bind {A B C E : Type} {rel1 : Rel A B} {rel2 : Rel C E} (ro : RelOk rel2) {m : M A} {f : A → M C} {Q2 : E → Hp → Prop} {Q1 : B → Hp → Prop} (h : PG T rel2 W s F H env Q2 (M.bind m f env))
    (k : ∀ b x env1 F1 H1, m env = .ok x env1 → Step T s F H env F1 H1 env1 → rel1 H F1 H1 env1 b x → PG T rel2 W s F1 H1 env1 Q2 (f x env1) → Q1 b H1) : PG T rel1 W s F H env Q1 (m env) := by
  cases e : m env with
  | ok x env1 =>
    rw [bind_ok e] at h
    exact fun b F1 H1 st r => k b x env1 F1 H1 e st r (PG.later ro h st)
  | err c fs env1 =>
    rw [bind_err e] at h
    exact h
  | bad =>
    rw [bind_bad e] at h
    exact h
end

abbrev tV (T : Tb) (W : WX) (m : M (Bool × D)) : TE := tG T (relV T) W m
abbrev tO (T : Tb) (W : WX) (m : M Opd) : TE := tG T (relO T) W m
abbrev tT (T : Tb) (W : WX) (m : M Bool) : TT := tG T (relB T) W m
abbrev tA (T : Tb) (W : WX) (m : M (List Opd)) : TA := tG T (relA T) W m

theorem PEimp {X : Cx} {e : Expr} {t t' : TE} (h : PE X e t) (k : ∀ s H Q, t' s H Q → t s H Q) : PE X e t' := ⟨fun pins s σ H Q I q => h.run pins s σ H Q I (k _ _ _ q)⟩
theorem PTimp {X : Cx} {e : Expr} {t t' : TT} (h : PT X e t) (k : ∀ s H Q, t' s H Q → t s H Q) : PT X e t' := ⟨fun pins s σ H Q I q => h.run pins s σ H Q I (k _ _ _ q)⟩
theorem PWimp {X : Cx} {e : Expr} {t t' : TT} (h : PW X e t) (k : ∀ s H Q, t' s H Q → t s H Q) : PW X e t' := ⟨fun whole pins s σ H Q I q => h.run whole pins s σ H Q I (k _ _ _ q)⟩
theorem PAimp {X : Cx} {es : List Expr} {t t' : TA} (h : PA X es t) (k : ∀ s H Q, t' s H Q → t s H Q) : PA X es t' := ⟨fun pos pins s σ H Q I q => h.run pos pins s σ H Q I (k _ _ _ q)⟩
theorem PSimp {X : Cx} {st : Stmt} {t t' : TS} (h : PS X st t) (k : ∀ D s H, t' D s H → t D s H) : PS X st t' := ⟨fun pins s σ H D I q => h.run pins s σ H D I (k _ _ _ q)⟩
theorem PSsimp {X : Cx} {st : List Stmt} {t t' : TS} (h : PSs X st t) (k : ∀ D s H, t' D s H → t D s H) : PSs X st t' := ⟨fun pins s σ H D I q => h.run pins s σ H D I (k _ _ _ q)⟩

/-! ### values, operands -/
/-- a name, its container given up where it is owned -/
def nameM (i : Nat) : M (Bool × D) := fun env => match env[i]? with
  | some (some (false, d)) => .ok (false, d) env
  | some (some (true, d)) => .ok (false, d) (env.set i (some (false, d)))
  | _ => .bad
def slotM (i : Nat) : M Opd := fun env => match env[i]? with
  | some (some _) => .ok (.slot i) env
  | _ => .bad
def valM (m : M (Bool × D)) : M Opd := M.bind m fun x => M.pure (.val x)
/-- a value for a place in a container: given up where it is owned -/
def shM (m : M (Bool × D)) : M (Bool × D) := M.bind m fun x => M.pure (false, x.2)
def lookM (o : Opd) : M D := fun env => match look env o with
  | some x => .ok x.2 env
  | none => .bad

section
variable {T : Tb} {W : WX} {X : Cx} {e : Expr} {es : List Expr}
theorem tV_of (m : M (Bool × D)) {s : St} {H : Hp} {Q : VK} (h : tV T W m s H Q) : ∃ F env, ERep T F H s env ∧ PG T (relV T s) W s F H env Q (m env) := h
theorem pe_nameM {i : Nat} (h : PE X e (tVar i)) : PE X e (tV T W (nameM i)) := by
  refine PEimp h ?_
  rintro s H Q ⟨F, env, E, h⟩
  unfold nameM at h
  cases e1 : env[i]? with
  | none => rw [e1] at h; exact h.elim
  | some z =>
    rw [e1] at h
    cases z with
    | none => exact h.elim
    | some x =>
      obtain ⟨own, d⟩ := x
      obtain ⟨v, e2, r⟩ := E.get i _ e1
      cases own with
      | false => exact ⟨v, e2, h v F H (Step.refl E) ⟨.sh r, fun z => by cases z⟩⟩
      | true =>
        obtain ⟨F', st, r'⟩ := freeze E e1 e2
        exact ⟨v, e2, h v F' H st ⟨.sh r', fun z => by cases z⟩⟩
theorem pe_slotM {i : Nat} (h : PE X e (tVar i)) : PE X e (tO T W (slotM i)) := by
  refine PEimp h ?_
  rintro s H Q ⟨F, env, E, h⟩
  unfold slotM at h
  cases e1 : env[i]? with
  | none => rw [e1] at h; exact h.elim
  | some z =>
    rw [e1] at h
    cases z with
    | none => exact h.elim
    | some x =>
      obtain ⟨v, e2, r⟩ := E.get i _ e1
      exact ⟨v, e2, h v F H (Step.refl E) e2⟩
theorem pe_valM {m : M (Bool × D)} (h : PE X e (tV T W m)) : PE X e (tO T W (valM m)) := by
  refine PEimp h ?_
  rintro s H Q ⟨F, env, E, h⟩
  refine ⟨F, env, E, PG.bind (rel2 := relO T s) relO_ok h fun v x env1 F1 H1 _ st r h1 => ?_⟩
  exact h1 v F1 H1 (Step.refl st.rep) r.1
/-- an owned value is given up -/
theorem VOk.share {s : St} {F H : Hp} {env : Ev} {v : V} {x : Bool × D} (E : ERep T F H s env) (h : VOk T s F H env v x) (f : x.1 = true → ∀ a, v = .ref a → ¬ OwnE s env a) :
    ∃ F', Same F F' ∧ Same F' H ∧ (∀ a : Addr, F a = none → F' a ≠ none → ∀ (i : Nat) (d : D), env[i]? = some (some (true, d)) → s[i]? ≠ some (some (V.ref a))) ∧ (∀ a, F a = none → F' a ≠ none → x.1 = true ∧ v = .ref a) ∧ ERep T F' H s env ∧ Rep T F' v x.2 := by
  obtain ⟨own, d⟩ := x
  cases own with
  | false => exact ⟨F, Same.refl _, E.le, fun _ e n => absurd e n, fun _ e n => absurd e n, E, h.rep⟩
  | true =>
    obtain ⟨a, rfl, fa, t⟩ := h.rep
    have na := f rfl a rfl
    obtain ⟨o, ho, po⟩ := t.obj
    have m : Same F (upd F a o) := same_upd fa
    have only : ∀ b, F b = none → upd F a o b ≠ none → b = a := fun b e n => by
      by_cases hb : b = a
      · exact hb
      · rw [upd_ne hb] at n; exact absurd e n
    refine ⟨upd F a o, m, fun b u e => ?_, fun b e n i d' z y => ?_, fun b e n => ⟨rfl, by rw [only b e n]⟩, ⟨fun b u e => ?_, E.len, fun i y e => ?_, E.sep, m _ _ E.sm, tabs_give E.tb fa ho po⟩, ?_⟩
    · by_cases hb : b = a
      · subst hb; rw [upd_same] at e; cases e; exact ho
      · rw [upd_ne hb] at e; exact E.le b u e
    · have := only b e n
      subst this
      exact na ⟨i, d', z, y⟩
    · by_cases hb : b = a
      · subst hb; rw [upd_same] at e; cases e; exact ho
      · rw [upd_ne hb] at e; exact E.le b u e
    · obtain ⟨w, e1, r⟩ := E.get i y e
      refine ⟨w, e1, ?_⟩
      obtain ⟨ow, dd⟩ := y
      cases ow with
      | false => exact Rep.mono m r
      | true =>
        obtain ⟨b, rfl, fb, tb⟩ := r
        have nb : b ≠ a := fun z => by
          subst z
          exact na ⟨i, dd, e, e1⟩
        exact ⟨b, rfl, by rw [upd_ne nb]; exact fb, tb.imp m fun o e _ => e⟩
    · cases d with
      | lst ds =>
        obtain ⟨vs, q, r⟩ := t
        rw [ho] at q; cases q
        exact .lst upd_same (Reps.mono m r)
      | dct ks ds =>
        obtain ⟨kvs, q, q2, r⟩ := t
        rw [ho] at q; cases q
        exact .dct upd_same q2 rfl (Reps.mono m r)
      | ins c ns ds =>
        obtain ⟨C, dx, fs, q0, q, q2, r⟩ := t
        rw [ho] at q; cases q
        exact .ins q0 upd_same q2 rfl (Reps.mono m r)
      | _ => exact (show False from t).elim
theorem pe_shM {m : M (Bool × D)} (h : PE X e (tV T W m)) : PE X e (tV T W (shM m)) := by
  refine PEimp h ?_
  rintro s H Q ⟨F, env, E, h⟩
  refine ⟨F, env, E, PG.bind (rel2 := relV T s) relV_ok h fun v x env1 F1 H1 e1 st r _ => ?_⟩
  obtain ⟨F', m1, l1, n1, w1, E1, r1⟩ := VOk.share st.rep r.1 r.1.apart
  have h2 : PG T (relV T s) W s F H env Q (.ok (false, x.2) env1) := by
    have z : shM m env = .ok (false, x.2) env1 := bind_ok e1
    rw [z] at h; exact h
  refine h2 v F' H1 ⟨E1, st.mono.trans m1, st.frame, fun a e n => ?_, st.own, st.dom⟩ ⟨.sh r1, fun z => by cases z⟩
  by_cases q : F1 a = none
  · obtain ⟨w2, w3⟩ := w1 a q n
    exact .inl (r.2 w2 a w3)
  · exact st.fresh a e q

/-! ### arguments -/
def nilM : M (List Opd) := M.pure []
def consM (m : M Opd) (ms : M (List Opd)) : M (List Opd) := M.bind m fun o => M.bind ms fun os => M.pure (o :: os)
theorem OOks.step {s : St} {F H F' H' : Hp} {env env' : Ev} : ∀ {vs : List V} {os : List Opd}, OOks T s F H env vs os → Step T s F H env F' H' env' → OOks T s F' H' env' vs os
  | _, _, .nil, _ => .nil
  | _, _, .cons h r, q => .cons (h.step q) (OOks.step r q)
theorem pa_nilM : PA X [] (tA T W nilM) := by
  refine PAimp pa_nil ?_
  rintro s H Q ⟨F, env, E, h⟩
  exact h [] F H (Step.refl E) .nil
theorem pa_consM {m : M Opd} {ms : M (List Opd)} (ha : PE X e (tO T W m)) (hr : PA X es (tA T W ms)) (hs : starEach (e :: es) X.env = (false, eval e X.env) :: starEach es X.env := by rfl) : PA X (e :: es) (tA T W (consM m ms)) := by
  refine PAimp (pa_cons ha hr hs) ?_
  rintro s H Q ⟨F, env, E, h⟩
  refine ⟨F, env, E, PG.bind (rel2 := relA T s) relA_ok h fun v o env1 F1 H1 _ st r h1 => ?_⟩
  refine ⟨F1, env1, st.rep, PG.bind (rel2 := relA T s) relA_ok h1 fun vs os env2 F2 H2 _ st2 r2 h2 => ?_⟩
  exact h2 (v :: vs) F2 H2 (Step.refl st2.rep) (.cons (r.step st2) r2)

/-! ### statements -/
inductive Flw where
  | next | brk | cont
  | ret (x : Bool × D)
def OwnL (rp : List Nat) (s : St) (env : Ev) (a : Addr) : Prop := ∃ (i : Nat) (d : D), i ∉ rp ∧ env[i]? = some (some (true, d)) ∧ s[i]? = some (some (.ref a))
structure StepS (T : Tb) (rp : List Nat) (s : St) (F H : Hp) (env : Ev) (s' : St) (F' H' : Hp) (env' : Ev) : Prop where
  rep : ERep T F' H' s' env'
  mono : Same F F'
  frame : ∀ a o, H a = some o → NT o → ¬ OwnE s env a → H' a = some o
  fresh : ∀ a, F a = none → F' a ≠ none → H a = none ∨ OwnE s env a
  ownL : ∀ a, OwnL rp s' env' a → H a = none ∨ OwnL rp s env a
  par : ∀ i ∈ rp, s'[i]? = s[i]? ∧ ∀ d, env'[i]? = some (some (true, d)) → ∃ e, env[i]? = some (some (true, e))
  dom : ∀ a, H' a = none → H a = none
end
theorem OwnL.own {rp : List Nat} {s : St} {env : Ev} {a : Addr} (h : OwnL rp s env a) : OwnE s env a := let ⟨i, d, _, e1, e2⟩ := h; ⟨i, d, e1, e2⟩
section
variable {T : Tb} {rp : List Nat} {s s1 s2 s' : St} {F F1 F2 F' H H1 H2 H' : Hp} {env env1 env2 env' : Ev}
theorem StepS.ownE (q : StepS T rp s F H env s' F' H' env') {a : Addr} (h : OwnE s' env' a) : H a = none ∨ OwnE s env a := by
  obtain ⟨i, d, e1, e2⟩ := h
  by_cases hi : i ∈ rp
  · obtain ⟨p1, p2⟩ := q.par i hi
    obtain ⟨e, p3⟩ := p2 d e1
    exact .inr ⟨i, e, p3, by rw [← p1]; exact e2⟩
  · rcases q.ownL a ⟨i, d, hi, e1, e2⟩ with z | z
    · exact .inl z
    · exact .inr z.own
theorem StepS.refl (E : ERep T F H s env) : StepS T rp s F H env s F H env :=
  ⟨E, Same.refl _, fun _ _ e _ _ => e, fun _ e n => absurd e n, fun _ h => .inr h, fun i _ => ⟨rfl, fun d e => ⟨d, e⟩⟩, fun _ e => e⟩
theorem StepS.trans (a : StepS T rp s F H env s1 F1 H1 env1) (b : StepS T rp s1 F1 H1 env1 s2 F2 H2 env2) : StepS T rp s F H env s2 F2 H2 env2 where
  rep := b.rep
  mono := a.mono.trans b.mono
  frame := fun c o e t n => b.frame c o (a.frame c o e t n) t fun z => (a.ownE z).elim (fun y => by rw [e] at y; cases y) n
  fresh := fun c e n => by
    by_cases q : F1 c = none
    · rcases b.fresh c q n with z | z
      · exact .inl (a.dom c z)
      · exact a.ownE z
    · exact a.fresh c e q
  ownL := fun c h => (b.ownL c h).elim (fun z => .inl (a.dom c z)) fun z => a.ownL c z
  par := fun i hi => by
    obtain ⟨a1, a2⟩ := a.par i hi
    obtain ⟨b1, b2⟩ := b.par i hi
    refine ⟨b1.trans a1, fun d e => ?_⟩
    obtain ⟨e', h'⟩ := b2 d e
    exact a2 e' h'
  dom := fun c e => a.dom c (b.dom c e)
theorem Step.S (q : Step T s F H env F' H' env') : StepS T rp s F H env s F' H' env' :=
  ⟨q.rep, q.mono, q.frame, q.fresh, fun a ⟨i, d, hi, e1, e2⟩ => by
    obtain ⟨e, e3⟩ := q.own i d e1
    exact .inr ⟨i, e, hi, e3, e2⟩, fun i _ => ⟨rfl, fun d e => q.own i d e⟩, q.dom⟩
/-- a slot takes a value -/
theorem ERep.put {i : Nat} {v : V} {x : Bool × D} (E : ERep T F H s env) (h : VOk T s F H env v x) (hi : i < env.length) : ERep T F H (s.set i (some v)) (env.set i (some x)) where
  le := E.le
  len := by rw [List.length_set, List.length_set]; exact E.len
  get := fun j y e => by
    by_cases hj : i = j
    · subst hj
      rw [List.getElem?_set_self hi] at e
      cases e
      exact ⟨v, List.getElem?_set_self (by rw [E.len]; exact hi), h.rep⟩
    · rw [List.getElem?_set_ne hj] at e
      obtain ⟨w, e1, r⟩ := E.get j y e
      exact ⟨w, by rw [List.getElem?_set_ne hj]; exact e1, r⟩
  sep := fun j k d1 d2 w e1 e2 e3 e4 => by
    have no : ∀ {k : Nat} {d2 : D} {d1 : D}, i ≠ k → x = (true, d1) → env[k]? = some (some (true, d2)) → s[k]? = some (some v) → False := fun {k d2 d1} hk hx e2 e4 => by
      obtain ⟨u, e5, r⟩ := E.get k _ e2
      rw [e4] at e5
      cases e5
      obtain ⟨a, rfl, _, _⟩ := (show ∃ a, v = .ref a ∧ F a = none ∧ Top T F H a d2 from r)
      exact h.apart (by rw [hx]) a rfl ⟨k, d2, e2, e4⟩
    by_cases hj : i = j
    · subst hj
      by_cases hk : i = k
      · exact hk
      · rw [List.getElem?_set_self hi] at e1
        rw [List.getElem?_set_ne hk] at e2 e4
        rw [List.getElem?_set_self (by rw [E.len]; exact hi)] at e3
        cases e1; cases e3
        exact (no hk rfl e2 e4).elim
    · rw [List.getElem?_set_ne hj] at e1 e3
      by_cases hk : i = k
      · subst hk
        rw [List.getElem?_set_self hi] at e2
        rw [List.getElem?_set_self (by rw [E.len]; exact hi)] at e4
        cases e2; cases e4
        exact (no hj rfl e1 e3).elim
      · rw [List.getElem?_set_ne hk] at e2 e4
        exact E.sep j k d1 d2 w e1 e2 e3 e4
  sm := E.sm
  tb := E.tb
theorem StepS.put {i : Nat} {v : V} {x : Bool × D} (E : ERep T F H s env) (h : VOk T s F H env v x) (hi : i < env.length) (hr : i ∉ rp) (hf : x.1 = true → ∀ a, v = .ref a → H a = none) :
    StepS T rp s F H env (s.set i (some v)) F H (env.set i (some x)) :=
  ⟨E.put h hi, Same.refl _, fun _ _ e _ _ => e, fun _ e n => absurd e n, fun a ⟨j, d, hj, e1, e2⟩ => by
    by_cases hij : i = j
    · subst hij
      rw [List.getElem?_set_self hi] at e1
      rw [List.getElem?_set_self (by rw [E.len]; exact hi)] at e2
      cases e1; cases e2
      exact .inl (hf rfl a rfl)
    · rw [List.getElem?_set_ne hij] at e1 e2
      exact .inr ⟨j, d, hj, e1, e2⟩, fun j hj => by
    have hij : i ≠ j := fun z => hr (z ▸ hj)
    rw [List.getElem?_set_ne hij, List.getElem?_set_ne hij]
    exact ⟨rfl, fun d e => ⟨d, e⟩⟩, fun _ e => e⟩
/-- .. whose value was new since an earlier state -/
theorem StepS.put_new {i : Nat} {v : V} {x : Bool × D} (q : Step T s F H env F1 H1 env1) (h : VOk T s F1 H1 env1 v x) (hi : i < env1.length) (hr : i ∉ rp) (hf : x.1 = true → ∀ a, v = .ref a → H a = none) :
    StepS T rp s F H env (s.set i (some v)) F1 H1 (env1.set i (some x)) := by
  have a : StepS T rp s F H env s F1 H1 env1 := q.S
  refine ⟨q.rep.put h hi, a.mono, a.frame, a.fresh, fun c ⟨j, d, hj, e1, e2⟩ => ?_, fun j hj => ?_, a.dom⟩
  · by_cases hij : i = j
    · subst hij
      rw [List.getElem?_set_self hi] at e1
      rw [List.getElem?_set_self (by rw [q.rep.len]; exact hi)] at e2
      cases e1; cases e2
      exact .inl (hf rfl c rfl)
    · rw [List.getElem?_set_ne hij] at e1 e2
      exact a.ownL c ⟨j, d, hj, e1, e2⟩
  · have hij : i ≠ j := fun z => hr (z ▸ hj)
    rw [List.getElem?_set_ne hij, List.getElem?_set_ne hij]
    exact a.par j hj
end

/-- what is wanted behind a statement -/
def PSt (T : Tb) (W : WX) (rp : List Nat) (s : St) (F H : Hp) (env : Ev) (D : Ends) : R Flw → Prop
  | .ok .next env' => ∀ s' F' H', StepS T rp s F H env s' F' H' env' → D.nx s' H'
  | .ok .brk env' => ∀ s' F' H', StepS T rp s F H env s' F' H' env' → D.bk s' H'
  | .ok .cont env' => ∀ s' F' H', StepS T rp s F H env s' F' H' env' → D.ct s' H'
  | .ok (.ret x) env' => ∀ v s' F' H', StepS T rp s F H env s' F' H' env' → VRep T F' H' v x → (x.1 = true → ∀ a, v = .ref a → H a = none ∨ OwnL rp s env a) → D.rt v H'
  | .err c fs env' => ∀ C d s' F' H', T.cl c = some C → StepS T rp s F H env s' F' H' env' → XOk T F' H' fs d → W (.ref C) d s' H'
  | .bad => False
def tS (T : Tb) (W : WX) (rp : List Nat) (m : M Flw) : TS := fun D s H => ∃ F env, ERep T F H s env ∧ PSt T W rp s F H env D (m env)

section
variable {T : Tb} {W : WX} {rp : List Nat} {s s1 : St} {F F1 H H1 : Hp} {env env1 : Ev} {D : Ends}
theorem PSt.later (q : StepS T rp s F H env s1 F1 H1 env1) : ∀ {r : R Flw}, PSt T W rp s F H env D r → PSt T W rp s1 F1 H1 env1 D r
  | .ok .next env', h => fun s' F' H' st => h s' F' H' (q.trans st)
  | .ok .brk env', h => fun s' F' H' st => h s' F' H' (q.trans st)
  | .ok .cont env', h => fun s' F' H' st => h s' F' H' (q.trans st)
  | .ok (.ret x) env', h => fun v s' F' H' st r f => h v s' F' H' (q.trans st) r fun o a e => (f o a e).elim (fun z => .inl (q.dom a z)) fun z => q.ownL a z
  | .err c fs env', h => fun C d s' F' H' hc st x => h C d s' F' H' hc (q.trans st) x
  | .bad, h => h
/-- an expression ahead of the rest of a statement -/
theorem PSt.bindE {A B : Type} {rel : Rel A B} {m : M A} {f : A → M Flw} {Q : B → Hp → Prop} (h : PSt T W rp s F H env D (M.bind m f env))
    (k : ∀ b x env1 F1 H1, m env = .ok x env1 → Step T s F H env F1 H1 env1 → rel H F1 H1 env1 b x → PSt T W rp s F1 H1 env1 D (f x env1) → Q b H1) : PG T rel W s F H env Q (m env) := by
  cases e : m env with
  | ok x env1 =>
    rw [bind_ok e] at h
    exact fun b F1 H1 st r => k b x env1 F1 H1 e st r (PSt.later st.S h)
  | err c fs env1 =>
    rw [bind_err e] at h
    exact fun C d F' H' hc st x => h C d s F' H' hc st.S x
  | bad =>
    rw [bind_bad e] at h
    exact h
end

/-- statements in a row -/
def seqM (m k : M Flw) : M Flw := M.bind m fun f => match f with
  | .next => k
  | f => M.pure f
section
variable {T : Tb} {W : WX} {rp : List Nat} {X : Cx} {st : Stmt} {sts : List Stmt} {e : Expr} {pos : Pos}
theorem pss_nilM : PSs X [] (tS T W rp (M.pure .next)) := by
  refine PSsimp pss_nil ?_
  rintro D s H ⟨F, env, E, h⟩
  exact h s F H (StepS.refl E)
theorem PSt.cases1 {s : St} {F H : Hp} {env : Ev} {D : Ends} {m k : M Flw} (h : PSt T W rp s F H env D (seqM m k env)) : PSt T W rp s F H env { D with nx := tS T W rp k D } (m env) := by
  unfold seqM at h
  cases e : m env with
  | ok f env1 =>
    rw [bind_ok e] at h
    cases f with
    | next => exact fun s1 F1 H1 q => ⟨F1, env1, q.rep, PSt.later q h⟩
    | brk => exact h
    | cont => exact h
    | ret x => exact h
  | err c fs env1 =>
    rw [bind_err e] at h
    exact h
  | bad =>
    rw [bind_bad e] at h
    exact h
theorem pss_consM {m k : M Flw} (h1 : PS X st (tS T W rp m)) (h2 : PSs X sts (tS T W rp k)) : PSs X (st :: sts) (tS T W rp (seqM m k)) := by
  refine PSsimp (pss_cons h1 h2) ?_
  rintro D s H ⟨F, env, E, h⟩
  exact ⟨F, env, E, h.cases1⟩
theorem pss_oneM {m : M Flw} (h1 : PS X st (tS T W rp m)) : PSs X [st] (tS T W rp m) := pss_one h1
theorem ps_passM : PS X (.Pass pos) (tS T W rp (M.pure .next)) := by
  refine PSimp ps_pass ?_
  rintro D s H ⟨F, env, E, h⟩
  exact h s F H (StepS.refl E)
theorem ps_breakM : PS X (.Break pos) (tS T W rp (M.pure .brk)) := by
  refine PSimp ps_break ?_
  rintro D s H ⟨F, env, E, h⟩
  exact h s F H (StepS.refl E)
theorem ps_contM : PS X (.Continue pos) (tS T W rp (M.pure .cont)) := by
  refine PSimp ps_continue ?_
  rintro D s H ⟨F, env, E, h⟩
  exact h s F H (StepS.refl E)
/-- code that is never come to -/
theorem ps_badM : PS X st (tS T W rp M.fail) := PSimp ps_never fun D s H ⟨_, _, _, h⟩ => h
theorem pss_badM : PSs X sts (tS T W rp M.fail) := PSsimp pss_never fun D s H ⟨_, _, _, h⟩ => h
theorem pe_badM : PE X e (tV T W M.fail) := ⟨fun _ _ _ _ _ _ ⟨_, _, _, h⟩ => h.elim⟩

/-- return e: a container of the def's own is handed on -/
def retM (m : M (Bool × D)) : M Flw := M.bind m fun x => M.pure (.ret x)
def retSlotM (i : Nat) : M Flw := fun env => match env[i]? with
  | some (some x) => .ok (.ret x) env
  | _ => .bad
theorem ps_retM {m : M (Bool × D)} (h : PE X e (tV T W m)) : PS X (.Return (some e) pos) (tS T W rp (retM m)) := by
  refine PSimp (ps_ret h) ?_
  rintro D s H ⟨F, env, E, h⟩
  refine ⟨F, env, E, ?_⟩
  unfold retM at h
  cases e1 : m env with
  | ok x env1 =>
    rw [bind_ok e1] at h
    exact fun v F1 H1 st r => h v s F1 H1 st.S r.1.rep fun o a z => .inl (r.2 o a z)
  | err c fs env1 =>
    rw [bind_err e1] at h
    exact fun C d F' H' hc st x => h C d s F' H' hc st.S x
  | bad =>
    rw [bind_bad e1] at h
    exact h
theorem ps_retSlotM {i : Nat} (h : PE X e (tVar i)) (hi : rp.contains i = false := by rfl) : PS X (.Return (some e) pos) (tS T W rp (retSlotM i)) := by
  refine PSimp (ps_ret h) ?_
  rintro D s H ⟨F, env, E, h⟩
  unfold retSlotM at h
  cases e1 : env[i]? with
  | none => rw [e1] at h; exact h.elim
  | some z =>
    rw [e1] at h
    cases z with
    | none => exact h.elim
    | some x =>
      obtain ⟨v, e2, r⟩ := E.get i _ e1
      refine ⟨v, e2, h v s F H (StepS.refl E) r fun o a z => .inr ⟨i, x.2, ?_, ?_, by rw [← z]; exact e2⟩⟩
      · intro q
        have : rp.contains i = true := by simpa using q
        rw [hi] at this; cases this
      · obtain ⟨ow, d⟩ := x
        cases o
        exact e1
theorem ps_retNM : PS X (.Return none pos) (tS T W rp (M.pure (.ret (false, .non)))) := by
  refine PSimp ps_retN ?_
  rintro D s H ⟨F, env, E, h⟩
  exact h .non s F H (StepS.refl E) .non fun z => by cases z
/-- the value is dropped -/
def dropM (m : M (Bool × D)) : M Flw := M.bind m fun _ => M.pure .next
theorem ps_exprM {m : M (Bool × D)} (h : PE X e (tV T W m)) (hs : swapsWith e none pos.line X.env = pure false := by rfl) : PS X (.Expr e pos) (tS T W rp (dropM m)) := by
  refine PSimp (ps_expr h hs) ?_
  rintro D s H ⟨F, env, E, h⟩
  exact ⟨F, env, E, PSt.bindE (rel := relV T s) h fun v x env1 F1 H1 _ st r h1 => h1 s F1 H1 (StepS.refl st.rep)⟩
/-- x = e -/
def putM (i : Nat) (x : Bool × D) : M Flw := fun env => if i < env.length then .ok .next (env.set i (some x)) else .bad
def asgM (i : Nat) (m : M (Bool × D)) : M Flw := M.bind m (putM i)
theorem notIn {i : Nat} (hi : rp.contains i = false) : i ∉ rp := fun q => by
  have : rp.contains i = true := by simpa using q
  rw [hi] at this; cases this
theorem asg_core {i : Nat} {m : M (Bool × D)} (hi : i ∉ rp) {D : Ends} {s : St} {H : Hp} (h : tS T W rp (asgM i m) D s H) : tV T W m s H fun v H1 => gName i v s H1 D.nx := by
  obtain ⟨F, env, E, h⟩ := h
  refine ⟨F, env, E, ?_⟩
  unfold asgM at h
  cases e1 : m env with
  | ok x env1 =>
    rw [bind_ok e1] at h
    unfold putM at h
    by_cases hl : i < env1.length
    · rw [if_pos hl] at h
      exact fun v F1 H1 st r => h _ F1 H1 (.put_new st r.1 hl hi r.2)
    · rw [if_neg hl] at h; exact h.elim
  | err c fs env1 =>
    rw [bind_err e1] at h
    exact fun C d F' H' hc st x => h C d s F' H' hc st.S x
  | bad =>
    rw [bind_bad e1] at h
    exact h
theorem ps_asgM {i : Nat} {x : Str} {m : M (Bool × D)} {pos' : Pos} (hN : X.N.Nodup) (hn : X.N[i]? = some x) (hx : Loc X.env.scope x) (h : PE X e (tV T W m)) (hi : rp.contains i = false := by rfl) (hs : swapsWith e (some (.Name x pos')) pos.line X.env = pure false := by rfl)
    (hf : X.fn x = true ∨ X.env.scope.names.lookup x = some .local := by first | exact .inl rfl | exact .inr rfl | assumption) : PS X (.Assign [.Name x pos'] e pos) (tS T W rp (asgM i m)) :=
  PSimp (ps_set hN hn hx h hs hf) fun D s H h => asg_core (notIn hi) h
/-- if -/
def ifM (c : M Bool) (a b : M Flw) : M Flw := M.bind c fun k => match k with
  | true => a
  | false => b
theorem ps_ifM {c : Expr} {sa sb : List Stmt} {mc : M Bool} {ma mb : M Flw} (hc : PT X c (tT T W mc)) (ha : PSs X sa (tS T W rp ma)) (hb : PSs X sb (tS T W rp mb)) : PS X (.If c sa sb pos) (tS T W rp (ifM mc ma mb)) := by
  refine PSimp (ps_if hc ha hb) ?_
  rintro D s H ⟨F, env, E, h⟩
  refine ⟨F, env, E, PSt.bindE (rel := relB T s) h fun b k env1 F1 H1 _ st r h1 => ?_⟩
  have r : b = k := r
  subst r
  cases b with
  | true => rw [if_pos rfl]; exact ⟨F1, env1, st.rep, h1⟩
  | false => rw [if_neg Bool.false_ne_true]; exact ⟨F1, env1, st.rep, h1⟩
end
end TT

set_option maxRecDepth 100000
set_option maxHeartbeats 4000000
/-! TC: displays, operators, comparisons, subscripts as functions of data. -/
namespace TT
open PySem PySem.Spec PyProof.Rows L2

/-- the most items -/
abbrev most : Nat := 16777216
theorem most_line : most = sizeLine := sizeLine_eq.symm

section
variable {T : Tb} {W : WX} {X : Cx} {e a b : Expr} {es : List Expr} {pos : Pos}
/-! ### constants -/
def cstM (d : D) : M (Bool × D) := M.pure (false, d)
theorem pe_cstM {d : D} {v : V} (h : PE X e (tC v)) (r : ∀ F, Rep T F v d) : PE X e (tV T W (cstM d)) := by
  refine PEimp h ?_
  rintro s H Q ⟨F, env, E, h⟩
  exact h v F H (Step.refl E) ⟨.sh (r F), fun z => by cases z⟩
theorem pe_intM {i : Int} {j : Nat} : PE X (.Constant (.int i) j pos) (tV T W (cstM (.int i))) := pe_cstM pe_int fun _ => .int i
theorem pe_blM {b : Bool} {j : Nat} : PE X (.Constant (.bool b) j pos) (tV T W (cstM (.bl b))) := pe_cstM pe_bl fun _ => .bl b
theorem pe_nonM {j : Nat} : PE X (.Constant .none j pos) (tV T W (cstM .non)) := pe_cstM pe_non fun _ => .non
theorem pe_strM {x : Str} {j : Nat} : PE X (.Constant (.str x) j pos) (tV T W (cstM (.str x))) := pe_cstM pe_str fun _ => .str x

/-! ### displays -/
def shs : List Opd → Option (List D)
  | [] => some []
  | .val (false, d) :: os => (shs os).map (d :: ·)
  | _ => none
theorem shs_reps {s : St} {F H : Hp} {env : Ev} : ∀ {vs : List V} {os : List Opd} {ds : List D}, OOks T s F H env vs os → shs os = some ds → Reps T F vs ds
  | _, _, _, .nil, h => by cases h; exact .nil
  | _, _, _, .cons (o := .slot i) _ _, h => by cases h
  | _, _, _, .cons (o := .val (true, d)) _ _, h => by cases h
  | _, _, ds, .cons (o := .val (false, d)) (os := os) h r, z => by
    have z' : (shs os).map (d :: ·) = some ds := z
    cases q : shs os with
    | none => rw [q] at z'; cases z'
    | some es =>
      rw [q] at z'
      cases z'
      exact .cons (show VOk T _ F _ _ _ (false, d) from h).rep (shs_reps r q)
def tupM (ms : M (List Opd)) : M (Bool × D) := M.bind ms fun os env => match shs os with
  | some ds => if ds.length ≤ most then .ok (false, .tup ds) env else .bad
  | none => .bad
def lstM (ms : M (List Opd)) : M (Bool × D) := M.bind ms fun os env => match shs os with
  | some ds => if ds.length ≤ most then .ok (true, .lst ds) env else .bad
  | none => .bad
theorem pe_tupM {ms : M (List Opd)} {k : Nat} (h : PA X es (tA T W ms)) : PE X (.Tuple es k pos) (tV T W (tupM ms)) := by
  refine PEimp (pe_tup h) ?_
  rintro s H Q ⟨F, env, E, h⟩
  refine ⟨F, env, E, PG.bind (rel2 := relV T s) relV_ok h fun vs os env1 F1 H1 _ st r h1 => ?_⟩
  cases q : shs os with
  | none => simp only [q] at h1; exact h1.elim
  | some ds =>
    simp only [q] at h1
    have rr := shs_reps r q
    by_cases hl : ds.length ≤ most
    · rw [if_pos hl] at h1
      refine ⟨by rw [rr.length, ← most_line]; exact hl, fun p hp => ?_⟩
      obtain ⟨st2, ok2⟩ := (New.tup st.rep.le hp rr).step st.rep
      exact h1 _ _ _ st2 ⟨ok2, fun z => by cases z⟩
    · rw [if_neg hl] at h1; exact h1.elim
theorem pe_lstM {ms : M (List Opd)} (h : PA X es (tA T W ms)) : PE X (.List es pos) (tV T W (lstM ms)) := by
  refine PEimp (pe_lst h) ?_
  rintro s H Q ⟨F, env, E, h⟩
  refine ⟨F, env, E, PG.bind (rel2 := relV T s) relV_ok h fun vs os env1 F1 H1 _ st r h1 => ?_⟩
  cases q : shs os with
  | none => simp only [q] at h1; exact h1.elim
  | some ds =>
    simp only [q] at h1
    have rr := shs_reps r q
    by_cases hl : ds.length ≤ most
    · rw [if_pos hl] at h1
      refine ⟨by rw [rr.length, ← most_line]; exact hl, fun p hp => ?_⟩
      have nw := New.lst st.rep.le hp rr
      obtain ⟨st2, ok2⟩ := nw.step st.rep
      exact h1 _ _ _ st2 ⟨ok2, nw.own⟩
    · rw [if_neg hl] at h1; exact h1.elim

/-! ### an operation on data -/
def op1M (f : D → Option (Bool × D)) (o : Opd) : M (Bool × D) := fun env => match look env o with
  | some x => match f x.2 with
    | some z => .ok z env
    | none => .bad
  | none => .bad
def op2M (f : D → D → Option (Bool × D)) (o p : Opd) : M (Bool × D) := fun env => match look env o, look env p with
  | some x, some y => match f x.2 y.2 with
    | some z => .ok z env
    | none => .bad
  | _, _ => .bad
def looks (env : Ev) : List Opd → Option (List D)
  | [] => some []
  | o :: os => match look env o, looks env os with
    | some x, some ds => some (x.2 :: ds)
    | _, _ => none
def opsM (f : List D → Option (Bool × D)) (os : List Opd) : M (Bool × D) := fun env => match looks env os with
  | some ds => match f ds with
    | some z => .ok z env
    | none => .bad
  | none => .bad
def bin2 (f : D → D → Option (Bool × D)) (ma mb : M Opd) : M (Bool × D) := M.bind ma fun o => M.bind mb fun p => op2M f o p
def un1 (f : D → Option (Bool × D)) (ma : M Opd) : M (Bool × D) := M.bind ma fun o => op1M f o
def callN (f : List D → Option (Bool × D)) (ms : M (List Opd)) : M (Bool × D) := M.bind ms fun os => opsM f os

/-- values that bear data, read at the top -/
inductive TReps (T : Tb) (F H : Hp) : List V → List D → Prop
  | nil : TReps T F H [] []
  | cons {v : V} {vs : List V} {d : D} {ds : List D} (h : TRep T F H v d) (r : TReps T F H vs ds) : TReps T F H (v :: vs) (d :: ds)
theorem OOks.top {s : St} {F H : Hp} {env : Ev} (E : ERep T F H s env) : ∀ {vs : List V} {os : List Opd} {ds : List D}, OOks T s F H env vs os → looks env os = some ds → TReps T F H vs ds
  | _, _, _, .nil, h => by cases h; exact .nil
  | _, _, ds, .cons (o := o) (os := os) h r, z => by
    unfold looks at z
    cases e1 : look env o with
    | none => rw [e1] at z; cases z
    | some x =>
      cases e2 : looks env os with
      | none => rw [e1, e2] at z; cases z
      | some es =>
        rw [e1, e2] at z
        cases z
        exact .cons (h.top E e1) (OOks.top E r e2)
/-- a rule by values serves a function of data -/
def Gives (T : Tb) (F H : Hp) (x : Bool × D) (go : VK → Prop) : Prop := ∀ Q : VK, (∀ v F' H', New T F H F' H' v x → Q v H') → go Q
def Ok1 (T : Tb) (r : V → Hp → VK → Prop) (f : D → Option (Bool × D)) : Prop := ∀ F H v d x, Same F H → TRep T F H v d → f d = some x → Gives T F H x (r v H)
def Ok2 (T : Tb) (r : R2) (f : D → D → Option (Bool × D)) : Prop := ∀ F H v w d e x, Same F H → TRep T F H v d → TRep T F H w e → f d e = some x → Gives T F H x (r v w H)
def OkN (T : Tb) (r : List V → Hp → VK → Prop) (f : List D → Option (Bool × D)) : Prop := ∀ F H vs ds x, Same F H → TReps T F H vs ds → f ds = some x → Gives T F H x (r vs H)
theorem Gives.same {F H : Hp} {v : V} {d : D} {Q : VK} (l : Same F H) (r : Rep T F v d) (g : ∀ v F' H', New T F H F' H' v (false, d) → Q v H') : Q v H := g v F H (New.here l r)
theorem use1 {r : V → Hp → VK → Prop} {f : D → Option (Bool × D)} (h : Ok1 T r f) {s : St} {F H : Hp} {env : Ev} {v : V} {o : Opd} {Q : VK} (E : ERep T F H s env) (ro : OOk T s F H env v o)
    (g : PG T (relV T s) W s F H env Q (op1M f o env)) : r v H Q := by
  unfold op1M at g
  cases e1 : look env o with
  | none => rw [e1] at g; exact g.elim
  | some x =>
    rw [e1] at g
    cases e2 : f x.2 with
    | none => simp only [e2] at g; exact g.elim
    | some z =>
      simp only [e2] at g
      exact h F H v x.2 z E.le (ro.top E e1) e2 Q fun w F' H' n => g w F' H' (n.step E).1 ⟨(n.step E).2, n.own⟩
theorem use2 {r : R2} {f : D → D → Option (Bool × D)} (h : Ok2 T r f) {s : St} {F H : Hp} {env : Ev} {v w : V} {o p : Opd} {Q : VK} (E : ERep T F H s env) (ro : OOk T s F H env v o) (rp : OOk T s F H env w p)
    (g : PG T (relV T s) W s F H env Q (op2M f o p env)) : r v w H Q := by
  unfold op2M at g
  cases e1 : look env o with
  | none => simp only [e1] at g; exact g.elim
  | some x =>
    cases e2 : look env p with
    | none => simp only [e1, e2] at g; exact g.elim
    | some y =>
      simp only [e1, e2] at g
      cases e3 : f x.2 y.2 with
      | none => simp only [e3] at g; exact g.elim
      | some z =>
        simp only [e3] at g
        exact h F H v w x.2 y.2 z E.le (ro.top E e1) (rp.top E e2) e3 Q fun w F' H' n => g w F' H' (n.step E).1 ⟨(n.step E).2, n.own⟩
theorem useN {r : List V → Hp → VK → Prop} {f : List D → Option (Bool × D)} (h : OkN T r f) {s : St} {F H : Hp} {env : Ev} {vs : List V} {os : List Opd} {Q : VK} (E : ERep T F H s env) (ro : OOks T s F H env vs os)
    (g : PG T (relV T s) W s F H env Q (opsM f os env)) : r vs H Q := by
  unfold opsM at g
  cases e1 : looks env os with
  | none => rw [e1] at g; exact g.elim
  | some ds =>
    rw [e1] at g
    cases e2 : f ds with
    | none => simp only [e2] at g; exact g.elim
    | some z =>
      simp only [e2] at g
      exact h F H vs ds z E.le (ro.top E e1) e2 Q fun w F' H' n => g w F' H' (n.step E).1 ⟨(n.step E).2, n.own⟩
theorem two_of {r : R2} {f : D → D → Option (Bool × D)} {ma mb : M Opd} (h : Ok2 T r f) : ∀ s H Q, tV T W (bin2 f ma mb) s H Q → tOp r (tO T W ma) (tO T W mb) s H Q := by
  rintro s H Q ⟨F, env, E, h1⟩
  refine ⟨F, env, E, PG.bind (rel2 := relV T s) relV_ok h1 fun v o env1 F1 H1 _ st r1 h2 => ?_⟩
  refine ⟨F1, env1, st.rep, PG.bind (rel2 := relV T s) relV_ok h2 fun w p env2 F2 H2 _ st2 r2 h3 => ?_⟩
  exact use2 h st2.rep (OOk.step r1 st2) r2 h3
theorem pe_opM {op : Operator} {r : R2} {f : D → D → Option (Bool × D)} {ma mb : M Opd} (h : Ok2 T r f) (ho : OpR X (binaryOp op) r) (ha : PE X a (tO T W ma)) (hb : PE X b (tO T W mb)) : PE X (.BinOp a op b pos) (tV T W (bin2 f ma mb)) := PEimp (pe_op ho ha hb) (two_of h)
theorem pe_cmpM {op : CmpOp} {r : R2} {f : D → D → Option (Bool × D)} {ma mb : M Opd} (h : Ok2 T r f) (ho : OpR X (compareOp op) r) (ha : PE X a (tO T W ma)) (hb : PE X b (tO T W mb)) (hm : behindInMarks op b = false := by rfl) : PE X (.Compare a [op] [b] pos) (tV T W (bin2 f ma mb)) := PEimp (pe_cmpR ho ha hb hm) (two_of h)
theorem pe_unM {op : UnaryOp} {r : V → Hp → VK → Prop} {f : D → Option (Bool × D)} {ma : M Opd} (h : Ok1 T r f) (ho : UnR X (unaryOp op) r) (ha : PE X a (tO T W ma)) : PE X (.UnaryOp op a pos) (tV T W (un1 f ma)) := by
  refine PEimp (pe_un ho ha) ?_
  rintro s H Q ⟨F, env, E, h1⟩
  refine ⟨F, env, E, PG.bind (rel2 := relV T s) relV_ok h1 fun v o env1 F1 H1 _ st r1 h2 => ?_⟩
  exact use1 h st.rep r1 h2
theorem pe_ixM {r : R2} {f : D → D → Option (Bool × D)} {ma mb : M Opd} (h : Ok2 T r f) (hr : IxR X r) (ha : PE X a (tO T W ma)) (hb : PE X b (tO T W mb)) (hs : PlainIx b := by intro _ _; rfl) : PE X (.Subscript a b pos) (tV T W (bin2 f ma mb)) := PEimp (pe_ix hr ha hb hs) (two_of h)
theorem callN_of {r : List V → Hp → VK → Prop} {f : List D → Option (Bool × D)} {ms : M (List Opd)} (h : OkN T r f) : ∀ s H Q, tV T W (callN f ms) s H Q → tCB r (tA T W ms) s H Q := by
  rintro s H Q ⟨F, env, E, h1⟩
  refine ⟨F, env, E, PG.bind (rel2 := relV T s) relV_ok h1 fun vs os env1 F1 H1 _ st r1 h2 => ?_⟩
  exact useN h st.rep r1 h2
/-- a call of a built-in function, of a built-in class -/
theorem pe_bltM {x : Str} {id : String} {r : List V → Hp → VK → Prop} {f : List D → Option (Bool × D)} {ms : M (List Opd)} {p : Pos} (h : OkN T r f) (hc : CallR X (.builtin id) r) (hm : X.mg x = none) (ha : PA X (e :: es) (tA T W ms)) (hg : Gl X x := by rfl) (hv : bootBuiltins x = some (.builtin id) := by decide +kernel)
    (hn : x ≠ "__name__" := by decide) (hdb : (x == ("__debug__" : Str)) = false := by decide) (he : starEach (e :: es) X.env = (false, eval e X.env) :: starEach es X.env := by rfl) (hpl : (backTo pos (starEach es X.env)).any (·.1) = false := by rfl) :
    PE X (.Call (.Name x p) (e :: es) [] pos) (tV T W (callN f ms)) := PEimp (pe_callB hc hg hm hv ha hn hdb he hpl) (callN_of h)
theorem pe_btyM {x : Str} {id : String} {r : List V → Hp → VK → Prop} {f : List D → Option (Bool × D)} {ms : M (List Opd)} {p : Pos} (h : OkN T r f) (hc : CallR X (.type id) r) (hm : X.mg x = none) (ha : PA X (e :: es) (tA T W ms)) (hg : Gl X x := by rfl) (hv : bootBuiltins x = some (.type id) := by decide +kernel)
    (hn : x ≠ "__name__" := by decide) (hdb : (x == ("__debug__" : Str)) = false := by decide) (he : starEach (e :: es) X.env = (false, eval e X.env) :: starEach es X.env := by rfl) (hpl : (backTo pos (starEach es X.env)).any (·.1) = false := by rfl) :
    PE X (.Call (.Name x p) (e :: es) [] pos) (tV T W (callN f ms)) := PEimp (pe_callTy hc hg hm hv ha hn hdb he hpl) (callN_of h)
end
end TT

set_option maxRecDepth 100000
set_option maxHeartbeats 4000000
/-! TM: enumerate and zip over lists and tuples alike; sum, max, min of tuples of ints. -/
namespace TM
open PySem PySem.Spec PyProof.Rows L2
abbrev St := L2.St

/-- a tuple (tp) or a list at l -/
def Sq (tp : Bool) (h : Heap) (l : Addr) (xs : Array Value) : Prop := match tp with
  | true => h.IsTuple l xs
  | false => h.IsList l xs
/-- its iterator at it, k items given -/
def SqIt (tp : Bool) (h : Heap) (it l : Addr) (k : Nat) : Prop := match tp with
  | true => h.IsTupleIter it l k
  | false => h.IsListIter it l k
theorem Sq.at {tp : Bool} {h h' : Heap} {l : Addr} {xs : Array Value} (b : Sq tp h l xs) (k : ∀ o, h.get? l = some o → h'.get? l = some o) : Sq tp h' l xs := by
  cases tp <;> exact (let ⟨o, e, r⟩ := b; ⟨o, k _ e, r⟩)
theorem SqIt.at {tp : Bool} {h h' : Heap} {it l : Addr} {n : Nat} (b : SqIt tp h it l n) (k : ∀ o, h.get? it = some o → h'.get? it = some o) : SqIt tp h' it l n := by
  cases tp <;> exact (let ⟨o, e, r⟩ := b; ⟨o, k _ e, r⟩)
theorem SqIt.rec {tp : Bool} {h : Heap} {it l : Addr} {k : Nat} (b : SqIt tp h it l k) : ∃ o, h.get? it = some o ∧ ∀ v, o.data ≠ .cell v := by
  cases tp <;> exact (let ⟨o, e, _, d⟩ := b; ⟨o, e, fun v z => by rw [d] at z; cases z⟩)
theorem SqIt.lt {tp : Bool} {h : Heap} {it l : Addr} {k : Nat} (b : SqIt tp h it l k) : it < h.objs.size := let ⟨_, e, _⟩ := b.rec; Heap.lt_size e
theorem Sq.lt {tp : Bool} {h : Heap} {l : Addr} {xs : Array Value} (b : Sq tp h l xs) : l < h.objs.size := by
  cases tp <;> exact (let ⟨o, e, _⟩ := b; Heap.lt_size e)

section
variable {prog : Program} {w : World} {A : Around} {E : Value → Shared → Prop} {s : Shared}
theorem next_item {tp : Bool} {it l : Addr} {i : Nat} {xs : Array Value} {x : Value} {Q : Value → Shared → Prop} (b : SqIt tp s.heap it l i) (c : Sq tp s.heap l xs) (hx : xs[i]? = some x)
    (hQ : ∀ h', SqIt tp h' it l (i + 1) → Heap.SameBut it s.heap h' → Q x { s with heap := h' }) : wpAny (model prog w) A (Builtin.SmallTypes.nextOf (.ref it)) Q E s := by
  cases tp with
  | false => exact wpAny_nextOf_list_item b c hx hQ
  | true => exact RZ.nextOf_tuple_item b c hx hQ
theorem next_end {tp : Bool} {it l : Addr} {i : Nat} {xs : Array Value} {Q : Value → Shared → Prop} (hh : A.handled = none) (b : SqIt tp s.heap it l i) (c : Sq tp s.heap l xs) (hx : xs[i]? = none)
    (hE : ∀ h' e, Heap.ExtBut it s.heap h' → (∃ o, h'.get? e = some o ∧ o.cls = .type "StopIteration") → E (.ref e) { s with heap := h' }) : wpAny (model prog w) A (Builtin.SmallTypes.nextOf (.ref it)) Q E s := by
  cases tp with
  | false => exact wpAny_nextOf_list_end hh b c hx hE
  | true => exact RZ.nextOf_tuple_end hh b c hx hE

/-! ### enumerate -/
theorem enum_item {tp : Bool} {e it l : Addr} {i : Nat} {xs : Array Value} {x old : Value} {Q : Option Value → Shared → Prop} (he : IsEnum s.heap e it i old) (b : SqIt tp s.heap it l i) (c : Sq tp s.heap l xs) (hx : xs[i]? = some x) (hne : e ≠ it)
    (hQ : ∀ h', IsEnumOut h' e it ((i : Int) + 1) x s.heap.objs.size → SqIt tp h' it l (i + 1) → h'.get? s.heap.objs.size = some { cls := .type "tuple", data := .seq #[.int i s.toks, x] } → h'.objs.size = s.heap.objs.size + 1 →
      (∀ c o, c ≠ e → c ≠ it → s.heap.get? c = some o → h'.get? c = some o) → Q (some (.ref s.heap.objs.size)) { s with heap := h', toks := s.toks + 1 }) : wpAny (model prog w) A (pyNext (.ref e)) Q E s := by
  have ty : s.TypeIs (.ref e) "enumerate" := ⟨_, he, rfl⟩
  unfold pyNext
  refine wpAny_bind (wpAny_attempt (wpAny_callSpecial?_slot (name := Str.ofString "__next__") ty F.slot_enumerate_next (wpAny_call_entry F.slot_enumerate_next ty F.entry_enumerate_next ?_ (F.args_enumerate_next_1 _))))
  obtain ⟨hp, g, d, tk, os⟩ := s
  show wpAny _ _ (field (.ref e) 2 >>= _) _ _ _
  refine wpAny_bind (wpAny_field he rfl (x := .ref it) rfl (wpAny_bind (next_item b c hx fun ha ba sa => ?_)))
  have sa : Heap.SameBut it hp ha := sa
  have ea : IsEnum ha e it i old := (sa.2 e hne).trans he
  show wpAny _ _ (field (.ref e) 3 >>= _) _ _ ⟨ha, g, d, tk, os⟩
  refine wpAny_bind (wpAny_field ea rfl (x := rawInt i) rfl ?_)
  show wpAny _ _ (field (.ref e) 4 >>= _) _ _ ⟨ha, g, d, tk, os⟩
  refine wpAny_bind (wpAny_field ea rfl (x := .none) rfl ?_)
  show wpAny _ _ (mkInt i >>= _) _ _ ⟨ha, g, d, tk, os⟩
  refine wpAny_bind (wpAny_mkInt ?_)
  show wpAny _ _ (setField (.ref e) 3 (rawInt ((i : Int) + 1)) >>= _) _ _ ⟨ha, g, d, tk + 1, os⟩
  refine wpAny_bind (wpAny_setField_rec ea (by simp) fun hb eb sb => ?_)
  have eb : IsEnum hb e it ((i : Int) + 1) old := eb
  show wpAny _ _ (setField (.ref e) 4 .none >>= _) _ _ ⟨hb, g, d, tk + 1, os⟩
  refine wpAny_bind (wpAny_setField_rec eb (by simp) fun hc ec sc => ?_)
  have ec : IsEnum hc e it ((i : Int) + 1) old := ec
  show wpAny _ _ (newTuple [.int i tk, x] >>= _) _ _ ⟨hc, g, d, tk + 1, os⟩
  refine wpAny_bind (wpAny_newTuple ?_)
  have szc : hc.objs.size = hp.objs.size := (sc.1.trans sb.1).trans sa.1
  have elt : e < hp.objs.size := Heap.lt_size he
  generalize hD : hc.push { cls := .type "tuple", data := .seq #[.int i tk, x] } = hd
  have kd : ∀ c o, hc.get? c = some o → hd.get? c = some o := fun c o q => by rw [← hD]; exact Heap.get?_push_of_some _ q
  have ed : IsEnum hd e it ((i : Int) + 1) old := kd _ _ ec
  have td : hd.get? hp.objs.size = some { cls := .type "tuple", data := .seq #[.int i tk, x] } := by rw [← hD, ← szc]; exact Heap.get?_push_size _ rfl
  have szd : hd.objs.size = hp.objs.size + 1 := by rw [← hD, Heap.size_push, szc]
  have keep : ∀ c o, c ≠ e → c ≠ it → hp.get? c = some o → hd.get? c = some o := fun c o c1 c2 q => kd c o (sc.extBut c o c1 (sb.extBut c o c1 (sa.extBut c o c2 q)))
  have bd : SqIt tp hd it l (i + 1) := ba.at fun o q => kd _ _ (sc.extBut _ _ (Ne.symm hne) (sb.extBut _ _ (Ne.symm hne) q))
  show wpAny _ _ (Builtin.SmallTypes.ownedTupleIsFree (.ref e) >>= _) _ _ ⟨hd, g, d, tk + 1, os⟩
  rw [szc]
  refine wpAny_bind ?_
  unfold Builtin.SmallTypes.ownedTupleIsFree
  refine wpAny_bind (wpAny_field ed rfl (x := .none) rfl (wpAny_pure ?_))
  simp only [if_true]
  refine wpAny_bind (wpAny_rule (wpAny_bind (wpAny_field ed rfl (x := old) rfl (wpAny_bind (wpAny_setField_rec ed (by simp) fun hf ef sf => ?_)))))
  have ef : IsEnum hf e it ((i : Int) + 1) x := ef
  show wpAny _ _ (Builtin.SmallTypes.ownedTupleHandOut (.ref e) (.ref hp.objs.size) >>= _) _ _ ⟨hf, g, d, tk + 1, os⟩
  refine wpAny_bind ?_
  unfold Builtin.SmallTypes.ownedTupleHandOut
  refine wpAny_bind (wpAny_setField_rec ef (by simp) fun hg eg sg => ?_)
  have eg : IsEnumOut hg e it ((i : Int) + 1) x hp.objs.size := eg
  refine wpAny_setField_rec eg (by simp) fun hh eh sh => ?_
  have eh : IsEnumOut hh e it ((i : Int) + 1) x hp.objs.size := eh
  have up : ∀ c o, c ≠ e → hd.get? c = some o → hh.get? c = some o := fun c o c1 q => sh.extBut c o c1 (sg.extBut c o c1 (sf.extBut c o c1 q))
  refine wpAny_bind (wpAny_letGo (wpAny_pure ⟨_, rfl, wpAny_pure (hQ hh eh (bd.at fun o q => up _ _ (Ne.symm hne) q) (up _ _ (Nat.ne_of_gt elt) td) ?_ fun c o c1 c2 q => up c o c1 (keep c o c1 c2 q))⟩))
  rw [sh.1, sg.1, sf.1, szd]
theorem enum_end {tp : Bool} {e it l : Addr} {i : Nat} {xs : Array Value} {old : Value} {Q : Option Value → Shared → Prop} (hh : A.handled = none) (he : IsEnum s.heap e it i old) (b : SqIt tp s.heap it l i) (c : Sq tp s.heap l xs) (hx : xs[i]? = none)
    (hQ : ∀ h', Heap.ExtBut it s.heap h' → Q none { s with heap := h' }) : wpAny (model prog w) A (pyNext (.ref e)) Q E s := by
  have ty : s.TypeIs (.ref e) "enumerate" := ⟨_, he, rfl⟩
  unfold pyNext
  refine wpAny_bind (wpAny_attempt (wpAny_callSpecial?_slot (name := Str.ofString "__next__") ty F.slot_enumerate_next (wpAny_call_entry F.slot_enumerate_next ty F.entry_enumerate_next ?_ (F.args_enumerate_next_1 _))))
  show wpAny _ _ (field (.ref e) 2 >>= _) _ _ _
  refine wpAny_bind (wpAny_field he rfl (x := .ref it) rfl (wpAny_bind (next_end hh b c hx fun h' x ext ⟨o, ho, hc⟩ => ?_)))
  exact wpAny_bind (wpAny_isInstance (T := "StopIteration") (b := true) ⟨o, ho, hc⟩ isSubtype_stop (wpAny_pure (hQ _ ext)))
theorem enum_new_tup (l : Addr) (xs : Array Value) :
    Meets (Builtin.«enumerate.__new__» ⟨[.type "enumerate", .ref l], []⟩) (fun _ R s => s.heap.IsTuple l xs ∧
      R (.ok (.ret (.ref (s.heap.push { cls := .type "tuple_iterator", data := .fields #[.ref l, .int 0 0] }).objs.size)))
        { s with heap := (s.heap.push { cls := .type "tuple_iterator", data := .fields #[.ref l, .int 0 0] }).push { cls := .type "enumerate", data := .fields #[.none, .bool false, .ref s.heap.objs.size, rawInt 0, .none, .none] } }) :=
  .of_wp fun prog w A R s h => by
    obtain ⟨hp, g, d, tk, os⟩ := s
    obtain ⟨⟨ob, hl, hc, n, hd⟩, h⟩ := h
    have hsub := sub_enumerate
    obtain ⟨c, dct, dt, sl⟩ := ob
    have hc : c = .type "tuple" := hc
    have hd : dt = .seq xs n := hd
    subst hc hd
    have hL : Heap.IsTuple (Shared.heap ⟨hp, g, d, tk, os⟩) l xs := ⟨_, hl, rfl, n, rfl⟩
    wp_walk using AutoSeq1.wpAny_loadPart' hl
    refine wpAny_stack_any fun st => wpAny_pure ?_
    split
    · rename_i c _ _ _ _ _
      cases (c == Value.type "enumerate")
      · wp_walk using AutoSeq1.wpAny_loadPart' hl, wpAny_pyIter_tuple hL
        exact ⟨_, rfl, h⟩
      · wp_walk using AutoSeq1.wpAny_loadPart' hl, wpAny_pyIter_tuple hL
        exact ⟨_, rfl, h⟩
    · wp_walk using AutoSeq1.wpAny_loadPart' hl, wpAny_pyIter_tuple hL
      exact ⟨_, rfl, h⟩
theorem enum_call {tp : Bool} {l : Addr} {xs : Array Value} {Q : Value → Shared → Prop} (b : Sq tp s.heap l xs)
    (h : ∀ h', IsEnum h' (s.heap.objs.size + 1) s.heap.objs.size 0 .none → SqIt tp h' s.heap.objs.size l 0 → (∀ c o, s.heap.get? c = some o → h'.get? c = some o) → Q (.ref (s.heap.objs.size + 1)) { s with heap := h' }) :
    wpAny (model prog w) A (call (.type "enumerate") [.ref l]) Q E s := by
  cases tp with
  | false => exact call_enumerate_list b fun h' e q _ k => h h' e q k
  | true =>
    refine callType_new F.called_enumerate (by decide) (F.typeCall_enumerate_1 _) (F.newCall_enumerate_1 _) (fun obj => F.args_object_init_2 obj _) F.entry_enumerate_new (enum_new_tup l xs) ⟨b, ?_⟩
    have z1 : (s.heap.push { cls := .type "tuple_iterator", data := .fields #[.ref l, .int 0 0] }).objs.size = s.heap.objs.size + 1 := Heap.size_push ..
    show _ ∧ _
    rw [z1]
    have q := Heap.get?_push_size (s.heap.push { cls := .type "tuple_iterator", data := .fields #[.ref l, .int 0 0] }) (o := { cls := .type "enumerate", data := .fields #[.none, .bool false, .ref s.heap.objs.size, rawInt 0, .none, .none] }) rfl
    rw [z1] at q
    exact ⟨⟨_, q, rfl⟩, h _ q ⟨_, Heap.get?_push_of_some _ (Heap.get?_push_size _ rfl), rfl, rfl⟩ fun c o x => Heap.get?_push_of_some _ (Heap.get?_push_of_some _ x)⟩

/-! ### zip -/
theorem zip_body {t1 t2 : Bool} {z TI TO i1 i2 l1 l2 : Addr} {k1 k2 : Nat} {xs ys : Array Value} {x y a b : Value} {Q : Value → Shared → Prop} (D : ZipApart z TI TO i1 i2 l1 l2)
    (hz : IsZip s.heap z TI TO .none) (hTI : IsPair s.heap TI (.ref i1) (.ref i2)) (hTO : IsPair s.heap TO a b)
    (h1 : SqIt t1 s.heap i1 l1 k1) (h2 : SqIt t2 s.heap i2 l2 k2) (hl1 : Sq t1 s.heap l1 xs) (hl2 : Sq t2 s.heap l2 ys) (hx : xs[k1]? = some x) (hy : ys[k2]? = some y)
    (hQ : ∀ h', IsZip h' z TI TO (rawInt s.heap.objs.size) → IsPair h' TO x y → SqIt t1 h' i1 l1 (k1 + 1) → SqIt t2 h' i2 l2 (k2 + 1) → IsPair h' s.heap.objs.size x y →
      (∀ c o, c ≠ z → c ≠ TO → c ≠ i1 → c ≠ i2 → s.heap.get? c = some o → h'.get? c = some o) → Q (.ref s.heap.objs.size) { s with heap := h' }) :
    wpAny (model prog w) A (Builtin.«zip.__next__» ⟨[.ref z], []⟩) (fun fin s' => ∃ v, fin = .done (.ret v) ∧ Q v s') E s := by
  show wpAny _ _ (field (.ref z) 2 >>= _) _ _ _
  refine wpAny_bind (wpAny_field hz rfl (x := .bool false) rfl ?_)
  show wpAny _ _ (field (.ref z) 3 >>= _) _ _ _
  refine wpAny_bind (wpAny_field hz rfl (x := .ref TI) rfl (wpAny_bind (wpAny_seqItems hTI rfl ?_)))
  show wpAny _ _ (Builtin.SmallTypes.ownedTupleIsFree (.ref z) >>= _) _ _ _
  refine wpAny_bind ?_
  unfold Builtin.SmallTypes.ownedTupleIsFree
  refine wpAny_bind (wpAny_field hz rfl (x := .none) rfl (wpAny_pure ?_))
  simp only [if_true]
  refine wpAny_bind (wpAny_rule (wpAny_bind (wpAny_field hz rfl (x := .ref TO) rfl (wpAny_bind (wpAny_setField_rec hz (by simp) fun ha za sa => ?_)))))
  have za : IsZip ha z TI TO .ellipsis := za
  have ka : ∀ c o, c ≠ z → s.heap.get? c = some o → ha.get? c = some o := fun c o c1 e => sa.extBut _ _ c1 e
  refine wpAny_bind ?_
  simp only [List.zipIdx_cons, List.zipIdx_nil, List.forIn_cons, List.forIn_nil]
  -- the first one
  refine wpAny_bind (wpAny_bind (wpAny_onRaise ?_))
  show wpAny _ _ (Builtin.SmallTypes.nextOf (.ref i1) >>= _) _ _ _
  refine wpAny_bind (next_item (h1.at fun o e => ka _ o D.i1z e) (hl1.at fun o e => ka _ o D.l1z e) hx fun hb nb sb => wpAny_pure ?_)
  have kb : ∀ c o, c ≠ z → c ≠ i1 → s.heap.get? c = some o → hb.get? c = some o := fun c o c1 c2 e => sb.extBut _ _ c2 (ka c o c1 e)
  have ob : IsPair hb TO a b := kb _ _ D.TOz D.TOi1 hTO
  refine wpAny_bind (wpAny_seqItems ob rfl (wpAny_bind (wpAny_updateSeq_pair ob fun hc oc sc => ?_)))
  have oc : IsPair hc TO x b := oc
  have kc : ∀ c o, c ≠ z → c ≠ i1 → c ≠ TO → s.heap.get? c = some o → hc.get? c = some o := fun c o c1 c2 c3 e => sc.extBut _ _ c3 (kb c o c1 c2 e)
  refine wpAny_bind (wpAny_letGo (wpAny_pure ?_))
  -- the second one
  refine wpAny_bind (wpAny_bind (wpAny_onRaise ?_))
  show wpAny _ _ (Builtin.SmallTypes.nextOf (.ref i2) >>= _) _ _ _
  refine wpAny_bind (next_item (h2.at fun o e => kc _ o D.i2z D.i12.symm D.TOi2.symm e) (hl2.at fun o e => kc _ o D.l2z D.l2i1 D.l2TO e) hy fun hd nd sd => wpAny_pure ?_)
  have od : IsPair hd TO x b := sd.extBut _ _ D.TOi2 oc
  refine wpAny_bind (wpAny_seqItems od rfl (wpAny_bind (wpAny_updateSeq_pair od fun he oe se => ?_)))
  have oe : IsPair he TO x y := oe
  refine wpAny_bind (wpAny_letGo (wpAny_pure (wpAny_pure (wpAny_bind (wpAny_seqItems oe rfl (wpAny_bind (wpAny_newTuple ?_)))))))
  have ke : ∀ c o, c ≠ z → c ≠ TO → c ≠ i1 → c ≠ i2 → s.heap.get? c = some o → he.get? c = some o := fun c o c1 c2 c3 c4 e => se.extBut _ _ c2 (sd.extBut _ _ c4 (kc c o c1 c3 c2 e))
  have sz : he.objs.size = s.heap.objs.size := by rw [se.1, sd.1, sc.1, sb.1, sa.1]
  have ze : IsZip he z TI TO .ellipsis := se.extBut _ _ D.TOz.symm (sd.extBut _ _ D.i2z.symm (sc.extBut _ _ D.TOz.symm (sb.extBut _ _ D.i1z.symm za)))
  have n1 : SqIt t1 he i1 l1 (k1 + 1) := nb.at fun o e => se.extBut _ _ D.TOi1.symm (sd.extBut _ _ D.i12 (sc.extBut _ _ D.TOi1.symm e))
  have n2 : SqIt t2 he i2 l2 (k2 + 1) := nd.at fun o e => se.extBut _ _ D.TOi2.symm e
  have zlt : z < he.objs.size := Heap.lt_size ze
  show wpAny _ _ (Builtin.SmallTypes.ownedTupleHandOut (.ref z) (.ref he.objs.size) >>= _) _ _ _
  refine wpAny_bind ?_
  unfold Builtin.SmallTypes.ownedTupleHandOut
  have zf : IsZip (he.push { cls := .type "tuple", data := .seq #[x, y] }) z TI TO .ellipsis := Heap.get?_push_of_some _ ze
  refine wpAny_bind (wpAny_setField_rec zf (by simp) fun hg zg sg => ?_)
  have zg : IsZip hg z TI TO (rawInt he.objs.size) := zg
  refine wpAny_setField_rec zg (by simp) fun hh zh sh => ?_
  have zh : IsZip hh z TI TO (rawInt he.objs.size) := zh
  have up : ∀ c o, c ≠ z → he.get? c = some o → hh.get? c = some o := fun c o c1 e => sh.extBut _ _ c1 (sg.extBut _ _ c1 (Heap.get?_push_of_some _ e))
  have nw : IsPair hh he.objs.size x y := sh.extBut _ _ (Nat.ne_of_gt zlt) (sg.extBut _ _ (Nat.ne_of_gt zlt) (Heap.get?_push_size _ rfl))
  refine wpAny_pure ⟨_, rfl, ?_⟩
  show Q (.ref he.objs.size) _
  rw [sz] at zh nw ⊢
  exact hQ hh zh (up _ _ D.TOz oe) (n1.at fun o e => up _ o D.i1z e) (n2.at fun o e => up _ o D.i2z e) nw fun c o c1 c2 c3 c4 e => up c o c1 (ke c o c1 c2 c3 c4 e)
theorem zip_stop {t1 t2 : Bool} {z TI TO i1 i2 l1 l2 : Addr} {k1 k2 : Nat} {xs ys : Array Value} {a b : Value} {Q : Fin → Shared → Prop} (hh : A.handled = none) (D : ZipApart z TI TO i1 i2 l1 l2)
    (hz : IsZip s.heap z TI TO .none) (hTI : IsPair s.heap TI (.ref i1) (.ref i2)) (hTO : IsPair s.heap TO a b)
    (h1 : SqIt t1 s.heap i1 l1 k1) (h2 : SqIt t2 s.heap i2 l2 k2) (hl1 : Sq t1 s.heap l1 xs) (hl2 : Sq t2 s.heap l2 ys) (hend : xs[k1]? = none ∨ ys[k2]? = none)
    (hE : ∀ h' e, (∀ c o, c ≠ z → c ≠ TO → c ≠ i1 → c ≠ i2 → s.heap.get? c = some o → h'.get? c = some o) → (∃ o, h'.get? e = some o ∧ o.cls = .type "StopIteration") → E (.ref e) { s with heap := h' }) :
    wpAny (model prog w) A (Builtin.«zip.__next__» ⟨[.ref z], []⟩) Q E s := by
  show wpAny _ _ (field (.ref z) 2 >>= _) _ _ _
  refine wpAny_bind (wpAny_field hz rfl (x := .bool false) rfl ?_)
  show wpAny _ _ (field (.ref z) 3 >>= _) _ _ _
  refine wpAny_bind (wpAny_field hz rfl (x := .ref TI) rfl (wpAny_bind (wpAny_seqItems hTI rfl ?_)))
  show wpAny _ _ (Builtin.SmallTypes.ownedTupleIsFree (.ref z) >>= _) _ _ _
  refine wpAny_bind ?_
  unfold Builtin.SmallTypes.ownedTupleIsFree
  refine wpAny_bind (wpAny_field hz rfl (x := .none) rfl (wpAny_pure ?_))
  simp only [if_true]
  refine wpAny_bind (wpAny_rule (wpAny_bind (wpAny_field hz rfl (x := .ref TO) rfl (wpAny_bind (wpAny_setField_rec hz (by simp) fun ha za sa => ?_)))))
  have za : IsZip ha z TI TO .ellipsis := za
  have ka : ∀ c o, c ≠ z → s.heap.get? c = some o → ha.get? c = some o := fun c o c1 e => sa.extBut _ _ c1 e
  refine wpAny_bind ?_
  simp only [List.zipIdx_cons, List.zipIdx_nil, List.forIn_cons, List.forIn_nil]
  refine wpAny_bind (wpAny_bind (wpAny_onRaise ?_))
  show wpAny _ _ (Builtin.SmallTypes.nextOf (.ref i1) >>= _) _ _ _
  have fin : ∀ {hp : Heap} {e : Addr}, IsZip hp z TI TO .ellipsis → (∃ o, hp.get? e = some o ∧ o.cls = .type "StopIteration") → e ≠ z := fun {hp e} q ⟨o, ho, hc⟩ w => by
    subst w
    rw [q] at ho; cases ho; simp at hc
  cases hx : xs[k1]? with
  | none =>
    refine wpAny_bind (next_end hh (h1.at fun o e => ka _ o D.i1z e) (hl1.at fun o e => ka _ o D.l1z e) hx fun hb e sb st => ?_)
    have zb : IsZip hb z TI TO .ellipsis := sb _ _ D.i1z.symm za
    refine wpAny_setField_rec zb (by simp) fun hc _ sc => hE hc e (fun c o c1 _ c3 _ q => sc.extBut _ _ c1 (sb _ _ c3 (ka c o c1 q))) ?_
    obtain ⟨o, ho, hk⟩ := st
    exact ⟨o, sc.extBut _ _ (fin zb ⟨o, ho, hk⟩) ho, hk⟩
  | some x =>
    have hy : ys[k2]? = none := hend.elim (fun q => by rw [hx] at q; cases q) id
    refine wpAny_bind (next_item (h1.at fun o e => ka _ o D.i1z e) (hl1.at fun o e => ka _ o D.l1z e) hx fun hb nb sb => wpAny_pure ?_)
    have kb : ∀ c o, c ≠ z → c ≠ i1 → s.heap.get? c = some o → hb.get? c = some o := fun c o c1 c2 e => sb.extBut _ _ c2 (ka c o c1 e)
    have ob : IsPair hb TO a b := kb _ _ D.TOz D.TOi1 hTO
    refine wpAny_bind (wpAny_seqItems ob rfl (wpAny_bind (wpAny_updateSeq_pair ob fun hc oc sc => ?_)))
    have kc : ∀ c o, c ≠ z → c ≠ i1 → c ≠ TO → s.heap.get? c = some o → hc.get? c = some o := fun c o c1 c2 c3 e => sc.extBut _ _ c3 (kb c o c1 c2 e)
    refine wpAny_bind (wpAny_letGo (wpAny_pure (wpAny_bind (wpAny_bind (wpAny_onRaise ?_)))))
    show wpAny _ _ (Builtin.SmallTypes.nextOf (.ref i2) >>= _) _ _ _
    refine wpAny_bind (next_end hh (h2.at fun o e => kc _ o D.i2z D.i12.symm D.TOi2.symm e) (hl2.at fun o e => kc _ o D.l2z D.l2i1 D.l2TO e) hy fun hd e sd st => ?_)
    have zd : IsZip hd z TI TO .ellipsis := sd _ _ D.i2z.symm (sc.extBut _ _ D.TOz.symm (sb.extBut _ _ D.i1z.symm za))
    refine wpAny_setField_rec zd (by simp) fun he _ se => hE he e (fun c o c1 c2 c3 c4 q => se.extBut _ _ c1 (sd _ _ c4 (kc c o c1 c3 c2 q))) ?_
    obtain ⟨o, ho, hk⟩ := st
    exact ⟨o, se.extBut _ _ (fin zd ⟨o, ho, hk⟩) ho, hk⟩
theorem zip_next {t1 t2 : Bool} {z TI TO i1 i2 l1 l2 : Addr} {k1 k2 : Nat} {xs ys : Array Value} {x y a b : Value} {Q : Option Value → Shared → Prop} (D : ZipApart z TI TO i1 i2 l1 l2)
    (hz : IsZip s.heap z TI TO .none) (hTI : IsPair s.heap TI (.ref i1) (.ref i2)) (hTO : IsPair s.heap TO a b)
    (h1 : SqIt t1 s.heap i1 l1 k1) (h2 : SqIt t2 s.heap i2 l2 k2) (hl1 : Sq t1 s.heap l1 xs) (hl2 : Sq t2 s.heap l2 ys) (hx : xs[k1]? = some x) (hy : ys[k2]? = some y)
    (hQ : ∀ h', IsZip h' z TI TO (rawInt s.heap.objs.size) → IsPair h' TO x y → SqIt t1 h' i1 l1 (k1 + 1) → SqIt t2 h' i2 l2 (k2 + 1) → IsPair h' s.heap.objs.size x y →
      (∀ c o, c ≠ z → c ≠ TO → c ≠ i1 → c ≠ i2 → s.heap.get? c = some o → h'.get? c = some o) → Q (some (.ref s.heap.objs.size)) { s with heap := h' }) : wpAny (model prog w) A (pyNext (.ref z)) Q E s := by
  have ty : s.TypeIs (.ref z) "zip" := ⟨_, hz, rfl⟩
  unfold pyNext
  exact wpAny_bind (wpAny_attempt (wpAny_callSpecial?_slot (name := Str.ofString "__next__") ty F.slot_zip_next (wpAny_call_entry F.slot_zip_next ty F.entry_zip_next
    (zip_body D hz hTI hTO h1 h2 hl1 hl2 hx hy fun h' a1 a2 a3 a4 a5 a6 => wpAny_pure (hQ h' a1 a2 a3 a4 a5 a6)) (F.args_zip_next_1 _))))
theorem zip_end {t1 t2 : Bool} {z TI TO i1 i2 l1 l2 : Addr} {k1 k2 : Nat} {xs ys : Array Value} {a b : Value} {Q : Option Value → Shared → Prop} (hh : A.handled = none) (D : ZipApart z TI TO i1 i2 l1 l2)
    (hz : IsZip s.heap z TI TO .none) (hTI : IsPair s.heap TI (.ref i1) (.ref i2)) (hTO : IsPair s.heap TO a b)
    (h1 : SqIt t1 s.heap i1 l1 k1) (h2 : SqIt t2 s.heap i2 l2 k2) (hl1 : Sq t1 s.heap l1 xs) (hl2 : Sq t2 s.heap l2 ys) (hend : xs[k1]? = none ∨ ys[k2]? = none)
    (hQ : ∀ h', (∀ c o, c ≠ z → c ≠ TO → c ≠ i1 → c ≠ i2 → s.heap.get? c = some o → h'.get? c = some o) → Q none { s with heap := h' }) : wpAny (model prog w) A (pyNext (.ref z)) Q E s := by
  have ty : s.TypeIs (.ref z) "zip" := ⟨_, hz, rfl⟩
  unfold pyNext
  refine wpAny_bind (wpAny_attempt (wpAny_callSpecial?_slot (name := Str.ofString "__next__") ty F.slot_zip_next (wpAny_call_entry F.slot_zip_next ty F.entry_zip_next
    (zip_stop hh D hz hTI hTO h1 h2 hl1 hl2 hend fun h' e hk ⟨o, ho, hc⟩ => ?_) (F.args_zip_next_1 _))))
  exact wpAny_bind (wpAny_isInstance (T := "StopIteration") (b := true) ⟨o, ho, hc⟩ isSubtype_stop (wpAny_pure (hQ _ hk)))
end

/-- a tuple (tp) or a list of values, as the abstract heap has it -/
def SqA (tp : Bool) (K : PySem.W.Frag) (H : Hp) (a : Addr) (xs : List V) : Prop := match tp with
  | true => SqT K H a xs
  | false => SqL K H a xs
section
variable {X : Cx} {pins : List (Addr × Obj)} {σ : St} {H : Hp} {s : Shared} {a : Addr} {xs ys : List V} {tp : Bool}
theorem sq_of (I : Inv X pins σ H s) (h : SqA tp X.K H a xs) : ∃ its : List Value, Vals xs its ∧ Sq tp s.heap a its.toArray := by
  cases tp with
  | false => exact let ⟨its, r, p, _⟩ := I.list h; ⟨its, r, p.isList⟩
  | true => exact let ⟨its, r, p, _⟩ := I.tuple h; ⟨its, r, p⟩
theorem sqA_inj (I : Inv X pins σ H s) (h : SqA tp X.K H a xs) (h' : SqA tp X.K H a ys) : xs = ys := by
  cases tp with
  | false => exact I.list_inj h h'
  | true => exact I.tuple_inj h h'
end

/-- enumerate(xs): each item with its index in a new pair -/
def ItE (tp : Bool) (K : PySem.W.Frag) (a : Addr) : It :=
  ⟨fun i H => ∃ (xs : List V) (x : V), SqA tp K H a xs ∧ xs[i]? = some x, fun i H v H' => ∃ T x, v = .ref T ∧ H T = none ∧ H' = upd H T (.tup [.int (i : Nat), x]) ∧ ∀ xs, SqA tp K H a xs → xs[i]? = some x, fun i H => ∃ xs : List V, SqA tp K H a xs ∧ xs.length ≤ i⟩
theorem turnE {P : Program} {w : World} {K : PySem.W.Frag} {elts : List Expr} {kk : Nat} {tpos : Pos} {tp : Bool} (a e it : Addr) (hne : e ≠ it) :
    Turn P w K (.Tuple elts kk tpos) (ItE tp K a) [e, it] e (fun i h => (∃ old, IsEnum h e it ((i : Nat) : Int) old) ∧ SqIt tp h it a i) where
  mem := by simp
  obj := fun i h ⟨⟨old, he⟩, st⟩ b hb => by
    rcases List.mem_cons.mp hb with z | hb
    · rw [z]; exact ⟨_, he, fun v q => nomatch q⟩
    · rw [List.mem_singleton.mp hb]; exact st.rec
  keep := fun i h h' ⟨⟨old, he⟩, st⟩ k => ⟨⟨old, k e (by simp) _ he⟩, st.at fun o q => k it (by simp) o q⟩
  item := by
    rintro X hP hw hK hc i pins s σ H E I hf ⟨⟨old, he⟩, st⟩ ⟨xs, x, hq, hx⟩
    subst hP hw hK
    obtain ⟨its, rv, p⟩ := sq_of I hq
    obtain ⟨u, hu, ru⟩ := rv.get hx
    have hel : e < s.heap.objs.size := Heap.lt_size he
    have hil : it < s.heap.objs.size := st.lt
    refine enum_item he st p (x := u) (by simpa using hu) hne fun h' ho st' hT hsz hk => ?_
    refine ⟨_, rfl, wpAny_letOwnedTupleGo_enum (s := { s with heap := h', toks := s.toks + 1 }) ho fun h2 he2 sb => ?_⟩
    have t2 : h2.get? s.heap.objs.size = some { cls := .type "tuple", data := .seq #[.int i s.toks, u] } := (sb.2 _ (Nat.ne_of_gt hel)).trans hT
    have nw : ObjOk X.prog X.w (upd H s.heap.objs.size (.tup [.int (i : Nat), x])) h2 s.heap.objs.size (.tup [.int (i : Nat), x]) :=
      ⟨by show 2 ≤ sizeLine; decide, [.int i s.toks, u], .cons ⟨_, rfl⟩ (.cons ru .nil), ⟨_, t2, rfl, _, rfl⟩⟩
    have kk : ∀ b o, b ∉ [e, it] → s.heap.get? b = some o → h2.get? b = some o := fun b o hb q => by
      simp only [List.mem_cons, List.not_mem_nil, or_false, not_or] at hb
      exact (sb.2 b hb.1).trans (hk b o hb.1 hb.2 q)
    have I1 : Inv X pins σ (upd H s.heap.objs.size (.tup [.int (i : Nat), x])) { s with heap := h2, toks := s.toks + 1 } := I.turnedNew (ch := [e, it]) kk hf (Nat.le_refl _) nw
    refine ⟨.ref s.heap.objs.size, _, I1, rfl, ⟨_, x, rfl, I.hok.fresh (Nat.le_refl _), rfl, fun ys hy => by rw [sqA_inj I hy hq]; exact hx⟩, ⟨⟨u, ?_⟩, st'.at fun o q => (sb.2 it (Ne.symm hne)).trans q⟩, fun b hb => ?_⟩
    · show IsEnum h2 e it ((i + 1 : Nat) : Int) u
      rw [show ((i + 1 : Nat) : Int) = (i : Int) + 1 by omega]
      exact he2
    · have lt : b < s.heap.objs.size := by
        rcases List.mem_cons.mp hb with z | z
        · rw [z]; exact hel
        · rw [List.mem_singleton.mp z]; exact hil
      rw [upd_ne (Nat.ne_of_lt lt)]
      exact (hf b hb).1
  done := by
    rintro X hP hw hK hc i pins s σ H E I hf ⟨⟨old, he⟩, st⟩ ⟨xs, hq, hx⟩
    subst hP hw hK
    obtain ⟨its, rv, p⟩ := sq_of I hq
    obtain ⟨f0, f1, f2, f3, f4, f5⟩ := hf it (by simp)
    have hl := rv.length
    exact enum_end (I.ok.hd hc) he st p (by simp; omega) fun h' eb => ⟨rfl, I.turned (t' := s.toks) (fun b o hb q => eb b o hb q) f0 f1 f3 f4 f5⟩
  self := fun A i s Q E ⟨⟨_, he⟩, _⟩ h => wpAny_pyIter_enum he h
def iEnumA (K : PySem.W.Frag) (ta : TA) : TI := fun σ H R => ta σ H fun vs H1 => ∃ tp a xs, vs = [.ref a] ∧ SqA tp K H1 a xs ∧ R (ItE tp K a) H1
theorem pi_enumA {X : Cx} {e : Expr} {ta : TA} {p pos tpos : Pos} {elts : List Expr} {kk : Nat} (hg : Gl X "enumerate") (hm : X.mg "enumerate" = none) (ha : PA X [e] ta) (hs : starEach [e] X.env = [(false, eval e X.env)] := by rfl) :
    PI X (.Tuple elts kk tpos) (.Call (.Name "enumerate" p) [e] [] pos) (iEnumA X.K ta) := by
  refine ⟨fun pins s σ H R I h => ?_⟩
  refine Call_ (ld_blt I hg hm boot_enumerate (PyProof.Rows.callWith_type1 (thn (ha.run pos pins s σ H _ I h) fun us s1 ⟨vs, H1, I1, r1, tp, a, xs, ex, hq, q⟩ => ?_) hs rfl))
  subst ex
  cases r1 with
  | cons r rr =>
    cases rr
    cases r
    obtain ⟨its, rv, p'⟩ := sq_of I1 hq
    refine enum_call p' fun h' he st hk => wpAny_pyIter_enum he ?_
    refine ⟨s1.heap.objs.size + 1, [s1.heap.objs.size + 1, s1.heap.objs.size], _, _, H1, rfl, I1.kept (t' := s1.toks) hk, turnE a (s1.heap.objs.size + 1) s1.heap.objs.size (Nat.succ_ne_self _), ⟨⟨.none, he⟩, st⟩, fun b hb => ?_, q⟩
    have hle : s1.heap.objs.size ≤ b := by
      rcases List.mem_cons.mp hb with z | z
      · rw [z]; exact Nat.le_succ _
      · rw [List.mem_singleton.mp z]; exact Nat.le_refl _
    exact I1.fpOk hle (I1.hok.fresh hle)
theorem walkE {K : PySem.W.Frag} {a : Addr} {xs : List V} {tp : Bool} : Walk (ItE tp K a) xs.length (fun H => SqA tp K H a xs) (YPair (fun i => some (.int (i : Nat))) (fun i => xs[i]?)) := by
  refine ⟨fun i _ hi q => ⟨xs, xs[i], q, by simp [hi]⟩, fun _ q => ⟨xs, q, Nat.le_refl _⟩, fun i H v H' _ q y => ?_⟩
  obtain ⟨T, x, h1, h2, h3, h4⟩ := y
  exact ⟨T, .int (i : Nat), x, h1, h2, h3, rfl, h4 xs q⟩

/-- zip(xs, ys) -/
def ItZ (t1 t2 : Bool) (K : PySem.W.Frag) (a b : Addr) : It :=
  ⟨fun i H => ∃ (xs ys : List V) (x y : V), SqA t1 K H a xs ∧ SqA t2 K H b ys ∧ xs[i]? = some x ∧ ys[i]? = some y,
    fun i H v H' => ∃ T x y, v = .ref T ∧ H T = none ∧ H' = upd H T (.tup [x, y]) ∧ (∀ xs, SqA t1 K H a xs → xs[i]? = some x) ∧ ∀ ys, SqA t2 K H b ys → ys[i]? = some y,
    fun i H => ∃ xs ys : List V, SqA t1 K H a xs ∧ SqA t2 K H b ys ∧ (xs.length ≤ i ∨ ys.length ≤ i)⟩
theorem turnZ {P : Program} {w : World} {K : PySem.W.Frag} {elts : List Expr} {kk : Nat} {tpos : Pos} {t1 t2 : Bool} {a b z TI TO i1 i2 : Addr} (D : ZipApart z TI TO i1 i2 a b) :
    Turn P w K (.Tuple elts kk tpos) (ItZ t1 t2 K a b) [z, TI, TO, i1, i2] z (fun i h => IsZip h z TI TO .none ∧ IsPair h TI (.ref i1) (.ref i2) ∧ (∃ x y, IsPair h TO x y) ∧ SqIt t1 h i1 a i ∧ SqIt t2 h i2 b i) where
  mem := by simp
  obj := fun i h ⟨hz, hTI, ⟨x, y, hTO⟩, q1, q2⟩ c hc => by
    simp only [List.mem_cons, List.not_mem_nil, or_false] at hc
    rcases hc with q | q | q | q | q
    · rw [q]; exact ⟨_, hz, fun v q => nomatch q⟩
    · rw [q]; exact ⟨_, hTI, fun v q => nomatch q⟩
    · rw [q]; exact ⟨_, hTO, fun v q => nomatch q⟩
    · rw [q]; exact q1.rec
    · rw [q]; exact q2.rec
  keep := fun i h h' ⟨hz, hTI, ⟨x, y, hTO⟩, q1, q2⟩ k => ⟨k z (by simp) _ hz, k TI (by simp) _ hTI, ⟨x, y, k TO (by simp) _ hTO⟩, q1.at fun o q => k i1 (by simp) o q, q2.at fun o q => k i2 (by simp) o q⟩
  item := by
    rintro X hP hw hK hc i pins s σ H E I hf ⟨hz, hTI, ⟨x0, y0, hTO⟩, h1, h2⟩ ⟨xs, ys, x, y, hqx, hqy, hx, hy⟩
    subst hP hw hK
    obtain ⟨its, rv, p⟩ := sq_of I hqx
    obtain ⟨its2, rv2, p2⟩ := sq_of I hqy
    obtain ⟨u, hu, ru⟩ := rv.get hx
    obtain ⟨u2, hu2, ru2⟩ := rv2.get hy
    have hzl : z < s.heap.objs.size := Heap.lt_size hz
    refine zip_next D hz hTI hTO h1 h2 p p2 (x := u) (y := u2) (by simpa using hu) (by simpa using hu2) fun h' z' TO' h1' h2' hT hk => ?_
    refine ⟨_, rfl, wpAny_letOwnedTupleGo_zip (s := { s with heap := h' }) z' fun hq2 z2 sb => ?_⟩
    have t2 : hq2.get? s.heap.objs.size = some { cls := .type "tuple", data := .seq #[u, u2] } := (sb.2 _ (Nat.ne_of_gt hzl)).trans hT
    have nw : ObjOk X.prog X.w (upd H s.heap.objs.size (.tup [x, y])) hq2 s.heap.objs.size (.tup [x, y]) := ⟨by show 2 ≤ sizeLine; decide, [u, u2], .cons ru (.cons ru2 .nil), ⟨_, t2, rfl, _, rfl⟩⟩
    have kk : ∀ c o, c ∉ [z, TI, TO, i1, i2] → s.heap.get? c = some o → hq2.get? c = some o := fun c o hb q => by
      simp only [List.mem_cons, List.not_mem_nil, or_false, not_or] at hb
      exact (sb.2 c hb.1).trans (hk c o hb.1 hb.2.2.1 hb.2.2.2.1 hb.2.2.2.2 q)
    have I1 : Inv X pins σ (upd H s.heap.objs.size (.tup [x, y])) { s with heap := hq2 } := I.turnedNew (t' := s.toks) (ch := [z, TI, TO, i1, i2]) kk hf (Nat.le_refl _) nw
    refine ⟨.ref s.heap.objs.size, _, I1, rfl, ⟨_, x, y, rfl, I.hok.fresh (Nat.le_refl _), rfl, fun l hl => by rw [sqA_inj I hl hqx]; exact hx, fun l hl => by rw [sqA_inj I hl hqy]; exact hy⟩, ⟨z2, ?_, ⟨u, u2, ?_⟩, ?_, ?_⟩, fun c hcm => ?_⟩
    · exact (sb.2 _ D.TIz).trans (hk _ _ D.TIz D.TITO D.TIi1 D.TIi2 hTI)
    · exact (sb.2 _ D.TOz).trans TO'
    · exact h1'.at fun o q => (sb.2 _ D.i1z).trans q
    · exact h2'.at fun o q => (sb.2 _ D.i2z).trans q
    · have lt : c < s.heap.objs.size := by
        simp only [List.mem_cons, List.not_mem_nil, or_false] at hcm
        rcases hcm with q | q | q | q | q
        · rw [q]; exact hzl
        · rw [q]; exact Heap.lt_size hTI
        · rw [q]; exact Heap.lt_size hTO
        · rw [q]; exact h1.lt
        · rw [q]; exact h2.lt
      rw [upd_ne (Nat.ne_of_lt lt)]
      exact (hf c hcm).1
  done := by
    rintro X hP hw hK hc i pins s σ H E I hf ⟨hz, hTI, ⟨x0, y0, hTO⟩, h1, h2⟩ ⟨xs, ys, hqx, hqy, hx⟩
    subst hP hw hK
    obtain ⟨its, rv, p⟩ := sq_of I hqx
    obtain ⟨its2, rv2, p2⟩ := sq_of I hqy
    have e1 := rv.length
    have e2 := rv2.length
    have he : its.toArray[i]? = none ∨ its2.toArray[i]? = none := by
      rcases hx with q | q
      · exact .inl (by simp; omega)
      · exact .inr (by simp; omega)
    exact zip_end (I.ok.hd hc) D hz hTI hTO h1 h2 p p2 he fun h' hk => ⟨rfl, I.turnedL (t' := s.toks) (ch := [z, TI, TO, i1, i2]) (fun c o hb q => by
      simp only [List.mem_cons, List.not_mem_nil, or_false, not_or] at hb
      exact hk c o hb.1 hb.2.2.1 hb.2.2.2.1 hb.2.2.2.2 q) hf⟩
  self := fun A i s Q E st h => wpAny_pyIter_zip st.1 h
theorem walkZ {K : PySem.W.Frag} {a b : Addr} {xs ys : List V} {t1 t2 : Bool} {n : Nat} (hn : n = min xs.length ys.length) : Walk (ItZ t1 t2 K a b) n (fun H => SqA t1 K H a xs ∧ SqA t2 K H b ys) (YPair (fun i => xs[i]?) (fun i => ys[i]?)) := by
  subst hn
  refine ⟨fun i _ hi q => ?_, fun _ q => ⟨xs, ys, q.1, q.2, by omega⟩, fun i H v H' _ q y => ?_⟩
  · have h1 : i < xs.length := by omega
    have h2 : i < ys.length := by omega
    exact ⟨xs, ys, xs[i], ys[i], q.1, q.2, by simp [h1], by simp [h2]⟩
  · obtain ⟨T, x, z, h1, h2, h3, h4, h5⟩ := y
    exact ⟨T, x, z, h1, h2, h3, h4 xs q.1, h5 ys q.2⟩

/-! ### the call of zip -/
def itName : Bool → String
  | true => "tuple_iterator"
  | false => "list_iterator"
theorem iter_sq {prog : Program} {w : World} {A : Around} {E : Value → Shared → Prop} {s : Shared} {tp : Bool} {l : Addr} {xs : Array Value} {Q : Value → Shared → Prop} (b : Sq tp s.heap l xs)
    (hQ : Q (.ref s.heap.objs.size) { s with heap := s.heap.push { cls := .type (itName tp), data := .fields #[.ref l, .int 0 0] } }) : wpAny (model prog w) A (pyIter (.ref l)) Q E s := by
  cases tp with
  | false => exact wpAny_pyIter_list b hQ
  | true => exact wpAny_pyIter_tuple b hQ
abbrev zH1 (t1 : Bool) (h : Heap) (l1 : Addr) : Heap := h.push { cls := .type (itName t1), data := .fields #[.ref l1, .int 0 0] }
abbrev zH2 (t1 t2 : Bool) (h : Heap) (l1 l2 : Addr) : Heap := (zH1 t1 h l1).push { cls := .type (itName t2), data := .fields #[.ref l2, .int 0 0] }
abbrev zH3 (t1 t2 : Bool) (h : Heap) (l1 l2 : Addr) : Heap := (zH2 t1 t2 h l1 l2).push { cls := .type "tuple", data := .seq #[.ref h.objs.size, .ref (zH1 t1 h l1).objs.size] }
abbrev zH4 (t1 t2 : Bool) (h : Heap) (l1 l2 : Addr) : Heap := (zH3 t1 t2 h l1 l2).push { cls := .type "tuple", data := .seq #[.none, .none] }
abbrev zH5 (t1 t2 : Bool) (h : Heap) (l1 l2 : Addr) : Heap := (zH4 t1 t2 h l1 l2).push { cls := .type "zip", data := .fields #[.none, .bool false, .bool false, .ref (zH2 t1 t2 h l1 l2).objs.size, .ref (zH3 t1 t2 h l1 l2).objs.size] }
theorem zip_new (t1 t2 : Bool) (l1 l2 : Addr) (xs ys : Array Value) :
    Meets (Builtin.«zip.__new__» ⟨[.type "zip", .ref l1, .ref l2], []⟩) (fun _ R s => Sq t1 s.heap l1 xs ∧ Sq t2 s.heap l2 ys ∧
      R (.ok (.ret (.ref (zH4 t1 t2 s.heap l1 l2).objs.size))) { s with heap := zH5 t1 t2 s.heap l1 l2 }) :=
  .of_wp fun prog w A R s h => by
    obtain ⟨hp, g, d, tk, os⟩ := s
    obtain ⟨q1, q2, h⟩ := h
    have hsub := sub_zip
    have L1 : Sq t1 (Shared.heap ⟨hp, g, d, tk, os⟩) l1 xs := q1
    have L2 : Sq t2 (Shared.heap ⟨hp.push { cls := .type (itName t1), data := .fields #[.ref l1, .int 0 0] }, g, d, tk, os⟩) l2 ys := Sq.at q2 fun o e => Heap.get?_push_of_some _ e
    wp_walk using iter_sq L1, iter_sq L2
    exact ⟨_, rfl, h⟩
theorem zip_call {prog : Program} {w : World} {A : Around} {E : Value → Shared → Prop} {s : Shared} {t1 t2 : Bool} {l1 l2 : Addr} {xs ys : Array Value} {Q : Value → Shared → Prop} (b1 : Sq t1 s.heap l1 xs) (b2 : Sq t2 s.heap l2 ys)
    (h : ∀ h', IsZip h' (s.heap.objs.size + 4) (s.heap.objs.size + 2) (s.heap.objs.size + 3) .none → IsPair h' (s.heap.objs.size + 2) (.ref s.heap.objs.size) (.ref (s.heap.objs.size + 1)) →
      IsPair h' (s.heap.objs.size + 3) .none .none → SqIt t1 h' s.heap.objs.size l1 0 → SqIt t2 h' (s.heap.objs.size + 1) l2 0 → (∀ c o, s.heap.get? c = some o → h'.get? c = some o) → Q (.ref (s.heap.objs.size + 4)) { s with heap := h' }) :
    wpAny (model prog w) A (call (.type "zip") [.ref l1, .ref l2]) Q E s := by
  refine callType_new F.called_zip (by decide) (F.typeCall_zip_2 _ _) (F.newCall_zip_2 _ _) (fun obj => F.args_object_init_3 obj _ _) F.entry_zip_new (zip_new t1 t2 l1 l2 xs ys) ⟨b1, b2, ?_⟩
  have s1 : (zH1 t1 s.heap l1).objs.size = s.heap.objs.size + 1 := Heap.size_push ..
  have s2 : (zH2 t1 t2 s.heap l1 l2).objs.size = s.heap.objs.size + 2 := by rw [Heap.size_push, s1]
  have s3 : (zH3 t1 t2 s.heap l1 l2).objs.size = s.heap.objs.size + 3 := by rw [Heap.size_push, s2]
  have s4 : (zH4 t1 t2 s.heap l1 l2).objs.size = s.heap.objs.size + 4 := by rw [Heap.size_push, s3]
  have g5 : (zH5 t1 t2 s.heap l1 l2).get? (zH4 t1 t2 s.heap l1 l2).objs.size = some _ := Heap.get?_push_size _ rfl
  have g4 : (zH5 t1 t2 s.heap l1 l2).get? (zH3 t1 t2 s.heap l1 l2).objs.size = some _ := Heap.get?_push_of_some _ (Heap.get?_push_size _ rfl)
  have g3 : (zH5 t1 t2 s.heap l1 l2).get? (zH2 t1 t2 s.heap l1 l2).objs.size = some _ := Heap.get?_push_of_some _ (Heap.get?_push_of_some _ (Heap.get?_push_size _ rfl))
  have g2 : (zH5 t1 t2 s.heap l1 l2).get? (zH1 t1 s.heap l1).objs.size = some { cls := .type (itName t2), data := .fields #[.ref l2, .int 0 0] } := Heap.get?_push_of_some _ (Heap.get?_push_of_some _ (Heap.get?_push_of_some _ (Heap.get?_push_size _ rfl)))
  have g1 : (zH5 t1 t2 s.heap l1 l2).get? s.heap.objs.size = some { cls := .type (itName t1), data := .fields #[.ref l1, .int 0 0] } := Heap.get?_push_of_some _ (Heap.get?_push_of_some _ (Heap.get?_push_of_some _ (Heap.get?_push_of_some _ (Heap.get?_push_size _ rfl))))
  have k : ∀ c o, s.heap.get? c = some o → (zH5 t1 t2 s.heap l1 l2).get? c = some o := fun c o e => Heap.get?_push_of_some _ (Heap.get?_push_of_some _ (Heap.get?_push_of_some _ (Heap.get?_push_of_some _ (Heap.get?_push_of_some _ e))))
  have it : ∀ {tp : Bool} {i l : Addr}, (zH5 t1 t2 s.heap l1 l2).get? i = some { cls := .type (itName tp), data := .fields #[.ref l, .int 0 0] } → SqIt tp (zH5 t1 t2 s.heap l1 l2) i l 0 := fun {tp i l} e => by
    cases tp <;> exact ⟨_, e, rfl, rfl⟩
  rw [s4] at g5
  rw [s3] at g4
  rw [s2] at g3
  rw [s1] at g2
  show _ ∧ _
  rw [s4]
  refine ⟨⟨_, g5, rfl⟩, h (zH5 t1 t2 s.heap l1 l2) ?_ ?_ g4 (it g1) (it g2) k⟩
  · rw [s2, s3] at g5; exact g5
  · rw [s1] at g3; exact g3
def iZipB (K : PySem.W.Frag) (ta : TA) : TI := fun σ H R => ta σ H fun vs H1 => ∃ t1 t2 a b xs ys, vs = [.ref a, .ref b] ∧ SqA t1 K H1 a xs ∧ SqA t2 K H1 b ys ∧ R (ItZ t1 t2 K a b) H1
theorem pi_zipB {X : Cx} {e e2 : Expr} {ta : TA} {p pos tpos : Pos} {elts : List Expr} {kk : Nat} (hg : Gl X "zip") (hm : X.mg "zip" = none) (ha : PA X [e, e2] ta)
    (hs : starEach [e, e2] X.env = (false, eval e X.env) :: starEach [e2] X.env := by rfl) (hpl : (backTo pos (starEach [e2] X.env)).any (·.1) = false := by rfl) :
    PI X (.Tuple elts kk tpos) (.Call (.Name "zip" p) [e, e2] [] pos) (iZipB X.K ta) := by
  refine ⟨fun pins s σ H R I h => ?_⟩
  refine Call_ (ld_blt I hg hm PyProof.Rows.boot_zip (PyProof.Rows.callWith_type1 (thn (ha.run pos pins s σ H _ I h) fun us s1 ⟨vs, H1, I1, r1, t1, t2, a, b, xs, ys, ex, hqx, hqy, q⟩ => ?_) hs hpl))
  subst ex
  cases r1 with
  | cons r rr =>
    cases rr with
    | cons r' rr =>
      cases rr
      cases r
      cases r'
      obtain ⟨its, rv, p1⟩ := sq_of I1 hqx
      obtain ⟨its2, rv2, p2⟩ := sq_of I1 hqy
      refine zip_call p1 p2 fun h' hz hTI hTO h1 h2 hk => wpAny_pyIter_zip hz ?_
      refine ⟨s1.heap.objs.size + 4, [s1.heap.objs.size + 4, s1.heap.objs.size + 2, s1.heap.objs.size + 3, s1.heap.objs.size, s1.heap.objs.size + 1], _, _, H1, rfl, I1.kept (t' := s1.toks) hk,
        turnZ (PySem.W.ktu_apart s1.heap.objs.size a b p1.lt p2.lt), ⟨hz, hTI, ⟨_, _, hTO⟩, h1, h2⟩, fun c hcm => ?_, q⟩
      have hle : s1.heap.objs.size ≤ c := by
        simp only [List.mem_cons, List.not_mem_nil, or_false] at hcm
        rcases hcm with q | q | q | q | q <;> rw [q] <;> first | exact Nat.le_add_right _ _ | exact Nat.le_refl _
      exact I1.fpOk hle (I1.hok.fresh hle)

/-! ### sum, max, min of ints in a list or a tuple -/
section
variable {prog : Program} {w : World} {A : Around} {E : Value → Shared → Prop} {s : Shared} {l : Addr} {ns : List Int}
theorem ints_of {its : List Value} (hi : IntsAre its ns) : ∃ xs : Array (Int × Tok), its.toArray = intItems xs ∧ xs.toList.map (·.1) = ns := by
  obtain ⟨xs, e⟩ := hi.allInts.items
  have hn : numsOf (intItems xs).toList = ns := by rw [← e]; exact hi.numsOf
  rw [nums_intItems] at hn
  exact ⟨xs, e, hn⟩
theorem iter_tupI {xs : Array (Int × Tok)} {Q : Value → Shared → Prop} (hl : s.heap.IsTuple l (intItems xs))
    (h : ∀ s2 : Shared, s2 = { s with heap := s.heap.push { cls := .type "tuple_iterator", data := .fields #[.ref l, .int 0 0] } } →
      (s2.heap.IsTupleIter s.heap.objs.size l 0 ∧ s2.heap.IsTuple l (intItems xs)) → (∀ b ∈ [s.heap.objs.size, l], b < s2.heap.objs.size) → l ≠ s.heap.objs.size → Q (.ref s.heap.objs.size) s2) : wpAny (model prog w) A (pyIter (.ref l)) Q E s := by
  have lt : l < s.heap.objs.size := let ⟨_, e, _⟩ := hl; Heap.lt_size e
  refine wpAny_pyIter_tuple hl (h _ rfl ⟨⟨_, Heap.get?_push_size _ rfl, rfl, rfl⟩, hl.push _⟩ (fun b hb => ?_) (Nat.ne_of_lt lt))
  show b < (s.heap.push _).objs.size
  rw [Heap.size_push]
  rcases List.mem_cons.mp hb with z | z
  · rw [z]; exact Nat.lt_succ_self _
  · rw [List.mem_singleton.mp z]; exact Nat.lt_succ_of_lt lt
theorem kept_tup {h' : Heap} (hk : ∀ b o, b ∉ [s.heap.objs.size] → (s.heap.push { cls := .type "tuple_iterator", data := .fields #[.ref l, .int 0 0] }).get? b = some o → h'.get? b = some o) :
    ∀ b o, s.heap.get? b = some o → h'.get? b = some o := fun b o e => hk b o (fun z => absurd (List.mem_singleton.mp z ▸ Heap.lt_size e) (Nat.lt_irrefl _)) (Heap.get?_push_of_some _ e)
theorem sum_tup {its : List Value} {Q : Value → Shared → Prop} (hh : A.handled = none) (hl : s.heap.IsTuple l its.toArray) (hi : IntsAre its ns)
    (h : ∀ h' tk t', (∀ b o, s.heap.get? b = some o → h'.get? b = some o) → Q (.int ns.sum t') { s with heap := h', toks := tk }) : wpAny (model prog w) A (call (.builtin "sum") [.ref l]) Q E s := by
  obtain ⟨xs, e, hn⟩ := ints_of hi
  rw [e] at hl
  refine call_sum_walkG (iter_tupI hl fun s2 e2 st hfp hlI => ?_)
  subst e2
  refine ⟨_, _, _, _, _, _, numAt xs, rfl, Walks.tuple (A := A.in1) hh _ l hlI (intItems xs), st, hfp, fun _ _ => intItems_at, fun h' tk t' hk => ?_⟩
  have q := h h' tk t' (kept_tup hk)
  have sz : (intItems xs).size = xs.size := by simp [intItems]
  rw [sz, preSum_eq, List.take_of_length_le (by simp), hn]
  exact q
theorem best_of (b : Bool) {xs : Array (Int × Tok)} (hn : xs.toList.map (·.1) = ns) (hne : 0 < ns.length) {v : Value} :
    ((intItems xs)[argBest (fun i j => match b with | true => decide (numAt xs i > numAt xs j) | false => decide (numAt xs i < numAt xs j)) (xs.size - 1)]? = some v) →
      ∃ m t, v = .int m t ∧ m ∈ ns ∧ ∀ y ∈ ns, match b with | true => y ≤ m | false => m ≤ y := by
  intro hv
  obtain ⟨t, rfl⟩ := intItems_at hv
  have hsz : 0 < xs.size := by rw [← hn] at hne; simpa using hne
  refine ⟨_, t, rfl, ?_, fun a ha => ?_⟩
  · rw [numAt_eq, hn]
    refine PySem.getD_mem ?_
    rw [← hn, List.length_map, Array.length_toList]
    cases b with
    | true =>
      have := (argBest_gt (numAt xs) (xs.size - 1)).1
      show argBest (fun i j => decide (numAt xs i > numAt xs j)) (xs.size - 1) < _
      omega
    | false =>
      have := (argBest_lt (numAt xs) (xs.size - 1)).1
      show argBest (fun i j => decide (numAt xs i < numAt xs j)) (xs.size - 1) < _
      omega
  · rw [← hn] at ha
    obtain ⟨j, hj, rfl⟩ := mem_getD ha
    rw [List.length_map, Array.length_toList] at hj
    cases b with
    | true =>
      show _ ≤ _
      rw [← numAt_eq]; exact (argBest_gt (numAt xs) (xs.size - 1)).2 j (by omega)
    | false =>
      show _ ≤ _
      rw [← numAt_eq]; exact (argBest_lt (numAt xs) (xs.size - 1)).2 j (by omega)
theorem max_tup {its : List Value} {Q : Value → Shared → Prop} (hh : A.handled = none) (hl : s.heap.IsTuple l its.toArray) (hi : IntsAre its ns) (hne : 0 < ns.length)
    (h : ∀ h' tk m t', (∀ b o, s.heap.get? b = some o → h'.get? b = some o) → m ∈ ns → (∀ a, a ∈ ns → a ≤ m) → Q (.int m t') { s with heap := h', toks := tk }) : wpAny (model prog w) A (call (.builtin "max") [.ref l]) Q E s := by
  obtain ⟨xs, e, hn⟩ := ints_of hi
  rw [e] at hl
  have sz : (intItems xs).size = xs.size := by simp [intItems]
  have hsz : 0 < xs.size := by rw [← hn] at hne; simpa using hne
  refine call_max_walk (iter_tupI hl fun s2 e2 st hfp hlI => ?_)
  subst e2
  refine ⟨_, _, _, _, _, _, _, rfl, Walks.tuple (A := A.in1) hh _ l hlI (intItems xs), st, hfp, by rw [sz]; exact hsz, CmpOf.ints_gt (numAt xs) (fun _ _ => intItems_at), fun v h' tk hP hk => ?_⟩
  rw [sz] at hP
  obtain ⟨m, t, rfl, h1, h2⟩ := best_of true hn hne hP
  exact h h' tk m t (kept_tup hk) h1 h2
theorem min_tup {its : List Value} {Q : Value → Shared → Prop} (hh : A.handled = none) (hl : s.heap.IsTuple l its.toArray) (hi : IntsAre its ns) (hne : 0 < ns.length)
    (h : ∀ h' tk m t', (∀ b o, s.heap.get? b = some o → h'.get? b = some o) → m ∈ ns → (∀ a, a ∈ ns → m ≤ a) → Q (.int m t') { s with heap := h', toks := tk }) : wpAny (model prog w) A (call (.builtin "min") [.ref l]) Q E s := by
  obtain ⟨xs, e, hn⟩ := ints_of hi
  rw [e] at hl
  have sz : (intItems xs).size = xs.size := by simp [intItems]
  have hsz : 0 < xs.size := by rw [← hn] at hne; simpa using hne
  refine call_min_walk (iter_tupI hl fun s2 e2 st hfp hlI => ?_)
  subst e2
  refine ⟨_, _, _, _, _, _, _, rfl, Walks.tuple (A := A.in1) hh _ l hlI (intItems xs), st, hfp, by rw [sz]; exact hsz, CmpOf.ints_lt (numAt xs) (fun _ _ => intItems_at), fun v h' tk hP hk => ?_⟩
  rw [sz] at hP
  obtain ⟨m, t, rfl, h1, h2⟩ := best_of false hn hne hP
  exact h h' tk m t (kept_tup hk) h1 h2
end
section
variable {X : Cx}
theorem cr_sumA (hc : X.calm = true) : CallR X (.builtin "sum") (fun vs H Q => ∃ (tp : Bool) (a : Addr) (ns : List Int), vs = [V.ref a] ∧ SqA tp X.K H a (ns.map V.int) ∧ Q (.int ns.sum) H) := by
  rintro pins s σ H vs us Q I r ⟨tp, a, ns, rfl, hs, q⟩
  cases tp with
  | false => exact cr_sum hc pins s σ H _ us Q I r ⟨a, ns, rfl, hs, q⟩
  | true =>
    obtain ⟨its, rv, hl, _⟩ := I.tuple hs
    rw [Vals.ref1 r]
    exact sum_tup (I.ok.hd hc) hl rv.ints fun h' tk t' hk => ⟨.int _, H, I.kept hk, ⟨_, rfl⟩, q⟩
theorem cr_maxA (hc : X.calm = true) : CallR X (.builtin "max") (fun vs H Q => ∃ (tp : Bool) (a : Addr) (ns : List Int), vs = [V.ref a] ∧ SqA tp X.K H a (ns.map V.int) ∧ 0 < ns.length ∧ ∀ m, m ∈ ns → (∀ y, y ∈ ns → y ≤ m) → Q (.int m) H) := by
  rintro pins s σ H vs us Q I r ⟨tp, a, ns, rfl, hs, hne, q⟩
  cases tp with
  | false => exact cr_max hc pins s σ H _ us Q I r ⟨a, ns, rfl, hs, hne, q⟩
  | true =>
    obtain ⟨its, rv, hl, _⟩ := I.tuple hs
    rw [Vals.ref1 r]
    exact max_tup (I.ok.hd hc) hl rv.ints hne fun h' tk m t' hk h1 h2 => ⟨.int _, H, I.kept hk, ⟨_, rfl⟩, q m h1 h2⟩
theorem cr_minA (hc : X.calm = true) : CallR X (.builtin "min") (fun vs H Q => ∃ (tp : Bool) (a : Addr) (ns : List Int), vs = [V.ref a] ∧ SqA tp X.K H a (ns.map V.int) ∧ 0 < ns.length ∧ ∀ m, m ∈ ns → (∀ y, y ∈ ns → m ≤ y) → Q (.int m) H) := by
  rintro pins s σ H vs us Q I r ⟨tp, a, ns, rfl, hs, hne, q⟩
  cases tp with
  | false => exact cr_min hc pins s σ H _ us Q I r ⟨a, ns, rfl, hs, hne, q⟩
  | true =>
    obtain ⟨its, rv, hl, _⟩ := I.tuple hs
    rw [Vals.ref1 r]
    exact min_tup (I.ok.hd hc) hl rv.ints hne fun h' tk m t' hk h1 h2 => ⟨.int _, H, I.kept hk, ⟨_, rfl⟩, q m h1 h2⟩
end
end TM

set_option maxRecDepth 100000
set_option maxHeartbeats 4000000
/-! TD: operations on data, and that the machine's operations do the same. -/
namespace TT
open PySem PySem.Spec PyProof.Rows L2
abbrev B := Bool × D

section
variable {T : Tb} {F H : Hp}
theorem TRep.rep_int {v : V} {i : Int} (h : TRep T F H v (.int i)) : v = .int i := by cases h; rfl
theorem TRep.rep_str {v : V} {i : Str} (h : TRep T F H v (.str i)) : v = .str i := by cases h; rfl

/-! ### sums, products .. -/
def addD : D → D → Option B
  | .int i, .int j => some (false, .int (i + j))
  | .str a, .str b => if a.length + b.length ≤ most then some (false, .str (a ++ b)) else none
  | .lst xs, .lst ys => if xs.length + ys.length ≤ most then some (true, .lst (xs ++ ys)) else none
  | .tup xs, .tup ys => if xs.length + ys.length ≤ most then some (false, .tup (xs ++ ys)) else none
  | _, _ => none
def rAddK (K : PySem.W.Frag) : R2 := fun x y H Q => (rI0 (fun i j => .int (i + j)) x y H Q ∨ (∃ i j, x = .str i ∧ y = .str j ∧ i.length + j.length ≤ sizeLine ∧ Q (.str (i ++ j)) H)) ∨ (rCat x y H Q ∨ rCatA K x y H Q)
theorem opr_add {X : Cx} : OpR X (binaryOp .Add) (rAddK X.K) := (op_add.or op_add_str).or (op_cat.or op_catA)
theorem ok_add : Ok2 T (rAddK T.K) addD := by
  intro F H v w d e x l rv rw h Q g
  cases rv <;> cases rw <;> simp only [addD] at h <;> first | cases h | skip
  case int.int i j => exact .inl (.inl ⟨i, j, rfl, rfl, Gives.same l (.int (i + j)) g⟩)
  case str.str a b =>
    split at h
    · rename_i hz
      cases h
      exact .inl (.inr ⟨a, b, rfl, rfl, by rw [← most_line]; exact hz, Gives.same l (.str (a ++ b)) g⟩)
    · cases h
  case lst.lst a vs ds h1 r1 b ws es h2 r2 =>
    split at h
    · rename_i hz
      cases h
      exact .inr (.inl ⟨a, b, vs, ws, rfl, rfl, h1, h2, by rw [r1.length, r2.length, ← most_line]; exact hz, fun p hp => g _ _ _ (New.lst l hp (r1.append r2))⟩)
    · cases h
  case tup.tup a vs ds h1 r1 b ws es h2 r2 =>
    split at h
    · rename_i hz
      cases h
      refine .inr (.inr ⟨a, b, vs, ws, rfl, rfl, seqT_mono l h1, seqT_mono l h2, by rw [r1.length, r2.length, ← most_line]; exact hz, fun e => ?_, fun _ e => ?_, fun _ _ p hp => g _ _ _ (New.tup l hp (r1.append r2))⟩)
      · subst e
        cases r1
        exact Gives.same l (.tup h2 r2) g
      · subst e
        cases r2
        rw [List.append_nil] at g
        exact Gives.same l (.tup h1 r1) g
    · cases h

def subD : D → D → Option B
  | .int i, .int j => some (false, .int (i - j))
  | _, _ => none
theorem ok_sub : Ok2 T (rI0 fun i j => .int (i - j)) subD := by
  intro F H v w d e x l rv rw h Q g
  cases rv <;> cases rw <;> simp only [subD] at h <;> cases h
  exact ⟨_, _, rfl, rfl, Gives.same l (.int _) g⟩

def smallI (i : Int) : Bool := decide (-(2 ^ 64) < i) && decide (i < 2 ^ 64)
def mulD : D → D → Option B
  | .int i, .int j => if smallI i || smallI j then some (false, .int (i * j)) else none
  | .lst xs, .int k => if decide (-(2 ^ 63) ≤ k) && decide (k < 2 ^ 63) && decide (xs.length * k.toNat ≤ most) then some (true, .lst (List.replicate k.toNat xs).flatten) else none
  | .tup xs, .int k => if !xs.isEmpty && decide (2 ≤ k) && decide (k ≤ 1000) && decide (xs.length ≤ 1000) then some (false, .tup (List.replicate k.toNat xs).flatten) else none
  | _, _ => none
def rMulK (K : PySem.W.Frag) : R2 := fun x y H Q => rI CMul (fun i j => .int (i * j)) x y H Q ∨ (rRep x y H Q ∨ rRepT K x y H Q)
theorem opr_mul {X : Cx} : OpR X (binaryOp .Mult) (rMulK X.K) := op_mul.or (op_rep.or op_repT)
theorem Reps.rep {vs : List V} {ds : List D} (r : Reps T F vs ds) : ∀ k : Nat, Reps T F (List.replicate k vs).flatten (List.replicate k ds).flatten
  | 0 => .nil
  | k + 1 => by
    rw [List.replicate_succ, List.replicate_succ, List.flatten_cons, List.flatten_cons]
    exact r.append (Reps.rep r k)
theorem ok_mul : Ok2 T (rMulK T.K) mulD := by
  intro F H v w d e x l rv rw h Q g
  cases rv <;> cases rw <;> simp only [mulD] at h <;> first | cases h | skip
  case int.int i j =>
    split at h
    · rename_i hz
      cases h
      refine .inl ⟨i, j, rfl, rfl, ?_, Gives.same l (.int (i * j)) g⟩
      simp only [smallI, Bool.or_eq_true, Bool.and_eq_true, decide_eq_true_eq] at hz
      exact hz
    · cases h
  case lst.int a vs ds h1 r1 k =>
    split at h
    · rename_i hz
      cases h
      simp only [Bool.and_eq_true, decide_eq_true_eq] at hz
      exact .inr (.inl ⟨a, k, vs, rfl, rfl, h1, hz.1.1, hz.1.2, by rw [r1.length, ← most_line]; exact hz.2, fun p hp => g _ _ _ (New.lst l hp (r1.rep _))⟩)
    · cases h
  case tup.int a vs ds h1 r1 k =>
    split at h
    · rename_i hz
      cases h
      simp only [Bool.and_eq_true, decide_eq_true_eq, Bool.not_eq_true'] at hz
      refine .inr (.inr ⟨a, k, vs, rfl, rfl, seqT_mono l h1, fun e => ?_, hz.1.1.2, hz.1.2, by rw [r1.length]; exact hz.2, fun p hp => g _ _ _ (New.tup l hp (r1.rep _))⟩)
      subst e
      cases r1
      exact Bool.noConfusion hz.1.1.1
    · cases h

def fdivD : D → D → Option B
  | .int i, .int j => if decide (0 < j) && decide (j < 1073741824) then some (false, .int (i / j)) else none
  | _, _ => none
theorem ok_fdiv : Ok2 T (rI CDiv fun i j => .int (i / j)) fdivD := by
  intro F H v w d e x l rv rw h Q g
  cases rv <;> cases rw <;> simp only [fdivD] at h <;> first | cases h | skip
  case int.int i j =>
    split at h
    · rename_i hz
      cases h
      simp only [Bool.and_eq_true, decide_eq_true_eq] at hz
      exact ⟨i, j, rfl, rfl, hz, Gives.same l (.int _) g⟩
    · cases h
def modD : D → D → Option B
  | .int i, .int j => if 0 < j then some (false, .int (i % j)) else none
  | _, _ => none
theorem ok_mod : Ok2 T (rI (fun _ j => 0 < j) fun i j => .int (i % j)) modD := by
  intro F H v w d e x l rv rw h Q g
  cases rv <;> cases rw <;> simp only [modD] at h <;> first | cases h | skip
  case int.int i j =>
    split at h
    · rename_i hz
      cases h
      exact ⟨i, j, rfl, rfl, hz, Gives.same l (.int _) g⟩
    · cases h
def powD : D → D → Option B
  | .int i, .int j => if decide (0 ≤ j) && decide (j ≤ 1000000) && decide (i.natAbs < 2 ^ 64) then some (false, .int (i ^ j.toNat)) else none
  | _, _ => none
theorem ok_pow : Ok2 T (rI CPow fun i j => .int (i ^ j.toNat)) powD := by
  intro F H v w d e x l rv rw h Q g
  cases rv <;> cases rw <;> simp only [powD] at h <;> first | cases h | skip
  case int.int i j =>
    split at h
    · rename_i hz
      cases h
      simp only [Bool.and_eq_true, decide_eq_true_eq] at hz
      exact ⟨i, j, rfl, rfl, ⟨hz.1.1, hz.1.2, hz.2⟩, Gives.same l (.int _) g⟩
    · cases h
def negD : D → Option B
  | .int i => some (false, .int (-i))
  | _ => none
theorem ok_neg : Ok1 T (rU fun i => .int (-i)) negD := by
  intro F H v d x l rv h Q g
  cases rv <;> simp only [negD] at h <;> cases h
  exact ⟨_, rfl, Gives.same l (.int _) g⟩

/-! ### comparisons -/
def ltD : D → D → Option B
  | .int i, .int j => some (false, .bl (decide (i < j)))
  | _, _ => none
theorem ok_lt : Ok2 T (rI0 fun i j => .bl (decide (i < j))) ltD := by
  intro F H v w d e x l rv rw h Q g
  cases rv <;> cases rw <;> simp only [ltD] at h <;> cases h
  exact ⟨_, _, rfl, rfl, Gives.same l (.bl _) g⟩
def leD : D → D → Option B
  | .int i, .int j => some (false, .bl (decide (i ≤ j)))
  | _, _ => none
theorem ok_le : Ok2 T (rI0 fun i j => .bl (decide (i ≤ j))) leD := by
  intro F H v w d e x l rv rw h Q g
  cases rv <;> cases rw <;> simp only [leD] at h <;> cases h
  exact ⟨_, _, rfl, rfl, Gives.same l (.bl _) g⟩
def gtD : D → D → Option B
  | .int i, .int j => some (false, .bl (decide (j < i)))
  | _, _ => none
theorem ok_gt : Ok2 T (rI0 fun i j => .bl (decide (j < i))) gtD := by
  intro F H v w d e x l rv rw h Q g
  cases rv <;> cases rw <;> simp only [gtD] at h <;> cases h
  exact ⟨_, _, rfl, rfl, Gives.same l (.bl _) g⟩
def geD : D → D → Option B
  | .int i, .int j => some (false, .bl (decide (j ≤ i)))
  | _, _ => none
theorem ok_ge : Ok2 T (rI0 fun i j => .bl (decide (j ≤ i))) geD := by
  intro F H v w d e x l rv rw h Q g
  cases rv <;> cases rw <;> simp only [geD] at h <;> cases h
  exact ⟨_, _, rfl, rfl, Gives.same l (.bl _) g⟩

mutual
def toP : D → Option PyData
  | .non => some .none
  | .bl b => some (.bool b)
  | .int i => some (.int i)
  | .str x => some (.str x)
  | .lst xs => (toPs xs).map .list
  | .frz xs => (toPs xs).map .list
  | .tup xs => (toPs xs).map .tuple
  | .dct _ _ => none
  | .ins _ _ _ => none
  | .opq _ _ => none
def toPs : List D → Option (List PyData)
  | [] => some []
  | x :: xs => match toP x, toPs xs with
    | some p, some ps => some (p :: ps)
    | _, _ => none
end
mutual
theorem dp_of {v : V} : ∀ (d : D) {p : PyData}, Rep T F v d → toP d = some p → Same F H → Dp T.K H v p
  | .non, p, h, e, l => by cases h; simp only [toP] at e; cases e; exact .non
  | .bl b, p, h, e, l => by cases h; simp only [toP] at e; cases e; exact .bl b
  | .int i, p, h, e, l => by cases h; simp only [toP] at e; cases e; exact .int i
  | .str x, p, h, e, l => by cases h; simp only [toP] at e; cases e; exact .str x
  | .lst xs, p, h, e, l => by
    cases h with
    | lst q r =>
      simp only [toP] at e
      cases e2 : toPs xs with
      | none => rw [e2] at e; cases e
      | some ps => rw [e2] at e; cases e; exact .lst (SqL.of (l _ _ q)) (dps_of xs r e2 l)
  | .frz xs, p, h, e, l => by
    cases h with
    | frz q r =>
      simp only [toP] at e
      cases e2 : toPs xs with
      | none => rw [e2] at e; cases e
      | some ps => rw [e2] at e; cases e; exact .lst (l.seq q) (dps_of xs r e2 l)
  | .tup xs, p, h, e, l => by
    cases h with
    | tup q r =>
      simp only [toP] at e
      cases e2 : toPs xs with
      | none => rw [e2] at e; cases e
      | some ps => rw [e2] at e; cases e; exact .tup (seqT_mono l q) (dps_of xs r e2 l)
  | .dct ks vs, p, h, e, l => by simp only [toP] at e; cases e
  | .ins c ns vs, p, h, e, l => by simp only [toP] at e; cases e
  | .opq n vs, p, h, e, l => by simp only [toP] at e; cases e
theorem dps_of {vs : List V} : ∀ (ds : List D) {ps : List PyData}, Reps T F vs ds → toPs ds = some ps → Same F H → DpAll T.K H vs ps
  | [], ps, h, e, l => by cases h; simp only [toPs] at e; cases e; exact .nil
  | d :: ds, ps, h, e, l => by
    cases h with
    | cons h r =>
      simp only [toPs] at e
      cases e1 : toP d with
      | none => rw [e1] at e; cases e
      | some q =>
        cases e2 : toPs ds with
        | none => rw [e1, e2] at e; cases e
        | some qs => rw [e1, e2] at e; cases e; exact .cons (dp_of d h e1 l) (dps_of ds r e2 l)
end
theorem TRep.dp {v : V} {d : D} {p : PyData} (h : TRep T F H v d) (e : toP d = some p) (l : Same F H) : Dp T.K H v p := by
  cases h with
  | non => simp only [toP] at e; cases e; exact .non
  | bl b => simp only [toP] at e; cases e; exact .bl b
  | int i => simp only [toP] at e; cases e; exact .int i
  | str x => simp only [toP] at e; cases e; exact .str x
  | lst q r =>
    simp only [toP] at e
    rename_i xs
    cases e2 : toPs xs with
    | none => rw [e2] at e; cases e
    | some ps => rw [e2] at e; cases e; exact .lst (SqL.of q) (dps_of xs r e2 l)
  | frz q r =>
    simp only [toP] at e
    rename_i xs
    cases e2 : toPs xs with
    | none => rw [e2] at e; cases e
    | some ps => rw [e2] at e; cases e; exact .lst (l.seq q) (dps_of xs r e2 l)
  | tup q r =>
    simp only [toP] at e
    rename_i xs
    cases e2 : toPs xs with
    | none => rw [e2] at e; cases e
    | some ps => rw [e2] at e; cases e; exact .tup (seqT_mono l q) (dps_of xs r e2 l)
  | dct _ _ _ _ => simp only [toP] at e; cases e
  | ins _ _ _ _ _ => simp only [toP] at e; cases e
  | opq _ _ => simp only [toP] at e; cases e
/-- a list's items -/
def lnD : D → Option (List D)
  | .lst xs => some xs
  | .frz xs => some xs
  | _ => none
/-- lists of unlike lengths -/
def eqLen : Option (List D) → Option (List D) → Option Bool
  | some xs, some ys => if xs.length = ys.length then none else some false
  | _, _ => none
def rEqL (K : PySem.W.Frag) (b : Bool) : R2 := fun x y H Q => ∃ p q xs ys, x = V.ref p ∧ y = V.ref q ∧ SqL K H p xs ∧ SqL K H q ys ∧ xs.length ≠ ys.length ∧ Q (.bl b) H
theorem op_eqL {X : Cx} (hu : X.A.units + 64 < cLine) : OpR X (compareOp .Eq) (rEqL X.K false) := by
  intro pins s σ H x y v u Q I rx ry h
  obtain ⟨p, q, xs, ys, rfl, rfl, h1, h2, hl, k⟩ := h
  cases rx
  cases ry
  obtain ⟨i1, r1, ⟨o1, n1, e1, c1, d1⟩, _⟩ := I.list h1
  obtain ⟨i2, r2, ⟨o2, n2, e2, c2, d2⟩, _⟩ := I.list h2
  have hs : (i1.toArray.size != i2.toArray.size) = true := by
    rw [List.size_toArray, List.size_toArray, ← r1.length, ← r2.length, bne_iff_ne]
    exact hl
  exact SeqAt.RcAt.lists_lengths ⟨o1, e1, c1, n1, d1.2⟩ ⟨o2, e2, c2, n2, d2.2⟩ hs (by omega) _ _ _ _ ⟨.bl _, H, I, rfl, k⟩
theorem op_neL {X : Cx} (hu : X.A.units + 64 < cLine) : OpR X (compareOp .NotEq) (rEqL X.K true) := by
  intro pins s σ H x y v u Q I rx ry h
  obtain ⟨p, q, xs, ys, rfl, rfl, h1, h2, hl, k⟩ := h
  cases rx
  cases ry
  obtain ⟨i1, r1, ⟨o1, n1, e1, c1, d1⟩, _⟩ := I.list h1
  obtain ⟨i2, r2, ⟨o2, n2, e2, c2, d2⟩, _⟩ := I.list h2
  have hs : (i1.toArray.size != i2.toArray.size) = true := by
    rw [List.size_toArray, List.size_toArray, ← r1.length, ← r2.length, bne_iff_ne]
    exact hl
  exact SeqAt.RcNeAt.lists_lengths ⟨o1, e1, c1, n1, d1.2⟩ ⟨o2, e2, c2, n2, d2.2⟩ hs (by omega) _ _ _ _ ⟨.bl _, H, I, rfl, k⟩
theorem TRep.ln {v : V} {d : D} {ds : List D} (h : TRep T F H v d) (e : lnD d = some ds) (l : Same F H) : ∃ p vs, v = .ref p ∧ SqL T.K H p vs ∧ vs.length = ds.length := by
  cases h with
  | lst q r => cases e; exact ⟨_, _, rfl, SqL.of q, r.length⟩
  | frz q r => cases e; exact ⟨_, _, rfl, l.seq q, r.length⟩
  | _ => cases e
/-- == of data -/
def eqB : D → D → Option Bool
  | .int i, .int j => some (decide (i = j))
  | .str i, .str j => some (decide (i = j))
  | .bl i, .bl j => some (decide (i = j))
  | d, e => match eqLen (lnD d) (lnD e) with
    | some b => some b
    | none => match toP d, toP e with
      | some p, some q => if SeqAt.shaped p && SeqAt.shaped q then some (PyData.eqv p q) else none
      | _, _ => none
def eqD (d e : D) : Option B := (eqB d e).map fun b => (false, .bl b)
def neD (d e : D) : Option B := (eqB d e).map fun b => (false, .bl (!b))
def rEqK (K : PySem.W.Frag) : R2 := fun x y H Q => (rEq x y H Q ∨ rEqD K x y H Q) ∨ rEqL K false x y H Q
def rNeK (K : PySem.W.Frag) : R2 := fun x y H Q => (rNe x y H Q ∨ rNeD K x y H Q) ∨ rEqL K true x y H Q
theorem opr_eq {X : Cx} (hu : X.A.units + 64 < cLine) : OpR X (compareOp .Eq) (rEqK X.K) := (op_eq.or (op_eqD hu)).or (op_eqL hu)
theorem opr_ne {X : Cx} (hu : X.A.units + 64 < cLine) : OpR X (compareOp .NotEq) (rNeK X.K) := (op_ne.or (op_neD hu)).or (op_neL hu)
theorem eqB_cases {v w : V} {d e : D} {b : Bool} (l : Same F H) (rv : TRep T F H v d) (rw : TRep T F H w e) (h : eqB d e = some b) :
    (scal v w = true ∧ decide (v = w) = b) ∨ (∃ p q, Dp T.K H v p ∧ Dp T.K H w q ∧ SeqAt.shaped p = true ∧ SeqAt.shaped q = true ∧ PyData.eqv p q = b) ∨ (b = false ∧ ∃ p q xs ys, v = V.ref p ∧ w = V.ref q ∧ SqL T.K H p xs ∧ SqL T.K H q ys ∧ xs.length ≠ ys.length) := by
  unfold eqB at h
  split at h
  · cases h
    cases rv; cases rw
    exact .inl ⟨rfl, by simp⟩
  · cases h
    cases rv; cases rw
    exact .inl ⟨rfl, by simp⟩
  · cases h
    cases rv; cases rw
    exact .inl ⟨rfl, by simp⟩
  · split at h
    · rename_i b' eb
      cases h
      cases e1 : lnD d with
      | none => rw [e1] at eb; cases eb
      | some xs =>
        cases e2 : lnD e with
        | none => rw [e1, e2] at eb; cases eb
        | some ys =>
          rw [e1, e2] at eb
          unfold eqLen at eb
          obtain ⟨p, vs, y1, y2, y3⟩ := rv.ln e1 l
          obtain ⟨q, ws, z1, z2, z3⟩ := rw.ln e2 l
          by_cases hl : xs.length = ys.length
          · simp only [if_pos hl] at eb; cases eb
          · simp only [if_neg hl] at eb
            cases eb
            exact .inr (.inr ⟨rfl, p, q, vs, ws, y1, z1, y2, z2, by rw [y3, z3]; exact hl⟩)
    · split at h
      · rename_i p q e1 e2
        split at h
        · rename_i hs
          cases h
          rw [Bool.and_eq_true] at hs
          exact .inr (.inl ⟨p, q, rv.dp e1 l, rw.dp e2 l, hs.1, hs.2, rfl⟩)
        · cases h
      · cases h
theorem ok_eq : Ok2 T (rEqK T.K) eqD := by
  intro F H v w d e x l rv rw h Q g
  unfold eqD at h
  cases e1 : eqB d e with
  | none => rw [e1] at h; cases h
  | some b =>
    rw [e1] at h
    cases h
    rcases eqB_cases l rv rw e1 with ⟨h1, h2⟩ | ⟨p, q, h1, h2, h3, h4, h5⟩ | ⟨h0, p, q, vs, ws, h1, h2, h3, h4, h5⟩
    · subst h2
      exact .inl (.inl ⟨h1, Gives.same l (.bl _) g⟩)
    · subst h5
      exact .inl (.inr ⟨p, q, h1, h2, h3, h4, Gives.same l (.bl _) g⟩)
    · subst h0
      exact .inr ⟨p, q, vs, ws, h1, h2, h3, h4, h5, Gives.same l (.bl _) g⟩
theorem ok_ne : Ok2 T (rNeK T.K) neD := by
  intro F H v w d e x l rv rw h Q g
  unfold neD at h
  cases e1 : eqB d e with
  | none => rw [e1] at h; cases h
  | some b =>
    rw [e1] at h
    cases h
    rcases eqB_cases l rv rw e1 with ⟨h1, h2⟩ | ⟨p, q, h1, h2, h3, h4, h5⟩ | ⟨h0, p, q, vs, ws, h1, h2, h3, h4, h5⟩
    · subst h2
      exact .inl (.inl ⟨h1, Gives.same l (.bl _) g⟩)
    · subst h5
      exact .inl (.inr ⟨p, q, h1, h2, h3, h4, Gives.same l (.bl _) g⟩)
    · subst h0
      exact .inr ⟨p, q, vs, ws, h1, h2, h3, h4, h5, Gives.same l (.bl _) g⟩
def isNon : D → Bool
  | .non => true
  | _ => false
def isD : D → D → Option B
  | d, .non => some (false, .bl (isNon d))
  | _, _ => none
def isntD : D → D → Option B
  | d, .non => some (false, .bl (!isNon d))
  | _, _ => none
theorem TRep.non_iff {v : V} {d : D} (h : TRep T F H v d) : decide (v = .non) = isNon d := by
  cases h <;> simp [isNon]
theorem ok_is : Ok2 T (fun x y H Q => y = .non ∧ Q (.bl (decide (x = .non))) H) isD := by
  intro F H v w d e x l rv rw h Q g
  cases rw <;> simp only [isD] at h <;> cases h
  · refine ⟨rfl, ?_⟩
    rw [rv.non_iff]
    exact Gives.same l (.bl _) g
theorem ok_isnt : Ok2 T (fun x y H Q => y = .non ∧ Q (.bl (!decide (x = .non))) H) isntD := by
  intro F H v w d e x l rv rw h Q g
  cases rw <;> simp only [isntD] at h <;> cases h
  · refine ⟨rfl, ?_⟩
    rw [rv.non_iff]
    exact Gives.same l (.bl _) g

/-! ### in -/
def flV : D → Option V
  | .non => some .non
  | .bl b => some (.bl b)
  | .int i => some (.int i)
  | .str x => some (.str x)
  | _ => none
def flVs : List D → Option (List V)
  | [] => some []
  | d :: ds => match flV d, flVs ds with
    | some v, some vs => some (v :: vs)
    | _, _ => none
theorem flV_rep {v u : V} {d : D} (h : Rep T F v d) (e : flV d = some u) : v = u ∧ flatV u = true := by
  cases h <;> simp only [flV] at e <;> cases e <;> exact ⟨rfl, rfl⟩
theorem flV_top {v u : V} {d : D} (h : TRep T F H v d) (e : flV d = some u) : v = u ∧ flatV u = true := by
  cases h <;> simp only [flV] at e <;> cases e <;> exact ⟨rfl, rfl⟩
theorem flVs_reps : ∀ {ds : List D} {vs us : List V}, Reps T F vs ds → flVs ds = some us → vs = us ∧ us.all flatV = true
  | [], _, _, h, e => by cases h; cases e; exact ⟨rfl, rfl⟩
  | d :: ds, _, us, .cons h r, e => by
    simp only [flVs] at e
    cases e1 : flV d with
    | none => rw [e1] at e; cases e
    | some u =>
      cases e2 : flVs ds with
      | none => rw [e1, e2] at e; cases e
      | some us' =>
        rw [e1, e2] at e
        cases e
        obtain ⟨h1, h2⟩ := flV_rep h e1
        obtain ⟨h3, h4⟩ := flVs_reps r e2
        subst h1 h3
        exact ⟨rfl, by rw [List.all_cons, h2, h4]; rfl⟩
def itemsD : D → Option (List D)
  | .lst xs => some xs
  | .frz xs => some xs
  | .tup xs => some xs
  | _ => none
theorem TRep.items {v : V} {d : D} {ds : List D} (h : TRep T F H v d) (l : Same F H) (e : itemsD d = some ds) : ∃ p vs, v = .ref p ∧ Reps T F vs ds ∧ (SqL T.K H p vs ∨ SqT T.K H p vs) := by
  cases h <;> simp only [itemsD] at e <;> cases e
  · exact ⟨_, _, rfl, ‹_›, .inl (SqL.of ‹_›)⟩
  · rename_i hq r
    exact ⟨_, _, rfl, r, .inl (l.seq hq)⟩
  · rename_i hq r
    exact ⟨_, _, rfl, r, .inr (seqT_mono l hq)⟩
def inB (d e : D) : Option Bool := match flV d, (itemsD e).bind flVs with
  | some u, some us => some (inV u us)
  | _, _ => none
def inD (d e : D) : Option B := (inB d e).map fun b => (false, .bl b)
def notInD (d e : D) : Option B := (inB d e).map fun b => (false, .bl (!b))
theorem inB_cases {v w : V} {d e : D} {b : Bool} (l : Same F H) (rv : TRep T F H v d) (rw : TRep T F H w e) (h : inB d e = some b) :
    ∃ p vs, w = .ref p ∧ (SqL T.K H p vs ∨ SqT T.K H p vs) ∧ flatV v = true ∧ vs.all flatV = true ∧ inV v vs = b := by
  unfold inB at h
  cases e1 : flV d with
  | none => rw [e1] at h; cases h
  | some u =>
    cases e2 : itemsD e with
    | none => rw [e1, e2] at h; cases h
    | some ds =>
      cases e3 : flVs ds with
      | none => simp only [e1, e2, Option.bind, e3] at h; cases h
      | some us =>
        simp only [e1, e2, Option.bind, e3] at h
        cases h
        obtain ⟨h1, h2⟩ := flV_top rv e1
        obtain ⟨p, vs, hw, r, q⟩ := rw.items l e2
        obtain ⟨h3, h4⟩ := flVs_reps r e3
        subst h1 h3
        exact ⟨p, vs, hw, q, h2, h4, rfl⟩
theorem ok_in : Ok2 T (rIn T.K false) inD := by
  intro F H v w d e x l rv rw h Q g
  unfold inD at h
  cases e1 : inB d e with
  | none => rw [e1] at h; cases h
  | some b =>
    rw [e1] at h
    cases h
    obtain ⟨p, vs, h1, h2, h3, h4, h5⟩ := inB_cases l rv rw e1
    subst h5
    exact ⟨p, vs, h1, h2, h3, h4, Gives.same l (.bl _) g⟩
theorem ok_notIn : Ok2 T (rIn T.K true) notInD := by
  intro F H v w d e x l rv rw h Q g
  unfold notInD at h
  cases e1 : inB d e with
  | none => rw [e1] at h; cases h
  | some b =>
    rw [e1] at h
    cases h
    obtain ⟨p, vs, h1, h2, h3, h4, h5⟩ := inB_cases l rv rw e1
    subst h5
    exact ⟨p, vs, h1, h2, h3, h4, Gives.same l (.bl _) g⟩

/-! ### subscripts -/
def ixD : D → D → Option B
  | .str z, .int i => if z.length ≤ most then (atI z.cps.toList i).map fun c => (false, .str ⟨#[c]⟩) else none
  | d, .int i => ((itemsD d).bind fun ds => atI ds i).map fun x => (false, x)
  | _, _ => none
theorem atI_reps {vs : List V} {ds : List D} {i : Int} {d : D} (r : Reps T F vs ds) (h : atI ds i = some d) : ∃ v, atI vs i = some v ∧ Rep T F v d := by
  unfold atI at h ⊢
  rw [r.length]
  cases e : ixN ds.length i with
  | none => rw [e] at h; cases h
  | some j =>
    rw [e] at h
    exact r.get h
theorem ok_ix : Ok2 T (rIx T.K) ixD := by
  intro F H v w d e x l rv rw h Q g
  have seq : ∀ {i : Int} {ds : List D}, itemsD d = some ds → (atI ds i).map (fun x => (false, x)) = some x → e = .int i → rIx T.K v w H Q := by
    intro i ds e1 e2 e3
    subst e3
    cases rw
    cases e4 : atI ds i with
    | none => rw [e4] at e2; cases e2
    | some y =>
      rw [e4] at e2
      cases e2
      obtain ⟨p, vs, h1, r, h2⟩ := rv.items l e1
      obtain ⟨u, h3, h4⟩ := atI_reps r e4
      rcases h2 with h2 | h2
      · exact .inl ⟨p, vs, i, u, h1, rfl, h2, h3, Gives.same l h4 g⟩
      · exact .inr (.inl ⟨p, vs, i, u, h1, rfl, h2, h3, Gives.same l h4 g⟩)
  unfold ixD at h
  split at h
  · rename_i z i
    split at h
    · rename_i hz
      cases rv; cases rw
      cases e1 : atI z.cps.toList i with
      | none => rw [e1] at h; cases h
      | some c =>
        rw [e1] at h
        cases h
        exact .inr (.inr ⟨z, i, c, rfl, rfl, by rw [← most_line]; exact hz, e1, Gives.same l (.str _) g⟩)
    · cases h
  · rename_i i _
    cases e1 : itemsD d with
    | none => rw [e1] at h; cases h
    | some ds => rw [e1] at h; exact seq e1 h rfl
  · cases h

/-! ### built-in functions -/
def lenD : List D → Option B
  | [.str z] => if z.length ≤ most then some (false, .int z.length) else none
  | [d] => (itemsD d).map fun ds => (false, .int ds.length)
  | _ => none
theorem ok_len : OkN T (fun xs H Q => ∃ x n, xs = [x] ∧ LenV T.K x H n ∧ Q (.int n) H) lenD := by
  intro F H vs ds x l r h Q g
  unfold lenD at h
  split at h
  · rename_i z
    split at h
    · rename_i hz
      cases h
      cases r with
      | cons rv r =>
        cases r
        cases rv
        exact ⟨_, z.length, rfl, ⟨by rw [← most_line]; exact hz, rfl⟩, Gives.same l (.int _) g⟩
    · cases h
  · rename_i d _
    cases e1 : itemsD d with
    | none => rw [e1] at h; cases h
    | some es =>
      rw [e1] at h
      cases h
      cases r with
      | cons rv r =>
        cases r
        obtain ⟨p, us, rfl, r2, h2⟩ := rv.items l e1
        refine ⟨_, us.length, rfl, ?_, by rw [r2.length]; exact Gives.same l (.int _) g⟩
        rcases h2 with h2 | h2
        · exact .inl ⟨us, h2, rfl⟩
        · exact .inr ⟨us, h2, rfl⟩
  · cases h
def intsD : List D → Option (List Int)
  | [] => some []
  | .int i :: ds => (intsD ds).map (i :: ·)
  | _ :: _ => none
theorem ints_reps : ∀ {ds : List D} {vs : List V} {ns : List Int}, Reps T F vs ds → intsD ds = some ns → vs = ns.map V.int
  | [], _, _, h, e => by cases h; cases e; rfl
  | .int i :: ds, _, ns, .cons h r, e => by
    simp only [intsD] at e
    cases e1 : intsD ds with
    | none => rw [e1] at e; cases e
    | some ms =>
      rw [e1] at e
      cases e
      cases h
      rw [ints_reps r e1]
      rfl
  | .non :: _, _, _, _, e => by simp only [intsD] at e; cases e
  | .bl _ :: _, _, _, _, e => by simp only [intsD] at e; cases e
  | .str _ :: _, _, _, _, e => by simp only [intsD] at e; cases e
  | .lst _ :: _, _, _, _, e => by simp only [intsD] at e; cases e
  | .frz _ :: _, _, _, _, e => by simp only [intsD] at e; cases e
  | .tup _ :: _, _, _, _, e => by simp only [intsD] at e; cases e
  | .dct _ _ :: _, _, _, _, e => by simp only [intsD] at e; cases e
  | .ins _ _ _ :: _, _, _, _, e => by simp only [intsD] at e; cases e
  | .opq _ _ :: _, _, _, _, e => by simp only [intsD] at e; cases e
theorem TRep.seqA {v : V} {d : D} {ds : List D} (h : TRep T F H v d) (l : Same F H) (e : itemsD d = some ds) : ∃ tp p vs, v = .ref p ∧ Reps T F vs ds ∧ TM.SqA tp T.K H p vs := by
  obtain ⟨p, vs, h1, r, h2⟩ := h.items l e
  rcases h2 with h2 | h2
  · exact ⟨false, p, vs, h1, r, h2⟩
  · exact ⟨true, p, vs, h1, r, h2⟩
def sumD : List D → Option B
  | [d] => ((itemsD d).bind intsD).map fun ns => (false, .int ns.sum)
  | _ => none
theorem one_ints {vs : List V} {d : D} {ns : List Int} (l : Same F H) (r : TReps T F H vs [d]) (e : (itemsD d).bind intsD = some ns) : ∃ tp p, vs = [V.ref p] ∧ TM.SqA tp T.K H p (ns.map V.int) := by
  cases r with
  | cons rv r =>
    cases r
    cases e1 : itemsD d with
    | none => rw [e1] at e; cases e
    | some es =>
      rw [e1] at e
      obtain ⟨tp, p, us, rfl, r2, h2⟩ := rv.seqA l e1
      rw [ints_reps r2 e] at h2
      exact ⟨tp, p, rfl, h2⟩
theorem ok_sum : OkN T (fun vs H Q => ∃ (tp : Bool) (a : Addr) (ns : List Int), vs = [V.ref a] ∧ TM.SqA tp T.K H a (ns.map V.int) ∧ Q (.int ns.sum) H) sumD := by
  intro F H vs ds x l r h Q g
  unfold sumD at h
  split at h
  · rename_i d
    cases e1 : (itemsD d).bind intsD with
    | none => rw [e1] at h; cases h
    | some ns =>
      rw [e1] at h
      cases h
      obtain ⟨tp, p, h1, h2⟩ := one_ints l r e1
      exact ⟨tp, p, ns, h1, h2, Gives.same l (.int _) g⟩
  · cases h
def maxI : List Int → Int
  | [] => 0
  | i :: ns => ns.foldl max i
def minI : List Int → Int
  | [] => 0
  | i :: ns => ns.foldl min i
theorem foldl_max (ns : List Int) : ∀ i : Int, (ns.foldl max i = i ∨ ns.foldl max i ∈ ns) ∧ i ≤ ns.foldl max i ∧ ∀ y ∈ ns, y ≤ ns.foldl max i := by
  induction ns with
  | nil => intro i; simp
  | cons a ns ih =>
    intro i
    obtain ⟨h1, h2, h3⟩ := ih (max i a)
    rw [List.foldl_cons]
    refine ⟨?_, by omega, fun y hy => ?_⟩
    · rcases h1 with h1 | h1
      · rw [h1]
        by_cases q : i ≤ a
        · right; rw [Int.max_eq_right q]; exact List.mem_cons_self
        · left; exact Int.max_eq_left (by omega)
      · right; exact List.mem_cons_of_mem _ h1
    · rcases List.mem_cons.mp hy with e | e
      · subst e; omega
      · exact h3 y e
theorem foldl_min (ns : List Int) : ∀ i : Int, (ns.foldl min i = i ∨ ns.foldl min i ∈ ns) ∧ ns.foldl min i ≤ i ∧ ∀ y ∈ ns, ns.foldl min i ≤ y := by
  induction ns with
  | nil => intro i; simp
  | cons a ns ih =>
    intro i
    obtain ⟨h1, h2, h3⟩ := ih (min i a)
    rw [List.foldl_cons]
    refine ⟨?_, by omega, fun y hy => ?_⟩
    · rcases h1 with h1 | h1
      · rw [h1]
        by_cases q : a ≤ i
        · right; rw [Int.min_eq_right q]; exact List.mem_cons_self
        · left; exact Int.min_eq_left (by omega)
      · right; exact List.mem_cons_of_mem _ h1
    · rcases List.mem_cons.mp hy with e | e
      · subst e; omega
      · exact h3 y e
theorem maxI_unique {ns : List Int} {m : Int} (h1 : m ∈ ns) (h2 : ∀ y, y ∈ ns → y ≤ m) : m = maxI ns := by
  cases ns with
  | nil => cases h1
  | cons i ns =>
    obtain ⟨q1, q2, q3⟩ := foldl_max ns i
    show m = ns.foldl max i
    have a1 : ns.foldl max i ≤ m := by
      rcases q1 with q1 | q1
      · rw [q1]; exact h2 i List.mem_cons_self
      · exact h2 _ (List.mem_cons_of_mem _ q1)
    have a2 : m ≤ ns.foldl max i := by
      rcases List.mem_cons.mp h1 with e | e
      · subst e; exact q2
      · exact q3 m e
    omega
theorem minI_unique {ns : List Int} {m : Int} (h1 : m ∈ ns) (h2 : ∀ y, y ∈ ns → m ≤ y) : m = minI ns := by
  cases ns with
  | nil => cases h1
  | cons i ns =>
    obtain ⟨q1, q2, q3⟩ := foldl_min ns i
    show m = ns.foldl min i
    have a1 : m ≤ ns.foldl min i := by
      rcases q1 with q1 | q1
      · rw [q1]; exact h2 i List.mem_cons_self
      · exact h2 _ (List.mem_cons_of_mem _ q1)
    have a2 : ns.foldl min i ≤ m := by
      rcases List.mem_cons.mp h1 with e | e
      · subst e; exact q2
      · exact q3 m e
    omega
def maxD : List D → Option B
  | [.int i, .int j] => some (false, .int (if j > i then j else i))
  | [d] => ((itemsD d).bind intsD).bind fun ns => if 0 < ns.length then some (false, .int (maxI ns)) else none
  | _ => none
def minD : List D → Option B
  | [.int i, .int j] => some (false, .int (if j < i then j else i))
  | [d] => ((itemsD d).bind intsD).bind fun ns => if 0 < ns.length then some (false, .int (minI ns)) else none
  | _ => none
def rMaxK (K : PySem.W.Frag) : List V → Hp → VK → Prop := fun vs H Q => (∃ i j, vs = [.int i, .int j] ∧ Q (.int (if j > i then j else i)) H) ∨
  ∃ (tp : Bool) (a : Addr) (ns : List Int), vs = [V.ref a] ∧ TM.SqA tp K H a (ns.map V.int) ∧ 0 < ns.length ∧ ∀ m, m ∈ ns → (∀ y, y ∈ ns → y ≤ m) → Q (.int m) H
def rMinK (K : PySem.W.Frag) : List V → Hp → VK → Prop := fun vs H Q => (∃ i j, vs = [.int i, .int j] ∧ Q (.int (if j < i then j else i)) H) ∨
  ∃ (tp : Bool) (a : Addr) (ns : List Int), vs = [V.ref a] ∧ TM.SqA tp K H a (ns.map V.int) ∧ 0 < ns.length ∧ ∀ m, m ∈ ns → (∀ y, y ∈ ns → m ≤ y) → Q (.int m) H
theorem callr_max {X : Cx} (hc : X.calm = true) : CallR X (.builtin "max") (rMaxK X.K) := (call_max2 hc).or (TM.cr_maxA hc)
theorem callr_min {X : Cx} (hc : X.calm = true) : CallR X (.builtin "min") (rMinK X.K) := (call_min2 hc).or (TM.cr_minA hc)
theorem ok_max : OkN T (rMaxK T.K) maxD := by
  intro F H vs ds x l r h Q g
  unfold maxD at h
  split at h
  · rename_i i j
    cases h
    cases r with
    | cons r1 r =>
      cases r with
      | cons r2 r =>
        cases r; cases r1; cases r2
        exact .inl ⟨i, j, rfl, Gives.same l (.int _) g⟩
  · rename_i d
    cases e1 : (itemsD d).bind intsD with
    | none => rw [e1] at h; cases h
    | some ns =>
      rw [e1] at h
      simp only [Option.bind] at h
      split at h
      · rename_i hl
        cases h
        obtain ⟨tp, p, h1, h2⟩ := one_ints l r e1
        refine .inr ⟨tp, p, ns, h1, h2, hl, fun m q1 q2 => ?_⟩
        rw [maxI_unique q1 q2]
        exact Gives.same l (.int _) g
      · cases h
  · cases h
theorem ok_min : OkN T (rMinK T.K) minD := by
  intro F H vs ds x l r h Q g
  unfold minD at h
  split at h
  · rename_i i j
    cases h
    cases r with
    | cons r1 r =>
      cases r with
      | cons r2 r =>
        cases r; cases r1; cases r2
        exact .inl ⟨i, j, rfl, Gives.same l (.int _) g⟩
  · rename_i d
    cases e1 : (itemsD d).bind intsD with
    | none => rw [e1] at h; cases h
    | some ns =>
      rw [e1] at h
      simp only [Option.bind] at h
      split at h
      · rename_i hl
        cases h
        obtain ⟨tp, p, h1, h2⟩ := one_ints l r e1
        refine .inr ⟨tp, p, ns, h1, h2, hl, fun m q1 q2 => ?_⟩
        rw [minI_unique q1 q2]
        exact Gives.same l (.int _) g
      · cases h
  · cases h
def absD : List D → Option B
  | [.int i] => some (false, .int (if i < 0 then -i else i))
  | _ => none
theorem ok_abs : OkN T (fun xs H Q => ∃ i, xs = [.int i] ∧ Q (.int (if i < 0 then -i else i)) H) absD := by
  intro F H vs ds x l r h Q g
  unfold absD at h
  split at h
  · cases h
    cases r with
    | cons r1 r => cases r; cases r1; exact ⟨_, rfl, Gives.same l (.int _) g⟩
  · cases h
def b2iD (b : Bool) : Int := if b then 1 else 0
def intD : List D → Option B
  | [.int i] => some (false, .int i)
  | [.bl k] => some (false, .int (b2iD k))
  | _ => none
theorem ok_int : OkN T (fun xs H Q => (∃ i, xs = [.int i] ∧ Q (.int i) H) ∨ ∃ k, xs = [.bl k] ∧ Q (.int (if k then 1 else 0)) H) intD := by
  intro F H vs ds x l r h Q g
  unfold intD at h
  split at h
  · cases h
    cases r with
    | cons r1 r => cases r; cases r1; exact .inl ⟨_, rfl, Gives.same l (.int _) g⟩
  · cases h
    cases r with
    | cons r1 r => cases r; cases r1; exact .inr ⟨_, rfl, Gives.same l (.int _) g⟩
  · cases h
def divmodD : List D → Option B
  | [.int i, .int j] => if decide (0 < j) && decide (j < 1073741824) then some (false, .tup [.int (i / j), .int (i % j)]) else none
  | _ => none
theorem ok_divmod : OkN T (fun xs H Q => ∃ i j, xs = [.int i, .int j] ∧ CDiv i j ∧ ∀ p, H p = none → Q (.ref p) (upd H p (.tup [.int (i / j), .int (i % j)]))) divmodD := by
  intro F H vs ds x l r h Q g
  unfold divmodD at h
  split at h
  · split at h
    · rename_i hz
      cases h
      simp only [Bool.and_eq_true, decide_eq_true_eq] at hz
      cases r with
      | cons r1 r =>
        cases r with
        | cons r2 r =>
          cases r; cases r1; cases r2
          exact ⟨_, _, rfl, hz, fun p hp => g _ _ _ (New.tup l hp (.cons (.int _) (.cons (.int _) .nil)))⟩
    · cases h
  · cases h
def tupleD : List D → Option B
  | [d] => (itemsD d).map fun ds => (false, .tup ds)
  | _ => none
theorem ok_tuple : OkN T (fun xs H Q => ∃ p ys, xs = [.ref p] ∧ ((SqL T.K H p ys ∧ ∀ l, H l = none → Q (.ref l) (upd H l (.tup ys))) ∨ (SqT T.K H p ys ∧ Q (.ref p) H))) tupleD := by
  intro F H vs ds x l r h Q g
  unfold tupleD at h
  split at h
  · rename_i d
    cases e1 : itemsD d with
    | none => rw [e1] at h; cases h
    | some es =>
      rw [e1] at h
      cases h
      cases r with
      | cons rv r =>
        cases r
        cases rv <;> simp only [itemsD] at e1 <;> cases e1
        · rename_i hq r
          exact ⟨_, _, rfl, .inl ⟨SqL.of hq, fun p hp => g _ _ _ (New.tup l hp r)⟩⟩
        · rename_i hq r
          exact ⟨_, _, rfl, .inl ⟨l.seq hq, fun p hp => g _ _ _ (New.tup l hp r)⟩⟩
        · rename_i hq r
          exact ⟨_, _, rfl, .inr ⟨seqT_mono l hq, Gives.same l (.tup hq r) g⟩⟩
  · cases h
def listD : List D → Option B
  | [d] => (itemsD d).map fun ds => (true, .lst ds)
  | _ => none
theorem ok_list : OkN T (fun xs H Q => ∃ p ys, xs = [.ref p] ∧ (SqL T.K H p ys ∨ SqT T.K H p ys) ∧ ∀ l, H l = none → Q (.ref l) (upd H l (.lst ys))) listD := by
  intro F H vs ds x l r h Q g
  unfold listD at h
  split at h
  · rename_i d
    cases e1 : itemsD d with
    | none => rw [e1] at h; cases h
    | some es =>
      rw [e1] at h
      cases h
      cases r with
      | cons rv r =>
        cases r
        obtain ⟨p, us, rfl, r2, h2⟩ := rv.items l e1
        exact ⟨p, us, rfl, h2, fun q hq => g _ _ _ (New.lst l hq r2)⟩
  · cases h
def blsD : List D → Option (List Bool)
  | [] => some []
  | .bl i :: ds => (blsD ds).map (i :: ·)
  | _ :: _ => none
theorem bls_reps : ∀ {ds : List D} {vs : List V} {ns : List Bool}, Reps T F vs ds → blsD ds = some ns → vs = ns.map V.bl
  | [], _, _, h, e => by cases h; cases e; rfl
  | .bl i :: ds, _, ns, .cons h r, e => by
    simp only [blsD] at e
    cases e1 : blsD ds with
    | none => rw [e1] at e; cases e
    | some ms =>
      rw [e1] at e
      cases e
      cases h
      rw [bls_reps r e1]
      rfl
  | .non :: _, _, _, _, e => by simp only [blsD] at e; cases e
  | .int _ :: _, _, _, _, e => by simp only [blsD] at e; cases e
  | .str _ :: _, _, _, _, e => by simp only [blsD] at e; cases e
  | .lst _ :: _, _, _, _, e => by simp only [blsD] at e; cases e
  | .frz _ :: _, _, _, _, e => by simp only [blsD] at e; cases e
  | .tup _ :: _, _, _, _, e => by simp only [blsD] at e; cases e
  | .dct _ _ :: _, _, _, _, e => by simp only [blsD] at e; cases e
  | .ins _ _ _ :: _, _, _, _, e => by simp only [blsD] at e; cases e
  | .opq _ _ :: _, _, _, _, e => by simp only [blsD] at e; cases e
def lstOf : D → Option (List D)
  | .lst xs => some xs
  | .frz xs => some xs
  | _ => none
theorem TRep.lstq {v : V} {d : D} {ds : List D} (h : TRep T F H v d) (l : Same F H) (e : lstOf d = some ds) : ∃ p vs, v = .ref p ∧ Reps T F vs ds ∧ SqL T.K H p vs := by
  cases h <;> simp only [lstOf] at e <;> cases e
  · exact ⟨_, _, rfl, ‹_›, SqL.of ‹_›⟩
  · rename_i hq r
    exact ⟨_, _, rfl, r, l.seq hq⟩
def allD : List D → Option B
  | [d] => ((lstOf d).bind blsD).map fun bs => (false, .bl (bs.all id))
  | _ => none
def anyD : List D → Option B
  | [d] => ((lstOf d).bind blsD).map fun bs => (false, .bl (bs.any id))
  | _ => none
theorem one_bls {vs : List V} {d : D} {ns : List Bool} (l : Same F H) (r : TReps T F H vs [d]) (e : (lstOf d).bind blsD = some ns) : ∃ p, vs = [V.ref p] ∧ SqL T.K H p (ns.map V.bl) := by
  cases r with
  | cons rv r =>
    cases r
    cases e1 : lstOf d with
    | none => rw [e1] at e; cases e
    | some es =>
      rw [e1] at e
      obtain ⟨p, us, rfl, r2, h2⟩ := rv.lstq l e1
      rw [bls_reps r2 e] at h2
      exact ⟨p, rfl, h2⟩
theorem ok_all : OkN T (rAll T.K) allD := by
  intro F H vs ds x l r h Q g
  unfold allD at h
  split at h
  · rename_i d
    cases e1 : (lstOf d).bind blsD with
    | none => rw [e1] at h; cases h
    | some ns =>
      rw [e1] at h
      cases h
      obtain ⟨p, h1, h2⟩ := one_bls l r e1
      exact ⟨p, ns, h1, h2, Gives.same l (.bl _) g⟩
  · cases h
theorem ok_any : OkN T (rAny T.K) anyD := by
  intro F H vs ds x l r h Q g
  unfold anyD at h
  split at h
  · rename_i d
    cases e1 : (lstOf d).bind blsD with
    | none => rw [e1] at h; cases h
    | some ns =>
      rw [e1] at h
      cases h
      obtain ⟨p, h1, h2⟩ := one_bls l r e1
      exact ⟨p, ns, h1, h2, Gives.same l (.bl _) g⟩
  · cases h
end
end TT

set_option maxRecDepth 100000
set_option maxHeartbeats 4000000
/-! TE: tests, and / or, conditionals, isinstance, slices, methods, displays of dicts. -/
namespace TT
open PySem PySem.Spec PyProof.Rows L2
section
variable {T : Tb} {W : WX} {X : Cx} {e a b c : Expr} {es : List Expr} {pos : Pos}
/-! ### operators -/
theorem pe_addM {ma mb : M Opd} (hK : X.K = T.K) (ha : PE X a (tO T W ma)) (hb : PE X b (tO T W mb)) : PE X (.BinOp a .Add b pos) (tV T W (bin2 addD ma mb)) := pe_opM (ok_add) (hK ▸ opr_add) ha hb
theorem pe_subM {ma mb : M Opd} (ha : PE X a (tO T W ma)) (hb : PE X b (tO T W mb)) : PE X (.BinOp a .Sub b pos) (tV T W (bin2 subD ma mb)) := pe_opM ok_sub op_sub ha hb
theorem pe_mulM {ma mb : M Opd} (hK : X.K = T.K) (ha : PE X a (tO T W ma)) (hb : PE X b (tO T W mb)) : PE X (.BinOp a .Mult b pos) (tV T W (bin2 mulD ma mb)) := pe_opM ok_mul (hK ▸ opr_mul) ha hb
theorem pe_fdivM {ma mb : M Opd} (ha : PE X a (tO T W ma)) (hb : PE X b (tO T W mb)) : PE X (.BinOp a .FloorDiv b pos) (tV T W (bin2 fdivD ma mb)) := pe_opM ok_fdiv op_fdiv ha hb
theorem pe_modM {ma mb : M Opd} (ha : PE X a (tO T W ma)) (hb : PE X b (tO T W mb)) : PE X (.BinOp a .Mod b pos) (tV T W (bin2 modD ma mb)) := pe_opM ok_mod op_mod ha hb
theorem pe_powM {ma mb : M Opd} (ha : PE X a (tO T W ma)) (hb : PE X b (tO T W mb)) : PE X (.BinOp a .Pow b pos) (tV T W (bin2 powD ma mb)) := pe_opM ok_pow op_pow ha hb
theorem pe_negM {ma : M Opd} (ha : PE X a (tO T W ma)) : PE X (.UnaryOp .USub a pos) (tV T W (un1 negD ma)) := pe_unM ok_neg un_neg ha
theorem pe_indexM {ma mb : M Opd} (hK : X.K = T.K) (ha : PE X a (tO T W ma)) (hb : PE X b (tO T W mb)) (hs : PlainIx b := by intro _ _; rfl) : PE X (.Subscript a b pos) (tV T W (bin2 ixD ma mb)) := pe_ixM ok_ix (hK ▸ ix_seq) ha hb hs

/-! ### the operators of comparisons -/
/-- an operator of comparison, and its function on data -/
structure CmpR (T : Tb) (X : Cx) (op : CmpOp) (f : D → D → Option B) (r : R2) : Prop where
  ok : Ok2 T r f
  op : OpR X (compareOp op) r
theorem c_lt : CmpR T X .Lt ltD (rI0 fun i j => .bl (decide (i < j))) := ⟨ok_lt, op_lt⟩
theorem c_le : CmpR T X .LtE leD (rI0 fun i j => .bl (decide (i ≤ j))) := ⟨ok_le, op_le⟩
theorem c_gt : CmpR T X .Gt gtD (rI0 fun i j => .bl (decide (j < i))) := ⟨ok_gt, op_gt⟩
theorem c_ge : CmpR T X .GtE geD (rI0 fun i j => .bl (decide (j ≤ i))) := ⟨ok_ge, op_ge⟩
theorem c_eq (hK : X.K = T.K) (hu : X.A.units + 64 < cLine) : CmpR T X .Eq eqD (rEqK T.K) := ⟨ok_eq, hK ▸ opr_eq hu⟩
theorem c_ne (hK : X.K = T.K) (hu : X.A.units + 64 < cLine) : CmpR T X .NotEq neD (rNeK T.K) := ⟨ok_ne, hK ▸ opr_ne hu⟩
theorem c_is : CmpR T X .Is isD (fun x y H Q => y = .non ∧ Q (.bl (decide (x = .non))) H) := ⟨ok_is, op_isN⟩
theorem c_isnt : CmpR T X .IsNot isntD (fun x y H Q => y = .non ∧ Q (.bl (!decide (x = .non))) H) := ⟨ok_isnt, op_notN⟩
theorem c_in (hK : X.K = T.K) : CmpR T X .In inD (rIn T.K false) := ⟨ok_in, hK ▸ op_in_seq⟩
theorem c_notin (hK : X.K = T.K) : CmpR T X .NotIn notInD (rIn T.K true) := ⟨ok_notIn, hK ▸ op_notIn_seq⟩
theorem pe_compM {op : CmpOp} {f : D → D → Option B} {r : R2} {ma mb : M Opd} (h : CmpR T X op f r) (ha : PE X a (tO T W ma)) (hb : PE X b (tO T W mb)) (hm : behindInMarks op b = false := by rfl) : PE X (.Compare a [op] [b] pos) (tV T W (bin2 f ma mb)) := pe_cmpM h.ok h.op ha hb hm

/-! ### tests -/
def blOf : D → Option Bool
  | .bl k => some k
  | _ => none
theorem blOf_some {d : D} {k : Bool} (h : blOf d = some k) : d = .bl k := by
  cases d <;> simp only [blOf] at h <;> cases h
  rfl
def retB (x : B) : M Bool := fun env => match blOf x.2 with
  | some k => .ok k env
  | none => .bad
def boolM (m : M B) : M Bool := M.bind m retB
theorem rel_bl {F : Hp} {H : Hp} {v : V} {own : Bool} {k : Bool} (r : VRep T F H v (own, .bl k)) : v = .bl k := by
  cases own with
  | true =>
    obtain ⟨p, _, _, t⟩ := r
    exact (show False from t).elim
  | false =>
    cases (show Rep T F v (.bl k) from r)
    rfl
theorem boolM_of {m : M B} {s : St} {H : Hp} {Q : Bool → Hp → Prop} (h : tT T W (boolM m) s H Q) : tV T W m s H fun x H' => ∃ k, x = .bl k ∧ Q k H' := by
  obtain ⟨F, env, E, h⟩ := h
  refine ⟨F, env, E, PG.bind (rel2 := relB T s) relB_ok h fun v x env1 F1 H1 _ st r h1 => ?_⟩
  unfold retB at h1
  cases q : blOf x.2 with
  | none => rw [q] at h1; exact h1.elim
  | some k =>
    rw [q] at h1
    obtain ⟨own, d⟩ := x
    have q := blOf_some q
    simp only at q
    subst q
    exact ⟨k, rel_bl r.1.rep, h1 k F1 H1 (Step.refl st.rep) rfl⟩
theorem pt_cmpM {op : CmpOp} {f : D → D → Option B} {r : R2} {ma mb : M Opd} (h : CmpR T X op f r) (ha : PE X a (tO T W ma)) (hb : PE X b (tO T W mb)) (hm : behindInMarks op b = false := by rfl) : PT X (.Compare a [op] [b] pos) (tT T W (boolM (bin2 f ma mb))) :=
  PTimp (pt_cmpR h.op ha hb hm) fun s H Q q => two_of h.ok s H _ (boolM_of q)
/-- a op1 b op2 c -/
def chainM (f g : D → D → Option B) (ma mb mc : M Opd) : M B := M.bind ma fun o => M.bind mb fun p => M.bind (boolM (op2M f o p)) fun k => match k with
  | true => M.bind mc fun q => op2M g p q
  | false => cstM (.bl false)
theorem chain_of {f g : D → D → Option B} {r r' : R2} {ma mb mc : M Opd} (h : Ok2 T r f) (h' : Ok2 T r' g) : ∀ s H Q, tV T W (chainM f g ma mb mc) s H Q → tChain r r' (tO T W ma) (tO T W mb) (tO T W mc) s H Q := by
  rintro s H Q ⟨F, env, E, h1⟩
  refine ⟨F, env, E, PG.bind (rel2 := relV T s) relV_ok h1 fun v o env1 F1 H1 _ st r1 h2 => ?_⟩
  refine ⟨F1, env1, st.rep, PG.bind (rel2 := relV T s) relV_ok h2 fun w p env2 F2 H2 _ st2 r2 h3 => ?_⟩
  refine use2 (W := W) h st2.rep (OOk.step r1 st2) r2 ?_
  cases e1 : op2M f o p env2 with
  | bad =>
    have z : boolM (op2M f o p) env2 = .bad := bind_bad e1
    rw [bind_bad z] at h3
    exact h3
  | err c fs env3 =>
    have z : boolM (op2M f o p) env2 = .err c fs env3 := bind_err e1
    rw [bind_err z] at h3
    exact h3
  | ok x env3 =>
    have z : boolM (op2M f o p) env2 = retB x env3 := bind_ok e1
    intro u F3 H3 st3 r3
    unfold retB at z
    cases q : blOf x.2 with
    | none =>
      rw [q] at z
      rw [bind_bad z] at h3
      exact h3.elim
    | some k =>
      rw [q] at z
      rw [bind_ok z] at h3
      obtain ⟨own, d⟩ := x
      have q := blOf_some q
      simp only at q
      subst q
      refine ⟨k, rel_bl r3.1.rep, ?_⟩
      cases k with
      | true =>
        rw [if_pos rfl]
        have h4 := PG.later (rel := relV T s) relV_ok h3 st3
        refine ⟨F3, env3, st3.rep, PG.bind (rel2 := relV T s) relV_ok h4 fun w' q env4 F4 H4 _ st4 r5 h5 => ?_⟩
        exact use2 (W := W) h' st4.rep (OOk.step (OOk.step r2 st3) st4) r5 h5
      | false =>
        rw [if_neg Bool.false_ne_true]
        have h4 := PG.later (rel := relV T s) relV_ok h3 st3
        exact h4 (.bl false) F3 H3 (Step.refl st3.rep) ⟨.sh (.bl false), fun z => by cases z⟩
theorem pe_chainM {op op' : CmpOp} {f g : D → D → Option B} {r r' : R2} {ma mb mc : M Opd} (h : CmpR T X op f r) (h' : CmpR T X op' g r') (ha : PE X a (tO T W ma)) (hb : PE X b (tO T W mb)) (hc : PE X c (tO T W mc))
    (hm : lastMarks [op, op'] [b, c] = false := by with_unfolding_all rfl) : PE X (.Compare a [op, op'] [b, c] pos) (tV T W (chainM f g ma mb mc)) := PEimp (pe_chain h.op h'.op ha hb hc hm) (chain_of h.ok h'.ok)
theorem pt_chainM {op op' : CmpOp} {f g : D → D → Option B} {r r' : R2} {ma mb mc : M Opd} (h : CmpR T X op f r) (h' : CmpR T X op' g r') (ha : PE X a (tO T W ma)) (hb : PE X b (tO T W mb)) (hc : PE X c (tO T W mc))
    (hm : lastMarks [op, op'] [b, c] = false := by with_unfolding_all rfl) : PT X (.Compare a [op, op'] [b, c] pos) (tT T W (boolM (chainM f g ma mb mc))) :=
  PTimp (pt_chain h.op h'.op ha hb hc hm) fun s H Q q => chain_of h.ok h'.ok s H _ (boolM_of q)
/-- the truth of data -/
def truD : D → Option Bool
  | .non => some false
  | .bl k => some k
  | .int i => some (i != 0)
  | .str x => if x.length ≤ most then some ((x.length : Int) != 0) else none
  | .lst xs => some (!xs.isEmpty)
  | .frz xs => some (!xs.isEmpty)
  | .tup xs => some (!xs.isEmpty)
  | .dct ks _ => some (!ks.isEmpty)
  | _ => none
theorem Reps.isEmpty {F : Hp} {vs : List V} {ds : List D} (r : Reps T F vs ds) : vs.isEmpty = ds.isEmpty := by cases r <;> rfl
theorem TRep.tru {F H : Hp} {v : V} {d : D} {k : Bool} (h : TRep T F H v d) (l : Same F H) (e : truD d = some k) : TruV T.K v H k := by
  cases h <;> simp only [truD] at e <;> first | (cases e; done) | skip
  case non => cases e; exact rfl
  case bl => cases e; exact rfl
  case int => cases e; exact rfl
  case str x =>
    split at e
    · rename_i hz
      cases e
      exact ⟨by rw [← most_line]; exact hz, rfl⟩
    · cases e
  case lst a vs ds h r => cases e; exact .inl ⟨vs, SqL.of h, by rw [r.isEmpty]⟩
  case frz a vs ds h r => cases e; exact .inl ⟨vs, l.seq h, by rw [r.isEmpty]⟩
  case tup a vs ds h r => cases e; exact .inr (.inl ⟨vs, seqT_mono l h, by rw [r.isEmpty]⟩)
  case dct a kvs ks vs ds h e1 e2 r =>
    cases e
    refine .inr (.inr ⟨kvs, h, ?_⟩)
    subst e1
    cases kvs <;> rfl
def truO (o : Opd) : M Bool := fun env => match look env o with
  | some x => match truD x.2 with
    | some k => .ok k env
    | none => .bad
  | none => .bad
def trM (m : M Opd) : M Bool := M.bind m truO
theorem pt_trM {m : M Opd} (hK : X.K = T.K) (ha : PE X a (tO T W m)) (he : ∀ whole, isTrue a X.env whole = (do let v ← whole; standAt a.pos; holding [v] (truthy v)) := by intro _; rfl) : PT X a (tT T W (trM m)) := by
  refine PTimp (pt_truth ha he) ?_
  rintro s H Q ⟨F, env, E, h⟩
  refine ⟨F, env, E, PG.bind (rel2 := relB T s) relB_ok h fun v o env1 F1 H1 _ st r h1 => ?_⟩
  unfold truO at h1
  cases e1 : look env1 o with
  | none => rw [e1] at h1; exact h1.elim
  | some x =>
    simp only [e1] at h1
    cases e2 : truD x.2 with
    | none => rw [e2] at h1; exact h1.elim
    | some k =>
      rw [e2] at h1
      refine ⟨k, ?_, h1 k F1 H1 (Step.refl st.rep) rfl⟩
      rw [hK]
      exact (OOk.top st.rep r e1).tru st.rep.le e2
def andT (p q : M Bool) : M Bool := M.bind p fun k => match k with
  | true => q
  | false => M.pure false
def orT (p q : M Bool) : M Bool := M.bind p fun k => match k with
  | true => M.pure true
  | false => q
def notT (p : M Bool) : M Bool := M.bind p fun k => M.pure (!k)
theorem pure_tT {k : Bool} {s : St} {F H : Hp} {env : Ev} {Q : Bool → Hp → Prop} (E : ERep T F H s env) (h : PG T (relB T s) W s F H env Q ((M.pure k : M Bool) env)) : Q k H := h k F H (Step.refl E) rfl
theorem pw_oneM {p : M Bool} (h : PT X a (tT T W p)) : PW X (.BoolOp .And [a] pos) (tT T W p) := pw_and1 h
theorem pw_oneOM {p : M Bool} (h : PT X a (tT T W p)) : PW X (.BoolOp .Or [a] pos) (tT T W p) := pw_or1 h
theorem pw_andM {p q : M Bool} {rest : List Expr} (ha : PT X a (tT T W p)) (hb : PW X (.BoolOp .And (b :: rest) pos) (tT T W q)) : PW X (.BoolOp .And (a :: b :: rest) pos) (tT T W (andT p q)) := by
  refine PWimp (pw_and ha hb) ?_
  rintro s H Q ⟨F, env, E, h⟩
  refine ⟨F, env, E, PG.bind (rel2 := relB T s) relB_ok h fun k k' env1 F1 H1 _ st r h1 => ?_⟩
  cases (show k = k' from r)
  cases k with
  | true => rw [if_pos rfl]; exact ⟨F1, env1, st.rep, h1⟩
  | false => rw [if_neg Bool.false_ne_true]; exact pure_tT st.rep h1
theorem pw_orM {p q : M Bool} {rest : List Expr} (ha : PT X a (tT T W p)) (hb : PW X (.BoolOp .Or (b :: rest) pos) (tT T W q)) : PW X (.BoolOp .Or (a :: b :: rest) pos) (tT T W (orT p q)) := by
  refine PWimp (pw_or ha hb) ?_
  rintro s H Q ⟨F, env, E, h⟩
  refine ⟨F, env, E, PG.bind (rel2 := relB T s) relB_ok h fun k k' env1 F1 H1 _ st r h1 => ?_⟩
  cases (show k = k' from r)
  cases k with
  | true => rw [if_pos rfl]; exact pure_tT st.rep h1
  | false => rw [if_neg Bool.false_ne_true]; exact ⟨F1, env1, st.rep, h1⟩
theorem pt_notM {p : M Bool} (ha : PT X a (tT T W p)) : PT X (.UnaryOp .Not a pos) (tT T W (notT p)) := by
  refine PTimp (pt_not ha) ?_
  rintro s H Q ⟨F, env, E, h⟩
  refine ⟨F, env, E, PG.bind (rel2 := relB T s) relB_ok h fun k k' env1 F1 H1 _ st r h1 => ?_⟩
  cases (show k = k' from r)
  exact pure_tT st.rep h1

/-! ### and, or, not as values -/
def truB (x : B) : M Bool := fun env => match truD x.2 with
  | some k => .ok k env
  | none => .bad
def keepB (x : B) : M B := fun env => match x.1 with
  | false => .ok x env
  | true => .bad
def andV (p q : M B) : M B := M.bind p fun x => M.bind (truB x) fun k => match k with
  | true => q
  | false => keepB x
def orV (p q : M B) : M B := M.bind p fun x => M.bind (truB x) fun k => match k with
  | true => keepB x
  | false => q
def notV (p : M B) : M B := M.bind p fun x => M.bind (truB x) fun k => M.pure (false, .bl (!k))
theorem truB_of {α β : Type} {rel : Rel α β} {x : B} {f : Bool → M α} {s : St} {F H : Hp} {env : Ev} {Q : β → Hp → Prop} (h : PG T rel W s F H env Q (M.bind (truB x) f env)) : ∃ k, truD x.2 = some k ∧ PG T rel W s F H env Q (f k env) := by
  cases e : truD x.2 with
  | none =>
    have z : truB x env = .bad := by unfold truB; rw [e]
    rw [bind_bad z] at h
    exact h.elim
  | some k =>
    have z : truB x env = .ok k env := by unfold truB; rw [e]
    rw [bind_ok z] at h
    exact ⟨k, rfl, h⟩
theorem keepB_of {x : B} {v : V} {s : St} {F H : Hp} {env : Ev} {Q : VK} (E : ERep T F H s env) (r : VOk T s F H env v x) (h : PG T (relV T s) W s F H env Q (keepB x env)) : Q v H := by
  obtain ⟨own, d⟩ := x
  cases own with
  | true => exact (show False from h).elim
  | false => exact h v F H (Step.refl E) ⟨r, fun z => by cases z⟩
theorem pe_oneM {p : M B} {op : BoolOp} (h : PE X a (tV T W p)) : PE X (.BoolOp op [a] pos) (tV T W p) := pe_one h
theorem pe_andM {p q : M B} {rest : List Expr} (hK : X.K = T.K) (ha : PE X a (tV T W p)) (hb : PE X (.BoolOp .And (b :: rest) pos) (tV T W q)) : PE X (.BoolOp .And (a :: b :: rest) pos) (tV T W (andV p q)) := by
  refine PEimp (pe_andT ha hb) ?_
  rintro s H Q ⟨F, env, E, h⟩
  refine ⟨F, env, E, PG.bind (rel2 := relV T s) relV_ok h fun v x env1 F1 H1 _ st r h1 => ?_⟩
  obtain ⟨k, e, h1⟩ := truB_of h1
  refine ⟨k, by rw [hK]; exact (r.1.rep.top st.rep.le).tru st.rep.le e, ?_⟩
  cases k with
  | true => rw [if_pos rfl]; exact ⟨F1, env1, st.rep, h1⟩
  | false => rw [if_neg Bool.false_ne_true]; exact keepB_of st.rep r.1 h1
theorem pe_orM {p q : M B} {rest : List Expr} (hK : X.K = T.K) (ha : PE X a (tV T W p)) (hb : PE X (.BoolOp .Or (b :: rest) pos) (tV T W q)) : PE X (.BoolOp .Or (a :: b :: rest) pos) (tV T W (orV p q)) := by
  refine PEimp (pe_orT ha hb) ?_
  rintro s H Q ⟨F, env, E, h⟩
  refine ⟨F, env, E, PG.bind (rel2 := relV T s) relV_ok h fun v x env1 F1 H1 _ st r h1 => ?_⟩
  obtain ⟨k, e, h1⟩ := truB_of h1
  refine ⟨k, by rw [hK]; exact (r.1.rep.top st.rep.le).tru st.rep.le e, ?_⟩
  cases k with
  | true => rw [if_pos rfl]; exact keepB_of st.rep r.1 h1
  | false => rw [if_neg Bool.false_ne_true]; exact ⟨F1, env1, st.rep, h1⟩
theorem pe_notM {p : M B} (hK : X.K = T.K) (ha : PE X a (tV T W p)) : PE X (.UnaryOp .Not a pos) (tV T W (notV p)) := by
  refine PEimp (pe_notT ha) ?_
  rintro s H Q ⟨F, env, E, h⟩
  refine ⟨F, env, E, PG.bind (rel2 := relV T s) relV_ok h fun v x env1 F1 H1 _ st r h1 => ?_⟩
  obtain ⟨k, e, h1⟩ := truB_of h1
  refine ⟨k, by rw [hK]; exact (r.1.rep.top st.rep.le).tru st.rep.le e, ?_⟩
  exact h1 (.bl (!k)) F1 H1 (Step.refl st.rep) ⟨.sh (.bl _), fun z => by cases z⟩
/-! ### a if c else b -/
def ifV (c : M Bool) (p q : M B) : M B := M.bind c fun k => match k with
  | true => p
  | false => q
theorem pe_ifM {mc : M Bool} {p q : M B} (hc : PT X c (tT T W mc)) (ha : PE X a (tV T W p)) (hb : PE X b (tV T W q)) : PE X (.IfExp c a b pos) (tV T W (ifV mc p q)) := by
  refine PEimp (pe_ifExp hc ha hb) ?_
  rintro s H Q ⟨F, env, E, h⟩
  refine ⟨F, env, E, PG.bind (rel2 := relV T s) relV_ok h fun k k' env1 F1 H1 _ st r h1 => ?_⟩
  cases (show k = k' from r)
  cases k with
  | true => rw [if_pos rfl]; exact ⟨F1, env1, st.rep, h1⟩
  | false => rw [if_neg Bool.false_ne_true]; exact ⟨F1, env1, st.rep, h1⟩

/-! ### isinstance -/
def tyD : D → Option String
  | .non => some "NoneType"
  | .bl _ => some "bool"
  | .int _ => some "int"
  | .str _ => some "str"
  | .lst _ => some "list"
  | .frz _ => some "list"
  | .tup _ => some "tuple"
  | .dct _ _ => some "dict"
  | _ => none
def isiD (n : String) (d : D) : Option B := ((tyD d).bind fun t => kitB t n).map fun k => (false, .bl k)
theorem TRep.ty {F H : Hp} {v : V} {d : D} {t : String} (h : TRep T F H v d) (l : Same F H) (e : tyD d = some t) : TyX T.K H v (.type t) := by
  have hL : ∀ {a : Addr} {vs : List V}, SqL T.K H a vs → TyX T.K H (.ref a) (.type "list") := fun {a vs} q => by
    rcases q with (q | ⟨o, q⟩) | ⟨o, its, n, q, c, _⟩
    · exact .base (.lst q)
    · exact .base (.frz q)
    · exact .kList q c
  have hT : ∀ {a : Addr} {vs : List V}, SqT T.K H a vs → TyX T.K H (.ref a) (.type "tuple") := fun {a vs} q => by
    rcases q with (q | ⟨o, q⟩) | ⟨o, its, n, q, c, _⟩
    · exact .base (.tup q)
    · exact .fTuple q
    · exact .kTuple q c
  cases h <;> simp only [tyD] at e <;> cases e
  case non => exact .base .non
  case bl => exact .base (.bl _)
  case int => exact .base (.int _)
  case str => exact .base (.str _)
  case lst h r => exact hL (SqL.of h)
  case frz h r => exact hL (l.seq h)
  case tup h r => exact hT (seqT_mono l h)
  case dct h _ _ r => exact .base (.dK h)
theorem pe_isiM {n : String} {x : Str} {m : M Opd} {p p2 : Pos} (hK : X.K = T.K) (ha : PE X a (tO T W m)) (hx : bootBuiltins x = some (.type n)) (hg : Gl X x) (hm : X.mg x = none) (gi : Gl X "isinstance") (mi : X.mg "isinstance" = none) (hn : x ≠ "__name__" := by decide) (hd : (x == ("__debug__" : Str)) = false := by decide)
    (he : starEach [a, .Name x p2] X.env = (false, eval a X.env) :: starEach [.Name x p2] X.env := by rfl) (he2 : starEach [.Name x p2] X.env = (false, eval (.Name x p2) X.env) :: starEach [] X.env := by rfl) (hpl : (backTo pos (starEach [.Name x p2] X.env)).any (·.1) = false := by rfl) :
    PE X (.Call (.Name "isinstance" p) [a, .Name x p2] [] pos) (tV T W (un1 (isiD n) m)) := by
  have hT : PE X (.Name x p2) (tC (.ty n)) := pe_bltn hg hm hx rfl hn hd
  refine PEimp (pe_callB call_isi gi mi boot_isinstance (pa_cons ha (pa_cons hT pa_nil he2) he) (he := he) (hpl := hpl)) ?_
  rintro s H Q ⟨F, env, E, h⟩
  refine ⟨F, env, E, PG.bind (rel2 := relV T s) relV_ok h fun v o env1 F1 H1 _ st r h1 => ?_⟩
  unfold op1M at h1
  cases e1 : look env1 o with
  | none => rw [e1] at h1; exact h1.elim
  | some y =>
    rw [e1] at h1
    unfold isiD at h1
    cases e2 : tyD y.2 with
    | none => simp only [e2, Option.bind, Option.map] at h1; exact h1.elim
    | some t =>
      cases e3 : kitB t n with
      | none => simp only [e2, Option.bind, e3, Option.map] at h1; exact h1.elim
      | some k =>
        simp only [e2, Option.bind, e3, Option.map] at h1
        refine ⟨v, .ty n, .type t, .type n, k, rfl, .ty n, ?_, kit_ty e3, h1 (.bl k) F1 H1 (Step.refl st.rep) ⟨.sh (.bl k), fun z => by cases z⟩⟩
        rw [hK]
        exact (OOk.top st.rep r e1).ty st.rep.le e2

/-! ### slices -/
def relE {A : Type} (_ : Tb) (_ : St) : Rel A A := fun _ _ _ _ b a => b = a
theorem relE_ok {A : Type} {s : St} : RelOk (relE (A := A) T s) := fun _ _ _ _ _ _ _ _ h => h
def intO (o : Opd) : M (Option Int) := fun env => match look env o with
  | some (_, .int i) => .ok (some i) env
  | _ => .bad
def partM (m : M Opd) : M (Option Int) := M.bind m intO
abbrev tP (T : Tb) (W : WX) (m : M (Option Int)) : TO := tG T (relE T) W m
theorem POimp {o : Option Expr} {t t' : TO} (h : PO X o t) (k : ∀ s H Q, t' s H Q → t s H Q) : PO X o t' := ⟨fun pins s σ H Q I q => h.run pins s σ H Q I (k _ _ _ q)⟩
theorem po_noM : PO X none (tP T W (M.pure none)) := by
  refine POimp po_none ?_
  rintro s H Q ⟨F, env, E, h⟩
  exact h none F H (Step.refl E) rfl
theorem po_someM {m : M Opd} (h : PE X e (tO T W m)) : PO X (some e) (tP T W (partM m)) := by
  refine POimp (po_some h) ?_
  rintro s H Q ⟨F, env, E, h⟩
  refine ⟨F, env, E, PG.bind (rel2 := relE T s) relE_ok h fun v o env1 F1 H1 _ st r h1 => ?_⟩
  unfold intO at h1
  split at h1
  · rename_i i e1
    have t := OOk.top st.rep r e1
    exact ⟨i, t.rep_int, h1 (some i) F1 H1 (Step.refl st.rep) rfl⟩
  · exact h1.elim
def cutD {α : Type} (xs : List α) (lo hi : Option Int) : List α := (xs.drop (HT.sIx xs.length 0 lo)).take (HT.sIx xs.length xs.length hi - HT.sIx xs.length 0 lo)
def slD (d : D) (lo hi : Option Int) : Option B := match d with
  | .lst xs => some (true, .lst (cutD xs lo hi))
  | .frz xs => some (true, .lst (cutD xs lo hi))
  | .tup xs => some (false, .tup (cutD xs lo hi))
  | .str z => if z.length ≤ most then some (false, .str (cutS z lo hi)) else none
  | _ => none
def slO (o : Opd) (lo hi : Option Int) : M B := fun env => match look env o with
  | some x => match slD x.2 lo hi with
    | some z => .ok z env
    | none => .bad
  | none => .bad
def slM (m : M Opd) (lo hi : M (Option Int)) : M B := M.bind m fun o => M.bind lo fun l => M.bind hi fun h => slO o l h
def rSlK (K : PySem.W.Frag) : V → Option Int → Option Int → Hp → VK → Prop := fun x lo hi H Q => rSlL K x lo hi H Q ∨ (rSlA K x lo hi H Q ∨ rSlS x lo hi H Q)
theorem slr_all : SlR X (rSlK X.K) := sl_list.or (sl_tupA.or sl_str)
theorem cut_reps {F : Hp} {vs : List V} {ds : List D} (r : Reps T F vs ds) (lo hi : Option Int) : Reps T F (cutV vs lo hi) (cutD ds lo hi) := by
  unfold cutV cutD
  rw [r.length]
  exact (r.drop _).take _
theorem cut_whole {α : Type} {xs : List α} {lo hi : Option Int} (h : HT.sIx xs.length 0 lo = 0 ∧ HT.sIx xs.length xs.length hi = xs.length) : cutD xs lo hi = xs := by
  unfold cutD
  rw [h.1, h.2, List.drop_zero, Nat.sub_zero, List.take_length]
theorem sl_use {F H : Hp} {v : V} {d : D} {lo hi : Option Int} {x : B} {Q : VK} (l : Same F H) (rv : TRep T F H v d) (h : slD d lo hi = some x) (g : ∀ v F' H', New T F H F' H' v x → Q v H') : rSlK T.K v lo hi H Q := by
  cases rv <;> simp only [slD] at h <;> first | (cases h; done) | skip
  case lst a vs ds h1 r1 => cases h; exact .inl ⟨a, vs, rfl, SqL.of h1, fun p hp => g _ _ _ (New.lst l hp (cut_reps r1 lo hi))⟩
  case frz a vs ds h1 r1 => cases h; exact .inl ⟨a, vs, rfl, l.seq h1, fun p hp => g _ _ _ (New.lst l hp (cut_reps r1 lo hi))⟩
  case tup a vs ds h1 r1 =>
    cases h
    refine .inr (.inl ⟨a, vs, rfl, seqT_mono l h1, fun w => ?_, fun _ p hp => g _ _ _ (New.tup l hp (cut_reps r1 lo hi))⟩)
    rw [r1.length] at w
    rw [cut_whole w] at g
    exact Gives.same l (.tup h1 r1) g
  case str z =>
    split at h
    · rename_i hz
      cases h
      exact .inr (.inr ⟨z, rfl, by rw [← most_line]; exact hz, Gives.same l (.str _) g⟩)
    · cases h
theorem pe_slM {m : M Opd} {lo hi : Option Expr} {ml mh : M (Option Int)} {p2 : Pos} (hK : X.K = T.K) (ha : PE X a (tO T W m)) (hl : PO X lo (tP T W ml)) (hh : PO X hi (tP T W mh)) : PE X (.Subscript a (.Slice lo hi none p2) pos) (tV T W (slM m ml mh)) := by
  refine PEimp (pe_slice slr_all ha hl hh) ?_
  rintro s H Q ⟨F, env, E, h⟩
  refine ⟨F, env, E, PG.bind (rel2 := relV T s) relV_ok h fun v o env1 F1 H1 _ st r h1 => ?_⟩
  refine ⟨F1, env1, st.rep, PG.bind (rel2 := relV T s) relV_ok h1 fun l l' env2 F2 H2 _ st2 r2 h2 => ?_⟩
  refine ⟨F2, env2, st2.rep, PG.bind (rel2 := relV T s) relV_ok h2 fun u u' env3 F3 H3 _ st3 r3 h3 => ?_⟩
  cases (show l = l' from r2)
  cases (show u = u' from r3)
  unfold slO at h3
  cases e1 : look env3 o with
  | none => rw [e1] at h3; exact h3.elim
  | some y =>
    rw [e1] at h3
    cases e2 : slD y.2 l u with
    | none => simp only [e2] at h3; exact h3.elim
    | some z =>
      simp only [e2] at h3
      rw [hK]
      exact sl_use st3.rep.le (OOk.top st3.rep ((OOk.step r st2).step st3) e1) e2 fun w F' H' n => h3 w F' H' (n.step st3.rep).1 ⟨(n.step st3.rep).2, n.own⟩

/-! ### methods -/
def tyO (n : String) (o : Opd) : M Unit := fun env => match look env o with
  | some x => if tyD x.2 = some n then .ok () env else .bad
  | none => .bad
def opmM (f : D → List D → Option B) (o : Opd) (os : List Opd) : M B := fun env => match look env o, looks env os with
  | some x, some ds => match f x.2 ds with
    | some z => .ok z env
    | none => .bad
  | _, _ => .bad
def methM (n : String) (f : D → List D → Option B) (m : M Opd) (ms : M (List Opd)) : M B := M.bind m fun o => M.bind (tyO n o) fun _ => M.bind ms fun os => opmM f o os
def OkM (T : Tb) (r : V → List V → Hp → VK → Prop) (f : D → List D → Option B) : Prop := ∀ F H v d vs ds x, Same F H → TRep T F H v d → TReps T F H vs ds → f d ds = some x → Gives T F H x (r v vs H)
theorem tyV_of {F H : Hp} {v : V} {d : D} {n : String} (l : Same F H) (h : TRep T F H v d) (e : tyD d = some n) (hn : n = "str" ∨ n = "list") : tyV T.K n v H := by
  cases h <;> simp only [tyD] at e <;> cases e <;> first | (exact absurd hn (by decide)) | skip
  case str => exact rfl
  case lst h r => exact .inl ⟨rfl, _, SqL.of h⟩
  case frz h r => exact .inl ⟨rfl, _, l.seq h⟩
theorem pe_methM {n : String} {f : D → List D → Option B} {id : String} {r : V → List V → Hp → VK → Prop} {name : Str} {m : M Opd} {ms : M (List Opd)} {apos cpos : Pos} (h : OkM T r f) (hn : n = "str" ∨ n = "list") (hK : X.K = T.K) (pa : PlainAttrs n) (slot : Slot n name id) (hty : typeOf (.builtin id) = pure (.type "method_descriptor")) (hm : MtR X id r)
    (ho : PE X a (tO T W m)) (ha : PA X (e :: es) (tA T W ms))
    (hbase : attributeBase a name X.env (eval a X.env) = eval a X.env := by rfl)
    (hfew : ((backTo cpos (starEach (e :: es) X.env)).all (fun x => !x.1) && (backToKw cpos (keywordEach [] X.env)).all (fun x => x.1.isSome)
      && decide ((e :: es).length + ([] : List Keyword).length + (if ([] : List Keyword).isEmpty then 0 else 1) < 30)) = true := by rfl)
    (hline : (apos.endLine == cpos.line) = true := by rfl) (hs : starEach (e :: es) X.env = (false, eval e X.env) :: starEach es X.env := by rfl) (hplain : (backTo cpos (starEach es X.env)).any (·.1) = false := by rfl) :
    PE X (.Call (.Attribute a name apos) (e :: es) [] cpos) (tV T W (methM n f m ms)) := by
  refine PEimp (pe_bm pa slot hty hm ho ha hbase hfew hline hs hplain) ?_
  rintro s H Q ⟨F, env, E, h1⟩
  refine ⟨F, env, E, PG.bind (rel2 := relV T s) relV_ok h1 fun v o env1 F1 H1 _ st r1 h2 => ?_⟩
  cases e1 : look env1 o with
  | none =>
    have z : tyO n o env1 = .bad := by unfold tyO; rw [e1]
    rw [bind_bad z] at h2
    exact h2.elim
  | some x =>
    by_cases q : tyD x.2 = some n
    · have z : tyO n o env1 = .ok () env1 := by unfold tyO; rw [e1]; exact if_pos q
      rw [bind_ok z] at h2
      refine ⟨?_, F1, env1, st.rep, PG.bind (rel2 := relV T s) relV_ok h2 fun vs os env2 F2 H2 _ st2 r2 h3 => ?_⟩
      · rw [hK]
        exact tyV_of st.rep.le (OOk.top st.rep r1 e1) q hn
      · unfold opmM at h3
        cases e2 : look env2 o with
        | none => simp only [e2] at h3; exact h3.elim
        | some y =>
          cases e3 : looks env2 os with
          | none => simp only [e2, e3] at h3; exact h3.elim
          | some ds =>
            simp only [e2, e3] at h3
            cases e4 : f y.2 ds with
            | none => simp only [e4] at h3; exact h3.elim
            | some z =>
              simp only [e4] at h3
              exact h F2 H2 v y.2 vs ds z st2.rep.le (OOk.top st2.rep (OOk.step r1 st2) e2) (OOks.top st2.rep r2 e3) e4 Q fun w F' H' n => h3 w F' H' (n.step st2.rep).1 ⟨(n.step st2.rep).2, n.own⟩
    · have z : tyO n o env1 = .bad := by unfold tyO; rw [e1]; exact if_neg q
      rw [bind_bad z] at h2
      exact h2.elim
def strsD : List D → Option (List Str)
  | [] => some []
  | .str i :: ds => (strsD ds).map (i :: ·)
  | _ :: _ => none
theorem strs_reps {F : Hp} : ∀ {ds : List D} {vs : List V} {ns : List Str}, Reps T F vs ds → strsD ds = some ns → vs = ns.map V.str
  | [], _, _, h, e => by cases h; cases e; rfl
  | .str i :: ds, _, ns, .cons h r, e => by
    simp only [strsD] at e
    cases e1 : strsD ds with
    | none => rw [e1] at e; cases e
    | some ms =>
      rw [e1] at e
      cases e
      cases h
      rw [strs_reps r e1]
      rfl
  | .non :: _, _, _, _, e => by simp only [strsD] at e; cases e
  | .bl _ :: _, _, _, _, e => by simp only [strsD] at e; cases e
  | .int _ :: _, _, _, _, e => by simp only [strsD] at e; cases e
  | .lst _ :: _, _, _, _, e => by simp only [strsD] at e; cases e
  | .frz _ :: _, _, _, _, e => by simp only [strsD] at e; cases e
  | .tup _ :: _, _, _, _, e => by simp only [strsD] at e; cases e
  | .dct _ _ :: _, _, _, _, e => by simp only [strsD] at e; cases e
  | .ins _ _ _ :: _, _, _, _, e => by simp only [strsD] at e; cases e
  | .opq _ _ :: _, _, _, _, e => by simp only [strsD] at e; cases e
def joinD : D → List D → Option B
  | .str a, [d] => ((itemsD d).bind strsD).bind fun ys => if (ys.map (·.length)).sum + ys.length * a.length ≤ most then some (false, .str (Txt.join a ys)) else none
  | _, _ => none
theorem ok_join : OkM T (fun x xs H Q => ∃ a p, ∃ ys : List Str, x = .str a ∧ xs = [.ref p] ∧ (SqL T.K H p (ys.map V.str) ∨ SqT T.K H p (ys.map V.str)) ∧
    (ys.map (·.length)).sum + ys.length * a.length ≤ 16777216 ∧ Q (.str (Txt.join a ys)) H) joinD := by
  intro F H v d vs ds x l rv rs h Q g
  unfold joinD at h
  split at h
  · rename_i z d1
    cases e1 : itemsD d1 with
    | none => rw [e1] at h; cases h
    | some es =>
      cases e2 : strsD es with
      | none => simp only [e1, Option.bind, e2] at h; cases h
      | some ys =>
        simp only [e1, Option.bind, e2] at h
        split at h
        · rename_i hz
          cases h
          cases rs with
          | cons r1 rs =>
            cases rs
            obtain ⟨p, us, rfl, r2, h2⟩ := r1.items l e1
            rw [strs_reps r2 e2] at h2
            exact ⟨z, p, ys, rv.rep_str, rfl, h2, hz, Gives.same l (.str _) g⟩
        · cases h
  · cases h
def indexSD : D → List D → Option B
  | .str a, [.str b] => (Builtin.Str.occurrences a b 0 a.length 1).head?.map fun i => (false, .int (i : Nat))
  | _, _ => none
theorem ok_indexS : OkM T (fun x xs H Q => ∃ a b i rest, x = .str a ∧ xs = [.str b] ∧ Builtin.Str.occurrences a b 0 a.length 1 = i :: rest ∧ Q (.int (i : Nat)) H) indexSD := by
  intro F H v d vs ds x l rv rs h Q g
  unfold indexSD at h
  split at h
  · rename_i z b
    cases e1 : Builtin.Str.occurrences z b 0 z.length 1 with
    | nil => rw [e1] at h; cases h
    | cons i rest =>
      rw [e1] at h
      cases h
      cases rs with
      | cons r1 rs =>
        cases rs
        cases r1
        exact ⟨z, b, i, rest, rv.rep_str, rfl, e1, Gives.same l (.int _) g⟩
  · cases h
/-- the first place of y in a row of flat values -/
def findV (y : V) : List V → Option Nat
  | [] => none
  | z :: zs => if eqV z y then some 0 else (findV y zs).map (· + 1)
theorem findV_some {y : V} : ∀ {vs : List V} {j : Nat}, findV y vs = some j → ∃ z, vs[j]? = some z ∧ eqV z y = true ∧ ∀ (m : Nat) (z' : V), m < j → vs[m]? = some z' → eqV z' y = false
  | [], _, h => by cases h
  | z :: zs, j, h => by
    unfold findV at h
    by_cases q : eqV z y = true
    · rw [if_pos q] at h
      cases h
      exact ⟨z, rfl, q, fun m z' hm => absurd hm (Nat.not_lt_zero m)⟩
    · rw [if_neg q] at h
      cases e : findV y zs with
      | none => rw [e] at h; cases h
      | some k =>
        rw [e] at h
        cases h
        obtain ⟨u, h1, h2, h3⟩ := findV_some e
        refine ⟨u, h1, h2, fun m z' hm hz => ?_⟩
        cases m with
        | zero => cases hz; simpa using q
        | succ m => exact h3 m z' (Nat.lt_of_succ_lt_succ hm) (by simpa using hz)
def indexLD : D → List D → Option B
  | d, [e] => match flV e, (lstOf d).bind flVs with
    | some u, some us => (findV u us).map fun j => (false, .int (j : Nat))
    | _, _ => none
  | _, _ => none
theorem ok_indexL : OkM T (rIndex T.K) indexLD := by
  intro F H v d vs ds x l rv rs h Q g
  unfold indexLD at h
  split at h
  · rename_i e
    cases e1 : flV e with
    | none => simp only [e1] at h; cases h
    | some u =>
      cases e2 : lstOf d with
      | none => simp only [e1, e2, Option.bind] at h; cases h
      | some es =>
        cases e3 : flVs es with
        | none => simp only [e1, e2, Option.bind, e3] at h; cases h
        | some us =>
          simp only [e1, e2, Option.bind, e3] at h
          cases e4 : findV u us with
          | none => rw [e4] at h; cases h
          | some j =>
            rw [e4] at h
            cases h
            cases rs with
            | cons r1 rs =>
              cases rs
              obtain ⟨h1, h2⟩ := flV_top r1 e1
              obtain ⟨p, ws, hv, r3, q⟩ := rv.lstq l e2
              obtain ⟨h3, h4⟩ := flVs_reps r3 e3
              subst h1 h3
              obtain ⟨z, k1, k2, k3⟩ := findV_some e4
              exact ⟨p, ws, _, j, z, hv, rfl, q, h2, h4, k1, k2, k3, Gives.same l (.int _) g⟩
  · cases h
theorem pe_joinM {m : M Opd} {ms : M (List Opd)} {apos cpos : Pos} (hK : X.K = T.K) (ho : PE X a (tO T W m)) (ha : PA X [e] (tA T W ms)) (hbase : attributeBase a "join" X.env (eval a X.env) = eval a X.env := by rfl)
    (hfew : ((backTo cpos (starEach [e] X.env)).all (fun x => !x.1) && (backToKw cpos (keywordEach [] X.env)).all (fun x => x.1.isSome)
      && decide (([e] : List Expr).length + ([] : List Keyword).length + (if ([] : List Keyword).isEmpty then 0 else 1) < 30)) = true := by rfl)
    (hline : (apos.endLine == cpos.line) = true := by rfl) (hs : starEach [e] X.env = (false, eval e X.env) :: starEach [] X.env := by rfl) :
    PE X (.Call (.Attribute a "join" apos) [e] [] cpos) (tV T W (methM "str" joinD m ms)) := pe_methM ok_join (.inl rfl) hK PySem.F.plainAttrs_str PySem.F.slot_str_join PySem.F.type_str_join (hK ▸ mt_join) ho ha hbase hfew hline hs rfl
theorem pe_indexSM {m : M Opd} {ms : M (List Opd)} {apos cpos : Pos} (hK : X.K = T.K) (ho : PE X a (tO T W m)) (ha : PA X [e] (tA T W ms)) (hbase : attributeBase a "index" X.env (eval a X.env) = eval a X.env := by rfl)
    (hfew : ((backTo cpos (starEach [e] X.env)).all (fun x => !x.1) && (backToKw cpos (keywordEach [] X.env)).all (fun x => x.1.isSome)
      && decide (([e] : List Expr).length + ([] : List Keyword).length + (if ([] : List Keyword).isEmpty then 0 else 1) < 30)) = true := by rfl)
    (hline : (apos.endLine == cpos.line) = true := by rfl) (hs : starEach [e] X.env = (false, eval e X.env) :: starEach [] X.env := by rfl) :
    PE X (.Call (.Attribute a "index" apos) [e] [] cpos) (tV T W (methM "str" indexSD m ms)) := pe_methM ok_indexS (.inl rfl) hK PySem.F.plainAttrs_str PySem.F.slot_str_index PySem.F.type_str_index mt_sindex ho ha hbase hfew hline hs rfl
theorem pe_indexLM {m : M Opd} {ms : M (List Opd)} {apos cpos : Pos} (hK : X.K = T.K) (ho : PE X a (tO T W m)) (ha : PA X [e] (tA T W ms)) (hbase : attributeBase a "index" X.env (eval a X.env) = eval a X.env := by rfl)
    (hfew : ((backTo cpos (starEach [e] X.env)).all (fun x => !x.1) && (backToKw cpos (keywordEach [] X.env)).all (fun x => x.1.isSome)
      && decide (([e] : List Expr).length + ([] : List Keyword).length + (if ([] : List Keyword).isEmpty then 0 else 1) < 30)) = true := by rfl)
    (hline : (apos.endLine == cpos.line) = true := by rfl) (hs : starEach [e] X.env = (false, eval e X.env) :: starEach [] X.env := by rfl) :
    PE X (.Call (.Attribute a "index" apos) [e] [] cpos) (tV T W (methM "list" indexLD m ms)) := pe_methM ok_indexL (.inr rfl) hK PySem.F.plainAttrs_list PySem.F.slot_list_index PySem.F.type_list_index (hK ▸ mt_index) ho ha hbase hfew hline hs rfl
end
end TT

set_option maxRecDepth 100000
set_option maxHeartbeats 4000000
/-! TL: changes of owned lists, targets, loops, comprehensions. -/
namespace TT
open PySem PySem.Spec PyProof.Rows L2
section
variable {T : Tb} {W : WX} {F F' H H' : Hp} {s : St} {env : Ev}
/-- an owned container changes -/
theorem Step.chg {i : Nat} {d d' : D} {a : Addr} {o' : HO} (E : ERep T F H s env) (h : env[i]? = some (some (true, d))) (hv : s[i]? = some (some (.ref a))) (t : F a = none → Top T F (upd H a o') a d') :
    Step T s F H env F (upd H a o') (env.set i (some (true, d'))) := by
  obtain ⟨w, e1, r⟩ := E.get i _ h
  rw [hv] at e1
  cases e1
  obtain ⟨b, e2, fa, t0⟩ := (show ∃ b, V.ref a = .ref b ∧ F b = none ∧ Top T F H b d from r)
  cases e2
  have t := t fa
  have hi : i < env.length := (List.getElem?_eq_some_iff.mp h).1
  have own : OwnE s env a := ⟨i, d, h, hv⟩
  have sel : ∀ {j : Nat} {d1 : D}, (env.set i (some (true, d')))[j]? = some (some (true, d1)) → ∃ d2, env[j]? = some (some (true, d2)) := fun {j d1} e => by
    by_cases hj : i = j
    · subst hj; exact ⟨d, h⟩
    · rw [List.getElem?_set_ne hj] at e; exact ⟨d1, e⟩
  refine ⟨⟨fun b u e => ?_, by rw [List.length_set]; exact E.len, fun j x e => ?_, fun j k d1 d2 v1 e1 e2 e3 e4 => ?_, E.sm, ?_⟩, Same.refl _, fun b o e _ n => ?_, fun _ e n => absurd e n, fun j d1 e => sel e, fun b e => ?_⟩
  · rw [upd_ne (ne_of_none e fa)]; exact E.le b u e
  · by_cases hj : i = j
    · subst hj
      rw [List.getElem?_set_self hi] at e
      cases e
      exact ⟨_, hv, a, rfl, fa, t⟩
    · rw [List.getElem?_set_ne hj] at e
      obtain ⟨w, e1, r1⟩ := E.get j x e
      refine ⟨w, e1, ?_⟩
      obtain ⟨ow, dd⟩ := x
      cases ow with
      | false => exact r1
      | true =>
        obtain ⟨b, rfl, fb, tb⟩ := r1
        refine ⟨b, rfl, fb, tb.imp (Same.refl _) fun o e2 _ => ?_⟩
        have nb : b ≠ a := fun z => by
          subst z
          exact hj (E.sep i j d dd _ h e hv e1)
        rw [upd_ne nb]; exact e2
  · obtain ⟨u1, f1⟩ := sel e1
    obtain ⟨u2, f2⟩ := sel e2
    exact E.sep j k u1 u2 v1 f1 f2 e3 e4
  · obtain ⟨u, hu, pu⟩ := t0.obj
    exact tabs_chg E.tb hu pu
  · have nb : b ≠ a := fun z => by subst z; exact n own
    rw [upd_ne nb]; exact e
  · by_cases hb : b = a
    · subst hb; rw [upd_same] at e; cases e
    · rw [upd_ne hb] at e; exact e
/-- an owned slot's list as it stands -/
theorem ERep.ownLst {i : Nat} {xs : List D} {v : V} (E : ERep T F H s env) (h : env[i]? = some (some (true, .lst xs))) (hv : s[i]? = some (some v)) : ∃ a vs, v = .ref a ∧ H a = some (.lst vs) ∧ Reps T F vs xs := by
  obtain ⟨w, e1, r⟩ := E.get i _ h
  rw [hv] at e1
  cases e1
  obtain ⟨a, rfl, _, vs, e2, r2⟩ := (show ∃ a, v = .ref a ∧ F a = none ∧ Top T F H a (.lst xs) from r)
  exact ⟨a, vs, rfl, e2, r2⟩
/-! ### append -/
def appO (i : Nat) (d : D) : M B := fun env => match env[i]? with
  | some (some (true, .lst xs)) => if xs.length < most then .ok (false, .non) (env.set i (some (true, .lst (xs ++ [d])))) else .bad
  | _ => .bad
def appM (i : Nat) (m : M B) : M B := M.bind (slotM i) fun o => M.bind (tyO "list" o) fun _ => M.bind (shM m) fun x => appO i x.2
theorem slotM_ok {i : Nat} {o : Opd} {env1 : Ev} (h : slotM i env = .ok o env1) : o = .slot i ∧ env1 = env ∧ ∃ x, env[i]? = some (some x) := by
  unfold slotM at h
  cases e : env[i]? with
  | none => rw [e] at h; cases h
  | some y =>
    cases y with
    | none => rw [e] at h; cases h
    | some x => rw [e] at h; cases h; exact ⟨rfl, rfl, x, rfl⟩
theorem tyO_of {A B : Type} {rel : Rel A B} {n : String} {o : Opd} {f : Unit → M A} {Q : B → Hp → Prop} (h : PG T rel W s F H env Q (M.bind (tyO n o) f env)) : ∃ x, look env o = some x ∧ tyD x.2 = some n ∧ PG T rel W s F H env Q (f () env) := by
  cases e1 : look env o with
  | none =>
    have z : tyO n o env = .bad := by unfold tyO; rw [e1]
    rw [bind_bad z] at h
    exact h.elim
  | some x =>
    by_cases q : tyD x.2 = some n
    · have z : tyO n o env = .ok () env := by unfold tyO; rw [e1]; exact if_pos q
      rw [bind_ok z] at h
      exact ⟨x, rfl, q, h⟩
    · have z : tyO n o env = .bad := by unfold tyO; rw [e1]; exact if_neg q
      rw [bind_bad z] at h
      exact h.elim
theorem shM_val {m : M B} {x : B} {env env1 : Ev} (h : shM m env = .ok x env1) : x.1 = false := by
  unfold shM at h
  cases e : m env with
  | ok y env2 => rw [bind_ok e] at h; cases h; rfl
  | err c fs env2 => rw [bind_err e] at h; cases h
  | bad => rw [bind_bad e] at h; cases h
end
section
variable {T : Tb} {W : WX} {X : Cx} {e a b c : Expr} {es : List Expr} {pos : Pos}
theorem pe_appM {i : Nat} {m : M B} {apos cpos : Pos} (hK : X.K = T.K) (ho : PE X a (tVar i)) (ha : PE X e (tV T W m)) (hbase : attributeBase a "append" X.env (eval a X.env) = eval a X.env := by rfl)
    (hfew : ((backTo cpos (starEach [e] X.env)).all (fun x => !x.1) && (backToKw cpos (keywordEach [] X.env)).all (fun x => x.1.isSome)
      && decide (([e] : List Expr).length + ([] : List Keyword).length + (if ([] : List Keyword).isEmpty then 0 else 1) < 30)) = true := by rfl)
    (hline : (apos.endLine == cpos.line) = true := by rfl) (hs : starEach [e] X.env = (false, eval e X.env) :: starEach [] X.env := by rfl) :
    PE X (.Call (.Attribute a "append" apos) [e] [] cpos) (tV T W (appM i m)) := by
  refine PEimp (pe_bm PySem.F.plainAttrs_list PySem.F.slot_list_append PySem.F.type_list_append mt_append ho (pa_cons (pe_shM ha) pa_nil hs) hbase hfew hline hs rfl) ?_
  rintro s H Q ⟨F, env, E, h⟩
  unfold appM at h
  cases e1 : slotM i env with
  | bad => rw [bind_bad e1] at h; exact h.elim
  | err c fs env1 =>
    exfalso
    unfold slotM at e1
    split at e1 <;> cases e1
  | ok o env1 =>
    rw [bind_ok e1] at h
    obtain ⟨rfl, rfl, x, e2⟩ := slotM_ok e1
    obtain ⟨v, e3, r⟩ := E.get i x e2
    obtain ⟨x', e4, q, h⟩ := tyO_of h
    have hx : x' = x := by
      have := look_slot e4
      rw [e2] at this
      cases this; rfl
    subst hx
    refine ⟨v, e3, ?_, F, env1, E, PG.bind (rel2 := relV T s) relV_ok h fun w y env2 F2 H2 ey st ry h3 => ?_⟩
    · rw [hK]
      exact tyV_of E.le (r.top E.le) q (.inr rfl)
    · unfold appO at h3
      split at h3
      · rename_i xs e5
        split at h3
        · rename_i hl
          obtain ⟨p, vs, hv, e6, r6⟩ := st.rep.ownLst e5 e3
          subst hv
          have y1 := shM_val ey
          have ry := ry.1.rep
          obtain ⟨own, d⟩ := y
          simp only at y1
          subst y1
          have ry : Rep T F2 w d := ry
          refine ⟨p, vs, w, rfl, rfl, e6, by rw [r6.length, ← most_line]; exact hl, ?_⟩
          exact h3 .non F2 _ (Step.chg st.rep e5 e3 fun fp => ⟨vs ++ [w], upd_same, r6.append (.cons ry .nil)⟩) ⟨.sh .non, fun z => by cases z⟩
        · exact h3.elim
      · exact h3.elim

/-! ### targets -/
def tB (T : Tb) (rp : List Nat) (bd : D → M Unit) : TG := fun v σ H Q => ∃ F env d env', ERep T F H σ env ∧ Rep T F v d ∧ bd d env = .ok () env' ∧ ∀ s' F' H', StepS T rp σ F H env s' F' H' env' → Q s' H'
def tBs (T : Tb) (rp : List Nat) (bd : List D → M Unit) : TGs := fun vs σ H Q => ∃ F env ds env', ERep T F H σ env ∧ Reps T F vs ds ∧ bd ds env = .ok () env' ∧ ∀ s' F' H', StepS T rp σ F H env s' F' H' env' → Q s' H'
theorem PGimp {t t' : TG} (h : L2.PG X e t) (k : ∀ v s H Q, t' v s H Q → t v s H Q) : L2.PG X e t' := ⟨fun pins s σ H v u Q I r q => h.run pins s σ H v u Q I r (k _ _ _ _ q)⟩
theorem PGsimp {t t' : TGs} (h : PGs X es t) (k : ∀ v s H Q, t' v s H Q → t v s H Q) : PGs X es t' := ⟨fun pins s σ H v u Q I r q => h.run pins s σ H v u Q I r (k _ _ _ _ q)⟩
def nmB (i : Nat) (d : D) : M Unit := fun env => if i < env.length then .ok () (env.set i (some (false, d))) else .bad
variable {rp : List Nat}
theorem pg_nmM {i : Nat} {x : Str} (hN : X.N.Nodup) (hi : X.N[i]? = some x) (hx : Loc X.env.scope x) (hr : rp.contains i = false := by rfl) (hf : X.fn x = true ∨ X.env.scope.names.lookup x = some .local := by first | exact .inl rfl | exact .inr rfl | assumption) : L2.PG X (.Name x pos) (tB T rp (nmB i)) := by
  refine PGimp (pg_name hN hi hx hf) ?_
  rintro v s H Q ⟨F, env, d, env', E, r, e1, q⟩
  unfold nmB at e1
  split at e1
  · rename_i hl
    cases e1
    exact q _ F H (StepS.put E (.sh r) hl (notIn hr) fun z => by cases z)
  · cases e1
def setO (i : Nat) (d : D) (o : Opd) : M Unit := fun env => match env[i]?, look env o with
  | some (some (true, .lst xs)), some (_, .int k) => match ixN xs.length k with
    | some j => .ok () (env.set i (some (true, .lst (xs.set j d))))
    | none => .bad
  | _, _ => .bad
def subB (i : Nat) (m : M Opd) (d : D) : M Unit := M.bind (slotM i) fun _ => M.bind m (setO i d)
theorem PG.of_ok {A B : Type} {rel : Rel A B} {m : M A} {s : St} {F H : Hp} {env env1 : Ev} {x : A} {Q : B → Hp → Prop} (e : m env = .ok x env1) (q : ∀ b F' H', Step T s F H env F' H' env1 → rel H F' H' env1 b x → Q b H') : PG T rel W s F H env Q (m env) := by
  rw [e]
  exact q
theorem bind_ok_inv {A B : Type} {m : M A} {f : A → M B} {env env' : Ev} {b : B} (h : M.bind m f env = .ok b env') : ∃ a env1, m env = .ok a env1 ∧ f a env1 = .ok b env' := by
  cases e : m env with
  | ok a env1 => rw [bind_ok e] at h; exact ⟨a, env1, rfl, h⟩
  | err c fs env1 => rw [bind_err e] at h; cases h
  | bad => rw [bind_bad e] at h; cases h
theorem pg_subM {i : Nat} {m : M Opd} (ho : PE X a (tVar i)) (hi : PE X b (tO T W m))
    (hs : ∀ v, assign (.Subscript a b pos) X.env v = (do
      let ov ← holding [v] (eval a X.env)
      let iv ← holding [v, ov] (eval b X.env)
      standAt pos
      holding [v, ov, iv] (setItem ov iv v)
      release [v, ov, iv] []) := by intro _; rfl) : L2.PG X (.Subscript a b pos) (tB T rp (subB i m)) := by
  refine PGimp (pg_sub ho hi set_list hs) ?_
  rintro v s H Q ⟨F, env, d, env', E, r, e1, q⟩
  obtain ⟨o0, env0, e0, e10⟩ := bind_ok_inv e1
  obtain ⟨rfl, rfl, x, e2⟩ := slotM_ok e0
  obtain ⟨v0, e3, _⟩ := E.get i x e2
  obtain ⟨o, env1, e4, e5⟩ := bind_ok_inv e10
  refine ⟨v0, e3, F, env0, E, PG.of_ok e4 fun w F1 H1 st ro => ?_⟩
  unfold setO at e5
  split at e5
  · rename_i xs own k e6 e7
    split at e5
    · rename_i j e8
      cases e5
      obtain ⟨p, vs, hv, e9, r9⟩ := st.rep.ownLst e6 e3
      subst hv
      have tk := (OOk.top st.rep ro e7).rep_int
      refine ⟨p, vs, k, j, rfl, tk, e9, by rw [r9.length]; exact e8, ?_⟩
      have r' := Rep.mono st.mono r
      exact q s F1 _ (st.trans (Step.chg (d' := .lst (xs.set j d)) st.rep e6 e3 fun fp => ⟨vs.set j v, upd_same, r9.set j r'⟩)).S
    · cases e5
  · cases e5
def mustM (m : M Unit) : M Unit := fun env => match m env with
  | .ok _ env' => .ok () env'
  | _ => .bad
def tpB (bs : List D → M Unit) (d : D) : M Unit := match d with
  | .tup ds => bs ds
  | _ => M.fail
def nilB : List D → M Unit
  | [] => M.pure ()
  | _ => M.fail
def consB (b : D → M Unit) (bs : List D → M Unit) : List D → M Unit
  | d :: ds => M.bind (b d) fun _ => bs ds
  | [] => M.fail
theorem pgs_nilM : PGs X [] (tBs T rp nilB) := by
  refine PGsimp pgs_nil ?_
  rintro vs s H Q ⟨F, env, ds, env', E, r, e1, q⟩
  cases r with
  | nil => cases e1; exact ⟨rfl, q s F H (StepS.refl E)⟩
  | cons => cases e1
theorem pgs_consM {bd : D → M Unit} {bs : List D → M Unit} (h1 : L2.PG X e (tB T rp bd)) (h2 : PGs X es (tBs T rp bs)) (hs : (assignEach (e :: es) X.env).map (·.2) = assign e X.env :: (assignEach es X.env).map (·.2) := by rfl) : PGs X (e :: es) (tBs T rp (consB bd bs)) := by
  refine PGsimp (pgs_cons h1 h2 hs) ?_
  rintro vs s H Q ⟨F, env, ds, env', E, r, e1, q⟩
  cases r with
  | nil => cases e1
  | cons rd rr =>
    obtain ⟨u, env1, e2, e3⟩ := bind_ok_inv e1
    refine ⟨_, _, rfl, F, env, _, env1, E, rd, e2, fun s1 F1 H1 st => ?_⟩
    exact ⟨F1, env1, _, env', st.rep, Reps.mono st.mono rr, e3, fun s2 F2 H2 st2 => q s2 F2 H2 (st.trans st2)⟩
theorem assignEach_len : ∀ {vs : List V} {ds : List D} {F : Hp}, Reps T F vs ds → vs.length = ds.length := fun r => r.length
theorem pg_tupM {bs : List D → M Unit} {k n : Nat} (hK : X.K = T.K) (hc : X.calm = true) (h : PGs X es (tBs T rp bs)) (hb : ∀ ds env env', bs ds env = .ok () env' → ds.length = n)
    (hn : (assignEach es X.env).length = n := by rfl) (hst : (assignEach es X.env).findIdx? (·.1) = none := by rfl) : L2.PG X (.Tuple es k pos) (tB T rp (tpB bs)) := by
  refine PGimp (pg_tup hc h hn hst) ?_
  rintro v s H Q ⟨F, env, d, env', E, r, e1, q⟩
  cases d <;> first | (cases e1; done) | skip
  case tup ds =>
    cases r with
    | tup hq rr =>
      refine ⟨_, _, rfl, ?_, ?_, F, env, ds, env', E, rr, e1, q⟩
      · rw [hK]; exact seqT_mono E.le hq
      · rw [rr.length]; exact hb ds env env' e1
theorem len_nilB : ∀ ds env env', nilB ds env = .ok () env' → ds.length = 0 := by
  intro ds env env' h
  cases ds with
  | nil => rfl
  | cons d ds => cases h
theorem len_consB {bd : D → M Unit} {bs : List D → M Unit} {n : Nat} (h : ∀ ds env env', bs ds env = .ok () env' → ds.length = n) : ∀ ds env env', consB bd bs ds env = .ok () env' → ds.length = n + 1 := by
  intro ds env env' q
  cases ds with
  | nil => cases q
  | cons d ds =>
    obtain ⟨u, env1, e2, e3⟩ := bind_ok_inv q
    rw [List.length_cons, h ds env1 env' e3]
theorem StepS.put2 {i : Nat} {v : V} {x : B} {s s1 : St} {F F1 H H1 : Hp} {env env1 : Ev} (a : StepS T rp s F H env s1 F1 H1 env1) (h : VOk T s1 F1 H1 env1 v x) (hi : i < env1.length) (hr : i ∉ rp) (hf : x.1 = true → ∀ a, v = .ref a → H a = none) :
    StepS T rp s F H env (s1.set i (some v)) F1 H1 (env1.set i (some x)) := by
  refine ⟨a.rep.put h hi, a.mono, a.frame, a.fresh, fun c ⟨j, d, hj, e1, e2⟩ => ?_, fun j hj => ?_, a.dom⟩
  · by_cases hij : i = j
    · subst hij
      rw [List.getElem?_set_self hi] at e1
      rw [List.getElem?_set_self (by rw [a.rep.len]; exact hi)] at e2
      cases e1; cases e2
      exact .inl (hf rfl c rfl)
    · rw [List.getElem?_set_ne hij] at e1 e2
      exact a.ownL c ⟨j, d, hj, e1, e2⟩
  · have hij : i ≠ j := fun z => hr (z ▸ hj)
    rw [List.getElem?_set_ne hij, List.getElem?_set_ne hij]
    exact a.par j hj
/-- target = value, the value shared -/
def asgB (m : M B) (bd : D → M Unit) : M Flw := M.bind (shM m) fun x => M.bind (mustM (bd x.2)) fun _ => M.pure .next
theorem mustM_of {A : Type} {m : M Unit} {f : Unit → M A} {env : Ev} {R1 : R A} (h : M.bind (mustM m) f env = R1) : (∃ env', m env = .ok () env' ∧ f () env' = R1) ∨ R1 = .bad := by
  cases e : m env with
  | ok u env1 =>
    have z : mustM m env = .ok () env1 := by unfold mustM; rw [e]
    rw [bind_ok z] at h
    exact .inl ⟨env1, rfl, h⟩
  | err c fs env1 =>
    have z : mustM m env = .bad := by unfold mustM; rw [e]
    rw [bind_bad z] at h
    exact .inr h.symm
  | bad =>
    have z : mustM m env = .bad := by unfold mustM; rw [e]
    rw [bind_bad z] at h
    exact .inr h.symm
theorem ps_asgB {tg : Expr} {m : M B} {bd : D → M Unit} (he : PE X e (tV T W m)) (hg : L2.PG X tg (tB T rp bd)) (hs : swapsWithSole [tg] e pos.line X.env = pure false := by rfl) (hw : swappedStores [tg] e X.env = pure none := by rfl)
    (h1 : (assignEach [tg] X.env).map (·.2) = [assign tg X.env] := by rfl) : PS X (.Assign [tg] e pos) (tS T W rp (asgB m bd)) := by
  refine PSimp (ps_asg (pe_shM he) hg hs hw h1) ?_
  rintro D s H ⟨F, env, E, h⟩
  refine ⟨F, env, E, PSt.bindE (rel := relV T s) h fun v x env1 F1 H1 ex st r h2 => ?_⟩
  rcases mustM_of (R1 := M.bind (mustM (bd x.2)) (fun _ => M.pure Flw.next) env1) rfl with ⟨env2, e2, e3⟩ | z
  · have x1 := shM_val ex
    obtain ⟨own, d⟩ := x
    simp only at x1
    subst x1
    refine ⟨F1, env1, d, env2, st.rep, r.1.rep, e2, fun s2 F2 H2 st2 => ?_⟩
    rw [← e3] at h2
    exact h2 s2 F2 H2 st2
  · rw [z] at h2
    exact h2.elim
/-- a, b = x, y with plain local names -/
def par2M (i j : Nat) (p q : M B) : M Flw := M.bind p fun x => M.bind q fun y env => if i < env.length ∧ j < env.length then .ok .next ((env.set i (some x)).set j (some y)) else .bad
theorem ps_par2M {i j : Nat} {x y : Str} {p q : M B} {px py pt : Pos} {kt k2 pt2} (hc : X.calm = true) (hN : X.N.Nodup) (hi : X.N[i]? = some x) (hj : X.N[j]? = some y) (hij : (i == j) = false)
    (hx : X.env.scope.names.lookup x = some .local) (hy : X.env.scope.names.lookup y = some .local) (ha : PE X a (tV T W p)) (hb : PE X b (tV T W q))
    (hw : swappedStores [.Tuple [.Name x px, .Name y py] kt pt] (.Tuple [a, b] k2 pt2) X.env = pure (some [x, y])) (hri : rp.contains i = false := by rfl) (hrj : rp.contains j = false := by rfl)
    (hs1 : starEach [a, b] X.env = (false, eval a X.env) :: starEach [b] X.env := by rfl) (hs2 : starEach [b] X.env = (false, eval b X.env) :: starEach [] X.env := by rfl)
    (hs : swapsWithSole [.Tuple [.Name x px, .Name y py] kt pt] (.Tuple [a, b] k2 pt2) pos.line X.env = pure false := by rfl) :
    PS X (.Assign [.Tuple [.Name x px, .Name y py] kt pt] (.Tuple [a, b] k2 pt2) pos) (tS T W rp (par2M i j p q)) := by
  have hij' : i ≠ j := fun z => by subst z; simp at hij
  refine PSimp (ps_par hc hN hi hj hij' hx hy (pa_cons ha (pa_cons hb pa_nil hs2) hs1) hw hs) ?_
  rintro D s H ⟨F, env, E, h⟩
  unfold par2M at h
  refine ⟨F, env, E, ?_⟩
  cases e1 : p env with
  | bad => rw [bind_bad e1] at h; exact h
  | err c fs env1 => rw [bind_err e1] at h; exact fun C d F' H' hc st x => h C d s F' H' hc st.S x
  | ok x env1 =>
    rw [bind_ok e1] at h
    intro v F1 H1 st r
    refine ⟨F1, env1, st.rep, ?_⟩
    cases e2 : q env1 with
    | bad => rw [bind_bad e2] at h; exact h
    | err c fs env2 => rw [bind_err e2] at h; exact fun C d F' H' hc st2 x => h C d s F' H' hc (st.trans st2).S x
    | ok y env2 =>
      rw [bind_ok e2] at h
      intro w F2 H2 st2 r2
      refine ⟨v, w, rfl, ?_⟩
      split at h
      · rename_i hl
        have rv := r.1.step st2
        have S2 : StepS T rp s F H env (s.set i (some v)) F2 H2 (env2.set i (some x)) := StepS.put_new (st.trans st2) rv hl.1 (notIn hri) r.2
        refine h _ F2 H2 (S2.put2 ⟨r2.1.rep, fun o a e z => ?_⟩ (by rw [List.length_set]; exact hl.2) (notIn hrj) fun o a e => st.dom a (r2.2 o a e))
        obtain ⟨k, dk, k1, k2⟩ := z
        by_cases hk : i = k
        · subst hk
          rw [List.getElem?_set_self hl.1] at k1
          rw [List.getElem?_set_self (by rw [st2.rep.len]; exact hl.1)] at k2
          cases k1
          cases k2
          obtain ⟨a', ea, _, t⟩ := (show ∃ a', V.ref a = .ref a' ∧ F1 a' = none ∧ Top T F1 H1 a' dk from r.1.rep)
          cases ea
          obtain ⟨u, hu, _⟩ := t.obj
          rw [r2.2 o a e] at hu
          cases hu
        · rw [List.getElem?_set_ne hk] at k1 k2
          exact r2.1.apart o a e ⟨k, dk, k1, k2⟩
      · exact h.elim
end
end TT

set_option maxRecDepth 100000
set_option maxHeartbeats 4000000
/-! TW: what is walked, for, list comprehensions. -/
namespace TT
open PySem PySem.Spec PyProof.Rows L2
/-- the walk J gives the data xs, whatever becomes of the heap beside what F has -/
def ItOk (T : Tb) (F : Hp) (J : It) (xs : List D) : Prop := ∃ (G : Hp → Prop) (Y : Nat → Hp → V → Hp → Prop), Walk J xs.length G Y ∧ (∀ F' H', Same F F' → Same F' H' → G H') ∧
  ∀ F' H' i x H'', Same F F' → Same F' H' → i < xs.length → Y i H' x H'' → ∃ d F'', xs[i]? = some d ∧ New T F' H' F'' H'' x (false, d)
def relI (T : Tb) : Rel (List D) It := fun _ F _ _ J xs => ItOk T F J xs
theorem relI_ok {T : Tb} : RelOk (relI T) := fun _ _ _ _ _ _ _ _ h => h
abbrev tI (T : Tb) (W : WX) (m : M (List D)) : TI := tG T (fun _ => relI T) W m
section
variable {T : Tb} {W : WX} {X : Cx} {e tg : Expr} {es : List Expr} {pos : Pos}
theorem PIimp {iter : Expr} {w w' : TI} (h : PI X tg iter w) (k : ∀ s H R, w' s H R → w s H R) : PI X tg iter w' := ⟨fun pins s σ H R I q => h.run pins s σ H R I (k _ _ _ q)⟩
theorem ItOk.list {F : Hp} {a : Addr} {vs : List V} {ds : List D} (h : SqL T.K F a vs) (r : Reps T F vs ds) : ItOk T F (Itl T.K a) ds := by
  refine ⟨_, _, r.length ▸ walk_list (K := T.K) (a := a) (xs := vs), fun F' H' m l => l.seq (m.seq h), fun F' H' i x H'' m l hi y => ?_⟩
  obtain ⟨rfl, e⟩ := y
  obtain ⟨d, e1, r1⟩ := r.getV e
  exact ⟨d, F', e1, New.here l (Rep.mono m r1)⟩
theorem ItOk.tup {F : Hp} {a : Addr} {vs : List V} {ds : List D} (h : SqT T.K F a vs) (r : Reps T F vs ds) : ItOk T F (Itt T.K a) ds := by
  refine ⟨_, _, r.length ▸ walk_tup (K := T.K) (a := a) (xs := vs), fun F' H' m l => seqT_mono l (seqT_mono m h), fun F' H' i x H'' m l hi y => ?_⟩
  obtain ⟨rfl, e⟩ := y
  obtain ⟨d, e1, r1⟩ := r.getV e
  exact ⟨d, F', e1, New.here l (Rep.mono m r1)⟩
def signs (z : Str) : List D := z.cps.toList.map fun c => .str ⟨#[c]⟩
theorem ItOk.str {F : Hp} {z : Str} : ItOk T F (Its z) (signs z) := by
  have hl : (signs z).length = z.cps.size := by unfold signs; rw [List.length_map, Array.length_toList]
  refine ⟨_, _, hl ▸ walk_str (z := z), fun _ _ _ _ => trivial, fun F' H' i x H'' m l hi y => ?_⟩
  obtain ⟨rfl, c, e, rfl⟩ := y
  refine ⟨_, F', ?_, New.here l (.str _)⟩
  unfold signs
  rw [List.getElem?_map, Array.getElem?_toList, e]
  rfl
/-- what a for walks: a list, a tuple, a text -/
def iAny (K : PySem.W.Frag) (te : TE) : TI := fun σ H R => te σ H fun x H1 => (∃ a xs, x = .ref a ∧ SqL K H1 a xs ∧ R (Itl K a) H1) ∨ (∃ a xs, x = .ref a ∧ SqT K H1 a xs ∧ R (Itt K a) H1) ∨ ∃ z, x = .str z ∧ R (Its z) H1
theorem pi_any {te : TE} (he : PE X e te) : PI X tg e (iAny X.K te) := by
  refine ⟨fun pins s σ H R I h => ?_⟩
  refine thn (he.run pins s σ H _ I h) fun v s1 ⟨x, H1, I1, r1, q1⟩ => ?_
  rcases q1 with ⟨a, xs, ex, hq, q⟩ | ⟨a, xs, ex, hq, q⟩ | ⟨z, ex, q⟩
  · subst ex
    cases r1
    obtain ⟨its, rv, p, hz⟩ := I1.list hq
    refine wpAny_pyIter_list p.isList ⟨s1.heap.objs.size, [s1.heap.objs.size], _, _, H1, rfl, I1.kept (t' := s1.toks) fun b o e => Heap.get?_push_of_some _ e, turn_list a _, ⟨_, Heap.get?_push_size _ rfl, rfl, rfl⟩, fun b hb => ?_, q⟩
    have e : b = s1.heap.objs.size := by simpa using hb
    subst e
    exact I1.fpOk (Nat.le_refl _) (I1.hok.fresh (Nat.le_refl _))
  · subst ex
    cases r1
    obtain ⟨its, rv, p, hz⟩ := I1.tuple hq
    refine wpAny_pyIter_tuple (show s1.heap.IsTuple a its.toArray from p) ⟨s1.heap.objs.size, [s1.heap.objs.size], _, _, H1, rfl, I1.kept (t' := s1.toks) fun b o e => Heap.get?_push_of_some _ e, turn_tuple a _, ⟨_, Heap.get?_push_size _ rfl, rfl, rfl⟩, fun b hb => ?_, q⟩
    have e : b = s1.heap.objs.size := by simpa using hb
    subst e
    exact I1.fpOk (Nat.le_refl _) (I1.hok.fresh (Nat.le_refl _))
  · subst ex
    obtain ⟨t, rfl⟩ := r1
    cases ha : z.cps.all (· < 128)
    · exact wpAny_pyIter_wide ha (pi_one (tk := s1.toks) I1 _ (turn_str _ z t "str_iterator" (.inr rfl)) ⟨_, Heap.get?_push_size _ rfl, rfl, rfl⟩ q)
    · exact wpAny_pyIter_ascii ha (pi_one (tk := s1.toks) I1 _ (turn_str _ z t "str_ascii_iterator" (.inl rfl)) ⟨_, Heap.get?_push_size _ rfl, rfl, rfl⟩ q)
def walkD : D → Option (List D)
  | .str z => some (signs z)
  | d => itemsD d
def seqO (x : B) : M (List D) := fun env => match walkD x.2 with
  | some ds => .ok ds env
  | none => .bad
def seqI (m : M B) : M (List D) := M.bind (shM m) seqO
theorem pi_seqM {m : M B} (hK : X.K = T.K) (h : PE X e (tV T W m)) : PI X tg e (tI T W (seqI m)) := by
  refine PIimp (pi_any (pe_shM h)) ?_
  rintro s H R ⟨F, env, E, h⟩
  refine ⟨F, env, E, PG.bind (rel2 := relI T) relI_ok h fun v x env1 F1 H1 ex st r h1 => ?_⟩
  have x1 := shM_val ex
  obtain ⟨own, d⟩ := x
  simp only at x1
  subst x1
  have rv : Rep T F1 v d := r.1.rep
  unfold seqO at h1
  cases e1 : walkD d with
  | none => simp only [e1] at h1; exact h1.elim
  | some ds =>
    simp only [e1] at h1
    have go : ∀ J, ItOk T F1 J ds → R J H1 := fun J ok => h1 J F1 H1 (Step.refl st.rep) ok
    rw [hK]
    cases rv <;> simp only [walkD, itemsD] at e1 <;> cases e1
    case some.str.refl z => exact .inr (.inr ⟨z, rfl, go _ .str⟩)
    case some.lst.refl a vs hq rr => exact .inl ⟨a, vs, rfl, st.rep.le.seq (SqL.of hq), go _ (.list (SqL.of hq) rr)⟩
    case some.frz.refl a vs hq rr => exact .inl ⟨a, vs, rfl, st.rep.le.seq hq, go _ (.list hq rr)⟩
    case some.tup.refl a vs hq rr => exact .inr (.inl ⟨a, vs, rfl, seqT_mono st.rep.le hq, go _ (.tup hq rr)⟩)
/-! ### range, zip, enumerate -/
def rngL (lo : Int) (n : Nat) : List D := (List.range n).map fun i => .int (lo + (i : Nat))
theorem ItOk.rng {F : Hp} {lo : Int} {n : Nat} : ItOk T F (Itr lo n) (rngL lo n) := by
  have hl : (rngL lo n).length = n := by unfold rngL; rw [List.length_map, List.length_range]
  refine ⟨_, _, by rw [hl]; exact walk_range (lo := lo) (n := n), fun _ _ _ _ => trivial, fun F' H' i x H'' m l hi y => ?_⟩
  obtain ⟨rfl, e⟩ := y
  subst e
  refine ⟨_, F', ?_, New.here l (.int _)⟩
  unfold rngL
  rw [List.getElem?_map, List.getElem?_range (by omega)]
  rfl
def rngO (os : List Opd) : M (List D) := fun env => match looks env os with
  | some [.int j] => if -(2 ^ 62) ≤ j ∧ j < 2 ^ 62 then .ok (rngL 0 j.toNat) env else .bad
  | some [.int i, .int j] => if -(2 ^ 62) ≤ i ∧ i < 2 ^ 62 ∧ -(2 ^ 62) ≤ j ∧ j < 2 ^ 62 then .ok (rngL i (j - i).toNat) env else .bad
  | _ => .bad
def rngM (ms : M (List Opd)) : M (List D) := M.bind ms rngO
theorem OOks.len {s : St} {F H : Hp} {env : Ev} : ∀ {vs : List V} {os : List Opd}, OOks T s F H env vs os → vs.length = os.length
  | _, _, .nil => rfl
  | _, _, .cons _ r => congrArg (· + 1) (OOks.len r)
theorem TReps.len {F H : Hp} : ∀ {vs : List V} {ds : List D}, TReps T F H vs ds → vs.length = ds.length
  | _, _, .nil => rfl
  | _, _, .cons _ r => congrArg (· + 1) (TReps.len r)
theorem PA.same_len : True := trivial
theorem pi_rng1M {a : Expr} {m : M Opd} {p : Pos} (hg : Gl X "range") (hm : X.mg "range" = none) (ha : PE X a (tO T W m)) (hs : starEach [a] X.env = [(false, eval a X.env)] := by rfl) : PI X tg (.Call (.Name "range" p) [a] [] pos) (tI T W (rngM (consM m nilM))) := by
  refine PIimp (pi_range1 hg hm (pa_consM ha pa_nilM hs) hs) ?_
  rintro s H R ⟨F, env, E, h⟩
  refine ⟨F, env, E, PG.bind (rel2 := relI T) relI_ok h fun vs os env1 F1 H1 ex st r h1 => ?_⟩
  unfold rngO at h1
  split at h1
  · rename_i j e1
    split at h1
    · rename_i hz
      have t := OOks.top st.rep r e1
      cases t with
      | cons t1 t =>
        cases t
        have t1 := t1.rep_int
        subst t1
        exact ⟨j, rfl, hz.1, hz.2, h1 _ F1 H1 (Step.refl st.rep) .rng⟩
    · exact h1.elim
  · rename_i i j e1
    exfalso
    obtain ⟨o, env2, q1, q2⟩ := bind_ok_inv ex
    obtain ⟨os', env3, q3, q4⟩ := bind_ok_inv q2
    cases q3
    cases q4
    unfold looks at e1
    cases z1 : look env1 o with
    | none => rw [z1] at e1; cases e1
    | some x =>
      rw [z1] at e1
      have e1 := congrArg (Option.map List.length) e1
      cases e1
  · exact h1.elim
theorem pi_rng2M {a b : Expr} {m m2 : M Opd} {p : Pos} (hg : Gl X "range") (hm : X.mg "range" = none) (ha : PE X a (tO T W m)) (hb : PE X b (tO T W m2)) (hs : starEach [a, b] X.env = [(false, eval a X.env), (false, eval b X.env)] := by rfl) (hs2 : starEach [b] X.env = [(false, eval b X.env)] := by rfl) :
    PI X tg (.Call (.Name "range" p) [a, b] [] pos) (tI T W (rngM (consM m (consM m2 nilM)))) := by
  refine PIimp (pi_range2 hg hm (pa_consM ha (pa_consM hb pa_nilM hs2) (by rw [hs, hs2])) hs hs2) ?_
  rintro s H R ⟨F, env, E, h⟩
  refine ⟨F, env, E, PG.bind (rel2 := relI T) relI_ok h fun vs os env1 F1 H1 ex st r h1 => ?_⟩
  unfold rngO at h1
  split at h1
  · rename_i j e1
    exfalso
    obtain ⟨o, env2, q1, q2⟩ := bind_ok_inv ex
    obtain ⟨os', env3, q3, q4⟩ := bind_ok_inv q2
    obtain ⟨o2, env4, q5, q6⟩ := bind_ok_inv q3
    obtain ⟨os2, env5, q7, q8⟩ := bind_ok_inv q6
    cases q7; cases q8; cases q4
    unfold looks at e1
    cases z1 : look env1 o with
    | none => simp only [z1] at e1; cases e1
    | some x =>
      unfold looks at e1
      cases z2 : look env1 o2 with
      | none => simp only [z1, z2] at e1; cases e1
      | some y =>
        simp only [z1, z2, looks] at e1
        have e1 := congrArg (Option.map List.length) e1
        cases e1
  · rename_i i j e1
    split at h1
    · rename_i hz
      have t := OOks.top st.rep r e1
      cases t with
      | cons t1 t =>
        cases t with
        | cons t2 t =>
          cases t; cases t1; cases t2
          exact ⟨i, j, rfl, hz, h1 _ F1 H1 (Step.refl st.rep) .rng⟩
    · exact h1.elim
  · exact h1.elim
/-- what a container has, by its kind: a tuple or a list -/
def sqD : D → Option (Bool × List D)
  | .lst xs => some (false, xs)
  | .frz xs => some (false, xs)
  | .tup xs => some (true, xs)
  | _ => none
theorem Rep.sqA {F : Hp} {v : V} {d : D} {tp : Bool} {ds : List D} (h : Rep T F v d) (e : sqD d = some (tp, ds)) : ∃ p vs, v = .ref p ∧ Reps T F vs ds ∧ TM.SqA tp T.K F p vs := by
  cases h <;> simp only [sqD] at e <;> cases e
  · exact ⟨_, _, rfl, ‹_›, SqL.of ‹_›⟩
  · exact ⟨_, _, rfl, ‹_›, ‹_›⟩
  · exact ⟨_, _, rfl, ‹_›, ‹_›⟩
theorem sqA_mono {K : PySem.W.Frag} {F F' : Hp} {tp : Bool} {p : Addr} {vs : List V} (l : Same F F') (h : TM.SqA tp K F p vs) : TM.SqA tp K F' p vs := by
  cases tp with
  | false => exact l.seq h
  | true => exact seqT_mono l h
def enumL (xs : List D) : List D := xs.mapIdx fun i d => .tup [.int (i : Nat), d]
theorem New.pair {F H : Hp} {p : Addr} {x y : V} {d e : D} (l : Same F H) (h : H p = none) (r1 : Rep T F x d) (r2 : Rep T F y e) : ∃ F'', New T F H F'' (upd H p (.tup [x, y])) (.ref p) (false, .tup [d, e]) :=
  ⟨_, New.tup l h (.cons r1 (.cons r2 .nil))⟩
theorem ItOk.enum {F : Hp} {tp : Bool} {p : Addr} {vs : List V} {ds : List D} (h : TM.SqA tp T.K F p vs) (r : Reps T F vs ds) : ItOk T F (TM.ItE tp T.K p) (enumL ds) := by
  have hl : (enumL ds).length = vs.length := by unfold enumL; rw [List.length_mapIdx, r.length]
  refine ⟨_, _, hl.symm ▸ TM.walkE (K := T.K) (a := p) (xs := vs) (tp := tp), fun F' H' m l => sqA_mono l (sqA_mono m h), fun F' H' i x H'' m l hi y => ?_⟩
  obtain ⟨t, u, v, rfl, h1, rfl, h2, h3⟩ := y
  cases h2
  obtain ⟨d, e1, r1⟩ := r.getV h3
  obtain ⟨F'', n⟩ := New.pair l h1 (.int (i : Nat)) (Rep.mono m r1)
  refine ⟨_, F'', ?_, n⟩
  unfold enumL
  rw [List.getElem?_mapIdx, e1]
  rfl
def zipL (xs ys : List D) : List D := List.zipWith (fun a b => .tup [a, b]) xs ys
theorem ItOk.zip {F : Hp} {t1 t2 : Bool} {p q : Addr} {vs ws : List V} {ds es : List D} (h : TM.SqA t1 T.K F p vs) (h' : TM.SqA t2 T.K F q ws) (r : Reps T F vs ds) (r' : Reps T F ws es) : ItOk T F (TM.ItZ t1 t2 T.K p q) (zipL ds es) := by
  have hl : (zipL ds es).length = min vs.length ws.length := by unfold zipL; rw [List.length_zipWith, r.length, r'.length]
  refine ⟨_, _, TM.walkZ (K := T.K) (a := p) (b := q) (xs := vs) (ys := ws) (t1 := t1) (t2 := t2) hl, fun F' H' m l => ⟨sqA_mono l (sqA_mono m h), sqA_mono l (sqA_mono m h')⟩, fun F' H' i x H'' m l hi y => ?_⟩
  obtain ⟨t, u, v, rfl, h1, rfl, h2, h3⟩ := y
  obtain ⟨d, e1, r1⟩ := r.getV h2
  obtain ⟨e, e2, r2⟩ := r'.getV h3
  obtain ⟨F'', n⟩ := New.pair l h1 (Rep.mono m r1) (Rep.mono m r2)
  refine ⟨_, F'', ?_, n⟩
  unfold zipL
  rw [List.getElem?_zipWith, e1, e2]
def enumO (os : List Opd) : M (List D) := fun env => match shs os with
  | some [d] => match sqD d with
    | some x => .ok (enumL x.2) env
    | none => .bad
  | _ => .bad
def enumM (ms : M (List Opd)) : M (List D) := M.bind ms enumO
def zipO (os : List Opd) : M (List D) := fun env => match shs os with
  | some [d, e] => match sqD d, sqD e with
    | some x, some y => .ok (zipL x.2 y.2) env
    | _, _ => .bad
  | _ => .bad
def zipM (ms : M (List Opd)) : M (List D) := M.bind ms zipO
theorem pi_enumM {ms : M (List Opd)} {p tpos : Pos} {elts : List Expr} {kk : Nat} (hK : X.K = T.K) (hg : Gl X "enumerate") (hm : X.mg "enumerate" = none) (ha : PA X [e] (tA T W ms)) (hs : starEach [e] X.env = [(false, eval e X.env)] := by rfl) :
    PI X (.Tuple elts kk tpos) (.Call (.Name "enumerate" p) [e] [] pos) (tI T W (enumM ms)) := by
  refine PIimp (TM.pi_enumA hg hm ha hs) ?_
  rintro s H R ⟨F, env, E, h⟩
  refine ⟨F, env, E, PG.bind (rel2 := relI T) relI_ok h fun vs os env1 F1 H1 ex st r h1 => ?_⟩
  unfold enumO at h1
  split at h1
  · rename_i d e1
    cases e2 : sqD d with
    | none => rw [e2] at h1; exact h1.elim
    | some x =>
      obtain ⟨tp, ds⟩ := x
      rw [e2] at h1
      have rr := shs_reps r e1
      cases rr with
      | cons r1 rr =>
        cases rr
        obtain ⟨p, us, rfl, r2, q⟩ := r1.sqA e2
        rw [hK]
        exact ⟨tp, p, us, rfl, sqA_mono st.rep.le q, h1 _ F1 H1 (Step.refl st.rep) (.enum q r2)⟩
  · exact h1.elim
theorem pi_zipM {ms : M (List Opd)} {e2 : Expr} {p tpos : Pos} {elts : List Expr} {kk : Nat} (hK : X.K = T.K) (hg : Gl X "zip") (hm : X.mg "zip" = none) (ha : PA X [e, e2] (tA T W ms))
    (hs : starEach [e, e2] X.env = (false, eval e X.env) :: starEach [e2] X.env := by rfl) (hs2 : (backTo pos (starEach [e2] X.env)).any (·.1) = false := by rfl) :
    PI X (.Tuple elts kk tpos) (.Call (.Name "zip" p) [e, e2] [] pos) (tI T W (zipM ms)) := by
  refine PIimp (TM.pi_zipB hg hm ha hs hs2) ?_
  rintro s H R ⟨F, env, E, h⟩
  refine ⟨F, env, E, PG.bind (rel2 := relI T) relI_ok h fun vs os env1 F1 H1 ex st r h1 => ?_⟩
  unfold zipO at h1
  split at h1
  · rename_i d d' e1
    cases e2 : sqD d with
    | none => simp only [e2] at h1; exact h1.elim
    | some x =>
      cases e3 : sqD d' with
      | none => simp only [e2, e3] at h1; exact h1.elim
      | some y =>
        obtain ⟨tp, ds⟩ := x
        obtain ⟨tp', ds'⟩ := y
        simp only [e2, e3] at h1
        have rr := shs_reps r e1
        cases rr with
        | cons r1 rr =>
          cases rr with
          | cons r2 rr =>
            cases rr
            obtain ⟨p, us, rfl, r3, q⟩ := r1.sqA e2
            obtain ⟨p', us', rfl, r4, q'⟩ := r2.sqA e3
            rw [hK]
            exact ⟨tp, tp', p, p', us, us', rfl, sqA_mono st.rep.le q, sqA_mono st.rep.le q', h1 _ F1 H1 (Step.refl st.rep) (.zip q q' r3 r4)⟩
  · exact h1.elim

/-! ### for -/
def loopM (bd : D → M Unit) (body : M Flw) : List D → M Flw
  | [] => M.pure .next
  | x :: xs => M.bind (mustM (bd x)) fun _ => M.bind body fun f => match f with
    | .next => loopM bd body xs
    | .cont => loopM bd body xs
    | .brk => M.pure .next
    | .ret x => M.pure (.ret x)
def forM (mi : M (List D)) (bd : D → M Unit) (body : M Flw) : M Flw := M.bind mi (loopM bd body)
theorem drop_at {α : Type} {xs : List α} {i : Nat} {x : α} (h : xs[i]? = some x) : xs.drop i = x :: xs.drop (i + 1) := by
  obtain ⟨hi, e⟩ := List.getElem?_eq_some_iff.mp h
  rw [List.drop_eq_getElem_cons hi, e]
theorem ps_forM {rp : List Nat} {iter : Expr} {body : List Stmt} {mi : M (List D)} {bd : D → M Unit} {mb : M Flw} (hp : PassesOwn (model X.prog X.w) X.A X.env X.xe) (hc : X.calm = true) (hi : PI X tg iter (tI T W mi)) (hg : L2.PG X tg (tB T rp bd)) (hb : PSs X body (tS T W rp mb))
    (hs : ∀ x, foldedSetIterable iter X.env x = pure x := by intro _; rfl) : PS X (.For tg iter body [] pos) (tS T W rp (forM mi bd mb)) := by
  refine PSimp (ps_for hp hc hi hg hb hs) ?_
  rintro D s H ⟨F, env, E, h⟩
  refine ⟨F, env, E, PSt.bindE (rel := relI T) h fun J xs env1 F1 H1 ex st r h1 => ?_⟩
  obtain ⟨G, Y, w, hG, hY⟩ := r
  refine for_it w (fun i σ H => ∃ F env, ERep T F H σ env ∧ Same F1 F ∧ PSt T W rp σ F H env D (loopM bd mb (xs.drop i) env)) ⟨F1, env1, st.rep, Same.refl _, h1⟩ (fun i σ H _ ⟨F, env, E, m, _⟩ => hG F H m E.le) ?_ ?_
  · rintro i x σ H H' hi ⟨F, env, E, m, q⟩ y
    obtain ⟨d, F', e1, n⟩ := hY F H i x H' m E.le hi y
    rw [drop_at e1] at q
    have st1 := (n.step E).1
    rcases mustM_of (R1 := M.bind (mustM (bd d)) (fun _ => M.bind mb fun f => match f with
      | .next => loopM bd mb (xs.drop (i + 1))
      | .cont => loopM bd mb (xs.drop (i + 1))
      | .brk => M.pure .next
      | .ret x => M.pure (.ret x)) env) rfl with ⟨env2, e2, e3⟩ | z
    · have q2 : PSt T W rp σ F H env D (M.bind mb (fun f => match f with
        | .next => loopM bd mb (xs.drop (i + 1))
        | .cont => loopM bd mb (xs.drop (i + 1))
        | .brk => M.pure .next
        | .ret x => M.pure (.ret x)) env2) := by
        rw [e3]; exact q
      refine ⟨F', env, d, env2, st1.rep, n.rep, e2, fun s2 F2 H2 st2 => ?_⟩
      have q3 := PSt.later (st1.S.trans st2) q2
      refine ⟨F2, env2, st2.rep, ?_⟩
      cases e4 : mb env2 with
      | bad => rw [bind_bad e4] at q3; exact q3
      | err c fs env3 => rw [bind_err e4] at q3; exact q3
      | ok f env3 =>
        rw [bind_ok e4] at q3
        have mm : Same F1 F2 := m.trans (n.mono.trans st2.mono)
        cases f with
        | next => exact fun s' F' H' st => ⟨F', env3, st.rep, mm.trans st.mono, PSt.later st q3⟩
        | cont => exact fun s' F' H' st => ⟨F', env3, st.rep, mm.trans st.mono, PSt.later st q3⟩
        | brk => exact q3
        | ret x => exact q3
    · exfalso
      have q2 : PSt T W rp σ F H env D (.bad) := by rw [← z]; exact q
      exact q2
  · rintro σ H ⟨F, env, E, m, q⟩
    rw [List.drop_length] at q
    exact q σ F H (StepS.refl E)

/-! ### list comprehensions -/
def wipeG {α : Type} (σ : List (Option α)) : List Nat → List (Option α)
  | [] => σ
  | v :: vs => (wipeG σ vs).set v none
abbrev wipeE (env : Ev) (vs : List Nat) : Ev := wipeG env vs
theorem wipe_eq (σ : St) : ∀ vs : List Nat, L2.wipe σ vs = wipeG σ vs
  | [] => rfl
  | v :: vs => by unfold L2.wipe wipeG; rw [wipe_eq σ vs]
theorem wipeG_get {α : Type} (σ : List (Option α)) (i : Nat) : ∀ vs : List Nat, (wipeG σ vs)[i]? = if i ∈ vs then (σ[i]?).map (fun _ => none) else σ[i]?
  | [] => by simp [wipeG]
  | v :: vs => by
    unfold wipeG
    by_cases hv : v = i
    · subst hv
      rw [if_pos List.mem_cons_self, List.getElem?_set]
      simp only [if_true]
      have ih := wipeG_get σ v vs
      have hl : (wipeG σ vs).length = σ.length := by
        clear ih
        induction vs with
        | nil => rfl
        | cons w ws ih => unfold wipeG; rw [List.length_set, ih]
      rw [hl]
      by_cases q : v < σ.length
      · rw [if_pos q, List.getElem?_eq_getElem q]; rfl
      · rw [if_neg q, List.getElem?_eq_none (by omega)]; rfl
    · rw [List.getElem?_set_ne hv, wipeG_get σ i vs]
      by_cases m : i ∈ vs
      · rw [if_pos m, if_pos (List.mem_cons_of_mem _ m)]
      · rw [if_neg m, if_neg (by simp [m, Ne.symm hv])]
theorem wipeG_len {α : Type} (σ : List (Option α)) : ∀ vs : List Nat, (wipeG σ vs).length = σ.length
  | [] => rfl
  | v :: vs => by unfold wipeG; rw [List.length_set, wipeG_len σ vs]
theorem wipeG_set {α : Type} {σ : List (Option α)} {x : Option α} {vs : List Nat} {i : Nat} (h : i ∈ vs) : wipeG (σ.set i x) vs = wipeG σ vs := by
  apply List.ext_getElem?
  intro j
  rw [wipeG_get, wipeG_get]
  by_cases m : j ∈ vs
  · rw [if_pos m, if_pos m, List.getElem?_set]
    by_cases hj : i = j
    · subst hj
      simp only [if_true]
      by_cases q : i < σ.length
      · rw [if_pos q, List.getElem?_eq_getElem q]; rfl
      · rw [if_neg q, List.getElem?_eq_none (by omega)]
    · rw [if_neg hj]
  · rw [if_neg m, if_neg m, List.getElem?_set_ne (fun e => m (by rw [← e]; exact h))]
theorem wipeE_len (env : Ev) (vs : List Nat) : (wipeE env vs).length = env.length := wipeG_len env vs
theorem wipeE_get {env : Ev} {i : Nat} {x : B} {vs : List Nat} (h : (wipeE env vs)[i]? = some (some x)) : env[i]? = some (some x) ∧ i ∉ vs := by
  rw [wipeG_get] at h
  by_cases m : i ∈ vs
  · rw [if_pos m] at h
    cases e : env[i]? with
    | none => rw [e] at h; cases h
    | some y => rw [e] at h; cases h
  · rw [if_neg m] at h
    exact ⟨h, m⟩
theorem wipe_keep {σ : St} {i : Nat} {vs : List Nat} (h : i ∉ vs) : (L2.wipe σ vs)[i]? = σ[i]? := by rw [wipe_eq, wipeG_get, if_neg h]
theorem ERep.wipe {F H : Hp} {s : St} {env : Ev} (E : ERep T F H s env) (vs : List Nat) : ERep T F H (L2.wipe s vs) (wipeE env vs) where
  le := E.le
  len := by rw [wipe_length, wipeE_len]; exact E.len
  get := fun i x e => by
    obtain ⟨e1, hn⟩ := wipeE_get e
    obtain ⟨v, e2, r⟩ := E.get i x e1
    exact ⟨v, by rw [wipe_keep hn]; exact e2, r⟩
  sep := fun i j d e v h1 h2 h3 h4 => by
    obtain ⟨e1, n1⟩ := wipeE_get h1
    obtain ⟨e2, n2⟩ := wipeE_get h2
    rw [wipe_keep n1] at h3
    rw [wipe_keep n2] at h4
    exact E.sep i j d e v e1 e2 h3 h4
  sm := E.sm
  tb := E.tb
theorem OwnE.ofWipe {s : St} {env : Ev} {vs : List Nat} {a : Addr} (h : OwnE (L2.wipe s vs) (wipeE env vs) a) : OwnE s env a := by
  obtain ⟨i, d, h1, h2⟩ := h
  obtain ⟨e1, n1⟩ := wipeE_get h1
  rw [wipe_keep n1] at h2
  exact ⟨i, d, e1, h2⟩
/-- an object beside the tracked ones changes -/
theorem ERep.beside {F H : Hp} {s : St} {env : Ev} {a : Addr} {o : HO} (E : ERep T F H s env) (fa : F a = none) (na : ¬ OwnE s env a) (hb : H a = none ∨ ∃ u, H a = some u ∧ Plain u) : ERep T F (upd H a o) s env where
  le := fun b u e => by rw [upd_ne (ne_of_none e fa)]; exact E.le b u e
  len := E.len
  get := fun i x e => by
    obtain ⟨v, e1, r⟩ := E.get i x e
    refine ⟨v, e1, ?_⟩
    obtain ⟨own, d⟩ := x
    cases own with
    | false => exact r
    | true =>
      obtain ⟨b, rfl, fb, t⟩ := r
      refine ⟨b, rfl, fb, t.imp (Same.refl _) fun o e2 _ => ?_⟩
      have nb : b ≠ a := fun z => by subst z; exact na ⟨i, d, e, e1⟩
      rw [upd_ne nb]; exact e2
  sep := E.sep
  sm := E.sm
  tb := by
    rcases hb with h | ⟨u, h, p⟩
    · exact tabs_new E.tb h
    · exact tabs_chg E.tb h p
/-- targets of a comprehension: names of its own -/
def tBw (T : Tb) (own : List Nat) (bd : D → M Unit) : TG := fun v σ H Q => ∃ F env d env', ERep T F H σ env ∧ Rep T F v d ∧ bd d env = .ok () env' ∧
  ∀ s', ERep T F H s' env' → L2.wipe s' own = L2.wipe σ own → wipeE env' own = wipeE env own → (∀ a, OwnE s' env' a → OwnE σ env a) → Q s' H
def tBsw (T : Tb) (own : List Nat) (bd : List D → M Unit) : TGs := fun vs σ H Q => ∃ F env ds env', ERep T F H σ env ∧ Reps T F vs ds ∧ bd ds env = .ok () env' ∧
  ∀ s', ERep T F H s' env' → L2.wipe s' own = L2.wipe σ own → wipeE env' own = wipeE env own → (∀ a, OwnE s' env' a → OwnE σ env a) → Q s' H
theorem wipe_set {σ : St} {x : Option V} {vs : List Nat} {i : Nat} (h : i ∈ vs) : L2.wipe (σ.set i x) vs = L2.wipe σ vs := by rw [wipe_eq, wipe_eq, wipeG_set h]
theorem ownE_set {s : St} {env : Ev} {i : Nat} {v : V} {d : D} {a : Addr} (hs : s.length = env.length) (h : OwnE (s.set i (some v)) (env.set i (some (false, d))) a) : OwnE s env a := by
  obtain ⟨j, e, h1, h2⟩ := h
  by_cases hj : i = j
  · subst hj
    by_cases hl : i < env.length
    · rw [List.getElem?_set_self hl] at h1; cases h1
    · rw [List.getElem?_eq_none (by rw [List.length_set]; omega)] at h1; cases h1
  · rw [List.getElem?_set_ne hj] at h1 h2
    exact ⟨j, e, h1, h2⟩
theorem pg_nmW {own : List Nat} {i : Nat} {x : Str} (hN : X.N.Nodup) (hi : X.N[i]? = some x) (hx : Loc X.env.scope x) (hr : own.contains i = true := by rfl) (hf : X.fn x = true ∨ X.env.scope.names.lookup x = some .local := by first | exact .inl rfl | exact .inr rfl | assumption) : L2.PG X (.Name x pos) (tBw T own (nmB i)) := by
  refine PGimp (pg_name hN hi hx hf) ?_
  rintro v s H Q ⟨F, env, d, env', E, r, e1, q⟩
  have m : i ∈ own := by simpa using hr
  unfold nmB at e1
  split at e1
  · rename_i hl
    cases e1
    exact q _ (E.put (.sh r) hl) (wipe_set m) (wipeG_set m) fun a z => ownE_set E.len z
  · cases e1
theorem pgs_nilW {own : List Nat} : PGs X [] (tBsw T own nilB) := by
  refine PGsimp pgs_nil ?_
  rintro vs s H Q ⟨F, env, ds, env', E, r, e1, q⟩
  cases r with
  | nil => cases e1; exact ⟨rfl, q s E rfl rfl fun a z => z⟩
  | cons => cases e1
theorem pgs_consW {own : List Nat} {bd : D → M Unit} {bs : List D → M Unit} (h1 : L2.PG X e (tBw T own bd)) (h2 : PGs X es (tBsw T own bs)) (hs : (assignEach (e :: es) X.env).map (·.2) = assign e X.env :: (assignEach es X.env).map (·.2) := by rfl) : PGs X (e :: es) (tBsw T own (consB bd bs)) := by
  refine PGsimp (pgs_cons h1 h2 hs) ?_
  rintro vs s H Q ⟨F, env, ds, env', E, r, e1, q⟩
  cases r with
  | nil => cases e1
  | cons rd rr =>
    obtain ⟨u, env1, e2, e3⟩ := bind_ok_inv e1
    refine ⟨_, _, rfl, F, env, _, env1, E, rd, e2, fun s1 E1 w1 w2 o1 => ?_⟩
    exact ⟨F, env1, _, env', E1, rr, e3, fun s2 E2 w3 w4 o2 => q s2 E2 (w3.trans w1) (w4.trans w2) fun a z => o1 a (o2 a z)⟩
theorem pg_tupW {own : List Nat} {bs : List D → M Unit} {k n : Nat} (hK : X.K = T.K) (hc : X.calm = true) (h : PGs X es (tBsw T own bs)) (hb : ∀ ds env env', bs ds env = .ok () env' → ds.length = n)
    (hn : (assignEach es X.env).length = n := by rfl) (hst : (assignEach es X.env).findIdx? (·.1) = none := by rfl) : L2.PG X (.Tuple es k pos) (tBw T own (tpB bs)) := by
  refine PGimp (pg_tup hc h hn hst) ?_
  rintro v s H Q ⟨F, env, d, env', E, r, e1, q⟩
  cases d <;> first | (cases e1; done) | skip
  case tup ds =>
    cases r with
    | tup hq rr =>
      refine ⟨_, _, rfl, ?_, ?_, F, env, ds, env', E, rr, e1, q⟩
      · rw [hK]; exact seqT_mono E.le hq
      · rw [rr.length]; exact hb ds env env' e1
/-- nothing goes wrong -/
def sureM {A : Type} (m : M A) : M A := fun env => match m env with
  | .ok a env' => .ok a env'
  | _ => .bad
theorem sureM_ok {A : Type} {m : M A} {env env' : Ev} {a : A} (h : sureM m env = .ok a env') : m env = .ok a env' := by
  unfold sureM at h
  split at h
  · cases h; assumption
  · cases h
/-- the turns of a comprehension: what was made is acc -/
def lcL (own : List Nat) (bd : D → M Unit) (test : M Bool) (elt : M B) : List D → List D → M (List D)
  | acc, [] => M.pure acc
  | acc, x :: xs => M.bind (sureM (bd x)) fun _ => M.bind (sureM test) fun k => match k with
    | true => M.bind (sureM (shM elt)) fun y env => if acc.length < most then lcL own bd test elt (acc ++ [y.2]) xs (wipeE env own) else .bad
    | false => fun env => lcL own bd test elt acc xs (wipeE env own)
def freeS (env : Ev) (i : Nat) : Bool := match env[i]? with
  | some (some (true, _)) => false
  | _ => true
/-- the slots of own as they were in env0 -/
def backE (env0 env : Ev) : List Nat → Ev
  | [] => env
  | v :: vs => (backE env0 env vs).set v ((env0[v]?).getD none)
def lcM (own : List Nat) (mi : M (List D)) (bd : D → M Unit) (test : M Bool) (elt : M B) : M B := M.bind mi fun xs env => if own.all (freeS env) then match lcL own bd test elt [] xs (wipeE env own) with
  | .ok acc env' => .ok (true, .lst acc) (backE env env' own)
  | _ => .bad
  else .bad
theorem backE_len (e0 env : Ev) : ∀ vs : List Nat, (backE e0 env vs).length = env.length
  | [] => rfl
  | v :: vs => by unfold backE; rw [List.length_set, backE_len e0 env vs]
theorem backE_out {e0 env : Ev} {i : Nat} : ∀ {vs : List Nat}, i ∉ vs → (backE e0 env vs)[i]? = env[i]?
  | [], _ => rfl
  | v :: vs, h => by
    unfold backE
    rw [List.getElem?_set_ne (fun e => h (by rw [e]; exact List.mem_cons_self)), backE_out fun z => h (List.mem_cons_of_mem _ z)]
theorem backE_in {e0 env : Ev} {i : Nat} (hl : i < env.length) : ∀ {vs : List Nat}, i ∈ vs → (backE e0 env vs)[i]? = some ((e0[i]?).getD none)
  | v :: vs, h => by
    unfold backE
    by_cases hv : v = i
    · subst hv
      rw [List.getElem?_set_self (by rw [backE_len]; exact hl)]
    · rw [List.getElem?_set_ne hv]
      exact backE_in hl ((List.mem_cons.mp h).resolve_left (Ne.symm hv))

theorem wipe_wipe (s : St) (o : List Nat) : L2.wipe (L2.wipe s o) o = L2.wipe s o := by
  rw [wipe_eq, wipe_eq]
  apply List.ext_getElem?
  intro j
  rw [wipeG_get, wipeG_get]
  by_cases m : j ∈ o
  · rw [if_pos m, if_pos m]
    cases s[j]? <;> rfl
  · rw [if_neg m, if_neg m]
theorem Step.beside {s : St} {F H F' H' : Hp} {env env' : Ev} {a : Addr} {o : HO} (S : Step T s F H env F' H' env') (fa : F' a = none) (na : ¬ OwnE s env' a) (ha : H a = none) (hb : H' a = none ∨ ∃ u, H' a = some u ∧ Plain u) : Step T s F H env F' (upd H' a o) env' :=
  ⟨S.rep.beside fa na hb, S.mono, fun b u e t n => by rw [upd_ne (ne_of_none e ha)]; exact S.frame b u e t n, S.fresh, S.own, fun b e => by
    by_cases hb : b = a
    · subst hb; exact ha
    · rw [upd_ne hb] at e; exact S.dom b e⟩
/-- a turn's steps, seen from the start -/
theorem Step.turn {s s2 : St} {o : List Nat} {F1 H1 F H F' H' F4 H4 : Hp} {eW env env2 env4 : Ev} (S : Step T (L2.wipe s o) F1 H1 eW F H env) (st1 : Step T (L2.wipe s o) F H env F' H' env) (w1 : L2.wipe s2 o = L2.wipe (L2.wipe s o) o) (w2 : wipeE env2 o = wipeE env o)
    (o1 : ∀ a, OwnE s2 env2 a → OwnE (L2.wipe s o) env a) (st : Step T s2 F' H' env2 F4 H4 env4) : Step T (L2.wipe s o) F1 H1 eW F4 H4 (wipeE env4 o) where
  rep := by
    have := st.rep.wipe o
    rw [w1, wipe_wipe] at this
    exact this
  mono := (S.mono.trans st1.mono).trans st.mono
  frame := fun a u e t n => by
    have n1 : ¬ OwnE (L2.wipe s o) env a := fun z => n (S.ownE z)
    exact st.frame a u (st1.frame a u (S.frame a u e t n) t n1) t fun z => n1 (o1 a z)
  fresh := fun a e n => by
    cases q : F' a with
    | some u => exact (S.trans st1).fresh a e (by rw [q]; simp)
    | none =>
      rcases st.fresh a q n with z | z
      · exact .inl (S.dom a (st1.dom a z))
      · exact .inr (S.ownE (o1 a z))
  own := fun i d e => by
    obtain ⟨e1, m⟩ := wipeE_get e
    obtain ⟨d2, e2⟩ := st.own i d e1
    have e3 : (wipeE env2 o)[i]? = some (some (true, d2)) := by rw [wipeG_get, if_neg m]; exact e2
    rw [w2] at e3
    exact S.own i d2 (wipeE_get e3).1
  dom := fun a e => S.dom a (st1.dom a (st.dom a e))
theorem lc_reads {mi : M (List D)} {bd : D → M Unit} {test : M Bool} {me : M B} {W0 : WX} (o : List Nat) : ∀ (s : St) (H : Hp) (Q : VK), tV T W (lcM o mi bd test me) s H Q → tLc (tI T W mi) (tBw T o bd) (tT T W0 test) (tV T W0 (shM me)) o s H Q := by
  rintro s H Q ⟨F, env, E, h⟩
  refine ⟨F, env, E, PG.bind (rel2 := relV T s) relV_ok h fun J xs env1 F1 H1 ex st r h1 => fun Dd hD => ?_⟩
  split at h1
  case isFalse => exact h1.elim
  rename_i hfree
  cases el : lcL o bd test me [] xs (wipeE env1 o) with
  | bad => rw [el] at h1; exact h1.elim
  | err c fs env' => rw [el] at h1; exact h1.elim
  | ok accF envF =>
    rw [el] at h1
    obtain ⟨G, Y, w, hG, hY⟩ := r
    have f1D : F1 Dd = none := st.rep.le.free hD
    have E1 : ERep T F1 H1 (L2.wipe s o) (wipeE env1 o) := st.rep.wipe o
    have noD : ∀ {F H : Hp} {env : Ev}, Step T (L2.wipe s o) F1 H1 (wipeE env1 o) F H env → ¬ OwnE (L2.wipe s o) env Dd := fun S z => by
      obtain ⟨u, hu⟩ := OwnE.there E1 (S.ownE z)
      rw [hD] at hu; cases hu
    refine lc_it w (fun i H => ∃ F env acc vs, Step T (L2.wipe s o) F1 H1 (wipeE env1 o) F H env ∧ H Dd = some (.lst vs) ∧ Reps T F vs acc ∧ F Dd = none ∧ lcL o bd test me acc (xs.drop i) env = .ok accF envF) ?_ (fun i H _ ⟨F, env, acc, vs, S, _⟩ => hG F H S.mono S.rep.le) ?_ ?_
    · exact ⟨F1, _, [], [], (Step.refl E1).beside f1D (noD (Step.refl E1)) hD (.inl hD), upd_same, .nil, f1D, el⟩
    · rintro i x Hh H' hi ⟨F, env, acc, vs, S, hDl, ra, fD, q⟩ y
      obtain ⟨d, F', e1, n⟩ := hY F Hh i x H' S.mono S.rep.le hi y
      rw [drop_at e1] at q
      unfold lcL at q
      obtain ⟨u, env2, e2, q⟩ := bind_ok_inv q
      have e2 := sureM_ok e2
      obtain ⟨k, env3, e3, q⟩ := bind_ok_inv q
      have e3 := sureM_ok e3
      have st1 := (n.step S.rep).1
      refine ⟨F', env, d, env2, st1.rep, n.rep, e2, fun s2 E2 w1 w2 o1 => ⟨w1.trans (wipe_wipe s o), ?_⟩⟩
      refine ⟨F', env2, E2, PG.of_ok e3 fun b F3 H3 st3 rb => ?_⟩
      have rb : b = k := rb
      subst rb
      have nD : ¬ OwnE s2 env2 Dd := fun z => noD S (o1 _ z)
      have h'D : H' Dd = some (.lst vs) := n.same _ _ hDl
      have h3D : H3 Dd = some (.lst vs) := st3.frame _ _ h'D nt_lst nD
      have f'D : F' Dd = none := by
        cases z : F' Dd with
        | none => rfl
        | some u =>
          have := n.fresh Dd fD (by rw [z]; simp)
          rw [hDl] at this; cases this
      have fOf : ∀ {F5 H5 : Hp} {env5 : Ev}, Step T s2 F' H' env2 F5 H5 env5 → F5 Dd = none := fun {F5 H5 env5} S5 => by
        cases z : F5 Dd with
        | none => rfl
        | some u =>
          rcases S5.fresh Dd f'D (by rw [z]; simp) with y | y
          · rw [h'D] at y; cases y
          · exact (nD y).elim
      cases b with
      | true =>
        rw [if_pos rfl]
        obtain ⟨y, env4, e4, q⟩ := bind_ok_inv q
        have e4 := sureM_ok e4
        split at q
        case isFalse => cases q
        rename_i hl
        refine ⟨F3, env3, st3.rep, PG.of_ok e4 fun v F4 H4 st4 rv => ?_⟩
        have y1 := shM_val e4
        obtain ⟨ow, dy⟩ := y
        simp only at y1
        subst y1
        have S5 := st3.trans st4
        have S6 := Step.turn S st1 w1 w2 o1 S5
        have ra' : Reps T F4 vs acc := Reps.mono ((n.mono.trans st3.mono).trans st4.mono) ra
        refine ⟨vs, st4.frame _ _ h3D nt_lst fun z => nD (st3.ownE z), by rw [ra.length, ← most_line]; exact hl, F4, wipeE env4 o, acc ++ [dy], vs ++ [v], S6.beside (fOf S5) (noD S6) hD (.inr ⟨_, st4.frame _ _ h3D nt_lst fun z => nD (st3.ownE z), trivial⟩), upd_same, ra'.append (.cons rv.1.rep .nil), fOf S5, q⟩
      | false =>
        rw [if_neg Bool.false_ne_true]
        have S6 := Step.turn S st1 w1 w2 o1 st3
        exact ⟨F3, wipeE env3 o, acc, vs, S6, h3D, Reps.mono (n.mono.trans st3.mono) ra, fOf st3, q⟩
    · rintro H2 ⟨F2, env2, acc, vs, S, hDl, ra, fD, q⟩
      rw [List.drop_length] at q
      cases q
      have hfr : ∀ i ∈ o, ∀ d, env1[i]? ≠ some (some (true, d)) := fun i hi d e => by
        have := List.all_eq_true.mp hfree i hi
        unfold freeS at this
        rw [e] at this
        cases this
      have inO : ∀ {i : Nat} {x : B}, i ∈ o → (backE env1 envF o)[i]? = some (some x) → env1[i]? = some (some x) := fun {i x} m e => by
        have hl : i < envF.length := by
          have := (List.getElem?_eq_some_iff.mp e).1
          rw [backE_len] at this; exact this
        rw [backE_in hl m] at e
        cases z : env1[i]? with
        | none => rw [z] at e; cases e
        | some y => rw [z] at e; cases e; rfl
      have outO : ∀ {i : Nat} {d : D}, (backE env1 envF o)[i]? = some (some (true, d)) → i ∉ o ∧ envF[i]? = some (some (true, d)) := fun {i d} e => by
        by_cases m : i ∈ o
        · exact (hfr i m d (inO m e)).elim
        · rw [backE_out m] at e; exact ⟨m, e⟩
      have S7 : Step T s F1 H1 env1 F2 H2 (backE env1 envF o) := by
        refine ⟨⟨S.rep.le, ?_, fun i x e => ?_, fun i j d e v h1 h2 h3 h4 => ?_, S.rep.sm, S.rep.tb⟩, S.mono, fun a u e t n => S.frame a u e t fun z => n z.ofWipe, fun a e n => (S.fresh a e n).imp id fun z => z.ofWipe, fun i d e => ?_, S.dom⟩
        · rw [backE_len, ← S.rep.len, wipe_length]
        · by_cases m : i ∈ o
          · have e1 := inO m e
            obtain ⟨v, e2, rv⟩ := st.rep.get i x e1
            refine ⟨v, e2, ?_⟩
            obtain ⟨ow, dx⟩ := x
            cases ow with
            | true => exact (hfr i m dx e1).elim
            | false => exact Rep.mono S.mono rv
          · rw [backE_out m] at e
            obtain ⟨v, e2, rv⟩ := S.rep.get i x e
            rw [wipe_keep m] at e2
            exact ⟨v, e2, rv⟩
        · obtain ⟨m1, k1⟩ := outO h1
          obtain ⟨m2, k2⟩ := outO h2
          exact S.rep.sep i j d e v k1 k2 (by rw [wipe_keep m1]; exact h3) (by rw [wipe_keep m2]; exact h4)
        · obtain ⟨m1, k1⟩ := outO e
          obtain ⟨d2, k2⟩ := S.own i d k1
          exact ⟨d2, (wipeE_get k2).1⟩
      refine h1 (.ref Dd) F2 H2 S7 ⟨⟨⟨Dd, rfl, fD, vs, hDl, ra⟩, fun _ a ea z => ?_⟩, fun _ a ea => by cases ea; exact hD⟩
      cases ea
      obtain ⟨u, hu⟩ := OwnE.there st.rep (S7.ownE z)
      rw [hD] at hu; cases hu
end
theorem pe_lcM {elt tg iter : Expr} {ifs : List Expr} {scope : Scope} {own : List (Str × Nat)} {pos : Pos} {mi : M (List D)} {bd : D → M Unit} {test : M Bool} {me : M B} {W0 : WX} (hc : X.calm = true) (hN : X.N.Nodup) (hi : PI X tg iter (tI T W mi)) (ok : BlkOk X.N X.env.scope scope own)
    (hg : ∀ (s : Shared) (H : Hp) (C : Addr) (cl : List (Str × Addr)) (fp : List Addr), L2.PG (X.blk s H scope (compEnvC scope cl C X.env) fp) tg (tBw T (own.map (·.2)) bd)) (ht : ∀ (s : Shared) (H : Hp) (C : Addr) (cl : List (Str × Addr)) (fp : List Addr), PTs (X.blk s H scope (compEnvC scope cl C X.env) fp) ifs (tT T W0 test))
    (he : ∀ (s : Shared) (H : Hp) (C : Addr) (cl : List (Str × Addr)) (fp : List Addr), PE (X.blk s H scope (compEnvC scope cl C X.env) fp) elt (tV T W0 me)) (hs : ∀ x, foldedSetIterable iter X.env x = pure x := by intro _; rfl) :
    PE X (.ListComp elt [⟨tg, iter, ifs, 0⟩] scope pos) (tV T W (lcM (own.map (·.2)) mi bd test me)) := by
  exact PEimp (pe_lc hc hN hi ok hg ht (fun s H C cl fp => pe_shM (he s H C cl fp)) hs) (lc_reads _)
/-- y = [comprehension], a plain local name on the same line -/
theorem ps_setLcM {i : Nat} {y : Str} {py : Pos} {rp : List Nat} {elt tg iter : Expr} {ifs : List Expr} {scope : Scope} {own : List (Str × Nat)} {pos spos : Pos} {mi : M (List D)} {bd : D → M Unit} {test : M Bool} {me : M B} {W0 : WX} (hc : X.calm = true) (hN : X.N.Nodup) (hy : X.N[i]? = some y) (hyl : X.env.scope.names.lookup y = some .local)
    (hi : PI X tg iter (tI T W mi)) (ok : BlkOk X.N X.env.scope scope own)
    (hg : ∀ (s : Shared) (H : Hp) (C : Addr) (cl : List (Str × Addr)) (fp : List Addr), L2.PG (X.blk s H scope (compEnvC scope cl C X.env) fp) tg (tBw T (own.map (·.2)) bd)) (ht : ∀ (s : Shared) (H : Hp) (C : Addr) (cl : List (Str × Addr)) (fp : List Addr), PTs (X.blk s H scope (compEnvC scope cl C X.env) fp) ifs (tT T W0 test))
    (he : ∀ (s : Shared) (H : Hp) (C : Addr) (cl : List (Str × Addr)) (fp : List Addr), PE (X.blk s H scope (compEnvC scope cl C X.env) fp) elt (tV T W0 me)) (hri : rp.contains i = false := by rfl)
    (hsw : swapsWith (.ListComp elt [⟨tg, iter, ifs, 0⟩] scope pos) (some (.Name y py)) spos.line X.env = pure true := by rfl) (hs : ∀ x, foldedSetIterable iter X.env x = pure x := by intro _; rfl) :
    PS X (.Assign [.Name y py] (.ListComp elt [⟨tg, iter, ifs, 0⟩] scope pos) spos) (tS T W rp (asgM i (lcM (own.map (·.2)) mi bd test me))) :=
  PSimp (ps_setLc hc hN hy hyl hsw hi ok hg ht (fun s H C cl fp => pe_shM (he s H C cl fp)) hs) fun D s H h => lc_reads (W := W) _ s H _ (asg_core (notIn hri) h)

end TT

set_option maxRecDepth 100000
set_option maxHeartbeats 4000000
/-! TF: defs and calls of them, as functions of data. -/
namespace TT
open PySem PySem.Spec PyProof.Rows L2

/-- room, and nothing is being shown -/
structure RoomG (k : Nat) (A : Around) : Prop where
  room : Room k A
  g : A.guards = some []
theorem RoomG.mono {j k : Nat} {A : Around} (r : RoomG k A) (h : j ≤ k) : RoomG j A := ⟨r.room.mono h, r.g⟩
theorem guards_deeper (A : Around) (env : Env) : (A.deeper env).guards = A.guards := rfl
theorem RoomG.deeper {k : Nat} {A : Around} (r : RoomG (k + 1) A) (env : Env) : RoomG k (A.deeper env) := ⟨r.room.deeper env, r.g⟩
/-- a def's promise, where nothing is being shown -/
structure FnG (P : Program) (w : World) (K : PySem.W.Frag) (mg : Str → Option Value) (base : Heap) (k : Nat) (f : Addr) (fd : FuncData) (ps : List Str) (sp : Sp) : Prop where
  len : ∀ vs H Q E, sp vs H Q E → vs.length = ps.length
  run : ∀ (A : Around) (outer : List Env) (s : Shared) (H : Hp) (args : Args) (us : List Value) (vs : List V) (Q : VK) (E : XK), RoomG k A → Env0 P w K mg base A outer s H → BindsTo s fd args (ps.zip us) → Vals vs us → sp vs H Q E →
    codeAny (model P w) A (.call (.ref f) args) (CR (L2.CX P w) outer P w H s Q E) s
section
variable {P : Program} {w : World} {K : PySem.W.Frag} {mg : Str → Option Value} {base : Heap}
theorem FnG.mono {j k : Nat} {f : Addr} {fd : FuncData} {ps : List Str} {sp : Sp} (F : FnG P w K mg base j f fd ps sp) (h : j ≤ k) : FnG P w K mg base k f fd ps sp :=
  ⟨F.len, fun A outer s H args us vs Q E hr => F.run A outer s H args us vs Q E (hr.mono h)⟩
theorem fnG_of {x qual : Str} {st : Stmt} {f : Addr} {fd : FuncData} {N ps : List Str} {k : Nat} {sp : Sp} (F : Fun K x qual st f fd) (S : FnScope N ps (defScope st)) (len : ∀ vs H Q E, sp vs H Q E → vs.length = ps.length)
    (hbody : ∀ (cdv : Value) (A : Around) (outer : List Env) (s : Shared) (H : Hp) (vs : List V) (Q : VK) (E : XK), RoomG k (A.deeper (envOfC qual (defScope st) s.heap.objs.size f cdv)) → sp vs H Q E →
      ∃ t, PSs (cxOf (L2.CX P w) P w K mg base N qual (defScope st) f cdv A outer s H E) (defBody st) t ∧ t { nx := fun _ H' => Q .non H', rt := Q } (start N vs) H) : FnG P w K mg base (k + 1) f fd ps sp := by
  obtain ⟨oc, od, kV, doc, pm, an, cdv, ct, osl, rfl, lk, hcd⟩ := F.ex
  refine ⟨len, fun A outer s H args us vs Q E hr e0 hb r hsp => ?_⟩
  have KX : K.In s.heap := e0.mod.kin.keeps fun b o e => (e0.bs b o e).1
  have lim : s.heap.NoLimit := e0.mod.nolimit.keeps fun b o e => (e0.bs b o e).1
  have kinds : ∀ y ∈ ps.zip us, (defScope st).names.lookup y.1 = some .local ∨ ((defScope st).names.lookup y.1 = some .cell ∧ ((cellsFrom (s.heap.objs.size + 1) (defScope st).names []).lookup y.1).isSome = true) := by
    intro y hy
    have hm := (List.of_mem_zip (a := y.1) (b := y.2) hy).1
    rcases S.par y.1 hm with q | q
    · exact .inl q
    · exact .inr ⟨q, PySem.W.cellsFrom_some _ _ _ (.inl q)⟩
  refine codeAny_call_function hr.room.depth (KX _ _ lk) rfl S.co S.gen rfl (PySem.W.codeRec_of KX hcd) (hb _ _ _ _ (wpAny_newFunctionEnv_cells S.kind kinds fun env he s1 x => ?_))
  subst he
  refine ⟨lim.keeps x.toInCall.keep, codeAny_func ?_⟩
  obtain ⟨t, ht, hq⟩ := hbody cdv A outer s H vs Q E (hr.deeper _) hsp
  have I := inv_start (CX := L2.CX P w) (E := E) S hr.room.hd e0 (len _ _ _ _ hsp) r x
  refine wpAny_mono (ht.run [] s1 (start N vs) H _ I hq) (fun fl s' hs => ?_) fun e s' hs => hs
  cases fl with
  | ret u =>
    obtain ⟨v, σ', H', J, rv, q⟩ := hs
    exact ⟨v, H', J.os, J.bare, J.base, J.hok, rv, q⟩
  | next =>
    obtain ⟨σ', H', J, q⟩ := hs
    exact ⟨.non, H', J.os, J.bare, J.base, J.hok, rfl, q⟩
  | brk =>
    obtain ⟨_, _, _, q⟩ := hs
    exact q.elim
  | cont =>
    obtain ⟨_, _, _, q⟩ := hs
    exact q.elim
end
section
variable {X : Cx} {k : Nat} {f : Addr} {fd : FuncData} {ps : List Str} {sp : Sp} {E : St → XK} {x : Str} {p pos : Pos} {e : Expr} {es : List Expr} {t tk : TA}
theorem run_G {pins : List (Addr × Obj)} {σ : St} {H : Hp} {s : Shared} {Q : VK} {args : Args} {us : List Value} {vs : List V} (F : FnG X.prog X.w X.K X.mg X.base k f fd ps sp) (hr : RoomG k X.A) (hx : PassesAt (L2.CX X.prog X.w) X σ (E σ))
    (I : Inv X pins σ H s) (hb : BindsTo s fd args (ps.zip us)) (r : Vals vs us) (h : sp vs H Q (E σ)) : wpAny (model X.prog X.w) X.A (call (.ref f) args.pos args.kw) (EP X pins σ Q) X.xe s := by
  refine wpAny_call (codeAny_mono (F.run X.A X.stack s H ⟨args.pos, args.kw⟩ us vs Q (E σ) hr I.env0 hb r h) fun r s' hq => ?_)
  cases r with
  | error e => exact hx pins H s e s' I hq
  | ok fl =>
    cases fl with
    | ret u => exact I.after hq
    | next => exact hq.elim
    | brk => exact hq.elim
    | cont => exact hq.elim
theorem pe_callF (F : FnG X.prog X.w X.K X.mg X.base k f fd ps sp) (hr : RoomG k X.A) (hg : Gl X x) (hm : X.mg x = some (.ref f)) (hk : PySem.W.keepIn X.K (.ref f) = true) (hb : Binds X.K fd ps []) (hx : ∀ σ, PassesAt (L2.CX X.prog X.w) X σ (E σ))
    (ha : PA X (e :: es) t) (hdb : (x == ("__debug__" : Str)) = false := by decide) (he : starEach (e :: es) X.env = (false, eval e X.env) :: starEach es X.env := by rfl) (hpl : (backTo pos (starEach es X.env)).any (·.1) = false := by rfl) :
    PE X (.Call (.Name x p) (e :: es) [] pos) (tCallS sp E t) := by
  refine ⟨fun pins s σ H Q I h => ?_⟩
  refine wpAny_Call_Name_kw (ld_glob I hg hm ?_ hdb)
  refine PySem.W.callWith_K (h₀ := X.base) I.ok.mod.kin hk (thn (ha.run pos pins s σ H _ I h) fun us s1 ⟨vs, H1, I1, r, q⟩ => ⟨I1.kIn, ?_⟩) he hpl
  have b := hb s1 us I1.kIn (by rw [List.append_nil, ← r.length]; exact F.len _ _ _ _ q)
  rw [List.append_nil] at b
  exact run_G (args := ⟨us, []⟩) F hr (hx σ) I1 b r q
/-- keywords: the values as written, and how the parameters take them -/
def tCallP (sp : Sp) (g : List V → List V → List V) (E : St → XK) (t tk : TA) : TE := fun σ H Q => t σ H fun vs H1 => tk σ H1 fun zs H2 => sp (g vs zs) H2 Q (E σ)
theorem pe_callFK {ks : List Str} {kws : List Keyword} {g : List Value → List Value → List Value} {gV : List V → List V → List V} (F : FnG X.prog X.w X.K X.mg X.base k f fd ps sp) (hr : RoomG k X.A) (hg : Gl X x) (hm : X.mg x = some (.ref f)) (hk : PySem.W.keepIn X.K (.ref f) = true) (hb : KBinds X.K fd ps ks g gV) (hx : ∀ σ, PassesAt (L2.CX X.prog X.w) X σ (E σ))
    (ha : PA X (e :: es) t) (hkw : PK X kws tk) (hall : (backToKw pos (keywordEach kws X.env)).all (·.1.isSome) = true := by rfl) (hks : (backToKw pos (keywordEach kws X.env)).filterMap (·.1) = ks := by rfl)
    (hdb : (x == ("__debug__" : Str)) = false := by decide) (he : starEach (e :: es) X.env = (false, eval e X.env) :: starEach es X.env := by rfl)
    (hpl : ((backTo pos (starEach (e :: es) X.env)).any (·.1) || (backToKw pos (keywordEach kws X.env)).any (·.1.isNone)) = false := by rfl) :
    PE X (.Call (.Name x p) (e :: es) kws pos) (tCallP sp gV E t tk) := by
  refine ⟨fun pins s σ H Q I h => ?_⟩
  refine wpAny_Call_Name_kw (ld_glob I hg hm ?_ hdb)
  refine PySem.W.callWith_KW (h₀ := X.base) I.ok.mod.kin hk hall (thn (ha.run pos pins s σ H _ I h) fun us s1 ⟨vs, H1, I1, r, q⟩ => ?_) hpl he
  refine thn (hkw.run pos pins s1 σ H1 _ I1 q) fun ws s2 ⟨zs, H2, I2, rz, q2⟩ => ⟨I2.kIn, ?_⟩
  rw [hks]
  have r2 := hb.rel r rz
  exact run_G (args := ⟨us, ks.zip ws⟩) F hr (hx σ) I2 (hb.to s2 us ws I2.kIn (by rw [← r2.length]; exact F.len _ _ _ _ q2)) r2 q2
theorem pe_callFK0 {ks : List Str} {kws : List Keyword} {g : List Value → List Value → List Value} {gV : List V → List V → List V} (F : FnG X.prog X.w X.K X.mg X.base k f fd ps sp) (hr : RoomG k X.A) (hg : Gl X x) (hm : X.mg x = some (.ref f)) (hk : PySem.W.keepIn X.K (.ref f) = true) (hb : KBinds X.K fd ps ks g gV) (hx : ∀ σ, PassesAt (L2.CX X.prog X.w) X σ (E σ))
    (hkw : PK X kws tk) (hall : (backToKw pos (keywordEach kws X.env)).all (·.1.isSome) = true := by rfl) (hks : (backToKw pos (keywordEach kws X.env)).filterMap (·.1) = ks := by rfl)
    (hdb : (x == ("__debug__" : Str)) = false := by decide)
    (hpl : ((backTo pos (starEach [] X.env)).any (·.1) || (backToKw pos (keywordEach kws X.env)).any (·.1.isNone)) = false := by rfl) :
    PE X (.Call (.Name x p) [] kws pos) (tCallP sp gV E tNil tk) := by
  refine ⟨fun pins s σ H Q I h => ?_⟩
  refine wpAny_Call_Name_kw (ld_glob I hg hm ?_ hdb)
  refine PySem.W.callWith_KW0 (h₀ := X.base) I.ok.mod.kin hk hall (thn (hkw.run pos pins s σ H _ I h) fun ws s2 ⟨zs, H2, I2, rz, q2⟩ => ⟨I2.kIn, ?_⟩) hpl
  rw [hks]
  have r2 := hb.rel (vs := []) (us := []) .nil rz
  exact run_G (args := ⟨[], ks.zip ws⟩) F hr (hx σ) I2 (hb.to s2 [] ws I2.kIn (by rw [← r2.length]; exact F.len _ _ _ _ q2)) r2 q2
end

/-! ### defs on data -/
def outs (rp : List Nat) (n : Nat) (env : Ev) : Ev := (List.range n).map fun i => if rp.contains i then (env[i]?).getD none else none
def fnR (n : Nat) (rp : List Nat) (body : M Flw) (args : List B) : R B := match body (args.map some ++ List.replicate (n - args.length) none) with
  | .ok (.ret x) env => .ok x (outs rp args.length env)
  | .ok .next env => .ok (false, .non) (outs rp args.length env)
  | .ok .brk _ => .bad
  | .ok .cont _ => .bad
  | .err c fs env => .err c fs (outs rp args.length env)
  | .bad => .bad
/-- what a def on data promises: m, by the arguments -/
def spM (T : Tb) (rp : List Nat) (n : Nat) (m : List B → R B) : Sp := fun vs H Q E => vs.length = n ∧ ∃ F args, ERep T F H (vs.map some) (args.map some) ∧ (∀ (i : Nat) (x : B), args[i]? = some x → x.1 = true → i ∈ rp) ∧
  match m args with
  | .ok x env' => ∀ v F' H', Step T (vs.map some) F H (args.map some) F' H' env' → VRep T F' H' v x → (x.1 = true → ∀ a, v = .ref a → H a = none) → Q v H'
  | .err c fs env' => ∀ C d F' H', T.cl c = some C → Step T (vs.map some) F H (args.map some) F' H' env' → XOk T F' H' fs d → E (.ref C) d H'
  | .bad => False
section
variable {T : Tb} {rp : List Nat}
theorem map_get {α : Type} {l : List α} {i : Nat} : (l.map some)[i]? = (l[i]?).map some := by rw [List.getElem?_map]
theorem ERep.start {F H : Hp} {vs : List V} {args : List B} (k : Nat) (E : ERep T F H (vs.map some) (args.map some)) : ERep T F H (vs.map some ++ List.replicate k none) (args.map some ++ List.replicate k none) where
  le := E.le
  len := by rw [List.length_append, List.length_append, E.len, List.length_replicate, List.length_replicate]
  get := fun i x e => by
    by_cases hi : i < (args.map some).length
    · rw [List.getElem?_append_left hi] at e
      obtain ⟨v, e1, r⟩ := E.get i x e
      exact ⟨v, by rw [List.getElem?_append_left (by rw [E.len]; exact hi)]; exact e1, r⟩
    · rw [List.getElem?_append_right (by omega), List.getElem?_replicate] at e
      split at e <;> cases e
  sep := fun i j d e v h1 h2 h3 h4 => by
    have lt : ∀ {i : Nat} {d : D}, (args.map some ++ List.replicate k none)[i]? = some (some (true, d)) → i < (args.map some).length ∧ (args.map some)[i]? = some (some (true, d)) := fun {i d} e => by
      by_cases hi : i < (args.map some).length
      · rw [List.getElem?_append_left hi] at e; exact ⟨hi, e⟩
      · rw [List.getElem?_append_right (by omega), List.getElem?_replicate] at e
        split at e <;> cases e
    obtain ⟨l1, k1⟩ := lt h1
    obtain ⟨l2, k2⟩ := lt h2
    rw [List.getElem?_append_left (by rw [E.len]; exact l1)] at h3
    rw [List.getElem?_append_left (by rw [E.len]; exact l2)] at h4
    exact E.sep i j d e v k1 k2 h3 h4
  sm := E.sm
  tb := E.tb
theorem ownE_start {vs : List V} {args : List B} {k : Nat} {a : Addr} (hl : vs.length = args.length) : OwnE (vs.map some ++ List.replicate k none) (args.map some ++ List.replicate k none) a ↔ OwnE (vs.map some) (args.map some) a := by
  constructor
  · rintro ⟨i, d, h1, h2⟩
    by_cases hi : i < (args.map some).length
    · rw [List.getElem?_append_left hi] at h1
      rw [List.getElem?_append_left (by rw [List.length_map, hl, ← List.length_map (f := some)]; exact hi)] at h2
      exact ⟨i, d, h1, h2⟩
    · rw [List.getElem?_append_right (by omega), List.getElem?_replicate] at h1
      split at h1 <;> cases h1
  · rintro ⟨i, d, h1, h2⟩
    have hi := (List.getElem?_eq_some_iff.mp h1).1
    refine ⟨i, d, by rw [List.getElem?_append_left hi]; exact h1, ?_⟩
    rw [List.getElem?_append_left (by rw [List.length_map, hl, ← List.length_map (f := some)]; exact hi)]
    exact h2
theorem outs_get {n i : Nat} {env : Ev} {x : B} (h : (outs rp n env)[i]? = some (some x)) : i < n ∧ i ∈ rp ∧ env[i]? = some (some x) := by
  unfold outs at h
  rw [List.getElem?_map] at h
  by_cases hi : i < n
  · rw [List.getElem?_range hi] at h
    simp only [Option.map] at h
    by_cases hr : rp.contains i = true
    · rw [if_pos hr] at h
      cases e : env[i]? with
      | none => rw [e] at h; cases h
      | some y => rw [e] at h; cases h; exact ⟨hi, by simpa using hr, rfl⟩
    · rw [if_neg hr] at h; cases h
  · rw [List.getElem?_eq_none (by rw [List.length_range]; omega)] at h; cases h
/-- a def's whole run, as its caller sees it -/
theorem StepS.out {F H F' H' : Hp} {vs : List V} {args : List B} {k : Nat} {s' : St} {env' : Ev} (hl : vs.length = args.length) (S : StepS T rp (vs.map some ++ List.replicate k none) F H (args.map some ++ List.replicate k none) s' F' H' env') :
    Step T (vs.map some) F H (args.map some) F' H' (outs rp args.length env') := by
  have at_ : ∀ {i : Nat} {x : B}, (outs rp args.length env')[i]? = some (some x) → i ∈ rp ∧ env'[i]? = some (some x) ∧ s'[i]? = (vs.map some)[i]? := fun {i x} e => by
    obtain ⟨h1, h2, h3⟩ := outs_get e
    refine ⟨h2, h3, ?_⟩
    rw [(S.par i h2).1, List.getElem?_append_left (by rw [List.length_map]; omega)]
  refine ⟨⟨S.rep.le, ?_, fun i x e => ?_, fun i j d e v h1 h2 h3 h4 => ?_, S.rep.sm, S.rep.tb⟩, S.mono, fun a o e t n => S.frame a o e t fun z => n ((ownE_start hl).mp z), fun a e n => (S.fresh a e n).imp id (ownE_start hl).mp, fun i d e => ?_, S.dom⟩
  · unfold outs; rw [List.length_map, List.length_map, List.length_range]; exact hl
  · obtain ⟨h1, h2, h3⟩ := at_ e
    obtain ⟨v, e1, r⟩ := S.rep.get i x h2
    exact ⟨v, by rw [← h3]; exact e1, r⟩
  · obtain ⟨a1, a2, a3⟩ := at_ h1
    obtain ⟨b1, b2, b3⟩ := at_ h2
    exact S.rep.sep i j d e v a2 b2 (by rw [a3]; exact h3) (by rw [b3]; exact h4)
  · obtain ⟨h1, h2, h3⟩ := at_ e
    obtain ⟨d2, e2⟩ := (S.par i h1).2 d h2
    refine ⟨d2, ?_⟩
    have hi : i < args.length := (outs_get e).1
    rw [List.getElem?_append_left (by rw [List.length_map]; exact hi)] at e2
    exact e2
theorem spM_body {N : List Str} {n m : Nat} {mb : M Flw} {vs : List V} {args : List B} {Fh H : Hp} {Q : VK} {E : XK} (hn : N.length = n) (hl : vs.length = m) (Er : ERep T Fh H (vs.map some) (args.map some)) (hown : ∀ (i : Nat) (x : B), args[i]? = some x → x.1 = true → i ∈ rp)
    (h : match fnR n rp mb args with
      | .ok x env' => ∀ v F' H', Step T (vs.map some) Fh H (args.map some) F' H' env' → VRep T F' H' v x → (x.1 = true → ∀ a, v = .ref a → H a = none) → Q v H'
      | .err c fs env' => ∀ C d F' H', T.cl c = some C → Step T (vs.map some) Fh H (args.map some) F' H' env' → XOk T F' H' fs d → E (.ref C) d H'
      | .bad => False) : tS T (fun cls d _ H => E cls d H) rp mb { nx := fun _ H' => Q .non H', rt := Q, bk := fun _ _ => False, ct := fun _ _ => False } (start N vs) H := by
  have hlen : vs.length = args.length := by
    have := Er.len
    rw [List.length_map, List.length_map] at this
    exact this
  have hk : N.length - vs.length = n - args.length := by rw [hn, hlen]
  refine ⟨Fh, args.map some ++ List.replicate (n - args.length) none, ?_, ?_⟩
  · unfold L2.start
    rw [hk]
    exact Er.start _
  · unfold L2.start
    rw [hk]
    unfold fnR at h
    have noL : ∀ {a : Addr}, OwnL rp (vs.map some ++ List.replicate (n - args.length) none) (args.map some ++ List.replicate (n - args.length) none) a → False := fun {a} ⟨i, d, hi, h1, h2⟩ => by
      by_cases hlt : i < (args.map some).length
      · rw [List.getElem?_append_left hlt, map_get] at h1
        cases e : args[i]? with
        | none => rw [e] at h1; cases h1
        | some y =>
          rw [e] at h1
          cases h1
          exact hi (hown i _ e rfl)
      · rw [List.getElem?_append_right (by omega), List.getElem?_replicate] at h1
        split at h1 <;> cases h1
    cases e : mb (args.map some ++ List.replicate (n - args.length) none) with
    | bad => rw [e] at h; exact h
    | err c fs env' =>
      rw [e] at h
      exact fun C d s' F' H' hc st x => h C d F' H' hc (st.out hlen) x
    | ok fl env' =>
      rw [e] at h
      cases fl with
      | next => exact fun s' F' H' st => h .non F' H' (st.out hlen) (.sh .non) fun z => by cases z
      | brk => exact h.elim
      | cont => exact h.elim
      | ret x => exact fun v s' F' H' st r f => h v F' H' (st.out hlen) r fun o a ea => (f o a ea).elim id fun z => (noL z).elim

theorem fnD {P : Program} {w : World} {K : PySem.W.Frag} {mg : Str → Option Value} {base : Heap} {x qual : Str} {st : Stmt} {f : Addr} {fd : FuncData} {N ps : List Str} {k n : Nat} {mb : M Flw} (F : Fun K x qual st f fd) (S : FnScope N ps (defScope st)) (hn : N.length = n)
    (hbody : ∀ (cdv : Value) (A : Around) (outer : List Env) (s : Shared) (H : Hp) (E : XK), RoomG k (A.deeper (envOfC qual (defScope st) s.heap.objs.size f cdv)) →
      PSs (cxOf (L2.CX P w) P w K mg base N qual (defScope st) f cdv A outer s H E) (defBody st) (tS T (fun cls d _ H => E cls d H) rp mb)) :
    FnG P w K mg base (k + 1) f fd ps (spM T rp ps.length (fnR n rp mb)) := by
  refine fnG_of F S (fun vs H Q E h => h.1) fun cdv A outer s H vs Q E hr ⟨hl, Fh, args, Er, hown, h⟩ => ⟨_, hbody cdv A outer s H E hr, ?_⟩
  exact spM_body hn hl Er hown h

/-! ### calls -/
def argsOf (rp : List Nat) (env : Ev) : Nat → List Opd → Option (List B)
  | _, [] => some []
  | p, o :: os => match rp.contains p, o with
    | true, .slot i => match env[i]? with
      | some (some (true, d)) => (argsOf rp env (p + 1) os).map ((true, d) :: ·)
      | _ => none
    | true, .val _ => none
    | false, o => match look env o with
      | some (false, d) => (argsOf rp env (p + 1) os).map ((false, d) :: ·)
      | _ => none
/-- the slots handed on, with their places -/
def refsOf (rp : List Nat) : Nat → List Opd → List (Nat × Nat)
  | _, [] => []
  | p, o :: os => match rp.contains p, o with
    | true, .slot i => (p, i) :: refsOf rp (p + 1) os
    | _, _ => refsOf rp (p + 1) os
def backs (env : Ev) (env' : Ev) : List (Nat × Nat) → Ev
  | [] => env
  | (p, i) :: r => (backs env env' r).set i ((env'[p]?).getD none)
def diff : List Nat → Bool
  | [] => true
  | i :: is => !is.contains i && diff is
def callO (m : List B → R B) (rp : List Nat) (n : Nat) (os : List Opd) : M B := fun env => match argsOf rp env 0 os with
  | some args => if os.length = n ∧ diff ((refsOf rp 0 os).map (·.2)) = true then match m args with
    | .ok x env' => .ok x (backs env env' (refsOf rp 0 os))
    | .err c fs env' => .err c fs (backs env env' (refsOf rp 0 os))
    | .bad => .bad
    else .bad
  | none => .bad
def callM (m : List B → R B) (rp : List Nat) (n : Nat) (ms : M (List Opd)) : M B := M.bind ms (callO m rp n)
section
variable {s : St} {F H F' H' : Hp} {env env' : Ev}
theorem argsOf_get (E : ERep T F H s env) : ∀ {os : List Opd} {vs : List V} {p : Nat} {args : List B}, OOks T s F H env vs os → argsOf rp env p os = some args →
    vs.length = args.length ∧ (∀ (j : Nat) (x : B), args[j]? = some x → ∃ v, vs[j]? = some v ∧ VRep T F H v x ∧ (x.1 = true → p + j ∈ rp ∧ ∃ i, (p + j, i) ∈ refsOf rp p os)) ∧
      ∀ q i, (q, i) ∈ refsOf rp p os → p ≤ q ∧ ∃ v d, vs[q - p]? = some v ∧ args[q - p]? = some (true, d) ∧ s[i]? = some (some v) ∧ env[i]? = some (some (true, d))
  | [], vs, p, args, r, h => by
    cases r
    cases h
    exact ⟨rfl, fun j x e => by simp at e, fun q i z => by cases z⟩
  | o :: os, _, p, args, .cons (v := v) (vs := vs) ro r, h => by
    unfold argsOf at h
    have next : ∀ {x : B} {as : List B}, argsOf rp env (p + 1) os = some as → VRep T F H v x → (x.1 = true → p ∈ rp ∧ ∃ i, (p, i) ∈ refsOf rp p (o :: os)) → (∀ q i, (q, i) ∈ refsOf rp (p + 1) os → (q, i) ∈ refsOf rp p (o :: os)) →
        (∀ q i, (q, i) ∈ refsOf rp p (o :: os) → (q, i) ∈ refsOf rp (p + 1) os ∨ (q = p ∧ ∃ d, x = (true, d) ∧ s[i]? = some (some v) ∧ env[i]? = some (some (true, d)))) →
        (v :: vs).length = (x :: as).length ∧ (∀ (j : Nat) (y : B), (x :: as)[j]? = some y → ∃ u, (v :: vs)[j]? = some u ∧ VRep T F H u y ∧ (y.1 = true → p + j ∈ rp ∧ ∃ i, (p + j, i) ∈ refsOf rp p (o :: os))) ∧
          ∀ q i, (q, i) ∈ refsOf rp p (o :: os) → p ≤ q ∧ ∃ u d, (v :: vs)[q - p]? = some u ∧ (x :: as)[q - p]? = some (true, d) ∧ s[i]? = some (some u) ∧ env[i]? = some (some (true, d)) := by
      intro x as ha hv hx hr hr2
      obtain ⟨l, g, q3⟩ := argsOf_get E r ha
      refine ⟨by rw [List.length_cons, List.length_cons, l], fun j y e => ?_, fun q i z => ?_⟩
      · cases j with
        | zero => cases e; exact ⟨v, rfl, hv, hx⟩
        | succ j =>
          obtain ⟨u, e1, e2, e3⟩ := g j y (by simpa using e)
          refine ⟨u, by simpa using e1, e2, fun o => ?_⟩
          obtain ⟨m1, i, m2⟩ := e3 o
          have ej : p + 1 + j = p + (j + 1) := by omega
          rw [ej] at m1 m2
          exact ⟨m1, i, hr _ _ m2⟩
      · rcases hr2 q i z with y | ⟨rfl, d, rfl, e1, e2⟩
        · obtain ⟨k1, u, d, k2, k3, k4, k5⟩ := q3 q i y
          have ej : q - p = (q - (p + 1)) + 1 := by omega
          rw [ej]
          exact ⟨by omega, u, d, by simpa using k2, by simpa using k3, k4, k5⟩
        · rw [Nat.sub_self]
          exact ⟨Nat.le_refl _, v, d, rfl, rfl, e1, e2⟩
    cases hc : rp.contains p with
    | false =>
      rw [hc] at h
      simp only at h
      split at h
      · rename_i d hl
        cases e : argsOf rp env (p + 1) os with
        | none => rw [e] at h; cases h
        | some as =>
          rw [e] at h
          cases h
          have hre : refsOf rp p (o :: os) = refsOf rp (p + 1) os := by
            conv => lhs; unfold refsOf
            rw [hc]
          exact next (x := (false, d)) e (ro.rep E hl) (fun z => by cases z) (fun q i z => by rw [hre]; exact z) (fun q i z => .inl (by rw [hre] at z; exact z))
      · cases h
    | true =>
      rw [hc] at h
      cases o with
      | val x => cases h
      | slot i =>
        simp only at h
        split at h
        · rename_i d e1
          cases e : argsOf rp env (p + 1) os with
          | none => rw [e] at h; cases h
          | some as =>
            rw [e] at h
            cases h
            have hre : refsOf rp p (.slot i :: os) = (p, i) :: refsOf rp (p + 1) os := by
              conv => lhs; unfold refsOf
              rw [hc]
            have hs : s[i]? = some (some v) := ro
            obtain ⟨w, e2, rv⟩ := E.get i _ e1
            rw [hs] at e2
            cases e2
            refine next (x := (true, d)) e rv (fun _ => ⟨by simpa using hc, i, by rw [hre]; exact List.mem_cons_self⟩) (fun q i z => by rw [hre]; exact List.mem_cons_of_mem _ z) (fun q i2 z => ?_)
            rw [hre] at z
            rcases List.mem_cons.mp z with y | y
            · cases y; exact .inr ⟨rfl, d, rfl, hs, e1⟩
            · exact .inl y
        · cases h
theorem diff_mem : ∀ {l : List (Nat × Nat)} {q1 q2 i : Nat}, diff (l.map (·.2)) = true → (q1, i) ∈ l → (q2, i) ∈ l → q1 = q2
  | (a, b) :: l, q1, q2, i, h, h1, h2 => by
    rw [List.map_cons] at h
    unfold diff at h
    rw [Bool.and_eq_true] at h
    have nb : ∀ q, (q, b) ∉ l := fun q z => by
      have : (l.map (·.2)).contains b = true := by
        rw [List.contains_iff_mem]
        exact List.mem_map.mpr ⟨(q, b), z, rfl⟩
      rw [this] at h
      cases h.1
    rcases List.mem_cons.mp h1 with e1 | e1
    · rcases List.mem_cons.mp h2 with e2 | e2
      · cases e1; cases e2; rfl
      · cases e1; exact (nb _ e2).elim
    · rcases List.mem_cons.mp h2 with e2 | e2
      · cases e2; exact (nb _ e1).elim
      · exact diff_mem h.2 e1 e2
theorem backs_len (env env' : Ev) : ∀ l : List (Nat × Nat), (backs env env' l).length = env.length
  | [] => rfl
  | (p, i) :: r => by unfold backs; rw [List.length_set, backs_len env env' r]
theorem backs_out {i : Nat} : ∀ {l : List (Nat × Nat)}, (∀ q, (q, i) ∉ l) → (backs env env' l)[i]? = env[i]?
  | [], _ => rfl
  | (p, j) :: r, h => by
    unfold backs
    rw [List.getElem?_set_ne (fun e => h p (by rw [e]; exact List.mem_cons_self)), backs_out fun q z => h q (List.mem_cons_of_mem _ z)]
theorem backs_in {i q : Nat} (hl : i < env.length) : ∀ {l : List (Nat × Nat)}, diff (l.map (·.2)) = true → (q, i) ∈ l → (backs env env' l)[i]? = some ((env'[q]?).getD none)
  | (p, j) :: r, h, m => by
    unfold backs
    rcases List.mem_cons.mp m with e | e
    · cases e
      rw [List.getElem?_set_self (by rw [backs_len]; exact hl)]
    · have hj : j ≠ i := fun z => by
        subst z
        rw [List.map_cons] at h
        unfold diff at h
        rw [Bool.and_eq_true] at h
        have : (r.map (·.2)).contains j = true := by
          rw [List.contains_iff_mem]
          exact List.mem_map.mpr ⟨(q, j), e, rfl⟩
        rw [this] at h
        cases h.1
      rw [List.getElem?_set_ne hj]
      rw [List.map_cons] at h
      unfold diff at h
      rw [Bool.and_eq_true] at h
      exact backs_in hl h.2 e
/-- the arguments as the callee has them -/
theorem args_rep {os : List Opd} {vs : List V} {args : List B} (E : ERep T F H s env) (r : OOks T s F H env vs os) (h : argsOf rp env 0 os = some args) (hd : diff ((refsOf rp 0 os).map (·.2)) = true) :
    ERep T F H (vs.map some) (args.map some) ∧ (∀ (i : Nat) (x : B), args[i]? = some x → x.1 = true → i ∈ rp) ∧
      ∀ {F' H' : Hp} {env' : Ev}, Step T (vs.map some) F H (args.map some) F' H' env' → Step T s F H env F' H' (backs env env' (refsOf rp 0 os)) := by
  obtain ⟨hl, hg, hr⟩ := argsOf_get E r h
  have own : ∀ {a : Addr}, OwnE (vs.map some) (args.map some) a → ∃ q i d, (q, i) ∈ refsOf rp 0 os ∧ env[i]? = some (some (true, d)) ∧ s[i]? = some (some (.ref a)) := fun {a} ⟨j, d, h1, h2⟩ => by
    rw [map_get] at h1 h2
    cases e : args[j]? with
    | none => rw [e] at h1; cases h1
    | some x =>
      rw [e] at h1
      cases h1
      obtain ⟨v, e1, _, e3⟩ := hg j _ e
      rw [e1] at h2
      cases h2
      obtain ⟨_, i, m⟩ := e3 rfl
      obtain ⟨_, u, d2, k1, k2, k3, k4⟩ := hr _ i m
      rw [show 0 + j - 0 = j by omega, e1] at k1
      cases k1
      exact ⟨_, i, d2, m, k4, k3⟩
  have ownS : ∀ {a : Addr}, OwnE (vs.map some) (args.map some) a → OwnE s env a := fun {a} z => let ⟨q, i, d, _, h1, h2⟩ := own z; ⟨i, d, h1, h2⟩
  refine ⟨⟨E.le, by rw [List.length_map, List.length_map, hl], fun i x e => ?_, fun i j d e v h1 h2 h3 h4 => ?_, E.sm, E.tb⟩, fun i x e o => ?_, fun {F' H' env'} S => ?_⟩
  · rw [map_get] at e ⊢
    cases q : args[i]? with
    | none => rw [q] at e; cases e
    | some y =>
      rw [q] at e
      cases e
      obtain ⟨v, e1, e2, _⟩ := hg i x q
      exact ⟨v, by rw [e1]; rfl, e2⟩
  · have get : ∀ {i : Nat} {d : D}, (args.map some)[i]? = some (some (true, d)) → (vs.map some)[i]? = some (some v) → ∃ k d2, (i, k) ∈ refsOf rp 0 os ∧ s[k]? = some (some v) ∧ env[k]? = some (some (true, d2)) := fun {i d} h1 h2 => by
      rw [map_get] at h1 h2
      cases q : args[i]? with
      | none => rw [q] at h1; cases h1
      | some y =>
        rw [q] at h1
        cases h1
        obtain ⟨u, e1, _, e3⟩ := hg i _ q
        rw [e1] at h2
        cases h2
        obtain ⟨_, k, m⟩ := e3 rfl
        obtain ⟨_, u2, d2, k1, k2, k3, k4⟩ := hr _ k m
        rw [show 0 + i - 0 = i by omega, e1] at k1
        cases k1
        rw [Nat.zero_add] at m
        exact ⟨k, d2, m, k3, k4⟩
    obtain ⟨k1, d1, m1, s1, e1⟩ := get h1 h3
    obtain ⟨k2, d2, m2, s2, e2⟩ := get h2 h4
    have ek := E.sep k1 k2 d1 d2 v e1 e2 s1 s2
    subst ek
    exact diff_mem hd m1 m2
  · obtain ⟨_, _, _, e3⟩ := hg i x e
    have := (e3 o).1
    rw [Nat.zero_add] at this
    exact this
  · -- the caller's slots behind the call
    have inr : ∀ {q i : Nat} {x : B}, (q, i) ∈ refsOf rp 0 os → (backs env env' (refsOf rp 0 os))[i]? = some (some x) → env'[q]? = some (some x) ∧ ∃ v d, (vs.map some)[q]? = some (some v) ∧ s[i]? = some (some v) ∧ env[i]? = some (some (true, d)) := fun {q i x} m e => by
      obtain ⟨_, v, d, k1, k2, k3, k4⟩ := hr q i m
      rw [backs_in (List.getElem?_eq_some_iff.mp k4).1 hd m] at e
      rw [Nat.sub_zero] at k1
      refine ⟨?_, v, d, by rw [map_get, k1]; rfl, k3, k4⟩
      cases z : env'[q]? with
      | none => rw [z] at e; cases e
      | some y => rw [z] at e; cases e; rfl
    have ownB : ∀ {i : Nat} {d : D}, (backs env env' (refsOf rp 0 os))[i]? = some (some (true, d)) → ∃ d2, env[i]? = some (some (true, d2)) := fun {i d} e => by
      by_cases m : ∃ q, (q, i) ∈ refsOf rp 0 os
      · obtain ⟨q, m⟩ := m
        obtain ⟨_, v, d2, _, _, k⟩ := inr m e
        exact ⟨d2, k⟩
      · rw [backs_out fun q z => m ⟨q, z⟩] at e
        exact ⟨d, e⟩
    refine ⟨⟨S.rep.le, by rw [backs_len]; exact E.len, fun i x e => ?_, fun i j d e v h1 h2 h3 h4 => ?_, S.rep.sm, S.rep.tb⟩, S.mono, fun a o e t n => S.frame a o e t fun z => n (ownS z), fun a e n => (S.fresh a e n).imp id ownS, fun i d e => ownB e, S.dom⟩
    · by_cases m : ∃ q, (q, i) ∈ refsOf rp 0 os
      · obtain ⟨q, m⟩ := m
        obtain ⟨e1, v, d, k1, k2, k3⟩ := inr m e
        obtain ⟨w, e2, rv⟩ := S.rep.get q x e1
        rw [k1] at e2
        cases e2
        exact ⟨v, k2, rv⟩
      · rw [backs_out fun q z => m ⟨q, z⟩] at e
        obtain ⟨v, e1, rv⟩ := E.get i x e
        refine ⟨v, e1, ?_⟩
        obtain ⟨ow, d⟩ := x
        cases ow with
        | false => exact Rep.mono S.mono rv
        | true =>
          obtain ⟨a, rfl, fa, t⟩ := rv
          have na : ¬ OwnE (vs.map some) (args.map some) a := fun z => by
            obtain ⟨q, i2, d2, m2, k1, k2⟩ := own z
            have := E.sep i i2 d d2 _ e k1 e1 k2
            subst this
            exact m ⟨q, m2⟩
          obtain ⟨o, ho, _⟩ := t.obj
          refine ⟨a, rfl, ?_, t.imp S.mono fun o e p => S.frame a o e p.nt na⟩
          cases z : F' a with
          | none => rfl
          | some u =>
            rcases S.fresh a fa (by rw [z]; simp) with y | y
            · rw [ho] at y; cases y
            · exact (na y).elim
    · obtain ⟨d1, k1⟩ := ownB h1
      obtain ⟨d2, k2⟩ := ownB h2
      exact E.sep i j d1 d2 v k1 k2 h3 h4
end
/-- the promise, from the operands -/
theorem callO_of {W : WX} {m : List B → R B} {n : Nat} {os : List Opd} {vs : List V} {s : St} {F H : Hp} {env : Ev} {Q : VK} (E : ERep T F H s env) (r : OOks T s F H env vs os) (h : PG T (relV T s) W s F H env Q (callO m rp n os env)) : spM T rp n m vs H Q (WE W s) := by
  unfold callO at h
  cases e1 : argsOf rp env 0 os with
  | none => rw [e1] at h; exact h.elim
  | some args =>
    simp only [e1] at h
    split at h
    case isFalse => exact h.elim
    rename_i hz
    obtain ⟨A1, A2, A3⟩ := args_rep E r e1 hz.2
    refine ⟨by rw [OOks.len r]; exact hz.1, F, args, A1, A2, ?_⟩
    cases e2 : m args with
    | bad => rw [e2] at h; exact h.elim
    | err c fs env' =>
      rw [e2] at h
      exact fun C d F' H' hc st x => h C d F' H' hc (A3 st) x
    | ok x env' =>
      rw [e2] at h
      refine fun v F' H' st rv fr => h v F' H' (A3 st) ⟨⟨rv, fun o a ea z => ?_⟩, fr⟩
      obtain ⟨u, hu⟩ := OwnE.there E ((A3 st).ownE z)
      rw [fr o a ea] at hu
      cases hu
variable {W : WX} {X : Cx} {x : Str} {p pos : Pos} {e : Expr} {es : List Expr}
theorem pe_callM {k : Nat} {f : Addr} {fd : FuncData} {ps : List Str} {m : List B → R B} {ms : M (List Opd)} {n : Nat} (F : FnG X.prog X.w X.K X.mg X.base k f fd ps (spM T rp n m)) (hr : RoomG k X.A) (hg : Gl X x) (hm : X.mg x = some (.ref f)) (hk : PySem.W.keepIn X.K (.ref f) = true) (hb : Binds X.K fd ps []) (tk : Takes X W)
    (ha : PA X (e :: es) (tA T W ms)) (hdb : (x == ("__debug__" : Str)) = false := by decide) (he : starEach (e :: es) X.env = (false, eval e X.env) :: starEach es X.env := by rfl) (hpl : (backTo pos (starEach es X.env)).any (·.1) = false := by rfl) :
    PE X (.Call (.Name x p) (e :: es) [] pos) (tV T W (callM m rp n ms)) := by
  refine PEimp (pe_callF F hr hg hm hk hb (fun σ => passAt tk σ) ha hdb he hpl) ?_
  rintro s H Q ⟨F, env, E, h⟩
  exact ⟨F, env, E, PG.bind (rel2 := relV T s) relV_ok h fun vs os env1 F1 H1 _ st r h1 => callO_of st.rep r h1⟩
/-! ### keywords -/
def permL {α : Type} (pm : List Nat) (l : List α) : List α := pm.filterMap (l[·]?)
/-- all values by keywords -/
def kw0 {α : Type} (pm : List Nat) (us ws : List α) : List α := match us with
  | [] => permL pm ws
  | _ => []
def appM2 (ms ks : M (List Opd)) : M (List Opd) := M.bind ms fun os => M.bind ks fun zs => M.pure (os ++ zs)
def permM (pm : List Nat) (ms : M (List Opd)) : M (List Opd) := M.bind ms fun os => M.pure (permL pm os)
theorem PKimp {kws : List Keyword} {t t' : TA} (h : PK X kws t) (k : ∀ s H Q, t' s H Q → t s H Q) : PK X kws t' := ⟨fun pos pins s σ H Q I q => h.run pos pins s σ H Q I (k _ _ _ q)⟩
theorem pk_nilM : PK X [] (tA T W nilM) := by
  refine PKimp pk_nil ?_
  rintro s H Q ⟨F, env, E, h⟩
  exact h [] F H (Step.refl E) .nil
theorem pk_consM {nm : Option Str} {kpos : Pos} {kws : List Keyword} {m : M Opd} {ms : M (List Opd)} (ha : PE X e (tO T W m)) (hr : PK X kws (tA T W ms)) : PK X (⟨nm, e, kpos⟩ :: kws) (tA T W (consM m ms)) := by
  refine PKimp (pk_cons ha hr) ?_
  rintro s H Q ⟨F, env, E, h⟩
  refine ⟨F, env, E, PG.bind (rel2 := relA T s) relA_ok h fun v o env1 F1 H1 _ st r h1 => ?_⟩
  refine ⟨F1, env1, st.rep, PG.bind (rel2 := relA T s) relA_ok h1 fun vs os env2 F2 H2 _ st2 r2 h2 => ?_⟩
  exact h2 (v :: vs) F2 H2 (Step.refl st2.rep) (.cons (r.step st2) r2)
theorem OOks.get {s : St} {F H : Hp} {env : Ev} : ∀ {vs : List V} {os : List Opd} {i : Nat}, OOks T s F H env vs os → (vs[i]? = none ∧ os[i]? = none) ∨ ∃ v o, vs[i]? = some v ∧ os[i]? = some o ∧ OOk T s F H env v o
  | _, _, i, .nil => .inl ⟨by simp, by simp⟩
  | _, _, 0, .cons h r => .inr ⟨_, _, rfl, rfl, h⟩
  | _, _, i + 1, .cons h r => by
    rcases OOks.get (i := i) r with z | ⟨v, o, h1, h2, h3⟩
    · exact .inl (by simpa using z)
    · exact .inr ⟨v, o, by simpa using h1, by simpa using h2, h3⟩
theorem OOks.perm {s : St} {F H : Hp} {env : Ev} {vs : List V} {os : List Opd} (r : OOks T s F H env vs os) : ∀ pm : List Nat, OOks T s F H env (permL pm vs) (permL pm os)
  | [] => .nil
  | i :: pm => by
    unfold permL
    rcases OOks.get (i := i) r with ⟨h1, h2⟩ | ⟨v, o, h1, h2, h3⟩
    · rw [List.filterMap_cons_none h1, List.filterMap_cons_none h2]
      exact OOks.perm r pm
    · rw [List.filterMap_cons_some h1, List.filterMap_cons_some h2]
      exact .cons h3 (OOks.perm r pm)
theorem OOks.app {s : St} {F H : Hp} {env : Ev} {ws : List V} {ps : List Opd} (r2 : OOks T s F H env ws ps) : ∀ {vs : List V} {os : List Opd}, OOks T s F H env vs os → OOks T s F H env (vs ++ ws) (os ++ ps)
  | _, _, .nil => r2
  | _, _, .cons h r => .cons h (OOks.app r2 r)
/-- f(.., k = ..): pm tells which of the values as written each parameter takes -/
theorem pe_callKM {k : Nat} {f : Addr} {fd : FuncData} {ps ks : List Str} {kws : List Keyword} {m : List B → R B} {ms zs : M (List Opd)} {n : Nat} {pm : List Nat} (F : FnG X.prog X.w X.K X.mg X.base k f fd ps (spM T rp n m)) (hr : RoomG k X.A) (hg : Gl X x) (hm : X.mg x = some (.ref f)) (hk : PySem.W.keepIn X.K (.ref f) = true)
    (hb : KBinds X.K fd ps ks (fun us ws => permL pm (us ++ ws)) (fun us ws => permL pm (us ++ ws))) (tk : Takes X W)
    (ha : PA X (e :: es) (tA T W ms)) (hkw : PK X kws (tA T W zs)) (hall : (backToKw pos (keywordEach kws X.env)).all (·.1.isSome) = true := by rfl) (hks : (backToKw pos (keywordEach kws X.env)).filterMap (·.1) = ks := by rfl)
    (hdb : (x == ("__debug__" : Str)) = false := by decide) (he : starEach (e :: es) X.env = (false, eval e X.env) :: starEach es X.env := by rfl)
    (hpl : ((backTo pos (starEach (e :: es) X.env)).any (·.1) || (backToKw pos (keywordEach kws X.env)).any (·.1.isNone)) = false := by rfl) :
    PE X (.Call (.Name x p) (e :: es) kws pos) (tV T W (callM m rp n (permM pm (appM2 ms zs)))) := by
  refine PEimp (pe_callFK F hr hg hm hk hb (fun σ => passAt tk σ) ha hkw hall hks hdb he hpl) ?_
  rintro s H Q ⟨F, env, E, h⟩
  unfold callM permM appM2 at h
  refine ⟨F, env, E, ?_⟩
  cases e1 : ms env with
  | bad => simp only [M.bind, e1] at h; exact h
  | err c fs env1 => simp only [M.bind, e1] at h; exact h
  | ok os env1 =>
    simp only [M.bind, e1] at h
    intro vs F1 H1 st r
    refine ⟨F1, env1, st.rep, ?_⟩
    cases e2 : zs env1 with
    | bad => simp only [e2] at h; exact h
    | err c fs env2 => simp only [e2] at h; exact ErrP.later h st
    | ok os2 env2 =>
      simp only [e2] at h
      intro us F2 H2 st2 r2
      have h2 := PG.later (rel := relV T s) relV_ok h (st.trans st2)
      exact callO_of st2.rep ((OOks.app r2 (OOks.step r st2)).perm pm) h2
theorem pe_callKM0 {k : Nat} {f : Addr} {fd : FuncData} {ps ks : List Str} {kws : List Keyword} {m : List B → R B} {zs : M (List Opd)} {n : Nat} {pm : List Nat} (F : FnG X.prog X.w X.K X.mg X.base k f fd ps (spM T rp n m)) (hr : RoomG k X.A) (hg : Gl X x) (hm : X.mg x = some (.ref f)) (hk : PySem.W.keepIn X.K (.ref f) = true)
    (hb : KBinds X.K fd ps ks (kw0 pm) (kw0 pm)) (tk : Takes X W)
    (hkw : PK X kws (tA T W zs)) (hall : (backToKw pos (keywordEach kws X.env)).all (·.1.isSome) = true := by rfl) (hks : (backToKw pos (keywordEach kws X.env)).filterMap (·.1) = ks := by rfl)
    (hdb : (x == ("__debug__" : Str)) = false := by decide)
    (hpl : ((backTo pos (starEach [] X.env)).any (·.1) || (backToKw pos (keywordEach kws X.env)).any (·.1.isNone)) = false := by rfl) :
    PE X (.Call (.Name x p) [] kws pos) (tV T W (callM m rp n (permM pm zs))) := by
  refine PEimp (pe_callFK0 F hr hg hm hk hb (fun σ => passAt tk σ) hkw hall hks hdb hpl) ?_
  rintro s H Q ⟨F, env, E, h⟩
  unfold callM permM at h
  show (tA T W zs) s H _
  refine ⟨F, env, E, ?_⟩
  cases e2 : zs env with
  | bad => simp only [M.bind, e2] at h; exact h
  | err c fs env2 => simp only [M.bind, e2] at h; exact h
  | ok os2 env2 =>
    simp only [M.bind, e2] at h
    intro us F2 H2 st2 r2
    have h2 := PG.later (rel := relV T s) relV_ok h st2
    exact callO_of st2.rep (r2.perm pm) h2
end
end TT

set_option maxRecDepth 100000
set_option maxHeartbeats 4000000
/-! TX: own exceptions that keep what was given: made, raised. -/
namespace TX
open PySem PySem.W PySem.Calls PyProof.Rows PySem.HandSPX Builtin Builtin.ObjectAttr
/-! ### the text of their __init__ -/
def gA (p1 p2 : Pos) : Arguments := { posonlyargs := [], args := [{ arg := "self", annotation := none, pos := p1 }, { arg := "given", annotation := none, pos := p2 }], vararg := none, kwonlyargs := [], kw_defaults := [], kwarg := none, defaults := [] }
def gB (q0 q1 q2 q3 q4 q5 q6 q7 q8 q9 : Pos) : List Stmt :=
  [.Expr (.Call (.Attribute (.Call (.Name "super" q0) [] [] q1) "__init__" q2) [.Name "given" q3] [] q4) q5, .Assign [.Attribute (.Name "self" q6) "given" q7] (.Name "given" q8) q9]
def gS : Scope := { kind := .function, names := [(PySem.Str.ofString "self", .local), (PySem.Str.ofString "given", .local), (PySem.Str.ofString "__class__", .free), (PySem.Str.ofString "super", .globalImplicit)], isGenerator := false, isCoroutine := false, more := [] }
/-- how super().__init__(given) is read: as a method's call -/
def MCall (q0 q1 q2 q3 q4 : Pos) (env : Env) : Prop := ∃ pl : Sem Bool, PySem.eval (.Call (.Attribute (.Call (.Name "super" q0) [] [] q1) "__init__" q2) [.Name "given" q3] [] q4) env = (do
      let ov ← attributeBase (.Call (.Name "super" q0) [] [] q1) "__init__" env (PySem.eval (.Call (.Name "super" q0) [] [] q1) env)
      standAt q2.atName
      let (f, first) ← holding [ov] (getMethod ov "__init__" pl)
      callWith q4 f first (backTo q4 (starEach [.Name "given" q3] env)) [])
/-- a base among the built-in classes: what is known of it -/
structure BaseX (B newId initId : String) (bmB : List Value) : Prop where
  ex : ExcBaseFacts B newId initId bmB
  kx : KxsFacts B initId
  st : StoreFacts B bmB "object.__setattr__" "object"
/-- what the written part says of such a class, at C -/
structure Giv (prog : Program) (K : Frag) (mg : Str → Option Value) (x : Str) (C : Addr) (B newId initId : String) (bmB : List Value) : Prop where
  gC : mg x = some (.ref C)
  exI : excInitIn K C bmB newId = true
  exO : excOver K C bmB = true
  hd : hasDictIn K C = true
  sa : findIn K (.ref C) "__setattr__" = some (some (.builtin "object.__setattr__"))
  ga : findIn K (.ref C) "__getattribute__" = some (some (.builtin "BaseException.__getattribute__"))
  gg : findIn K (.ref C) "__getattr__" = some none
  noN : findIn K (.ref C) "given" = some none
  kC : keepIn K (.ref C) = true
  exC : subIn K (.ref C) (.type "BaseException") = some true
  suB : subIn K (.ref C) (.type B) = some true
  tyC : typeIn K (.ref C) = some (.type "type")
  sup : ks_superIn K C C "__init__" = some (some (.builtin initId))
  mroC : mroIn K C (.ref C) = some true
  st : nsIn K cStatics "thirdparty.any" = some none
  noS : mg "super" = none
  htop : (prog.main.scope.names.lookup ("super" : Str)).isSome = false
  fn : ∃ (fI cc cda : Addr) (qual : Str) (oc ccl cl : Value) (od cdd cld : Option Addr) (doc pm ct : Value) (an : Option Addr) (osl ccs csl : Array (Option Value)) (vs : Array Value) (file : Str) (tf : Tok) (p1 p2 q0 q1 q2 q3 q4 q5 q6 q7 q8 q9 : Pos),
    findIn K (.ref C) "__init__" = some (some (.ref fI)) ∧ typeIn K (.ref fI) = some (.type "function") ∧
    K.lookup fI = some ⟨oc, od, .func (ksFn "__init__" qual (gA p1 p2) (gB q0 q1 q2 q3 q4 q5 q6 q7 q8 q9) gS .none .none doc pm an (.ref cda) ct cc), osl⟩ ∧ codeIn K (.ref cda) qual = true ∧
    K.lookup cda = some ⟨ccl, cdd, .fields vs, ccs⟩ ∧ vs[2]? = some (.str file tf) ∧ ((prog.main.file : Str) == file) = true ∧ K.lookup cc = some ⟨cl, cld, .cell (some (.ref C)), csl⟩ ∧
    ∀ L, MCall q0 q1 q2 q3 q4 (ksEnv qual gS L fI (.ref cda) cc)
/-- what __init__ leaves of a fresh exception at x -/
structure InitEnd (h h' : Heap) (x C dx : Addr) (v : Value) : Prop where
  keep : ∀ b o, b ≠ x → h.get? b = some o → h'.get? b = some o
  obj : ∃ t1, h'.get? x = some { cls := .ref C, dict := some dx, data := .fields #[.ref t1, .none, .none, .none, .bool false, .none] }
  dbig : h.objs.size ≤ dx
  dne : dx ≠ x
  ns : h'.Ns1 dx (fun y => if y = "given" then some v else none)
/-- a made exception -/
structure OwnMade (h h' : Heap) (e C d : Addr) (v : Value) : Prop where
  keep : ∀ b o, h.get? b = some o → h'.get? b = some o
  new : h.objs.size ≤ e
  obj : ∃ oe vs, h'.get? e = some oe ∧ oe.cls = .ref C ∧ oe.dict = some d ∧ oe.data = .fields vs ∧ vs[1]? = some .none
  dbig : h.objs.size ≤ d
  dne : d ≠ e
  ns : h'.Ns1 d (fun y => if y = "given" then some v else none)
theorem one_size (v : Value) : [v].length ≤ sizeLine := by
  rw [sizeLine_eq]
  exact (by decide : 1 ≤ 16777216)
section
variable {prog : Program} {w : World} {A : Around} {E : Value → Shared → Prop} {R : Result → Shared → Prop} {hp : Heap} {g : Array GenState} {d : Drawn} {t : Nat} {os : OsState} {s : Shared} {K : Frag} {mg : Str → Option Value} {C : Addr} {x0 : Str} {B newId initId : String} {bmB : List Value}
theorem giv_osa (BX : BaseX B newId initId bmB) {name : Str} {tk : Tok} {v : Value} {x : Addr} {fv : Array Value} {cd : ClassData}
    (X : K.In hp) (hx : hp.get? x = some { cls := .ref C, data := .fields fv }) (ho : excOver K C bmB = true) (hcd : clsIn K C = some cd) (hh : cd.hasDict = true) (ha : findIn K (.ref C) name = some none)
    (hq : ∀ h' tk' dx, (∀ b o, b ≠ x → hp.get? b = some o → h'.get? b = some o) → hp.objs.size ≤ dx → dx ≠ x → h'.get? x = some { cls := .ref C, dict := some dx, data := .fields fv } →
      h'.Ns1 dx (fun y => if y = name then some v else none) → R (.ok (.ret .none)) ⟨h', g, d, tk', os⟩) :
    codeAny (model prog w) A (.call (.builtin "object.__setattr__") ⟨[.ref x, .str name tk, v], []⟩) R ⟨hp, g, d, t, os⟩ := by
  have I : InstAt hp x { cls := .ref C, data := .fields fv } C none := ⟨hx, rfl, rfl, trivial⟩
  have hxs : x ≠ hp.objs.size := Nat.ne_of_lt (Heap.lt_size hx)
  have ht : takerIn K C name = some none := by unfold takerIn; rw [ha]; rfl
  refine osa_openX (s := ⟨hp, g, d, t, os⟩) BX.st X I ho ht fun b => ?_
  have hcls : Looks (model prog w) hp (classData C) cd := looks_clsIn X hcd
  obtain ⟨nm, bs, mro, ns, qn, hd, sn, sb, ab, col, del⟩ := cd
  dsimp only at hh
  subst hh
  show wpAny _ _ (storeInOwnDict (.ref x) (.ref C) (.str name tk) name v b) _ _ _
  unfold storeInOwnDict ownDictForStores
  repeat (first | with_reducible refine HandSPX.store_in_new ?_ ?_ | with_reducible refine wpAny_loadPart_at hx ?_ | with_reducible refine hcls.at ?_ | wp_step)
  · exact ⟨_, #[], _, (Heap.get?_update_ne _ _ _ _ hxs.symm).trans (Heap.get?_push_at rfl rfl), rfl, fun e he => absurd he (by simp), fun _ => rfl⟩
  · intro h' tk' hn' hs
    have hx₁ : (hp.push { cls := .type "dict", data := .dict #[] }).get? x = some { cls := .ref C, data := .fields fv } := Heap.get?_push_of_some _ hx
    refine hq h' tk' hp.objs.size (fun b o hb ho => ?_) (Nat.le_refl _) hxs.symm ?_ hn'
    · exact (hs.2 b (Nat.ne_of_lt (Heap.lt_size ho))).trans ((Heap.get?_update_ne _ _ _ _ hb).trans (Heap.get?_push_of_some _ ho))
    · exact (hs.2 x hxs).trans (Heap.get?_update_self _ hx₁ rfl)
/-- the wrapper called: the args are laid anew -/
theorem giv_wrap (BX : BaseX B newId initId bmB) {u x t0 : Addr} {rest : List Value} {Q : Value → Shared → Prop} (X : K.In hp) (q : excInitIn K C bmB newId = true) (hu : hp.get? u = some (kxs_mw initId x)) (he : hp.get? x = some (excO C t0)) (hz : rest.length ≤ sizeLine)
    (h : ∀ h' t1, (∀ b o, b ≠ x → hp.get? b = some o → h'.get? b = some o) → h'.get? x = some (excO C t1) → Q .none ⟨h', g, d, t, os⟩) : wpAny (model prog w) A (call (.ref u) rest) Q E ⟨hp, g, d, t, os⟩ := by
  obtain ⟨nm, N', qn, bs, bm, hdct, sn, sub, ab, col, dd, k0, k1, k2, k3, k5, hC, hT⟩ := excInit_of X q
  refine wpAny_call (codeAny_of_tree ?_)
  show wpAny _ A.in1 (callAny (.ref u) ⟨rest, []⟩) _ _ _
  simp only [callAny]
  refine wpAny_bind (wpAny_load hu ?_)
  simp only [kxs_mw, show (Value.type "method-wrapper" == Value.type "method" || Value.type "method-wrapper" == Value.type "builtin_function_or_method" || Value.type "method-wrapper" == Value.type "method-wrapper") = true by decide, if_true]
  refine KFB.if_so (by decide) ?_
  refine wpAny_bind (check_bound_init BX.ex.toExcCallFacts hC he rfl ?_)
  refine wpAny_bind (wpAny_pure (wpAny_pure ?_))
  refine ⟨plainId_quiet BX.ex.init.plain _, codeAny_builtin BX.ex.initEntry ?_⟩
  exact exc_init_tree (cls := .ref C) (t0 := t0) (dv := none) (c2 := .none) (c3 := .none) (b4 := .bool false) he hz fun h' k e' _ => h h' hp.objs.size k e'
theorem glob_super {env : Env} {mb : Str → Option Value} {M : Model} {Q : Value → Shared → Prop} (hns : s.heap.Ns env.globals mg) (noS : mg "super" = none) (hb : s.heap.Ns env.builtins mb) (hbb : ∀ x : Str, x ≠ "__name__" → mb x = bootBuiltins x) (h : Q (.type "super") s) : wpAny M A (loadGlobal env "super") Q E s :=
  loadGlobal_builtin hns noS hb ((hbb _ (by decide +kernel)).trans (by first | boot_by_name | rfl | kernel_rfl)) h
theorem giv_init (BX : BaseX B newId initId bmB) (T : Giv prog K mg x0 C B newId initId bmB) {fI cc cda : Addr} {qual : Str} {oc ccl cl : Value} {od cdd cld : Option Addr} {doc pm ct : Value} {an : Option Addr} {osl ccs csl : Array (Option Value)} {vs : Array Value} {file : Str} {tf : Tok} {p1 p2 q0 q1 q2 q3 q4 q5 q6 q7 q8 q9 : Pos}
    (ho : K.lookup fI = some ⟨oc, od, .func (ksFn "__init__" qual (gA p1 p2) (gB q0 q1 q2 q3 q4 q5 q6 q7 q8 q9) gS .none .none doc pm an (.ref cda) ct cc), osl⟩) (hcdi : codeIn K (.ref cda) qual = true)
    (hcode : K.lookup cda = some ⟨ccl, cdd, .fields vs, ccs⟩) (hvs : vs[2]? = some (.str file tf)) (hfile : ((prog.main.file : Str) == file) = true) (hcell : K.lookup cc = some ⟨cl, cld, .cell (some (.ref C)), csl⟩) (hmc : ∀ L, MCall q0 q1 q2 q3 q4 (ksEnv qual gS L fI (.ref cda) cc))
    {x t0 : Addr} {v : Value} {mb : Str → Option Value} (X : K.In s.heap) (hlim : s.heap.NoLimit) (hns : s.heap.Ns mainGlobals mg) (hb : s.heap.Ns builtinsNs mb) (hbb : ∀ x : Str, x ≠ "__name__" → mb x = bootBuiltins x)
    (hx : s.heap.get? x = some (excO C t0)) (hnx : K.lookup x = none) (hroom : A.depth < recursionLimit)
    (hq : ∀ h' tk dx, InitEnd s.heap h' x C dx v → R (.ok (.ret .none)) { s with heap := h', toks := tk }) :
    codeAny (model prog w) A (.call (.ref fI) ⟨[.ref x, v], []⟩) R s := by
  obtain ⟨cd, hcd, hdd⟩ := any_some T.hd
  refine ks_codeAny_call_defAt (fd := ksFn "__init__" qual (gA p1 p2) (gB q0 q1 q2 q3 q4 q5 q6 q7 q8 q9) gS .none .none doc pm an (.ref cda) ct cc) (body := gB q0 q1 q2 q3 q4 q5 q6 q7 q8 q9) (binds := [("self", .ref x), ("given", v)])
    hroom (X _ _ ho) rfl hlim (codeRec_of X hcdi) rfl (BindsTo.of_eq (by first | rfl | with_unfolding_all rfl)) (show ∀ y ∈ gS.names, y.2 ≠ NameKind.cell by decide) (fun y hy => ?_) (fun h₁ hn k => ?_)
  · rcases List.mem_cons.mp hy with e | hy
    · subst e; rfl
    · rcases List.mem_cons.mp hy with e | hy
      · subst e; rfl
      · cases hy
  have X₁ : K.In h₁ := X.keeps k
  have hx₁ := k _ _ hx
  have xL : s.heap.objs.size ≠ x := Nat.ne_of_gt (Heap.lt_size hx)
  show _root_.PySem.wpAt _ _ (.func _ (ksEnv qual gS s.heap.objs.size fI (.ref cda) cc)) (execs _ (ksEnv qual gS s.heap.objs.size fI (.ref cda) cc)) _ _ _
  obtain ⟨pl, hmc⟩ := hmc s.heap.objs.size
  refine ks_wpAt_execs_cons (ks_wpAt_Expr_any (ks_wpAt_MethodCall (pl := pl) ?_ hmc))
  have Ix : InstAt h₁ x (excO C t0) C none := ⟨hx₁, rfl, rfl, trivial⟩
  obtain ⟨oD, hD1, hD2⟩ : ∃ oD, h₁.get? C = some oD ∧ oD.data = .cls cd := by
    have hcd' := hcd
    unfold clsIn at hcd'
    split at hcd'
    · rename_i c d cd' sl ho
      cases hcd'
      exact ⟨_, X₁ _ _ ho, rfl⟩
    · cases hcd'
  refine ks_wpAt_super_base (env := ksEnv qual gS s.heap.objs.size fI (.ref cda) cc) rfl rfl rfl rfl (X₁ _ _ ho) rfl rfl rfl (X₁ _ _ hcode) rfl hvs hfile T.htop ?_
  refine ks_loadName_global rfl rfl (glob_super (mg := mg) (mb := mb) (hns.keeps k) T.noS (hb.keeps k) hbb ⟨rfl, ?_⟩)
  refine wpAny_loadName_free rfl rfl rfl ⟨_, X₁ _ _ hcell, rfl⟩ ?_
  refine wpAny_loadName_local (v := .ref x) rfl rfl hn rfl ?_
  refine ks_wpAny_isType_cls hD1 hD2 ⟨rfl, ?_⟩
  refine ks_wpAny_call_super hD1 hD2 hx₁ rfl (fun c e => by cases e) (looks_mroIn X₁ T.mroC) (fun h₂ hso k₂ => ?_)
  have X₂ : K.In h₂ := X₁.keeps k₂
  have Ix₂ : InstAt h₂ x (excO C t0) C none := ⟨k₂ _ _ hx₁, rfl, rfl, trivial⟩
  have hI : Looks (model prog w) h₂ (isInstance (.ref x) (.type B)) true := Ix₂.type.andThen (looks_subIn X₂ T.suB)
  have hsup := T.sup
  unfold ks_superIn at hsup
  rw [hcd] at hsup
  refine kxs_getMethod BX.kx hso (looks_opaque X₂ T.st) (l₀ := cd.mro) (fun A Q E s k q => wpAny_bind ((looks_clsIn X₂ hcd) A _ E s k (wpAny_pure q))) rfl X₂ hsup hI (ks_ne X₂ Ix₂ hcd) (by decide) ?_
  have k₃ : ∀ b o, h₂.get? b = some o → (h₂.push (kxs_mw initId x)).get? b = some o := fun b o e => Heap.get?_push_of_some _ e
  have kk : ∀ b o, h₁.get? b = some o → (h₂.push (kxs_mw initId x)).get? b = some o := fun b o e => k₃ b o (k₂ b o e)
  have hu : (h₂.push (kxs_mw initId x)).get? h₂.objs.size = some (kxs_mw initId x) := Heap.get?_push_at rfl rfl
  refine kxs_callWith (i := initId) (x := x) (first := []) (by rfl) (evalArgs_plain ?_)
  refine Calls.spliced_cons (wpAny_Name (wpAny_loadName_local (v := v) rfl rfl (hn.keeps kk) rfl ?_) (by decide))
  refine Calls.spliced_nil ⟨hu, ?_⟩
  have ux : h₂.objs.size ≠ x := Nat.ne_of_gt (Heap.lt_size (k₂ _ _ hx₁))
  refine giv_wrap BX (X₂.keeps k₃) T.exI hu (kk _ _ hx₁) (one_size v) fun h₄ t1 k₄ hx₄ => ?_
  have X₄ : K.In h₄ := fun a o e => k₄ a o (fun z => by rw [z, hnx] at e; cases e) (kk _ _ (X₁ a o e))
  have hn₄ : h₄.Ns s.heap.objs.size (fun y => ([("self", .ref x), ("given", v)] : List (Str × Value)).reverse.lookup y) := by
    obtain ⟨oL, es, ep, hL, r⟩ := hn
    exact ⟨oL, es, ep, k₄ _ _ xL (kk _ _ hL), r⟩
  refine ks_wpAt_execs_cons (wpAt_of_wpAny (plainObj_wpAny_Assign_Attribute ?_))
  refine wpAny_Name (wpAny_loadName_local (v := v) rfl rfl hn₄ rfl ?_) (by decide)
  refine wpAny_Name (wpAny_loadName_local (v := .ref x) rfl rfl hn₄ rfl ?_) (by decide)
  refine set_plain X₄ (ox := excO C t1) (od := none) ⟨hx₄, rfl, rfl, trivial⟩ T.sa ?_
  refine giv_osa BX X₄ hx₄ T.exO hcd hdd T.noN (fun h₅ tk₅ dx k₅ dn dne hx₅ hn₅ => ?_)
  refine wpAt_of_wpAny (wpAny_execs_nil (hq h₅ tk₅ dx ⟨fun b o hb e => k₅ b o hb (k₄ b o hb (kk _ _ (k _ _ e))), ⟨t1, hx₅⟩, ?_, dne, hn₅⟩))
  have z : s.heap.objs.size < h₄.objs.size := by
    obtain ⟨oL, es, ep, hL, r⟩ := hn₄
    exact Heap.lt_size hL
  exact Nat.le_of_lt (Nat.lt_of_lt_of_le z dn)
theorem giv_made (BX : BaseX B newId initId bmB) (T : Giv prog K mg x0 C B newId initId bmB) {v : Value} {mb : Str → Option Value} (X : K.In s.heap) (hlim : s.heap.NoLimit) (hns : s.heap.Ns mainGlobals mg) (hb : s.heap.Ns builtinsNs mb) (hbb : ∀ x : Str, x ≠ "__name__" → mb x = bootBuiltins x) (hroom : A.depth + 1 < recursionLimit)
    (hq : ∀ h' tk e d, OwnMade s.heap h' e C d v → R (.ok (.ret (.ref e))) { s with heap := h', toks := tk }) :
    codeAny (model prog w) A (.call (.ref C) ⟨[v], []⟩) R s := by
  obtain ⟨fI, cc, cda, qual, oc, ccl, cl, od, cdd, cld, doc, pm, ct, an, osl, ccs, csl, vs, file, tf, p1, p2, q0, q1, q2, q3, q4, q5, q6, q7, q8, q9, iC, tI, ho, hcdi, hcode, hvs, hfile, hcell, hmc⟩ := T.fn
  obtain ⟨nm, N, q, bs, bm, hdct, sn, sub, ab, col, dd, k0, k1, k2, k3, k5, hC, hT⟩ := excInit_of X T.exI
  obtain ⟨hp, g, dr, tk, os⟩ := s
  have k : ∀ b o, hp.get? b = some o → ((hp.push (kdv_tup [v])).push (excO C hp.objs.size)).get? b = some o := fun b o e => Heap.get?_push_of_some _ (Heap.get?_push_of_some _ e)
  have hget : ((hp.push (kdv_tup [v])).push (excO C hp.objs.size)).get? (hp.objs.size + 1) = some (excO C hp.objs.size) := by heap_get
  have hnx : K.lookup (hp.objs.size + 1) = none := by
    cases e : K.lookup (hp.objs.size + 1) with
    | none => rfl
    | some o =>
      have z : hp.get? (hp.objs.size + 1) = some o := X _ _ e
      exact absurd (Nat.lt_of_succ_lt (Heap.lt_size z)) (Nat.lt_irrefl _)
  refine call_own BX.ex hT hC (looks_findIn X iC) (fun self => bind_fn X self tI) (one_size v) ?_
  refine giv_init (s := ⟨(hp.push (kdv_tup [v])).push (excO C hp.objs.size), g, dr, tk, os⟩) BX T ho hcdi hcode hvs hfile hcell hmc (X.keeps k) (hlim.keeps k) (hns.keeps k) (hb.keeps k) hbb hget hnx ?_ fun h' tk' dx ⟨k', ⟨t1, hx⟩, dn, dne, hns'⟩ => ?_
  · show A.depth + 1 < recursionLimit
    exact hroom
  · have old : ∀ b o, hp.get? b = some o → h'.get? b = some o := fun b o e => k' b o (Nat.ne_of_lt (Nat.lt_succ_of_lt (Heap.lt_size e))) (k b o e)
    have z : hp.objs.size + 1 + 1 ≤ dx := by
      first
        | (simpa only [Heap.size_push] using dn)
        | exact dn
        | (have q := dn; rw [Heap.size_push, Heap.size_push] at q; exact q)
    exact ⟨rfl, hq h' tk' (hp.objs.size + 1) dx ⟨old, Nat.le_succ _, ⟨_, _, hx, rfl, rfl, rfl, rfl⟩, Nat.le_trans (Nat.le_trans (Nat.le_succ _) (Nat.le_succ _)) z, dne, hns'⟩⟩
end
end TX

set_option maxRecDepth 100000
set_option maxHeartbeats 4000000
/-! TY: raising, displays of dicts, dicts' items, comprehensions stored by name. -/
namespace TT
open PySem PySem.Spec PyProof.Rows L2
/-! ### raise X(e) -/
section
variable {X : Cx} {C : Addr} {x : Str} {Bn newId initId : String} {bmB : List Value}
theorem relO_giv {v : V} {v' : Value} (r : RelV v v') (f : Str) : RelO (List.lookup f [(("given" : Str), v)]) (if f = "given" then some v' else none) := by
  by_cases hw : f = "given"
  · subst hw
    rw [if_pos rfl]
    have q : List.lookup ("given" : Str) [(("given" : Str), v)] = some v := by simp [List.lookup]
    rw [q]
    exact r
  · rw [if_neg hw]
    have qw : (f == ("given" : Str)) = false := by simpa using hw
    have q2 : List.lookup f [(("given" : Str), v)] = none := by simp [List.lookup, qw]
    rw [q2]
    trivial
def tMkG (C : Addr) (ta : TA) : St → Hp → XK → Prop := fun σ H Q => ta σ H fun vs H1 => ∃ v, vs = [v] ∧ ∀ d, H1 d = none → Q (.ref C) (some d) (upd H1 d (.xd [(("given" : Str), v)]))
theorem pmk_giv {a : Expr} {ta : TA} {p pos : Pos} {k : Nat} (BX : TX.BaseX Bn newId initId bmB) (T : TX.Giv X.prog X.K X.mg x C Bn newId initId bmB) (hr : Room k X.A) (ha : PA X [a] ta) (hg : Gl X x := by rfl)
    (he : starEach (a :: []) X.env = (false, eval a X.env) :: starEach [] X.env := by rfl) (hpl : (backTo pos (starEach [] X.env)).any (·.1) = false := by rfl) (hdb : (x == ("__debug__" : Str)) = false := by decide) :
    PMk X (.Call (.Name x p) [a] [] pos) (tMkG C ta) := by
  intro pins s σ H Q I h
  refine wpAny_Call_Name_kw (ld_glob I hg T.gC ?_ hdb)
  refine PySem.W.callWith_K (h₀ := X.base) I.ok.mod.kin T.kC (thn (ha.run pos pins s σ H _ I h) fun us s1 hh => ?_) he hpl
  obtain ⟨vs, H1, I1, r1, v, ev, q1⟩ := hh
  subst ev
  refine ⟨I1.kIn, ?_⟩
  cases r1 with
  | cons rv rn =>
    rename_i v' us'
    cases rn
    show wpAny _ _ (call (.ref C) [v']) _ _ _
    have hlim := I1.nolimit
    obtain ⟨mb, hb, hbb⟩ := I1.mod.blt
    have hglob := I1.mod.glob.keeps I1.bk
    have hb := hb.keeps I1.bk
    obtain ⟨hp, g, dr, tk, os⟩ := s1
    refine wpAny_call (TX.giv_made BX T I1.kIn hlim hglob hb hbb (by have := hr.dp; omega) fun h' tk' e d M => ?_)
    show MkP X pins σ Q (.ref e) ⟨h', g, dr, tk', os⟩
    obtain ⟨oe, fv, hoe, hc, hd, hdat, h1⟩ := M.obj
    have hns := M.ns
    obtain ⟨G', g1, g2⟩ := restrict h' fun b => decide (b ≠ e)
    have gk : ∀ b, b ≠ e → G'.get? b = h'.get? b := fun b hb => g1 b (decide_eq_true hb)
    have ge : G'.get? e = none := g2 e (by simp)
    have old : ∀ b o, hp.get? b = some o → G'.get? b = some o := fun b o q => (gk b (Nat.ne_of_lt (Nat.lt_of_lt_of_le (Heap.lt_size q) M.new))).trans (M.keep b o q)
    have ob : ObjOk X.prog X.w (upd H1 d (.xd [(("given" : Str), v)])) G' d (.xd [(("given" : Str), v)]) :=
      ⟨_, hns.at (fun o q => (gk d M.dne).trans q), fun f => relO_giv rv f⟩
    have J : Inv X pins σ (upd H1 d (.xd [(("given" : Str), v)])) ⟨G', g, dr, tk', os⟩ := I1.laid (t' := tk') old M.dbig ob
    refine ⟨e, oe, fv, ⟨G', g, dr, tk', os⟩, _, .ref C, some d, rfl, J, fun b o q => ?_, ge, hoe, ⟨hc, hd⟩, hdat, h1, ?_, rfl, I1.bare, raises_own T.exC T.tyC, q1 d (I1.hok.fresh M.dbig)⟩
    · by_cases hb : b = e
      · have q' : G'.get? b = some o := q
        rw [hb, ge] at q'; cases q'
      · exact (gk b hb).symm.trans q
    · rw [upd_ne (Ne.symm M.dne)]
      exact I1.hok.fresh M.new
variable {T : Tb} {W : WX} {rp : List Nat}
def errM (c : Str) (x : B) : M Flw := fun env => .err c [("given", x.2)] env
def raiseM (c : Str) (m : M B) : M Flw := M.bind (shM m) (errM c)
theorem Step.besideS {s : St} {F H : Hp} {env : Ev} {a : Addr} {o : HO} (E : ERep T F H s env) (ha : H a = none) : Step T s F H env F (upd H a o) env :=
  (Step.refl E).beside (E.le.free ha) (fun z => by obtain ⟨u, hu⟩ := z.there E; rw [ha] at hu; cases hu) ha (.inl ha)
theorem ps_raiseM {a : Expr} {m : M B} {p pos pos2 : Pos} {k : Nat} (hc : X.calm = true) (BX : TX.BaseX Bn newId initId bmB) (G : TX.Giv X.prog X.K X.mg x C Bn newId initId bmB) (hr : RoomG k X.A) (tk : Takes X W) (hcl : T.cl x = some C) (ha : PE X a (tV T W m)) (hg : Gl X x := by rfl)
    (he : starEach (a :: []) X.env = (false, eval a X.env) :: starEach [] X.env := by rfl) (hpl : (backTo pos (starEach [] X.env)).any (·.1) = false := by rfl) (hdb : (x == ("__debug__" : Str)) = false := by decide) :
    PS X (.Raise (some (.Call (.Name x p) [a] [] pos)) none pos2) (tS T W rp (raiseM x m)) := by
  refine PSimp (ps_raise hc tk (pmk_giv BX G hr.room (pa_cons (pe_shM ha) pa_nil he) hg he hpl hdb)) ?_
  rintro D s H ⟨F, env, E, h⟩
  refine ⟨F, env, E, PSt.bindE (rel := relV T s) h fun v y env1 F1 H1 ey st r h1 => ⟨v, rfl, fun d hd => ?_⟩⟩
  have y1 := shM_val ey
  obtain ⟨own, dy⟩ := y
  simp only at y1
  subst y1
  have fd : F1 d = none := st.rep.le.free hd
  have m : Same F1 (upd F1 d (.xd [(("given" : Str), v)])) := same_upd fd
  have S : Step T s F1 H1 env1 (upd F1 d (.xd [(("given" : Str), v)])) (upd H1 d (.xd [(("given" : Str), v)])) env1 :=
    ⟨st.rep.new m (upd_le st.rep.le) (same_upd hd) (fun b e n => by
      by_cases hb : b = d
      · subst hb; exact hd
      · rw [upd_ne hb] at n; exact absurd e n), m, fun b u e _ _ => same_upd hd _ _ e, fun b e n => by
      by_cases hb : b = d
      · subst hb; exact .inl hd
      · rw [upd_ne hb] at n; exact absurd e n, fun i d e => ⟨d, e⟩, fun b e => (same_upd hd).free e⟩
  exact h1 C (some d) s _ _ hcl S.S ⟨d, _, rfl, upd_same, rfl, .cons (Rep.mono m r.1.rep) .nil⟩
end

/-! ### comprehensions stored by name -/
section
variable {T : Tb} {W : WX} {X : Cx} {rp : List Nat}
theorem pts_nilM : PTs X [] (tT T W (M.pure true)) := by
  refine ⟨fun pins s σ H Q I h => pts_nil.run pins s σ H Q I ?_⟩
  obtain ⟨F, env, E, h⟩ := h
  exact h true F H (Step.refl E) rfl
theorem pts_oneM {c : Expr} {m : M Bool} (h : PT X c (tT T W m)) : PTs X [c] (tT T W m) := pts_one h
/-! ### displays of dicts -/
def evalsM : List (M B) → M (List D)
  | [] => M.pure []
  | m :: ms => M.bind (shM m) fun x => M.bind (evalsM ms) fun ds => M.pure (x.2 :: ds)
/-- a name's place among keys -/
def findK (k : Key) : List Key → Option Nat
  | [] => none
  | j :: js => if j = k then some 0 else (findK k js).map (· + 1)
def nodupK : List Key → Bool
  | [] => true
  | k :: ks => (findK k ks).isNone && nodupK ks
def dispM (ks : List Key) (ms : List (M B)) : M B := M.bind (evalsM ms) fun ds env => if ks.length = ds.length ∧ ks.length ≤ 15 ∧ nodupK ks = true then .ok (true, .dct ks ds) env else .bad
def trsOf (T : Tb) (W : WX) : List Key → List (M B) → List (TE × TE)
  | k :: ks, m :: ms => (tC (kV k), tV T W (shM m)) :: trsOf T W ks ms
  | _, _ => []
theorem tPairs_of : ∀ (ks : List Key) (ms : List (M B)) {s : St} {H : Hp} {Q : List (V × V) → Hp → Prop} {F : Hp} {env : Ev}, ks.length = ms.length → ERep T F H s env →
    PG T (fun H0 F H env (b : List V) (x : List D) => Reps T F b x) W s F H env (fun vs H' => Q (List.zipWith (fun k v => (kV k, v)) ks vs) H') (evalsM ms env) → tPairs (trsOf T W ks ms) s H Q
  | [], [], s, H, Q, F, env, _, E, h => h [] F H (Step.refl E) .nil
  | k :: ks, m :: ms, s, H, Q, F, env, hl, E, h => by
    show tC (kV k) s H fun x H1 => tV T W (shM m) s H1 fun y H2 => tPairs (trsOf T W ks ms) s H2 fun ps H3 => Q ((x, y) :: ps) H3
    unfold evalsM at h
    refine ⟨F, env, E, PG.bind (rel2 := fun H0 F H env (b : List V) (x : List D) => Reps T F b x) (fun _ _ _ _ _ _ _ _ h => h) h fun v x env1 F1 H1 ex st r h1 => ?_⟩
    refine tPairs_of ks ms (by simpa using hl) st.rep ?_
    refine PG.bind (rel2 := fun H0 F H env (b : List V) (x : List D) => Reps T F b x) (fun _ _ _ _ _ _ _ _ h => h) h1 fun vs ds env2 F2 H2 _ st2 r2 h2 => ?_
    have x1 := shM_val ex
    obtain ⟨own, d⟩ := x
    simp only at x1
    subst x1
    exact h2 (v :: vs) F2 H2 (Step.refl st2.rep) (.cons (Rep.mono st2.mono r.1.rep) r2)
  | [], _ :: _, _, _, _, _, _, hl, _, _ => by simp at hl
  | _ :: _, [], _, _, _, _, _, hl, _, _ => by simp at hl
theorem findK_none : ∀ {ks : List Key} {k : Key}, findK k ks = none → k ∉ ks
  | [], _, _ => by simp
  | j :: js, k, h => by
    unfold findK at h
    by_cases e : j = k
    · rw [if_pos e] at h; cases h
    · rw [if_neg e] at h
      cases q : findK k js with
      | none =>
        simp only [List.mem_cons, not_or]
        exact ⟨fun z => e z.symm, findK_none q⟩
      | some i => rw [q] at h; cases h
theorem putK_new {kvs : List (Key × V)} {k : Key} {v : V} (h : k ∉ kvs.map (·.1)) : putK kvs k v = kvs ++ [(k, v)] := by
  unfold putK
  rw [if_neg]
  intro z
  obtain ⟨p, hp, e⟩ := List.any_eq_true.mp z
  exact h (List.mem_map.mpr ⟨p, hp, of_decide_eq_true e⟩)
theorem mergeK_new : ∀ (ks : List Key) (vs : List V) (kvs : List (Key × V)), ks.length = vs.length → nodupK ks = true → (∀ k ∈ ks, k ∉ kvs.map (·.1)) → mergeK kvs (ks.zip vs) = kvs ++ ks.zip vs
  | [], _, kvs, _, _, _ => by simp [mergeK]
  | k :: ks, v :: vs, kvs, hl, hn, hd => by
    unfold nodupK at hn
    rw [Bool.and_eq_true, Option.isNone_iff_eq_none] at hn
    show mergeK (putK kvs k v) (ks.zip vs) = kvs ++ (k, v) :: ks.zip vs
    rw [putK_new (hd k List.mem_cons_self), mergeK_new ks vs _ (by simpa using hl) hn.2 (fun j hj => ?_)]
    · simp
    · rw [List.map_append, List.mem_append, not_or]
      refine ⟨hd j (List.mem_cons_of_mem _ hj), ?_⟩
      simp only [List.map_cons, List.map_nil, List.mem_singleton]
      intro e
      subst e
      exact findK_none hn.1 hj
  | _ :: _, [], _, hl, _, _ => by simp at hl
theorem zipWith_map {ks : List Key} {vs : List V} : List.zipWith (fun k v => (kV k, v)) ks vs = (ks.zip vs).map fun kv => (kV kv.1, kv.2) := by
  rw [List.zip, List.map_zipWith]
theorem pe_dispM {pos : Pos} {keys : List (Option Expr)} {values : List Expr} {ks : List Key} {ms : List (M B)} (h : PPs X pos keys values (trsOf T W ks ms)) (hks : ks.length = ms.length) (hall : keys.all (·.isSome) = true := by rfl) (hl : keys.length = values.length := by rfl) (h0 : keys ≠ [] := by simp)
    (h15 : keys.length ≤ 15 := by decide) : PE X (.Dict keys values pos) (tV T W (dispM ks ms)) := by
  refine PEimp (pe_disp h hall hl h0 h15) ?_
  rintro s H Q ⟨F, env, E, h⟩ p hp
  have fp : F p = none := E.le.free hp
  have np : ¬ OwnE s env p := fun z => by obtain ⟨u, hu⟩ := z.there E; rw [hp] at hu; cases hu
  have st0 : Step T s F H env F (upd H p (.dK [])) env := Step.besideS E hp
  refine tPairs_of ks ms hks st0.rep ?_
  have h1 : PG T (relV T s) W s F H env Q (M.bind (evalsM ms) (fun ds env => if ks.length = ds.length ∧ ks.length ≤ 15 ∧ nodupK ks = true then .ok (true, .dct ks ds) env else .bad) env) := h
  cases e1 : evalsM ms env with
  | bad => rw [bind_bad e1] at h1; exact h1
  | err c fs env1 => rw [bind_err e1] at h1; exact ErrP.later h1 st0
  | ok ds env1 =>
    rw [bind_ok e1] at h1
    intro vs F2 H2 st r
    split at h1
    case isFalse => exact h1.elim
    rename_i hz
    have np' : ¬ OwnE s env p := np
    have hp2 : H2 p = some (.dK []) := st.frame _ _ upd_same nt_dK np'
    have lv : ks.length = vs.length := by rw [r.length]; exact hz.1
    have eq1 := mergeK_new ks vs [] lv hz.2.2 (by simp)
    have k1 : (ks.zip vs).map (·.1) = ks := by rw [List.map_fst_zip (Nat.le_of_eq lv)]
    have k2 : (ks.zip vs).map (·.2) = vs := by rw [List.map_snd_zip (Nat.le_of_eq lv.symm)]
    refine ⟨hp2, ks.zip vs, zipWith_map, by rw [List.length_zip]; omega, ?_⟩
    rw [eq1, List.nil_append]
    have f2 : F2 p = none := by
      cases z : F2 p with
      | none => rfl
      | some u =>
        rcases st.fresh p fp (by rw [z]; simp) with y | y
        · rw [upd_same] at y; cases y
        · exact (np y).elim
    have S : Step T s F H env F2 (upd H2 p (.dK (ks.zip vs))) env1 := (st0.trans st).beside f2 (fun z => np ((st0.trans st).ownE z)) hp (.inr ⟨_, hp2, trivial⟩)
    refine h1 (.ref p) F2 _ S ⟨⟨⟨p, rfl, f2, ks.zip vs, upd_same, k1, by rw [k2]; exact r⟩, fun _ a ea z => ?_⟩, fun _ a ea => by cases ea; exact hp⟩
    cases ea
    exact np (S.ownE z)
theorem pe_dnewM {pos : Pos} : PE X (.Dict [] [] pos) (tV T W fun env => .ok (true, .dct [] []) env) := by
  refine PEimp pe_dnewK ?_
  rintro s H Q ⟨F, env, E, h⟩ p hp
  have n := New.dct (T := T) (kvs := []) (ks := []) (ds := []) E.le hp rfl .nil
  exact h _ F _ (n.step E).1 ⟨(n.step E).2, n.own⟩
/-! ### an item of a dict -/
def keyD : D → Option Key
  | .int i => some (.inl i)
  | .str x => some (.inr x)
  | _ => none
def dgetD : D → D → Option B
  | .dct ks ds, e => (keyD e).bind fun k => (findK k ks).bind fun i => (ds[i]?).map fun d => (false, d)
  | _, _ => none
theorem valV_find : ∀ {kvs : List (Key × V)} {k : Key} {i : Nat} {v : V}, findK k (kvs.map (·.1)) = some i → (kvs.map (·.2))[i]? = some v → valV kvs k = some v
  | [], _, _, _, h, _ => by cases h
  | p :: kvs, k, i, v, h, hv => by
    rw [List.map_cons] at h hv
    unfold findK at h
    by_cases e : p.1 = k
    · rw [if_pos e] at h
      cases h
      rw [valV_pos e]
      simpa using hv
    · rw [if_neg e] at h
      cases q : findK k (kvs.map (·.1)) with
      | none => rw [q] at h; cases h
      | some j =>
        rw [q] at h
        cases h
        rw [valV_neg e]
        exact valV_find q (by simpa using hv)
theorem pe_dgetM {a b : Expr} {ma mb : M Opd} {pos : Pos} (hu : X.A.units + 1 < cLine) (ha : PE X a (tO T W ma)) (hb : PE X b (tO T W mb)) (hs : NoSl b := by intro _ _; rfl) : PE X (.Subscript a b pos) (tV T W (bin2 dgetD ma mb)) := by
  refine PEimp (pe_dget hu ha hb hs) ?_
  rintro s H Q ⟨F, env, E, h1⟩
  refine ⟨F, env, E, PG.bind (rel2 := relV T s) relV_ok h1 fun v o env1 F1 H1 _ st r1 h2 => ?_⟩
  refine ⟨F1, env1, st.rep, PG.bind (rel2 := relV T s) relV_ok h2 fun w p env2 F2 H2 _ st2 r2 h3 => ?_⟩
  have r1 := OOk.step r1 st2
  unfold op2M at h3
  cases e1 : look env2 o with
  | none => simp only [e1] at h3; exact h3.elim
  | some x =>
    cases e2 : look env2 p with
    | none => simp only [e1, e2] at h3; exact h3.elim
    | some y =>
      simp only [e1, e2] at h3
      have tx := OOk.top st2.rep r1 e1
      have ty := OOk.top st2.rep r2 e2
      cases e3 : dgetD x.2 y.2 with
      | none => simp only [e3] at h3; exact h3.elim
      | some z =>
        simp only [e3] at h3
        generalize x.2 = dx at e3 tx
        generalize y.2 = dy at e3 ty
        unfold dgetD at e3
        split at e3
        · rename_i ks ds
          cases tx with
          | @dct a kvs _ vs _ hq k1 k2 rr =>
            cases e4 : keyD dy with
            | none => rw [e4] at e3; cases e3
            | some k =>
              rw [e4] at e3
              simp only [Option.bind] at e3
              cases e5 : findK k ks with
              | none => rw [e5] at e3; cases e3
              | some i =>
                rw [e5] at e3
                simp only at e3
                cases e6 : ds[i]? with
                | none => rw [e6] at e3; cases e3
                | some d =>
                  rw [e6] at e3
                  cases e3
                  obtain ⟨u, h5, h6⟩ := rr.get e6
                  subst k1 k2
                  have hw : w = kV k := by
                    cases ty <;> simp only [keyD] at e4 <;> cases e4 <;> rfl
                  exact ⟨a, u, rfl, .inl ⟨kvs, k, Rd.of hq, hw, (valV_find e5 h5).symm⟩, h3 u F2 H2 (Step.refl st2.rep) ⟨.sh h6, fun z => by cases z⟩⟩
        · cases e3
end
end TT

set_option maxRecDepth 100000
set_option maxHeartbeats 4000000
/-! TZ: repr of data; sorted texts. -/
namespace TT
open PySem PySem.Spec PyProof.Rows L2
mutual
/-- data as they are shown -/
def toR : D → Option PyData
  | .non => some .none
  | .bl b => some (.bool b)
  | .int i => some (.int i)
  | .str x => some (.str x)
  | .lst xs => (toRs xs).map .list
  | .tup xs => (toRs xs).map .tuple
  | .dct [] _ => some (.dict [])
  | .dct (_ :: _) _ => none
  | .frz _ => none
  | .ins _ _ _ => none
  | .opq _ _ => none
def toRs : List D → Option (List PyData)
  | [] => some []
  | x :: xs => match toR x, toRs xs with
    | some p, some ps => some (p :: ps)
    | _, _ => none
end
section
variable {T : Tb} {X : Cx} {pins : List (Addr × Obj)} {σ : St} {F H : Hp} {s : Shared}
theorem noSM {a : Addr} {o : HO} {u : Obj} (sm : F sysModules = some (smT u)) (h : F a = some o) (n : o ≠ smT u) : a ≠ sysModules := fun z => by
  subst z
  rw [sm] at h
  exact n (Option.some.inj h).symm
theorem lst_smO {xs : List V} {u : Obj} : (HO.lst xs) ≠ smT u := fun z => by unfold smT at z; cases z
theorem emptyDict_of {a : Addr} (I : Inv X pins σ H s) (h : H a = some (.dK [])) : ∃ o es n, s.heap.get? a = some o ∧ o.cls = .type "dict" ∧ o.data = .dict es n ∧ es.toList = [] := by
  obtain ⟨_, _, vs, r, o, es, ep, h1, h2, h3, h4, h5, h6⟩ := I.hok a _ h
  cases r
  cases h5' : es.toList with
  | nil => exact ⟨o, es, ep, h1, h2.1, h3, h5'⟩
  | cons e l =>
    exfalso
    rw [h5'] at h5
    cases h5
mutual
theorem reads_rep (I : Inv X pins σ H s) (hK : X.K = T.K) (l : Same F H) (sm : F sysModules = some (smT T.sm)) : ∀ (d : D) {v : V} {u : Value} {p : PyData}, Rep T F v d → toR d = some p → RelV v u → ∃ as, Reads s.heap u p as ∧ sysModules ∉ as
  | .non, v, u, p, h, e, r => by
    cases h; simp only [toR] at e; cases e; cases r
    exact ⟨_, .none, by simp⟩
  | .bl b, v, u, p, h, e, r => by
    cases h; simp only [toR] at e; cases e; cases r
    exact ⟨_, .bool b, by simp⟩
  | .int i, v, u, p, h, e, r => by
    cases h; simp only [toR] at e; cases e
    obtain ⟨t, rfl⟩ := r
    exact ⟨_, .int i t, by simp⟩
  | .str x, v, u, p, h, e, r => by
    cases h; simp only [toR] at e; cases e
    obtain ⟨t, rfl⟩ := r
    exact ⟨_, .str x t, by simp⟩
  | .lst xs, v, u, p, h, e, r => by
    cases h with
    | lst q rr =>
      cases r
      simp only [toR] at e
      cases e2 : toRs xs with
      | none => rw [e2] at e; cases e
      | some ps =>
        rw [e2] at e
        cases e
        obtain ⟨its, rv, ⟨o, n, ho, hc, _, hd⟩, _⟩ := I.list (SqL.of (l _ _ q))
        obtain ⟨as, h1, h2⟩ := reads_reps I hK l sm xs rr e2 rv
        refine ⟨_, .list ho hc hd h1, ?_⟩
        simp only [List.mem_cons, not_or]
        exact ⟨fun z => noSM sm q lst_smO z.symm, h2⟩
  | .tup xs, v, u, p, h, e, r => by
    cases h with
    | tup q rr =>
      cases r
      simp only [toR] at e
      cases e2 : toRs xs with
      | none => rw [e2] at e; cases e
      | some ps =>
        rw [e2] at e
        cases e
        obtain ⟨its, rv, ⟨o, ho, hc, n, hd⟩, _⟩ := I.tuple (by rw [hK]; exact seqT_mono l q)
        obtain ⟨as, h1, h2⟩ := reads_reps I hK l sm xs rr e2 rv
        exact ⟨_, .tuple ho hc hd h1, h2⟩
  | .dct [] vs, v, u, p, h, e, r => by
    cases h with
    | @dct a kvs _ _ _ q k1 k2 rr =>
      cases r
      simp only [toR] at e
      cases e
      have k0 : kvs = [] := by simpa using k1
      subst k0
      obtain ⟨o, es, n, h1, h2, h3, h4⟩ := emptyDict_of I (l _ _ q)
      have hd := I.hok _ _ (l _ _ q)
      obtain ⟨_, hS, _⟩ := hd
      refine ⟨_, .dict (kvs := []) (as := []) (bs := []) h1 h2 h3 (by rw [h4]; exact .nil) (by rw [h4]; exact .nil), ?_⟩
      simp only [List.append_nil, List.mem_cons, List.not_mem_nil, or_false]
      intro z
      rw [← z] at hS
      simp at hS
  | .dct (_ :: _) vs, v, u, p, h, e, r => by simp only [toR] at e; cases e
  | .frz xs, v, u, p, h, e, r => by simp only [toR] at e; cases e
  | .ins c ns vs, v, u, p, h, e, r => by simp only [toR] at e; cases e
  | .opq n vs, v, u, p, h, e, r => by simp only [toR] at e; cases e
theorem reads_reps (I : Inv X pins σ H s) (hK : X.K = T.K) (l : Same F H) (sm : F sysModules = some (smT T.sm)) : ∀ (ds : List D) {vs : List V} {us : List Value} {ps : List PyData}, Reps T F vs ds → toRs ds = some ps → Vals vs us → ∃ as, ReadsAll s.heap us ps as ∧ sysModules ∉ as
  | [], vs, us, ps, h, e, r => by
    cases h; simp only [toRs] at e; cases e; cases r
    exact ⟨_, .nil, by simp⟩
  | d :: ds, vs, us, ps, h, e, r => by
    cases h with
    | cons h hr =>
      cases r with
      | cons r rr =>
        simp only [toRs] at e
        cases e1 : toR d with
        | none => rw [e1] at e; cases e
        | some q =>
          cases e2 : toRs ds with
          | none => rw [e1, e2] at e; cases e
          | some qs =>
            rw [e1, e2] at e
            cases e
            obtain ⟨as, a1, a2⟩ := reads_rep I hK l sm d h e1 r
            obtain ⟨bs, b1, b2⟩ := reads_reps I hK l sm ds hr e2 rr
            exact ⟨_, .cons a1 b1, by rw [List.mem_append, not_or]; exact ⟨a2, b2⟩⟩
end
/-- what can be shown -/
def fitR (p : PyData) : Bool := p.showable && decide (p.depth ≤ 40) && decide (p.shown.length ≤ most)
def reprD : List D → Option B
  | [.lst xs] => (toR (.lst xs)).bind fun p => if fitR p then some (false, .str p.shown) else none
  | _ => none
/-- repr of a list -/
def rRepr (T : Tb) : List V → Hp → VK → Prop := fun vs H Q => ∃ F a us ds p, vs = [V.ref a] ∧ Same F H ∧ F sysModules = some (smT T.sm) ∧ H a = some (.lst us) ∧ a ≠ sysModules ∧ Reps T F us ds ∧ toRs ds = some p ∧ fitR (.list p) = true ∧ Q (.str (PyData.list p).shown) H
theorem callr_repr (hK : X.K = T.K) (hg : X.A.guards = some []) (hu : X.A.units + 64 < cLine) : CallR X (.builtin "repr") (rRepr T) := by
  intro pins s σ H vs us Q I r h
  obtain ⟨F, a, ws, ds, p, rfl, l, sm, ha, na, rr, e, ft, q⟩ := h
  have hu1 := Vals.ref1 r
  subst hu1
  obtain ⟨its, rv, ⟨o, n, ho, hc, _, hd⟩, _⟩ := I.list (SqL.of ha)
  obtain ⟨as, h1, h2⟩ := reads_reps I hK l sm ds rr e rv
  unfold fitR at ft
  simp only [Bool.and_eq_true, decide_eq_true_eq] at ft
  refine repr_of_reads' (.list ho hc hd h1) ft.1.1 (fun _ => ?_) hg (by have := ft.1.2; omega) (fun b o e => e) (fun h' u tk hk => ?_) (by rw [← most_line]; exact ft.2)
  · simp only [List.mem_cons, not_or]
    exact ⟨fun z => na z.symm, h2⟩
  · exact ⟨.str _, H, I.kept (t' := tk) hk, ⟨u, rfl⟩, q⟩
end
section
variable {T : Tb} {W : WX} {X : Cx} {e : Expr} {es : List Expr} {pos : Pos}
theorem PEimp2 {e : Expr} {t t' : TE} (h : PE X e t) (k : ∀ s H Q, t' s H Q → t s H Q) : PE X e t' := PEimp h k
theorem pe_reprM {m : M Opd} {p : Pos} (hK : X.K = T.K) (hgd : X.A.guards = some []) (hu : X.A.units + 64 < cLine) (ha : PE X e (tO T W m)) (hg : Gl X "repr" := by rfl) (hm : X.mg "repr" = none)
    (he : starEach [e] X.env = (false, eval e X.env) :: starEach [] X.env := by rfl) (hpl : (backTo pos (starEach [] X.env)).any (·.1) = false := by rfl) :
    PE X (.Call (.Name "repr" p) [e] [] pos) (tV T W (callN reprD (consM m nilM))) := by
  refine PEimp (pe_callB (callr_repr (T := T) hK hgd hu) hg hm boot_repr (pa_consM ha pa_nilM he) (he := he) (hpl := hpl)) ?_
  rintro s H Q ⟨F, env, E, h1⟩
  refine ⟨F, env, E, PG.bind (rel2 := relV T s) relV_ok h1 fun vs os env1 F1 H1 _ st r1 h2 => ?_⟩
  unfold opsM at h2
  cases e1 : looks env1 os with
  | none => rw [e1] at h2; exact h2.elim
  | some ds =>
    rw [e1] at h2
    cases e2 : reprD ds with
    | none => simp only [e2] at h2; exact h2.elim
    | some z =>
      simp only [e2] at h2
      have t := OOks.top st.rep r1 e1
      unfold reprD at e2
      split at e2
      · rename_i xs
        cases t with
        | cons t1 t =>
          cases t
          cases t1 with
          | @lst a us _ hq rr =>
            simp only [toR] at e2
            cases e3 : toRs xs with
            | none => rw [e3] at e2; cases e2
            | some p =>
              rw [e3] at e2
              simp only [Option.map, Option.bind] at e2
              split at e2
              · rename_i ft
                cases e2
                refine ⟨F1, a, us, xs, p, rfl, st.rep.le, st.rep.sm, hq, fun z => ?_, rr, e3, ft, h2 (.str _) F1 H1 (Step.refl st.rep) ⟨.sh (.str _), fun z => by cases z⟩⟩
                have := st.rep.le _ _ st.rep.sm
                rw [z] at hq
                rw [hq] at this
                exact lst_smO (Option.some.inj this)
              · cases e2
      · cases e2
end
/-! ### sorted texts -/
def insS (x : Str) : List Str → List Str
  | [] => [x]
  | y :: ys => if ltCps y.cps.toList x.cps.toList then y :: insS x ys else x :: y :: ys
def sortS : List Str → List Str
  | [] => []
  | x :: xs => insS x (sortS xs)
theorem lt_asymm : ∀ {a b : List Nat}, ltCps a b = true → ltCps b a = false
  | [], [], h => by cases h
  | [], _ :: _, _ => rfl
  | _ :: _, [], h => by cases h
  | x :: r, y :: t, h => by
    simp only [ltCps, Bool.or_eq_true, decide_eq_true_eq, Bool.and_eq_true, beq_iff_eq] at h
    simp only [ltCps, Bool.or_eq_false_iff, decide_eq_false_iff_not, Bool.and_eq_false_iff, beq_eq_false_iff_ne]
    rcases h with h | ⟨h1, h2⟩
    · exact ⟨by omega, .inl (by omega)⟩
    · exact ⟨by omega, .inr (lt_asymm h2)⟩
theorem lt_total : ∀ {a b : List Nat}, ltCps a b = false → ltCps b a = false → a = b
  | [], [], _, _ => rfl
  | [], _ :: _, h, _ => by cases h
  | _ :: _, [], _, h => by cases h
  | x :: r, y :: t, h, h' => by
    simp only [ltCps, Bool.or_eq_false_iff, decide_eq_false_iff_not, Bool.and_eq_false_iff, beq_eq_false_iff_ne] at h h'
    have e : x = y := by omega
    subst e
    rw [lt_total (h.2.resolve_left fun z => z rfl) (h'.2.resolve_left fun z => z rfl)]
theorem le_trans' : ∀ {a b c : List Nat}, ltCps b a = false → ltCps c b = false → ltCps c a = false
  | [], [], [], _, _ => rfl
  | [], _, _ :: _, _, _ => rfl
  | [], _ :: _, [], _, h => by cases h
  | _ :: _, [], _, h, _ => by cases h
  | _ :: _, _ :: _, [], _, h => by cases h
  | x :: r, y :: t, z :: u, h, h' => by
    simp only [ltCps, Bool.or_eq_false_iff, decide_eq_false_iff_not, Bool.and_eq_false_iff, beq_eq_false_iff_ne] at h h' ⊢
    refine ⟨by omega, ?_⟩
    by_cases e : z = x
    · right
      exact le_trans' (h.2.resolve_left fun q => q (by omega)) (h'.2.resolve_left fun q => q (by omega))
    · left; exact e
abbrev leS (x y : Str) : Prop := ltCps y.cps.toList x.cps.toList = false
theorem Str.ext' {x y : Str} (h : x.cps.toList = y.cps.toList) : x = y := by
  obtain ⟨⟨l⟩⟩ := x
  obtain ⟨⟨m⟩⟩ := y
  have h' : l = m := h
  rw [h']
theorem rising_pw : ∀ {r : List Str} {p : Str}, risingS p r = true → (p :: r).Pairwise leS
  | [], p, _ => by simp
  | x :: r, p, h => by
    simp only [risingS, Bool.and_eq_true, Bool.not_eq_true'] at h
    have ih := rising_pw h.2
    refine List.Pairwise.cons (fun y hy => ?_) ih
    rcases List.mem_cons.mp hy with e | e
    · subst e; exact h.1
    · exact le_trans' h.1 ((List.pairwise_cons.mp ih).1 y e)
theorem sorted_pw {r : List Str} (h : sortedS r = true) : r.Pairwise leS := by
  cases r with
  | nil => exact .nil
  | cons x r => exact rising_pw h
theorem insS_perm (x : Str) : ∀ xs : List Str, (insS x xs).Perm (x :: xs)
  | [] => .refl _
  | y :: ys => by
    unfold insS
    split
    · exact ((insS_perm x ys).cons y).trans (.swap _ _ _)
    · exact .refl _
theorem sortS_perm : ∀ xs : List Str, (sortS xs).Perm xs
  | [] => .refl _
  | x :: xs => (insS_perm x _).trans ((sortS_perm xs).cons x)
theorem insS_pw (x : Str) : ∀ xs : List Str, xs.Pairwise leS → (insS x xs).Pairwise leS
  | [], _ => by simp [insS]
  | y :: ys, h => by
    unfold insS
    obtain ⟨h1, h2⟩ := List.pairwise_cons.mp h
    split
    · rename_i q
      refine List.Pairwise.cons (fun z hz => ?_) (insS_pw x ys h2)
      rcases List.mem_cons.mp ((insS_perm x ys).mem_iff.mp hz) with e | e
      · subst e; exact lt_asymm q
      · exact h1 z e
    · rename_i q
      have q : ltCps y.cps.toList x.cps.toList = false := by simpa using q
      refine List.Pairwise.cons (fun z hz => ?_) h
      rcases List.mem_cons.mp hz with e | e
      · subst e; exact q
      · exact le_trans' q (h1 z e)
theorem sortS_pw : ∀ xs : List Str, (sortS xs).Pairwise leS
  | [] => .nil
  | x :: xs => insS_pw x _ (sortS_pw xs)
theorem pw_unique : ∀ {xs ys : List Str}, xs.Perm ys → xs.Pairwise leS → ys.Pairwise leS → xs = ys
  | [], ys, h, _, _ => by
    have := h.length_eq
    cases ys with
    | nil => rfl
    | cons => simp at this
  | x :: xs, ys, h, h1, h2 => by
    cases ys with
    | nil => have := h.length_eq; simp at this
    | cons y ys =>
      obtain ⟨a1, a2⟩ := List.pairwise_cons.mp h1
      obtain ⟨b1, b2⟩ := List.pairwise_cons.mp h2
      have e : x = y := by
        have m1 : x ∈ y :: ys := h.mem_iff.mp List.mem_cons_self
        have m2 : y ∈ x :: xs := h.mem_iff.mpr List.mem_cons_self
        rcases List.mem_cons.mp m1 with e | e
        · exact e
        · rcases List.mem_cons.mp m2 with e2 | e2
          · exact e2.symm
          · exact Str.ext' (lt_total (b1 x e) (a1 y e2))
      subst e
      rw [pw_unique (List.Perm.cons_inv h) a2 b2]
def sortedD : List D → Option B
  | [d] => ((lstOf d).bind strsD).bind fun xs => if xs.length < 64 then some (true, .lst ((sortS xs).map .str)) else none
  | _ => none
section
variable {T : Tb}
theorem reps_strs {F : Hp} : ∀ xs : List Str, Reps T F (xs.map V.str) (xs.map D.str)
  | [] => .nil
  | x :: xs => .cons (.str x) (reps_strs xs)
theorem ok_sorted : OkN T (rSortedS T.K) sortedD := by
  intro F H vs ds x l r h Q g
  unfold sortedD at h
  split at h
  · rename_i d
    cases e1 : lstOf d with
    | none => rw [e1] at h; cases h
    | some es =>
      cases e2 : strsD es with
      | none => simp only [e1, Option.bind, e2] at h; cases h
      | some xs =>
        simp only [e1, Option.bind, e2] at h
        split at h
        · rename_i hl
          cases h
          cases r with
          | cons rv r =>
            cases r
            obtain ⟨p, us, rfl, r2, q⟩ := rv.lstq l e1
            rw [strs_reps r2 e2] at q
            refine ⟨p, xs, rfl, q, hl, fun ys a hp hs ha => ?_⟩
            rw [pw_unique (hp.trans (sortS_perm xs).symm) (sorted_pw hs) (sortS_pw xs)]
            exact g _ _ _ (New.lst l ha (reps_strs _))
        · cases h
  · cases h
end
end TT

set_option maxRecDepth 100000
set_option maxHeartbeats 4000000
/-! TV: objects lent to a callee (an exception that is handled, cells); defs called within an except suite; try .. except (A, B, C) as e. -/
namespace TT
open PySem PySem.Spec PyProof.Rows L2
/-! ### lent objects -/
/-- the very object at a -/
def objIs (a : Addr) (o : Obj) : HO := .frz o smO
theorem objIs_nt {a : Addr} {o : Obj} : NT (objIs a o) := fun _ e => by unfold objIs at e; cases e
def addH (H : Hp) (G : List (Addr × Obj)) : Hp := fun b => match G.lookup b with
  | some o => some (objIs b o)
  | none => H b
def delH (H : Hp) (G : List (Addr × Obj)) : Hp := fun b => match G.lookup b with
  | some _ => none
  | none => H b
section
variable {H : Hp} {G : List (Addr × Obj)} {a : Addr} {o : HO}
theorem addH_out (h : G.lookup a = none) : addH H G a = H a := by unfold addH; rw [h]
theorem addH_in {u : Obj} (h : G.lookup a = some u) : addH H G a = some (objIs a u) := by unfold addH; rw [h]
theorem delH_out (h : G.lookup a = none) : delH H G a = H a := by unfold delH; rw [h]
theorem delH_in {u : Obj} (h : G.lookup a = some u) : delH H G a = none := by unfold delH; rw [h]
theorem delH_some (h : delH H G a = some o) : G.lookup a = none ∧ H a = some o := by
  cases e : G.lookup a with
  | none => rw [delH_out e] at h; exact ⟨rfl, h⟩
  | some u => rw [delH_in e] at h; cases h
end
/-- what is to be lent -/
structure Lent (P : Program) (w : World) (base : Heap) (stack : List Env) (H : Hp) (h : Heap) (G : List (Addr × Obj)) : Prop where
  at_ : ∀ b o, G.lookup b = some o → h.get? b = some o ∧ H b = none ∧ b ∉ frs stack ∧ base.get? b = none
section
variable {P : Program} {w : World} {K : PySem.W.Frag} {mg : Str → Option Value} {base : Heap} {A : Around} {outer : List Env} {s s' : Shared} {H H' : Hp} {G : List (Addr × Obj)} {h h' : Heap}
theorem Lent.out (L : Lent P w base outer H h G) {b : Addr} {o : HO} (e : H b = some o) : G.lookup b = none := by
  cases q : G.lookup b with
  | none => rfl
  | some u => rw [(L.at_ b u q).2.1] at e; cases e
theorem Lent.le (L : Lent P w base outer H h G) : Same H (addH H G) := fun b o e => by rw [addH_out (L.out e)]; exact e
theorem Lent.hok (L : Lent P w base outer H h G) (x : HOk P w H h) : HOk P w (addH H G) h := fun b o e => by
  cases q : G.lookup b with
  | some u =>
    rw [addH_in q] at e
    cases e
    have e1 := (L.at_ b u q).1
    exact ⟨e1, trivial, ⟨u, e1⟩, fun _ _ _ _ => trivial⟩
  | none =>
    rw [addH_out q] at e
    exact (x b o e).stay (fun c v _ z => z) (fun c z => L.le _ _ z) fun c xs z => L.le _ _ z
theorem Lent.env0 (L : Lent P w base outer H s.heap G) (e : Env0 P w K mg base A outer s H) : Env0 P w K mg base A outer s (addH H G) where
  frames := e.frames
  mod := e.mod
  bs := fun b o z => by
    obtain ⟨h1, h2⟩ := e.bs b o z
    refine ⟨h1, ?_⟩
    cases q : G.lookup b with
    | none => rw [addH_out q]; exact h2
    | some u => rw [(L.at_ b u q).2.2.2] at z; cases z
  bsz := e.bsz
  funs := e.funs
  frf := fun b hb => by
    cases q : G.lookup b with
    | none => rw [addH_out q]; exact e.frf b hb
    | some u => exact absurd hb (L.at_ b u q).2.2.1
  hok := L.hok e.hok
  bare := e.bare
/-- behind the call the lent objects are as they were: they go out of what is tracked -/
theorem Lent.back {fs : List Addr} (L : Lent P w base outer H h G) (hf : fs = frs outer) (u : Un fs [] (addH H G) H' h h') (ok : HOk P w H' h') (k : ∀ b o, G.lookup b = some o → H' b = some (objIs b o)) : Un fs [] H (delH H' G) h h' ∧ HOk P w (delH H' G) h' := by
  subst hf
  refine ⟨⟨fun b o e n hb hx => ?_, fun b o e n hb hx => ?_, fun b o e n hx => ?_, u.there, fun b xs e => ?_, fun b o v e => ?_, fun b ps e => ?_⟩, fun b o e => ?_⟩
  · cases q : G.lookup b with
    | none => exact u.keep b o e (by rw [addH_out q]; exact n) hb hx
    | some v =>
      have h1 := (L.at_ b v q).1
      rw [e] at h1
      cases h1
      exact (ok b _ (k b _ q)).1
  · cases q : G.lookup b with
    | none => exact u.slot b o e (by rw [addH_out q]; exact n) hb hx
    | some v => exact absurd hb (L.at_ b v q).2.2.1
  · cases q : G.lookup b with
    | none => rw [delH_out q]; exact u.free b o e (by rw [addH_out q]; exact n) hx
    | some v => exact delH_in q
  · have q := L.out e
    rw [delH_out q]
    exact u.tups b xs (by rw [addH_out q]; exact e)
  · have q := L.out e
    rw [delH_out q]
    exact u.frzs b o v (by rw [addH_out q]; exact e)
  · have q := L.out e
    obtain ⟨more, z⟩ := u.tbls b ps (by rw [addH_out q]; exact e)
    exact ⟨more, by rw [delH_out q]; exact z⟩
  · obtain ⟨q, e1⟩ := delH_some e
    have nl : ∀ {c : Addr} {o : HO}, H' c = some o → (∀ x : Obj, o ≠ objIs c x) → G.lookup c = none := fun {c o} z n => by
      cases y : G.lookup c with
      | none => rfl
      | some v =>
        rw [k c v y] at z
        exact absurd (Option.some.inj z).symm (n v)
    exact (ok b o e1).stay (fun c v _ z => z) (fun c z => by rw [delH_out (nl z fun x y => by unfold objIs at y; cases y)]; exact z) fun c xs z => by rw [delH_out (nl z fun x y => by unfold objIs at y; cases y)]; exact z
end
/-- a call with lent objects -/
theorem after_lent {X : Cx} {pins : List (Addr × Obj)} {σ : St} {H : Hp} {s s' : Shared} {G : List (Addr × Obj)} {Q : VK} {u : Value} (I : Inv X pins σ H s) (L : Lent X.prog X.w X.base X.stack H s.heap G)
    (h : CE X.stack X.prog X.w (addH H G) s (fun v H' => (∀ b o, G.lookup b = some o → H' b = some (objIs b o)) ∧ Q v (delH H' G)) u s') : EP X pins σ Q u s' := by
  obtain ⟨v, H', os, bare, un, hok, r, k, q⟩ := h
  obtain ⟨un2, hok2⟩ := L.back rfl un hok k
  exact I.after ⟨v, delH H' G, os, bare, un2, hok2, r, q⟩
/-! ### defs called while an exception is handled -/
structure RoomW (k : Nat) (A : Around) : Prop where
  room : L2H.RoomH k A
  g : A.guards = some []
theorem RoomW.mono {j k : Nat} {A : Around} (r : RoomW k A) (h : j ≤ k) : RoomW j A := ⟨r.room.mono h, r.g⟩
theorem RoomW.deeper {k : Nat} {A : Around} (r : RoomW (k + 1) A) (env : Env) : RoomW k (A.deeper env) := ⟨r.room.deeper env, r.g⟩
theorem RoomW.of {k : Nat} {A : Around} (r : RoomG k A) : RoomW k A := ⟨L2H.roomH_of r.room, r.g⟩
structure FnW (P : Program) (w : World) (K : PySem.W.Frag) (mg : Str → Option Value) (base : Heap) (k : Nat) (f : Addr) (fd : FuncData) (ps : List Str) (sp : Sp) : Prop where
  len : ∀ vs H Q E, sp vs H Q E → vs.length = ps.length
  run : ∀ (A : Around) (outer : List Env) (s : Shared) (H : Hp) (args : Args) (us : List Value) (vs : List V) (Q : VK) (E : XK), RoomW k A → Env0 P w K mg base A outer s H → BindsTo s fd args (ps.zip us) → Vals vs us → sp vs H Q E →
    codeAny (model P w) A (.call (.ref f) args) (CR (L2.CX P w) outer P w H s Q E) s
section
variable {P : Program} {w : World} {K : PySem.W.Frag} {mg : Str → Option Value} {base : Heap}
/-- some object out of reach -/
theorem far_pin {A : Around} {outer : List Env} {s : Shared} {H : Hp} (e : Env0 P w K mg base A outer s H) : ∃ p, L2H.PinOk outer H s p := by
  obtain ⟨mb, ⟨o, es, ep, h1, h2, _⟩, _⟩ := e.mod.blt
  obtain ⟨g1, g2⟩ := e.bs _ _ h1
  refine ⟨(builtinsNs, o), ⟨g1, g2, fun hm => ?_, fun v z => ?_⟩⟩
  · obtain ⟨n, _⟩ := e.funs.mem hm
    rw [h1] at n; cases n
  · have z' : o.data = Data.cell v := z
    rw [h2] at z'; cases z'
theorem fnW_of {x qual : Str} {st : Stmt} {f : Addr} {fd : FuncData} {N ps : List Str} {k : Nat} {sp : Sp} (F : Fun K x qual st f fd) (S : FnScope N ps (defScope st)) (len : ∀ vs H Q E, sp vs H Q E → vs.length = ps.length)
    (hbody : ∀ (cdv : Value) (A : Around) (outer : List Env) (s : Shared) (H : Hp) (vs : List V) (Q : VK) (E : XK) (p : Addr × Obj), RoomW k (A.deeper (envOfC qual (defScope st) s.heap.objs.size f cdv)) → sp vs H Q E →
      ∃ t, PSs (L2H.cxH (L2.CX P w) P w K mg base N qual (defScope st) f cdv A outer s H E p) (defBody st) t ∧ t { nx := fun _ H' => Q .non H', rt := Q } (start N vs) H) : FnW P w K mg base (k + 1) f fd ps sp := by
  obtain ⟨oc, od, kV, doc, pm, an, cdv, ct, osl, rfl, lk, hcd⟩ := F.ex
  refine ⟨len, fun A outer s H args us vs Q E hr e0 hb r hsp => ?_⟩
  have KX : K.In s.heap := e0.mod.kin.keeps fun b o e => (e0.bs b o e).1
  have lim : s.heap.NoLimit := e0.mod.nolimit.keeps fun b o e => (e0.bs b o e).1
  obtain ⟨p, hp⟩ := far_pin e0
  have kinds : ∀ y ∈ ps.zip us, (defScope st).names.lookup y.1 = some .local ∨ ((defScope st).names.lookup y.1 = some .cell ∧ ((cellsFrom (s.heap.objs.size + 1) (defScope st).names []).lookup y.1).isSome = true) := by
    intro y hy
    have hm := (List.of_mem_zip (a := y.1) (b := y.2) hy).1
    rcases S.par y.1 hm with q | q
    · exact .inl q
    · exact .inr ⟨q, PySem.W.cellsFrom_some _ _ _ (.inl q)⟩
  refine codeAny_call_function hr.room.depth (KX _ _ lk) rfl S.co S.gen rfl (PySem.W.codeRec_of KX hcd) (hb _ _ _ _ (wpAny_newFunctionEnv_cells S.kind kinds fun env he s1 x => ?_))
  subst he
  refine ⟨lim.keeps x.toInCall.keep, codeAny_func ?_⟩
  obtain ⟨t, ht, hq⟩ := hbody cdv A outer s H vs Q E p (hr.deeper _) hsp
  have I := L2H.inv_startH (CX := L2.CX P w) (E := E) S hp e0 (len _ _ _ _ hsp) r x
  refine wpAny_mono (ht.run [] s1 (start N vs) H _ I hq) (fun fl s' hs => ?_) fun e s' hs => hs
  cases fl with
  | ret u =>
    obtain ⟨v, σ', H', J, rv, q⟩ := hs
    exact ⟨v, H', J.os, J.bare, J.base, J.hok, rv, q⟩
  | next =>
    obtain ⟨σ', H', J, q⟩ := hs
    exact ⟨.non, H', J.os, J.bare, J.base, J.hok, rfl, q⟩
  | brk =>
    obtain ⟨_, _, _, q⟩ := hs
    exact q.elim
  | cont =>
    obtain ⟨_, _, _, q⟩ := hs
    exact q.elim
theorem fnDW {T : Tb} {rp : List Nat} {x qual : Str} {st : Stmt} {f : Addr} {fd : FuncData} {N ps : List Str} {k n : Nat} {mb : M Flw} (F : Fun K x qual st f fd) (S : FnScope N ps (defScope st)) (hn : N.length = n)
    (hbody : ∀ (cdv : Value) (A : Around) (outer : List Env) (s : Shared) (H : Hp) (E : XK) (p : Addr × Obj), RoomW k (A.deeper (envOfC qual (defScope st) s.heap.objs.size f cdv)) →
      PSs (L2H.cxH (L2.CX P w) P w K mg base N qual (defScope st) f cdv A outer s H E p) (defBody st) (tS T (fun cls d _ H => E cls d H) rp mb)) :
    FnW P w K mg base (k + 1) f fd ps (spM T rp ps.length (fnR n rp mb)) := by
  refine fnW_of F S (fun vs H Q E h => h.1) fun cdv A outer s H vs Q E p hr ⟨hl, Fh, args, Er, hown, h⟩ => ⟨_, hbody cdv A outer s H E p hr, ?_⟩
  exact spM_body hn hl Er hown h
end
/-! ### data in which nothing opaque lies -/
mutual
def noO : D → Bool
  | .non => true
  | .bl _ => true
  | .int _ => true
  | .str _ => true
  | .lst xs => noOs xs
  | .frz xs => noOs xs
  | .tup xs => noOs xs
  | .dct _ vs => noOs vs
  | .ins _ _ vs => noOs vs
  | .opq _ _ => false
def noOs : List D → Bool
  | [] => true
  | x :: xs => noO x && noOs xs
end
section
variable {T T' : Tb} {F F' H H' F2 H2 : Hp} {G : List (Addr × Obj)}
mutual
/-- such data are borne by what is alike but for locked objects without content -/
theorem Rep.plain (hK : T'.K = T.K) (hc : ∀ c, T'.cl c = T.cl c) (k : ∀ b o, F b = some o → (∀ v, o ≠ .frz v smO) → F' b = some o) : ∀ {v : V} {d : D}, Rep T F v d → noO d = true → Rep T' F' v d
  | _, _, .non, _ => .non
  | _, _, .bl b, _ => .bl b
  | _, _, .int i, _ => .int i
  | _, _, .str x, _ => .str x
  | _, _, .lst h r, n => .lst (k _ _ h fun _ e => by cases e) (Reps.plain hK hc k r (by simpa only [noO] using n))
  | _, _, .frz h r, n => by
    refine .frz ?_ (Reps.plain hK hc k r (by simpa only [noO] using n))
    rw [hK]
    rcases h with (h | ⟨o, h⟩) | h
    · exact .inl (.inl (k _ _ h fun _ e => by cases e))
    · exact .inl (.inr ⟨o, k _ _ h fun _ e => by unfold smO at e; cases e⟩)
    · exact .inr h
  | _, _, .tup h r, n => by
    refine .tup ?_ (Reps.plain hK hc k r (by simpa only [noO] using n))
    rw [hK]
    rcases h with (h | ⟨o, h⟩) | h
    · exact .inl (.inl (k _ _ h fun _ e => by cases e))
    · exact .inl (.inr ⟨o, k _ _ h fun _ e => by unfold smO at e; cases e⟩)
    · exact .inr h
  | _, _, .dct h e1 e2 r, n => .dct (k _ _ h fun _ e => by cases e) e1 e2 (Reps.plain hK hc k r (by simpa only [noO] using n))
  | _, _, .ins h0 h e1 e2 r, n => .ins (by rw [hc]; exact h0) (k _ _ h fun _ e => by cases e) e1 e2 (Reps.plain hK hc k r (by simpa only [noO] using n))
  | _, _, .opq _ _, n => by simp only [noO] at n; cases n
theorem Reps.plain (hK : T'.K = T.K) (hc : ∀ c, T'.cl c = T.cl c) (k : ∀ b o, F b = some o → (∀ v, o ≠ .frz v smO) → F' b = some o) : ∀ {vs : List V} {ds : List D}, Reps T F vs ds → noOs ds = true → Reps T' F' vs ds
  | _, _, .nil, _ => .nil
  | _, _, .cons h r, n => by
    simp only [noOs, Bool.and_eq_true] at n
    exact .cons (Rep.plain hK hc k h n.1) (Reps.plain hK hc k r n.2)
end
/-- what is lent is gone -/
theorem delH_keep (hG : ∀ b o, G.lookup b = some o → F b = some (objIs b o)) : ∀ b o, F b = some o → (∀ v, o ≠ .frz v smO) → delH F G b = some o := fun b o e n => by
  cases q : G.lookup b with
  | none => rw [delH_out q]; exact e
  | some u =>
    rw [hG b u q] at e
    exact absurd (Option.some.inj e).symm (n u)
theorem VRep.back {v : V} {x : B} (hF : ∀ b o, G.lookup b = some o → F b = some (objIs b o)) (hH : ∀ b o, G.lookup b = some o → H b = some (objIs b o)) (r : VRep T F H v x) (n : noO x.2 = true) : VRep T (delH F G) (delH H G) v x := by
  obtain ⟨own, d⟩ := x
  cases own with
  | false => exact Rep.plain rfl (fun _ => rfl) (delH_keep hF) r n
  | true =>
    obtain ⟨a, rfl, fa, t⟩ := r
    have kH : ∀ o, H a = some o → Plain o → delH H G a = some o := fun o e p => delH_keep hH a o e fun v z => by subst z; exact p
    refine ⟨a, rfl, ?_, ?_⟩
    · cases q : G.lookup a with
      | none => rw [delH_out q]; exact fa
      | some u => exact delH_in q
    · cases d with
      | lst ds => obtain ⟨vs, q, r⟩ := t; exact ⟨vs, kH _ q trivial, Reps.plain rfl (fun _ => rfl) (delH_keep hF) r (by simpa only [noO] using n)⟩
      | dct ks ds => obtain ⟨kvs, q, q2, r⟩ := t; exact ⟨kvs, kH _ q trivial, q2, Reps.plain rfl (fun _ => rfl) (delH_keep hF) r (by simpa only [noO] using n)⟩
      | ins c ns ds => obtain ⟨C, dx, fs, q0, q, q2, r⟩ := t; exact ⟨C, dx, fs, q0, kH _ q trivial, q2, Reps.plain rfl (fun _ => rfl) (delH_keep hF) r (by simpa only [noO] using n)⟩
      | _ => exact (show False from t).elim
/-- a callee's steps with lent objects, no container handed on -/
theorem Step.lent {s : St} {env : Ev} {sa : St} {ea ea' : Ev} (hcl : T'.tabs = T.tabs) (E : ERep T' F H s env) (hG : ∀ b o, G.lookup b = some o → H b = none) (no : ∀ a, ¬ OwnE sa ea a) (S : Step T sa (addH F G) (addH H G) ea F2 H2 ea') :
    (∀ b o, G.lookup b = some o → F2 b = some (objIs b o)) ∧ (∀ b o, G.lookup b = some o → H2 b = some (objIs b o)) ∧ Step T' s F H env (delH F2 G) (delH H2 G) env := by
  have oF : ∀ b o, G.lookup b = some o → F2 b = some (objIs b o) := fun b o q => S.mono _ _ (addH_in q)
  have oH : ∀ b o, G.lookup b = some o → H2 b = some (objIs b o) := fun b o q => S.rep.le _ _ (oF b o q)
  have outH : ∀ {b : Addr} {o : HO}, H b = some o → G.lookup b = none := fun {b o} e => by
    cases q : G.lookup b with
    | none => rfl
    | some u => rw [hG b u q] at e; cases e
  have mono : Same F (delH F2 G) := fun b o e => by
    have q := outH (E.le b o e)
    rw [delH_out q]
    exact S.mono b o (by rw [addH_out q]; exact e)
  have frame : ∀ a o, H a = some o → NT o → delH H2 G a = some o := fun a o e t => by
    have q := outH e
    rw [delH_out q]
    exact S.frame a o (by rw [addH_out q]; exact e) t (no a)
  have fresh : ∀ a, F a = none → delH F2 G a ≠ none → H a = none := fun a e n => by
    cases q : G.lookup a with
    | some u => exact hG a u q
    | none =>
      rw [delH_out q] at n
      rcases S.fresh a (by rw [addH_out q]; exact e) n with z | z
      · rw [addH_out q] at z; exact z
      · exact (no a z).elim
  refine ⟨oF, oH, ⟨⟨fun b o e => ?_, E.len, fun i x e => ?_, E.sep, mono _ _ E.sm, ?_⟩, mono, fun a o e t _ => frame a o e t, fun a e n => .inl (fresh a e n), fun i d e => ⟨d, e⟩, fun a e => ?_⟩⟩
  · obtain ⟨q, e1⟩ := delH_some e
    rw [delH_out q]
    exact S.rep.le b o e1
  · obtain ⟨v, e1, r⟩ := E.get i x e
    refine ⟨v, e1, ?_⟩
    obtain ⟨own, d⟩ := x
    cases own with
    | false => exact Rep.mono mono r
    | true =>
      obtain ⟨a, rfl, fa, t⟩ := r
      obtain ⟨o, ho, po⟩ := t.obj
      refine ⟨a, rfl, ?_, t.imp mono fun o e p => frame a o e p.nt⟩
      cases z : delH F2 G a with
      | none => rfl
      | some u =>
        have := fresh a fa (by rw [z]; simp)
        rw [ho] at this; cases this
  · rw [hcl]
    exact S.rep.tb.keep (fun c q e => delH_keep oF _ _ e fun v y => by unfold LamX.CodeO at y; cases y) (fun b ps e z => by
      cases q : G.lookup b with
      | none => rw [delH_out q]; exact z
      | some u => exact delH_in q) fun b ps e => delH_keep oH _ _ e fun v y => by cases y
  · cases q : G.lookup a with
    | some u => exact hG a u q
    | none =>
      rw [delH_out q] at e
      have := S.dom a e
      rw [addH_out q] at this
      exact this
end
end TT

set_option maxRecDepth 100000
set_option maxHeartbeats 4000000
/-! TU: a handled exception as data: isinstance, what was given; try .. except (A, B, C) as e. -/
namespace TX
open PySem PySem.W PySem.Spec PySem.Calls PyProof.Rows
section
variable {prog : Program} {w : World} {A : Around} {E : Value → Shared → Prop} {s : Shared} {K : Frag} {x D : Addr} {ox : Obj} {od : Option Obj}
/-- an exception's class by its name __class__, whether it has a dict or none -/
theorem class_asked {Q : Option Value → Shared → Prop} (hga : findIn K (.ref D) "__getattribute__" = some (some (.builtin "BaseException.__getattribute__"))) (hgt : findIn K (.ref D) "__getattr__" = some none) (hsub : subIn K (.ref D) (.type "BaseException") = some true)
    (hf : findObj K D od "__class__" = some (.bind (.builtin "getset_descriptor.__get__") (.builtin "object.__class__"))) (hm : mroIn K D (.type "object") = some true)
    (X : K.In s.heap) (I : InstAt s.heap x ox D od) (h : Q (some (.ref D)) { s with toks := s.toks + 1 }) : wpAny (model prog w) A (getAttr? (.ref x) "__class__") Q E s := by
  obtain ⟨hp, g, d, t, os⟩ := s
  have L0 := I.type (M := model prog w)
  have L1 := looks_findIn (M := model prog w) X hga
  have L2 := looks_findIn (M := model prog w) X hgt
  have L3 := looks_find (M := model prog w) X I hf
  have sub : Looks (model prog w) hp (isInstance (.ref x) (.type "BaseException")) true := L0.andThen (looks_subIn X hsub)
  have hx0 : (false && onTheHeap (Value.builtin "BaseException.__getattribute__")) = false := rfl
  have hx2 : (Value.builtin "BaseException.__getattribute__" == Value.builtin "object.__getattribute__") = false := by decide +kernel
  have hx1 : (onTheHeap (Value.ref D) && Value.builtin "BaseException.__getattribute__" == Value.builtin "object.__getattribute__") = false := by rw [hx2]; rfl
  unfold getAttr? getAttrBy? getAttrBy
  refine wpAny_bind (wpAny_mkText (wpAny_bind (wpAny_attempt (wpAny_holding (wpAny_bind (L0.at (wpAny_bind (L1.at ?_))))))))
  show wpAny _ _ (if (onTheHeap (Value.ref D) && Value.builtin "BaseException.__getattribute__" == Value.builtin "object.__getattribute__") = true then _ else _) _ _ _
  rw [hx1, if_neg Bool.false_ne_true]
  unfold getAttrByItsOwn hookBefore
  refine wpAny_bind ?_
  rw [if_pos (show onTheHeap (Value.ref D) = true from rfl)]
  refine L2.at ?_
  refine wpAny_bind (wpAny_attempt (wpAny_holding ?_))
  unfold callGetattribute
  rw [hx0, if_neg Bool.false_ne_true]
  unfold boundAndCalled
  rw [PySem.F.excAttr_ValueError.ga.bind (.ref x)]
  refine wpAny_bind (wpAny_pure ?_)
  show wpAny _ _ (call (.builtin "BaseException.__getattribute__") [.ref x, .str "__class__" t]) _ _ _
  refine wpAny_call (codeAny_call_builtin PySem.F.excAttr_ValueError.ga.plain PySem.F.entry_bexc_ga ?_)
  refine @check_slot (model prog w) _ _ ⟨hp, g, d, t + 1, os⟩ "BaseException.__getattribute__" "BaseException" "__getattribute__" (.ref x) [.str "__class__" t] [] _ (by decide +kernel) (by decide +kernel) sub (PySem.F.args_bexc_ga (.ref x) (.str "__class__" t)) ?_
  unfold Builtin.«object.__getattribute__»
  refine wpAny_bind (wpAny_of_eq (a := ((Value.ref x : Value), [Value.str "__class__" t])) (by first | rfl | (simp only [slotArgs]; rfl)) ?_)
  refine wpAny_bind (wpAny_pure (wpAny_bind (L0.at (wpAny_bind (L3.at ?_)))))
  show wpAny _ _ (holding [Value.builtin "object.__class__"] (call (.builtin "getset_descriptor.__get__") [.builtin "object.__class__", .ref x, .ref D]) >>= ret) _ _ _
  refine wpAny_bind (wpAny_holding (wpAny_call (class_get (s := ⟨hp, g, d, t + 1, os⟩) (ox := ox) (od := od) X I hm ?_)))
  refine wpAny_pure ?_
  show wpAny _ _ (handedOut (.ref D)) _ _ _
  rw [handedOut_of (v := .ref D) rfl]
  first
    | exact wpAny_pure (wpAny_pure h)
    | exact wpAny_pure h
    | exact wpAny_pure (wpAny_bind (wpAny_pure (wpAny_pure h)))
theorem kitx_exc (hga : findIn K (.ref D) "__getattribute__" = some (some (.builtin "BaseException.__getattribute__"))) (hgt : findIn K (.ref D) "__getattr__" = some none) (hsub : subIn K (.ref D) (.type "BaseException") = some true) (hdct : hasDictIn K D = true)
    (hf : ∀ od, findObj K D (some od) "__class__" = some (.bind (.builtin "getset_descriptor.__get__") (.builtin "object.__class__"))) (hm : mroIn K D (.type "object") = some true) : KitX K (.ref x) (.ref D) (fun h => ∃ od, InstAt h x ox D (some od)) where
  ty := fun _ _ _ ⟨_, I⟩ => I.type
  it := fun _ _ X _ => by
    obtain ⟨cdD, hcD, _⟩ := any_some hdct
    unfold clsIn at hcD
    split at hcD
    · rename_i c' d' cd' sl' ho
      intro A' Q' E' s' k q
      unfold isType loadHead
      exact wpAny_bind (wpAny_loadPart (k _ _ (X _ _ ho)) (wpAny_pure q))
    · cases hcD
  ne := fun h tp dd its n sl X htp => by
    obtain ⟨cdD, hcD, _⟩ := any_some hdct
    refine Bool.eq_false_iff.mpr fun q => ?_
    have e : D = tp := Value.ref.inj (beq_iff_eq.mp q)
    subst e
    unfold clsIn at hcD
    split at hcD
    · rename_i c' d' cd' sl' ho
      have z := (X _ _ ho).symm.trans htp
      cases z
    · cases hcD
  ca := fun X ⟨od, I⟩ k => class_asked hga hgt hsub (hf od) hm X I k
end
end TX
namespace TT
open PySem PySem.Spec PyProof.Rows L2
/-! ### exceptions as data: number n of excs, what was given -/
def opX (cl : Str → Option Addr) (excs : List Str) (n : Nat) (F : Hp) (a : Addr) (vs : List V) : Prop :=
  ∃ c C dd oe g, excs[n]? = some c ∧ cl c = some C ∧ vs = [g] ∧ F a = some (objIs a oe) ∧ Zc (.ref C) (some dd) oe ∧ (∃ fs, oe.data = .fields fs) ∧ F dd = some (.xd [(("given" : Str), g)])
theorem opX_mono {cl : Str → Option Addr} {excs : List Str} {n : Nat} {F F' : Hp} {a : Addr} {vs : List V} (m : Same F F') (h : opX cl excs n F a vs) : opX cl excs n F' a vs := by
  obtain ⟨c, C, dd, oe, g, h1, h2, h3, h4, h5, h6, h7⟩ := h
  exact ⟨c, C, dd, oe, g, h1, h2, h3, m _ _ h4, h5, h6, m _ _ h7⟩
/-- T's numbers below 100 are exceptions -/
def HasX (T : Tb) (excs : List Str) : Prop := ∀ n F a vs, n < 100 → (T.op n F a vs ↔ opX T.cl excs n F a vs)
/-- what the written part says of these classes -/
structure ExcK (K : PySem.W.Frag) (C : Addr) : Prop where
  c : ExcC K C
  noN : PySem.W.findIn K (.ref C) "given" = some none
theorem ExcK.find {K : PySem.W.Frag} {C : Addr} (e : ExcK K C) (od : Obj) : PySem.W.findObj K C (some od) "__class__" = some (.bind (.builtin "getset_descriptor.__get__") (.builtin "object.__class__")) :=
  PySem.W.findObj_data (by obtain ⟨cd, hc, _⟩ := PySem.W.any_some e.c.hd; rw [hc]; rfl) e.c.ha e.c.hn e.c.ht
section
variable {T : Tb} {W : WX} {X : Cx} {e : Expr} {es : List Expr} {pos : Pos} {excs : List Str}
/-- the exception's object as the heap has it -/
theorem opX_inst {pins : List (Addr × Obj)} {σ : St} {F H : Hp} {s : Shared} {n : Nat} {a : Addr} {vs : List V} (I : Inv X pins σ H s) (l : Same F H) (h : opX T.cl excs n F a vs) :
    ∃ c C oe od g, excs[n]? = some c ∧ T.cl c = some C ∧ vs = [g] ∧ PySem.W.InstAt s.heap a oe C (some od) ∧ ∃ (dd : Addr) (mA : Str → Option Value), H dd = some (.xd [(("given" : Str), g)]) ∧ s.heap.get? dd = some od ∧ (∀ name, PySem.W.lookIn name od = some (mA name)) ∧ ∀ f, RelO (List.lookup f [(("given" : Str), g)]) (mA f) := by
  obtain ⟨c, C, dd, oe, g, h1, h2, h3, h4, h5, ⟨fs, h6⟩, h7⟩ := h
  have ha : s.heap.get? a = some oe := (I.hok _ _ (l _ _ h4)).1
  have hx : ObjOk X.prog X.w H s.heap dd (.xd [(("given" : Str), g)]) := I.hok dd _ (l _ _ h7)
  obtain ⟨mA, hns, hr⟩ := hx
  obtain ⟨od, ho, hl⟩ := lookIn_ns hns
  exact ⟨c, C, oe, od, g, h1, h2, h3, ⟨ha, h5.1, by unfold PySem.W.notCls; rw [h6] <;> rfl, by rw [h5.2]; exact ho⟩, dd, mA, l _ _ h7, ho, hl, hr⟩
def isED (tbl : Nat → Option Bool) : D → Option B
  | .opq n _ => if n < 100 then (tbl n).map fun b => (false, .bl b) else none
  | _ => none
theorem pe_isE {y : Str} {c : V} {cv : Value} {tbl : Nat → Option Bool} {m : M Opd} {p p2 : Pos} (hX : HasX T excs) (hK : X.K = T.K) (ha : PE X e (tO T W m)) (hT : PE X (.Name y p2) (tC c)) (hcv : ∀ u, RelV c u → u = cv)
    (hk : ∀ n b c C, tbl n = some b → excs[n]? = some c → T.cl c = some C → PySem.W.kitOne X.K (.ref C) cv = some b ∧ ExcK X.K C) (gi : Gl X "isinstance") (mi : X.mg "isinstance" = none)
    (he : starEach [e, .Name y p2] X.env = (false, eval e X.env) :: starEach [.Name y p2] X.env := by rfl) (he2 : starEach [.Name y p2] X.env = (false, eval (.Name y p2) X.env) :: starEach [] X.env := by rfl) (hpl : (backTo pos (starEach [.Name y p2] X.env)).any (·.1) = false := by rfl) :
    PE X (.Call (.Name "isinstance" p) [e, .Name y p2] [] pos) (tV T W (un1 (isED tbl) m)) := by
  have cr : CallR X (.builtin "isinstance") (fun vs H Q => ∃ F n a ws b, vs = [V.ref a, c] ∧ Same F H ∧ n < 100 ∧ T.op n F a ws ∧ tbl n = some b ∧ Q (.bl b) H) := by
    intro pins s σ H vs us Q I r h
    obtain ⟨F, n, a, ws, b, rfl, l, hn, hop, ht, q⟩ := h
    cases r with
    | cons r1 rr =>
      cases rr with
      | cons r2 rr =>
        cases rr
        cases r1
        have e2 := hcv _ r2
        subst e2
        obtain ⟨c', C, oe, od, g, h1, h2, h3, J, _⟩ := opX_inst (T := T) I l ((hX n F a ws hn).mp hop)
        obtain ⟨k1, k2⟩ := hk n b c' C ht h1 h2
        exact PySem.W.kia_one (TX.kitx_exc k2.c.hg k2.c.hk k2.c.hs k2.c.hd k2.find k2.c.hm) I.kIn ⟨od, J⟩ k1 (fun z => nomatch z) fun tk => ⟨.bl b, H, I.tok tk, rfl, q⟩
  refine PEimp (pe_callB cr gi mi boot_isinstance (pa_cons ha (pa_cons hT pa_nil he2) he) (he := he) (hpl := hpl)) ?_
  rintro s H Q ⟨F, env, E, h⟩
  refine ⟨F, env, E, PG.bind (rel2 := relV T s) relV_ok h fun v o env1 F1 H1 _ st r h1 => ?_⟩
  unfold op1M at h1
  cases e1 : look env1 o with
  | none => rw [e1] at h1; exact h1.elim
  | some z =>
    rw [e1] at h1
    have t := OOk.top st.rep r e1
    obtain ⟨own, d⟩ := z
    simp only at h1 t
    cases t <;> simp only [isED] at h1 <;> first | (exact h1.elim) | skip
    case opq a n ws ds hop rr =>
      by_cases hn : n < 100
      · rw [if_pos hn] at h1
        cases ht : tbl n with
        | none => rw [ht] at h1; exact h1.elim
        | some b =>
          rw [ht] at h1
          exact ⟨F1, n, a, ws, b, rfl, st.rep.le, hn, hop, ht, h1 (.bl b) F1 H1 (Step.refl st.rep) ⟨.sh (.bl b), fun z => by cases z⟩⟩
      · rw [if_neg hn] at h1; exact h1.elim
def givenD : D → Option B
  | .opq n [d] => if n < 100 then some (false, d) else none
  | _ => none
theorem pe_givenM {m : M Opd} (hX : HasX T excs) (hk : ∀ (n : Nat) c C, excs[n]? = some c → T.cl c = some C → ExcK X.K C) (he : PE X e (tO T W m)) (hb : attributeBase e "given" X.env (eval e X.env) = eval e X.env := by rfl) : PE X (.Attribute e "given" pos) (tV T W (un1 givenD m)) := by
  have base : PE X (.Attribute e "given" pos) (fun σ H Q => tO T W m σ H fun x H1 => ∃ F n a g, x = .ref a ∧ Same F H1 ∧ n < 100 ∧ T.op n F a [g] ∧ Q g H1) := by
    refine ⟨fun pins s σ H Q I h => ?_⟩
    refine attr_of hb (thn (he.run pins s σ H _ I h) fun u s1 hh => ?_)
    obtain ⟨x, H1, I1, rx, F, n, a, g, ex, l, hn, hop, q⟩ := hh
    subst ex
    obtain rfl : u = Value.ref a := rx
    obtain ⟨c, C, oe, od, g', h1, h2, h3, J, dd, mA, h4, h5, h6, h7⟩ := opX_inst (T := T) I1 l ((hX n F a [g] hn).mp hop)
    cases h3
    have E := hk n c C h1 h2
    have lk : List.lookup ("given" : Str) [(("given" : Str), g)] = some g := by simp [List.lookup]
    obtain ⟨u, hu, ru⟩ := RelO.some_of (v := g) (o := mA "given") (by rw [← lk]; exact h7 "given")
    exact HandSPX.exc_get I1.kIn J E.c.hg E.c.hk E.c.hs (PySem.W.findObj_own E.c.hd E.noN rfl (by rw [h6, hu])) (handed_of ru) ⟨g, H1, I1.tok _, ru, q⟩
  refine PEimp base ?_
  rintro s H Q ⟨F, env, E, h⟩
  refine ⟨F, env, E, PG.bind (rel2 := relV T s) relV_ok h fun v o env1 F1 H1 _ st r h1 => ?_⟩
  unfold op1M at h1
  cases e1 : look env1 o with
  | none => rw [e1] at h1; exact h1.elim
  | some z =>
    rw [e1] at h1
    have t := OOk.top st.rep r e1
    obtain ⟨own, d⟩ := z
    simp only at h1 t
    cases t <;> simp only [givenD] at h1 <;> first | (exact h1.elim) | skip
    case opq a n ws ds hop rr =>
      cases rr with
      | nil => exact h1.elim
      | cons r1 rr =>
        cases rr with
        | cons _ _ => exact h1.elim
        | nil =>
          simp only at h1
          by_cases hn : n < 100
          · rw [if_pos hn] at h1
            exact ⟨F1, n, a, _, rfl, st.rep.le, hn, hop, h1 _ F1 H1 (Step.refl st.rep) ⟨.sh r1, fun z => by cases z⟩⟩
          · rw [if_neg hn] at h1; exact h1.elim
end
end TT

set_option maxRecDepth 100000
set_option maxHeartbeats 4000000
/-! TR: try .. except (A, B, C) as e: return f(e). -/
namespace TT
open PySem PySem.Spec PyProof.Rows L2
/-- the tuple of the classes, laid anew, takes nothing away from an exception in flight -/
theorem flying_push {B h : Heap} {l : List Env} {a : Addr} {Z : Obj → Prop} {o : Obj} (f : HandSPX.FlyingZ B l a Z h) : HandSPX.FlyingZ B l a Z (h.push o) := by
  obtain ⟨k1, k2, k3, oe, vs, T, oT, ts, he, hz, hd, h1, h2, h3, h4, h5, h6⟩ := f
  have k : ∀ b u, h.get? b = some u → (h.push o).get? b = some u := fun b u e => Heap.get?_push_of_some _ e
  exact ⟨fun b u e => k _ _ (k1 b u e), k2, Heap.FunFrames.of_keeps (fun b u e _ => ⟨u, k _ _ e, rfl⟩) k3, oe, vs, T, oT, ts, k _ _ he, hz, hd, h1, h2, h3, k _ _ h4, h5, h6⟩
def wAs3 (K : PySem.W.Frag) (cs : List Value) (i : Nat) (ts : Addr → Value → Option Addr → TS) (D : Ends) : WX := fun cls d σ H =>
  PySem.W.exmAny K cls cs = some true ∧ ∀ a, H a = none → ts a cls d { nx := fun σ' H' => D.nx (σ'.set i none) H', rt := D.rt, bk := fun σ' H' => D.bk (σ'.set i none) H', ct := fun σ' H' => D.ct (σ'.set i none) H' } (σ.set i (some (.ref a))) H
section
variable {X : Cx} {x1 x2 x3 n : Str} {c1 c2 c3 : Value} {i kt : Nat} {body suite : List Stmt} {b₀ : Stmt} {np1 np2 np3 tp pos pos' : Pos} {tb : WX → TS} {ts : Addr → Value → Option Addr → TS}
theorem ps_try_tup3 (hs : X.stack = X.env :: X.outer) (hf : X.env.frame = some X.env.locals) (hN : X.N.Nodup) (hi : X.N[i]? = some n) (hln : X.env.kindOf n = some .local) (hc1 : Names X x1 c1) (hc2 : Names X x2 c2) (hc3 : Names X x3 c3)
    (hb : ∀ (W : WX) (pn : List (Addr × Obj)) (xe : Value → Shared → Prop), Takes (X.tr pn xe) W → PassesOwn (model X.prog X.w) X.A X.env xe → PSs (X.tr pn xe) body (tb W))
    (hsu : ∀ (a : Addr) (oe : Obj) (cls : Value) (d : Option Addr) (pn : List (Addr × Obj)), Zc cls d oe → (∃ vs, oe.data = .fields vs) → X.base.get? a = none → PSs (X.suite a ((a, oe) :: pn)) (b₀ :: suite) (ts a cls d))
    (hst : starEach [.Name x1 np1, .Name x2 np2, .Name x3 np3] X.env = [(false, eval (.Name x1 np1) X.env), (false, eval (.Name x2 np2) X.env), (false, eval (.Name x3 np3) X.env)] := by rfl) :
    PS X (.Try body [.ExceptHandler (some (.Tuple [.Name x1 np1, .Name x2 np2, .Name x3 np3] kt tp)) (some n) (b₀ :: suite) pos'] [] [] pos) (fun D σ H => tb (wAs3 X.K [c1, c2, c3] i ts D) D σ H) := by
  refine ⟨fun pins s σ H D I h => ?_⟩
  have ok := I.ok
  have hfr : X.A.frames = some (X.env :: X.outer) := by rw [ok.frames, hs]
  have hloc : Loc X.env.scope n := .inl hln
  have bs0 := I.bs
  refine wpAny_Try_except ?_
  refine wpAny_mono ((hb (wAs3 X.K [c1, c2, c3] i ts D) (X.pn ++ pins) (fun e s₁ => wpAny (model X.prog X.w) X.A (noteFrame e X.env) (fun _ s₂ => wpAny (model X.prog X.w) X.A (setFlight e none) (fun _ s₃ =>
    wpAny (model X.prog X.w) X.A (handleBy e X.env [.ExceptHandler (some (.Tuple [.Name x1 np1, .Name x2 np2, .Name x3 np3] kt tp)) (some n) (b₀ :: suite) pos']) (SP X pins D) X.xe s₃) X.xe s₂) X.xe s₁) (fun u s' xx => ?_) PassesOwn.looking).run [] s σ H D (I.toTry _) h) (fun f s1 hsp => ?_) (fun e s1 he => he)
  · obtain ⟨a, B, sI, pins', σ', H', cls, d, rfl, J', nb, up, sky, na, os, ag, hx, hyes⟩ := xx
    have J : Inv X pins σ' H' sI := J'.ofTry ok
    have sky' : Sky B (X.env :: X.outer) a (Zc cls d) X.env.locals s'.heap := by rw [← hs]; exact sky
    show wpAny (model X.prog X.w) X.A (noteFrame (.ref a) X.env) _ _ _
    refine Sky.land Zc.steady hfr hf sky' fun h3 fl3 up3 => ?_
    have J3 : Inv X pins σ' H' { s' with heap := h3 } := J.landed nb fl3.1 (up.trans up3) os ag
    obtain ⟨oe3, vs3, he3, hz3, hd3⟩ := fl3.there
    have nfr : a ∉ frs (X.env :: X.outer) := fun hm => by
      obtain ⟨_, o', e', hnf⟩ := fl3.2.2.1.mem hm
      rw [he3] at e'; cases e'
      exact hnf _ hd3
    have nL : a ≠ X.env.locals := fun z => nfr (List.mem_filterMap.mpr ⟨X.env, List.mem_cons_self, by rw [hf, z]⟩)
    have nF : a ∉ X.fs := fun hm => by
      obtain ⟨e, he, q⟩ := List.mem_filterMap.mp hm
      exact nfr (List.mem_filterMap.mpr ⟨e, List.mem_cons_of_mem _ he, q⟩)
    -- the exception is none of the module's objects
    have nbase : X.base.get? a = none := by
      cases z : X.base.get? a with
      | none => rfl
      | some u =>
        have e1 := (J.bs a u z).1
        have n1 : a ∉ frs X.stack := by rw [hs]; exact nfr
        have e2 := nb a u e1 n1
        rw [fl3.2.1] at e2
        cases e2
    have S3 := J3.suite he3 hd3 na nL nF
    refine wpAny_handleBy_cons (codeAny_handlers_test ?_) (by intro q; cases q)
    have LT : PySem.W.Looks (model X.prog X.w) h3 (typeOf (.ref a)) cls := fun A Q E s k q => wpAny_typeOf_ref (k _ _ he3) (by rw [hz3.1]; exact q)
    have test : ∀ {x : Str} {c : Value} {np : Pos} {Q : Value → Shared → Prop} {E : Value → Shared → Prop}, Names X x c → Q c { s' with heap := h3 } → wpAny (model X.prog X.w) (X.A.mark (some (.ref a))) (eval (.Name x np) X.env) Q E { s' with heap := h3 } := fun {x c np Q E} hc q => by
      obtain ⟨hg, hdbg, hm | ⟨hm, hv, hnn⟩⟩ := hc
      · exact ld_glob (X := X.suite a ((a, oe3) :: (X.pn ++ pins))) S3 hg hm q hdbg
      · exact ld_blt (X := X.suite a ((a, oe3) :: (X.pn ++ pins))) S3 hg hm hv q hnn hdbg
    refine PyProof.Rows.Tuple_ ?_
    rw [hst]
    refine Calls.spliced_cons (test hc1 (Calls.spliced_cons (test hc2 (Calls.spliced_cons (test hc3 (Calls.spliced_nil ?_))))))
    refine wpAny_newObj_type ?_ (by show 3 ≤ sizeLine; rw [sizeLine_eq]; decide)
    have kp : ∀ b u, h3.get? b = some u → (h3.push { cls := .type "tuple", data := .seq [c1, c2, c3].toArray }).get? b = some u := fun b u e => Heap.get?_push_of_some _ e
    have fl4 := flying_push (o := { cls := .type "tuple", data := .seq [c1, c2, c3].toArray }) fl3
    have LM := PySem.W.exm_tup3 (M := model X.prog X.w) (c1 := c1) (c2 := c2) (c3 := c3) (J3.kIn.keeps kp) (LT.keeps kp) (Heap.get?_push_size _ rfl) hx
    refine LM.here ?_
    refine codeAny_handlers_suite_as ?_
    refine HandSPX.lands_againZ fl4 fun h5 fl5 up5 => ?_
    have J5 : Inv X pins σ' H' { s' with heap := h5 } := J.landed nb fl5.1 (((up.trans up3).trans (Heap.UpToSlots.of_keeps kp)).trans up5) os ag
    obtain ⟨oe5, vs5, he5, hz5, hd5⟩ := fl5.there
    have S5 := J5.suite he5 hd5 na nL nF
    refine store_ok (X := X.suite a ((a, oe5) :: (X.pn ++ pins))) (v := .ref a) S5 hN hi hloc rfl (fun s5 S5 => ?_) (.inr hln)
    refine wpAny_mono ((hsu a oe5 cls d (X.pn ++ pins) hz5 ⟨_, hd5⟩ nbase).run [] s5 _ H' _ S5 (hyes a na)) (fun f s6 hsp => ?_) (fun _ _ z => False.elim z)
    have end_ : ∀ {σ6 : St} {H6 : Hp} {Q : Shared → Prop}, Inv (X.suite a ((a, oe5) :: (X.pn ++ pins))) [] σ6 H6 s6 → (∀ s7, Inv X pins (σ6.set i none) H6 s7 → Q s7) →
        wpAny (model X.prog X.w) X.A (do bindName X.env n .none; unbindBehindTheSuite X.env n pos') (fun _ s7 => Q s7) X.xe s6 := fun {σ6 H6 Q} S6 hq => gone_ok (S6.unsuite ok) hN hi hln hq
    cases f with
    | next =>
      obtain ⟨σ6, H6, S6, q6⟩ := hsp
      exact end_ S6 fun s7 J7 => ⟨_, _, J7, q6⟩
    | brk =>
      obtain ⟨σ6, H6, S6, q6⟩ := hsp
      exact end_ S6 fun s7 J7 => ⟨_, _, J7, q6⟩
    | cont =>
      obtain ⟨σ6, H6, S6, q6⟩ := hsp
      exact end_ S6 fun s7 J7 => ⟨_, _, J7, q6⟩
    | ret u =>
      obtain ⟨v6, σ6, H6, S6, r6, q6⟩ := hsp
      exact end_ S6 fun s7 J7 => ⟨_, _, _, J7, r6, q6⟩
  · cases f with
    | next =>
      obtain ⟨σ', H', J', q⟩ := hsp
      exact wpAny_execs_nil ⟨σ', H', J'.ofTry ok, q⟩
    | brk =>
      obtain ⟨σ', H', J', q⟩ := hsp
      exact ⟨σ', H', J'.ofTry ok, q⟩
    | cont =>
      obtain ⟨σ', H', J', q⟩ := hsp
      exact ⟨σ', H', J'.ofTry ok, q⟩
    | ret u =>
      obtain ⟨v, σ', H', J', r, q⟩ := hsp
      exact ⟨v, σ', H', J'.ofTry ok, r, q⟩
end
/-! ### the suite: return f(e) -/
def tSui (T : Tb) (word : List B → R B) (i : Nat) (a : Addr) (cls : Value) (d : Option Addr) : TS := fun D σ H => σ[i]? = some (some (.ref a)) ∧ H a = none ∧ ∀ oe, Zc cls d oe → (∃ vs, oe.data = .fields vs) →
  spM T [] 1 word [.ref a] (addH H [(a, oe)]) (fun v H' => (∀ b o, List.lookup b [(a, oe)] = some o → H' b = some (objIs b o)) ∧ D.rt v (delH H' [(a, oe)])) (fun _ _ _ => False)
section
variable {X : Cx} {x : Str} {p pe pos rpos : Pos} {n : Str}
theorem lookup_one {a b : Addr} {o u : Obj} (h : List.lookup b [(a, o)] = some u) : b = a ∧ u = o := by
  have h' : (match (b == a) with | true => some o | false => none) = some u := h
  cases e : b == a with
  | true => rw [e] at h'; cases h'; exact ⟨of_decide_eq_true e, rfl⟩
  | false => rw [e] at h'; cases h'
theorem ps_suiteM {T : Tb} {word : List B → R B} {i k : Nat} {f : Addr} {fd : FuncData} {ps : List Str} {a : Addr} {oe : Obj} {cls : Value} {d : Option Addr} {pn : List (Addr × Obj)} (F : FnW X.prog X.w X.K X.mg X.base k f fd ps (spM T [] 1 word)) (hr : RoomG k X.A) (hg : Gl X x) (hm : X.mg x = some (.ref f)) (hk : PySem.W.keepIn X.K (.ref f) = true) (hb : Binds X.K fd ps [])
    (hz : Zc cls d oe) (hf : ∃ vs, oe.data = .fields vs) (nb : X.base.get? a = none) (he : PE (X.suite a ((a, oe) :: pn)) (.Name n pe) (tVar i)) (hdb : (x == ("__debug__" : Str)) = false := by decide) (hst : starEach [.Name n pe] X.env = (false, eval (.Name n pe) X.env) :: starEach [] X.env := by rfl) (hpl : (backTo pos (starEach [] X.env)).any (·.1) = false := by rfl) :
    PSs (X.suite a ((a, oe) :: pn)) [.Return (some (.Call (.Name x p) [.Name n pe] [] pos)) rpos] (tSui T word i a cls d) := by
  have call : PE (X.suite a ((a, oe) :: pn)) (.Call (.Name x p) [.Name n pe] [] pos) (fun σ H Q => tSui T word i a cls d { nx := fun _ _ => False, rt := Q } σ H) := by
    refine ⟨fun pins s σ H Q I ⟨hσ, hn, hsp⟩ => ?_⟩
    have hsp := hsp oe hz hf
    refine wpAny_Call_Name_kw (ld_glob I hg hm ?_ hdb)
    refine PySem.W.callWith_K (h₀ := X.base) I.ok.mod.kin hk (thn ((pa_cons he pa_nil hst).run pos pins s σ H (fun vs H1 => vs = [V.ref a] ∧ H1 = H) I ⟨_, hσ, rfl, rfl⟩) fun us s1 ⟨vs, H1, I1, r, ev, eH⟩ => ⟨I1.kIn, ?_⟩) hst hpl
    subst ev
    subst eH
    have P := I1.pin (a, oe) (List.mem_append_left _ List.mem_cons_self)
    have L : Lent X.prog X.w X.base X.stack H1 s1.heap [(a, oe)] := ⟨fun b o q => by
      obtain ⟨rfl, rfl⟩ := lookup_one q
      exact ⟨P.1, P.2.1, fun hm => (List.mem_cons.mp (I1.stkSub b hm)).elim P.2.2.1 P.2.2.2.1, nb⟩⟩
    have b := hb s1 us I1.kIn (by rw [List.append_nil, ← r.length]; exact F.len _ _ _ _ hsp)
    rw [List.append_nil] at b
    have hw : RoomW k (X.suite a ((a, oe) :: pn)).A := ⟨L2H.roomH_of (k := k) (A := X.A) hr.room |> fun z => ⟨z.dp, z.un⟩, hr.g⟩
    refine wpAny_call (codeAny_mono (F.run _ X.stack s1 (addH H1 [(a, oe)]) ⟨us, []⟩ us [.ref a] _ (fun _ _ _ => False) hw (L.env0 I1.env0) b r hsp) fun r s' hq => ?_)
    cases r with
    | error e =>
      obtain ⟨_, _, _, _, _, _, _, _, _, _, _, _, z⟩ := hq
      exact z.elim
    | ok fl =>
      cases fl with
      | ret u => exact after_lent I1 L hq
      | next => exact hq.elim
      | brk => exact hq.elim
      | cont => exact hq.elim
  refine PSsimp (pss_one (ps_ret call)) ?_
  rintro D s H ⟨h1, h2, h3⟩
  exact ⟨h1, h2, h3⟩
end
/-! ### try: body / except (A, B, C) as e: return f(e) -/
def tryM (i : Nat) (mb : M Flw) (exNo : Str → Option Nat) (word : List B → R B) : M Flw := fun env => match mb env with
  | .ok f env' => .ok f env'
  | .err c [(("given" : Str), d)] env' => match exNo c with
    | some n => match word [(false, .opq n [d])] with
      | .ok x _ => if noO x.2 = true ∧ n < 100 ∧ i < env'.length then .ok (.ret x) env' else .bad
      | .err _ _ _ => .bad
      | .bad => .bad
    | none => .bad
  | _ => .bad
theorem tryM_err {i : Nat} {mb : M Flw} {exNo : Str → Option Nat} {word : List B → R B} {env env' : Ev} {c : Str} {fs : List (Str × D)} (e : mb env = .err c fs env') {T : Tb} {W : WX} {rp : List Nat} {s : St} {F H : Hp} {D : Ends}
    (h : PSt T W rp s F H env D (tryM i mb exNo word env)) : ∃ d n x e2, fs = [(("given" : Str), d)] ∧ exNo c = some n ∧ word [(false, .opq n [d])] = .ok x e2 ∧ noO x.2 = true ∧ n < 100 ∧ i < env'.length ∧ PSt T W rp s F H env D (.ok (.ret x) env') := by
  unfold tryM at h
  rw [e] at h
  split at h
  · rename_i h1; cases h1
  · rename_i c' d' env2 h1
    cases h1
    split at h
    · rename_i n hn
      split at h
      · rename_i x e2 hx
        split at h
        · rename_i hz
          exact ⟨d', n, x, e2, rfl, hn, hx, hz.1, hz.2.1, hz.2.2, h⟩
        · exact h.elim
      · exact h.elim
      · exact h.elim
    · exact h.elim
  · exact h.elim
section
variable {X : Cx} {T : Tb} {W : WX} {rp : List Nat} {x1 x2 x3 n x : Str} {c1 c2 c3 : Value} {i kt : Nat} {body : List Stmt} {np1 np2 np3 tp pos pos' p pe cpos rpos : Pos} {excs : List Str}
theorem ps_tryM {mb : M Flw} {exNo : Str → Option Nat} {word : List B → R B} {k : Nat} {f : Addr} {fd : FuncData} {ps : List Str} (hX : HasX T excs) (hK : X.K = T.K) (hs : X.stack = X.env :: X.outer) (hf : X.env.frame = some X.env.locals) (hN : X.N.Nodup) (hi : X.N[i]? = some n) (hln : X.env.kindOf n = some .local) (hc1 : Names X x1 c1) (hc2 : Names X x2 c2) (hc3 : Names X x3 c3)
    (hno : ∀ c m, exNo c = some m → excs[m]? = some c) (hex : ∀ c m C, exNo c = some m → T.cl c = some C → PySem.W.exmAny X.K (.ref C) [c1, c2, c3] = some true)
    (hb : ∀ (W' : WX) (pn : List (Addr × Obj)) (xe : Value → Shared → Prop), Takes (X.tr pn xe) W' → PassesOwn (model X.prog X.w) X.A X.env xe → PSs (X.tr pn xe) body (tS T W' rp mb))
    (Fn : FnW X.prog X.w X.K X.mg X.base k f fd ps (spM T [] 1 word)) (hr : RoomG k X.A) (hg : Gl X x) (hm : X.mg x = some (.ref f)) (hk : PySem.W.keepIn X.K (.ref f) = true) (hbi : Binds X.K fd ps [])
    (he : ∀ (a : Addr) (pn : List (Addr × Obj)), PE (X.suite a pn) (.Name n pe) (tVar i)) (hdb : (x == ("__debug__" : Str)) = false := by decide) (hst : starEach [.Name n pe] X.env = (false, eval (.Name n pe) X.env) :: starEach [] X.env := by rfl) (hpl : (backTo cpos (starEach [] X.env)).any (·.1) = false := by rfl)
    (hst3 : starEach [.Name x1 np1, .Name x2 np2, .Name x3 np3] X.env = [(false, eval (.Name x1 np1) X.env), (false, eval (.Name x2 np2) X.env), (false, eval (.Name x3 np3) X.env)] := by rfl) :
    PS X (.Try body [.ExceptHandler (some (.Tuple [.Name x1 np1, .Name x2 np2, .Name x3 np3] kt tp)) (some n) [.Return (some (.Call (.Name x p) [.Name n pe] [] cpos)) rpos] pos'] [] [] pos) (tS T W rp (tryM i mb exNo word)) := by
  refine PSimp (ps_try_tup3 hs hf hN hi hln hc1 hc2 hc3 (tb := fun W' => tS T W' rp mb) (ts := fun a cls d => tSui T word i a cls d) hb (fun a oe cls d pn hz hfd nb => ps_suiteM Fn hr hg hm hk hbi hz hfd nb (he a _) hdb hst hpl) hst3) ?_
  rintro D s H ⟨F, env, E, h⟩
  refine ⟨F, env, E, ?_⟩
  cases e : mb env with
  | bad =>
    have z : tryM i mb exNo word env = .bad := by unfold tryM; rw [e]
    rw [z] at h; exact h
  | ok fl env' =>
    have z : tryM i mb exNo word env = .ok fl env' := by unfold tryM; rw [e]
    rw [z] at h
    cases fl <;> exact h
  | err c fs env' =>
    obtain ⟨dg, m, xr, e2, rfl, hm1, hw, hno1, hlt, hl, h⟩ := tryM_err e h
    intro C d s' F' H' hC st xo
    refine ⟨hex c m C hm1 hC, fun a ha => ⟨List.getElem?_set_self (by rw [st.rep.len]; exact hl), ha, fun oe hz hfd => ?_⟩⟩
    obtain ⟨dd, vs, hd, hdd, hv1, hv2⟩ := (show ∃ dd vs, d = some dd ∧ F' dd = some (.xd vs) ∧ vs.map (·.1) = [("given" : Str)] ∧ Reps T F' (vs.map (·.2)) [dg] from xo)
    subst hd
    obtain ⟨g, hvs⟩ : ∃ g, vs = [(("given" : Str), g)] := by
      cases vs with
      | nil => simp at hv1
      | cons q vs =>
        cases vs with
        | nil =>
          obtain ⟨q1, q2⟩ := q
          simp only [List.map_cons, List.map_nil, List.cons.injEq, and_true] at hv1
          exact ⟨q2, by rw [hv1]⟩
        | cons r vs => simp at hv1
    subst hvs
    have rg : Rep T F' g dg := by cases hv2 with | cons h r => exact h
    have hG : ∀ b o, List.lookup b [(a, oe)] = some o → H' b = none := fun b o q => by
      obtain ⟨rfl, rfl⟩ := lookup_one q; exact ha
    have out : ∀ {G : Hp} {b : Addr} {o : HO}, Same G H' → G b = some o → List.lookup b [(a, oe)] = none := fun {G b o} l z => by
      cases q : List.lookup b [(a, oe)] with
      | none => rfl
      | some u =>
        have := l b o z
        rw [hG b u q] at this; cases this
    have leF : Same F' (addH F' [(a, oe)]) := fun b o z => by rw [addH_out (out st.rep.le z)]; exact z
    have leH : Same H' (addH H' [(a, oe)]) := fun b o z => by rw [addH_out (out (Same.refl _) z)]; exact z
    have ina : List.lookup a [(a, oe)] = some oe := by simp [List.lookup]
    have rep : Rep T (addH F' [(a, oe)]) (.ref a) (.opq m [dg]) := by
      refine .opq (vs := [g]) ((hX m _ a [g] hlt).mpr ⟨c, C, dd, oe, g, hno c m hm1, hC, rfl, addH_in ina, hz, hfd, leF _ _ hdd⟩) (.cons (Rep.mono leF rg) .nil)
    have Ea : ERep T (addH F' [(a, oe)]) (addH H' [(a, oe)]) (([.ref a] : List V).map some) (([(false, .opq m [dg])] : List B).map some) := by
      refine ⟨fun b o z => ?_, rfl, fun j y z => ?_, fun j1 j2 d1 d2 v h1 h2 h3 h4 => ?_, leF _ _ st.rep.sm, st.rep.tb.keep (fun _ _ e => leF _ _ e) (fun b ps e z => by rw [addH_out (out (Same.refl _) e)]; exact z) fun _ _ e => leH _ _ e⟩
      · cases q : List.lookup b [(a, oe)] with
        | none => rw [addH_out q] at z ⊢; exact st.rep.le b o z
        | some u => rw [addH_in q] at z ⊢; exact z
      · cases j with
        | zero => cases z; exact ⟨.ref a, rfl, rep⟩
        | succ j => simp at z
      · cases j1 with
        | zero => cases h1
        | succ j => simp at h1
    have no : ∀ b, ¬ OwnE (([.ref a] : List V).map some) (([(false, .opq m [dg])] : List B).map some) b := fun b ⟨j, d1, h1, _⟩ => by
      cases j with
      | zero => cases h1
      | succ j => simp at h1
    refine ⟨rfl, addH F' [(a, oe)], [(false, .opq m [dg])], Ea, fun j y z o => ?_, ?_⟩
    · exfalso
      cases j with
      | zero => cases z; cases o
      | succ j => simp at z
    · rw [hw]
      intro v F2 H2 S rv fr
      obtain ⟨oF, oH, S2⟩ := Step.lent rfl st.rep hG no S
      refine ⟨oH, h v s' _ _ (st.trans S2.S) (VRep.back oF oH rv hno1) fun o b eb => .inl ?_⟩
      have := fr o b eb
      cases q : List.lookup b [(a, oe)] with
      | none => rw [addH_out q] at this; exact st.dom b this
      | some u => exact st.dom b (hG b u q)
end
end TT

set_option maxRecDepth 100000
set_option maxHeartbeats 4000000
/-! TK: lambdas without parameters: made, kept in lists, called in another def. -/
namespace TT
open PySem PySem.Spec PyProof.Rows L2
/-- a lambda of the program: its text, the captured names -/
structure LamD where
  qual : Str
  params : Arguments
  body : Expr
  scope : Scope
  names : List Str
abbrev lamObj (L : LamD) (cl : List (Str × Addr)) (pm : Value) (c' : Addr) (ctv : Value) : Obj := PySem.W.kla_obj "<lambda>" L.qual L.params L.body L.scope cl pm c' ctv
/-- made in a frame with these cells -/
def RawAt (L : LamD) (cells : List (Str × Addr)) (F : Hp) (a : Addr) : Prop := ∃ (c' : Addr) (pm ctv : Value), F a = some (objIs a (lamObj L (cloFrom cells L.scope.names []) pm c' ctv)) ∧ F c' = some (LamX.CodeO c' L.qual)
theorem RawAt.mono {L : LamD} {cells : List (Str × Addr)} {F F' : Hp} {a : Addr} (m : Same F F') (h : RawAt L cells F a) : RawAt L cells F' a := by
  obtain ⟨c', pm, ctv, h1, h2⟩ := h
  exact ⟨c', pm, ctv, m _ _ h1, m _ _ h2⟩
/-- within the frame that makes lambdas: number 1000 + j is the j-th of them, made here -/
def Tb.raw (T : Tb) (lams : List LamD) (cells : List (Str × Addr)) : Tb where
  K := T.K
  cl := T.cl
  op := fun n F a vs => if n < 1000 then T.op n F a vs else vs = [] ∧ ∃ L, lams[n - 1000]? = some L ∧ RawAt L cells F a
  mono := fun n F F' a vs m h => by
    by_cases hn : n < 1000
    · rw [if_pos hn] at h ⊢; exact T.mono n F F' a vs m h
    · rw [if_neg hn] at h ⊢
      obtain ⟨h1, L, h2, h3⟩ := h
      exact ⟨h1, L, h2, h3.mono m⟩
  tabs := T.tabs
  sm := T.sm
section
variable {T : Tb} {lams : List LamD} {cells : List (Str × Addr)} {F H : Hp}
mutual
theorem Rep.toRaw : ∀ {v : V} {d : D}, Rep T F v d → noO d = true → Rep (T.raw lams cells) F v d
  | v, d, h, n => Rep.plain (T := T) (T' := T.raw lams cells) (F := F) (F' := F) rfl (fun _ => rfl) (fun _ _ e _ => e) h n
end
end
def lamM (n : Nat) : M B := fun env => .ok (false, .opq (1000 + n) []) env
section
variable {T : Tb} {W : WX} {X : Cx} {lams : List LamD}
/-- the table is written, the code object and the lambda are known from now on -/
theorem pe_lamM {L : LamD} {n : Nat} {c P : Addr} {pos : Pos} (hL : lams[n]? = some L) (TB : LamX.TabB X.base X.mg c P) (hcode : X.env.code = .ref c) (hm : (P, L.qual) ∈ T.tabs) (hu : ∀ p ∈ T.tabs, p.1 = P → p.2 = L.qual) (hq : L.qual = X.env.qual ++ "<lambda>") (hdef : defaultsOf L.params X.env = ([], [])) (hS : LamX.LamS X.env.scope L.scope) :
    PE X (.Lambda L.params L.body L.scope pos) (tV (T.raw lams X.env.cells) W (lamM n)) := by
  refine ⟨fun pins s σ H Q I ⟨F, env, E, h⟩ => ?_⟩
  obtain ⟨ps, hP, fP, ht, ha⟩ := E.tb _ hm
  refine PySem.W.kla_eval hdef ?_
  have bP : s.heap.BuiltinsAt X.mg P := TB.bm.keeps I.bk
  have hP' : s.heap.get? P = some { cls := .none, data := .fields ps } := I.hok P _ hP
  -- the end: from the heap with the table and the code object
  have fin : ∀ (h' : Heap) (tk : Nat) (c' : Addr) (pm ctv : Value) (F1 H1 : Hp), Inv X pins σ H1 { s with heap := h', toks := tk } → Step (T.raw lams X.env.cells) σ F H env F1 H1 env → F1 c' = some (LamX.CodeO c' L.qual) →
      EP X pins σ Q (.ref h'.objs.size) { s with heap := h'.push (lamObj L (cloFrom X.env.cells L.scope.names []) pm c' ctv), toks := tk } := by
    intro h' tk c' pm ctv F1 H1 I1 st hc
    have ho : (h'.push (lamObj L (cloFrom X.env.cells L.scope.names []) pm c' ctv)).get? h'.objs.size = some (lamObj L (cloFrom X.env.cells L.scope.names []) pm c' ctv) := Heap.get?_push_size _ rfl
    have hn : H1 h'.objs.size = none := I1.hok.fresh (Nat.le_refl _)
    have I2 : Inv X pins σ (upd H1 h'.objs.size (objIs h'.objs.size (lamObj L (cloFrom X.env.cells L.scope.names []) pm c' ctv))) { s with heap := h'.push (lamObj L (cloFrom X.env.cells L.scope.names []) pm c' ctv), toks := tk } :=
      I1.laid (t' := tk) (fun b u e => Heap.get?_push_of_some _ e) (Nat.le_refl _) ⟨ho, trivial, ⟨_, ho⟩, fun _ _ _ _ => trivial⟩
    have sm := same_upd (o := objIs h'.objs.size (lamObj L (cloFrom X.env.cells L.scope.names []) pm c' ctv)) (st.rep.le.free hn)
    have n2 : New (T.raw lams X.env.cells) F1 H1 (upd F1 h'.objs.size (objIs h'.objs.size (lamObj L (cloFrom X.env.cells L.scope.names []) pm c' ctv))) (upd H1 h'.objs.size (objIs h'.objs.size (lamObj L (cloFrom X.env.cells L.scope.names []) pm c' ctv))) (.ref h'.objs.size) (false, .opq (1000 + n) []) := by
      refine New.shared st.rep.le hn (.opq (vs := []) ?_ .nil)
      show if 1000 + n < 1000 then _ else _
      rw [if_neg (by omega)]
      exact ⟨rfl, L, by rw [show 1000 + n - 1000 = n by omega]; exact hL, c', pm, ctv, upd_same, sm _ _ hc⟩
    obtain ⟨st2, ok2⟩ := n2.step st.rep
    exact ⟨.ref h'.objs.size, _, I2, rfl, h _ _ _ (st.trans st2) ⟨ok2, fun z => by cases z⟩⟩
  have hfree := hS.has I.ok
  rw [← hq]
  cases hc : codeAmong pos ps.toList with
  | none =>
    refine PySem.W.kla_makeFunction (mg := X.mg) (c := c) (P := P) (ps := ps) (closure_ok hfree) I.ok.glob (I.mod.glob.keeps I.bk) hcode (TB.code.keeps I.bk) hP' ht hc TB.gP bP fun c' ctv h' tk hx hge hlt hrec htb => ?_
    obtain ⟨c2, oc, vs, t, e2, hoc, hd, hv⟩ := hrec
    cases e2
    have nC : H c' = none := I.hok.fresh hge
    have nPc : P ≠ c' := ne_of_none hP nC
    have I1 := LamX.inv_table (t' := tk) (more := #[rawInt pos.line, rawInt pos.col, .ref c']) (h' := h') I hP (fun b o hb e => hx b o hb e) htb hge ⟨oc, vs, t, hoc, hd, hv⟩
    have eL : (ps ++ #[rawInt pos.line, rawInt pos.col, .ref c']).toList = ps.toList ++ [rawInt pos.line, rawInt pos.col, .ref c'] := by simp
    refine fin h' tk c' _ ctv (upd F c' (LamX.CodeO c' L.qual)) _ I1 ?_ upd_same
    have fC : F c' = none := E.le.free nC
    have m : Same F (upd F c' (LamX.CodeO c' L.qual)) := same_upd fC
    have hk : ∀ b o, H b = some o → NT o → upd (upd H P (.tbl (ps ++ #[rawInt pos.line, rawInt pos.col, .ref c']))) c' (LamX.CodeO c' L.qual) b = some o := fun b o e t => by
      rw [upd_ne (ne_of_none e nC), upd_ne (fun z => by subst z; rw [hP] at e; cases e; exact t _ rfl)]
      exact e
    refine ⟨⟨fun b o e => ?_, E.len, fun i x e => ?_, E.sep, m _ _ E.sm, fun p hp => ?_⟩, m, fun b o e t _ => hk b o e t, fun b e z => ?_, fun i d e => ⟨d, e⟩, fun b e => ?_⟩
    · by_cases hb : b = c'
      · subst hb; rw [upd_same] at e ⊢; exact e
      · rw [upd_ne hb] at e ⊢
        rw [upd_ne (fun z => by subst z; rw [fP] at e; cases e)]
        exact E.le b o e
    · obtain ⟨v, e1, r⟩ := E.get i x e
      refine ⟨v, e1, ?_⟩
      obtain ⟨own, d⟩ := x
      cases own with
      | false => exact Rep.mono m r
      | true =>
        obtain ⟨b, rfl, fb, tp⟩ := r
        obtain ⟨o, ho, po⟩ := tp.obj
        refine ⟨b, rfl, ?_, tp.imp m fun o e p => hk b o e p.nt⟩
        rw [upd_ne (ne_of_none ho nC)]
        exact fb
    · by_cases hb : p.1 = P
      · refine ⟨ps ++ #[rawInt pos.line, rawInt pos.col, .ref c'], ?_, ?_, by rw [eL]; exact PySem.TriplesOk_snoc _ _ _ _ ht, fun p' cv hcv => ?_⟩
        · rw [hb, upd_ne nPc, upd_same]
        · rw [hb, upd_ne nPc]; exact fP
        · rw [eL] at hcv
          rcases LamX.among_app _ ht hcv with z | z
          · obtain ⟨c0, e1, e2⟩ := ha p' cv z
            rw [hu p hp hb]
            exact ⟨c0, e1, m _ _ e2⟩
          · rw [hu p hp hb]
            exact ⟨c', z, upd_same⟩
      · obtain ⟨ps', a1, a0, a2, a3⟩ := E.tb p hp
        have nb : p.1 ≠ c' := ne_of_none a1 nC
        refine ⟨ps', by rw [upd_ne nb, upd_ne hb]; exact a1, by rw [upd_ne nb]; exact a0, a2, fun p' cv hcv => ?_⟩
        obtain ⟨c0, e1, e2⟩ := a3 p' cv hcv
        exact ⟨c0, e1, m _ _ e2⟩
    · by_cases hb : b = c'
      · subst hb; exact .inl nC
      · rw [upd_ne hb] at z; exact absurd e z
    · by_cases hb : b = c'
      · subst hb; exact nC
      · rw [upd_ne hb] at e
        by_cases hb2 : b = P
        · subst hb2; rw [upd_same] at e; cases e
        · rw [upd_ne hb2] at e; exact e
  | some cv =>
    obtain ⟨c', e, hco⟩ := ha pos cv hc
    subst e
    refine PySem.W.kla_makeFunctionHit (mg := X.mg) (c := c) (P := P) (ps := ps) (closure_ok hfree) I.ok.glob (I.mod.glob.keeps I.bk) hcode (TB.code.keeps I.bk) hP' ht hc bP fun ctv h' tk hx hsz => ?_
    have I1 : Inv X pins σ H { s with heap := h', toks := tk } := I.kept (t' := tk) hx
    exact fin h' tk c' _ ctv F H I1 (Step.refl E) hco
end
/-! ### closed lambdas, for other frames: what their cells hold is told -/
def CloAt (L : LamD) (F : Hp) (a : Addr) (vs : List V) : Prop := ∃ (cl : List (Str × Addr)) (c' : Addr) (pm ctv : Value), F a = some (objIs a (lamObj L cl pm c' ctv)) ∧ F c' = some (LamX.CodeO c' L.qual) ∧ vs.length = L.names.length ∧
  (∀ x c, cl.lookup x = some c → x ∈ L.names) ∧ (∀ x y c, cl.lookup x = some c → cl.lookup y = some c → x = y) ∧ (∀ y ∈ L.scope.names, y.2 = .free → ∃ c, cl.lookup y.1 = some c) ∧
  ∀ (i : Nat) (x : Str) (v : V), L.names[i]? = some x → vs[i]? = some v → ∃ (c : Addr) (o : Obj) (u : Value), cl.lookup x = some c ∧ F c = some (objIs c o) ∧ o.data = .cell (some u) ∧ RelV v u
theorem CloAt.mono {L : LamD} {F F' : Hp} {a : Addr} {vs : List V} (m : Same F F') (h : CloAt L F a vs) : CloAt L F' a vs := by
  obtain ⟨cl, c', pm, ctv, h1, h2, h3, h4, h5, h6, h7⟩ := h
  refine ⟨cl, c', pm, ctv, m _ _ h1, m _ _ h2, h3, h4, h5, h6, fun i x v e1 e2 => ?_⟩
  obtain ⟨c, o, u, k1, k2, k3, k4⟩ := h7 i x v e1 e2
  exact ⟨c, o, u, k1, m _ _ k2, k3, k4⟩
def HasC (T : Tb) (lams : List LamD) : Prop := ∀ n F a vs, 100 ≤ n → n < 1000 → (T.op n F a vs ↔ ∃ L, lams[n - 100]? = some L ∧ CloAt L F a vs)
section
variable {X : Cx} {pins : List (Addr × Obj)} {σ : St} {H : Hp} {s : Shared}
/-- a captured slot's cell -/
theorem cell_of (I : Inv X pins σ H s) {i : Nat} {x : Str} {v : V} (hN : X.N[i]? = some x) (hv : σ[i]? = some (some v)) (hk : X.env.scope.names.lookup x = some .cell) :
    ∃ (c : Addr) (o : Obj) (u : Value), X.env.cells.lookup x = some c ∧ s.heap.get? c = some o ∧ o.data = .cell (some u) ∧ RelV v u := by
  obtain ⟨m, hn, hl⟩ := I.loc
  obtain ⟨u, r, q⟩ := hl i x v hN hv (.inr (.inl hk))
  rcases q with ⟨k', _⟩ | ⟨_, c, e, o, ho, hd⟩
  · have k' : X.env.scope.names.lookup x = some .local := k'
    rw [hk] at k'
    cases k'
  · exact ⟨c, o, u, e, ho, hd, r⟩
/-- the cells of captured slots -/
theorem gather (I : Inv X pins σ H s) : ∀ (cs : List (Nat × Str)), (∀ p ∈ cs, X.N[p.1]? = some p.2 ∧ X.env.scope.names.lookup p.2 = some .cell ∧ ∃ v, σ[p.1]? = some (some v)) →
    ∃ G : List (Addr × Obj), (∀ b o, G.lookup b = some o → s.heap.get? b = some o ∧ ∃ x, X.env.cells.lookup x = some b) ∧
      ∀ p ∈ cs, ∃ (c : Addr) (o : Obj) (u : Value) (v : V), X.env.cells.lookup p.2 = some c ∧ G.lookup c = some o ∧ o.data = .cell (some u) ∧ σ[p.1]? = some (some v) ∧ RelV v u
  | [], _ => by
    refine ⟨[], fun b o e => ?_, fun p hp => absurd hp (by simp)⟩
    simp at e
  | p :: cs, h => by
    obtain ⟨G, g1, g2⟩ := gather I cs fun q hq => h q (List.mem_cons_of_mem _ hq)
    obtain ⟨h1, h2, v, h3⟩ := h p List.mem_cons_self
    obtain ⟨c, o, u, k1, k2, k3, k4⟩ := cell_of I h1 h3 h2
    have inn : List.lookup c ((c, o) :: G) = some o := by rw [List.lookup_cons]; simp
    refine ⟨(c, o) :: G, fun b w e => ?_, fun q hq => ?_⟩
    · rw [List.lookup_cons] at e
      cases q : b == c with
      | true =>
        rw [q] at e
        cases e
        have := of_decide_eq_true q
        subst this
        exact ⟨k2, p.2, k1⟩
      | false => rw [q] at e; exact g1 b w e
    · rcases List.mem_cons.mp hq with e | e
      · subst e
        exact ⟨c, o, u, v, k1, inn, k3, h3, k4⟩
      · obtain ⟨c2, o2, u2, v2, l1, l2, l3, l4, l5⟩ := g2 q e
        refine ⟨c2, o2, u2, v2, l1, ?_, l3, l4, l5⟩
        rw [List.lookup_cons]
        cases q2 : c2 == c with
        | true =>
          have := of_decide_eq_true q2
          subst this
          have z := (g1 _ _ l2).1
          rw [k2] at z
          cases z
          rfl
        | false => exact l2
theorem lent_cells (I : Inv X pins σ H s) (hfn : ∀ x, X.fn x = true) {G : List (Addr × Obj)} (hG : ∀ b o, G.lookup b = some o → s.heap.get? b = some o ∧ ∃ x, X.env.cells.lookup x = some b) : Lent X.prog X.w X.base X.stack H s.heap G := ⟨fun b o e => by
  obtain ⟨h1, x, h2⟩ := hG b o e
  have h3 := I.ok.cab x b (hfn x) h2
  refine ⟨h1, I.freeC x b h2, fun hm => ?_, ?_⟩
  · rcases List.mem_cons.mp (I.stkSub b hm) with z | z
    · exact I.cne x b h2 z
    · obtain ⟨_, o', e', _⟩ := I.ok.funs.mem z
      exact absurd (Nat.lt_of_lt_of_le (Heap.lt_size e') h3) (Nat.lt_irrefl _)
  · cases z : X.base.get? b with
    | none => rfl
    | some u => exact absurd (Nat.lt_of_lt_of_le (Heap.lt_size z) (Nat.le_trans I.ok.bsz h3)) (Nat.lt_irrefl _)⟩
end
/-! ### a def called with lambdas of this frame -/
def capD (env : Ev) : List Nat → Option (List D)
  | [] => some []
  | i :: is => match env[i]? with
    | some (some (false, d)) => if noO d = true then (capD env is).map (d :: ·) else none
    | _ => none
mutual
def closeD (env : Ev) (caps : List (List Nat)) : D → Option D
  | .opq n [] => if 1000 ≤ n ∧ n < 1900 then ((caps[n - 1000]?).bind (capD env)).map fun ds => .opq (n - 1000 + 100) ds else none
  | .opq _ (_ :: _) => none
  | .lst xs => (closeDs env caps xs).map .lst
  | .non => some .non
  | .bl b => some (.bl b)
  | .int i => some (.int i)
  | .str x => some (.str x)
  | .tup xs => if noOs xs = true then some (.tup xs) else none
  | .frz xs => if noOs xs = true then some (.frz xs) else none
  | .dct ks vs => if noOs vs = true then some (.dct ks vs) else none
  | .ins c ns vs => if noOs vs = true then some (.ins c ns vs) else none
def closeDs (env : Ev) (caps : List (List Nat)) : List D → Option (List D)
  | [] => some []
  | x :: xs => match closeD env caps x, closeDs env caps xs with
    | some y, some ys => some (y :: ys)
    | _, _ => none
end
def closeAs (env : Ev) (caps : List (List Nat)) : List B → Option (List B)
  | [] => some []
  | (false, d) :: xs => match closeD env caps d, closeAs env caps xs with
    | some y, some ys => some ((false, y) :: ys)
    | _, _ => none
  | (true, _) :: _ => none
def cloO (m : List B → R B) (n : Nat) (caps : List (List Nat)) (os : List Opd) : M B := fun env => match argsOf [] env 0 os with
  | none => .bad
  | some args => if os.length = n ∧ (caps.all fun is => (capD env is).isSome) = true then match closeAs env caps args with
    | none => .bad
    | some args' => match m args' with
      | .ok x _ => if x.1 = false ∧ noO x.2 = true then .ok x env else .bad
      | .err _ _ _ => .bad
      | .bad => .bad
    else .bad
def cloM (m : List B → R B) (n : Nat) (caps : List (List Nat)) (ms : M (List Opd)) : M B := M.bind ms (cloO m n caps)
/-- how the captured slots of the lambdas stand to the frame's names -/
structure CapsOk (X : Cx) (lams : List LamD) (caps : List (List Nat)) : Prop where
  len0 : lams.length = caps.length
  len : ∀ (j : Nat) (L : LamD) (is : List Nat), lams[j]? = some L → caps[j]? = some is → is.length = L.names.length
  nm : ∀ (j : Nat) (L : LamD) (is : List Nat) (k i : Nat) (x : Str), lams[j]? = some L → caps[j]? = some is → is[k]? = some i → L.names[k]? = some x → X.N[i]? = some x ∧ X.env.scope.names.lookup x = some .cell
  fr : ∀ (j : Nat) (L : LamD), lams[j]? = some L → ∀ x, x ∈ L.names ↔ (x, NameKind.free) ∈ L.scope.names
  has : ∀ (j : Nat) (L : LamD), lams[j]? = some L → LamX.LamS X.env.scope L.scope
/-! ### the same promise, by other tables -/
def noX : Option B → Bool
  | none => true
  | some x => noO x.2
def noE (env : Ev) : Bool := env.all noX
def noB (l : List B) : Bool := l.all fun x => noO x.2
def noF (fs : List (Str × D)) : Bool := noOs (fs.map (·.2))
def grd (m : List B → R B) (args : List B) : R B := if noB args = true then match m args with
  | .ok x e => if (noO x.2 && noE e) = true then .ok x e else .bad
  | .err c fs e => if (noF fs && noE e) = true then .err c fs e else .bad
  | .bad => .bad
  else .bad
structure Alike (T T' : Tb) : Prop where
  k : T'.K = T.K
  c : ∀ x, T'.cl x = T.cl x
  t : T'.tabs = T.tabs
  s : T'.sm = T.sm
theorem Alike.symm {T T' : Tb} (a : Alike T T') : Alike T' T := ⟨a.k.symm, fun x => (a.c x).symm, a.t.symm, a.s.symm⟩
theorem Alike.raw {T : Tb} {lams : List LamD} {cells : List (Str × Addr)} : Alike T (T.raw lams cells) := ⟨rfl, fun _ => rfl, rfl, rfl⟩
section
variable {T T' : Tb} {F H F' H' : Hp} {s : St} {env env' : Ev}
theorem Rep.swap (A : Alike T T') {v : V} {d : D} (r : Rep T F v d) (n : noO d = true) : Rep T' F v d := Rep.plain A.k A.c (fun _ _ e _ => e) r n
theorem Reps.swap (A : Alike T T') {v : List V} {d : List D} (r : Reps T F v d) (n : noOs d = true) : Reps T' F v d := Reps.plain A.k A.c (fun _ _ e _ => e) r n
theorem VRep.swap (A : Alike T T') {v : V} {x : B} (r : VRep T F H v x) (n : noO x.2 = true) : VRep T' F H v x := by
  obtain ⟨own, d⟩ := x
  cases own with
  | false => exact Rep.swap A r n
  | true =>
    obtain ⟨a, rfl, fa, t⟩ := r
    refine ⟨a, rfl, fa, ?_⟩
    cases d with
    | lst ds => obtain ⟨vs, q, r⟩ := t; exact ⟨vs, q, Reps.swap A r (by simpa only [noO] using n)⟩
    | dct ks ds => obtain ⟨kvs, q, q2, r⟩ := t; exact ⟨kvs, q, q2, Reps.swap A r (by simpa only [noO] using n)⟩
    | ins c ns ds => obtain ⟨C, dx, fs, q0, q, q2, r⟩ := t; exact ⟨C, dx, fs, by rw [A.c]; exact q0, q, q2, Reps.swap A r (by simpa only [noO] using n)⟩
    | non => exact t.elim
    | bl _ => exact t.elim
    | int _ => exact t.elim
    | str _ => exact t.elim
    | tup _ => exact t.elim
    | frz _ => exact t.elim
    | opq _ _ => exact t.elim
theorem noE_get {i : Nat} {x : B} (n : noE env = true) (e : env[i]? = some (some x)) : noO x.2 = true := by
  unfold noE at n
  exact (List.all_eq_true.mp n) _ (List.mem_of_getElem? e)
theorem ERep.swap (A : Alike T T') (E : ERep T F H s env) (n : noE env = true) : ERep T' F H s env where
  le := E.le
  len := E.len
  get := fun i x e => by
    obtain ⟨v, e1, r⟩ := E.get i x e
    exact ⟨v, e1, r.swap A (noE_get n e)⟩
  sep := E.sep
  sm := by rw [A.s]; exact E.sm
  tb := by rw [A.t]; exact E.tb
theorem Step.swap (A : Alike T T') (S : Step T s F H env F' H' env') (n : noE env' = true) : Step T' s F H env F' H' env' :=
  ⟨S.rep.swap A n, S.mono, S.frame, S.fresh, S.own, S.dom⟩
theorem XOk.swap (A : Alike T T') : ∀ {fs : List (Str × D)} {d : Option Addr}, XOk T F H fs d → noF fs = true → XOk T' F H fs d
  | [], _, h, _ => h
  | f :: fs, d, ⟨dd, vs, h1, h2, h3, h4⟩, n => ⟨dd, vs, h1, h2, h3, h4.swap A n⟩
theorem noB_map {args : List B} (n : noB args = true) : noE (args.map some) = true := by
  unfold noE
  unfold noB at n
  rw [List.all_map]
  exact n
theorem spM_swap (A : Alike T T') {rp : List Nat} {n : Nat} {m : List B → R B} {vs : List V} {Q : VK} {E : XK} (h : spM T' rp n (grd m) vs H Q E) : spM T rp n m vs H Q E := by
  obtain ⟨hl, F, args, Er, hown, h⟩ := h
  by_cases hn : noB args = true
  case neg => unfold grd at h; rw [if_neg hn] at h; exact h.elim
  unfold grd at h
  rw [if_pos hn] at h
  refine ⟨hl, F, args, Er.swap A.symm (noB_map hn), hown, ?_⟩
  cases e : m args with
  | bad => rw [e] at h; exact h
  | ok x env' =>
    simp only [e] at h
    by_cases q : (noO x.2 && noE env') = true
    case neg => rw [if_neg q] at h; exact h.elim
    rw [if_pos q] at h
    rw [Bool.and_eq_true] at q
    exact fun v F' H' st r fr => h v F' H' (st.swap A q.2) (r.swap A q.1) fr
  | err c fs env' =>
    simp only [e] at h
    by_cases q : (noF fs && noE env') = true
    case neg => rw [if_neg q] at h; exact h.elim
    rw [if_pos q] at h
    rw [Bool.and_eq_true] at q
    exact fun C d F' H' hc st x => h C d F' H' (by rw [A.c]; exact hc) (st.swap A q.2) (x.swap A q.1)
theorem FnG.swap (A : Alike T T') {P : Program} {w : World} {K : PySem.W.Frag} {mg : Str → Option Value} {base : Heap} {k : Nat} {f : Addr} {fd : FuncData} {ps : List Str} {rp : List Nat} {n : Nat} {m : List B → R B} (G : FnG P w K mg base k f fd ps (spM T rp n m)) :
    FnG P w K mg base k f fd ps (spM T' rp n (grd m)) :=
  ⟨fun vs H Q E h => G.len vs H Q E (spM_swap A h), fun A1 outer s H args us vs Q E hr he hb hv h => G.run A1 outer s H args us vs Q E hr he hb hv (spM_swap A h)⟩
end
/-- a def that makes lambdas: c is the address of its code object -/
theorem fnDR {T : Tb} {P : Program} {w : World} {K : PySem.W.Frag} {mg : Str → Option Value} {base : Heap} {rp : List Nat} {x qual : Str} {st : Stmt} {f c : Addr} {fd : FuncData} {N ps : List Str} {k n : Nat} {mb : M Flw} {lams : List LamD} (F : Fun K x qual st f fd) (S : FnScope N ps (defScope st)) (hn : N.length = n) (hcode : fd.code = .ref c)
    (hbody : ∀ (A : Around) (outer : List Env) (s : Shared) (H : Hp) (E : XK), RoomG k (A.deeper (envOfC qual (defScope st) s.heap.objs.size f (.ref c))) →
      PSs (cxOf (L2.CX P w) P w K mg base N qual (defScope st) f (.ref c) A outer s H E) (defBody st) (tS (T.raw lams (cxOf (L2.CX P w) P w K mg base N qual (defScope st) f (.ref c) A outer s H E).env.cells) (fun cls d _ H => E cls d H) rp mb)) :
    FnG P w K mg base (k + 1) f fd ps (spM T rp ps.length (grd (fnR n rp mb))) := by
  have hcd : ∀ cdv, fd.code = cdv → cdv = .ref c := fun cdv e => e.symm.trans hcode
  obtain ⟨oc, od, kV, doc, pm, an, cdv, ct, osl, hfd, lk, hcdv⟩ := F.ex
  obtain rfl : cdv = .ref c := hcd cdv (by rw [hfd])
  subst hfd
  refine ⟨fun vs H Q E h => h.1, fun A outer s H args us vs Q E hr e0 hb r hsp => ?_⟩
  have KX : K.In s.heap := e0.mod.kin.keeps fun b o e => (e0.bs b o e).1
  have lim : s.heap.NoLimit := e0.mod.nolimit.keeps fun b o e => (e0.bs b o e).1
  have kinds : ∀ y ∈ ps.zip us, (defScope st).names.lookup y.1 = some .local ∨ ((defScope st).names.lookup y.1 = some .cell ∧ ((cellsFrom (s.heap.objs.size + 1) (defScope st).names []).lookup y.1).isSome = true) := by
    intro y hy
    have hm := (List.of_mem_zip (a := y.1) (b := y.2) hy).1
    rcases S.par y.1 hm with q | q
    · exact .inl q
    · exact .inr ⟨q, PySem.W.cellsFrom_some _ _ _ (.inl q)⟩
  refine codeAny_call_function hr.room.depth (KX _ _ lk) rfl S.co S.gen rfl (PySem.W.codeRec_of KX hcdv) (hb _ _ _ _ (wpAny_newFunctionEnv_cells S.kind kinds fun env he s1 x => ?_))
  subst he
  refine ⟨lim.keeps x.toInCall.keep, codeAny_func ?_⟩
  have ht := hbody A outer s H E (hr.deeper _)
  obtain ⟨hl, Fh, as, Er, hown, hm⟩ := spM_swap (T := T.raw lams (cxOf (L2.CX P w) P w K mg base N qual (defScope st) f (.ref c) A outer s H E).env.cells) (Alike.raw.symm) hsp
  have hq := spM_body hn hl Er hown hm
  have I := inv_start (CX := L2.CX P w) (E := E) S hr.room.hd e0 hl r x
  refine wpAny_mono (ht.run [] s1 (start N vs) H _ I hq) (fun fl s' hs => ?_) fun e s' hs => hs
  cases fl with
  | ret u =>
    obtain ⟨v, σ', H', J, rv, q⟩ := hs
    exact ⟨v, H', J.os, J.bare, J.base, J.hok, rv, q⟩
  | next =>
    obtain ⟨σ', H', J, q⟩ := hs
    exact ⟨.non, H', J.os, J.bare, J.base, J.hok, rfl, q⟩
  | brk =>
    obtain ⟨_, _, _, q⟩ := hs
    exact q.elim
  | cont =>
    obtain ⟨_, _, _, q⟩ := hs
    exact q.elim
/-! ### lambdas of this frame handed on -/
section
variable {T : Tb} {X : Cx} {lams : List LamD} {caps : List (List Nat)} {cells : List (Str × Addr)} {F F' H : Hp} {σ : St} {env : Ev}
theorem capV (E : ERep (T.raw lams cells) F H σ env) : ∀ {is : List Nat} {ds : List D}, capD env is = some ds → ∃ vs : List V, vs.length = is.length ∧ Reps T F vs ds ∧ ∀ (i k : Nat) (v : V), is[i]? = some k → vs[i]? = some v → σ[k]? = some (some v)
  | [], ds, h => by
    cases h
    exact ⟨[], rfl, .nil, fun i k v e => by simp at e⟩
  | j :: is, ds, h => by
    unfold capD at h
    split at h
    case h_2 => cases h
    rename_i d e
    by_cases n : noO d = true
    case neg => rw [if_neg n] at h; cases h
    rw [if_pos n] at h
    cases e2 : capD env is with
    | none => rw [e2] at h; cases h
    | some es =>
      rw [e2] at h
      cases h
      obtain ⟨vs, h1, h2, h3⟩ := capV E e2
      obtain ⟨v, k1, k2⟩ := E.get j _ e
      refine ⟨v :: vs, by rw [List.length_cons, List.length_cons, h1], .cons (Rep.swap Alike.raw.symm k2 n) h2, fun i k w a b => ?_⟩
      cases i with
      | zero => simp at a b; subst a; subst b; exact k1
      | succ i => exact h3 i k w (by simpa using a) (by simpa using b)
mutual
theorem Rep.close (m : Same F F') (hc : HasC T lams) (hL : ∀ (j : Nat) (L : LamD) (is : List Nat) (a : Addr) (ds : List D), lams[j]? = some L → caps[j]? = some is → capD env is = some ds → RawAt L cells F a → ∃ vs, CloAt L F' a vs ∧ Reps T F' vs ds) : ∀ {v : V} {d d' : D}, Rep (T.raw lams cells) F v d → closeD env caps d = some d' → Rep T F' v d'
  | _, _, _, .non, h => by cases h; exact .non
  | _, _, _, .bl b, h => by cases h; exact .bl b
  | _, _, _, .int i, h => by cases h; exact .int i
  | _, _, _, .str x, h => by cases h; exact .str x
  | _, _, _, .lst (ds := ds) q r, h => by
    unfold closeD at h
    cases e : closeDs env caps ds with
    | none => rw [e] at h; cases h
    | some es => rw [e] at h; cases h; exact .lst (m _ _ q) (Reps.close m hc hL r e)
  | _, _, _, .frz (ds := ds) q r, h => by
    unfold closeD at h
    by_cases n : noOs ds = true
    case neg => rw [if_neg n] at h; cases h
    rw [if_pos n] at h
    cases h
    exact Rep.mono m (Rep.swap Alike.raw.symm (.frz q r) (by simpa only [noO] using n))
  | _, _, _, .tup (ds := ds) q r, h => by
    unfold closeD at h
    by_cases n : noOs ds = true
    case neg => rw [if_neg n] at h; cases h
    rw [if_pos n] at h
    cases h
    exact Rep.mono m (Rep.swap Alike.raw.symm (.tup q r) (by simpa only [noO] using n))
  | _, _, _, .dct (ds := ds) q e1 e2 r, h => by
    unfold closeD at h
    by_cases n : noOs ds = true
    case neg => rw [if_neg n] at h; cases h
    rw [if_pos n] at h
    cases h
    exact Rep.mono m (Rep.swap Alike.raw.symm (.dct q e1 e2 r) (by simpa only [noO] using n))
  | _, _, _, .ins (ds := ds) hcl q e1 e2 r, h => by
    unfold closeD at h
    by_cases n : noOs ds = true
    case neg => rw [if_neg n] at h; cases h
    rw [if_pos n] at h
    cases h
    exact Rep.mono m (Rep.swap Alike.raw.symm (.ins hcl q e1 e2 r) (by simpa only [noO] using n))
  | _, _, _, .opq (n := n) (ds := []) q r, h => by
    unfold closeD at h
    by_cases hn : 1000 ≤ n ∧ n < 1900
    case neg => rw [if_neg hn] at h; cases h
    rw [if_pos hn] at h
    cases e : caps[n - 1000]? with
    | none => rw [e] at h; cases h
    | some is =>
      rw [e] at h
      simp only [Option.bind] at h
      cases e2 : capD env is with
      | none => rw [e2] at h; cases h
      | some es =>
        rw [e2] at h
        cases h
        have q : if n < 1000 then _ else _ := q
        rw [if_neg (by omega)] at q
        obtain ⟨rfl, L, k1, k2⟩ := q
        obtain ⟨vs, k3, k4⟩ := hL _ L is _ es k1 e e2 k2
        exact .opq ((hc _ F' _ vs (by omega) (by omega)).mpr ⟨L, by rw [show n - 1000 + 100 - 100 = n - 1000 by omega]; exact k1, k3⟩) k4
  | _, _, _, .opq (n := n) (ds := d :: ds) q r, h => by
    unfold closeD at h
    cases h
theorem Reps.close (m : Same F F') (hc : HasC T lams) (hL : ∀ (j : Nat) (L : LamD) (is : List Nat) (a : Addr) (ds : List D), lams[j]? = some L → caps[j]? = some is → capD env is = some ds → RawAt L cells F a → ∃ vs, CloAt L F' a vs ∧ Reps T F' vs ds) : ∀ {v : List V} {d d' : List D}, Reps (T.raw lams cells) F v d → closeDs env caps d = some d' → Reps T F' v d'
  | _, _, _, .nil, h => by cases h; exact .nil
  | _, _, _, .cons (d := d) (ds := ds) q r, h => by
    unfold closeDs at h
    cases e1 : closeD env caps d with
    | none => rw [e1] at h; simp at h
    | some y =>
      cases e2 : closeDs env caps ds with
      | none => rw [e1, e2] at h; simp at h
      | some ys =>
        rw [e1, e2] at h
        cases h
        exact .cons (Rep.close m hc hL q e1) (Reps.close m hc hL r e2)
end
end
section
variable {T : Tb} {X : Cx} {lams : List LamD} {caps : List (List Nat)} {pins : List (Addr × Obj)} {F H : Hp} {σ : St} {s : Shared} {env : Ev}
def capList (lams : List LamD) (caps : List (List Nat)) : List (Nat × Str) := (lams.zip caps).flatMap fun p => p.2.zip p.1.names
theorem capList_of {p : Nat × Str} (h : p ∈ capList lams caps) : ∃ (j : Nat) (L : LamD) (is : List Nat) (k : Nat), lams[j]? = some L ∧ caps[j]? = some is ∧ is[k]? = some p.1 ∧ L.names[k]? = some p.2 := by
  unfold capList at h
  obtain ⟨q, hq, hp⟩ := List.mem_flatMap.mp h
  obtain ⟨j, hj⟩ := List.mem_iff_getElem?.mp hq
  obtain ⟨k, hk⟩ := List.mem_iff_getElem?.mp hp
  rw [List.getElem?_zip_eq_some] at hj hk
  exact ⟨j, q.1, q.2, k, hj.1, hj.2, hk.1, hk.2⟩
theorem capList_in {j k i : Nat} {x : Str} {L : LamD} {is : List Nat} (h1 : lams[j]? = some L) (h2 : caps[j]? = some is) (h3 : is[k]? = some i) (h4 : L.names[k]? = some x) : (i, x) ∈ capList lams caps := by
  unfold capList
  refine List.mem_flatMap.mpr ⟨(L, is), List.mem_iff_getElem?.mpr ⟨j, List.getElem?_zip_eq_some.mpr ⟨h1, h2⟩⟩, List.mem_iff_getElem?.mpr ⟨k, List.getElem?_zip_eq_some.mpr ⟨h3, h4⟩⟩⟩
theorem capD_get : ∀ {is : List Nat} {ds : List D} {k i : Nat}, capD env is = some ds → is[k]? = some i → ∃ d, env[i]? = some (some (false, d))
  | j :: is, ds, k, i, h, e => by
    unfold capD at h
    split at h
    case h_2 => cases h
    rename_i d e1
    by_cases n : noO d = true
    case neg => rw [if_neg n] at h; cases h
    rw [if_pos n] at h
    cases k with
    | zero => simp at e; subst e; exact ⟨d, e1⟩
    | succ k =>
      cases e2 : capD env is with
      | none => rw [e2] at h; cases h
      | some es => exact capD_get e2 (by simpa using e)
theorem cm_clo {cells : List (Str × Addr)} {names : List (Str × NameKind)} {y : Str} {c : Addr} (hf : ∀ y ∈ names, y.2 = .free → ∃ c, cells.lookup y.1 = some c) (e : (cloFrom cells names []).lookup y = some c) : (y, NameKind.free) ∈ names ∧ cells.lookup y = some c := by
  rcases cloFrom_mem (PySem.mem_of_lookup e) with hm | ⟨h1, h2⟩
  · cases hm
  · obtain ⟨c1, hc⟩ := hf _ h1 rfl
    have hc : cells.lookup y = some c1 := hc
    refine ⟨h1, ?_⟩
    rw [h2, hc]
    rfl
/-- the lambdas of this frame, with their cells told -/
theorem clo_all (I : Inv X pins σ H s) (E : ERep (T.raw lams X.env.cells) F H σ env) (C : CapsOk X lams caps) (hcap : (caps.all fun is => (capD env is).isSome) = true) :
    ∃ G : List (Addr × Obj), (∀ b o, G.lookup b = some o → s.heap.get? b = some o ∧ ∃ x, X.env.cells.lookup x = some b) ∧ (Same F (addH F G) → 
      ∀ (j : Nat) (L : LamD) (is : List Nat) (a : Addr) (ds : List D), lams[j]? = some L → caps[j]? = some is → capD env is = some ds → RawAt L X.env.cells F a → ∃ vs, CloAt L (addH F G) a vs ∧ Reps T (addH F G) vs ds) := by
  have cap : ∀ {j : Nat} {is : List Nat}, caps[j]? = some is → ∃ ds, capD env is = some ds := fun {j is} e => by
    have := (List.all_eq_true.mp hcap) is (List.mem_of_getElem? e)
    exact Option.isSome_iff_exists.mp this
  obtain ⟨G, g1, g2⟩ := gather I (capList lams caps) fun p hp => by
    obtain ⟨j, L, is, k, h1, h2, h3, h4⟩ := capList_of hp
    obtain ⟨n1, n2⟩ := C.nm j L is k p.1 p.2 h1 h2 h3 h4
    obtain ⟨ds, hd⟩ := cap h2
    obtain ⟨d, hd2⟩ := capD_get hd h3
    obtain ⟨v, hv, _⟩ := E.get _ _ hd2
    exact ⟨n1, n2, v, hv⟩
  refine ⟨G, g1, fun m j L is a ds h1 h2 h3 ⟨c', pm, ctv, r1, r2⟩ => ?_⟩
  have hf := (C.has j L h1).has I.ok
  obtain ⟨vs, v1, v2, v3⟩ := capV E h3
  refine ⟨vs, ⟨_, c', pm, ctv, m _ _ r1, m _ _ r2, by rw [v1]; exact C.len j L is h1 h2, fun x c e => (C.fr j L h1 x).mpr (cm_clo hf e).1, fun x y c e1 e2 => I.ok.inj x y c (cm_clo hf e1).2 (cm_clo hf e2).2, fun y hy e => ?_, fun i x v e1 e2 => ?_⟩, v2.mono m⟩
  · obtain ⟨y1, y2⟩ := y
    cases e
    exact mem_lookup (cloFrom_has (cells := X.env.cells) (acc := []) hy)
  · have hlt : i < is.length := by
      rw [← v1]
      exact (List.getElem?_eq_some_iff.mp e2).1
    obtain ⟨k, hk⟩ : ∃ k, is[i]? = some k := ⟨_, List.getElem?_eq_getElem hlt⟩
    obtain ⟨c, o, u, w, k1, k2, k3, k4, k5⟩ := g2 (k, x) (capList_in h1 h2 hk e1)
    have hw := v3 i k v hk e2
    have k4 : σ[k]? = some (some w) := k4
    rw [hw] at k4
    cases k4
    have hx : (x, NameKind.free) ∈ L.scope.names := (C.fr j L h1 x).mp (List.mem_of_getElem? e1)
    obtain ⟨c2, hc2⟩ := mem_lookup (cloFrom_has (cells := X.env.cells) (acc := []) hx)
    have k1 : X.env.cells.lookup x = some c := k1
    have hc3 := (cm_clo hf hc2).2
    rw [k1] at hc3
    cases hc3
    exact ⟨c, o, u, hc2, addH_in k2, k3, k5⟩
theorem closeAs_get {cells : List (Str × Addr)} {F' : Hp} (m : Same F F') (hc : HasC T lams) (hL : ∀ (j : Nat) (L : LamD) (is : List Nat) (a : Addr) (ds : List D), lams[j]? = some L → caps[j]? = some is → capD env is = some ds → RawAt L cells F a → ∃ vs, CloAt L F' a vs ∧ Reps T F' vs ds) :
    ∀ {args args' : List B}, closeAs env caps args = some args' → args'.length = args.length ∧ ∀ (i : Nat) (x' : B), args'[i]? = some x' → x'.1 = false ∧ ∃ x, args[i]? = some x ∧ ∀ v, VRep (T.raw lams cells) F H v x → Rep T F' v x'.2
  | [], args', h => by
    cases h
    exact ⟨rfl, fun i x e => by simp at e⟩
  | (false, d) :: xs, args', h => by
    unfold closeAs at h
    cases e1 : closeD env caps d with
    | none => rw [e1] at h; simp at h
    | some y =>
      cases e2 : closeAs env caps xs with
      | none => rw [e1, e2] at h; simp at h
      | some ys =>
        rw [e1, e2] at h
        cases h
        obtain ⟨l, g⟩ := closeAs_get m hc hL e2
        refine ⟨by rw [List.length_cons, List.length_cons, l], fun i x' e => ?_⟩
        cases i with
        | zero =>
          simp at e
          subst e
          exact ⟨rfl, (false, d), rfl, fun v r => Rep.close m hc hL r e1⟩
        | succ i =>
          obtain ⟨k1, x, k2, k3⟩ := g i x' (by simpa using e)
          exact ⟨k1, x, by simpa using k2, k3⟩
  | (true, _) :: _, _, h => by cases h
end
section
variable {T : Tb} {W : WX} {X : Cx} {x : Str} {p pos : Pos} {e : Expr} {es : List Expr} {lams : List LamD} {caps : List (List Nat)}
/-- f(.., acts, ..): lambdas of this frame handed on, with what their cells hold -/
theorem pe_cloM {k : Nat} {f : Addr} {fd : FuncData} {ps : List Str} {m : List B → R B} {ms : M (List Opd)} {n : Nat} (Fn : FnG X.prog X.w X.K X.mg X.base k f fd ps (spM T [] n m)) (hr : RoomG k X.A) (hg : Gl X x) (hm : X.mg x = some (.ref f)) (hk : PySem.W.keepIn X.K (.ref f) = true) (hb : Binds X.K fd ps [])
    (C : CapsOk X lams caps) (hc : HasC T lams) (hfn : ∀ x, X.fn x = true)
    (ha : PA X (e :: es) (tA (T.raw lams X.env.cells) W ms)) (hdb : (x == ("__debug__" : Str)) = false := by decide) (he : starEach (e :: es) X.env = (false, eval e X.env) :: starEach es X.env := by rfl) (hpl : (backTo pos (starEach es X.env)).any (·.1) = false := by rfl) :
    PE X (.Call (.Name x p) (e :: es) [] pos) (tV (T.raw lams X.env.cells) W (cloM m n caps ms)) := by
  refine ⟨fun pins s σ H Q I ⟨F0, env0, E0, h⟩ => ?_⟩
  refine wpAny_Call_Name_kw (ld_glob I hg hm ?_ hdb)
  have hq : tA (T.raw lams X.env.cells) W ms σ H (fun vs H1 => ∃ F1 env1 os, ERep (T.raw lams X.env.cells) F1 H1 σ env1 ∧ OOks (T.raw lams X.env.cells) σ F1 H1 env1 vs os ∧ PG (T.raw lams X.env.cells) (relV (T.raw lams X.env.cells) σ) W σ F1 H1 env1 Q (cloO m n caps os env1)) :=
    ⟨F0, env0, E0, PG.bind (rel2 := relV (T.raw lams X.env.cells) σ) relV_ok h fun vs os env1 F1 H1 _ st r h1 => ⟨F1, env1, os, st.rep, r, h1⟩⟩
  refine PySem.W.callWith_K (h₀ := X.base) I.ok.mod.kin hk (thn (ha.run pos pins s σ H _ I hq) fun us s1 ⟨vs, H1, I1, r, F1, env, os, E, ro, h1⟩ => ⟨I1.kIn, ?_⟩) he hpl
  unfold cloO at h1
  cases e1 : argsOf [] env 0 os with
  | none => rw [e1] at h1; exact h1.elim
  | some args =>
    simp only [e1] at h1
    by_cases hz : os.length = n ∧ (caps.all fun is => (capD env is).isSome) = true
    case neg => rw [if_neg hz] at h1; exact h1.elim
    rw [if_pos hz] at h1
    cases e2 : closeAs env caps args with
    | none => rw [e2] at h1; exact h1.elim
    | some args' =>
      simp only [e2] at h1
      obtain ⟨G, g1, g2⟩ := clo_all I1 E C hz.2
      have L := lent_cells I1 hfn g1
      have hLe : Same F1 (addH F1 G) := fun b o e => by rw [addH_out (L.out (E.le b o e))]; exact e
      have hL := g2 hLe
      obtain ⟨a1, a2, _⟩ := argsOf_get E ro e1
      obtain ⟨c1, c2⟩ := closeAs_get (H := H1) hLe hc hL e2
      have outH : ∀ {b : Addr} {o : HO}, H1 b = some o → G.lookup b = none := fun {b o} e => L.out e
      have noOwn : ∀ a, ¬ OwnE (vs.map some) (args'.map some) a := fun a ⟨i, d, k1, _⟩ => by
        rw [map_get] at k1
        cases q : args'[i]? with
        | none => rw [q] at k1; cases k1
        | some y =>
          rw [q] at k1
          cases k1
          have := (c2 i _ q).1
          cases this
      have Er : ERep T (addH F1 G) (addH H1 G) (vs.map some) (args'.map some) := by
        refine ⟨fun b o e => ?_, by rw [List.length_map, List.length_map, a1, c1], fun i x e => ?_, fun i j d e v k1 k2 k3 k4 => ?_, hLe _ _ E.sm, ?_⟩
        · cases q : G.lookup b with
          | none => rw [addH_out q] at e ⊢; exact E.le b o e
          | some u => rw [addH_in q] at e ⊢; exact e
        · rw [map_get] at e
          cases q : args'[i]? with
          | none => rw [q] at e; cases e
          | some y =>
            rw [q] at e
            cases e
            obtain ⟨k1, z, k2, k3⟩ := c2 i _ q
            obtain ⟨v, k4, k5, _⟩ := a2 i _ k2
            refine ⟨v, by rw [map_get, k4]; rfl, ?_⟩
            obtain ⟨o, d⟩ := x
            cases k1
            exact k3 v k5
        · rw [map_get] at k1
          cases q : args'[i]? with
          | none => rw [q] at k1; cases k1
          | some y =>
            rw [q] at k1
            cases k1
            have := (c2 i _ q).1
            cases this
        · exact TabF.keep (L := T.tabs) E.tb (fun c q e => hLe _ _ e) (fun b ps e z => by rw [addH_out (outH e)]; exact z) fun b ps e => by rw [addH_out (outH e)]; exact e
      have hsp : spM T [] n m vs (addH H1 G) (fun v H' => (∀ b o, G.lookup b = some o → H' b = some (objIs b o)) ∧ Q v (delH H' G)) (fun _ _ _ => False) := by
        refine ⟨by rw [OOks.len ro]; exact hz.1, addH F1 G, args', Er, fun i x e o => ?_, ?_⟩
        · have := (c2 i x e).1
          rw [o] at this
          cases this
        · cases e3 : m args' with
          | bad => rw [e3] at h1; exact h1
          | err c fs env' => rw [e3] at h1; exact h1.elim
          | ok y env' =>
            simp only [e3] at h1
            by_cases q : y.1 = false ∧ noO y.2 = true
            case neg => rw [if_neg q] at h1; exact h1.elim
            rw [if_pos q] at h1
            intro v F2 H2 st rv fr
            obtain ⟨oF, oH, st2⟩ := Step.lent (T := T) (T' := T.raw lams X.env.cells) rfl E (fun b o e => (L.at_ b o e).2.1) noOwn st
            refine ⟨oH, ?_⟩
            obtain ⟨ow, d⟩ := y
            obtain ⟨q1, q2⟩ := q
            cases q1
            exact h1 v _ _ st2 ⟨⟨Rep.plain (T := T) (T' := T.raw lams X.env.cells) (F := F2) (d := d) rfl (fun _ => rfl) (delH_keep oF) rv q2, fun o => by cases o⟩, fun o => by cases o⟩
      have b := hb s1 us I1.kIn (by rw [List.append_nil, ← r.length]; exact Fn.len _ _ _ _ hsp)
      rw [List.append_nil] at b
      refine wpAny_call (codeAny_mono (Fn.run X.A X.stack s1 (addH H1 G) ⟨us, []⟩ us vs _ _ hr (L.env0 I1.env0) b r hsp) fun r s' hq => ?_)
      cases r with
      | error e => exact hq.elim fun _ ⟨_, _, _, _, _, _, _, _, _, _, _, z⟩ => z.elim
      | ok fl =>
        cases fl with
        | ret u => exact after_lent I1 L hq
        | next => exact hq.elim
        | brk => exact hq.elim
        | cont => exact hq.elim
end
end TT

set_option maxRecDepth 100000
set_option maxHeartbeats 4000000
/-! TQ: a lambda without parameters is called where it came to. -/
namespace TT
open PySem PySem.Spec PyProof.Rows L2
theorem delH_none {H : Hp} {G : List (Addr × Obj)} {b : Addr} (h : H b = none) : delH H G b = none := by
  cases q : G.lookup b with
  | none => rw [delH_out q]; exact h
  | some u => exact delH_in q
/-- the locked objects of G are tracked -/
def Held (H : Hp) (G : List (Addr × Obj)) : Prop := ∀ b o, G.lookup b = some o → H b = some (objIs b o)
section
variable {P : Program} {w : World} {K : PySem.W.Frag} {mg : Str → Option Value} {base : Heap} {A : Around} {outer : List Env} {s s' : Shared} {H H' : Hp} {G : List (Addr × Obj)} {h h' B : Heap}
theorem Held.out (D : Held H G) {b : Addr} (e : H b = none) : G.lookup b = none := by
  cases q : G.lookup b with
  | none => rfl
  | some u => rw [D b u q] at e; cases e
theorem Held.outN (D : Held H G) {b : Addr} {o : HO} (e : H b = some o) (n : ∀ v, o ≠ .frz v smO) : G.lookup b = none := by
  cases q : G.lookup b with
  | none => rfl
  | some u =>
    rw [D b u q] at e
    exact absurd (Option.some.inj e).symm (n u)
theorem Held.hok (D : Held H G) (x : HOk P w H h) : HOk P w (delH H G) h := fun b o e => by
  obtain ⟨q, e1⟩ := delH_some e
  exact (x b o e1).stay (fun c v _ z => z) (fun c z => delH_keep D _ _ z fun v y => by cases y) fun c xs z => delH_keep D _ _ z fun v y => by cases y
theorem hok_add (gone : ∀ b o, G.lookup b = some o → H' b = none) (k : ∀ b o, G.lookup b = some o → h'.get? b = some o) (x : HOk P w H' h') : HOk P w (addH H' G) h' := fun b o e => by
  have le : ∀ {c : Addr} {u : HO}, H' c = some u → addH H' G c = some u := fun {c u} z => by
    cases q : G.lookup c with
    | none => rw [addH_out q]; exact z
    | some v => rw [gone c v q] at z; cases z
  cases q : G.lookup b with
  | some u =>
    rw [addH_in q] at e
    cases e
    have e1 := k b u q
    exact ⟨e1, trivial, ⟨u, e1⟩, fun _ _ _ _ => trivial⟩
  | none =>
    rw [addH_out q] at e
    exact (x b o e).stay (fun c v _ z => z) (fun c z => le z) fun c xs z => le z
theorem Held.env0 (D : Held H G) (e : Env0 P w K mg base A outer s H) : Env0 P w K mg base A outer s (delH H G) where
  frames := e.frames
  mod := e.mod
  bs := fun b o z => ⟨(e.bs b o z).1, delH_none (e.bs b o z).2⟩
  bsz := e.bsz
  funs := e.funs
  frf := fun b hb => delH_none (e.frf b hb)
  hok := D.hok e.hok
  bare := e.bare
theorem Held.un {fs : List Addr} (D : Held H G) (hf : ∀ b ∈ fs, H b = none) (x : HOk P w H h) (u : Un fs [] (delH H G) H' h h') :
    Un fs [] H (addH H' G) h h' ∧ (∀ b o, G.lookup b = some o → H' b = none) ∧ ∀ b o, G.lookup b = some o → h'.get? b = some o := by
  have inh : ∀ b o, G.lookup b = some o → h.get? b = some o := fun b o q => (x b _ (D b o q)).1
  have nfs : ∀ b o, G.lookup b = some o → b ∉ fs := fun b o q z => by
    have := hf b z
    rw [D b o q] at this
    cases this
  refine ⟨⟨fun b o e n hb hx => u.keep b o e (delH_none n) hb hx, fun b o e n hb hx => u.slot b o e (delH_none n) hb hx, fun b o e n hx => ?_, u.there, fun b xs e => ?_, fun b o v e => ?_, fun b ps e => ?_⟩, fun b o q => u.free b o (inh b o q) (delH_in q) (by simp), fun b o q => u.keep b o (inh b o q) (delH_in q) (nfs b o q) (by simp)⟩
  · rw [addH_out (D.out n)]
    exact u.free b o e (delH_none n) hx
  · have q := D.outN e fun v y => by cases y
    rw [addH_out q]
    exact u.tups b xs (by rw [delH_out q]; exact e)
  · cases q : G.lookup b with
    | some z =>
      rw [D b z q] at e
      rw [addH_in q]
      exact e
    | none =>
      rw [addH_out q]
      exact u.frzs b o v (by rw [delH_out q]; exact e)
  · have q := D.outN e fun v y => by cases y
    obtain ⟨more, z⟩ := u.tbls b ps (by rw [delH_out q]; exact e)
    exact ⟨more, by rw [addH_out q]; exact z⟩
theorem Held.cx {E : XK} {u : Value} (D : Held H G) (hf : ∀ b ∈ frs outer, H b = none) (x : HOk P w H s.heap) (c : L2.CX P w outer (delH H G) s (fun cls d H' => (∀ b o, G.lookup b = some o → H' b = none) → E cls d (addH H' G)) u s') : L2.CX P w outer H s E u s' := by
  obtain ⟨a, B, H', cls, d, rfl, fl, hok, ub, na, os, ag, w⟩ := c
  have inh : ∀ b o, G.lookup b = some o → s.heap.get? b = some o := fun b o q => (x b _ (D b o q)).1
  have nfs : ∀ b o, G.lookup b = some o → b ∉ frs outer := fun b o q z => by
    have := hf b z
    rw [D b o q] at this
    cases this
  have gone : ∀ b o, G.lookup b = some o → H' b = none := fun b o q => ub.free b o (inh b o q) (delH_in q)
  have inB : ∀ b o, G.lookup b = some o → B.get? b = some o := fun b o q => ub.keep b o (inh b o q) (delH_in q) (nfs b o q)
  refine ⟨a, B, addH H' G, cls, d, rfl, fl, hok_add gone inB hok, ⟨fun b o e n hb => ub.keep b o e (delH_none n) hb, ub.slot, fun b o e n => ?_, ub.there, fun b xs e => ?_, fun b o v e => ?_, fun b ps e => ?_⟩, ?_, os, ag, w gone⟩
  · rw [addH_out (D.out n)]
    exact ub.free b o e (delH_none n)
  · have q := D.outN e fun v y => by cases y
    rw [addH_out q]
    exact ub.tups b xs (by rw [delH_out q]; exact e)
  · cases q : G.lookup b with
    | some z =>
      rw [D b z q] at e
      rw [addH_in q]
      exact e
    | none =>
      rw [addH_out q]
      exact ub.frzs b o v (by rw [delH_out q]; exact e)
  · have q := D.outN e fun v y => by cases y
    obtain ⟨more, z⟩ := ub.tbls b ps (by rw [delH_out q]; exact e)
    exact ⟨more, by rw [addH_out q]; exact z⟩
  · cases q : G.lookup a with
    | none => rw [addH_out q]; exact na
    | some v =>
      have h1 := inB a v q
      have h2 : B.get? a = none := fl.2.1
      rw [h1] at h2
      cases h2
end
/-! ### the lambda's frame -/
abbrev clEnv (L : LamD) (cl : List (Str × Addr)) (l f c' : Addr) : Env := PySem.W.envX L.qual L.scope l f (.ref c') cl
def clCx (P : Program) (w : World) (K : PySem.W.Frag) (mg : Str → Option Value) (base : Heap) (A : Around) (outer : List Env) (s : Shared) (H : Hp) (E : XK) (L : LamD) (cl : List (Str × Addr)) (f c' : Addr) : Cx where
  prog := P
  w := w
  K := K
  mg := mg
  base := base
  A := A.deeper (clEnv L cl s.heap.objs.size f c')
  N := L.names
  s_0 := s
  H_0 := H
  env := clEnv L cl s.heap.objs.size f c'
  outer := outer
  stack := clEnv L cl s.heap.objs.size f c' :: outer
  ex := []
  fn := fun _ => false
  calm := true
  pn := []
  xe := fun e s' => wpAny (model P w) (A.deeper (clEnv L cl s.heap.objs.size f c')) (leaving (clEnv L cl s.heap.objs.size f c') e) (fun _ s'' => L2.CX P w outer H s E e s'') (fun e' s'' => L2.CX P w outer H s E e' s'') s'
/-- of the lambda's text -/
structure LamT (L : LamD) : Prop where
  kind : L.scope.kind = .function
  co : L.scope.isCoroutine = false
  gen : L.scope.isGenerator = false
  own : ∀ y ∈ L.scope.names, y.2 ≠ .local ∧ y.2 ≠ .cell
  fre : ∀ x ∈ L.names, L.scope.names.lookup x = some .free
  bind : ∀ (cl : List (Str × Addr)) (pm cv ctv : Value), bindArgs (PySem.W.kla_fn "<lambda>" L.qual L.params L.body L.scope cl pm cv ctv) ⟨[], []⟩ = pure []
section
variable {P : Program} {w : World} {K : PySem.W.Frag} {mg : Str → Option Value} {base : Heap} {A : Around} {outer : List Env} {s s' : Shared} {H H' F F' : Hp} {G : List (Addr × Obj)} {L : LamD} {cl : List (Str × Addr)} {f c' : Addr} {vs : List V} {E : XK}
/-- the cells of a lambda -/
theorem clo_cells {names : List Str} (h7 : ∀ (i : Nat) (x : Str) (v : V), names[i]? = some x → vs[i]? = some v → ∃ (c : Addr) (o : Obj) (u : Value), cl.lookup x = some c ∧ F c = some (objIs c o) ∧ o.data = .cell (some u) ∧ RelV v u) (hl : vs.length = names.length) :
    ∃ G : List (Addr × Obj), Held F G ∧ (∀ b o, G.lookup b = some o → ∃ x, cl.lookup x = some b) ∧ ∀ x ∈ names, ∃ c o, cl.lookup x = some c ∧ G.lookup c = some o := by
  induction names generalizing vs with
  | nil =>
    refine ⟨[], fun b o e => ?_, fun b o e => ?_, fun x hx => absurd hx (by simp)⟩
    · simp at e
    · simp at e
  | cons x names ih =>
    cases vs with
    | nil => simp at hl
    | cons v vs =>
      obtain ⟨G, g1, g2, g3⟩ := ih (vs := vs) (fun i y u e1 e2 => h7 (i + 1) y u (by simpa using e1) (by simpa using e2)) (by simpa using hl)
      obtain ⟨c, o, u, k1, k2, k3, k4⟩ := h7 0 x v rfl rfl
      have inn : List.lookup c ((c, o) :: G) = some o := by rw [List.lookup_cons]; simp
      refine ⟨(c, o) :: G, fun b z e => ?_, fun b z e => ?_, fun y hy => ?_⟩
      · rw [List.lookup_cons] at e
        cases q : b == c with
        | true =>
          rw [q] at e
          cases e
          have := of_decide_eq_true q
          subst this
          exact k2
        | false => rw [q] at e; exact g1 b z e
      · rw [List.lookup_cons] at e
        cases q : b == c with
        | true =>
          have := of_decide_eq_true q
          subst this
          exact ⟨x, k1⟩
        | false => rw [q] at e; exact g2 b z e
      · rcases List.mem_cons.mp hy with rfl | hy
        · exact ⟨c, o, k1, inn⟩
        · obtain ⟨c2, o2, l1, l2⟩ := g3 y hy
          cases q : c2 == c with
          | true =>
            have := of_decide_eq_true q
            subst this
            exact ⟨_, o, l1, inn⟩
          | false => exact ⟨c2, o2, l1, by rw [List.lookup_cons, q]; exact l2⟩
theorem clo_start {h₁ : Heap} {tk : Nat} (LT : LamT L) (e0 : Env0 P w K mg base A outer s H) (hd : A.handled = none) (le : Same F H) (D : Held H G)
    (h3 : vs.length = L.names.length) (h4 : ∀ x c, cl.lookup x = some c → x ∈ L.names) (h5 : ∀ x y c, cl.lookup x = some c → cl.lookup y = some c → x = y) (h6 : ∀ y ∈ L.scope.names, y.2 = .free → ∃ c, cl.lookup y.1 = some c)
    (h7 : ∀ (i : Nat) (x : Str) (v : V), L.names[i]? = some x → vs[i]? = some v → ∃ (c : Addr) (o : Obj) (u : Value), cl.lookup x = some c ∧ F c = some (objIs c o) ∧ o.data = .cell (some u) ∧ RelV v u)
    (g3 : ∀ x ∈ L.names, ∃ c o, cl.lookup x = some c ∧ G.lookup c = some o)
    (hns : h₁.Ns s.heap.objs.size fun y => ([] : List (Str × Value)).reverse.lookup y) (kp : ∀ b o, s.heap.get? b = some o → h₁.get? b = some o) :
    Inv (clCx P w K mg base A outer s (delH H G) E L cl f c') [] (vs.map some) (delH H G) { s with heap := h₁, toks := tk } := by
  have e1 := D.env0 e0
  have noA : ∀ b : Addr, b ∉ (clCx P w K mg base A outer s (delH H G) E L cl f c').ex := fun b z => absurd (show b ∈ ([] : List Addr) from z) (by simp)
  have cellAt : ∀ {y : Str} {c : Addr}, cl.lookup y = some c → ∃ (i : Nat) (v : V) (o : Obj) (u : Value), L.names[i]? = some y ∧ vs[i]? = some v ∧ F c = some (objIs c o) ∧ o.data = .cell (some u) ∧ RelV v u := fun {y c} e => by
    obtain ⟨i, hi⟩ := List.mem_iff_getElem?.mp (h4 y c e)
    have hlt : i < vs.length := by rw [h3]; exact (List.getElem?_eq_some_iff.mp hi).1
    obtain ⟨c2, o, u, k1, k2, k3, k4⟩ := h7 i y _ hi (List.getElem?_eq_getElem hlt)
    rw [e] at k1
    cases k1
    exact ⟨i, _, o, u, hi, List.getElem?_eq_getElem hlt, k2, k3, k4⟩
  have at1 : ∀ {c : Addr} {o : Obj}, F c = some (objIs c o) → h₁.get? c = some o := fun {c o} e => kp _ _ (e0.hok c _ (le _ _ e)).1
  refine ⟨⟨e1.mod, LT.kind, rfl, rfl, Nat.le_refl _, fun y z c k1 k2 => h5 y z c k1 k2, fun y hy => ?_, fun y c z _ => ?_, fun _ => hd, Around.frames_deeper e1.frames, .inr ⟨rfl, rfl⟩, fun b z => absurd z (noA b), e1.bs, e1.bsz, fun b _ _ => noA b,
      fun b z => absurd z (noA b), e1.funs, e1.frf⟩,
    rfl, e1.bare, Un.kept kp, ⟨_, hns, fun i y v k1 k2 k3 => ?_⟩, fun y c e => ?_, e1.hok.fresh (Nat.le_refl _), fun y c e => ?_, fun q hq => absurd (show q ∈ ([] : List (Addr × Obj)) ++ [] from hq) (by simp), e1.hok.kept kp, by rw [List.length_map]; exact h3⟩
  · have hy : L.scope.names.lookup y = some .cell ∨ L.scope.names.lookup y = some .free := hy
    rcases hy with hy | hy
    · exact absurd rfl (LT.own _ (PySem.mem_of_lookup hy)).2
    · exact h6 _ (PySem.mem_of_lookup hy) rfl
  · have z : false = true := z
    cases z
  · have k1 : L.names[i]? = some y := k1
    rw [map_get] at k2
    cases q : vs[i]? with
    | none => rw [q] at k2; cases k2
    | some v2 =>
      rw [q] at k2
      cases k2
      obtain ⟨c, o, u, l1, l2, l3, l4⟩ := h7 i y _ k1 q
      exact ⟨u, l4, .inr ⟨.inr (LT.fre y (List.mem_of_getElem? k1)), c, l1, o, at1 l2, l3⟩⟩
  · obtain ⟨i, v, o, u, _, _, l2, l3, _⟩ := cellAt (y := y) e
    exact ⟨some u, o, at1 l2, l3⟩
  · obtain ⟨c2, o, l1, l2⟩ := g3 y (h4 y c e)
    have e : cl.lookup y = some c := e
    rw [e] at l1
    cases l1
    exact delH_in l2
end
/-! ### a lambda's promise -/
def spL (T : Tb) (m : List D → R B) (F H : Hp) (ds : List D) (Q : VK) (E : XK) : Prop := noOs ds = true ∧ match m ds with
  | .ok x _ => x.1 = false ∧ noO x.2 = true ∧ ∀ v F' H', Step T [] F H [] F' H' [] → Rep T F' v x.2 → Q v H'
  | .err c fs _ => noF fs = true ∧ ∀ C d F' H', T.cl c = some C → Step T [] F H [] F' H' [] → XOk T F' H' fs d → E (.ref C) d H'
  | .bad => False
def LamOk (P : Program) (w : World) (K : PySem.W.Frag) (mg : Str → Option Value) (base : Heap) (T : Tb) (k : Nat) (L : LamD) (m : List D → R B) : Prop :=
  ∀ (A : Around) (outer : List Env) (s : Shared) (H F : Hp) (f : Addr) (vs : List V) (ds : List D) (Q : VK) (E : XK), RoomG k A → Env0 P w K mg base A outer s H → ERep T F H [] [] → CloAt L F f vs → Reps T F vs ds → spL T m F H ds Q E →
    codeAny (model P w) A (.call (.ref f) ⟨[], []⟩) (CR (L2.CX P w) outer P w H s Q E) s
theorem xOk_grow {T : Tb} {F H F' H' : Hp} (m : Same F F') : ∀ {fs : List (Str × D)} {d : Option Addr}, XOk T F H fs d → XOk T F' H' fs d
  | [], _, h => h
  | f :: fs, d, ⟨dd, vs, h1, h2, h3, h4⟩ => ⟨dd, vs, h1, m _ _ h2, h3, h4.mono m⟩
section
variable {P : Program} {w : World} {K : PySem.W.Frag} {mg : Str → Option Value} {base : Heap} {T : Tb} {L : LamD}
/-- the lambda's run among the callers' data: the cells aside, and back -/
theorem step_back {F H F2 H2 : Hp} {G : List (Addr × Obj)} {σ : St} {env env2 : Ev} (hF : Held F G) (hH : Held H G) (E : ERep T F H [] []) (S : Step T σ (delH F G) (delH H G) env F2 H2 env2) (no : ∀ a, ¬ OwnE σ env a) (gone : ∀ b o, G.lookup b = some o → H2 b = none) :
    Same F2 (addH F2 G) ∧ Step T [] F H [] (addH F2 G) (addH H2 G) [] := by
  have up : Same F2 (addH F2 G) := fun b o e => by
    cases q : G.lookup b with
    | none => rw [addH_out q]; exact e
    | some u =>
      have := S.rep.le b o e
      rw [gone b u q] at this
      cases this
  refine ⟨up, ⟨⟨fun b o e => ?_, rfl, fun i x e => by simp at e, fun i j d e v k1 => by simp at k1, up _ _ S.rep.sm, ?_⟩, fun b o e => ?_, fun a o e t _ => ?_, fun a e n => .inl ?_, fun i d e => by simp at e, fun a e => ?_⟩⟩
  · cases q : G.lookup b with
    | none => rw [addH_out q] at e ⊢; exact S.rep.le b o e
    | some u => rw [addH_in q] at e ⊢; exact e
  · exact S.rep.tb.keep (fun c q e => up _ _ e) (fun b ps e z => by
      cases q : G.lookup b with
      | none => rw [addH_out q]; exact z
      | some u => rw [gone b u q] at e; cases e) fun b ps e => by
        cases q : G.lookup b with
        | none => rw [addH_out q]; exact e
        | some u => rw [gone b u q] at e; cases e
  · cases q : G.lookup b with
    | some u => rw [addH_in q, ← hF b u q]; exact e
    | none => rw [addH_out q]; exact S.mono b o (by rw [delH_out q]; exact e)
  · cases q : G.lookup a with
    | some u => rw [addH_in q, ← hH a u q]; exact e
    | none => rw [addH_out q]; exact S.frame a o (by rw [delH_out q]; exact e) t (no a)
  · have q := hF.out e
    rw [addH_out q] at n
    rcases S.fresh a (delH_none e) n with z | z
    · rw [delH_out q] at z; exact z
    · exact (no a z).elim
  · cases q : G.lookup a with
    | some u => rw [addH_in q] at e; cases e
    | none =>
      rw [addH_out q] at e
      have := S.dom a e
      rw [delH_out q] at this
      exact this
theorem lam_ok {k : Nat} {bm : M B} (LT : LamT L)
    (hbody : ∀ (A : Around) (outer : List Env) (s : Shared) (H : Hp) (E : XK) (cl : List (Str × Addr)) (f c' : Addr), RoomG k (A.deeper (clEnv L cl s.heap.objs.size f c')) → PE (clCx P w K mg base A outer s H E L cl f c') L.body (tV T (fun cls d _ H => E cls d H) bm)) :
    LamOk P w K mg base T (k + 1) L fun ds => bm (ds.map fun d => some (false, d)) := by
  intro A outer s H F f vs ds Q E hr e0 Er hC hvs ⟨hn, hsp⟩
  obtain ⟨cl, c', pm, ctv, h1, h2, h3, h4, h5, h6, h7⟩ := hC
  obtain ⟨G, hF, g2, g3⟩ := clo_cells h7 h3
  have hH : Held H G := fun b o q => Er.le _ _ (hF b o q)
  have of1 : s.heap.get? f = some (lamObj L cl pm c' ctv) := (e0.hok f _ (Er.le _ _ h1)).1
  obtain ⟨⟨oc, ws, t, hoc, hdc, hvc⟩, _, _⟩ := e0.hok c' _ (Er.le _ _ h2)
  have lim : s.heap.NoLimit := e0.mod.nolimit.keeps fun b o e => (e0.bs b o e).1
  refine PySem.W.kla_callFunE hr.room.depth of1 rfl LT.co LT.gen rfl ⟨c', oc, ws, t, rfl, hoc, hdc, hvc⟩ ?_
  rw [LT.bind]
  refine wpAny_pure (wpAny_newFunctionEnv (fun y hy => (LT.own y hy).2) (fun y hy => absurd hy (by simp)) (fun h₁ hns hsb => ⟨lim.fresh _ hsb, ?_⟩) LT.kind)
  show codeAny _ _ (.expr L.body (clEnv L cl s.heap.objs.size f c')) _ _
  have kp : ∀ b o, s.heap.get? b = some o → h₁.get? b = some o := fun b o e => hsb.extBut b o (Nat.ne_of_lt (Heap.lt_size e)) (Heap.get?_push_of_some _ e)
  let E1 : XK := fun cls d H' => (∀ b o, G.lookup b = some o → H' b = none) → E cls d (addH H' G)
  have J : Inv (clCx P w K mg base A outer s (delH H G) E1 L cl f c') [] (vs.map some) (delH H G) { s with heap := h₁, toks := s.toks + ([] : List (Str × Value)).length } :=
    clo_start LT e0 hr.room.hd Er.le hH h3 h4 h5 h6 h7 g3 hns kp
  have noOwn : ∀ a, ¬ OwnE (vs.map some) (ds.map fun d => some ((false, d) : B)) a := fun a ⟨i, d, k1, _⟩ => by
    rw [List.getElem?_map] at k1
    cases q : ds[i]? with
    | none => rw [q] at k1; cases k1
    | some y => rw [q] at k1; cases k1
  have E2 : ERep T (delH F G) (delH H G) (vs.map some) (ds.map fun d => some (false, d)) := by
    refine ⟨fun b o e => ?_, by rw [List.length_map, List.length_map, hvs.length], fun i x e => ?_, fun i j d e v k1 => ?_, delH_keep hF _ _ Er.sm (fun v y => by unfold smT smO at y; cases y), ?_⟩
    · obtain ⟨q, e1⟩ := delH_some e
      rw [delH_out q]
      exact Er.le b o e1
    · rw [List.getElem?_map] at e
      cases q : ds[i]? with
      | none => rw [q] at e; cases e
      | some y =>
        rw [q] at e
        cases e
        obtain ⟨v, k1, k2⟩ := hvs.get q
        refine ⟨v, by rw [map_get, k1]; rfl, ?_⟩
        have hny : noO y = true := by
          have : ∀ {l : List D}, noOs l = true → ∀ z ∈ l, noO z = true := by
            intro l
            induction l with
            | nil => intro _ z hz; cases hz
            | cons a l ih =>
              intro h z hz
              simp only [noOs, Bool.and_eq_true] at h
              rcases List.mem_cons.mp hz with rfl | hz
              · exact h.1
              · exact ih h.2 z hz
          exact this hn y (List.mem_of_getElem? q)
        exact Rep.plain rfl (fun _ => rfl) (delH_keep hF) k2 hny
    · rw [List.getElem?_map] at k1
      cases q : ds[i]? with
      | none => rw [q] at k1; cases k1
      | some y => rw [q] at k1; cases k1
    · exact Er.tb.keep (fun c q e => delH_keep hF _ _ e fun v y => by unfold LamX.CodeO at y; cases y) (fun b ps e z => delH_none z) fun b ps e => delH_keep hH _ _ e fun v y => by cases y
  have ht : tV T (fun cls d _ H => E1 cls d H) bm (vs.map some) (delH H G) (fun v H' => (∀ b o, G.lookup b = some o → H' b = none) → Q v (addH H' G)) := by
    refine ⟨delH F G, ds.map fun d => some (false, d), E2, ?_⟩
    have hsp : match bm (ds.map fun d => some (false, d)) with
      | .ok x _ => x.1 = false ∧ noO x.2 = true ∧ ∀ v F' H', Step T [] F H [] F' H' [] → Rep T F' v x.2 → Q v H'
      | .err c fs _ => noF fs = true ∧ ∀ C d F' H', T.cl c = some C → Step T [] F H [] F' H' [] → XOk T F' H' fs d → E (.ref C) d H'
      | .bad => False := hsp
    cases e : bm (ds.map fun d => some (false, d)) with
    | bad => rw [e] at hsp; exact hsp
    | ok x env2 =>
      simp only [e] at hsp
      intro v F2 H2 st rv gone
      obtain ⟨up, st2⟩ := step_back hF hH Er st noOwn gone
      obtain ⟨o, d⟩ := x
      obtain ⟨q1, q2, q3⟩ := hsp
      cases q1
      exact q3 v _ _ st2 (Rep.mono up rv.1.1)
    | err c fs env2 =>
      simp only [e] at hsp
      intro C d F2 H2 hc st x gone
      obtain ⟨up, st2⟩ := step_back hF hH Er st noOwn gone
      exact hsp.2 C d _ _ hc st2 (xOk_grow up x)
  refine PySem.W.kla_codeExpr (wpAny_mono ((hbody A outer s (delH H G) E1 cl f c' (hr.deeper _)).run [] _ _ _ _ J ht) (fun v s' hq => ?_) fun e s' hq => ?_)
  · obtain ⟨w', H', J', rv, q⟩ := hq
    have hb : Un (frs outer) [] (delH H G) H' s.heap s'.heap := J'.base
    obtain ⟨u1, u2, u3⟩ := hH.un e0.frf e0.hok hb
    exact ⟨w', addH H' G, J'.os, J'.bare, u1, hok_add u2 u3 J'.hok, rv, q u2⟩
  · exact wpAny_mono hq (fun _ s'' z => hH.cx e0.frf e0.hok z) fun _ s'' z => hH.cx e0.frf e0.hok z
end
/-! ### the call -/
def actO (ms : Nat → List D → R B) (x : B) : M B := fun env => match x with
  | (false, .opq n ds) => if 100 ≤ n ∧ n < 1000 ∧ noOs ds = true then match ms (n - 100) ds with
    | .ok x _ => if x.1 = false ∧ noO x.2 = true then .ok x env else .bad
    | .err c fs _ => if noF fs = true then .err c fs env else .bad
    | .bad => .bad
    else .bad
  | _ => .bad
def actM (ms : Nat → List D → R B) (m : M B) : M B := M.bind m (actO ms)
theorem Step.widen {T : Tb} {F H F' H' : Hp} {σ : St} {env : Ev} (E : ERep T F H σ env) (S : Step T [] F H [] F' H' []) : Step T σ F H env F' H' env := by
  have no : ∀ a, ¬ OwnE [] [] a := fun a ⟨i, d, e, _⟩ => by simp at e
  have fr : ∀ a, F a = none → F' a ≠ none → H a = none := fun a e n => (S.fresh a e n).elim id fun z => (no a z).elim
  refine ⟨⟨S.rep.le, E.len, fun i x e => ?_, E.sep, S.rep.sm, S.rep.tb⟩, S.mono, fun a o e t _ => S.frame a o e t (no a), fun a e n => .inl (fr a e n), fun i d e => ⟨d, e⟩, S.dom⟩
  obtain ⟨v, e1, r⟩ := E.get i x e
  refine ⟨v, e1, ?_⟩
  obtain ⟨own, d⟩ := x
  cases own with
  | false => exact Rep.mono S.mono r
  | true =>
    obtain ⟨a, rfl, fa, t⟩ := r
    obtain ⟨o, ho, po⟩ := t.obj
    refine ⟨a, rfl, ?_, t.imp S.mono fun o e p => S.frame a o e p.nt (no a)⟩
    cases z : F' a with
    | none => rfl
    | some u =>
      have := fr a fa (by rw [z]; simp)
      rw [ho] at this; cases this
section
variable {T : Tb} {W : WX} {X : Cx} {a : Str} {p1 p2 : Pos} {lams : List LamD} {ms : Nat → List D → R B}
theorem pe_actM {k : Nat} {mf : M B} (hr : RoomG k X.A) (hc : HasC T lams) (hl : ∀ (j : Nat) (L : LamD), lams[j]? = some L → LamOk X.prog X.w X.K X.mg X.base T k L (ms j)) (tk : Takes X W) (hf : PE X (.Name a p1) (tV T W mf)) :
    PE X (.Call (.Name a p1) [] [] p2) (tV T W (actM ms mf)) := by
  refine ⟨fun pins s σ H Q I ⟨F0, env0, E0, h⟩ => ?_⟩
  have hq : tV T W mf σ H (fun v H1 => ∃ F1 env1 x, ERep T F1 H1 σ env1 ∧ VOk T σ F1 H1 env1 v x ∧ PG T (relV T σ) W σ F1 H1 env1 Q (actO ms x env1)) :=
    ⟨F0, env0, E0, PG.bind (rel2 := relV T σ) relV_ok h fun v x env1 F1 H1 _ st r h1 => ⟨F1, env1, x, st.rep, r.1, h1⟩⟩
  refine wpAny_Call_Name_kw (thn (hf.run pins s σ H _ I hq) fun u s1 ⟨v, H1, I1, r1, F, env, x, E, r, h1⟩ => ?_)
  unfold actO at h1
  obtain ⟨own, d⟩ := x
  cases own with
  | true => exact h1.elim
  | false =>
    cases d with
    | opq n ds =>
      simp only at h1
      by_cases hn : 100 ≤ n ∧ n < 1000 ∧ noOs ds = true
      case neg => rw [if_neg hn] at h1; exact h1.elim
      rw [if_pos hn] at h1
      have rr : Rep T F v (.opq n ds) := r.1
      cases rr with
      | opq hop rs =>
        rename_i f vs
        obtain rfl : u = Value.ref f := r1
        obtain ⟨L, hL, hC⟩ := (hc n F f vs hn.1 hn.2.1).mp hop
        have of1 : ∃ (cl : List (Str × Addr)) (c' : Addr) (pm ctv : Value), s1.heap.get? f = some (lamObj L cl pm c' ctv) := by
          obtain ⟨cl, c', pm, ctv, z, _⟩ := hC
          exact ⟨cl, c', pm, ctv, (I1.hok f _ (E.le _ _ z)).1⟩
        obtain ⟨cl, c', pm, ctv, of1⟩ := of1
        refine PySem.W.callWith_F0 ⟨_, _, _, _, of1⟩ ?_
        have Er : ERep T F H1 [] [] := ⟨E.le, rfl, fun i x e => by simp at e, fun i j d e v k1 => by simp at k1, E.sm, E.tb⟩
        have hsp : spL T (ms (n - 100)) F H1 ds Q (WE W σ) := by
          refine ⟨hn.2.2, ?_⟩
          cases e : ms (n - 100) ds with
          | bad => rw [e] at h1; exact h1
          | ok y env' =>
            simp only [e] at h1
            by_cases q : y.1 = false ∧ noO y.2 = true
            case neg => rw [if_neg q] at h1; exact h1.elim
            rw [if_pos q] at h1
            obtain ⟨ow, d⟩ := y
            obtain ⟨q1, q2⟩ := q
            cases q1
            exact ⟨rfl, q2, fun v F' H' st rv => h1 v F' H' (st.widen E) ⟨⟨rv, fun o => by cases o⟩, fun o => by cases o⟩⟩
          | err c fs env' =>
            simp only [e] at h1
            by_cases q : noF fs = true
            case neg => rw [if_neg q] at h1; exact h1.elim
            rw [if_pos q] at h1
            exact ⟨q, fun C d F' H' hc st x => h1 C d F' H' hc (st.widen E) x⟩
        refine wpAny_call (codeAny_mono (hl _ L hL X.A X.stack s1 H1 F f vs ds Q (WE W σ) hr I1.env0 Er hC rs hsp) fun r s' hq => ?_)
        cases r with
        | error e => exact passAt tk σ pins H1 s1 e s' I1 hq
        | ok fl =>
          cases fl with
          | ret u => exact I1.after hq
          | next => exact hq.elim
          | brk => exact hq.elim
          | cont => exact hq.elim
    | non => exact h1.elim
    | bl _ => exact h1.elim
    | int _ => exact h1.elim
    | str _ => exact h1.elim
    | tup _ => exact h1.elim
    | frz _ => exact h1.elim
    | lst _ => exact h1.elim
    | dct _ _ => exact h1.elim
    | ins _ _ _ => exact h1.elim
end
end TT

set_option maxRecDepth 100000
set_option maxHeartbeats 4000000
/-! TG: defs by name, for the printed derivations. -/
namespace TT
open PySem PySem.Spec PyProof.Rows L2
section
variable {P : Program} {w : World} {K : PySem.W.Frag} {mg : Str → Option Value} {base : Heap} {N : List Str} {qual : Str} {scope : Scope} {f c' : Addr} {cd : Value} {A : Around} {outer : List Env} {s : Shared} {H : Hp} {E : XK} {L : LamD} {cl : List (Str × Addr)} {p : Addr × Obj}
theorem tkD : Takes (cxOf (L2.CX P w) P w K mg base N qual scope f cd A outer s H E) (fun cls d _ H => E cls d H) := takes_of rfl rfl rfl rfl
theorem ownD : PassesOwn (model P w) (cxOf (L2.CX P w) P w K mg base N qual scope f cd A outer s H E).A (cxOf (L2.CX P w) P w K mg base N qual scope f cd A outer s H E).env (cxOf (L2.CX P w) P w K mg base N qual scope f cd A outer s H E).xe :=
  passes_of (X := cxOf (L2.CX P w) P w K mg base N qual scope f cd A outer s H E) (K := fun e s'' => L2.CX P w outer H s E e s'') rfl
theorem tkL : Takes (clCx P w K mg base A outer s H E L cl f c') (fun cls d _ H => E cls d H) := takes_of rfl rfl rfl rfl
theorem tkF {X : Cx} : Takes X (fun _ _ _ _ => False) := fun u s' ⟨a, B, sI, pins, σ, H, cls, d, e, I, nb, up, sky, na, os, ag, w⟩ => w.elim
end
abbrev WF : WX := fun _ _ _ _ => False
/-- a def by its name: its promise, and how it is called -/
structure Def (P : Program) (w : World) (T : Tb) (mg : Str → Option Value) (base : Heap) (k : Nat) (x : Str) (ps : List Str) (rp : List Nat) (m : List B → R B) : Prop where
  ex : ∃ (f : Addr) (fd : FuncData), FnG P w T.K mg base k f fd ps (spM T rp ps.length m) ∧ mg x = some (.ref f) ∧ PySem.W.keepIn T.K (.ref f) = true ∧ Binds T.K fd ps []
theorem Def.raw {P : Program} {w : World} {T : Tb} {mg : Str → Option Value} {base : Heap} {k : Nat} {x : Str} {ps : List Str} {rp : List Nat} {m : List B → R B} {lams : List LamD} {cells : List (Str × Addr)} (Dn : Def P w T mg base k x ps rp m) : Def P w (T.raw lams cells) mg base k x ps rp (grd m) := by
  obtain ⟨f, fd, F, h1, h2, h3⟩ := Dn.ex
  exact ⟨f, fd, F.swap Alike.raw, h1, h2, h3⟩
/-- with keywords, too -/
structure DefK (P : Program) (w : World) (T : Tb) (mg : Str → Option Value) (base : Heap) (k : Nat) (x : Str) (ps : List Str) (rp : List Nat) (m : List B → R B) (ks : List Str) (pm : List Nat) : Prop where
  ex : ∃ (f : Addr) (fd : FuncData), FnG P w T.K mg base k f fd ps (spM T rp ps.length m) ∧ mg x = some (.ref f) ∧ PySem.W.keepIn T.K (.ref f) = true ∧ KBinds T.K fd ps ks (kw0 pm) (kw0 pm)
structure DefW (P : Program) (w : World) (T : Tb) (mg : Str → Option Value) (base : Heap) (k : Nat) (x : Str) (ps : List Str) (m : List B → R B) : Prop where
  ex : ∃ (f : Addr) (fd : FuncData), FnW P w T.K mg base k f fd ps (spM T [] ps.length m) ∧ mg x = some (.ref f) ∧ PySem.W.keepIn T.K (.ref f) = true ∧ Binds T.K fd ps []
section
variable {T : Tb} {W : WX} {X : Cx} {x : Str} {p pos : Pos} {e : Expr} {es : List Expr} {rp : List Nat}
theorem pe_callX {j k : Nat} {ps : List Str} {m : List B → R B} {ms : M (List Opd)} (Dn : Def X.prog X.w T X.mg X.base j x ps rp m) (hK : X.K = T.K) (hr : RoomG k X.A) (hj : j ≤ k) (tk : Takes X W)
    (ha : PA X (e :: es) (tA T W ms)) (hg : Gl X x := by rfl) (hdb : (x == ("__debug__" : Str)) = false := by decide) (he : starEach (e :: es) X.env = (false, eval e X.env) :: starEach es X.env := by rfl) (hpl : (backTo pos (starEach es X.env)).any (·.1) = false := by rfl) :
    PE X (.Call (.Name x p) (e :: es) [] pos) (tV T W (callM m rp ps.length ms)) := by
  obtain ⟨f, fd, F, h1, h2, h3⟩ := Dn.ex
  rw [← hK] at F h2 h3
  exact pe_callM F (hr.mono hj) hg h1 h2 h3 tk ha hdb he hpl
theorem pe_callKX0 {j k : Nat} {ps ks : List Str} {kws : List Keyword} {m : List B → R B} {zs : M (List Opd)} {pm : List Nat} (Dn : DefK X.prog X.w T X.mg X.base j x ps rp m ks pm) (hK : X.K = T.K) (hr : RoomG k X.A) (hj : j ≤ k) (tk : Takes X W)
    (hkw : PK X kws (tA T W zs)) (hks : (backToKw pos (keywordEach kws X.env)).filterMap (·.1) = ks := by rfl) (hall : (backToKw pos (keywordEach kws X.env)).all (·.1.isSome) = true := by rfl) (hg : Gl X x := by rfl)
    (hdb : (x == ("__debug__" : Str)) = false := by decide)
    (hpl : ((backTo pos (starEach [] X.env)).any (·.1) || (backToKw pos (keywordEach kws X.env)).any (·.1.isNone)) = false := by rfl) :
    PE X (.Call (.Name x p) [] kws pos) (tV T W (callM m rp ps.length (permM pm zs))) := by
  obtain ⟨f, fd, F, h1, h2, h3⟩ := Dn.ex
  rw [← hK] at F h2 h3
  exact pe_callKM0 F (hr.mono hj) hg h1 h2 h3 tk hkw hall hks hdb hpl
theorem pe_cloX {j k : Nat} {ps : List Str} {m : List B → R B} {ms : M (List Opd)} {lams : List LamD} {caps : List (List Nat)} (Dn : Def X.prog X.w T X.mg X.base j x ps [] m) (hK : X.K = T.K) (hr : RoomG k X.A) (hj : j ≤ k)
    (C : CapsOk X lams caps) (hc : HasC T lams) (hfn : ∀ x, X.fn x = true)
    (ha : PA X (e :: es) (tA (T.raw lams X.env.cells) W ms)) (hg : Gl X x := by rfl) (hdb : (x == ("__debug__" : Str)) = false := by decide) (he : starEach (e :: es) X.env = (false, eval e X.env) :: starEach es X.env := by rfl) (hpl : (backTo pos (starEach es X.env)).any (·.1) = false := by rfl) :
    PE X (.Call (.Name x p) (e :: es) [] pos) (tV (T.raw lams X.env.cells) W (cloM m ps.length caps ms)) := by
  obtain ⟨f, fd, F, h1, h2, h3⟩ := Dn.ex
  rw [← hK] at F h2 h3
  exact pe_cloM F (hr.mono hj) hg h1 h2 h3 C hc hfn ha hdb he hpl
end
/-! ### row.count(x) of flat values -/
def rCount (K : PySem.W.Frag) : V → List V → Hp → VK → Prop := fun x xs H Q => ∃ (a : Addr) (ys : List V) (y : V), x = V.ref a ∧ xs = [y] ∧ SqL K H a ys ∧ flatV y = true ∧ ys.all flatV = true ∧ Q (.int ((ys.countP fun z => eqV z y : Nat) : Int)) H
theorem mt_count {X : Cx} : MtR X "list.count" (rCount X.K) := by
  intro pins s σ H x xs v us Q I rx rxs h
  obtain ⟨a, ys, y, rfl, rfl, hs, fy, fys, q⟩ := h
  cases rx
  cases rxs with
  | cons ry rt =>
    rename_i uy ut
    cases rt
    obtain ⟨its, rv, ⟨⟨cls, dd, data, sl⟩, n, ho, hc, hdn, hd⟩, hlen⟩ := I.list hs
    simp only at hc hd
    subst hc hd
    have ec : ∀ {zs : List V} {ws : List Value}, Vals zs ws → zs.all flatV = true → ws.countP (eqU y) = zs.countP fun z => eqV z y := by
      intro zs ws r
      induction r with
      | nil => intro _; rfl
      | cons r1 r2 ih =>
        intro f
        rw [List.all_cons, Bool.and_eq_true] at f
        rw [List.countP_cons, List.countP_cons, ih f.2, eqU_of r1 f.1]
    refine call_meets PySem.F.slot_list_count ⟨_, ho, rfl⟩ PySem.F.entry_list_count (PySem.F.args_list_count_2 _ _)
      (SeqAt.list_countAt a its.toArray n dd sl uy (eqU y)) ⟨ho, fun u' hu' => mem_eqAt ry fy rv fys u' (by simpa using hu'), ?_⟩
    refine ⟨.int ((ys.countP fun z => eqV z y : Nat) : Int), H, I.tok _, ⟨s.toks, ?_⟩, q⟩
    show Value.int ((its.toArray.toList.countP (eqU y) : Nat) : Int) s.toks = _
    rw [← ec rv fys]
def countLD : D → List D → Option B
  | d, [e] => match flV e, (lstOf d).bind flVs with
    | some u, some us => some (false, .int ((us.countP fun z => eqV z u : Nat) : Int))
    | _, _ => none
  | _, _ => none
theorem ok_countL {T : Tb} : OkM T (rCount T.K) countLD := by
  intro F H v d vs ds x l rv rs h Q g
  unfold countLD at h
  split at h
  · rename_i e
    cases e1 : flV e with
    | none => simp only [e1] at h; cases h
    | some u =>
      cases e2 : lstOf d with
      | none => simp only [e1, e2, Option.bind] at h; cases h
      | some es =>
        cases e3 : flVs es with
        | none => simp only [e1, e2, Option.bind, e3] at h; cases h
        | some us =>
          simp only [e1, e2, Option.bind, e3] at h
          cases h
          cases rs with
          | cons r1 rs =>
            cases rs
            obtain ⟨h1, h2⟩ := flV_top r1 e1
            obtain ⟨p, ws, hv, r3, q⟩ := rv.lstq l e2
            obtain ⟨h3, h4⟩ := flVs_reps r3 e3
            subst h1 h3
            exact ⟨p, ws, _, hv, rfl, q, h2, h4, Gives.same l (.int _) g⟩
  · cases h
section
variable {T : Tb} {W : WX} {X : Cx} {a e : Expr}
theorem pe_countLM {m : M Opd} {ms : M (List Opd)} {apos cpos : Pos} (hK : X.K = T.K) (ho : PE X a (tO T W m)) (ha : PA X [e] (tA T W ms)) (hbase : attributeBase a "count" X.env (eval a X.env) = eval a X.env := by rfl)
    (hfew : ((backTo cpos (starEach [e] X.env)).all (fun x => !x.1) && (backToKw cpos (keywordEach [] X.env)).all (fun x => x.1.isSome)
      && decide (([e] : List Expr).length + ([] : List Keyword).length + (if ([] : List Keyword).isEmpty then 0 else 1) < 30)) = true := by rfl)
    (hline : (apos.endLine == cpos.line) = true := by rfl) (hs : starEach [e] X.env = (false, eval e X.env) :: starEach [] X.env := by rfl) :
    PE X (.Call (.Attribute a "count" apos) [e] [] cpos) (tV T W (methM "list" countLD m ms)) := pe_methM ok_countL (.inr rfl) hK PySem.F.plainAttrs_list PySem.F.slot_list_count PySem.F.type_list_count (hK ▸ mt_count) ho ha hbase hfew hline hs rfl
end
end TT

set_option maxRecDepth 100000
set_option maxHeartbeats 4000000
/-! TH: short rules for the built-in functions. -/
namespace TT
open PySem PySem.Spec PyProof.Rows L2
section
variable {T : Tb} {W : WX} {X : Cx} {e : Expr} {es : List Expr} {ms : M (List Opd)} {p pos : Pos}
theorem pe_xlenM (hK : X.K = T.K) (hc : X.calm = true) (hm : X.mg "len" = none) (ha : PA X (e :: es) (tA T W ms)) (hg : Gl X "len" := by rfl) (he : starEach (e :: es) X.env = (false, eval e X.env) :: starEach es X.env := by rfl) (hpl : (backTo pos (starEach es X.env)).any (·.1) = false := by rfl) :
    PE X (.Call (.Name "len" p) (e :: es) [] pos) (tV T W (callN lenD ms)) := pe_bltM (T := T) ok_len (hK ▸ (call_len)) hm ha hg (by decide +kernel) (by decide) (by decide) he hpl
theorem pe_xsumM (hK : X.K = T.K) (hc : X.calm = true) (hm : X.mg "sum" = none) (ha : PA X (e :: es) (tA T W ms)) (hg : Gl X "sum" := by rfl) (he : starEach (e :: es) X.env = (false, eval e X.env) :: starEach es X.env := by rfl) (hpl : (backTo pos (starEach es X.env)).any (·.1) = false := by rfl) :
    PE X (.Call (.Name "sum" p) (e :: es) [] pos) (tV T W (callN sumD ms)) := pe_bltM (T := T) ok_sum (hK ▸ (TM.cr_sumA hc)) hm ha hg (by decide +kernel) (by decide) (by decide) he hpl
theorem pe_xmaxM (hK : X.K = T.K) (hc : X.calm = true) (hm : X.mg "max" = none) (ha : PA X (e :: es) (tA T W ms)) (hg : Gl X "max" := by rfl) (he : starEach (e :: es) X.env = (false, eval e X.env) :: starEach es X.env := by rfl) (hpl : (backTo pos (starEach es X.env)).any (·.1) = false := by rfl) :
    PE X (.Call (.Name "max" p) (e :: es) [] pos) (tV T W (callN maxD ms)) := pe_bltM (T := T) ok_max (hK ▸ (callr_max hc)) hm ha hg (by decide +kernel) (by decide) (by decide) he hpl
theorem pe_xminM (hK : X.K = T.K) (hc : X.calm = true) (hm : X.mg "min" = none) (ha : PA X (e :: es) (tA T W ms)) (hg : Gl X "min" := by rfl) (he : starEach (e :: es) X.env = (false, eval e X.env) :: starEach es X.env := by rfl) (hpl : (backTo pos (starEach es X.env)).any (·.1) = false := by rfl) :
    PE X (.Call (.Name "min" p) (e :: es) [] pos) (tV T W (callN minD ms)) := pe_bltM (T := T) ok_min (hK ▸ (callr_min hc)) hm ha hg (by decide +kernel) (by decide) (by decide) he hpl
theorem pe_xabsM (hK : X.K = T.K) (hc : X.calm = true) (hm : X.mg "abs" = none) (ha : PA X (e :: es) (tA T W ms)) (hg : Gl X "abs" := by rfl) (he : starEach (e :: es) X.env = (false, eval e X.env) :: starEach es X.env := by rfl) (hpl : (backTo pos (starEach es X.env)).any (·.1) = false := by rfl) :
    PE X (.Call (.Name "abs" p) (e :: es) [] pos) (tV T W (callN absD ms)) := pe_bltM (T := T) ok_abs (call_abs) hm ha hg (by decide +kernel) (by decide) (by decide) he hpl
theorem pe_xintM (hK : X.K = T.K) (hc : X.calm = true) (hm : X.mg "int" = none) (ha : PA X (e :: es) (tA T W ms)) (hg : Gl X "int" := by rfl) (he : starEach (e :: es) X.env = (false, eval e X.env) :: starEach es X.env := by rfl) (hpl : (backTo pos (starEach es X.env)).any (·.1) = false := by rfl) :
    PE X (.Call (.Name "int" p) (e :: es) [] pos) (tV T W (callN intD ms)) := pe_btyM (T := T) ok_int (call_int1) hm ha hg (by decide +kernel) (by decide) (by decide) he hpl
theorem pe_xdivmodM (hK : X.K = T.K) (hc : X.calm = true) (hm : X.mg "divmod" = none) (ha : PA X (e :: es) (tA T W ms)) (hg : Gl X "divmod" := by rfl) (he : starEach (e :: es) X.env = (false, eval e X.env) :: starEach es X.env := by rfl) (hpl : (backTo pos (starEach es X.env)).any (·.1) = false := by rfl) :
    PE X (.Call (.Name "divmod" p) (e :: es) [] pos) (tV T W (callN divmodD ms)) := pe_bltM (T := T) ok_divmod (call_divmod) hm ha hg (by decide +kernel) (by decide) (by decide) he hpl
theorem pe_xtupleM (hK : X.K = T.K) (hc : X.calm = true) (hm : X.mg "tuple" = none) (ha : PA X (e :: es) (tA T W ms)) (hg : Gl X "tuple" := by rfl) (he : starEach (e :: es) X.env = (false, eval e X.env) :: starEach es X.env := by rfl) (hpl : (backTo pos (starEach es X.env)).any (·.1) = false := by rfl) :
    PE X (.Call (.Name "tuple" p) (e :: es) [] pos) (tV T W (callN tupleD ms)) := pe_btyM (T := T) ok_tuple (hK ▸ (call_tuple_of)) hm ha hg (by decide +kernel) (by decide) (by decide) he hpl
theorem pe_xlistM (hK : X.K = T.K) (hc : X.calm = true) (hm : X.mg "list" = none) (ha : PA X (e :: es) (tA T W ms)) (hg : Gl X "list" := by rfl) (he : starEach (e :: es) X.env = (false, eval e X.env) :: starEach es X.env := by rfl) (hpl : (backTo pos (starEach es X.env)).any (·.1) = false := by rfl) :
    PE X (.Call (.Name "list" p) (e :: es) [] pos) (tV T W (callN listD ms)) := pe_btyM (T := T) ok_list (hK ▸ (call_list_of)) hm ha hg (by decide +kernel) (by decide) (by decide) he hpl
theorem pe_xallM (hK : X.K = T.K) (hc : X.calm = true) (hm : X.mg "all" = none) (ha : PA X (e :: es) (tA T W ms)) (hg : Gl X "all" := by rfl) (he : starEach (e :: es) X.env = (false, eval e X.env) :: starEach es X.env := by rfl) (hpl : (backTo pos (starEach es X.env)).any (·.1) = false := by rfl) :
    PE X (.Call (.Name "all" p) (e :: es) [] pos) (tV T W (callN allD ms)) := pe_bltM (T := T) ok_all (hK ▸ (cr_all hc)) hm ha hg (by decide +kernel) (by decide) (by decide) he hpl
theorem pe_xanyM (hK : X.K = T.K) (hc : X.calm = true) (hm : X.mg "any" = none) (ha : PA X (e :: es) (tA T W ms)) (hg : Gl X "any" := by rfl) (he : starEach (e :: es) X.env = (false, eval e X.env) :: starEach es X.env := by rfl) (hpl : (backTo pos (starEach es X.env)).any (·.1) = false := by rfl) :
    PE X (.Call (.Name "any" p) (e :: es) [] pos) (tV T W (callN anyD ms)) := pe_bltM (T := T) ok_any (hK ▸ (cr_any hc)) hm ha hg (by decide +kernel) (by decide) (by decide) he hpl
theorem pe_xsortedM (hK : X.K = T.K) (hc : X.calm = true) (hm : X.mg "sorted" = none) (ha : PA X (e :: es) (tA T W ms)) (hg : Gl X "sorted" := by rfl) (he : starEach (e :: es) X.env = (false, eval e X.env) :: starEach es X.env := by rfl) (hpl : (backTo pos (starEach es X.env)).any (·.1) = false := by rfl) :
    PE X (.Call (.Name "sorted" p) (e :: es) [] pos) (tV T W (callN sortedD ms)) := pe_bltM (T := T) ok_sorted (hK ▸ (cr_sortedS)) hm ha hg (by decide +kernel) (by decide) (by decide) he hpl
end
end TT

namespace TT
open PySem PySem.Spec PyProof.Rows L2
theorem RoomG.u64 {k : Nat} {A : Around} (hr : RoomG k A) : A.units + 64 < cLine := by have := hr.room.un; omega
theorem RoomG.u1 {k : Nat} {A : Around} (hr : RoomG k A) : A.units + 1 < cLine := by have := hr.room.un; omega
theorem RoomW.u64 {k : Nat} {A : Around} (hr : RoomW k A) : A.units + 64 < cLine := by have := hr.room.un; omega
theorem nb0 : ∀ (ds : List D) (env env' : Ev), nilB ds env = .ok () env' → ds.length = 0
  | [], _, _, _ => rfl
  | _ :: _, _, _, h => by cases h
theorem nbS {b : D → M Unit} {bs : List D → M Unit} {n : Nat} (h : ∀ (ds : List D) (env env' : Ev), bs ds env = .ok () env' → ds.length = n) : ∀ (ds : List D) (env env' : Ev), consB b bs ds env = .ok () env' → ds.length = n + 1
  | [], _, _, e => by cases e
  | d :: ds, env, env', e => by
    unfold consB at e
    obtain ⟨u, env1, _, e2⟩ := bind_ok_inv e
    rw [List.length_cons, h ds env1 env' e2]
/-- a global constant -/
def Con (T : Tb) (mg : Str → Option Value) (x : Str) (d : D) : Prop := ∃ (v : V) (u : Value), mg x = some u ∧ RelV v u ∧ ∀ F, Rep T F v d
theorem pe_constM {T : Tb} {W : WX} {X : Cx} {x : Str} {d : D} {pos : Pos} (h : Con T X.mg x d) (hg : Gl X x := by rfl) (hd : (x == ("__debug__" : Str)) = false := by decide) : PE X (.Name x pos) (tV T W (cstM d)) := by
  obtain ⟨v, u, h1, h2, h3⟩ := h
  exact pe_cstM (pe_glob hg h1 h2 hd) h3
/-- a fixed row of texts among the written objects -/
theorem con_strs {T : Tb} {mg : Str → Option Value} {x : Str} {a : Addr} {o : Obj} {its : Array Value} {n : Nat} {xs : List Str} (hm : mg x = some (.ref a)) (lk : T.K.lookup a = some o) (hc : o.cls = .type "tuple") (hd : o.data = .seq its n) (hz : its.size ≤ sizeLine) (hv : Vals (xs.map V.str) its.toList) : Con T mg x (.tup (xs.map D.str)) := by
  refine ⟨.ref a, .ref a, hm, rfl, fun F => .tup (vs := xs.map V.str) (.inr ⟨o, its, n, lk, hc, hd, hz, hv⟩) ?_⟩
  clear hv
  induction xs with
  | nil => exact .nil
  | cons y ys ih => exact .cons (.str y) ih
theorem con_int {T : Tb} {mg : Str → Option Value} {x : Str} {i : Int} {t : Tok} (hm : mg x = some (.int i t)) : Con T mg x (.int i) := ⟨.int i, .int i t, hm, ⟨t, rfl⟩, fun F => .int i⟩
end TT
namespace TX
open PySem PySem.W
theorem bx_ValueError : BaseX "ValueError" "ValueError.__new__" "ValueError.__init__" [.type "ValueError", .type "Exception", .type "BaseException", .type "object"] := ⟨PySem.F.excBase_ValueError, kxs_ValueError, PySem.F.store_ValueError⟩
theorem bx_LookupError : BaseX "LookupError" "LookupError.__new__" "LookupError.__init__" [.type "LookupError", .type "Exception", .type "BaseException", .type "object"] := ⟨PySem.F.excBase_LookupError, kxs_LookupError, PySem.F.store_LookupError⟩
theorem bx_ArithmeticError : BaseX "ArithmeticError" "ArithmeticError.__new__" "ArithmeticError.__init__" [.type "ArithmeticError", .type "Exception", .type "BaseException", .type "object"] := ⟨PySem.F.excBase_ArithmeticError, kxs_ArithmeticError, PySem.F.store_ArithmeticError⟩
end TX

set_option maxRecDepth 100000
set_option maxHeartbeats 4000000
/-! TO: f(e), e a new container that f may change. -/
namespace TT
open PySem PySem.Spec PyProof.Rows L2
theorem FnW.mono {P : Program} {w : World} {K : PySem.W.Frag} {mg : Str → Option Value} {base : Heap} {j k : Nat} {f : Addr} {fd : FuncData} {ps : List Str} {sp : Sp} (F : FnW P w K mg base j f fd ps sp) (h : j ≤ k) : FnW P w K mg base k f fd ps sp :=
  ⟨F.len, fun A outer s H args us vs Q E hr => F.run A outer s H args us vs Q E (hr.mono h)⟩
def callOwnM (m : List B → R B) (me : M B) : M B := M.bind me fun x env => match m [x] with
  | .ok y _ => if x.1 = true ∧ y.1 = false then .ok y env else .bad
  | .err _ _ _ => .bad
  | .bad => .bad
section
variable {T : Tb} {W : WX} {X : Cx} {x : Str} {p pos : Pos} {e : Expr}
theorem step_own {s : St} {F0 H0 F1 H1 F2 H2 : Hp} {env0 env1 env2 : Ev} {v : V} {d : D} (st : Step T s F0 H0 env0 F1 H1 env1) (r : VOk T s F1 H1 env1 v (true, d)) (fr : ∀ a, v = .ref a → H0 a = none) (st2 : Step T [some v] F1 H1 [some (true, d)] F2 H2 env2) : Step T s F0 H0 env0 F2 H2 env1 := by
  obtain ⟨a, rfl, fa, ta⟩ := r.rep
  have apart := r.apart rfl a rfl
  have h0 := fr a rfl
  have ow : ∀ b, OwnE [some (.ref a)] [some (true, d)] b → b = a := fun b ⟨i, d', e1, e2⟩ => by
    cases i with
    | zero => simp at e2; exact e2.symm
    | succ i => simp at e1
  refine ⟨⟨st2.rep.le, st.rep.len, fun i x e => ?_, st.rep.sep, st2.rep.sm, st2.rep.tb⟩, st.mono.trans st2.mono, fun b o e t n => ?_, fun b e n => ?_, st.own, fun b e => st.dom b (st2.dom b e)⟩
  · obtain ⟨u, e1, ru⟩ := st.rep.get i x e
    refine ⟨u, e1, ?_⟩
    obtain ⟨own, dx⟩ := x
    cases own with
    | false => exact Rep.mono st2.mono ru
    | true =>
      obtain ⟨b, rfl, fb, tb⟩ := ru
      have nb : ¬ OwnE [some (.ref a)] [some (true, d)] b := fun z => by
        have := ow b z
        subst this
        exact apart ⟨i, dx, e, e1⟩
      obtain ⟨o, ho, po⟩ := tb.obj
      refine ⟨b, rfl, ?_, tb.imp st2.mono fun o e p => st2.frame b o e p.nt nb⟩
      cases z : F2 b with
      | none => rfl
      | some u =>
        rcases st2.fresh b fb (by rw [z]; simp) with y | y
        · rw [ho] at y; cases y
        · exact (nb y).elim
  · refine st2.frame b o (st.frame b o e t n) t fun z => ?_
    have := ow b z
    subst this
    rw [h0] at e
    cases e
  · cases q : F1 b with
    | some u => exact st.fresh b e (by rw [q]; simp)
    | none =>
      rcases st2.fresh b q n with z | z
      · exact .inl (st.dom b z)
      · have := ow b z
        subst this
        exact .inl h0
theorem pe_callOwnX {j k : Nat} {ps : List Str} {m : List B → R B} {me : M B} (Dn : Def X.prog X.w T X.mg X.base j x ps [0] m) (h1 : ps.length = 1) (hK : X.K = T.K) (hr : RoomG k X.A) (hj : j ≤ k) (tk : Takes X W)
    (ha : PE X e (tV T W me)) (hg : Gl X x := by rfl) (hdb : (x == ("__debug__" : Str)) = false := by decide) (he : starEach [e] X.env = (false, eval e X.env) :: starEach [] X.env := by rfl) (hpl : (backTo pos (starEach [] X.env)).any (·.1) = false := by rfl) :
    PE X (.Call (.Name x p) [e] [] pos) (tV T W (callOwnM m me)) := by
  obtain ⟨f, fd, Fn, h2, h3, h4⟩ := Dn.ex
  rw [← hK] at Fn h3 h4
  refine PEimp (pe_callF Fn (hr.mono hj) hg h2 h3 h4 (fun σ => passAt tk σ) (pa_cons ha pa_nil he) hdb he hpl) ?_
  rintro s H0 Q ⟨F0, env0, E0, h⟩
  refine ⟨F0, env0, E0, ?_⟩
  unfold callOwnM at h
  cases e1 : me env0 with
  | bad => rw [bind_bad e1] at h; exact h
  | err c fs env1 => rw [bind_err e1] at h; exact h
  | ok y env1 =>
    rw [bind_ok e1] at h
    intro v F1 H1 st r
    cases e2 : m [y] with
    | bad => rw [e2] at h; exact h.elim
    | err c fs env2 => rw [e2] at h; exact h.elim
    | ok z env2 =>
      simp only [e2] at h
      by_cases q : y.1 = true ∧ z.1 = false
      case neg => rw [if_neg q] at h; exact h.elim
      rw [if_pos q] at h
      obtain ⟨own, d⟩ := y
      obtain ⟨q1, q2⟩ := q
      cases q1
      obtain ⟨oz, dz⟩ := z
      cases q2
      refine ⟨h1.symm, F1, [(true, d)], ⟨st.rep.le, rfl, fun i x e => ?_, fun i j d1 d2 u k1 k2 k3 k4 => ?_, st.rep.sm, st.rep.tb⟩, fun i x e o => ?_, ?_⟩
      · cases i with
        | zero => cases e; exact ⟨v, rfl, r.1.rep⟩
        | succ i => simp at e
      · cases i with
        | zero => cases j with
          | zero => rfl
          | succ j => simp at k2
        | succ i => simp at k1
      · cases i with
        | zero => simp
        | succ i => simp at e
      · rw [e2]
        intro v2 F2 H2 st2 rv fr
        exact h v2 F2 H2 (step_own st r.1 (r.2 rfl) st2) ⟨⟨rv, fun o => by cases o⟩, fun o => by cases o⟩
end
end TT

set_option maxRecDepth 100000
set_option maxHeartbeats 4000000
/-! KM: the mirrors of law k75's defs. Printed by gen.py. -/
namespace TT
open PySem PySem.Spec PyProof.Rows L2
def c_ORDERS : D := .tup ((["abc", "acb", "bac", "bca", "cab", "cba"] : List Str).map D.str)
def c_NAMES : D := .tup ((["a", "b", "c"] : List Str).map D.str)
def c_RULES : D := .tup ((["firsts", "lasts", "points", "pairs"] : List Str).map D.str)
def c_MOST_VOTERS : D := .int 60
def tb_ArithmeticError : Nat → Option Bool
  | 0 => some false
  | 1 => some false
  | _ => none
def tb_InvalidProfile : Nat → Option Bool
  | 0 => some true
  | 1 => some false
  | _ => none
def tb_InvalidRule : Nat → Option Bool
  | 0 => some false
  | 1 => some true
  | _ => none
def tb_LookupError : Nat → Option Bool
  | 0 => some false
  | 1 => some false
  | _ => none
def tb_NotPossible : Nat → Option Bool
  | 0 => some false
  | 1 => some false
  | _ => none
def tb_ValueError : Nat → Option Bool
  | 0 => some true
  | 1 => some true
  | _ => none
def tb_WrongName : Nat → Option Bool
  | 0 => some false
  | 1 => some false
  | _ => none
def tb_WrongValue : Nat → Option Bool
  | 0 => some true
  | 1 => some true
  | _ => none
def excs : List Str := ["InvalidProfile", "InvalidRule"]
def exNo (c : Str) : Option Nat := if c = "InvalidProfile" then some 0 else if c = "InvalidRule" then some 1 else none
def caps_refused : List (List Nat) := [[1, 3], [1, 3]]
def b_is_integer : M Flw := retM (andV (un1 (isiD "int") (slotM 0)) (notV (un1 (isiD "bool") (slotM 0))))
def m_is_integer : List B → R B := (fnR 1 [] b_is_integer)
def b_is_natural : M Flw := retM (andV (callM m_is_integer [] 1 (consM (valM (nameM 0)) (nilM))) (bin2 geD (slotM 0) (valM (cstM (.int 0)))))
def m_is_natural : List B → R B := (fnR 1 [] b_is_natural)
def b_is_tuple_of : M Flw := retM (andV (un1 (isiD "tuple") (slotM 0)) (bin2 eqD (valM (callN lenD (consM (slotM 0) (nilM)))) (slotM 1)))
def m_is_tuple_of : List B → R B := (fnR 2 [] b_is_tuple_of)
def b_are_naturals : M Flw := retM (andV (callM m_is_tuple_of [] 2 (consM (valM (nameM 0)) (consM (valM (nameM 1)) (nilM)))) (callN allD (consM (valM (lcM [2] (seqI (nameM 0)) (nmB 2) (M.pure true) (callM m_is_natural [] 1 (consM (valM (nameM 2)) (nilM))))) (nilM))))
def m_are_naturals : List B → R B := (fnR 3 [] b_are_naturals)
def b_check_profile : M Flw := ifM (orT (notT (trM (valM (callM m_are_naturals [] 2 (consM (valM (nameM 0)) (consM (valM (shM (callN lenD (consM (valM (cstM c_ORDERS)) (nilM))))) (nilM))))))) (notT (boolM (chainM leD leD (valM (cstM (.int 1))) (valM (callN sumD (consM (slotM 0) (nilM)))) (valM (cstM c_MOST_VOTERS)))))) (raiseM "InvalidProfile" (nameM 0)) (M.pure .next)
def m_check_profile : List B → R B := (fnR 1 [] b_check_profile)
def b_pairs_of : M Flw := seqM (asgB (nameM 0) (tpB (consB (nmB 1) (consB (nmB 2) (consB (nmB 3) (consB (nmB 4) (consB (nmB 5) (consB (nmB 6) (nilB)))))))))
  (retM (tupM (consM (valM (shM (bin2 addD (valM (bin2 addD (slotM 1) (slotM 2))) (slotM 5)))) (consM (valM (shM (bin2 addD (valM (bin2 addD (slotM 1) (slotM 3))) (slotM 4)))) (consM (valM (shM (bin2 addD (valM (bin2 addD (slotM 4) (slotM 5))) (slotM 6)))) (nilM))))))
def m_pairs_of : List B → R B := (fnR 7 [] b_pairs_of)
def b_firsts_of : M Flw := seqM (asgB (nameM 0) (tpB (consB (nmB 1) (consB (nmB 2) (consB (nmB 3) (consB (nmB 4) (consB (nmB 5) (consB (nmB 6) (nilB)))))))))
  (retM (tupM (consM (valM (shM (bin2 addD (slotM 1) (slotM 2)))) (consM (valM (shM (bin2 addD (slotM 3) (slotM 4)))) (consM (valM (shM (bin2 addD (slotM 5) (slotM 6)))) (nilM))))))
def m_firsts_of : List B → R B := (fnR 7 [] b_firsts_of)
def b_lasts_of : M Flw := seqM (asgB (nameM 0) (tpB (consB (nmB 1) (consB (nmB 2) (consB (nmB 3) (consB (nmB 4) (consB (nmB 5) (consB (nmB 6) (nilB)))))))))
  (retM (tupM (consM (valM (shM (bin2 addD (slotM 4) (slotM 6)))) (consM (valM (shM (bin2 addD (slotM 2) (slotM 5)))) (consM (valM (shM (bin2 addD (slotM 1) (slotM 3)))) (nilM))))))
def m_lasts_of : List B → R B := (fnR 7 [] b_lasts_of)
def b_check_rule : M Flw := ifM (orT (notT (trM (valM (un1 (isiD "str") (slotM 0))))) (boolM (bin2 notInD (slotM 0) (valM (cstM c_RULES))))) (raiseM "InvalidRule" (nameM 0)) (M.pure .next)
def m_check_rule : List B → R B := (fnR 1 [] b_check_rule)
def b_marks_of : M Flw := seqM (par2M 2 3 (callM m_firsts_of [] 1 (consM (valM (nameM 0)) (nilM))) (callM m_lasts_of [] 1 (consM (valM (nameM 0)) (nilM))))
  (seqM (ifM (boolM (bin2 eqD (slotM 1) (valM (cstM (.str "firsts"))))) (retSlotM 2) (M.pure .next))
  (seqM (ifM (boolM (bin2 eqD (slotM 1) (valM (cstM (.str "lasts"))))) (retM (callN tupleD (consM (valM (lcM [4] (seqI (nameM 3)) (nmB 4) (M.pure true) (un1 negD (slotM 4)))) (nilM)))) (M.pure .next))
  (retM (callN tupleD (consM (valM (lcM [5, 6] (zipM (consM (valM (nameM 2)) (consM (valM (nameM 3)) (nilM)))) (tpB (consB (nmB 5) (consB (nmB 6) (nilB)))) (M.pure true) (bin2 subD (slotM 5) (slotM 6)))) (nilM))))))
def m_marks_of : List B → R B := (fnR 7 [] b_marks_of)
def b_unbeaten : M Flw := seqM (par2M 2 3 (callN sumD (consM (slotM 0) (nilM))) (lstM (nilM)))
  (seqM (asgM 1 (callM m_pairs_of [] 1 (consM (valM (nameM 0)) (nilM))))
  (seqM (forM (enumM (consM (valM (cstM c_NAMES)) (nilM))) (tpB (consB (nmB 4) (consB (nmB 5) (nilB)))) (ifM (andT (boolM (bin2 geD (valM (bin2 mulD (valM (cstM (.int 2))) (valM (bin2 ixD (slotM 1) (slotM 4))))) (slotM 2))) (boolM (bin2 leD (valM (bin2 mulD (valM (cstM (.int 2))) (valM (bin2 ixD (slotM 1) (valM (bin2 subD (slotM 4) (valM (cstM (.int 1))))))))) (slotM 2)))) (dropM (appM 3 (nameM 5))) (M.pure .next)))
  (retSlotM 3)))
def m_unbeaten : List B → R B := (fnR 6 [] b_unbeaten)
def b_won_by : M Flw := seqM (ifM (boolM (bin2 eqD (slotM 1) (valM (cstM (.str "pairs"))))) (retM (callM m_unbeaten [] 1 (consM (valM (nameM 0)) (nilM)))) (M.pure .next))
  (seqM (asgM 2 (callM m_marks_of [] 2 (consM (valM (nameM 0)) (consM (valM (nameM 1)) (nilM)))))
  (retM (lcM [3, 4] (zipM (consM (valM (cstM c_NAMES)) (consM (valM (nameM 2)) (nilM)))) (tpB (consB (nmB 3) (consB (nmB 4) (nilB)))) (boolM (bin2 eqD (slotM 4) (valM (callN maxD (consM (slotM 2) (nilM)))))) (nameM 3))))
def m_won_by : List B → R B := (fnR 5 [] b_won_by)
def b_winners : M Flw := seqM (dropM (callM m_check_profile [] 1 (consM (valM (nameM 0)) (nilM))))
  (seqM (dropM (callM m_check_rule [] 1 (consM (valM (nameM 1)) (nilM))))
  (retM (methM "str" joinD (valM (cstM (.str ""))) (consM (valM (shM (callM m_won_by [] 2 (consM (valM (nameM 0)) (consM (valM (nameM 1)) (nilM)))))) (nilM)))))
def m_winners : List B → R B := (fnR 2 [] b_winners)
def b_law_well : M Flw := seqM (asgM 2 (ifV (boolM (bin2 ltD (slotM 1) (valM (callN lenD (consM (slotM 0) (nilM)))))) (callN intD (consM (valM (bin2 ixD (slotM 0) (slotM 1))) (nilM))) (bin2 addD (valM (bin2 mulD (valM (cstM (.int 6101))) (slotM 1))) (valM (cstM (.int 211))))))
  (seqM (asgM 3 (bin2 addD (valM (cstM (.int 510007))) (valM (bin2 mulD (valM (cstM (.int 877))) (slotM 1)))))
  (seqM (forM (seqI (bin2 addD (valM (slM (slotM 0) (M.pure none) (partM (valM (cstM (.int 40)))))) (valM (lstM (consM (valM (nameM 2)) (nilM)))))) (nmB 4) (asgM 3 (bin2 modD (valM (callN intD (consM (valM (bin2 addD (valM (bin2 mulD (slotM 3) (valM (cstM (.int 36007))))) (valM (callN intD (consM (slotM 4) (nilM)))))) (nilM)))) (valM (cstM (.int 2147483423))))))
  (retM (lstM (consM (valM (shM (ifV (orT (boolM (bin2 ltD (slotM 2) (valM (cstM (.int 0))))) (boolM (bin2 geD (slotM 2) (valM (bin2 powD (valM (cstM (.int 10))) (valM (cstM (.int 18)))))))) (callN absD (consM (slotM 2) (nilM))) (cstM (.int 0))))) (consM (valM (nameM 3)) (consM (valM (cstM (.int 0))) (nilM))))))))
def m_law_well : List B → R B := (fnR 5 [] b_law_well)
def b_law_draw : M Flw := seqM (asgB (bin2 addD (valM (bin2 ixD (slotM 0) (valM (cstM (.int 2))))) (valM (cstM (.int 1)))) (subB 0 (valM (cstM (.int 2)))))
  (seqM (asgM 2 (callN intD (consM (valM (bin2 ixD (slotM 0) (valM (cstM (.int 1))))) (nilM))))
  (seqM (asgB (bin2 modD (valM (callN intD (consM (valM (bin2 addD (valM (bin2 addD (valM (bin2 mulD (slotM 2) (valM (bin2 addD (valM (bin2 modD (valM (callN intD (consM (slotM 2) (nilM)))) (valM (cstM (.int 27011))))) (valM (cstM (.int 8009))))))) (valM (bin2 mulD (valM (cstM (.int 10211))) (valM (bin2 ixD (slotM 0) (valM (cstM (.int 2))))))))) (valM (cstM (.int 41))))) (nilM)))) (valM (cstM (.int 2147483423)))) (subB 0 (valM (cstM (.int 1)))))
  (seqM (ifM (boolM (bin2 gtD (valM (bin2 ixD (slotM 0) (valM (cstM (.int 0))))) (valM (cstM (.int 0))))) (seqM (asgB (callN divmodD (consM (valM (bin2 ixD (slotM 0) (valM (cstM (.int 0))))) (consM (slotM 1) (nilM)))) (tpB (consB (subB 0 (valM (cstM (.int 0)))) (consB (nmB 3) (nilB)))))
  (retSlotM 3)) (M.pure .next))
  (retM (bin2 modD (valM (callN intD (consM (valM (bin2 fdivD (valM (bin2 ixD (slotM 0) (valM (cstM (.int 1))))) (valM (cstM (.int 97))))) (nilM)))) (slotM 1))))))
def m_law_draw : List B → R B := (fnR 4 [0] b_law_draw)
def b_law_of : M Flw := retM (bin2 ixD (slotM 1) (valM (callM m_law_draw [0] 2 (consM (slotM 0) (consM (valM (shM (callN lenD (consM (slotM 1) (nilM))))) (nilM))))))
def m_law_of : List B → R B := (fnR 2 [0] b_law_of)
def b_law_odd : M Flw := seqM (asgM 1 (lstM (consM (valM (cstM .non)) (consM (valM (cstM (.bl true))) (consM (valM (cstM (.bl false))) (consM (valM (cstM (.int 0))) (consM (valM (cstM (.int 1))) (consM (valM (cstM (.str ""))) (consM (valM (cstM (.str "first"))) (consM (valM (cstM (.str "Firsts"))) (consM (valM (cstM (.str "firsts "))) (consM (valM (cstM (.str "point"))) (consM (valM (cstM (.str "abc"))) (consM (valM (shM (tupM (nilM)))) (consM (valM (shM (tupM (consM (valM (cstM (.int 1))) (nilM))))) (consM (valM (shM (tupM (consM (valM (cstM (.int 1))) (consM (valM (cstM (.int 0))) (consM (valM (cstM (.int 0))) (consM (valM (cstM (.int 0))) (consM (valM (cstM (.int 0))) (nilM))))))))) (nilM)))))))))))))))))
  (retM (callM m_law_of [0] 2 (consM (slotM 0) (consM (valM (shM (bin2 addD (slotM 1) (valM (lstM (consM (valM (shM (lstM (nilM)))) (consM (valM (shM (lstM (consM (valM (cstM (.int 1))) (consM (valM (cstM (.int 0))) (consM (valM (cstM (.int 0))) (consM (valM (cstM (.int 0))) (consM (valM (cstM (.int 0))) (consM (valM (cstM (.int 0))) (nilM)))))))))) (consM (valM (shM ((fun env => .ok (true, .dct [] []) env)))) (consM (valM (shM (tupM (consM (valM (cstM (.str "firsts"))) (nilM))))) (consM (valM (shM (lstM (consM (valM (cstM (.str "pairs"))) (nilM))))) (consM (valM (shM (bin2 mulD (valM (tupM (consM (valM (cstM (.int 0))) (nilM)))) (valM (cstM (.int 6)))))) (consM (valM (shM (tupM (consM (valM (cstM (.int 61))) (consM (valM (cstM (.int 0))) (consM (valM (cstM (.int 0))) (consM (valM (cstM (.int 0))) (consM (valM (cstM (.int 0))) (consM (valM (cstM (.int 0))) (nilM)))))))))) (nilM))))))))))))) (nilM)))))
def m_law_odd : List B → R B := (fnR 2 [0] b_law_odd)
def b_law_profile : M Flw := seqM (par2M 2 3 (callM m_law_draw [0] 2 (consM (slotM 0) (consM (valM (cstM (.int 6))) (nilM)))) (bin2 addD (valM (cstM (.int 1))) (valM (callM m_law_draw [0] 2 (consM (slotM 0) (consM (valM (cstM (.int 9))) (nilM)))))))
  (seqM (asgM 1 (bin2 mulD (valM (lstM (consM (valM (cstM (.int 0))) (nilM)))) (valM (cstM (.int 6)))))
  (seqM (ifM (boolM (bin2 ltD (slotM 2) (valM (cstM (.int 2))))) (seqM (asgM 4 (bin2 addD (valM (cstM (.int 1))) (valM (callM m_law_draw [0] 2 (consM (slotM 0) (consM (valM (cstM (.int 60))) (nilM)))))))
  (seqM (forM (rngM (consM (valM (callM m_law_draw [0] 2 (consM (slotM 0) (consM (valM (cstM (.int 8))) (nilM))))) (nilM))) (nmB 5) (seqM (par2M 7 6 (callM m_law_draw [0] 2 (consM (slotM 0) (consM (valM (shM (bin2 addD (slotM 4) (valM (cstM (.int 1)))))) (nilM)))) (callM m_law_draw [0] 2 (consM (slotM 0) (consM (valM (cstM (.int 6))) (nilM)))))
  (asgB (tupM (consM (valM (shM (bin2 addD (valM (bin2 ixD (slotM 1) (slotM 6))) (slotM 7)))) (consM (valM (shM (bin2 subD (slotM 4) (slotM 7)))) (nilM)))) (tpB (consB (subB 1 (slotM 6)) (consB (nmB 4) (nilB)))))))
  (seqM (asgM 6 (callM m_law_draw [0] 2 (consM (slotM 0) (consM (valM (cstM (.int 6))) (nilM)))))
  (asgB (bin2 addD (valM (bin2 ixD (slotM 1) (slotM 6))) (slotM 4)) (subB 1 (slotM 6)))))) (ifM (boolM (bin2 eqD (slotM 2) (valM (cstM (.int 2))))) (asgM 1 (lcM [5] (rngM (consM (valM (cstM (.int 6))) (nilM))) (nmB 5) (M.pure true) (callM m_law_draw [0] 2 (consM (slotM 0) (consM (valM (cstM (.int 3))) (nilM)))))) (ifM (boolM (bin2 eqD (slotM 2) (valM (cstM (.int 3))))) (asgM 1 (ifV (boolM (bin2 eqD (valM (callM m_law_draw [0] 2 (consM (slotM 0) (consM (valM (cstM (.int 2))) (nilM))))) (valM (cstM (.int 0))))) (lstM (consM (valM (nameM 3)) (consM (valM (cstM (.int 0))) (consM (valM (cstM (.int 0))) (consM (valM (nameM 3)) (consM (valM (nameM 3)) (consM (valM (cstM (.int 0))) (nilM)))))))) (lstM (consM (valM (cstM (.int 0))) (consM (valM (nameM 3)) (consM (valM (nameM 3)) (consM (valM (cstM (.int 0))) (consM (valM (cstM (.int 0))) (consM (valM (nameM 3)) (nilM)))))))))) (ifM (boolM (bin2 eqD (slotM 2) (valM (cstM (.int 4))))) (seqM (asgM 6 (callM m_law_draw [0] 2 (consM (slotM 0) (consM (valM (cstM (.int 6))) (nilM)))))
  (asgB (tupM (consM (valM (nameM 3)) (consM (valM (nameM 3)) (nilM)))) (tpB (consB (subB 1 (slotM 6)) (consB (subB 1 (valM (bin2 ixD (valM (lstM (consM (valM (cstM (.int 5))) (consM (valM (cstM (.int 3))) (consM (valM (cstM (.int 4))) (consM (valM (cstM (.int 1))) (consM (valM (cstM (.int 2))) (consM (valM (cstM (.int 0))) (nilM))))))))) (slotM 6)))) (nilB)))))) (asgM 1 (bin2 mulD (valM (lstM (consM (valM (nameM 3)) (nilM)))) (valM (cstM (.int 6)))))))))
  (seqM (ifM (orT (boolM (bin2 eqD (valM (callN sumD (consM (slotM 1) (nilM)))) (valM (cstM (.int 0))))) (andT (boolM (bin2 ltD (valM (callN sumD (consM (slotM 1) (nilM)))) (valM (cstM (.int 60))))) (boolM (bin2 eqD (valM (callM m_law_draw [0] 2 (consM (slotM 0) (consM (valM (cstM (.int 3))) (nilM))))) (valM (cstM (.int 0))))))) (seqM (asgM 6 (callM m_law_draw [0] 2 (consM (slotM 0) (consM (valM (cstM (.int 6))) (nilM)))))
  (asgB (bin2 addD (valM (bin2 ixD (slotM 1) (slotM 6))) (valM (cstM (.int 1)))) (subB 1 (slotM 6)))) (M.pure .next))
  (retM (callN tupleD (consM (slotM 1) (nilM)))))))
def m_law_profile : List B → R B := (fnR 8 [0] b_law_profile)
def b_law_sum : M Flw := retM (callN sumD (consM (valM (lcM [2, 3] (zipM (consM (valM (nameM 0)) (consM (valM (nameM 1)) (nilM)))) (tpB (consB (nmB 2) (consB (nmB 3) (nilB)))) (M.pure true) (bin2 mulD (slotM 2) (slotM 3)))) (nilM)))
def m_law_sum : List B → R B := (fnR 4 [] b_law_sum)
def b_law_won : M Flw := seqM (asgB (tupM (consM (valM (shM (lstM (consM (valM (cstM (.str "abc"))) (consM (valM (cstM (.str "acb"))) (consM (valM (cstM (.str "bac"))) (consM (valM (cstM (.str "bca"))) (consM (valM (cstM (.str "cab"))) (consM (valM (cstM (.str "cba"))) (nilM)))))))))) (consM (valM (shM (lstM (consM (valM (cstM (.str "a"))) (consM (valM (cstM (.str "b"))) (consM (valM (cstM (.str "c"))) (nilM))))))) (nilM)))) (tpB (consB (nmB 4) (consB (nmB 5) (nilB)))))
  (seqM (ifM (boolM (bin2 eqD (slotM 1) (valM (cstM (.str "pairs"))))) (seqM (asgM 6 (lstM (nilM)))
  (seqM (forM (seqI (nameM 5)) (nmB 7) (seqM (asgM 8 (lstM (nilM)))
  (seqM (forM (seqI (lcM [11] (seqI (nameM 5)) (nmB 11) (boolM (bin2 neD (slotM 11) (slotM 7))) (nameM 11))) (nmB 9) (seqM (asgM 10 (callM m_law_sum [] 2 (consM (valM (nameM 0)) (consM (valM (shM (lcM [12] (seqI (nameM 4)) (nmB 12) (M.pure true) (callN intD (consM (valM (bin2 ltD (valM (methM "str" indexSD (slotM 12) (consM (valM (nameM 7)) (nilM)))) (valM (methM "str" indexSD (slotM 12) (consM (valM (nameM 9)) (nilM)))))) (nilM)))))) (nilM)))))
  (dropM (appM 8 (bin2 geD (valM (bin2 mulD (valM (cstM (.int 2))) (slotM 10))) (valM (callN sumD (consM (slotM 0) (nilM)))))))))
  (ifM (boolM (bin2 eqD (slotM 8) (valM (lstM (consM (valM (cstM (.bl true))) (consM (valM (cstM (.bl true))) (nilM))))))) (dropM (appM 6 (nameM 7))) (M.pure .next)))))
  (retM (methM "str" joinD (valM (cstM (.str ""))) (consM (valM (nameM 6)) (nilM)))))) (M.pure .next))
  (seqM (asgM 2 (bin2 dgetD (valM (dispM [.inr "firsts", .inr "lasts", .inr "points"] [lstM (consM (valM (cstM (.int 1))) (consM (valM (cstM (.int 0))) (consM (valM (cstM (.int 0))) (nilM)))), lstM (consM (valM (cstM (.int 0))) (consM (valM (cstM (.int 0))) (consM (valM (shM (un1 negD (valM (cstM (.int 1)))))) (nilM)))), lstM (consM (valM (cstM (.int 2))) (consM (valM (cstM (.int 1))) (consM (valM (cstM (.int 0))) (nilM))))])) (slotM 1)))
  (seqM (asgM 3 (lcM [7] (seqI (nameM 5)) (nmB 7) (M.pure true) (callM m_law_sum [] 2 (consM (valM (nameM 0)) (consM (valM (shM (lcM [12] (seqI (nameM 4)) (nmB 12) (M.pure true) (bin2 ixD (slotM 2) (valM (methM "str" indexSD (slotM 12) (consM (valM (nameM 7)) (nilM)))))))) (nilM))))))
  (retM (methM "str" joinD (valM (cstM (.str ""))) (consM (valM (shM (lcM [7, 13] (zipM (consM (valM (nameM 5)) (consM (valM (nameM 3)) (nilM)))) (tpB (consB (nmB 7) (consB (nmB 13) (nilB)))) (boolM (bin2 eqD (slotM 13) (valM (callN maxD (consM (slotM 3) (nilM)))))) (nameM 7)))) (nilM)))))))
def m_law_won : List B → R B := (fnR 14 [] b_law_won)
def b_law_led : M Flw := seqM (par2M 2 3 (lstM (consM (valM (cstM (.str "abc"))) (consM (valM (cstM (.str "acb"))) (consM (valM (cstM (.str "bac"))) (consM (valM (cstM (.str "bca"))) (consM (valM (cstM (.str "cab"))) (consM (valM (cstM (.str "cba"))) (nilM)))))))) (bin2 mulD (valM (lstM (consM (valM (cstM (.int 0))) (nilM)))) (valM (cstM (.int 6)))))
  (seqM (forM (zipM (consM (valM (nameM 0)) (consM (valM (nameM 2)) (nilM)))) (tpB (consB (nmB 4) (consB (nmB 5) (nilB)))) (seqM (asgM 6 (methM "str" joinD (valM (cstM (.str ""))) (consM (valM (shM (lcM [7] (seqI (nameM 5)) (nmB 7) (M.pure true) (bin2 ixD (slotM 1) (valM (methM "str" indexSD (valM (cstM (.str "abc"))) (consM (valM (nameM 7)) (nilM)))))))) (nilM))))
  (asgB (nameM 4) (subB 3 (valM (methM "list" indexLD (slotM 2) (consM (valM (nameM 6)) (nilM))))))))
  (retM (callN tupleD (consM (slotM 3) (nilM)))))
def m_law_led : List B → R B := (fnR 8 [] b_law_led)
def b_law_word : M Flw := seqM (asgM 1 (lstM (consM (valM (shM (un1 (isED tb_InvalidProfile) (slotM 0)))) (consM (valM (shM (un1 (isED tb_InvalidRule) (slotM 0)))) (nilM)))))
  (seqM (asgM 2 (lstM (consM (valM (shM (un1 (isED tb_WrongValue) (slotM 0)))) (consM (valM (shM (un1 (isED tb_WrongName) (slotM 0)))) (consM (valM (shM (un1 (isED tb_NotPossible) (slotM 0)))) (nilM))))))
  (seqM (asgM 3 (lstM (consM (valM (shM (un1 (isED tb_ValueError) (slotM 0)))) (consM (valM (shM (un1 (isED tb_LookupError) (slotM 0)))) (consM (valM (shM (un1 (isED tb_ArithmeticError) (slotM 0)))) (nilM))))))
  (seqM (ifM (orT (boolM (bin2 neD (valM (methM "list" countLD (slotM 1) (consM (valM (cstM (.bl true))) (nilM)))) (valM (cstM (.int 1))))) (orT (boolM (bin2 neD (slotM 2) (valM (lstM (consM (valM (cstM (.bl true))) (consM (valM (cstM (.bl false))) (consM (valM (cstM (.bl false))) (nilM)))))))) (boolM (bin2 neD (slotM 3) (slotM 2))))) (retM (lstM (consM (valM (cstM (.str "odd"))) (consM (valM (cstM .non)) (nilM))))) (M.pure .next))
  (retM (lstM (consM (valM (shM (ifV (trM (valM (bin2 ixD (slotM 1) (valM (cstM (.int 0)))))) (cstM (.str "profile")) (cstM (.str "rule"))))) (consM (valM (shM (un1 givenD (slotM 0)))) (nilM))))))))
def m_law_word : List B → R B := (fnR 4 [] b_law_word)
def l_0 : M B := callM m_winners [] 2 (consM (valM (nameM 0)) (consM (valM (nameM 1)) (nilM)))
def l_1 : M B := callM m_winners [] 2 (permM [1, 0] (consM (valM (nameM 1)) (consM (valM (nameM 0)) (nilM))))
def msL (j : Nat) (ds : List D) : R B := match j with
  | 0 => l_0 (ds.map fun d => some (false, d))
  | 1 => l_1 (ds.map fun d => some (false, d))
  | _ => .bad
def b_law_heard : M Flw := seqM (tryM 1 (asgM 2 (actM msL (nameM 0))) exNo m_law_word)
  (retM (lstM (consM (valM (cstM (.str "told"))) (consM (valM (nameM 2)) (nilM)))))
def m_law_heard : List B → R B := (fnR 3 [] b_law_heard)
def b_law_all_end : M Flw := retM (bin2 eqD (valM (callN reprD (consM (valM (shM (lcM [2] (seqI (nameM 0)) (nmB 2) (M.pure true) (callM m_law_heard [] 1 (consM (valM (nameM 2)) (nilM)))))) nilM))) (valM (callN reprD (consM (valM (shM (bin2 mulD (valM (lstM (consM (valM (nameM 1)) (nilM)))) (valM (callN lenD (consM (slotM 0) (nilM))))))) nilM))))
def m_law_all_end : List B → R B := (fnR 3 [] b_law_all_end)
def b_law_is_profile : M Flw := seqM (ifM (orT (notT (trM (valM (un1 (isiD "tuple") (slotM 0))))) (boolM (bin2 neD (valM (callN lenD (consM (slotM 0) (nilM)))) (valM (cstM (.int 6)))))) (retM (cstM (.bl false))) (M.pure .next))
  (seqM (ifM (boolM (bin2 neD (valM (lcM [1] (seqI (nameM 0)) (nmB 1) (orT (notT (trM (valM (un1 (isiD "int") (slotM 1))))) (orT (trM (valM (un1 (isiD "bool") (slotM 1)))) (boolM (bin2 ltD (slotM 1) (valM (cstM (.int 0))))))) (nameM 1))) (valM (lstM (nilM))))) (retM (cstM (.bl false))) (M.pure .next))
  (retM (chainM leD leD (valM (cstM (.int 1))) (valM (callN sumD (consM (slotM 0) (nilM)))) (valM (cstM (.int 60))))))
def m_law_is_profile : List B → R B := (fnR 2 [] b_law_is_profile)
def b_law_refused_right : M Flw := seqM (par2M 6 7 (callM (grd m_law_draw) [0] 2 (consM (slotM 0) (consM (valM (cstM (.int 7))) (nilM)))) (callM (grd m_law_draw) [0] 2 (consM (slotM 0) (consM (valM (cstM (.int 5))) (nilM)))))
  (seqM (asgM 2 (callM (grd m_law_of) [0] 2 (consM (slotM 0) (consM (valM (shM (lstM (consM (valM (shM (un1 negD (valM (cstM (.int 1)))))) (consM (valM (cstM (.bl true))) (consM (valM (cstM .non)) (consM (valM (cstM (.str "3"))) (consM (valM (shM (tupM (consM (valM (cstM (.int 3))) (nilM))))) (consM (valM (shM (lstM (consM (valM (cstM (.int 3))) (nilM))))) (consM (valM (cstM (.int 60))) (consM (valM (cstM (.int 61))) (consM (valM (cstM (.int 0))) (consM (valM (shM ((fun env => .ok (true, .dct [] []) env)))) (consM (valM (shM (bin2 powD (valM (cstM (.int 10))) (valM (cstM (.int 20)))))) (nilM))))))))))))))) (nilM)))))
  (seqM (ifM (boolM (bin2 ltD (slotM 7) (valM (cstM (.int 3))))) (asgM 1 (bin2 addD (valM (bin2 addD (valM (slM (slotM 1) (M.pure none) (partM (slotM 6)))) (valM (tupM (consM (valM (nameM 2)) (nilM)))))) (valM (slM (slotM 1) (partM (valM (bin2 addD (slotM 6) (valM (callN intD (consM (valM (bin2 gtD (slotM 7) (valM (cstM (.int 0))))) (nilM))))))) (M.pure none))))) (ifM (boolM (bin2 eqD (slotM 7) (valM (cstM (.int 3))))) (seqM (asgM 8 (lstM (consM (valM (shM (callN listD (consM (slotM 1) (nilM))))) (consM (valM (cstM .non)) (consM (valM (shM ((fun env => .ok (true, .dct [] []) env)))) (consM (valM (cstM (.str "abc"))) (consM (valM (shM (slM (slotM 1) (M.pure none) (partM (valM (cstM (.int 5))))))) (consM (valM (shM (bin2 addD (slotM 1) (valM (tupM (consM (valM (cstM (.int 0))) (nilM))))))) (consM (valM (shM (tupM (nilM)))) (consM (valM (shM (tupM (consM (valM (nameM 1)) (nilM))))) (consM (valM (shM (bin2 mulD (valM (tupM (consM (valM (cstM (.int 0))) (nilM)))) (valM (cstM (.int 6)))))) (nilM))))))))))))
  (asgM 1 (callM (grd m_law_of) [0] 2 (consM (slotM 0) (consM (valM (shM (bin2 addD (slotM 8) (valM (lstM (consM (valM (shM (callM (grd m_law_odd) [0] 1 (consM (slotM 0) (nilM))))) (nilM))))))) (nilM)))))) (M.pure .next)))
  (seqM (asgM 3 (callM (grd m_law_of) [0] 2 (consM (slotM 0) (consM (valM (shM (lstM (consM (valM (cstM (.str "firsts"))) (consM (valM (cstM (.str "lasts"))) (consM (valM (cstM (.str "points"))) (consM (valM (cstM (.str "pairs"))) (consM (valM (shM (callM (grd m_law_odd) [0] 1 (consM (slotM 0) (nilM))))) (consM (valM (shM (callM (grd m_law_odd) [0] 1 (consM (slotM 0) (nilM))))) (consM (valM (shM (callM (grd m_law_odd) [0] 1 (consM (slotM 0) (nilM))))) (nilM))))))))))) (nilM)))))
  (seqM (asgM 4 (lstM (consM (valM (shM (lamM 0))) (nilM))))
  (seqM (dropM (appM 4 (lamM 1)))
  (seqM (ifM (notT (trM (valM (callM (grd m_law_is_profile) [] 1 (consM (valM (nameM 1)) (nilM)))))) (retM (cloM m_law_all_end 2 caps_refused (consM (valM (nameM 4)) (consM (valM (shM (lstM (consM (valM (cstM (.str "profile"))) (consM (valM (nameM 1)) (nilM)))))) (nilM))))) (M.pure .next))
  (seqM (asgM 5 (andV (un1 (isiD "str") (slotM 3)) (bin2 inD (slotM 3) (valM (lstM (consM (valM (cstM (.str "firsts"))) (consM (valM (cstM (.str "lasts"))) (consM (valM (cstM (.str "points"))) (consM (valM (cstM (.str "pairs"))) (nilM))))))))))
  (retM (cloM m_law_all_end 2 caps_refused (consM (valM (nameM 4)) (consM (valM (shM (ifV (trM (slotM 5)) (lstM (consM (valM (cstM (.str "told"))) (consM (valM (shM (callM (grd m_law_won) [] 2 (consM (valM (nameM 1)) (consM (valM (nameM 3)) (nilM)))))) (nilM)))) (lstM (consM (valM (cstM (.str "rule"))) (consM (valM (nameM 3)) (nilM))))))) (nilM))))))))))))
def m_law_refused_right : List B → R B := grd (fnR 9 [0] b_law_refused_right)
def b_law_right : M Flw := seqM (forM (rngM (consM (valM (cstM (.int 5))) (nilM))) (nmB 1) (seqM (asgM 2 (callM m_law_profile [0] 1 (consM (slotM 0) (nilM))))
  (seqM (asgM 3 (callM m_law_of [0] 2 (consM (slotM 0) (consM (valM (shM (lstM (consM (valM (cstM (.str "acb"))) (consM (valM (cstM (.str "bac"))) (consM (valM (cstM (.str "bca"))) (consM (valM (cstM (.str "cab"))) (consM (valM (cstM (.str "cba"))) (nilM))))))))) (nilM)))))
  (seqM (asgM 4 (callM m_law_led [] 2 (consM (valM (nameM 2)) (consM (valM (nameM 3)) (nilM)))))
  (seqM (forM (seqI (lstM (consM (valM (cstM (.str "firsts"))) (consM (valM (cstM (.str "lasts"))) (consM (valM (cstM (.str "points"))) (consM (valM (cstM (.str "pairs"))) (nilM))))))) (nmB 5) (seqM (asgM 6 (callM m_law_won [] 2 (consM (valM (nameM 2)) (consM (valM (nameM 5)) (nilM)))))
  (seqM (ifM (boolM (bin2 neD (valM (callN reprD (consM (valM (shM (lstM (consM (valM (shM (callM m_winners [] 2 (consM (valM (nameM 2)) (consM (valM (nameM 5)) (nilM)))))) (consM (valM (shM (callM m_winners [] 2 (permM [1, 0] (consM (valM (nameM 5)) (consM (valM (nameM 2)) (nilM))))))) (nilM)))))) nilM))) (valM (callN reprD (consM (valM (shM (lstM (consM (valM (nameM 6)) (consM (valM (nameM 6)) (nilM)))))) nilM))))) (retM (cstM (.bl false))) (M.pure .next))
  (ifM (boolM (bin2 neD (valM (callM m_winners [] 2 (consM (valM (nameM 4)) (consM (valM (nameM 5)) (nilM))))) (valM (methM "str" joinD (valM (cstM (.str ""))) (consM (valM (shM (callN sortedD (consM (valM (lcM [7] (seqI (nameM 6)) (nmB 7) (M.pure true) (bin2 ixD (slotM 3) (valM (methM "str" indexSD (valM (cstM (.str "abc"))) (consM (valM (nameM 7)) (nilM))))))) (nilM))))) (nilM)))))) (retM (cstM (.bl false))) (M.pure .next)))))
  (ifM (notT (trM (valM (callM m_law_refused_right [0] 2 (consM (slotM 0) (consM (valM (nameM 2)) (nilM))))))) (retM (cstM (.bl false))) (M.pure .next)))))))
  (retM (cstM (.bl true)))
def m_law_right : List B → R B := (fnR 8 [0] b_law_right)
def b_law : M Flw := retM (callN allD (consM (valM (lcM [1] (rngM (consM (valM (cstM (.int 2))) (nilM))) (nmB 1) (M.pure true) (callOwnM m_law_right (callM m_law_well [] 2 (consM (valM (nameM 0)) (consM (valM (nameM 1)) (nilM))))))) (nilM)))
def m_law : List B → R B := (fnR 2 [] b_law)
end TT

set_option maxRecDepth 100000
set_option maxHeartbeats 4000000
/-! TP: the end of a law row, with the bits, tables of code objects and the modules' dict, for defs that may show things. -/
namespace TT
open PySem PySem.Spec PyProof.Rows L2
/-- what is tracked at the law's call -/
structure Start (K : PySem.W.Frag) (cs : List (Addr × Addr)) (osm : Obj) (a : Addr) (ns : List Int) (H : Hp) : Prop where
  tabs : ∀ p ∈ cs, H p.2 = some (.tbl #[])
  sm : H sysModules = some (smT osm)
  seq : SqL K H a (ns.map V.int)
theorem law_callG {P : Program} {w : World} {K : PySem.W.Frag} {mg mb : Str → Option Value} {k : Nat} {fa a : Addr} {cs : List (Addr × Addr)} {osm : Obj} {fd : FuncData} {x : Str} {sp : Sp} {s₁ : Shared} {vs : List Value} {ns : List Int}
    (KX : K.In s₁.heap) (hns : s₁.heap.Ns mainGlobals mg) (hb : s₁.heap.Ns builtinsNs mb) (hbb : ∀ x : Str, x ≠ "__name__" → mb x = bootBuiltins x) (hlim : s₁.heap.NoLimit) (hg : s₁.gens = #[])
    (hT : ∀ p ∈ cs, s₁.heap.get? p.2 = some { cls := .none, data := .fields #[] }) (nT : ∀ p ∈ cs, K.lookup p.2 = none) (C : ∀ p ∈ cs, PySem.W.CodeHd s₁.heap p.1 p.2)
    (hsm : s₁.heap.get? sysModules = some osm) (hsd : ∃ es ep, osm.data = .dict es ep) (nsm : K.lookup sysModules = none)
    (hbm : ∃ (bm : Addr) (ob : Obj), mg "__builtins__" = some (.ref bm) ∧ bm ≠ builtinsNs ∧ s₁.heap.get? bm = some ob ∧ ob.cls = .type "module" ∧ ob.dict = some builtinsNs ∧ ob.data = .plain)
    (ha : s₁.heap.get? a = some { cls := .type "list", data := .seq vs.toArray }) (hi : IntsAre vs ns) (hl : ns.length ≤ sizeLine) (hr : RoomG k callerA)
    (F : ∀ base : Heap, K.In base → base.Ns mainGlobals mg → (∀ p ∈ cs, LamX.TabB base mg p.1 p.2) → FnG P w K mg base k fa fd [x] sp) (hbind : ∀ (s : Shared) (u : Value), BindsTo s fd ⟨[u], []⟩ [(x, u)])
    (hsp : ∀ H : Hp, Start K cs osm a ns H → sp [.ref a] H (fun v _ => v = .bl true) fun _ _ _ => False) :
    codeAny (model P w) callerA (.call (.ref fa) ⟨[.ref a], []⟩) (fun r s' => r = .ok (.ret (.bool true)) ∧ OldK s₁.heap s'.heap ∧ s'.os = s₁.os ∧ AllBare s'.gens) s₁ := by
  have rv := vals_ints hi
  have lenV := hi.length
  have isT : ∀ b : Addr, b ∈ cs.map (·.2) → s₁.heap.get? b = some { cls := .none, data := .fields #[] } := fun b hb => by
    obtain ⟨p, hp, e⟩ := List.mem_map.mp hb
    rw [← e]
    exact hT p hp
  have memT : ∀ p ∈ cs, p.2 ∈ cs.map (·.2) := fun p hp => List.mem_map.mpr ⟨p, hp, rfl⟩
  have aT : a ∉ cs.map (·.2) := fun z => by
    have q := isT a z
    rw [ha] at q
    have z' : Data.seq vs.toArray _ = Data.fields #[] := congrArg Obj.data (Option.some.inj q)
    cases z'
  have aS : a ≠ sysModules := fun z => by
    rw [z, hsm] at ha
    cases ha
    obtain ⟨es, ep, hd⟩ := hsd
    cases hd
  have tS : sysModules ∉ cs.map (·.2) := fun z => by
    have q := isT _ z
    rw [hsm] at q
    cases q
    obtain ⟨es, ep, hd⟩ := hsd
    cases hd
  -- from an abstract heap in which nothing but these may be tracked
  have core : ∀ H : Hp, Start K cs osm a ns H → (∀ b, H b = none ∨ b ∈ cs.map (·.2) ∨ ∃ o xs, H b = some (.frz o xs)) → HOk P w H s₁.heap → (∀ b, H b ≠ none → b = a ∨ b ∈ cs.map (·.2) ∨ b = sysModules) → (H a ≠ none → K.lookup a = none) →
      codeAny (model P w) callerA (.call (.ref fa) ⟨[.ref a], []⟩) (fun r s' => r = .ok (.ret (.bool true)) ∧ OldK s₁.heap s'.heap ∧ s'.os = s₁.os ∧ AllBare s'.gens) s₁ := by
    intro H hH hO hok hA hK
    have base_of : ∀ {b : Addr} {o : Obj}, s₁.heap.get? b = some o → H b = none → (hidT s₁.heap H).get? b = some o := fun e n => hidT_get e n
    have noD : ∀ {b : Addr} {o : Obj}, s₁.heap.get? b = some o → b ≠ sysModules → (∀ vs n, o.data ≠ .seq vs n) → o.data ≠ .fields #[] → H b = none := fun {b o} e h0 h1 h2 => by
      cases q : H b with
      | none => rfl
      | some u =>
        rcases hA b (by rw [q]; simp) with e' | e' | e'
        · rw [e', ha] at e
          cases e
          exact (h1 _ _ rfl).elim
        · rw [isT b e'] at e
          cases e
          exact (h2 rfl).elim
        · exact (h0 e').elim
    have neS : ∀ {b : Addr} {o : Obj}, s₁.heap.get? b = some o → (∀ es ep, o.data ≠ .dict es ep) → b ≠ sysModules := fun {b o} e n z => by
      rw [z, hsm] at e
      cases e
      obtain ⟨es, ep, hd⟩ := hsd
      exact n _ _ hd
    have noA : ∀ {b : Addr} {o : Obj} {es : Array DictEntry} {ep : Nat}, b ≠ sysModules → s₁.heap.get? b = some o → o.data = .dict es ep → H b = none := fun {b o es ep} ne e d => by
      refine noD e ne (fun vs n z => ?_) fun z => ?_
      · rw [d] at z
        cases z
      · rw [d] at z
        cases z
    have nsK : ∀ {b : Addr} {m : Str → Option Value}, b ≠ sysModules → s₁.heap.Ns b m → (hidT s₁.heap H).Ns b m := fun {b m} ne ⟨o, es, ep, e, d, r⟩ => ⟨o, es, ep, base_of e (noA ne e d), d, r⟩
    have hKb : K.In (hidT s₁.heap H) := fun b o e => base_of (KX b o e) (by
      cases q : H b with
      | none => rfl
      | some u =>
        rcases hA b (by rw [q]; simp) with e' | e' | e'
        · rw [e'] at e q
          rw [hK (by rw [q]; simp)] at e
          cases e
        · obtain ⟨p, hp, ep⟩ := List.mem_map.mp e'
          rw [← ep, nT p hp] at e
          cases e
        · rw [e', nsm] at e
          cases e)
    have hM : L2.Mod K mg (hidT s₁.heap H) := ⟨hKb, nsK (by decide) hns, ⟨mb, nsK (by decide) hb, hbb⟩, let ⟨mc, h1, h2⟩ := hlim; ⟨mc, nsK (by decide) h1, h2⟩⟩
    have TB : ∀ p ∈ cs, LamX.TabB (hidT s₁.heap H) mg p.1 p.2 := fun p hp => by
      have hTp := hT p hp
      refine ⟨?_, ?_, fun z => ?_⟩
      · obtain ⟨o, us, file, tf, flags, tg, inF, text, tt, e1, r1, r2, r3, r4, r5, r6, r7, r8, hne⟩ := C p hp
        refine ⟨o, us, file, tf, flags, tg, inF, text, tt, base_of e1 (noD e1 (neS e1 fun es ep z => ?_) (fun vs n z => ?_) fun z => ?_), r1, r2, r3, r4, r5, r6, r7, r8, hne⟩
        · rw [r2] at z
          cases z
        · rw [r2] at z
          cases z
        · rw [r2] at z
          cases z
          simp at r3
      · obtain ⟨bm, ob, b1, b2, b3, b4, b5, b6⟩ := hbm
        have nG : bm ≠ mainGlobals := fun q => by
          obtain ⟨o, es, ep, e, hd, _⟩ := hns
          rw [q, e] at b3
          cases b3
          rw [hd] at b6
          cases b6
        have nP : bm ≠ p.2 := fun q => by
          rw [q, hTp] at b3
          cases b3
          cases b6
        refine ⟨bm, ob, b1, b2, nG, nP, base_of b3 (noD b3 (neS b3 fun es ep z => ?_) (fun vs n z => ?_) fun z => ?_), b4, b5, b6⟩
        · rw [b6] at z
          cases z
        · rw [b6] at z
          cases z
        · rw [b6] at z
          cases z
      · obtain ⟨o, es, ep, e, hd, _⟩ := hns
        rw [z, hTp] at e
        cases e
        cases hd
    have e0 : Env0 P w K mg (hidT s₁.heap H) callerA [] s₁ H := ⟨rfl, hM, fun b o e => of_hidT e, Nat.le_of_eq (hidT_size _ _), trivial, fun b hb => absurd (show b ∈ ([] : List Addr) from hb) (by simp), hok, .of_eq hg⟩
    refine codeAny_mono ((F _ hKb (nsK (by decide) hns) TB).run callerA [] s₁ H ⟨[.ref a], []⟩ [.ref a] [.ref a] _ _ hr e0 (hbind s₁ (.ref a)) (.cons rfl .nil) (hsp H hH)) fun r s' h => ?_
    cases r with
    | error e => exact h.elim fun _ ⟨_, _, _, _, _, _, _, _, _, _, _, z⟩ => z.elim
    | ok fl =>
      cases fl with
      | next => exact False.elim h
      | brk => exact False.elim h
      | cont => exact False.elim h
      | ret u =>
        obtain ⟨v, H', os, bare, un, hok', r', q⟩ := h
        have q' : v = .bl true := q
        subst q'
        obtain rfl : u = Value.bool true := r'
        have key : ∀ b o, b ∉ cs.map (·.2) → s₁.heap.get? b = some o → s'.heap.get? b = some o := fun b o nb e => by
          cases q : H b with
          | none => exact un.keep b o e q (by intro z; exact absurd (show b ∈ ([] : List Addr) from z) (by simp)) (by simp)
          | some u =>
            rcases hO b with z | z | ⟨ob, xs, z⟩
            · rw [q] at z; cases z
            · exact absurd z nb
            · have z2 := un.frzs b ob _ z
              obtain ⟨e1, _⟩ := hok b _ z
              obtain ⟨e2, _⟩ := hok' b _ z2
              rw [e] at e1; cases e1
              exact e2
        have grown : ∀ p ∈ cs, ∃ more : Array Value, s'.heap.get? p.2 = some { cls := .none, data := .fields more } := fun p hp => by
          obtain ⟨more, z⟩ := un.tbls p.2 #[] (hH.tabs p hp)
          exact ⟨_, hok' p.2 _ z⟩
        refine ⟨rfl, ⟨fun b o e => ?_, fun b o e => ?_⟩, os, bare⟩
        · by_cases hb : b ∈ cs.map (·.2)
          · obtain ⟨p, hp, ep⟩ := List.mem_map.mp hb
            obtain ⟨more, hm⟩ := grown p hp
            rw [← ep] at e ⊢
            rw [hT p hp] at e
            cases e
            exact .inr (.inl ⟨((C p hp).tab (hT p hp)).isCodeTable, rfl, #[], more, rfl, by rw [Array.empty_append]; exact hm⟩)
          · exact .inl (key b o hb e)
        · by_cases hb : b ∈ cs.map (·.2)
          · obtain ⟨p, hp, ep⟩ := List.mem_map.mp hb
            obtain ⟨more, hm⟩ := grown p hp
            rw [← ep]
            exact ⟨_, hm⟩
          · exact ⟨o, key b o hb e⟩
  have okT : ∀ b, b ∈ cs.map (·.2) → ObjOk P w (fun _ => none) s₁.heap b (.tbl #[]) := fun b hb => isT b hb
  cases hk : K.lookup a with
  | some o =>
    have e := KX a o hk
    rw [ha] at e
    cases e
    refine core (fun b => if b = sysModules then some (smT osm) else if b ∈ cs.map (·.2) then some (.tbl #[]) else none) ⟨fun p hp => ?_, if_pos rfl, .inr ⟨_, vs.toArray, _, hk, rfl, rfl, rfl, by rw [List.size_toArray, lenV]; exact hl, by simpa using rv⟩⟩ (fun b => ?_) (fun b u z => ?_) (fun b z => ?_) fun z => absurd ((if_neg aS).trans (if_neg aT)) z
    · exact (if_neg (show ¬ p.2 = sysModules from fun z => tS (by rw [← z]; exact memT p hp))).trans (if_pos (memT p hp))
    · by_cases h0 : b = sysModules
      · exact .inr (.inr ⟨_, _, (if_pos h0).trans rfl⟩)
      · by_cases hb : b ∈ cs.map (·.2)
        · exact .inr (.inl hb)
        · exact .inl ((if_neg h0).trans (if_neg hb))
    · by_cases h0 : b = sysModules
      · have z' := (if_pos h0).symm.trans z
        cases z'
        rw [h0]
        exact ⟨hsm, hsm, trivial, ⟨_, hsm⟩, fun _ _ _ _ => trivial⟩
      · have z1 := (if_neg h0).symm.trans z
        by_cases hb : b ∈ cs.map (·.2)
        · have z' := (if_pos hb).symm.trans z1
          cases z'
          exact isT b hb
        · have z' := (if_neg hb).symm.trans z1
          cases z'
    · by_cases h0 : b = sysModules
      · exact .inr (.inr h0)
      · by_cases hb : b ∈ cs.map (·.2)
        · exact .inr (.inl hb)
        · exact absurd ((if_neg h0).trans (if_neg hb)) z
  | none =>
    refine core (fun b => if b = a then some (.frz { cls := .type "list", data := .seq vs.toArray } (.lst (ns.map V.int))) else if b = sysModules then some (smT osm) else if b ∈ cs.map (·.2) then some (.tbl #[]) else none)
      ⟨fun p hp => ?_, (if_neg aS.symm).trans (if_pos rfl), .inl (.inr ⟨{ cls := .type "list", data := .seq vs.toArray }, if_pos rfl⟩)⟩ (fun b => ?_) (fun b u z => ?_) (fun b z => ?_) fun _ => hk
    · exact (if_neg (show ¬ p.2 = a from fun z => aT (by rw [← z]; exact memT p hp))).trans ((if_neg (show ¬ p.2 = sysModules from fun z => tS (by rw [← z]; exact memT p hp))).trans (if_pos (memT p hp)))
    · by_cases hb : b = a
      · exact .inr (.inr ⟨_, _, if_pos hb⟩)
      · by_cases h0 : b = sysModules
        · exact .inr (.inr ⟨_, _, (if_neg hb).trans ((if_pos h0).trans rfl)⟩)
        · by_cases hb2 : b ∈ cs.map (·.2)
          · exact .inr (.inl hb2)
          · exact .inl ((if_neg hb).trans ((if_neg h0).trans (if_neg hb2)))
    · by_cases hb : b = a
      · have z' := (if_pos hb).symm.trans z
        cases z'
        rw [hb]
        exact ⟨ha, by rw [List.length_map]; exact hl, vs, _, rv, ha⟩
      · have z0 := (if_neg hb).symm.trans z
        by_cases h0 : b = sysModules
        · have z' := (if_pos h0).symm.trans z0
          cases z'
          rw [h0]
          exact ⟨hsm, hsm, trivial, ⟨_, hsm⟩, fun _ _ _ _ => trivial⟩
        · have z1 := (if_neg h0).symm.trans z0
          by_cases hb2 : b ∈ cs.map (·.2)
          · have z' := (if_pos hb2).symm.trans z1
            cases z'
            exact isT b hb2
          · have z' := (if_neg hb2).symm.trans z1
            cases z'
    · by_cases hb : b = a
      · exact .inl hb
      · by_cases h0 : b = sysModules
        · exact .inr (.inr h0)
        · by_cases hb2 : b ∈ cs.map (·.2)
          · exact .inr (.inl hb2)
          · exact absurd ((if_neg hb).trans ((if_neg h0).trans (if_neg hb2))) z
/-- what is known of the law's promise at the head's heap h -/
def LawAtG (l : PySem.W.OpenLaw) (w : World) (K : PySem.W.Frag) (k n : Nat) (x : Str) (mg : Str → Option Value) (fa : Addr) (h : Heap) : Prop :=
  ∃ (fd : FuncData) (cs : List (Addr × Addr)) (sp : Obj → Sp), (∀ p ∈ cs, h.get? p.2 = some { cls := .none, data := .fields #[] }) ∧ (∀ p ∈ cs, K.lookup p.2 = none) ∧ (∀ p ∈ cs, PySem.W.CodeHd h p.1 p.2) ∧ K.lookup sysModules = none ∧ (∀ (s : Shared) (u : Value), BindsTo s fd ⟨[u], []⟩ [(x, u)]) ∧
    (∀ (osm : Obj) (H : Hp) (a : Addr) (ns : List Int), ns.length ≤ n → (∀ z ∈ ns, Builtin.Int.intBits z ≤ 1048576) → Start K cs osm a ns H → sp osm [.ref a] H (fun v _ => v = .bl true) fun _ _ _ => False) ∧
    ∀ (osm : Obj) (base : Heap), K.In base → base.Ns mainGlobals mg → (∀ p ∈ cs, LamX.TabB base mg p.1 p.2) → FnG l.prog w K mg base k fa fd [x] (sp osm)
theorem walk_ofG {l : PySem.W.OpenLaw} {n k : Nat} {q : Program} {loose : List Str} {XP : (Str → Option Value) → Heap → Prop} {YP : World → Heap → Prop} {d : DefRec} {K : Params → PySem.W.Frag} {x : Str}
    (hn : l.most = some n) (hn2 : n ≤ sizeLine) (hdf : d.params.defaults = []) (hq : importsNone q = true) (hr : Room k callerA) (hY : ∀ (w : World) (h : Heap), YP w h → (K w.params).In h)
    (F : ∀ (w : World) (mg : Str → Option Value) (fa : Addr) (h : Heap), YP w h → (K w.params).In h → h.Ns mainGlobals mg → mg d.name = some (.ref fa) → LawAtG l w (K w.params) k n x mg fa h) :
    PySem.W.WalkO q loose XP YP l.row.toRowW d [] (fun f vs => PySem.call f vs) := by
  refine Att.attach_callB hn hdf fun w s₀ s₁ mg mb fa o pm cd doc a vs ns G Y ho hd hcd hmg hobj hints hlen hbits hg => ?_
  have KX := hY w _ Y
  obtain ⟨fd, cs, sp, hT, nT, C, nsm, hb, hsp, hF⟩ := F w mg fa _ Y KX G.T.g hmg
  obtain ⟨mm, ⟨osm, es, ep, hsm, hsd, _⟩, _⟩ := (G.T.seer hq).mods
  exact law_callG KX G.T.g G.T.b G.T.builtins G.T.nolimit hg hT nT C hsm ⟨es, ep, hsd⟩ nsm G.T.bmain hobj hints (Nat.le_trans hlen hn2) ⟨hr, rfl⟩ (hF osm) hb fun H hH => hsp osm H a ns hlen hbits hH
end TT

set_option maxRecDepth 100000
set_option maxHeartbeats 4000000
/-! KD: the defs do what the mirrors say. Printed by gen.py. -/
namespace TT
open PySem PySem.Spec PyProof.Rows L2
def top (i : Nat) : Stmt := PySem.Challenge.pw_toldtallies_k75_whole_winners_by_rules.main.body.getD i (.Pass ⟨0, 0, 0, 0⟩)
abbrev s_is_integer : Stmt := top 8
abbrev s_is_natural : Stmt := top 9
abbrev s_is_tuple_of : Stmt := top 10
abbrev s_are_naturals : Stmt := top 11
abbrev s_check_profile : Stmt := top 15
abbrev s_pairs_of : Stmt := top 16
abbrev s_firsts_of : Stmt := top 17
abbrev s_lasts_of : Stmt := top 18
abbrev s_check_rule : Stmt := top 21
abbrev s_marks_of : Stmt := top 22
abbrev s_unbeaten : Stmt := top 23
abbrev s_won_by : Stmt := top 24
abbrev s_winners : Stmt := top 25
abbrev s_law_well : Stmt := top 27
abbrev s_law_draw : Stmt := top 28
abbrev s_law_of : Stmt := top 29
abbrev s_law_odd : Stmt := top 30
abbrev s_law_profile : Stmt := top 31
abbrev s_law_sum : Stmt := top 32
abbrev s_law_won : Stmt := top 33
abbrev s_law_led : Stmt := top 34
abbrev s_law_word : Stmt := top 35
abbrev s_law_heard : Stmt := top 36
abbrev s_law_all_end : Stmt := top 37
abbrev s_law_is_profile : Stmt := top 38
abbrev s_law_refused_right : Stmt := top 39
abbrev s_law_right : Stmt := top 40
abbrev s_law : Stmt := top 41
def lamExpr : Nat → Expr
  | 0 => match (defBody s_law_refused_right).getD 4 (.Pass ⟨0, 0, 0, 0⟩) with
    | .Assign _ (.List (l :: _) _) _ => l
    | _ => .Constant .none 0 ⟨0, 0, 0, 0⟩
  | _ => match (defBody s_law_refused_right).getD 5 (.Pass ⟨0, 0, 0, 0⟩) with
    | .Expr (.Call _ (l :: _) _ _) _ => l
    | _ => .Constant .none 0 ⟨0, 0, 0, 0⟩
def lamOf (j : Nat) : LamD := match lamExpr j with
  | .Lambda params body scope _ => ⟨"_law_refused_right.<locals>.<lambda>", params, body, scope, ["profile", "rule"]⟩
  | _ => ⟨"", ⟨[], [], none, [], [], none, []⟩, .Constant .none 0 ⟨0, 0, 0, 0⟩, ⟨.function, [], false, false, []⟩, []⟩
def lam0 : LamD := lamOf 0
def lam1 : LamD := lamOf 1
def lams : List LamD := [lam0, lam1]
/-- what the top has written -/
structure Txt (P : Program) (T : Tb) (mg : Str → Option Value) (base : Heap) (C0 C1 B0 B1 B2 cR pR : Addr) : Prop where
  n_ArithmeticError : mg "ArithmeticError" = none
  n_LookupError : mg "LookupError" = none
  n_ValueError : mg "ValueError" = none
  n_abs : mg "abs" = none
  n_all : mg "all" = none
  n_bool : mg "bool" = none
  n_divmod : mg "divmod" = none
  n_enumerate : mg "enumerate" = none
  n_int : mg "int" = none
  n_isinstance : mg "isinstance" = none
  n_len : mg "len" = none
  n_list : mg "list" = none
  n_max : mg "max" = none
  n_range : mg "range" = none
  n_repr : mg "repr" = none
  n_sorted : mg "sorted" = none
  n_str : mg "str" = none
  n_sum : mg "sum" = none
  n_tuple : mg "tuple" = none
  n_zip : mg "zip" = none
  con_ORDERS : Con T mg "ORDERS" c_ORDERS
  con_NAMES : Con T mg "NAMES" c_NAMES
  con_RULES : Con T mg "RULES" c_RULES
  con_MOST_VOTERS : Con T mg "MOST_VOTERS" c_MOST_VOTERS
  hasX : HasX T excs
  hasC : HasC T lams
  ek : ∀ (n : Nat) (c : Str) (C : Addr), excs[n]? = some c → T.cl c = some C → ExcK T.K C
  giv_InvalidProfile : TX.Giv P T.K mg "InvalidProfile" C0 "ValueError" "ValueError.__new__" "ValueError.__init__" [.type "ValueError", .type "Exception", .type "BaseException", .type "object"]
  cl_InvalidProfile : T.cl "InvalidProfile" = some C0
  giv_InvalidRule : TX.Giv P T.K mg "InvalidRule" C1 "ValueError" "ValueError.__new__" "ValueError.__init__" [.type "ValueError", .type "Exception", .type "BaseException", .type "object"]
  cl_InvalidRule : T.cl "InvalidRule" = some C1
  kt_ArithmeticError : ∀ (n : Nat) (b : Bool) (c : Str) (C : Addr), tb_ArithmeticError n = some b → excs[n]? = some c → T.cl c = some C → PySem.W.kitOne T.K (.ref C) (.type "ArithmeticError") = some b ∧ ExcK T.K C
  g_InvalidProfile : mg "InvalidProfile" = some (.ref C0)
  kt_InvalidProfile : ∀ (n : Nat) (b : Bool) (c : Str) (C : Addr), tb_InvalidProfile n = some b → excs[n]? = some c → T.cl c = some C → PySem.W.kitOne T.K (.ref C) (.ref C0) = some b ∧ ExcK T.K C
  g_InvalidRule : mg "InvalidRule" = some (.ref C1)
  kt_InvalidRule : ∀ (n : Nat) (b : Bool) (c : Str) (C : Addr), tb_InvalidRule n = some b → excs[n]? = some c → T.cl c = some C → PySem.W.kitOne T.K (.ref C) (.ref C1) = some b ∧ ExcK T.K C
  kt_LookupError : ∀ (n : Nat) (b : Bool) (c : Str) (C : Addr), tb_LookupError n = some b → excs[n]? = some c → T.cl c = some C → PySem.W.kitOne T.K (.ref C) (.type "LookupError") = some b ∧ ExcK T.K C
  g_NotPossible : mg "NotPossible" = some (.ref B2)
  kt_NotPossible : ∀ (n : Nat) (b : Bool) (c : Str) (C : Addr), tb_NotPossible n = some b → excs[n]? = some c → T.cl c = some C → PySem.W.kitOne T.K (.ref C) (.ref B2) = some b ∧ ExcK T.K C
  kt_ValueError : ∀ (n : Nat) (b : Bool) (c : Str) (C : Addr), tb_ValueError n = some b → excs[n]? = some c → T.cl c = some C → PySem.W.kitOne T.K (.ref C) (.type "ValueError") = some b ∧ ExcK T.K C
  g_WrongName : mg "WrongName" = some (.ref B1)
  kt_WrongName : ∀ (n : Nat) (b : Bool) (c : Str) (C : Addr), tb_WrongName n = some b → excs[n]? = some c → T.cl c = some C → PySem.W.kitOne T.K (.ref C) (.ref B1) = some b ∧ ExcK T.K C
  g_WrongValue : mg "WrongValue" = some (.ref B0)
  kt_WrongValue : ∀ (n : Nat) (b : Bool) (c : Str) (C : Addr), tb_WrongValue n = some b → excs[n]? = some c → T.cl c = some C → PySem.W.kitOne T.K (.ref C) (.ref B0) = some b ∧ ExcK T.K C
  exm : ∀ (c : Str) (m : Nat) (C : Addr), exNo c = some m → T.cl c = some C → PySem.W.exmAny T.K (.ref C) [.ref B0, .ref B1, .ref B2] = some true
  tabB : LamX.TabB base mg cR pR
  tabM : (pR, ("_law_refused_right.<locals>.<lambda>" : Str)) ∈ T.tabs
  tabU : ∀ p ∈ T.tabs, p.1 = pR → p.2 = ("_law_refused_right.<locals>.<lambda>" : Str)
theorem lam_is {j : Nat} {L : LamD} {is : List Nat} (h1 : lams[j]? = some L) (h2 : caps_refused[j]? = some is) : (L = lam0 ∨ L = lam1) ∧ is = [1, 3] := by
  match j, h1, h2 with
  | 0, h1, h2 => cases h1; cases h2; exact ⟨.inl rfl, rfl⟩
  | 1, h1, h2 => cases h1; cases h2; exact ⟨.inr rfl, rfl⟩
theorem lam_at {j : Nat} {L : LamD} (h1 : lams[j]? = some L) : L = lam0 ∨ L = lam1 := by
  match j, h1 with
  | 0, h1 => cases h1; exact .inl rfl
  | 1, h1 => cases h1; exact .inr rfl
theorem lamN0 : lam0.scope.names = ([("profile", NameKind.free), ("rule", NameKind.free), ("winners", NameKind.globalImplicit)] : List (Str × NameKind)) := by decide +kernel
theorem lamN1 : lam1.scope.names = ([("profile", NameKind.free), ("rule", NameKind.free), ("winners", NameKind.globalImplicit)] : List (Str × NameKind)) := by decide +kernel
theorem lamQ0 : lam0.qual = ("_law_refused_right" : Str) ++ ".<locals>." ++ "<lambda>" := by decide +kernel
theorem lamQ1 : lam1.qual = ("_law_refused_right" : Str) ++ ".<locals>." ++ "<lambda>" := by decide +kernel
theorem lamT0 : LamT lam0 := ⟨by decide +kernel, by decide +kernel, by decide +kernel, by decide +kernel, by decide +kernel, fun _ _ _ _ => rfl⟩
theorem lamT1 : LamT lam1 := ⟨by decide +kernel, by decide +kernel, by decide +kernel, by decide +kernel, by decide +kernel, fun _ _ _ _ => rfl⟩
theorem exNo_get : ∀ (c : Str) (m : Nat), exNo c = some m → excs[m]? = some c := by
  intro c m h
  unfold exNo at h
  by_cases h0 : c = "InvalidProfile"
  · rw [if_pos h0] at h; cases h; rw [h0]; rfl
  · rw [if_neg h0] at h
    by_cases h1 : c = "InvalidRule"
    · rw [if_pos h1] at h; cases h; rw [h1]; rfl
    · rw [if_neg h1] at h; cases h
section
variable {P : Program} {w : World} {T : Tb} {mg : Str → Option Value} {base : Heap} {C0 C1 B0 B1 B2 cR pR : Addr}
theorem sc_is_integer : FnScope ["value"] ["value"] (defScope s_is_integer) := ⟨rfl, rfl, rfl, by decide +kernel, rfl, by decide +kernel, by decide +kernel⟩
theorem t_is_integer (tx : Txt P T mg base C0 C1 B0 B1 B2 cR pR)   {f : Addr} {fd : FuncData} (Fn : Fun T.K "is_integer" "is_integer" s_is_integer f fd) (hm : mg "is_integer" = some (.ref f)) : Def P w T mg base 1 "is_integer" ["value"] [] m_is_integer := by
  have sc := sc_is_integer
  refine ⟨f, fd, fnD Fn sc rfl fun cdv A outer s H E hr => ?_, hm, Fn.kp, Fn.binds fun _ _ _ _ _ _ us hl => match us, hl with | [_], _ => rfl⟩
  show PSs _ _ (tS T _ [] b_is_integer)
  exact (pss_oneM (ps_retM (pe_andM rfl (pe_isiM rfl (pe_slotM (pv 0)) (by decide +kernel) rfl tx.n_int rfl tx.n_isinstance) (pe_oneM (pe_notM rfl (pe_isiM rfl (pe_slotM (pv 0)) (by decide +kernel) rfl tx.n_bool rfl tx.n_isinstance))))))
theorem sc_is_natural : FnScope ["value"] ["value"] (defScope s_is_natural) := ⟨rfl, rfl, rfl, by decide +kernel, rfl, by decide +kernel, by decide +kernel⟩
theorem t_is_natural (tx : Txt P T mg base C0 C1 B0 B1 B2 cR pR) (d_is_integer : Def P w T mg base 1 "is_integer" ["value"] [] m_is_integer)  {f : Addr} {fd : FuncData} (Fn : Fun T.K "is_natural" "is_natural" s_is_natural f fd) (hm : mg "is_natural" = some (.ref f)) : Def P w T mg base 2 "is_natural" ["value"] [] m_is_natural := by
  have sc := sc_is_natural
  refine ⟨f, fd, fnD Fn sc rfl fun cdv A outer s H E hr => ?_, hm, Fn.kp, Fn.binds fun _ _ _ _ _ _ us hl => match us, hl with | [_], _ => rfl⟩
  show PSs _ _ (tS T _ [] b_is_natural)
  exact (pss_oneM (ps_retM (pe_andM rfl (pe_callX (ps := ["value"]) d_is_integer rfl hr (by decide) tkD (pa_consM (pe_valM (pe_nameM (pv 0))) pa_nilM)) (pe_oneM (pe_compM c_ge (pe_slotM (pv 0)) (pe_valM pe_intM))))))
theorem sc_is_tuple_of : FnScope ["value", "many"] ["value", "many"] (defScope s_is_tuple_of) := ⟨rfl, rfl, rfl, by decide +kernel, rfl, by decide +kernel, by decide +kernel⟩
theorem t_is_tuple_of (tx : Txt P T mg base C0 C1 B0 B1 B2 cR pR)   {f : Addr} {fd : FuncData} (Fn : Fun T.K "is_tuple_of" "is_tuple_of" s_is_tuple_of f fd) (hm : mg "is_tuple_of" = some (.ref f)) : Def P w T mg base 1 "is_tuple_of" ["value", "many"] [] m_is_tuple_of := by
  have sc := sc_is_tuple_of
  refine ⟨f, fd, fnD Fn sc rfl fun cdv A outer s H E hr => ?_, hm, Fn.kp, Fn.binds fun _ _ _ _ _ _ us hl => match us, hl with | [_, _], _ => rfl⟩
  show PSs _ _ (tS T _ [] b_is_tuple_of)
  exact (pss_oneM (ps_retM (pe_andM rfl (pe_isiM rfl (pe_slotM (pv 0)) (by decide +kernel) rfl tx.n_tuple rfl tx.n_isinstance) (pe_oneM (pe_compM (c_eq rfl hr.u64) (pe_valM (pe_xlenM rfl rfl tx.n_len (pa_consM (pe_slotM (pv 0)) pa_nilM))) (pe_slotM (pv 1)))))))
theorem sc_are_naturals : FnScope ["value", "many", "own"] ["value", "many"] (defScope s_are_naturals) := ⟨rfl, rfl, rfl, by decide +kernel, rfl, by decide +kernel, by decide +kernel⟩
theorem t_are_naturals (tx : Txt P T mg base C0 C1 B0 B1 B2 cR pR) (d_is_natural : Def P w T mg base 2 "is_natural" ["value"] [] m_is_natural) (d_is_tuple_of : Def P w T mg base 1 "is_tuple_of" ["value", "many"] [] m_is_tuple_of)  {f : Addr} {fd : FuncData} (Fn : Fun T.K "are_naturals" "are_naturals" s_are_naturals f fd) (hm : mg "are_naturals" = some (.ref f)) : Def P w T mg base 3 "are_naturals" ["value", "many"] [] m_are_naturals := by
  have sc := sc_are_naturals
  refine ⟨f, fd, fnD Fn sc rfl fun cdv A outer s H E hr => ?_, hm, Fn.kp, Fn.binds fun _ _ _ _ _ _ us hl => match us, hl with | [_, _], _ => rfl⟩
  show PSs _ _ (tS T _ [] b_are_naturals)
  exact (pss_oneM (ps_retM (pe_andM rfl (pe_callX (ps := ["value", "many"]) d_is_tuple_of rfl hr (by decide) tkD (pa_consM (pe_valM (pe_nameM (pv 0))) (pa_consM (pe_valM (pe_nameM (pv 1))) pa_nilM))) (pe_oneM (pe_xallM rfl rfl tx.n_all (pa_consM (pe_valM (pe_lcM (W0 := WF) (own := [("own", 2)]) rfl sc.nd (pi_seqM rfl (pe_nameM (pv 0))) (blkOk_by (N := ["value", "many", "own"]) (sc := defScope s_are_naturals) (own := [("own", 2)]) (by decide +kernel)) (fun _ _ _ _ _ => (pg_nmW sc.nd rfl (Or.inl rfl))) (fun _ _ _ _ _ => pts_nilM) (fun _ _ _ _ _ => (pe_callX (ps := ["value"]) d_is_natural rfl hr (by decide) tkF (pa_consM (pe_valM (pe_nameM (pv 2))) pa_nilM))))) pa_nilM))))))
theorem sc_check_profile : FnScope ["value"] ["value"] (defScope s_check_profile) := ⟨rfl, rfl, rfl, by decide +kernel, rfl, by decide +kernel, by decide +kernel⟩
theorem t_check_profile (tx : Txt P T mg base C0 C1 B0 B1 B2 cR pR) (d_are_naturals : Def P w T mg base 3 "are_naturals" ["value", "many"] [] m_are_naturals)  {f : Addr} {fd : FuncData} (Fn : Fun T.K "check_profile" "check_profile" s_check_profile f fd) (hm : mg "check_profile" = some (.ref f)) : Def P w T mg base 4 "check_profile" ["value"] [] m_check_profile := by
  have sc := sc_check_profile
  refine ⟨f, fd, fnD Fn sc rfl fun cdv A outer s H E hr => ?_, hm, Fn.kp, Fn.binds fun _ _ _ _ _ _ us hl => match us, hl with | [_], _ => rfl⟩
  show PSs _ _ (tS T _ [] b_check_profile)
  exact (pss_oneM (ps_ifM (PW.pt (pw_orM (pt_notM (pt_trM rfl (pe_valM (pe_callX (ps := ["value", "many"]) d_are_naturals rfl hr (by decide) tkD (pa_consM (pe_valM (pe_nameM (pv 0))) (pa_consM (pe_valM (pe_shM (pe_xlenM rfl rfl tx.n_len (pa_consM (pe_valM (pe_constM tx.con_ORDERS)) pa_nilM)))) pa_nilM)))))) (pw_oneOM (pt_notM (pt_chainM c_le c_le (pe_valM pe_intM) (pe_valM (pe_xsumM rfl rfl tx.n_sum (pa_consM (pe_slotM (pv 0)) pa_nilM))) (pe_valM (pe_constM tx.con_MOST_VOTERS))))))) (pss_oneM (ps_raiseM rfl TX.bx_ValueError tx.giv_InvalidProfile hr tkD tx.cl_InvalidProfile (pe_nameM (pv 0)))) pss_nilM))
theorem sc_pairs_of : FnScope ["profile", "abc", "acb", "bac", "bca", "cab", "cba"] ["profile"] (defScope s_pairs_of) := ⟨rfl, rfl, rfl, by decide +kernel, rfl, by decide +kernel, by decide +kernel⟩
theorem t_pairs_of (tx : Txt P T mg base C0 C1 B0 B1 B2 cR pR)   {f : Addr} {fd : FuncData} (Fn : Fun T.K "pairs_of" "pairs_of" s_pairs_of f fd) (hm : mg "pairs_of" = some (.ref f)) : Def P w T mg base 1 "pairs_of" ["profile"] [] m_pairs_of := by
  have sc := sc_pairs_of
  refine ⟨f, fd, fnD Fn sc rfl fun cdv A outer s H E hr => ?_, hm, Fn.kp, Fn.binds fun _ _ _ _ _ _ us hl => match us, hl with | [_], _ => rfl⟩
  show PSs _ _ (tS T _ [] b_pairs_of)
  exact (pss_consM (ps_asgB (pe_nameM (pv 0)) (pg_tupM rfl rfl (pgs_consM (pg_nmM sc.nd rfl (Or.inl rfl)) (pgs_consM (pg_nmM sc.nd rfl (Or.inl rfl)) (pgs_consM (pg_nmM sc.nd rfl (Or.inl rfl)) (pgs_consM (pg_nmM sc.nd rfl (Or.inl rfl)) (pgs_consM (pg_nmM sc.nd rfl (Or.inl rfl)) (pgs_consM (pg_nmM sc.nd rfl (Or.inl rfl)) pgs_nilM)))))) (nbS (nbS (nbS (nbS (nbS (nbS nb0))))))))
  (pss_oneM (ps_retM (pe_tupM (pa_consM (pe_valM (pe_shM (pe_addM rfl (pe_valM (pe_addM rfl (pe_slotM (pv 1)) (pe_slotM (pv 2)))) (pe_slotM (pv 5))))) (pa_consM (pe_valM (pe_shM (pe_addM rfl (pe_valM (pe_addM rfl (pe_slotM (pv 1)) (pe_slotM (pv 3)))) (pe_slotM (pv 4))))) (pa_consM (pe_valM (pe_shM (pe_addM rfl (pe_valM (pe_addM rfl (pe_slotM (pv 4)) (pe_slotM (pv 5)))) (pe_slotM (pv 6))))) pa_nilM)))))))
theorem sc_firsts_of : FnScope ["profile", "abc", "acb", "bac", "bca", "cab", "cba"] ["profile"] (defScope s_firsts_of) := ⟨rfl, rfl, rfl, by decide +kernel, rfl, by decide +kernel, by decide +kernel⟩
theorem t_firsts_of (tx : Txt P T mg base C0 C1 B0 B1 B2 cR pR)   {f : Addr} {fd : FuncData} (Fn : Fun T.K "firsts_of" "firsts_of" s_firsts_of f fd) (hm : mg "firsts_of" = some (.ref f)) : Def P w T mg base 1 "firsts_of" ["profile"] [] m_firsts_of := by
  have sc := sc_firsts_of
  refine ⟨f, fd, fnD Fn sc rfl fun cdv A outer s H E hr => ?_, hm, Fn.kp, Fn.binds fun _ _ _ _ _ _ us hl => match us, hl with | [_], _ => rfl⟩
  show PSs _ _ (tS T _ [] b_firsts_of)
  exact (pss_consM (ps_asgB (pe_nameM (pv 0)) (pg_tupM rfl rfl (pgs_consM (pg_nmM sc.nd rfl (Or.inl rfl)) (pgs_consM (pg_nmM sc.nd rfl (Or.inl rfl)) (pgs_consM (pg_nmM sc.nd rfl (Or.inl rfl)) (pgs_consM (pg_nmM sc.nd rfl (Or.inl rfl)) (pgs_consM (pg_nmM sc.nd rfl (Or.inl rfl)) (pgs_consM (pg_nmM sc.nd rfl (Or.inl rfl)) pgs_nilM)))))) (nbS (nbS (nbS (nbS (nbS (nbS nb0))))))))
  (pss_oneM (ps_retM (pe_tupM (pa_consM (pe_valM (pe_shM (pe_addM rfl (pe_slotM (pv 1)) (pe_slotM (pv 2))))) (pa_consM (pe_valM (pe_shM (pe_addM rfl (pe_slotM (pv 3)) (pe_slotM (pv 4))))) (pa_consM (pe_valM (pe_shM (pe_addM rfl (pe_slotM (pv 5)) (pe_slotM (pv 6))))) pa_nilM)))))))
theorem sc_lasts_of : FnScope ["profile", "abc", "acb", "bac", "bca", "cab", "cba"] ["profile"] (defScope s_lasts_of) := ⟨rfl, rfl, rfl, by decide +kernel, rfl, by decide +kernel, by decide +kernel⟩
theorem t_lasts_of (tx : Txt P T mg base C0 C1 B0 B1 B2 cR pR)   {f : Addr} {fd : FuncData} (Fn : Fun T.K "lasts_of" "lasts_of" s_lasts_of f fd) (hm : mg "lasts_of" = some (.ref f)) : Def P w T mg base 1 "lasts_of" ["profile"] [] m_lasts_of := by
  have sc := sc_lasts_of
  refine ⟨f, fd, fnD Fn sc rfl fun cdv A outer s H E hr => ?_, hm, Fn.kp, Fn.binds fun _ _ _ _ _ _ us hl => match us, hl with | [_], _ => rfl⟩
  show PSs _ _ (tS T _ [] b_lasts_of)
  exact (pss_consM (ps_asgB (pe_nameM (pv 0)) (pg_tupM rfl rfl (pgs_consM (pg_nmM sc.nd rfl (Or.inl rfl)) (pgs_consM (pg_nmM sc.nd rfl (Or.inl rfl)) (pgs_consM (pg_nmM sc.nd rfl (Or.inl rfl)) (pgs_consM (pg_nmM sc.nd rfl (Or.inl rfl)) (pgs_consM (pg_nmM sc.nd rfl (Or.inl rfl)) (pgs_consM (pg_nmM sc.nd rfl (Or.inl rfl)) pgs_nilM)))))) (nbS (nbS (nbS (nbS (nbS (nbS nb0))))))))
  (pss_oneM (ps_retM (pe_tupM (pa_consM (pe_valM (pe_shM (pe_addM rfl (pe_slotM (pv 4)) (pe_slotM (pv 6))))) (pa_consM (pe_valM (pe_shM (pe_addM rfl (pe_slotM (pv 2)) (pe_slotM (pv 5))))) (pa_consM (pe_valM (pe_shM (pe_addM rfl (pe_slotM (pv 1)) (pe_slotM (pv 3))))) pa_nilM)))))))
theorem sc_check_rule : FnScope ["value"] ["value"] (defScope s_check_rule) := ⟨rfl, rfl, rfl, by decide +kernel, rfl, by decide +kernel, by decide +kernel⟩
theorem t_check_rule (tx : Txt P T mg base C0 C1 B0 B1 B2 cR pR)   {f : Addr} {fd : FuncData} (Fn : Fun T.K "check_rule" "check_rule" s_check_rule f fd) (hm : mg "check_rule" = some (.ref f)) : Def P w T mg base 3 "check_rule" ["value"] [] m_check_rule := by
  have sc := sc_check_rule
  refine ⟨f, fd, fnD Fn sc rfl fun cdv A outer s H E hr => ?_, hm, Fn.kp, Fn.binds fun _ _ _ _ _ _ us hl => match us, hl with | [_], _ => rfl⟩
  show PSs _ _ (tS T _ [] b_check_rule)
  exact (pss_oneM (ps_ifM (PW.pt (pw_orM (pt_notM (pt_trM rfl (pe_valM (pe_isiM rfl (pe_slotM (pv 0)) (by decide +kernel) rfl tx.n_str rfl tx.n_isinstance)))) (pw_oneOM (pt_cmpM (c_notin rfl) (pe_slotM (pv 0)) (pe_valM (pe_constM tx.con_RULES)))))) (pss_oneM (ps_raiseM rfl TX.bx_ValueError tx.giv_InvalidRule hr tkD tx.cl_InvalidRule (pe_nameM (pv 0)))) pss_nilM))
theorem sc_marks_of : FnScope ["profile", "rule", "firsts", "lasts", "many", "most", "least"] ["profile", "rule"] (defScope s_marks_of) := ⟨rfl, rfl, rfl, by decide +kernel, rfl, by decide +kernel, by decide +kernel⟩
theorem t_marks_of (tx : Txt P T mg base C0 C1 B0 B1 B2 cR pR) (d_firsts_of : Def P w T mg base 1 "firsts_of" ["profile"] [] m_firsts_of) (d_lasts_of : Def P w T mg base 1 "lasts_of" ["profile"] [] m_lasts_of)  {f : Addr} {fd : FuncData} (Fn : Fun T.K "marks_of" "marks_of" s_marks_of f fd) (hm : mg "marks_of" = some (.ref f)) : Def P w T mg base 2 "marks_of" ["profile", "rule"] [] m_marks_of := by
  have sc := sc_marks_of
  refine ⟨f, fd, fnD Fn sc rfl fun cdv A outer s H E hr => ?_, hm, Fn.kp, Fn.binds fun _ _ _ _ _ _ us hl => match us, hl with | [_, _], _ => rfl⟩
  show PSs _ _ (tS T _ [] b_marks_of)
  exact (pss_consM (ps_par2M rfl sc.nd rfl rfl rfl rfl rfl (pe_callX (ps := ["profile"]) d_firsts_of rfl hr (by decide) tkD (pa_consM (pe_valM (pe_nameM (pv 0))) pa_nilM)) (pe_callX (ps := ["profile"]) d_lasts_of rfl hr (by decide) tkD (pa_consM (pe_valM (pe_nameM (pv 0))) pa_nilM)) rfl)
  (pss_consM (ps_ifM (pt_cmpM (c_eq rfl hr.u64) (pe_slotM (pv 1)) (pe_valM pe_strM)) (pss_oneM (ps_retSlotM (pv 2))) pss_nilM)
  (pss_consM (ps_ifM (pt_cmpM (c_eq rfl hr.u64) (pe_slotM (pv 1)) (pe_valM pe_strM)) (pss_oneM (ps_retM (pe_xtupleM rfl rfl tx.n_tuple (pa_consM (pe_valM (pe_lcM (W0 := WF) (own := [("many", 4)]) rfl sc.nd (pi_seqM rfl (pe_nameM (pv 3))) (blkOk_by (N := ["profile", "rule", "firsts", "lasts", "many", "most", "least"]) (sc := defScope s_marks_of) (own := [("many", 4)]) (by decide +kernel)) (fun _ _ _ _ _ => (pg_nmW sc.nd rfl (Or.inl rfl))) (fun _ _ _ _ _ => pts_nilM) (fun _ _ _ _ _ => (pe_negM (pe_slotM (pv 4)))))) pa_nilM)))) pss_nilM)
  (pss_oneM (ps_retM (pe_xtupleM rfl rfl tx.n_tuple (pa_consM (pe_valM (pe_lcM (W0 := WF) (own := [("most", 5), ("least", 6)]) rfl sc.nd (pi_zipM rfl rfl tx.n_zip (pa_consM (pe_valM (pe_nameM (pv 2))) (pa_consM (pe_valM (pe_nameM (pv 3))) pa_nilM))) (blkOk_by (N := ["profile", "rule", "firsts", "lasts", "many", "most", "least"]) (sc := defScope s_marks_of) (own := [("most", 5), ("least", 6)]) (by decide +kernel)) (fun _ _ _ _ _ => (pg_tupW rfl rfl (pgs_consW (pg_nmW sc.nd rfl (Or.inl rfl)) (pgs_consW (pg_nmW sc.nd rfl (Or.inl rfl)) pgs_nilW)) (nbS (nbS nb0)))) (fun _ _ _ _ _ => pts_nilM) (fun _ _ _ _ _ => (pe_subM (pe_slotM (pv 5)) (pe_slotM (pv 6)))))) pa_nilM)))))))
theorem sc_unbeaten : FnScope ["profile", "ahead", "people", "found", "place", "name"] ["profile"] (defScope s_unbeaten) := ⟨rfl, rfl, rfl, by decide +kernel, rfl, by decide +kernel, by decide +kernel⟩
theorem t_unbeaten (tx : Txt P T mg base C0 C1 B0 B1 B2 cR pR) (d_pairs_of : Def P w T mg base 1 "pairs_of" ["profile"] [] m_pairs_of)  {f : Addr} {fd : FuncData} (Fn : Fun T.K "unbeaten" "unbeaten" s_unbeaten f fd) (hm : mg "unbeaten" = some (.ref f)) : Def P w T mg base 2 "unbeaten" ["profile"] [] m_unbeaten := by
  have sc := sc_unbeaten
  refine ⟨f, fd, fnD Fn sc rfl fun cdv A outer s H E hr => ?_, hm, Fn.kp, Fn.binds fun _ _ _ _ _ _ us hl => match us, hl with | [_], _ => rfl⟩
  show PSs _ _ (tS T _ [] b_unbeaten)
  exact (pss_consM (ps_par2M rfl sc.nd rfl rfl rfl rfl rfl (pe_xsumM rfl rfl tx.n_sum (pa_consM (pe_slotM (pv 0)) pa_nilM)) (pe_lstM pa_nilM) rfl)
  (pss_consM (ps_asgM sc.nd rfl (Or.inl rfl) (pe_callX (ps := ["profile"]) d_pairs_of rfl hr (by decide) tkD (pa_consM (pe_valM (pe_nameM (pv 0))) pa_nilM)))
  (pss_consM (ps_forM ownD rfl (pi_enumM rfl rfl tx.n_enumerate (pa_consM (pe_valM (pe_constM tx.con_NAMES)) pa_nilM)) (pg_tupM rfl rfl (pgs_consM (pg_nmM sc.nd rfl (Or.inl rfl)) (pgs_consM (pg_nmM sc.nd rfl (Or.inl rfl)) pgs_nilM)) (nbS (nbS nb0))) (pss_oneM (ps_ifM (PW.pt (pw_andM (pt_cmpM c_ge (pe_valM (pe_mulM rfl (pe_valM pe_intM) (pe_valM (pe_indexM rfl (pe_slotM (pv 1)) (pe_slotM (pv 4)))))) (pe_slotM (pv 2))) (pw_oneM (pt_cmpM c_le (pe_valM (pe_mulM rfl (pe_valM pe_intM) (pe_valM (pe_indexM rfl (pe_slotM (pv 1)) (pe_valM (pe_subM (pe_slotM (pv 4)) (pe_valM pe_intM))))))) (pe_slotM (pv 2)))))) (pss_oneM (ps_exprM (pe_appM rfl (pv 3) (pe_nameM (pv 5))))) pss_nilM)))
  (pss_oneM (ps_retSlotM (pv 3))))))
theorem sc_won_by : FnScope ["profile", "rule", "marks", "name", "mark"] ["profile", "rule"] (defScope s_won_by) := ⟨rfl, rfl, rfl, by decide +kernel, rfl, by decide +kernel, by decide +kernel⟩
theorem t_won_by (tx : Txt P T mg base C0 C1 B0 B1 B2 cR pR) (d_marks_of : Def P w T mg base 2 "marks_of" ["profile", "rule"] [] m_marks_of) (d_unbeaten : Def P w T mg base 2 "unbeaten" ["profile"] [] m_unbeaten)  {f : Addr} {fd : FuncData} (Fn : Fun T.K "won_by" "won_by" s_won_by f fd) (hm : mg "won_by" = some (.ref f)) : Def P w T mg base 3 "won_by" ["profile", "rule"] [] m_won_by := by
  have sc := sc_won_by
  refine ⟨f, fd, fnD Fn sc rfl fun cdv A outer s H E hr => ?_, hm, Fn.kp, Fn.binds fun _ _ _ _ _ _ us hl => match us, hl with | [_, _], _ => rfl⟩
  show PSs _ _ (tS T _ [] b_won_by)
  exact (pss_consM (ps_ifM (pt_cmpM (c_eq rfl hr.u64) (pe_slotM (pv 1)) (pe_valM pe_strM)) (pss_oneM (ps_retM (pe_callX (ps := ["profile"]) d_unbeaten rfl hr (by decide) tkD (pa_consM (pe_valM (pe_nameM (pv 0))) pa_nilM)))) pss_nilM)
  (pss_consM (ps_asgM sc.nd rfl (Or.inr rfl) (pe_callX (ps := ["profile", "rule"]) d_marks_of rfl hr (by decide) tkD (pa_consM (pe_valM (pe_nameM (pv 0))) (pa_consM (pe_valM (pe_nameM (pv 1))) pa_nilM))))
  (pss_oneM (ps_retM (pe_lcM (W0 := WF) (own := [("name", 3), ("mark", 4)]) rfl sc.nd (pi_zipM rfl rfl tx.n_zip (pa_consM (pe_valM (pe_constM tx.con_NAMES)) (pa_consM (pe_valM (pe_nameM (pv 2))) pa_nilM))) (blkOk_by (N := ["profile", "rule", "marks", "name", "mark"]) (sc := defScope s_won_by) (own := [("name", 3), ("mark", 4)]) (by decide +kernel)) (fun _ _ _ _ _ => (pg_tupW rfl rfl (pgs_consW (pg_nmW sc.nd rfl (Or.inl rfl)) (pgs_consW (pg_nmW sc.nd rfl (Or.inl rfl)) pgs_nilW)) (nbS (nbS nb0)))) (fun _ _ _ _ _ => (pts_oneM (pt_cmpM (c_eq rfl hr.u64) (pe_slotM (pv 4)) (pe_valM (pe_xmaxM rfl rfl tx.n_max (pa_consM (pe_slotM (pv 2)) pa_nilM)))))) (fun _ _ _ _ _ => (pe_nameM (pv 3))))))))
theorem sc_winners : FnScope ["profile", "rule"] ["profile", "rule"] (defScope s_winners) := ⟨rfl, rfl, rfl, by decide +kernel, rfl, by decide +kernel, by decide +kernel⟩
theorem t_winners (tx : Txt P T mg base C0 C1 B0 B1 B2 cR pR) (d_check_profile : Def P w T mg base 4 "check_profile" ["value"] [] m_check_profile) (d_check_rule : Def P w T mg base 3 "check_rule" ["value"] [] m_check_rule) (d_won_by : Def P w T mg base 3 "won_by" ["profile", "rule"] [] m_won_by)  {f : Addr} {fd : FuncData} (Fn : Fun T.K "winners" "winners" s_winners f fd) (hm : mg "winners" = some (.ref f)) : Def P w T mg base 5 "winners" ["profile", "rule"] [] m_winners := by
  have sc := sc_winners
  refine ⟨f, fd, fnD Fn sc rfl fun cdv A outer s H E hr => ?_, hm, Fn.kp, Fn.binds fun _ _ _ _ _ _ us hl => match us, hl with | [_, _], _ => rfl⟩
  show PSs _ _ (tS T _ [] b_winners)
  exact (pss_consM (ps_exprM (pe_callX (ps := ["value"]) d_check_profile rfl hr (by decide) tkD (pa_consM (pe_valM (pe_nameM (pv 0))) pa_nilM)))
  (pss_consM (ps_exprM (pe_callX (ps := ["value"]) d_check_rule rfl hr (by decide) tkD (pa_consM (pe_valM (pe_nameM (pv 1))) pa_nilM)))
  (pss_oneM (ps_retM (pe_joinM rfl (pe_valM pe_strM) (pa_consM (pe_valM (pe_shM (pe_callX (ps := ["profile", "rule"]) d_won_by rfl hr (by decide) tkD (pa_consM (pe_valM (pe_nameM (pv 0))) (pa_consM (pe_valM (pe_nameM (pv 1))) pa_nilM))))) pa_nilM))))))
theorem sc_law_well : FnScope ["script", "k", "own", "mixed", "each"] ["script", "k"] (defScope s_law_well) := ⟨rfl, rfl, rfl, by decide +kernel, rfl, by decide +kernel, by decide +kernel⟩
theorem t_law_well (tx : Txt P T mg base C0 C1 B0 B1 B2 cR pR)   {f : Addr} {fd : FuncData} (Fn : Fun T.K "_law_well" "_law_well" s_law_well f fd) (hm : mg "_law_well" = some (.ref f)) : Def P w T mg base 1 "_law_well" ["script", "k"] [] m_law_well := by
  have sc := sc_law_well
  refine ⟨f, fd, fnD Fn sc rfl fun cdv A outer s H E hr => ?_, hm, Fn.kp, Fn.binds fun _ _ _ _ _ _ us hl => match us, hl with | [_, _], _ => rfl⟩
  show PSs _ _ (tS T _ [] b_law_well)
  exact (pss_consM (ps_asgM sc.nd rfl (Or.inl rfl) (pe_ifM (pt_cmpM c_lt (pe_slotM (pv 1)) (pe_valM (pe_xlenM rfl rfl tx.n_len (pa_consM (pe_slotM (pv 0)) pa_nilM)))) (pe_xintM rfl rfl tx.n_int (pa_consM (pe_valM (pe_indexM rfl (pe_slotM (pv 0)) (pe_slotM (pv 1)))) pa_nilM)) (pe_addM rfl (pe_valM (pe_mulM rfl (pe_valM pe_intM) (pe_slotM (pv 1)))) (pe_valM pe_intM))))
  (pss_consM (ps_asgM sc.nd rfl (Or.inl rfl) (pe_addM rfl (pe_valM pe_intM) (pe_valM (pe_mulM rfl (pe_valM pe_intM) (pe_slotM (pv 1))))))
  (pss_consM (ps_forM ownD rfl (pi_seqM rfl (pe_addM rfl (pe_valM (pe_slM rfl (pe_slotM (pv 0)) po_noM (po_someM (pe_valM pe_intM)))) (pe_valM (pe_lstM (pa_consM (pe_valM (pe_nameM (pv 2))) pa_nilM))))) (pg_nmM sc.nd rfl (Or.inl rfl)) (pss_oneM (ps_asgM sc.nd rfl (Or.inl rfl) (pe_modM (pe_valM (pe_xintM rfl rfl tx.n_int (pa_consM (pe_valM (pe_addM rfl (pe_valM (pe_mulM rfl (pe_slotM (pv 3)) (pe_valM pe_intM))) (pe_valM (pe_xintM rfl rfl tx.n_int (pa_consM (pe_slotM (pv 4)) pa_nilM))))) pa_nilM))) (pe_valM pe_intM)))))
  (pss_oneM (ps_retM (pe_lstM (pa_consM (pe_valM (pe_shM (pe_ifM (PW.pt (pw_orM (pt_cmpM c_lt (pe_slotM (pv 2)) (pe_valM pe_intM)) (pw_oneOM (pt_cmpM c_ge (pe_slotM (pv 2)) (pe_valM (pe_powM (pe_valM pe_intM) (pe_valM pe_intM))))))) (pe_xabsM rfl rfl tx.n_abs (pa_consM (pe_slotM (pv 2)) pa_nilM)) pe_intM))) (pa_consM (pe_valM (pe_nameM (pv 3))) (pa_consM (pe_valM pe_intM) pa_nilM)))))))))
theorem sc_law_draw : FnScope ["well", "top", "old", "figure"] ["well", "top"] (defScope s_law_draw) := ⟨rfl, rfl, rfl, by decide +kernel, rfl, by decide +kernel, by decide +kernel⟩
theorem t_law_draw (tx : Txt P T mg base C0 C1 B0 B1 B2 cR pR)   {f : Addr} {fd : FuncData} (Fn : Fun T.K "_law_draw" "_law_draw" s_law_draw f fd) (hm : mg "_law_draw" = some (.ref f)) : Def P w T mg base 1 "_law_draw" ["well", "top"] [0] m_law_draw := by
  have sc := sc_law_draw
  refine ⟨f, fd, fnD Fn sc rfl fun cdv A outer s H E hr => ?_, hm, Fn.kp, Fn.binds fun _ _ _ _ _ _ us hl => match us, hl with | [_, _], _ => rfl⟩
  show PSs _ _ (tS T _ [0] b_law_draw)
  exact (pss_consM (ps_asgB (pe_addM rfl (pe_valM (pe_indexM rfl (pe_slotM (pv 0)) (pe_valM pe_intM))) (pe_valM pe_intM)) (pg_subM (W := WF) (pv 0) (pe_valM pe_intM)))
  (pss_consM (ps_asgM sc.nd rfl (Or.inl rfl) (pe_xintM rfl rfl tx.n_int (pa_consM (pe_valM (pe_indexM rfl (pe_slotM (pv 0)) (pe_valM pe_intM))) pa_nilM)))
  (pss_consM (ps_asgB (pe_modM (pe_valM (pe_xintM rfl rfl tx.n_int (pa_consM (pe_valM (pe_addM rfl (pe_valM (pe_addM rfl (pe_valM (pe_mulM rfl (pe_slotM (pv 2)) (pe_valM (pe_addM rfl (pe_valM (pe_modM (pe_valM (pe_xintM rfl rfl tx.n_int (pa_consM (pe_slotM (pv 2)) pa_nilM))) (pe_valM pe_intM))) (pe_valM pe_intM))))) (pe_valM (pe_mulM rfl (pe_valM pe_intM) (pe_valM (pe_indexM rfl (pe_slotM (pv 0)) (pe_valM pe_intM))))))) (pe_valM pe_intM))) pa_nilM))) (pe_valM pe_intM)) (pg_subM (W := WF) (pv 0) (pe_valM pe_intM)))
  (pss_consM (ps_ifM (pt_cmpM c_gt (pe_valM (pe_indexM rfl (pe_slotM (pv 0)) (pe_valM pe_intM))) (pe_valM pe_intM)) (pss_consM (ps_asgB (pe_xdivmodM rfl rfl tx.n_divmod (pa_consM (pe_valM (pe_indexM rfl (pe_slotM (pv 0)) (pe_valM pe_intM))) (pa_consM (pe_slotM (pv 1)) pa_nilM))) (pg_tupM rfl rfl (pgs_consM (pg_subM (W := WF) (pv 0) (pe_valM pe_intM)) (pgs_consM (pg_nmM sc.nd rfl (Or.inl rfl)) pgs_nilM)) (nbS (nbS nb0))))
  (pss_oneM (ps_retSlotM (pv 3)))) pss_nilM)
  (pss_oneM (ps_retM (pe_modM (pe_valM (pe_xintM rfl rfl tx.n_int (pa_consM (pe_valM (pe_fdivM (pe_valM (pe_indexM rfl (pe_slotM (pv 0)) (pe_valM pe_intM))) (pe_valM pe_intM))) pa_nilM))) (pe_slotM (pv 1)))))))))
theorem sc_law_of : FnScope ["well", "menu"] ["well", "menu"] (defScope s_law_of) := ⟨rfl, rfl, rfl, by decide +kernel, rfl, by decide +kernel, by decide +kernel⟩
theorem t_law_of (tx : Txt P T mg base C0 C1 B0 B1 B2 cR pR) (d_law_draw : Def P w T mg base 1 "_law_draw" ["well", "top"] [0] m_law_draw)  {f : Addr} {fd : FuncData} (Fn : Fun T.K "_law_of" "_law_of" s_law_of f fd) (hm : mg "_law_of" = some (.ref f)) : Def P w T mg base 2 "_law_of" ["well", "menu"] [0] m_law_of := by
  have sc := sc_law_of
  refine ⟨f, fd, fnD Fn sc rfl fun cdv A outer s H E hr => ?_, hm, Fn.kp, Fn.binds fun _ _ _ _ _ _ us hl => match us, hl with | [_, _], _ => rfl⟩
  show PSs _ _ (tS T _ [0] b_law_of)
  exact (pss_oneM (ps_retM (pe_indexM rfl (pe_slotM (pv 1)) (pe_valM (pe_callX (ps := ["well", "top"]) d_law_draw rfl hr (by decide) tkD (pa_consM (pe_slotM (pv 0)) (pa_consM (pe_valM (pe_shM (pe_xlenM rfl rfl tx.n_len (pa_consM (pe_slotM (pv 1)) pa_nilM)))) pa_nilM)))))))
theorem sc_law_odd : FnScope ["well", "odd"] ["well"] (defScope s_law_odd) := ⟨rfl, rfl, rfl, by decide +kernel, rfl, by decide +kernel, by decide +kernel⟩
theorem t_law_odd (tx : Txt P T mg base C0 C1 B0 B1 B2 cR pR) (d_law_of : Def P w T mg base 2 "_law_of" ["well", "menu"] [0] m_law_of)  {f : Addr} {fd : FuncData} (Fn : Fun T.K "_law_odd" "_law_odd" s_law_odd f fd) (hm : mg "_law_odd" = some (.ref f)) : Def P w T mg base 3 "_law_odd" ["well"] [0] m_law_odd := by
  have sc := sc_law_odd
  refine ⟨f, fd, fnD Fn sc rfl fun cdv A outer s H E hr => ?_, hm, Fn.kp, Fn.binds fun _ _ _ _ _ _ us hl => match us, hl with | [_], _ => rfl⟩
  show PSs _ _ (tS T _ [0] b_law_odd)
  exact (pss_consM (ps_asgM sc.nd rfl (Or.inl rfl) (pe_lstM (pa_consM (pe_valM pe_nonM) (pa_consM (pe_valM pe_blM) (pa_consM (pe_valM pe_blM) (pa_consM (pe_valM pe_intM) (pa_consM (pe_valM pe_intM) (pa_consM (pe_valM pe_strM) (pa_consM (pe_valM pe_strM) (pa_consM (pe_valM pe_strM) (pa_consM (pe_valM pe_strM) (pa_consM (pe_valM pe_strM) (pa_consM (pe_valM pe_strM) (pa_consM (pe_valM (pe_shM (pe_tupM pa_nilM))) (pa_consM (pe_valM (pe_shM (pe_tupM (pa_consM (pe_valM pe_intM) pa_nilM)))) (pa_consM (pe_valM (pe_shM (pe_tupM (pa_consM (pe_valM pe_intM) (pa_consM (pe_valM pe_intM) (pa_consM (pe_valM pe_intM) (pa_consM (pe_valM pe_intM) (pa_consM (pe_valM pe_intM) pa_nilM)))))))) pa_nilM))))))))))))))))
  (pss_oneM (ps_retM (pe_callX (ps := ["well", "menu"]) d_law_of rfl hr (by decide) tkD (pa_consM (pe_slotM (pv 0)) (pa_consM (pe_valM (pe_shM (pe_addM rfl (pe_slotM (pv 1)) (pe_valM (pe_lstM (pa_consM (pe_valM (pe_shM (pe_lstM pa_nilM))) (pa_consM (pe_valM (pe_shM (pe_lstM (pa_consM (pe_valM pe_intM) (pa_consM (pe_valM pe_intM) (pa_consM (pe_valM pe_intM) (pa_consM (pe_valM pe_intM) (pa_consM (pe_valM pe_intM) (pa_consM (pe_valM pe_intM) pa_nilM))))))))) (pa_consM (pe_valM (pe_shM pe_dnewM)) (pa_consM (pe_valM (pe_shM (pe_tupM (pa_consM (pe_valM pe_strM) pa_nilM)))) (pa_consM (pe_valM (pe_shM (pe_lstM (pa_consM (pe_valM pe_strM) pa_nilM)))) (pa_consM (pe_valM (pe_shM (pe_mulM rfl (pe_valM (pe_tupM (pa_consM (pe_valM pe_intM) pa_nilM))) (pe_valM pe_intM)))) (pa_consM (pe_valM (pe_shM (pe_tupM (pa_consM (pe_valM pe_intM) (pa_consM (pe_valM pe_intM) (pa_consM (pe_valM pe_intM) (pa_consM (pe_valM pe_intM) (pa_consM (pe_valM pe_intM) (pa_consM (pe_valM pe_intM) pa_nilM))))))))) pa_nilM)))))))))))) pa_nilM))))))
theorem sc_law_profile : FnScope ["well", "found", "way", "many", "rest", "turn", "k", "own"] ["well"] (defScope s_law_profile) := ⟨rfl, rfl, rfl, by decide +kernel, rfl, by decide +kernel, by decide +kernel⟩
theorem t_law_profile (tx : Txt P T mg base C0 C1 B0 B1 B2 cR pR) (d_law_draw : Def P w T mg base 1 "_law_draw" ["well", "top"] [0] m_law_draw)  {f : Addr} {fd : FuncData} (Fn : Fun T.K "_law_profile" "_law_profile" s_law_profile f fd) (hm : mg "_law_profile" = some (.ref f)) : Def P w T mg base 2 "_law_profile" ["well"] [0] m_law_profile := by
  have sc := sc_law_profile
  refine ⟨f, fd, fnD Fn sc rfl fun cdv A outer s H E hr => ?_, hm, Fn.kp, Fn.binds fun _ _ _ _ _ _ us hl => match us, hl with | [_], _ => rfl⟩
  show PSs _ _ (tS T _ [0] b_law_profile)
  exact (pss_consM (ps_par2M rfl sc.nd rfl rfl rfl rfl rfl (pe_callX (ps := ["well", "top"]) d_law_draw rfl hr (by decide) tkD (pa_consM (pe_slotM (pv 0)) (pa_consM (pe_valM pe_intM) pa_nilM))) (pe_addM rfl (pe_valM pe_intM) (pe_valM (pe_callX (ps := ["well", "top"]) d_law_draw rfl hr (by decide) tkD (pa_consM (pe_slotM (pv 0)) (pa_consM (pe_valM pe_intM) pa_nilM))))) rfl)
  (pss_consM (ps_asgM sc.nd rfl (Or.inl rfl) (pe_mulM rfl (pe_valM (pe_lstM (pa_consM (pe_valM pe_intM) pa_nilM))) (pe_valM pe_intM)))
  (pss_consM (ps_ifM (pt_cmpM c_lt (pe_slotM (pv 2)) (pe_valM pe_intM)) (pss_consM (ps_asgM sc.nd rfl (Or.inl rfl) (pe_addM rfl (pe_valM pe_intM) (pe_valM (pe_callX (ps := ["well", "top"]) d_law_draw rfl hr (by decide) tkD (pa_consM (pe_slotM (pv 0)) (pa_consM (pe_valM pe_intM) pa_nilM))))))
  (pss_consM (ps_forM ownD rfl (pi_rng1M rfl tx.n_range (pe_valM (pe_callX (ps := ["well", "top"]) d_law_draw rfl hr (by decide) tkD (pa_consM (pe_slotM (pv 0)) (pa_consM (pe_valM pe_intM) pa_nilM))))) (pg_nmM sc.nd rfl (Or.inl rfl)) (pss_consM (ps_par2M rfl sc.nd rfl rfl rfl rfl rfl (pe_callX (ps := ["well", "top"]) d_law_draw rfl hr (by decide) tkD (pa_consM (pe_slotM (pv 0)) (pa_consM (pe_valM (pe_shM (pe_addM rfl (pe_slotM (pv 4)) (pe_valM pe_intM)))) pa_nilM))) (pe_callX (ps := ["well", "top"]) d_law_draw rfl hr (by decide) tkD (pa_consM (pe_slotM (pv 0)) (pa_consM (pe_valM pe_intM) pa_nilM))) rfl)
  (pss_oneM (ps_asgB (pe_tupM (pa_consM (pe_valM (pe_shM (pe_addM rfl (pe_valM (pe_indexM rfl (pe_slotM (pv 1)) (pe_slotM (pv 6)))) (pe_slotM (pv 7))))) (pa_consM (pe_valM (pe_shM (pe_subM (pe_slotM (pv 4)) (pe_slotM (pv 7))))) pa_nilM))) (pg_tupM rfl rfl (pgs_consM (pg_subM (W := WF) (pv 1) (pe_slotM (pv 6))) (pgs_consM (pg_nmM sc.nd rfl (Or.inl rfl)) pgs_nilM)) (nbS (nbS nb0)))))))
  (pss_consM (ps_asgM sc.nd rfl (Or.inl rfl) (pe_callX (ps := ["well", "top"]) d_law_draw rfl hr (by decide) tkD (pa_consM (pe_slotM (pv 0)) (pa_consM (pe_valM pe_intM) pa_nilM))))
  (pss_oneM (ps_asgB (pe_addM rfl (pe_valM (pe_indexM rfl (pe_slotM (pv 1)) (pe_slotM (pv 6)))) (pe_slotM (pv 4))) (pg_subM (W := WF) (pv 1) (pe_slotM (pv 6)))))))) (pss_oneM (ps_ifM (pt_cmpM (c_eq rfl hr.u64) (pe_slotM (pv 2)) (pe_valM pe_intM)) (pss_oneM (ps_setLcM (W0 := WF) (own := [("turn", 5)]) rfl sc.nd rfl rfl (pi_rng1M rfl tx.n_range (pe_valM pe_intM)) (blkOk_by (N := ["well", "found", "way", "many", "rest", "turn", "k", "own"]) (sc := defScope s_law_profile) (own := [("turn", 5)]) (by decide +kernel)) (fun _ _ _ _ _ => (pg_nmW sc.nd rfl (Or.inl rfl))) (fun _ _ _ _ _ => pts_nilM) (fun _ _ _ _ _ => (pe_callX (ps := ["well", "top"]) d_law_draw rfl hr (by decide) tkF (pa_consM (pe_slotM (pv 0)) (pa_consM (pe_valM pe_intM) pa_nilM)))))) (pss_oneM (ps_ifM (pt_cmpM (c_eq rfl hr.u64) (pe_slotM (pv 2)) (pe_valM pe_intM)) (pss_oneM (ps_asgM sc.nd rfl (Or.inl rfl) (pe_ifM (pt_cmpM (c_eq rfl hr.u64) (pe_valM (pe_callX (ps := ["well", "top"]) d_law_draw rfl hr (by decide) tkD (pa_consM (pe_slotM (pv 0)) (pa_consM (pe_valM pe_intM) pa_nilM)))) (pe_valM pe_intM)) (pe_lstM (pa_consM (pe_valM (pe_nameM (pv 3))) (pa_consM (pe_valM pe_intM) (pa_consM (pe_valM pe_intM) (pa_consM (pe_valM (pe_nameM (pv 3))) (pa_consM (pe_valM (pe_nameM (pv 3))) (pa_consM (pe_valM pe_intM) pa_nilM))))))) (pe_lstM (pa_consM (pe_valM pe_intM) (pa_consM (pe_valM (pe_nameM (pv 3))) (pa_consM (pe_valM (pe_nameM (pv 3))) (pa_consM (pe_valM pe_intM) (pa_consM (pe_valM pe_intM) (pa_consM (pe_valM (pe_nameM (pv 3))) pa_nilM)))))))))) (pss_oneM (ps_ifM (pt_cmpM (c_eq rfl hr.u64) (pe_slotM (pv 2)) (pe_valM pe_intM)) (pss_consM (ps_asgM sc.nd rfl (Or.inl rfl) (pe_callX (ps := ["well", "top"]) d_law_draw rfl hr (by decide) tkD (pa_consM (pe_slotM (pv 0)) (pa_consM (pe_valM pe_intM) pa_nilM))))
  (pss_oneM (ps_asgB (pe_tupM (pa_consM (pe_valM (pe_nameM (pv 3))) (pa_consM (pe_valM (pe_nameM (pv 3))) pa_nilM))) (pg_tupM rfl rfl (pgs_consM (pg_subM (W := WF) (pv 1) (pe_slotM (pv 6))) (pgs_consM (pg_subM (W := WF) (pv 1) (pe_valM (pe_indexM rfl (pe_valM (pe_lstM (pa_consM (pe_valM pe_intM) (pa_consM (pe_valM pe_intM) (pa_consM (pe_valM pe_intM) (pa_consM (pe_valM pe_intM) (pa_consM (pe_valM pe_intM) (pa_consM (pe_valM pe_intM) pa_nilM)))))))) (pe_slotM (pv 6))))) pgs_nilM)) (nbS (nbS nb0)))))) (pss_oneM (ps_asgM sc.nd rfl (Or.inl rfl) (pe_mulM rfl (pe_valM (pe_lstM (pa_consM (pe_valM (pe_nameM (pv 3))) pa_nilM))) (pe_valM pe_intM)))))))))))
  (pss_consM (ps_ifM (PW.pt (pw_orM (pt_cmpM (c_eq rfl hr.u64) (pe_valM (pe_xsumM rfl rfl tx.n_sum (pa_consM (pe_slotM (pv 1)) pa_nilM))) (pe_valM pe_intM)) (pw_oneOM (PW.pt (pw_andM (pt_cmpM c_lt (pe_valM (pe_xsumM rfl rfl tx.n_sum (pa_consM (pe_slotM (pv 1)) pa_nilM))) (pe_valM pe_intM)) (pw_oneM (pt_cmpM (c_eq rfl hr.u64) (pe_valM (pe_callX (ps := ["well", "top"]) d_law_draw rfl hr (by decide) tkD (pa_consM (pe_slotM (pv 0)) (pa_consM (pe_valM pe_intM) pa_nilM)))) (pe_valM pe_intM)))))))) (pss_consM (ps_asgM sc.nd rfl (Or.inl rfl) (pe_callX (ps := ["well", "top"]) d_law_draw rfl hr (by decide) tkD (pa_consM (pe_slotM (pv 0)) (pa_consM (pe_valM pe_intM) pa_nilM))))
  (pss_oneM (ps_asgB (pe_addM rfl (pe_valM (pe_indexM rfl (pe_slotM (pv 1)) (pe_slotM (pv 6)))) (pe_valM pe_intM)) (pg_subM (W := WF) (pv 1) (pe_slotM (pv 6)))))) pss_nilM)
  (pss_oneM (ps_retM (pe_xtupleM rfl rfl tx.n_tuple (pa_consM (pe_slotM (pv 1)) pa_nilM))))))))
theorem sc_law_sum : FnScope ["profile", "marks", "many", "mark"] ["profile", "marks"] (defScope s_law_sum) := ⟨rfl, rfl, rfl, by decide +kernel, rfl, by decide +kernel, by decide +kernel⟩
theorem t_law_sum (tx : Txt P T mg base C0 C1 B0 B1 B2 cR pR)   {f : Addr} {fd : FuncData} (Fn : Fun T.K "_law_sum" "_law_sum" s_law_sum f fd) (hm : mg "_law_sum" = some (.ref f)) : Def P w T mg base 1 "_law_sum" ["profile", "marks"] [] m_law_sum := by
  have sc := sc_law_sum
  refine ⟨f, fd, fnD Fn sc rfl fun cdv A outer s H E hr => ?_, hm, Fn.kp, Fn.binds fun _ _ _ _ _ _ us hl => match us, hl with | [_, _], _ => rfl⟩
  show PSs _ _ (tS T _ [] b_law_sum)
  exact (pss_oneM (ps_retM (pe_xsumM rfl rfl tx.n_sum (pa_consM (pe_valM (pe_lcM (W0 := WF) (own := [("many", 2), ("mark", 3)]) rfl sc.nd (pi_zipM rfl rfl tx.n_zip (pa_consM (pe_valM (pe_nameM (pv 0))) (pa_consM (pe_valM (pe_nameM (pv 1))) pa_nilM))) (blkOk_by (N := ["profile", "marks", "many", "mark"]) (sc := defScope s_law_sum) (own := [("many", 2), ("mark", 3)]) (by decide +kernel)) (fun _ _ _ _ _ => (pg_tupW rfl rfl (pgs_consW (pg_nmW sc.nd rfl (Or.inl rfl)) (pgs_consW (pg_nmW sc.nd rfl (Or.inl rfl)) pgs_nilW)) (nbS (nbS nb0)))) (fun _ _ _ _ _ => pts_nilM) (fun _ _ _ _ _ => (pe_mulM rfl (pe_slotM (pv 2)) (pe_slotM (pv 3)))))) pa_nilM))))
theorem sc_law_won : FnScope ["profile", "rule", "points", "marks", "orders", "names_now", "found", "name", "leads", "other", "ahead", "each", "order", "mark"] ["profile", "rule"] (defScope s_law_won) := ⟨rfl, rfl, rfl, by decide +kernel, rfl, by decide +kernel, by decide +kernel⟩
theorem t_law_won (tx : Txt P T mg base C0 C1 B0 B1 B2 cR pR) (d_law_sum : Def P w T mg base 1 "_law_sum" ["profile", "marks"] [] m_law_sum)  {f : Addr} {fd : FuncData} (Fn : Fun T.K "_law_won" "_law_won" s_law_won f fd) (hm : mg "_law_won" = some (.ref f)) : Def P w T mg base 2 "_law_won" ["profile", "rule"] [] m_law_won := by
  have sc := sc_law_won
  refine ⟨f, fd, fnD Fn sc rfl fun cdv A outer s H E hr => ?_, hm, Fn.kp, Fn.binds fun _ _ _ _ _ _ us hl => match us, hl with | [_, _], _ => rfl⟩
  show PSs _ _ (tS T _ [] b_law_won)
  exact (pss_consM (ps_asgB (pe_tupM (pa_consM (pe_valM (pe_shM (pe_lstM (pa_consM (pe_valM pe_strM) (pa_consM (pe_valM pe_strM) (pa_consM (pe_valM pe_strM) (pa_consM (pe_valM pe_strM) (pa_consM (pe_valM pe_strM) (pa_consM (pe_valM pe_strM) pa_nilM))))))))) (pa_consM (pe_valM (pe_shM (pe_lstM (pa_consM (pe_valM pe_strM) (pa_consM (pe_valM pe_strM) (pa_consM (pe_valM pe_strM) pa_nilM)))))) pa_nilM))) (pg_tupM rfl rfl (pgs_consM (pg_nmM sc.nd rfl (Or.inr rfl)) (pgs_consM (pg_nmM sc.nd rfl (Or.inl rfl)) pgs_nilM)) (nbS (nbS nb0))))
  (pss_consM (ps_ifM (pt_cmpM (c_eq rfl hr.u64) (pe_slotM (pv 1)) (pe_valM pe_strM)) (pss_consM (ps_asgM sc.nd rfl (Or.inl rfl) (pe_lstM pa_nilM))
  (pss_consM (ps_forM ownD rfl (pi_seqM rfl (pe_nameM (pv 5))) (pg_nmM sc.nd rfl (Or.inr rfl)) (pss_consM (ps_asgM sc.nd rfl (Or.inl rfl) (pe_lstM pa_nilM))
  (pss_consM (ps_forM ownD rfl (pi_seqM rfl (pe_lcM (W0 := WF) (own := [("each", 11)]) rfl sc.nd (pi_seqM rfl (pe_nameM (pv 5))) (blkOk_by (N := ["profile", "rule", "points", "marks", "orders", "names_now", "found", "name", "leads", "other", "ahead", "each", "order", "mark"]) (sc := defScope s_law_won) (own := [("each", 11)]) (by decide +kernel)) (fun _ _ _ _ _ => (pg_nmW sc.nd rfl (Or.inl rfl))) (fun _ _ _ _ _ => (pts_oneM (pt_cmpM (c_ne rfl hr.u64) (pe_slotM (pv 11)) (pe_slotM (pv 7))))) (fun _ _ _ _ _ => (pe_nameM (pv 11))))) (pg_nmM sc.nd rfl (Or.inr rfl)) (pss_consM (ps_asgM sc.nd rfl (Or.inl rfl) (pe_callX (ps := ["profile", "marks"]) d_law_sum rfl hr (by decide) tkD (pa_consM (pe_valM (pe_nameM (pv 0))) (pa_consM (pe_valM (pe_shM (pe_lcM (W0 := WF) (own := [("order", 12)]) rfl sc.nd (pi_seqM rfl (pe_nameM (pv 4))) (blkOk_by (N := ["profile", "rule", "points", "marks", "orders", "names_now", "found", "name", "leads", "other", "ahead", "each", "order", "mark"]) (sc := defScope s_law_won) (own := [("order", 12)]) (by decide +kernel)) (fun _ _ _ _ _ => (pg_nmW sc.nd rfl (Or.inl rfl))) (fun _ _ _ _ _ => pts_nilM) (fun _ _ _ _ _ => (pe_xintM rfl rfl tx.n_int (pa_consM (pe_valM (pe_compM c_lt (pe_valM (pe_indexSM rfl (pe_slotM (pv 12)) (pa_consM (pe_valM (pe_nameM (pv 7))) pa_nilM))) (pe_valM (pe_indexSM rfl (pe_slotM (pv 12)) (pa_consM (pe_valM (pe_nameM (pv 9))) pa_nilM))))) pa_nilM)))))) pa_nilM))))
  (pss_oneM (ps_exprM (pe_appM rfl (pv 8) (pe_compM c_ge (pe_valM (pe_mulM rfl (pe_valM pe_intM) (pe_slotM (pv 10)))) (pe_valM (pe_xsumM rfl rfl tx.n_sum (pa_consM (pe_slotM (pv 0)) pa_nilM)))))))))
  (pss_oneM (ps_ifM (pt_cmpM (c_eq rfl hr.u64) (pe_slotM (pv 8)) (pe_valM (pe_lstM (pa_consM (pe_valM pe_blM) (pa_consM (pe_valM pe_blM) pa_nilM))))) (pss_oneM (ps_exprM (pe_appM rfl (pv 6) (pe_nameM (pv 7))))) pss_nilM)))))
  (pss_oneM (ps_retM (pe_joinM rfl (pe_valM pe_strM) (pa_consM (pe_valM (pe_nameM (pv 6))) pa_nilM)))))) pss_nilM)
  (pss_consM (ps_asgM sc.nd rfl (Or.inr rfl) (pe_dgetM hr.u1 (pe_valM (pe_dispM (pps_cons pe_str (pe_shM (pe_lstM (pa_consM (pe_valM pe_intM) (pa_consM (pe_valM pe_intM) (pa_consM (pe_valM pe_intM) pa_nilM))))) (pps_cons pe_str (pe_shM (pe_lstM (pa_consM (pe_valM pe_intM) (pa_consM (pe_valM pe_intM) (pa_consM (pe_valM (pe_shM (pe_negM (pe_valM pe_intM)))) pa_nilM))))) (pps_cons pe_str (pe_shM (pe_lstM (pa_consM (pe_valM pe_intM) (pa_consM (pe_valM pe_intM) (pa_consM (pe_valM pe_intM) pa_nilM))))) pps_nil))) rfl)) (pe_slotM (pv 1))))
  (pss_consM (ps_asgM sc.nd rfl (Or.inr rfl) (pe_lcM (W0 := WF) (own := [("name", 7)]) rfl sc.nd (pi_seqM rfl (pe_nameM (pv 5))) (blkOk_by (N := ["profile", "rule", "points", "marks", "orders", "names_now", "found", "name", "leads", "other", "ahead", "each", "order", "mark"]) (sc := defScope s_law_won) (own := [("name", 7)]) (by decide +kernel)) (fun _ _ _ _ _ => (pg_nmW sc.nd rfl (Or.inr rfl))) (fun _ _ _ _ _ => pts_nilM) (fun _ _ _ _ _ => (pe_callX (ps := ["profile", "marks"]) d_law_sum rfl hr (by decide) tkF (pa_consM (pe_valM (pe_nameM (pv 0))) (pa_consM (pe_valM (pe_shM (pe_lcM (W0 := WF) (own := [("order", 12)]) rfl sc.nd (pi_seqM rfl (pe_nameM (pv 4))) (blkOk_by (N := ["profile", "rule", "points", "marks", "orders", "names_now", "found", "name", "leads", "other", "ahead", "each", "order", "mark"]) (sc := relS _ (defScope s_law_won)) (own := [("order", 12)]) (by decide +kernel)) (fun _ _ _ _ _ => (pg_nmW sc.nd rfl (Or.inl rfl))) (fun _ _ _ _ _ => pts_nilM) (fun _ _ _ _ _ => (pe_indexM rfl (pe_slotM (pv 2)) (pe_valM (pe_indexSM rfl (pe_slotM (pv 12)) (pa_consM (pe_valM (pe_nameM (pv 7))) pa_nilM)))))))) pa_nilM))))))
  (pss_oneM (ps_retM (pe_joinM rfl (pe_valM pe_strM) (pa_consM (pe_valM (pe_shM (pe_lcM (W0 := WF) (own := [("name", 7), ("mark", 13)]) rfl sc.nd (pi_zipM rfl rfl tx.n_zip (pa_consM (pe_valM (pe_nameM (pv 5))) (pa_consM (pe_valM (pe_nameM (pv 3))) pa_nilM))) (blkOk_by (N := ["profile", "rule", "points", "marks", "orders", "names_now", "found", "name", "leads", "other", "ahead", "each", "order", "mark"]) (sc := defScope s_law_won) (own := [("name", 7), ("mark", 13)]) (by decide +kernel)) (fun _ _ _ _ _ => (pg_tupW rfl rfl (pgs_consW (pg_nmW sc.nd rfl (Or.inl rfl)) (pgs_consW (pg_nmW sc.nd rfl (Or.inl rfl)) pgs_nilW)) (nbS (nbS nb0)))) (fun _ _ _ _ _ => (pts_oneM (pt_cmpM (c_eq rfl hr.u64) (pe_slotM (pv 13)) (pe_valM (pe_xmaxM rfl rfl tx.n_max (pa_consM (pe_slotM (pv 3)) pa_nilM)))))) (fun _ _ _ _ _ => (pe_nameM (pv 7)))))) pa_nilM))))))))
theorem sc_law_led : FnScope ["profile", "names_now", "orders", "found", "many", "order", "fresh", "sign"] ["profile", "names_now"] (defScope s_law_led) := ⟨rfl, rfl, rfl, by decide +kernel, rfl, by decide +kernel, by decide +kernel⟩
theorem t_law_led (tx : Txt P T mg base C0 C1 B0 B1 B2 cR pR)   {f : Addr} {fd : FuncData} (Fn : Fun T.K "_law_led" "_law_led" s_law_led f fd) (hm : mg "_law_led" = some (.ref f)) : Def P w T mg base 1 "_law_led" ["profile", "names_now"] [] m_law_led := by
  have sc := sc_law_led
  refine ⟨f, fd, fnD Fn sc rfl fun cdv A outer s H E hr => ?_, hm, Fn.kp, Fn.binds fun _ _ _ _ _ _ us hl => match us, hl with | [_, _], _ => rfl⟩
  show PSs _ _ (tS T _ [] b_law_led)
  exact (pss_consM (ps_par2M rfl sc.nd rfl rfl rfl rfl rfl (pe_lstM (pa_consM (pe_valM pe_strM) (pa_consM (pe_valM pe_strM) (pa_consM (pe_valM pe_strM) (pa_consM (pe_valM pe_strM) (pa_consM (pe_valM pe_strM) (pa_consM (pe_valM pe_strM) pa_nilM))))))) (pe_mulM rfl (pe_valM (pe_lstM (pa_consM (pe_valM pe_intM) pa_nilM))) (pe_valM pe_intM)) rfl)
  (pss_consM (ps_forM ownD rfl (pi_zipM rfl rfl tx.n_zip (pa_consM (pe_valM (pe_nameM (pv 0))) (pa_consM (pe_valM (pe_nameM (pv 2))) pa_nilM))) (pg_tupM rfl rfl (pgs_consM (pg_nmM sc.nd rfl (Or.inl rfl)) (pgs_consM (pg_nmM sc.nd rfl (Or.inl rfl)) pgs_nilM)) (nbS (nbS nb0))) (pss_consM (ps_asgM sc.nd rfl (Or.inl rfl) (pe_joinM rfl (pe_valM pe_strM) (pa_consM (pe_valM (pe_shM (pe_lcM (W0 := WF) (own := [("sign", 7)]) rfl sc.nd (pi_seqM rfl (pe_nameM (pv 5))) (blkOk_by (N := ["profile", "names_now", "orders", "found", "many", "order", "fresh", "sign"]) (sc := defScope s_law_led) (own := [("sign", 7)]) (by decide +kernel)) (fun _ _ _ _ _ => (pg_nmW sc.nd rfl (Or.inl rfl))) (fun _ _ _ _ _ => pts_nilM) (fun _ _ _ _ _ => (pe_indexM rfl (pe_slotM (pv 1)) (pe_valM (pe_indexSM rfl (pe_valM pe_strM) (pa_consM (pe_valM (pe_nameM (pv 7))) pa_nilM)))))))) pa_nilM)))
  (pss_oneM (ps_asgB (pe_nameM (pv 4)) (pg_subM (W := WF) (pv 3) (pe_valM (pe_indexLM rfl (pe_slotM (pv 2)) (pa_consM (pe_valM (pe_nameM (pv 6))) pa_nilM))))))))
  (pss_oneM (ps_retM (pe_xtupleM rfl rfl tx.n_tuple (pa_consM (pe_slotM (pv 3)) pa_nilM))))))
theorem sc_law_word : FnScope ["e", "sorts", "bases", "plain"] ["e"] (defScope s_law_word) := ⟨rfl, rfl, rfl, by decide +kernel, rfl, by decide +kernel, by decide +kernel⟩
theorem t_law_word (tx : Txt P T mg base C0 C1 B0 B1 B2 cR pR) {f : Addr} {fd : FuncData} (Fn : Fun T.K "_law_word" "_law_word" s_law_word f fd) (hm : mg "_law_word" = some (.ref f)) : DefW P w T mg base 1 "_law_word" ["e"] m_law_word := by
  have sc := sc_law_word
  refine ⟨f, fd, fnDW Fn sc rfl fun cdv A outer s H E p hr => ?_, hm, Fn.kp, Fn.binds fun _ _ _ _ _ _ us hl => match us, hl with | [_], _ => rfl⟩
  show PSs _ _ (tS T _ [] b_law_word)
  exact (pss_consM (ps_asgM sc.nd rfl (Or.inl rfl) (pe_lstM (pa_consM (pe_valM (pe_shM (pe_isE (tbl := tb_InvalidProfile) (c := .ref C0) (cv := .ref C0) tx.hasX rfl (pe_slotM (pv 0)) (pe_glob (v := .ref C0) rfl tx.g_InvalidProfile rfl) (fun u h => h) tx.kt_InvalidProfile rfl tx.n_isinstance))) (pa_consM (pe_valM (pe_shM (pe_isE (tbl := tb_InvalidRule) (c := .ref C1) (cv := .ref C1) tx.hasX rfl (pe_slotM (pv 0)) (pe_glob (v := .ref C1) rfl tx.g_InvalidRule rfl) (fun u h => h) tx.kt_InvalidRule rfl tx.n_isinstance))) pa_nilM))))
  (pss_consM (ps_asgM sc.nd rfl (Or.inl rfl) (pe_lstM (pa_consM (pe_valM (pe_shM (pe_isE (tbl := tb_WrongValue) (c := .ref B0) (cv := .ref B0) tx.hasX rfl (pe_slotM (pv 0)) (pe_glob (v := .ref B0) rfl tx.g_WrongValue rfl) (fun u h => h) tx.kt_WrongValue rfl tx.n_isinstance))) (pa_consM (pe_valM (pe_shM (pe_isE (tbl := tb_WrongName) (c := .ref B1) (cv := .ref B1) tx.hasX rfl (pe_slotM (pv 0)) (pe_glob (v := .ref B1) rfl tx.g_WrongName rfl) (fun u h => h) tx.kt_WrongName rfl tx.n_isinstance))) (pa_consM (pe_valM (pe_shM (pe_isE (tbl := tb_NotPossible) (c := .ref B2) (cv := .ref B2) tx.hasX rfl (pe_slotM (pv 0)) (pe_glob (v := .ref B2) rfl tx.g_NotPossible rfl) (fun u h => h) tx.kt_NotPossible rfl tx.n_isinstance))) pa_nilM)))))
  (pss_consM (ps_asgM sc.nd rfl (Or.inl rfl) (pe_lstM (pa_consM (pe_valM (pe_shM (pe_isE (tbl := tb_ValueError) (c := .ty "ValueError") (cv := .type "ValueError") tx.hasX rfl (pe_slotM (pv 0)) (pe_bltn (v := .ty "ValueError") rfl tx.n_ValueError (by decide +kernel) rfl) (fun u h => h) tx.kt_ValueError rfl tx.n_isinstance))) (pa_consM (pe_valM (pe_shM (pe_isE (tbl := tb_LookupError) (c := .ty "LookupError") (cv := .type "LookupError") tx.hasX rfl (pe_slotM (pv 0)) (pe_bltn (v := .ty "LookupError") rfl tx.n_LookupError (by decide +kernel) rfl) (fun u h => h) tx.kt_LookupError rfl tx.n_isinstance))) (pa_consM (pe_valM (pe_shM (pe_isE (tbl := tb_ArithmeticError) (c := .ty "ArithmeticError") (cv := .type "ArithmeticError") tx.hasX rfl (pe_slotM (pv 0)) (pe_bltn (v := .ty "ArithmeticError") rfl tx.n_ArithmeticError (by decide +kernel) rfl) (fun u h => h) tx.kt_ArithmeticError rfl tx.n_isinstance))) pa_nilM)))))
  (pss_consM (ps_ifM (PW.pt (pw_orM (pt_cmpM (c_ne rfl hr.u64) (pe_valM (pe_countLM rfl (pe_slotM (pv 1)) (pa_consM (pe_valM pe_blM) pa_nilM))) (pe_valM pe_intM)) (pw_orM (pt_cmpM (c_ne rfl hr.u64) (pe_slotM (pv 2)) (pe_valM (pe_lstM (pa_consM (pe_valM pe_blM) (pa_consM (pe_valM pe_blM) (pa_consM (pe_valM pe_blM) pa_nilM)))))) (pw_oneOM (pt_cmpM (c_ne rfl hr.u64) (pe_slotM (pv 3)) (pe_slotM (pv 2))))))) (pss_oneM (ps_retM (pe_lstM (pa_consM (pe_valM pe_strM) (pa_consM (pe_valM pe_nonM) pa_nilM))))) pss_nilM)
  (pss_oneM (ps_retM (pe_lstM (pa_consM (pe_valM (pe_shM (pe_ifM (pt_trM rfl (pe_valM (pe_indexM rfl (pe_slotM (pv 1)) (pe_valM pe_intM)))) pe_strM pe_strM))) (pa_consM (pe_valM (pe_shM (pe_givenM tx.hasX tx.ek (pe_slotM (pv 0))))) pa_nilM)))))))))
theorem sc_law_heard : FnScope ["act", "e", "came"] ["act"] (defScope s_law_heard) := ⟨rfl, rfl, rfl, by decide +kernel, rfl, by decide +kernel, by decide +kernel⟩
theorem ok_lam0 (d_winners : Def P w T mg base 5 "winners" ["profile", "rule"] [] m_winners) : LamOk P w T.K mg base T 6 lam0 (msL 0) := by
  refine lam_ok (k := 5) (bm := l_0) lamT0 fun A outer s H E cl f c' hr => ?_
  show PE _ _ (tV T _ l_0)
  exact (pe_callX (ps := ["profile", "rule"]) d_winners rfl hr (by decide) tkL (pa_consM (pe_valM (pe_nameM (pv 0))) (pa_consM (pe_valM (pe_nameM (pv 1))) pa_nilM)))
theorem ok_lam1 (k_winners : DefK P w T mg base 5 "winners" ["profile", "rule"] [] m_winners ["rule", "profile"] [1, 0]) : LamOk P w T.K mg base T 6 lam1 (msL 1) := by
  refine lam_ok (k := 5) (bm := l_1) lamT1 fun A outer s H E cl f c' hr => ?_
  show PE _ _ (tV T _ l_1)
  exact (pe_callKX0 (ps := ["profile", "rule"]) k_winners rfl hr (by decide) tkL (pk_consM (pe_valM (pe_nameM (pv 1))) (pk_consM (pe_valM (pe_nameM (pv 0))) pk_nilM)))
theorem t_law_heard (tx : Txt P T mg base C0 C1 B0 B1 B2 cR pR) (hl : ∀ (j : Nat) (L : LamD), lams[j]? = some L → LamOk P w T.K mg base T 6 L (msL j)) (dw : DefW P w T mg base 1 "_law_word" ["e"] m_law_word) {f : Addr} {fd : FuncData} (Fn : Fun T.K "_law_heard" "_law_heard" s_law_heard f fd) (hm : mg "_law_heard" = some (.ref f)) : Def P w T mg base 7 "_law_heard" ["act"] [] m_law_heard := by
  have sc := sc_law_heard
  obtain ⟨fw, fdw, Fw, h1, h2, h3⟩ := dw.ex
  refine ⟨f, fd, fnD (k := 6) Fn sc rfl fun cdv A outer s H E hr => ?_, hm, Fn.kp, Fn.binds fun _ _ _ _ _ _ us hl => match us, hl with | [_], _ => rfl⟩
  show PSs _ _ (tS T _ [] b_law_heard)
  exact (pss_consM (ps_tryM (exNo := exNo) tx.hasX rfl rfl rfl sc.nd rfl rfl ⟨rfl, by decide, .inl tx.g_WrongValue⟩ ⟨rfl, by decide, .inl tx.g_WrongName⟩ ⟨rfl, by decide, .inl tx.g_NotPossible⟩ exNo_get tx.exm (fun W' pn xe tk' ow => (pss_oneM (ps_asgM sc.nd rfl (Or.inl rfl) (pe_actM hr tx.hasC hl tk' (pe_nameM (pv 0)))))) (Fw.mono (by decide)) hr rfl h1 h2 h3 (fun _ _ => pv 1))
  (pss_oneM (ps_retM (pe_lstM (pa_consM (pe_valM pe_strM) (pa_consM (pe_valM (pe_nameM (pv 2))) pa_nilM))))))
theorem sc_law_all_end : FnScope ["acts", "due", "act"] ["acts", "due"] (defScope s_law_all_end) := ⟨rfl, rfl, rfl, by decide +kernel, rfl, by decide +kernel, by decide +kernel⟩
theorem t_law_all_end (tx : Txt P T mg base C0 C1 B0 B1 B2 cR pR) (d_law_heard : Def P w T mg base 7 "_law_heard" ["act"] [] m_law_heard)  {f : Addr} {fd : FuncData} (Fn : Fun T.K "_law_all_end" "_law_all_end" s_law_all_end f fd) (hm : mg "_law_all_end" = some (.ref f)) : Def P w T mg base 8 "_law_all_end" ["acts", "due"] [] m_law_all_end := by
  have sc := sc_law_all_end
  refine ⟨f, fd, fnD Fn sc rfl fun cdv A outer s H E hr => ?_, hm, Fn.kp, Fn.binds fun _ _ _ _ _ _ us hl => match us, hl with | [_, _], _ => rfl⟩
  show PSs _ _ (tS T _ [] b_law_all_end)
  exact (pss_oneM (ps_retM (pe_compM (c_eq rfl hr.u64) (pe_valM (pe_reprM rfl hr.g hr.u64 (pe_valM (pe_shM (pe_lcM (W0 := WF) (own := [("act", 2)]) rfl sc.nd (pi_seqM rfl (pe_nameM (pv 0))) (blkOk_by (N := ["acts", "due", "act"]) (sc := defScope s_law_all_end) (own := [("act", 2)]) (by decide +kernel)) (fun _ _ _ _ _ => (pg_nmW sc.nd rfl (Or.inl rfl))) (fun _ _ _ _ _ => pts_nilM) (fun _ _ _ _ _ => (pe_callX (ps := ["act"]) d_law_heard rfl hr (by decide) tkF (pa_consM (pe_valM (pe_nameM (pv 2))) pa_nilM)))))) rfl tx.n_repr)) (pe_valM (pe_reprM rfl hr.g hr.u64 (pe_valM (pe_shM (pe_mulM rfl (pe_valM (pe_lstM (pa_consM (pe_valM (pe_nameM (pv 1))) pa_nilM))) (pe_valM (pe_xlenM rfl rfl tx.n_len (pa_consM (pe_slotM (pv 0)) pa_nilM)))))) rfl tx.n_repr)))))
theorem sc_law_is_profile : FnScope ["thing", "one"] ["thing"] (defScope s_law_is_profile) := ⟨rfl, rfl, rfl, by decide +kernel, rfl, by decide +kernel, by decide +kernel⟩
theorem t_law_is_profile (tx : Txt P T mg base C0 C1 B0 B1 B2 cR pR)   {f : Addr} {fd : FuncData} (Fn : Fun T.K "_law_is_profile" "_law_is_profile" s_law_is_profile f fd) (hm : mg "_law_is_profile" = some (.ref f)) : Def P w T mg base 1 "_law_is_profile" ["thing"] [] m_law_is_profile := by
  have sc := sc_law_is_profile
  refine ⟨f, fd, fnD Fn sc rfl fun cdv A outer s H E hr => ?_, hm, Fn.kp, Fn.binds fun _ _ _ _ _ _ us hl => match us, hl with | [_], _ => rfl⟩
  show PSs _ _ (tS T _ [] b_law_is_profile)
  exact (pss_consM (ps_ifM (PW.pt (pw_orM (pt_notM (pt_trM rfl (pe_valM (pe_isiM rfl (pe_slotM (pv 0)) (by decide +kernel) rfl tx.n_tuple rfl tx.n_isinstance)))) (pw_oneOM (pt_cmpM (c_ne rfl hr.u64) (pe_valM (pe_xlenM rfl rfl tx.n_len (pa_consM (pe_slotM (pv 0)) pa_nilM))) (pe_valM pe_intM))))) (pss_oneM (ps_retM pe_blM)) pss_nilM)
  (pss_consM (ps_ifM (pt_cmpM (c_ne rfl hr.u64) (pe_valM (pe_lcM (W0 := WF) (own := [("one", 1)]) rfl sc.nd (pi_seqM rfl (pe_nameM (pv 0))) (blkOk_by (N := ["thing", "one"]) (sc := defScope s_law_is_profile) (own := [("one", 1)]) (by decide +kernel)) (fun _ _ _ _ _ => (pg_nmW sc.nd rfl (Or.inl rfl))) (fun _ _ _ _ _ => (pts_oneM (PW.pt (pw_orM (pt_notM (pt_trM rfl (pe_valM (pe_isiM rfl (pe_slotM (pv 1)) (by decide +kernel) rfl tx.n_int rfl tx.n_isinstance)))) (pw_orM (pt_trM rfl (pe_valM (pe_isiM rfl (pe_slotM (pv 1)) (by decide +kernel) rfl tx.n_bool rfl tx.n_isinstance))) (pw_oneOM (pt_cmpM c_lt (pe_slotM (pv 1)) (pe_valM pe_intM)))))))) (fun _ _ _ _ _ => (pe_nameM (pv 1))))) (pe_valM (pe_lstM pa_nilM))) (pss_oneM (ps_retM pe_blM)) pss_nilM)
  (pss_oneM (ps_retM (pe_chainM c_le c_le (pe_valM pe_intM) (pe_valM (pe_xsumM rfl rfl tx.n_sum (pa_consM (pe_slotM (pv 0)) pa_nilM))) (pe_valM pe_intM))))))
theorem sc_law_refused_right : FnScope ["well", "profile", "odd", "rule", "acts", "is_rule", "at", "way", "some"] ["well", "profile"] (defScope s_law_refused_right) := ⟨rfl, rfl, rfl, by decide +kernel, rfl, by decide +kernel, by decide +kernel⟩
theorem co_refused {f : Addr} {cdv : Value} {A : Around} {outer : List Env} {s : Shared} {H : Hp} {E : XK} : CapsOk (cxOf (L2.CX P w) P w T.K mg base ["well", "profile", "odd", "rule", "acts", "is_rule", "at", "way", "some"] "_law_refused_right" (defScope s_law_refused_right) f cdv A outer s H E) lams caps_refused := by
  refine ⟨rfl, fun j L is h1 h2 => ?_, fun j L is k i x h1 h2 h3 h4 => ?_, fun j L h1 x => ?_, fun j L h1 => ?_⟩
  · obtain ⟨rfl | rfl, rfl⟩ := lam_is h1 h2 <;> rfl
  · obtain ⟨hL, rfl⟩ := lam_is h1 h2
    have nn : L.names = ([("profile" : Str), ("rule" : Str)] : List Str) := by rcases hL with rfl | rfl <;> rfl
    rw [nn] at h4
    match k, h3, h4 with
    | 0, h3, h4 => cases h3; cases h4; exact ⟨rfl, rfl⟩
    | 1, h3, h4 => cases h3; cases h4; exact ⟨rfl, rfl⟩
  · have nn : L.names = ([("profile" : Str), ("rule" : Str)] : List Str) := by rcases lam_at h1 with rfl | rfl <;> rfl
    rw [nn]
    rcases lam_at h1 with rfl | rfl
    · rw [lamN0]; simp
    · rw [lamN1]; simp
  · rcases lam_at h1 with rfl | rfl
    · exact LamX.lamS_by (sc := defScope s_law_refused_right) (by decide +kernel)
    · exact LamX.lamS_by (sc := defScope s_law_refused_right) (by decide +kernel)
theorem t_law_refused_right (tx : Txt P T mg base C0 C1 B0 B1 B2 cR pR) (d_law_draw : Def P w T mg base 1 "_law_draw" ["well", "top"] [0] m_law_draw) (d_law_of : Def P w T mg base 2 "_law_of" ["well", "menu"] [0] m_law_of) (d_law_odd : Def P w T mg base 3 "_law_odd" ["well"] [0] m_law_odd) (d_law_won : Def P w T mg base 2 "_law_won" ["profile", "rule"] [] m_law_won) (d_law_all_end : Def P w T mg base 8 "_law_all_end" ["acts", "due"] [] m_law_all_end) (d_law_is_profile : Def P w T mg base 1 "_law_is_profile" ["thing"] [] m_law_is_profile)  {f : Addr} {fd : FuncData} (Fn : Fun T.K "_law_refused_right" "_law_refused_right" s_law_refused_right f fd) (hcode : fd.code = .ref cR) (hm : mg "_law_refused_right" = some (.ref f)) : Def P w T mg base 9 "_law_refused_right" ["well", "profile"] [0] m_law_refused_right := by
  have sc := sc_law_refused_right
  refine ⟨f, fd, fnDR (lams := lams) Fn sc rfl hcode fun A outer s H E hr => ?_, hm, Fn.kp, Fn.binds fun _ _ _ _ _ _ us hl => match us, hl with | [_, _], _ => rfl⟩
  have co := co_refused (P := P) (w := w) (T := T) (mg := mg) (base := base) (f := f) (cdv := .ref cR) (A := A) (outer := outer) (s := s) (H := H) (E := E)
  show PSs _ _ (tS _ _ [0] b_law_refused_right)
  exact (pss_consM (ps_par2M rfl sc.nd rfl rfl rfl rfl rfl (pe_callX (ps := ["well", "top"]) d_law_draw.raw rfl hr (by decide) tkD (pa_consM (pe_slotM (pv 0)) (pa_consM (pe_valM pe_intM) pa_nilM))) (pe_callX (ps := ["well", "top"]) d_law_draw.raw rfl hr (by decide) tkD (pa_consM (pe_slotM (pv 0)) (pa_consM (pe_valM pe_intM) pa_nilM))) rfl)
  (pss_consM (ps_asgM sc.nd rfl (Or.inl rfl) (pe_callX (ps := ["well", "menu"]) d_law_of.raw rfl hr (by decide) tkD (pa_consM (pe_slotM (pv 0)) (pa_consM (pe_valM (pe_shM (pe_lstM (pa_consM (pe_valM (pe_shM (pe_negM (pe_valM pe_intM)))) (pa_consM (pe_valM pe_blM) (pa_consM (pe_valM pe_nonM) (pa_consM (pe_valM pe_strM) (pa_consM (pe_valM (pe_shM (pe_tupM (pa_consM (pe_valM pe_intM) pa_nilM)))) (pa_consM (pe_valM (pe_shM (pe_lstM (pa_consM (pe_valM pe_intM) pa_nilM)))) (pa_consM (pe_valM pe_intM) (pa_consM (pe_valM pe_intM) (pa_consM (pe_valM pe_intM) (pa_consM (pe_valM (pe_shM pe_dnewM)) (pa_consM (pe_valM (pe_shM (pe_powM (pe_valM pe_intM) (pe_valM pe_intM)))) pa_nilM)))))))))))))) pa_nilM))))
  (pss_consM (ps_ifM (pt_cmpM c_lt (pe_slotM (pv 7)) (pe_valM pe_intM)) (pss_oneM (ps_asgM sc.nd rfl (Or.inr rfl) (pe_addM rfl (pe_valM (pe_addM rfl (pe_valM (pe_slM rfl (pe_slotM (pv 1)) po_noM (po_someM (pe_slotM (pv 6))))) (pe_valM (pe_tupM (pa_consM (pe_valM (pe_nameM (pv 2))) pa_nilM))))) (pe_valM (pe_slM rfl (pe_slotM (pv 1)) (po_someM (pe_valM (pe_addM rfl (pe_slotM (pv 6)) (pe_valM (pe_xintM rfl rfl tx.n_int (pa_consM (pe_valM (pe_compM c_gt (pe_slotM (pv 7)) (pe_valM pe_intM))) pa_nilM)))))) po_noM))))) (pss_oneM (ps_ifM (pt_cmpM (c_eq rfl hr.u64) (pe_slotM (pv 7)) (pe_valM pe_intM)) (pss_consM (ps_asgM sc.nd rfl (Or.inl rfl) (pe_lstM (pa_consM (pe_valM (pe_shM (pe_xlistM rfl rfl tx.n_list (pa_consM (pe_slotM (pv 1)) pa_nilM)))) (pa_consM (pe_valM pe_nonM) (pa_consM (pe_valM (pe_shM pe_dnewM)) (pa_consM (pe_valM pe_strM) (pa_consM (pe_valM (pe_shM (pe_slM rfl (pe_slotM (pv 1)) po_noM (po_someM (pe_valM pe_intM))))) (pa_consM (pe_valM (pe_shM (pe_addM rfl (pe_slotM (pv 1)) (pe_valM (pe_tupM (pa_consM (pe_valM pe_intM) pa_nilM)))))) (pa_consM (pe_valM (pe_shM (pe_tupM pa_nilM))) (pa_consM (pe_valM (pe_shM (pe_tupM (pa_consM (pe_valM (pe_nameM (pv 1))) pa_nilM)))) (pa_consM (pe_valM (pe_shM (pe_mulM rfl (pe_valM (pe_tupM (pa_consM (pe_valM pe_intM) pa_nilM))) (pe_valM pe_intM)))) pa_nilM)))))))))))
  (pss_oneM (ps_asgM sc.nd rfl (Or.inr rfl) (pe_callX (ps := ["well", "menu"]) d_law_of.raw rfl hr (by decide) tkD (pa_consM (pe_slotM (pv 0)) (pa_consM (pe_valM (pe_shM (pe_addM rfl (pe_slotM (pv 8)) (pe_valM (pe_lstM (pa_consM (pe_valM (pe_shM (pe_callX (ps := ["well"]) d_law_odd.raw rfl hr (by decide) tkD (pa_consM (pe_slotM (pv 0)) pa_nilM)))) pa_nilM)))))) pa_nilM)))))) pss_nilM)))
  (pss_consM (ps_asgM sc.nd rfl (Or.inr rfl) (pe_callX (ps := ["well", "menu"]) d_law_of.raw rfl hr (by decide) tkD (pa_consM (pe_slotM (pv 0)) (pa_consM (pe_valM (pe_shM (pe_lstM (pa_consM (pe_valM pe_strM) (pa_consM (pe_valM pe_strM) (pa_consM (pe_valM pe_strM) (pa_consM (pe_valM pe_strM) (pa_consM (pe_valM (pe_shM (pe_callX (ps := ["well"]) d_law_odd.raw rfl hr (by decide) tkD (pa_consM (pe_slotM (pv 0)) pa_nilM)))) (pa_consM (pe_valM (pe_shM (pe_callX (ps := ["well"]) d_law_odd.raw rfl hr (by decide) tkD (pa_consM (pe_slotM (pv 0)) pa_nilM)))) (pa_consM (pe_valM (pe_shM (pe_callX (ps := ["well"]) d_law_odd.raw rfl hr (by decide) tkD (pa_consM (pe_slotM (pv 0)) pa_nilM)))) pa_nilM)))))))))) pa_nilM))))
  (pss_consM (ps_asgM sc.nd rfl (Or.inl rfl) (pe_lstM (pa_consM (pe_valM (pe_shM (pe_lamM (L := lam0) rfl tx.tabB rfl tx.tabM tx.tabU lamQ0 rfl (LamX.lamS_by (sc := defScope s_law_refused_right) (by decide +kernel))))) pa_nilM)))
  (pss_consM (ps_exprM (pe_appM rfl (pv 4) (pe_lamM (L := lam1) rfl tx.tabB rfl tx.tabM tx.tabU lamQ1 rfl (LamX.lamS_by (sc := defScope s_law_refused_right) (by decide +kernel)))))
  (pss_consM (ps_ifM (pt_notM (pt_trM rfl (pe_valM (pe_callX (ps := ["thing"]) d_law_is_profile.raw rfl hr (by decide) tkD (pa_consM (pe_valM (pe_nameM (pv 1))) pa_nilM))))) (pss_oneM (ps_retM (pe_cloX (ps := ["acts", "due"]) d_law_all_end rfl hr (by decide) co tx.hasC (fun _ => rfl) (pa_consM (pe_valM (pe_nameM (pv 4))) (pa_consM (pe_valM (pe_shM (pe_lstM (pa_consM (pe_valM pe_strM) (pa_consM (pe_valM (pe_nameM (pv 1))) pa_nilM))))) pa_nilM))))) pss_nilM)
  (pss_consM (ps_asgM sc.nd rfl (Or.inl rfl) (pe_andM rfl (pe_isiM rfl (pe_slotM (pv 3)) (by decide +kernel) rfl tx.n_str rfl tx.n_isinstance) (pe_oneM (pe_compM (c_in rfl) (pe_slotM (pv 3)) (pe_valM (pe_lstM (pa_consM (pe_valM pe_strM) (pa_consM (pe_valM pe_strM) (pa_consM (pe_valM pe_strM) (pa_consM (pe_valM pe_strM) pa_nilM))))))))))
  (pss_oneM (ps_retM (pe_cloX (ps := ["acts", "due"]) d_law_all_end rfl hr (by decide) co tx.hasC (fun _ => rfl) (pa_consM (pe_valM (pe_nameM (pv 4))) (pa_consM (pe_valM (pe_shM (pe_ifM (pt_trM rfl (pe_slotM (pv 5))) (pe_lstM (pa_consM (pe_valM pe_strM) (pa_consM (pe_valM (pe_shM (pe_callX (ps := ["profile", "rule"]) d_law_won.raw rfl hr (by decide) tkD (pa_consM (pe_valM (pe_nameM (pv 1))) (pa_consM (pe_valM (pe_nameM (pv 3))) pa_nilM))))) pa_nilM))) (pe_lstM (pa_consM (pe_valM pe_strM) (pa_consM (pe_valM (pe_nameM (pv 3))) pa_nilM)))))) pa_nilM)))))))))))))
theorem sc_law_right : FnScope ["well", "turn", "profile", "names_now", "led", "rule", "due", "name"] ["well"] (defScope s_law_right) := ⟨rfl, rfl, rfl, by decide +kernel, rfl, by decide +kernel, by decide +kernel⟩
theorem t_law_right (tx : Txt P T mg base C0 C1 B0 B1 B2 cR pR) (d_winners : Def P w T mg base 5 "winners" ["profile", "rule"] [] m_winners) (d_law_of : Def P w T mg base 2 "_law_of" ["well", "menu"] [0] m_law_of) (d_law_profile : Def P w T mg base 2 "_law_profile" ["well"] [0] m_law_profile) (d_law_won : Def P w T mg base 2 "_law_won" ["profile", "rule"] [] m_law_won) (d_law_led : Def P w T mg base 1 "_law_led" ["profile", "names_now"] [] m_law_led) (d_law_refused_right : Def P w T mg base 9 "_law_refused_right" ["well", "profile"] [0] m_law_refused_right) (k_winners : DefK P w T mg base 5 "winners" ["profile", "rule"] [] m_winners ["rule", "profile"] [1, 0]) {f : Addr} {fd : FuncData} (Fn : Fun T.K "_law_right" "_law_right" s_law_right f fd) (hm : mg "_law_right" = some (.ref f)) : Def P w T mg base 10 "_law_right" ["well"] [0] m_law_right := by
  have sc := sc_law_right
  refine ⟨f, fd, fnD Fn sc rfl fun cdv A outer s H E hr => ?_, hm, Fn.kp, Fn.binds fun _ _ _ _ _ _ us hl => match us, hl with | [_], _ => rfl⟩
  show PSs _ _ (tS T _ [0] b_law_right)
  exact (pss_consM (ps_forM ownD rfl (pi_rng1M rfl tx.n_range (pe_valM pe_intM)) (pg_nmM sc.nd rfl (Or.inl rfl)) (pss_consM (ps_asgM sc.nd rfl (Or.inl rfl) (pe_callX (ps := ["well"]) d_law_profile rfl hr (by decide) tkD (pa_consM (pe_slotM (pv 0)) pa_nilM)))
  (pss_consM (ps_asgM sc.nd rfl (Or.inr rfl) (pe_callX (ps := ["well", "menu"]) d_law_of rfl hr (by decide) tkD (pa_consM (pe_slotM (pv 0)) (pa_consM (pe_valM (pe_shM (pe_lstM (pa_consM (pe_valM pe_strM) (pa_consM (pe_valM pe_strM) (pa_consM (pe_valM pe_strM) (pa_consM (pe_valM pe_strM) (pa_consM (pe_valM pe_strM) pa_nilM)))))))) pa_nilM))))
  (pss_consM (ps_asgM sc.nd rfl (Or.inl rfl) (pe_callX (ps := ["profile", "names_now"]) d_law_led rfl hr (by decide) tkD (pa_consM (pe_valM (pe_nameM (pv 2))) (pa_consM (pe_valM (pe_nameM (pv 3))) pa_nilM))))
  (pss_consM (ps_forM ownD rfl (pi_seqM rfl (pe_lstM (pa_consM (pe_valM pe_strM) (pa_consM (pe_valM pe_strM) (pa_consM (pe_valM pe_strM) (pa_consM (pe_valM pe_strM) pa_nilM)))))) (pg_nmM sc.nd rfl (Or.inl rfl)) (pss_consM (ps_asgM sc.nd rfl (Or.inl rfl) (pe_callX (ps := ["profile", "rule"]) d_law_won rfl hr (by decide) tkD (pa_consM (pe_valM (pe_nameM (pv 2))) (pa_consM (pe_valM (pe_nameM (pv 5))) pa_nilM))))
  (pss_consM (ps_ifM (pt_cmpM (c_ne rfl hr.u64) (pe_valM (pe_reprM rfl hr.g hr.u64 (pe_valM (pe_shM (pe_lstM (pa_consM (pe_valM (pe_shM (pe_callX (ps := ["profile", "rule"]) d_winners rfl hr (by decide) tkD (pa_consM (pe_valM (pe_nameM (pv 2))) (pa_consM (pe_valM (pe_nameM (pv 5))) pa_nilM))))) (pa_consM (pe_valM (pe_shM (pe_callKX0 (ps := ["profile", "rule"]) k_winners rfl hr (by decide) tkD (pk_consM (pe_valM (pe_nameM (pv 5))) (pk_consM (pe_valM (pe_nameM (pv 2))) pk_nilM))))) pa_nilM))))) rfl tx.n_repr)) (pe_valM (pe_reprM rfl hr.g hr.u64 (pe_valM (pe_shM (pe_lstM (pa_consM (pe_valM (pe_nameM (pv 6))) (pa_consM (pe_valM (pe_nameM (pv 6))) pa_nilM))))) rfl tx.n_repr))) (pss_oneM (ps_retM pe_blM)) pss_nilM)
  (pss_oneM (ps_ifM (pt_cmpM (c_ne rfl hr.u64) (pe_valM (pe_callX (ps := ["profile", "rule"]) d_winners rfl hr (by decide) tkD (pa_consM (pe_valM (pe_nameM (pv 4))) (pa_consM (pe_valM (pe_nameM (pv 5))) pa_nilM)))) (pe_valM (pe_joinM rfl (pe_valM pe_strM) (pa_consM (pe_valM (pe_shM (pe_xsortedM rfl rfl tx.n_sorted (pa_consM (pe_valM (pe_lcM (W0 := WF) (own := [("name", 7)]) rfl sc.nd (pi_seqM rfl (pe_nameM (pv 6))) (blkOk_by (N := ["well", "turn", "profile", "names_now", "led", "rule", "due", "name"]) (sc := defScope s_law_right) (own := [("name", 7)]) (by decide +kernel)) (fun _ _ _ _ _ => (pg_nmW sc.nd rfl (Or.inl rfl))) (fun _ _ _ _ _ => pts_nilM) (fun _ _ _ _ _ => (pe_indexM rfl (pe_slotM (pv 3)) (pe_valM (pe_indexSM rfl (pe_valM pe_strM) (pa_consM (pe_valM (pe_nameM (pv 7))) pa_nilM))))))) pa_nilM)))) pa_nilM)))) (pss_oneM (ps_retM pe_blM)) pss_nilM)))))
  (pss_oneM (ps_ifM (pt_notM (pt_trM rfl (pe_valM (pe_callX (ps := ["well", "profile"]) d_law_refused_right rfl hr (by decide) tkD (pa_consM (pe_slotM (pv 0)) (pa_consM (pe_valM (pe_nameM (pv 2))) pa_nilM)))))) (pss_oneM (ps_retM pe_blM)) pss_nilM)))))))
  (pss_oneM (ps_retM pe_blM)))
theorem sc_law : FnScope ["script", "k"] ["script"] (defScope s_law) := ⟨rfl, rfl, rfl, by decide +kernel, rfl, by decide +kernel, by decide +kernel⟩
theorem t_law (tx : Txt P T mg base C0 C1 B0 B1 B2 cR pR) (d_law_well : Def P w T mg base 1 "_law_well" ["script", "k"] [] m_law_well) (d_law_right : Def P w T mg base 10 "_law_right" ["well"] [0] m_law_right)  {f : Addr} {fd : FuncData} (Fn : Fun T.K "law" "law" s_law f fd) (hm : mg "law" = some (.ref f)) : Def P w T mg base 11 "law" ["script"] [] m_law := by
  have sc := sc_law
  refine ⟨f, fd, fnD Fn sc rfl fun cdv A outer s H E hr => ?_, hm, Fn.kp, Fn.binds fun _ _ _ _ _ _ us hl => match us, hl with | [_], _ => rfl⟩
  show PSs _ _ (tS T _ [] b_law)
  exact (pss_oneM (ps_retM (pe_xallM rfl rfl tx.n_all (pa_consM (pe_valM (pe_lcM (W0 := WF) (own := [("k", 1)]) rfl sc.nd (pi_rng1M rfl tx.n_range (pe_valM pe_intM)) (blkOk_by (N := ["script", "k"]) (sc := defScope s_law) (own := [("k", 1)]) (by decide +kernel)) (fun _ _ _ _ _ => (pg_nmW sc.nd rfl (Or.inl rfl))) (fun _ _ _ _ _ => pts_nilM) (fun _ _ _ _ _ => (pe_callOwnX (ps := ["well"]) d_law_right rfl rfl hr (by decide) tkF (pe_callX (ps := ["script", "k"]) d_law_well rfl hr (by decide) tkF (pa_consM (pe_valM (pe_nameM (pv 0))) (pa_consM (pe_valM (pe_nameM (pv 1))) pa_nilM))))))) pa_nilM))))
end
end TT

set_option maxRecDepth 100000
set_option maxHeartbeats 4000000
/-! KA: how mirrors reckon, applied to a state. -/
namespace TT
open PySem PySem.Spec PyProof.Rows L2
def R.th {A B : Type} (r : R A) (f : A → M B) : R B := match r with
  | .ok a e => f a e
  | .err c fs e => .err c fs e
  | .bad => .bad
def R.opt {A : Type} (e : Ev) (o : Option A) : R A := match o with
  | some z => .ok z e
  | none => .bad
def R.sure {A : Type} (r : R A) : R A := match r with
  | .ok a e' => .ok a e'
  | _ => .bad
def R.nm (e : Ev) (i : Nat) (o : Option Sl0) : R B := match o with
  | some (some (false, d)) => .ok (false, d) e
  | some (some (true, d)) => .ok (false, d) (e.set i (some (false, d)))
  | _ => .bad
def R.sl (e : Ev) (i : Nat) (o : Option Sl0) : R Opd := match o with
  | some (some _) => .ok (.slot i) e
  | _ => .bad
def R.rs (e : Ev) (o : Option Sl0) : R Flw := match o with
  | some (some x) => .ok (.ret x) e
  | _ => .bad
def R.mk (own : Bool) (c : List D → D) (e : Ev) (o : Option (List D)) : R B := match o with
  | some ds => if ds.length ≤ most then .ok (own, c ds) e else .bad
  | none => .bad
def R.put (e : Ev) (i : Nat) (x : B) (b : Bool) : R Flw := match b with
  | true => .ok .next (e.set i (some x))
  | false => .bad
def R.lcE (e : Ev) (own : List Nat) (r : R (List D)) : R B := match r with
  | .ok acc e' => .ok (true, .lst acc) (backE e e' own)
  | _ => .bad
def R.fn (rp : List Nat) (n : Nat) (r : R Flw) : R B := match r with
  | .ok (.ret x) e => .ok x (outs rp n e)
  | .ok .next e => .ok (false, .non) (outs rp n e)
  | .ok .brk _ => .bad
  | .ok .cont _ => .bad
  | .err c fs e => .err c fs (outs rp n e)
  | .bad => .bad
def R.back (e : Ev) (refs : List (Nat × Nat)) (r : R B) : R B := match r with
  | .ok x e' => .ok x (backs e e' refs)
  | .err c fs e' => .err c fs (backs e e' refs)
  | .bad => .bad
def R.args (e : Ev) (m : List B → R B) (rp : List Nat) (n : Nat) (os : List Opd) (o : Option (List B)) : R B := match o with
  | some args => if os.length = n ∧ diff ((refsOf rp 0 os).map (·.2)) = true then R.back e (refsOf rp 0 os) (m args) else .bad
  | none => .bad
def op2 (f : D → D → Option B) (x y : Option B) : Option B := match x, y with
  | some x, some y => f x.2 y.2
  | _, _ => none
def op1 (f : D → Option B) (x : Option B) : Option B := match x with
  | some x => f x.2
  | none => none
def opN (f : List D → Option B) (x : Option (List D)) : Option B := match x with
  | some x => f x
  | none => none
def opX2 (f : D → List D → Option B) (x : Option B) (y : Option (List D)) : Option B := match x, y with
  | some x, some y => f x.2 y
  | _, _ => none
def lkS (x : Option Sl0) : Option B := match x with
  | some x => x
  | none => none
def lkC (x : Option B) (y : Option (List D)) : Option (List D) := match x, y with
  | some x, some ds => some (x.2 :: ds)
  | _, _ => none
def frS (x : Option Sl0) : Bool := match x with
  | some (some (true, _)) => false
  | _ => true
section
variable {A C : Type} {e : Ev}
theorem opt_m {A : Type} (e : Ev) (o : Option A) : (match o with | some z => R.ok z e | none => .bad) = R.opt e o := rfl
theorem opt_m2 {A : Type} (e : Ev) (o : Option A) : R.opt e o = match o with | some z => R.ok z e | none => .bad := rfl
theorem opt_some (a : A) : R.opt e (some a) = .ok a e := rfl
theorem opt_none : R.opt e (none : Option A) = .bad := rfl
theorem sure_ok (a : A) : R.sure (.ok a e) = .ok a e := rfl
theorem sure_err (c : Str) (fs : List (Str × D)) : R.sure (.err c fs e : R A) = .bad := rfl
theorem sure_bad : R.sure (.bad : R A) = .bad := rfl
theorem nm_f (i : Nat) (d : D) : R.nm e i (some (some (false, d))) = .ok (false, d) e := rfl
theorem nm_t (i : Nat) (d : D) : R.nm e i (some (some (true, d))) = .ok (false, d) (e.set i (some (false, d))) := rfl
theorem sl_s (i : Nat) (x : B) : R.sl e i (some (some x)) = .ok (.slot i) e := rfl
theorem rs_s (x : B) : R.rs e (some (some x)) = .ok (.ret x) e := rfl
theorem mk_s (own : Bool) (c : List D → D) (ds : List D) : R.mk own c e (some ds) = if ds.length ≤ most then .ok (own, c ds) e else .bad := rfl
theorem put_t (i : Nat) (x : B) : R.put e i x true = .ok .next (e.set i (some x)) := rfl
theorem lcE_ok (e' : Ev) (own : List Nat) (acc : List D) : R.lcE e own (.ok acc e') = .ok (true, .lst acc) (backE e e' own) := rfl
theorem fn_ret (rp : List Nat) (n : Nat) (x : B) : R.fn rp n (.ok (.ret x) e) = .ok x (outs rp n e) := rfl
theorem fn_next (rp : List Nat) (n : Nat) : R.fn rp n (.ok .next e) = .ok (false, .non) (outs rp n e) := rfl
theorem fn_err (rp : List Nat) (n : Nat) (c : Str) (fs : List (Str × D)) : R.fn rp n (.err c fs e) = .err c fs (outs rp n e) := rfl
theorem back_ok (e' : Ev) (refs : List (Nat × Nat)) (x : B) : R.back e refs (.ok x e') = .ok x (backs e e' refs) := rfl
theorem back_err (e' : Ev) (refs : List (Nat × Nat)) (c : Str) (fs : List (Str × D)) : R.back e refs (.err c fs e') = .err c fs (backs e e' refs) := rfl
theorem args_s (m : List B → R B) (rp : List Nat) (n : Nat) (os : List Opd) (args : List B) : R.args e m rp n os (some args) = if os.length = n ∧ diff ((refsOf rp 0 os).map (·.2)) = true then R.back e (refsOf rp 0 os) (m args) else .bad := rfl
theorem op2_s (f : D → D → Option B) (o p : Bool) (x y : D) : op2 f (some (o, x)) (some (p, y)) = f x y := rfl
theorem op1_s (f : D → Option B) (o : Bool) (x : D) : op1 f (some (o, x)) = f x := rfl
theorem opN_s (f : List D → Option B) (x : List D) : opN f (some x) = f x := rfl
theorem opX_s (f : D → List D → Option B) (o : Bool) (x : D) (y : List D) : opX2 f (some (o, x)) (some y) = f x y := rfl
theorem lkS_s (x : B) : lkS (some (some x)) = some x := rfl
theorem lkC_s (o : Bool) (x : D) (ds : List D) : lkC (some (o, x)) (some ds) = some (x :: ds) := rfl
theorem frS_n : frS (some none) = true := rfl
theorem frS_f (d : D) : frS (some (some (false, d))) = true := rfl
theorem th_ok (a : A) (e : Ev) (f : A → M C) : R.th (.ok a e) f = f a e := rfl
theorem th_err (c : Str) (fs : List (Str × D)) (e : Ev) (f : A → M C) : R.th (.err c fs e) f = .err c fs e := rfl
theorem th_bad (f : A → M C) : R.th (.bad : R A) f = .bad := rfl
theorem ap_bind (m : M A) (f : A → M C) (e : Ev) : M.bind m f e = R.th (m e) f := rfl
theorem ap_pure (a : A) (e : Ev) : M.pure a e = .ok a e := rfl
theorem ap_fail (e : Ev) : (M.fail : M A) e = .bad := rfl
end
variable (e : Ev)
def kVal (x : B) : M Opd := fun e => .ok (.val x) e
theorem kVal_ap (x : B) : kVal x e = .ok (.val x) e := rfl
def kSh (x : B) : M B := fun e => .ok (false, x.2) e
theorem kSh_ap (o : Bool) (d : D) : kSh (o, d) e = .ok (false, d) e := rfl
def kCo (o : Opd) (os : List Opd) : M (List Opd) := fun e => .ok (o :: os) e
theorem kCo_ap (o : Opd) (os : List Opd) : kCo o os e = .ok (o :: os) e := rfl
def kCons (ms : M (List Opd)) (o : Opd) : M (List Opd) := fun e => R.th (ms e) (kCo o)
theorem kCons_ap (ms : M (List Opd)) (o : Opd) : kCons ms o e = R.th (ms e) (kCo o) := rfl
def kSeq (k : M Flw) (f : Flw) : M Flw := match f with
  | .next => k
  | f => M.pure f
theorem kSeq_n (k : M Flw) : kSeq k .next e = k e := rfl
theorem kSeq_r (k : M Flw) (x : B) : kSeq k (.ret x) e = .ok (.ret x) e := rfl
def kRet (x : B) : M Flw := fun e => .ok (.ret x) e
theorem kRet_ap (x : B) : kRet x e = .ok (.ret x) e := rfl
def kDrop (x : B) : M Flw := fun e => .ok .next e
theorem kDrop_ap (x : B) : kDrop x e = .ok .next e := rfl
def kAsg (i : Nat) (x : B) : M Flw := fun e => R.put e i x (decide (i < e.length))
theorem kAsg_ap (i : Nat) (x : B) : kAsg i x e = R.put e i x (decide (i < e.length)) := rfl
def kIf {A : Type} (a b : M A) (k : Bool) : M A := match k with
  | true => a
  | false => b
theorem kIf_t {A : Type} (a b : M A) : kIf a b true e = a e := rfl
theorem kIf_f {A : Type} (a b : M A) : kIf a b false e = b e := rfl
def kMk (own : Bool) (c : List D → D) (os : List Opd) : M B := fun e => R.mk own c e (shs os)
theorem kMk_ap (own : Bool) (c : List D → D) (os : List Opd) : kMk own c os e = R.mk own c e (shs os) := rfl
def kBin (f : D → D → Option B) (mb : M Opd) (o : Opd) : M B := fun e => R.th (mb e) (op2M f o)
theorem kBin_ap (f : D → D → Option B) (mb : M Opd) (o : Opd) : kBin f mb o e = R.th (mb e) (op2M f o) := rfl
def kNot (k : Bool) : M Bool := fun e => .ok (!k) e
theorem kNot_ap (k : Bool) : kNot k e = .ok (!k) e := rfl
def kAndV (q : M B) (x : B) : M B := fun e => R.th (truB x e) (kIf q (keepB x))
theorem kAndV_ap (q : M B) (x : B) : kAndV q x e = R.th (truB x e) (kIf q (keepB x)) := rfl
def kOrV (q : M B) (x : B) : M B := fun e => R.th (truB x e) (kIf (keepB x) q)
theorem kOrV_ap (q : M B) (x : B) : kOrV q x e = R.th (truB x e) (kIf (keepB x) q) := rfl
def kNotV2 (k : Bool) : M B := fun e => .ok (false, .bl (!k)) e
theorem kNotV2_ap (k : Bool) : kNotV2 k e = .ok (false, .bl (!k)) e := rfl
def kNotV (x : B) : M B := fun e => R.th (truB x e) kNotV2
theorem kNotV_ap (x : B) : kNotV x e = R.th (truB x e) kNotV2 := rfl
def kCh3 (g : D → D → Option B) (p : Opd) (mc : M Opd) : M B := fun e => R.th (mc e) (op2M g p)
theorem kCh3_ap (g : D → D → Option B) (p : Opd) (mc : M Opd) : kCh3 g p mc e = R.th (mc e) (op2M g p) := rfl
def kCh2 (f g : D → D → Option B) (mc : M Opd) (o p : Opd) : M B := fun e => R.th (boolM (op2M f o p) e) (kIf (kCh3 g p mc) (cstM (.bl false)))
theorem kCh2_ap (f g : D → D → Option B) (mc : M Opd) (o p : Opd) : kCh2 f g mc o p e = R.th (boolM (op2M f o p) e) (kIf (kCh3 g p mc) (cstM (.bl false))) := rfl
def kCh1 (f g : D → D → Option B) (mb mc : M Opd) (o : Opd) : M B := fun e => R.th (mb e) (kCh2 f g mc o)
theorem kCh1_ap (f g : D → D → Option B) (mb mc : M Opd) (o : Opd) : kCh1 f g mb mc o e = R.th (mb e) (kCh2 f g mc o) := rfl
def kLoop2 (bd : D → M Unit) (b : M Flw) (xs : List D) (f : Flw) : M Flw := match f with
  | .next => loopM bd b xs
  | .cont => loopM bd b xs
  | .brk => M.pure .next
  | .ret x => M.pure (.ret x)
theorem kLoop2_n (bd : D → M Unit) (b : M Flw) (xs : List D) : kLoop2 bd b xs .next e = loopM bd b xs e := rfl
theorem kLoop2_r (bd : D → M Unit) (b : M Flw) (xs : List D) (x : B) : kLoop2 bd b xs (.ret x) e = .ok (.ret x) e := rfl
def kLoop (bd : D → M Unit) (b : M Flw) (xs : List D) (u : Unit) : M Flw := fun e => R.th (b e) (kLoop2 bd b xs)
theorem kLoop_ap (bd : D → M Unit) (b : M Flw) (xs : List D) (u : Unit) : kLoop bd b xs u e = R.th (b e) (kLoop2 bd b xs) := rfl
def kB (bs : List D → M Unit) (ds : List D) (u : Unit) : M Unit := bs ds
theorem kB_ap (bs : List D → M Unit) (ds : List D) (u : Unit) : kB bs ds u e = bs ds e := rfl
def kSub (i : Nat) (d : D) (m : M Opd) (o : Opd) : M Unit := fun e => R.th (m e) (setO i d)
theorem kSub_ap (i : Nat) (d : D) (m : M Opd) (o : Opd) : kSub i d m o e = R.th (m e) (setO i d) := rfl
def kNext (u : Unit) : M Flw := fun e => .ok .next e
theorem kNext_ap (u : Unit) : kNext u e = .ok .next e := rfl
def kAB (bd : D → M Unit) (x : B) : M Flw := fun e => R.th (mustM (bd x.2) e) kNext
theorem kAB_ap (bd : D → M Unit) (o : Bool) (d : D) : kAB bd (o, d) e = R.th (mustM (bd d) e) kNext := rfl
def kPar2 (i j : Nat) (x y : B) : M Flw := fun e => if i < e.length ∧ j < e.length then .ok .next ((e.set i (some x)).set j (some y)) else .bad
theorem kPar2_ap (i j : Nat) (x y : B) : kPar2 i j x y e = if i < e.length ∧ j < e.length then .ok .next ((e.set i (some x)).set j (some y)) else .bad := rfl
def kPar (i j : Nat) (q : M B) (x : B) : M Flw := fun e => R.th (q e) (kPar2 i j x)
theorem kPar_ap (i j : Nat) (q : M B) (x : B) : kPar i j q x e = R.th (q e) (kPar2 i j x) := rfl
def kApp3 (i : Nat) (x : B) : M B := appO i x.2
theorem kApp3_ap (i : Nat) (o : Bool) (d : D) : kApp3 i (o, d) e = appO i d e := rfl
def kApp2 (i : Nat) (m : M B) (u : Unit) : M B := fun e => R.th (shM m e) (kApp3 i)
theorem kApp2_ap (i : Nat) (m : M B) (u : Unit) : kApp2 i m u e = R.th (shM m e) (kApp3 i) := rfl
def kApp (i : Nat) (m : M B) (o : Opd) : M B := fun e => R.th (tyO "list" o e) (kApp2 i m)
theorem kApp_ap (i : Nat) (m : M B) (o : Opd) : kApp i m o e = R.th (tyO "list" o e) (kApp2 i m) := rfl
def kMeth2 (f : D → List D → Option B) (ms : M (List Opd)) (o : Opd) (u : Unit) : M B := fun e => R.th (ms e) (opmM f o)
theorem kMeth2_ap (f : D → List D → Option B) (ms : M (List Opd)) (o : Opd) (u : Unit) : kMeth2 f ms o u e = R.th (ms e) (opmM f o) := rfl
def kMeth (n : String) (f : D → List D → Option B) (ms : M (List Opd)) (o : Opd) : M B := fun e => R.th (tyO n o e) (kMeth2 f ms o)
theorem kMeth_ap (n : String) (f : D → List D → Option B) (ms : M (List Opd)) (o : Opd) : kMeth n f ms o e = R.th (tyO n o e) (kMeth2 f ms o) := rfl
def kSeqI (x : B) : M (List D) := fun e => R.opt e (walkD x.2)
theorem kSeqI_ap (o : Bool) (d : D) : kSeqI (o, d) e = R.opt e (walkD d) := rfl
def rg (o : Option (List D)) : Option (List D) := match o with
  | some [.int j] => if -(2 ^ 62) ≤ j ∧ j < 2 ^ 62 then some (rngL 0 j.toNat) else none
  | some [.int i, .int j] => if -(2 ^ 62) ≤ i ∧ i < 2 ^ 62 ∧ -(2 ^ 62) ≤ j ∧ j < 2 ^ 62 then some (rngL i (j - i).toNat) else none
  | _ => none
theorem rg_1 (j : Int) : rg (some [.int j]) = if -(2 ^ 62) ≤ j ∧ j < 2 ^ 62 then some (rngL 0 j.toNat) else none := rfl
theorem rg_2 (i j : Int) : rg (some [.int i, .int j]) = if -(2 ^ 62) ≤ i ∧ i < 2 ^ 62 ∧ -(2 ^ 62) ≤ j ∧ j < 2 ^ 62 then some (rngL i (j - i).toNat) else none := rfl
def kRng (os : List Opd) : M (List D) := fun e => R.opt e (rg (looks e os))
theorem kRng_ap (os : List Opd) : kRng os e = R.opt e (rg (looks e os)) := rfl
def kEn (os : List Opd) : M (List D) := enumO os
theorem kEn_ap (d : D) : kEn [.val (false, d)] e = R.opt e ((sqD d).map fun x => enumL x.2) := by
  show (match sqD d with | some x => R.ok (enumL x.2) e | none => .bad) = _
  cases sqD d <;> rfl
def zp (x y : Option (Bool × List D)) : Option (List D) := match x, y with
  | some x, some y => some (zipL x.2 y.2)
  | _, _ => none
theorem zp_s (o p : Bool) (x y : List D) : zp (some (o, x)) (some (p, y)) = some (zipL x y) := rfl
def kZip (os : List Opd) : M (List D) := zipO os
theorem kZip_ap (d d' : D) : kZip [.val (false, d), .val (false, d')] e = R.opt e (zp (sqD d) (sqD d')) := by
  show (match sqD d, sqD d' with | some x, some y => R.ok (zipL x.2 y.2) e | _, _ => .bad) = _
  cases sqD d <;> cases sqD d' <;> rfl
def kLc (own : List Nat) (bd : D → M Unit) (test : M Bool) (elt : M B) (xs : List D) : M B := fun e => if own.all (freeS e) = true then R.lcE e own (lcL own bd test elt [] xs (wipeE e own)) else .bad
theorem kLc_ap (own : List Nat) (bd : D → M Unit) (test : M Bool) (elt : M B) (xs : List D) : kLc own bd test elt xs e = if own.all (freeS e) = true then R.lcE e own (lcL own bd test elt [] xs (wipeE e own)) else .bad := rfl
def kL3 (own : List Nat) (bd : D → M Unit) (test : M Bool) (elt : M B) (acc xs : List D) (y : B) : M (List D) := fun e => if acc.length < most then lcL own bd test elt (acc ++ [y.2]) xs (wipeE e own) else .bad
theorem kL3_ap (own : List Nat) (bd : D → M Unit) (test : M Bool) (elt : M B) (acc xs : List D) (o : Bool) (d : D) : kL3 own bd test elt acc xs (o, d) e = if acc.length < most then lcL own bd test elt (acc ++ [d]) xs (wipeE e own) else .bad := rfl
def kL2 (own : List Nat) (bd : D → M Unit) (test : M Bool) (elt : M B) (acc xs : List D) (k : Bool) : M (List D) := match k with
  | true => fun e => R.th (sureM (shM elt) e) (kL3 own bd test elt acc xs)
  | false => fun e => lcL own bd test elt acc xs (wipeE e own)
theorem kL2_t (own : List Nat) (bd : D → M Unit) (test : M Bool) (elt : M B) (acc xs : List D) : kL2 own bd test elt acc xs true e = R.th (sureM (shM elt) e) (kL3 own bd test elt acc xs) := rfl
theorem kL2_f (own : List Nat) (bd : D → M Unit) (test : M Bool) (elt : M B) (acc xs : List D) : kL2 own bd test elt acc xs false e = lcL own bd test elt acc xs (wipeE e own) := rfl
def kL1 (own : List Nat) (bd : D → M Unit) (test : M Bool) (elt : M B) (acc xs : List D) (u : Unit) : M (List D) := fun e => R.th (sureM test e) (kL2 own bd test elt acc xs)
theorem kL1_ap (own : List Nat) (bd : D → M Unit) (test : M Bool) (elt : M B) (acc xs : List D) (u : Unit) : kL1 own bd test elt acc xs u e = R.th (sureM test e) (kL2 own bd test elt acc xs) := rfl
def kSl3 (o : Opd) (l h : Option Int) : M B := fun e => R.opt e ((look e o).bind fun x => slD x.2 l h)
theorem kSl3_ap (o : Opd) (l h : Option Int) : kSl3 o l h e = R.opt e ((look e o).bind fun x => slD x.2 l h) := rfl
def kSl2 (hi : M (Option Int)) (o : Opd) (l : Option Int) : M B := fun e => R.th (hi e) (kSl3 o l)
theorem kSl2_ap (hi : M (Option Int)) (o : Opd) (l : Option Int) : kSl2 hi o l e = R.th (hi e) (kSl3 o l) := rfl
def kSl (lo hi : M (Option Int)) (o : Opd) : M B := fun e => R.th (lo e) (kSl2 hi o)
theorem kSl_ap (lo hi : M (Option Int)) (o : Opd) : kSl lo hi o e = R.th (lo e) (kSl2 hi o) := rfl
theorem ap_intO (o : Opd) : intO o e = R.opt e ((look e o).bind fun x => match x.2 with
  | .int i => some (some i)
  | _ => none) := by
  unfold intO R.opt
  cases look e o with
  | none => rfl
  | some x => obtain ⟨o, d⟩ := x; cases d <;> rfl
def kErr (c : Str) (x : B) : M Flw := fun e => .err c [("given", x.2)] e
theorem kErr_ap (c : Str) (o : Bool) (d : D) : kErr c (o, d) e = .err c [("given", d)] e := rfl
def kPm (pm : List Nat) (os : List Opd) : M (List Opd) := fun e => .ok (permL pm os) e
theorem kPm_ap (pm : List Nat) (os : List Opd) : kPm pm os e = .ok (permL pm os) e := rfl
theorem ap_name (i : Nat) : nameM i e = R.nm e i e[i]? := rfl
theorem ap_slot (i : Nat) : slotM i e = R.sl e i e[i]? := rfl
theorem ap_val (m : M B) : valM m e = R.th (m e) kVal := rfl
theorem ap_sh (m : M B) : shM m e = R.th (m e) kSh := rfl
theorem ap_nil : nilM e = .ok [] e := rfl
theorem ap_cons (m : M Opd) (ms : M (List Opd)) : consM m ms e = R.th (m e) (kCons ms) := rfl
theorem ap_seq (m k : M Flw) : seqM m k e = R.th (m e) (kSeq k) := rfl
theorem ap_ret (m : M B) : retM m e = R.th (m e) kRet := rfl
theorem ap_retSlot (i : Nat) : retSlotM i e = R.rs e e[i]? := rfl
theorem ap_drop (m : M B) : dropM m e = R.th (m e) kDrop := rfl
theorem ap_asg (i : Nat) (m : M B) : asgM i m e = R.th (m e) (kAsg i) := by
  show R.th (m e) (putM i) = _
  congr 1
  funext x e
  show (if i < e.length then _ else _) = R.put e i x (decide (i < e.length))
  by_cases h : i < e.length
  · rw [if_pos h, decide_eq_true h]; rfl
  · rw [if_neg h, decide_eq_false h]; rfl
theorem ap_if (c : M Bool) (a b : M Flw) : ifM c a b e = R.th (c e) (kIf a b) := rfl
theorem ap_cst (d : D) : cstM d e = .ok (false, d) e := rfl
theorem ap_tup (ms : M (List Opd)) : tupM ms e = R.th (ms e) (kMk false .tup) := rfl
theorem ap_lst (ms : M (List Opd)) : lstM ms e = R.th (ms e) (kMk true .lst) := rfl
theorem ap_op2 (f : D → D → Option B) (o p : Opd) : op2M f o p e = R.opt e (op2 f (look e o) (look e p)) := by
  unfold op2M op2
  cases look e o with
  | none => cases look e p <;> rfl
  | some x =>
    cases look e p with
    | none => rfl
    | some y =>
      show (match f x.2 y.2 with | some z => R.ok z e | none => .bad) = R.opt e (f x.2 y.2)
      cases f x.2 y.2 <;> rfl
theorem ap_bin2 (f : D → D → Option B) (ma mb : M Opd) : bin2 f ma mb e = R.th (ma e) (kBin f mb) := rfl
theorem ap_op1 (f : D → Option B) (o : Opd) : op1M f o e = R.opt e (op1 f (look e o)) := by
  unfold op1M op1
  cases look e o with
  | none => rfl
  | some x =>
    show (match f x.2 with | some z => R.ok z e | none => .bad) = R.opt e (f x.2)
    cases f x.2 <;> rfl
theorem ap_un1 (f : D → Option B) (ma : M Opd) : un1 f ma e = R.th (ma e) (op1M f) := rfl
theorem ap_opN (f : List D → Option B) (os : List Opd) : opsM f os e = R.opt e (opN f (looks e os)) := by
  unfold opsM opN
  cases looks e os with
  | none => rfl
  | some x =>
    show (match f x with | some z => R.ok z e | none => .bad) = R.opt e (f x)
    cases f x <;> rfl
theorem ap_callN (f : List D → Option B) (ms : M (List Opd)) : callN f ms e = R.th (ms e) (opsM f) := rfl
theorem look_s (i : Nat) : look e (.slot i) = lkS e[i]? := rfl
theorem look_v (x : B) : look e (.val x) = some x := rfl
theorem looks_nil : looks e [] = some [] := rfl
theorem looks_cons (o : Opd) (os : List Opd) : looks e (o :: os) = lkC (look e o) (looks e os) := rfl
theorem shs_nil : shs [] = some [] := rfl
theorem shs_cons (d : D) (os : List Opd) : shs (.val (false, d) :: os) = (shs os).map (d :: ·) := rfl
theorem ap_retB (b : Bool) (o : Bool) : retB (o, .bl b) e = .ok b e := rfl
theorem ap_bool (m : M B) : boolM m e = R.th (m e) retB := rfl
theorem ap_chain (f g : D → D → Option B) (ma mb mc : M Opd) : chainM f g ma mb mc e = R.th (ma e) (kCh1 f g mb mc) := rfl
theorem ap_truO (o : Opd) : truO o e = R.opt e ((look e o).bind fun x => truD x.2) := by
  unfold truO
  cases look e o with
  | none => rfl
  | some x =>
    show (match truD x.2 with | some z => R.ok z e | none => .bad) = R.opt e (truD x.2)
    cases truD x.2 <;> rfl
theorem ap_tr (m : M Opd) : trM m e = R.th (m e) truO := rfl
theorem ap_andT (p q : M Bool) : andT p q e = R.th (p e) (kIf q (M.pure false)) := rfl
theorem ap_orT (p q : M Bool) : orT p q e = R.th (p e) (kIf (M.pure true) q) := rfl
theorem ap_notT (p : M Bool) : notT p e = R.th (p e) kNot := rfl
theorem ap_truB (x : B) : truB x e = R.opt e (truD x.2) := by
  unfold truB
  cases truD x.2 <;> rfl
theorem ap_keep (d : D) : keepB (false, d) e = .ok (false, d) e := rfl
theorem ap_andV (p q : M B) : andV p q e = R.th (p e) (kAndV q) := rfl
theorem ap_orV (p q : M B) : orV p q e = R.th (p e) (kOrV q) := rfl
theorem ap_notV (p : M B) : notV p e = R.th (p e) kNotV := rfl
theorem ap_ifV (c : M Bool) (p q : M B) : ifV c p q e = R.th (c e) (kIf p q) := rfl
theorem ap_callM (m : List B → R B) (rp : List Nat) (n : Nat) (ms : M (List Opd)) : callM m rp n ms e = R.th (ms e) (callO m rp n) := rfl
theorem ap_callO (m : List B → R B) (rp : List Nat) (n : Nat) (os : List Opd) : callO m rp n os e = R.args e m rp n os (argsOf rp e 0 os) := by
  unfold callO R.args
  cases argsOf rp e 0 os with
  | none => rfl
  | some a =>
    show (if _ then _ else _) = _
    show _ = if _ then _ else _
    split
    · cases m a <;> rfl
    · rfl
theorem ap_must (m : M Unit) : mustM m e = R.sure (m e) := by
  unfold mustM R.sure
  cases m e <;> rfl
theorem ap_sure {A : Type} (m : M A) : sureM m e = R.sure (m e) := rfl
theorem ap_loop0 (bd : D → M Unit) (b : M Flw) : loopM bd b [] e = .ok .next e := rfl
theorem ap_loop (bd : D → M Unit) (b : M Flw) (x : D) (xs : List D) : loopM bd b (x :: xs) e = R.th (mustM (bd x) e) (kLoop bd b xs) := rfl
theorem ap_for (mi : M (List D)) (bd : D → M Unit) (b : M Flw) : forM mi bd b e = R.th (mi e) (loopM bd b) := rfl
theorem ap_nm (i : Nat) (d : D) : nmB i d e = if i < e.length then .ok () (e.set i (some (false, d))) else .bad := rfl
theorem ap_tp (bs : List D → M Unit) (ds : List D) : tpB bs (.tup ds) e = bs ds e := rfl
theorem ap_nilB : nilB [] e = .ok () e := rfl
theorem ap_consB (b : D → M Unit) (bs : List D → M Unit) (d : D) (ds : List D) : consB b bs (d :: ds) e = R.th (b d e) (kB bs ds) := rfl
theorem ap_sub (i : Nat) (m : M Opd) (d : D) : subB i m d e = R.th (slotM i e) (kSub i d m) := rfl
theorem ap_setO (i : Nat) (d : D) (o : Opd) : setO i d o e = match e[i]?, look e o with
  | some (some (true, .lst xs)), some (_, .int k) => match ixN xs.length k with
    | some j => .ok () (e.set i (some (true, .lst (xs.set j d))))
    | none => .bad
  | _, _ => .bad := rfl
theorem ap_asgB (m : M B) (bd : D → M Unit) : asgB m bd e = R.th (shM m e) (kAB bd) := rfl
theorem ap_par (i j : Nat) (p q : M B) : par2M i j p q e = R.th (p e) (kPar i j q) := rfl
theorem ap_appO (i : Nat) (d : D) : appO i d e = match e[i]? with
  | some (some (true, .lst xs)) => if xs.length < most then .ok (false, .non) (e.set i (some (true, .lst (xs ++ [d])))) else .bad
  | _ => .bad := rfl
theorem ap_app (i : Nat) (m : M B) : appM i m e = R.th (slotM i e) (kApp i m) := rfl
theorem ap_ty (n : String) (o : Opd) : tyO n o e = match look e o with
  | some x => if tyD x.2 = some n then .ok () e else .bad
  | none => .bad := rfl
theorem ap_opm (f : D → List D → Option B) (o : Opd) (os : List Opd) : opmM f o os e = R.opt e (opX2 f (look e o) (looks e os)) := by
  unfold opmM opX2
  cases look e o with
  | none => cases looks e os <;> rfl
  | some x =>
    cases looks e os with
    | none => rfl
    | some y =>
      show (match f x.2 y with | some z => R.ok z e | none => .bad) = R.opt e (f x.2 y)
      cases f x.2 y <;> rfl
theorem ap_meth (n : String) (f : D → List D → Option B) (m : M Opd) (ms : M (List Opd)) : methM n f m ms e = R.th (m e) (kMeth n f ms) := rfl
theorem ap_seqI (m : M B) : seqI m e = R.th (m e) kSeqI := by
  unfold seqI shM M.bind R.th
  cases m e <;> try rfl
  rename_i x e1
  show seqO (false, x.2) e1 = kSeqI x e1
  unfold seqO kSeqI R.opt
  cases walkD x.2 <;> rfl
theorem ap_rng (ms : M (List Opd)) : rngM ms e = R.th (ms e) kRng := by
  show R.th (ms e) rngO = _
  congr 1
  funext os e
  show rngO os e = R.opt e (rg (looks e os))
  unfold rngO
  cases looks e os with
  | none => rfl
  | some ds =>
    match ds with
    | [] => rfl
    | [d] =>
      cases d <;> try rfl
      rename_i j
      show (if _ then R.ok _ e else .bad) = R.opt e (rg (some [.int j]))
      rw [rg_1]
      split <;> rfl
    | [d, d'] =>
      cases d <;> cases d' <;> try rfl
      rename_i i j
      show (if _ then R.ok _ e else .bad) = R.opt e (rg (some [.int i, .int j]))
      rw [rg_2]
      split <;> rfl
    | d :: d' :: d'' :: ds => cases d <;> cases d' <;> rfl
theorem ap_enum (ms : M (List Opd)) : enumM ms e = R.th (ms e) kEn := rfl
theorem ap_zip (ms : M (List Opd)) : zipM ms e = R.th (ms e) kZip := rfl
theorem ap_lc (own : List Nat) (mi : M (List D)) (bd : D → M Unit) (test : M Bool) (elt : M B) : lcM own mi bd test elt e = R.th (mi e) (kLc own bd test elt) := rfl
theorem ap_lc0 (own : List Nat) (bd : D → M Unit) (test : M Bool) (elt : M B) (acc : List D) : lcL own bd test elt acc [] e = .ok acc e := rfl
theorem ap_lcL (own : List Nat) (bd : D → M Unit) (test : M Bool) (elt : M B) (acc : List D) (x : D) (xs : List D) : lcL own bd test elt acc (x :: xs) e = R.th (sureM (bd x) e) (kL1 own bd test elt acc xs) := by
  show R.th (sureM (bd x) e) (fun _ => M.bind (sureM test) fun k => match k with
    | true => M.bind (sureM (shM elt)) fun y env => if acc.length < most then lcL own bd test elt (acc ++ [y.2]) xs (wipeE env own) else .bad
    | false => fun env => lcL own bd test elt acc xs (wipeE env own)) = _
  cases sureM (bd x) e <;> rfl
theorem ap_free (i : Nat) : freeS e i = frS e[i]? := rfl
theorem ap_wipe0 : wipeE e [] = e := rfl
theorem ap_wipe (v : Nat) (vs : List Nat) : wipeE e (v :: vs) = (wipeE e vs).set v none := rfl
theorem ap_back0 (e' : Ev) : backE e e' [] = e' := rfl
theorem ap_back (e' : Ev) (v : Nat) (vs : List Nat) : backE e e' (v :: vs) = (backE e e' vs).set v ((e[v]?).getD none) := rfl
theorem ap_sl (m : M Opd) (lo hi : M (Option Int)) : slM m lo hi e = R.th (m e) (kSl lo hi) := by
  show R.th (m e) (fun o => M.bind lo fun l => M.bind hi fun h => slO o l h) = _
  congr 1
  funext o e
  show R.th (lo e) (fun l => M.bind hi fun h => slO o l h) = R.th (lo e) (kSl2 hi o)
  congr 1
  funext l e
  show R.th (hi e) (fun h => slO o l h) = R.th (hi e) (kSl3 o l)
  congr 1
  funext h e
  unfold slO kSl3
  cases look e o with
  | none => rfl
  | some x =>
    show (match slD x.2 l h with | some z => R.ok z e | none => .bad) = R.opt e (slD x.2 l h)
    cases slD x.2 l h <;> rfl
theorem ap_part (m : M Opd) : partM m e = R.th (m e) intO := rfl
theorem ap_raise (c : Str) (m : M B) : raiseM c m e = R.th (m e) (kErr c) := by
  unfold raiseM shM M.bind R.th
  cases m e <;> rfl
theorem ap_lam (n : Nat) : lamM n e = .ok (false, .opq (1000 + n) []) e := rfl
theorem ap_perm (pm : List Nat) (ms : M (List Opd)) : permM pm ms e = R.th (ms e) (kPm pm) := rfl
theorem ap_fnR (n : Nat) (rp : List Nat) (b : M Flw) (args : List B) : fnR n rp b args = R.fn rp args.length (b (args.map some ++ List.replicate (n - args.length) none)) := rfl
theorem outs00 : outs [] 0 e = [] := rfl
theorem outs01 : outs [] 1 e = [none] := rfl
theorem outs02 : outs [] 2 e = [none, none] := rfl
theorem outs03 : outs [] 3 e = [none, none, none] := rfl
theorem outs1 : outs [0] 1 e = [(e[0]?).getD none] := rfl
theorem outs2 : outs [0] 2 e = [(e[0]?).getD none, none] := rfl
theorem outs3 : outs [0] 3 e = [(e[0]?).getD none, none, none] := rfl
end TT

set_option maxRecDepth 100000
set_option maxHeartbeats 4000000
/-! KP1: profiles and rules checked. -/
namespace TT
open PySem PySem.Spec PyProof.Rows L2
def P6 (p0 p1 p2 p3 p4 p5 : Int) : D := .tup [.int p0, .int p1, .int p2, .int p3, .int p4, .int p5]
/-- no object -/
def tyS : D → Bool
  | .tup ds => ds.all fun d => (tyD d).isSome
  | d => (tyD d).isSome
theorem tyS_ty {d : D} (h : tyS d = true) : ∃ t, tyD d = some t := by
  cases d <;> first | exact ⟨_, rfl⟩ | cases h
def isNat : D → Bool
  | .int i => decide (0 ≤ i)
  | _ => false
theorem isNat_int {d : D} (h : isNat d = true) : ∃ i, d = .int i ∧ 0 ≤ i := by
  cases d <;> first | exact ⟨_, rfl, of_decide_eq_true h⟩ | cases h
def isTup : D → Bool
  | .tup _ => true
  | _ => false
theorem eqI (i j : Int) : eqD (.int i) (.int j) = some (false, .bl (decide (i = j))) := by kernel_rfl
theorem neI (i j : Int) : neD (.int i) (.int j) = some (false, .bl (!decide (i = j))) := by kernel_rfl
theorem leI (i j : Int) : leD (.int i) (.int j) = some (false, .bl (decide (i ≤ j))) := by kernel_rfl
theorem geI (i j : Int) : geD (.int i) (.int j) = some (false, .bl (decide (j ≤ i))) := by kernel_rfl
theorem ltI (i j : Int) : ltD (.int i) (.int j) = some (false, .bl (decide (i < j))) := by kernel_rfl
theorem isT_eq {d : D} {t : String} (h : tyD d = some t) : isiD "tuple" d = some (false, .bl (isTup d)) := by
  cases d <;> cases h <;> kernel_rfl
theorem e_is_natural {d : D} {t : String} (h : tyD d = some t) : m_is_natural [(false, d)] = .ok (false, .bl (isNat d)) [none] := by
  cases d <;> cases h <;> kernel_rfl
theorem len6 (d0 d1 d2 d3 d4 d5 : D) : lenD [.tup [d0, d1, d2, d3, d4, d5]] = some (false, .int 6) := by kernel_rfl
theorem lenT (ds : List D) : lenD [.tup ds] = some (false, .int ds.length) := by kernel_rfl
theorem lenO : lenD [c_ORDERS] = some (false, .int 6) := by kernel_rfl
theorem all6 (a b c d e f : Bool) : allD [.lst [.bl a, .bl b, .bl c, .bl d, .bl e, .bl f]] = some (false, .bl (a && b && c && d && e && f)) := by
  cases a <;> cases b <;> cases c <;> cases d <;> cases e <;> cases f <;> kernel_rfl
theorem sum6 (a b c d e f : Int) : sumD [P6 a b c d e f] = some (false, .int (a + (b + (c + (d + (e + (f + 0))))))) := by kernel_rfl
theorem e_tup6 {d0 d1 d2 d3 d4 d5 : D} : m_is_tuple_of [(false, .tup [d0, d1, d2, d3, d4, d5]), (false, .int 6)] = .ok (false, .bl true) [none, none] := by kernel_rfl
theorem e_tup_no {d : D} {t : String} (h : tyD d = some t) (hn : ∀ ds, d = .tup ds → ds.length ≠ 6) : m_is_tuple_of [(false, d), (false, .int 6)] = .ok (false, .bl false) [none, none] := by
  cases d with
  | tup ds =>
    have hl : decide ((ds.length : Int) = 6) = false := decide_eq_false (by have := hn ds rfl; omega)
    unfold m_is_tuple_of b_is_tuple_of
    simp only [most, kVal_ap, kSh_ap, kCo_ap, kCons_ap, kSeq_n, kSeq_r, kRet_ap, kDrop_ap, kAsg_ap, kIf_t, kIf_f, kMk_ap, kBin_ap, kNot_ap, kAndV_ap, kOrV_ap, kNotV2_ap, kNotV_ap, kCh3_ap, kCh2_ap, kCh1_ap, kLoop2_n, kLoop2_r, kLoop_ap, kB_ap, kSub_ap, kNext_ap, kAB_ap, kPar2_ap, kPar_ap, kApp3_ap, kApp2_ap, kApp_ap, kMeth2_ap, kMeth_ap, kSeqI_ap, kRng_ap, kEn_ap, zp_s, kZip_ap, kLc_ap, kL3_ap, kL2_t, kL2_f, kL1_ap, kSl3_ap, kSl2_ap, kSl_ap, kErr_ap, kPm_ap, ap_op1, ap_opN, ap_intO, opt_some, opt_none, sure_ok, sure_err, sure_bad, nm_f, nm_t, sl_s, rs_s, mk_s, put_t, lcE_ok, fn_ret, fn_next, fn_err, back_ok, back_err, args_s, op2_s, op1_s, opN_s, opX_s, lkS_s, lkC_s, frS_n, frS_f, th_ok, th_err, th_bad, ap_bind, ap_pure, ap_fail, ap_name, ap_slot, ap_val, ap_sh, ap_nil, ap_cons, ap_seq, ap_ret, ap_retSlot, ap_drop, ap_asg, ap_if, ap_cst, ap_tup, ap_lst, ap_bin2, ap_op2, ap_un1, ap_callN, look_s, look_v, looks_nil, looks_cons, shs_nil, shs_cons, ap_retB, ap_bool, ap_chain, ap_truO, ap_tr, ap_andT, ap_orT, ap_notT, ap_truB, ap_keep, ap_andV, ap_orV, ap_notV, ap_ifV, ap_callM, ap_callO, ap_must, ap_sure, ap_loop0, ap_loop, ap_for, ap_nm, ap_tp, ap_nilB, ap_consB, ap_sub, ap_setO, ap_asgB, ap_par, ap_appO, ap_app, ap_ty, ap_opm, ap_meth, ap_seqI, ap_rng, ap_enum, ap_zip, ap_lc, ap_lc0, ap_lcL, ap_free, ap_wipe0, ap_wipe, ap_back0, ap_back, ap_sl, ap_part, ap_raise, ap_lam, ap_perm, ap_fnR, outs00, outs01, outs02, outs03, outs1, outs2, outs3, argsOf, refsOf, backs, diff, truD, blOf, walkD, itemsD, sqD, zipL, List.zipWith_cons_cons, List.zipWith_nil_left, List.zipWith_nil_right, List.map_cons, List.map_nil, List.length_cons, List.length_nil, List.replicate, List.cons_append, List.nil_append, List.append_nil, List.getElem?_cons_zero, List.getElem?_cons_succ, List.getElem?_nil, List.set_cons_zero, List.set_cons_succ, List.set_nil, List.all_cons, List.all_nil, List.contains_cons, List.contains_nil, Option.map_some, Option.map_none, Option.getD_some, Option.getD_none, Option.bind_some, Option.bind_none, Nat.reduceAdd, Nat.reduceSub, Nat.reduceLT, Nat.reduceLeDiff, Nat.reduceEqDiff, Nat.reduceBEq, beq_self_eq_true, Bool.and_true, Bool.true_and, Bool.and_false, Bool.false_and, Bool.or_true, Bool.true_or, Bool.or_false, Bool.false_or, Bool.not_true, Bool.not_false, if_true, if_false, and_true, true_and, and_self, ite_true, ite_false, decide_true, decide_false, Bool.false_eq_true, reduceCtorEq, Nat.zero_add, Nat.sub_self, Nat.lt_irrefl, isT_eq (d := .tup ds) rfl, isTup, lenT, eqI, hl, most]
  | _ => cases h <;> kernel_rfl
theorem e_are6 {d0 d1 d2 d3 d4 d5 : D} {t0 t1 t2 t3 t4 t5 : String} (h0 : tyD d0 = some t0) (h1 : tyD d1 = some t1) (h2 : tyD d2 = some t2) (h3 : tyD d3 = some t3) (h4 : tyD d4 = some t4) (h5 : tyD d5 = some t5) :
    m_are_naturals [(false, .tup [d0, d1, d2, d3, d4, d5]), (false, .int 6)] = .ok (false, .bl (isNat d0 && isNat d1 && isNat d2 && isNat d3 && isNat d4 && isNat d5)) [none, none] := by
  unfold m_are_naturals b_are_naturals
  simp only [most, kVal_ap, kSh_ap, kCo_ap, kCons_ap, kSeq_n, kSeq_r, kRet_ap, kDrop_ap, kAsg_ap, kIf_t, kIf_f, kMk_ap, kBin_ap, kNot_ap, kAndV_ap, kOrV_ap, kNotV2_ap, kNotV_ap, kCh3_ap, kCh2_ap, kCh1_ap, kLoop2_n, kLoop2_r, kLoop_ap, kB_ap, kSub_ap, kNext_ap, kAB_ap, kPar2_ap, kPar_ap, kApp3_ap, kApp2_ap, kApp_ap, kMeth2_ap, kMeth_ap, kSeqI_ap, kRng_ap, kEn_ap, zp_s, kZip_ap, kLc_ap, kL3_ap, kL2_t, kL2_f, kL1_ap, kSl3_ap, kSl2_ap, kSl_ap, kErr_ap, kPm_ap, ap_op1, ap_opN, ap_intO, opt_some, opt_none, sure_ok, sure_err, sure_bad, nm_f, nm_t, sl_s, rs_s, mk_s, put_t, lcE_ok, fn_ret, fn_next, fn_err, back_ok, back_err, args_s, op2_s, op1_s, opN_s, opX_s, lkS_s, lkC_s, frS_n, frS_f, th_ok, th_err, th_bad, ap_bind, ap_pure, ap_fail, ap_name, ap_slot, ap_val, ap_sh, ap_nil, ap_cons, ap_seq, ap_ret, ap_retSlot, ap_drop, ap_asg, ap_if, ap_cst, ap_tup, ap_lst, ap_bin2, ap_op2, ap_un1, ap_callN, look_s, look_v, looks_nil, looks_cons, shs_nil, shs_cons, ap_retB, ap_bool, ap_chain, ap_truO, ap_tr, ap_andT, ap_orT, ap_notT, ap_truB, ap_keep, ap_andV, ap_orV, ap_notV, ap_ifV, ap_callM, ap_callO, ap_must, ap_sure, ap_loop0, ap_loop, ap_for, ap_nm, ap_tp, ap_nilB, ap_consB, ap_sub, ap_setO, ap_asgB, ap_par, ap_appO, ap_app, ap_ty, ap_opm, ap_meth, ap_seqI, ap_rng, ap_enum, ap_zip, ap_lc, ap_lc0, ap_lcL, ap_free, ap_wipe0, ap_wipe, ap_back0, ap_back, ap_sl, ap_part, ap_raise, ap_lam, ap_perm, ap_fnR, outs00, outs01, outs02, outs03, outs1, outs2, outs3, argsOf, refsOf, backs, diff, truD, blOf, walkD, itemsD, sqD, zipL, List.zipWith_cons_cons, List.zipWith_nil_left, List.zipWith_nil_right, List.map_cons, List.map_nil, List.length_cons, List.length_nil, List.replicate, List.cons_append, List.nil_append, List.append_nil, List.getElem?_cons_zero, List.getElem?_cons_succ, List.getElem?_nil, List.set_cons_zero, List.set_cons_succ, List.set_nil, List.all_cons, List.all_nil, List.contains_cons, List.contains_nil, Option.map_some, Option.map_none, Option.getD_some, Option.getD_none, Option.bind_some, Option.bind_none, Nat.reduceAdd, Nat.reduceSub, Nat.reduceLT, Nat.reduceLeDiff, Nat.reduceEqDiff, Nat.reduceBEq, beq_self_eq_true, Bool.and_true, Bool.true_and, Bool.and_false, Bool.false_and, Bool.or_true, Bool.true_or, Bool.or_false, Bool.false_or, Bool.not_true, Bool.not_false, if_true, if_false, and_true, true_and, and_self, ite_true, ite_false, decide_true, decide_false, Bool.false_eq_true, reduceCtorEq, Nat.zero_add, Nat.sub_self, Nat.lt_irrefl, e_tup6, e_is_natural h0, e_is_natural h1, e_is_natural h2, e_is_natural h3, e_is_natural h4, e_is_natural h5, all6, most]
theorem e_are_no {d : D} {t : String} (h : tyD d = some t) (hn : ∀ ds, d = .tup ds → ds.length ≠ 6) : m_are_naturals [(false, d), (false, .int 6)] = .ok (false, .bl false) [none, none] := by
  unfold m_are_naturals b_are_naturals
  simp only [most, kVal_ap, kSh_ap, kCo_ap, kCons_ap, kSeq_n, kSeq_r, kRet_ap, kDrop_ap, kAsg_ap, kIf_t, kIf_f, kMk_ap, kBin_ap, kNot_ap, kAndV_ap, kOrV_ap, kNotV2_ap, kNotV_ap, kCh3_ap, kCh2_ap, kCh1_ap, kLoop2_n, kLoop2_r, kLoop_ap, kB_ap, kSub_ap, kNext_ap, kAB_ap, kPar2_ap, kPar_ap, kApp3_ap, kApp2_ap, kApp_ap, kMeth2_ap, kMeth_ap, kSeqI_ap, kRng_ap, kEn_ap, zp_s, kZip_ap, kLc_ap, kL3_ap, kL2_t, kL2_f, kL1_ap, kSl3_ap, kSl2_ap, kSl_ap, kErr_ap, kPm_ap, ap_op1, ap_opN, ap_intO, opt_some, opt_none, sure_ok, sure_err, sure_bad, nm_f, nm_t, sl_s, rs_s, mk_s, put_t, lcE_ok, fn_ret, fn_next, fn_err, back_ok, back_err, args_s, op2_s, op1_s, opN_s, opX_s, lkS_s, lkC_s, frS_n, frS_f, th_ok, th_err, th_bad, ap_bind, ap_pure, ap_fail, ap_name, ap_slot, ap_val, ap_sh, ap_nil, ap_cons, ap_seq, ap_ret, ap_retSlot, ap_drop, ap_asg, ap_if, ap_cst, ap_tup, ap_lst, ap_bin2, ap_op2, ap_un1, ap_callN, look_s, look_v, looks_nil, looks_cons, shs_nil, shs_cons, ap_retB, ap_bool, ap_chain, ap_truO, ap_tr, ap_andT, ap_orT, ap_notT, ap_truB, ap_keep, ap_andV, ap_orV, ap_notV, ap_ifV, ap_callM, ap_callO, ap_must, ap_sure, ap_loop0, ap_loop, ap_for, ap_nm, ap_tp, ap_nilB, ap_consB, ap_sub, ap_setO, ap_asgB, ap_par, ap_appO, ap_app, ap_ty, ap_opm, ap_meth, ap_seqI, ap_rng, ap_enum, ap_zip, ap_lc, ap_lc0, ap_lcL, ap_free, ap_wipe0, ap_wipe, ap_back0, ap_back, ap_sl, ap_part, ap_raise, ap_lam, ap_perm, ap_fnR, outs00, outs01, outs02, outs03, outs1, outs2, outs3, argsOf, refsOf, backs, diff, truD, blOf, walkD, itemsD, sqD, zipL, List.zipWith_cons_cons, List.zipWith_nil_left, List.zipWith_nil_right, List.map_cons, List.map_nil, List.length_cons, List.length_nil, List.replicate, List.cons_append, List.nil_append, List.append_nil, List.getElem?_cons_zero, List.getElem?_cons_succ, List.getElem?_nil, List.set_cons_zero, List.set_cons_succ, List.set_nil, List.all_cons, List.all_nil, List.contains_cons, List.contains_nil, Option.map_some, Option.map_none, Option.getD_some, Option.getD_none, Option.bind_some, Option.bind_none, Nat.reduceAdd, Nat.reduceSub, Nat.reduceLT, Nat.reduceLeDiff, Nat.reduceEqDiff, Nat.reduceBEq, beq_self_eq_true, Bool.and_true, Bool.true_and, Bool.and_false, Bool.false_and, Bool.or_true, Bool.true_or, Bool.or_false, Bool.false_or, Bool.not_true, Bool.not_false, if_true, if_false, and_true, true_and, and_self, ite_true, ite_false, decide_true, decide_false, Bool.false_eq_true, reduceCtorEq, Nat.zero_add, Nat.sub_self, Nat.lt_irrefl, e_tup_no h hn]
/-- a profile -/
def okP : D → Bool
  | .tup [.int a, .int b, .int c, .int d, .int e, .int f] => decide (0 ≤ a) && decide (0 ≤ b) && decide (0 ≤ c) && decide (0 ≤ d) && decide (0 ≤ e) && decide (0 ≤ f) && (decide (1 ≤ a + b + c + d + e + f) && decide (a + b + c + d + e + f ≤ 60))
  | _ => false
theorem okP_no {d : D} (hn : ∀ ds, d = .tup ds → ds.length ≠ 6) : okP d = false := by
  unfold okP
  split
  · exact absurd rfl (hn _ rfl)
  · rfl
theorem okP_P6 {d : D} (h : okP d = true) : ∃ a b c x e f, d = P6 a b c x e f ∧ 0 ≤ a ∧ 0 ≤ b ∧ 0 ≤ c ∧ 0 ≤ x ∧ 0 ≤ e ∧ 0 ≤ f ∧ 1 ≤ a + b + c + x + e + f ∧ a + b + c + x + e + f ≤ 60 := by
  unfold okP at h
  split at h
  · simp only [Bool.and_eq_true, decide_eq_true_eq] at h
    exact ⟨_, _, _, _, _, _, rfl, h.1.1.1.1.1.1, h.1.1.1.1.1.2, h.1.1.1.1.2, h.1.1.1.2, h.1.1.2, h.1.2, h.2.1, h.2.2⟩
  · cases h
theorem okP_all {d0 d1 d2 d3 d4 d5 : D} (h : (isNat d0 && isNat d1 && isNat d2 && isNat d3 && isNat d4 && isNat d5) = false) : okP (.tup [d0, d1, d2, d3, d4, d5]) = false := by
  cases hk : okP (.tup [d0, d1, d2, d3, d4, d5]) with
  | false => rfl
  | true =>
    obtain ⟨a, b, c, x, e, f, he, h1, h2, h3, h4, h5, h6, _⟩ := okP_P6 hk
    unfold P6 at he
    injection he with he
    injection he with e0 he; injection he with e1 he; injection he with e2 he; injection he with e3 he; injection he with e4 he; injection he with e5 he
    subst e0 e1 e2 e3 e4 e5
    simp only [isNat, decide_eq_true h1, decide_eq_true h2, decide_eq_true h3, decide_eq_true h4, decide_eq_true h5, decide_eq_true h6, Bool.and_self] at h
    cases h
theorem e_check_no {d : D} (m : m_are_naturals [(false, d), (false, .int 6)] = .ok (false, .bl false) [none, none]) : m_check_profile [(false, d)] = .err "InvalidProfile" [("given", d)] [none] := by
  unfold m_check_profile b_check_profile
  simp only [most, kVal_ap, kSh_ap, kCo_ap, kCons_ap, kSeq_n, kSeq_r, kRet_ap, kDrop_ap, kAsg_ap, kIf_t, kIf_f, kMk_ap, kBin_ap, kNot_ap, kAndV_ap, kOrV_ap, kNotV2_ap, kNotV_ap, kCh3_ap, kCh2_ap, kCh1_ap, kLoop2_n, kLoop2_r, kLoop_ap, kB_ap, kSub_ap, kNext_ap, kAB_ap, kPar2_ap, kPar_ap, kApp3_ap, kApp2_ap, kApp_ap, kMeth2_ap, kMeth_ap, kSeqI_ap, kRng_ap, kEn_ap, zp_s, kZip_ap, kLc_ap, kL3_ap, kL2_t, kL2_f, kL1_ap, kSl3_ap, kSl2_ap, kSl_ap, kErr_ap, kPm_ap, ap_op1, ap_opN, ap_intO, opt_some, opt_none, sure_ok, sure_err, sure_bad, nm_f, nm_t, sl_s, rs_s, mk_s, put_t, lcE_ok, fn_ret, fn_next, fn_err, back_ok, back_err, args_s, op2_s, op1_s, opN_s, opX_s, lkS_s, lkC_s, frS_n, frS_f, th_ok, th_err, th_bad, ap_bind, ap_pure, ap_fail, ap_name, ap_slot, ap_val, ap_sh, ap_nil, ap_cons, ap_seq, ap_ret, ap_retSlot, ap_drop, ap_asg, ap_if, ap_cst, ap_tup, ap_lst, ap_bin2, ap_op2, ap_un1, ap_callN, look_s, look_v, looks_nil, looks_cons, shs_nil, shs_cons, ap_retB, ap_bool, ap_chain, ap_truO, ap_tr, ap_andT, ap_orT, ap_notT, ap_truB, ap_keep, ap_andV, ap_orV, ap_notV, ap_ifV, ap_callM, ap_callO, ap_must, ap_sure, ap_loop0, ap_loop, ap_for, ap_nm, ap_tp, ap_nilB, ap_consB, ap_sub, ap_setO, ap_asgB, ap_par, ap_appO, ap_app, ap_ty, ap_opm, ap_meth, ap_seqI, ap_rng, ap_enum, ap_zip, ap_lc, ap_lc0, ap_lcL, ap_free, ap_wipe0, ap_wipe, ap_back0, ap_back, ap_sl, ap_part, ap_raise, ap_lam, ap_perm, ap_fnR, outs00, outs01, outs02, outs03, outs1, outs2, outs3, argsOf, refsOf, backs, diff, truD, blOf, walkD, itemsD, sqD, zipL, List.zipWith_cons_cons, List.zipWith_nil_left, List.zipWith_nil_right, List.map_cons, List.map_nil, List.length_cons, List.length_nil, List.replicate, List.cons_append, List.nil_append, List.append_nil, List.getElem?_cons_zero, List.getElem?_cons_succ, List.getElem?_nil, List.set_cons_zero, List.set_cons_succ, List.set_nil, List.all_cons, List.all_nil, List.contains_cons, List.contains_nil, Option.map_some, Option.map_none, Option.getD_some, Option.getD_none, Option.bind_some, Option.bind_none, Nat.reduceAdd, Nat.reduceSub, Nat.reduceLT, Nat.reduceLeDiff, Nat.reduceEqDiff, Nat.reduceBEq, beq_self_eq_true, Bool.and_true, Bool.true_and, Bool.and_false, Bool.false_and, Bool.or_true, Bool.true_or, Bool.or_false, Bool.false_or, Bool.not_true, Bool.not_false, if_true, if_false, and_true, true_and, and_self, ite_true, ite_false, decide_true, decide_false, Bool.false_eq_true, reduceCtorEq, Nat.zero_add, Nat.sub_self, Nat.lt_irrefl, lenO, m]
def wr6 (a b c d e f : Int) : Bool := decide (1 ≤ a + (b + (c + (d + (e + (f + 0)))))) && decide (a + (b + (c + (d + (e + (f + 0))))) ≤ 60)
theorem wr6_eq (a b c d e f : Int) : wr6 a b c d e f = (decide (1 ≤ a + b + c + d + e + f) && decide (a + b + c + d + e + f ≤ 60)) := by
  unfold wr6
  congr 2 <;> simp only [eq_iff_iff] <;> omega
theorem e_check_in {a b c d e f : Int} (m : m_are_naturals [(false, P6 a b c d e f), (false, .int 6)] = .ok (false, .bl true) [none, none]) : m_check_profile [(false, P6 a b c d e f)] = if wr6 a b c d e f = true then .ok (false, .non) [none] else .err "InvalidProfile" [("given", P6 a b c d e f)] [none] := by
  unfold m_check_profile b_check_profile c_MOST_VOTERS wr6
  simp only [most, kVal_ap, kSh_ap, kCo_ap, kCons_ap, kSeq_n, kSeq_r, kRet_ap, kDrop_ap, kAsg_ap, kIf_t, kIf_f, kMk_ap, kBin_ap, kNot_ap, kAndV_ap, kOrV_ap, kNotV2_ap, kNotV_ap, kCh3_ap, kCh2_ap, kCh1_ap, kLoop2_n, kLoop2_r, kLoop_ap, kB_ap, kSub_ap, kNext_ap, kAB_ap, kPar2_ap, kPar_ap, kApp3_ap, kApp2_ap, kApp_ap, kMeth2_ap, kMeth_ap, kSeqI_ap, kRng_ap, kEn_ap, zp_s, kZip_ap, kLc_ap, kL3_ap, kL2_t, kL2_f, kL1_ap, kSl3_ap, kSl2_ap, kSl_ap, kErr_ap, kPm_ap, ap_op1, ap_opN, ap_intO, opt_some, opt_none, sure_ok, sure_err, sure_bad, nm_f, nm_t, sl_s, rs_s, mk_s, put_t, lcE_ok, fn_ret, fn_next, fn_err, back_ok, back_err, args_s, op2_s, op1_s, opN_s, opX_s, lkS_s, lkC_s, frS_n, frS_f, th_ok, th_err, th_bad, ap_bind, ap_pure, ap_fail, ap_name, ap_slot, ap_val, ap_sh, ap_nil, ap_cons, ap_seq, ap_ret, ap_retSlot, ap_drop, ap_asg, ap_if, ap_cst, ap_tup, ap_lst, ap_bin2, ap_op2, ap_un1, ap_callN, look_s, look_v, looks_nil, looks_cons, shs_nil, shs_cons, ap_retB, ap_bool, ap_chain, ap_truO, ap_tr, ap_andT, ap_orT, ap_notT, ap_truB, ap_keep, ap_andV, ap_orV, ap_notV, ap_ifV, ap_callM, ap_callO, ap_must, ap_sure, ap_loop0, ap_loop, ap_for, ap_nm, ap_tp, ap_nilB, ap_consB, ap_sub, ap_setO, ap_asgB, ap_par, ap_appO, ap_app, ap_ty, ap_opm, ap_meth, ap_seqI, ap_rng, ap_enum, ap_zip, ap_lc, ap_lc0, ap_lcL, ap_free, ap_wipe0, ap_wipe, ap_back0, ap_back, ap_sl, ap_part, ap_raise, ap_lam, ap_perm, ap_fnR, outs00, outs01, outs02, outs03, outs1, outs2, outs3, argsOf, refsOf, backs, diff, truD, blOf, walkD, itemsD, sqD, zipL, List.zipWith_cons_cons, List.zipWith_nil_left, List.zipWith_nil_right, List.map_cons, List.map_nil, List.length_cons, List.length_nil, List.replicate, List.cons_append, List.nil_append, List.append_nil, List.getElem?_cons_zero, List.getElem?_cons_succ, List.getElem?_nil, List.set_cons_zero, List.set_cons_succ, List.set_nil, List.all_cons, List.all_nil, List.contains_cons, List.contains_nil, Option.map_some, Option.map_none, Option.getD_some, Option.getD_none, Option.bind_some, Option.bind_none, Nat.reduceAdd, Nat.reduceSub, Nat.reduceLT, Nat.reduceLeDiff, Nat.reduceEqDiff, Nat.reduceBEq, beq_self_eq_true, Bool.and_true, Bool.true_and, Bool.and_false, Bool.false_and, Bool.or_true, Bool.true_or, Bool.or_false, Bool.false_or, Bool.not_true, Bool.not_false, if_true, if_false, and_true, true_and, and_self, ite_true, ite_false, decide_true, decide_false, Bool.false_eq_true, reduceCtorEq, Nat.zero_add, Nat.sub_self, Nat.lt_irrefl, lenO, m, sum6, leI]
  cases decide (1 ≤ a + (b + (c + (d + (e + (f + 0)))))) <;> simp only [most, kVal_ap, kSh_ap, kCo_ap, kCons_ap, kSeq_n, kSeq_r, kRet_ap, kDrop_ap, kAsg_ap, kIf_t, kIf_f, kMk_ap, kBin_ap, kNot_ap, kAndV_ap, kOrV_ap, kNotV2_ap, kNotV_ap, kCh3_ap, kCh2_ap, kCh1_ap, kLoop2_n, kLoop2_r, kLoop_ap, kB_ap, kSub_ap, kNext_ap, kAB_ap, kPar2_ap, kPar_ap, kApp3_ap, kApp2_ap, kApp_ap, kMeth2_ap, kMeth_ap, kSeqI_ap, kRng_ap, kEn_ap, zp_s, kZip_ap, kLc_ap, kL3_ap, kL2_t, kL2_f, kL1_ap, kSl3_ap, kSl2_ap, kSl_ap, kErr_ap, kPm_ap, ap_op1, ap_opN, ap_intO, opt_some, opt_none, sure_ok, sure_err, sure_bad, nm_f, nm_t, sl_s, rs_s, mk_s, put_t, lcE_ok, fn_ret, fn_next, fn_err, back_ok, back_err, args_s, op2_s, op1_s, opN_s, opX_s, lkS_s, lkC_s, frS_n, frS_f, th_ok, th_err, th_bad, ap_bind, ap_pure, ap_fail, ap_name, ap_slot, ap_val, ap_sh, ap_nil, ap_cons, ap_seq, ap_ret, ap_retSlot, ap_drop, ap_asg, ap_if, ap_cst, ap_tup, ap_lst, ap_bin2, ap_op2, ap_un1, ap_callN, look_s, look_v, looks_nil, looks_cons, shs_nil, shs_cons, ap_retB, ap_bool, ap_chain, ap_truO, ap_tr, ap_andT, ap_orT, ap_notT, ap_truB, ap_keep, ap_andV, ap_orV, ap_notV, ap_ifV, ap_callM, ap_callO, ap_must, ap_sure, ap_loop0, ap_loop, ap_for, ap_nm, ap_tp, ap_nilB, ap_consB, ap_sub, ap_setO, ap_asgB, ap_par, ap_appO, ap_app, ap_ty, ap_opm, ap_meth, ap_seqI, ap_rng, ap_enum, ap_zip, ap_lc, ap_lc0, ap_lcL, ap_free, ap_wipe0, ap_wipe, ap_back0, ap_back, ap_sl, ap_part, ap_raise, ap_lam, ap_perm, ap_fnR, outs00, outs01, outs02, outs03, outs1, outs2, outs3, argsOf, refsOf, backs, diff, truD, blOf, walkD, itemsD, sqD, zipL, List.zipWith_cons_cons, List.zipWith_nil_left, List.zipWith_nil_right, List.map_cons, List.map_nil, List.length_cons, List.length_nil, List.replicate, List.cons_append, List.nil_append, List.append_nil, List.getElem?_cons_zero, List.getElem?_cons_succ, List.getElem?_nil, List.set_cons_zero, List.set_cons_succ, List.set_nil, List.all_cons, List.all_nil, List.contains_cons, List.contains_nil, Option.map_some, Option.map_none, Option.getD_some, Option.getD_none, Option.bind_some, Option.bind_none, Nat.reduceAdd, Nat.reduceSub, Nat.reduceLT, Nat.reduceLeDiff, Nat.reduceEqDiff, Nat.reduceBEq, beq_self_eq_true, Bool.and_true, Bool.true_and, Bool.and_false, Bool.false_and, Bool.or_true, Bool.true_or, Bool.or_false, Bool.false_or, Bool.not_true, Bool.not_false, if_true, if_false, and_true, true_and, and_self, ite_true, ite_false, decide_true, decide_false, Bool.false_eq_true, reduceCtorEq, Nat.zero_add, Nat.sub_self, Nat.lt_irrefl, leI, sum6]
  cases decide (a + (b + (c + (d + (e + (f + 0))))) ≤ 60) <;> simp only [most, kVal_ap, kSh_ap, kCo_ap, kCons_ap, kSeq_n, kSeq_r, kRet_ap, kDrop_ap, kAsg_ap, kIf_t, kIf_f, kMk_ap, kBin_ap, kNot_ap, kAndV_ap, kOrV_ap, kNotV2_ap, kNotV_ap, kCh3_ap, kCh2_ap, kCh1_ap, kLoop2_n, kLoop2_r, kLoop_ap, kB_ap, kSub_ap, kNext_ap, kAB_ap, kPar2_ap, kPar_ap, kApp3_ap, kApp2_ap, kApp_ap, kMeth2_ap, kMeth_ap, kSeqI_ap, kRng_ap, kEn_ap, zp_s, kZip_ap, kLc_ap, kL3_ap, kL2_t, kL2_f, kL1_ap, kSl3_ap, kSl2_ap, kSl_ap, kErr_ap, kPm_ap, ap_op1, ap_opN, ap_intO, opt_some, opt_none, sure_ok, sure_err, sure_bad, nm_f, nm_t, sl_s, rs_s, mk_s, put_t, lcE_ok, fn_ret, fn_next, fn_err, back_ok, back_err, args_s, op2_s, op1_s, opN_s, opX_s, lkS_s, lkC_s, frS_n, frS_f, th_ok, th_err, th_bad, ap_bind, ap_pure, ap_fail, ap_name, ap_slot, ap_val, ap_sh, ap_nil, ap_cons, ap_seq, ap_ret, ap_retSlot, ap_drop, ap_asg, ap_if, ap_cst, ap_tup, ap_lst, ap_bin2, ap_op2, ap_un1, ap_callN, look_s, look_v, looks_nil, looks_cons, shs_nil, shs_cons, ap_retB, ap_bool, ap_chain, ap_truO, ap_tr, ap_andT, ap_orT, ap_notT, ap_truB, ap_keep, ap_andV, ap_orV, ap_notV, ap_ifV, ap_callM, ap_callO, ap_must, ap_sure, ap_loop0, ap_loop, ap_for, ap_nm, ap_tp, ap_nilB, ap_consB, ap_sub, ap_setO, ap_asgB, ap_par, ap_appO, ap_app, ap_ty, ap_opm, ap_meth, ap_seqI, ap_rng, ap_enum, ap_zip, ap_lc, ap_lc0, ap_lcL, ap_free, ap_wipe0, ap_wipe, ap_back0, ap_back, ap_sl, ap_part, ap_raise, ap_lam, ap_perm, ap_fnR, outs00, outs01, outs02, outs03, outs1, outs2, outs3, argsOf, refsOf, backs, diff, truD, blOf, walkD, itemsD, sqD, zipL, List.zipWith_cons_cons, List.zipWith_nil_left, List.zipWith_nil_right, List.map_cons, List.map_nil, List.length_cons, List.length_nil, List.replicate, List.cons_append, List.nil_append, List.append_nil, List.getElem?_cons_zero, List.getElem?_cons_succ, List.getElem?_nil, List.set_cons_zero, List.set_cons_succ, List.set_nil, List.all_cons, List.all_nil, List.contains_cons, List.contains_nil, Option.map_some, Option.map_none, Option.getD_some, Option.getD_none, Option.bind_some, Option.bind_none, Nat.reduceAdd, Nat.reduceSub, Nat.reduceLT, Nat.reduceLeDiff, Nat.reduceEqDiff, Nat.reduceBEq, beq_self_eq_true, Bool.and_true, Bool.true_and, Bool.and_false, Bool.false_and, Bool.or_true, Bool.true_or, Bool.or_false, Bool.false_or, Bool.not_true, Bool.not_false, if_true, if_false, and_true, true_and, and_self, ite_true, ite_false, decide_true, decide_false, Bool.false_eq_true, reduceCtorEq, Nat.zero_add, Nat.sub_self, Nat.lt_irrefl, leI]
theorem e_check {d : D} (hd : tyS d = true) : m_check_profile [(false, d)] = if okP d = true then .ok (false, .non) [none] else .err "InvalidProfile" [("given", d)] [none] := by
  obtain ⟨t, ht⟩ := tyS_ty hd
  by_cases hn : ∀ ds, d = .tup ds → ds.length ≠ 6
  · rw [e_check_no (e_are_no ht hn), okP_no hn]; rfl
  · have hx : ∃ ds, d = .tup ds ∧ ds.length = 6 := by
      apply Classical.byContradiction
      intro hc
      exact hn fun ds e l => hc ⟨ds, e, l⟩
    obtain ⟨ds, rfl, hl⟩ := hx
    match ds, hl with
    | [d0, d1, d2, d3, d4, d5], _ =>
      simp only [tyS, List.all_cons, List.all_nil, Bool.and_true, Bool.and_eq_true, Option.isSome_iff_exists] at hd
      obtain ⟨⟨t0, h0⟩, ⟨t1, h1⟩, ⟨t2, h2⟩, ⟨t3, h3⟩, ⟨t4, h4⟩, ⟨t5, h5⟩⟩ := hd
      have ea := e_are6 h0 h1 h2 h3 h4 h5
      cases hb : (isNat d0 && isNat d1 && isNat d2 && isNat d3 && isNat d4 && isNat d5) with
      | false =>
        rw [hb] at ea
        rw [e_check_no ea, okP_all hb]; rfl
      | true =>
        rw [hb] at ea
        simp only [Bool.and_eq_true] at hb
        obtain ⟨⟨⟨⟨⟨b0, b1⟩, b2⟩, b3⟩, b4⟩, b5⟩ := hb
        obtain ⟨p0, rfl, n0⟩ := isNat_int b0
        obtain ⟨p1, rfl, n1⟩ := isNat_int b1
        obtain ⟨p2, rfl, n2⟩ := isNat_int b2
        obtain ⟨p3, rfl, n3⟩ := isNat_int b3
        obtain ⟨p4, rfl, n4⟩ := isNat_int b4
        obtain ⟨p5, rfl, n5⟩ := isNat_int b5
        have ek : okP (.tup [.int p0, .int p1, .int p2, .int p3, .int p4, .int p5]) = wr6 p0 p1 p2 p3 p4 p5 := by
          simp only [okP, wr6_eq, decide_eq_true n0, decide_eq_true n1, decide_eq_true n2, decide_eq_true n3, decide_eq_true n4, decide_eq_true n5, Bool.and_self, Bool.true_and]
        rw [ek]
        exact e_check_in ea
end TT

set_option maxRecDepth 100000
set_option maxHeartbeats 4000000
/-! KP2: who wins, by the program and by the law. -/
namespace TT
open PySem PySem.Spec PyProof.Rows L2
theorem neL_nil (xs : List D) : neD (.lst xs) (.lst []) = some (false, .bl (!xs.isEmpty)) := by
  cases xs <;> kernel_rfl
theorem lcL_fm {own : List Nat} {bd : D → M Unit} {test : M Bool} {elt : M B} {e : Ev} {f : D → Bool} {y : D → D} : ∀ (ds acc : List D), acc.length + ds.length ≤ most →
    (∀ d ∈ ds, ∃ e1 e2, bd d e = .ok () e1 ∧ test e1 = .ok (f d) e2 ∧ (f d = true → ∃ e3 o, elt e2 = .ok (o, y d) e3 ∧ wipeE e3 own = e) ∧ (f d = false → wipeE e2 own = e)) →
    lcL own bd test elt acc ds e = .ok (acc ++ (ds.filter f).map y) e
  | [], acc, _, _ => by simp only [ap_lc0, List.filter_nil, List.map_nil, List.append_nil]
  | d :: ds, acc, hl, h => by
    obtain ⟨e1, e2, h1, h2, h3, h4⟩ := h d List.mem_cons_self
    rw [List.length_cons] at hl
    have ih := fun acc' hl' => lcL_fm ds acc' hl' fun d' m => h d' (List.mem_cons_of_mem _ m)
    cases hf : f d with
    | true =>
      obtain ⟨e3, o, h5, h6⟩ := h3 hf
      rw [hf] at h2
      simp only [most, kVal_ap, kSh_ap, kCo_ap, kCons_ap, kSeq_n, kSeq_r, kRet_ap, kDrop_ap, kAsg_ap, kIf_t, kIf_f, kMk_ap, kBin_ap, kNot_ap, kAndV_ap, kOrV_ap, kNotV2_ap, kNotV_ap, kCh3_ap, kCh2_ap, kCh1_ap, kLoop2_n, kLoop2_r, kLoop_ap, kB_ap, kSub_ap, kNext_ap, kAB_ap, kPar2_ap, kPar_ap, kApp3_ap, kApp2_ap, kApp_ap, kMeth2_ap, kMeth_ap, kSeqI_ap, kRng_ap, kEn_ap, zp_s, kZip_ap, kLc_ap, kL3_ap, kL2_t, kL2_f, kL1_ap, kSl3_ap, kSl2_ap, kSl_ap, kErr_ap, kPm_ap, ap_op1, ap_opN, ap_intO, opt_some, opt_none, sure_ok, sure_err, sure_bad, nm_f, nm_t, sl_s, rs_s, mk_s, put_t, lcE_ok, fn_ret, fn_next, fn_err, back_ok, back_err, args_s, op2_s, op1_s, opN_s, opX_s, lkS_s, lkC_s, frS_n, frS_f, th_ok, th_err, th_bad, ap_bind, ap_pure, ap_fail, ap_name, ap_slot, ap_val, ap_sh, ap_nil, ap_cons, ap_seq, ap_ret, ap_retSlot, ap_drop, ap_asg, ap_if, ap_cst, ap_tup, ap_lst, ap_bin2, ap_op2, ap_un1, ap_callN, look_s, look_v, looks_nil, looks_cons, shs_nil, shs_cons, ap_retB, ap_bool, ap_chain, ap_truO, ap_tr, ap_andT, ap_orT, ap_notT, ap_truB, ap_keep, ap_andV, ap_orV, ap_notV, ap_ifV, ap_callM, ap_callO, ap_must, ap_sure, ap_loop0, ap_loop, ap_for, ap_nm, ap_tp, ap_nilB, ap_consB, ap_sub, ap_setO, ap_asgB, ap_par, ap_appO, ap_app, ap_ty, ap_opm, ap_meth, ap_seqI, ap_rng, ap_enum, ap_zip, ap_lc, ap_lc0, ap_lcL, ap_free, ap_wipe0, ap_wipe, ap_back0, ap_back, ap_sl, ap_part, ap_raise, ap_lam, ap_perm, ap_fnR, outs00, outs01, outs02, outs03, outs1, outs2, outs3, argsOf, refsOf, backs, diff, truD, blOf, walkD, itemsD, sqD, zipL, List.zipWith_cons_cons, List.zipWith_nil_left, List.zipWith_nil_right, List.map_cons, List.map_nil, List.length_cons, List.length_nil, List.replicate, List.cons_append, List.nil_append, List.append_nil, List.getElem?_cons_zero, List.getElem?_cons_succ, List.getElem?_nil, List.set_cons_zero, List.set_cons_succ, List.set_nil, List.all_cons, List.all_nil, List.contains_cons, List.contains_nil, Option.map_some, Option.map_none, Option.getD_some, Option.getD_none, Option.bind_some, Option.bind_none, Nat.reduceAdd, Nat.reduceSub, Nat.reduceLT, Nat.reduceLeDiff, Nat.reduceEqDiff, Nat.reduceBEq, beq_self_eq_true, Bool.and_true, Bool.true_and, Bool.and_false, Bool.false_and, Bool.or_true, Bool.true_or, Bool.or_false, Bool.false_or, Bool.not_true, Bool.not_false, if_true, if_false, and_true, true_and, and_self, ite_true, ite_false, decide_true, decide_false, Bool.false_eq_true, reduceCtorEq, Nat.zero_add, Nat.sub_self, Nat.lt_irrefl, h1, h2, h5, h6]
      rw [if_pos (show acc.length < most by omega), ih _ (by rw [List.length_append, List.length_singleton]; omega), List.filter_cons, if_pos hf, List.map_cons, List.append_assoc]
      rfl
    | false =>
      rw [hf] at h2
      simp only [most, kVal_ap, kSh_ap, kCo_ap, kCons_ap, kSeq_n, kSeq_r, kRet_ap, kDrop_ap, kAsg_ap, kIf_t, kIf_f, kMk_ap, kBin_ap, kNot_ap, kAndV_ap, kOrV_ap, kNotV2_ap, kNotV_ap, kCh3_ap, kCh2_ap, kCh1_ap, kLoop2_n, kLoop2_r, kLoop_ap, kB_ap, kSub_ap, kNext_ap, kAB_ap, kPar2_ap, kPar_ap, kApp3_ap, kApp2_ap, kApp_ap, kMeth2_ap, kMeth_ap, kSeqI_ap, kRng_ap, kEn_ap, zp_s, kZip_ap, kLc_ap, kL3_ap, kL2_t, kL2_f, kL1_ap, kSl3_ap, kSl2_ap, kSl_ap, kErr_ap, kPm_ap, ap_op1, ap_opN, ap_intO, opt_some, opt_none, sure_ok, sure_err, sure_bad, nm_f, nm_t, sl_s, rs_s, mk_s, put_t, lcE_ok, fn_ret, fn_next, fn_err, back_ok, back_err, args_s, op2_s, op1_s, opN_s, opX_s, lkS_s, lkC_s, frS_n, frS_f, th_ok, th_err, th_bad, ap_bind, ap_pure, ap_fail, ap_name, ap_slot, ap_val, ap_sh, ap_nil, ap_cons, ap_seq, ap_ret, ap_retSlot, ap_drop, ap_asg, ap_if, ap_cst, ap_tup, ap_lst, ap_bin2, ap_op2, ap_un1, ap_callN, look_s, look_v, looks_nil, looks_cons, shs_nil, shs_cons, ap_retB, ap_bool, ap_chain, ap_truO, ap_tr, ap_andT, ap_orT, ap_notT, ap_truB, ap_keep, ap_andV, ap_orV, ap_notV, ap_ifV, ap_callM, ap_callO, ap_must, ap_sure, ap_loop0, ap_loop, ap_for, ap_nm, ap_tp, ap_nilB, ap_consB, ap_sub, ap_setO, ap_asgB, ap_par, ap_appO, ap_app, ap_ty, ap_opm, ap_meth, ap_seqI, ap_rng, ap_enum, ap_zip, ap_lc, ap_lc0, ap_lcL, ap_free, ap_wipe0, ap_wipe, ap_back0, ap_back, ap_sl, ap_part, ap_raise, ap_lam, ap_perm, ap_fnR, outs00, outs01, outs02, outs03, outs1, outs2, outs3, argsOf, refsOf, backs, diff, truD, blOf, walkD, itemsD, sqD, zipL, List.zipWith_cons_cons, List.zipWith_nil_left, List.zipWith_nil_right, List.map_cons, List.map_nil, List.length_cons, List.length_nil, List.replicate, List.cons_append, List.nil_append, List.append_nil, List.getElem?_cons_zero, List.getElem?_cons_succ, List.getElem?_nil, List.set_cons_zero, List.set_cons_succ, List.set_nil, List.all_cons, List.all_nil, List.contains_cons, List.contains_nil, Option.map_some, Option.map_none, Option.getD_some, Option.getD_none, Option.bind_some, Option.bind_none, Nat.reduceAdd, Nat.reduceSub, Nat.reduceLT, Nat.reduceLeDiff, Nat.reduceEqDiff, Nat.reduceBEq, beq_self_eq_true, Bool.and_true, Bool.true_and, Bool.and_false, Bool.false_and, Bool.or_true, Bool.true_or, Bool.or_false, Bool.false_or, Bool.not_true, Bool.not_false, if_true, if_false, and_true, true_and, and_self, ite_true, ite_false, decide_true, decide_false, Bool.false_eq_true, reduceCtorEq, Nat.zero_add, Nat.sub_self, Nat.lt_irrefl, h1, h2, h4 hf]
      rw [ih _ (by omega), List.filter_cons, if_neg (by rw [hf]; decide)]
theorem c6 : decide (((6 : Nat) : Int) = 6) = true := by decide
theorem lt0 (i : Int) : decide (i < 0) = !decide (0 ≤ i) := by
  by_cases h : 0 ≤ i
  · rw [decide_eq_true h, decide_eq_false (by omega)]; rfl
  · rw [decide_eq_false h, decide_eq_true (by omega)]; rfl
theorem isInt_i (i : Int) : isiD "int" (.int i) = some (false, .bl true) := by kernel_rfl
theorem isBool_i (i : Int) : isiD "bool" (.int i) = some (false, .bl false) := by kernel_rfl
theorem e_law_no {d : D} {t : String} (h : tyD d = some t) (hn : ∀ ds, d = .tup ds → ds.length ≠ 6) : m_law_is_profile [(false, d)] = .ok (false, .bl false) [none] := by
  cases d with
  | tup ds =>
    have hl : decide ((ds.length : Int) = 6) = false := decide_eq_false (by have := hn ds rfl; omega)
    unfold m_law_is_profile b_law_is_profile
    simp only [most, kVal_ap, kSh_ap, kCo_ap, kCons_ap, kSeq_n, kSeq_r, kRet_ap, kDrop_ap, kAsg_ap, kIf_t, kIf_f, kMk_ap, kBin_ap, kNot_ap, kAndV_ap, kOrV_ap, kNotV2_ap, kNotV_ap, kCh3_ap, kCh2_ap, kCh1_ap, kLoop2_n, kLoop2_r, kLoop_ap, kB_ap, kSub_ap, kNext_ap, kAB_ap, kPar2_ap, kPar_ap, kApp3_ap, kApp2_ap, kApp_ap, kMeth2_ap, kMeth_ap, kSeqI_ap, kRng_ap, kEn_ap, zp_s, kZip_ap, kLc_ap, kL3_ap, kL2_t, kL2_f, kL1_ap, kSl3_ap, kSl2_ap, kSl_ap, kErr_ap, kPm_ap, ap_op1, ap_opN, ap_intO, opt_some, opt_none, sure_ok, sure_err, sure_bad, nm_f, nm_t, sl_s, rs_s, mk_s, put_t, lcE_ok, fn_ret, fn_next, fn_err, back_ok, back_err, args_s, op2_s, op1_s, opN_s, opX_s, lkS_s, lkC_s, frS_n, frS_f, th_ok, th_err, th_bad, ap_bind, ap_pure, ap_fail, ap_name, ap_slot, ap_val, ap_sh, ap_nil, ap_cons, ap_seq, ap_ret, ap_retSlot, ap_drop, ap_asg, ap_if, ap_cst, ap_tup, ap_lst, ap_bin2, ap_op2, ap_un1, ap_callN, look_s, look_v, looks_nil, looks_cons, shs_nil, shs_cons, ap_retB, ap_bool, ap_chain, ap_truO, ap_tr, ap_andT, ap_orT, ap_notT, ap_truB, ap_keep, ap_andV, ap_orV, ap_notV, ap_ifV, ap_callM, ap_callO, ap_must, ap_sure, ap_loop0, ap_loop, ap_for, ap_nm, ap_tp, ap_nilB, ap_consB, ap_sub, ap_setO, ap_asgB, ap_par, ap_appO, ap_app, ap_ty, ap_opm, ap_meth, ap_seqI, ap_rng, ap_enum, ap_zip, ap_lc, ap_lc0, ap_lcL, ap_free, ap_wipe0, ap_wipe, ap_back0, ap_back, ap_sl, ap_part, ap_raise, ap_lam, ap_perm, ap_fnR, outs00, outs01, outs02, outs03, outs1, outs2, outs3, argsOf, refsOf, backs, diff, truD, blOf, walkD, itemsD, sqD, zipL, List.zipWith_cons_cons, List.zipWith_nil_left, List.zipWith_nil_right, List.map_cons, List.map_nil, List.length_cons, List.length_nil, List.replicate, List.cons_append, List.nil_append, List.append_nil, List.getElem?_cons_zero, List.getElem?_cons_succ, List.getElem?_nil, List.set_cons_zero, List.set_cons_succ, List.set_nil, List.all_cons, List.all_nil, List.contains_cons, List.contains_nil, Option.map_some, Option.map_none, Option.getD_some, Option.getD_none, Option.bind_some, Option.bind_none, Nat.reduceAdd, Nat.reduceSub, Nat.reduceLT, Nat.reduceLeDiff, Nat.reduceEqDiff, Nat.reduceBEq, beq_self_eq_true, Bool.and_true, Bool.true_and, Bool.and_false, Bool.false_and, Bool.or_true, Bool.true_or, Bool.or_false, Bool.false_or, Bool.not_true, Bool.not_false, if_true, if_false, and_true, true_and, and_self, ite_true, ite_false, decide_true, decide_false, Bool.false_eq_true, reduceCtorEq, Nat.zero_add, Nat.sub_self, Nat.lt_irrefl, isT_eq (d := .tup ds) rfl, isTup, lenT, neI, hl, most]
  | _ => cases h <;> kernel_rfl
theorem e_law_is {d : D} (hd : tyS d = true) : m_law_is_profile [(false, d)] = .ok (false, .bl (okP d)) [none] := by
  obtain ⟨t, ht⟩ := tyS_ty hd
  by_cases hn : ∀ ds, d = .tup ds → ds.length ≠ 6
  · rw [e_law_no ht hn, okP_no hn]
  · have hx : ∃ ds, d = .tup ds ∧ ds.length = 6 := by
      apply Classical.byContradiction
      intro hc
      exact hn fun ds e l => hc ⟨ds, e, l⟩
    obtain ⟨ds, rfl, hl⟩ := hx
    have hl' : decide ((ds.length : Int) = 6) = true := decide_eq_true (by omega)
    have hall : ∀ x ∈ ds, (tyD x).isSome = true := by simpa only [tyS, List.all_eq_true] using hd
    have key : lcL [1] (nmB 1) (orT (notT (trM (valM (un1 (isiD "int") (slotM 1))))) (orT (trM (valM (un1 (isiD "bool") (slotM 1)))) (boolM (bin2 ltD (slotM 1) (valM (cstM (.int 0))))))) (nameM 1) [] ds [some (false, .tup ds), none] = .ok ([] ++ (ds.filter fun x => !isNat x).map id) [some (false, .tup ds), none] := by
      refine lcL_fm ds [] (by rw [hl]; decide) fun x hx => ?_
      refine ⟨[some (false, .tup ds), some (false, x)], [some (false, .tup ds), some (false, x)], rfl, ?_, fun _ => ⟨[some (false, .tup ds), some (false, x)], false, rfl, rfl⟩, fun _ => rfl⟩
      have hx' := hall x hx
      cases x with
      | int i => simp only [most, kVal_ap, kSh_ap, kCo_ap, kCons_ap, kSeq_n, kSeq_r, kRet_ap, kDrop_ap, kAsg_ap, kIf_t, kIf_f, kMk_ap, kBin_ap, kNot_ap, kAndV_ap, kOrV_ap, kNotV2_ap, kNotV_ap, kCh3_ap, kCh2_ap, kCh1_ap, kLoop2_n, kLoop2_r, kLoop_ap, kB_ap, kSub_ap, kNext_ap, kAB_ap, kPar2_ap, kPar_ap, kApp3_ap, kApp2_ap, kApp_ap, kMeth2_ap, kMeth_ap, kSeqI_ap, kRng_ap, kEn_ap, zp_s, kZip_ap, kLc_ap, kL3_ap, kL2_t, kL2_f, kL1_ap, kSl3_ap, kSl2_ap, kSl_ap, kErr_ap, kPm_ap, ap_op1, ap_opN, ap_intO, opt_some, opt_none, sure_ok, sure_err, sure_bad, nm_f, nm_t, sl_s, rs_s, mk_s, put_t, lcE_ok, fn_ret, fn_next, fn_err, back_ok, back_err, args_s, op2_s, op1_s, opN_s, opX_s, lkS_s, lkC_s, frS_n, frS_f, th_ok, th_err, th_bad, ap_bind, ap_pure, ap_fail, ap_name, ap_slot, ap_val, ap_sh, ap_nil, ap_cons, ap_seq, ap_ret, ap_retSlot, ap_drop, ap_asg, ap_if, ap_cst, ap_tup, ap_lst, ap_bin2, ap_op2, ap_un1, ap_callN, look_s, look_v, looks_nil, looks_cons, shs_nil, shs_cons, ap_retB, ap_bool, ap_chain, ap_truO, ap_tr, ap_andT, ap_orT, ap_notT, ap_truB, ap_keep, ap_andV, ap_orV, ap_notV, ap_ifV, ap_callM, ap_callO, ap_must, ap_sure, ap_loop0, ap_loop, ap_for, ap_nm, ap_tp, ap_nilB, ap_consB, ap_sub, ap_setO, ap_asgB, ap_par, ap_appO, ap_app, ap_ty, ap_opm, ap_meth, ap_seqI, ap_rng, ap_enum, ap_zip, ap_lc, ap_lc0, ap_lcL, ap_free, ap_wipe0, ap_wipe, ap_back0, ap_back, ap_sl, ap_part, ap_raise, ap_lam, ap_perm, ap_fnR, outs00, outs01, outs02, outs03, outs1, outs2, outs3, argsOf, refsOf, backs, diff, truD, blOf, walkD, itemsD, sqD, zipL, List.zipWith_cons_cons, List.zipWith_nil_left, List.zipWith_nil_right, List.map_cons, List.map_nil, List.length_cons, List.length_nil, List.replicate, List.cons_append, List.nil_append, List.append_nil, List.getElem?_cons_zero, List.getElem?_cons_succ, List.getElem?_nil, List.set_cons_zero, List.set_cons_succ, List.set_nil, List.all_cons, List.all_nil, List.contains_cons, List.contains_nil, Option.map_some, Option.map_none, Option.getD_some, Option.getD_none, Option.bind_some, Option.bind_none, Nat.reduceAdd, Nat.reduceSub, Nat.reduceLT, Nat.reduceLeDiff, Nat.reduceEqDiff, Nat.reduceBEq, beq_self_eq_true, Bool.and_true, Bool.true_and, Bool.and_false, Bool.false_and, Bool.or_true, Bool.true_or, Bool.or_false, Bool.false_or, Bool.not_true, Bool.not_false, if_true, if_false, and_true, true_and, and_self, ite_true, ite_false, decide_true, decide_false, Bool.false_eq_true, reduceCtorEq, Nat.zero_add, Nat.sub_self, Nat.lt_irrefl, isInt_i, isBool_i, ltI, lt0, isNat]
      | ins _ _ _ => cases hx'
      | opq _ _ => cases hx'
      | _ => kernel_rfl
    rw [List.nil_append, List.map_id] at key
    cases hf : ds.filter fun x => !isNat x with
    | cons x xs =>
      rw [hf] at key
      have hno : okP (.tup ds) = false := by
        match ds, hl with
        | [d0, d1, d2, d3, d4, d5], _ =>
          refine okP_all ?_
          cases hb : (isNat d0 && isNat d1 && isNat d2 && isNat d3 && isNat d4 && isNat d5) with
          | false => rfl
          | true =>
            simp only [Bool.and_eq_true] at hb
            obtain ⟨⟨⟨⟨⟨b0, b1⟩, b2⟩, b3⟩, b4⟩, b5⟩ := hb
            simp only [List.filter_cons, b0, b1, b2, b3, b4, b5, Bool.not_true, Bool.false_eq_true, if_false, List.filter_nil] at hf
            cases hf
      rw [hno]
      unfold m_law_is_profile b_law_is_profile
      simp only [most, kVal_ap, kSh_ap, kCo_ap, kCons_ap, kSeq_n, kSeq_r, kRet_ap, kDrop_ap, kAsg_ap, kIf_t, kIf_f, kMk_ap, kBin_ap, kNot_ap, kAndV_ap, kOrV_ap, kNotV2_ap, kNotV_ap, kCh3_ap, kCh2_ap, kCh1_ap, kLoop2_n, kLoop2_r, kLoop_ap, kB_ap, kSub_ap, kNext_ap, kAB_ap, kPar2_ap, kPar_ap, kApp3_ap, kApp2_ap, kApp_ap, kMeth2_ap, kMeth_ap, kSeqI_ap, kRng_ap, kEn_ap, zp_s, kZip_ap, kLc_ap, kL3_ap, kL2_t, kL2_f, kL1_ap, kSl3_ap, kSl2_ap, kSl_ap, kErr_ap, kPm_ap, ap_op1, ap_opN, ap_intO, opt_some, opt_none, sure_ok, sure_err, sure_bad, nm_f, nm_t, sl_s, rs_s, mk_s, put_t, lcE_ok, fn_ret, fn_next, fn_err, back_ok, back_err, args_s, op2_s, op1_s, opN_s, opX_s, lkS_s, lkC_s, frS_n, frS_f, th_ok, th_err, th_bad, ap_bind, ap_pure, ap_fail, ap_name, ap_slot, ap_val, ap_sh, ap_nil, ap_cons, ap_seq, ap_ret, ap_retSlot, ap_drop, ap_asg, ap_if, ap_cst, ap_tup, ap_lst, ap_bin2, ap_op2, ap_un1, ap_callN, look_s, look_v, looks_nil, looks_cons, shs_nil, shs_cons, ap_retB, ap_bool, ap_chain, ap_truO, ap_tr, ap_andT, ap_orT, ap_notT, ap_truB, ap_keep, ap_andV, ap_orV, ap_notV, ap_ifV, ap_callM, ap_callO, ap_must, ap_sure, ap_loop0, ap_loop, ap_for, ap_nm, ap_tp, ap_nilB, ap_consB, ap_sub, ap_setO, ap_asgB, ap_par, ap_appO, ap_app, ap_ty, ap_opm, ap_meth, ap_seqI, ap_rng, ap_enum, ap_zip, ap_lc, ap_lc0, ap_lcL, ap_free, ap_wipe0, ap_wipe, ap_back0, ap_back, ap_sl, ap_part, ap_raise, ap_lam, ap_perm, ap_fnR, outs00, outs01, outs02, outs03, outs1, outs2, outs3, argsOf, refsOf, backs, diff, truD, blOf, walkD, itemsD, sqD, zipL, List.zipWith_cons_cons, List.zipWith_nil_left, List.zipWith_nil_right, List.map_cons, List.map_nil, List.length_cons, List.length_nil, List.replicate, List.cons_append, List.nil_append, List.append_nil, List.getElem?_cons_zero, List.getElem?_cons_succ, List.getElem?_nil, List.set_cons_zero, List.set_cons_succ, List.set_nil, List.all_cons, List.all_nil, List.contains_cons, List.contains_nil, Option.map_some, Option.map_none, Option.getD_some, Option.getD_none, Option.bind_some, Option.bind_none, Nat.reduceAdd, Nat.reduceSub, Nat.reduceLT, Nat.reduceLeDiff, Nat.reduceEqDiff, Nat.reduceBEq, beq_self_eq_true, Bool.and_true, Bool.true_and, Bool.and_false, Bool.false_and, Bool.or_true, Bool.true_or, Bool.or_false, Bool.false_or, Bool.not_true, Bool.not_false, if_true, if_false, and_true, true_and, and_self, ite_true, ite_false, decide_true, decide_false, Bool.false_eq_true, reduceCtorEq, Nat.zero_add, Nat.sub_self, Nat.lt_irrefl, isT_eq (d := .tup ds) rfl, isTup, lenT, neI, hl', most, key, neL_nil, List.isEmpty_cons]
    | nil =>
      rw [hf] at key
      match ds, hl with
      | [d0, d1, d2, d3, d4, d5], _ =>
        have hb : ∀ x ∈ [d0, d1, d2, d3, d4, d5], isNat x = true := fun x hx => by
          cases hb : isNat x with
          | true => rfl
          | false =>
            have : x ∈ List.filter (fun x => !isNat x) [d0, d1, d2, d3, d4, d5] := List.mem_filter.mpr ⟨hx, by rw [hb]; rfl⟩
            rw [hf] at this
            cases this
        obtain ⟨p0, rfl, n0⟩ := isNat_int (hb d0 (by simp))
        obtain ⟨p1, rfl, n1⟩ := isNat_int (hb d1 (by simp))
        obtain ⟨p2, rfl, n2⟩ := isNat_int (hb d2 (by simp))
        obtain ⟨p3, rfl, n3⟩ := isNat_int (hb d3 (by simp))
        obtain ⟨p4, rfl, n4⟩ := isNat_int (hb d4 (by simp))
        obtain ⟨p5, rfl, n5⟩ := isNat_int (hb d5 (by simp))
        have ek : okP (.tup [.int p0, .int p1, .int p2, .int p3, .int p4, .int p5]) = wr6 p0 p1 p2 p3 p4 p5 := by
          simp only [okP, wr6_eq, decide_eq_true n0, decide_eq_true n1, decide_eq_true n2, decide_eq_true n3, decide_eq_true n4, decide_eq_true n5, Bool.and_self, Bool.true_and]
        rw [ek]
        have sm : sumD [.tup [.int p0, .int p1, .int p2, .int p3, .int p4, .int p5]] = some (false, .int (p0 + (p1 + (p2 + (p3 + (p4 + (p5 + 0))))))) := sum6 _ _ _ _ _ _
        unfold m_law_is_profile b_law_is_profile wr6
        simp only [most, kVal_ap, kSh_ap, kCo_ap, kCons_ap, kSeq_n, kSeq_r, kRet_ap, kDrop_ap, kAsg_ap, kIf_t, kIf_f, kMk_ap, kBin_ap, kNot_ap, kAndV_ap, kOrV_ap, kNotV2_ap, kNotV_ap, kCh3_ap, kCh2_ap, kCh1_ap, kLoop2_n, kLoop2_r, kLoop_ap, kB_ap, kSub_ap, kNext_ap, kAB_ap, kPar2_ap, kPar_ap, kApp3_ap, kApp2_ap, kApp_ap, kMeth2_ap, kMeth_ap, kSeqI_ap, kRng_ap, kEn_ap, zp_s, kZip_ap, kLc_ap, kL3_ap, kL2_t, kL2_f, kL1_ap, kSl3_ap, kSl2_ap, kSl_ap, kErr_ap, kPm_ap, ap_op1, ap_opN, ap_intO, opt_some, opt_none, sure_ok, sure_err, sure_bad, nm_f, nm_t, sl_s, rs_s, mk_s, put_t, lcE_ok, fn_ret, fn_next, fn_err, back_ok, back_err, args_s, op2_s, op1_s, opN_s, opX_s, lkS_s, lkC_s, frS_n, frS_f, th_ok, th_err, th_bad, ap_bind, ap_pure, ap_fail, ap_name, ap_slot, ap_val, ap_sh, ap_nil, ap_cons, ap_seq, ap_ret, ap_retSlot, ap_drop, ap_asg, ap_if, ap_cst, ap_tup, ap_lst, ap_bin2, ap_op2, ap_un1, ap_callN, look_s, look_v, looks_nil, looks_cons, shs_nil, shs_cons, ap_retB, ap_bool, ap_chain, ap_truO, ap_tr, ap_andT, ap_orT, ap_notT, ap_truB, ap_keep, ap_andV, ap_orV, ap_notV, ap_ifV, ap_callM, ap_callO, ap_must, ap_sure, ap_loop0, ap_loop, ap_for, ap_nm, ap_tp, ap_nilB, ap_consB, ap_sub, ap_setO, ap_asgB, ap_par, ap_appO, ap_app, ap_ty, ap_opm, ap_meth, ap_seqI, ap_rng, ap_enum, ap_zip, ap_lc, ap_lc0, ap_lcL, ap_free, ap_wipe0, ap_wipe, ap_back0, ap_back, ap_sl, ap_part, ap_raise, ap_lam, ap_perm, ap_fnR, outs00, outs01, outs02, outs03, outs1, outs2, outs3, argsOf, refsOf, backs, diff, truD, blOf, walkD, itemsD, sqD, zipL, List.zipWith_cons_cons, List.zipWith_nil_left, List.zipWith_nil_right, List.map_cons, List.map_nil, List.length_cons, List.length_nil, List.replicate, List.cons_append, List.nil_append, List.append_nil, List.getElem?_cons_zero, List.getElem?_cons_succ, List.getElem?_nil, List.set_cons_zero, List.set_cons_succ, List.set_nil, List.all_cons, List.all_nil, List.contains_cons, List.contains_nil, Option.map_some, Option.map_none, Option.getD_some, Option.getD_none, Option.bind_some, Option.bind_none, Nat.reduceAdd, Nat.reduceSub, Nat.reduceLT, Nat.reduceLeDiff, Nat.reduceEqDiff, Nat.reduceBEq, beq_self_eq_true, Bool.and_true, Bool.true_and, Bool.and_false, Bool.false_and, Bool.or_true, Bool.true_or, Bool.or_false, Bool.false_or, Bool.not_true, Bool.not_false, if_true, if_false, and_true, true_and, and_self, ite_true, ite_false, decide_true, decide_false, Bool.false_eq_true, reduceCtorEq, Nat.zero_add, Nat.sub_self, Nat.lt_irrefl, isT_eq (d := .tup [.int p0, .int p1, .int p2, .int p3, .int p4, .int p5]) rfl, isTup, lenT, neI, c6, most, key, neL_nil, List.isEmpty_nil, sm, leI]
        cases decide (1 ≤ p0 + (p1 + (p2 + (p3 + (p4 + (p5 + 0)))))) <;> simp only [most, kVal_ap, kSh_ap, kCo_ap, kCons_ap, kSeq_n, kSeq_r, kRet_ap, kDrop_ap, kAsg_ap, kIf_t, kIf_f, kMk_ap, kBin_ap, kNot_ap, kAndV_ap, kOrV_ap, kNotV2_ap, kNotV_ap, kCh3_ap, kCh2_ap, kCh1_ap, kLoop2_n, kLoop2_r, kLoop_ap, kB_ap, kSub_ap, kNext_ap, kAB_ap, kPar2_ap, kPar_ap, kApp3_ap, kApp2_ap, kApp_ap, kMeth2_ap, kMeth_ap, kSeqI_ap, kRng_ap, kEn_ap, zp_s, kZip_ap, kLc_ap, kL3_ap, kL2_t, kL2_f, kL1_ap, kSl3_ap, kSl2_ap, kSl_ap, kErr_ap, kPm_ap, ap_op1, ap_opN, ap_intO, opt_some, opt_none, sure_ok, sure_err, sure_bad, nm_f, nm_t, sl_s, rs_s, mk_s, put_t, lcE_ok, fn_ret, fn_next, fn_err, back_ok, back_err, args_s, op2_s, op1_s, opN_s, opX_s, lkS_s, lkC_s, frS_n, frS_f, th_ok, th_err, th_bad, ap_bind, ap_pure, ap_fail, ap_name, ap_slot, ap_val, ap_sh, ap_nil, ap_cons, ap_seq, ap_ret, ap_retSlot, ap_drop, ap_asg, ap_if, ap_cst, ap_tup, ap_lst, ap_bin2, ap_op2, ap_un1, ap_callN, look_s, look_v, looks_nil, looks_cons, shs_nil, shs_cons, ap_retB, ap_bool, ap_chain, ap_truO, ap_tr, ap_andT, ap_orT, ap_notT, ap_truB, ap_keep, ap_andV, ap_orV, ap_notV, ap_ifV, ap_callM, ap_callO, ap_must, ap_sure, ap_loop0, ap_loop, ap_for, ap_nm, ap_tp, ap_nilB, ap_consB, ap_sub, ap_setO, ap_asgB, ap_par, ap_appO, ap_app, ap_ty, ap_opm, ap_meth, ap_seqI, ap_rng, ap_enum, ap_zip, ap_lc, ap_lc0, ap_lcL, ap_free, ap_wipe0, ap_wipe, ap_back0, ap_back, ap_sl, ap_part, ap_raise, ap_lam, ap_perm, ap_fnR, outs00, outs01, outs02, outs03, outs1, outs2, outs3, argsOf, refsOf, backs, diff, truD, blOf, walkD, itemsD, sqD, zipL, List.zipWith_cons_cons, List.zipWith_nil_left, List.zipWith_nil_right, List.map_cons, List.map_nil, List.length_cons, List.length_nil, List.replicate, List.cons_append, List.nil_append, List.append_nil, List.getElem?_cons_zero, List.getElem?_cons_succ, List.getElem?_nil, List.set_cons_zero, List.set_cons_succ, List.set_nil, List.all_cons, List.all_nil, List.contains_cons, List.contains_nil, Option.map_some, Option.map_none, Option.getD_some, Option.getD_none, Option.bind_some, Option.bind_none, Nat.reduceAdd, Nat.reduceSub, Nat.reduceLT, Nat.reduceLeDiff, Nat.reduceEqDiff, Nat.reduceBEq, beq_self_eq_true, Bool.and_true, Bool.true_and, Bool.and_false, Bool.false_and, Bool.or_true, Bool.true_or, Bool.or_false, Bool.false_or, Bool.not_true, Bool.not_false, if_true, if_false, and_true, true_and, and_self, ite_true, ite_false, decide_true, decide_false, Bool.false_eq_true, reduceCtorEq, Nat.zero_add, Nat.sub_self, Nat.lt_irrefl, leI, sm]
/-! ### who wins -/
def selL (b1 b2 b3 : Bool) : List D := (if b1 then [.str "a"] else []) ++ ((if b2 then [.str "b"] else []) ++ if b3 then [.str "c"] else [])
def selS (b1 b2 b3 : Bool) : Str := Txt.join "" ((if b1 then [("a" : Str)] else []) ++ ((if b2 then [("b" : Str)] else []) ++ if b3 then [("c" : Str)] else []))
def mx3 (x y z : Int) : Int := maxI [x, y, z]
theorem max3t (x y z : Int) : maxD [.tup [.int x, .int y, .int z]] = some (false, .int (mx3 x y z)) := by kernel_rfl
theorem max3l (x y z : Int) : maxD [.lst [.int x, .int y, .int z]] = some (false, .int (mx3 x y z)) := by kernel_rfl
theorem join3 (b1 b2 b3 : Bool) : joinD (.str "") [.lst (selL b1 b2 b3)] = some (false, .str (selS b1 b2 b3)) := by
  cases b1 <;> cases b2 <;> cases b3 <;> kernel_rfl
theorem tyStr (x : Str) : tyD (.str x) = some "str" := rfl
theorem tyLst (x : List D) : tyD (.lst x) = some "list" := rfl
/-- by marks -/
theorem won_marks {P : D} {r : Str} {x y z : Int} (hr : eqD (.str r) (.str "pairs") = some (false, .bl false)) (hm : m_marks_of [(false, P), (false, .str r)] = .ok (false, .tup [.int x, .int y, .int z]) [none, none]) :
    m_won_by [(false, P), (false, .str r)] = .ok (true, .lst (selL (decide (x = mx3 x y z)) (decide (y = mx3 x y z)) (decide (z = mx3 x y z)))) [none, none] := by
  unfold m_won_by b_won_by c_NAMES
  cases hx : decide (x = mx3 x y z) <;> cases hy : decide (y = mx3 x y z) <;> cases hz : decide (z = mx3 x y z) <;> simp only [most, kVal_ap, kSh_ap, kCo_ap, kCons_ap, kSeq_n, kSeq_r, kRet_ap, kDrop_ap, kAsg_ap, kIf_t, kIf_f, kMk_ap, kBin_ap, kNot_ap, kAndV_ap, kOrV_ap, kNotV2_ap, kNotV_ap, kCh3_ap, kCh2_ap, kCh1_ap, kLoop2_n, kLoop2_r, kLoop_ap, kB_ap, kSub_ap, kNext_ap, kAB_ap, kPar2_ap, kPar_ap, kApp3_ap, kApp2_ap, kApp_ap, kMeth2_ap, kMeth_ap, kSeqI_ap, kRng_ap, kEn_ap, zp_s, kZip_ap, kLc_ap, kL3_ap, kL2_t, kL2_f, kL1_ap, kSl3_ap, kSl2_ap, kSl_ap, kErr_ap, kPm_ap, ap_op1, ap_opN, ap_intO, opt_some, opt_none, sure_ok, sure_err, sure_bad, nm_f, nm_t, sl_s, rs_s, mk_s, put_t, lcE_ok, fn_ret, fn_next, fn_err, back_ok, back_err, args_s, op2_s, op1_s, opN_s, opX_s, lkS_s, lkC_s, frS_n, frS_f, th_ok, th_err, th_bad, ap_bind, ap_pure, ap_fail, ap_name, ap_slot, ap_val, ap_sh, ap_nil, ap_cons, ap_seq, ap_ret, ap_retSlot, ap_drop, ap_asg, ap_if, ap_cst, ap_tup, ap_lst, ap_bin2, ap_op2, ap_un1, ap_callN, look_s, look_v, looks_nil, looks_cons, shs_nil, shs_cons, ap_retB, ap_bool, ap_chain, ap_truO, ap_tr, ap_andT, ap_orT, ap_notT, ap_truB, ap_keep, ap_andV, ap_orV, ap_notV, ap_ifV, ap_callM, ap_callO, ap_must, ap_sure, ap_loop0, ap_loop, ap_for, ap_nm, ap_tp, ap_nilB, ap_consB, ap_sub, ap_setO, ap_asgB, ap_par, ap_appO, ap_app, ap_ty, ap_opm, ap_meth, ap_seqI, ap_rng, ap_enum, ap_zip, ap_lc, ap_lc0, ap_lcL, ap_free, ap_wipe0, ap_wipe, ap_back0, ap_back, ap_sl, ap_part, ap_raise, ap_lam, ap_perm, ap_fnR, outs00, outs01, outs02, outs03, outs1, outs2, outs3, argsOf, refsOf, backs, diff, truD, blOf, walkD, itemsD, sqD, zipL, List.zipWith_cons_cons, List.zipWith_nil_left, List.zipWith_nil_right, List.map_cons, List.map_nil, List.length_cons, List.length_nil, List.replicate, List.cons_append, List.nil_append, List.append_nil, List.getElem?_cons_zero, List.getElem?_cons_succ, List.getElem?_nil, List.set_cons_zero, List.set_cons_succ, List.set_nil, List.all_cons, List.all_nil, List.contains_cons, List.contains_nil, Option.map_some, Option.map_none, Option.getD_some, Option.getD_none, Option.bind_some, Option.bind_none, Nat.reduceAdd, Nat.reduceSub, Nat.reduceLT, Nat.reduceLeDiff, Nat.reduceEqDiff, Nat.reduceBEq, beq_self_eq_true, Bool.and_true, Bool.true_and, Bool.and_false, Bool.false_and, Bool.or_true, Bool.true_or, Bool.or_false, Bool.false_or, Bool.not_true, Bool.not_false, if_true, if_false, and_true, true_and, and_self, ite_true, ite_false, decide_true, decide_false, Bool.false_eq_true, reduceCtorEq, Nat.zero_add, Nat.sub_self, Nat.lt_irrefl, hr, hm, eqI, max3t, most, selL, hx, hy, hz]
theorem mul2 (x : Int) : mulD (.int 2) (.int x) = some (false, .int (2 * x)) := by kernel_rfl
theorem ix3_0 (x y z : D) : ixD (.tup [x, y, z]) (.int 0) = some (false, x) := by kernel_rfl
theorem ix3_1 (x y z : D) : ixD (.tup [x, y, z]) (.int 1) = some (false, y) := by kernel_rfl
theorem ix3_2 (x y z : D) : ixD (.tup [x, y, z]) (.int 2) = some (false, z) := by kernel_rfl
theorem ix3_m (x y z : D) : ixD (.tup [x, y, z]) (.int (-1)) = some (false, z) := by kernel_rfl
theorem sub01 : subD (.int 0) (.int 1) = some (false, .int (-1)) := by kernel_rfl
theorem sub11 : subD (.int 1) (.int 1) = some (false, .int 0) := by kernel_rfl
theorem sub21 : subD (.int 2) (.int 1) = some (false, .int 1) := by kernel_rfl
theorem en3 (x y z : D) : enumL [x, y, z] = [.tup [.int 0, x], .tup [.int 1, y], .tup [.int 2, z]] := by kernel_rfl
theorem e_pairs (p0 p1 p2 p3 p4 p5 : Int) : m_pairs_of [(false, P6 p0 p1 p2 p3 p4 p5)] = .ok (false, .tup [.int (p0 + p1 + p4), .int (p0 + p2 + p3), .int (p3 + p4 + p5)]) [none] := by
  kernel_rfl
def bt (x y n : Int) : Bool := decide (n ≤ 2 * x) && decide (2 * y ≤ n)
theorem turn_pairs {P pr nm : D} {n x y k j : Int} {acc : List D} (ha : acc.length < most) (hx : ixD pr (.int k) = some (false, .int x)) (hs : subD (.int k) (.int 1) = some (false, .int j)) (hy : ixD pr (.int j) = some (false, .int y)) :
    ifM (andT (boolM (bin2 geD (valM (bin2 mulD (valM (cstM (.int 2))) (valM (bin2 ixD (slotM 1) (slotM 4))))) (slotM 2))) (boolM (bin2 leD (valM (bin2 mulD (valM (cstM (.int 2))) (valM (bin2 ixD (slotM 1) (valM (bin2 subD (slotM 4) (valM (cstM (.int 1))))))))) (slotM 2)))) (dropM (appM 3 (nameM 5))) (M.pure .next)
      [some (false, P), some (false, pr), some (false, .int n), some (true, .lst acc), some (false, .int k), some (false, nm)] =
    .ok .next [some (false, P), some (false, pr), some (false, .int n), some (true, .lst (acc ++ if bt x y n = true then [nm] else [])), some (false, .int k), some (false, nm)] := by
  unfold bt
  cases h1 : decide (n ≤ 2 * x) <;> cases h2 : decide (2 * y ≤ n) <;> simp only [most, kVal_ap, kSh_ap, kCo_ap, kCons_ap, kSeq_n, kSeq_r, kRet_ap, kDrop_ap, kAsg_ap, kIf_t, kIf_f, kMk_ap, kBin_ap, kNot_ap, kAndV_ap, kOrV_ap, kNotV2_ap, kNotV_ap, kCh3_ap, kCh2_ap, kCh1_ap, kLoop2_n, kLoop2_r, kLoop_ap, kB_ap, kSub_ap, kNext_ap, kAB_ap, kPar2_ap, kPar_ap, kApp3_ap, kApp2_ap, kApp_ap, kMeth2_ap, kMeth_ap, kSeqI_ap, kRng_ap, kEn_ap, zp_s, kZip_ap, kLc_ap, kL3_ap, kL2_t, kL2_f, kL1_ap, kSl3_ap, kSl2_ap, kSl_ap, kErr_ap, kPm_ap, ap_op1, ap_opN, ap_intO, opt_some, opt_none, sure_ok, sure_err, sure_bad, nm_f, nm_t, sl_s, rs_s, mk_s, put_t, lcE_ok, fn_ret, fn_next, fn_err, back_ok, back_err, args_s, op2_s, op1_s, opN_s, opX_s, lkS_s, lkC_s, frS_n, frS_f, th_ok, th_err, th_bad, ap_bind, ap_pure, ap_fail, ap_name, ap_slot, ap_val, ap_sh, ap_nil, ap_cons, ap_seq, ap_ret, ap_retSlot, ap_drop, ap_asg, ap_if, ap_cst, ap_tup, ap_lst, ap_bin2, ap_op2, ap_un1, ap_callN, look_s, look_v, looks_nil, looks_cons, shs_nil, shs_cons, ap_retB, ap_bool, ap_chain, ap_truO, ap_tr, ap_andT, ap_orT, ap_notT, ap_truB, ap_keep, ap_andV, ap_orV, ap_notV, ap_ifV, ap_callM, ap_callO, ap_must, ap_sure, ap_loop0, ap_loop, ap_for, ap_nm, ap_tp, ap_nilB, ap_consB, ap_sub, ap_setO, ap_asgB, ap_par, ap_appO, ap_app, ap_ty, ap_opm, ap_meth, ap_seqI, ap_rng, ap_enum, ap_zip, ap_lc, ap_lc0, ap_lcL, ap_free, ap_wipe0, ap_wipe, ap_back0, ap_back, ap_sl, ap_part, ap_raise, ap_lam, ap_perm, ap_fnR, outs00, outs01, outs02, outs03, outs1, outs2, outs3, argsOf, refsOf, backs, diff, truD, blOf, walkD, itemsD, sqD, zipL, List.zipWith_cons_cons, List.zipWith_nil_left, List.zipWith_nil_right, List.map_cons, List.map_nil, List.length_cons, List.length_nil, List.replicate, List.cons_append, List.nil_append, List.append_nil, List.getElem?_cons_zero, List.getElem?_cons_succ, List.getElem?_nil, List.set_cons_zero, List.set_cons_succ, List.set_nil, List.all_cons, List.all_nil, List.contains_cons, List.contains_nil, Option.map_some, Option.map_none, Option.getD_some, Option.getD_none, Option.bind_some, Option.bind_none, Nat.reduceAdd, Nat.reduceSub, Nat.reduceLT, Nat.reduceLeDiff, Nat.reduceEqDiff, Nat.reduceBEq, beq_self_eq_true, Bool.and_true, Bool.true_and, Bool.and_false, Bool.false_and, Bool.or_true, Bool.true_or, Bool.or_false, Bool.false_or, Bool.not_true, Bool.not_false, if_true, if_false, and_true, true_and, and_self, ite_true, ite_false, decide_true, decide_false, Bool.false_eq_true, reduceCtorEq, Nat.zero_add, Nat.sub_self, Nat.lt_irrefl, mul2, hx, hs, hy, geI, leI, h1, h2, ha, tyLst]
theorem won_pairs (p0 p1 p2 p3 p4 p5 : Int) : m_unbeaten [(false, P6 p0 p1 p2 p3 p4 p5)] = .ok (true, .lst (selL (bt (p0 + p1 + p4) (p3 + p4 + p5) (p0 + (p1 + (p2 + (p3 + (p4 + (p5 + 0))))))) (bt (p0 + p2 + p3) (p0 + p1 + p4) (p0 + (p1 + (p2 + (p3 + (p4 + (p5 + 0))))))) (bt (p3 + p4 + p5) (p0 + p2 + p3) (p0 + (p1 + (p2 + (p3 + (p4 + (p5 + 0))))))))) [none] := by
  unfold m_unbeaten b_unbeaten c_NAMES
  generalize hn : p0 + (p1 + (p2 + (p3 + (p4 + (p5 + 0))))) = n
  have sm : sumD [P6 p0 p1 p2 p3 p4 p5] = some (false, .int n) := by rw [sum6, hn]
  have t0 := turn_pairs (P := P6 p0 p1 p2 p3 p4 p5) (nm := .str "a") (acc := []) (n := n) (by decide) (ix3_0 (.int (p0 + p1 + p4)) (.int (p0 + p2 + p3)) (.int (p3 + p4 + p5))) sub01 (ix3_m _ _ _)
  have t1 := fun acc ha => turn_pairs (P := P6 p0 p1 p2 p3 p4 p5) (nm := .str "b") (acc := acc) (n := n) ha (ix3_1 (.int (p0 + p1 + p4)) (.int (p0 + p2 + p3)) (.int (p3 + p4 + p5))) sub11 (ix3_0 _ _ _)
  have t2 := fun acc ha => turn_pairs (P := P6 p0 p1 p2 p3 p4 p5) (nm := .str "c") (acc := acc) (n := n) ha (ix3_2 (.int (p0 + p1 + p4)) (.int (p0 + p2 + p3)) (.int (p3 + p4 + p5))) sub21 (ix3_1 _ _ _)
  have l0 : ([] ++ (if bt (p0 + p1 + p4) (p3 + p4 + p5) n = true then [D.str "a"] else [])).length < most := by split <;> decide
  have l1 : ([] ++ (if bt (p0 + p1 + p4) (p3 + p4 + p5) n = true then [D.str "a"] else []) ++ (if bt (p0 + p2 + p3) (p0 + p1 + p4) n = true then [D.str "b"] else [])).length < most := by split <;> split <;> decide
  have e1 := t1 _ l0
  have e2 := t2 _ l1
  simp only [List.nil_append] at t0 e1 e2
  simp only [most, kVal_ap, kSh_ap, kCo_ap, kCons_ap, kSeq_n, kSeq_r, kRet_ap, kDrop_ap, kAsg_ap, kIf_t, kIf_f, kMk_ap, kBin_ap, kNot_ap, kAndV_ap, kOrV_ap, kNotV2_ap, kNotV_ap, kCh3_ap, kCh2_ap, kCh1_ap, kLoop2_n, kLoop2_r, kLoop_ap, kB_ap, kSub_ap, kNext_ap, kAB_ap, kPar2_ap, kPar_ap, kApp3_ap, kApp2_ap, kApp_ap, kMeth2_ap, kMeth_ap, kSeqI_ap, kRng_ap, kEn_ap, zp_s, kZip_ap, kLc_ap, kL3_ap, kL2_t, kL2_f, kL1_ap, kSl3_ap, kSl2_ap, kSl_ap, kErr_ap, kPm_ap, ap_op1, ap_opN, ap_intO, opt_some, opt_none, sure_ok, sure_err, sure_bad, nm_f, nm_t, sl_s, rs_s, mk_s, put_t, lcE_ok, fn_ret, fn_next, fn_err, back_ok, back_err, args_s, op2_s, op1_s, opN_s, opX_s, lkS_s, lkC_s, frS_n, frS_f, th_ok, th_err, th_bad, ap_bind, ap_pure, ap_fail, ap_name, ap_slot, ap_val, ap_sh, ap_nil, ap_cons, ap_seq, ap_ret, ap_retSlot, ap_drop, ap_asg, ap_if, ap_cst, ap_tup, ap_lst, ap_bin2, ap_op2, ap_un1, ap_callN, look_s, look_v, looks_nil, looks_cons, shs_nil, shs_cons, ap_retB, ap_bool, ap_chain, ap_truO, ap_tr, ap_andT, ap_orT, ap_notT, ap_truB, ap_keep, ap_andV, ap_orV, ap_notV, ap_ifV, ap_callM, ap_callO, ap_must, ap_sure, ap_loop0, ap_loop, ap_for, ap_nm, ap_tp, ap_nilB, ap_consB, ap_sub, ap_setO, ap_asgB, ap_par, ap_appO, ap_app, ap_ty, ap_opm, ap_meth, ap_seqI, ap_rng, ap_enum, ap_zip, ap_lc, ap_lc0, ap_lcL, ap_free, ap_wipe0, ap_wipe, ap_back0, ap_back, ap_sl, ap_part, ap_raise, ap_lam, ap_perm, ap_fnR, outs00, outs01, outs02, outs03, outs1, outs2, outs3, argsOf, refsOf, backs, diff, truD, blOf, walkD, itemsD, sqD, zipL, List.zipWith_cons_cons, List.zipWith_nil_left, List.zipWith_nil_right, List.map_cons, List.map_nil, List.length_cons, List.length_nil, List.replicate, List.cons_append, List.nil_append, List.append_nil, List.getElem?_cons_zero, List.getElem?_cons_succ, List.getElem?_nil, List.set_cons_zero, List.set_cons_succ, List.set_nil, List.all_cons, List.all_nil, List.contains_cons, List.contains_nil, Option.map_some, Option.map_none, Option.getD_some, Option.getD_none, Option.bind_some, Option.bind_none, Nat.reduceAdd, Nat.reduceSub, Nat.reduceLT, Nat.reduceLeDiff, Nat.reduceEqDiff, Nat.reduceBEq, beq_self_eq_true, Bool.and_true, Bool.true_and, Bool.and_false, Bool.false_and, Bool.or_true, Bool.true_or, Bool.or_false, Bool.false_or, Bool.not_true, Bool.not_false, if_true, if_false, and_true, true_and, and_self, ite_true, ite_false, decide_true, decide_false, Bool.false_eq_true, reduceCtorEq, Nat.zero_add, Nat.sub_self, Nat.lt_irrefl, sm, e_pairs, en3, ↓t0, ↓e1, ↓e2, selL, List.append_assoc]
theorem e_pairs_won (p0 p1 p2 p3 p4 p5 : Int) : m_won_by [(false, P6 p0 p1 p2 p3 p4 p5), (false, .str "pairs")] = .ok (true, .lst (selL (bt (p0 + p1 + p4) (p3 + p4 + p5) (p0 + (p1 + (p2 + (p3 + (p4 + (p5 + 0))))))) (bt (p0 + p2 + p3) (p0 + p1 + p4) (p0 + (p1 + (p2 + (p3 + (p4 + (p5 + 0))))))) (bt (p3 + p4 + p5) (p0 + p2 + p3) (p0 + (p1 + (p2 + (p3 + (p4 + (p5 + 0))))))))) [none, none] := by
  have hr : eqD (.str "pairs") (.str "pairs") = some (false, .bl true) := by kernel_rfl
  unfold m_won_by b_won_by
  simp only [most, kVal_ap, kSh_ap, kCo_ap, kCons_ap, kSeq_n, kSeq_r, kRet_ap, kDrop_ap, kAsg_ap, kIf_t, kIf_f, kMk_ap, kBin_ap, kNot_ap, kAndV_ap, kOrV_ap, kNotV2_ap, kNotV_ap, kCh3_ap, kCh2_ap, kCh1_ap, kLoop2_n, kLoop2_r, kLoop_ap, kB_ap, kSub_ap, kNext_ap, kAB_ap, kPar2_ap, kPar_ap, kApp3_ap, kApp2_ap, kApp_ap, kMeth2_ap, kMeth_ap, kSeqI_ap, kRng_ap, kEn_ap, zp_s, kZip_ap, kLc_ap, kL3_ap, kL2_t, kL2_f, kL1_ap, kSl3_ap, kSl2_ap, kSl_ap, kErr_ap, kPm_ap, ap_op1, ap_opN, ap_intO, opt_some, opt_none, sure_ok, sure_err, sure_bad, nm_f, nm_t, sl_s, rs_s, mk_s, put_t, lcE_ok, fn_ret, fn_next, fn_err, back_ok, back_err, args_s, op2_s, op1_s, opN_s, opX_s, lkS_s, lkC_s, frS_n, frS_f, th_ok, th_err, th_bad, ap_bind, ap_pure, ap_fail, ap_name, ap_slot, ap_val, ap_sh, ap_nil, ap_cons, ap_seq, ap_ret, ap_retSlot, ap_drop, ap_asg, ap_if, ap_cst, ap_tup, ap_lst, ap_bin2, ap_op2, ap_un1, ap_callN, look_s, look_v, looks_nil, looks_cons, shs_nil, shs_cons, ap_retB, ap_bool, ap_chain, ap_truO, ap_tr, ap_andT, ap_orT, ap_notT, ap_truB, ap_keep, ap_andV, ap_orV, ap_notV, ap_ifV, ap_callM, ap_callO, ap_must, ap_sure, ap_loop0, ap_loop, ap_for, ap_nm, ap_tp, ap_nilB, ap_consB, ap_sub, ap_setO, ap_asgB, ap_par, ap_appO, ap_app, ap_ty, ap_opm, ap_meth, ap_seqI, ap_rng, ap_enum, ap_zip, ap_lc, ap_lc0, ap_lcL, ap_free, ap_wipe0, ap_wipe, ap_back0, ap_back, ap_sl, ap_part, ap_raise, ap_lam, ap_perm, ap_fnR, outs00, outs01, outs02, outs03, outs1, outs2, outs3, argsOf, refsOf, backs, diff, truD, blOf, walkD, itemsD, sqD, zipL, List.zipWith_cons_cons, List.zipWith_nil_left, List.zipWith_nil_right, List.map_cons, List.map_nil, List.length_cons, List.length_nil, List.replicate, List.cons_append, List.nil_append, List.append_nil, List.getElem?_cons_zero, List.getElem?_cons_succ, List.getElem?_nil, List.set_cons_zero, List.set_cons_succ, List.set_nil, List.all_cons, List.all_nil, List.contains_cons, List.contains_nil, Option.map_some, Option.map_none, Option.getD_some, Option.getD_none, Option.bind_some, Option.bind_none, Nat.reduceAdd, Nat.reduceSub, Nat.reduceLT, Nat.reduceLeDiff, Nat.reduceEqDiff, Nat.reduceBEq, beq_self_eq_true, Bool.and_true, Bool.true_and, Bool.and_false, Bool.false_and, Bool.or_true, Bool.true_or, Bool.or_false, Bool.false_or, Bool.not_true, Bool.not_false, if_true, if_false, and_true, true_and, and_self, ite_true, ite_false, decide_true, decide_false, Bool.false_eq_true, reduceCtorEq, Nat.zero_add, Nat.sub_self, Nat.lt_irrefl, hr, won_pairs]
end TT

set_option maxRecDepth 100000
set_option maxHeartbeats 4000000
/-! KP3: winners by the program and by the law's counting. -/
namespace TT
open PySem PySem.Spec PyProof.Rows L2
theorem isRule_str (x : Str) : True := trivial
def isRule : D → Bool
  | .str x => inV (.str x) ((["firsts", "lasts", "points", "pairs"] : List Str).map V.str)
  | _ => false
theorem notIn_rule (x : Str) : notInD (.str x) c_RULES = some (false, .bl (!isRule (.str x))) := by kernel_rfl
inductive Rl where
  | f | l | p | q
def Rl.s : Rl → Str
  | .f => "firsts"
  | .l => "lasts"
  | .p => "points"
  | .q => "pairs"
theorem isRule_rl {u : D} (h : isRule u = true) : ∃ r : Rl, u = .str r.s := by
  cases u with
  | str x =>
    have h' : (("firsts" : Str) == x || (("lasts" : Str) == x || (("points" : Str) == x || (("pairs" : Str) == x || false)))) = true := h
    simp only [Bool.or_eq_true, beq_iff_eq, Bool.or_false] at h'
    rcases h' with h | h | h | h
    · exact ⟨.f, by rw [← h]; rfl⟩
    · exact ⟨.l, by rw [← h]; rfl⟩
    · exact ⟨.p, by rw [← h]; rfl⟩
    · exact ⟨.q, by rw [← h]; rfl⟩
  | _ => cases h
theorem rule_is (r : Rl) : isRule (.str r.s) = true := by cases r <;> kernel_rfl
theorem isStr_s (x : Str) : isiD "str" (.str x) = some (false, .bl true) := by kernel_rfl
theorem e_check_rule {u : D} {t : String} (h : tyD u = some t) : m_check_rule [(false, u)] = if isRule u = true then .ok (false, .non) [none] else .err "InvalidRule" [("given", u)] [none] := by
  cases u with
  | str x =>
    unfold m_check_rule b_check_rule
    cases hb : isRule (.str x) <;> simp only [most, kVal_ap, kSh_ap, kCo_ap, kCons_ap, kSeq_n, kSeq_r, kRet_ap, kDrop_ap, kAsg_ap, kIf_t, kIf_f, kMk_ap, kBin_ap, kNot_ap, kAndV_ap, kOrV_ap, kNotV2_ap, kNotV_ap, kCh3_ap, kCh2_ap, kCh1_ap, kLoop2_n, kLoop2_r, kLoop_ap, kB_ap, kSub_ap, kNext_ap, kAB_ap, kPar2_ap, kPar_ap, kApp3_ap, kApp2_ap, kApp_ap, kMeth2_ap, kMeth_ap, kSeqI_ap, kRng_ap, kEn_ap, zp_s, kZip_ap, kLc_ap, kL3_ap, kL2_t, kL2_f, kL1_ap, kSl3_ap, kSl2_ap, kSl_ap, kErr_ap, kPm_ap, ap_op1, ap_opN, ap_intO, opt_some, opt_none, sure_ok, sure_err, sure_bad, nm_f, nm_t, sl_s, rs_s, mk_s, put_t, lcE_ok, fn_ret, fn_next, fn_err, back_ok, back_err, args_s, op2_s, op1_s, opN_s, opX_s, lkS_s, lkC_s, frS_n, frS_f, th_ok, th_err, th_bad, ap_bind, ap_pure, ap_fail, ap_name, ap_slot, ap_val, ap_sh, ap_nil, ap_cons, ap_seq, ap_ret, ap_retSlot, ap_drop, ap_asg, ap_if, ap_cst, ap_tup, ap_lst, ap_bin2, ap_op2, ap_un1, ap_callN, look_s, look_v, looks_nil, looks_cons, shs_nil, shs_cons, ap_retB, ap_bool, ap_chain, ap_truO, ap_tr, ap_andT, ap_orT, ap_notT, ap_truB, ap_keep, ap_andV, ap_orV, ap_notV, ap_ifV, ap_callM, ap_callO, ap_must, ap_sure, ap_loop0, ap_loop, ap_for, ap_nm, ap_tp, ap_nilB, ap_consB, ap_sub, ap_setO, ap_asgB, ap_par, ap_appO, ap_app, ap_ty, ap_opm, ap_meth, ap_seqI, ap_rng, ap_enum, ap_zip, ap_lc, ap_lc0, ap_lcL, ap_free, ap_wipe0, ap_wipe, ap_back0, ap_back, ap_sl, ap_part, ap_raise, ap_lam, ap_perm, ap_fnR, outs00, outs01, outs02, outs03, outs1, outs2, outs3, argsOf, refsOf, backs, diff, truD, blOf, walkD, itemsD, sqD, zipL, List.zipWith_cons_cons, List.zipWith_nil_left, List.zipWith_nil_right, List.map_cons, List.map_nil, List.length_cons, List.length_nil, List.replicate, List.cons_append, List.nil_append, List.append_nil, List.getElem?_cons_zero, List.getElem?_cons_succ, List.getElem?_nil, List.set_cons_zero, List.set_cons_succ, List.set_nil, List.all_cons, List.all_nil, List.contains_cons, List.contains_nil, Option.map_some, Option.map_none, Option.getD_some, Option.getD_none, Option.bind_some, Option.bind_none, Nat.reduceAdd, Nat.reduceSub, Nat.reduceLT, Nat.reduceLeDiff, Nat.reduceEqDiff, Nat.reduceBEq, beq_self_eq_true, Bool.and_true, Bool.true_and, Bool.and_false, Bool.false_and, Bool.or_true, Bool.true_or, Bool.or_false, Bool.false_or, Bool.not_true, Bool.not_false, if_true, if_false, and_true, true_and, and_self, ite_true, ite_false, decide_true, decide_false, Bool.false_eq_true, reduceCtorEq, Nat.zero_add, Nat.sub_self, Nat.lt_irrefl, isStr_s, notIn_rule, hb]
  | _ => cases h <;> kernel_rfl
def sel3 (x y z : Int) : Bool × Bool × Bool := (decide (x = mx3 x y z), decide (y = mx3 x y z), decide (z = mx3 x y z))
def wn (a b c d e f : Int) : Rl → Bool × Bool × Bool
  | .f => sel3 (a + b) (c + d) (e + f)
  | .l => sel3 (-(d + f)) (-(b + e)) (-(a + c))
  | .p => sel3 (a + b - (d + f)) (c + d - (b + e)) (e + f - (a + c))
  | .q => (bt (a + b + e) (d + e + f) (a + (b + (c + (d + (e + (f + 0)))))), bt (a + c + d) (a + b + e) (a + (b + (c + (d + (e + (f + 0)))))), bt (d + e + f) (a + c + d) (a + (b + (c + (d + (e + (f + 0)))))))
def L3 (t : Bool × Bool × Bool) : List D := selL t.1 t.2.1 t.2.2
def S3 (t : Bool × Bool × Bool) : Str := selS t.1 t.2.1 t.2.2
theorem e_marks_firsts (p0 p1 p2 p3 p4 p5 : Int) : m_marks_of [(false, P6 p0 p1 p2 p3 p4 p5), (false, .str "firsts")] = .ok (false, .tup [.int (p0 + p1), .int (p2 + p3), .int (p4 + p5)]) [none, none] := by
  kernel_rfl
theorem e_marks_lasts (p0 p1 p2 p3 p4 p5 : Int) : m_marks_of [(false, P6 p0 p1 p2 p3 p4 p5), (false, .str "lasts")] = .ok (false, .tup [.int (-(p3 + p5)), .int (-(p1 + p4)), .int (-(p0 + p2))]) [none, none] := by
  kernel_rfl
theorem e_marks_points (p0 p1 p2 p3 p4 p5 : Int) : m_marks_of [(false, P6 p0 p1 p2 p3 p4 p5), (false, .str "points")] = .ok (false, .tup [.int (p0 + p1 - (p3 + p5)), .int (p2 + p3 - (p1 + p4)), .int (p4 + p5 - (p0 + p2))]) [none, none] := by
  kernel_rfl
theorem e_won_by (a b c d e f : Int) (r : Rl) : m_won_by [(false, P6 a b c d e f), (false, .str r.s)] = .ok (true, .lst (L3 (wn a b c d e f r))) [none, none] := by
  cases r with
  | f => exact won_marks (by kernel_rfl) (e_marks_firsts _ _ _ _ _ _)
  | l => exact won_marks (by kernel_rfl) (e_marks_lasts _ _ _ _ _ _)
  | p => exact won_marks (by kernel_rfl) (e_marks_points _ _ _ _ _ _)
  | q => exact e_pairs_won _ _ _ _ _ _
theorem join3' (t : Bool × Bool × Bool) : joinD (.str "") [.lst (L3 t)] = some (false, .str (S3 t)) := join3 _ _ _
theorem e_winners {a b c d e f : Int} (r : Rl) (h : okP (P6 a b c d e f) = true) : m_winners [(false, P6 a b c d e f), (false, .str r.s)] = .ok (false, .str (S3 (wn a b c d e f r))) [none, none] := by
  have h1 := e_check (d := P6 a b c d e f) rfl
  rw [if_pos h] at h1
  have h2 := e_check_rule (u := .str r.s) rfl
  rw [if_pos (rule_is r)] at h2
  unfold m_winners b_winners
  simp only [most, kVal_ap, kSh_ap, kCo_ap, kCons_ap, kSeq_n, kSeq_r, kRet_ap, kDrop_ap, kAsg_ap, kIf_t, kIf_f, kMk_ap, kBin_ap, kNot_ap, kAndV_ap, kOrV_ap, kNotV2_ap, kNotV_ap, kCh3_ap, kCh2_ap, kCh1_ap, kLoop2_n, kLoop2_r, kLoop_ap, kB_ap, kSub_ap, kNext_ap, kAB_ap, kPar2_ap, kPar_ap, kApp3_ap, kApp2_ap, kApp_ap, kMeth2_ap, kMeth_ap, kSeqI_ap, kRng_ap, kEn_ap, zp_s, kZip_ap, kLc_ap, kL3_ap, kL2_t, kL2_f, kL1_ap, kSl3_ap, kSl2_ap, kSl_ap, kErr_ap, kPm_ap, ap_op1, ap_opN, ap_intO, opt_some, opt_none, sure_ok, sure_err, sure_bad, nm_f, nm_t, sl_s, rs_s, mk_s, put_t, lcE_ok, fn_ret, fn_next, fn_err, back_ok, back_err, args_s, op2_s, op1_s, opN_s, opX_s, lkS_s, lkC_s, frS_n, frS_f, th_ok, th_err, th_bad, ap_bind, ap_pure, ap_fail, ap_name, ap_slot, ap_val, ap_sh, ap_nil, ap_cons, ap_seq, ap_ret, ap_retSlot, ap_drop, ap_asg, ap_if, ap_cst, ap_tup, ap_lst, ap_bin2, ap_op2, ap_un1, ap_callN, look_s, look_v, looks_nil, looks_cons, shs_nil, shs_cons, ap_retB, ap_bool, ap_chain, ap_truO, ap_tr, ap_andT, ap_orT, ap_notT, ap_truB, ap_keep, ap_andV, ap_orV, ap_notV, ap_ifV, ap_callM, ap_callO, ap_must, ap_sure, ap_loop0, ap_loop, ap_for, ap_nm, ap_tp, ap_nilB, ap_consB, ap_sub, ap_setO, ap_asgB, ap_par, ap_appO, ap_app, ap_ty, ap_opm, ap_meth, ap_seqI, ap_rng, ap_enum, ap_zip, ap_lc, ap_lc0, ap_lcL, ap_free, ap_wipe0, ap_wipe, ap_back0, ap_back, ap_sl, ap_part, ap_raise, ap_lam, ap_perm, ap_fnR, outs00, outs01, outs02, outs03, outs1, outs2, outs3, argsOf, refsOf, backs, diff, truD, blOf, walkD, itemsD, sqD, zipL, List.zipWith_cons_cons, List.zipWith_nil_left, List.zipWith_nil_right, List.map_cons, List.map_nil, List.length_cons, List.length_nil, List.replicate, List.cons_append, List.nil_append, List.append_nil, List.getElem?_cons_zero, List.getElem?_cons_succ, List.getElem?_nil, List.set_cons_zero, List.set_cons_succ, List.set_nil, List.all_cons, List.all_nil, List.contains_cons, List.contains_nil, Option.map_some, Option.map_none, Option.getD_some, Option.getD_none, Option.bind_some, Option.bind_none, Nat.reduceAdd, Nat.reduceSub, Nat.reduceLT, Nat.reduceLeDiff, Nat.reduceEqDiff, Nat.reduceBEq, beq_self_eq_true, Bool.and_true, Bool.true_and, Bool.and_false, Bool.false_and, Bool.or_true, Bool.true_or, Bool.or_false, Bool.false_or, Bool.not_true, Bool.not_false, if_true, if_false, and_true, true_and, and_self, ite_true, ite_false, decide_true, decide_false, Bool.false_eq_true, reduceCtorEq, Nat.zero_add, Nat.sub_self, Nat.lt_irrefl, h1, h2, e_won_by, join3', tyStr]
theorem e_winners_noP {d u : D} (hd : tyS d = true) (h : okP d = false) : m_winners [(false, d), (false, u)] = .err "InvalidProfile" [("given", d)] [none, none] := by
  have h1 := e_check hd
  rw [if_neg (by rw [h]; decide)] at h1
  unfold m_winners b_winners
  simp only [most, kVal_ap, kSh_ap, kCo_ap, kCons_ap, kSeq_n, kSeq_r, kRet_ap, kDrop_ap, kAsg_ap, kIf_t, kIf_f, kMk_ap, kBin_ap, kNot_ap, kAndV_ap, kOrV_ap, kNotV2_ap, kNotV_ap, kCh3_ap, kCh2_ap, kCh1_ap, kLoop2_n, kLoop2_r, kLoop_ap, kB_ap, kSub_ap, kNext_ap, kAB_ap, kPar2_ap, kPar_ap, kApp3_ap, kApp2_ap, kApp_ap, kMeth2_ap, kMeth_ap, kSeqI_ap, kRng_ap, kEn_ap, zp_s, kZip_ap, kLc_ap, kL3_ap, kL2_t, kL2_f, kL1_ap, kSl3_ap, kSl2_ap, kSl_ap, kErr_ap, kPm_ap, ap_op1, ap_opN, ap_intO, opt_some, opt_none, sure_ok, sure_err, sure_bad, nm_f, nm_t, sl_s, rs_s, mk_s, put_t, lcE_ok, fn_ret, fn_next, fn_err, back_ok, back_err, args_s, op2_s, op1_s, opN_s, opX_s, lkS_s, lkC_s, frS_n, frS_f, th_ok, th_err, th_bad, ap_bind, ap_pure, ap_fail, ap_name, ap_slot, ap_val, ap_sh, ap_nil, ap_cons, ap_seq, ap_ret, ap_retSlot, ap_drop, ap_asg, ap_if, ap_cst, ap_tup, ap_lst, ap_bin2, ap_op2, ap_un1, ap_callN, look_s, look_v, looks_nil, looks_cons, shs_nil, shs_cons, ap_retB, ap_bool, ap_chain, ap_truO, ap_tr, ap_andT, ap_orT, ap_notT, ap_truB, ap_keep, ap_andV, ap_orV, ap_notV, ap_ifV, ap_callM, ap_callO, ap_must, ap_sure, ap_loop0, ap_loop, ap_for, ap_nm, ap_tp, ap_nilB, ap_consB, ap_sub, ap_setO, ap_asgB, ap_par, ap_appO, ap_app, ap_ty, ap_opm, ap_meth, ap_seqI, ap_rng, ap_enum, ap_zip, ap_lc, ap_lc0, ap_lcL, ap_free, ap_wipe0, ap_wipe, ap_back0, ap_back, ap_sl, ap_part, ap_raise, ap_lam, ap_perm, ap_fnR, outs00, outs01, outs02, outs03, outs1, outs2, outs3, argsOf, refsOf, backs, diff, truD, blOf, walkD, itemsD, sqD, zipL, List.zipWith_cons_cons, List.zipWith_nil_left, List.zipWith_nil_right, List.map_cons, List.map_nil, List.length_cons, List.length_nil, List.replicate, List.cons_append, List.nil_append, List.append_nil, List.getElem?_cons_zero, List.getElem?_cons_succ, List.getElem?_nil, List.set_cons_zero, List.set_cons_succ, List.set_nil, List.all_cons, List.all_nil, List.contains_cons, List.contains_nil, Option.map_some, Option.map_none, Option.getD_some, Option.getD_none, Option.bind_some, Option.bind_none, Nat.reduceAdd, Nat.reduceSub, Nat.reduceLT, Nat.reduceLeDiff, Nat.reduceEqDiff, Nat.reduceBEq, beq_self_eq_true, Bool.and_true, Bool.true_and, Bool.and_false, Bool.false_and, Bool.or_true, Bool.true_or, Bool.or_false, Bool.false_or, Bool.not_true, Bool.not_false, if_true, if_false, and_true, true_and, and_self, ite_true, ite_false, decide_true, decide_false, Bool.false_eq_true, reduceCtorEq, Nat.zero_add, Nat.sub_self, Nat.lt_irrefl, h1]
theorem e_winners_noR {d u : D} {t : String} (hd : tyS d = true) (h : okP d = true) (hu : tyD u = some t) (hr : isRule u = false) : m_winners [(false, d), (false, u)] = .err "InvalidRule" [("given", u)] [none, none] := by
  have h1 := e_check hd
  rw [if_pos h] at h1
  have h2 := e_check_rule hu
  rw [if_neg (by rw [hr]; decide)] at h2
  unfold m_winners b_winners
  simp only [most, kVal_ap, kSh_ap, kCo_ap, kCons_ap, kSeq_n, kSeq_r, kRet_ap, kDrop_ap, kAsg_ap, kIf_t, kIf_f, kMk_ap, kBin_ap, kNot_ap, kAndV_ap, kOrV_ap, kNotV2_ap, kNotV_ap, kCh3_ap, kCh2_ap, kCh1_ap, kLoop2_n, kLoop2_r, kLoop_ap, kB_ap, kSub_ap, kNext_ap, kAB_ap, kPar2_ap, kPar_ap, kApp3_ap, kApp2_ap, kApp_ap, kMeth2_ap, kMeth_ap, kSeqI_ap, kRng_ap, kEn_ap, zp_s, kZip_ap, kLc_ap, kL3_ap, kL2_t, kL2_f, kL1_ap, kSl3_ap, kSl2_ap, kSl_ap, kErr_ap, kPm_ap, ap_op1, ap_opN, ap_intO, opt_some, opt_none, sure_ok, sure_err, sure_bad, nm_f, nm_t, sl_s, rs_s, mk_s, put_t, lcE_ok, fn_ret, fn_next, fn_err, back_ok, back_err, args_s, op2_s, op1_s, opN_s, opX_s, lkS_s, lkC_s, frS_n, frS_f, th_ok, th_err, th_bad, ap_bind, ap_pure, ap_fail, ap_name, ap_slot, ap_val, ap_sh, ap_nil, ap_cons, ap_seq, ap_ret, ap_retSlot, ap_drop, ap_asg, ap_if, ap_cst, ap_tup, ap_lst, ap_bin2, ap_op2, ap_un1, ap_callN, look_s, look_v, looks_nil, looks_cons, shs_nil, shs_cons, ap_retB, ap_bool, ap_chain, ap_truO, ap_tr, ap_andT, ap_orT, ap_notT, ap_truB, ap_keep, ap_andV, ap_orV, ap_notV, ap_ifV, ap_callM, ap_callO, ap_must, ap_sure, ap_loop0, ap_loop, ap_for, ap_nm, ap_tp, ap_nilB, ap_consB, ap_sub, ap_setO, ap_asgB, ap_par, ap_appO, ap_app, ap_ty, ap_opm, ap_meth, ap_seqI, ap_rng, ap_enum, ap_zip, ap_lc, ap_lc0, ap_lcL, ap_free, ap_wipe0, ap_wipe, ap_back0, ap_back, ap_sl, ap_part, ap_raise, ap_lam, ap_perm, ap_fnR, outs00, outs01, outs02, outs03, outs1, outs2, outs3, argsOf, refsOf, backs, diff, truD, blOf, walkD, itemsD, sqD, zipL, List.zipWith_cons_cons, List.zipWith_nil_left, List.zipWith_nil_right, List.map_cons, List.map_nil, List.length_cons, List.length_nil, List.replicate, List.cons_append, List.nil_append, List.append_nil, List.getElem?_cons_zero, List.getElem?_cons_succ, List.getElem?_nil, List.set_cons_zero, List.set_cons_succ, List.set_nil, List.all_cons, List.all_nil, List.contains_cons, List.contains_nil, Option.map_some, Option.map_none, Option.getD_some, Option.getD_none, Option.bind_some, Option.bind_none, Nat.reduceAdd, Nat.reduceSub, Nat.reduceLT, Nat.reduceLeDiff, Nat.reduceEqDiff, Nat.reduceBEq, beq_self_eq_true, Bool.and_true, Bool.true_and, Bool.and_false, Bool.false_and, Bool.or_true, Bool.true_or, Bool.or_false, Bool.false_or, Bool.not_true, Bool.not_false, if_true, if_false, and_true, true_and, and_self, ite_true, ite_false, decide_true, decide_false, Bool.false_eq_true, reduceCtorEq, Nat.zero_add, Nat.sub_self, Nat.lt_irrefl, h1, h2]
/-! ### the law's counting -/
theorem mulS {p m : Int} (h : smallI m = true) : mulD (.int p) (.int m) = some (false, .int (p * m)) := by
  show (if (smallI p || smallI m) = true then some (false, D.int (p * m)) else none) = _
  rw [h, Bool.or_true, if_pos rfl]
theorem sqP6 (a b c d e f : Int) : sqD (P6 a b c d e f) = some (true, [.int a, .int b, .int c, .int d, .int e, .int f]) := rfl
theorem sum6l (a b c d e f : Int) : sumD [.lst [.int a, .int b, .int c, .int d, .int e, .int f]] = some (false, .int (a + (b + (c + (d + (e + (f + 0))))))) := by kernel_rfl
theorem e_law_sum {a b c d e f m0 m1 m2 m3 m4 m5 : Int} (h0 : smallI m0 = true) (h1 : smallI m1 = true) (h2 : smallI m2 = true) (h3 : smallI m3 = true) (h4 : smallI m4 = true) (h5 : smallI m5 = true) :
    m_law_sum [(false, P6 a b c d e f), (false, .lst [.int m0, .int m1, .int m2, .int m3, .int m4, .int m5])] = .ok (false, .int (a * m0 + (b * m1 + (c * m2 + (d * m3 + (e * m4 + (f * m5 + 0))))))) [none, none] := by
  unfold m_law_sum b_law_sum P6
  simp only [most, kVal_ap, kSh_ap, kCo_ap, kCons_ap, kSeq_n, kSeq_r, kRet_ap, kDrop_ap, kAsg_ap, kIf_t, kIf_f, kMk_ap, kBin_ap, kNot_ap, kAndV_ap, kOrV_ap, kNotV2_ap, kNotV_ap, kCh3_ap, kCh2_ap, kCh1_ap, kLoop2_n, kLoop2_r, kLoop_ap, kB_ap, kSub_ap, kNext_ap, kAB_ap, kPar2_ap, kPar_ap, kApp3_ap, kApp2_ap, kApp_ap, kMeth2_ap, kMeth_ap, kSeqI_ap, kRng_ap, kEn_ap, zp_s, kZip_ap, kLc_ap, kL3_ap, kL2_t, kL2_f, kL1_ap, kSl3_ap, kSl2_ap, kSl_ap, kErr_ap, kPm_ap, ap_op1, ap_opN, ap_intO, opt_some, opt_none, sure_ok, sure_err, sure_bad, nm_f, nm_t, sl_s, rs_s, mk_s, put_t, lcE_ok, fn_ret, fn_next, fn_err, back_ok, back_err, args_s, op2_s, op1_s, opN_s, opX_s, lkS_s, lkC_s, frS_n, frS_f, th_ok, th_err, th_bad, ap_bind, ap_pure, ap_fail, ap_name, ap_slot, ap_val, ap_sh, ap_nil, ap_cons, ap_seq, ap_ret, ap_retSlot, ap_drop, ap_asg, ap_if, ap_cst, ap_tup, ap_lst, ap_bin2, ap_op2, ap_un1, ap_callN, look_s, look_v, looks_nil, looks_cons, shs_nil, shs_cons, ap_retB, ap_bool, ap_chain, ap_truO, ap_tr, ap_andT, ap_orT, ap_notT, ap_truB, ap_keep, ap_andV, ap_orV, ap_notV, ap_ifV, ap_callM, ap_callO, ap_must, ap_sure, ap_loop0, ap_loop, ap_for, ap_nm, ap_tp, ap_nilB, ap_consB, ap_sub, ap_setO, ap_asgB, ap_par, ap_appO, ap_app, ap_ty, ap_opm, ap_meth, ap_seqI, ap_rng, ap_enum, ap_zip, ap_lc, ap_lc0, ap_lcL, ap_free, ap_wipe0, ap_wipe, ap_back0, ap_back, ap_sl, ap_part, ap_raise, ap_lam, ap_perm, ap_fnR, outs00, outs01, outs02, outs03, outs1, outs2, outs3, argsOf, refsOf, backs, diff, truD, blOf, walkD, itemsD, sqD, zipL, List.zipWith_cons_cons, List.zipWith_nil_left, List.zipWith_nil_right, List.map_cons, List.map_nil, List.length_cons, List.length_nil, List.replicate, List.cons_append, List.nil_append, List.append_nil, List.getElem?_cons_zero, List.getElem?_cons_succ, List.getElem?_nil, List.set_cons_zero, List.set_cons_succ, List.set_nil, List.all_cons, List.all_nil, List.contains_cons, List.contains_nil, Option.map_some, Option.map_none, Option.getD_some, Option.getD_none, Option.bind_some, Option.bind_none, Nat.reduceAdd, Nat.reduceSub, Nat.reduceLT, Nat.reduceLeDiff, Nat.reduceEqDiff, Nat.reduceBEq, beq_self_eq_true, Bool.and_true, Bool.true_and, Bool.and_false, Bool.false_and, Bool.or_true, Bool.true_or, Bool.or_false, Bool.false_or, Bool.not_true, Bool.not_false, if_true, if_false, and_true, true_and, and_self, ite_true, ite_false, decide_true, decide_false, Bool.false_eq_true, reduceCtorEq, Nat.zero_add, Nat.sub_self, Nat.lt_irrefl, mulS h0, mulS h1, mulS h2, mulS h3, mulS h4, mulS h5, sum6l]
theorem sm0 : smallI 0 = true := by kernel_rfl
theorem sm1 : smallI 1 = true := by kernel_rfl
theorem sm2 : smallI 2 = true := by kernel_rfl
theorem smm : smallI (-1) = true := by kernel_rfl
theorem ix_abc_a : indexSD (.str "abc") [.str "a"] = some (false, .int 0) := by kernel_rfl
theorem ix_abc_b : indexSD (.str "abc") [.str "b"] = some (false, .int 1) := by kernel_rfl
theorem ix_abc_c : indexSD (.str "abc") [.str "c"] = some (false, .int 2) := by kernel_rfl
theorem ix_acb_a : indexSD (.str "acb") [.str "a"] = some (false, .int 0) := by kernel_rfl
theorem ix_acb_b : indexSD (.str "acb") [.str "b"] = some (false, .int 2) := by kernel_rfl
theorem ix_acb_c : indexSD (.str "acb") [.str "c"] = some (false, .int 1) := by kernel_rfl
theorem ix_bac_a : indexSD (.str "bac") [.str "a"] = some (false, .int 1) := by kernel_rfl
theorem ix_bac_b : indexSD (.str "bac") [.str "b"] = some (false, .int 0) := by kernel_rfl
theorem ix_bac_c : indexSD (.str "bac") [.str "c"] = some (false, .int 2) := by kernel_rfl
theorem ix_bca_a : indexSD (.str "bca") [.str "a"] = some (false, .int 2) := by kernel_rfl
theorem ix_bca_b : indexSD (.str "bca") [.str "b"] = some (false, .int 0) := by kernel_rfl
theorem ix_bca_c : indexSD (.str "bca") [.str "c"] = some (false, .int 1) := by kernel_rfl
theorem ix_cab_a : indexSD (.str "cab") [.str "a"] = some (false, .int 1) := by kernel_rfl
theorem ix_cab_b : indexSD (.str "cab") [.str "b"] = some (false, .int 2) := by kernel_rfl
theorem ix_cab_c : indexSD (.str "cab") [.str "c"] = some (false, .int 0) := by kernel_rfl
theorem ix_cba_a : indexSD (.str "cba") [.str "a"] = some (false, .int 2) := by kernel_rfl
theorem ix_cba_b : indexSD (.str "cba") [.str "b"] = some (false, .int 1) := by kernel_rfl
theorem ix_cba_c : indexSD (.str "cba") [.str "c"] = some (false, .int 0) := by kernel_rfl
theorem int_bl (b : Bool) : intD [.bl b] = some (false, .int (b2iD b)) := by kernel_rfl
theorem lt01 : ltD (.int 0) (.int 1) = some (false, .bl true) := by kernel_rfl
theorem lt02 : ltD (.int 0) (.int 2) = some (false, .bl true) := by kernel_rfl
theorem lt12 : ltD (.int 1) (.int 2) = some (false, .bl true) := by kernel_rfl
theorem lt10 : ltD (.int 1) (.int 0) = some (false, .bl false) := by kernel_rfl
theorem lt20 : ltD (.int 2) (.int 0) = some (false, .bl false) := by kernel_rfl
theorem lt21 : ltD (.int 2) (.int 1) = some (false, .bl false) := by kernel_rfl
theorem b2t : b2iD true = 1 := rfl
theorem b2f : b2iD false = 0 := rfl
theorem ne_ab : neD (.str "a") (.str "b") = some (false, .bl true) := by kernel_rfl
theorem ne_ac : neD (.str "a") (.str "c") = some (false, .bl true) := by kernel_rfl
theorem ne_ba : neD (.str "b") (.str "a") = some (false, .bl true) := by kernel_rfl
theorem ne_bc : neD (.str "b") (.str "c") = some (false, .bl true) := by kernel_rfl
theorem ne_ca : neD (.str "c") (.str "a") = some (false, .bl true) := by kernel_rfl
theorem ne_cb : neD (.str "c") (.str "b") = some (false, .bl true) := by kernel_rfl
theorem ne_aa : neD (.str "a") (.str "a") = some (false, .bl false) := by kernel_rfl
theorem ne_bb : neD (.str "b") (.str "b") = some (false, .bl false) := by kernel_rfl
theorem ne_cc : neD (.str "c") (.str "c") = some (false, .bl false) := by kernel_rfl
theorem eq_tt (x y : Bool) : eqD (.lst [.bl x, .bl y]) (.lst [.bl true, .bl true]) = some (false, .bl (x && y)) := by
  cases x <;> cases y <;> kernel_rfl
theorem ixl_0 (x y z : D) : ixD (.lst [x, y, z]) (.int 0) = some (false, x) := by kernel_rfl
theorem ixl_1 (x y z : D) : ixD (.lst [x, y, z]) (.int 1) = some (false, y) := by kernel_rfl
theorem ixl_2 (x y z : D) : ixD (.lst [x, y, z]) (.int 2) = some (false, z) := by kernel_rfl
theorem neg1 : negD (.int 1) = some (false, .int (-1)) := by kernel_rfl
def kDisp (ks : List Key) (ds : List D) : M B := fun e => if ks.length = ds.length ∧ ks.length ≤ 15 ∧ nodupK ks = true then .ok (true, .dct ks ds) e else .bad
theorem kDisp3 (e : Ev) (x y z : D) : kDisp [.inr "firsts", .inr "lasts", .inr "points"] [x, y, z] e = .ok (true, .dct [.inr "firsts", .inr "lasts", .inr "points"] [x, y, z]) e := by kernel_rfl
theorem ap_disp (e : Ev) (ks : List Key) (ms : List (M B)) : dispM ks ms e = R.th (evalsM ms e) (kDisp ks) := rfl
def kEv2 (x : B) (ds : List D) : M (List D) := fun e => .ok (x.2 :: ds) e
theorem kEv2_ap (e : Ev) (o : Bool) (x : D) (ds : List D) : kEv2 (o, x) ds e = .ok (x :: ds) e := rfl
def kEv (ms : List (M B)) (x : B) : M (List D) := fun e => R.th (evalsM ms e) (kEv2 x)
theorem kEv_ap (e : Ev) (ms : List (M B)) (x : B) : kEv ms x e = R.th (evalsM ms e) (kEv2 x) := rfl
theorem ap_ev0 (e : Ev) : evalsM [] e = .ok [] e := rfl
theorem ap_ev (e : Ev) (m : M B) (ms : List (M B)) : evalsM (m :: ms) e = R.th (shM m e) (kEv ms) := rfl
theorem dg_f (x y z : D) : dgetD (.dct [.inr "firsts", .inr "lasts", .inr "points"] [x, y, z]) (.str "firsts") = some (false, x) := by kernel_rfl
theorem dg_l (x y z : D) : dgetD (.dct [.inr "firsts", .inr "lasts", .inr "points"] [x, y, z]) (.str "lasts") = some (false, y) := by kernel_rfl
theorem dg_p (x y z : D) : dgetD (.dct [.inr "firsts", .inr "lasts", .inr "points"] [x, y, z]) (.str "points") = some (false, z) := by kernel_rfl
theorem eqr_f : eqD (.str "firsts") (.str "pairs") = some (false, .bl false) := by kernel_rfl
theorem eqr_l : eqD (.str "lasts") (.str "pairs") = some (false, .bl false) := by kernel_rfl
theorem eqr_p : eqD (.str "points") (.str "pairs") = some (false, .bl false) := by kernel_rfl
theorem eqr_q : eqD (.str "pairs") (.str "pairs") = some (false, .bl true) := by kernel_rfl
theorem jn_fff : joinD (.str "") [.lst []] = some (false, .str (selS false false false)) := by kernel_rfl
theorem jn_fft : joinD (.str "") [.lst [.str "c"]] = some (false, .str (selS false false true)) := by kernel_rfl
theorem jn_ftf : joinD (.str "") [.lst [.str "b"]] = some (false, .str (selS false true false)) := by kernel_rfl
theorem jn_ftt : joinD (.str "") [.lst [.str "b", .str "c"]] = some (false, .str (selS false true true)) := by kernel_rfl
theorem jn_tff : joinD (.str "") [.lst [.str "a"]] = some (false, .str (selS true false false)) := by kernel_rfl
theorem jn_tft : joinD (.str "") [.lst [.str "a", .str "c"]] = some (false, .str (selS true false true)) := by kernel_rfl
theorem jn_ttf : joinD (.str "") [.lst [.str "a", .str "b"]] = some (false, .str (selS true true false)) := by kernel_rfl
theorem jn_ttt : joinD (.str "") [.lst [.str "a", .str "b", .str "c"]] = some (false, .str (selS true true true)) := by kernel_rfl
theorem e_law_won_f (a b c d e f : Int) : m_law_won [(false, P6 a b c d e f), (false, .str "firsts")] = .ok (false, .str (S3 (sel3 (a * 1 + (b * 1 + (c * 0 + (d * 0 + (e * 0 + (f * 0 + 0)))))) (a * 0 + (b * 0 + (c * 1 + (d * 1 + (e * 0 + (f * 0 + 0)))))) (a * 0 + (b * 0 + (c * 0 + (d * 0 + (e * 1 + (f * 1 + 0))))))))) [none, none] := by
  generalize h_x : (a * 1 + (b * 1 + (c * 0 + (d * 0 + (e * 0 + (f * 0 + 0)))))) = x
  generalize h_y : (a * 0 + (b * 0 + (c * 1 + (d * 1 + (e * 0 + (f * 0 + 0)))))) = y
  generalize h_z : (a * 0 + (b * 0 + (c * 0 + (d * 0 + (e * 1 + (f * 1 + 0)))))) = z
  have s_x := e_law_sum (a := a) (b := b) (c := c) (d := d) (e := e) (f := f) sm1 sm1 sm0 sm0 sm0 sm0
  rw [h_x] at s_x
  have s_y := e_law_sum (a := a) (b := b) (c := c) (d := d) (e := e) (f := f) sm0 sm0 sm1 sm1 sm0 sm0
  rw [h_y] at s_y
  have s_z := e_law_sum (a := a) (b := b) (c := c) (d := d) (e := e) (f := f) sm0 sm0 sm0 sm0 sm1 sm1
  rw [h_z] at s_z
  unfold m_law_won b_law_won S3 sel3
  cases hx : decide (x = mx3 x y z) <;> cases hy : decide (y = mx3 x y z) <;> cases hz : decide (z = mx3 x y z) <;> simp only [most, kVal_ap, kSh_ap, kCo_ap, kCons_ap, kSeq_n, kSeq_r, kRet_ap, kDrop_ap, kAsg_ap, kIf_t, kIf_f, kMk_ap, kBin_ap, kNot_ap, kAndV_ap, kOrV_ap, kNotV2_ap, kNotV_ap, kCh3_ap, kCh2_ap, kCh1_ap, kLoop2_n, kLoop2_r, kLoop_ap, kB_ap, kSub_ap, kNext_ap, kAB_ap, kPar2_ap, kPar_ap, kApp3_ap, kApp2_ap, kApp_ap, kMeth2_ap, kMeth_ap, kSeqI_ap, kRng_ap, kEn_ap, zp_s, kZip_ap, kLc_ap, kL3_ap, kL2_t, kL2_f, kL1_ap, kSl3_ap, kSl2_ap, kSl_ap, kErr_ap, kPm_ap, ap_op1, ap_opN, ap_intO, opt_some, opt_none, sure_ok, sure_err, sure_bad, nm_f, nm_t, sl_s, rs_s, mk_s, put_t, lcE_ok, fn_ret, fn_next, fn_err, back_ok, back_err, args_s, op2_s, op1_s, opN_s, opX_s, lkS_s, lkC_s, frS_n, frS_f, th_ok, th_err, th_bad, ap_bind, ap_pure, ap_fail, ap_name, ap_slot, ap_val, ap_sh, ap_nil, ap_cons, ap_seq, ap_ret, ap_retSlot, ap_drop, ap_asg, ap_if, ap_cst, ap_tup, ap_lst, ap_bin2, ap_op2, ap_un1, ap_callN, look_s, look_v, looks_nil, looks_cons, shs_nil, shs_cons, ap_retB, ap_bool, ap_chain, ap_truO, ap_tr, ap_andT, ap_orT, ap_notT, ap_truB, ap_keep, ap_andV, ap_orV, ap_notV, ap_ifV, ap_callM, ap_callO, ap_must, ap_sure, ap_loop0, ap_loop, ap_for, ap_nm, ap_tp, ap_nilB, ap_consB, ap_sub, ap_setO, ap_asgB, ap_par, ap_appO, ap_app, ap_ty, ap_opm, ap_meth, ap_seqI, ap_rng, ap_enum, ap_zip, ap_lc, ap_lc0, ap_lcL, ap_free, ap_wipe0, ap_wipe, ap_back0, ap_back, ap_sl, ap_part, ap_raise, ap_lam, ap_perm, ap_fnR, outs00, outs01, outs02, outs03, outs1, outs2, outs3, argsOf, refsOf, backs, diff, truD, blOf, walkD, itemsD, sqD, zipL, List.zipWith_cons_cons, List.zipWith_nil_left, List.zipWith_nil_right, List.map_cons, List.map_nil, List.length_cons, List.length_nil, List.replicate, List.cons_append, List.nil_append, List.append_nil, List.getElem?_cons_zero, List.getElem?_cons_succ, List.getElem?_nil, List.set_cons_zero, List.set_cons_succ, List.set_nil, List.all_cons, List.all_nil, List.contains_cons, List.contains_nil, Option.map_some, Option.map_none, Option.getD_some, Option.getD_none, Option.bind_some, Option.bind_none, Nat.reduceAdd, Nat.reduceSub, Nat.reduceLT, Nat.reduceLeDiff, Nat.reduceEqDiff, Nat.reduceBEq, beq_self_eq_true, Bool.and_true, Bool.true_and, Bool.and_false, Bool.false_and, Bool.or_true, Bool.true_or, Bool.or_false, Bool.false_or, Bool.not_true, Bool.not_false, if_true, if_false, and_true, true_and, and_self, ite_true, ite_false, decide_true, decide_false, Bool.false_eq_true, reduceCtorEq, Nat.zero_add, Nat.sub_self, Nat.lt_irrefl, eqr_f, ap_disp, kDisp3, ap_ev0, ap_ev, kEv_ap, kEv2_ap, neg1, dg_f, tyStr, ixl_0, ixl_1, ixl_2, s_x, s_y, s_z, max3l, eqI, hx, hy, hz, jn_fff, jn_fft, jn_ftf, jn_ftt, jn_tff, jn_tft, jn_ttf, jn_ttt, ix_abc_a, ix_abc_b, ix_abc_c, ix_acb_a, ix_acb_b, ix_acb_c, ix_bac_a, ix_bac_b, ix_bac_c, ix_bca_a, ix_bca_b, ix_bca_c, ix_cab_a, ix_cab_b, ix_cab_c, ix_cba_a, ix_cba_b, ix_cba_c]
theorem e_law_won_l (a b c d e f : Int) : m_law_won [(false, P6 a b c d e f), (false, .str "lasts")] = .ok (false, .str (S3 (sel3 (a * 0 + (b * 0 + (c * 0 + (d * (-1) + (e * 0 + (f * (-1) + 0)))))) (a * 0 + (b * (-1) + (c * 0 + (d * 0 + (e * (-1) + (f * 0 + 0)))))) (a * (-1) + (b * 0 + (c * (-1) + (d * 0 + (e * 0 + (f * 0 + 0))))))))) [none, none] := by
  generalize h_x : (a * 0 + (b * 0 + (c * 0 + (d * (-1) + (e * 0 + (f * (-1) + 0)))))) = x
  generalize h_y : (a * 0 + (b * (-1) + (c * 0 + (d * 0 + (e * (-1) + (f * 0 + 0)))))) = y
  generalize h_z : (a * (-1) + (b * 0 + (c * (-1) + (d * 0 + (e * 0 + (f * 0 + 0)))))) = z
  have s_x := e_law_sum (a := a) (b := b) (c := c) (d := d) (e := e) (f := f) sm0 sm0 sm0 smm sm0 smm
  rw [h_x] at s_x
  have s_y := e_law_sum (a := a) (b := b) (c := c) (d := d) (e := e) (f := f) sm0 smm sm0 sm0 smm sm0
  rw [h_y] at s_y
  have s_z := e_law_sum (a := a) (b := b) (c := c) (d := d) (e := e) (f := f) smm sm0 smm sm0 sm0 sm0
  rw [h_z] at s_z
  unfold m_law_won b_law_won S3 sel3
  cases hx : decide (x = mx3 x y z) <;> cases hy : decide (y = mx3 x y z) <;> cases hz : decide (z = mx3 x y z) <;> simp only [most, kVal_ap, kSh_ap, kCo_ap, kCons_ap, kSeq_n, kSeq_r, kRet_ap, kDrop_ap, kAsg_ap, kIf_t, kIf_f, kMk_ap, kBin_ap, kNot_ap, kAndV_ap, kOrV_ap, kNotV2_ap, kNotV_ap, kCh3_ap, kCh2_ap, kCh1_ap, kLoop2_n, kLoop2_r, kLoop_ap, kB_ap, kSub_ap, kNext_ap, kAB_ap, kPar2_ap, kPar_ap, kApp3_ap, kApp2_ap, kApp_ap, kMeth2_ap, kMeth_ap, kSeqI_ap, kRng_ap, kEn_ap, zp_s, kZip_ap, kLc_ap, kL3_ap, kL2_t, kL2_f, kL1_ap, kSl3_ap, kSl2_ap, kSl_ap, kErr_ap, kPm_ap, ap_op1, ap_opN, ap_intO, opt_some, opt_none, sure_ok, sure_err, sure_bad, nm_f, nm_t, sl_s, rs_s, mk_s, put_t, lcE_ok, fn_ret, fn_next, fn_err, back_ok, back_err, args_s, op2_s, op1_s, opN_s, opX_s, lkS_s, lkC_s, frS_n, frS_f, th_ok, th_err, th_bad, ap_bind, ap_pure, ap_fail, ap_name, ap_slot, ap_val, ap_sh, ap_nil, ap_cons, ap_seq, ap_ret, ap_retSlot, ap_drop, ap_asg, ap_if, ap_cst, ap_tup, ap_lst, ap_bin2, ap_op2, ap_un1, ap_callN, look_s, look_v, looks_nil, looks_cons, shs_nil, shs_cons, ap_retB, ap_bool, ap_chain, ap_truO, ap_tr, ap_andT, ap_orT, ap_notT, ap_truB, ap_keep, ap_andV, ap_orV, ap_notV, ap_ifV, ap_callM, ap_callO, ap_must, ap_sure, ap_loop0, ap_loop, ap_for, ap_nm, ap_tp, ap_nilB, ap_consB, ap_sub, ap_setO, ap_asgB, ap_par, ap_appO, ap_app, ap_ty, ap_opm, ap_meth, ap_seqI, ap_rng, ap_enum, ap_zip, ap_lc, ap_lc0, ap_lcL, ap_free, ap_wipe0, ap_wipe, ap_back0, ap_back, ap_sl, ap_part, ap_raise, ap_lam, ap_perm, ap_fnR, outs00, outs01, outs02, outs03, outs1, outs2, outs3, argsOf, refsOf, backs, diff, truD, blOf, walkD, itemsD, sqD, zipL, List.zipWith_cons_cons, List.zipWith_nil_left, List.zipWith_nil_right, List.map_cons, List.map_nil, List.length_cons, List.length_nil, List.replicate, List.cons_append, List.nil_append, List.append_nil, List.getElem?_cons_zero, List.getElem?_cons_succ, List.getElem?_nil, List.set_cons_zero, List.set_cons_succ, List.set_nil, List.all_cons, List.all_nil, List.contains_cons, List.contains_nil, Option.map_some, Option.map_none, Option.getD_some, Option.getD_none, Option.bind_some, Option.bind_none, Nat.reduceAdd, Nat.reduceSub, Nat.reduceLT, Nat.reduceLeDiff, Nat.reduceEqDiff, Nat.reduceBEq, beq_self_eq_true, Bool.and_true, Bool.true_and, Bool.and_false, Bool.false_and, Bool.or_true, Bool.true_or, Bool.or_false, Bool.false_or, Bool.not_true, Bool.not_false, if_true, if_false, and_true, true_and, and_self, ite_true, ite_false, decide_true, decide_false, Bool.false_eq_true, reduceCtorEq, Nat.zero_add, Nat.sub_self, Nat.lt_irrefl, eqr_l, ap_disp, kDisp3, ap_ev0, ap_ev, kEv_ap, kEv2_ap, neg1, dg_l, tyStr, ixl_0, ixl_1, ixl_2, s_x, s_y, s_z, max3l, eqI, hx, hy, hz, jn_fff, jn_fft, jn_ftf, jn_ftt, jn_tff, jn_tft, jn_ttf, jn_ttt, ix_abc_a, ix_abc_b, ix_abc_c, ix_acb_a, ix_acb_b, ix_acb_c, ix_bac_a, ix_bac_b, ix_bac_c, ix_bca_a, ix_bca_b, ix_bca_c, ix_cab_a, ix_cab_b, ix_cab_c, ix_cba_a, ix_cba_b, ix_cba_c]
theorem e_law_won_p (a b c d e f : Int) : m_law_won [(false, P6 a b c d e f), (false, .str "points")] = .ok (false, .str (S3 (sel3 (a * 2 + (b * 2 + (c * 1 + (d * 0 + (e * 1 + (f * 0 + 0)))))) (a * 1 + (b * 0 + (c * 2 + (d * 2 + (e * 0 + (f * 1 + 0)))))) (a * 0 + (b * 1 + (c * 0 + (d * 1 + (e * 2 + (f * 2 + 0))))))))) [none, none] := by
  generalize h_x : (a * 2 + (b * 2 + (c * 1 + (d * 0 + (e * 1 + (f * 0 + 0)))))) = x
  generalize h_y : (a * 1 + (b * 0 + (c * 2 + (d * 2 + (e * 0 + (f * 1 + 0)))))) = y
  generalize h_z : (a * 0 + (b * 1 + (c * 0 + (d * 1 + (e * 2 + (f * 2 + 0)))))) = z
  have s_x := e_law_sum (a := a) (b := b) (c := c) (d := d) (e := e) (f := f) sm2 sm2 sm1 sm0 sm1 sm0
  rw [h_x] at s_x
  have s_y := e_law_sum (a := a) (b := b) (c := c) (d := d) (e := e) (f := f) sm1 sm0 sm2 sm2 sm0 sm1
  rw [h_y] at s_y
  have s_z := e_law_sum (a := a) (b := b) (c := c) (d := d) (e := e) (f := f) sm0 sm1 sm0 sm1 sm2 sm2
  rw [h_z] at s_z
  unfold m_law_won b_law_won S3 sel3
  cases hx : decide (x = mx3 x y z) <;> cases hy : decide (y = mx3 x y z) <;> cases hz : decide (z = mx3 x y z) <;> simp only [most, kVal_ap, kSh_ap, kCo_ap, kCons_ap, kSeq_n, kSeq_r, kRet_ap, kDrop_ap, kAsg_ap, kIf_t, kIf_f, kMk_ap, kBin_ap, kNot_ap, kAndV_ap, kOrV_ap, kNotV2_ap, kNotV_ap, kCh3_ap, kCh2_ap, kCh1_ap, kLoop2_n, kLoop2_r, kLoop_ap, kB_ap, kSub_ap, kNext_ap, kAB_ap, kPar2_ap, kPar_ap, kApp3_ap, kApp2_ap, kApp_ap, kMeth2_ap, kMeth_ap, kSeqI_ap, kRng_ap, kEn_ap, zp_s, kZip_ap, kLc_ap, kL3_ap, kL2_t, kL2_f, kL1_ap, kSl3_ap, kSl2_ap, kSl_ap, kErr_ap, kPm_ap, ap_op1, ap_opN, ap_intO, opt_some, opt_none, sure_ok, sure_err, sure_bad, nm_f, nm_t, sl_s, rs_s, mk_s, put_t, lcE_ok, fn_ret, fn_next, fn_err, back_ok, back_err, args_s, op2_s, op1_s, opN_s, opX_s, lkS_s, lkC_s, frS_n, frS_f, th_ok, th_err, th_bad, ap_bind, ap_pure, ap_fail, ap_name, ap_slot, ap_val, ap_sh, ap_nil, ap_cons, ap_seq, ap_ret, ap_retSlot, ap_drop, ap_asg, ap_if, ap_cst, ap_tup, ap_lst, ap_bin2, ap_op2, ap_un1, ap_callN, look_s, look_v, looks_nil, looks_cons, shs_nil, shs_cons, ap_retB, ap_bool, ap_chain, ap_truO, ap_tr, ap_andT, ap_orT, ap_notT, ap_truB, ap_keep, ap_andV, ap_orV, ap_notV, ap_ifV, ap_callM, ap_callO, ap_must, ap_sure, ap_loop0, ap_loop, ap_for, ap_nm, ap_tp, ap_nilB, ap_consB, ap_sub, ap_setO, ap_asgB, ap_par, ap_appO, ap_app, ap_ty, ap_opm, ap_meth, ap_seqI, ap_rng, ap_enum, ap_zip, ap_lc, ap_lc0, ap_lcL, ap_free, ap_wipe0, ap_wipe, ap_back0, ap_back, ap_sl, ap_part, ap_raise, ap_lam, ap_perm, ap_fnR, outs00, outs01, outs02, outs03, outs1, outs2, outs3, argsOf, refsOf, backs, diff, truD, blOf, walkD, itemsD, sqD, zipL, List.zipWith_cons_cons, List.zipWith_nil_left, List.zipWith_nil_right, List.map_cons, List.map_nil, List.length_cons, List.length_nil, List.replicate, List.cons_append, List.nil_append, List.append_nil, List.getElem?_cons_zero, List.getElem?_cons_succ, List.getElem?_nil, List.set_cons_zero, List.set_cons_succ, List.set_nil, List.all_cons, List.all_nil, List.contains_cons, List.contains_nil, Option.map_some, Option.map_none, Option.getD_some, Option.getD_none, Option.bind_some, Option.bind_none, Nat.reduceAdd, Nat.reduceSub, Nat.reduceLT, Nat.reduceLeDiff, Nat.reduceEqDiff, Nat.reduceBEq, beq_self_eq_true, Bool.and_true, Bool.true_and, Bool.and_false, Bool.false_and, Bool.or_true, Bool.true_or, Bool.or_false, Bool.false_or, Bool.not_true, Bool.not_false, if_true, if_false, and_true, true_and, and_self, ite_true, ite_false, decide_true, decide_false, Bool.false_eq_true, reduceCtorEq, Nat.zero_add, Nat.sub_self, Nat.lt_irrefl, eqr_p, ap_disp, kDisp3, ap_ev0, ap_ev, kEv_ap, kEv2_ap, neg1, dg_p, tyStr, ixl_0, ixl_1, ixl_2, s_x, s_y, s_z, max3l, eqI, hx, hy, hz, jn_fff, jn_fft, jn_ftf, jn_ftt, jn_tff, jn_tft, jn_ttf, jn_ttt, ix_abc_a, ix_abc_b, ix_abc_c, ix_acb_a, ix_acb_b, ix_acb_c, ix_bac_a, ix_bac_b, ix_bac_c, ix_bca_a, ix_bca_b, ix_bca_c, ix_cab_a, ix_cab_b, ix_cab_c, ix_cba_a, ix_cba_b, ix_cba_c]
theorem sumP (a b c d e f : Int) : sumD [P6 a b c d e f] = some (false, .int (a + (b + (c + (d + (e + (f + 0))))))) := sum6 _ _ _ _ _ _
theorem e_law_won_q (a b c d e f : Int) : m_law_won [(false, P6 a b c d e f), (false, .str "pairs")] = .ok (false, .str (selS (decide ((a + (b + (c + (d + (e + (f + 0)))))) ≤ 2 * (a * 1 + (b * 1 + (c * 0 + (d * 0 + (e * 1 + (f * 0 + 0))))))) && decide ((a + (b + (c + (d + (e + (f + 0)))))) ≤ 2 * (a * 1 + (b * 1 + (c * 1 + (d * 0 + (e * 0 + (f * 0 + 0)))))))) (decide ((a + (b + (c + (d + (e + (f + 0)))))) ≤ 2 * (a * 0 + (b * 0 + (c * 1 + (d * 1 + (e * 0 + (f * 1 + 0))))))) && decide ((a + (b + (c + (d + (e + (f + 0)))))) ≤ 2 * (a * 1 + (b * 0 + (c * 1 + (d * 1 + (e * 0 + (f * 0 + 0)))))))) (decide ((a + (b + (c + (d + (e + (f + 0)))))) ≤ 2 * (a * 0 + (b * 0 + (c * 0 + (d * 1 + (e * 1 + (f * 1 + 0))))))) && decide ((a + (b + (c + (d + (e + (f + 0)))))) ≤ 2 * (a * 0 + (b * 1 + (c * 0 + (d * 0 + (e * 1 + (f * 1 + 0)))))))))) [none, none] := by
  have sp := sumP a b c d e f
  generalize hn : (a + (b + (c + (d + (e + (f + 0)))))) = n at sp ⊢
  have s_ab := e_law_sum (a := a) (b := b) (c := c) (d := d) (e := e) (f := f) sm1 sm1 sm0 sm0 sm1 sm0
  generalize h_ab : (a * 1 + (b * 1 + (c * 0 + (d * 0 + (e * 1 + (f * 0 + 0)))))) = v_ab at s_ab ⊢
  have s_ac := e_law_sum (a := a) (b := b) (c := c) (d := d) (e := e) (f := f) sm1 sm1 sm1 sm0 sm0 sm0
  generalize h_ac : (a * 1 + (b * 1 + (c * 1 + (d * 0 + (e * 0 + (f * 0 + 0)))))) = v_ac at s_ac ⊢
  have s_ba := e_law_sum (a := a) (b := b) (c := c) (d := d) (e := e) (f := f) sm0 sm0 sm1 sm1 sm0 sm1
  generalize h_ba : (a * 0 + (b * 0 + (c * 1 + (d * 1 + (e * 0 + (f * 1 + 0)))))) = v_ba at s_ba ⊢
  have s_bc := e_law_sum (a := a) (b := b) (c := c) (d := d) (e := e) (f := f) sm1 sm0 sm1 sm1 sm0 sm0
  generalize h_bc : (a * 1 + (b * 0 + (c * 1 + (d * 1 + (e * 0 + (f * 0 + 0)))))) = v_bc at s_bc ⊢
  have s_ca := e_law_sum (a := a) (b := b) (c := c) (d := d) (e := e) (f := f) sm0 sm0 sm0 sm1 sm1 sm1
  generalize h_ca : (a * 0 + (b * 0 + (c * 0 + (d * 1 + (e * 1 + (f * 1 + 0)))))) = v_ca at s_ca ⊢
  have s_cb := e_law_sum (a := a) (b := b) (c := c) (d := d) (e := e) (f := f) sm0 sm1 sm0 sm0 sm1 sm1
  generalize h_cb : (a * 0 + (b * 1 + (c * 0 + (d * 0 + (e * 1 + (f * 1 + 0)))))) = v_cb at s_cb ⊢
  unfold m_law_won b_law_won
  cases h1 : (decide (n ≤ 2 * v_ab) && decide (n ≤ 2 * v_ac)) <;> cases h2 : (decide (n ≤ 2 * v_ba) && decide (n ≤ 2 * v_bc)) <;> cases h3 : (decide (n ≤ 2 * v_ca) && decide (n ≤ 2 * v_cb)) <;> simp only [most, kVal_ap, kSh_ap, kCo_ap, kCons_ap, kSeq_n, kSeq_r, kRet_ap, kDrop_ap, kAsg_ap, kIf_t, kIf_f, kMk_ap, kBin_ap, kNot_ap, kAndV_ap, kOrV_ap, kNotV2_ap, kNotV_ap, kCh3_ap, kCh2_ap, kCh1_ap, kLoop2_n, kLoop2_r, kLoop_ap, kB_ap, kSub_ap, kNext_ap, kAB_ap, kPar2_ap, kPar_ap, kApp3_ap, kApp2_ap, kApp_ap, kMeth2_ap, kMeth_ap, kSeqI_ap, kRng_ap, kEn_ap, zp_s, kZip_ap, kLc_ap, kL3_ap, kL2_t, kL2_f, kL1_ap, kSl3_ap, kSl2_ap, kSl_ap, kErr_ap, kPm_ap, ap_op1, ap_opN, ap_intO, opt_some, opt_none, sure_ok, sure_err, sure_bad, nm_f, nm_t, sl_s, rs_s, mk_s, put_t, lcE_ok, fn_ret, fn_next, fn_err, back_ok, back_err, args_s, op2_s, op1_s, opN_s, opX_s, lkS_s, lkC_s, frS_n, frS_f, th_ok, th_err, th_bad, ap_bind, ap_pure, ap_fail, ap_name, ap_slot, ap_val, ap_sh, ap_nil, ap_cons, ap_seq, ap_ret, ap_retSlot, ap_drop, ap_asg, ap_if, ap_cst, ap_tup, ap_lst, ap_bin2, ap_op2, ap_un1, ap_callN, look_s, look_v, looks_nil, looks_cons, shs_nil, shs_cons, ap_retB, ap_bool, ap_chain, ap_truO, ap_tr, ap_andT, ap_orT, ap_notT, ap_truB, ap_keep, ap_andV, ap_orV, ap_notV, ap_ifV, ap_callM, ap_callO, ap_must, ap_sure, ap_loop0, ap_loop, ap_for, ap_nm, ap_tp, ap_nilB, ap_consB, ap_sub, ap_setO, ap_asgB, ap_par, ap_appO, ap_app, ap_ty, ap_opm, ap_meth, ap_seqI, ap_rng, ap_enum, ap_zip, ap_lc, ap_lc0, ap_lcL, ap_free, ap_wipe0, ap_wipe, ap_back0, ap_back, ap_sl, ap_part, ap_raise, ap_lam, ap_perm, ap_fnR, outs00, outs01, outs02, outs03, outs1, outs2, outs3, argsOf, refsOf, backs, diff, truD, blOf, walkD, itemsD, sqD, zipL, List.zipWith_cons_cons, List.zipWith_nil_left, List.zipWith_nil_right, List.map_cons, List.map_nil, List.length_cons, List.length_nil, List.replicate, List.cons_append, List.nil_append, List.append_nil, List.getElem?_cons_zero, List.getElem?_cons_succ, List.getElem?_nil, List.set_cons_zero, List.set_cons_succ, List.set_nil, List.all_cons, List.all_nil, List.contains_cons, List.contains_nil, Option.map_some, Option.map_none, Option.getD_some, Option.getD_none, Option.bind_some, Option.bind_none, Nat.reduceAdd, Nat.reduceSub, Nat.reduceLT, Nat.reduceLeDiff, Nat.reduceEqDiff, Nat.reduceBEq, beq_self_eq_true, Bool.and_true, Bool.true_and, Bool.and_false, Bool.false_and, Bool.or_true, Bool.true_or, Bool.or_false, Bool.false_or, Bool.not_true, Bool.not_false, if_true, if_false, and_true, true_and, and_self, ite_true, ite_false, decide_true, decide_false, Bool.false_eq_true, reduceCtorEq, Nat.zero_add, Nat.sub_self, Nat.lt_irrefl, eqr_q, tyStr, tyLst, int_bl, b2t, b2f, lt01, lt02, lt12, lt10, lt20, lt21, ne_ab, ne_ac, ne_ba, ne_bc, ne_ca, ne_cb, ne_aa, ne_bb, ne_cc, s_ab, s_ac, s_ba, s_bc, s_ca, s_cb, mul2, sp, geI, eq_tt, h1, h2, h3, jn_fff, jn_fft, jn_ftf, jn_ftt, jn_tff, jn_tft, jn_ttf, jn_ttt, ix_abc_a, ix_abc_b, ix_abc_c, ix_acb_a, ix_acb_b, ix_acb_c, ix_bac_a, ix_bac_b, ix_bac_c, ix_bca_a, ix_bca_b, ix_bca_c, ix_cab_a, ix_cab_b, ix_cab_c, ix_cba_a, ix_cba_b, ix_cba_c]
end TT

set_option maxRecDepth 100000
set_option maxHeartbeats 4000000
/-! KP4: both countings agree; names exchanged. -/
namespace TT
open PySem PySem.Spec PyProof.Rows L2
theorem mx3_eq (x y z : Int) : mx3 x y z = max (max x y) z := rfl
theorem sel3_shift {x y z x' y' z' n : Int} (h1 : x' = x + n) (h2 : y' = y + n) (h3 : z' = z + n) : sel3 x' y' z' = sel3 x y z := by
  unfold sel3
  simp only [Prod.mk.injEq, mx3_eq]
  refine ⟨?_, ?_, ?_⟩ <;> refine decide_eq_decide.mpr ⟨fun h => ?_, fun h => ?_⟩ <;> omega
theorem e_law_won (a b c d e f : Int) (r : Rl) : m_law_won [(false, P6 a b c d e f), (false, .str r.s)] = .ok (false, .str (S3 (wn a b c d e f r))) [none, none] := by
  cases r with
  | f => exact (e_law_won_f a b c d e f).trans (by rw [sel3_shift (n := 0) (x := a + b) (y := c + d) (z := e + f)] <;> first | rfl | omega)
  | l => exact (e_law_won_l a b c d e f).trans (by rw [sel3_shift (n := 0) (x := -(d + f)) (y := -(b + e)) (z := -(a + c))] <;> first | rfl | omega)
  | p => exact (e_law_won_p a b c d e f).trans (by rw [sel3_shift (n := a + b + c + d + e + f) (x := a + b - (d + f)) (y := c + d - (b + e)) (z := e + f - (a + c))] <;> first | rfl | omega)
  | q =>
    refine (e_law_won_q a b c d e f).trans ?_
    have k : ∀ (n x y u v : Int), (n ≤ 2 * x ↔ n ≤ 2 * u) → (n ≤ 2 * y ↔ 2 * v ≤ n) → (decide (n ≤ 2 * x) && decide (n ≤ 2 * y)) = bt u v n := fun n x y u v h1 h2 => by
      unfold bt
      rw [decide_eq_decide.mpr h1, decide_eq_decide.mpr h2]
    have k2 : ∀ (n x y u v : Int), (n ≤ 2 * x ↔ 2 * v ≤ n) → (n ≤ 2 * y ↔ n ≤ 2 * u) → (decide (n ≤ 2 * x) && decide (n ≤ 2 * y)) = bt u v n := fun n x y u v h1 h2 => by
      unfold bt
      rw [decide_eq_decide.mpr h1, decide_eq_decide.mpr h2, Bool.and_comm]
    rw [k _ _ _ (a + b + e) (d + e + f) (by omega) (by omega), k2 _ _ _ (a + c + d) (a + b + e) (by omega) (by omega), k _ _ _ (d + e + f) (a + c + d) (by omega) (by omega)]
    rfl
/-- the five exchanges -/
inductive Pm where
  | acb | bac | bca | cab | cba
def Pm.s : Pm → Str
  | .acb => "acb"
  | .bac => "bac"
  | .bca => "bca"
  | .cab => "cab"
  | .cba => "cba"
def Pm.on (t : Bool × Bool × Bool) : Pm → Bool × Bool × Bool
  | .acb => (t.1, t.2.2, t.2.1)
  | .bac => (t.2.1, t.1, t.2.2)
  | .bca => (t.2.2, t.1, t.2.1)
  | .cab => (t.2.1, t.2.2, t.1)
  | .cba => (t.2.2, t.2.1, t.1)
def Pm.led (a b c d e f : Int) : Pm → D
  | .acb => P6 b a e f c d
  | .bac => P6 c d a b f e
  | .bca => P6 e f b a d c
  | .cab => P6 d c f e a b
  | .cba => P6 f e d c b a
theorem e_law_led (a b c d e f : Int) (p : Pm) : m_law_led [(false, P6 a b c d e f), (false, .str p.s)] = .ok (false, p.led a b c d e f) [none, none] := by
  cases p <;> kernel_rfl
theorem okP_led {a b c d e f : Int} (p : Pm) (h : okP (P6 a b c d e f) = true) : okP (p.led a b c d e f) = true := by
  have h' : (decide (0 ≤ a) && decide (0 ≤ b) && decide (0 ≤ c) && decide (0 ≤ d) && decide (0 ≤ e) && decide (0 ≤ f) && (decide (1 ≤ a + b + c + d + e + f) && decide (a + b + c + d + e + f ≤ 60))) = true := h
  simp only [Bool.and_eq_true, decide_eq_true_eq] at h'
  cases p <;> simp only [Pm.led, P6, okP, Bool.and_eq_true, decide_eq_true_eq] <;> omega
theorem sel3_perm (x y z : Int) : sel3 x z y = ((sel3 x y z).1, (sel3 x y z).2.2, (sel3 x y z).2.1) ∧ sel3 y x z = ((sel3 x y z).2.1, (sel3 x y z).1, (sel3 x y z).2.2) ∧ sel3 z x y = ((sel3 x y z).2.2, (sel3 x y z).1, (sel3 x y z).2.1) ∧
    sel3 y z x = ((sel3 x y z).2.1, (sel3 x y z).2.2, (sel3 x y z).1) ∧ sel3 z y x = ((sel3 x y z).2.2, (sel3 x y z).2.1, (sel3 x y z).1) := by
  unfold sel3
  simp only [Prod.mk.injEq, mx3_eq]
  refine ⟨⟨?_, ?_, ?_⟩, ⟨?_, ?_, ?_⟩, ⟨?_, ?_, ?_⟩, ⟨?_, ?_, ?_⟩, ⟨?_, ?_, ?_⟩⟩ <;> refine decide_eq_decide.mpr ⟨fun h => ?_, fun h => ?_⟩ <;> omega
theorem e_won_led {a b c d e f : Int} (p : Pm) (r : Rl) (h : okP (P6 a b c d e f) = true) : m_winners [(false, p.led a b c d e f), (false, .str r.s)] = .ok (false, .str (S3 (p.on (wn a b c d e f r)))) [none, none] := by
  have hl := okP_led p h
  have mk : ∀ {a' b' c' d' e' f' : Int} {t : Bool × Bool × Bool}, okP (P6 a' b' c' d' e' f') = true → wn a' b' c' d' e' f' r = t → m_winners [(false, P6 a' b' c' d' e' f'), (false, .str r.s)] = .ok (false, .str (S3 t)) [none, none] := fun h e => by
    rw [e_winners r h, e]
  have sp := sel3_perm
  have sx : ∀ {x y z x' y' z' : Int}, x' = x → y' = y → z' = z → sel3 x' y' z' = sel3 x y z := fun h1 h2 h3 => by rw [h1, h2, h3]
  have bx : ∀ {x y n x' y' n' : Int}, (x' = x ∧ y' = y ∧ n' = n ∨ 2 * x' = 2 * n - 2 * y ∧ 2 * y' = 2 * n - 2 * x ∧ n' = n) → bt x' y' n' = bt x y n := fun {x y n x' y' n'} h => by
    unfold bt
    rcases h with ⟨rfl, rfl, rfl⟩ | ⟨h1, h2, rfl⟩
    · rfl
    · rw [Bool.and_comm, decide_eq_decide.mpr (show 2 * y' ≤ n' ↔ n' ≤ 2 * x by omega), decide_eq_decide.mpr (show n' ≤ 2 * x' ↔ 2 * y ≤ n' by omega)]
  cases p
  · refine mk hl ?_
    cases r
    · exact (sx (by omega) (by omega) (by omega)).trans (sp _ _ _).1
    · exact (sx (by omega) (by omega) (by omega)).trans (sp _ _ _).1
    · exact (sx (by omega) (by omega) (by omega)).trans (sp _ _ _).1
    · exact Prod.ext (bx (by omega)) (Prod.ext (bx (by omega)) (bx (by omega)))
  · refine mk hl ?_
    cases r
    · exact (sx (by omega) (by omega) (by omega)).trans (sp _ _ _).2.1
    · exact (sx (by omega) (by omega) (by omega)).trans (sp _ _ _).2.1
    · exact (sx (by omega) (by omega) (by omega)).trans (sp _ _ _).2.1
    · exact Prod.ext (bx (by omega)) (Prod.ext (bx (by omega)) (bx (by omega)))
  · refine mk hl ?_
    cases r
    · exact (sx (by omega) (by omega) (by omega)).trans (sp _ _ _).2.2.1
    · exact (sx (by omega) (by omega) (by omega)).trans (sp _ _ _).2.2.1
    · exact (sx (by omega) (by omega) (by omega)).trans (sp _ _ _).2.2.1
    · exact Prod.ext (bx (by omega)) (Prod.ext (bx (by omega)) (bx (by omega)))
  · refine mk hl ?_
    cases r
    · exact (sx (by omega) (by omega) (by omega)).trans (sp _ _ _).2.2.2.1
    · exact (sx (by omega) (by omega) (by omega)).trans (sp _ _ _).2.2.2.1
    · exact (sx (by omega) (by omega) (by omega)).trans (sp _ _ _).2.2.2.1
    · exact Prod.ext (bx (by omega)) (Prod.ext (bx (by omega)) (bx (by omega)))
  · refine mk hl ?_
    cases r
    · exact (sx (by omega) (by omega) (by omega)).trans (sp _ _ _).2.2.2.2
    · exact (sx (by omega) (by omega) (by omega)).trans (sp _ _ _).2.2.2.2
    · exact (sx (by omega) (by omega) (by omega)).trans (sp _ _ _).2.2.2.2
    · exact Prod.ext (bx (by omega)) (Prod.ext (bx (by omega)) (bx (by omega)))
theorem e_exch (p : Pm) (t : Bool × Bool × Bool) (x0 x1 x2 x4 x5 : Sl0) :
    methM "str" joinD (valM (cstM (.str ""))) (consM (valM (shM (callN sortedD (consM (valM (lcM [7] (seqI (nameM 6)) (nmB 7) (M.pure true) (bin2 ixD (slotM 3) (valM (methM "str" indexSD (valM (cstM (.str "abc"))) (consM (valM (nameM 7)) (nilM))))))) (nilM))))) (nilM))
      [x0, x1, x2, some (false, .str p.s), x4, x5, some (false, .str (S3 t)), none] = .ok (false, .str (S3 (p.on t))) [x0, x1, x2, some (false, .str p.s), x4, x5, some (false, .str (S3 t)), none] := by
  obtain ⟨t1, t2, t3⟩ := t
  cases p <;> cases t1 <;> cases t2 <;> cases t3 <;> kernel_rfl
theorem e_repr2 (t : Bool × Bool × Bool) : ∃ z, reprD [.lst [.str (S3 t), .str (S3 t)]] = some (false, .str z) := by
  have h : fitR (.list [.str (S3 t), .str (S3 t)]) = true := by
    obtain ⟨t1, t2, t3⟩ := t
    cases t1 <;> cases t2 <;> cases t3 <;> decide +kernel
  refine ⟨PyData.shown (.list [.str (S3 t), .str (S3 t)]), ?_⟩
  show (if fitR (.list [.str (S3 t), .str (S3 t)]) = true then some (false, D.str (PyData.shown (.list [.str (S3 t), .str (S3 t)]))) else none) = _
  rw [if_pos h]
end TT

set_option maxRecDepth 100000
set_option maxHeartbeats 4000000
/-! KP5: wells, draws. -/
namespace TT
open PySem PySem.Spec PyProof.Rows L2
structure Wl where
  a : Int
  b : Int
  c : Int
  h : 0 ≤ a
def wd (w : Wl) : D := .lst [.int w.a, .int w.b, .int w.c]
theorem gtI (i j : Int) : gtD (.int i) (.int j) = some (false, .bl (decide (j < i))) := by kernel_rfl
theorem addI (i j : Int) : addD (.int i) (.int j) = some (false, .int (i + j)) := by kernel_rfl
theorem subI (i j : Int) : subD (.int i) (.int j) = some (false, .int (i - j)) := by kernel_rfl
theorem intI (i : Int) : intD [.int i] = some (false, .int i) := by kernel_rfl
theorem modP {i t : Int} (h : 0 < t) : modD (.int i) (.int t) = some (false, .int (i % t)) := by
  show (if 0 < t then _ else _) = _
  rw [if_pos h]
theorem mod1 (i : Int) : modD (.int i) (.int 27011) = some (false, .int (i % 27011)) := modP (by decide)
theorem mod2 (i : Int) : modD (.int i) (.int 2147483423) = some (false, .int (i % 2147483423)) := modP (by decide)
theorem fd97 (i : Int) : fdivD (.int i) (.int 97) = some (false, .int (i / 97)) := by kernel_rfl
theorem mulM (i : Int) : mulD (.int i) (.int (i % 27011 + 8009)) = some (false, .int (i * (i % 27011 + 8009))) := mulS (by
  have h1 := Int.emod_nonneg i (show (27011 : Int) ≠ 0 by decide)
  have h2 := Int.emod_lt_of_pos i (show (0 : Int) < 27011 by decide)
  unfold smallI
  rw [decide_eq_true (by omega), decide_eq_true (by omega)]
  rfl)
theorem mulL (i : Int) : mulD (.int 10211) (.int i) = some (false, .int (10211 * i)) := by kernel_rfl
theorem dmP {i t : Int} (h : 0 < t) (h2 : t < 1073741824) : divmodD [.int i, .int t] = some (false, .tup [.int (i / t), .int (i % t)]) := by
  show (if (decide (0 < t) && decide (t < 1073741824)) = true then _ else _) = _
  rw [decide_eq_true h, decide_eq_true h2]
  rfl
theorem ixN30 : ixN 3 0 = some 0 := by kernel_rfl
theorem ixN31 : ixN 3 1 = some 1 := by kernel_rfl
theorem ixN32 : ixN 3 2 = some 2 := by kernel_rfl
theorem ex_draw (w : Wl) (t : Int) (h : 0 < t) (h2 : t < 1073741824) : ∃ (r : Int) (w' : Wl), 0 ≤ r ∧ r < t ∧ m_law_draw [(true, wd w), (false, .int t)] = .ok (false, .int r) [some (true, wd w'), none] := by
  obtain ⟨a, b, c, ha⟩ := w
  by_cases hp : 0 < a
  · have hd : decide (0 < a) = true := decide_eq_true hp
    refine ⟨a % t, ⟨a / t, (b * (b % 27011 + 8009) + 10211 * (c + 1) + 41) % 2147483423, c + 1, Int.ediv_nonneg ha (by omega)⟩, Int.emod_nonneg _ (by omega), Int.emod_lt_of_pos _ h, ?_⟩
    unfold m_law_draw b_law_draw wd
    simp only [most, kVal_ap, kSh_ap, kCo_ap, kCons_ap, kSeq_n, kSeq_r, kRet_ap, kDrop_ap, kAsg_ap, kIf_t, kIf_f, kMk_ap, kBin_ap, kNot_ap, kAndV_ap, kOrV_ap, kNotV2_ap, kNotV_ap, kCh3_ap, kCh2_ap, kCh1_ap, kLoop2_n, kLoop2_r, kLoop_ap, kB_ap, kSub_ap, kNext_ap, kAB_ap, kPar2_ap, kPar_ap, kApp3_ap, kApp2_ap, kApp_ap, kMeth2_ap, kMeth_ap, kSeqI_ap, kRng_ap, kEn_ap, zp_s, kZip_ap, kLc_ap, kL3_ap, kL2_t, kL2_f, kL1_ap, kSl3_ap, kSl2_ap, kSl_ap, kErr_ap, kPm_ap, ap_op1, ap_opN, ap_intO, opt_some, opt_none, sure_ok, sure_err, sure_bad, nm_f, nm_t, sl_s, rs_s, mk_s, put_t, lcE_ok, fn_ret, fn_next, fn_err, back_ok, back_err, args_s, op2_s, op1_s, opN_s, opX_s, lkS_s, lkC_s, frS_n, frS_f, th_ok, th_err, th_bad, ap_bind, ap_pure, ap_fail, ap_name, ap_slot, ap_val, ap_sh, ap_nil, ap_cons, ap_seq, ap_ret, ap_retSlot, ap_drop, ap_asg, ap_if, ap_cst, ap_tup, ap_lst, ap_bin2, ap_op2, ap_un1, ap_callN, look_s, look_v, looks_nil, looks_cons, shs_nil, shs_cons, ap_retB, ap_bool, ap_chain, ap_truO, ap_tr, ap_andT, ap_orT, ap_notT, ap_truB, ap_keep, ap_andV, ap_orV, ap_notV, ap_ifV, ap_callM, ap_callO, ap_must, ap_sure, ap_loop0, ap_loop, ap_for, ap_nm, ap_tp, ap_nilB, ap_consB, ap_sub, ap_setO, ap_asgB, ap_par, ap_appO, ap_app, ap_ty, ap_opm, ap_meth, ap_seqI, ap_rng, ap_enum, ap_zip, ap_lc, ap_lc0, ap_lcL, ap_free, ap_wipe0, ap_wipe, ap_back0, ap_back, ap_sl, ap_part, ap_raise, ap_lam, ap_perm, ap_fnR, outs00, outs01, outs02, outs03, outs1, outs2, outs3, argsOf, refsOf, backs, diff, truD, blOf, walkD, itemsD, sqD, zipL, List.zipWith_cons_cons, List.zipWith_nil_left, List.zipWith_nil_right, List.map_cons, List.map_nil, List.length_cons, List.length_nil, List.replicate, List.cons_append, List.nil_append, List.append_nil, List.getElem?_cons_zero, List.getElem?_cons_succ, List.getElem?_nil, List.set_cons_zero, List.set_cons_succ, List.set_nil, List.all_cons, List.all_nil, List.contains_cons, List.contains_nil, Option.map_some, Option.map_none, Option.getD_some, Option.getD_none, Option.bind_some, Option.bind_none, Nat.reduceAdd, Nat.reduceSub, Nat.reduceLT, Nat.reduceLeDiff, Nat.reduceEqDiff, Nat.reduceBEq, beq_self_eq_true, Bool.and_true, Bool.true_and, Bool.and_false, Bool.false_and, Bool.or_true, Bool.true_or, Bool.or_false, Bool.false_or, Bool.not_true, Bool.not_false, if_true, if_false, and_true, true_and, and_self, ite_true, ite_false, decide_true, decide_false, Bool.false_eq_true, reduceCtorEq, Nat.zero_add, Nat.sub_self, Nat.lt_irrefl, ixl_0, ixl_1, ixl_2, gtI, addI, intI, mod1, mod2, fd97, mulM, mulL, ixN30, ixN31, ixN32, modP h, dmP h h2, hd]
  · have hd : decide (0 < a) = false := decide_eq_false hp
    refine ⟨((b * (b % 27011 + 8009) + 10211 * (c + 1) + 41) % 2147483423 / 97) % t, ⟨a, (b * (b % 27011 + 8009) + 10211 * (c + 1) + 41) % 2147483423, c + 1, ha⟩, Int.emod_nonneg _ (by omega), Int.emod_lt_of_pos _ h, ?_⟩
    unfold m_law_draw b_law_draw wd
    simp only [most, kVal_ap, kSh_ap, kCo_ap, kCons_ap, kSeq_n, kSeq_r, kRet_ap, kDrop_ap, kAsg_ap, kIf_t, kIf_f, kMk_ap, kBin_ap, kNot_ap, kAndV_ap, kOrV_ap, kNotV2_ap, kNotV_ap, kCh3_ap, kCh2_ap, kCh1_ap, kLoop2_n, kLoop2_r, kLoop_ap, kB_ap, kSub_ap, kNext_ap, kAB_ap, kPar2_ap, kPar_ap, kApp3_ap, kApp2_ap, kApp_ap, kMeth2_ap, kMeth_ap, kSeqI_ap, kRng_ap, kEn_ap, zp_s, kZip_ap, kLc_ap, kL3_ap, kL2_t, kL2_f, kL1_ap, kSl3_ap, kSl2_ap, kSl_ap, kErr_ap, kPm_ap, ap_op1, ap_opN, ap_intO, opt_some, opt_none, sure_ok, sure_err, sure_bad, nm_f, nm_t, sl_s, rs_s, mk_s, put_t, lcE_ok, fn_ret, fn_next, fn_err, back_ok, back_err, args_s, op2_s, op1_s, opN_s, opX_s, lkS_s, lkC_s, frS_n, frS_f, th_ok, th_err, th_bad, ap_bind, ap_pure, ap_fail, ap_name, ap_slot, ap_val, ap_sh, ap_nil, ap_cons, ap_seq, ap_ret, ap_retSlot, ap_drop, ap_asg, ap_if, ap_cst, ap_tup, ap_lst, ap_bin2, ap_op2, ap_un1, ap_callN, look_s, look_v, looks_nil, looks_cons, shs_nil, shs_cons, ap_retB, ap_bool, ap_chain, ap_truO, ap_tr, ap_andT, ap_orT, ap_notT, ap_truB, ap_keep, ap_andV, ap_orV, ap_notV, ap_ifV, ap_callM, ap_callO, ap_must, ap_sure, ap_loop0, ap_loop, ap_for, ap_nm, ap_tp, ap_nilB, ap_consB, ap_sub, ap_setO, ap_asgB, ap_par, ap_appO, ap_app, ap_ty, ap_opm, ap_meth, ap_seqI, ap_rng, ap_enum, ap_zip, ap_lc, ap_lc0, ap_lcL, ap_free, ap_wipe0, ap_wipe, ap_back0, ap_back, ap_sl, ap_part, ap_raise, ap_lam, ap_perm, ap_fnR, outs00, outs01, outs02, outs03, outs1, outs2, outs3, argsOf, refsOf, backs, diff, truD, blOf, walkD, itemsD, sqD, zipL, List.zipWith_cons_cons, List.zipWith_nil_left, List.zipWith_nil_right, List.map_cons, List.map_nil, List.length_cons, List.length_nil, List.replicate, List.cons_append, List.nil_append, List.append_nil, List.getElem?_cons_zero, List.getElem?_cons_succ, List.getElem?_nil, List.set_cons_zero, List.set_cons_succ, List.set_nil, List.all_cons, List.all_nil, List.contains_cons, List.contains_nil, Option.map_some, Option.map_none, Option.getD_some, Option.getD_none, Option.bind_some, Option.bind_none, Nat.reduceAdd, Nat.reduceSub, Nat.reduceLT, Nat.reduceLeDiff, Nat.reduceEqDiff, Nat.reduceBEq, beq_self_eq_true, Bool.and_true, Bool.true_and, Bool.and_false, Bool.false_and, Bool.or_true, Bool.true_or, Bool.or_false, Bool.false_or, Bool.not_true, Bool.not_false, if_true, if_false, and_true, true_and, and_self, ite_true, ite_false, decide_true, decide_false, Bool.false_eq_true, reduceCtorEq, Nat.zero_add, Nat.sub_self, Nat.lt_irrefl, ixl_0, ixl_1, ixl_2, gtI, addI, intI, mod1, mod2, fd97, mulM, mulL, ixN30, ixN31, ixN32, modP h, dmP h h2, hd]
theorem noWd (w : Wl) : noO (wd w) = true := rfl
noncomputable def dr (w : Wl) (t : Int) : Int := open Classical in if h : 0 < t ∧ t < 1073741824 then (ex_draw w t h.1 h.2).choose else 0
noncomputable def nx (w : Wl) (t : Int) : Wl := open Classical in if h : 0 < t ∧ t < 1073741824 then (ex_draw w t h.1 h.2).choose_spec.choose else w
theorem e_draw (w : Wl) {t : Int} (h1 : 0 < t) (h2 : t < 1073741824) : m_law_draw [(true, wd w), (false, .int t)] = .ok (false, .int (dr w t)) [some (true, wd (nx w t)), none] := by
  unfold dr nx
  rw [dif_pos ⟨h1, h2⟩, dif_pos ⟨h1, h2⟩]
  exact (ex_draw w t h1 h2).choose_spec.choose_spec.2.2
theorem dr_lo (w : Wl) {t : Int} (h1 : 0 < t) (h2 : t < 1073741824) : 0 ≤ dr w t := by
  unfold dr
  rw [dif_pos ⟨h1, h2⟩]
  exact (ex_draw w t h1 h2).choose_spec.choose_spec.1
theorem dr_hi (w : Wl) {t : Int} (h1 : 0 < t) (h2 : t < 1073741824) : dr w t < t := by
  unfold dr
  rw [dif_pos ⟨h1, h2⟩]
  exact (ex_draw w t h1 h2).choose_spec.choose_spec.2.1
/-- one of a menu -/
noncomputable def pk (w : Wl) (ds : List D) : D := ds.getD (dr w ds.length).toNat .non
theorem pk_mem (w : Wl) {ds : List D} (h1 : 0 < ds.length) (h2 : ds.length < 1073741824) : pk w ds ∈ ds := by
  have a := dr_lo w (t := ds.length) (by omega) (by omega)
  have b := dr_hi w (t := ds.length) (by omega) (by omega)
  have c : (dr w ds.length).toNat < ds.length := by omega
  unfold pk
  rw [List.getD_eq_getElem?_getD, List.getElem?_eq_getElem c]
  exact List.getElem_mem c
theorem lenL (ds : List D) : lenD [.lst ds] = some (false, .int ds.length) := by kernel_rfl
theorem e_of (w : Wl) {ds : List D} (h1 : 0 < ds.length) (h2 : ds.length < 1073741824) : m_law_of [(true, wd w), (false, .lst ds)] = .ok (false, pk w ds) [some (true, wd (nx w ds.length)), none] := by
  have a := dr_lo w (t := ds.length) (by omega) (by omega)
  have b := dr_hi w (t := ds.length) (by omega) (by omega)
  have c : (dr w ds.length).toNat < ds.length := by omega
  have hd := e_draw w (t := ds.length) (by omega) (by omega)
  have hi : ixD (.lst ds) (.int (dr w ds.length)) = some (false, pk w ds) := by
    show (((itemsD (.lst ds)).bind fun ds' => atI ds' (dr w ds.length)).map fun x => (false, x)) = _
    have hx : atI ds (dr w ds.length) = some (pk w ds) := by
      unfold atI ixN
      rw [if_pos a, if_pos b]
      show ds[(dr w ds.length).toNat]? = _
      unfold pk
      rw [List.getD_eq_getElem?_getD, List.getElem?_eq_getElem c]
      rfl
    show ((atI ds (dr w ds.length)).map fun x => (false, x)) = _
    rw [hx]
    rfl
  unfold m_law_of b_law_of
  simp only [most, kVal_ap, kSh_ap, kCo_ap, kCons_ap, kSeq_n, kSeq_r, kRet_ap, kDrop_ap, kAsg_ap, kIf_t, kIf_f, kMk_ap, kBin_ap, kNot_ap, kAndV_ap, kOrV_ap, kNotV2_ap, kNotV_ap, kCh3_ap, kCh2_ap, kCh1_ap, kLoop2_n, kLoop2_r, kLoop_ap, kB_ap, kSub_ap, kNext_ap, kAB_ap, kPar2_ap, kPar_ap, kApp3_ap, kApp2_ap, kApp_ap, kMeth2_ap, kMeth_ap, kSeqI_ap, kRng_ap, kEn_ap, zp_s, kZip_ap, kLc_ap, kL3_ap, kL2_t, kL2_f, kL1_ap, kSl3_ap, kSl2_ap, kSl_ap, kErr_ap, kPm_ap, ap_op1, ap_opN, ap_intO, opt_some, opt_none, sure_ok, sure_err, sure_bad, nm_f, nm_t, sl_s, rs_s, mk_s, put_t, lcE_ok, fn_ret, fn_next, fn_err, back_ok, back_err, args_s, op2_s, op1_s, opN_s, opX_s, lkS_s, lkC_s, frS_n, frS_f, th_ok, th_err, th_bad, ap_bind, ap_pure, ap_fail, ap_name, ap_slot, ap_val, ap_sh, ap_nil, ap_cons, ap_seq, ap_ret, ap_retSlot, ap_drop, ap_asg, ap_if, ap_cst, ap_tup, ap_lst, ap_bin2, ap_op2, ap_un1, ap_callN, look_s, look_v, looks_nil, looks_cons, shs_nil, shs_cons, ap_retB, ap_bool, ap_chain, ap_truO, ap_tr, ap_andT, ap_orT, ap_notT, ap_truB, ap_keep, ap_andV, ap_orV, ap_notV, ap_ifV, ap_callM, ap_callO, ap_must, ap_sure, ap_loop0, ap_loop, ap_for, ap_nm, ap_tp, ap_nilB, ap_consB, ap_sub, ap_setO, ap_asgB, ap_par, ap_appO, ap_app, ap_ty, ap_opm, ap_meth, ap_seqI, ap_rng, ap_enum, ap_zip, ap_lc, ap_lc0, ap_lcL, ap_free, ap_wipe0, ap_wipe, ap_back0, ap_back, ap_sl, ap_part, ap_raise, ap_lam, ap_perm, ap_fnR, outs00, outs01, outs02, outs03, outs1, outs2, outs3, argsOf, refsOf, backs, diff, truD, blOf, walkD, itemsD, sqD, zipL, List.zipWith_cons_cons, List.zipWith_nil_left, List.zipWith_nil_right, List.map_cons, List.map_nil, List.length_cons, List.length_nil, List.replicate, List.cons_append, List.nil_append, List.append_nil, List.getElem?_cons_zero, List.getElem?_cons_succ, List.getElem?_nil, List.set_cons_zero, List.set_cons_succ, List.set_nil, List.all_cons, List.all_nil, List.contains_cons, List.contains_nil, Option.map_some, Option.map_none, Option.getD_some, Option.getD_none, Option.bind_some, Option.bind_none, Nat.reduceAdd, Nat.reduceSub, Nat.reduceLT, Nat.reduceLeDiff, Nat.reduceEqDiff, Nat.reduceBEq, beq_self_eq_true, Bool.and_true, Bool.true_and, Bool.and_false, Bool.false_and, Bool.or_true, Bool.true_or, Bool.or_false, Bool.false_or, Bool.not_true, Bool.not_false, if_true, if_false, and_true, true_and, and_self, ite_true, ite_false, decide_true, decide_false, Bool.false_eq_true, reduceCtorEq, Nat.zero_add, Nat.sub_self, Nat.lt_irrefl, lenL, hd, hi]
/-! ### values of any kind -/
def oddL : List D := [.non, .bl true, .bl false, .int 0, .int 1, .str "", .str "first", .str "Firsts", .str "firsts ", .str "point", .str "abc", .tup [], .tup [.int 1], .tup [.int 1, .int 0, .int 0, .int 0, .int 0],
  .lst [], .lst [.int 1, .int 0, .int 0, .int 0, .int 0, .int 0], .dct [] [], .tup [.str "firsts"], .lst [.str "pairs"], .tup [.int 0, .int 0, .int 0, .int 0, .int 0, .int 0], .tup [.int 61, .int 0, .int 0, .int 0, .int 0, .int 0]]
theorem mul6 : mulD (.tup [.int 0]) (.int 6) = some (false, .tup [.int 0, .int 0, .int 0, .int 0, .int 0, .int 0]) := by kernel_rfl
theorem addL (xs ys : List D) (h : xs.length + ys.length ≤ most) : addD (.lst xs) (.lst ys) = some (true, .lst (xs ++ ys)) := by
  show (if xs.length + ys.length ≤ most then _ else _) = _
  rw [if_pos h]
theorem e_odd (w : Wl) : m_law_odd [(true, wd w)] = .ok (false, pk w oddL) [some (true, wd (nx w 21))] := by
  have ho := e_of w (ds := oddL) (by decide) (by decide)
  have hl : ((oddL.length : Nat) : Int) = 21 := rfl
  rw [hl] at ho
  have ha : addD (.lst [.non, .bl true, .bl false, .int 0, .int 1, .str "", .str "first", .str "Firsts", .str "firsts ", .str "point", .str "abc", .tup [], .tup [.int 1], .tup [.int 1, .int 0, .int 0, .int 0, .int 0]])
    (.lst [.lst [], .lst [.int 1, .int 0, .int 0, .int 0, .int 0, .int 0], .dct [] [], .tup [.str "firsts"], .lst [.str "pairs"], .tup [.int 0, .int 0, .int 0, .int 0, .int 0, .int 0], .tup [.int 61, .int 0, .int 0, .int 0, .int 0, .int 0]]) = some (true, .lst oddL) := by kernel_rfl
  unfold m_law_odd b_law_odd
  simp only [most, kVal_ap, kSh_ap, kCo_ap, kCons_ap, kSeq_n, kSeq_r, kRet_ap, kDrop_ap, kAsg_ap, kIf_t, kIf_f, kMk_ap, kBin_ap, kNot_ap, kAndV_ap, kOrV_ap, kNotV2_ap, kNotV_ap, kCh3_ap, kCh2_ap, kCh1_ap, kLoop2_n, kLoop2_r, kLoop_ap, kB_ap, kSub_ap, kNext_ap, kAB_ap, kPar2_ap, kPar_ap, kApp3_ap, kApp2_ap, kApp_ap, kMeth2_ap, kMeth_ap, kSeqI_ap, kRng_ap, kEn_ap, zp_s, kZip_ap, kLc_ap, kL3_ap, kL2_t, kL2_f, kL1_ap, kSl3_ap, kSl2_ap, kSl_ap, kErr_ap, kPm_ap, ap_op1, ap_opN, ap_intO, opt_some, opt_none, sure_ok, sure_err, sure_bad, nm_f, nm_t, sl_s, rs_s, mk_s, put_t, lcE_ok, fn_ret, fn_next, fn_err, back_ok, back_err, args_s, op2_s, op1_s, opN_s, opX_s, lkS_s, lkC_s, frS_n, frS_f, th_ok, th_err, th_bad, ap_bind, ap_pure, ap_fail, ap_name, ap_slot, ap_val, ap_sh, ap_nil, ap_cons, ap_seq, ap_ret, ap_retSlot, ap_drop, ap_asg, ap_if, ap_cst, ap_tup, ap_lst, ap_bin2, ap_op2, ap_un1, ap_callN, look_s, look_v, looks_nil, looks_cons, shs_nil, shs_cons, ap_retB, ap_bool, ap_chain, ap_truO, ap_tr, ap_andT, ap_orT, ap_notT, ap_truB, ap_keep, ap_andV, ap_orV, ap_notV, ap_ifV, ap_callM, ap_callO, ap_must, ap_sure, ap_loop0, ap_loop, ap_for, ap_nm, ap_tp, ap_nilB, ap_consB, ap_sub, ap_setO, ap_asgB, ap_par, ap_appO, ap_app, ap_ty, ap_opm, ap_meth, ap_seqI, ap_rng, ap_enum, ap_zip, ap_lc, ap_lc0, ap_lcL, ap_free, ap_wipe0, ap_wipe, ap_back0, ap_back, ap_sl, ap_part, ap_raise, ap_lam, ap_perm, ap_fnR, outs00, outs01, outs02, outs03, outs1, outs2, outs3, argsOf, refsOf, backs, diff, truD, blOf, walkD, itemsD, sqD, zipL, List.zipWith_cons_cons, List.zipWith_nil_left, List.zipWith_nil_right, List.map_cons, List.map_nil, List.length_cons, List.length_nil, List.replicate, List.cons_append, List.nil_append, List.append_nil, List.getElem?_cons_zero, List.getElem?_cons_succ, List.getElem?_nil, List.set_cons_zero, List.set_cons_succ, List.set_nil, List.all_cons, List.all_nil, List.contains_cons, List.contains_nil, Option.map_some, Option.map_none, Option.getD_some, Option.getD_none, Option.bind_some, Option.bind_none, Nat.reduceAdd, Nat.reduceSub, Nat.reduceLT, Nat.reduceLeDiff, Nat.reduceEqDiff, Nat.reduceBEq, beq_self_eq_true, Bool.and_true, Bool.true_and, Bool.and_false, Bool.false_and, Bool.or_true, Bool.true_or, Bool.or_false, Bool.false_or, Bool.not_true, Bool.not_false, if_true, if_false, and_true, true_and, and_self, ite_true, ite_false, decide_true, decide_false, Bool.false_eq_true, reduceCtorEq, Nat.zero_add, Nat.sub_self, Nat.lt_irrefl, mul6, ha, ho]
end TT

set_option maxRecDepth 100000
set_option maxHeartbeats 4000000
/-! KP6: drawn profiles. -/
namespace TT
open PySem PySem.Spec PyProof.Rows L2
def fl (xs : List Int) : D := .lst (xs.map D.int)
def gi (xs : List Int) (k : Int) : Int := xs.getD k.toNat 0
theorem ints_map : ∀ xs : List Int, intsD (xs.map D.int) = some xs
  | [] => rfl
  | x :: xs => by
    show (intsD (xs.map D.int)).map (x :: ·) = _
    rw [ints_map xs]
    rfl
theorem sumF (xs : List Int) : sumD [fl xs] = some (false, .int xs.sum) := by
  show ((intsD (xs.map D.int)).map fun ns => (false, D.int ns.sum)) = _
  rw [ints_map]
  rfl
theorem ixF {xs : List Int} {k : Int} (h1 : 0 ≤ k) (h2 : k < xs.length) : ixD (fl xs) (.int k) = some (false, .int (gi xs k)) := by
  have c : k.toNat < xs.length := by omega
  have hx : atI (xs.map D.int) k = some (.int (gi xs k)) := by
    unfold atI ixN
    rw [List.length_map, if_pos h1, if_pos h2]
    show (xs.map D.int)[k.toNat]? = _
    rw [List.getElem?_map, List.getElem?_eq_getElem c]
    unfold gi
    rw [List.getD_eq_getElem?_getD, List.getElem?_eq_getElem c]
    rfl
  show ((atI (xs.map D.int) k).map fun x => (false, x)) = _
  rw [hx]
  rfl
theorem setF (e : Ev) {xs : List Int} {k v : Int} {i : Nat} {o : Opd} {ow : Bool} (h1 : 0 ≤ k) (h2 : k < xs.length) (he : e[i]? = some (some (true, fl xs))) (ho : look e o = some (ow, .int k)) :
    setO i (.int v) o e = .ok () (e.set i (some (true, fl (xs.set k.toNat v)))) := by
  unfold setO
  have hn : ixN (xs.map D.int).length k = some k.toNat := by
    unfold ixN
    rw [List.length_map, if_pos h1, if_pos h2]
  rw [he, ho]
  unfold fl
  simp only [hn, List.map_set]
theorem gi_nn {xs : List Int} {k : Int} (h : ∀ x ∈ xs, 0 ≤ x) : 0 ≤ gi xs k := by
  unfold gi
  rw [List.getD_eq_getElem?_getD]
  by_cases c : k.toNat < xs.length
  · rw [List.getElem?_eq_getElem c]; exact h _ (List.getElem_mem c)
  · rw [List.getElem?_eq_none (by omega)]; exact Int.le_refl 0
theorem sum_set : ∀ (xs : List Int) (i : Nat) (v : Int), i < xs.length → (xs.set i v).sum = xs.sum - xs.getD i 0 + v
  | [], _, _, h => absurd h (Nat.not_lt_zero _)
  | x :: xs, 0, v, _ => by
    simp only [List.set_cons_zero, List.sum_cons, List.getD_cons_zero]
    omega
  | x :: xs, i + 1, v, h => by
    have ih := sum_set xs i v (by simpa using h)
    simp only [List.set_cons_succ, List.sum_cons, List.getD_cons_succ, ih]
    omega
theorem mem_set {xs : List Int} {i : Nat} {v : Int} (h : ∀ x ∈ xs, 0 ≤ x) (hv : 0 ≤ v) : ∀ x ∈ xs.set i v, 0 ≤ x := fun x hx => by
  rcases List.mem_or_eq_of_mem_set hx with m | rfl
  · exact h x m
  · exact hv
theorem sum_nn : ∀ {xs : List Int}, (∀ x ∈ xs, 0 ≤ x) → 0 ≤ xs.sum
  | [], _ => Int.le_refl 0
  | x :: xs, h => by
    have a := h x List.mem_cons_self
    have b := sum_nn fun y hy => h y (List.mem_cons_of_mem _ hy)
    rw [List.sum_cons]
    omega
/-- numbers of six orders -/
structure Fd (xs : List Int) : Prop where
  len : xs.length = 6
  nn : ∀ x ∈ xs, 0 ≤ x
theorem Fd.set {xs : List Int} {i : Nat} {v : Int} (h : Fd xs) (hv : 0 ≤ v) : Fd (xs.set i v) := ⟨by rw [List.length_set]; exact h.len, mem_set h.nn hv⟩
theorem Fd.put {xs : List Int} {k v : Int} (h : Fd xs) (h1 : 0 ≤ k) (h2 : k < 6) : (xs.set k.toNat v).sum = xs.sum - gi xs k + v := sum_set xs k.toNat v (by rw [h.len]; omega)
theorem rgS {r : Int} (h1 : 0 ≤ r) (h2 : r < 1000) : rg (some [.int r]) = some (rngL 0 r.toNat) := by
  rw [rg_1, if_pos (by omega)]
abbrev bd_prof : D → M Unit := nmB 5
abbrev bo_prof : M Flw := seqM (par2M 7 6 (callM m_law_draw [0] 2 (consM (slotM 0) (consM (valM (shM (bin2 addD (slotM 4) (valM (cstM (.int 1)))))) (nilM)))) (callM m_law_draw [0] 2 (consM (slotM 0) (consM (valM (cstM (.int 6))) (nilM)))))
  (asgB (tupM (consM (valM (shM (bin2 addD (valM (bin2 ixD (slotM 1) (slotM 6))) (slotM 7)))) (consM (valM (shM (bin2 subD (slotM 4) (slotM 7)))) (nilM)))) (tpB (consB (subB 1 (slotM 6)) (consB (nmB 4) (nilB)))))
theorem d6 (w : Wl) : m_law_draw [(true, wd w), (false, .int 6)] = .ok (false, .int (dr w 6)) [some (true, wd (nx w 6)), none] := e_draw w (by decide) (by decide)
theorem loop_prof : ∀ (ts : List D) (w : Wl) (xs : List Int) (rest S : Int) (x2 x3 x5 x6 x7 : Sl0), Fd xs → 0 ≤ rest → xs.sum + rest = S → S ≤ 60 →
    ∃ w' xs' rest' y5 y6 y7, loopM bd_prof bo_prof ts [some (true, wd w), some (true, fl xs), x2, x3, some (false, .int rest), x5, x6, x7] = .ok .next [some (true, wd w'), some (true, fl xs'), x2, x3, some (false, .int rest'), y5, y6, y7] ∧ Fd xs' ∧ 0 ≤ rest' ∧ xs'.sum + rest' = S
  | [], w, xs, rest, S, x2, x3, x5, x6, x7, h, hr, hs, _ => ⟨w, xs, rest, x5, x6, x7, rfl, h, hr, hs⟩
  | t :: ts, w, xs, rest, S, x2, x3, x5, x6, x7, h, hr, hs, hS => by
    have hn := sum_nn h.nn
    have hd := e_draw w (t := rest + 1) (by omega) (by omega)
    have lo := dr_lo w (t := rest + 1) (by omega) (by omega)
    have hi := dr_hi w (t := rest + 1) (by omega) (by omega)
    have lo6 := dr_lo (nx w (rest + 1)) (t := 6) (by decide) (by decide)
    have hi6 := dr_hi (nx w (rest + 1)) (t := 6) (by decide) (by decide)
    have g := gi_nn (k := dr (nx w (rest + 1)) 6) h.nn
    have hk : dr (nx w (rest + 1)) 6 < xs.length := by rw [h.len]; exact hi6
    have hx := ixF lo6 hk
    have hd6 := d6 (nx w (rest + 1))
    obtain ⟨w', xs', rest', y5, y6, y7, e1, e2, e3, e4⟩ := loop_prof ts (nx (nx w (rest + 1)) 6) (xs.set (dr (nx w (rest + 1)) 6).toNat (gi xs (dr (nx w (rest + 1)) 6) + dr w (rest + 1))) (rest - dr w (rest + 1)) S x2 x3
      (some (false, t)) (some (false, .int (dr (nx w (rest + 1)) 6))) (some (false, .int (dr w (rest + 1)))) (h.set (by omega)) (by omega) (by rw [h.put lo6 hi6]; omega) hS
    refine ⟨w', xs', rest', y5, y6, y7, ?_, e2, e3, e4⟩
    rw [← e1]
    have st := fun e he ho => setF e (v := gi xs (dr (nx w (rest + 1)) 6) + dr w (rest + 1)) (i := 1) (o := .slot 6) (ow := false) lo6 hk he ho
    have st' := st [some (true, wd (nx (nx w (rest + 1)) 6)), some (true, fl xs), x2, x3, some (false, .int rest), some (false, t), some (false, .int (dr (nx w (rest + 1)) 6)), some (false, .int (dr w (rest + 1)))] rfl rfl
    generalize dr (nx w (rest + 1)) 6 = k at *
    generalize dr w (rest + 1) = own at *
    simp only [most, kVal_ap, kSh_ap, kCo_ap, kCons_ap, kSeq_n, kSeq_r, kRet_ap, kDrop_ap, kAsg_ap, kIf_t, kIf_f, kMk_ap, kBin_ap, kNot_ap, kAndV_ap, kOrV_ap, kNotV2_ap, kNotV_ap, kCh3_ap, kCh2_ap, kCh1_ap, kLoop2_n, kLoop2_r, kLoop_ap, kB_ap, kSub_ap, kNext_ap, kAB_ap, kPar2_ap, kPar_ap, kApp3_ap, kApp2_ap, kApp_ap, kMeth2_ap, kMeth_ap, kSeqI_ap, kRng_ap, kEn_ap, zp_s, kZip_ap, kLc_ap, kL3_ap, kL2_t, kL2_f, kL1_ap, kSl3_ap, kSl2_ap, kSl_ap, kErr_ap, kPm_ap, ap_op1, ap_opN, ap_intO, opt_some, opt_none, sure_ok, sure_err, sure_bad, nm_f, nm_t, sl_s, rs_s, mk_s, put_t, lcE_ok, fn_ret, fn_next, fn_err, back_ok, back_err, args_s, op2_s, op1_s, opN_s, opX_s, lkS_s, lkC_s, frS_n, frS_f, th_ok, th_err, th_bad, ap_bind, ap_pure, ap_fail, ap_name, ap_slot, ap_val, ap_sh, ap_nil, ap_cons, ap_seq, ap_ret, ap_retSlot, ap_drop, ap_asg, ap_if, ap_cst, ap_tup, ap_lst, ap_bin2, ap_op2, ap_un1, ap_callN, look_s, look_v, looks_nil, looks_cons, shs_nil, shs_cons, ap_retB, ap_bool, ap_chain, ap_truO, ap_tr, ap_andT, ap_orT, ap_notT, ap_truB, ap_keep, ap_andV, ap_orV, ap_notV, ap_ifV, ap_callM, ap_callO, ap_must, ap_sure, ap_loop0, ap_loop, ap_for, ap_nm, ap_tp, ap_nilB, ap_consB, ap_sub, ap_setO, ap_asgB, ap_par, ap_appO, ap_app, ap_ty, ap_opm, ap_meth, ap_seqI, ap_rng, ap_enum, ap_zip, ap_lc, ap_lc0, ap_lcL, ap_free, ap_wipe0, ap_wipe, ap_back0, ap_back, ap_sl, ap_part, ap_raise, ap_lam, ap_perm, ap_fnR, outs00, outs01, outs02, outs03, outs1, outs2, outs3, argsOf, refsOf, backs, diff, truD, blOf, walkD, itemsD, sqD, zipL, List.zipWith_cons_cons, List.zipWith_nil_left, List.zipWith_nil_right, List.map_cons, List.map_nil, List.length_cons, List.length_nil, List.replicate, List.cons_append, List.nil_append, List.append_nil, List.getElem?_cons_zero, List.getElem?_cons_succ, List.getElem?_nil, List.set_cons_zero, List.set_cons_succ, List.set_nil, List.all_cons, List.all_nil, List.contains_cons, List.contains_nil, Option.map_some, Option.map_none, Option.getD_some, Option.getD_none, Option.bind_some, Option.bind_none, Nat.reduceAdd, Nat.reduceSub, Nat.reduceLT, Nat.reduceLeDiff, Nat.reduceEqDiff, Nat.reduceBEq, beq_self_eq_true, Bool.and_true, Bool.true_and, Bool.and_false, Bool.false_and, Bool.or_true, Bool.true_or, Bool.or_false, Bool.false_or, Bool.not_true, Bool.not_false, if_true, if_false, and_true, true_and, and_self, ite_true, ite_false, decide_true, decide_false, Bool.false_eq_true, reduceCtorEq, Nat.zero_add, Nat.sub_self, Nat.lt_irrefl, hd, hd6, addI, subI, hx, ↓st']
theorem d9 (w : Wl) : m_law_draw [(true, wd w), (false, .int 9)] = .ok (false, .int (dr w 9)) [some (true, wd (nx w 9)), none] := e_draw w (by decide) (by decide)
theorem d60 (w : Wl) : m_law_draw [(true, wd w), (false, .int 60)] = .ok (false, .int (dr w 60)) [some (true, wd (nx w 60)), none] := e_draw w (by decide) (by decide)
theorem d8 (w : Wl) : m_law_draw [(true, wd w), (false, .int 8)] = .ok (false, .int (dr w 8)) [some (true, wd (nx w 8)), none] := e_draw w (by decide) (by decide)
theorem d3 (w : Wl) : m_law_draw [(true, wd w), (false, .int 3)] = .ok (false, .int (dr w 3)) [some (true, wd (nx w 3)), none] := e_draw w (by decide) (by decide)
theorem d2 (w : Wl) : m_law_draw [(true, wd w), (false, .int 2)] = .ok (false, .int (dr w 2)) [some (true, wd (nx w 2)), none] := e_draw w (by decide) (by decide)
theorem mulZ (i : Int) : mulD (.lst [.int i]) (.int 6) = some (true, fl [i, i, i, i, i, i]) := by kernel_rfl
theorem fd6 {a b c d e f : Int} (h0 : 0 ≤ a) (h1 : 0 ≤ b) (h2 : 0 ≤ c) (h3 : 0 ≤ d) (h4 : 0 ≤ e) (h5 : 0 ≤ f) : Fd [a, b, c, d, e, f] := ⟨rfl, fun x hx => by
  simp only [List.mem_cons, List.not_mem_nil, or_false] at hx
  rcases hx with rfl | rfl | rfl | rfl | rfl | rfl <;> assumption⟩
theorem s6 (a b c d e f : Int) : [a, b, c, d, e, f].sum = a + b + c + d + e + f := by
  simp only [List.sum_cons, List.sum_nil]
  omega
theorem rng6 : rngL 0 (Int.toNat 6) = [.int 0, .int 1, .int 2, .int 3, .int 4, .int 5] := by kernel_rfl
theorem flE (a b c d e f : Int) : D.lst [.int a, .int b, .int c, .int d, .int e, .int f] = fl [a, b, c, d, e, f] := rfl
/-- the number is put at a drawn place -/
theorem put_at (m : M Opd) (w : Wl) (xs : List Int) (v : Int) (x2 x3 x4 x5 x6 x7 : Sl0) (h : Fd xs) (hv : 0 ≤ v) {ow : Bool} {o : Opd} (hm : ∀ k, m [some (true, wd (nx w 6)), some (true, fl xs), x2, x3, x4, x5, some (false, .int k), x7] = .ok o [some (true, wd (nx w 6)), some (true, fl xs), x2, x3, x4, x5, some (false, .int k), x7])
    (ho : ∀ k, look [some (true, wd (nx w 6)), some (true, fl xs), x2, x3, x4, x5, some (false, .int k), x7] o = some (ow, .int v)) :
    ∃ k xs', seqM (asgM 6 (callM m_law_draw [0] 2 (consM (slotM 0) (consM (valM (cstM (.int 6))) (nilM))))) (asgB (bin2 addD (valM (bin2 ixD (slotM 1) (slotM 6))) m) (subB 1 (slotM 6))) [some (true, wd w), some (true, fl xs), x2, x3, x4, x5, x6, x7] =
      .ok .next [some (true, wd (nx w 6)), some (true, fl xs'), x2, x3, x4, x5, some (false, .int k), x7] ∧ Fd xs' ∧ xs'.sum = xs.sum + v := by
  have lo6 := dr_lo w (t := 6) (by decide) (by decide)
  have hi6 := dr_hi w (t := 6) (by decide) (by decide)
  have hd6 := d6 w
  generalize dr w 6 = k at *
  have hk : k < xs.length := by rw [h.len]; exact hi6
  have hx := ixF lo6 hk
  have g := gi_nn (k := k) h.nn
  refine ⟨k, xs.set k.toNat (gi xs k + v), ?_, h.set (by omega), by rw [h.put lo6 hi6]; omega⟩
  have st' := setF [some (true, wd (nx w 6)), some (true, fl xs), x2, x3, x4, x5, some (false, .int k), x7] (v := gi xs k + v) (i := 1) (o := .slot 6) (ow := false) lo6 hk rfl rfl
  have hm' := hm k
  have ho' := ho k
  simp only [most, kVal_ap, kSh_ap, kCo_ap, kCons_ap, kSeq_n, kSeq_r, kRet_ap, kDrop_ap, kAsg_ap, kIf_t, kIf_f, kMk_ap, kBin_ap, kNot_ap, kAndV_ap, kOrV_ap, kNotV2_ap, kNotV_ap, kCh3_ap, kCh2_ap, kCh1_ap, kLoop2_n, kLoop2_r, kLoop_ap, kB_ap, kSub_ap, kNext_ap, kAB_ap, kPar2_ap, kPar_ap, kApp3_ap, kApp2_ap, kApp_ap, kMeth2_ap, kMeth_ap, kSeqI_ap, kRng_ap, kEn_ap, zp_s, kZip_ap, kLc_ap, kL3_ap, kL2_t, kL2_f, kL1_ap, kSl3_ap, kSl2_ap, kSl_ap, kErr_ap, kPm_ap, ap_op1, ap_opN, ap_intO, opt_some, opt_none, sure_ok, sure_err, sure_bad, nm_f, nm_t, sl_s, rs_s, mk_s, put_t, lcE_ok, fn_ret, fn_next, fn_err, back_ok, back_err, args_s, op2_s, op1_s, opN_s, opX_s, lkS_s, lkC_s, frS_n, frS_f, th_ok, th_err, th_bad, ap_bind, ap_pure, ap_fail, ap_name, ap_slot, ap_val, ap_sh, ap_nil, ap_cons, ap_seq, ap_ret, ap_retSlot, ap_drop, ap_asg, ap_if, ap_cst, ap_tup, ap_lst, ap_bin2, ap_op2, ap_un1, ap_callN, look_s, look_v, looks_nil, looks_cons, shs_nil, shs_cons, ap_retB, ap_bool, ap_chain, ap_truO, ap_tr, ap_andT, ap_orT, ap_notT, ap_truB, ap_keep, ap_andV, ap_orV, ap_notV, ap_ifV, ap_callM, ap_callO, ap_must, ap_sure, ap_loop0, ap_loop, ap_for, ap_nm, ap_tp, ap_nilB, ap_consB, ap_sub, ap_setO, ap_asgB, ap_par, ap_appO, ap_app, ap_ty, ap_opm, ap_meth, ap_seqI, ap_rng, ap_enum, ap_zip, ap_lc, ap_lc0, ap_lcL, ap_free, ap_wipe0, ap_wipe, ap_back0, ap_back, ap_sl, ap_part, ap_raise, ap_lam, ap_perm, ap_fnR, outs00, outs01, outs02, outs03, outs1, outs2, outs3, argsOf, refsOf, backs, diff, truD, blOf, walkD, itemsD, sqD, zipL, List.zipWith_cons_cons, List.zipWith_nil_left, List.zipWith_nil_right, List.map_cons, List.map_nil, List.length_cons, List.length_nil, List.replicate, List.cons_append, List.nil_append, List.append_nil, List.getElem?_cons_zero, List.getElem?_cons_succ, List.getElem?_nil, List.set_cons_zero, List.set_cons_succ, List.set_nil, List.all_cons, List.all_nil, List.contains_cons, List.contains_nil, Option.map_some, Option.map_none, Option.getD_some, Option.getD_none, Option.bind_some, Option.bind_none, Nat.reduceAdd, Nat.reduceSub, Nat.reduceLT, Nat.reduceLeDiff, Nat.reduceEqDiff, Nat.reduceBEq, beq_self_eq_true, Bool.and_true, Bool.true_and, Bool.and_false, Bool.false_and, Bool.or_true, Bool.true_or, Bool.or_false, Bool.false_or, Bool.not_true, Bool.not_false, if_true, if_false, and_true, true_and, and_self, ite_true, ite_false, decide_true, decide_false, Bool.false_eq_true, reduceCtorEq, Nat.zero_add, Nat.sub_self, Nat.lt_irrefl, hd6, addI, hx, ↓hm', ↓ho', ↓st']
abbrev bo_stage : M Flw := (ifM (boolM (bin2 ltD (slotM 2) (valM (cstM (.int 2))))) (seqM (asgM 4 (bin2 addD (valM (cstM (.int 1))) (valM (callM m_law_draw [0] 2 (consM (slotM 0) (consM (valM (cstM (.int 60))) (nilM)))))))
  (seqM (forM (rngM (consM (valM (callM m_law_draw [0] 2 (consM (slotM 0) (consM (valM (cstM (.int 8))) (nilM))))) (nilM))) (nmB 5) (seqM (par2M 7 6 (callM m_law_draw [0] 2 (consM (slotM 0) (consM (valM (shM (bin2 addD (slotM 4) (valM (cstM (.int 1)))))) (nilM)))) (callM m_law_draw [0] 2 (consM (slotM 0) (consM (valM (cstM (.int 6))) (nilM)))))
  (asgB (tupM (consM (valM (shM (bin2 addD (valM (bin2 ixD (slotM 1) (slotM 6))) (slotM 7)))) (consM (valM (shM (bin2 subD (slotM 4) (slotM 7)))) (nilM)))) (tpB (consB (subB 1 (slotM 6)) (consB (nmB 4) (nilB)))))))
  (seqM (asgM 6 (callM m_law_draw [0] 2 (consM (slotM 0) (consM (valM (cstM (.int 6))) (nilM)))))
  (asgB (bin2 addD (valM (bin2 ixD (slotM 1) (slotM 6))) (slotM 4)) (subB 1 (slotM 6)))))) (ifM (boolM (bin2 eqD (slotM 2) (valM (cstM (.int 2))))) (asgM 1 (lcM [5] (rngM (consM (valM (cstM (.int 6))) (nilM))) (nmB 5) (M.pure true) (callM m_law_draw [0] 2 (consM (slotM 0) (consM (valM (cstM (.int 3))) (nilM)))))) (ifM (boolM (bin2 eqD (slotM 2) (valM (cstM (.int 3))))) (asgM 1 (ifV (boolM (bin2 eqD (valM (callM m_law_draw [0] 2 (consM (slotM 0) (consM (valM (cstM (.int 2))) (nilM))))) (valM (cstM (.int 0))))) (lstM (consM (valM (nameM 3)) (consM (valM (cstM (.int 0))) (consM (valM (cstM (.int 0))) (consM (valM (nameM 3)) (consM (valM (nameM 3)) (consM (valM (cstM (.int 0))) (nilM)))))))) (lstM (consM (valM (cstM (.int 0))) (consM (valM (nameM 3)) (consM (valM (nameM 3)) (consM (valM (cstM (.int 0))) (consM (valM (cstM (.int 0))) (consM (valM (nameM 3)) (nilM)))))))))) (ifM (boolM (bin2 eqD (slotM 2) (valM (cstM (.int 4))))) (seqM (asgM 6 (callM m_law_draw [0] 2 (consM (slotM 0) (consM (valM (cstM (.int 6))) (nilM)))))
  (asgB (tupM (consM (valM (nameM 3)) (consM (valM (nameM 3)) (nilM)))) (tpB (consB (subB 1 (slotM 6)) (consB (subB 1 (valM (bin2 ixD (valM (lstM (consM (valM (cstM (.int 5))) (consM (valM (cstM (.int 3))) (consM (valM (cstM (.int 4))) (consM (valM (cstM (.int 1))) (consM (valM (cstM (.int 2))) (consM (valM (cstM (.int 0))) (nilM))))))))) (slotM 6)))) (nilB)))))) (asgM 1 (bin2 mulD (valM (lstM (consM (valM (nameM 3)) (nilM)))) (valM (cstM (.int 6)))))))))
abbrev bo_fin : M Flw := (ifM (orT (boolM (bin2 eqD (valM (callN sumD (consM (slotM 1) (nilM)))) (valM (cstM (.int 0))))) (andT (boolM (bin2 ltD (valM (callN sumD (consM (slotM 1) (nilM)))) (valM (cstM (.int 60))))) (boolM (bin2 eqD (valM (callM m_law_draw [0] 2 (consM (slotM 0) (consM (valM (cstM (.int 3))) (nilM))))) (valM (cstM (.int 0))))))) (seqM (asgM 6 (callM m_law_draw [0] 2 (consM (slotM 0) (consM (valM (cstM (.int 6))) (nilM)))))
  (asgB (bin2 addD (valM (bin2 ixD (slotM 1) (slotM 6))) (valM (cstM (.int 1)))) (subB 1 (slotM 6)))) (M.pure .next))
theorem stage (w : Wl) (way many : Int) (h0 : 0 ≤ way) (h1 : way < 6) (m0 : 1 ≤ many) (m1 : many ≤ 9) : ∃ w' xs' y4 y5 y6 y7, bo_stage [some (true, wd w), some (true, fl [0, 0, 0, 0, 0, 0]), some (false, .int way), some (false, .int many), none, none, none, none] =
    .ok .next [some (true, wd w'), some (true, fl xs'), some (false, .int way), some (false, .int many), y4, y5, y6, y7] ∧ Fd xs' ∧ xs'.sum ≤ 60 := by
  have z6 : Fd [0, 0, 0, 0, 0, 0] := fd6 (by decide) (by decide) (by decide) (by decide) (by decide) (by decide)
  by_cases w2 : way < 2
  · have b2 : decide (way < 2) = true := decide_eq_true w2
    have l60 := dr_lo w (t := 60) (by decide) (by decide)
    have u60 := dr_hi w (t := 60) (by decide) (by decide)
    have l8 := dr_lo (nx w 60) (t := 8) (by decide) (by decide)
    have u8 := dr_hi (nx w 60) (t := 8) (by decide) (by decide)
    have q60 := d60 w
    have q8 := d8 (nx w 60)
    have r8 := rgS l8 (by omega)
    generalize dr w 60 = r0 at *
    obtain ⟨w1, xs1, rest1, y5, y6, y7, e1, e2, e3, e4⟩ := loop_prof (rngL 0 (dr (nx w 60) 8).toNat) (nx (nx w 60) 8) [0, 0, 0, 0, 0, 0] (1 + r0) (1 + r0) (some (false, .int way)) (some (false, .int many)) none none none z6 (by omega) (by rw [s6]; omega) (by omega)
    obtain ⟨k, xs2, f1, f2, f3⟩ := put_at (slotM 4) w1 xs1 rest1 (some (false, .int way)) (some (false, .int many)) (some (false, .int rest1)) y5 y6 y7 e2 e3 (ow := false) (o := .slot 4) (fun _ => rfl) (fun _ => rfl)
    refine ⟨nx w1 6, xs2, some (false, .int rest1), y5, some (false, .int k), y7, ?_, f2, by omega⟩
    simp only [most, kVal_ap, kSh_ap, kCo_ap, kCons_ap, kSeq_n, kSeq_r, kRet_ap, kDrop_ap, kAsg_ap, kIf_t, kIf_f, kMk_ap, kBin_ap, kNot_ap, kAndV_ap, kOrV_ap, kNotV2_ap, kNotV_ap, kCh3_ap, kCh2_ap, kCh1_ap, kLoop2_n, kLoop2_r, kLoop_ap, kB_ap, kSub_ap, kNext_ap, kAB_ap, kPar2_ap, kPar_ap, kApp3_ap, kApp2_ap, kApp_ap, kMeth2_ap, kMeth_ap, kSeqI_ap, kRng_ap, kEn_ap, zp_s, kZip_ap, kLc_ap, kL3_ap, kL2_t, kL2_f, kL1_ap, kSl3_ap, kSl2_ap, kSl_ap, kErr_ap, kPm_ap, ap_op1, ap_opN, ap_intO, opt_some, opt_none, sure_ok, sure_err, sure_bad, nm_f, nm_t, sl_s, rs_s, mk_s, put_t, lcE_ok, fn_ret, fn_next, fn_err, back_ok, back_err, args_s, op2_s, op1_s, opN_s, opX_s, lkS_s, lkC_s, frS_n, frS_f, th_ok, th_err, th_bad, ap_bind, ap_pure, ap_fail, ap_name, ap_slot, ap_val, ap_sh, ap_nil, ap_cons, ap_seq, ap_ret, ap_retSlot, ap_drop, ap_asg, ap_if, ap_cst, ap_tup, ap_lst, ap_bin2, ap_op2, ap_un1, ap_callN, look_s, look_v, looks_nil, looks_cons, shs_nil, shs_cons, ap_retB, ap_bool, ap_chain, ap_truO, ap_tr, ap_andT, ap_orT, ap_notT, ap_truB, ap_keep, ap_andV, ap_orV, ap_notV, ap_ifV, ap_callM, ap_callO, ap_must, ap_sure, ap_loop0, ap_loop, ap_for, ap_nm, ap_tp, ap_nilB, ap_consB, ap_sub, ap_setO, ap_asgB, ap_par, ap_appO, ap_app, ap_ty, ap_opm, ap_meth, ap_seqI, ap_rng, ap_enum, ap_zip, ap_lc, ap_lc0, ap_lcL, ap_free, ap_wipe0, ap_wipe, ap_back0, ap_back, ap_sl, ap_part, ap_raise, ap_lam, ap_perm, ap_fnR, outs00, outs01, outs02, outs03, outs1, outs2, outs3, argsOf, refsOf, backs, diff, truD, blOf, walkD, itemsD, sqD, zipL, List.zipWith_cons_cons, List.zipWith_nil_left, List.zipWith_nil_right, List.map_cons, List.map_nil, List.length_cons, List.length_nil, List.replicate, List.cons_append, List.nil_append, List.append_nil, List.getElem?_cons_zero, List.getElem?_cons_succ, List.getElem?_nil, List.set_cons_zero, List.set_cons_succ, List.set_nil, List.all_cons, List.all_nil, List.contains_cons, List.contains_nil, Option.map_some, Option.map_none, Option.getD_some, Option.getD_none, Option.bind_some, Option.bind_none, Nat.reduceAdd, Nat.reduceSub, Nat.reduceLT, Nat.reduceLeDiff, Nat.reduceEqDiff, Nat.reduceBEq, beq_self_eq_true, Bool.and_true, Bool.true_and, Bool.and_false, Bool.false_and, Bool.or_true, Bool.true_or, Bool.or_false, Bool.false_or, Bool.not_true, Bool.not_false, if_true, if_false, and_true, true_and, and_self, ite_true, ite_false, decide_true, decide_false, Bool.false_eq_true, reduceCtorEq, Nat.zero_add, Nat.sub_self, Nat.lt_irrefl, ltI, b2, q60, q8, r8, addI, ↓e1, ↓f1]
  · have b2 : decide (way < 2) = false := decide_eq_false w2
    by_cases w3 : way = 2
    · have b3 : decide (way = 2) = true := decide_eq_true w3
      have lo : ∀ u : Wl, 0 ≤ dr u 3 := fun u => dr_lo u (by decide) (by decide)
      have hi : ∀ u : Wl, dr u 3 < 3 := fun u => dr_hi u (by decide) (by decide)
      refine ⟨nx (nx (nx (nx (nx (nx w 3) 3) 3) 3) 3) 3, [dr w 3, dr (nx w 3) 3, dr (nx (nx w 3) 3) 3, dr (nx (nx (nx w 3) 3) 3) 3, dr (nx (nx (nx (nx w 3) 3) 3) 3) 3, dr (nx (nx (nx (nx (nx w 3) 3) 3) 3) 3) 3], none, none, none, none, ?_, fd6 (lo _) (lo _) (lo _) (lo _) (lo _) (lo _), ?_⟩
      rotate_left
      · rw [s6]
        have a1 := hi w; have a2 := hi (nx w 3); have a3 := hi (nx (nx w 3) 3); have a4 := hi (nx (nx (nx w 3) 3) 3); have a5 := hi (nx (nx (nx (nx w 3) 3) 3) 3); have a6 := hi (nx (nx (nx (nx (nx w 3) 3) 3) 3) 3)
        omega
      · have r6 := rgS (r := 6) (by decide) (by decide)
        simp only [most, kVal_ap, kSh_ap, kCo_ap, kCons_ap, kSeq_n, kSeq_r, kRet_ap, kDrop_ap, kAsg_ap, kIf_t, kIf_f, kMk_ap, kBin_ap, kNot_ap, kAndV_ap, kOrV_ap, kNotV2_ap, kNotV_ap, kCh3_ap, kCh2_ap, kCh1_ap, kLoop2_n, kLoop2_r, kLoop_ap, kB_ap, kSub_ap, kNext_ap, kAB_ap, kPar2_ap, kPar_ap, kApp3_ap, kApp2_ap, kApp_ap, kMeth2_ap, kMeth_ap, kSeqI_ap, kRng_ap, kEn_ap, zp_s, kZip_ap, kLc_ap, kL3_ap, kL2_t, kL2_f, kL1_ap, kSl3_ap, kSl2_ap, kSl_ap, kErr_ap, kPm_ap, ap_op1, ap_opN, ap_intO, opt_some, opt_none, sure_ok, sure_err, sure_bad, nm_f, nm_t, sl_s, rs_s, mk_s, put_t, lcE_ok, fn_ret, fn_next, fn_err, back_ok, back_err, args_s, op2_s, op1_s, opN_s, opX_s, lkS_s, lkC_s, frS_n, frS_f, th_ok, th_err, th_bad, ap_bind, ap_pure, ap_fail, ap_name, ap_slot, ap_val, ap_sh, ap_nil, ap_cons, ap_seq, ap_ret, ap_retSlot, ap_drop, ap_asg, ap_if, ap_cst, ap_tup, ap_lst, ap_bin2, ap_op2, ap_un1, ap_callN, look_s, look_v, looks_nil, looks_cons, shs_nil, shs_cons, ap_retB, ap_bool, ap_chain, ap_truO, ap_tr, ap_andT, ap_orT, ap_notT, ap_truB, ap_keep, ap_andV, ap_orV, ap_notV, ap_ifV, ap_callM, ap_callO, ap_must, ap_sure, ap_loop0, ap_loop, ap_for, ap_nm, ap_tp, ap_nilB, ap_consB, ap_sub, ap_setO, ap_asgB, ap_par, ap_appO, ap_app, ap_ty, ap_opm, ap_meth, ap_seqI, ap_rng, ap_enum, ap_zip, ap_lc, ap_lc0, ap_lcL, ap_free, ap_wipe0, ap_wipe, ap_back0, ap_back, ap_sl, ap_part, ap_raise, ap_lam, ap_perm, ap_fnR, outs00, outs01, outs02, outs03, outs1, outs2, outs3, argsOf, refsOf, backs, diff, truD, blOf, walkD, itemsD, sqD, zipL, List.zipWith_cons_cons, List.zipWith_nil_left, List.zipWith_nil_right, List.map_cons, List.map_nil, List.length_cons, List.length_nil, List.replicate, List.cons_append, List.nil_append, List.append_nil, List.getElem?_cons_zero, List.getElem?_cons_succ, List.getElem?_nil, List.set_cons_zero, List.set_cons_succ, List.set_nil, List.all_cons, List.all_nil, List.contains_cons, List.contains_nil, Option.map_some, Option.map_none, Option.getD_some, Option.getD_none, Option.bind_some, Option.bind_none, Nat.reduceAdd, Nat.reduceSub, Nat.reduceLT, Nat.reduceLeDiff, Nat.reduceEqDiff, Nat.reduceBEq, beq_self_eq_true, Bool.and_true, Bool.true_and, Bool.and_false, Bool.false_and, Bool.or_true, Bool.true_or, Bool.or_false, Bool.false_or, Bool.not_true, Bool.not_false, if_true, if_false, and_true, true_and, and_self, ite_true, ite_false, decide_true, decide_false, Bool.false_eq_true, reduceCtorEq, Nat.zero_add, Nat.sub_self, Nat.lt_irrefl, ltI, b2, eqI, b3, r6, rng6, d3, flE]
    · have b3 : decide (way = 2) = false := decide_eq_false w3
      by_cases w4 : way = 3
      · have b4 : decide (way = 3) = true := decide_eq_true w4
        cases hb : decide (dr w 2 = 0) with
        | true =>
          refine ⟨nx w 2, [many, 0, 0, many, many, 0], none, none, none, none, ?_, fd6 (by omega) (by omega) (by omega) (by omega) (by omega) (by omega), by rw [s6]; omega⟩
          simp only [most, kVal_ap, kSh_ap, kCo_ap, kCons_ap, kSeq_n, kSeq_r, kRet_ap, kDrop_ap, kAsg_ap, kIf_t, kIf_f, kMk_ap, kBin_ap, kNot_ap, kAndV_ap, kOrV_ap, kNotV2_ap, kNotV_ap, kCh3_ap, kCh2_ap, kCh1_ap, kLoop2_n, kLoop2_r, kLoop_ap, kB_ap, kSub_ap, kNext_ap, kAB_ap, kPar2_ap, kPar_ap, kApp3_ap, kApp2_ap, kApp_ap, kMeth2_ap, kMeth_ap, kSeqI_ap, kRng_ap, kEn_ap, zp_s, kZip_ap, kLc_ap, kL3_ap, kL2_t, kL2_f, kL1_ap, kSl3_ap, kSl2_ap, kSl_ap, kErr_ap, kPm_ap, ap_op1, ap_opN, ap_intO, opt_some, opt_none, sure_ok, sure_err, sure_bad, nm_f, nm_t, sl_s, rs_s, mk_s, put_t, lcE_ok, fn_ret, fn_next, fn_err, back_ok, back_err, args_s, op2_s, op1_s, opN_s, opX_s, lkS_s, lkC_s, frS_n, frS_f, th_ok, th_err, th_bad, ap_bind, ap_pure, ap_fail, ap_name, ap_slot, ap_val, ap_sh, ap_nil, ap_cons, ap_seq, ap_ret, ap_retSlot, ap_drop, ap_asg, ap_if, ap_cst, ap_tup, ap_lst, ap_bin2, ap_op2, ap_un1, ap_callN, look_s, look_v, looks_nil, looks_cons, shs_nil, shs_cons, ap_retB, ap_bool, ap_chain, ap_truO, ap_tr, ap_andT, ap_orT, ap_notT, ap_truB, ap_keep, ap_andV, ap_orV, ap_notV, ap_ifV, ap_callM, ap_callO, ap_must, ap_sure, ap_loop0, ap_loop, ap_for, ap_nm, ap_tp, ap_nilB, ap_consB, ap_sub, ap_setO, ap_asgB, ap_par, ap_appO, ap_app, ap_ty, ap_opm, ap_meth, ap_seqI, ap_rng, ap_enum, ap_zip, ap_lc, ap_lc0, ap_lcL, ap_free, ap_wipe0, ap_wipe, ap_back0, ap_back, ap_sl, ap_part, ap_raise, ap_lam, ap_perm, ap_fnR, outs00, outs01, outs02, outs03, outs1, outs2, outs3, argsOf, refsOf, backs, diff, truD, blOf, walkD, itemsD, sqD, zipL, List.zipWith_cons_cons, List.zipWith_nil_left, List.zipWith_nil_right, List.map_cons, List.map_nil, List.length_cons, List.length_nil, List.replicate, List.cons_append, List.nil_append, List.append_nil, List.getElem?_cons_zero, List.getElem?_cons_succ, List.getElem?_nil, List.set_cons_zero, List.set_cons_succ, List.set_nil, List.all_cons, List.all_nil, List.contains_cons, List.contains_nil, Option.map_some, Option.map_none, Option.getD_some, Option.getD_none, Option.bind_some, Option.bind_none, Nat.reduceAdd, Nat.reduceSub, Nat.reduceLT, Nat.reduceLeDiff, Nat.reduceEqDiff, Nat.reduceBEq, beq_self_eq_true, Bool.and_true, Bool.true_and, Bool.and_false, Bool.false_and, Bool.or_true, Bool.true_or, Bool.or_false, Bool.false_or, Bool.not_true, Bool.not_false, if_true, if_false, and_true, true_and, and_self, ite_true, ite_false, decide_true, decide_false, Bool.false_eq_true, reduceCtorEq, Nat.zero_add, Nat.sub_self, Nat.lt_irrefl, ltI, b2, eqI, b3, b4, d2, hb, flE]
        | false =>
          refine ⟨nx w 2, [0, many, many, 0, 0, many], none, none, none, none, ?_, fd6 (by omega) (by omega) (by omega) (by omega) (by omega) (by omega), by rw [s6]; omega⟩
          simp only [most, kVal_ap, kSh_ap, kCo_ap, kCons_ap, kSeq_n, kSeq_r, kRet_ap, kDrop_ap, kAsg_ap, kIf_t, kIf_f, kMk_ap, kBin_ap, kNot_ap, kAndV_ap, kOrV_ap, kNotV2_ap, kNotV_ap, kCh3_ap, kCh2_ap, kCh1_ap, kLoop2_n, kLoop2_r, kLoop_ap, kB_ap, kSub_ap, kNext_ap, kAB_ap, kPar2_ap, kPar_ap, kApp3_ap, kApp2_ap, kApp_ap, kMeth2_ap, kMeth_ap, kSeqI_ap, kRng_ap, kEn_ap, zp_s, kZip_ap, kLc_ap, kL3_ap, kL2_t, kL2_f, kL1_ap, kSl3_ap, kSl2_ap, kSl_ap, kErr_ap, kPm_ap, ap_op1, ap_opN, ap_intO, opt_some, opt_none, sure_ok, sure_err, sure_bad, nm_f, nm_t, sl_s, rs_s, mk_s, put_t, lcE_ok, fn_ret, fn_next, fn_err, back_ok, back_err, args_s, op2_s, op1_s, opN_s, opX_s, lkS_s, lkC_s, frS_n, frS_f, th_ok, th_err, th_bad, ap_bind, ap_pure, ap_fail, ap_name, ap_slot, ap_val, ap_sh, ap_nil, ap_cons, ap_seq, ap_ret, ap_retSlot, ap_drop, ap_asg, ap_if, ap_cst, ap_tup, ap_lst, ap_bin2, ap_op2, ap_un1, ap_callN, look_s, look_v, looks_nil, looks_cons, shs_nil, shs_cons, ap_retB, ap_bool, ap_chain, ap_truO, ap_tr, ap_andT, ap_orT, ap_notT, ap_truB, ap_keep, ap_andV, ap_orV, ap_notV, ap_ifV, ap_callM, ap_callO, ap_must, ap_sure, ap_loop0, ap_loop, ap_for, ap_nm, ap_tp, ap_nilB, ap_consB, ap_sub, ap_setO, ap_asgB, ap_par, ap_appO, ap_app, ap_ty, ap_opm, ap_meth, ap_seqI, ap_rng, ap_enum, ap_zip, ap_lc, ap_lc0, ap_lcL, ap_free, ap_wipe0, ap_wipe, ap_back0, ap_back, ap_sl, ap_part, ap_raise, ap_lam, ap_perm, ap_fnR, outs00, outs01, outs02, outs03, outs1, outs2, outs3, argsOf, refsOf, backs, diff, truD, blOf, walkD, itemsD, sqD, zipL, List.zipWith_cons_cons, List.zipWith_nil_left, List.zipWith_nil_right, List.map_cons, List.map_nil, List.length_cons, List.length_nil, List.replicate, List.cons_append, List.nil_append, List.append_nil, List.getElem?_cons_zero, List.getElem?_cons_succ, List.getElem?_nil, List.set_cons_zero, List.set_cons_succ, List.set_nil, List.all_cons, List.all_nil, List.contains_cons, List.contains_nil, Option.map_some, Option.map_none, Option.getD_some, Option.getD_none, Option.bind_some, Option.bind_none, Nat.reduceAdd, Nat.reduceSub, Nat.reduceLT, Nat.reduceLeDiff, Nat.reduceEqDiff, Nat.reduceBEq, beq_self_eq_true, Bool.and_true, Bool.true_and, Bool.and_false, Bool.false_and, Bool.or_true, Bool.true_or, Bool.or_false, Bool.false_or, Bool.not_true, Bool.not_false, if_true, if_false, and_true, true_and, and_self, ite_true, ite_false, decide_true, decide_false, Bool.false_eq_true, reduceCtorEq, Nat.zero_add, Nat.sub_self, Nat.lt_irrefl, ltI, b2, eqI, b3, b4, d2, hb, flE]
      · have b4 : decide (way = 3) = false := decide_eq_false w4
        by_cases w5 : way = 4
        · have b5 : decide (way = 4) = true := decide_eq_true w5
          have lo6 := dr_lo w (t := 6) (by decide) (by decide)
          have hi6 := dr_hi w (t := 6) (by decide) (by decide)
          have hd6 := d6 w
          generalize dr w 6 = k at *
          have hx := ixF (xs := [5, 3, 4, 1, 2, 0]) lo6 hi6
          have hg : 0 ≤ gi [5, 3, 4, 1, 2, 0] k ∧ gi [5, 3, 4, 1, 2, 0] k < 6 := by
            have hk : k = 0 ∨ k = 1 ∨ k = 2 ∨ k = 3 ∨ k = 4 ∨ k = 5 := by omega
            rcases hk with rfl | rfl | rfl | rfl | rfl | rfl <;> exact ⟨by decide, by decide⟩
          generalize gi [5, 3, 4, 1, 2, 0] k = j at *
          have f1 : Fd ([0, 0, 0, 0, 0, 0].set k.toNat many) := z6.set (by omega)
          have p1 := z6.put (v := many) lo6 hi6
          have p2 := f1.put (v := many) hg.1 hg.2
          have g1 := gi_nn (k := k) z6.nn
          have g2 := gi_nn (k := j) f1.nn
          refine ⟨nx w 6, ([0, 0, 0, 0, 0, 0].set k.toNat many).set j.toNat many, none, none, some (false, .int k), none, ?_, f1.set (by omega), ?_⟩
          · have st1 := setF [some (true, wd (nx w 6)), some (true, fl [0, 0, 0, 0, 0, 0]), some (false, .int way), some (false, .int many), none, none, some (false, .int k), none] (xs := [0, 0, 0, 0, 0, 0]) (v := many) (i := 1) (o := .slot 6) (ow := false) lo6 hi6 rfl rfl
            generalize ([0, 0, 0, 0, 0, 0] : List Int).set k.toNat many = ys at *
            have st2 := setF [some (true, wd (nx w 6)), some (true, fl ys), some (false, .int way), some (false, .int many), none, none, some (false, .int k), none] (v := many) (i := 1) (k := j) (o := .val (false, .int j)) (ow := false) hg.1 (by rw [f1.len]; exact hg.2) rfl rfl
            have hx' : ixD (.lst [.int 5, .int 3, .int 4, .int 1, .int 2, .int 0]) (.int k) = some (false, .int j) := hx
            simp only [most, kVal_ap, kSh_ap, kCo_ap, kCons_ap, kSeq_n, kSeq_r, kRet_ap, kDrop_ap, kAsg_ap, kIf_t, kIf_f, kMk_ap, kBin_ap, kNot_ap, kAndV_ap, kOrV_ap, kNotV2_ap, kNotV_ap, kCh3_ap, kCh2_ap, kCh1_ap, kLoop2_n, kLoop2_r, kLoop_ap, kB_ap, kSub_ap, kNext_ap, kAB_ap, kPar2_ap, kPar_ap, kApp3_ap, kApp2_ap, kApp_ap, kMeth2_ap, kMeth_ap, kSeqI_ap, kRng_ap, kEn_ap, zp_s, kZip_ap, kLc_ap, kL3_ap, kL2_t, kL2_f, kL1_ap, kSl3_ap, kSl2_ap, kSl_ap, kErr_ap, kPm_ap, ap_op1, ap_opN, ap_intO, opt_some, opt_none, sure_ok, sure_err, sure_bad, nm_f, nm_t, sl_s, rs_s, mk_s, put_t, lcE_ok, fn_ret, fn_next, fn_err, back_ok, back_err, args_s, op2_s, op1_s, opN_s, opX_s, lkS_s, lkC_s, frS_n, frS_f, th_ok, th_err, th_bad, ap_bind, ap_pure, ap_fail, ap_name, ap_slot, ap_val, ap_sh, ap_nil, ap_cons, ap_seq, ap_ret, ap_retSlot, ap_drop, ap_asg, ap_if, ap_cst, ap_tup, ap_lst, ap_bin2, ap_op2, ap_un1, ap_callN, look_s, look_v, looks_nil, looks_cons, shs_nil, shs_cons, ap_retB, ap_bool, ap_chain, ap_truO, ap_tr, ap_andT, ap_orT, ap_notT, ap_truB, ap_keep, ap_andV, ap_orV, ap_notV, ap_ifV, ap_callM, ap_callO, ap_must, ap_sure, ap_loop0, ap_loop, ap_for, ap_nm, ap_tp, ap_nilB, ap_consB, ap_sub, ap_setO, ap_asgB, ap_par, ap_appO, ap_app, ap_ty, ap_opm, ap_meth, ap_seqI, ap_rng, ap_enum, ap_zip, ap_lc, ap_lc0, ap_lcL, ap_free, ap_wipe0, ap_wipe, ap_back0, ap_back, ap_sl, ap_part, ap_raise, ap_lam, ap_perm, ap_fnR, outs00, outs01, outs02, outs03, outs1, outs2, outs3, argsOf, refsOf, backs, diff, truD, blOf, walkD, itemsD, sqD, zipL, List.zipWith_cons_cons, List.zipWith_nil_left, List.zipWith_nil_right, List.map_cons, List.map_nil, List.length_cons, List.length_nil, List.replicate, List.cons_append, List.nil_append, List.append_nil, List.getElem?_cons_zero, List.getElem?_cons_succ, List.getElem?_nil, List.set_cons_zero, List.set_cons_succ, List.set_nil, List.all_cons, List.all_nil, List.contains_cons, List.contains_nil, Option.map_some, Option.map_none, Option.getD_some, Option.getD_none, Option.bind_some, Option.bind_none, Nat.reduceAdd, Nat.reduceSub, Nat.reduceLT, Nat.reduceLeDiff, Nat.reduceEqDiff, Nat.reduceBEq, beq_self_eq_true, Bool.and_true, Bool.true_and, Bool.and_false, Bool.false_and, Bool.or_true, Bool.true_or, Bool.or_false, Bool.false_or, Bool.not_true, Bool.not_false, if_true, if_false, and_true, true_and, and_self, ite_true, ite_false, decide_true, decide_false, Bool.false_eq_true, reduceCtorEq, Nat.zero_add, Nat.sub_self, Nat.lt_irrefl, ltI, b2, eqI, b3, b4, b5, hd6, hx', ↓st1, ↓st2]
          · have z : ([0, 0, 0, 0, 0, 0] : List Int).sum = 0 := rfl
            omega
        · have b5 : decide (way = 4) = false := decide_eq_false w5
          refine ⟨w, [many, many, many, many, many, many], none, none, none, none, ?_, fd6 (by omega) (by omega) (by omega) (by omega) (by omega) (by omega), by rw [s6]; omega⟩
          simp only [most, kVal_ap, kSh_ap, kCo_ap, kCons_ap, kSeq_n, kSeq_r, kRet_ap, kDrop_ap, kAsg_ap, kIf_t, kIf_f, kMk_ap, kBin_ap, kNot_ap, kAndV_ap, kOrV_ap, kNotV2_ap, kNotV_ap, kCh3_ap, kCh2_ap, kCh1_ap, kLoop2_n, kLoop2_r, kLoop_ap, kB_ap, kSub_ap, kNext_ap, kAB_ap, kPar2_ap, kPar_ap, kApp3_ap, kApp2_ap, kApp_ap, kMeth2_ap, kMeth_ap, kSeqI_ap, kRng_ap, kEn_ap, zp_s, kZip_ap, kLc_ap, kL3_ap, kL2_t, kL2_f, kL1_ap, kSl3_ap, kSl2_ap, kSl_ap, kErr_ap, kPm_ap, ap_op1, ap_opN, ap_intO, opt_some, opt_none, sure_ok, sure_err, sure_bad, nm_f, nm_t, sl_s, rs_s, mk_s, put_t, lcE_ok, fn_ret, fn_next, fn_err, back_ok, back_err, args_s, op2_s, op1_s, opN_s, opX_s, lkS_s, lkC_s, frS_n, frS_f, th_ok, th_err, th_bad, ap_bind, ap_pure, ap_fail, ap_name, ap_slot, ap_val, ap_sh, ap_nil, ap_cons, ap_seq, ap_ret, ap_retSlot, ap_drop, ap_asg, ap_if, ap_cst, ap_tup, ap_lst, ap_bin2, ap_op2, ap_un1, ap_callN, look_s, look_v, looks_nil, looks_cons, shs_nil, shs_cons, ap_retB, ap_bool, ap_chain, ap_truO, ap_tr, ap_andT, ap_orT, ap_notT, ap_truB, ap_keep, ap_andV, ap_orV, ap_notV, ap_ifV, ap_callM, ap_callO, ap_must, ap_sure, ap_loop0, ap_loop, ap_for, ap_nm, ap_tp, ap_nilB, ap_consB, ap_sub, ap_setO, ap_asgB, ap_par, ap_appO, ap_app, ap_ty, ap_opm, ap_meth, ap_seqI, ap_rng, ap_enum, ap_zip, ap_lc, ap_lc0, ap_lcL, ap_free, ap_wipe0, ap_wipe, ap_back0, ap_back, ap_sl, ap_part, ap_raise, ap_lam, ap_perm, ap_fnR, outs00, outs01, outs02, outs03, outs1, outs2, outs3, argsOf, refsOf, backs, diff, truD, blOf, walkD, itemsD, sqD, zipL, List.zipWith_cons_cons, List.zipWith_nil_left, List.zipWith_nil_right, List.map_cons, List.map_nil, List.length_cons, List.length_nil, List.replicate, List.cons_append, List.nil_append, List.append_nil, List.getElem?_cons_zero, List.getElem?_cons_succ, List.getElem?_nil, List.set_cons_zero, List.set_cons_succ, List.set_nil, List.all_cons, List.all_nil, List.contains_cons, List.contains_nil, Option.map_some, Option.map_none, Option.getD_some, Option.getD_none, Option.bind_some, Option.bind_none, Nat.reduceAdd, Nat.reduceSub, Nat.reduceLT, Nat.reduceLeDiff, Nat.reduceEqDiff, Nat.reduceBEq, beq_self_eq_true, Bool.and_true, Bool.true_and, Bool.and_false, Bool.false_and, Bool.or_true, Bool.true_or, Bool.or_false, Bool.false_or, Bool.not_true, Bool.not_false, if_true, if_false, and_true, true_and, and_self, ite_true, ite_false, decide_true, decide_false, Bool.false_eq_true, reduceCtorEq, Nat.zero_add, Nat.sub_self, Nat.lt_irrefl, ltI, b2, eqI, b3, b4, b5, mulZ]
theorem fd_P6 {xs : List Int} (h : Fd xs) (h1 : 1 ≤ xs.sum) (h2 : xs.sum ≤ 60) : ∃ a b c d e f, D.tup (xs.map D.int) = P6 a b c d e f ∧ okP (P6 a b c d e f) = true := by
  match xs, h.len with
  | [a, b, c, d, e, f], _ =>
    rw [s6] at h1 h2
    have n := h.nn
    simp only [List.mem_cons, List.not_mem_nil, or_false, forall_eq_or_imp, forall_eq] at n
    obtain ⟨n0, n1, n2, n3, n4, n5⟩ := n
    refine ⟨a, b, c, d, e, f, rfl, ?_⟩
    simp only [P6, okP, Bool.and_eq_true, decide_eq_true_eq]
    omega
theorem tupF (xs : List Int) : tupleD [fl xs] = some (false, .tup (xs.map D.int)) := rfl
theorem fin_prof (w : Wl) (xs : List Int) (x2 x3 x4 x5 x6 x7 : Sl0) (h : Fd xs) (hs : xs.sum ≤ 60) : ∃ w' xs' y6, bo_fin [some (true, wd w), some (true, fl xs), x2, x3, x4, x5, x6, x7] = .ok .next [some (true, wd w'), some (true, fl xs'), x2, x3, x4, x5, y6, x7] ∧ Fd xs' ∧ 1 ≤ xs'.sum ∧ xs'.sum ≤ 60 := by
  have hn := sum_nn h.nn
  have pa := fun u => put_at (valM (cstM (.int 1))) u xs 1 x2 x3 x4 x5 x6 x7 h (by decide) (ow := false) (o := .val (false, .int 1)) (fun _ => rfl) (fun _ => rfl)
  cases b1 : decide (xs.sum = 0) with
  | true =>
    have b1' := of_decide_eq_true b1
    obtain ⟨k, xs2, f1, f2, f3⟩ := pa w
    refine ⟨nx w 6, xs2, some (false, .int k), ?_, f2, by omega, by omega⟩
    simp only [most, kVal_ap, kSh_ap, kCo_ap, kCons_ap, kSeq_n, kSeq_r, kRet_ap, kDrop_ap, kAsg_ap, kIf_t, kIf_f, kMk_ap, kBin_ap, kNot_ap, kAndV_ap, kOrV_ap, kNotV2_ap, kNotV_ap, kCh3_ap, kCh2_ap, kCh1_ap, kLoop2_n, kLoop2_r, kLoop_ap, kB_ap, kSub_ap, kNext_ap, kAB_ap, kPar2_ap, kPar_ap, kApp3_ap, kApp2_ap, kApp_ap, kMeth2_ap, kMeth_ap, kSeqI_ap, kRng_ap, kEn_ap, zp_s, kZip_ap, kLc_ap, kL3_ap, kL2_t, kL2_f, kL1_ap, kSl3_ap, kSl2_ap, kSl_ap, kErr_ap, kPm_ap, ap_op1, ap_opN, ap_intO, opt_some, opt_none, sure_ok, sure_err, sure_bad, nm_f, nm_t, sl_s, rs_s, mk_s, put_t, lcE_ok, fn_ret, fn_next, fn_err, back_ok, back_err, args_s, op2_s, op1_s, opN_s, opX_s, lkS_s, lkC_s, frS_n, frS_f, th_ok, th_err, th_bad, ap_bind, ap_pure, ap_fail, ap_name, ap_slot, ap_val, ap_sh, ap_nil, ap_cons, ap_seq, ap_ret, ap_retSlot, ap_drop, ap_asg, ap_if, ap_cst, ap_tup, ap_lst, ap_bin2, ap_op2, ap_un1, ap_callN, look_s, look_v, looks_nil, looks_cons, shs_nil, shs_cons, ap_retB, ap_bool, ap_chain, ap_truO, ap_tr, ap_andT, ap_orT, ap_notT, ap_truB, ap_keep, ap_andV, ap_orV, ap_notV, ap_ifV, ap_callM, ap_callO, ap_must, ap_sure, ap_loop0, ap_loop, ap_for, ap_nm, ap_tp, ap_nilB, ap_consB, ap_sub, ap_setO, ap_asgB, ap_par, ap_appO, ap_app, ap_ty, ap_opm, ap_meth, ap_seqI, ap_rng, ap_enum, ap_zip, ap_lc, ap_lc0, ap_lcL, ap_free, ap_wipe0, ap_wipe, ap_back0, ap_back, ap_sl, ap_part, ap_raise, ap_lam, ap_perm, ap_fnR, outs00, outs01, outs02, outs03, outs1, outs2, outs3, argsOf, refsOf, backs, diff, truD, blOf, walkD, itemsD, sqD, zipL, List.zipWith_cons_cons, List.zipWith_nil_left, List.zipWith_nil_right, List.map_cons, List.map_nil, List.length_cons, List.length_nil, List.replicate, List.cons_append, List.nil_append, List.append_nil, List.getElem?_cons_zero, List.getElem?_cons_succ, List.getElem?_nil, List.set_cons_zero, List.set_cons_succ, List.set_nil, List.all_cons, List.all_nil, List.contains_cons, List.contains_nil, Option.map_some, Option.map_none, Option.getD_some, Option.getD_none, Option.bind_some, Option.bind_none, Nat.reduceAdd, Nat.reduceSub, Nat.reduceLT, Nat.reduceLeDiff, Nat.reduceEqDiff, Nat.reduceBEq, beq_self_eq_true, Bool.and_true, Bool.true_and, Bool.and_false, Bool.false_and, Bool.or_true, Bool.true_or, Bool.or_false, Bool.false_or, Bool.not_true, Bool.not_false, if_true, if_false, and_true, true_and, and_self, ite_true, ite_false, decide_true, decide_false, Bool.false_eq_true, reduceCtorEq, Nat.zero_add, Nat.sub_self, Nat.lt_irrefl, sumF, eqI, b1, ↓f1]
  | false =>
    have b1' := of_decide_eq_false b1
    cases b2 : decide (xs.sum < 60) with
    | false =>
      have b2' := of_decide_eq_false b2
      refine ⟨w, xs, x6, ?_, h, by omega, by omega⟩
      simp only [most, kVal_ap, kSh_ap, kCo_ap, kCons_ap, kSeq_n, kSeq_r, kRet_ap, kDrop_ap, kAsg_ap, kIf_t, kIf_f, kMk_ap, kBin_ap, kNot_ap, kAndV_ap, kOrV_ap, kNotV2_ap, kNotV_ap, kCh3_ap, kCh2_ap, kCh1_ap, kLoop2_n, kLoop2_r, kLoop_ap, kB_ap, kSub_ap, kNext_ap, kAB_ap, kPar2_ap, kPar_ap, kApp3_ap, kApp2_ap, kApp_ap, kMeth2_ap, kMeth_ap, kSeqI_ap, kRng_ap, kEn_ap, zp_s, kZip_ap, kLc_ap, kL3_ap, kL2_t, kL2_f, kL1_ap, kSl3_ap, kSl2_ap, kSl_ap, kErr_ap, kPm_ap, ap_op1, ap_opN, ap_intO, opt_some, opt_none, sure_ok, sure_err, sure_bad, nm_f, nm_t, sl_s, rs_s, mk_s, put_t, lcE_ok, fn_ret, fn_next, fn_err, back_ok, back_err, args_s, op2_s, op1_s, opN_s, opX_s, lkS_s, lkC_s, frS_n, frS_f, th_ok, th_err, th_bad, ap_bind, ap_pure, ap_fail, ap_name, ap_slot, ap_val, ap_sh, ap_nil, ap_cons, ap_seq, ap_ret, ap_retSlot, ap_drop, ap_asg, ap_if, ap_cst, ap_tup, ap_lst, ap_bin2, ap_op2, ap_un1, ap_callN, look_s, look_v, looks_nil, looks_cons, shs_nil, shs_cons, ap_retB, ap_bool, ap_chain, ap_truO, ap_tr, ap_andT, ap_orT, ap_notT, ap_truB, ap_keep, ap_andV, ap_orV, ap_notV, ap_ifV, ap_callM, ap_callO, ap_must, ap_sure, ap_loop0, ap_loop, ap_for, ap_nm, ap_tp, ap_nilB, ap_consB, ap_sub, ap_setO, ap_asgB, ap_par, ap_appO, ap_app, ap_ty, ap_opm, ap_meth, ap_seqI, ap_rng, ap_enum, ap_zip, ap_lc, ap_lc0, ap_lcL, ap_free, ap_wipe0, ap_wipe, ap_back0, ap_back, ap_sl, ap_part, ap_raise, ap_lam, ap_perm, ap_fnR, outs00, outs01, outs02, outs03, outs1, outs2, outs3, argsOf, refsOf, backs, diff, truD, blOf, walkD, itemsD, sqD, zipL, List.zipWith_cons_cons, List.zipWith_nil_left, List.zipWith_nil_right, List.map_cons, List.map_nil, List.length_cons, List.length_nil, List.replicate, List.cons_append, List.nil_append, List.append_nil, List.getElem?_cons_zero, List.getElem?_cons_succ, List.getElem?_nil, List.set_cons_zero, List.set_cons_succ, List.set_nil, List.all_cons, List.all_nil, List.contains_cons, List.contains_nil, Option.map_some, Option.map_none, Option.getD_some, Option.getD_none, Option.bind_some, Option.bind_none, Nat.reduceAdd, Nat.reduceSub, Nat.reduceLT, Nat.reduceLeDiff, Nat.reduceEqDiff, Nat.reduceBEq, beq_self_eq_true, Bool.and_true, Bool.true_and, Bool.and_false, Bool.false_and, Bool.or_true, Bool.true_or, Bool.or_false, Bool.false_or, Bool.not_true, Bool.not_false, if_true, if_false, and_true, true_and, and_self, ite_true, ite_false, decide_true, decide_false, Bool.false_eq_true, reduceCtorEq, Nat.zero_add, Nat.sub_self, Nat.lt_irrefl, sumF, eqI, ltI, b1, b2]
    | true =>
      have b2' := of_decide_eq_true b2
      cases b3 : decide (dr w 3 = 0) with
      | false =>
        refine ⟨nx w 3, xs, x6, ?_, h, by omega, by omega⟩
        simp only [most, kVal_ap, kSh_ap, kCo_ap, kCons_ap, kSeq_n, kSeq_r, kRet_ap, kDrop_ap, kAsg_ap, kIf_t, kIf_f, kMk_ap, kBin_ap, kNot_ap, kAndV_ap, kOrV_ap, kNotV2_ap, kNotV_ap, kCh3_ap, kCh2_ap, kCh1_ap, kLoop2_n, kLoop2_r, kLoop_ap, kB_ap, kSub_ap, kNext_ap, kAB_ap, kPar2_ap, kPar_ap, kApp3_ap, kApp2_ap, kApp_ap, kMeth2_ap, kMeth_ap, kSeqI_ap, kRng_ap, kEn_ap, zp_s, kZip_ap, kLc_ap, kL3_ap, kL2_t, kL2_f, kL1_ap, kSl3_ap, kSl2_ap, kSl_ap, kErr_ap, kPm_ap, ap_op1, ap_opN, ap_intO, opt_some, opt_none, sure_ok, sure_err, sure_bad, nm_f, nm_t, sl_s, rs_s, mk_s, put_t, lcE_ok, fn_ret, fn_next, fn_err, back_ok, back_err, args_s, op2_s, op1_s, opN_s, opX_s, lkS_s, lkC_s, frS_n, frS_f, th_ok, th_err, th_bad, ap_bind, ap_pure, ap_fail, ap_name, ap_slot, ap_val, ap_sh, ap_nil, ap_cons, ap_seq, ap_ret, ap_retSlot, ap_drop, ap_asg, ap_if, ap_cst, ap_tup, ap_lst, ap_bin2, ap_op2, ap_un1, ap_callN, look_s, look_v, looks_nil, looks_cons, shs_nil, shs_cons, ap_retB, ap_bool, ap_chain, ap_truO, ap_tr, ap_andT, ap_orT, ap_notT, ap_truB, ap_keep, ap_andV, ap_orV, ap_notV, ap_ifV, ap_callM, ap_callO, ap_must, ap_sure, ap_loop0, ap_loop, ap_for, ap_nm, ap_tp, ap_nilB, ap_consB, ap_sub, ap_setO, ap_asgB, ap_par, ap_appO, ap_app, ap_ty, ap_opm, ap_meth, ap_seqI, ap_rng, ap_enum, ap_zip, ap_lc, ap_lc0, ap_lcL, ap_free, ap_wipe0, ap_wipe, ap_back0, ap_back, ap_sl, ap_part, ap_raise, ap_lam, ap_perm, ap_fnR, outs00, outs01, outs02, outs03, outs1, outs2, outs3, argsOf, refsOf, backs, diff, truD, blOf, walkD, itemsD, sqD, zipL, List.zipWith_cons_cons, List.zipWith_nil_left, List.zipWith_nil_right, List.map_cons, List.map_nil, List.length_cons, List.length_nil, List.replicate, List.cons_append, List.nil_append, List.append_nil, List.getElem?_cons_zero, List.getElem?_cons_succ, List.getElem?_nil, List.set_cons_zero, List.set_cons_succ, List.set_nil, List.all_cons, List.all_nil, List.contains_cons, List.contains_nil, Option.map_some, Option.map_none, Option.getD_some, Option.getD_none, Option.bind_some, Option.bind_none, Nat.reduceAdd, Nat.reduceSub, Nat.reduceLT, Nat.reduceLeDiff, Nat.reduceEqDiff, Nat.reduceBEq, beq_self_eq_true, Bool.and_true, Bool.true_and, Bool.and_false, Bool.false_and, Bool.or_true, Bool.true_or, Bool.or_false, Bool.false_or, Bool.not_true, Bool.not_false, if_true, if_false, and_true, true_and, and_self, ite_true, ite_false, decide_true, decide_false, Bool.false_eq_true, reduceCtorEq, Nat.zero_add, Nat.sub_self, Nat.lt_irrefl, sumF, eqI, ltI, b1, b2, b3, d3]
      | true =>
        obtain ⟨k, xs2, f1, f2, f3⟩ := pa (nx w 3)
        refine ⟨nx (nx w 3) 6, xs2, some (false, .int k), ?_, f2, by omega, by omega⟩
        simp only [most, kVal_ap, kSh_ap, kCo_ap, kCons_ap, kSeq_n, kSeq_r, kRet_ap, kDrop_ap, kAsg_ap, kIf_t, kIf_f, kMk_ap, kBin_ap, kNot_ap, kAndV_ap, kOrV_ap, kNotV2_ap, kNotV_ap, kCh3_ap, kCh2_ap, kCh1_ap, kLoop2_n, kLoop2_r, kLoop_ap, kB_ap, kSub_ap, kNext_ap, kAB_ap, kPar2_ap, kPar_ap, kApp3_ap, kApp2_ap, kApp_ap, kMeth2_ap, kMeth_ap, kSeqI_ap, kRng_ap, kEn_ap, zp_s, kZip_ap, kLc_ap, kL3_ap, kL2_t, kL2_f, kL1_ap, kSl3_ap, kSl2_ap, kSl_ap, kErr_ap, kPm_ap, ap_op1, ap_opN, ap_intO, opt_some, opt_none, sure_ok, sure_err, sure_bad, nm_f, nm_t, sl_s, rs_s, mk_s, put_t, lcE_ok, fn_ret, fn_next, fn_err, back_ok, back_err, args_s, op2_s, op1_s, opN_s, opX_s, lkS_s, lkC_s, frS_n, frS_f, th_ok, th_err, th_bad, ap_bind, ap_pure, ap_fail, ap_name, ap_slot, ap_val, ap_sh, ap_nil, ap_cons, ap_seq, ap_ret, ap_retSlot, ap_drop, ap_asg, ap_if, ap_cst, ap_tup, ap_lst, ap_bin2, ap_op2, ap_un1, ap_callN, look_s, look_v, looks_nil, looks_cons, shs_nil, shs_cons, ap_retB, ap_bool, ap_chain, ap_truO, ap_tr, ap_andT, ap_orT, ap_notT, ap_truB, ap_keep, ap_andV, ap_orV, ap_notV, ap_ifV, ap_callM, ap_callO, ap_must, ap_sure, ap_loop0, ap_loop, ap_for, ap_nm, ap_tp, ap_nilB, ap_consB, ap_sub, ap_setO, ap_asgB, ap_par, ap_appO, ap_app, ap_ty, ap_opm, ap_meth, ap_seqI, ap_rng, ap_enum, ap_zip, ap_lc, ap_lc0, ap_lcL, ap_free, ap_wipe0, ap_wipe, ap_back0, ap_back, ap_sl, ap_part, ap_raise, ap_lam, ap_perm, ap_fnR, outs00, outs01, outs02, outs03, outs1, outs2, outs3, argsOf, refsOf, backs, diff, truD, blOf, walkD, itemsD, sqD, zipL, List.zipWith_cons_cons, List.zipWith_nil_left, List.zipWith_nil_right, List.map_cons, List.map_nil, List.length_cons, List.length_nil, List.replicate, List.cons_append, List.nil_append, List.append_nil, List.getElem?_cons_zero, List.getElem?_cons_succ, List.getElem?_nil, List.set_cons_zero, List.set_cons_succ, List.set_nil, List.all_cons, List.all_nil, List.contains_cons, List.contains_nil, Option.map_some, Option.map_none, Option.getD_some, Option.getD_none, Option.bind_some, Option.bind_none, Nat.reduceAdd, Nat.reduceSub, Nat.reduceLT, Nat.reduceLeDiff, Nat.reduceEqDiff, Nat.reduceBEq, beq_self_eq_true, Bool.and_true, Bool.true_and, Bool.and_false, Bool.false_and, Bool.or_true, Bool.true_or, Bool.or_false, Bool.false_or, Bool.not_true, Bool.not_false, if_true, if_false, and_true, true_and, and_self, ite_true, ite_false, decide_true, decide_false, Bool.false_eq_true, reduceCtorEq, Nat.zero_add, Nat.sub_self, Nat.lt_irrefl, sumF, eqI, ltI, b1, b2, b3, d3, ↓f1]
theorem e_profile (w : Wl) : ∃ w' a b c d e f, m_law_profile [(true, wd w)] = .ok (false, P6 a b c d e f) [some (true, wd w')] ∧ okP (P6 a b c d e f) = true := by
  have lo6 := dr_lo w (t := 6) (by decide) (by decide)
  have hi6 := dr_hi w (t := 6) (by decide) (by decide)
  have lo9 := dr_lo (nx w 6) (t := 9) (by decide) (by decide)
  have hi9 := dr_hi (nx w 6) (t := 9) (by decide) (by decide)
  obtain ⟨w1, xs1, y4, y5, y6, y7, e1, e2, e3⟩ := stage (nx (nx w 6) 9) (dr w 6) (1 + dr (nx w 6) 9) lo6 hi6 (by omega) (by omega)
  obtain ⟨w2, xs2, z6, g1, g2, g3, g4⟩ := fin_prof w1 xs1 (some (false, .int (dr w 6))) (some (false, .int (1 + dr (nx w 6) 9))) y4 y5 y6 y7 e2 e3
  obtain ⟨a, b, c, d, e, f, q1, q2⟩ := fd_P6 g2 g3 g4
  refine ⟨w2, a, b, c, d, e, f, ?_, q2⟩
  rw [← q1]
  unfold m_law_profile b_law_profile
  simp only [most, kVal_ap, kSh_ap, kCo_ap, kCons_ap, kSeq_n, kSeq_r, kRet_ap, kDrop_ap, kAsg_ap, kIf_t, kIf_f, kMk_ap, kBin_ap, kNot_ap, kAndV_ap, kOrV_ap, kNotV2_ap, kNotV_ap, kCh3_ap, kCh2_ap, kCh1_ap, kLoop2_n, kLoop2_r, kLoop_ap, kB_ap, kSub_ap, kNext_ap, kAB_ap, kPar2_ap, kPar_ap, kApp3_ap, kApp2_ap, kApp_ap, kMeth2_ap, kMeth_ap, kSeqI_ap, kRng_ap, kEn_ap, zp_s, kZip_ap, kLc_ap, kL3_ap, kL2_t, kL2_f, kL1_ap, kSl3_ap, kSl2_ap, kSl_ap, kErr_ap, kPm_ap, ap_op1, ap_opN, ap_intO, opt_some, opt_none, sure_ok, sure_err, sure_bad, nm_f, nm_t, sl_s, rs_s, mk_s, put_t, lcE_ok, fn_ret, fn_next, fn_err, back_ok, back_err, args_s, op2_s, op1_s, opN_s, opX_s, lkS_s, lkC_s, frS_n, frS_f, th_ok, th_err, th_bad, ap_bind, ap_pure, ap_fail, ap_name, ap_slot, ap_val, ap_sh, ap_nil, ap_cons, ap_seq, ap_ret, ap_retSlot, ap_drop, ap_asg, ap_if, ap_cst, ap_tup, ap_lst, ap_bin2, ap_op2, ap_un1, ap_callN, look_s, look_v, looks_nil, looks_cons, shs_nil, shs_cons, ap_retB, ap_bool, ap_chain, ap_truO, ap_tr, ap_andT, ap_orT, ap_notT, ap_truB, ap_keep, ap_andV, ap_orV, ap_notV, ap_ifV, ap_callM, ap_callO, ap_must, ap_sure, ap_loop0, ap_loop, ap_for, ap_nm, ap_tp, ap_nilB, ap_consB, ap_sub, ap_setO, ap_asgB, ap_par, ap_appO, ap_app, ap_ty, ap_opm, ap_meth, ap_seqI, ap_rng, ap_enum, ap_zip, ap_lc, ap_lc0, ap_lcL, ap_free, ap_wipe0, ap_wipe, ap_back0, ap_back, ap_sl, ap_part, ap_raise, ap_lam, ap_perm, ap_fnR, outs00, outs01, outs02, outs03, outs1, outs2, outs3, argsOf, refsOf, backs, diff, truD, blOf, walkD, itemsD, sqD, zipL, List.zipWith_cons_cons, List.zipWith_nil_left, List.zipWith_nil_right, List.map_cons, List.map_nil, List.length_cons, List.length_nil, List.replicate, List.cons_append, List.nil_append, List.append_nil, List.getElem?_cons_zero, List.getElem?_cons_succ, List.getElem?_nil, List.set_cons_zero, List.set_cons_succ, List.set_nil, List.all_cons, List.all_nil, List.contains_cons, List.contains_nil, Option.map_some, Option.map_none, Option.getD_some, Option.getD_none, Option.bind_some, Option.bind_none, Nat.reduceAdd, Nat.reduceSub, Nat.reduceLT, Nat.reduceLeDiff, Nat.reduceEqDiff, Nat.reduceBEq, beq_self_eq_true, Bool.and_true, Bool.true_and, Bool.and_false, Bool.false_and, Bool.or_true, Bool.true_or, Bool.or_false, Bool.false_or, Bool.not_true, Bool.not_false, if_true, if_false, and_true, true_and, and_self, ite_true, ite_false, decide_true, decide_false, Bool.false_eq_true, reduceCtorEq, Nat.zero_add, Nat.sub_self, Nat.lt_irrefl, d6, d9, addI, mulZ, ↓e1, ↓g1, tupF]
end TT

set_option maxRecDepth 100000
set_option maxHeartbeats 4000000
/-! KP7: what is refused. -/
namespace TT
open PySem PySem.Spec PyProof.Rows L2
/-! ### data that can be shown -/
structure Ni (k wt : Nat) (d : D) : Prop where
  ex : ∃ p, toR d = some p ∧ p.showable = true ∧ p.depth ≤ k ∧ p.leavesShort 30 = true ∧ p.weight ≤ wt
def niB (k wt : Nat) (d : D) : Bool := match toR d with
  | some p => p.showable && decide (p.depth ≤ k) && p.leavesShort 30 && decide (p.weight ≤ wt)
  | none => false
theorem niB_ni {k wt : Nat} {d : D} (h : niB k wt d = true) : Ni k wt d := by
  unfold niB at h
  cases e : toR d with
  | none => rw [e] at h; cases h
  | some p =>
    rw [e] at h
    simp only [Bool.and_eq_true, decide_eq_true_eq] at h
    exact ⟨p, e, h.1.1.1, h.1.1.2, h.1.2, h.2⟩
theorem Ni.mono {k wt k' wt' : Nat} {d : D} (h : Ni k wt d) (h1 : k ≤ k') (h2 : wt ≤ wt') : Ni k' wt' d := by
  obtain ⟨p, a, b, c, e, f⟩ := h.ex
  exact ⟨p, a, b, by omega, e, by omega⟩
theorem log_small {n : Nat} (h : n < 1000) : n.log2 < 10 := by
  by_cases h0 : n = 0
  · subst h0; decide
  · exact (Nat.log2_lt h0).mpr (by omega)
theorem ni_int {i : Int} (h0 : 0 ≤ i) (h1 : i < 1000) : Ni 2 200 (.int i) := by
  have hl := log_small (n := i.natAbs) (by omega)
  refine ⟨.int i, rfl, decide_eq_true (by omega), Nat.zero_le _, decide_eq_true ?_, ?_⟩
  · have h := toString_length_le h0 (k := 3) (by decide) (by omega)
    show (Str.ofString (toString i)).length ≤ 30
    omega
  · show (if i == 0 then 0 else i.natAbs.log2 + 1) ≤ 200
    split <;> omega
theorem nis {k wt : Nat} : ∀ {ds : List D}, (∀ d ∈ ds, Ni k wt d) → ∃ ps, toRs ds = some ps ∧ PyData.showableAll ps = true ∧ PyData.depthAll ps ≤ k ∧ PyData.leavesShortAll 30 ps = true ∧ PyData.weightAll ps ≤ ds.length * (wt + 1)
  | [], _ => ⟨[], rfl, rfl, Nat.zero_le _, rfl, Nat.zero_le _⟩
  | d :: ds, h => by
    obtain ⟨p, a, b, c, e, f⟩ := (h d List.mem_cons_self).ex
    obtain ⟨ps, a', b', c', e', f'⟩ := nis fun x hx => h x (List.mem_cons_of_mem _ hx)
    refine ⟨p :: ps, ?_, ?_, ?_, ?_, ?_⟩
    · simp only [toRs, a, a']
    · simp only [PyData.showableAll, b, b', Bool.and_self]
    · simp only [PyData.depthAll]; omega
    · simp only [PyData.leavesShortAll, e, e', Bool.and_self]
    · simp only [PyData.weightAll, List.length_cons, Nat.add_mul, Nat.one_mul]; omega
theorem ni_tup {k wt : Nat} {ds : List D} (h : ∀ d ∈ ds, Ni k wt d) : Ni (k + 1) (ds.length * (wt + 1)) (.tup ds) := by
  obtain ⟨ps, a, b, c, e, f⟩ := nis h
  refine ⟨.tuple ps, ?_, ?_, ?_, ?_, ?_⟩
  · simp only [toR, a, Option.map_some]
  · simp only [PyData.showable, b]
  · simp only [PyData.depth]; omega
  · simp only [PyData.leavesShort, e]
  · simp only [PyData.weight]; omega
theorem ni_lst {k wt : Nat} {ds : List D} (h : ∀ d ∈ ds, Ni k wt d) : Ni (k + 1) (ds.length * (wt + 1)) (.lst ds) := by
  obtain ⟨ps, a, b, c, e, f⟩ := nis h
  refine ⟨.list ps, ?_, ?_, ?_, ?_, ?_⟩
  · simp only [toR, a, Option.map_some]
  · simp only [PyData.showable, b]
  · simp only [PyData.depth]; omega
  · simp only [PyData.leavesShort, e]
  · simp only [PyData.weight]; omega
theorem ni_repr {k wt : Nat} {d : D} (h : Ni k wt d) (hk : k ≤ 30) (hw : wt ≤ 100000) : ∃ z, reprD [.lst [d, d]] = some (false, .str z) := by
  have h2 := ni_lst (ds := [d, d]) fun x hx => by
    simp only [List.mem_cons, List.not_mem_nil, or_false, or_self] at hx
    subst hx
    exact h
  obtain ⟨p, a, b, c, e, f⟩ := h2.ex
  have fit : fitR p = true := by
    unfold fitR
    have hl := PyData.shown_le 30 (by decide) p e
    simp only [List.length_cons, List.length_nil] at f
    rw [b, decide_eq_true (show p.depth ≤ 40 by omega), decide_eq_true (show p.shown.length ≤ most by simp only [most]; omega)]
    rfl
  refine ⟨p.shown, ?_⟩
  show ((toR (.lst [d, d])).bind fun p => if fitR p = true then some (false, D.str p.shown) else none) = _
  rw [a]
  show (if fitR p = true then some (false, D.str p.shown) else none) = _
  rw [if_pos fit]
/-! ### data without lambdas -/
mutual
theorem close_no (env : Ev) (caps : List (List Nat)) : ∀ d : D, noO d = true → closeD env caps d = some d
  | .non, _ => rfl
  | .bl _, _ => rfl
  | .int _, _ => rfl
  | .str _, _ => rfl
  | .lst xs, h => by
    have h' : noOs xs = true := by simpa only [noO] using h
    simp only [closeD, close_nos env caps xs h', Option.map_some]
  | .frz xs, h => by
    have h' : noOs xs = true := by simpa only [noO] using h
    simp only [closeD, h', if_true]
  | .tup xs, h => by
    have h' : noOs xs = true := by simpa only [noO] using h
    simp only [closeD, h', if_true]
  | .dct ks vs, h => by
    have h' : noOs vs = true := by simpa only [noO] using h
    simp only [closeD, h', if_true]
  | .ins c ns vs, h => by
    have h' : noOs vs = true := by simpa only [noO] using h
    simp only [closeD, h', if_true]
  | .opq n vs, h => by simp only [noO] at h; cases h
theorem close_nos (env : Ev) (caps : List (List Nat)) : ∀ ds : List D, noOs ds = true → closeDs env caps ds = some ds
  | [], _ => rfl
  | d :: ds, h => by
    have h' : noO d = true ∧ noOs ds = true := by simpa only [noOs, Bool.and_eq_true] using h
    simp only [closeDs, close_no env caps d h'.1, close_nos env caps ds h'.2]
end
theorem noOs_all : ∀ ds : List D, noOs ds = ds.all noO
  | [] => rfl
  | d :: ds => by rw [noOs, List.all_cons, noOs_all ds]
theorem grd_ok {m : List B → R B} {args : List B} {x : B} {e : Ev} (h : noB args = true) (hm : m args = .ok x e) (h2 : noO x.2 = true) (h3 : noE e = true) : grd m args = .ok x e := by
  unfold grd
  rw [if_pos h, hm]
  show (if (noO x.2 && noE e) = true then R.ok x e else .bad) = _
  rw [h2, h3]
  rfl
theorem g_draw (w : Wl) {t : Int} (h1 : 0 < t) (h2 : t < 1073741824) : grd m_law_draw [(true, wd w), (false, .int t)] = .ok (false, .int (dr w t)) [some (true, wd (nx w t)), none] := grd_ok rfl (e_draw w h1 h2) rfl rfl
theorem g_of (w : Wl) {ds : List D} (h1 : 0 < ds.length) (h2 : ds.length < 1073741824) (hn : noOs ds = true) : grd m_law_of [(true, wd w), (false, .lst ds)] = .ok (false, pk w ds) [some (true, wd (nx w ds.length)), none] := by
  have hm := pk_mem w h1 h2
  rw [noOs_all, List.all_eq_true] at hn
  refine grd_ok ?_ (e_of w h1 h2) (hn _ hm) rfl
  show (noO (wd w) && (noO (.lst ds) && true)) = true
  rw [noWd, Bool.and_true, Bool.true_and]
  show noO (.lst ds) = true
  rw [noO, noOs_all, List.all_eq_true]
  exact hn
theorem odd_no : noOs oddL = true := by decide +kernel
theorem g_odd (w : Wl) : grd m_law_odd [(true, wd w)] = .ok (false, pk w oddL) [some (true, wd (nx w 21))] := by
  have hm := pk_mem w (ds := oddL) (by decide) (by decide)
  have hn := odd_no
  rw [noOs_all, List.all_eq_true] at hn
  exact grd_ok rfl (e_odd w) (hn _ hm) rfl
/-- values that the law hands over -/
structure Good (d : D) : Prop where
  ty : tyS d = true
  no : noO d = true
  ni : Ni 6 5000 d
/-! ### lambdas called -/
theorem tr_ok {i : Nat} {mb : M Flw} {ex : Str → Option Nat} {word : List B → R B} {e e' : Ev} {f : Flw} (h : mb e = .ok f e') : tryM i mb ex word e = .ok f e' := by
  unfold tryM
  rw [h]
theorem tr_err {i n : Nat} {mb : M Flw} {ex : Str → Option Nat} {word : List B → R B} {e e' e'' : Ev} {c : Str} {d : D} {x : B} (h : mb e = .err c [("given", d)] e') (hx : ex c = some n) (hw : word [(false, .opq n [d])] = .ok x e'') (h1 : noO x.2 = true) (h2 : n < 100) (h3 : i < e'.length) : tryM i mb ex word e = .ok (.ret x) e' := by
  unfold tryM
  rw [h]
  show (match ex c with | some n => _ | none => _) = _
  rw [hx]
  show (match word [(false, .opq n [d])] with | .ok x _ => _ | .err _ _ _ => _ | .bad => _) = _
  rw [hw]
  show (if noO x.2 = true ∧ n < 100 ∧ i < e'.length then R.ok (Flw.ret x) e' else .bad) = _
  rw [if_pos ⟨h1, h2, h3⟩]
theorem ap_act (e : Ev) (ms : Nat → List D → R B) (m : M B) : actM ms m e = R.th (m e) (actO ms) := rfl
theorem act_ok {ms : Nat → List D → R B} {n : Nat} {ds : List D} {x : B} {e e' : Ev} (h1 : 100 ≤ n) (h2 : n < 1000) (h3 : noOs ds = true) (h : ms (n - 100) ds = .ok x e') (h4 : x.1 = false) (h5 : noO x.2 = true) : actO ms (false, .opq n ds) e = .ok x e := by
  show (if 100 ≤ n ∧ n < 1000 ∧ noOs ds = true then (match ms (n - 100) ds with | .ok x _ => _ | .err _ _ _ => _ | .bad => _) else _) = _
  rw [if_pos ⟨h1, h2, h3⟩, h]
  show (if x.1 = false ∧ noO x.2 = true then R.ok x e else .bad) = _
  rw [if_pos ⟨h4, h5⟩]
theorem act_err {ms : Nat → List D → R B} {n : Nat} {ds : List D} {c : Str} {fs : List (Str × D)} {e e' : Ev} (h1 : 100 ≤ n) (h2 : n < 1000) (h3 : noOs ds = true) (h : ms (n - 100) ds = .err c fs e') (h5 : noF fs = true) : actO ms (false, .opq n ds) e = .err c fs e := by
  show (if 100 ≤ n ∧ n < 1000 ∧ noOs ds = true then (match ms (n - 100) ds with | .ok x _ => _ | .err _ _ _ => _ | .bad => _) else _) = _
  rw [if_pos ⟨h1, h2, h3⟩, h]
  show (if noF fs = true then R.err c fs e else .bad) = _
  rw [if_pos h5]
theorem perm2 (x y : Opd) : permL [1, 0] [x, y] = [y, x] := rfl
theorem ms_of {j : Nat} (hj : j = 0 ∨ j = 1) {P U : D} {r : R B} (h : m_winners [(false, P), (false, U)] = r) (hr : ∃ a b, r = .ok a b ∨ ∃ c fs, r = .err c fs b) : ∃ b, msL j [P, U] = (match r with | .ok x _ => .ok x b | .err c fs _ => .err c fs b | .bad => .bad) := by
  obtain ⟨a, b, hr | ⟨c, fs, hr⟩⟩ := hr
  · subst hr
    refine ⟨[some (false, P), some (false, U)], ?_⟩
    rcases hj with rfl | rfl
    · show l_0 [some (false, P), some (false, U)] = .ok a [some (false, P), some (false, U)]
      unfold l_0
      simp only [most, kVal_ap, kSh_ap, kCo_ap, kCons_ap, kSeq_n, kSeq_r, kRet_ap, kDrop_ap, kAsg_ap, kIf_t, kIf_f, kMk_ap, kBin_ap, kNot_ap, kAndV_ap, kOrV_ap, kNotV2_ap, kNotV_ap, kCh3_ap, kCh2_ap, kCh1_ap, kLoop2_n, kLoop2_r, kLoop_ap, kB_ap, kSub_ap, kNext_ap, kAB_ap, kPar2_ap, kPar_ap, kApp3_ap, kApp2_ap, kApp_ap, kMeth2_ap, kMeth_ap, kSeqI_ap, kRng_ap, kEn_ap, zp_s, kZip_ap, kLc_ap, kL3_ap, kL2_t, kL2_f, kL1_ap, kSl3_ap, kSl2_ap, kSl_ap, kErr_ap, kPm_ap, ap_op1, ap_opN, ap_intO, opt_some, opt_none, sure_ok, sure_err, sure_bad, nm_f, nm_t, sl_s, rs_s, mk_s, put_t, lcE_ok, fn_ret, fn_next, fn_err, back_ok, back_err, args_s, op2_s, op1_s, opN_s, opX_s, lkS_s, lkC_s, frS_n, frS_f, th_ok, th_err, th_bad, ap_bind, ap_pure, ap_fail, ap_name, ap_slot, ap_val, ap_sh, ap_nil, ap_cons, ap_seq, ap_ret, ap_retSlot, ap_drop, ap_asg, ap_if, ap_cst, ap_tup, ap_lst, ap_bin2, ap_op2, ap_un1, ap_callN, look_s, look_v, looks_nil, looks_cons, shs_nil, shs_cons, ap_retB, ap_bool, ap_chain, ap_truO, ap_tr, ap_andT, ap_orT, ap_notT, ap_truB, ap_keep, ap_andV, ap_orV, ap_notV, ap_ifV, ap_callM, ap_callO, ap_must, ap_sure, ap_loop0, ap_loop, ap_for, ap_nm, ap_tp, ap_nilB, ap_consB, ap_sub, ap_setO, ap_asgB, ap_par, ap_appO, ap_app, ap_ty, ap_opm, ap_meth, ap_seqI, ap_rng, ap_enum, ap_zip, ap_lc, ap_lc0, ap_lcL, ap_free, ap_wipe0, ap_wipe, ap_back0, ap_back, ap_sl, ap_part, ap_raise, ap_lam, ap_perm, ap_fnR, outs00, outs01, outs02, outs03, outs1, outs2, outs3, argsOf, refsOf, backs, diff, truD, blOf, walkD, itemsD, sqD, zipL, List.zipWith_cons_cons, List.zipWith_nil_left, List.zipWith_nil_right, List.map_cons, List.map_nil, List.length_cons, List.length_nil, List.replicate, List.cons_append, List.nil_append, List.append_nil, List.getElem?_cons_zero, List.getElem?_cons_succ, List.getElem?_nil, List.set_cons_zero, List.set_cons_succ, List.set_nil, List.all_cons, List.all_nil, List.contains_cons, List.contains_nil, Option.map_some, Option.map_none, Option.getD_some, Option.getD_none, Option.bind_some, Option.bind_none, Nat.reduceAdd, Nat.reduceSub, Nat.reduceLT, Nat.reduceLeDiff, Nat.reduceEqDiff, Nat.reduceBEq, beq_self_eq_true, Bool.and_true, Bool.true_and, Bool.and_false, Bool.false_and, Bool.or_true, Bool.true_or, Bool.or_false, Bool.false_or, Bool.not_true, Bool.not_false, if_true, if_false, and_true, true_and, and_self, ite_true, ite_false, decide_true, decide_false, Bool.false_eq_true, reduceCtorEq, Nat.zero_add, Nat.sub_self, Nat.lt_irrefl, h]
    · show l_1 [some (false, P), some (false, U)] = .ok a [some (false, P), some (false, U)]
      unfold l_1
      simp only [most, kVal_ap, kSh_ap, kCo_ap, kCons_ap, kSeq_n, kSeq_r, kRet_ap, kDrop_ap, kAsg_ap, kIf_t, kIf_f, kMk_ap, kBin_ap, kNot_ap, kAndV_ap, kOrV_ap, kNotV2_ap, kNotV_ap, kCh3_ap, kCh2_ap, kCh1_ap, kLoop2_n, kLoop2_r, kLoop_ap, kB_ap, kSub_ap, kNext_ap, kAB_ap, kPar2_ap, kPar_ap, kApp3_ap, kApp2_ap, kApp_ap, kMeth2_ap, kMeth_ap, kSeqI_ap, kRng_ap, kEn_ap, zp_s, kZip_ap, kLc_ap, kL3_ap, kL2_t, kL2_f, kL1_ap, kSl3_ap, kSl2_ap, kSl_ap, kErr_ap, kPm_ap, ap_op1, ap_opN, ap_intO, opt_some, opt_none, sure_ok, sure_err, sure_bad, nm_f, nm_t, sl_s, rs_s, mk_s, put_t, lcE_ok, fn_ret, fn_next, fn_err, back_ok, back_err, args_s, op2_s, op1_s, opN_s, opX_s, lkS_s, lkC_s, frS_n, frS_f, th_ok, th_err, th_bad, ap_bind, ap_pure, ap_fail, ap_name, ap_slot, ap_val, ap_sh, ap_nil, ap_cons, ap_seq, ap_ret, ap_retSlot, ap_drop, ap_asg, ap_if, ap_cst, ap_tup, ap_lst, ap_bin2, ap_op2, ap_un1, ap_callN, look_s, look_v, looks_nil, looks_cons, shs_nil, shs_cons, ap_retB, ap_bool, ap_chain, ap_truO, ap_tr, ap_andT, ap_orT, ap_notT, ap_truB, ap_keep, ap_andV, ap_orV, ap_notV, ap_ifV, ap_callM, ap_callO, ap_must, ap_sure, ap_loop0, ap_loop, ap_for, ap_nm, ap_tp, ap_nilB, ap_consB, ap_sub, ap_setO, ap_asgB, ap_par, ap_appO, ap_app, ap_ty, ap_opm, ap_meth, ap_seqI, ap_rng, ap_enum, ap_zip, ap_lc, ap_lc0, ap_lcL, ap_free, ap_wipe0, ap_wipe, ap_back0, ap_back, ap_sl, ap_part, ap_raise, ap_lam, ap_perm, ap_fnR, outs00, outs01, outs02, outs03, outs1, outs2, outs3, argsOf, refsOf, backs, diff, truD, blOf, walkD, itemsD, sqD, zipL, List.zipWith_cons_cons, List.zipWith_nil_left, List.zipWith_nil_right, List.map_cons, List.map_nil, List.length_cons, List.length_nil, List.replicate, List.cons_append, List.nil_append, List.append_nil, List.getElem?_cons_zero, List.getElem?_cons_succ, List.getElem?_nil, List.set_cons_zero, List.set_cons_succ, List.set_nil, List.all_cons, List.all_nil, List.contains_cons, List.contains_nil, Option.map_some, Option.map_none, Option.getD_some, Option.getD_none, Option.bind_some, Option.bind_none, Nat.reduceAdd, Nat.reduceSub, Nat.reduceLT, Nat.reduceLeDiff, Nat.reduceEqDiff, Nat.reduceBEq, beq_self_eq_true, Bool.and_true, Bool.true_and, Bool.and_false, Bool.false_and, Bool.or_true, Bool.true_or, Bool.or_false, Bool.false_or, Bool.not_true, Bool.not_false, if_true, if_false, and_true, true_and, and_self, ite_true, ite_false, decide_true, decide_false, Bool.false_eq_true, reduceCtorEq, Nat.zero_add, Nat.sub_self, Nat.lt_irrefl, h, perm2]
  · subst hr
    refine ⟨[some (false, P), some (false, U)], ?_⟩
    rcases hj with rfl | rfl
    · show l_0 [some (false, P), some (false, U)] = .err c fs [some (false, P), some (false, U)]
      unfold l_0
      simp only [most, kVal_ap, kSh_ap, kCo_ap, kCons_ap, kSeq_n, kSeq_r, kRet_ap, kDrop_ap, kAsg_ap, kIf_t, kIf_f, kMk_ap, kBin_ap, kNot_ap, kAndV_ap, kOrV_ap, kNotV2_ap, kNotV_ap, kCh3_ap, kCh2_ap, kCh1_ap, kLoop2_n, kLoop2_r, kLoop_ap, kB_ap, kSub_ap, kNext_ap, kAB_ap, kPar2_ap, kPar_ap, kApp3_ap, kApp2_ap, kApp_ap, kMeth2_ap, kMeth_ap, kSeqI_ap, kRng_ap, kEn_ap, zp_s, kZip_ap, kLc_ap, kL3_ap, kL2_t, kL2_f, kL1_ap, kSl3_ap, kSl2_ap, kSl_ap, kErr_ap, kPm_ap, ap_op1, ap_opN, ap_intO, opt_some, opt_none, sure_ok, sure_err, sure_bad, nm_f, nm_t, sl_s, rs_s, mk_s, put_t, lcE_ok, fn_ret, fn_next, fn_err, back_ok, back_err, args_s, op2_s, op1_s, opN_s, opX_s, lkS_s, lkC_s, frS_n, frS_f, th_ok, th_err, th_bad, ap_bind, ap_pure, ap_fail, ap_name, ap_slot, ap_val, ap_sh, ap_nil, ap_cons, ap_seq, ap_ret, ap_retSlot, ap_drop, ap_asg, ap_if, ap_cst, ap_tup, ap_lst, ap_bin2, ap_op2, ap_un1, ap_callN, look_s, look_v, looks_nil, looks_cons, shs_nil, shs_cons, ap_retB, ap_bool, ap_chain, ap_truO, ap_tr, ap_andT, ap_orT, ap_notT, ap_truB, ap_keep, ap_andV, ap_orV, ap_notV, ap_ifV, ap_callM, ap_callO, ap_must, ap_sure, ap_loop0, ap_loop, ap_for, ap_nm, ap_tp, ap_nilB, ap_consB, ap_sub, ap_setO, ap_asgB, ap_par, ap_appO, ap_app, ap_ty, ap_opm, ap_meth, ap_seqI, ap_rng, ap_enum, ap_zip, ap_lc, ap_lc0, ap_lcL, ap_free, ap_wipe0, ap_wipe, ap_back0, ap_back, ap_sl, ap_part, ap_raise, ap_lam, ap_perm, ap_fnR, outs00, outs01, outs02, outs03, outs1, outs2, outs3, argsOf, refsOf, backs, diff, truD, blOf, walkD, itemsD, sqD, zipL, List.zipWith_cons_cons, List.zipWith_nil_left, List.zipWith_nil_right, List.map_cons, List.map_nil, List.length_cons, List.length_nil, List.replicate, List.cons_append, List.nil_append, List.append_nil, List.getElem?_cons_zero, List.getElem?_cons_succ, List.getElem?_nil, List.set_cons_zero, List.set_cons_succ, List.set_nil, List.all_cons, List.all_nil, List.contains_cons, List.contains_nil, Option.map_some, Option.map_none, Option.getD_some, Option.getD_none, Option.bind_some, Option.bind_none, Nat.reduceAdd, Nat.reduceSub, Nat.reduceLT, Nat.reduceLeDiff, Nat.reduceEqDiff, Nat.reduceBEq, beq_self_eq_true, Bool.and_true, Bool.true_and, Bool.and_false, Bool.false_and, Bool.or_true, Bool.true_or, Bool.or_false, Bool.false_or, Bool.not_true, Bool.not_false, if_true, if_false, and_true, true_and, and_self, ite_true, ite_false, decide_true, decide_false, Bool.false_eq_true, reduceCtorEq, Nat.zero_add, Nat.sub_self, Nat.lt_irrefl, h]
    · show l_1 [some (false, P), some (false, U)] = .err c fs [some (false, P), some (false, U)]
      unfold l_1
      simp only [most, kVal_ap, kSh_ap, kCo_ap, kCons_ap, kSeq_n, kSeq_r, kRet_ap, kDrop_ap, kAsg_ap, kIf_t, kIf_f, kMk_ap, kBin_ap, kNot_ap, kAndV_ap, kOrV_ap, kNotV2_ap, kNotV_ap, kCh3_ap, kCh2_ap, kCh1_ap, kLoop2_n, kLoop2_r, kLoop_ap, kB_ap, kSub_ap, kNext_ap, kAB_ap, kPar2_ap, kPar_ap, kApp3_ap, kApp2_ap, kApp_ap, kMeth2_ap, kMeth_ap, kSeqI_ap, kRng_ap, kEn_ap, zp_s, kZip_ap, kLc_ap, kL3_ap, kL2_t, kL2_f, kL1_ap, kSl3_ap, kSl2_ap, kSl_ap, kErr_ap, kPm_ap, ap_op1, ap_opN, ap_intO, opt_some, opt_none, sure_ok, sure_err, sure_bad, nm_f, nm_t, sl_s, rs_s, mk_s, put_t, lcE_ok, fn_ret, fn_next, fn_err, back_ok, back_err, args_s, op2_s, op1_s, opN_s, opX_s, lkS_s, lkC_s, frS_n, frS_f, th_ok, th_err, th_bad, ap_bind, ap_pure, ap_fail, ap_name, ap_slot, ap_val, ap_sh, ap_nil, ap_cons, ap_seq, ap_ret, ap_retSlot, ap_drop, ap_asg, ap_if, ap_cst, ap_tup, ap_lst, ap_bin2, ap_op2, ap_un1, ap_callN, look_s, look_v, looks_nil, looks_cons, shs_nil, shs_cons, ap_retB, ap_bool, ap_chain, ap_truO, ap_tr, ap_andT, ap_orT, ap_notT, ap_truB, ap_keep, ap_andV, ap_orV, ap_notV, ap_ifV, ap_callM, ap_callO, ap_must, ap_sure, ap_loop0, ap_loop, ap_for, ap_nm, ap_tp, ap_nilB, ap_consB, ap_sub, ap_setO, ap_asgB, ap_par, ap_appO, ap_app, ap_ty, ap_opm, ap_meth, ap_seqI, ap_rng, ap_enum, ap_zip, ap_lc, ap_lc0, ap_lcL, ap_free, ap_wipe0, ap_wipe, ap_back0, ap_back, ap_sl, ap_part, ap_raise, ap_lam, ap_perm, ap_fnR, outs00, outs01, outs02, outs03, outs1, outs2, outs3, argsOf, refsOf, backs, diff, truD, blOf, walkD, itemsD, sqD, zipL, List.zipWith_cons_cons, List.zipWith_nil_left, List.zipWith_nil_right, List.map_cons, List.map_nil, List.length_cons, List.length_nil, List.replicate, List.cons_append, List.nil_append, List.append_nil, List.getElem?_cons_zero, List.getElem?_cons_succ, List.getElem?_nil, List.set_cons_zero, List.set_cons_succ, List.set_nil, List.all_cons, List.all_nil, List.contains_cons, List.contains_nil, Option.map_some, Option.map_none, Option.getD_some, Option.getD_none, Option.bind_some, Option.bind_none, Nat.reduceAdd, Nat.reduceSub, Nat.reduceLT, Nat.reduceLeDiff, Nat.reduceEqDiff, Nat.reduceBEq, beq_self_eq_true, Bool.and_true, Bool.true_and, Bool.and_false, Bool.false_and, Bool.or_true, Bool.true_or, Bool.or_false, Bool.false_or, Bool.not_true, Bool.not_false, if_true, if_false, and_true, true_and, and_self, ite_true, ite_false, decide_true, decide_false, Bool.false_eq_true, reduceCtorEq, Nat.zero_add, Nat.sub_self, Nat.lt_irrefl, h, perm2]
theorem heard_told {j : Nat} (hj : j = 0 ∨ j = 1) {P U v : D} {b : Ev} (hP : noO P = true) (hU : noO U = true) (hv : noO v = true) (h : m_winners [(false, P), (false, U)] = .ok (false, v) b) : m_law_heard [(false, .opq (100 + j) [P, U])] = .ok (true, .lst [.str "told", v]) [none] := by
  obtain ⟨b', hm⟩ := ms_of hj h ⟨_, _, .inl rfl⟩
  have hn : noOs [P, U] = true := by rw [noOs, noOs, noOs, hP, hU]; rfl
  have ha := fun e : Ev => act_ok (ms := msL) (n := 100 + j) (ds := [P, U]) (e := e) (by omega) (by omega) hn (by rw [Nat.add_sub_cancel_left]; exact hm) rfl hv
  have ht := tr_ok (i := 1) (ex := exNo) (word := m_law_word) (e := [some (false, .opq (100 + j) [P, U]), none, none]) (mb := asgM 2 (actM msL (nameM 0))) (f := .next) (e' := [some (false, .opq (100 + j) [P, U]), none, some (false, v)]) (by simp only [most, kVal_ap, kSh_ap, kCo_ap, kCons_ap, kSeq_n, kSeq_r, kRet_ap, kDrop_ap, kAsg_ap, kIf_t, kIf_f, kMk_ap, kBin_ap, kNot_ap, kAndV_ap, kOrV_ap, kNotV2_ap, kNotV_ap, kCh3_ap, kCh2_ap, kCh1_ap, kLoop2_n, kLoop2_r, kLoop_ap, kB_ap, kSub_ap, kNext_ap, kAB_ap, kPar2_ap, kPar_ap, kApp3_ap, kApp2_ap, kApp_ap, kMeth2_ap, kMeth_ap, kSeqI_ap, kRng_ap, kEn_ap, zp_s, kZip_ap, kLc_ap, kL3_ap, kL2_t, kL2_f, kL1_ap, kSl3_ap, kSl2_ap, kSl_ap, kErr_ap, kPm_ap, ap_op1, ap_opN, ap_intO, opt_some, opt_none, sure_ok, sure_err, sure_bad, nm_f, nm_t, sl_s, rs_s, mk_s, put_t, lcE_ok, fn_ret, fn_next, fn_err, back_ok, back_err, args_s, op2_s, op1_s, opN_s, opX_s, lkS_s, lkC_s, frS_n, frS_f, th_ok, th_err, th_bad, ap_bind, ap_pure, ap_fail, ap_name, ap_slot, ap_val, ap_sh, ap_nil, ap_cons, ap_seq, ap_ret, ap_retSlot, ap_drop, ap_asg, ap_if, ap_cst, ap_tup, ap_lst, ap_bin2, ap_op2, ap_un1, ap_callN, look_s, look_v, looks_nil, looks_cons, shs_nil, shs_cons, ap_retB, ap_bool, ap_chain, ap_truO, ap_tr, ap_andT, ap_orT, ap_notT, ap_truB, ap_keep, ap_andV, ap_orV, ap_notV, ap_ifV, ap_callM, ap_callO, ap_must, ap_sure, ap_loop0, ap_loop, ap_for, ap_nm, ap_tp, ap_nilB, ap_consB, ap_sub, ap_setO, ap_asgB, ap_par, ap_appO, ap_app, ap_ty, ap_opm, ap_meth, ap_seqI, ap_rng, ap_enum, ap_zip, ap_lc, ap_lc0, ap_lcL, ap_free, ap_wipe0, ap_wipe, ap_back0, ap_back, ap_sl, ap_part, ap_raise, ap_lam, ap_perm, ap_fnR, outs00, outs01, outs02, outs03, outs1, outs2, outs3, argsOf, refsOf, backs, diff, truD, blOf, walkD, itemsD, sqD, zipL, List.zipWith_cons_cons, List.zipWith_nil_left, List.zipWith_nil_right, List.map_cons, List.map_nil, List.length_cons, List.length_nil, List.replicate, List.cons_append, List.nil_append, List.append_nil, List.getElem?_cons_zero, List.getElem?_cons_succ, List.getElem?_nil, List.set_cons_zero, List.set_cons_succ, List.set_nil, List.all_cons, List.all_nil, List.contains_cons, List.contains_nil, Option.map_some, Option.map_none, Option.getD_some, Option.getD_none, Option.bind_some, Option.bind_none, Nat.reduceAdd, Nat.reduceSub, Nat.reduceLT, Nat.reduceLeDiff, Nat.reduceEqDiff, Nat.reduceBEq, beq_self_eq_true, Bool.and_true, Bool.true_and, Bool.and_false, Bool.false_and, Bool.or_true, Bool.true_or, Bool.or_false, Bool.false_or, Bool.not_true, Bool.not_false, if_true, if_false, and_true, true_and, and_self, ite_true, ite_false, decide_true, decide_false, Bool.false_eq_true, reduceCtorEq, Nat.zero_add, Nat.sub_self, Nat.lt_irrefl, ap_act, ha])
  unfold m_law_heard b_law_heard
  simp only [most, kVal_ap, kSh_ap, kCo_ap, kCons_ap, kSeq_n, kSeq_r, kRet_ap, kDrop_ap, kAsg_ap, kIf_t, kIf_f, kMk_ap, kBin_ap, kNot_ap, kAndV_ap, kOrV_ap, kNotV2_ap, kNotV_ap, kCh3_ap, kCh2_ap, kCh1_ap, kLoop2_n, kLoop2_r, kLoop_ap, kB_ap, kSub_ap, kNext_ap, kAB_ap, kPar2_ap, kPar_ap, kApp3_ap, kApp2_ap, kApp_ap, kMeth2_ap, kMeth_ap, kSeqI_ap, kRng_ap, kEn_ap, zp_s, kZip_ap, kLc_ap, kL3_ap, kL2_t, kL2_f, kL1_ap, kSl3_ap, kSl2_ap, kSl_ap, kErr_ap, kPm_ap, ap_op1, ap_opN, ap_intO, opt_some, opt_none, sure_ok, sure_err, sure_bad, nm_f, nm_t, sl_s, rs_s, mk_s, put_t, lcE_ok, fn_ret, fn_next, fn_err, back_ok, back_err, args_s, op2_s, op1_s, opN_s, opX_s, lkS_s, lkC_s, frS_n, frS_f, th_ok, th_err, th_bad, ap_bind, ap_pure, ap_fail, ap_name, ap_slot, ap_val, ap_sh, ap_nil, ap_cons, ap_seq, ap_ret, ap_retSlot, ap_drop, ap_asg, ap_if, ap_cst, ap_tup, ap_lst, ap_bin2, ap_op2, ap_un1, ap_callN, look_s, look_v, looks_nil, looks_cons, shs_nil, shs_cons, ap_retB, ap_bool, ap_chain, ap_truO, ap_tr, ap_andT, ap_orT, ap_notT, ap_truB, ap_keep, ap_andV, ap_orV, ap_notV, ap_ifV, ap_callM, ap_callO, ap_must, ap_sure, ap_loop0, ap_loop, ap_for, ap_nm, ap_tp, ap_nilB, ap_consB, ap_sub, ap_setO, ap_asgB, ap_par, ap_appO, ap_app, ap_ty, ap_opm, ap_meth, ap_seqI, ap_rng, ap_enum, ap_zip, ap_lc, ap_lc0, ap_lcL, ap_free, ap_wipe0, ap_wipe, ap_back0, ap_back, ap_sl, ap_part, ap_raise, ap_lam, ap_perm, ap_fnR, outs00, outs01, outs02, outs03, outs1, outs2, outs3, argsOf, refsOf, backs, diff, truD, blOf, walkD, itemsD, sqD, zipL, List.zipWith_cons_cons, List.zipWith_nil_left, List.zipWith_nil_right, List.map_cons, List.map_nil, List.length_cons, List.length_nil, List.replicate, List.cons_append, List.nil_append, List.append_nil, List.getElem?_cons_zero, List.getElem?_cons_succ, List.getElem?_nil, List.set_cons_zero, List.set_cons_succ, List.set_nil, List.all_cons, List.all_nil, List.contains_cons, List.contains_nil, Option.map_some, Option.map_none, Option.getD_some, Option.getD_none, Option.bind_some, Option.bind_none, Nat.reduceAdd, Nat.reduceSub, Nat.reduceLT, Nat.reduceLeDiff, Nat.reduceEqDiff, Nat.reduceBEq, beq_self_eq_true, Bool.and_true, Bool.true_and, Bool.and_false, Bool.false_and, Bool.or_true, Bool.true_or, Bool.or_false, Bool.false_or, Bool.not_true, Bool.not_false, if_true, if_false, and_true, true_and, and_self, ite_true, ite_false, decide_true, decide_false, Bool.false_eq_true, reduceCtorEq, Nat.zero_add, Nat.sub_self, Nat.lt_irrefl, ↓ht]
theorem heard_err {j : Nat} (hj : j = 0 ∨ j = 1) {P U g : D} {b : Ev} {c wrd : Str} {n : Nat} (hP : noO P = true) (hU : noO U = true) (hg : noO g = true) (h : m_winners [(false, P), (false, U)] = .err c [("given", g)] b) (hx : exNo c = some n) (h2 : n < 100) (hw : m_law_word [(false, .opq n [g])] = .ok (true, .lst [.str wrd, g]) [none]) :
    m_law_heard [(false, .opq (100 + j) [P, U])] = .ok (true, .lst [.str wrd, g]) [none] := by
  obtain ⟨b', hm⟩ := ms_of hj h ⟨(false, .non), _, .inr ⟨_, _, rfl⟩⟩
  have hn : noOs [P, U] = true := by rw [noOs, noOs, noOs, hP, hU]; rfl
  have hf : noF [(("given" : Str), g)] = true := by
    show noOs [g] = true
    rw [noOs, noOs, hg]
    rfl
  have ha := fun e : Ev => act_err (ms := msL) (n := 100 + j) (ds := [P, U]) (e := e) (by omega) (by omega) hn (by rw [Nat.add_sub_cancel_left]; exact hm) hf
  have ht := tr_err (i := 1) (ex := exNo) (word := m_law_word) (e := [some (false, .opq (100 + j) [P, U]), none, none]) (mb := asgM 2 (actM msL (nameM 0))) (e' := [some (false, .opq (100 + j) [P, U]), none, none]) (by simp only [most, kVal_ap, kSh_ap, kCo_ap, kCons_ap, kSeq_n, kSeq_r, kRet_ap, kDrop_ap, kAsg_ap, kIf_t, kIf_f, kMk_ap, kBin_ap, kNot_ap, kAndV_ap, kOrV_ap, kNotV2_ap, kNotV_ap, kCh3_ap, kCh2_ap, kCh1_ap, kLoop2_n, kLoop2_r, kLoop_ap, kB_ap, kSub_ap, kNext_ap, kAB_ap, kPar2_ap, kPar_ap, kApp3_ap, kApp2_ap, kApp_ap, kMeth2_ap, kMeth_ap, kSeqI_ap, kRng_ap, kEn_ap, zp_s, kZip_ap, kLc_ap, kL3_ap, kL2_t, kL2_f, kL1_ap, kSl3_ap, kSl2_ap, kSl_ap, kErr_ap, kPm_ap, ap_op1, ap_opN, ap_intO, opt_some, opt_none, sure_ok, sure_err, sure_bad, nm_f, nm_t, sl_s, rs_s, mk_s, put_t, lcE_ok, fn_ret, fn_next, fn_err, back_ok, back_err, args_s, op2_s, op1_s, opN_s, opX_s, lkS_s, lkC_s, frS_n, frS_f, th_ok, th_err, th_bad, ap_bind, ap_pure, ap_fail, ap_name, ap_slot, ap_val, ap_sh, ap_nil, ap_cons, ap_seq, ap_ret, ap_retSlot, ap_drop, ap_asg, ap_if, ap_cst, ap_tup, ap_lst, ap_bin2, ap_op2, ap_un1, ap_callN, look_s, look_v, looks_nil, looks_cons, shs_nil, shs_cons, ap_retB, ap_bool, ap_chain, ap_truO, ap_tr, ap_andT, ap_orT, ap_notT, ap_truB, ap_keep, ap_andV, ap_orV, ap_notV, ap_ifV, ap_callM, ap_callO, ap_must, ap_sure, ap_loop0, ap_loop, ap_for, ap_nm, ap_tp, ap_nilB, ap_consB, ap_sub, ap_setO, ap_asgB, ap_par, ap_appO, ap_app, ap_ty, ap_opm, ap_meth, ap_seqI, ap_rng, ap_enum, ap_zip, ap_lc, ap_lc0, ap_lcL, ap_free, ap_wipe0, ap_wipe, ap_back0, ap_back, ap_sl, ap_part, ap_raise, ap_lam, ap_perm, ap_fnR, outs00, outs01, outs02, outs03, outs1, outs2, outs3, argsOf, refsOf, backs, diff, truD, blOf, walkD, itemsD, sqD, zipL, List.zipWith_cons_cons, List.zipWith_nil_left, List.zipWith_nil_right, List.map_cons, List.map_nil, List.length_cons, List.length_nil, List.replicate, List.cons_append, List.nil_append, List.append_nil, List.getElem?_cons_zero, List.getElem?_cons_succ, List.getElem?_nil, List.set_cons_zero, List.set_cons_succ, List.set_nil, List.all_cons, List.all_nil, List.contains_cons, List.contains_nil, Option.map_some, Option.map_none, Option.getD_some, Option.getD_none, Option.bind_some, Option.bind_none, Nat.reduceAdd, Nat.reduceSub, Nat.reduceLT, Nat.reduceLeDiff, Nat.reduceEqDiff, Nat.reduceBEq, beq_self_eq_true, Bool.and_true, Bool.true_and, Bool.and_false, Bool.false_and, Bool.or_true, Bool.true_or, Bool.or_false, Bool.false_or, Bool.not_true, Bool.not_false, if_true, if_false, and_true, true_and, and_self, ite_true, ite_false, decide_true, decide_false, Bool.false_eq_true, reduceCtorEq, Nat.zero_add, Nat.sub_self, Nat.lt_irrefl, ap_act, ha]) hx hw (by
    show noO (.lst [.str wrd, g]) = true
    rw [noO, noOs, noOs, noOs, noO, hg]
    rfl) h2 (by show 1 < 3; decide)
  unfold m_law_heard b_law_heard
  simp only [most, kVal_ap, kSh_ap, kCo_ap, kCons_ap, kSeq_n, kSeq_r, kRet_ap, kDrop_ap, kAsg_ap, kIf_t, kIf_f, kMk_ap, kBin_ap, kNot_ap, kAndV_ap, kOrV_ap, kNotV2_ap, kNotV_ap, kCh3_ap, kCh2_ap, kCh1_ap, kLoop2_n, kLoop2_r, kLoop_ap, kB_ap, kSub_ap, kNext_ap, kAB_ap, kPar2_ap, kPar_ap, kApp3_ap, kApp2_ap, kApp_ap, kMeth2_ap, kMeth_ap, kSeqI_ap, kRng_ap, kEn_ap, zp_s, kZip_ap, kLc_ap, kL3_ap, kL2_t, kL2_f, kL1_ap, kSl3_ap, kSl2_ap, kSl_ap, kErr_ap, kPm_ap, ap_op1, ap_opN, ap_intO, opt_some, opt_none, sure_ok, sure_err, sure_bad, nm_f, nm_t, sl_s, rs_s, mk_s, put_t, lcE_ok, fn_ret, fn_next, fn_err, back_ok, back_err, args_s, op2_s, op1_s, opN_s, opX_s, lkS_s, lkC_s, frS_n, frS_f, th_ok, th_err, th_bad, ap_bind, ap_pure, ap_fail, ap_name, ap_slot, ap_val, ap_sh, ap_nil, ap_cons, ap_seq, ap_ret, ap_retSlot, ap_drop, ap_asg, ap_if, ap_cst, ap_tup, ap_lst, ap_bin2, ap_op2, ap_un1, ap_callN, look_s, look_v, looks_nil, looks_cons, shs_nil, shs_cons, ap_retB, ap_bool, ap_chain, ap_truO, ap_tr, ap_andT, ap_orT, ap_notT, ap_truB, ap_keep, ap_andV, ap_orV, ap_notV, ap_ifV, ap_callM, ap_callO, ap_must, ap_sure, ap_loop0, ap_loop, ap_for, ap_nm, ap_tp, ap_nilB, ap_consB, ap_sub, ap_setO, ap_asgB, ap_par, ap_appO, ap_app, ap_ty, ap_opm, ap_meth, ap_seqI, ap_rng, ap_enum, ap_zip, ap_lc, ap_lc0, ap_lcL, ap_free, ap_wipe0, ap_wipe, ap_back0, ap_back, ap_sl, ap_part, ap_raise, ap_lam, ap_perm, ap_fnR, outs00, outs01, outs02, outs03, outs1, outs2, outs3, argsOf, refsOf, backs, diff, truD, blOf, walkD, itemsD, sqD, zipL, List.zipWith_cons_cons, List.zipWith_nil_left, List.zipWith_nil_right, List.map_cons, List.map_nil, List.length_cons, List.length_nil, List.replicate, List.cons_append, List.nil_append, List.append_nil, List.getElem?_cons_zero, List.getElem?_cons_succ, List.getElem?_nil, List.set_cons_zero, List.set_cons_succ, List.set_nil, List.all_cons, List.all_nil, List.contains_cons, List.contains_nil, Option.map_some, Option.map_none, Option.getD_some, Option.getD_none, Option.bind_some, Option.bind_none, Nat.reduceAdd, Nat.reduceSub, Nat.reduceLT, Nat.reduceLeDiff, Nat.reduceEqDiff, Nat.reduceBEq, beq_self_eq_true, Bool.and_true, Bool.true_and, Bool.and_false, Bool.false_and, Bool.or_true, Bool.true_or, Bool.or_false, Bool.false_or, Bool.not_true, Bool.not_false, if_true, if_false, and_true, true_and, and_self, ite_true, ite_false, decide_true, decide_false, Bool.false_eq_true, reduceCtorEq, Nat.zero_add, Nat.sub_self, Nat.lt_irrefl, ↓ht]
theorem word0 (d : D) : m_law_word [(false, .opq 0 [d])] = .ok (true, .lst [.str "profile", d]) [none] := by kernel_rfl
theorem word1 (d : D) : m_law_word [(false, .opq 1 [d])] = .ok (true, .lst [.str "rule", d]) [none] := by kernel_rfl
theorem mulDue (d : D) : mulD (.lst [d]) (.int 2) = some (true, .lst [d, d]) := by kernel_rfl
theorem len2 (x y : D) : lenD [.lst [x, y]] = some (false, .int 2) := by kernel_rfl
theorem eqS (x y : Str) : eqD (.str x) (.str y) = some (false, .bl (decide (x = y))) := by kernel_rfl
theorem all_end {a b x : D} (h1 : m_law_heard [(false, a)] = .ok (true, x) [none]) (h2 : m_law_heard [(false, b)] = .ok (true, x) [none]) {z : Str} (hr : reprD [.lst [x, x]] = some (false, .str z)) : m_law_all_end [(false, .lst [a, b]), (false, x)] = .ok (false, .bl true) [none, none] := by
  unfold m_law_all_end b_law_all_end
  simp only [most, kVal_ap, kSh_ap, kCo_ap, kCons_ap, kSeq_n, kSeq_r, kRet_ap, kDrop_ap, kAsg_ap, kIf_t, kIf_f, kMk_ap, kBin_ap, kNot_ap, kAndV_ap, kOrV_ap, kNotV2_ap, kNotV_ap, kCh3_ap, kCh2_ap, kCh1_ap, kLoop2_n, kLoop2_r, kLoop_ap, kB_ap, kSub_ap, kNext_ap, kAB_ap, kPar2_ap, kPar_ap, kApp3_ap, kApp2_ap, kApp_ap, kMeth2_ap, kMeth_ap, kSeqI_ap, kRng_ap, kEn_ap, zp_s, kZip_ap, kLc_ap, kL3_ap, kL2_t, kL2_f, kL1_ap, kSl3_ap, kSl2_ap, kSl_ap, kErr_ap, kPm_ap, ap_op1, ap_opN, ap_intO, opt_some, opt_none, sure_ok, sure_err, sure_bad, nm_f, nm_t, sl_s, rs_s, mk_s, put_t, lcE_ok, fn_ret, fn_next, fn_err, back_ok, back_err, args_s, op2_s, op1_s, opN_s, opX_s, lkS_s, lkC_s, frS_n, frS_f, th_ok, th_err, th_bad, ap_bind, ap_pure, ap_fail, ap_name, ap_slot, ap_val, ap_sh, ap_nil, ap_cons, ap_seq, ap_ret, ap_retSlot, ap_drop, ap_asg, ap_if, ap_cst, ap_tup, ap_lst, ap_bin2, ap_op2, ap_un1, ap_callN, look_s, look_v, looks_nil, looks_cons, shs_nil, shs_cons, ap_retB, ap_bool, ap_chain, ap_truO, ap_tr, ap_andT, ap_orT, ap_notT, ap_truB, ap_keep, ap_andV, ap_orV, ap_notV, ap_ifV, ap_callM, ap_callO, ap_must, ap_sure, ap_loop0, ap_loop, ap_for, ap_nm, ap_tp, ap_nilB, ap_consB, ap_sub, ap_setO, ap_asgB, ap_par, ap_appO, ap_app, ap_ty, ap_opm, ap_meth, ap_seqI, ap_rng, ap_enum, ap_zip, ap_lc, ap_lc0, ap_lcL, ap_free, ap_wipe0, ap_wipe, ap_back0, ap_back, ap_sl, ap_part, ap_raise, ap_lam, ap_perm, ap_fnR, outs00, outs01, outs02, outs03, outs1, outs2, outs3, argsOf, refsOf, backs, diff, truD, blOf, walkD, itemsD, sqD, zipL, List.zipWith_cons_cons, List.zipWith_nil_left, List.zipWith_nil_right, List.map_cons, List.map_nil, List.length_cons, List.length_nil, List.replicate, List.cons_append, List.nil_append, List.append_nil, List.getElem?_cons_zero, List.getElem?_cons_succ, List.getElem?_nil, List.set_cons_zero, List.set_cons_succ, List.set_nil, List.all_cons, List.all_nil, List.contains_cons, List.contains_nil, Option.map_some, Option.map_none, Option.getD_some, Option.getD_none, Option.bind_some, Option.bind_none, Nat.reduceAdd, Nat.reduceSub, Nat.reduceLT, Nat.reduceLeDiff, Nat.reduceEqDiff, Nat.reduceBEq, beq_self_eq_true, Bool.and_true, Bool.true_and, Bool.and_false, Bool.false_and, Bool.or_true, Bool.true_or, Bool.or_false, Bool.false_or, Bool.not_true, Bool.not_false, if_true, if_false, and_true, true_and, and_self, ite_true, ite_false, decide_true, decide_false, Bool.false_eq_true, reduceCtorEq, Nat.zero_add, Nat.sub_self, Nat.lt_irrefl, h1, h2, hr, mulDue, len2, eqS]
theorem ap_clo (e : Ev) (m : List B → R B) (n : Nat) (caps : List (List Nat)) (ms : M (List Opd)) : cloM m n caps ms e = R.th (ms e) (cloO m n caps) := rfl
theorem clo_two {P U due : D} {x0 x2 x4 x5 x6 x7 x8 : Sl0} {e' : Ev} (hP : noO P = true) (hU : noO U = true) (hd : noO due = true) (h : m_law_all_end [(false, .lst [.opq 100 [P, U], .opq 101 [P, U]]), (false, due)] = .ok (false, .bl true) e') :
    cloO m_law_all_end 2 caps_refused [.val (false, .lst [.opq 1000 [], .opq 1001 []]), .val (false, due)] [x0, some (false, P), x2, some (false, U), x4, x5, x6, x7, x8] = .ok (false, .bl true) [x0, some (false, P), x2, some (false, U), x4, x5, x6, x7, x8] := by
  have hc : capD [x0, some (false, P), x2, some (false, U), x4, x5, x6, x7, x8] [1, 3] = some [P, U] := by
    show (if noO P = true then (capD [x0, some (false, P), x2, some (false, U), x4, x5, x6, x7, x8] [3]).map (P :: ·) else none) = _
    rw [if_pos hP]
    show ((if noO U = true then some [U] else none).map (P :: ·)) = _
    rw [if_pos hU]
    rfl
  have hcl : closeAs [x0, some (false, P), x2, some (false, U), x4, x5, x6, x7, x8] caps_refused [(false, .lst [.opq 1000 [], .opq 1001 []]), (false, due)] = some [(false, .lst [.opq 100 [P, U], .opq 101 [P, U]]), (false, due)] := by
    have q0 : closeD [x0, some (false, P), x2, some (false, U), x4, x5, x6, x7, x8] caps_refused (.lst [.opq 1000 [], .opq 1001 []]) = some (.lst [.opq 100 [P, U], .opq 101 [P, U]]) := by
      have r0 : closeD [x0, some (false, P), x2, some (false, U), x4, x5, x6, x7, x8] caps_refused (.opq 1000 []) = some (.opq 100 [P, U]) := by
        show ((capD [x0, some (false, P), x2, some (false, U), x4, x5, x6, x7, x8] [1, 3]).map fun ds => D.opq (1000 - 1000 + 100) ds) = _
        rw [hc]
        rfl
      have r1 : closeD [x0, some (false, P), x2, some (false, U), x4, x5, x6, x7, x8] caps_refused (.opq 1001 []) = some (.opq 101 [P, U]) := by
        show ((capD [x0, some (false, P), x2, some (false, U), x4, x5, x6, x7, x8] [1, 3]).map fun ds => D.opq (1001 - 1000 + 100) ds) = _
        rw [hc]
        rfl
      simp only [closeD.eq_3, closeDs, r0, r1, Option.map_some]
    simp only [closeAs, q0, close_no _ _ due hd]
  have hall : (caps_refused.all fun is => (capD [x0, some (false, P), x2, some (false, U), x4, x5, x6, x7, x8] is).isSome) = true := by
    simp only [caps_refused, List.all_cons, List.all_nil, hc, Option.isSome_some, Bool.and_self]
  unfold cloO
  simp only [argsOf, List.contains_nil, look_v, Option.map_some, hcl, h, hall, List.length_cons, List.length_nil, Nat.zero_add, and_self, if_true, noO, Nat.reduceAdd]
abbrev bo_suf : M Flw := (seqM (asgM 4 (lstM (consM (valM (shM (lamM 0))) (nilM))))
  (seqM (dropM (appM 4 (lamM 1)))
  (seqM (ifM (notT (trM (valM (callM (grd m_law_is_profile) [] 1 (consM (valM (nameM 1)) (nilM)))))) (retM (cloM m_law_all_end 2 caps_refused (consM (valM (nameM 4)) (consM (valM (shM (lstM (consM (valM (cstM (.str "profile"))) (consM (valM (nameM 1)) (nilM)))))) (nilM))))) (M.pure .next))
  (seqM (asgM 5 (andV (un1 (isiD "str") (slotM 3)) (bin2 inD (slotM 3) (valM (lstM (consM (valM (cstM (.str "firsts"))) (consM (valM (cstM (.str "lasts"))) (consM (valM (cstM (.str "points"))) (consM (valM (cstM (.str "pairs"))) (nilM))))))))))
  (retM (cloM m_law_all_end 2 caps_refused (consM (valM (nameM 4)) (consM (valM (shM (ifV (trM (slotM 5)) (lstM (consM (valM (cstM (.str "told"))) (consM (valM (shM (callM (grd m_law_won) [] 2 (consM (valM (nameM 1)) (consM (valM (nameM 3)) (nilM)))))) (nilM)))) (lstM (consM (valM (cstM (.str "rule"))) (consM (valM (nameM 3)) (nilM))))))) (nilM)))))))))
abbrev bo_mif : M Flw := (ifM (boolM (bin2 ltD (slotM 7) (valM (cstM (.int 3))))) (asgM 1 (bin2 addD (valM (bin2 addD (valM (slM (slotM 1) (M.pure none) (partM (slotM 6)))) (valM (tupM (consM (valM (nameM 2)) (nilM)))))) (valM (slM (slotM 1) (partM (valM (bin2 addD (slotM 6) (valM (callN intD (consM (valM (bin2 gtD (slotM 7) (valM (cstM (.int 0))))) (nilM))))))) (M.pure none))))) (ifM (boolM (bin2 eqD (slotM 7) (valM (cstM (.int 3))))) (seqM (asgM 8 (lstM (consM (valM (shM (callN listD (consM (slotM 1) (nilM))))) (consM (valM (cstM .non)) (consM (valM (shM ((fun env => .ok (true, .dct [] []) env)))) (consM (valM (cstM (.str "abc"))) (consM (valM (shM (slM (slotM 1) (M.pure none) (partM (valM (cstM (.int 5))))))) (consM (valM (shM (bin2 addD (slotM 1) (valM (tupM (consM (valM (cstM (.int 0))) (nilM))))))) (consM (valM (shM (tupM (nilM)))) (consM (valM (shM (tupM (consM (valM (nameM 1)) (nilM))))) (consM (valM (shM (bin2 mulD (valM (tupM (consM (valM (cstM (.int 0))) (nilM)))) (valM (cstM (.int 6)))))) (nilM))))))))))))
  (asgM 1 (callM (grd m_law_of) [0] 2 (consM (slotM 0) (consM (valM (shM (bin2 addD (slotM 8) (valM (lstM (consM (valM (shM (callM (grd m_law_odd) [0] 1 (consM (slotM 0) (nilM))))) (nilM))))))) (nilM)))))) (M.pure .next)))
theorem isStr_no {U : D} {t : String} (h : tyD U = some t) : isiD "str" U = some (false, .bl (t == "str")) := by
  cases U <;> cases h <;> kernel_rfl
theorem in_rule (x : Str) : inD (.str x) (.lst [.str "firsts", .str "lasts", .str "points", .str "pairs"]) = some (false, .bl (isRule (.str x))) := by kernel_rfl
theorem is_rule {U : D} {t : String} (h : tyD U = some t) (x0 x1 x2 x4 x5 x6 x7 x8 : Sl0) :
    andV (un1 (isiD "str") (slotM 3)) (bin2 inD (slotM 3) (valM (lstM (consM (valM (cstM (.str "firsts"))) (consM (valM (cstM (.str "lasts"))) (consM (valM (cstM (.str "points"))) (consM (valM (cstM (.str "pairs"))) (nilM)))))))) [x0, x1, x2, some (false, U), x4, x5, x6, x7, x8] =
      .ok (false, .bl (isRule U)) [x0, x1, x2, some (false, U), x4, x5, x6, x7, x8] := by
  cases U with
  | str x => simp only [most, kVal_ap, kSh_ap, kCo_ap, kCons_ap, kSeq_n, kSeq_r, kRet_ap, kDrop_ap, kAsg_ap, kIf_t, kIf_f, kMk_ap, kBin_ap, kNot_ap, kAndV_ap, kOrV_ap, kNotV2_ap, kNotV_ap, kCh3_ap, kCh2_ap, kCh1_ap, kLoop2_n, kLoop2_r, kLoop_ap, kB_ap, kSub_ap, kNext_ap, kAB_ap, kPar2_ap, kPar_ap, kApp3_ap, kApp2_ap, kApp_ap, kMeth2_ap, kMeth_ap, kSeqI_ap, kRng_ap, kEn_ap, zp_s, kZip_ap, kLc_ap, kL3_ap, kL2_t, kL2_f, kL1_ap, kSl3_ap, kSl2_ap, kSl_ap, kErr_ap, kPm_ap, ap_op1, ap_opN, ap_intO, opt_some, opt_none, sure_ok, sure_err, sure_bad, nm_f, nm_t, sl_s, rs_s, mk_s, put_t, lcE_ok, fn_ret, fn_next, fn_err, back_ok, back_err, args_s, op2_s, op1_s, opN_s, opX_s, lkS_s, lkC_s, frS_n, frS_f, th_ok, th_err, th_bad, ap_bind, ap_pure, ap_fail, ap_name, ap_slot, ap_val, ap_sh, ap_nil, ap_cons, ap_seq, ap_ret, ap_retSlot, ap_drop, ap_asg, ap_if, ap_cst, ap_tup, ap_lst, ap_bin2, ap_op2, ap_un1, ap_callN, look_s, look_v, looks_nil, looks_cons, shs_nil, shs_cons, ap_retB, ap_bool, ap_chain, ap_truO, ap_tr, ap_andT, ap_orT, ap_notT, ap_truB, ap_keep, ap_andV, ap_orV, ap_notV, ap_ifV, ap_callM, ap_callO, ap_must, ap_sure, ap_loop0, ap_loop, ap_for, ap_nm, ap_tp, ap_nilB, ap_consB, ap_sub, ap_setO, ap_asgB, ap_par, ap_appO, ap_app, ap_ty, ap_opm, ap_meth, ap_seqI, ap_rng, ap_enum, ap_zip, ap_lc, ap_lc0, ap_lcL, ap_free, ap_wipe0, ap_wipe, ap_back0, ap_back, ap_sl, ap_part, ap_raise, ap_lam, ap_perm, ap_fnR, outs00, outs01, outs02, outs03, outs1, outs2, outs3, argsOf, refsOf, backs, diff, truD, blOf, walkD, itemsD, sqD, zipL, List.zipWith_cons_cons, List.zipWith_nil_left, List.zipWith_nil_right, List.map_cons, List.map_nil, List.length_cons, List.length_nil, List.replicate, List.cons_append, List.nil_append, List.append_nil, List.getElem?_cons_zero, List.getElem?_cons_succ, List.getElem?_nil, List.set_cons_zero, List.set_cons_succ, List.set_nil, List.all_cons, List.all_nil, List.contains_cons, List.contains_nil, Option.map_some, Option.map_none, Option.getD_some, Option.getD_none, Option.bind_some, Option.bind_none, Nat.reduceAdd, Nat.reduceSub, Nat.reduceLT, Nat.reduceLeDiff, Nat.reduceEqDiff, Nat.reduceBEq, beq_self_eq_true, Bool.and_true, Bool.true_and, Bool.and_false, Bool.false_and, Bool.or_true, Bool.true_or, Bool.or_false, Bool.false_or, Bool.not_true, Bool.not_false, if_true, if_false, and_true, true_and, and_self, ite_true, ite_false, decide_true, decide_false, Bool.false_eq_true, reduceCtorEq, Nat.zero_add, Nat.sub_self, Nat.lt_irrefl, isStr_no (U := .str x) rfl, in_rule]
  | _ => cases h <;> kernel_rfl
theorem noS3 (t : Bool × Bool × Bool) : noO (.str (S3 t)) = true := rfl
theorem niS3 (t : Bool × Bool × Bool) : Ni 1 200 (.lst [.str "told", .str (S3 t)]) := by
  refine niB_ni ?_
  obtain ⟨t1, t2, t3⟩ := t
  cases t1 <;> cases t2 <;> cases t3 <;> decide +kernel
theorem no2 {w : Str} {d : D} (h : noO d = true) : noO (.lst [.str w, d]) = true := by
  rw [noO, noOs, noOs, noOs, noO, h]
  rfl
theorem ni_word {d : D} {w : Str} (hw : Ni 6 5000 (.str w)) (h : Good d) : ∃ z, reprD [.lst [.lst [.str w, d], .lst [.str w, d]]] = some (false, .str z) := by
  have h2 := ni_lst (k := 6) (wt := 5000) (ds := [.str w, d]) fun x hx => by
    simp only [List.mem_cons, List.not_mem_nil, or_false] at hx
    rcases hx with rfl | rfl
    · exact hw
    · exact h.ni
  exact ni_repr h2 (by decide) (by show 2 * 5001 ≤ 100000; decide)
theorem suffix (w : Wl) {P U : D} (x2 x6 x7 x8 : Sl0) (hP : Good P) (hU : Good U) : ∃ e', bo_suf [some (true, wd w), some (false, P), x2, some (false, U), none, none, x6, x7, x8] = .ok (.ret (false, .bl true)) e' ∧ e'[0]? = some (some (true, wd w)) := by
  obtain ⟨tU, htU⟩ := tyS_ty hU.ty
  have gp : grd m_law_is_profile [(false, P)] = .ok (false, .bl (okP P)) [none] := grd_ok (by show (noO P && true) = true; rw [hP.no]; rfl) (e_law_is hP.ty) rfl rfl
  cases hb : okP P with
  | false =>
    have hw := fun j hj => heard_err (j := j) hj hP.no hU.no hP.no (e_winners_noP (u := U) hP.ty hb) (n := 0) rfl (by decide) (word0 P)
    obtain ⟨z, hz⟩ := ni_word (w := "profile") (niB_ni (by decide +kernel)) hP
    have ae := all_end (hw 0 (.inl rfl)) (hw 1 (.inr rfl)) hz
    have cl := fun x5 => clo_two (x0 := some (true, wd w)) (x2 := x2) (x4 := some (false, .lst [.opq 1000 [], .opq 1001 []])) (x5 := x5) (x6 := x6) (x7 := x7) (x8 := x8) hP.no hU.no (no2 (w := "profile") hP.no) ae
    refine ⟨[some (true, wd w), some (false, P), x2, some (false, U), some (false, .lst [.opq 1000 [], .opq 1001 []]), none, x6, x7, x8], ?_, rfl⟩
    simp only [most, kVal_ap, kSh_ap, kCo_ap, kCons_ap, kSeq_n, kSeq_r, kRet_ap, kDrop_ap, kAsg_ap, kIf_t, kIf_f, kMk_ap, kBin_ap, kNot_ap, kAndV_ap, kOrV_ap, kNotV2_ap, kNotV_ap, kCh3_ap, kCh2_ap, kCh1_ap, kLoop2_n, kLoop2_r, kLoop_ap, kB_ap, kSub_ap, kNext_ap, kAB_ap, kPar2_ap, kPar_ap, kApp3_ap, kApp2_ap, kApp_ap, kMeth2_ap, kMeth_ap, kSeqI_ap, kRng_ap, kEn_ap, zp_s, kZip_ap, kLc_ap, kL3_ap, kL2_t, kL2_f, kL1_ap, kSl3_ap, kSl2_ap, kSl_ap, kErr_ap, kPm_ap, ap_op1, ap_opN, ap_intO, opt_some, opt_none, sure_ok, sure_err, sure_bad, nm_f, nm_t, sl_s, rs_s, mk_s, put_t, lcE_ok, fn_ret, fn_next, fn_err, back_ok, back_err, args_s, op2_s, op1_s, opN_s, opX_s, lkS_s, lkC_s, frS_n, frS_f, th_ok, th_err, th_bad, ap_bind, ap_pure, ap_fail, ap_name, ap_slot, ap_val, ap_sh, ap_nil, ap_cons, ap_seq, ap_ret, ap_retSlot, ap_drop, ap_asg, ap_if, ap_cst, ap_tup, ap_lst, ap_bin2, ap_op2, ap_un1, ap_callN, look_s, look_v, looks_nil, looks_cons, shs_nil, shs_cons, ap_retB, ap_bool, ap_chain, ap_truO, ap_tr, ap_andT, ap_orT, ap_notT, ap_truB, ap_keep, ap_andV, ap_orV, ap_notV, ap_ifV, ap_callM, ap_callO, ap_must, ap_sure, ap_loop0, ap_loop, ap_for, ap_nm, ap_tp, ap_nilB, ap_consB, ap_sub, ap_setO, ap_asgB, ap_par, ap_appO, ap_app, ap_ty, ap_opm, ap_meth, ap_seqI, ap_rng, ap_enum, ap_zip, ap_lc, ap_lc0, ap_lcL, ap_free, ap_wipe0, ap_wipe, ap_back0, ap_back, ap_sl, ap_part, ap_raise, ap_lam, ap_perm, ap_fnR, outs00, outs01, outs02, outs03, outs1, outs2, outs3, argsOf, refsOf, backs, diff, truD, blOf, walkD, itemsD, sqD, zipL, List.zipWith_cons_cons, List.zipWith_nil_left, List.zipWith_nil_right, List.map_cons, List.map_nil, List.length_cons, List.length_nil, List.replicate, List.cons_append, List.nil_append, List.append_nil, List.getElem?_cons_zero, List.getElem?_cons_succ, List.getElem?_nil, List.set_cons_zero, List.set_cons_succ, List.set_nil, List.all_cons, List.all_nil, List.contains_cons, List.contains_nil, Option.map_some, Option.map_none, Option.getD_some, Option.getD_none, Option.bind_some, Option.bind_none, Nat.reduceAdd, Nat.reduceSub, Nat.reduceLT, Nat.reduceLeDiff, Nat.reduceEqDiff, Nat.reduceBEq, beq_self_eq_true, Bool.and_true, Bool.true_and, Bool.and_false, Bool.false_and, Bool.or_true, Bool.true_or, Bool.or_false, Bool.false_or, Bool.not_true, Bool.not_false, if_true, if_false, and_true, true_and, and_self, ite_true, ite_false, decide_true, decide_false, Bool.false_eq_true, reduceCtorEq, Nat.zero_add, Nat.sub_self, Nat.lt_irrefl, gp, hb, tyLst, ap_clo, cl]
  | true =>
    obtain ⟨a, b, c, x, e, f, rfl, _⟩ := okP_P6 hb
    have ir := is_rule htU
    cases hr : isRule U with
    | false =>
      have hw := fun j hj => heard_err (j := j) hj hP.no hU.no hU.no (e_winners_noR hP.ty hb htU hr) (n := 1) rfl (by decide) (word1 U)
      obtain ⟨z, hz⟩ := ni_word (w := "rule") (niB_ni (by decide +kernel)) hU
      have ae := all_end (hw 0 (.inl rfl)) (hw 1 (.inr rfl)) hz
      have cl := fun x5 => clo_two (x0 := some (true, wd w)) (x2 := x2) (x4 := some (false, .lst [.opq 1000 [], .opq 1001 []])) (x5 := x5) (x6 := x6) (x7 := x7) (x8 := x8) hP.no hU.no (no2 (w := "rule") hU.no) ae
      refine ⟨[some (true, wd w), some (false, P6 a b c x e f), x2, some (false, U), some (false, .lst [.opq 1000 [], .opq 1001 []]), some (false, .bl false), x6, x7, x8], ?_, rfl⟩
      rw [hr] at ir
      simp only [most, kVal_ap, kSh_ap, kCo_ap, kCons_ap, kSeq_n, kSeq_r, kRet_ap, kDrop_ap, kAsg_ap, kIf_t, kIf_f, kMk_ap, kBin_ap, kNot_ap, kAndV_ap, kOrV_ap, kNotV2_ap, kNotV_ap, kCh3_ap, kCh2_ap, kCh1_ap, kLoop2_n, kLoop2_r, kLoop_ap, kB_ap, kSub_ap, kNext_ap, kAB_ap, kPar2_ap, kPar_ap, kApp3_ap, kApp2_ap, kApp_ap, kMeth2_ap, kMeth_ap, kSeqI_ap, kRng_ap, kEn_ap, zp_s, kZip_ap, kLc_ap, kL3_ap, kL2_t, kL2_f, kL1_ap, kSl3_ap, kSl2_ap, kSl_ap, kErr_ap, kPm_ap, ap_op1, ap_opN, ap_intO, opt_some, opt_none, sure_ok, sure_err, sure_bad, nm_f, nm_t, sl_s, rs_s, mk_s, put_t, lcE_ok, fn_ret, fn_next, fn_err, back_ok, back_err, args_s, op2_s, op1_s, opN_s, opX_s, lkS_s, lkC_s, frS_n, frS_f, th_ok, th_err, th_bad, ap_bind, ap_pure, ap_fail, ap_name, ap_slot, ap_val, ap_sh, ap_nil, ap_cons, ap_seq, ap_ret, ap_retSlot, ap_drop, ap_asg, ap_if, ap_cst, ap_tup, ap_lst, ap_bin2, ap_op2, ap_un1, ap_callN, look_s, look_v, looks_nil, looks_cons, shs_nil, shs_cons, ap_retB, ap_bool, ap_chain, ap_truO, ap_tr, ap_andT, ap_orT, ap_notT, ap_truB, ap_keep, ap_andV, ap_orV, ap_notV, ap_ifV, ap_callM, ap_callO, ap_must, ap_sure, ap_loop0, ap_loop, ap_for, ap_nm, ap_tp, ap_nilB, ap_consB, ap_sub, ap_setO, ap_asgB, ap_par, ap_appO, ap_app, ap_ty, ap_opm, ap_meth, ap_seqI, ap_rng, ap_enum, ap_zip, ap_lc, ap_lc0, ap_lcL, ap_free, ap_wipe0, ap_wipe, ap_back0, ap_back, ap_sl, ap_part, ap_raise, ap_lam, ap_perm, ap_fnR, outs00, outs01, outs02, outs03, outs1, outs2, outs3, argsOf, refsOf, backs, diff, truD, blOf, walkD, itemsD, sqD, zipL, List.zipWith_cons_cons, List.zipWith_nil_left, List.zipWith_nil_right, List.map_cons, List.map_nil, List.length_cons, List.length_nil, List.replicate, List.cons_append, List.nil_append, List.append_nil, List.getElem?_cons_zero, List.getElem?_cons_succ, List.getElem?_nil, List.set_cons_zero, List.set_cons_succ, List.set_nil, List.all_cons, List.all_nil, List.contains_cons, List.contains_nil, Option.map_some, Option.map_none, Option.getD_some, Option.getD_none, Option.bind_some, Option.bind_none, Nat.reduceAdd, Nat.reduceSub, Nat.reduceLT, Nat.reduceLeDiff, Nat.reduceEqDiff, Nat.reduceBEq, beq_self_eq_true, Bool.and_true, Bool.true_and, Bool.and_false, Bool.false_and, Bool.or_true, Bool.true_or, Bool.or_false, Bool.false_or, Bool.not_true, Bool.not_false, if_true, if_false, and_true, true_and, and_self, ite_true, ite_false, decide_true, decide_false, Bool.false_eq_true, reduceCtorEq, Nat.zero_add, Nat.sub_self, Nat.lt_irrefl, gp, hb, tyLst, ap_clo, cl, ↓ir]
    | true =>
      obtain ⟨r, rfl⟩ := isRule_rl hr
      have gw : grd m_law_won [(false, P6 a b c x e f), (false, .str r.s)] = .ok (false, .str (S3 (wn a b c x e f r))) [none, none] := grd_ok rfl (e_law_won a b c x e f r) rfl rfl
      have hw := fun j hj => heard_told (j := j) hj hP.no hU.no (noS3 (wn a b c x e f r)) (e_winners r hb)
      obtain ⟨z, hz⟩ := ni_repr (niS3 (wn a b c x e f r)) (by decide) (by decide)
      have ae := all_end (hw 0 (.inl rfl)) (hw 1 (.inr rfl)) hz
      have cl := fun x5 => clo_two (x0 := some (true, wd w)) (x2 := x2) (x4 := some (false, .lst [.opq 1000 [], .opq 1001 []])) (x5 := x5) (x6 := x6) (x7 := x7) (x8 := x8) hP.no hU.no (no2 (w := "told") (noS3 (wn a b c x e f r))) ae
      refine ⟨[some (true, wd w), some (false, P6 a b c x e f), x2, some (false, .str r.s), some (false, .lst [.opq 1000 [], .opq 1001 []]), some (false, .bl true), x6, x7, x8], ?_, rfl⟩
      rw [hr] at ir
      simp only [most, kVal_ap, kSh_ap, kCo_ap, kCons_ap, kSeq_n, kSeq_r, kRet_ap, kDrop_ap, kAsg_ap, kIf_t, kIf_f, kMk_ap, kBin_ap, kNot_ap, kAndV_ap, kOrV_ap, kNotV2_ap, kNotV_ap, kCh3_ap, kCh2_ap, kCh1_ap, kLoop2_n, kLoop2_r, kLoop_ap, kB_ap, kSub_ap, kNext_ap, kAB_ap, kPar2_ap, kPar_ap, kApp3_ap, kApp2_ap, kApp_ap, kMeth2_ap, kMeth_ap, kSeqI_ap, kRng_ap, kEn_ap, zp_s, kZip_ap, kLc_ap, kL3_ap, kL2_t, kL2_f, kL1_ap, kSl3_ap, kSl2_ap, kSl_ap, kErr_ap, kPm_ap, ap_op1, ap_opN, ap_intO, opt_some, opt_none, sure_ok, sure_err, sure_bad, nm_f, nm_t, sl_s, rs_s, mk_s, put_t, lcE_ok, fn_ret, fn_next, fn_err, back_ok, back_err, args_s, op2_s, op1_s, opN_s, opX_s, lkS_s, lkC_s, frS_n, frS_f, th_ok, th_err, th_bad, ap_bind, ap_pure, ap_fail, ap_name, ap_slot, ap_val, ap_sh, ap_nil, ap_cons, ap_seq, ap_ret, ap_retSlot, ap_drop, ap_asg, ap_if, ap_cst, ap_tup, ap_lst, ap_bin2, ap_op2, ap_un1, ap_callN, look_s, look_v, looks_nil, looks_cons, shs_nil, shs_cons, ap_retB, ap_bool, ap_chain, ap_truO, ap_tr, ap_andT, ap_orT, ap_notT, ap_truB, ap_keep, ap_andV, ap_orV, ap_notV, ap_ifV, ap_callM, ap_callO, ap_must, ap_sure, ap_loop0, ap_loop, ap_for, ap_nm, ap_tp, ap_nilB, ap_consB, ap_sub, ap_setO, ap_asgB, ap_par, ap_appO, ap_app, ap_ty, ap_opm, ap_meth, ap_seqI, ap_rng, ap_enum, ap_zip, ap_lc, ap_lc0, ap_lcL, ap_free, ap_wipe0, ap_wipe, ap_back0, ap_back, ap_sl, ap_part, ap_raise, ap_lam, ap_perm, ap_fnR, outs00, outs01, outs02, outs03, outs1, outs2, outs3, argsOf, refsOf, backs, diff, truD, blOf, walkD, itemsD, sqD, zipL, List.zipWith_cons_cons, List.zipWith_nil_left, List.zipWith_nil_right, List.map_cons, List.map_nil, List.length_cons, List.length_nil, List.replicate, List.cons_append, List.nil_append, List.append_nil, List.getElem?_cons_zero, List.getElem?_cons_succ, List.getElem?_nil, List.set_cons_zero, List.set_cons_succ, List.set_nil, List.all_cons, List.all_nil, List.contains_cons, List.contains_nil, Option.map_some, Option.map_none, Option.getD_some, Option.getD_none, Option.bind_some, Option.bind_none, Nat.reduceAdd, Nat.reduceSub, Nat.reduceLT, Nat.reduceLeDiff, Nat.reduceEqDiff, Nat.reduceBEq, beq_self_eq_true, Bool.and_true, Bool.true_and, Bool.and_false, Bool.false_and, Bool.or_true, Bool.true_or, Bool.or_false, Bool.false_or, Bool.not_true, Bool.not_false, if_true, if_false, and_true, true_and, and_self, ite_true, ite_false, decide_true, decide_false, Bool.false_eq_true, reduceCtorEq, Nat.zero_add, Nat.sub_self, Nat.lt_irrefl, gp, hb, tyLst, ap_clo, cl, ↓ir, gw]
/-! ### what is drawn -/
def oddE : List D := [.int (-1), .bl true, .non, .str "3", .tup [.int 3], .lst [.int 3], .int 60, .int 61, .int 0, .dct [] [], .int 100000000000000000000]
theorem pow20 : powD (.int 10) (.int 20) = some (false, .int 100000000000000000000) := by kernel_rfl
def gdB (d : D) : Bool := tyS d && noO d && niB 3 200 d
theorem gdB_good {d : D} (h : gdB d = true) : Good d := by
  simp only [gdB, Bool.and_eq_true] at h
  exact ⟨h.1.1, h.1.2, (niB_ni h.2).mono (by decide) (by decide)⟩
theorem odd_good {d : D} (h : d ∈ oddL) : Good d := by
  have k : oddL.all gdB = true := by decide +kernel
  rw [List.all_eq_true] at k
  exact gdB_good (k d h)
def geB (d : D) : Bool := (tyD d).isSome && noO d && niB 2 200 d
/-- a part of a tuple -/
structure El (d : D) : Prop where
  ty : (tyD d).isSome = true
  no : noO d = true
  ni : Ni 2 200 d
theorem oddE_el {d : D} (h : d ∈ oddE) : El d := by
  have k : oddE.all geB = true := by decide +kernel
  rw [List.all_eq_true] at k
  have k' := k d h
  simp only [geB, Bool.and_eq_true] at k'
  exact ⟨k'.1.1, k'.1.2, niB_ni k'.2⟩
theorem el_int {i : Int} (h0 : 0 ≤ i) (h1 : i < 1000) : El (.int i) := ⟨rfl, rfl, ni_int h0 h1⟩
theorem good_tup {ds : List D} (h : ∀ d ∈ ds, El d) (hl : ds.length ≤ 20) : Good (.tup ds) := by
  refine ⟨?_, ?_, ?_⟩
  · show (ds.all fun d => (tyD d).isSome) = true
    rw [List.all_eq_true]
    exact fun d hd => (h d hd).ty
  · show noO (.tup ds) = true
    rw [noO, noOs_all, List.all_eq_true]
    exact fun d hd => (h d hd).no
  · refine (ni_tup fun d hd => (h d hd).ni).mono (by decide) ?_
    have := Nat.mul_le_mul_right 201 hl
    omega
theorem good_lst {ds : List D} (h : ∀ d ∈ ds, El d) (hl : ds.length ≤ 20) : Good (.lst ds) := by
  refine ⟨rfl, ?_, ?_⟩
  · show noO (.lst ds) = true
    rw [noO, noOs_all, List.all_eq_true]
    exact fun d hd => (h d hd).no
  · refine (ni_lst fun d hd => (h d hd).ni).mono (by decide) ?_
    have := Nat.mul_le_mul_right 201 hl
    omega
theorem cut_mem {α : Type} {xs : List α} {lo hi : Option Int} {x : α} (h : x ∈ cutD xs lo hi) : x ∈ xs := List.mem_of_mem_drop (List.mem_of_mem_take h)
theorem cut_len {α : Type} (xs : List α) (lo hi : Option Int) : (cutD xs lo hi).length ≤ xs.length := by
  unfold cutD
  rw [List.length_take, List.length_drop]
  omega
theorem slT (ds : List D) (lo hi : Option Int) : slD (.tup ds) lo hi = some (false, .tup (cutD ds lo hi)) := rfl
theorem addT (xs ys : List D) (h : xs.length + ys.length ≤ most) : addD (.tup xs) (.tup ys) = some (false, .tup (xs ++ ys)) := by
  show (if xs.length + ys.length ≤ most then _ else _) = _
  rw [if_pos h]
theorem lstT (ds : List D) : listD [.tup ds] = some (true, .lst ds) := rfl
theorem bodyRefused (w : Wl) {ps : List D} (hp : ∀ d ∈ ps, El d) (hl : ps.length = 6) {odd : D} (ho : El odd) {at_ way : Int} : ∃ w' P y8, bo_mif [some (true, wd w), some (false, .tup ps), some (false, odd), none, none, none, some (false, .int at_), some (false, .int way), none] =
    .ok .next [some (true, wd w'), some (false, P), some (false, odd), none, none, none, some (false, .int at_), some (false, .int way), y8] ∧ Good P := by
  cases b3 : decide (way < 3) with
  | true =>
    have c1 := cut_len ps none (some at_)
    refine ⟨w, .tup (cutD ps none (some at_) ++ [odd] ++ cutD ps (some (at_ + b2iD (decide (0 < way)))) none), none, ?_, good_tup ?_ ?_⟩
    · have c2 := cut_len ps (some (at_ + b2iD (decide (0 < way)))) none
      have a1 := addT (cutD ps none (some at_)) [odd] (by simp only [List.length_cons, List.length_nil, most]; omega)
      have a2 := addT (cutD ps none (some at_) ++ [odd]) (cutD ps (some (at_ + b2iD (decide (0 < way)))) none) (by simp only [List.length_append, List.length_cons, List.length_nil, most]; omega)
      simp only [most, kVal_ap, kSh_ap, kCo_ap, kCons_ap, kSeq_n, kSeq_r, kRet_ap, kDrop_ap, kAsg_ap, kIf_t, kIf_f, kMk_ap, kBin_ap, kNot_ap, kAndV_ap, kOrV_ap, kNotV2_ap, kNotV_ap, kCh3_ap, kCh2_ap, kCh1_ap, kLoop2_n, kLoop2_r, kLoop_ap, kB_ap, kSub_ap, kNext_ap, kAB_ap, kPar2_ap, kPar_ap, kApp3_ap, kApp2_ap, kApp_ap, kMeth2_ap, kMeth_ap, kSeqI_ap, kRng_ap, kEn_ap, zp_s, kZip_ap, kLc_ap, kL3_ap, kL2_t, kL2_f, kL1_ap, kSl3_ap, kSl2_ap, kSl_ap, kErr_ap, kPm_ap, ap_op1, ap_opN, ap_intO, opt_some, opt_none, sure_ok, sure_err, sure_bad, nm_f, nm_t, sl_s, rs_s, mk_s, put_t, lcE_ok, fn_ret, fn_next, fn_err, back_ok, back_err, args_s, op2_s, op1_s, opN_s, opX_s, lkS_s, lkC_s, frS_n, frS_f, th_ok, th_err, th_bad, ap_bind, ap_pure, ap_fail, ap_name, ap_slot, ap_val, ap_sh, ap_nil, ap_cons, ap_seq, ap_ret, ap_retSlot, ap_drop, ap_asg, ap_if, ap_cst, ap_tup, ap_lst, ap_bin2, ap_op2, ap_un1, ap_callN, look_s, look_v, looks_nil, looks_cons, shs_nil, shs_cons, ap_retB, ap_bool, ap_chain, ap_truO, ap_tr, ap_andT, ap_orT, ap_notT, ap_truB, ap_keep, ap_andV, ap_orV, ap_notV, ap_ifV, ap_callM, ap_callO, ap_must, ap_sure, ap_loop0, ap_loop, ap_for, ap_nm, ap_tp, ap_nilB, ap_consB, ap_sub, ap_setO, ap_asgB, ap_par, ap_appO, ap_app, ap_ty, ap_opm, ap_meth, ap_seqI, ap_rng, ap_enum, ap_zip, ap_lc, ap_lc0, ap_lcL, ap_free, ap_wipe0, ap_wipe, ap_back0, ap_back, ap_sl, ap_part, ap_raise, ap_lam, ap_perm, ap_fnR, outs00, outs01, outs02, outs03, outs1, outs2, outs3, argsOf, refsOf, backs, diff, truD, blOf, walkD, itemsD, sqD, zipL, List.zipWith_cons_cons, List.zipWith_nil_left, List.zipWith_nil_right, List.map_cons, List.map_nil, List.length_cons, List.length_nil, List.replicate, List.cons_append, List.nil_append, List.append_nil, List.getElem?_cons_zero, List.getElem?_cons_succ, List.getElem?_nil, List.set_cons_zero, List.set_cons_succ, List.set_nil, List.all_cons, List.all_nil, List.contains_cons, List.contains_nil, Option.map_some, Option.map_none, Option.getD_some, Option.getD_none, Option.bind_some, Option.bind_none, Nat.reduceAdd, Nat.reduceSub, Nat.reduceLT, Nat.reduceLeDiff, Nat.reduceEqDiff, Nat.reduceBEq, beq_self_eq_true, Bool.and_true, Bool.true_and, Bool.and_false, Bool.false_and, Bool.or_true, Bool.true_or, Bool.or_false, Bool.false_or, Bool.not_true, Bool.not_false, if_true, if_false, and_true, true_and, and_self, ite_true, ite_false, decide_true, decide_false, Bool.false_eq_true, reduceCtorEq, Nat.zero_add, Nat.sub_self, Nat.lt_irrefl, ltI, b3, slT, addI, gtI, int_bl, ap_intO, a1, a2]
    · intro d hd
      rcases List.mem_append.mp hd with hd | hd
      · rcases List.mem_append.mp hd with hd | hd
        · exact hp d (cut_mem hd)
        · rw [List.mem_singleton.mp hd]; exact ho
      · exact hp d (cut_mem hd)
    · have c2 := cut_len ps (some (at_ + b2iD (decide (0 < way)))) none
      simp only [List.length_append, List.length_cons, List.length_nil]
      omega
  | false =>
    cases b4 : decide (way = 3) with
    | false =>
      refine ⟨w, .tup ps, none, ?_, good_tup hp (by omega)⟩
      simp only [most, kVal_ap, kSh_ap, kCo_ap, kCons_ap, kSeq_n, kSeq_r, kRet_ap, kDrop_ap, kAsg_ap, kIf_t, kIf_f, kMk_ap, kBin_ap, kNot_ap, kAndV_ap, kOrV_ap, kNotV2_ap, kNotV_ap, kCh3_ap, kCh2_ap, kCh1_ap, kLoop2_n, kLoop2_r, kLoop_ap, kB_ap, kSub_ap, kNext_ap, kAB_ap, kPar2_ap, kPar_ap, kApp3_ap, kApp2_ap, kApp_ap, kMeth2_ap, kMeth_ap, kSeqI_ap, kRng_ap, kEn_ap, zp_s, kZip_ap, kLc_ap, kL3_ap, kL2_t, kL2_f, kL1_ap, kSl3_ap, kSl2_ap, kSl_ap, kErr_ap, kPm_ap, ap_op1, ap_opN, ap_intO, opt_some, opt_none, sure_ok, sure_err, sure_bad, nm_f, nm_t, sl_s, rs_s, mk_s, put_t, lcE_ok, fn_ret, fn_next, fn_err, back_ok, back_err, args_s, op2_s, op1_s, opN_s, opX_s, lkS_s, lkC_s, frS_n, frS_f, th_ok, th_err, th_bad, ap_bind, ap_pure, ap_fail, ap_name, ap_slot, ap_val, ap_sh, ap_nil, ap_cons, ap_seq, ap_ret, ap_retSlot, ap_drop, ap_asg, ap_if, ap_cst, ap_tup, ap_lst, ap_bin2, ap_op2, ap_un1, ap_callN, look_s, look_v, looks_nil, looks_cons, shs_nil, shs_cons, ap_retB, ap_bool, ap_chain, ap_truO, ap_tr, ap_andT, ap_orT, ap_notT, ap_truB, ap_keep, ap_andV, ap_orV, ap_notV, ap_ifV, ap_callM, ap_callO, ap_must, ap_sure, ap_loop0, ap_loop, ap_for, ap_nm, ap_tp, ap_nilB, ap_consB, ap_sub, ap_setO, ap_asgB, ap_par, ap_appO, ap_app, ap_ty, ap_opm, ap_meth, ap_seqI, ap_rng, ap_enum, ap_zip, ap_lc, ap_lc0, ap_lcL, ap_free, ap_wipe0, ap_wipe, ap_back0, ap_back, ap_sl, ap_part, ap_raise, ap_lam, ap_perm, ap_fnR, outs00, outs01, outs02, outs03, outs1, outs2, outs3, argsOf, refsOf, backs, diff, truD, blOf, walkD, itemsD, sqD, zipL, List.zipWith_cons_cons, List.zipWith_nil_left, List.zipWith_nil_right, List.map_cons, List.map_nil, List.length_cons, List.length_nil, List.replicate, List.cons_append, List.nil_append, List.append_nil, List.getElem?_cons_zero, List.getElem?_cons_succ, List.getElem?_nil, List.set_cons_zero, List.set_cons_succ, List.set_nil, List.all_cons, List.all_nil, List.contains_cons, List.contains_nil, Option.map_some, Option.map_none, Option.getD_some, Option.getD_none, Option.bind_some, Option.bind_none, Nat.reduceAdd, Nat.reduceSub, Nat.reduceLT, Nat.reduceLeDiff, Nat.reduceEqDiff, Nat.reduceBEq, beq_self_eq_true, Bool.and_true, Bool.true_and, Bool.and_false, Bool.false_and, Bool.or_true, Bool.true_or, Bool.or_false, Bool.false_or, Bool.not_true, Bool.not_false, if_true, if_false, and_true, true_and, and_self, ite_true, ite_false, decide_true, decide_false, Bool.false_eq_true, reduceCtorEq, Nat.zero_add, Nat.sub_self, Nat.lt_irrefl, ltI, b3, eqI, b4]
    | true =>
      have c5 := cut_len ps none (some 5)
      have hall : ∀ d ∈ [D.lst ps, .non, .dct [] [], .str "abc", .tup (cutD ps none (some 5)), .tup (ps ++ [.int 0]), .tup [], .tup [.tup ps], .tup [.int 0, .int 0, .int 0, .int 0, .int 0, .int 0], pk w oddL], Good d := by
        intro d hd
        simp only [List.mem_cons, List.not_mem_nil, or_false] at hd
        rcases hd with rfl | rfl | rfl | rfl | rfl | rfl | rfl | rfl | rfl | rfl
        · exact good_lst hp (by omega)
        · exact gdB_good (by decide +kernel)
        · exact gdB_good (by decide +kernel)
        · exact gdB_good (by decide +kernel)
        · exact good_tup (fun d hd => hp d (cut_mem hd)) (by omega)
        · refine good_tup (fun d hd => ?_) (by simp only [List.length_append, List.length_cons, List.length_nil]; omega)
          rcases List.mem_append.mp hd with hd | hd
          · exact hp d hd
          · rw [List.mem_singleton.mp hd]; exact el_int (by decide) (by decide)
        · exact gdB_good (by decide +kernel)
        · have g := good_tup hp (by omega)
          refine ⟨rfl, ?_, ?_⟩
          · show noO (.tup [.tup ps]) = true
            rw [noO, noOs, noOs, g.no]
            rfl
          · have n1 := ni_tup (k := 2) (wt := 200) fun d hd => (hp d hd).ni
            have n2 := ni_tup (ds := [.tup ps]) fun d hd => by
              rw [List.mem_singleton.mp hd]
              exact n1
            refine n2.mono (by decide) ?_
            simp only [hl, List.length_cons, List.length_nil]
            decide
        · exact gdB_good (by decide +kernel)
        · exact odd_good (pk_mem w (by decide) (by decide))
      have hn : noOs [D.lst ps, .non, .dct [] [], .str "abc", .tup (cutD ps none (some 5)), .tup (ps ++ [.int 0]), .tup [], .tup [.tup ps], .tup [.int 0, .int 0, .int 0, .int 0, .int 0, .int 0], pk w oddL] = true := by
        rw [noOs_all, List.all_eq_true]
        exact fun d hd => (hall d hd).no
      have go := g_of (nx w 21) (ds := [D.lst ps, .non, .dct [] [], .str "abc", .tup (cutD ps none (some 5)), .tup (ps ++ [.int 0]), .tup [], .tup [.tup ps], .tup [.int 0, .int 0, .int 0, .int 0, .int 0, .int 0], pk w oddL]) (by show 0 < 10; decide) (by show 10 < 1073741824; decide) hn
      have hm := pk_mem (nx w 21) (ds := [D.lst ps, .non, .dct [] [], .str "abc", .tup (cutD ps none (some 5)), .tup (ps ++ [.int 0]), .tup [], .tup [.tup ps], .tup [.int 0, .int 0, .int 0, .int 0, .int 0, .int 0], pk w oddL]) (by show 0 < 10; decide) (by show 10 < 1073741824; decide)
      have a1 := addT ps [.int 0] (by simp only [List.length_cons, List.length_nil, most]; omega)
      have a2 : addD (.lst [D.lst ps, .non, .dct [] [], .str "abc", .tup (cutD ps none (some 5)), .tup (ps ++ [.int 0]), .tup [], .tup [.tup ps], .tup [.int 0, .int 0, .int 0, .int 0, .int 0, .int 0]]) (.lst [pk w oddL]) = some (true, .lst [D.lst ps, .non, .dct [] [], .str "abc", .tup (cutD ps none (some 5)), .tup (ps ++ [.int 0]), .tup [], .tup [.tup ps], .tup [.int 0, .int 0, .int 0, .int 0, .int 0, .int 0], pk w oddL]) := by kernel_rfl
      refine ⟨nx (nx w 21) 10, _, some (true, .lst [D.lst ps, .non, .dct [] [], .str "abc", .tup (cutD ps none (some 5)), .tup (ps ++ [.int 0]), .tup [], .tup [.tup ps], .tup [.int 0, .int 0, .int 0, .int 0, .int 0, .int 0]]), ?_, hall _ hm⟩
      have go' : grd m_law_of [(true, wd (nx w 21)), (false, .lst [D.lst ps, .non, .dct [] [], .str "abc", .tup (cutD ps none (some 5)), .tup (ps ++ [.int 0]), .tup [], .tup [.tup ps], .tup [.int 0, .int 0, .int 0, .int 0, .int 0, .int 0], pk w oddL])] = .ok (false, pk (nx w 21) [D.lst ps, .non, .dct [] [], .str "abc", .tup (cutD ps none (some 5)), .tup (ps ++ [.int 0]), .tup [], .tup [.tup ps], .tup [.int 0, .int 0, .int 0, .int 0, .int 0, .int 0], pk w oddL]) [some (true, wd (nx (nx w 21) 10)), none] := go
      simp only [most, kVal_ap, kSh_ap, kCo_ap, kCons_ap, kSeq_n, kSeq_r, kRet_ap, kDrop_ap, kAsg_ap, kIf_t, kIf_f, kMk_ap, kBin_ap, kNot_ap, kAndV_ap, kOrV_ap, kNotV2_ap, kNotV_ap, kCh3_ap, kCh2_ap, kCh1_ap, kLoop2_n, kLoop2_r, kLoop_ap, kB_ap, kSub_ap, kNext_ap, kAB_ap, kPar2_ap, kPar_ap, kApp3_ap, kApp2_ap, kApp_ap, kMeth2_ap, kMeth_ap, kSeqI_ap, kRng_ap, kEn_ap, zp_s, kZip_ap, kLc_ap, kL3_ap, kL2_t, kL2_f, kL1_ap, kSl3_ap, kSl2_ap, kSl_ap, kErr_ap, kPm_ap, ap_op1, ap_opN, ap_intO, opt_some, opt_none, sure_ok, sure_err, sure_bad, nm_f, nm_t, sl_s, rs_s, mk_s, put_t, lcE_ok, fn_ret, fn_next, fn_err, back_ok, back_err, args_s, op2_s, op1_s, opN_s, opX_s, lkS_s, lkC_s, frS_n, frS_f, th_ok, th_err, th_bad, ap_bind, ap_pure, ap_fail, ap_name, ap_slot, ap_val, ap_sh, ap_nil, ap_cons, ap_seq, ap_ret, ap_retSlot, ap_drop, ap_asg, ap_if, ap_cst, ap_tup, ap_lst, ap_bin2, ap_op2, ap_un1, ap_callN, look_s, look_v, looks_nil, looks_cons, shs_nil, shs_cons, ap_retB, ap_bool, ap_chain, ap_truO, ap_tr, ap_andT, ap_orT, ap_notT, ap_truB, ap_keep, ap_andV, ap_orV, ap_notV, ap_ifV, ap_callM, ap_callO, ap_must, ap_sure, ap_loop0, ap_loop, ap_for, ap_nm, ap_tp, ap_nilB, ap_consB, ap_sub, ap_setO, ap_asgB, ap_par, ap_appO, ap_app, ap_ty, ap_opm, ap_meth, ap_seqI, ap_rng, ap_enum, ap_zip, ap_lc, ap_lc0, ap_lcL, ap_free, ap_wipe0, ap_wipe, ap_back0, ap_back, ap_sl, ap_part, ap_raise, ap_lam, ap_perm, ap_fnR, outs00, outs01, outs02, outs03, outs1, outs2, outs3, argsOf, refsOf, backs, diff, truD, blOf, walkD, itemsD, sqD, zipL, List.zipWith_cons_cons, List.zipWith_nil_left, List.zipWith_nil_right, List.map_cons, List.map_nil, List.length_cons, List.length_nil, List.replicate, List.cons_append, List.nil_append, List.append_nil, List.getElem?_cons_zero, List.getElem?_cons_succ, List.getElem?_nil, List.set_cons_zero, List.set_cons_succ, List.set_nil, List.all_cons, List.all_nil, List.contains_cons, List.contains_nil, Option.map_some, Option.map_none, Option.getD_some, Option.getD_none, Option.bind_some, Option.bind_none, Nat.reduceAdd, Nat.reduceSub, Nat.reduceLT, Nat.reduceLeDiff, Nat.reduceEqDiff, Nat.reduceBEq, beq_self_eq_true, Bool.and_true, Bool.true_and, Bool.and_false, Bool.false_and, Bool.or_true, Bool.true_or, Bool.or_false, Bool.false_or, Bool.not_true, Bool.not_false, if_true, if_false, and_true, true_and, and_self, ite_true, ite_false, decide_true, decide_false, Bool.false_eq_true, reduceCtorEq, Nat.zero_add, Nat.sub_self, Nat.lt_irrefl, ltI, b3, eqI, b4, slT, ap_intO, a1, a2, g_odd, mul6, lstT, go']
theorem g7 (w : Wl) : grd m_law_draw [(true, wd w), (false, .int 7)] = .ok (false, .int (dr w 7)) [some (true, wd (nx w 7)), none] := g_draw w (by decide) (by decide)
theorem g5 (w : Wl) : grd m_law_draw [(true, wd w), (false, .int 5)] = .ok (false, .int (dr w 5)) [some (true, wd (nx w 5)), none] := g_draw w (by decide) (by decide)
theorem gE (w : Wl) : grd m_law_of [(true, wd w), (false, .lst [.int (-1), .bl true, .non, .str "3", .tup [.int 3], .lst [.int 3], .int 60, .int 61, .int 0, .dct [] [], .int 100000000000000000000])] = .ok (false, pk w oddE) [some (true, wd (nx w 11)), none] := g_of w (ds := oddE) (by decide) (by decide) (by decide +kernel)
theorem e_refused (w : Wl) {a b c d e f : Int} (h : okP (P6 a b c d e f) = true) : ∃ w', m_law_refused_right [(true, wd w), (false, P6 a b c d e f)] = .ok (false, .bl true) [some (true, wd w'), none] := by
  have hs : (decide (0 ≤ a) && decide (0 ≤ b) && decide (0 ≤ c) && decide (0 ≤ d) && decide (0 ≤ e) && decide (0 ≤ f) && (decide (1 ≤ a + b + c + d + e + f) && decide (a + b + c + d + e + f ≤ 60))) = true := h
  simp only [Bool.and_eq_true, decide_eq_true_eq] at hs
  have hp : ∀ x ∈ [D.int a, .int b, .int c, .int d, .int e, .int f], El x := by
    intro x hx
    simp only [List.mem_cons, List.not_mem_nil, or_false] at hx
    rcases hx with rfl | rfl | rfl | rfl | rfl | rfl <;> exact el_int (by omega) (by omega)
  obtain ⟨w1, P, y8, m1, gP⟩ := bodyRefused (nx (nx (nx w 7) 5) 11) hp rfl (oddE_el (pk_mem (nx (nx w 7) 5) (ds := oddE) (by decide) (by decide))) (at_ := dr w 7) (way := dr (nx w 7) 5)
  have hU : ∀ x ∈ [D.str "firsts", .str "lasts", .str "points", .str "pairs", pk w1 oddL, pk (nx w1 21) oddL, pk (nx (nx w1 21) 21) oddL], Good x := by
    intro x hx
    simp only [List.mem_cons, List.not_mem_nil, or_false] at hx
    rcases hx with rfl | rfl | rfl | rfl | rfl | rfl | rfl
    · exact gdB_good (by decide +kernel)
    · exact gdB_good (by decide +kernel)
    · exact gdB_good (by decide +kernel)
    · exact gdB_good (by decide +kernel)
    · exact odd_good (pk_mem _ (by decide) (by decide))
    · exact odd_good (pk_mem _ (by decide) (by decide))
    · exact odd_good (pk_mem _ (by decide) (by decide))
  have hn : noOs [D.str "firsts", .str "lasts", .str "points", .str "pairs", pk w1 oddL, pk (nx w1 21) oddL, pk (nx (nx w1 21) 21) oddL] = true := by
    rw [noOs_all, List.all_eq_true]
    exact fun d hd => (hU d hd).no
  have go := g_of (nx (nx (nx w1 21) 21) 21) (ds := [D.str "firsts", .str "lasts", .str "points", .str "pairs", pk w1 oddL, pk (nx w1 21) oddL, pk (nx (nx w1 21) 21) oddL]) (by show 0 < 7; decide) (by show 7 < 1073741824; decide) hn
  have hm := hU _ (pk_mem (nx (nx (nx w1 21) 21) 21) (ds := [D.str "firsts", .str "lasts", .str "points", .str "pairs", pk w1 oddL, pk (nx w1 21) oddL, pk (nx (nx w1 21) 21) oddL]) (by show 0 < 7; decide) (by show 7 < 1073741824; decide))
  generalize hV : pk (nx (nx (nx w1 21) 21) 21) [D.str "firsts", .str "lasts", .str "points", .str "pairs", pk w1 oddL, pk (nx w1 21) oddL, pk (nx (nx w1 21) 21) oddL] = U at *
  obtain ⟨e', s1, s2⟩ := suffix (nx (nx (nx (nx w1 21) 21) 21) 7) (some (false, pk (nx (nx w 7) 5) oddE)) (some (false, .int (dr w 7))) (some (false, .int (dr (nx w 7) 5))) y8 gP hm
  refine ⟨nx (nx (nx (nx w1 21) 21) 21) 7, grd_ok rfl ?_ rfl rfl⟩
  have go' : grd m_law_of [(true, wd (nx (nx (nx w1 21) 21) 21)), (false, .lst [D.str "firsts", .str "lasts", .str "points", .str "pairs", pk w1 oddL, pk (nx w1 21) oddL, pk (nx (nx w1 21) 21) oddL])] = .ok (false, U) [some (true, wd (nx (nx (nx (nx w1 21) 21) 21) 7)), none] := go
  have m1' : bo_mif [some (true, wd (nx (nx (nx w 7) 5) 11)), some (false, P6 a b c d e f), some (false, pk (nx (nx w 7) 5) oddE), none, none, none, some (false, .int (dr w 7)), some (false, .int (dr (nx w 7) 5)), none] = _ := m1
  unfold b_law_refused_right
  simp only [most, kVal_ap, kSh_ap, kCo_ap, kCons_ap, kSeq_n, kSeq_r, kRet_ap, kDrop_ap, kAsg_ap, kIf_t, kIf_f, kMk_ap, kBin_ap, kNot_ap, kAndV_ap, kOrV_ap, kNotV2_ap, kNotV_ap, kCh3_ap, kCh2_ap, kCh1_ap, kLoop2_n, kLoop2_r, kLoop_ap, kB_ap, kSub_ap, kNext_ap, kAB_ap, kPar2_ap, kPar_ap, kApp3_ap, kApp2_ap, kApp_ap, kMeth2_ap, kMeth_ap, kSeqI_ap, kRng_ap, kEn_ap, zp_s, kZip_ap, kLc_ap, kL3_ap, kL2_t, kL2_f, kL1_ap, kSl3_ap, kSl2_ap, kSl_ap, kErr_ap, kPm_ap, ap_op1, ap_opN, ap_intO, opt_some, opt_none, sure_ok, sure_err, sure_bad, nm_f, nm_t, sl_s, rs_s, mk_s, put_t, lcE_ok, fn_ret, fn_next, fn_err, back_ok, back_err, args_s, op2_s, op1_s, opN_s, opX_s, lkS_s, lkC_s, frS_n, frS_f, th_ok, th_err, th_bad, ap_bind, ap_pure, ap_fail, ap_name, ap_slot, ap_val, ap_sh, ap_nil, ap_cons, ap_seq, ap_ret, ap_retSlot, ap_drop, ap_asg, ap_if, ap_cst, ap_tup, ap_lst, ap_bin2, ap_op2, ap_un1, ap_callN, look_s, look_v, looks_nil, looks_cons, shs_nil, shs_cons, ap_retB, ap_bool, ap_chain, ap_truO, ap_tr, ap_andT, ap_orT, ap_notT, ap_truB, ap_keep, ap_andV, ap_orV, ap_notV, ap_ifV, ap_callM, ap_callO, ap_must, ap_sure, ap_loop0, ap_loop, ap_for, ap_nm, ap_tp, ap_nilB, ap_consB, ap_sub, ap_setO, ap_asgB, ap_par, ap_appO, ap_app, ap_ty, ap_opm, ap_meth, ap_seqI, ap_rng, ap_enum, ap_zip, ap_lc, ap_lc0, ap_lcL, ap_free, ap_wipe0, ap_wipe, ap_back0, ap_back, ap_sl, ap_part, ap_raise, ap_lam, ap_perm, ap_fnR, outs00, outs01, outs02, outs03, outs1, outs2, outs3, argsOf, refsOf, backs, diff, truD, blOf, walkD, itemsD, sqD, zipL, List.zipWith_cons_cons, List.zipWith_nil_left, List.zipWith_nil_right, List.map_cons, List.map_nil, List.length_cons, List.length_nil, List.replicate, List.cons_append, List.nil_append, List.append_nil, List.getElem?_cons_zero, List.getElem?_cons_succ, List.getElem?_nil, List.set_cons_zero, List.set_cons_succ, List.set_nil, List.all_cons, List.all_nil, List.contains_cons, List.contains_nil, Option.map_some, Option.map_none, Option.getD_some, Option.getD_none, Option.bind_some, Option.bind_none, Nat.reduceAdd, Nat.reduceSub, Nat.reduceLT, Nat.reduceLeDiff, Nat.reduceEqDiff, Nat.reduceBEq, beq_self_eq_true, Bool.and_true, Bool.true_and, Bool.and_false, Bool.false_and, Bool.or_true, Bool.true_or, Bool.or_false, Bool.false_or, Bool.not_true, Bool.not_false, if_true, if_false, and_true, true_and, and_self, ite_true, ite_false, decide_true, decide_false, Bool.false_eq_true, reduceCtorEq, Nat.zero_add, Nat.sub_self, Nat.lt_irrefl, g7, g5, gE, pow20, neg1, ↓m1', g_odd, go', ↓s1, s2]
end TT

set_option maxRecDepth 100000
set_option maxHeartbeats 4000000
/-! KP8: the law. -/
namespace TT
open PySem PySem.Spec PyProof.Rows L2
abbrev bo_out : M Flw := (seqM (asgM 2 (callM m_law_profile [0] 1 (consM (slotM 0) (nilM))))
  (seqM (asgM 3 (callM m_law_of [0] 2 (consM (slotM 0) (consM (valM (shM (lstM (consM (valM (cstM (.str "acb"))) (consM (valM (cstM (.str "bac"))) (consM (valM (cstM (.str "bca"))) (consM (valM (cstM (.str "cab"))) (consM (valM (cstM (.str "cba"))) (nilM))))))))) (nilM)))))
  (seqM (asgM 4 (callM m_law_led [] 2 (consM (valM (nameM 2)) (consM (valM (nameM 3)) (nilM)))))
  (seqM (forM (seqI (lstM (consM (valM (cstM (.str "firsts"))) (consM (valM (cstM (.str "lasts"))) (consM (valM (cstM (.str "points"))) (consM (valM (cstM (.str "pairs"))) (nilM))))))) (nmB 5) (seqM (asgM 6 (callM m_law_won [] 2 (consM (valM (nameM 2)) (consM (valM (nameM 5)) (nilM)))))
  (seqM (ifM (boolM (bin2 neD (valM (callN reprD (consM (valM (shM (lstM (consM (valM (shM (callM m_winners [] 2 (consM (valM (nameM 2)) (consM (valM (nameM 5)) (nilM)))))) (consM (valM (shM (callM m_winners [] 2 (permM [1, 0] (consM (valM (nameM 5)) (consM (valM (nameM 2)) (nilM))))))) (nilM)))))) nilM))) (valM (callN reprD (consM (valM (shM (lstM (consM (valM (nameM 6)) (consM (valM (nameM 6)) (nilM)))))) nilM))))) (retM (cstM (.bl false))) (M.pure .next))
  (ifM (boolM (bin2 neD (valM (callM m_winners [] 2 (consM (valM (nameM 4)) (consM (valM (nameM 5)) (nilM))))) (valM (methM "str" joinD (valM (cstM (.str ""))) (consM (valM (shM (callN sortedD (consM (valM (lcM [7] (seqI (nameM 6)) (nmB 7) (M.pure true) (bin2 ixD (slotM 3) (valM (methM "str" indexSD (valM (cstM (.str "abc"))) (consM (valM (nameM 7)) (nilM))))))) (nilM))))) (nilM)))))) (retM (cstM (.bl false))) (M.pure .next)))))
  (ifM (notT (trM (valM (callM m_law_refused_right [0] 2 (consM (slotM 0) (consM (valM (nameM 2)) (nilM))))))) (retM (cstM (.bl false))) (M.pure .next))))))
abbrev bo_in : M Flw := (seqM (asgM 6 (callM m_law_won [] 2 (consM (valM (nameM 2)) (consM (valM (nameM 5)) (nilM)))))
  (seqM (ifM (boolM (bin2 neD (valM (callN reprD (consM (valM (shM (lstM (consM (valM (shM (callM m_winners [] 2 (consM (valM (nameM 2)) (consM (valM (nameM 5)) (nilM)))))) (consM (valM (shM (callM m_winners [] 2 (permM [1, 0] (consM (valM (nameM 5)) (consM (valM (nameM 2)) (nilM))))))) (nilM)))))) nilM))) (valM (callN reprD (consM (valM (shM (lstM (consM (valM (nameM 6)) (consM (valM (nameM 6)) (nilM)))))) nilM))))) (retM (cstM (.bl false))) (M.pure .next))
  (ifM (boolM (bin2 neD (valM (callM m_winners [] 2 (consM (valM (nameM 4)) (consM (valM (nameM 5)) (nilM))))) (valM (methM "str" joinD (valM (cstM (.str ""))) (consM (valM (shM (callN sortedD (consM (valM (lcM [7] (seqI (nameM 6)) (nmB 7) (M.pure true) (bin2 ixD (slotM 3) (valM (methM "str" indexSD (valM (cstM (.str "abc"))) (consM (valM (nameM 7)) (nilM))))))) (nilM))))) (nilM)))))) (retM (cstM (.bl false))) (M.pure .next))))
theorem neS (x y : Str) : neD (.str x) (.str y) = some (false, .bl (!decide (x = y))) := by kernel_rfl
theorem turn_in (r : Rl) (p : Pm) {a b c d e f : Int} (h : okP (P6 a b c d e f) = true) (x0 x1 x6 : Sl0) : bo_in [x0, x1, some (false, P6 a b c d e f), some (false, .str p.s), some (false, p.led a b c d e f), some (false, .str r.s), x6, none] =
    .ok .next [x0, x1, some (false, P6 a b c d e f), some (false, .str p.s), some (false, p.led a b c d e f), some (false, .str r.s), some (false, .str (S3 (wn a b c d e f r))), none] := by
  have h1 := e_law_won a b c d e f r
  have h2 := e_winners r h
  have h3 := e_won_led p r h
  obtain ⟨z, h4⟩ := e_repr2 (wn a b c d e f r)
  have h5 := e_exch p (wn a b c d e f r) x0 x1 (some (false, P6 a b c d e f)) (some (false, p.led a b c d e f)) (some (false, .str r.s))
  generalize p.led a b c d e f = L at *
  generalize S3 (wn a b c d e f r) = s at *
  simp only [most, kVal_ap, kSh_ap, kCo_ap, kCons_ap, kSeq_n, kSeq_r, kRet_ap, kDrop_ap, kAsg_ap, kIf_t, kIf_f, kMk_ap, kBin_ap, kNot_ap, kAndV_ap, kOrV_ap, kNotV2_ap, kNotV_ap, kCh3_ap, kCh2_ap, kCh1_ap, kLoop2_n, kLoop2_r, kLoop_ap, kB_ap, kSub_ap, kNext_ap, kAB_ap, kPar2_ap, kPar_ap, kApp3_ap, kApp2_ap, kApp_ap, kMeth2_ap, kMeth_ap, kSeqI_ap, kRng_ap, kEn_ap, zp_s, kZip_ap, kLc_ap, kL3_ap, kL2_t, kL2_f, kL1_ap, kSl3_ap, kSl2_ap, kSl_ap, kErr_ap, kPm_ap, ap_op1, ap_opN, ap_intO, opt_some, opt_none, sure_ok, sure_err, sure_bad, nm_f, nm_t, sl_s, rs_s, mk_s, put_t, lcE_ok, fn_ret, fn_next, fn_err, back_ok, back_err, args_s, op2_s, op1_s, opN_s, opX_s, lkS_s, lkC_s, frS_n, frS_f, th_ok, th_err, th_bad, ap_bind, ap_pure, ap_fail, ap_name, ap_slot, ap_val, ap_sh, ap_nil, ap_cons, ap_seq, ap_ret, ap_retSlot, ap_drop, ap_asg, ap_if, ap_cst, ap_tup, ap_lst, ap_bin2, ap_op2, ap_un1, ap_callN, look_s, look_v, looks_nil, looks_cons, shs_nil, shs_cons, ap_retB, ap_bool, ap_chain, ap_truO, ap_tr, ap_andT, ap_orT, ap_notT, ap_truB, ap_keep, ap_andV, ap_orV, ap_notV, ap_ifV, ap_callM, ap_callO, ap_must, ap_sure, ap_loop0, ap_loop, ap_for, ap_nm, ap_tp, ap_nilB, ap_consB, ap_sub, ap_setO, ap_asgB, ap_par, ap_appO, ap_app, ap_ty, ap_opm, ap_meth, ap_seqI, ap_rng, ap_enum, ap_zip, ap_lc, ap_lc0, ap_lcL, ap_free, ap_wipe0, ap_wipe, ap_back0, ap_back, ap_sl, ap_part, ap_raise, ap_lam, ap_perm, ap_fnR, outs00, outs01, outs02, outs03, outs1, outs2, outs3, argsOf, refsOf, backs, diff, truD, blOf, walkD, itemsD, sqD, zipL, List.zipWith_cons_cons, List.zipWith_nil_left, List.zipWith_nil_right, List.map_cons, List.map_nil, List.length_cons, List.length_nil, List.replicate, List.cons_append, List.nil_append, List.append_nil, List.getElem?_cons_zero, List.getElem?_cons_succ, List.getElem?_nil, List.set_cons_zero, List.set_cons_succ, List.set_nil, List.all_cons, List.all_nil, List.contains_cons, List.contains_nil, Option.map_some, Option.map_none, Option.getD_some, Option.getD_none, Option.bind_some, Option.bind_none, Nat.reduceAdd, Nat.reduceSub, Nat.reduceLT, Nat.reduceLeDiff, Nat.reduceEqDiff, Nat.reduceBEq, beq_self_eq_true, Bool.and_true, Bool.true_and, Bool.and_false, Bool.false_and, Bool.or_true, Bool.true_or, Bool.or_false, Bool.false_or, Bool.not_true, Bool.not_false, if_true, if_false, and_true, true_and, and_self, ite_true, ite_false, decide_true, decide_false, Bool.false_eq_true, reduceCtorEq, Nat.zero_add, Nat.sub_self, Nat.lt_irrefl, h1, h2, h3, h4, perm2, neS, ↓h5]
def permL5 : List D := [.str "acb", .str "bac", .str "bca", .str "cab", .str "cba"]
theorem perm_pm {d : D} (h : d ∈ permL5) : ∃ p : Pm, d = .str p.s := by
  simp only [permL5, List.mem_cons, List.not_mem_nil, or_false] at h
  rcases h with rfl | rfl | rfl | rfl | rfl
  · exact ⟨.acb, rfl⟩
  · exact ⟨.bac, rfl⟩
  · exact ⟨.bca, rfl⟩
  · exact ⟨.cab, rfl⟩
  · exact ⟨.cba, rfl⟩
theorem turn_out (w : Wl) (x1 x2 x3 x4 x5 x6 : Sl0) : ∃ w' y2 y3 y4 y5 y6, bo_out [some (true, wd w), x1, x2, x3, x4, x5, x6, none] = .ok .next [some (true, wd w'), x1, y2, y3, y4, y5, y6, none] := by
  obtain ⟨w1, a, b, c, d, e, f, h1, h2⟩ := e_profile w
  have ho : m_law_of [(true, wd w1), (false, .lst [.str "acb", .str "bac", .str "bca", .str "cab", .str "cba"])] = .ok (false, pk w1 permL5) [some (true, wd (nx w1 5)), none] := e_of w1 (ds := permL5) (by decide) (by decide)
  obtain ⟨p, hp⟩ := perm_pm (pk_mem w1 (ds := permL5) (by decide) (by decide))
  rw [hp] at ho
  have hl := e_law_led a b c d e f p
  obtain ⟨w3, hr⟩ := e_refused (nx w1 5) h2
  have t1 := turn_in .f p h2 (some (true, wd (nx w1 5))) x1 x6
  have t2 := turn_in .l p h2 (some (true, wd (nx w1 5))) x1 (some (false, .str (S3 (wn a b c d e f .f))))
  have t3 := turn_in .p p h2 (some (true, wd (nx w1 5))) x1 (some (false, .str (S3 (wn a b c d e f .l))))
  have t4 := turn_in .q p h2 (some (true, wd (nx w1 5))) x1 (some (false, .str (S3 (wn a b c d e f .p))))
  refine ⟨w3, some (false, P6 a b c d e f), some (false, .str p.s), some (false, p.led a b c d e f), some (false, .str "pairs"), some (false, .str (S3 (wn a b c d e f .q))), ?_⟩
  generalize p.led a b c d e f = L at *
  generalize S3 (wn a b c d e f .f) = s1 at *
  generalize S3 (wn a b c d e f .l) = s2 at *
  generalize S3 (wn a b c d e f .p) = s3 at *
  generalize S3 (wn a b c d e f .q) = s4 at *
  simp only [Rl.s] at t1 t2 t3 t4
  generalize p.s = ps at *
  simp only [most, kVal_ap, kSh_ap, kCo_ap, kCons_ap, kSeq_n, kSeq_r, kRet_ap, kDrop_ap, kAsg_ap, kIf_t, kIf_f, kMk_ap, kBin_ap, kNot_ap, kAndV_ap, kOrV_ap, kNotV2_ap, kNotV_ap, kCh3_ap, kCh2_ap, kCh1_ap, kLoop2_n, kLoop2_r, kLoop_ap, kB_ap, kSub_ap, kNext_ap, kAB_ap, kPar2_ap, kPar_ap, kApp3_ap, kApp2_ap, kApp_ap, kMeth2_ap, kMeth_ap, kSeqI_ap, kRng_ap, kEn_ap, zp_s, kZip_ap, kLc_ap, kL3_ap, kL2_t, kL2_f, kL1_ap, kSl3_ap, kSl2_ap, kSl_ap, kErr_ap, kPm_ap, ap_op1, ap_opN, ap_intO, opt_some, opt_none, sure_ok, sure_err, sure_bad, nm_f, nm_t, sl_s, rs_s, mk_s, put_t, lcE_ok, fn_ret, fn_next, fn_err, back_ok, back_err, args_s, op2_s, op1_s, opN_s, opX_s, lkS_s, lkC_s, frS_n, frS_f, th_ok, th_err, th_bad, ap_bind, ap_pure, ap_fail, ap_name, ap_slot, ap_val, ap_sh, ap_nil, ap_cons, ap_seq, ap_ret, ap_retSlot, ap_drop, ap_asg, ap_if, ap_cst, ap_tup, ap_lst, ap_bin2, ap_op2, ap_un1, ap_callN, look_s, look_v, looks_nil, looks_cons, shs_nil, shs_cons, ap_retB, ap_bool, ap_chain, ap_truO, ap_tr, ap_andT, ap_orT, ap_notT, ap_truB, ap_keep, ap_andV, ap_orV, ap_notV, ap_ifV, ap_callM, ap_callO, ap_must, ap_sure, ap_loop0, ap_loop, ap_for, ap_nm, ap_tp, ap_nilB, ap_consB, ap_sub, ap_setO, ap_asgB, ap_par, ap_appO, ap_app, ap_ty, ap_opm, ap_meth, ap_seqI, ap_rng, ap_enum, ap_zip, ap_lc, ap_lc0, ap_lcL, ap_free, ap_wipe0, ap_wipe, ap_back0, ap_back, ap_sl, ap_part, ap_raise, ap_lam, ap_perm, ap_fnR, outs00, outs01, outs02, outs03, outs1, outs2, outs3, argsOf, refsOf, backs, diff, truD, blOf, walkD, itemsD, sqD, zipL, List.zipWith_cons_cons, List.zipWith_nil_left, List.zipWith_nil_right, List.map_cons, List.map_nil, List.length_cons, List.length_nil, List.replicate, List.cons_append, List.nil_append, List.append_nil, List.getElem?_cons_zero, List.getElem?_cons_succ, List.getElem?_nil, List.set_cons_zero, List.set_cons_succ, List.set_nil, List.all_cons, List.all_nil, List.contains_cons, List.contains_nil, Option.map_some, Option.map_none, Option.getD_some, Option.getD_none, Option.bind_some, Option.bind_none, Nat.reduceAdd, Nat.reduceSub, Nat.reduceLT, Nat.reduceLeDiff, Nat.reduceEqDiff, Nat.reduceBEq, beq_self_eq_true, Bool.and_true, Bool.true_and, Bool.and_false, Bool.false_and, Bool.or_true, Bool.true_or, Bool.or_false, Bool.false_or, Bool.not_true, Bool.not_false, if_true, if_false, and_true, true_and, and_self, ite_true, ite_false, decide_true, decide_false, Bool.false_eq_true, reduceCtorEq, Nat.zero_add, Nat.sub_self, Nat.lt_irrefl, h1, ho, hl, ↓t1, ↓t2, ↓t3, ↓t4, hr]
theorem loop_out : ∀ (ts : List D) (w : Wl) (x1 x2 x3 x4 x5 x6 : Sl0), ∃ w' y1 y2 y3 y4 y5 y6, loopM (nmB 1) bo_out ts [some (true, wd w), x1, x2, x3, x4, x5, x6, none] = .ok .next [some (true, wd w'), y1, y2, y3, y4, y5, y6, none]
  | [], w, x1, x2, x3, x4, x5, x6 => ⟨w, x1, x2, x3, x4, x5, x6, rfl⟩
  | t :: ts, w, x1, x2, x3, x4, x5, x6 => by
    obtain ⟨w1, y2, y3, y4, y5, y6, h⟩ := turn_out w (some (false, t)) x2 x3 x4 x5 x6
    obtain ⟨w2, z1, z2, z3, z4, z5, z6, h2⟩ := loop_out ts w1 (some (false, t)) y2 y3 y4 y5 y6
    refine ⟨w2, z1, z2, z3, z4, z5, z6, ?_⟩
    rw [← h2]
    simp only [most, kVal_ap, kSh_ap, kCo_ap, kCons_ap, kSeq_n, kSeq_r, kRet_ap, kDrop_ap, kAsg_ap, kIf_t, kIf_f, kMk_ap, kBin_ap, kNot_ap, kAndV_ap, kOrV_ap, kNotV2_ap, kNotV_ap, kCh3_ap, kCh2_ap, kCh1_ap, kLoop2_n, kLoop2_r, kLoop_ap, kB_ap, kSub_ap, kNext_ap, kAB_ap, kPar2_ap, kPar_ap, kApp3_ap, kApp2_ap, kApp_ap, kMeth2_ap, kMeth_ap, kSeqI_ap, kRng_ap, kEn_ap, zp_s, kZip_ap, kLc_ap, kL3_ap, kL2_t, kL2_f, kL1_ap, kSl3_ap, kSl2_ap, kSl_ap, kErr_ap, kPm_ap, ap_op1, ap_opN, ap_intO, opt_some, opt_none, sure_ok, sure_err, sure_bad, nm_f, nm_t, sl_s, rs_s, mk_s, put_t, lcE_ok, fn_ret, fn_next, fn_err, back_ok, back_err, args_s, op2_s, op1_s, opN_s, opX_s, lkS_s, lkC_s, frS_n, frS_f, th_ok, th_err, th_bad, ap_bind, ap_pure, ap_fail, ap_name, ap_slot, ap_val, ap_sh, ap_nil, ap_cons, ap_seq, ap_ret, ap_retSlot, ap_drop, ap_asg, ap_if, ap_cst, ap_tup, ap_lst, ap_bin2, ap_op2, ap_un1, ap_callN, look_s, look_v, looks_nil, looks_cons, shs_nil, shs_cons, ap_retB, ap_bool, ap_chain, ap_truO, ap_tr, ap_andT, ap_orT, ap_notT, ap_truB, ap_keep, ap_andV, ap_orV, ap_notV, ap_ifV, ap_callM, ap_callO, ap_must, ap_sure, ap_loop0, ap_loop, ap_for, ap_nm, ap_tp, ap_nilB, ap_consB, ap_sub, ap_setO, ap_asgB, ap_par, ap_appO, ap_app, ap_ty, ap_opm, ap_meth, ap_seqI, ap_rng, ap_enum, ap_zip, ap_lc, ap_lc0, ap_lcL, ap_free, ap_wipe0, ap_wipe, ap_back0, ap_back, ap_sl, ap_part, ap_raise, ap_lam, ap_perm, ap_fnR, outs00, outs01, outs02, outs03, outs1, outs2, outs3, argsOf, refsOf, backs, diff, truD, blOf, walkD, itemsD, sqD, zipL, List.zipWith_cons_cons, List.zipWith_nil_left, List.zipWith_nil_right, List.map_cons, List.map_nil, List.length_cons, List.length_nil, List.replicate, List.cons_append, List.nil_append, List.append_nil, List.getElem?_cons_zero, List.getElem?_cons_succ, List.getElem?_nil, List.set_cons_zero, List.set_cons_succ, List.set_nil, List.all_cons, List.all_nil, List.contains_cons, List.contains_nil, Option.map_some, Option.map_none, Option.getD_some, Option.getD_none, Option.bind_some, Option.bind_none, Nat.reduceAdd, Nat.reduceSub, Nat.reduceLT, Nat.reduceLeDiff, Nat.reduceEqDiff, Nat.reduceBEq, beq_self_eq_true, Bool.and_true, Bool.true_and, Bool.and_false, Bool.false_and, Bool.or_true, Bool.true_or, Bool.or_false, Bool.false_or, Bool.not_true, Bool.not_false, if_true, if_false, and_true, true_and, and_self, ite_true, ite_false, decide_true, decide_false, Bool.false_eq_true, reduceCtorEq, Nat.zero_add, Nat.sub_self, Nat.lt_irrefl, ↓h]
theorem rng5 : rg (some [.int 5]) = some (rngL 0 5) := by kernel_rfl
theorem e_right (w : Wl) : ∃ w', m_law_right [(true, wd w)] = .ok (false, .bl true) [some (true, wd w')] := by
  obtain ⟨w', y1, y2, y3, y4, y5, y6, h⟩ := loop_out (rngL 0 5) w none none none none none none
  refine ⟨w', ?_⟩
  unfold m_law_right b_law_right
  simp only [most, kVal_ap, kSh_ap, kCo_ap, kCons_ap, kSeq_n, kSeq_r, kRet_ap, kDrop_ap, kAsg_ap, kIf_t, kIf_f, kMk_ap, kBin_ap, kNot_ap, kAndV_ap, kOrV_ap, kNotV2_ap, kNotV_ap, kCh3_ap, kCh2_ap, kCh1_ap, kLoop2_n, kLoop2_r, kLoop_ap, kB_ap, kSub_ap, kNext_ap, kAB_ap, kPar2_ap, kPar_ap, kApp3_ap, kApp2_ap, kApp_ap, kMeth2_ap, kMeth_ap, kSeqI_ap, kRng_ap, kEn_ap, zp_s, kZip_ap, kLc_ap, kL3_ap, kL2_t, kL2_f, kL1_ap, kSl3_ap, kSl2_ap, kSl_ap, kErr_ap, kPm_ap, ap_op1, ap_opN, ap_intO, opt_some, opt_none, sure_ok, sure_err, sure_bad, nm_f, nm_t, sl_s, rs_s, mk_s, put_t, lcE_ok, fn_ret, fn_next, fn_err, back_ok, back_err, args_s, op2_s, op1_s, opN_s, opX_s, lkS_s, lkC_s, frS_n, frS_f, th_ok, th_err, th_bad, ap_bind, ap_pure, ap_fail, ap_name, ap_slot, ap_val, ap_sh, ap_nil, ap_cons, ap_seq, ap_ret, ap_retSlot, ap_drop, ap_asg, ap_if, ap_cst, ap_tup, ap_lst, ap_bin2, ap_op2, ap_un1, ap_callN, look_s, look_v, looks_nil, looks_cons, shs_nil, shs_cons, ap_retB, ap_bool, ap_chain, ap_truO, ap_tr, ap_andT, ap_orT, ap_notT, ap_truB, ap_keep, ap_andV, ap_orV, ap_notV, ap_ifV, ap_callM, ap_callO, ap_must, ap_sure, ap_loop0, ap_loop, ap_for, ap_nm, ap_tp, ap_nilB, ap_consB, ap_sub, ap_setO, ap_asgB, ap_par, ap_appO, ap_app, ap_ty, ap_opm, ap_meth, ap_seqI, ap_rng, ap_enum, ap_zip, ap_lc, ap_lc0, ap_lcL, ap_free, ap_wipe0, ap_wipe, ap_back0, ap_back, ap_sl, ap_part, ap_raise, ap_lam, ap_perm, ap_fnR, outs00, outs01, outs02, outs03, outs1, outs2, outs3, argsOf, refsOf, backs, diff, truD, blOf, walkD, itemsD, sqD, zipL, List.zipWith_cons_cons, List.zipWith_nil_left, List.zipWith_nil_right, List.map_cons, List.map_nil, List.length_cons, List.length_nil, List.replicate, List.cons_append, List.nil_append, List.append_nil, List.getElem?_cons_zero, List.getElem?_cons_succ, List.getElem?_nil, List.set_cons_zero, List.set_cons_succ, List.set_nil, List.all_cons, List.all_nil, List.contains_cons, List.contains_nil, Option.map_some, Option.map_none, Option.getD_some, Option.getD_none, Option.bind_some, Option.bind_none, Nat.reduceAdd, Nat.reduceSub, Nat.reduceLT, Nat.reduceLeDiff, Nat.reduceEqDiff, Nat.reduceBEq, beq_self_eq_true, Bool.and_true, Bool.true_and, Bool.and_false, Bool.false_and, Bool.or_true, Bool.true_or, Bool.or_false, Bool.false_or, Bool.not_true, Bool.not_false, if_true, if_false, and_true, true_and, and_self, ite_true, ite_false, decide_true, decide_false, Bool.false_eq_true, reduceCtorEq, Nat.zero_add, Nat.sub_self, Nat.lt_irrefl, rng5, ↓h]
/-! ### the well -/
theorem ixR {ns : List Int} {k : Nat} (h : k < ns.length) : ixD (.frz (ns.map D.int)) (.int k) = some (false, .int (ns.getD k 0)) := by
  have hx : atI (ns.map D.int) k = some (.int (ns.getD k 0)) := by
    unfold atI ixN
    rw [List.length_map, if_pos (by omega), if_pos (by omega)]
    show (ns.map D.int)[(k : Int).toNat]? = _
    rw [Int.toNat_natCast, List.getElem?_map, List.getElem?_eq_getElem h, List.getD_eq_getElem?_getD, List.getElem?_eq_getElem h]
    rfl
  show ((atI (ns.map D.int) k).map fun x => (false, x)) = _
  rw [hx]
  rfl
theorem loop_well : ∀ (ds : List D) (m : Int) (x0 x1 x2 x4 : Sl0), (∀ d ∈ ds, ∃ i, d = D.int i) → ∃ m' y4, loopM (nmB 4) (asgM 3 (bin2 modD (valM (callN intD (consM (valM (bin2 addD (valM (bin2 mulD (slotM 3) (valM (cstM (.int 36007))))) (valM (callN intD (consM (slotM 4) (nilM)))))) (nilM)))) (valM (cstM (.int 2147483423))))) ds [x0, x1, x2, some (false, .int m), x4] = .ok .next [x0, x1, x2, some (false, .int m'), y4]
  | [], m, x0, x1, x2, x4, _ => ⟨m, x4, rfl⟩
  | d :: ds, m, x0, x1, x2, x4, h => by
    obtain ⟨i, rfl⟩ := h d List.mem_cons_self
    obtain ⟨m', y4, e⟩ := loop_well ds ((m * 36007 + i) % 2147483423) x0 x1 x2 (some (false, .int i)) fun x hx => h x (List.mem_cons_of_mem _ hx)
    refine ⟨m', y4, ?_⟩
    rw [← e]
    have s : mulD (.int m) (.int 36007) = some (false, .int (m * 36007)) := mulS (by kernel_rfl)
    simp only [most, kVal_ap, kSh_ap, kCo_ap, kCons_ap, kSeq_n, kSeq_r, kRet_ap, kDrop_ap, kAsg_ap, kIf_t, kIf_f, kMk_ap, kBin_ap, kNot_ap, kAndV_ap, kOrV_ap, kNotV2_ap, kNotV_ap, kCh3_ap, kCh2_ap, kCh1_ap, kLoop2_n, kLoop2_r, kLoop_ap, kB_ap, kSub_ap, kNext_ap, kAB_ap, kPar2_ap, kPar_ap, kApp3_ap, kApp2_ap, kApp_ap, kMeth2_ap, kMeth_ap, kSeqI_ap, kRng_ap, kEn_ap, zp_s, kZip_ap, kLc_ap, kL3_ap, kL2_t, kL2_f, kL1_ap, kSl3_ap, kSl2_ap, kSl_ap, kErr_ap, kPm_ap, ap_op1, ap_opN, ap_intO, opt_some, opt_none, sure_ok, sure_err, sure_bad, nm_f, nm_t, sl_s, rs_s, mk_s, put_t, lcE_ok, fn_ret, fn_next, fn_err, back_ok, back_err, args_s, op2_s, op1_s, opN_s, opX_s, lkS_s, lkC_s, frS_n, frS_f, th_ok, th_err, th_bad, ap_bind, ap_pure, ap_fail, ap_name, ap_slot, ap_val, ap_sh, ap_nil, ap_cons, ap_seq, ap_ret, ap_retSlot, ap_drop, ap_asg, ap_if, ap_cst, ap_tup, ap_lst, ap_bin2, ap_op2, ap_un1, ap_callN, look_s, look_v, looks_nil, looks_cons, shs_nil, shs_cons, ap_retB, ap_bool, ap_chain, ap_truO, ap_tr, ap_andT, ap_orT, ap_notT, ap_truB, ap_keep, ap_andV, ap_orV, ap_notV, ap_ifV, ap_callM, ap_callO, ap_must, ap_sure, ap_loop0, ap_loop, ap_for, ap_nm, ap_tp, ap_nilB, ap_consB, ap_sub, ap_setO, ap_asgB, ap_par, ap_appO, ap_app, ap_ty, ap_opm, ap_meth, ap_seqI, ap_rng, ap_enum, ap_zip, ap_lc, ap_lc0, ap_lcL, ap_free, ap_wipe0, ap_wipe, ap_back0, ap_back, ap_sl, ap_part, ap_raise, ap_lam, ap_perm, ap_fnR, outs00, outs01, outs02, outs03, outs1, outs2, outs3, argsOf, refsOf, backs, diff, truD, blOf, walkD, itemsD, sqD, zipL, List.zipWith_cons_cons, List.zipWith_nil_left, List.zipWith_nil_right, List.map_cons, List.map_nil, List.length_cons, List.length_nil, List.replicate, List.cons_append, List.nil_append, List.append_nil, List.getElem?_cons_zero, List.getElem?_cons_succ, List.getElem?_nil, List.set_cons_zero, List.set_cons_succ, List.set_nil, List.all_cons, List.all_nil, List.contains_cons, List.contains_nil, Option.map_some, Option.map_none, Option.getD_some, Option.getD_none, Option.bind_some, Option.bind_none, Nat.reduceAdd, Nat.reduceSub, Nat.reduceLT, Nat.reduceLeDiff, Nat.reduceEqDiff, Nat.reduceBEq, beq_self_eq_true, Bool.and_true, Bool.true_and, Bool.and_false, Bool.false_and, Bool.or_true, Bool.true_or, Bool.or_false, Bool.false_or, Bool.not_true, Bool.not_false, if_true, if_false, and_true, true_and, and_self, ite_true, ite_false, decide_true, decide_false, Bool.false_eq_true, reduceCtorEq, Nat.zero_add, Nat.sub_self, Nat.lt_irrefl, s, intI, addI, mod2]
theorem lenZ (ds : List D) : lenD [.frz ds] = some (false, .int ds.length) := by kernel_rfl
theorem slZ (ds : List D) (lo hi : Option Int) : slD (.frz ds) lo hi = some (true, .lst (cutD ds lo hi)) := rfl
theorem abI (i : Int) : absD [.int i] = some (false, .int (if i < 0 then -i else i)) := by kernel_rfl
theorem pow18 : powD (.int 10) (.int 18) = some (false, .int 1000000000000000000) := by kernel_rfl
theorem e_well {ns : List Int} (hl : ns.length ≤ 63) {k : Nat} (hk : k = 0 ∨ k = 1) : ∃ w, m_law_well [(false, .frz (ns.map D.int)), (false, .int k)] = .ok (true, wd w) [none, none] := by
  have mA : mulD (.int 6101) (.int k) = some (false, .int (6101 * k)) := by rcases hk with rfl | rfl <;> kernel_rfl
  have mB : mulD (.int 877) (.int k) = some (false, .int (877 * k)) := by rcases hk with rfl | rfl <;> kernel_rfl
  have own : ∃ own, ifV (boolM (bin2 ltD (slotM 1) (valM (callN lenD (consM (slotM 0) (nilM)))))) (callN intD (consM (valM (bin2 ixD (slotM 0) (slotM 1))) (nilM))) (bin2 addD (valM (bin2 mulD (valM (cstM (.int 6101))) (slotM 1))) (valM (cstM (.int 211)))) [some (false, .frz (ns.map D.int)), some (false, .int k), none, none, none] =
      .ok (false, .int own) [some (false, .frz (ns.map D.int)), some (false, .int k), none, none, none] := by
    by_cases h : k < ns.length
    · have h1 : decide ((k : Int) < ((ns.map D.int).length : Nat)) = true := decide_eq_true (by rw [List.length_map]; omega)
      have h2 := ixR h
      refine ⟨ns.getD k 0, ?_⟩
      simp only [most, kVal_ap, kSh_ap, kCo_ap, kCons_ap, kSeq_n, kSeq_r, kRet_ap, kDrop_ap, kAsg_ap, kIf_t, kIf_f, kMk_ap, kBin_ap, kNot_ap, kAndV_ap, kOrV_ap, kNotV2_ap, kNotV_ap, kCh3_ap, kCh2_ap, kCh1_ap, kLoop2_n, kLoop2_r, kLoop_ap, kB_ap, kSub_ap, kNext_ap, kAB_ap, kPar2_ap, kPar_ap, kApp3_ap, kApp2_ap, kApp_ap, kMeth2_ap, kMeth_ap, kSeqI_ap, kRng_ap, kEn_ap, zp_s, kZip_ap, kLc_ap, kL3_ap, kL2_t, kL2_f, kL1_ap, kSl3_ap, kSl2_ap, kSl_ap, kErr_ap, kPm_ap, ap_op1, ap_opN, ap_intO, opt_some, opt_none, sure_ok, sure_err, sure_bad, nm_f, nm_t, sl_s, rs_s, mk_s, put_t, lcE_ok, fn_ret, fn_next, fn_err, back_ok, back_err, args_s, op2_s, op1_s, opN_s, opX_s, lkS_s, lkC_s, frS_n, frS_f, th_ok, th_err, th_bad, ap_bind, ap_pure, ap_fail, ap_name, ap_slot, ap_val, ap_sh, ap_nil, ap_cons, ap_seq, ap_ret, ap_retSlot, ap_drop, ap_asg, ap_if, ap_cst, ap_tup, ap_lst, ap_bin2, ap_op2, ap_un1, ap_callN, look_s, look_v, looks_nil, looks_cons, shs_nil, shs_cons, ap_retB, ap_bool, ap_chain, ap_truO, ap_tr, ap_andT, ap_orT, ap_notT, ap_truB, ap_keep, ap_andV, ap_orV, ap_notV, ap_ifV, ap_callM, ap_callO, ap_must, ap_sure, ap_loop0, ap_loop, ap_for, ap_nm, ap_tp, ap_nilB, ap_consB, ap_sub, ap_setO, ap_asgB, ap_par, ap_appO, ap_app, ap_ty, ap_opm, ap_meth, ap_seqI, ap_rng, ap_enum, ap_zip, ap_lc, ap_lc0, ap_lcL, ap_free, ap_wipe0, ap_wipe, ap_back0, ap_back, ap_sl, ap_part, ap_raise, ap_lam, ap_perm, ap_fnR, outs00, outs01, outs02, outs03, outs1, outs2, outs3, argsOf, refsOf, backs, diff, truD, blOf, walkD, itemsD, sqD, zipL, List.zipWith_cons_cons, List.zipWith_nil_left, List.zipWith_nil_right, List.map_cons, List.map_nil, List.length_cons, List.length_nil, List.replicate, List.cons_append, List.nil_append, List.append_nil, List.getElem?_cons_zero, List.getElem?_cons_succ, List.getElem?_nil, List.set_cons_zero, List.set_cons_succ, List.set_nil, List.all_cons, List.all_nil, List.contains_cons, List.contains_nil, Option.map_some, Option.map_none, Option.getD_some, Option.getD_none, Option.bind_some, Option.bind_none, Nat.reduceAdd, Nat.reduceSub, Nat.reduceLT, Nat.reduceLeDiff, Nat.reduceEqDiff, Nat.reduceBEq, beq_self_eq_true, Bool.and_true, Bool.true_and, Bool.and_false, Bool.false_and, Bool.or_true, Bool.true_or, Bool.or_false, Bool.false_or, Bool.not_true, Bool.not_false, if_true, if_false, and_true, true_and, and_self, ite_true, ite_false, decide_true, decide_false, Bool.false_eq_true, reduceCtorEq, Nat.zero_add, Nat.sub_self, Nat.lt_irrefl, lenZ, ltI, h1, h2, intI]
    · have h1 : decide ((k : Int) < ((ns.map D.int).length : Nat)) = false := decide_eq_false (by rw [List.length_map]; omega)
      refine ⟨6101 * k + 211, ?_⟩
      simp only [most, kVal_ap, kSh_ap, kCo_ap, kCons_ap, kSeq_n, kSeq_r, kRet_ap, kDrop_ap, kAsg_ap, kIf_t, kIf_f, kMk_ap, kBin_ap, kNot_ap, kAndV_ap, kOrV_ap, kNotV2_ap, kNotV_ap, kCh3_ap, kCh2_ap, kCh1_ap, kLoop2_n, kLoop2_r, kLoop_ap, kB_ap, kSub_ap, kNext_ap, kAB_ap, kPar2_ap, kPar_ap, kApp3_ap, kApp2_ap, kApp_ap, kMeth2_ap, kMeth_ap, kSeqI_ap, kRng_ap, kEn_ap, zp_s, kZip_ap, kLc_ap, kL3_ap, kL2_t, kL2_f, kL1_ap, kSl3_ap, kSl2_ap, kSl_ap, kErr_ap, kPm_ap, ap_op1, ap_opN, ap_intO, opt_some, opt_none, sure_ok, sure_err, sure_bad, nm_f, nm_t, sl_s, rs_s, mk_s, put_t, lcE_ok, fn_ret, fn_next, fn_err, back_ok, back_err, args_s, op2_s, op1_s, opN_s, opX_s, lkS_s, lkC_s, frS_n, frS_f, th_ok, th_err, th_bad, ap_bind, ap_pure, ap_fail, ap_name, ap_slot, ap_val, ap_sh, ap_nil, ap_cons, ap_seq, ap_ret, ap_retSlot, ap_drop, ap_asg, ap_if, ap_cst, ap_tup, ap_lst, ap_bin2, ap_op2, ap_un1, ap_callN, look_s, look_v, looks_nil, looks_cons, shs_nil, shs_cons, ap_retB, ap_bool, ap_chain, ap_truO, ap_tr, ap_andT, ap_orT, ap_notT, ap_truB, ap_keep, ap_andV, ap_orV, ap_notV, ap_ifV, ap_callM, ap_callO, ap_must, ap_sure, ap_loop0, ap_loop, ap_for, ap_nm, ap_tp, ap_nilB, ap_consB, ap_sub, ap_setO, ap_asgB, ap_par, ap_appO, ap_app, ap_ty, ap_opm, ap_meth, ap_seqI, ap_rng, ap_enum, ap_zip, ap_lc, ap_lc0, ap_lcL, ap_free, ap_wipe0, ap_wipe, ap_back0, ap_back, ap_sl, ap_part, ap_raise, ap_lam, ap_perm, ap_fnR, outs00, outs01, outs02, outs03, outs1, outs2, outs3, argsOf, refsOf, backs, diff, truD, blOf, walkD, itemsD, sqD, zipL, List.zipWith_cons_cons, List.zipWith_nil_left, List.zipWith_nil_right, List.map_cons, List.map_nil, List.length_cons, List.length_nil, List.replicate, List.cons_append, List.nil_append, List.append_nil, List.getElem?_cons_zero, List.getElem?_cons_succ, List.getElem?_nil, List.set_cons_zero, List.set_cons_succ, List.set_nil, List.all_cons, List.all_nil, List.contains_cons, List.contains_nil, Option.map_some, Option.map_none, Option.getD_some, Option.getD_none, Option.bind_some, Option.bind_none, Nat.reduceAdd, Nat.reduceSub, Nat.reduceLT, Nat.reduceLeDiff, Nat.reduceEqDiff, Nat.reduceBEq, beq_self_eq_true, Bool.and_true, Bool.true_and, Bool.and_false, Bool.false_and, Bool.or_true, Bool.true_or, Bool.or_false, Bool.false_or, Bool.not_true, Bool.not_false, if_true, if_false, and_true, true_and, and_self, ite_true, ite_false, decide_true, decide_false, Bool.false_eq_true, reduceCtorEq, Nat.zero_add, Nat.sub_self, Nat.lt_irrefl, lenZ, ltI, h1, mA, addI]
  obtain ⟨own, ho⟩ := own
  have cl : (cutD (ns.map D.int) none (some 40)).length ≤ 63 := by
    have := cut_len (ns.map D.int) none (some 40)
    rw [List.length_map] at this
    omega
  have ad := addL (cutD (ns.map D.int) none (some 40)) [.int own] (by simp only [List.length_cons, List.length_nil, most]; omega)
  obtain ⟨m', y4, hw⟩ := loop_well (cutD (ns.map D.int) none (some 40) ++ [.int own]) (510007 + 877 * k) (some (false, .frz (ns.map D.int))) (some (false, .int k)) (some (false, .int own)) none fun d hd => by
    rcases List.mem_append.mp hd with hd | hd
    · obtain ⟨i, _, rfl⟩ := List.mem_map.mp (cut_mem hd)
      exact ⟨i, rfl⟩
    · exact ⟨own, List.mem_singleton.mp hd⟩
  cases b1 : decide (own < 0) with
  | true =>
    have b1' := of_decide_eq_true b1
    refine ⟨⟨-own, m', 0, by omega⟩, ?_⟩
    have ab := abI own
    rw [if_pos b1'] at ab
    unfold m_law_well b_law_well wd
    simp only [most, kVal_ap, kSh_ap, kCo_ap, kCons_ap, kSeq_n, kSeq_r, kRet_ap, kDrop_ap, kAsg_ap, kIf_t, kIf_f, kMk_ap, kBin_ap, kNot_ap, kAndV_ap, kOrV_ap, kNotV2_ap, kNotV_ap, kCh3_ap, kCh2_ap, kCh1_ap, kLoop2_n, kLoop2_r, kLoop_ap, kB_ap, kSub_ap, kNext_ap, kAB_ap, kPar2_ap, kPar_ap, kApp3_ap, kApp2_ap, kApp_ap, kMeth2_ap, kMeth_ap, kSeqI_ap, kRng_ap, kEn_ap, zp_s, kZip_ap, kLc_ap, kL3_ap, kL2_t, kL2_f, kL1_ap, kSl3_ap, kSl2_ap, kSl_ap, kErr_ap, kPm_ap, ap_op1, ap_opN, ap_intO, opt_some, opt_none, sure_ok, sure_err, sure_bad, nm_f, nm_t, sl_s, rs_s, mk_s, put_t, lcE_ok, fn_ret, fn_next, fn_err, back_ok, back_err, args_s, op2_s, op1_s, opN_s, opX_s, lkS_s, lkC_s, frS_n, frS_f, th_ok, th_err, th_bad, ap_bind, ap_pure, ap_fail, ap_name, ap_slot, ap_val, ap_sh, ap_nil, ap_cons, ap_seq, ap_ret, ap_retSlot, ap_drop, ap_asg, ap_if, ap_cst, ap_tup, ap_lst, ap_bin2, ap_op2, ap_un1, ap_callN, look_s, look_v, looks_nil, looks_cons, shs_nil, shs_cons, ap_retB, ap_bool, ap_chain, ap_truO, ap_tr, ap_andT, ap_orT, ap_notT, ap_truB, ap_keep, ap_andV, ap_orV, ap_notV, ap_ifV, ap_callM, ap_callO, ap_must, ap_sure, ap_loop0, ap_loop, ap_for, ap_nm, ap_tp, ap_nilB, ap_consB, ap_sub, ap_setO, ap_asgB, ap_par, ap_appO, ap_app, ap_ty, ap_opm, ap_meth, ap_seqI, ap_rng, ap_enum, ap_zip, ap_lc, ap_lc0, ap_lcL, ap_free, ap_wipe0, ap_wipe, ap_back0, ap_back, ap_sl, ap_part, ap_raise, ap_lam, ap_perm, ap_fnR, outs00, outs01, outs02, outs03, outs1, outs2, outs3, argsOf, refsOf, backs, diff, truD, blOf, walkD, itemsD, sqD, zipL, List.zipWith_cons_cons, List.zipWith_nil_left, List.zipWith_nil_right, List.map_cons, List.map_nil, List.length_cons, List.length_nil, List.replicate, List.cons_append, List.nil_append, List.append_nil, List.getElem?_cons_zero, List.getElem?_cons_succ, List.getElem?_nil, List.set_cons_zero, List.set_cons_succ, List.set_nil, List.all_cons, List.all_nil, List.contains_cons, List.contains_nil, Option.map_some, Option.map_none, Option.getD_some, Option.getD_none, Option.bind_some, Option.bind_none, Nat.reduceAdd, Nat.reduceSub, Nat.reduceLT, Nat.reduceLeDiff, Nat.reduceEqDiff, Nat.reduceBEq, beq_self_eq_true, Bool.and_true, Bool.true_and, Bool.and_false, Bool.false_and, Bool.or_true, Bool.true_or, Bool.or_false, Bool.false_or, Bool.not_true, Bool.not_false, if_true, if_false, and_true, true_and, and_self, ite_true, ite_false, decide_true, decide_false, Bool.false_eq_true, reduceCtorEq, Nat.zero_add, Nat.sub_self, Nat.lt_irrefl, ↓ho, mB, addI, slZ, ap_intO, ad, ↓hw, ltI, b1, ab]
  | false =>
    have b1' := of_decide_eq_false b1
    cases b2 : decide (1000000000000000000 ≤ own) with
    | true =>
      refine ⟨⟨own, m', 0, by omega⟩, ?_⟩
      have ab := abI own
      rw [if_neg b1'] at ab
      unfold m_law_well b_law_well wd
      simp only [most, kVal_ap, kSh_ap, kCo_ap, kCons_ap, kSeq_n, kSeq_r, kRet_ap, kDrop_ap, kAsg_ap, kIf_t, kIf_f, kMk_ap, kBin_ap, kNot_ap, kAndV_ap, kOrV_ap, kNotV2_ap, kNotV_ap, kCh3_ap, kCh2_ap, kCh1_ap, kLoop2_n, kLoop2_r, kLoop_ap, kB_ap, kSub_ap, kNext_ap, kAB_ap, kPar2_ap, kPar_ap, kApp3_ap, kApp2_ap, kApp_ap, kMeth2_ap, kMeth_ap, kSeqI_ap, kRng_ap, kEn_ap, zp_s, kZip_ap, kLc_ap, kL3_ap, kL2_t, kL2_f, kL1_ap, kSl3_ap, kSl2_ap, kSl_ap, kErr_ap, kPm_ap, ap_op1, ap_opN, ap_intO, opt_some, opt_none, sure_ok, sure_err, sure_bad, nm_f, nm_t, sl_s, rs_s, mk_s, put_t, lcE_ok, fn_ret, fn_next, fn_err, back_ok, back_err, args_s, op2_s, op1_s, opN_s, opX_s, lkS_s, lkC_s, frS_n, frS_f, th_ok, th_err, th_bad, ap_bind, ap_pure, ap_fail, ap_name, ap_slot, ap_val, ap_sh, ap_nil, ap_cons, ap_seq, ap_ret, ap_retSlot, ap_drop, ap_asg, ap_if, ap_cst, ap_tup, ap_lst, ap_bin2, ap_op2, ap_un1, ap_callN, look_s, look_v, looks_nil, looks_cons, shs_nil, shs_cons, ap_retB, ap_bool, ap_chain, ap_truO, ap_tr, ap_andT, ap_orT, ap_notT, ap_truB, ap_keep, ap_andV, ap_orV, ap_notV, ap_ifV, ap_callM, ap_callO, ap_must, ap_sure, ap_loop0, ap_loop, ap_for, ap_nm, ap_tp, ap_nilB, ap_consB, ap_sub, ap_setO, ap_asgB, ap_par, ap_appO, ap_app, ap_ty, ap_opm, ap_meth, ap_seqI, ap_rng, ap_enum, ap_zip, ap_lc, ap_lc0, ap_lcL, ap_free, ap_wipe0, ap_wipe, ap_back0, ap_back, ap_sl, ap_part, ap_raise, ap_lam, ap_perm, ap_fnR, outs00, outs01, outs02, outs03, outs1, outs2, outs3, argsOf, refsOf, backs, diff, truD, blOf, walkD, itemsD, sqD, zipL, List.zipWith_cons_cons, List.zipWith_nil_left, List.zipWith_nil_right, List.map_cons, List.map_nil, List.length_cons, List.length_nil, List.replicate, List.cons_append, List.nil_append, List.append_nil, List.getElem?_cons_zero, List.getElem?_cons_succ, List.getElem?_nil, List.set_cons_zero, List.set_cons_succ, List.set_nil, List.all_cons, List.all_nil, List.contains_cons, List.contains_nil, Option.map_some, Option.map_none, Option.getD_some, Option.getD_none, Option.bind_some, Option.bind_none, Nat.reduceAdd, Nat.reduceSub, Nat.reduceLT, Nat.reduceLeDiff, Nat.reduceEqDiff, Nat.reduceBEq, beq_self_eq_true, Bool.and_true, Bool.true_and, Bool.and_false, Bool.false_and, Bool.or_true, Bool.true_or, Bool.or_false, Bool.false_or, Bool.not_true, Bool.not_false, if_true, if_false, and_true, true_and, and_self, ite_true, ite_false, decide_true, decide_false, Bool.false_eq_true, reduceCtorEq, Nat.zero_add, Nat.sub_self, Nat.lt_irrefl, ↓ho, mB, addI, slZ, ap_intO, ad, ↓hw, ltI, b1, pow18, geI, b2, ab]
    | false =>
      refine ⟨⟨0, m', 0, Int.le_refl 0⟩, ?_⟩
      unfold m_law_well b_law_well wd
      simp only [most, kVal_ap, kSh_ap, kCo_ap, kCons_ap, kSeq_n, kSeq_r, kRet_ap, kDrop_ap, kAsg_ap, kIf_t, kIf_f, kMk_ap, kBin_ap, kNot_ap, kAndV_ap, kOrV_ap, kNotV2_ap, kNotV_ap, kCh3_ap, kCh2_ap, kCh1_ap, kLoop2_n, kLoop2_r, kLoop_ap, kB_ap, kSub_ap, kNext_ap, kAB_ap, kPar2_ap, kPar_ap, kApp3_ap, kApp2_ap, kApp_ap, kMeth2_ap, kMeth_ap, kSeqI_ap, kRng_ap, kEn_ap, zp_s, kZip_ap, kLc_ap, kL3_ap, kL2_t, kL2_f, kL1_ap, kSl3_ap, kSl2_ap, kSl_ap, kErr_ap, kPm_ap, ap_op1, ap_opN, ap_intO, opt_some, opt_none, sure_ok, sure_err, sure_bad, nm_f, nm_t, sl_s, rs_s, mk_s, put_t, lcE_ok, fn_ret, fn_next, fn_err, back_ok, back_err, args_s, op2_s, op1_s, opN_s, opX_s, lkS_s, lkC_s, frS_n, frS_f, th_ok, th_err, th_bad, ap_bind, ap_pure, ap_fail, ap_name, ap_slot, ap_val, ap_sh, ap_nil, ap_cons, ap_seq, ap_ret, ap_retSlot, ap_drop, ap_asg, ap_if, ap_cst, ap_tup, ap_lst, ap_bin2, ap_op2, ap_un1, ap_callN, look_s, look_v, looks_nil, looks_cons, shs_nil, shs_cons, ap_retB, ap_bool, ap_chain, ap_truO, ap_tr, ap_andT, ap_orT, ap_notT, ap_truB, ap_keep, ap_andV, ap_orV, ap_notV, ap_ifV, ap_callM, ap_callO, ap_must, ap_sure, ap_loop0, ap_loop, ap_for, ap_nm, ap_tp, ap_nilB, ap_consB, ap_sub, ap_setO, ap_asgB, ap_par, ap_appO, ap_app, ap_ty, ap_opm, ap_meth, ap_seqI, ap_rng, ap_enum, ap_zip, ap_lc, ap_lc0, ap_lcL, ap_free, ap_wipe0, ap_wipe, ap_back0, ap_back, ap_sl, ap_part, ap_raise, ap_lam, ap_perm, ap_fnR, outs00, outs01, outs02, outs03, outs1, outs2, outs3, argsOf, refsOf, backs, diff, truD, blOf, walkD, itemsD, sqD, zipL, List.zipWith_cons_cons, List.zipWith_nil_left, List.zipWith_nil_right, List.map_cons, List.map_nil, List.length_cons, List.length_nil, List.replicate, List.cons_append, List.nil_append, List.append_nil, List.getElem?_cons_zero, List.getElem?_cons_succ, List.getElem?_nil, List.set_cons_zero, List.set_cons_succ, List.set_nil, List.all_cons, List.all_nil, List.contains_cons, List.contains_nil, Option.map_some, Option.map_none, Option.getD_some, Option.getD_none, Option.bind_some, Option.bind_none, Nat.reduceAdd, Nat.reduceSub, Nat.reduceLT, Nat.reduceLeDiff, Nat.reduceEqDiff, Nat.reduceBEq, beq_self_eq_true, Bool.and_true, Bool.true_and, Bool.and_false, Bool.false_and, Bool.or_true, Bool.true_or, Bool.or_false, Bool.false_or, Bool.not_true, Bool.not_false, if_true, if_false, and_true, true_and, and_self, ite_true, ite_false, decide_true, decide_false, Bool.false_eq_true, reduceCtorEq, Nat.zero_add, Nat.sub_self, Nat.lt_irrefl, ↓ho, mB, addI, slZ, ap_intO, ad, ↓hw, ltI, b1, pow18, geI, b2]
theorem own_ok {m : List B → R B} {x y : D} {e' : Ev} (h : m [(true, x)] = .ok (false, y) e') (me : M B) {e e1 : Ev} (hm : me e = .ok (true, x) e1) : callOwnM m me e = .ok (false, y) e1 := by
  unfold callOwnM
  rw [bind_ok hm]
  show (match m [(true, x)] with | .ok y _ => _ | .err _ _ _ => _ | .bad => _) = _
  rw [h]
  rfl
theorem rng2 : rg (some [.int 2]) = some [.int 0, .int 1] := by kernel_rfl
theorem all2 : allD [.lst [.bl true, .bl true]] = some (false, .bl true) := by kernel_rfl
theorem e_law {ns : List Int} (hl : ns.length ≤ 63) : m_law [(false, .frz (ns.map D.int))] = .ok (false, .bl true) [none] := by
  obtain ⟨w0, h0⟩ := e_well hl (k := 0) (.inl rfl)
  obtain ⟨w1, h1⟩ := e_well hl (k := 1) (.inr rfl)
  have h0' : m_law_well [(false, .frz (ns.map D.int)), (false, .int 0)] = .ok (true, wd w0) [none, none] := h0
  have h1' : m_law_well [(false, .frz (ns.map D.int)), (false, .int 1)] = .ok (true, wd w1) [none, none] := h1
  obtain ⟨v0, g0⟩ := e_right w0
  obtain ⟨v1, g1⟩ := e_right w1
  have c0 := own_ok g0 (callM m_law_well [] 2 (consM (valM (nameM 0)) (consM (valM (nameM 1)) (nilM)))) (e := [some (false, .frz (ns.map D.int)), some (false, .int 0)]) (e1 := [some (false, .frz (ns.map D.int)), some (false, .int 0)]) (by simp only [most, kVal_ap, kSh_ap, kCo_ap, kCons_ap, kSeq_n, kSeq_r, kRet_ap, kDrop_ap, kAsg_ap, kIf_t, kIf_f, kMk_ap, kBin_ap, kNot_ap, kAndV_ap, kOrV_ap, kNotV2_ap, kNotV_ap, kCh3_ap, kCh2_ap, kCh1_ap, kLoop2_n, kLoop2_r, kLoop_ap, kB_ap, kSub_ap, kNext_ap, kAB_ap, kPar2_ap, kPar_ap, kApp3_ap, kApp2_ap, kApp_ap, kMeth2_ap, kMeth_ap, kSeqI_ap, kRng_ap, kEn_ap, zp_s, kZip_ap, kLc_ap, kL3_ap, kL2_t, kL2_f, kL1_ap, kSl3_ap, kSl2_ap, kSl_ap, kErr_ap, kPm_ap, ap_op1, ap_opN, ap_intO, opt_some, opt_none, sure_ok, sure_err, sure_bad, nm_f, nm_t, sl_s, rs_s, mk_s, put_t, lcE_ok, fn_ret, fn_next, fn_err, back_ok, back_err, args_s, op2_s, op1_s, opN_s, opX_s, lkS_s, lkC_s, frS_n, frS_f, th_ok, th_err, th_bad, ap_bind, ap_pure, ap_fail, ap_name, ap_slot, ap_val, ap_sh, ap_nil, ap_cons, ap_seq, ap_ret, ap_retSlot, ap_drop, ap_asg, ap_if, ap_cst, ap_tup, ap_lst, ap_bin2, ap_op2, ap_un1, ap_callN, look_s, look_v, looks_nil, looks_cons, shs_nil, shs_cons, ap_retB, ap_bool, ap_chain, ap_truO, ap_tr, ap_andT, ap_orT, ap_notT, ap_truB, ap_keep, ap_andV, ap_orV, ap_notV, ap_ifV, ap_callM, ap_callO, ap_must, ap_sure, ap_loop0, ap_loop, ap_for, ap_nm, ap_tp, ap_nilB, ap_consB, ap_sub, ap_setO, ap_asgB, ap_par, ap_appO, ap_app, ap_ty, ap_opm, ap_meth, ap_seqI, ap_rng, ap_enum, ap_zip, ap_lc, ap_lc0, ap_lcL, ap_free, ap_wipe0, ap_wipe, ap_back0, ap_back, ap_sl, ap_part, ap_raise, ap_lam, ap_perm, ap_fnR, outs00, outs01, outs02, outs03, outs1, outs2, outs3, argsOf, refsOf, backs, diff, truD, blOf, walkD, itemsD, sqD, zipL, List.zipWith_cons_cons, List.zipWith_nil_left, List.zipWith_nil_right, List.map_cons, List.map_nil, List.length_cons, List.length_nil, List.replicate, List.cons_append, List.nil_append, List.append_nil, List.getElem?_cons_zero, List.getElem?_cons_succ, List.getElem?_nil, List.set_cons_zero, List.set_cons_succ, List.set_nil, List.all_cons, List.all_nil, List.contains_cons, List.contains_nil, Option.map_some, Option.map_none, Option.getD_some, Option.getD_none, Option.bind_some, Option.bind_none, Nat.reduceAdd, Nat.reduceSub, Nat.reduceLT, Nat.reduceLeDiff, Nat.reduceEqDiff, Nat.reduceBEq, beq_self_eq_true, Bool.and_true, Bool.true_and, Bool.and_false, Bool.false_and, Bool.or_true, Bool.true_or, Bool.or_false, Bool.false_or, Bool.not_true, Bool.not_false, if_true, if_false, and_true, true_and, and_self, ite_true, ite_false, decide_true, decide_false, Bool.false_eq_true, reduceCtorEq, Nat.zero_add, Nat.sub_self, Nat.lt_irrefl, h0'])
  have c1 := own_ok g1 (callM m_law_well [] 2 (consM (valM (nameM 0)) (consM (valM (nameM 1)) (nilM)))) (e := [some (false, .frz (ns.map D.int)), some (false, .int 1)]) (e1 := [some (false, .frz (ns.map D.int)), some (false, .int 1)]) (by simp only [most, kVal_ap, kSh_ap, kCo_ap, kCons_ap, kSeq_n, kSeq_r, kRet_ap, kDrop_ap, kAsg_ap, kIf_t, kIf_f, kMk_ap, kBin_ap, kNot_ap, kAndV_ap, kOrV_ap, kNotV2_ap, kNotV_ap, kCh3_ap, kCh2_ap, kCh1_ap, kLoop2_n, kLoop2_r, kLoop_ap, kB_ap, kSub_ap, kNext_ap, kAB_ap, kPar2_ap, kPar_ap, kApp3_ap, kApp2_ap, kApp_ap, kMeth2_ap, kMeth_ap, kSeqI_ap, kRng_ap, kEn_ap, zp_s, kZip_ap, kLc_ap, kL3_ap, kL2_t, kL2_f, kL1_ap, kSl3_ap, kSl2_ap, kSl_ap, kErr_ap, kPm_ap, ap_op1, ap_opN, ap_intO, opt_some, opt_none, sure_ok, sure_err, sure_bad, nm_f, nm_t, sl_s, rs_s, mk_s, put_t, lcE_ok, fn_ret, fn_next, fn_err, back_ok, back_err, args_s, op2_s, op1_s, opN_s, opX_s, lkS_s, lkC_s, frS_n, frS_f, th_ok, th_err, th_bad, ap_bind, ap_pure, ap_fail, ap_name, ap_slot, ap_val, ap_sh, ap_nil, ap_cons, ap_seq, ap_ret, ap_retSlot, ap_drop, ap_asg, ap_if, ap_cst, ap_tup, ap_lst, ap_bin2, ap_op2, ap_un1, ap_callN, look_s, look_v, looks_nil, looks_cons, shs_nil, shs_cons, ap_retB, ap_bool, ap_chain, ap_truO, ap_tr, ap_andT, ap_orT, ap_notT, ap_truB, ap_keep, ap_andV, ap_orV, ap_notV, ap_ifV, ap_callM, ap_callO, ap_must, ap_sure, ap_loop0, ap_loop, ap_for, ap_nm, ap_tp, ap_nilB, ap_consB, ap_sub, ap_setO, ap_asgB, ap_par, ap_appO, ap_app, ap_ty, ap_opm, ap_meth, ap_seqI, ap_rng, ap_enum, ap_zip, ap_lc, ap_lc0, ap_lcL, ap_free, ap_wipe0, ap_wipe, ap_back0, ap_back, ap_sl, ap_part, ap_raise, ap_lam, ap_perm, ap_fnR, outs00, outs01, outs02, outs03, outs1, outs2, outs3, argsOf, refsOf, backs, diff, truD, blOf, walkD, itemsD, sqD, zipL, List.zipWith_cons_cons, List.zipWith_nil_left, List.zipWith_nil_right, List.map_cons, List.map_nil, List.length_cons, List.length_nil, List.replicate, List.cons_append, List.nil_append, List.append_nil, List.getElem?_cons_zero, List.getElem?_cons_succ, List.getElem?_nil, List.set_cons_zero, List.set_cons_succ, List.set_nil, List.all_cons, List.all_nil, List.contains_cons, List.contains_nil, Option.map_some, Option.map_none, Option.getD_some, Option.getD_none, Option.bind_some, Option.bind_none, Nat.reduceAdd, Nat.reduceSub, Nat.reduceLT, Nat.reduceLeDiff, Nat.reduceEqDiff, Nat.reduceBEq, beq_self_eq_true, Bool.and_true, Bool.true_and, Bool.and_false, Bool.false_and, Bool.or_true, Bool.true_or, Bool.or_false, Bool.false_or, Bool.not_true, Bool.not_false, if_true, if_false, and_true, true_and, and_self, ite_true, ite_false, decide_true, decide_false, Bool.false_eq_true, reduceCtorEq, Nat.zero_add, Nat.sub_self, Nat.lt_irrefl, h1'])
  unfold m_law b_law
  simp only [most, kVal_ap, kSh_ap, kCo_ap, kCons_ap, kSeq_n, kSeq_r, kRet_ap, kDrop_ap, kAsg_ap, kIf_t, kIf_f, kMk_ap, kBin_ap, kNot_ap, kAndV_ap, kOrV_ap, kNotV2_ap, kNotV_ap, kCh3_ap, kCh2_ap, kCh1_ap, kLoop2_n, kLoop2_r, kLoop_ap, kB_ap, kSub_ap, kNext_ap, kAB_ap, kPar2_ap, kPar_ap, kApp3_ap, kApp2_ap, kApp_ap, kMeth2_ap, kMeth_ap, kSeqI_ap, kRng_ap, kEn_ap, zp_s, kZip_ap, kLc_ap, kL3_ap, kL2_t, kL2_f, kL1_ap, kSl3_ap, kSl2_ap, kSl_ap, kErr_ap, kPm_ap, ap_op1, ap_opN, ap_intO, opt_some, opt_none, sure_ok, sure_err, sure_bad, nm_f, nm_t, sl_s, rs_s, mk_s, put_t, lcE_ok, fn_ret, fn_next, fn_err, back_ok, back_err, args_s, op2_s, op1_s, opN_s, opX_s, lkS_s, lkC_s, frS_n, frS_f, th_ok, th_err, th_bad, ap_bind, ap_pure, ap_fail, ap_name, ap_slot, ap_val, ap_sh, ap_nil, ap_cons, ap_seq, ap_ret, ap_retSlot, ap_drop, ap_asg, ap_if, ap_cst, ap_tup, ap_lst, ap_bin2, ap_op2, ap_un1, ap_callN, look_s, look_v, looks_nil, looks_cons, shs_nil, shs_cons, ap_retB, ap_bool, ap_chain, ap_truO, ap_tr, ap_andT, ap_orT, ap_notT, ap_truB, ap_keep, ap_andV, ap_orV, ap_notV, ap_ifV, ap_callM, ap_callO, ap_must, ap_sure, ap_loop0, ap_loop, ap_for, ap_nm, ap_tp, ap_nilB, ap_consB, ap_sub, ap_setO, ap_asgB, ap_par, ap_appO, ap_app, ap_ty, ap_opm, ap_meth, ap_seqI, ap_rng, ap_enum, ap_zip, ap_lc, ap_lc0, ap_lcL, ap_free, ap_wipe0, ap_wipe, ap_back0, ap_back, ap_sl, ap_part, ap_raise, ap_lam, ap_perm, ap_fnR, outs00, outs01, outs02, outs03, outs1, outs2, outs3, argsOf, refsOf, backs, diff, truD, blOf, walkD, itemsD, sqD, zipL, List.zipWith_cons_cons, List.zipWith_nil_left, List.zipWith_nil_right, List.map_cons, List.map_nil, List.length_cons, List.length_nil, List.replicate, List.cons_append, List.nil_append, List.append_nil, List.getElem?_cons_zero, List.getElem?_cons_succ, List.getElem?_nil, List.set_cons_zero, List.set_cons_succ, List.set_nil, List.all_cons, List.all_nil, List.contains_cons, List.contains_nil, Option.map_some, Option.map_none, Option.getD_some, Option.getD_none, Option.bind_some, Option.bind_none, Nat.reduceAdd, Nat.reduceSub, Nat.reduceLT, Nat.reduceLeDiff, Nat.reduceEqDiff, Nat.reduceBEq, beq_self_eq_true, Bool.and_true, Bool.true_and, Bool.and_false, Bool.false_and, Bool.or_true, Bool.true_or, Bool.or_false, Bool.false_or, Bool.not_true, Bool.not_false, if_true, if_false, and_true, true_and, and_self, ite_true, ite_false, decide_true, decide_false, Bool.false_eq_true, reduceCtorEq, Nat.zero_add, Nat.sub_self, Nat.lt_irrefl, rng2, c0, c1, all2]
end TT

set_option maxRecDepth 100000
set_option maxHeartbeats 4000000
/-! KX: what the top has written. Printed by mkKX.py. -/
namespace TT
open PySem PySem.Spec PyProof.Rows L2
theorem Def.mono {P : Program} {w : World} {T : Tb} {mg : Str → Option Value} {base : Heap} {j k : Nat} {x : Str} {ps : List Str} {rp : List Nat} {m : List B → R B} (h : Def P w T mg base j x ps rp m) (hk : j ≤ k) : Def P w T mg base k x ps rp m := by
  obtain ⟨f, fd, F, h1, h2, h3⟩ := h.ex
  exact ⟨f, fd, F.mono hk, h1, h2, h3⟩
def clOf (C0 C1 : Addr) (c : Str) : Option Addr := if c = "InvalidProfile" then some C0 else if c = "InvalidRule" then some C1 else none
/-- the tables of this law -/
def tbOf (K : PySem.W.Frag) (C0 C1 pR : Addr) (osm : Obj) : Tb where
  K := K
  cl := clOf C0 C1
  op := fun n F a vs => if n < 100 then opX (clOf C0 C1) excs n F a vs else if n < 1000 then ∃ L, lams[n - 100]? = some L ∧ CloAt L F a vs else False
  mono := fun n F F' a vs m h => by
    by_cases h1 : n < 100
    · rw [if_pos h1] at h ⊢
      exact opX_mono m h
    · rw [if_neg h1] at h ⊢
      by_cases h2 : n < 1000
      · rw [if_pos h2] at h ⊢
        obtain ⟨L, e, q⟩ := h
        exact ⟨L, e, q.mono m⟩
      · rw [if_neg h2] at h
        exact h.elim
  tabs := [(pR, ("_law_refused_right.<locals>.<lambda>" : Str))]
  sm := osm
theorem clOf_0 {C0 C1 : Addr} : clOf C0 C1 "InvalidProfile" = some C0 := if_pos rfl
theorem clOf_1 {C0 C1 : Addr} : clOf C0 C1 "InvalidRule" = some C1 := (if_neg (by decide +kernel)).trans (if_pos rfl)
theorem hasX_of {K : PySem.W.Frag} {C0 C1 pR : Addr} {osm : Obj} : HasX (tbOf K C0 C1 pR osm) excs := fun n F a vs h => by
  show (if n < 100 then _ else _) ↔ _
  rw [if_pos h]
  exact Iff.rfl
theorem hasC_of {K : PySem.W.Frag} {C0 C1 pR : Addr} {osm : Obj} : HasC (tbOf K C0 C1 pR osm) lams := fun n F a vs h1 h2 => by
  show (if n < 100 then _ else if n < 1000 then _ else False) ↔ _
  rw [if_neg (by omega), if_pos h2]
theorem ex_cases {K : PySem.W.Frag} {C0 C1 pR : Addr} {osm : Obj} {n : Nat} {c : Str} {C : Addr} (h1 : excs[n]? = some c) (h2 : (tbOf K C0 C1 pR osm).cl c = some C) : (n = 0 ∧ C = C0) ∨ (n = 1 ∧ C = C1) := by
  match n, h1 with
  | 0, h1 =>
    cases h1
    exact .inl ⟨rfl, Option.some.inj (h2.symm.trans (clOf_0 (C0 := C0) (C1 := C1)))⟩
  | 1, h1 =>
    cases h1
    exact .inr ⟨rfl, Option.some.inj (h2.symm.trans (clOf_1 (C0 := C0) (C1 := C1)))⟩
theorem kt_of {K : PySem.W.Frag} {C0 C1 pR : Addr} {osm : Obj} {tb : Nat → Option Bool} {v : Value} {b0 b1 : Bool} (t0 : tb 0 = some b0) (t1 : tb 1 = some b1) (h0 : PySem.W.kitOne K (.ref C0) v = some b0) (h1 : PySem.W.kitOne K (.ref C1) v = some b1) (e0 : ExcK K C0) (e1 : ExcK K C1) :
    ∀ (n : Nat) (b : Bool) (c : Str) (C : Addr), tb n = some b → excs[n]? = some c → (tbOf K C0 C1 pR osm).cl c = some C → PySem.W.kitOne K (.ref C) v = some b ∧ ExcK K C := by
  intro n b c C hb hn hc
  rcases ex_cases hn hc with ⟨rfl, rfl⟩ | ⟨rfl, rfl⟩
  · rw [t0] at hb; cases hb; exact ⟨h0, e0⟩
  · rw [t1] at hb; cases hb; exact ⟨h1, e1⟩
theorem lam_at2 {j : Nat} {L : LamD} (h : lams[j]? = some L) : (j = 0 ∧ L = lam0) ∨ (j = 1 ∧ L = lam1) := by
  match j, h with
  | 0, h => cases h; exact .inl ⟨rfl, rfl⟩
  | 1, h => cases h; exact .inr ⟨rfl, rfl⟩
theorem vals_get : ∀ {vs : List V} {us : List Value} (i : Nat), Vals vs us → (vs[i]? = none ∧ us[i]? = none) ∨ ∃ v u, vs[i]? = some v ∧ us[i]? = some u ∧ RelV v u
  | _, _, i, .nil => .inl ⟨by simp, by simp⟩
  | _, _, 0, .cons h r => .inr ⟨_, _, rfl, rfl, h⟩
  | _, _, i + 1, .cons h r => by
    rcases vals_get i r with z | ⟨v, o, h1, h2, h3⟩
    · exact .inl (by simpa using z)
    · exact .inr ⟨v, o, by simpa using h1, by simpa using h2, h3⟩
theorem vals_perm {vs : List V} {us : List Value} (r : Vals vs us) : ∀ pm : List Nat, Vals (permL pm vs) (permL pm us)
  | [] => .nil
  | i :: pm => by
    unfold permL
    rcases vals_get i r with ⟨h1, h2⟩ | ⟨v, o, h1, h2, h3⟩
    · rw [List.filterMap_cons_none h1, List.filterMap_cons_none h2]
      exact vals_perm r pm
    · rw [List.filterMap_cons_some h1, List.filterMap_cons_some h2]
      exact .cons h3 (vals_perm r pm)
theorem kw0_rel {pm : List Nat} {vs : List V} {us : List Value} {zs : List V} {ws : List Value} (r : Vals vs us) (q : Vals zs ws) : Vals (kw0 pm vs zs) (kw0 pm us ws) := by
  cases r with
  | nil => exact vals_perm q pm
  | cons h r => exact .nil
theorem reps_ints {T : Tb} {F : Hp} : ∀ ns : List Int, Reps T F (ns.map V.int) (ns.map D.int)
  | [] => .nil
  | n :: ns => .cons (.int n) (reps_ints ns)
theorem law_start {K : PySem.W.Frag} {C0 C1 cR pR a : Addr} {osm : Obj} {ns : List Int} {H : Hp} (hl : ns.length ≤ 63) (S : Start K [(cR, pR)] osm a ns H) (np : K.lookup pR = none) : spM (tbOf K C0 C1 pR osm) [] 1 m_law [.ref a] H (fun v _ => v = .bl true) fun _ _ _ => False := by
  have hP := S.tabs (cR, pR) (List.mem_singleton.mpr rfl)
  have nS : sysModules ≠ pR := fun z => by
    have := S.sm
    rw [z, hP] at this
    cases this
  have get : ∀ {b : Addr} {o : HO}, H b = some o → (∀ ps, o ≠ .tbl ps) → (fun b => if b = pR then none else H b : Hp) b = some o := fun {b o} e n => by
    have nb : b ≠ pR := fun z => by
      rw [z, hP] at e
      cases e
      exact n _ rfl
    exact (if_neg nb).trans e
  have sq : SqL K (fun b => if b = pR then none else H b : Hp) a (ns.map V.int) := by
    rcases S.seq with (h | ⟨o, h⟩) | h
    · exact .inl (.inl (get h fun ps e => by cases e))
    · exact .inl (.inr ⟨o, get h fun ps e => by cases e⟩)
    · exact .inr h
  refine ⟨rfl, (fun b => if b = pR then none else H b), [(false, .frz (ns.map D.int))], ⟨fun b o e => ?_, rfl, fun i x e => ?_, fun i j d d' v e1 _ _ _ => ?_, get S.sm (fun ps e => by unfold smT at e; cases e), fun p hp => ?_⟩, fun i x e h => ?_, ?_⟩
  · by_cases hb : b = pR
    · rw [if_pos hb] at e; cases e
    · rw [if_neg hb] at e; exact e
  · match i, e with
    | 0, e => cases e; exact ⟨.ref a, rfl, Rep.frz sq (reps_ints ns)⟩
  · match i, e1 with
    | 0, e1 => cases e1
  · rw [List.mem_singleton.mp hp]
    exact ⟨#[], hP, if_pos rfl, trivial, fun pos cv h => by cases h⟩
  · match i, e with
    | 0, e => cases e; cases h
  · rw [e_law hl]
    intro v F' H' st r _
    cases (show Rep _ F' v (.bl true) from r)
    rfl
section
variable {P : Program} {w : World} {T : Tb} {mg : Str → Option Value} {base : Heap} {C0 C1 B0 B1 B2 cR pR : Addr}
theorem t_winners_fn (tx : Txt P T mg base C0 C1 B0 B1 B2 cR pR) (d_check_profile : Def P w T mg base 4 "check_profile" ["value"] [] m_check_profile) (d_check_rule : Def P w T mg base 3 "check_rule" ["value"] [] m_check_rule) (d_won_by : Def P w T mg base 3 "won_by" ["profile", "rule"] [] m_won_by)  {f : Addr} {fd : FuncData} (Fn : Fun T.K "winners" "winners" s_winners f fd) (hm : mg "winners" = some (.ref f)) : FnG P w T.K mg base 5 f fd ["profile", "rule"] (spM T [] 2 m_winners) := by
  have sc := sc_winners
  refine fnD Fn sc rfl fun cdv A outer s H E hr => ?_
  show PSs _ _ (tS T _ [] b_winners)
  exact (pss_consM (ps_exprM (pe_callX (ps := ["value"]) d_check_profile rfl hr (by decide) tkD (pa_consM (pe_valM (pe_nameM (pv 0))) pa_nilM)))
  (pss_consM (ps_exprM (pe_callX (ps := ["value"]) d_check_rule rfl hr (by decide) tkD (pa_consM (pe_valM (pe_nameM (pv 1))) pa_nilM)))
  (pss_oneM (ps_retM (pe_joinM rfl (pe_valM pe_strM) (pa_consM (pe_valM (pe_shM (pe_callX (ps := ["profile", "rule"]) d_won_by rfl hr (by decide) tkD (pa_consM (pe_valM (pe_nameM (pv 0))) (pa_consM (pe_valM (pe_nameM (pv 1))) pa_nilM))))) pa_nilM))))))
theorem t_law_fn (tx : Txt P T mg base C0 C1 B0 B1 B2 cR pR) (d_law_well : Def P w T mg base 1 "_law_well" ["script", "k"] [] m_law_well) (d_law_right : Def P w T mg base 10 "_law_right" ["well"] [0] m_law_right)  {f : Addr} {fd : FuncData} (Fn : Fun T.K "law" "law" s_law f fd) (hm : mg "law" = some (.ref f)) : FnG P w T.K mg base 11 f fd ["script"] (spM T [] 1 m_law) := by
  have sc := sc_law
  refine fnD Fn sc rfl fun cdv A outer s H E hr => ?_
  show PSs _ _ (tS T _ [] b_law)
  exact (pss_oneM (ps_retM (pe_xallM rfl rfl tx.n_all (pa_consM (pe_valM (pe_lcM (W0 := WF) (own := [("k", 1)]) rfl sc.nd (pi_rng1M rfl tx.n_range (pe_valM pe_intM)) (blkOk_by (N := ["script", "k"]) (sc := defScope s_law) (own := [("k", 1)]) (by decide +kernel)) (fun _ _ _ _ _ => (pg_nmW sc.nd rfl (Or.inl rfl))) (fun _ _ _ _ _ => pts_nilM) (fun _ _ _ _ _ => (pe_callOwnX (ps := ["well"]) d_law_right rfl rfl hr (by decide) tkF (pe_callX (ps := ["script", "k"]) d_law_well rfl hr (by decide) tkF (pa_consM (pe_valM (pe_nameM (pv 0))) (pa_consM (pe_valM (pe_nameM (pv 1))) pa_nilM))))))) pa_nilM))))
end
theorem all_mk {l : PySem.W.OpenLaw} (hlp : l.prog = PySem.Challenge.pw_toldtallies_k75_whole_winners_by_rules) {w : World} {K : PySem.W.Frag} {h : Heap} {mg : Str → Option Value} {fa : Addr} {f0 f1 f2 f3 f4 f5 f6 f7 f8 f9 f10 f11 f12 f13 f14 f15 f16 f17 f18 f19 f20 f21 f22 f23 f24 f25 f26 f27 a_ORDERS_ a_NAMES_ a_RULES_ C0 C1 B0 B1 B2 cR pR fI0 cda0 cc0 fI1 cda1 cc1 : Addr} {od0 an0 od1 an1 od2 an2 od3 an3 od4 an4 od5 an5 od6 an6 od7 an7 od8 an8 od9 an9 od10 an10 od11 an11 od12 an12 od13 an13 od14 an14 od15 an15 od16 an16 od17 an17 od18 an18 od19 an19 od20 an20 od21 an21 od22 an22 od23 an23 od24 an24 od25 an25 od26 an26 od27 an27 od_ORDERS od_NAMES od_RULES ei0 ni0 cdd0 cld0 ei1 ni1 cdd1 cld1 : Option Addr} {oc0 kV0 dc0 pm0 cd0 ct0 oc1 kV1 dc1 pm1 cd1 ct1 oc2 kV2 dc2 pm2 cd2 ct2 oc3 kV3 dc3 pm3 cd3 ct3 oc4 kV4 dc4 pm4 cd4 ct4 oc5 kV5 dc5 pm5 cd5 ct5 oc6 kV6 dc6 pm6 cd6 ct6 oc7 kV7 dc7 pm7 cd7 ct7 oc8 kV8 dc8 pm8 cd8 ct8 oc9 kV9 dc9 pm9 cd9 ct9 oc10 kV10 dc10 pm10 cd10 ct10 oc11 kV11 dc11 pm11 cd11 ct11 oc12 kV12 dc12 pm12 cd12 ct12 oc13 kV13 dc13 pm13 cd13 ct13 oc14 kV14 dc14 pm14 cd14 ct14 oc15 kV15 dc15 pm15 cd15 ct15 oc16 kV16 dc16 pm16 cd16 ct16 oc17 kV17 dc17 pm17 cd17 ct17 oc18 kV18 dc18 pm18 cd18 ct18 oc19 kV19 dc19 pm19 cd19 ct19 oc20 kV20 dc20 pm20 cd20 ct20 oc21 kV21 dc21 pm21 cd21 ct21 oc22 kV22 dc22 pm22 cd22 ct22 oc23 kV23 dc23 pm23 cd23 ct23 oc24 kV24 dc24 pm24 cd24 ct24 oc25 kV25 dc25 pm25  ct25 oc26 kV26 dc26 pm26 cd26 ct26 oc27 kV27 dc27 pm27 cd27 ct27 oi0 di0 mi0 ci0 ccl0 cl0 oi1 di1 mi1 ci1 ccl1 cl1 : Value} {sl0 sl1 sl2 sl3 sl4 sl5 sl6 sl7 sl8 sl9 sl10 sl11 sl12 sl13 sl14 sl15 sl16 sl17 sl18 sl19 sl20 sl21 sl22 sl23 sl24 sl25 sl26 sl27 sl_ORDERS sl_NAMES sl_RULES si0 ccs0 csl0 si1 ccs1 csl1 : Array (Option Value)} {t_MOST_VOTERS t0_ORDERS t1_ORDERS t2_ORDERS t3_ORDERS t4_ORDERS t5_ORDERS t0_NAMES t1_NAMES t2_NAMES t0_RULES t1_RULES t2_RULES t3_RULES tf0 tf1 : Tok} {n_ORDERS n_NAMES n_RULES : Nat} {vs0 vs1 : Array Value} {file0 file1 : Str} {p1_0 p2_0 q0_0 q1_0 q2_0 q3_0 q4_0 q5_0 q6_0 q7_0 q8_0 q9_0 p1_1 p2_1 q0_1 q1_1 q2_1 q3_1 q4_1 q5_1 q6_1 q7_1 q8_1 q9_1 : Pos} (X : K.In h) (G : h.Ns mainGlobals mg) (hfa : mg "law" = some (.ref fa)) (hT : h.get? pR = some { cls := .none, data := .fields #[] })
    (a_is_integer : PySem.W.nsIn K mainGlobals "is_integer" = some (some (.ref f0)))
    (l_is_integer : K.lookup f0 = some ⟨oc0, od0, .func (PySem.W.fnOf "is_integer" "is_integer" (defArgs s_is_integer) (defBody s_is_integer) (defScope s_is_integer) .none kV0 dc0 pm0 an0 cd0 ct0), sl0⟩)
    (c_is_integer : PySem.W.codeIn K cd0 "is_integer" = true)
    (k_is_integer : PySem.W.keepIn K (.ref f0) = true)
    (a_is_natural : PySem.W.nsIn K mainGlobals "is_natural" = some (some (.ref f1)))
    (l_is_natural : K.lookup f1 = some ⟨oc1, od1, .func (PySem.W.fnOf "is_natural" "is_natural" (defArgs s_is_natural) (defBody s_is_natural) (defScope s_is_natural) .none kV1 dc1 pm1 an1 cd1 ct1), sl1⟩)
    (c_is_natural : PySem.W.codeIn K cd1 "is_natural" = true)
    (k_is_natural : PySem.W.keepIn K (.ref f1) = true)
    (a_is_tuple_of : PySem.W.nsIn K mainGlobals "is_tuple_of" = some (some (.ref f2)))
    (l_is_tuple_of : K.lookup f2 = some ⟨oc2, od2, .func (PySem.W.fnOf "is_tuple_of" "is_tuple_of" (defArgs s_is_tuple_of) (defBody s_is_tuple_of) (defScope s_is_tuple_of) .none kV2 dc2 pm2 an2 cd2 ct2), sl2⟩)
    (c_is_tuple_of : PySem.W.codeIn K cd2 "is_tuple_of" = true)
    (k_is_tuple_of : PySem.W.keepIn K (.ref f2) = true)
    (a_are_naturals : PySem.W.nsIn K mainGlobals "are_naturals" = some (some (.ref f3)))
    (l_are_naturals : K.lookup f3 = some ⟨oc3, od3, .func (PySem.W.fnOf "are_naturals" "are_naturals" (defArgs s_are_naturals) (defBody s_are_naturals) (defScope s_are_naturals) .none kV3 dc3 pm3 an3 cd3 ct3), sl3⟩)
    (c_are_naturals : PySem.W.codeIn K cd3 "are_naturals" = true)
    (k_are_naturals : PySem.W.keepIn K (.ref f3) = true)
    (a_check_profile : PySem.W.nsIn K mainGlobals "check_profile" = some (some (.ref f4)))
    (l_check_profile : K.lookup f4 = some ⟨oc4, od4, .func (PySem.W.fnOf "check_profile" "check_profile" (defArgs s_check_profile) (defBody s_check_profile) (defScope s_check_profile) .none kV4 dc4 pm4 an4 cd4 ct4), sl4⟩)
    (c_check_profile : PySem.W.codeIn K cd4 "check_profile" = true)
    (k_check_profile : PySem.W.keepIn K (.ref f4) = true)
    (a_pairs_of : PySem.W.nsIn K mainGlobals "pairs_of" = some (some (.ref f5)))
    (l_pairs_of : K.lookup f5 = some ⟨oc5, od5, .func (PySem.W.fnOf "pairs_of" "pairs_of" (defArgs s_pairs_of) (defBody s_pairs_of) (defScope s_pairs_of) .none kV5 dc5 pm5 an5 cd5 ct5), sl5⟩)
    (c_pairs_of : PySem.W.codeIn K cd5 "pairs_of" = true)
    (k_pairs_of : PySem.W.keepIn K (.ref f5) = true)
    (a_firsts_of : PySem.W.nsIn K mainGlobals "firsts_of" = some (some (.ref f6)))
    (l_firsts_of : K.lookup f6 = some ⟨oc6, od6, .func (PySem.W.fnOf "firsts_of" "firsts_of" (defArgs s_firsts_of) (defBody s_firsts_of) (defScope s_firsts_of) .none kV6 dc6 pm6 an6 cd6 ct6), sl6⟩)
    (c_firsts_of : PySem.W.codeIn K cd6 "firsts_of" = true)
    (k_firsts_of : PySem.W.keepIn K (.ref f6) = true)
    (a_lasts_of : PySem.W.nsIn K mainGlobals "lasts_of" = some (some (.ref f7)))
    (l_lasts_of : K.lookup f7 = some ⟨oc7, od7, .func (PySem.W.fnOf "lasts_of" "lasts_of" (defArgs s_lasts_of) (defBody s_lasts_of) (defScope s_lasts_of) .none kV7 dc7 pm7 an7 cd7 ct7), sl7⟩)
    (c_lasts_of : PySem.W.codeIn K cd7 "lasts_of" = true)
    (k_lasts_of : PySem.W.keepIn K (.ref f7) = true)
    (a_check_rule : PySem.W.nsIn K mainGlobals "check_rule" = some (some (.ref f8)))
    (l_check_rule : K.lookup f8 = some ⟨oc8, od8, .func (PySem.W.fnOf "check_rule" "check_rule" (defArgs s_check_rule) (defBody s_check_rule) (defScope s_check_rule) .none kV8 dc8 pm8 an8 cd8 ct8), sl8⟩)
    (c_check_rule : PySem.W.codeIn K cd8 "check_rule" = true)
    (k_check_rule : PySem.W.keepIn K (.ref f8) = true)
    (a_marks_of : PySem.W.nsIn K mainGlobals "marks_of" = some (some (.ref f9)))
    (l_marks_of : K.lookup f9 = some ⟨oc9, od9, .func (PySem.W.fnOf "marks_of" "marks_of" (defArgs s_marks_of) (defBody s_marks_of) (defScope s_marks_of) .none kV9 dc9 pm9 an9 cd9 ct9), sl9⟩)
    (c_marks_of : PySem.W.codeIn K cd9 "marks_of" = true)
    (k_marks_of : PySem.W.keepIn K (.ref f9) = true)
    (a_unbeaten : PySem.W.nsIn K mainGlobals "unbeaten" = some (some (.ref f10)))
    (l_unbeaten : K.lookup f10 = some ⟨oc10, od10, .func (PySem.W.fnOf "unbeaten" "unbeaten" (defArgs s_unbeaten) (defBody s_unbeaten) (defScope s_unbeaten) .none kV10 dc10 pm10 an10 cd10 ct10), sl10⟩)
    (c_unbeaten : PySem.W.codeIn K cd10 "unbeaten" = true)
    (k_unbeaten : PySem.W.keepIn K (.ref f10) = true)
    (a_won_by : PySem.W.nsIn K mainGlobals "won_by" = some (some (.ref f11)))
    (l_won_by : K.lookup f11 = some ⟨oc11, od11, .func (PySem.W.fnOf "won_by" "won_by" (defArgs s_won_by) (defBody s_won_by) (defScope s_won_by) .none kV11 dc11 pm11 an11 cd11 ct11), sl11⟩)
    (c_won_by : PySem.W.codeIn K cd11 "won_by" = true)
    (k_won_by : PySem.W.keepIn K (.ref f11) = true)
    (a_winners : PySem.W.nsIn K mainGlobals "winners" = some (some (.ref f12)))
    (l_winners : K.lookup f12 = some ⟨oc12, od12, .func (PySem.W.fnOf "winners" "winners" (defArgs s_winners) (defBody s_winners) (defScope s_winners) .none kV12 dc12 pm12 an12 cd12 ct12), sl12⟩)
    (c_winners : PySem.W.codeIn K cd12 "winners" = true)
    (k_winners : PySem.W.keepIn K (.ref f12) = true)
    (a_law_well : PySem.W.nsIn K mainGlobals "_law_well" = some (some (.ref f13)))
    (l_law_well : K.lookup f13 = some ⟨oc13, od13, .func (PySem.W.fnOf "_law_well" "_law_well" (defArgs s_law_well) (defBody s_law_well) (defScope s_law_well) .none kV13 dc13 pm13 an13 cd13 ct13), sl13⟩)
    (c_law_well : PySem.W.codeIn K cd13 "_law_well" = true)
    (k_law_well : PySem.W.keepIn K (.ref f13) = true)
    (a_law_draw : PySem.W.nsIn K mainGlobals "_law_draw" = some (some (.ref f14)))
    (l_law_draw : K.lookup f14 = some ⟨oc14, od14, .func (PySem.W.fnOf "_law_draw" "_law_draw" (defArgs s_law_draw) (defBody s_law_draw) (defScope s_law_draw) .none kV14 dc14 pm14 an14 cd14 ct14), sl14⟩)
    (c_law_draw : PySem.W.codeIn K cd14 "_law_draw" = true)
    (k_law_draw : PySem.W.keepIn K (.ref f14) = true)
    (a_law_of : PySem.W.nsIn K mainGlobals "_law_of" = some (some (.ref f15)))
    (l_law_of : K.lookup f15 = some ⟨oc15, od15, .func (PySem.W.fnOf "_law_of" "_law_of" (defArgs s_law_of) (defBody s_law_of) (defScope s_law_of) .none kV15 dc15 pm15 an15 cd15 ct15), sl15⟩)
    (c_law_of : PySem.W.codeIn K cd15 "_law_of" = true)
    (k_law_of : PySem.W.keepIn K (.ref f15) = true)
    (a_law_odd : PySem.W.nsIn K mainGlobals "_law_odd" = some (some (.ref f16)))
    (l_law_odd : K.lookup f16 = some ⟨oc16, od16, .func (PySem.W.fnOf "_law_odd" "_law_odd" (defArgs s_law_odd) (defBody s_law_odd) (defScope s_law_odd) .none kV16 dc16 pm16 an16 cd16 ct16), sl16⟩)
    (c_law_odd : PySem.W.codeIn K cd16 "_law_odd" = true)
    (k_law_odd : PySem.W.keepIn K (.ref f16) = true)
    (a_law_profile : PySem.W.nsIn K mainGlobals "_law_profile" = some (some (.ref f17)))
    (l_law_profile : K.lookup f17 = some ⟨oc17, od17, .func (PySem.W.fnOf "_law_profile" "_law_profile" (defArgs s_law_profile) (defBody s_law_profile) (defScope s_law_profile) .none kV17 dc17 pm17 an17 cd17 ct17), sl17⟩)
    (c_law_profile : PySem.W.codeIn K cd17 "_law_profile" = true)
    (k_law_profile : PySem.W.keepIn K (.ref f17) = true)
    (a_law_sum : PySem.W.nsIn K mainGlobals "_law_sum" = some (some (.ref f18)))
    (l_law_sum : K.lookup f18 = some ⟨oc18, od18, .func (PySem.W.fnOf "_law_sum" "_law_sum" (defArgs s_law_sum) (defBody s_law_sum) (defScope s_law_sum) .none kV18 dc18 pm18 an18 cd18 ct18), sl18⟩)
    (c_law_sum : PySem.W.codeIn K cd18 "_law_sum" = true)
    (k_law_sum : PySem.W.keepIn K (.ref f18) = true)
    (a_law_won : PySem.W.nsIn K mainGlobals "_law_won" = some (some (.ref f19)))
    (l_law_won : K.lookup f19 = some ⟨oc19, od19, .func (PySem.W.fnOf "_law_won" "_law_won" (defArgs s_law_won) (defBody s_law_won) (defScope s_law_won) .none kV19 dc19 pm19 an19 cd19 ct19), sl19⟩)
    (c_law_won : PySem.W.codeIn K cd19 "_law_won" = true)
    (k_law_won : PySem.W.keepIn K (.ref f19) = true)
    (a_law_led : PySem.W.nsIn K mainGlobals "_law_led" = some (some (.ref f20)))
    (l_law_led : K.lookup f20 = some ⟨oc20, od20, .func (PySem.W.fnOf "_law_led" "_law_led" (defArgs s_law_led) (defBody s_law_led) (defScope s_law_led) .none kV20 dc20 pm20 an20 cd20 ct20), sl20⟩)
    (c_law_led : PySem.W.codeIn K cd20 "_law_led" = true)
    (k_law_led : PySem.W.keepIn K (.ref f20) = true)
    (a_law_word : PySem.W.nsIn K mainGlobals "_law_word" = some (some (.ref f21)))
    (l_law_word : K.lookup f21 = some ⟨oc21, od21, .func (PySem.W.fnOf "_law_word" "_law_word" (defArgs s_law_word) (defBody s_law_word) (defScope s_law_word) .none kV21 dc21 pm21 an21 cd21 ct21), sl21⟩)
    (c_law_word : PySem.W.codeIn K cd21 "_law_word" = true)
    (k_law_word : PySem.W.keepIn K (.ref f21) = true)
    (a_law_heard : PySem.W.nsIn K mainGlobals "_law_heard" = some (some (.ref f22)))
    (l_law_heard : K.lookup f22 = some ⟨oc22, od22, .func (PySem.W.fnOf "_law_heard" "_law_heard" (defArgs s_law_heard) (defBody s_law_heard) (defScope s_law_heard) .none kV22 dc22 pm22 an22 cd22 ct22), sl22⟩)
    (c_law_heard : PySem.W.codeIn K cd22 "_law_heard" = true)
    (k_law_heard : PySem.W.keepIn K (.ref f22) = true)
    (a_law_all_end : PySem.W.nsIn K mainGlobals "_law_all_end" = some (some (.ref f23)))
    (l_law_all_end : K.lookup f23 = some ⟨oc23, od23, .func (PySem.W.fnOf "_law_all_end" "_law_all_end" (defArgs s_law_all_end) (defBody s_law_all_end) (defScope s_law_all_end) .none kV23 dc23 pm23 an23 cd23 ct23), sl23⟩)
    (c_law_all_end : PySem.W.codeIn K cd23 "_law_all_end" = true)
    (k_law_all_end : PySem.W.keepIn K (.ref f23) = true)
    (a_law_is_profile : PySem.W.nsIn K mainGlobals "_law_is_profile" = some (some (.ref f24)))
    (l_law_is_profile : K.lookup f24 = some ⟨oc24, od24, .func (PySem.W.fnOf "_law_is_profile" "_law_is_profile" (defArgs s_law_is_profile) (defBody s_law_is_profile) (defScope s_law_is_profile) .none kV24 dc24 pm24 an24 cd24 ct24), sl24⟩)
    (c_law_is_profile : PySem.W.codeIn K cd24 "_law_is_profile" = true)
    (k_law_is_profile : PySem.W.keepIn K (.ref f24) = true)
    (a_law_refused_right : PySem.W.nsIn K mainGlobals "_law_refused_right" = some (some (.ref f25)))
    (l_law_refused_right : K.lookup f25 = some ⟨oc25, od25, .func (PySem.W.fnOf "_law_refused_right" "_law_refused_right" (defArgs s_law_refused_right) (defBody s_law_refused_right) (defScope s_law_refused_right) .none kV25 dc25 pm25 an25 (.ref cR) ct25), sl25⟩)
    (c_law_refused_right : PySem.W.codeIn K (.ref cR) "_law_refused_right" = true)
    (k_law_refused_right : PySem.W.keepIn K (.ref f25) = true)
    (a_law_right : PySem.W.nsIn K mainGlobals "_law_right" = some (some (.ref f26)))
    (l_law_right : K.lookup f26 = some ⟨oc26, od26, .func (PySem.W.fnOf "_law_right" "_law_right" (defArgs s_law_right) (defBody s_law_right) (defScope s_law_right) .none kV26 dc26 pm26 an26 cd26 ct26), sl26⟩)
    (c_law_right : PySem.W.codeIn K cd26 "_law_right" = true)
    (k_law_right : PySem.W.keepIn K (.ref f26) = true)
    (a_law : PySem.W.nsIn K mainGlobals "law" = some (some (.ref f27)))
    (l_law : K.lookup f27 = some ⟨oc27, od27, .func (PySem.W.fnOf "law" "law" (defArgs s_law) (defBody s_law) (defScope s_law) .none kV27 dc27 pm27 an27 cd27 ct27), sl27⟩)
    (c_law : PySem.W.codeIn K cd27 "law" = true)
    (k_law : PySem.W.keepIn K (.ref f27) = true)
    (z_ArithmeticError : PySem.W.nsIn K mainGlobals "ArithmeticError" = some none)
    (z_LookupError : PySem.W.nsIn K mainGlobals "LookupError" = some none)
    (z_ValueError : PySem.W.nsIn K mainGlobals "ValueError" = some none)
    (z_abs : PySem.W.nsIn K mainGlobals "abs" = some none)
    (z_all : PySem.W.nsIn K mainGlobals "all" = some none)
    (z_bool : PySem.W.nsIn K mainGlobals "bool" = some none)
    (z_divmod : PySem.W.nsIn K mainGlobals "divmod" = some none)
    (z_enumerate : PySem.W.nsIn K mainGlobals "enumerate" = some none)
    (z_int : PySem.W.nsIn K mainGlobals "int" = some none)
    (z_isinstance : PySem.W.nsIn K mainGlobals "isinstance" = some none)
    (z_len : PySem.W.nsIn K mainGlobals "len" = some none)
    (z_list : PySem.W.nsIn K mainGlobals "list" = some none)
    (z_max : PySem.W.nsIn K mainGlobals "max" = some none)
    (z_range : PySem.W.nsIn K mainGlobals "range" = some none)
    (z_repr : PySem.W.nsIn K mainGlobals "repr" = some none)
    (z_sorted : PySem.W.nsIn K mainGlobals "sorted" = some none)
    (z_str : PySem.W.nsIn K mainGlobals "str" = some none)
    (z_sum : PySem.W.nsIn K mainGlobals "sum" = some none)
    (z_tuple : PySem.W.nsIn K mainGlobals "tuple" = some none)
    (z_zip : PySem.W.nsIn K mainGlobals "zip" = some none)
    (a_ORDERS : PySem.W.nsIn K mainGlobals "ORDERS" = some (some (.ref a_ORDERS_)))
    (l_ORDERS : K.lookup a_ORDERS_ = some ⟨.type "tuple", od_ORDERS, .seq #[.str "abc" t0_ORDERS, .str "acb" t1_ORDERS, .str "bac" t2_ORDERS, .str "bca" t3_ORDERS, .str "cab" t4_ORDERS, .str "cba" t5_ORDERS] n_ORDERS, sl_ORDERS⟩)
    (a_NAMES : PySem.W.nsIn K mainGlobals "NAMES" = some (some (.ref a_NAMES_)))
    (l_NAMES : K.lookup a_NAMES_ = some ⟨.type "tuple", od_NAMES, .seq #[.str "a" t0_NAMES, .str "b" t1_NAMES, .str "c" t2_NAMES] n_NAMES, sl_NAMES⟩)
    (a_RULES : PySem.W.nsIn K mainGlobals "RULES" = some (some (.ref a_RULES_)))
    (l_RULES : K.lookup a_RULES_ = some ⟨.type "tuple", od_RULES, .seq #[.str "firsts" t0_RULES, .str "lasts" t1_RULES, .str "points" t2_RULES, .str "pairs" t3_RULES] n_RULES, sl_RULES⟩)
    (a_MOST_VOTERS : PySem.W.nsIn K mainGlobals "MOST_VOTERS" = some (some (.int 60 t_MOST_VOTERS)))
    (g_InvalidProfile : PySem.W.nsIn K mainGlobals "InvalidProfile" = some (some (.ref C0)))
    (g_InvalidRule : PySem.W.nsIn K mainGlobals "InvalidRule" = some (some (.ref C1)))
    (g_WrongValue : PySem.W.nsIn K mainGlobals "WrongValue" = some (some (.ref B0)))
    (g_WrongName : PySem.W.nsIn K mainGlobals "WrongName" = some (some (.ref B1)))
    (g_NotPossible : PySem.W.nsIn K mainGlobals "NotPossible" = some (some (.ref B2)))
    (exI_0 : PySem.W.excInitIn K C0 [.type "ValueError", .type "Exception", .type "BaseException", .type "object"] "ValueError.__new__" = true)
    (exO_0 : PySem.W.excOver K C0 [.type "ValueError", .type "Exception", .type "BaseException", .type "object"] = true)
    (hd_0 : PySem.W.hasDictIn K C0 = true)
    (sa_0 : PySem.W.findIn K (.ref C0) "__setattr__" = some (some (.builtin "object.__setattr__")))
    (ga_0 : PySem.W.findIn K (.ref C0) "__getattribute__" = some (some (.builtin "BaseException.__getattribute__")))
    (gg_0 : PySem.W.findIn K (.ref C0) "__getattr__" = some none)
    (nN_0 : PySem.W.findIn K (.ref C0) "given" = some none)
    (kC_0 : PySem.W.keepIn K (.ref C0) = true)
    (xC_0 : PySem.W.subIn K (.ref C0) (.type "BaseException") = some true)
    (sB_0 : PySem.W.subIn K (.ref C0) (.type "ValueError") = some true)
    (tC_0 : PySem.W.typeIn K (.ref C0) = some (.type "type"))
    (sp_0 : PySem.W.ks_superIn K C0 C0 "__init__" = some (some (.builtin "ValueError.__init__")))
    (mr_0 : PySem.W.mroIn K C0 (.ref C0) = some true)
    (ca_0 : PySem.W.findIn K (.ref C0) "__class__" = some (some (.builtin "object.__class__")))
    (mo_0 : PySem.W.mroIn K C0 (.type "object") = some true)
    (fI_0 : PySem.W.findIn K (.ref C0) "__init__" = some (some (.ref fI0)))
    (ti_0 : PySem.W.typeIn K (.ref fI0) = some (.type "function"))
    (lI_0 : K.lookup fI0 = some ⟨oi0, ei0, .func (PySem.W.ksFn "__init__" "InvalidProfile.__init__" (TX.gA p1_0 p2_0) (TX.gB q0_0 q1_0 q2_0 q3_0 q4_0 q5_0 q6_0 q7_0 q8_0 q9_0) TX.gS .none .none di0 mi0 ni0 (.ref cda0) ci0 cc0), si0⟩)
    (cI_0 : PySem.W.codeIn K (.ref cda0) "InvalidProfile.__init__" = true)
    (lC_0 : K.lookup cda0 = some ⟨ccl0, cdd0, .fields vs0, ccs0⟩)
    (vs_0 : vs0[2]? = some (.str file0 tf0))
    (ff_0 : ((PySem.Challenge.pw_toldtallies_k75_whole_winners_by_rules.main.file : Str) == file0) = true)
    (lV_0 : K.lookup cc0 = some ⟨cl0, cld0, .cell (some (.ref C0)), csl0⟩)
    (mc_0 : ∀ L, TX.MCall q0_0 q1_0 q2_0 q3_0 q4_0 (PySem.W.ksEnv "InvalidProfile.__init__" TX.gS L fI0 (.ref cda0) cc0))
    (kt_ArithmeticError_0 : PySem.W.kitOne K (.ref C0) (.type "ArithmeticError") = some false)
    (kt_LookupError_0 : PySem.W.kitOne K (.ref C0) (.type "LookupError") = some false)
    (kt_ValueError_0 : PySem.W.kitOne K (.ref C0) (.type "ValueError") = some true)
    (kt_InvalidProfile_0 : PySem.W.kitOne K (.ref C0) (.ref C0) = some true)
    (kt_InvalidRule_0 : PySem.W.kitOne K (.ref C0) (.ref C1) = some false)
    (kt_WrongValue_0 : PySem.W.kitOne K (.ref C0) (.ref B0) = some true)
    (kt_WrongName_0 : PySem.W.kitOne K (.ref C0) (.ref B1) = some false)
    (kt_NotPossible_0 : PySem.W.kitOne K (.ref C0) (.ref B2) = some false)
    (em_0 : PySem.W.exmAny K (.ref C0) [.ref B0, .ref B1, .ref B2] = some true)
    (exI_1 : PySem.W.excInitIn K C1 [.type "ValueError", .type "Exception", .type "BaseException", .type "object"] "ValueError.__new__" = true)
    (exO_1 : PySem.W.excOver K C1 [.type "ValueError", .type "Exception", .type "BaseException", .type "object"] = true)
    (hd_1 : PySem.W.hasDictIn K C1 = true)
    (sa_1 : PySem.W.findIn K (.ref C1) "__setattr__" = some (some (.builtin "object.__setattr__")))
    (ga_1 : PySem.W.findIn K (.ref C1) "__getattribute__" = some (some (.builtin "BaseException.__getattribute__")))
    (gg_1 : PySem.W.findIn K (.ref C1) "__getattr__" = some none)
    (nN_1 : PySem.W.findIn K (.ref C1) "given" = some none)
    (kC_1 : PySem.W.keepIn K (.ref C1) = true)
    (xC_1 : PySem.W.subIn K (.ref C1) (.type "BaseException") = some true)
    (sB_1 : PySem.W.subIn K (.ref C1) (.type "ValueError") = some true)
    (tC_1 : PySem.W.typeIn K (.ref C1) = some (.type "type"))
    (sp_1 : PySem.W.ks_superIn K C1 C1 "__init__" = some (some (.builtin "ValueError.__init__")))
    (mr_1 : PySem.W.mroIn K C1 (.ref C1) = some true)
    (ca_1 : PySem.W.findIn K (.ref C1) "__class__" = some (some (.builtin "object.__class__")))
    (mo_1 : PySem.W.mroIn K C1 (.type "object") = some true)
    (fI_1 : PySem.W.findIn K (.ref C1) "__init__" = some (some (.ref fI1)))
    (ti_1 : PySem.W.typeIn K (.ref fI1) = some (.type "function"))
    (lI_1 : K.lookup fI1 = some ⟨oi1, ei1, .func (PySem.W.ksFn "__init__" "InvalidRule.__init__" (TX.gA p1_1 p2_1) (TX.gB q0_1 q1_1 q2_1 q3_1 q4_1 q5_1 q6_1 q7_1 q8_1 q9_1) TX.gS .none .none di1 mi1 ni1 (.ref cda1) ci1 cc1), si1⟩)
    (cI_1 : PySem.W.codeIn K (.ref cda1) "InvalidRule.__init__" = true)
    (lC_1 : K.lookup cda1 = some ⟨ccl1, cdd1, .fields vs1, ccs1⟩)
    (vs_1 : vs1[2]? = some (.str file1 tf1))
    (ff_1 : ((PySem.Challenge.pw_toldtallies_k75_whole_winners_by_rules.main.file : Str) == file1) = true)
    (lV_1 : K.lookup cc1 = some ⟨cl1, cld1, .cell (some (.ref C1)), csl1⟩)
    (mc_1 : ∀ L, TX.MCall q0_1 q1_1 q2_1 q3_1 q4_1 (PySem.W.ksEnv "InvalidRule.__init__" TX.gS L fI1 (.ref cda1) cc1))
    (kt_ArithmeticError_1 : PySem.W.kitOne K (.ref C1) (.type "ArithmeticError") = some false)
    (kt_LookupError_1 : PySem.W.kitOne K (.ref C1) (.type "LookupError") = some false)
    (kt_ValueError_1 : PySem.W.kitOne K (.ref C1) (.type "ValueError") = some true)
    (kt_InvalidProfile_1 : PySem.W.kitOne K (.ref C1) (.ref C0) = some false)
    (kt_InvalidRule_1 : PySem.W.kitOne K (.ref C1) (.ref C1) = some true)
    (kt_WrongValue_1 : PySem.W.kitOne K (.ref C1) (.ref B0) = some true)
    (kt_WrongName_1 : PySem.W.kitOne K (.ref C1) (.ref B1) = some false)
    (kt_NotPossible_1 : PySem.W.kitOne K (.ref C1) (.ref B2) = some false)
    (em_1 : PySem.W.exmAny K (.ref C1) [.ref B0, .ref B1, .ref B2] = some true)
    (sD : PySem.W.specialIn K (.builtin "object.__class__") "__get__" = some (some (.builtin "getset_descriptor.__get__")))
    (tD : PySem.W.takesIn K (.builtin "object.__class__") = some true)
    (stt : PySem.W.nsIn K cStatics "thirdparty.any" = some none)
    (z_super : PySem.W.nsIn K mainGlobals "super" = some none)
    (nsm : K.lookup sysModules = none)
    (npR : K.lookup pR = none)
    (hcd : PySem.W.codeHdIn K cR pR = true) :
    LawAtG l w K 11 63 "script" mg fa h := by
  have e := hfa.symm.trans (PySem.W.mg_of X G a_law)
  cases e
  have ek0 : ExcK K C0 := ⟨⟨ga_0, gg_0, xC_0, hd_0, ca_0, sD, tD, mo_0⟩, nN_0⟩
  have ek1 : ExcK K C1 := ⟨⟨ga_1, gg_1, xC_1, hd_1, ca_1, sD, tD, mo_1⟩, nN_1⟩
  refine ⟨PySem.W.fnOf "law" "law" (defArgs s_law) (defBody s_law) (defScope s_law) .none kV27 dc27 pm27 an27 cd27 ct27, [(cR, pR)], fun osm => spM (tbOf K C0 C1 pR osm) [] 1 m_law, fun p hp => ?_, fun p hp => ?_, fun p hp => ?_, nsm, fun s v => .of_eq rfl, fun osm H a ns hl _ S => ?_, fun osm base Xb Gb TB => ?_⟩
  · rw [List.mem_singleton.mp hp]; exact hT
  · rw [List.mem_singleton.mp hp]; exact npR
  · rw [List.mem_singleton.mp hp]; exact PySem.W.codeHd_of_K X hcd
  · exact law_start hl S npR
  · have TBc : LamX.TabB base mg cR pR := TB (cR, pR) (List.mem_singleton.mpr rfl)
    have tx : Txt l.prog (tbOf K C0 C1 pR osm) mg base C0 C1 B0 B1 B2 cR pR := {
      n_ArithmeticError := PySem.W.mg_none_of X G z_ArithmeticError
      n_LookupError := PySem.W.mg_none_of X G z_LookupError
      n_ValueError := PySem.W.mg_none_of X G z_ValueError
      n_abs := PySem.W.mg_none_of X G z_abs
      n_all := PySem.W.mg_none_of X G z_all
      n_bool := PySem.W.mg_none_of X G z_bool
      n_divmod := PySem.W.mg_none_of X G z_divmod
      n_enumerate := PySem.W.mg_none_of X G z_enumerate
      n_int := PySem.W.mg_none_of X G z_int
      n_isinstance := PySem.W.mg_none_of X G z_isinstance
      n_len := PySem.W.mg_none_of X G z_len
      n_list := PySem.W.mg_none_of X G z_list
      n_max := PySem.W.mg_none_of X G z_max
      n_range := PySem.W.mg_none_of X G z_range
      n_repr := PySem.W.mg_none_of X G z_repr
      n_sorted := PySem.W.mg_none_of X G z_sorted
      n_str := PySem.W.mg_none_of X G z_str
      n_sum := PySem.W.mg_none_of X G z_sum
      n_tuple := PySem.W.mg_none_of X G z_tuple
      n_zip := PySem.W.mg_none_of X G z_zip
      con_ORDERS := con_strs (xs := ["abc", "acb", "bac", "bca", "cab", "cba"]) (PySem.W.mg_of X G a_ORDERS) l_ORDERS rfl rfl (by show 6 ≤ sizeLine; decide) (.cons ⟨_, rfl⟩ (.cons ⟨_, rfl⟩ (.cons ⟨_, rfl⟩ (.cons ⟨_, rfl⟩ (.cons ⟨_, rfl⟩ (.cons ⟨_, rfl⟩ (.nil)))))))
      con_NAMES := con_strs (xs := ["a", "b", "c"]) (PySem.W.mg_of X G a_NAMES) l_NAMES rfl rfl (by show 3 ≤ sizeLine; decide) (.cons ⟨_, rfl⟩ (.cons ⟨_, rfl⟩ (.cons ⟨_, rfl⟩ (.nil))))
      con_RULES := con_strs (xs := ["firsts", "lasts", "points", "pairs"]) (PySem.W.mg_of X G a_RULES) l_RULES rfl rfl (by show 4 ≤ sizeLine; decide) (.cons ⟨_, rfl⟩ (.cons ⟨_, rfl⟩ (.cons ⟨_, rfl⟩ (.cons ⟨_, rfl⟩ (.nil)))))
      con_MOST_VOTERS := con_int (PySem.W.mg_of X G a_MOST_VOTERS)
      hasX := hasX_of
      hasC := hasC_of
      ek := fun n c C h1 h2 => (ex_cases h1 h2).elim (fun q => q.2 ▸ ek0) (fun q => q.2 ▸ ek1)
      giv_InvalidProfile := ⟨PySem.W.mg_of X G g_InvalidProfile, exI_0, exO_0, hd_0, sa_0, ga_0, gg_0, nN_0, kC_0, xC_0, sB_0, tC_0, sp_0, mr_0, stt, PySem.W.mg_none_of X G z_super, by rw [hlp]; kernel_rfl, ⟨fI0, cc0, cda0, _, _, _, _, _, _, _, _, _, _, _, _, _, _, _, _, _, _, _, _, _, _, _, _, _, _, _, _, _, fI_0, ti_0, lI_0, cI_0, lC_0, vs_0, by rw [hlp]; exact ff_0, lV_0, mc_0⟩⟩
      cl_InvalidProfile := clOf_0 (C0 := C0) (C1 := C1)
      giv_InvalidRule := ⟨PySem.W.mg_of X G g_InvalidRule, exI_1, exO_1, hd_1, sa_1, ga_1, gg_1, nN_1, kC_1, xC_1, sB_1, tC_1, sp_1, mr_1, stt, PySem.W.mg_none_of X G z_super, by rw [hlp]; kernel_rfl, ⟨fI1, cc1, cda1, _, _, _, _, _, _, _, _, _, _, _, _, _, _, _, _, _, _, _, _, _, _, _, _, _, _, _, _, _, fI_1, ti_1, lI_1, cI_1, lC_1, vs_1, by rw [hlp]; exact ff_1, lV_1, mc_1⟩⟩
      cl_InvalidRule := clOf_1 (C0 := C0) (C1 := C1)
      kt_ArithmeticError := kt_of rfl rfl kt_ArithmeticError_0 kt_ArithmeticError_1 ek0 ek1
      kt_InvalidProfile := kt_of rfl rfl kt_InvalidProfile_0 kt_InvalidProfile_1 ek0 ek1
      kt_InvalidRule := kt_of rfl rfl kt_InvalidRule_0 kt_InvalidRule_1 ek0 ek1
      kt_LookupError := kt_of rfl rfl kt_LookupError_0 kt_LookupError_1 ek0 ek1
      kt_NotPossible := kt_of rfl rfl kt_NotPossible_0 kt_NotPossible_1 ek0 ek1
      kt_ValueError := kt_of rfl rfl kt_ValueError_0 kt_ValueError_1 ek0 ek1
      kt_WrongName := kt_of rfl rfl kt_WrongName_0 kt_WrongName_1 ek0 ek1
      kt_WrongValue := kt_of rfl rfl kt_WrongValue_0 kt_WrongValue_1 ek0 ek1
      g_InvalidProfile := PySem.W.mg_of X G g_InvalidProfile
      g_InvalidRule := PySem.W.mg_of X G g_InvalidRule
      g_WrongValue := PySem.W.mg_of X G g_WrongValue
      g_WrongName := PySem.W.mg_of X G g_WrongName
      g_NotPossible := PySem.W.mg_of X G g_NotPossible
      exm := fun c m C h1 h2 => by
        rcases ex_cases (exNo_get c m h1) h2 with ⟨_, rfl⟩ | ⟨_, rfl⟩
        · exact em_0
        · exact em_1
      tabB := TBc
      tabM := List.mem_singleton.mpr rfl
      tabU := fun p hp _ => by rw [List.mem_singleton.mp hp]
    }
    have F_is_integer := fun_mk (K := (tbOf K C0 C1 pR osm).K) (st := s_is_integer) l_is_integer c_is_integer k_is_integer
    have F_is_natural := fun_mk (K := (tbOf K C0 C1 pR osm).K) (st := s_is_natural) l_is_natural c_is_natural k_is_natural
    have F_is_tuple_of := fun_mk (K := (tbOf K C0 C1 pR osm).K) (st := s_is_tuple_of) l_is_tuple_of c_is_tuple_of k_is_tuple_of
    have F_are_naturals := fun_mk (K := (tbOf K C0 C1 pR osm).K) (st := s_are_naturals) l_are_naturals c_are_naturals k_are_naturals
    have F_check_profile := fun_mk (K := (tbOf K C0 C1 pR osm).K) (st := s_check_profile) l_check_profile c_check_profile k_check_profile
    have F_pairs_of := fun_mk (K := (tbOf K C0 C1 pR osm).K) (st := s_pairs_of) l_pairs_of c_pairs_of k_pairs_of
    have F_firsts_of := fun_mk (K := (tbOf K C0 C1 pR osm).K) (st := s_firsts_of) l_firsts_of c_firsts_of k_firsts_of
    have F_lasts_of := fun_mk (K := (tbOf K C0 C1 pR osm).K) (st := s_lasts_of) l_lasts_of c_lasts_of k_lasts_of
    have F_check_rule := fun_mk (K := (tbOf K C0 C1 pR osm).K) (st := s_check_rule) l_check_rule c_check_rule k_check_rule
    have F_marks_of := fun_mk (K := (tbOf K C0 C1 pR osm).K) (st := s_marks_of) l_marks_of c_marks_of k_marks_of
    have F_unbeaten := fun_mk (K := (tbOf K C0 C1 pR osm).K) (st := s_unbeaten) l_unbeaten c_unbeaten k_unbeaten
    have F_won_by := fun_mk (K := (tbOf K C0 C1 pR osm).K) (st := s_won_by) l_won_by c_won_by k_won_by
    have F_winners := fun_mk (K := (tbOf K C0 C1 pR osm).K) (st := s_winners) l_winners c_winners k_winners
    have F_law_well := fun_mk (K := (tbOf K C0 C1 pR osm).K) (st := s_law_well) l_law_well c_law_well k_law_well
    have F_law_draw := fun_mk (K := (tbOf K C0 C1 pR osm).K) (st := s_law_draw) l_law_draw c_law_draw k_law_draw
    have F_law_of := fun_mk (K := (tbOf K C0 C1 pR osm).K) (st := s_law_of) l_law_of c_law_of k_law_of
    have F_law_odd := fun_mk (K := (tbOf K C0 C1 pR osm).K) (st := s_law_odd) l_law_odd c_law_odd k_law_odd
    have F_law_profile := fun_mk (K := (tbOf K C0 C1 pR osm).K) (st := s_law_profile) l_law_profile c_law_profile k_law_profile
    have F_law_sum := fun_mk (K := (tbOf K C0 C1 pR osm).K) (st := s_law_sum) l_law_sum c_law_sum k_law_sum
    have F_law_won := fun_mk (K := (tbOf K C0 C1 pR osm).K) (st := s_law_won) l_law_won c_law_won k_law_won
    have F_law_led := fun_mk (K := (tbOf K C0 C1 pR osm).K) (st := s_law_led) l_law_led c_law_led k_law_led
    have F_law_word := fun_mk (K := (tbOf K C0 C1 pR osm).K) (st := s_law_word) l_law_word c_law_word k_law_word
    have F_law_heard := fun_mk (K := (tbOf K C0 C1 pR osm).K) (st := s_law_heard) l_law_heard c_law_heard k_law_heard
    have F_law_all_end := fun_mk (K := (tbOf K C0 C1 pR osm).K) (st := s_law_all_end) l_law_all_end c_law_all_end k_law_all_end
    have F_law_is_profile := fun_mk (K := (tbOf K C0 C1 pR osm).K) (st := s_law_is_profile) l_law_is_profile c_law_is_profile k_law_is_profile
    have F_law_refused_right := fun_mk (K := (tbOf K C0 C1 pR osm).K) (st := s_law_refused_right) l_law_refused_right c_law_refused_right k_law_refused_right
    have F_law_right := fun_mk (K := (tbOf K C0 C1 pR osm).K) (st := s_law_right) l_law_right c_law_right k_law_right
    have F_law := fun_mk (K := (tbOf K C0 C1 pR osm).K) (st := s_law) l_law c_law k_law
    have d_is_integer := t_is_integer (w := w) tx  F_is_integer (PySem.W.mg_of X G a_is_integer)
    have d_is_natural := t_is_natural (w := w) tx (d_is_integer.mono (by decide)) F_is_natural (PySem.W.mg_of X G a_is_natural)
    have d_is_tuple_of := t_is_tuple_of (w := w) tx  F_is_tuple_of (PySem.W.mg_of X G a_is_tuple_of)
    have d_are_naturals := t_are_naturals (w := w) tx (d_is_natural.mono (by decide)) (d_is_tuple_of.mono (by decide)) F_are_naturals (PySem.W.mg_of X G a_are_naturals)
    have d_check_profile := t_check_profile (w := w) tx (d_are_naturals.mono (by decide)) F_check_profile (PySem.W.mg_of X G a_check_profile)
    have d_pairs_of := t_pairs_of (w := w) tx  F_pairs_of (PySem.W.mg_of X G a_pairs_of)
    have d_firsts_of := t_firsts_of (w := w) tx  F_firsts_of (PySem.W.mg_of X G a_firsts_of)
    have d_lasts_of := t_lasts_of (w := w) tx  F_lasts_of (PySem.W.mg_of X G a_lasts_of)
    have d_check_rule := t_check_rule (w := w) tx  F_check_rule (PySem.W.mg_of X G a_check_rule)
    have d_marks_of := t_marks_of (w := w) tx (d_firsts_of.mono (by decide)) (d_lasts_of.mono (by decide)) F_marks_of (PySem.W.mg_of X G a_marks_of)
    have d_unbeaten := t_unbeaten (w := w) tx (d_pairs_of.mono (by decide)) F_unbeaten (PySem.W.mg_of X G a_unbeaten)
    have d_won_by := t_won_by (w := w) tx (d_marks_of.mono (by decide)) (d_unbeaten.mono (by decide)) F_won_by (PySem.W.mg_of X G a_won_by)
    have d_winners := t_winners (w := w) tx (d_check_profile.mono (by decide)) (d_check_rule.mono (by decide)) (d_won_by.mono (by decide)) F_winners (PySem.W.mg_of X G a_winners)
    have kk_winners : DefK l.prog w (tbOf K C0 C1 pR osm) mg base 5 "winners" ["profile", "rule"] [] m_winners ["rule", "profile"] [1, 0] := by
      refine ⟨_, _, t_winners_fn tx (d_check_profile.mono (by decide)) (d_check_rule.mono (by decide)) (d_won_by.mono (by decide)) F_winners (PySem.W.mg_of X G a_winners), PySem.W.mg_of X G a_winners, k_winners, fun s us ws _ hl => ?_, kw0_rel⟩
      match us, ws, hl with
      | [], [], hl => cases hl
      | [], [_], hl => cases hl
      | [], x :: y :: r, _ => exact .of_eq rfl
      | _ :: _, _, hl => cases hl
    have d_law_well := t_law_well (w := w) tx  F_law_well (PySem.W.mg_of X G a_law_well)
    have d_law_draw := t_law_draw (w := w) tx  F_law_draw (PySem.W.mg_of X G a_law_draw)
    have d_law_of := t_law_of (w := w) tx (d_law_draw.mono (by decide)) F_law_of (PySem.W.mg_of X G a_law_of)
    have d_law_odd := t_law_odd (w := w) tx (d_law_of.mono (by decide)) F_law_odd (PySem.W.mg_of X G a_law_odd)
    have d_law_profile := t_law_profile (w := w) tx (d_law_draw.mono (by decide)) F_law_profile (PySem.W.mg_of X G a_law_profile)
    have d_law_sum := t_law_sum (w := w) tx  F_law_sum (PySem.W.mg_of X G a_law_sum)
    have d_law_won := t_law_won (w := w) tx (d_law_sum.mono (by decide)) F_law_won (PySem.W.mg_of X G a_law_won)
    have d_law_led := t_law_led (w := w) tx  F_law_led (PySem.W.mg_of X G a_law_led)
    have d_law_word := t_law_word (w := w) tx  F_law_word (PySem.W.mg_of X G a_law_word)
    have d_law_heard := t_law_heard (w := w) tx (fun j L e => by rcases lam_at2 e with ⟨rfl, rfl⟩ | ⟨rfl, rfl⟩; exact ok_lam0 d_winners; exact ok_lam1 kk_winners) d_law_word F_law_heard (PySem.W.mg_of X G a_law_heard)
    have d_law_all_end := t_law_all_end (w := w) tx (d_law_heard.mono (by decide)) F_law_all_end (PySem.W.mg_of X G a_law_all_end)
    have d_law_is_profile := t_law_is_profile (w := w) tx  F_law_is_profile (PySem.W.mg_of X G a_law_is_profile)
    have d_law_refused_right := t_law_refused_right (w := w) tx (d_law_draw.mono (by decide)) (d_law_of.mono (by decide)) (d_law_odd.mono (by decide)) (d_law_won.mono (by decide)) (d_law_all_end.mono (by decide)) (d_law_is_profile.mono (by decide)) F_law_refused_right rfl (PySem.W.mg_of X G a_law_refused_right)
    have d_law_right := t_law_right (w := w) tx (d_winners.mono (by decide)) (d_law_of.mono (by decide)) (d_law_profile.mono (by decide)) (d_law_won.mono (by decide)) (d_law_led.mono (by decide)) (d_law_refused_right.mono (by decide)) kk_winners F_law_right (PySem.W.mg_of X G a_law_right)
    have d_law := t_law (w := w) tx (d_law_well.mono (by decide)) (d_law_right.mono (by decide)) F_law (PySem.W.mg_of X G a_law)
    exact t_law_fn tx (d_law_well.mono (by decide)) (d_law_right.mono (by decide)) F_law (PySem.W.mg_of X G a_law)
end TT

set_option maxRecDepth 100000
open PySem PySem.W PyProof.Rows in
set_option maxRecDepth 100000 in
set_option maxHeartbeats 0 in
theorem PySem.Challenge.cw_toldtallies_k75_whole_winners_by_rules_holds : PySem.Challenge.rw_toldtallies_k75_whole_winners_by_rules.Holds := by
  w_on; o_law; k_head; (case hw => w_witness2)
  k_fill
  refine TT.walk_ofG (n := 63) (k := 11) (x := "script") (l := PySem.Challenge.rw_toldtallies_k75_whole_winners_by_rules) rfl (by decide) rfl (by decide +kernel) ⟨rfl, by decide, by decide⟩ (fun w h Y => PySem.W.km_in_of Y) ?F
  case F =>
    intro w mg fa h Y KX G hmg
    refine' TT.all_mk (pR := 257) rfl KX G hmg (PySem.W.km_tabs_of Y 257 (by simp)) ?a_is_integer ?l_is_integer ?c_is_integer ?k_is_integer ?a_is_natural ?l_is_natural ?c_is_natural ?k_is_natural ?a_is_tuple_of ?l_is_tuple_of ?c_is_tuple_of ?k_is_tuple_of ?a_are_naturals ?l_are_naturals ?c_are_naturals ?k_are_naturals ?a_check_profile ?l_check_profile ?c_check_profile ?k_check_profile ?a_pairs_of ?l_pairs_of ?c_pairs_of ?k_pairs_of ?a_firsts_of ?l_firsts_of ?c_firsts_of ?k_firsts_of ?a_lasts_of ?l_lasts_of ?c_lasts_of ?k_lasts_of ?a_check_rule ?l_check_rule ?c_check_rule ?k_check_rule ?a_marks_of ?l_marks_of ?c_marks_of ?k_marks_of ?a_unbeaten ?l_unbeaten ?c_unbeaten ?k_unbeaten ?a_won_by ?l_won_by ?c_won_by ?k_won_by ?a_winners ?l_winners ?c_winners ?k_winners ?a_law_well ?l_law_well ?c_law_well ?k_law_well ?a_law_draw ?l_law_draw ?c_law_draw ?k_law_draw ?a_law_of ?l_law_of ?c_law_of ?k_law_of ?a_law_odd ?l_law_odd ?c_law_odd ?k_law_odd ?a_law_profile ?l_law_profile ?c_law_profile ?k_law_profile ?a_law_sum ?l_law_sum ?c_law_sum ?k_law_sum ?a_law_won ?l_law_won ?c_law_won ?k_law_won ?a_law_led ?l_law_led ?c_law_led ?k_law_led ?a_law_word ?l_law_word ?c_law_word ?k_law_word ?a_law_heard ?l_law_heard ?c_law_heard ?k_law_heard ?a_law_all_end ?l_law_all_end ?c_law_all_end ?k_law_all_end ?a_law_is_profile ?l_law_is_profile ?c_law_is_profile ?k_law_is_profile ?a_law_refused_right ?l_law_refused_right ?c_law_refused_right ?k_law_refused_right ?a_law_right ?l_law_right ?c_law_right ?k_law_right ?a_law ?l_law ?c_law ?k_law ?z_ArithmeticError ?z_LookupError ?z_ValueError ?z_abs ?z_all ?z_bool ?z_divmod ?z_enumerate ?z_int ?z_isinstance ?z_len ?z_list ?z_max ?z_range ?z_repr ?z_sorted ?z_str ?z_sum ?z_tuple ?z_zip ?a_ORDERS ?l_ORDERS ?a_NAMES ?l_NAMES ?a_RULES ?l_RULES ?a_MOST_VOTERS ?g_InvalidProfile ?g_InvalidRule ?g_WrongValue ?g_WrongName ?g_NotPossible ?exI_0 ?exO_0 ?hd_0 ?sa_0 ?ga_0 ?gg_0 ?nN_0 ?kC_0 ?xC_0 ?sB_0 ?tC_0 ?sp_0 ?mr_0 ?ca_0 ?mo_0 ?fI_0 ?ti_0 ?lI_0 ?cI_0 ?lC_0 ?vs_0 ?ff_0 ?lV_0 ?mc_0 ?kt_ArithmeticError_0 ?kt_LookupError_0 ?kt_ValueError_0 ?kt_InvalidProfile_0 ?kt_InvalidRule_0 ?kt_WrongValue_0 ?kt_WrongName_0 ?kt_NotPossible_0 ?em_0 ?exI_1 ?exO_1 ?hd_1 ?sa_1 ?ga_1 ?gg_1 ?nN_1 ?kC_1 ?xC_1 ?sB_1 ?tC_1 ?sp_1 ?mr_1 ?ca_1 ?mo_1 ?fI_1 ?ti_1 ?lI_1 ?cI_1 ?lC_1 ?vs_1 ?ff_1 ?lV_1 ?mc_1 ?kt_ArithmeticError_1 ?kt_LookupError_1 ?kt_ValueError_1 ?kt_InvalidProfile_1 ?kt_InvalidRule_1 ?kt_WrongValue_1 ?kt_WrongName_1 ?kt_NotPossible_1 ?em_1 ?sD ?tD ?stt ?z_super ?nsm ?npR ?hcd
    (case a_is_integer => k_is)
    (case l_is_integer => k_is)
    (case c_is_integer => k_is)
    (case k_is_integer => k_is)
    (case a_is_natural => k_is)
    (case l_is_natural => k_is)
    (case c_is_natural => k_is)
    (case k_is_natural => k_is)
    (case a_is_tuple_of => k_is)
    (case l_is_tuple_of => k_is)
    (case c_is_tuple_of => k_is)
    (case k_is_tuple_of => k_is)
    (case a_are_naturals => k_is)
    (case l_are_naturals => k_is)
    (case c_are_naturals => k_is)
    (case k_are_naturals => k_is)
    (case a_check_profile => k_is)
    (case l_check_profile => k_is)
    (case c_check_profile => k_is)
    (case k_check_profile => k_is)
    (case a_pairs_of => k_is)
    (case l_pairs_of => k_is)
    (case c_pairs_of => k_is)
    (case k_pairs_of => k_is)
    (case a_firsts_of => k_is)
    (case l_firsts_of => k_is)
    (case c_firsts_of => k_is)
    (case k_firsts_of => k_is)
    (case a_lasts_of => k_is)
    (case l_lasts_of => k_is)
    (case c_lasts_of => k_is)
    (case k_lasts_of => k_is)
    (case a_check_rule => k_is)
    (case l_check_rule => k_is)
    (case c_check_rule => k_is)
    (case k_check_rule => k_is)
    (case a_marks_of => k_is)
    (case l_marks_of => k_is)
    (case c_marks_of => k_is)
    (case k_marks_of => k_is)
    (case a_unbeaten => k_is)
    (case l_unbeaten => k_is)
    (case c_unbeaten => k_is)
    (case k_unbeaten => k_is)
    (case a_won_by => k_is)
    (case l_won_by => k_is)
    (case c_won_by => k_is)
    (case k_won_by => k_is)
    (case a_winners => k_is)
    (case l_winners => k_is)
    (case c_winners => k_is)
    (case k_winners => k_is)
    (case a_law_well => k_is)
    (case l_law_well => k_is)
    (case c_law_well => k_is)
    (case k_law_well => k_is)
    (case a_law_draw => k_is)
    (case l_law_draw => k_is)
    (case c_law_draw => k_is)
    (case k_law_draw => k_is)
    (case a_law_of => k_is)
    (case l_law_of => k_is)
    (case c_law_of => k_is)
    (case k_law_of => k_is)
    (case a_law_odd => k_is)
    (case l_law_odd => k_is)
    (case c_law_odd => k_is)
    (case k_law_odd => k_is)
    (case a_law_profile => k_is)
    (case l_law_profile => k_is)
    (case c_law_profile => k_is)
    (case k_law_profile => k_is)
    (case a_law_sum => k_is)
    (case l_law_sum => k_is)
    (case c_law_sum => k_is)
    (case k_law_sum => k_is)
    (case a_law_won => k_is)
    (case l_law_won => k_is)
    (case c_law_won => k_is)
    (case k_law_won => k_is)
    (case a_law_led => k_is)
    (case l_law_led => k_is)
    (case c_law_led => k_is)
    (case k_law_led => k_is)
    (case a_law_word => k_is)
    (case l_law_word => k_is)
    (case c_law_word => k_is)
    (case k_law_word => k_is)
    (case a_law_heard => k_is)
    (case l_law_heard => k_is)
    (case c_law_heard => k_is)
    (case k_law_heard => k_is)
    (case a_law_all_end => k_is)
    (case l_law_all_end => k_is)
    (case c_law_all_end => k_is)
    (case k_law_all_end => k_is)
    (case a_law_is_profile => k_is)
    (case l_law_is_profile => k_is)
    (case c_law_is_profile => k_is)
    (case k_law_is_profile => k_is)
    (case a_law_refused_right => k_is)
    (case l_law_refused_right => k_is)
    (case c_law_refused_right => k_is)
    (case k_law_refused_right => k_is)
    (case a_law_right => k_is)
    (case l_law_right => k_is)
    (case c_law_right => k_is)
    (case k_law_right => k_is)
    (case a_law => k_is)
    (case l_law => k_is)
    (case c_law => k_is)
    (case k_law => k_is)
    (case z_ArithmeticError => k_is)
    (case z_LookupError => k_is)
    (case z_ValueError => k_is)
    (case z_abs => k_is)
    (case z_all => k_is)
    (case z_bool => k_is)
    (case z_divmod => k_is)
    (case z_enumerate => k_is)
    (case z_int => k_is)
    (case z_isinstance => k_is)
    (case z_len => k_is)
    (case z_list => k_is)
    (case z_max => k_is)
    (case z_range => k_is)
    (case z_repr => k_is)
    (case z_sorted => k_is)
    (case z_str => k_is)
    (case z_sum => k_is)
    (case z_tuple => k_is)
    (case z_zip => k_is)
    (case a_ORDERS => k_is)
    (case l_ORDERS => k_is)
    (case a_NAMES => k_is)
    (case l_NAMES => k_is)
    (case a_RULES => k_is)
    (case l_RULES => k_is)
    (case a_MOST_VOTERS => k_is)
    (case g_InvalidProfile => k_is)
    (case g_InvalidRule => k_is)
    (case g_WrongValue => k_is)
    (case g_WrongName => k_is)
    (case g_NotPossible => k_is)
    (case exI_0 => kernel_rfl)
    (case exO_0 => kernel_rfl)
    (case hd_0 => k_is)
    (case sa_0 => k_is)
    (case ga_0 => k_is)
    (case gg_0 => k_is)
    (case nN_0 => k_is)
    (case kC_0 => k_is)
    (case xC_0 => k_is)
    (case sB_0 => k_is)
    (case tC_0 => k_is)
    (case sp_0 => kernel_rfl)
    (case mr_0 => k_is)
    (case ca_0 => k_is)
    (case mo_0 => k_is)
    (case fI_0 => k_is)
    (case ti_0 => k_is)
    (case lI_0 => k_is)
    (case cI_0 => k_is)
    (case lC_0 => k_is)
    (case vs_0 => exact rfl)
    (case ff_0 => kernel_rfl)
    (case lV_0 => k_is)
    (case mc_0 => intro L; exact ⟨_, rfl⟩)
    (case kt_ArithmeticError_0 => kernel_rfl)
    (case kt_LookupError_0 => kernel_rfl)
    (case kt_ValueError_0 => kernel_rfl)
    (case kt_InvalidProfile_0 => kernel_rfl)
    (case kt_InvalidRule_0 => kernel_rfl)
    (case kt_WrongValue_0 => kernel_rfl)
    (case kt_WrongName_0 => kernel_rfl)
    (case kt_NotPossible_0 => kernel_rfl)
    (case em_0 => kernel_rfl)
    (case exI_1 => kernel_rfl)
    (case exO_1 => kernel_rfl)
    (case hd_1 => k_is)
    (case sa_1 => k_is)
    (case ga_1 => k_is)
    (case gg_1 => k_is)
    (case nN_1 => k_is)
    (case kC_1 => k_is)
    (case xC_1 => k_is)
    (case sB_1 => k_is)
    (case tC_1 => k_is)
    (case sp_1 => kernel_rfl)
    (case mr_1 => k_is)
    (case ca_1 => k_is)
    (case mo_1 => k_is)
    (case fI_1 => k_is)
    (case ti_1 => k_is)
    (case lI_1 => k_is)
    (case cI_1 => k_is)
    (case lC_1 => k_is)
    (case vs_1 => exact rfl)
    (case ff_1 => kernel_rfl)
    (case lV_1 => k_is)
    (case mc_1 => intro L; exact ⟨_, rfl⟩)
    (case kt_ArithmeticError_1 => kernel_rfl)
    (case kt_LookupError_1 => kernel_rfl)
    (case kt_ValueError_1 => kernel_rfl)
    (case kt_InvalidProfile_1 => kernel_rfl)
    (case kt_InvalidRule_1 => kernel_rfl)
    (case kt_WrongValue_1 => kernel_rfl)
    (case kt_WrongName_1 => kernel_rfl)
    (case kt_NotPossible_1 => kernel_rfl)
    (case em_1 => kernel_rfl)
    (case sD => k_is)
    (case tD => k_is)
    (case stt => k_is)
    (case z_super => k_is)
    (case nsm => kernel_rfl)
    (case npR => kernel_rfl)
    (case hcd => kernel_rfl)

