import PyProof.Rows.All
import Wide.All
import OpenK.AllK
import Wide.FinOn
import HandS.ForExc
import HandS.ForMost
import HandS.Wide
import HandS.IsInst
import HandS.Flow
import HandS.Style
import HandS.CallSlots
import HandS.TryMany
import HandS.TryElse
import HandS.ExcIs
import HandS.ExcField
import HandS.More
import HandS.Zip
import HandS.Rev
import HandS.Conv
import PySem.Challenge.RW_rowbreadth_k29_numbers_handed_out
set_option Elab.async false
set_option linter.all false
set_option maxRecDepth 100000
set_option maxHeartbeats 4000000
/-! A second layer over HandS: data as trees, a def's body as a plain function on trees. -/
namespace T
open PySem PySem.Spec PyProof.Rows L2

/-! ### data as trees -/
inductive D where
  | non | bl (b : Bool) | int (i : Int) | str (s : Str) | ty (n : String) | glo (x : Str)
  | tup (xs : List D) | lst (xs : List D) | scr (ns : List Int)
  | obj (c : Str) (fs : List (Str × D)) | dct (kvs : List (Key × D))
/-- what a run ends with: a value, an exception of the program's own, or it is not told -/
inductive Ex where
  | stuck
  | exc (c : Str) (fs : List (Str × D))
inductive R (α : Type) where
  | ok (a : α)
  | err (e : Ex)
def R.bind {α β : Type} (x : R α) (f : α → R β) : R β := match x with
  | .ok a => f a
  | .err e => .err e
@[simp] theorem R.bind_ok {α β : Type} (a : α) (f : α → R β) : R.bind (.ok a) f = f a := rfl
@[simp] theorem R.bind_err {α β : Type} (e : Ex) (f : α → R β) : R.bind (.err e) f = .err e := rfl
abbrev R.stuck {α : Type} : R α := .err .stuck
instance : Monad R where
  pure := .ok
  bind := R.bind
@[simp] theorem R.bind_eq {α β : Type} (x : R α) (f : α → R β) : (x >>= f) = R.bind x f := rfl
@[simp] theorem R.pure_eq {α : Type} (a : α) : (pure a : R α) = .ok a := rfl
theorem R.bind_assoc {α β γ : Type} (x : R α) (f : α → R β) (g : β → R γ) : (x.bind f).bind g = x.bind fun a => (f a).bind g := by
  cases x <;> rfl

/-! ### a tree in the heap -/
structure Wd where
  K : PySem.W.Frag
  mg : Str → Option Value
mutual
inductive Rep (W : Wd) (G : Hp) : V → D → Prop
  | non : Rep W G .non .non
  | bl (b : Bool) : Rep W G (.bl b) (.bl b)
  | int (i : Int) : Rep W G (.int i) (.int i)
  | str (x : Str) : Rep W G (.str x) (.str x)
  | ty (n : String) : Rep W G (.ty n) (.ty n)
  | glo {x : Str} {a : Addr} : W.mg x = some (.ref a) → Rep W G (.ref a) (.glo x)
  | tup {a : Addr} {vs : List V} {ds : List D} : G a = some (.tup vs) → Reps W G vs ds → Rep W G (.ref a) (.tup ds)
  | lst {a : Addr} {vs : List V} {ds : List D} : G a = some (.lst vs) → Reps W G vs ds → Rep W G (.ref a) (.lst ds)
  | scr {a : Addr} {ns : List Int} : SqL W.K G a (ns.map V.int) → Rep W G (.ref a) (.scr ns)
  | obj {a C dx : Addr} {c : Str} {fs : List (Str × V)} {ds : List (Str × D)} : W.mg c = some (.ref C) → G a = some (.ins C dx fs) → Flds W G fs ds → Rep W G (.ref a) (.obj c ds)
  | dct {a : Addr} {kvs : List (Key × V)} {ds : List (Key × D)} : G a = some (.dK kvs) → Prs W G kvs ds → Rep W G (.ref a) (.dct ds)
inductive Reps (W : Wd) (G : Hp) : List V → List D → Prop
  | nil : Reps W G [] []
  | cons {v : V} {vs : List V} {d : D} {ds : List D} : Rep W G v d → Reps W G vs ds → Reps W G (v :: vs) (d :: ds)
inductive Flds (W : Wd) (G : Hp) : List (Str × V) → List (Str × D) → Prop
  | nil : Flds W G [] []
  | cons {f : Str} {v : V} {vs : List (Str × V)} {d : D} {ds : List (Str × D)} : Rep W G v d → Flds W G vs ds → Flds W G ((f, v) :: vs) ((f, d) :: ds)
inductive Prs (W : Wd) (G : Hp) : List (Key × V) → List (Key × D) → Prop
  | nil : Prs W G [] []
  | cons {k : Key} {v : V} {vs : List (Key × V)} {d : D} {ds : List (Key × D)} : Rep W G v d → Prs W G vs ds → Prs W G ((k, v) :: vs) ((k, d) :: ds)
end
section
variable {W : Wd} {G G' : Hp}
mutual
theorem Rep.mono (h : Same G G') : ∀ {v : V} {d : D}, Rep W G v d → Rep W G' v d
  | _, _, .non => .non
  | _, _, .bl b => .bl b
  | _, _, .int i => .int i
  | _, _, .str x => .str x
  | _, _, .ty n => .ty n
  | _, _, .glo e => .glo e
  | _, _, .tup e r => .tup (h _ _ e) (Reps.mono h r)
  | _, _, .lst e r => .lst (h _ _ e) (Reps.mono h r)
  | _, _, .scr e => .scr (h.seq e)
  | _, _, .obj m e r => .obj m (h _ _ e) (Flds.mono h r)
  | _, _, .dct e r => .dct (h _ _ e) (Prs.mono h r)
theorem Reps.mono (h : Same G G') : ∀ {vs : List V} {ds : List D}, Reps W G vs ds → Reps W G' vs ds
  | _, _, .nil => .nil
  | _, _, .cons r t => .cons (Rep.mono h r) (Reps.mono h t)
theorem Flds.mono (h : Same G G') : ∀ {vs : List (Str × V)} {ds : List (Str × D)}, Flds W G vs ds → Flds W G' vs ds
  | _, _, .nil => .nil
  | _, _, .cons r t => .cons (Rep.mono h r) (Flds.mono h t)
theorem Prs.mono (h : Same G G') : ∀ {vs : List (Key × V)} {ds : List (Key × D)}, Prs W G vs ds → Prs W G' vs ds
  | _, _, .nil => .nil
  | _, _, .cons r t => .cons (Rep.mono h r) (Prs.mono h t)
end
theorem Reps.length : ∀ {vs : List V} {ds : List D}, Reps W G vs ds → vs.length = ds.length
  | _, _, .nil => rfl
  | _, _, .cons _ t => congrArg (· + 1) t.length
theorem Reps.get : ∀ {vs : List V} {ds : List D} {i : Nat} {d : D}, Reps W G vs ds → ds[i]? = some d → ∃ v, vs[i]? = some v ∧ Rep W G v d
  | _, _, i, _, .nil, h => by simp at h
  | _, _, 0, _, .cons r _, h => by simp at h; subst h; exact ⟨_, rfl, r⟩
  | _, _, i + 1, _, .cons _ t, h => by simpa using Reps.get (i := i) t (by simpa using h)
theorem Reps.getV : ∀ {vs : List V} {ds : List D} {i : Nat} {v : V}, Reps W G vs ds → vs[i]? = some v → ∃ d, ds[i]? = some d ∧ Rep W G v d
  | _, _, i, _, .nil, h => by simp at h
  | _, _, 0, _, .cons r _, h => by simp at h; subst h; exact ⟨_, rfl, r⟩
  | _, _, i + 1, _, .cons _ t, h => by simpa using Reps.getV (i := i) t (by simpa using h)
theorem Reps.append : ∀ {vs ws : List V} {ds es : List D}, Reps W G vs ds → Reps W G ws es → Reps W G (vs ++ ws) (ds ++ es)
  | _, _, _, _, .nil, s => s
  | _, _, _, _, .cons r t, s => .cons r (Reps.append t s)
theorem Reps.take : ∀ {vs : List V} {ds : List D} (n : Nat), Reps W G vs ds → Reps W G (vs.take n) (ds.take n)
  | _, _, 0, _ => .nil
  | _, _, _ + 1, .nil => .nil
  | _, _, n + 1, .cons r t => .cons r (Reps.take n t)
theorem Reps.drop : ∀ {vs : List V} {ds : List D} (n : Nat), Reps W G vs ds → Reps W G (vs.drop n) (ds.drop n)
  | _, _, 0, r => r
  | _, _, _ + 1, .nil => .nil
  | _, _, n + 1, .cons _ t => Reps.drop n t
theorem Reps.set : ∀ {vs : List V} {ds : List D} {v : V} {d : D} (n : Nat), Rep W G v d → Reps W G vs ds → Reps W G (vs.set n v) (ds.set n d)
  | _, _, _, _, _, _, .nil => .nil
  | _, _, _, _, 0, q, .cons _ t => .cons q t
  | _, _, _, _, n + 1, q, .cons r t => .cons r (Reps.set n q t)
theorem Reps.reverse : ∀ {vs : List V} {ds : List D}, Reps W G vs ds → Reps W G vs.reverse ds.reverse
  | _, _, .nil => .nil
  | _, _, .cons r t => by
    rw [List.reverse_cons, List.reverse_cons]
    exact (Reps.reverse t).append (.cons r .nil)
theorem Reps.dropLast {vs : List V} {ds : List D} (r : Reps W G vs ds) : Reps W G vs.dropLast ds.dropLast := by
  rw [List.dropLast_eq_take, List.dropLast_eq_take, r.length]
  exact r.take _
theorem Reps.eraseIdx : ∀ {vs : List V} {ds : List D} (n : Nat), Reps W G vs ds → Reps W G (vs.eraseIdx n) (ds.eraseIdx n)
  | _, _, _, .nil => .nil
  | _, _, 0, .cons _ t => t
  | _, _, n + 1, .cons r t => .cons r (Reps.eraseIdx n t)
theorem Reps.ints : ∀ (ns : List Int), Reps W G (ns.map V.int) (ns.map D.int)
  | [] => .nil
  | n :: ns => .cons (.int n) (Reps.ints ns)
theorem Reps.rep {v : V} {d : D} (r : Rep W G v d) : ∀ n : Nat, Reps W G (List.replicate n v) (List.replicate n d)
  | 0 => .nil
  | n + 1 => .cons r (Reps.rep r n)
theorem Reps.flatRep {vs : List V} {ds : List D} (r : Reps W G vs ds) : ∀ n : Nat, Reps W G (List.replicate n vs).flatten (List.replicate n ds).flatten
  | 0 => .nil
  | n + 1 => by
    rw [List.replicate_succ, List.replicate_succ, List.flatten_cons, List.flatten_cons]
    exact r.append (Reps.flatRep r n)
end

/-! ### slots: a frozen tree, or a list (a dict) that only this slot has -/
inductive Sl where
  | un | val (d : D) | own (d : D)
abbrev En := List Sl
structure Bs where
  W : Wd
  H0 : Hp
  G0 : Hp
  E : Str → List (Str × D) → Hp → Prop
def Body (W : Wd) (G H : Hp) (p : Addr) (d : D) : Prop :=
  (∃ vs ds, d = .lst ds ∧ H p = some (.lst vs) ∧ Reps W G vs ds) ∨ (∃ vs ds, d = .dct ds ∧ H p = some (.dK vs) ∧ Prs W G vs ds)
structure OwnAt (B : Bs) (G H : Hp) (p : Addr) (d : D) : Prop where
  h0 : B.H0 p = none
  g : G p = none
  body : Body B.W G H p d
def SlOk (B : Bs) (G H : Hp) (o : Option (Option V)) : Sl → Prop
  | .un => True
  | .val d => ∃ v, o = some (some v) ∧ Rep B.W G v d
  | .own d => ∃ p, o = some (some (.ref p)) ∧ OwnAt B G H p d
def Owned (ρ : En) (σ : L2.St) (p : Addr) : Prop := ∃ (i : Nat) (d : D), ρ[i]? = some (.own d) ∧ σ[i]? = some (some (.ref p))
structure Ok (B : Bs) (ρ : En) (G : Hp) (σ : L2.St) (H : Hp) : Prop where
  len : ρ.length = σ.length
  g0 : Same B.G0 G
  gh : Same G H
  h0 : Same B.H0 H
  nw : ∀ a o, G a = some o → B.G0 a = some o ∨ B.H0 a = none
  sl : ∀ (i : Nat) s, ρ[i]? = some s → SlOk B G H σ[i]? s
  ap : ∀ (i j : Nat) d e p, ρ[i]? = some (.own d) → ρ[j]? = some (.own e) → σ[i]? = some (some (.ref p)) → σ[j]? = some (some (.ref p)) → i = j
def SlLe : Sl → Sl → Prop
  | .own _, .own _ => True
  | .val _, .own _ => True
  | .val d, .val e => d = e
  | .un, .un => True
  | _, _ => False
theorem SlLe.refl (s : Sl) : SlLe s s := by cases s <;> first | trivial | rfl
theorem SlLe.trans {a b c : Sl} (h : SlLe a b) (k : SlLe b c) : SlLe a c := by
  cases a <;> cases b <;> cases c <;> simp_all [SlLe]
/-- from one state to the next while an expression is evaluated -/
structure Nx (B : Bs) (ρ : En) (G : Hp) (σ : L2.St) (H : Hp) (ρ' : En) (G' H' : Hp) : Prop where
  ext : Same G G'
  ok : Ok B ρ' G' σ H'
  keep : ∀ a o, H a = some o → ¬ Owned ρ σ a → H' a = some o
  gnew : ∀ a o, G' a = some o → G a = some o ∨ H a = none ∨ Owned ρ σ a
  le : ∀ (i : Nat) s', ρ'[i]? = some s' → ∃ s, ρ[i]? = some s ∧ SlLe s' s
  dom : ∀ a o, H a = some o → ∃ o', H' a = some o'
section
variable {B : Bs} {ρ ρ' ρ'' : En} {G G' G'' : Hp} {σ σ' : L2.St} {H H' H'' : Hp}
theorem Nx.refl (ok : Ok B ρ G σ H) : Nx B ρ G σ H ρ G H := ⟨Same.refl _, ok, fun _ _ e _ => e, fun _ _ e => .inl e, fun _ s e => ⟨s, e, SlLe.refl s⟩, fun _ o e => ⟨o, e⟩⟩
theorem Nx.owned (n : Nx B ρ G σ H ρ' G' H') {a : Addr} (h : Owned ρ' σ a) : Owned ρ σ a := by
  obtain ⟨i, d, e, q⟩ := h
  obtain ⟨s, e', l⟩ := n.le i _ e
  cases s with
  | own d' => exact ⟨i, d', e', q⟩
  | val _ => exact (show False from l).elim
  | un => exact (show False from l).elim
theorem Ok.ownedSome (ok : Ok B ρ G σ H) {a : Addr} (h : Owned ρ σ a) : ∃ o, H a = some o := by
  obtain ⟨i, d, e, q⟩ := h
  obtain ⟨p, e2, _, _, b⟩ := (show SlOk B G H σ[i]? (.own d) from ok.sl i _ e)
  rw [q] at e2
  cases e2
  rcases b with ⟨vs, ds, _, hb, _⟩ | ⟨vs, ds, _, hb, _⟩
  · exact ⟨_, hb⟩
  · exact ⟨_, hb⟩
theorem Nx.trans (n : Nx B ρ G σ H ρ' G' H') (m : Nx B ρ' G' σ H' ρ'' G'' H'') : Nx B ρ G σ H ρ'' G'' H'' := by
  refine ⟨n.ext.trans m.ext, m.ok, fun a o e no => m.keep a o (n.keep a o e no) fun z => no (n.owned z), fun a o e => ?_, fun i s e => ?_, fun a o e => ?_⟩
  · rcases m.gnew a o e with h | h | h
    · exact n.gnew a o h
    · by_cases z : Owned ρ σ a
      · exact .inr (.inr z)
      · refine .inr (.inl ?_)
        cases q : H a with
        | none => rfl
        | some u => rw [n.keep a u q z] at h; cases h
    · exact .inr (.inr (n.owned h))
  · obtain ⟨s1, e1, l1⟩ := m.le i s e
    obtain ⟨s2, e2, l2⟩ := n.le i s1 e1
    exact ⟨s2, e2, l1.trans l2⟩
  · obtain ⟨o1, e1⟩ := n.dom a o e
    exact m.dom a o1 e1
theorem Nx.free (n : Nx B ρ G σ H ρ' G' H') {a : Addr} (e : H' a = none) : H a = none := by
  cases q : H a with
  | none => rfl
  | some o =>
    obtain ⟨o', e'⟩ := n.dom a o q
    rw [e'] at e; cases e
end

/-! ### results of expressions -/
inductive Rs where
  | val (d : D) | new (d : D) | bor (i : Nat)
def RsOk (B : Bs) (ρ : En) (G : Hp) (σ : L2.St) (H : Hp) (v : V) : Rs → Prop
  | .val d => Rep B.W G v d
  | .new d => ∃ p, v = .ref p ∧ OwnAt B G H p d ∧ ¬ Owned ρ σ p
  | .bor i => σ[i]? = some (some v)
/-- a result that is no new one -/
def RvOk (B : Bs) (G : Hp) (σ : L2.St) (v : V) : Rs → Prop
  | .val d => Rep B.W G v d
  | .new _ => False
  | .bor i => σ[i]? = some (some v)
inductive RvsOk (B : Bs) (G : Hp) (σ : L2.St) : List V → List Rs → Prop
  | nil : RvsOk B G σ [] []
  | cons {v vs r rs} : RvOk B G σ v r → RvsOk B G σ vs rs → RvsOk B G σ (v :: vs) (r :: rs)
/-- a new result is newer than where its expression began -/
def Fr (H : Hp) (v : V) : Rs → Prop
  | .new _ => ∀ p, v = .ref p → H p = none
  | _ => True
abbrev M (α : Type) := En → R (α × En)
def PR (B : Bs) (ρ : En) (G : Hp) (σ : L2.St) (H : Hp) (Q : V → Hp → Prop) : R (Rs × En) → Prop
  | .ok (r, ρ') => ∀ v G' H', Nx B ρ G σ H ρ' G' H' → RsOk B ρ' G' σ H' v r → Fr H v r → Q v H'
  | .err (.exc c fs) => ∀ H', Same B.H0 H' → B.E c fs H'
  | .err .stuck => False
def PT' (B : Bs) (ρ : En) (G : Hp) (σ : L2.St) (H : Hp) (Q : Bool → Hp → Prop) : R (Bool × En) → Prop
  | .ok (b, ρ') => ∀ G' H', Nx B ρ G σ H ρ' G' H' → Q b H'
  | .err (.exc c fs) => ∀ H', Same B.H0 H' → B.E c fs H'
  | .err .stuck => False
def PL (B : Bs) (ρ : En) (G : Hp) (σ : L2.St) (H : Hp) (Q : List V → Hp → Prop) : R (List Rs × En) → Prop
  | .ok (rs, ρ') => ∀ vs G' H', Nx B ρ G σ H ρ' G' H' → RvsOk B G' σ vs rs → Q vs H'
  | .err (.exc c fs) => ∀ H', Same B.H0 H' → B.E c fs H'
  | .err .stuck => False
def tR (B : Bs) (m : M Rs) : TE := fun σ H Q => ∃ ρ G, Ok B ρ G σ H ∧ PR B ρ G σ H Q (m ρ)
def tT (B : Bs) (m : M Bool) : TT := fun σ H Q => ∃ ρ G, Ok B ρ G σ H ∧ PT' B ρ G σ H Q (m ρ)
def tA (B : Bs) (m : M (List Rs)) : TA := fun σ H Q => ∃ ρ G, Ok B ρ G σ H ∧ PL B ρ G σ H Q (m ρ)
section
variable {B : Bs} {ρ ρ' ρ1 : En} {G G' G1 : Hp} {σ σ' : L2.St} {H H' H1 : Hp} {Q : V → Hp → Prop}
theorem Fr.back (n : Nx B ρ G σ H ρ1 G1 H1) {v : V} {r : Rs} (h : Fr H1 v r) : Fr H v r := by
  cases r with
  | new d => exact fun p e => n.free (h p e)
  | _ => exact True.intro
theorem PR.mono (n : Nx B ρ G σ H ρ1 G1 H1) {x : R (Rs × En)} (h : PR B ρ G σ H Q x) : PR B ρ1 G1 σ H1 Q x := by
  cases x with
  | ok a => obtain ⟨r, ρ'⟩ := a; exact fun v G' H' m q f => h v G' H' (n.trans m) q (f.back n)
  | err e => cases e <;> exact h
theorem PT'.mono {Q : Bool → Hp → Prop} (n : Nx B ρ G σ H ρ1 G1 H1) {x : R (Bool × En)} (h : PT' B ρ G σ H Q x) : PT' B ρ1 G1 σ H1 Q x := by
  cases x with
  | ok a => obtain ⟨r, ρ'⟩ := a; exact fun G' H' m => h G' H' (n.trans m)
  | err e => cases e <;> exact h
theorem PL.mono {Q : List V → Hp → Prop} (n : Nx B ρ G σ H ρ1 G1 H1) {x : R (List Rs × En)} (h : PL B ρ G σ H Q x) : PL B ρ1 G1 σ H1 Q x := by
  cases x with
  | ok a => obtain ⟨r, ρ'⟩ := a; exact fun v G' H' m q => h v G' H' (n.trans m) q
  | err e => cases e <;> exact h
/-- what is wanted where a run ends in an error, whatever its kind -/
def PErr (B : Bs) : Ex → Prop
  | .exc c fs => ∀ H', Same B.H0 H' → B.E c fs H'
  | .stuck => False
theorem PR.err {e : Ex} (h : PR B ρ G σ H Q (.err e)) : PErr B e := by cases e <;> exact h
theorem PT'.err {Q : Bool → Hp → Prop} {e : Ex} (h : PT' B ρ G σ H Q (.err e)) : PErr B e := by cases e <;> exact h
theorem PL.err {Q : List V → Hp → Prop} {e : Ex} (h : PL B ρ G σ H Q (.err e)) : PErr B e := by cases e <;> exact h
theorem RvOk.mono (e : Same G G1) {v : V} {r : Rs} (h : RvOk B G σ v r) : RvOk B G1 σ v r := by
  cases r with
  | val d => exact Rep.mono e h
  | bor i => exact h
  | new d => exact h
theorem RvsOk.mono (e : Same G G1) : ∀ {vs : List V} {rs : List Rs}, RvsOk B G σ vs rs → RvsOk B G1 σ vs rs
  | _, _, .nil => .nil
  | _, _, .cons r t => .cons (r.mono e) (RvsOk.mono e t)
theorem own_lt {i : Nat} {s : Sl} (e : ρ[i]? = some s) : i < ρ.length := (List.getElem?_eq_some_iff.mp e).1
/-- a cell that is only ours becomes frozen -/
theorem freeze {p : Addr} {d : D} (ok : Ok B ρ G σ H) (o : OwnAt B G H p d) (hρ : ∀ (j : Nat) e, ρ'[j]? = some (.own e) → ρ[j]? = some (.own e) ∧ σ[j]? ≠ some (some (.ref p)))
    (hv : ∀ (j : Nat) e, ρ'[j]? = some (.val e) → ρ[j]? = some (.val e) ∨ (ρ[j]? = some (.own e) ∧ e = d ∧ σ[j]? = some (some (.ref p)))) (hl : ρ'.length = ρ.length) :
    ∃ o', H p = some o' ∧ Ok B ρ' (upd G p o') σ H ∧ Rep B.W (upd G p o') (.ref p) d ∧ Same G (upd G p o') := by
  obtain ⟨o1, o2, o3⟩ := o
  have ext : ∀ o', Same G (upd G p o') := fun o' b u e => by rw [upd_ne (ne_of_none e o2)]; exact e
  have main : ∀ o', H p = some o' → Rep B.W (upd G p o') (.ref p) d → Ok B ρ' (upd G p o') σ H := fun o' hp rp => by
    refine ⟨hl.trans ok.len, ok.g0.trans (ext o'), fun b u e => ?_, ok.h0, fun b u e => ?_, fun i s e => ?_, fun i j a b q e1 e2 => ok.ap i j a b q (hρ i a e1).1 (hρ j b e2).1⟩
    · by_cases hb : b = p
      · subst hb; rw [upd_same] at e; cases e; exact hp
      · rw [upd_ne hb] at e; exact ok.gh b u e
    · by_cases hb : b = p
      · subst hb; exact .inr o1
      · rw [upd_ne hb] at e; exact ok.nw b u e
    · cases s with
      | un => exact True.intro
      | val a =>
        rcases hv i a e with z | ⟨_, ez, z⟩
        · obtain ⟨u, q1, q2⟩ := (show SlOk B G H σ[i]? (.val a) from ok.sl i _ z)
          exact ⟨u, q1, q2.mono (ext o')⟩
        · subst ez
          exact ⟨_, z, rp⟩
      | own a =>
        obtain ⟨q, q1, ⟨w1, w2, w3⟩⟩ := (show SlOk B G H σ[i]? (.own a) from ok.sl i _ (hρ i a e).1)
        refine ⟨q, q1, w1, ?_, ?_⟩
        · rw [upd_ne]
          · exact w2
          · rintro rfl
            exact (hρ i a e).2 q1
        · rcases w3 with ⟨vs, ds, z1, z2, z3⟩ | ⟨vs, ds, z1, z2, z3⟩
          · exact .inl ⟨vs, ds, z1, z2, z3.mono (ext o')⟩
          · exact .inr ⟨vs, ds, z1, z2, z3.mono (ext o')⟩
  rcases o3 with ⟨vs, ds, rfl, hb, r⟩ | ⟨vs, ds, rfl, hb, r⟩
  · have rp : Rep B.W (upd G p (.lst vs)) (.ref p) (.lst ds) := .lst upd_same (r.mono (ext _))
    exact ⟨_, hb, main _ hb rp, rp, ext _⟩
  · have rp : Rep B.W (upd G p (.dK vs)) (.ref p) (.dct ds) := .dct upd_same (r.mono (ext _))
    exact ⟨_, hb, main _ hb rp, rp, ext _⟩
end

/-! ### settling a result: a new one is frozen -/
@[simp] def st : Rs → Rs
  | .new d => .val d
  | r => r
section
variable {B : Bs} {ρ ρ' ρ1 : En} {G G' G1 : Hp} {σ σ' : L2.St} {H H' H1 : Hp} {v : V} {r : Rs} {d : D} {Q : V → Hp → Prop}
theorem settle (n : Nx B ρ G σ H ρ1 G1 H1) (h : RsOk B ρ1 G1 σ H1 v r) (f : Fr H v r) : ∃ G2, Nx B ρ G σ H ρ1 G2 H1 ∧ RvOk B G2 σ v (st r) ∧ Same G1 G2 := by
  cases r with
  | val d => exact ⟨G1, n, h, Same.refl _⟩
  | bor i => exact ⟨G1, n, h, Same.refl _⟩
  | new d =>
    obtain ⟨p, rfl, o, no⟩ := h
    obtain ⟨o', hp, ok', rp, ext⟩ := freeze (ρ' := ρ1) n.ok o (fun j e q => ⟨q, fun z => no ⟨j, e, q, z⟩⟩) (fun j e q => .inl q) rfl
    refine ⟨_, ⟨n.ext.trans ext, ok', n.keep, fun a u q => ?_, n.le, n.dom⟩, rp, ext⟩
    by_cases z : a = p
    · subst z; exact .inr (.inl (f _ rfl))
    · rw [upd_ne z] at q; exact n.gnew a u q
/-- THE BIND: an expression ahead of what is done with its settled result -/
theorem run {α : Type} {m : M Rs} {X : Rs × En → R α} {P : R α → En → Hp → Hp → Prop} (ok : Ok B ρ G σ H) (h : P ((m ρ).bind X) ρ G H)
    (hm : ∀ {ρ1 G1 H1} x, Nx B ρ G σ H ρ1 G1 H1 → P x ρ G H → P x ρ1 G1 H1) (he : ∀ e, P (.err e) ρ G H → PErr B e) :
    tR B m σ H fun x H1 => ∃ r ρ1 G1, Nx B ρ G σ H ρ1 G1 H1 ∧ RvOk B G1 σ x (st r) ∧ P (X (r, ρ1)) ρ1 G1 H1 := by
  refine ⟨ρ, G, ok, ?_⟩
  cases e : m ρ with
  | ok a =>
    obtain ⟨r, ρ1⟩ := a
    rw [e] at h
    intro v G' H' n q f
    obtain ⟨G2, n2, q2, _⟩ := settle n q f
    exact ⟨r, ρ1, G2, n2, q2, hm _ n2 h⟩
  | err e' =>
    rw [e] at h
    have := he e' h
    cases e' <;> exact this
/-- .. with the result as it came -/
theorem runN {α : Type} {m : M Rs} {X : Rs × En → R α} {P : R α → En → Hp → Hp → Prop} (ok : Ok B ρ G σ H) (h : P ((m ρ).bind X) ρ G H)
    (hm : ∀ {ρ1 G1 H1} x, Nx B ρ G σ H ρ1 G1 H1 → P x ρ G H → P x ρ1 G1 H1) (he : ∀ e, P (.err e) ρ G H → PErr B e) :
    tR B m σ H fun x H1 => ∃ r ρ1 G1, Nx B ρ G σ H ρ1 G1 H1 ∧ RsOk B ρ1 G1 σ H1 x r ∧ Fr H x r ∧ P (X (r, ρ1)) ρ1 G1 H1 := by
  refine ⟨ρ, G, ok, ?_⟩
  cases e : m ρ with
  | ok a =>
    obtain ⟨r, ρ1⟩ := a
    rw [e] at h
    exact fun v G' H' n q f => ⟨r, ρ1, G', n, q, f, hm _ n h⟩
  | err e' =>
    rw [e] at h
    have := he e' h
    cases e' <;> exact this
theorem runT {α : Type} {m : M Bool} {X : Bool × En → R α} {P : R α → En → Hp → Hp → Prop} (ok : Ok B ρ G σ H) (h : P ((m ρ).bind X) ρ G H)
    (hm : ∀ {ρ1 G1 H1} x, Nx B ρ G σ H ρ1 G1 H1 → P x ρ G H → P x ρ1 G1 H1) (he : ∀ e, P (.err e) ρ G H → PErr B e) :
    tT B m σ H fun b H1 => ∃ ρ1 G1, Nx B ρ G σ H ρ1 G1 H1 ∧ P (X (b, ρ1)) ρ1 G1 H1 := by
  refine ⟨ρ, G, ok, ?_⟩
  cases e : m ρ with
  | ok a =>
    obtain ⟨r, ρ1⟩ := a
    rw [e] at h
    exact fun G' H' n => ⟨ρ1, G', n, hm _ n h⟩
  | err e' =>
    rw [e] at h
    have := he e' h
    cases e' <;> exact this
theorem runL {α : Type} {m : M (List Rs)} {X : List Rs × En → R α} {P : R α → En → Hp → Hp → Prop} (ok : Ok B ρ G σ H) (h : P ((m ρ).bind X) ρ G H)
    (hm : ∀ {ρ1 G1 H1} x, Nx B ρ G σ H ρ1 G1 H1 → P x ρ G H → P x ρ1 G1 H1) (he : ∀ e, P (.err e) ρ G H → PErr B e) :
    tA B m σ H fun vs H1 => ∃ rs ρ1 G1, Nx B ρ G σ H ρ1 G1 H1 ∧ RvsOk B G1 σ vs rs ∧ P (X (rs, ρ1)) ρ1 G1 H1 := by
  refine ⟨ρ, G, ok, ?_⟩
  cases e : m ρ with
  | ok a =>
    obtain ⟨r, ρ1⟩ := a
    rw [e] at h
    exact fun v G' H' n q => ⟨r, ρ1, G', n, q, hm _ n h⟩
  | err e' =>
    rw [e] at h
    have := he e' h
    cases e' <;> exact this
end

/-! ### looking at a result, freezing it -/
@[simp] def look (ρ : En) (i : Nat) : R D := match ρ[i]? with
  | some (.own d) => .ok d
  | some (.val d) => .ok d
  | _ => R.stuck
@[simp] def pk (ρ : En) : Rs → R D
  | .val d => .ok d
  | .new d => .ok d
  | .bor i => look ρ i
/-- a value that may be looked at -/
def PkOk (B : Bs) (G H : Hp) (v : V) (d : D) : Prop := Rep B.W G v d ∨ ∃ p, v = .ref p ∧ OwnAt B G H p d
@[simp] def fz (r : Rs) (ρ : En) : R (D × En) := match r with
  | .val d => .ok (d, ρ)
  | .new d => .ok (d, ρ)
  | .bor i => match ρ[i]? with
    | some (.own d) => .ok (d, ρ.set i (.val d))
    | some (.val d) => .ok (d, ρ)
    | _ => R.stuck
@[simp] def fzs : List Rs → En → R (List D × En)
  | [], ρ => .ok ([], ρ)
  | r :: rs, ρ => (fz r ρ).bind fun (d, ρ1) => (fzs rs ρ1).bind fun (ds, ρ2) => .ok (d :: ds, ρ2)
section
variable {B : Bs} {ρ ρ' ρ1 : En} {G G' G1 : Hp} {σ σ' : L2.St} {H H' H1 : Hp} {v : V} {r : Rs} {d : D}
theorem pk_ok (ok : Ok B ρ G σ H) (h : RvOk B G σ v (st r)) (e : pk ρ r = .ok d) : PkOk B G H v d := by
  cases r with
  | val d' => cases e; exact .inl h
  | new d' => cases e; exact .inl h
  | bor i =>
    have e : look ρ i = .ok d := e
    have h : σ[i]? = some (some v) := h
    unfold look at e
    split at e
    · rename_i d' q
      cases e
      obtain ⟨p, e2, o⟩ := (show SlOk B G H σ[i]? (.own d) from ok.sl i _ q)
      rw [h] at e2
      cases e2
      exact .inr ⟨p, rfl, o⟩
    · rename_i d' q
      cases e
      obtain ⟨u, e2, o⟩ := (show SlOk B G H σ[i]? (.val d) from ok.sl i _ q)
      rw [h] at e2
      cases e2
      exact .inl o
    · cases e
theorem fz_ok (ok : Ok B ρ G σ H) (h : RvOk B G σ v (st r)) (e : fz r ρ = .ok (d, ρ')) : ∃ G', Nx B ρ G σ H ρ' G' H ∧ Rep B.W G' v d := by
  cases r with
  | val d' => cases e; exact ⟨G, Nx.refl ok, h⟩
  | new d' => cases e; exact ⟨G, Nx.refl ok, h⟩
  | bor i =>
    have h : σ[i]? = some (some v) := h
    unfold fz at e
    dsimp only at e
    split at e
    · rename_i d' q
      cases e
      obtain ⟨p, e2, o⟩ := (show SlOk B G H σ[i]? (.own d) from ok.sl i _ q)
      rw [h] at e2
      cases e2
      have hi := own_lt q
      obtain ⟨o', hp, ok', rp, ext⟩ := freeze (ρ' := ρ.set i (.val d)) ok o (fun j e z => by
          by_cases hj : i = j
          · subst hj; rw [List.getElem?_set_self hi] at z; cases z
          · rw [List.getElem?_set_ne hj] at z
            exact ⟨z, fun w => hj (ok.ap i j _ _ p q z h w)⟩) (fun j e z => by
          by_cases hj : i = j
          · subst hj; rw [List.getElem?_set_self hi] at z; cases z; exact .inr ⟨q, rfl, h⟩
          · rw [List.getElem?_set_ne hj] at z; exact .inl z) (List.length_set ..)
      refine ⟨_, ⟨ext, ok', fun _ _ q _ => q, fun a u z => ?_, fun j s z => ?_, fun _ o e => ⟨o, e⟩⟩, rp⟩
      · by_cases w : a = p
        · subst w; exact .inr (.inr ⟨i, d, q, h⟩)
        · rw [upd_ne w] at z; exact .inl z
      · by_cases hj : i = j
        · subst hj; rw [List.getElem?_set_self hi] at z; cases z; exact ⟨_, q, True.intro⟩
        · rw [List.getElem?_set_ne hj] at z; exact ⟨s, z, SlLe.refl s⟩
    · rename_i d' q
      cases e
      obtain ⟨u, e2, o⟩ := (show SlOk B G H σ[i]? (.val d) from ok.sl i _ q)
      rw [h] at e2
      cases e2
      exact ⟨G, Nx.refl ok, o⟩
    · cases e
theorem st_st (r : Rs) : st (st r) = st r := by cases r <;> rfl
theorem fzs_ok : ∀ {rs : List Rs} {vs : List V} {ds : List D} {ρ ρ' : En} {G : Hp}, Ok B ρ G σ H → RvsOk B G σ vs rs → fzs rs ρ = .ok (ds, ρ') → ∃ G', Nx B ρ G σ H ρ' G' H ∧ Reps B.W G' vs ds
  | [], _, _, ρ, ρ', G, ok, .nil, e => by cases e; exact ⟨G, Nx.refl ok, .nil⟩
  | r :: rs, _, ds, ρ, ρ', G, ok, .cons (v := v) h t, e => by
    unfold fzs at e
    cases e1 : fz r ρ with
    | err x => rw [e1] at e; cases e
    | ok a =>
      obtain ⟨d, ρ1⟩ := a
      rw [e1] at e
      dsimp only [R.bind_ok] at e
      cases e2 : fzs rs ρ1 with
      | err x => rw [e2] at e; cases e
      | ok b =>
        obtain ⟨ds', ρ2⟩ := b
        rw [e2] at e
        cases e
        have h' : RvOk B G σ v (st r) := by cases r <;> first | exact h | exact (show False from h).elim
        obtain ⟨G1, n1, r1⟩ := fz_ok ok h' e1
        obtain ⟨G2, n2, r2⟩ := fzs_ok n1.ok (t.mono n1.ext) e2
        exact ⟨G2, n1.trans n2, .cons (r1.mono n2.ext) r2⟩
end
end T
namespace T
open PySem PySem.Spec PyProof.Rows L2

/-! ### weakening readings -/
section
variable {X : Cx}
theorem PE.imp {e : Expr} {t t' : TE} (h : PE X e t) (w : ∀ σ H Q, t' σ H Q → t σ H Q) : PE X e t' := ⟨fun pins s σ H Q I q => h.run pins s σ H Q I (w σ H Q q)⟩
theorem PT.imp {e : Expr} {t t' : TT} (h : PT X e t) (w : ∀ σ H Q, t' σ H Q → t σ H Q) : PT X e t' := ⟨fun pins s σ H Q I q => h.run pins s σ H Q I (w σ H Q q)⟩
theorem PW.imp {e : Expr} {t t' : TT} (h : PW X e t) (w : ∀ σ H Q, t' σ H Q → t σ H Q) : PW X e t' := ⟨fun wh pins s σ H Q I q => h.run wh pins s σ H Q I (w σ H Q q)⟩
theorem PA.imp {e : List Expr} {t t' : TA} (h : PA X e t) (w : ∀ σ H Q, t' σ H Q → t σ H Q) : PA X e t' := ⟨fun pos pins s σ H Q I q => h.run pos pins s σ H Q I (w σ H Q q)⟩
end

/-! ### what a looked-at value is -/
section
variable {B : Bs} {ρ : En} {G H : Hp} {σ : L2.St} {v : V}
theorem PkOk.int_of {i : Int} (h : PkOk B G H v (.int i)) : v = .int i := by
  rcases h with h | ⟨p, _, _, _, b⟩
  · cases h; rfl
  · rcases b with ⟨_, _, e, _⟩ | ⟨_, _, e, _⟩ <;> cases e
theorem PkOk.str_of {i : Str} (h : PkOk B G H v (.str i)) : v = .str i := by
  rcases h with h | ⟨p, _, _, _, b⟩
  · cases h; rfl
  · rcases b with ⟨_, _, e, _⟩ | ⟨_, _, e, _⟩ <;> cases e
theorem PkOk.bl_of {i : Bool} (h : PkOk B G H v (.bl i)) : v = .bl i := by
  rcases h with h | ⟨p, _, _, _, b⟩
  · cases h; rfl
  · rcases b with ⟨_, _, e, _⟩ | ⟨_, _, e, _⟩ <;> cases e
theorem PkOk.ty_of {i : String} (h : PkOk B G H v (.ty i)) : v = .ty i := by
  rcases h with h | ⟨p, _, _, _, b⟩
  · cases h; rfl
  · rcases b with ⟨_, _, e, _⟩ | ⟨_, _, e, _⟩ <;> cases e
theorem PkOk.lst_of (ok : Ok B ρ G σ H) {ds : List D} (h : PkOk B G H v (.lst ds)) : ∃ a vs, v = .ref a ∧ H a = some (.lst vs) ∧ Reps B.W G vs ds := by
  rcases h with h | ⟨p, rfl, _, _, b⟩
  · cases h with
    | lst e r => exact ⟨_, _, rfl, ok.gh _ _ e, r⟩
  · rcases b with ⟨vs, ds', e, hb, r⟩ | ⟨_, _, e, _⟩
    · cases e; exact ⟨_, _, rfl, hb, r⟩
    · cases e
theorem PkOk.tup_of (ok : Ok B ρ G σ H) {ds : List D} (h : PkOk B G H v (.tup ds)) : ∃ a vs, v = .ref a ∧ H a = some (.tup vs) ∧ Reps B.W G vs ds := by
  rcases h with h | ⟨p, rfl, _, _, b⟩
  · cases h with
    | tup e r => exact ⟨_, _, rfl, ok.gh _ _ e, r⟩
  · rcases b with ⟨vs, ds', e, hb, r⟩ | ⟨_, _, e, _⟩ <;> cases e
theorem PkOk.scr_of (ok : Ok B ρ G σ H) {ns : List Int} (h : PkOk B G H v (.scr ns)) : ∃ a, v = .ref a ∧ SqL B.W.K H a (ns.map V.int) := by
  rcases h with h | ⟨p, rfl, _, _, b⟩
  · cases h with
    | scr e => exact ⟨_, rfl, ok.gh.seq e⟩
  · rcases b with ⟨vs, ds', e, hb, r⟩ | ⟨_, _, e, _⟩ <;> cases e
/-- the state behind a new cell -/
theorem Ok.grow (ok : Ok B ρ G σ H) {p : Addr} {o : HO} (hp : H p = none) : Ok B ρ G σ (upd H p o) := by
  have sm : Same H (upd H p o) := fun b u e => by rw [upd_ne (ne_of_none e hp)]; exact e
  refine ⟨ok.len, ok.g0, ok.gh.trans sm, ok.h0.trans sm, ok.nw, fun i s e => ?_, ok.ap⟩
  have q := ok.sl i s e
  cases s with
  | un => exact True.intro
  | val d => exact q
  | own d =>
    obtain ⟨p', e1, o1, o2, b⟩ := q
    refine ⟨p', e1, o1, o2, ?_⟩
    rcases b with ⟨vs, ds, z1, z2, z3⟩ | ⟨vs, ds, z1, z2, z3⟩
    · exact .inl ⟨vs, ds, z1, sm _ _ z2, z3⟩
    · exact .inr ⟨vs, ds, z1, sm _ _ z2, z3⟩
theorem Nx.grow (ok : Ok B ρ G σ H) {p : Addr} {o : HO} (hp : H p = none) : Nx B ρ G σ H ρ G (upd H p o) := by
  have sm : Same H (upd H p o) := fun b u e => by rw [upd_ne (ne_of_none e hp)]; exact e
  exact ⟨Same.refl _, ok.grow hp, fun a u e _ => sm a u e, fun _ _ e => .inl e, fun _ s e => ⟨s, e, SlLe.refl s⟩, fun a u e => ⟨u, sm a u e⟩⟩
theorem Ok.h0none (ok : Ok B ρ G σ H) {p : Addr} (hp : H p = none) : B.H0 p = none := Same.free ok.h0 hp
theorem Ok.gnone (ok : Ok B ρ G σ H) {p : Addr} (hp : H p = none) : G p = none := Same.free ok.gh hp
theorem Ok.notOwned (ok : Ok B ρ G σ H) {p : Addr} (hp : H p = none) : ¬ Owned ρ σ p := fun z => by
  obtain ⟨o, e⟩ := ok.ownedSome z
  rw [hp] at e; cases e
/-- a new list -/
theorem new_lst (ok : Ok B ρ G σ H) {Q : V → Hp → Prop} {vs : List V} {ds : List D} (r : Reps B.W G vs ds) (h : PR B ρ G σ H Q (.ok (.new (.lst ds), ρ))) : ∀ p, H p = none → Q (.ref p) (upd H p (.lst vs)) := fun p hp =>
  h _ G _ (Nx.grow ok hp) ⟨p, rfl, ⟨ok.h0none hp, ok.gnone hp, .inl ⟨vs, ds, rfl, upd_same, r⟩⟩, ok.notOwned hp⟩ (fun q e => by cases e; exact hp)
theorem new_dct (ok : Ok B ρ G σ H) {Q : V → Hp → Prop} {vs : List (Key × V)} {ds : List (Key × D)} (r : Prs B.W G vs ds) (h : PR B ρ G σ H Q (.ok (.new (.dct ds), ρ))) : ∀ p, H p = none → Q (.ref p) (upd H p (.dK vs)) := fun p hp =>
  h _ G _ (Nx.grow ok hp) ⟨p, rfl, ⟨ok.h0none hp, ok.gnone hp, .inr ⟨vs, ds, rfl, upd_same, r⟩⟩, ok.notOwned hp⟩ (fun q e => by cases e; exact hp)
/-- a new frozen cell -/
theorem Nx.lay (ok : Ok B ρ G σ H) {p : Addr} {o : HO} (hp : H p = none) : Nx B ρ G σ H ρ (upd G p o) (upd H p o) := by
  have sm : Same H (upd H p o) := fun b u e => by rw [upd_ne (ne_of_none e hp)]; exact e
  have gm : Same G (upd G p o) := fun b u e => by rw [upd_ne (ne_of_none e (ok.gnone hp))]; exact e
  have ok' := ok.grow (o := o) hp
  refine ⟨gm, ⟨ok.len, ok.g0.trans gm, fun a u e => ?_, ok'.h0, fun a u e => ?_, fun i s e => ?_, ok.ap⟩, fun a u e _ => sm a u e, fun a u e => ?_, fun _ s e => ⟨s, e, SlLe.refl s⟩, fun a u e => ⟨u, sm a u e⟩⟩
  · by_cases z : a = p
    · subst z; rw [upd_same] at e ⊢; exact e
    · rw [upd_ne z] at e ⊢; exact ok.gh a u e
  · by_cases z : a = p
    · subst z; exact .inr (ok.h0none hp)
    · rw [upd_ne z] at e; exact ok.nw a u e
  · have q := ok'.sl i s e
    cases s with
    | un => exact True.intro
    | val d => obtain ⟨v, e1, r⟩ := q; exact ⟨v, e1, r.mono gm⟩
    | own d =>
      obtain ⟨p', e1, o1, o2, b⟩ := q
      have ne : p' ≠ p := fun z => by
        subst z
        obtain ⟨_, e9⟩ := ok.ownedSome ⟨i, d, e, e1⟩
        rw [hp] at e9; cases e9
      refine ⟨p', e1, o1, by rw [upd_ne ne]; exact o2, ?_⟩
      rcases b with ⟨vs, ds, z1, z2, z3⟩ | ⟨vs, ds, z1, z2, z3⟩
      · exact .inl ⟨vs, ds, z1, z2, z3.mono gm⟩
      · exact .inr ⟨vs, ds, z1, z2, z3.mono gm⟩
  · by_cases z : a = p
    · subst z; exact .inr (.inl hp)
    · rw [upd_ne z] at e; exact .inl e
theorem new_tup (ok : Ok B ρ G σ H) {Q : V → Hp → Prop} {vs : List V} {ds : List D} (r : Reps B.W G vs ds) (h : PR B ρ G σ H Q (.ok (.val (.tup ds), ρ))) : ∀ p, H p = none → Q (.ref p) (upd H p (.tup vs)) := fun p hp =>
  have n := Nx.lay (o := .tup vs) ok hp
  h _ _ _ n (Rep.tup upd_same (r.mono n.ext)) True.intro
end

/-! ### names, constants -/
@[simp] def eLoc (i : Nat) : M Rs := fun ρ => match ρ[i]? with
  | some (.val d) => .ok (.val d, ρ)
  | some (.own _) => .ok (.bor i, ρ)
  | _ => R.stuck
@[simp] def eC (d : D) : M Rs := fun ρ => .ok (.val d, ρ)
section
variable {X : Cx} {B : Bs}
theorem te_loc (i : Nat) {x : Str} {pos : Pos} (h : PE X (.Name x pos) (tVar i)) : PE X (.Name x pos) (tR B (eLoc i)) := by
  refine PE.imp h fun σ H Q h => ?_
  obtain ⟨ρ, G, ok, h⟩ := h
  unfold eLoc at h
  split at h
  · rename_i d e
    obtain ⟨v, e1, r⟩ := (show SlOk B G H σ[i]? (.val d) from ok.sl i _ e)
    exact ⟨v, e1, h v G H (Nx.refl ok) r True.intro⟩
  · rename_i d e
    obtain ⟨p, e1, o⟩ := (show SlOk B G H σ[i]? (.own d) from ok.sl i _ e)
    exact ⟨_, e1, h _ G H (Nx.refl ok) e1 True.intro⟩
  · exact h.elim
theorem te_c {e : Expr} {v : V} {d : D} (h : PE X e (tC v)) (r : ∀ G, Rep B.W G v d) : PE X e (tR B (eC d)) := by
  refine PE.imp h fun σ H Q h => ?_
  obtain ⟨ρ, G, ok, h⟩ := h
  exact h v G H (Nx.refl ok) (r G) True.intro
theorem te_int {i j pos} : PE X (.Constant (.int i) j pos) (tR B (eC (.int i))) := te_c pe_int fun _ => .int i
theorem te_str {i j pos} : PE X (.Constant (.str i) j pos) (tR B (eC (.str i))) := te_c pe_str fun _ => .str i
theorem te_bl {i j pos} : PE X (.Constant (.bool i) j pos) (tR B (eC (.bl i))) := te_c pe_bl fun _ => .bl i
theorem te_non {j pos} : PE X (.Constant .none j pos) (tR B (eC .non)) := te_c pe_non fun _ => .non
end

/-! ### two operands -/
@[simp] def eBin (f : D → D → R Rs) (a b : M Rs) : M Rs := fun ρ => (a ρ).bind fun p => (b p.2).bind fun q => (pk q.2 p.1).bind fun x => (pk q.2 q.1).bind fun y => (f x y).bind fun r => .ok (r, q.2)
def Op2 (B : Bs) (r : R2) (f : D → D → R Rs) : Prop := ∀ {σ ρ G H x y d1 d2} {Q : VK}, Ok B ρ G σ H → PkOk B G H x d1 → PkOk B G H y d2 → PR B ρ G σ H Q ((f d1 d2).bind fun r => .ok (r, ρ)) → r x y H Q
section
variable {X : Cx} {B : Bs} {ma mb mc : M Rs} {a b c : Expr} {pos : Pos} {r r' : R2} {f f' : D → D → R Rs}
/-- looking never ends in an error but stuck -/
theorem pk_err {ρ : En} {r : Rs} {e : Ex} (h : pk ρ r = .err e) : e = .stuck := by
  cases r with
  | val d => cases h
  | new d => cases h
  | bor i =>
    have h : look ρ i = .err e := h
    unfold look at h
    split at h <;> cases h
    rfl
theorem fz_err {ρ : En} {r : Rs} {e : Ex} (h : fz r ρ = .err e) : e = .stuck := by
  cases r with
  | val d => cases h
  | new d => cases h
  | bor i =>
    unfold fz at h
    dsimp only at h
    split at h <;> cases h
    rfl
theorem pk_get {α : Type} {P : R α → Prop} {ρ : En} {r : Rs} {Y : D → R α} (h : P ((pk ρ r).bind Y)) (hs : ¬ P (.err .stuck)) : ∃ d, pk ρ r = .ok d ∧ P (Y d) := by
  cases e : pk ρ r with
  | ok d => rw [e] at h; exact ⟨d, rfl, h⟩
  | err x => rw [e] at h; cases pk_err e; exact (hs h).elim
theorem fz_get {α : Type} {P : R α → Prop} {ρ : En} {r : Rs} {Y : D × En → R α} (h : P ((fz r ρ).bind Y)) (hs : ¬ P (.err .stuck)) : ∃ d ρ', fz r ρ = .ok (d, ρ') ∧ P (Y (d, ρ')) := by
  cases e : fz r ρ with
  | ok d => obtain ⟨d, ρ'⟩ := d; rw [e] at h; exact ⟨d, ρ', rfl, h⟩
  | err x => rw [e] at h; cases fz_err e; exact (hs h).elim
theorem fzs_get {α : Type} {P : R α → Prop} (hs : ¬ P (.err .stuck)) : ∀ {rs : List Rs} {ρ : En} {Y : List D × En → R α}, P ((fzs rs ρ).bind Y) → ∃ ds ρ', fzs rs ρ = .ok (ds, ρ') ∧ P (Y (ds, ρ'))
  | [], ρ, Y, h => ⟨[], ρ, rfl, h⟩
  | r :: rs, ρ, Y, h => by
    unfold fzs at h
    rw [R.bind_assoc] at h
    obtain ⟨d, ρ1, e1, h⟩ := fz_get h hs
    dsimp only at h
    rw [R.bind_assoc] at h
    obtain ⟨ds, ρ2, e2, h⟩ := fzs_get hs h
    refine ⟨d :: ds, ρ2, ?_, h⟩
    unfold fzs
    rw [e1]
    dsimp only [R.bind_ok]
    rw [e2]
    rfl
theorem tR.mono {m : M Rs} {σ : L2.St} {H : Hp} {Q Q' : VK} (h : tR B m σ H Q) (w : ∀ v H', Q v H' → Q' v H') : tR B m σ H Q' := by
  obtain ⟨ρ, G, ok, h⟩ := h
  refine ⟨ρ, G, ok, ?_⟩
  cases e : m ρ with
  | ok a => rw [e] at h; exact fun v G' H' n q f => w _ _ (h v G' H' n q f)
  | err x => rw [e] at h; cases x <;> exact h
theorem tT.mono {m : M Bool} {σ : L2.St} {H : Hp} {Q Q' : Bool → Hp → Prop} (h : tT B m σ H Q) (w : ∀ v H', Q v H' → Q' v H') : tT B m σ H Q' := by
  obtain ⟨ρ, G, ok, h⟩ := h
  refine ⟨ρ, G, ok, ?_⟩
  cases e : m ρ with
  | ok a => rw [e] at h; exact fun G' H' n => w _ _ (h G' H' n)
  | err x => rw [e] at h; cases x <;> exact h
theorem tA.mono {m : M (List Rs)} {σ : L2.St} {H : Hp} {Q Q' : List V → Hp → Prop} (h : tA B m σ H Q) (w : ∀ v H', Q v H' → Q' v H') : tA B m σ H Q' := by
  obtain ⟨ρ, G, ok, h⟩ := h
  refine ⟨ρ, G, ok, ?_⟩
  cases e : m ρ with
  | ok a => rw [e] at h; exact fun v G' H' n q => w _ _ (h v G' H' n q)
  | err x => rw [e] at h; cases x <;> exact h
variable {ρ : En} {G H : Hp} {σ : L2.St} {Q : VK}
/-- run, the end wanted of a result -/
theorem runR {m : M Rs} {Y : Rs × En → R (Rs × En)} (ok : Ok B ρ G σ H) (h : PR B ρ G σ H Q ((m ρ).bind Y)) : tR B m σ H fun x H1 => ∃ r ρ1 G1, Nx B ρ G σ H ρ1 G1 H1 ∧ RvOk B G1 σ x (st r) ∧ PR B ρ1 G1 σ H1 Q (Y (r, ρ1)) :=
  run (P := fun x ρ G H => PR B ρ G σ H Q x) ok h (fun x n h => PR.mono n h) (fun e h => PR.err h)
theorem runB {m : M Rs} {Y : Rs × En → R (Bool × En)} {Q : Bool → Hp → Prop} (ok : Ok B ρ G σ H) (h : PT' B ρ G σ H Q ((m ρ).bind Y)) : tR B m σ H fun x H1 => ∃ r ρ1 G1, Nx B ρ G σ H ρ1 G1 H1 ∧ RvOk B G1 σ x (st r) ∧ PT' B ρ1 G1 σ H1 Q (Y (r, ρ1)) :=
  run (P := fun x ρ G H => PT' B ρ G σ H Q x) ok h (fun x n h => PT'.mono n h) (fun e h => PT'.err h)
theorem bin_read (hf : Op2 B r f) (h : tR B (eBin f ma mb) σ H Q) : tOp r (tR B ma) (tR B mb) σ H Q := by
  obtain ⟨ρ, G, ok, h⟩ := h
  refine tR.mono (runR ok h) fun x H1 ⟨r1, ρ1, G1, n1, q1, h1⟩ => ?_
  refine tR.mono (runR n1.ok h1) fun y H2 ⟨r2, ρ2, G2, n2, q2, h2⟩ => ?_
  obtain ⟨d1, e1, h2⟩ := pk_get (P := PR B ρ2 G2 σ H2 Q) h2 id
  obtain ⟨d2, e2, h2⟩ := pk_get (P := PR B ρ2 G2 σ H2 Q) h2 id
  exact hf n2.ok (pk_ok n2.ok (q1.mono n2.ext) e1) (pk_ok n2.ok q2 e2) h2
theorem te_bin {op : Operator} (ho : OpR X (binaryOp op) r) (hf : Op2 B r f) (ha : PE X a (tR B ma)) (hb : PE X b (tR B mb)) : PE X (.BinOp a op b pos) (tR B (eBin f ma mb)) :=
  PE.imp (pe_op ho ha hb) fun _ _ _ h => bin_read hf h
theorem te_cmp {op : CmpOp} (ho : OpR X (compareOp op) r) (hf : Op2 B r f) (ha : PE X a (tR B ma)) (hb : PE X b (tR B mb)) (hm : behindInMarks op b = false) : PE X (.Compare a [op] [b] pos) (tR B (eBin f ma mb)) :=
  PE.imp (pe_cmpR ho ha hb hm) fun _ _ _ h => bin_read hf h
/-- a result that is a bool -/
@[simp] def asB (p : Rs × En) : R (Bool × En) := match p.1 with
  | .val (.bl b) => .ok (b, p.2)
  | _ => R.stuck
@[simp] def tOf (m : M Rs) : M Bool := fun ρ => (m ρ).bind asB
theorem tst_read {m : M Rs} {Q : Bool → Hp → Prop} (h : tT B (tOf m) σ H Q) : tR B m σ H fun x H1 => ∃ k, x = .bl k ∧ Q k H1 := by
  obtain ⟨ρ, G, ok, h⟩ := h
  refine ⟨ρ, G, ok, ?_⟩
  unfold tOf at h
  cases e : m ρ with
  | err x => rw [e] at h; cases x <;> exact h
  | ok a =>
    obtain ⟨r, ρ1⟩ := a
    rw [e] at h
    cases r with
    | new d => exact (show False from h).elim
    | bor d => exact (show False from h).elim
    | val d =>
      cases d with
      | bl k =>
        intro v G' H' n q f
        cases q
        exact ⟨k, rfl, h G' H' n⟩
      | _ => exact (show False from h).elim
theorem tt_cmp {op : CmpOp} (ho : OpR X (compareOp op) r) (hf : Op2 B r f) (ha : PE X a (tR B ma)) (hb : PE X b (tR B mb)) (hm : behindInMarks op b = false) : PT X (.Compare a [op] [b] pos) (tT B (tOf (eBin f ma mb))) :=
  PT.imp (pt_cmpR ho ha hb hm) fun σ H Q h => bin_read (Q := fun x H' => ∃ k, x = .bl k ∧ Q k H') hf (tst_read h)
theorem tt_val (ha : PE X a (tR B ma)) (he : ∀ whole, isTrue a X.env whole = (do let v ← whole; standAt a.pos; holding [v] (truthy v)) := by intro _; rfl) : PT X a (tT B (tOf ma)) :=
  PT.imp (pt_val ha he) fun σ H Q h => tst_read h
/-- a op b op' c -/
@[simp] def eChain (f f' : D → D → R Rs) (a b c : M Rs) : M Rs := fun ρ => (a ρ).bind fun p => (b p.2).bind fun q => (pk q.2 p.1).bind fun x => (pk q.2 q.1).bind fun y => (f x y).bind fun r => match r with
  | .val (.bl true) => (c q.2).bind fun s => (pk s.2 q.1).bind fun y' => (pk s.2 s.1).bind fun z => (f' y' z).bind fun r' => .ok (r', s.2)
  | .val (.bl false) => .ok (.val (.bl false), q.2)
  | _ => R.stuck
/-- a comparison's answer -/
def OpB (B : Bs) (r : R2) (f : D → D → R Rs) : Prop := ∀ {σ ρ G H x y d1 d2} {Q : VK}, Ok B ρ G σ H → PkOk B G H x d1 → PkOk B G H y d2 → ∀ k, f d1 d2 = .ok (.val (.bl k)) → Q (.bl k) H → r x y H Q
def OnlyB (f : D → D → R Rs) : Prop := ∀ d1 d2, f d1 d2 = R.stuck ∨ ∃ k, f d1 d2 = .ok (.val (.bl k))
theorem OpB.op2 (h : OpB B r f) (o : OnlyB f) : Op2 B r f := by
  intro σ ρ G H x y d1 d2 Q ok p1 p2 q
  rcases o d1 d2 with e | ⟨k, e⟩
  · rw [e] at q; exact q.elim
  · rw [e] at q
    exact h ok p1 p2 k e (q (.bl k) G H (Nx.refl ok) (.bl k) True.intro)
theorem chain_read (h1 : OpB B r f) (o1 : OnlyB f) (h2 : Op2 B r' f') (h : tR B (eChain f f' ma mb mc) σ H Q) : tChain r r' (tR B ma) (tR B mb) (tR B mc) σ H Q := by
  obtain ⟨ρ, G, ok, h⟩ := h
  refine tR.mono (runR ok h) fun x H1 ⟨r1, ρ1, G1, n1, q1, h⟩ => ?_
  refine tR.mono (runR n1.ok h) fun y H2 ⟨r2, ρ2, G2, n2, q2, h⟩ => ?_
  obtain ⟨d1, e1, h⟩ := pk_get (P := PR B ρ2 G2 σ H2 Q) h id
  obtain ⟨d2, e2, h⟩ := pk_get (P := PR B ρ2 G2 σ H2 Q) h id
  rcases o1 d1 d2 with e | ⟨k, e⟩
  · rw [e] at h; exact (show False from h).elim
  · rw [e] at h
    refine h1 n2.ok (pk_ok n2.ok (q1.mono n2.ext) e1) (pk_ok n2.ok q2 e2) k e ⟨k, rfl, ?_⟩
    cases k with
    | true =>
      refine iteT ?_
      refine tR.mono (runR n2.ok h) fun z H3 ⟨r3, ρ3, G3, n3, q3, h⟩ => ?_
      obtain ⟨d3, e3, h⟩ := pk_get (P := PR B ρ3 G3 σ H3 Q) h id
      obtain ⟨d4, e4, h⟩ := pk_get (P := PR B ρ3 G3 σ H3 Q) h id
      exact h2 n3.ok (pk_ok n3.ok (q2.mono n3.ext) e3) (pk_ok n3.ok q3 e4) h
    | false => exact iteF (h (.bl false) G2 H2 (Nx.refl n2.ok) (.bl false) True.intro)
theorem te_chain {op op' : CmpOp} (ho : OpR X (compareOp op) r) (ho' : OpR X (compareOp op') r') (h1 : OpB B r f) (o1 : OnlyB f) (h2 : Op2 B r' f') (ha : PE X a (tR B ma)) (hb : PE X b (tR B mb)) (hc : PE X c (tR B mc))
    (hm : lastMarks [op, op'] [b, c] = false := by with_unfolding_all rfl) : PE X (.Compare a [op, op'] [b, c] pos) (tR B (eChain f f' ma mb mc)) :=
  PE.imp (pe_chain ho ho' ha hb hc hm) fun _ _ _ h => chain_read h1 o1 h2 h
theorem tt_chain {op op' : CmpOp} (ho : OpR X (compareOp op) r) (ho' : OpR X (compareOp op') r') (h1 : OpB B r f) (o1 : OnlyB f) (h2 : Op2 B r' f') (ha : PE X a (tR B ma)) (hb : PE X b (tR B mb)) (hc : PE X c (tR B mc))
    (hm : lastMarks [op, op'] [b, c] = false := by with_unfolding_all rfl) : PT X (.Compare a [op, op'] [b, c] pos) (tT B (tOf (eChain f f' ma mb mc))) :=
  PT.imp (pt_chain ho ho' ha hb hc hm) fun σ H Q h => chain_read (Q := fun x H' => ∃ k, x = .bl k ∧ Q k H') h1 o1 h2 (tst_read h)
end

/-! ### operators on trees -/
@[simp] def dAdd : D → D → R Rs
  | .int i, .int j => .ok (.val (.int (i + j)))
  | .str a, .str b => if a.length + b.length ≤ 16777216 then .ok (.val (.str (a ++ b))) else R.stuck
  | .lst a, .lst b => if a.length + b.length ≤ 16777216 then .ok (.new (.lst (a ++ b))) else R.stuck
  | _, _ => R.stuck
@[simp] def dSub : D → D → R Rs
  | .int i, .int j => .ok (.val (.int (i - j)))
  | _, _ => R.stuck
/-- one of two factors is below 2 ^ 64 -/
def MulOk (i j : Int) : Prop := (-18446744073709551616 < i ∧ i < 18446744073709551616) ∨ (-18446744073709551616 < j ∧ j < 18446744073709551616)
noncomputable instance (i j : Int) : Decidable (MulOk i j) := Classical.propDecidable _
@[simp] theorem MulOk.right {i j : Int} (h : -18446744073709551616 < j ∧ j < 18446744073709551616) : MulOk i j = True := eq_true (.inr h)
@[simp] theorem MulOk.left {i j : Int} (h : -18446744073709551616 < i ∧ i < 18446744073709551616) : MulOk i j = True := eq_true (.inl h)
@[simp] noncomputable def dMul : D → D → R Rs
  | .int i, .int j => if MulOk i j then .ok (.val (.int (i * j))) else R.stuck
  | .lst a, .int k => if -9223372036854775808 ≤ k ∧ k < 9223372036854775808 ∧ a.length * k.toNat ≤ 16777216 then .ok (.new (.lst (List.replicate k.toNat a).flatten)) else R.stuck
  | _, _ => R.stuck
@[simp] def dFdiv : D → D → R Rs
  | .int i, .int j => if 0 < j ∧ j < 340282366920938463463374607431768211456 then .ok (.val (.int (i / j))) else
      if j < 0 ∧ -340282366920938463463374607431768211456 < j then .ok (.val (.int (i.fdiv j))) else R.stuck
  | _, _ => R.stuck
@[simp] def dMod : D → D → R Rs
  | .int i, .int j => if 0 < j then .ok (.val (.int (i % j))) else if j < 0 then .ok (.val (.int (i.fmod j))) else R.stuck
  | _, _ => R.stuck
@[simp] def dAnd : D → D → R Rs
  | .int i, .int j => .ok (.val (.int (Builtin.bitAnd i j)))
  | _, _ => R.stuck
@[simp] def dOr : D → D → R Rs
  | .int i, .int j => .ok (.val (.int (Builtin.bitOr i j)))
  | _, _ => R.stuck
@[simp] def dXor : D → D → R Rs
  | .int i, .int j => .ok (.val (.int (Builtin.bitXor i j)))
  | _, _ => R.stuck
@[simp] def dPow : D → D → R Rs
  | .int i, .int j => if 0 ≤ j ∧ j ≤ 1000000 ∧ -18446744073709551616 < i ∧ i < 18446744073709551616 then .ok (.val (.int (i ^ j.toNat))) else R.stuck
  | _, _ => R.stuck
@[simp] def dShl : D → D → R Rs
  | .int i, .int j => if 0 ≤ j ∧ j ≤ 1000000 ∧ -18446744073709551616 < i ∧ i < 18446744073709551616 then .ok (.val (.int (i * 2 ^ j.toNat))) else R.stuck
  | _, _ => R.stuck
@[simp] def dLt : D → D → R Rs
  | .int i, .int j => .ok (.val (.bl (decide (i < j))))
  | _, _ => R.stuck
@[simp] def dLe : D → D → R Rs
  | .int i, .int j => .ok (.val (.bl (decide (i ≤ j))))
  | _, _ => R.stuck
@[simp] def dGt : D → D → R Rs
  | .int i, .int j => .ok (.val (.bl (decide (j < i))))
  | _, _ => R.stuck
@[simp] def dGe : D → D → R Rs
  | .int i, .int j => .ok (.val (.bl (decide (j ≤ i))))
  | _, _ => R.stuck
section
variable {X : Cx} {B : Bs}
theorem pr_val {ρ : En} {G H : Hp} {σ : L2.St} {Q : VK} (ok : Ok B ρ G σ H) {d : D} {v : V} (r : Rep B.W G v d) (h : PR B ρ G σ H Q (.ok (.val d, ρ))) : Q v H := h v G H (Nx.refl ok) r True.intro
/-- ints in, a scalar out -/
theorem op2_int0 {g : Int → Int → V} {g' : Int → Int → D} {f : D → D → R Rs} (hg : ∀ i j W G, Rep W G (g i j) (g' i j)) (hf : ∀ d1 d2, f d1 d2 = R.stuck ∨ ∃ i j, d1 = .int i ∧ d2 = .int j ∧ f d1 d2 = .ok (.val (g' i j))) : Op2 B (rI0 g) f := by
  intro σ ρ G H x y d1 d2 Q ok p1 p2 q
  rcases hf d1 d2 with e | ⟨i, j, rfl, rfl, e⟩
  · rw [e] at q; exact q.elim
  · rw [e] at q
    exact ⟨i, j, p1.int_of, p2.int_of, pr_val ok (hg i j _ _) q⟩
theorem op2_int {C : Int → Int → Prop} {g : Int → Int → V} {g' : Int → Int → D} {f : D → D → R Rs} (hg : ∀ i j W G, Rep W G (g i j) (g' i j)) (hf : ∀ d1 d2, f d1 d2 = R.stuck ∨ ∃ i j, d1 = .int i ∧ d2 = .int j ∧ C i j ∧ f d1 d2 = .ok (.val (g' i j))) : Op2 B (rI C g) f := by
  intro σ ρ G H x y d1 d2 Q ok p1 p2 q
  rcases hf d1 d2 with e | ⟨i, j, rfl, rfl, c, e⟩
  · rw [e] at q; exact q.elim
  · rw [e] at q
    exact ⟨i, j, p1.int_of, p2.int_of, c, pr_val ok (hg i j _ _) q⟩
theorem cases2 {f : D → D → R Rs} {P : D → D → Prop} (h : ∀ i j, P (.int i) (.int j)) (h' : ∀ d1 d2, (∀ i j, ¬ (d1 = .int i ∧ d2 = .int j)) → P d1 d2) : ∀ d1 d2, P d1 d2 := fun d1 d2 => by
  by_cases q : ∃ i j, d1 = .int i ∧ d2 = .int j
  · obtain ⟨i, j, rfl, rfl⟩ := q; exact h i j
  · exact h' d1 d2 fun i j z => q ⟨i, j, z⟩
end
end T
namespace T
open PySem PySem.Spec PyProof.Rows L2
section
variable {X : Cx} {B : Bs}
theorem op_fdivX : OpR X (binaryOp .FloorDiv) (rI (fun _ j => j ≠ 0 ∧ j.natAbs < 2 ^ 128) fun i j => .int (i.fdiv j)) := opI fun i j _ _ _ _ _ hc q => by
  exact floordiv_int hc.1 q (.inl (PyProof.noPylong_of_log2 (Nat.lt_of_lt_of_le (PySem.Flt.log2_lt_of (by decide) hc.2) (by decide))))
abbrev rAddA : R2 := fun x y H Q => rI0 (fun i j => .int (i + j)) x y H Q ∨ ((∃ i j, x = .str i ∧ y = .str j ∧ i.length + j.length ≤ sizeLine ∧ Q (.str (i ++ j)) H) ∨ rCat x y H Q)
theorem op_addA : OpR X (binaryOp .Add) rAddA := op_add.or (op_add_str.or op_cat)
theorem o2_add : Op2 B rAddA dAdd := by
  intro σ ρ G H x y d1 d2 Q ok p1 p2 q
  unfold dAdd at q
  split at q
  · exact .inl ⟨_, _, p1.int_of, p2.int_of, pr_val ok (.int _) q⟩
  · split at q
    · rename_i h
      exact .inr (.inl ⟨_, _, p1.str_of, p2.str_of, by rw [sizeLine_eq]; exact h, pr_val ok (.str _) q⟩)
    · exact q.elim
  · split at q
    · rename_i h
      obtain ⟨a, vs, rfl, ha, ra⟩ := p1.lst_of ok
      obtain ⟨b, ws, rfl, hb, rb⟩ := p2.lst_of ok
      exact .inr (.inr ⟨a, b, vs, ws, rfl, rfl, ha, hb, by rw [sizeLine_eq, ra.length, rb.length]; exact h, new_lst ok (ra.append rb) q⟩)
    · exact q.elim
  · exact q.elim
theorem o2_sub : Op2 B (rI0 fun i j => .int (i - j)) dSub := op2_int0 (g' := fun i j => .int (i - j)) (fun _ _ _ _ => .int _) fun d1 d2 => by
  unfold dSub; split
  · exact .inr ⟨_, _, rfl, rfl, rfl⟩
  · exact .inl rfl
abbrev rMulA : R2 := fun x y H Q => rI CMul (fun i j => .int (i * j)) x y H Q ∨ rRep x y H Q
theorem op_mulA : OpR X (binaryOp .Mult) rMulA := op_mul.or op_rep
theorem o2_mul : Op2 B rMulA dMul := by
  intro σ ρ G H x y d1 d2 Q ok p1 p2 q
  unfold dMul at q
  split at q
  · split at q
    · rename_i h
      exact .inl ⟨_, _, p1.int_of, p2.int_of, h, pr_val ok (.int _) q⟩
    · exact q.elim
  · split at q
    · rename_i a k h
      obtain ⟨a, vs, rfl, ha, ra⟩ := p1.lst_of ok
      exact .inr ⟨a, k, vs, rfl, p2.int_of, ha, h.1, h.2.1, by rw [sizeLine_eq, ra.length]; exact h.2.2, new_lst ok (ra.flatRep _) q⟩
    · exact q.elim
  · exact q.elim
theorem o2_fdiv : Op2 B (rI (fun _ j => j ≠ 0 ∧ j.natAbs < 2 ^ 128) fun i j => .int (i.fdiv j)) dFdiv := by
  intro σ ρ G H x y d1 d2 Q ok p1 p2 q
  unfold dFdiv at q
  split at q
  · rename_i i j
    split at q
    · rename_i h
      refine ⟨_, _, p1.int_of, p2.int_of, ⟨by omega, by omega⟩, ?_⟩
      show Q (V.int (i.fdiv j)) H
      rw [Int.fdiv_eq_ediv_of_nonneg i (by omega)]
      exact pr_val ok (.int _) q
    · split at q
      · rename_i h
        exact ⟨_, _, p1.int_of, p2.int_of, ⟨by omega, by omega⟩, pr_val ok (.int _) q⟩
      · exact q.elim
  · exact q.elim
theorem o2_mod : Op2 B (rI (fun _ j => j ≠ 0) fun i j => .int (i.fmod j)) dMod := by
  intro σ ρ G H x y d1 d2 Q ok p1 p2 q
  unfold dMod at q
  split at q
  · rename_i i j
    split at q
    · rename_i h
      refine ⟨_, _, p1.int_of, p2.int_of, by omega, ?_⟩
      show Q (V.int (i.fmod j)) H
      rw [Int.fmod_eq_emod_of_nonneg i (by omega)]
      exact pr_val ok (.int _) q
    · split at q
      · exact ⟨_, _, p1.int_of, p2.int_of, by omega, pr_val ok (.int _) q⟩
      · exact q.elim
  · exact q.elim
theorem o2_and : Op2 B (rI0 fun i j => .int (Builtin.bitAnd i j)) dAnd := op2_int0 (g' := fun i j => .int (Builtin.bitAnd i j)) (fun _ _ _ _ => .int _) fun d1 d2 => by
  unfold dAnd; split
  · exact .inr ⟨_, _, rfl, rfl, rfl⟩
  · exact .inl rfl
theorem o2_or : Op2 B (rI0 fun i j => .int (Builtin.bitOr i j)) dOr := op2_int0 (g' := fun i j => .int (Builtin.bitOr i j)) (fun _ _ _ _ => .int _) fun d1 d2 => by
  unfold dOr; split
  · exact .inr ⟨_, _, rfl, rfl, rfl⟩
  · exact .inl rfl
theorem o2_xor : Op2 B (rI0 fun i j => .int (Builtin.bitXor i j)) dXor := op2_int0 (g' := fun i j => .int (Builtin.bitXor i j)) (fun _ _ _ _ => .int _) fun d1 d2 => by
  unfold dXor; split
  · exact .inr ⟨_, _, rfl, rfl, rfl⟩
  · exact .inl rfl
theorem o2_pow : Op2 B (rI CPow fun i j => .int (i ^ j.toNat)) dPow := op2_int (g' := fun i j => .int (i ^ j.toNat)) (fun _ _ _ _ => .int _) fun d1 d2 => by
  unfold dPow; split
  · split
    · rename_i h
      exact .inr ⟨_, _, rfl, rfl, ⟨h.1, h.2.1, by omega⟩, rfl⟩
    · exact .inl rfl
  · exact .inl rfl
theorem o2_shl : Op2 B (rI CPow fun i j => .int (i * 2 ^ j.toNat)) dShl := op2_int (g' := fun i j => .int (i * 2 ^ j.toNat)) (fun _ _ _ _ => .int _) fun d1 d2 => by
  unfold dShl; split
  · split
    · rename_i h
      exact .inr ⟨_, _, rfl, rfl, ⟨h.1, h.2.1, by omega⟩, rfl⟩
    · exact .inl rfl
  · exact .inl rfl
theorem opB_int {g : Int → Int → Bool} {f : D → D → R Rs} (hf : ∀ d1 d2, f d1 d2 = R.stuck ∨ ∃ i j, d1 = .int i ∧ d2 = .int j ∧ f d1 d2 = .ok (.val (.bl (g i j)))) : OpB B (rI0 fun i j => .bl (g i j)) f := by
  intro σ ρ G H x y d1 d2 Q ok p1 p2 k e q
  rcases hf d1 d2 with e' | ⟨i, j, rfl, rfl, e'⟩
  · rw [e'] at e; cases e
  · rw [e'] at e; cases e
    exact ⟨i, j, p1.int_of, p2.int_of, q⟩
theorem onB_int {g : Int → Int → Bool} {f : D → D → R Rs} (hf : ∀ d1 d2, f d1 d2 = R.stuck ∨ ∃ i j, d1 = .int i ∧ d2 = .int j ∧ f d1 d2 = .ok (.val (.bl (g i j)))) : OnlyB f := fun d1 d2 => by
  rcases hf d1 d2 with e' | ⟨i, j, rfl, rfl, e'⟩
  · exact .inl e'
  · exact .inr ⟨_, e'⟩
theorem f_lt (d1 d2 : D) : dLt d1 d2 = R.stuck ∨ ∃ i j, d1 = .int i ∧ d2 = .int j ∧ dLt d1 d2 = .ok (.val (.bl (decide (i < j)))) := by
  unfold dLt; split
  · exact .inr ⟨_, _, rfl, rfl, rfl⟩
  · exact .inl rfl
theorem f_le (d1 d2 : D) : dLe d1 d2 = R.stuck ∨ ∃ i j, d1 = .int i ∧ d2 = .int j ∧ dLe d1 d2 = .ok (.val (.bl (decide (i ≤ j)))) := by
  unfold dLe; split
  · exact .inr ⟨_, _, rfl, rfl, rfl⟩
  · exact .inl rfl
theorem f_gt (d1 d2 : D) : dGt d1 d2 = R.stuck ∨ ∃ i j, d1 = .int i ∧ d2 = .int j ∧ dGt d1 d2 = .ok (.val (.bl (decide (j < i)))) := by
  unfold dGt; split
  · exact .inr ⟨_, _, rfl, rfl, rfl⟩
  · exact .inl rfl
theorem f_ge (d1 d2 : D) : dGe d1 d2 = R.stuck ∨ ∃ i j, d1 = .int i ∧ d2 = .int j ∧ dGe d1 d2 = .ok (.val (.bl (decide (j ≤ i)))) := by
  unfold dGe; split
  · exact .inr ⟨_, _, rfl, rfl, rfl⟩
  · exact .inl rfl
theorem oB_lt : OpB B (rI0 fun i j => .bl (decide (i < j))) dLt := opB_int f_lt
theorem oB_le : OpB B (rI0 fun i j => .bl (decide (i ≤ j))) dLe := opB_int f_le
theorem oB_gt : OpB B (rI0 fun i j => .bl (decide (j < i))) dGt := opB_int f_gt
theorem oB_ge : OpB B (rI0 fun i j => .bl (decide (j ≤ i))) dGe := opB_int f_ge
theorem on_lt : OnlyB dLt := onB_int f_lt
theorem on_le : OnlyB dLe := onB_int f_le
theorem on_gt : OnlyB dGt := onB_int f_gt
theorem on_ge : OnlyB dGe := onB_int f_ge
end

/-! ### == of trees -/
mutual
def D.toP : D → Option PyData
  | .non => some .none
  | .bl b => some (.bool b)
  | .int i => some (.int i)
  | .str s => some (.str s)
  | .lst xs => match D.toPs xs with | some ys => some (.list ys) | none => none
  | .tup xs => match D.toPs xs with | some ys => some (.tuple ys) | none => none
  | .scr ns => some (.list (ns.map .int))
  | _ => none
def D.toPs : List D → Option (List PyData)
  | [] => some []
  | d :: ds => match D.toP d, D.toPs ds with | some x, some xs => some (x :: xs) | _, _ => none
end
def dEq : D → D → R Rs
  | .int i, .int j => .ok (.val (.bl (decide (i = j))))
  | .str i, .str j => .ok (.val (.bl (decide (i = j))))
  | .bl i, .bl j => .ok (.val (.bl (i == j)))
  | a, b => match a.toP, b.toP with
    | some x, some y => if SeqAt.shaped x = true ∧ SeqAt.shaped y = true then .ok (.val (.bl (PyData.eqv x y))) else R.stuck
    | _, _ => R.stuck
@[simp] theorem dEq_int (i j : Int) : dEq (.int i) (.int j) = .ok (.val (.bl (decide (i = j)))) := rfl
@[simp] theorem dEq_str (i j : Str) : dEq (.str i) (.str j) = .ok (.val (.bl (decide (i = j)))) := rfl
@[simp] theorem dEq_bl (i j : Bool) : dEq (.bl i) (.bl j) = .ok (.val (.bl (i == j))) := rfl
@[simp] def dNe (a b : D) : R Rs := match dEq a b with
  | .ok (.val (.bl k)) => .ok (.val (.bl (!k)))
  | _ => R.stuck
section
variable {W : Wd} {G : Hp}
theorem dp_ints {K : PySem.W.Frag} {H : Hp} : ∀ ns : List Int, DpAll K H (ns.map V.int) (ns.map PyData.int)
  | [] => .nil
  | n :: ns => .cons (.int n) (dp_ints ns)
mutual
theorem Rep.dp : ∀ {v : V} {d : D} {p : PyData}, Rep W G v d → d.toP = some p → Dp W.K G v p
  | _, _, p, .non, e => by cases e; exact .non
  | _, _, p, .bl b, e => by cases e; exact .bl b
  | _, _, p, .int i, e => by cases e; exact .int i
  | _, _, p, .str x, e => by cases e; exact .str x
  | _, _, p, .ty n, e => by cases e
  | _, _, p, .glo h, e => by cases e
  | _, _, p, .obj h h2 r, e => by cases e
  | _, _, p, .dct h r, e => by cases e
  | _, _, p, .scr (ns := ns) h, e => by cases e; exact .lst h (dp_ints ns)
  | _, _, p, .tup (ds := ds) h r, e => by
    unfold D.toP at e
    split at e
    · rename_i ys q; cases e; exact .tup (SqT.of h) (Reps.dp r q)
    · cases e
  | _, _, p, .lst (ds := ds) h r, e => by
    unfold D.toP at e
    split at e
    · rename_i ys q; cases e; exact .lst (SqL.of h) (Reps.dp r q)
    · cases e
theorem Reps.dp : ∀ {vs : List V} {ds : List D} {ps : List PyData}, Reps W G vs ds → D.toPs ds = some ps → DpAll W.K G vs ps
  | _, _, _, .nil, e => by cases e; exact .nil
  | _, _, _, .cons r t, e => by
    unfold D.toPs at e
    split at e
    · rename_i x xs q1 q2; cases e; exact .cons (Rep.dp r q1) (Reps.dp t q2)
    · cases e
end
theorem SqT.same {K : PySem.W.Frag} {H H' : Hp} {a : Addr} {xs : List V} (e : Same H H') (h : SqT K H a xs) : SqT K H' a xs := by
  rcases h with (h | ⟨o, h⟩) | h
  · exact .inl (.inl (e _ _ h))
  · exact .inl (.inr ⟨o, e _ _ h⟩)
  · exact .inr h
mutual
theorem Dp.same {K : PySem.W.Frag} {H H' : Hp} (h : Same H H') : ∀ {v : V} {d : PyData}, Dp K H v d → Dp K H' v d
  | _, _, .non => .non
  | _, _, .bl b => .bl b
  | _, _, .int b => .int b
  | _, _, .str b => .str b
  | _, _, .lst e r => .lst (h.seq e) (DpAll.same h r)
  | _, _, .tup e r => .tup (SqT.same h e) (DpAll.same h r)
theorem DpAll.same {K : PySem.W.Frag} {H H' : Hp} (h : Same H H') : ∀ {vs : List V} {ds : List PyData}, DpAll K H vs ds → DpAll K H' vs ds
  | _, _, .nil => .nil
  | _, _, .cons r t => .cons (Dp.same h r) (DpAll.same h t)
end
end
section
variable {X : Cx} {B : Bs} {ρ : En} {G H : Hp} {σ : L2.St} {v : V} {d : D}
theorem PkOk.dp (ok : Ok B ρ G σ H) (h : PkOk B G H v d) {p : PyData} (e : d.toP = some p) : Dp B.W.K H v p := by
  rcases h with h | ⟨a, rfl, _, _, b⟩
  · exact Dp.same ok.gh (h.dp e)
  · rcases b with ⟨vs, ds, rfl, hb, r⟩ | ⟨vs, ds, rfl, hb, r⟩
    · unfold D.toP at e
      split at e
      · rename_i ys q; cases e; exact .lst (SqL.of hb) (DpAll.same ok.gh (r.dp q))
      · cases e
    · cases e
abbrev rEqA (K : PySem.W.Frag) : R2 := fun x y H Q => rEq x y H Q ∨ rEqD K x y H Q
abbrev rNeA (K : PySem.W.Frag) : R2 := fun x y H Q => rNe x y H Q ∨ rNeD K x y H Q
theorem op_eqA (hu : X.A.units + 64 < cLine) : OpR X (compareOp .Eq) (rEqA X.K) := op_eq.or (op_eqD hu)
theorem op_neA (hu : X.A.units + 64 < cLine) : OpR X (compareOp .NotEq) (rNeA X.K) := op_ne.or (op_neD hu)
theorem f_eq (d1 d2 : D) : dEq d1 d2 = R.stuck ∨ (∃ i j, d1 = .str i ∧ d2 = .str j ∧ dEq d1 d2 = .ok (.val (.bl (decide (i = j))))) ∨ ∃ x y, d1.toP = some x ∧ d2.toP = some y ∧ SeqAt.shaped x = true ∧ SeqAt.shaped y = true ∧ dEq d1 d2 = .ok (.val (.bl (PyData.eqv x y))) := by
  unfold dEq
  split
  · exact .inr (.inr ⟨_, _, rfl, rfl, rfl, rfl, rfl⟩)
  · exact .inr (.inl ⟨_, _, rfl, rfl, rfl⟩)
  · exact .inr (.inr ⟨_, _, rfl, rfl, rfl, rfl, rfl⟩)
  · split
    · rename_i x y e1 e2
      split
      · rename_i h; exact .inr (.inr ⟨x, y, e1, e2, h.1, h.2, rfl⟩)
      · exact .inl rfl
    · exact .inl rfl
theorem oB_eq (hW : B.W.K = X.K) : OpB B (rEqA X.K) dEq := by
  intro σ ρ G H x y d1 d2 Q ok p1 p2 k e q
  rcases f_eq d1 d2 with e' | ⟨i, j, rfl, rfl, e'⟩ | ⟨a, b, h1, h2, s1, s2, e'⟩
  · rw [e'] at e; cases e
  · rw [e'] at e; cases e
    cases p1.str_of
    cases p2.str_of
    refine .inl ⟨rfl, ?_⟩
    have : decide (V.str i = V.str j) = decide (i = j) := by simp
    rw [this]; exact q
  · rw [e'] at e; cases e
    exact .inr ⟨a, b, hW ▸ p1.dp ok h1, hW ▸ p2.dp ok h2, s1, s2, q⟩
theorem on_eq : OnlyB dEq := fun d1 d2 => by
  rcases f_eq d1 d2 with e' | ⟨i, j, rfl, rfl, e'⟩ | ⟨a, b, h1, h2, s1, s2, e'⟩
  · exact .inl e'
  · exact .inr ⟨_, e'⟩
  · exact .inr ⟨_, e'⟩
theorem oB_ne (hW : B.W.K = X.K) : OpB B (rNeA X.K) dNe := by
  intro σ ρ G H x y d1 d2 Q ok p1 p2 k e q
  unfold dNe at e
  rcases f_eq d1 d2 with e' | ⟨i, j, rfl, rfl, e'⟩ | ⟨a, b, h1, h2, s1, s2, e'⟩
  · rw [e'] at e; cases e
  · rw [e'] at e; cases e
    cases p1.str_of
    cases p2.str_of
    refine .inl ⟨rfl, ?_⟩
    have : decide (V.str i = V.str j) = decide (i = j) := by simp
    rw [this]; exact q
  · rw [e'] at e; cases e
    exact .inr ⟨a, b, hW ▸ p1.dp ok h1, hW ▸ p2.dp ok h2, s1, s2, q⟩
theorem on_ne : OnlyB dNe := fun d1 d2 => by
  unfold dNe
  rcases on_eq d1 d2 with e' | ⟨k, e'⟩
  · rw [e']; exact .inl rfl
  · rw [e']; exact .inr ⟨_, rfl⟩
end

/-! ### is None -/
@[simp] def D.isNon : D → Bool
  | .non => true
  | _ => false
@[simp] def eIsN (m : M Rs) : M Rs := fun ρ => (m ρ).bind fun p => (pk p.2 p.1).bind fun d => .ok (.val (.bl d.isNon), p.2)
@[simp] def eNotN (m : M Rs) : M Rs := fun ρ => (m ρ).bind fun p => (pk p.2 p.1).bind fun d => .ok (.val (.bl (!d.isNon)), p.2)
section
variable {X : Cx} {B : Bs} {a : Expr} {pos pos' : Pos} {j : Nat} {m : M Rs}
theorem PkOk.isNon {G H : Hp} {v : V} {d : D} (h : PkOk B G H v d) : decide (v = .non) = d.isNon := by
  rcases h with h | ⟨p, rfl, _, _, b⟩
  · cases h <;> rfl
  · rcases b with ⟨_, _, rfl, _⟩ | ⟨_, _, rfl, _⟩ <;> rfl
theorem isN_read {σ : L2.St} {H : Hp} {Q : VK} (h : tR B (eIsN m) σ H Q) : tIsN (tR B m) σ H Q := by
  obtain ⟨ρ, G, ok, h⟩ := h
  refine tR.mono (runR ok h) fun x H1 ⟨r1, ρ1, G1, n1, q1, h1⟩ => ?_
  obtain ⟨d1, e1, h2⟩ := pk_get (P := PR B ρ1 G1 σ H1 Q) h1 id
  rw [(pk_ok n1.ok q1 e1).isNon]
  exact pr_val n1.ok (.bl _) h2
theorem notN_read {σ : L2.St} {H : Hp} {Q : VK} (h : tR B (eNotN m) σ H Q) : tNotN (tR B m) σ H Q := by
  obtain ⟨ρ, G, ok, h⟩ := h
  refine tR.mono (runR ok h) fun x H1 ⟨r1, ρ1, G1, n1, q1, h1⟩ => ?_
  obtain ⟨d1, e1, h2⟩ := pk_get (P := PR B ρ1 G1 σ H1 Q) h1 id
  rw [(pk_ok n1.ok q1 e1).isNon]
  exact pr_val n1.ok (.bl _) h2
theorem te_isN (ha : PE X a (tR B m)) : PE X (.Compare a [.Is] [.Constant .none j pos'] pos) (tR B (eIsN m)) := PE.imp (pe_cmp (pc_isN ha) rfl) fun _ _ _ h => isN_read h
theorem te_notN (ha : PE X a (tR B m)) : PE X (.Compare a [.IsNot] [.Constant .none j pos'] pos) (tR B (eNotN m)) := PE.imp (pe_cmp (pc_notN ha) rfl) fun _ _ _ h => notN_read h
theorem tt_isN (ha : PE X a (tR B m)) : PT X (.Compare a [.Is] [.Constant .none j pos'] pos) (tT B (tOf (eIsN m))) := PT.imp (pt_cmp (pc_isN ha) rfl) fun σ H Q h => isN_read (Q := fun x H' => ∃ k, x = .bl k ∧ Q k H') (tst_read h)
theorem tt_notN (ha : PE X a (tR B m)) : PT X (.Compare a [.IsNot] [.Constant .none j pos'] pos) (tT B (tOf (eNotN m))) := PT.imp (pt_cmp (pc_notN ha) rfl) fun σ H Q h => notN_read (Q := fun x H' => ∃ k, x = .bl k ∧ Q k H') (tst_read h)
end

/-! ### and, or, not, a if t else b -/
@[simp] def tAndM (a b : M Bool) : M Bool := fun ρ => (a ρ).bind fun p => if p.1 = true then b p.2 else .ok (false, p.2)
@[simp] def tOrM (a b : M Bool) : M Bool := fun ρ => (a ρ).bind fun p => if p.1 = true then .ok (true, p.2) else b p.2
@[simp] def tNotM (a : M Bool) : M Bool := fun ρ => (a ρ).bind fun p => .ok (!p.1, p.2)
@[simp] def eAnd (a b : M Rs) : M Rs := fun ρ => (tOf a ρ).bind fun p => if p.1 = true then b p.2 else .ok (.val (.bl false), p.2)
@[simp] def eOr (a b : M Rs) : M Rs := fun ρ => (tOf a ρ).bind fun p => if p.1 = true then .ok (.val (.bl true), p.2) else b p.2
@[simp] def eNot (a : M Rs) : M Rs := fun ρ => (tOf a ρ).bind fun p => .ok (.val (.bl (!p.1)), p.2)
@[simp] def eIf (t : M Bool) (a b : M Rs) : M Rs := fun ρ => (t ρ).bind fun p => if p.1 = true then a p.2 else b p.2
section
variable {X : Cx} {B : Bs} {a b : Expr} {rest : List Expr} {pos : Pos} {m m' : M Rs} {t t' : M Bool}
theorem runTR {ρ : En} {G H : Hp} {σ : L2.St} {Q : VK} {Y : Bool × En → R (Rs × En)} (ok : Ok B ρ G σ H) (h : PR B ρ G σ H Q ((t ρ).bind Y)) : tT B t σ H fun x H1 => ∃ ρ1 G1, Nx B ρ G σ H ρ1 G1 H1 ∧ PR B ρ1 G1 σ H1 Q (Y (x, ρ1)) :=
  runT (P := fun x ρ G H => PR B ρ G σ H Q x) ok h (fun x n h => PR.mono n h) (fun e h => PR.err h)
theorem runTB {ρ : En} {G H : Hp} {σ : L2.St} {Q : Bool → Hp → Prop} {Y : Bool × En → R (Bool × En)} (ok : Ok B ρ G σ H) (h : PT' B ρ G σ H Q ((t ρ).bind Y)) : tT B t σ H fun x H1 => ∃ ρ1 G1, Nx B ρ G σ H ρ1 G1 H1 ∧ PT' B ρ1 G1 σ H1 Q (Y (x, ρ1)) :=
  runT (P := fun x ρ G H => PT' B ρ G σ H Q x) ok h (fun x n h => PT'.mono n h) (fun e h => PT'.err h)
theorem tw_and1 (ha : PT X a (tT B t)) : PW X (.BoolOp .And [a] pos) (tT B t) := pw_and1 ha
theorem tw_or1 (ha : PT X a (tT B t)) : PW X (.BoolOp .Or [a] pos) (tT B t) := pw_or1 ha
theorem tw_and (ha : PT X a (tT B t)) (hb : PW X (.BoolOp .And (b :: rest) pos) (tT B t')) : PW X (.BoolOp .And (a :: b :: rest) pos) (tT B (tAndM t t')) := PW.imp (pw_and ha hb) fun σ H Q h => by
  obtain ⟨ρ, G, ok, h⟩ := h
  refine tT.mono (runTB ok h) fun x H1 ⟨ρ1, G1, n1, h1⟩ => ?_
  cases x with
  | true => exact iteT ⟨ρ1, G1, n1.ok, h1⟩
  | false => exact iteF (h1 G1 H1 (Nx.refl n1.ok))
theorem tw_or (ha : PT X a (tT B t)) (hb : PW X (.BoolOp .Or (b :: rest) pos) (tT B t')) : PW X (.BoolOp .Or (a :: b :: rest) pos) (tT B (tOrM t t')) := PW.imp (pw_or ha hb) fun σ H Q h => by
  obtain ⟨ρ, G, ok, h⟩ := h
  refine tT.mono (runTB ok h) fun x H1 ⟨ρ1, G1, n1, h1⟩ => ?_
  cases x with
  | true => exact iteT (h1 G1 H1 (Nx.refl n1.ok))
  | false => exact iteF ⟨ρ1, G1, n1.ok, h1⟩
theorem tt_not (ha : PT X a (tT B t)) : PT X (.UnaryOp .Not a pos) (tT B (tNotM t)) := PT.imp (pt_not ha) fun σ H Q h => by
  obtain ⟨ρ, G, ok, h⟩ := h
  exact tT.mono (runTB ok h) fun x H1 ⟨ρ1, G1, n1, h1⟩ => h1 G1 H1 (Nx.refl n1.ok)
theorem bl_read {ρ : En} {G H : Hp} {σ : L2.St} {Q : VK} {Y : Bool × En → R (Rs × En)} (ok : Ok B ρ G σ H) (h : PR B ρ G σ H Q ((tOf m ρ).bind Y)) : tR B m σ H fun x H1 => ∃ c, x = .bl c ∧ ∃ ρ1 G1, Nx B ρ G σ H ρ1 G1 H1 ∧ PR B ρ1 G1 σ H1 Q (Y (c, ρ1)) :=
  tst_read (runTR ok h)
theorem te_one {op} (h : PE X a (tR B m)) : PE X (.BoolOp op [a] pos) (tR B m) := pe_one h
theorem te_and (ha : PE X a (tR B m)) (hb : PE X (.BoolOp .And (b :: rest) pos) (tR B m')) : PE X (.BoolOp .And (a :: b :: rest) pos) (tR B (eAnd m m')) := PE.imp (pe_and ha hb) fun σ H Q h => by
  obtain ⟨ρ, G, ok, h⟩ := h
  refine tR.mono (bl_read ok h) fun x H1 ⟨c, e, ρ1, G1, n1, h1⟩ => ⟨c, e, ?_⟩
  cases c with
  | true => exact iteT ⟨ρ1, G1, n1.ok, h1⟩
  | false => exact iteF (pr_val n1.ok (.bl _) h1)
theorem te_or (ha : PE X a (tR B m)) (hb : PE X (.BoolOp .Or (b :: rest) pos) (tR B m')) : PE X (.BoolOp .Or (a :: b :: rest) pos) (tR B (eOr m m')) := PE.imp (pe_or ha hb) fun σ H Q h => by
  obtain ⟨ρ, G, ok, h⟩ := h
  refine tR.mono (bl_read ok h) fun x H1 ⟨c, e, ρ1, G1, n1, h1⟩ => ⟨c, e, ?_⟩
  cases c with
  | true => exact iteT (pr_val n1.ok (.bl _) h1)
  | false => exact iteF ⟨ρ1, G1, n1.ok, h1⟩
theorem te_not (ha : PE X a (tR B m)) : PE X (.UnaryOp .Not a pos) (tR B (eNot m)) := PE.imp (pe_not ha) fun σ H Q h => by
  obtain ⟨ρ, G, ok, h⟩ := h
  exact tR.mono (bl_read ok h) fun x H1 ⟨c, e, ρ1, G1, n1, h1⟩ => ⟨c, e, pr_val n1.ok (.bl _) h1⟩
theorem te_if {c : Expr} (hc : PT X c (tT B t)) (ha : PE X a (tR B m)) (hb : PE X b (tR B m')) : PE X (.IfExp c a b pos) (tR B (eIf t m m')) := PE.imp (pe_ifExp hc ha hb) fun σ H Q h => by
  obtain ⟨ρ, G, ok, h⟩ := h
  refine tT.mono (runTR ok h) fun x H1 ⟨ρ1, G1, n1, h1⟩ => ?_
  cases x with
  | true => exact iteT ⟨ρ1, G1, n1.ok, h1⟩
  | false => exact iteF ⟨ρ1, G1, n1.ok, h1⟩
end

/-! ### a one-place operator -/
@[simp] def eUn (f : D → R Rs) (a : M Rs) : M Rs := fun ρ => (a ρ).bind fun p => (pk p.2 p.1).bind fun x => (f x).bind fun r => .ok (r, p.2)
@[simp] def dNeg : D → R Rs
  | .int i => .ok (.val (.int (-i)))
  | _ => R.stuck
section
variable {X : Cx} {B : Bs} {a : Expr} {pos : Pos} {m : M Rs}
theorem te_neg (ha : PE X a (tR B m)) : PE X (.UnaryOp .USub a pos) (tR B (eUn dNeg m)) := PE.imp (pe_un un_neg ha) fun σ H Q h => by
  obtain ⟨ρ, G, ok, h⟩ := h
  refine tR.mono (runR ok h) fun x H1 ⟨r1, ρ1, G1, n1, q1, h1⟩ => ?_
  obtain ⟨d1, e1, h2⟩ := pk_get (P := PR B ρ1 G1 σ H1 Q) h1 id
  have pk := pk_ok n1.ok q1 e1
  unfold dNeg at h2
  split at h2
  · exact ⟨_, pk.int_of, pr_val n1.ok (.int _) h2⟩
  · exact h2.elim
end

/-! ### argument lists, displays -/
@[simp] def aNil : M (List Rs) := fun ρ => .ok ([], ρ)
@[simp] def aCons (a : M Rs) (r : M (List Rs)) : M (List Rs) := fun ρ => (a ρ).bind fun p => (r p.2).bind fun q => .ok (st p.1 :: q.1, q.2)
@[simp] def eTup (a : M (List Rs)) : M Rs := fun ρ => (a ρ).bind fun p => (fzs p.1 p.2).bind fun q => if q.1.length ≤ 16777216 then .ok (.val (.tup q.1), q.2) else R.stuck
@[simp] def eLst (a : M (List Rs)) : M Rs := fun ρ => (a ρ).bind fun p => (fzs p.1 p.2).bind fun q => if q.1.length ≤ 16777216 then .ok (.new (.lst q.1), q.2) else R.stuck
section
variable {X : Cx} {B : Bs} {e : Expr} {es : List Expr} {pos : Pos} {m : M Rs} {ms : M (List Rs)}
theorem runRL {ρ : En} {G H : Hp} {σ : L2.St} {Q : List V → Hp → Prop} {Y : Rs × En → R (List Rs × En)} (ok : Ok B ρ G σ H) (h : PL B ρ G σ H Q ((m ρ).bind Y)) : tR B m σ H fun x H1 => ∃ r ρ1 G1, Nx B ρ G σ H ρ1 G1 H1 ∧ RvOk B G1 σ x (st r) ∧ PL B ρ1 G1 σ H1 Q (Y (r, ρ1)) :=
  run (P := fun x ρ G H => PL B ρ G σ H Q x) ok h (fun x n h => PL.mono n h) (fun e h => PL.err h)
theorem runLL {ρ : En} {G H : Hp} {σ : L2.St} {Q : List V → Hp → Prop} {Y : List Rs × En → R (List Rs × En)} (ok : Ok B ρ G σ H) (h : PL B ρ G σ H Q ((ms ρ).bind Y)) : tA B ms σ H fun x H1 => ∃ r ρ1 G1, Nx B ρ G σ H ρ1 G1 H1 ∧ RvsOk B G1 σ x r ∧ PL B ρ1 G1 σ H1 Q (Y (r, ρ1)) :=
  runL (P := fun x ρ G H => PL B ρ G σ H Q x) ok h (fun x n h => PL.mono n h) (fun e h => PL.err h)
theorem runLR {ρ : En} {G H : Hp} {σ : L2.St} {Q : VK} {Y : List Rs × En → R (Rs × En)} (ok : Ok B ρ G σ H) (h : PR B ρ G σ H Q ((ms ρ).bind Y)) : tA B ms σ H fun x H1 => ∃ r ρ1 G1, Nx B ρ G σ H ρ1 G1 H1 ∧ RvsOk B G1 σ x r ∧ PR B ρ1 G1 σ H1 Q (Y (r, ρ1)) :=
  runL (P := fun x ρ G H => PR B ρ G σ H Q x) ok h (fun x n h => PR.mono n h) (fun e h => PR.err h)
theorem ta_nil : PA X [] (tA B aNil) := PA.imp pa_nil fun σ H Q h => by
  obtain ⟨ρ, G, ok, h⟩ := h
  exact h [] G H (Nx.refl ok) .nil
theorem ta_cons (ha : PE X e (tR B m)) (hr : PA X es (tA B ms)) (hs : starEach (e :: es) X.env = (false, eval e X.env) :: starEach es X.env := by rfl) : PA X (e :: es) (tA B (aCons m ms)) := PA.imp (pa_cons ha hr hs) fun σ H Q h => by
  obtain ⟨ρ, G, ok, h⟩ := h
  refine tR.mono (runRL ok h) fun x H1 ⟨r1, ρ1, G1, n1, q1, h1⟩ => ?_
  refine tA.mono (runLL n1.ok h1) fun xs H2 ⟨rs, ρ2, G2, n2, q2, h2⟩ => ?_
  exact h2 _ G2 H2 (Nx.refl n2.ok) (.cons (q1.mono n2.ext) q2)
theorem te_tup {k} (h : PA X es (tA B ms)) : PE X (.Tuple es k pos) (tR B (eTup ms)) := PE.imp (pe_tup h) fun σ H Q h => by
  obtain ⟨ρ, G, ok, h⟩ := h
  refine tA.mono (runLR ok h) fun xs H1 ⟨rs, ρ1, G1, n1, q1, h1⟩ => ?_
  obtain ⟨ds, ρ2, e2, h2⟩ := fzs_get (P := PR B ρ1 G1 σ H1 Q) id h1
  obtain ⟨G2, n2, r2⟩ := fzs_ok n1.ok q1 e2
  dsimp only at h2
  split at h2
  · rename_i hl
    exact ⟨by rw [sizeLine_eq, r2.length]; exact hl, new_tup n2.ok r2 (PR.mono n2 h2)⟩
  · exact h2.elim
theorem te_lst (h : PA X es (tA B ms)) : PE X (.List es pos) (tR B (eLst ms)) := PE.imp (pe_lst h) fun σ H Q h => by
  obtain ⟨ρ, G, ok, h⟩ := h
  refine tA.mono (runLR ok h) fun xs H1 ⟨rs, ρ1, G1, n1, q1, h1⟩ => ?_
  obtain ⟨ds, ρ2, e2, h2⟩ := fzs_get (P := PR B ρ1 G1 σ H1 Q) id h1
  obtain ⟨G2, n2, r2⟩ := fzs_ok n1.ok q1 e2
  dsimp only at h2
  split at h2
  · rename_i hl
    exact ⟨by rw [sizeLine_eq, r2.length]; exact hl, new_lst n2.ok r2 (PR.mono n2 h2)⟩
  · exact h2.elim
end
end T
namespace T
open PySem PySem.Spec PyProof.Rows L2

/-! ### items and slices -/
section
variable {W : Wd} {G : Hp}
theorem Reps.atI {vs : List V} {ds : List D} {i : Int} {d : D} (r : Reps W G vs ds) (e : L2.atI ds i = some d) : ∃ v, L2.atI vs i = some v ∧ Rep W G v d := by
  unfold L2.atI at e ⊢
  rw [r.length]
  cases q : ixN ds.length i with
  | none => rw [q] at e; cases e
  | some j =>
    rw [q] at e
    obtain ⟨v, h1, h2⟩ := r.get (i := j) (d := d) e
    exact ⟨v, h1, h2⟩
theorem atI_map {ns : List Int} {i : Int} {n : Int} (e : L2.atI ns i = some n) : L2.atI (ns.map V.int) i = some (.int n) := by
  unfold L2.atI at e ⊢
  rw [List.length_map]
  cases q : ixN ns.length i with
  | none => rw [q] at e; cases e
  | some j =>
    rw [q] at e
    have e : ns[j]? = some n := e
    show (ns.map V.int)[j]? = _
    rw [List.getElem?_map, e]; rfl
end
@[simp] def dIx : D → D → R Rs
  | .lst xs, .int i => match L2.atI xs i with | some d => .ok (.val d) | none => R.stuck
  | .tup xs, .int i => match L2.atI xs i with | some d => .ok (.val d) | none => R.stuck
  | .scr xs, .int i => match L2.atI xs i with | some d => .ok (.val (.int d)) | none => R.stuck
  | .str z, .int i => if z.length ≤ 16777216 then (match L2.atI z.cps.toList i with | some c => .ok (.val (.str ⟨#[c]⟩)) | none => R.stuck) else R.stuck
  | _, _ => R.stuck
def cutL {α : Type} (xs : List α) (lo hi : Option Int) : List α := (xs.drop (HT.sIx xs.length 0 lo)).take (HT.sIx xs.length xs.length hi - HT.sIx xs.length 0 lo)
@[simp] def dSl (lo hi : Option Int) : D → R Rs
  | .lst xs => .ok (.new (.lst (cutL xs lo hi)))
  | .scr xs => .ok (.new (.lst ((cutL xs lo hi).map .int)))
  | _ => R.stuck
section
variable {X : Cx} {B : Bs} {a b : Expr} {pos p2 : Pos} {ma mb : M Rs}
theorem o2_ix (hW : B.W.K = X.K) : Op2 B (rIx X.K) dIx := by
  intro σ ρ G H x y d1 d2 Q ok p1 p2 q
  unfold dIx at q
  split at q
  · split at q
    · rename_i i d e
      obtain ⟨a, vs, rfl, ha, ra⟩ := p1.lst_of ok
      obtain ⟨v, e2, r2⟩ := ra.atI e
      exact .inl ⟨a, vs, _, v, rfl, p2.int_of, SqL.of ha, e2, pr_val ok r2 q⟩
    · exact q.elim
  · split at q
    · rename_i i d e
      obtain ⟨a, vs, rfl, ha, ra⟩ := p1.tup_of ok
      obtain ⟨v, e2, r2⟩ := ra.atI e
      exact .inr (.inl ⟨a, vs, _, v, rfl, p2.int_of, SqT.of ha, e2, pr_val ok r2 q⟩)
    · exact q.elim
  · split at q
    · rename_i i d e
      obtain ⟨a, rfl, ha⟩ := p1.scr_of ok
      exact .inl ⟨a, _, _, _, rfl, p2.int_of, hW ▸ ha, atI_map e, pr_val ok (.int _) q⟩
    · exact q.elim
  · split at q
    · rename_i z i hz
      split at q
      · rename_i c e
        exact .inr (.inr ⟨z, i, c, p1.str_of, p2.int_of, by rw [sizeLine_eq]; exact hz, e, pr_val ok (.str _) q⟩)
      · exact q.elim
    · exact q.elim
  · exact q.elim
theorem te_ix (hW : B.W.K = X.K) (ha : PE X a (tR B ma)) (hb : PE X b (tR B mb)) (hs : PlainIx b := by intro _ _; rfl) : PE X (.Subscript a b pos) (tR B (eBin dIx ma mb)) :=
  PE.imp (pe_ix ix_seq ha hb hs) fun _ _ _ h => bin_read (o2_ix hW) h
@[simp] def oNo : M (Option Int) := fun ρ => .ok (none, ρ)
@[simp] def oAt (m : M Rs) : M (Option Int) := fun ρ => (m ρ).bind fun p => match p.1 with
  | .val (.int i) => .ok (some i, p.2)
  | _ => R.stuck
def PO' (B : Bs) (ρ : En) (G : Hp) (σ : L2.St) (H : Hp) (Q : Option Int → Hp → Prop) : R (Option Int × En) → Prop
  | .ok (b, ρ') => ∀ G' H', Nx B ρ G σ H ρ' G' H' → Q b H'
  | .err (.exc c fs) => ∀ H', Same B.H0 H' → B.E c fs H'
  | .err .stuck => False
def tO (B : Bs) (m : M (Option Int)) : TO := fun σ H Q => ∃ ρ G, Ok B ρ G σ H ∧ PO' B ρ G σ H Q (m ρ)
theorem to_none : PO X none (tO B oNo) := ⟨fun pins s σ H Q I h => by
  obtain ⟨ρ, G, ok, h⟩ := h
  exact po_none.run pins s σ H Q I (h G H (Nx.refl ok))⟩
theorem to_some (ha : PE X a (tR B ma)) : PO X (some a) (tO B (oAt ma)) := ⟨fun pins s σ H Q I h => by
  refine (po_some ha).run pins s σ H Q I ?_
  obtain ⟨ρ, G, ok, h⟩ := h
  refine ⟨ρ, G, ok, ?_⟩
  unfold oAt at h
  cases e : ma ρ with
  | err x => rw [e] at h; cases x <;> exact h
  | ok a =>
    obtain ⟨r, ρ1⟩ := a
    rw [e] at h
    cases r with
    | new d => exact (show False from h).elim
    | bor d => exact (show False from h).elim
    | val d =>
      cases d with
      | int k =>
        intro v G' H' n q f
        cases q
        exact ⟨k, rfl, h G' H' n⟩
      | _ => exact (show False from h).elim⟩
@[simp] def eSl (a : M Rs) (lo hi : M (Option Int)) : M Rs := fun ρ => (a ρ).bind fun p => (lo p.2).bind fun l => (hi l.2).bind fun h => (pk h.2 p.1).bind fun x => (dSl l.1 h.1 x).bind fun r => .ok (r, h.2)
theorem runO {α : Type} {m : M (Option Int)} {ρ : En} {G H : Hp} {σ : L2.St} {Q : VK} {Y : Option Int × En → R (Rs × En)} (ok : Ok B ρ G σ H) (h : PR B ρ G σ H Q ((m ρ).bind Y)) :
    tO B m σ H fun b H1 => ∃ ρ1 G1, Nx B ρ G σ H ρ1 G1 H1 ∧ PR B ρ1 G1 σ H1 Q (Y (b, ρ1)) := by
  refine ⟨ρ, G, ok, ?_⟩
  cases e : m ρ with
  | ok a =>
    obtain ⟨r, ρ1⟩ := a
    rw [e] at h
    exact fun G' H' n => ⟨ρ1, G', n, PR.mono n h⟩
  | err e' =>
    rw [e] at h
    have := PR.err h
    cases e' <;> exact this
theorem tO.mono {m : M (Option Int)} {σ : L2.St} {H : Hp} {Q Q' : Option Int → Hp → Prop} (h : tO B m σ H Q) (w : ∀ v H', Q v H' → Q' v H') : tO B m σ H Q' := by
  obtain ⟨ρ, G, ok, h⟩ := h
  refine ⟨ρ, G, ok, ?_⟩
  cases e : m ρ with
  | ok a => rw [e] at h; exact fun G' H' n => w _ _ (h G' H' n)
  | err x => rw [e] at h; cases x <;> exact h
theorem Reps.cut {W : Wd} {G : Hp} {vs : List V} {ds : List D} (r : Reps W G vs ds) (lo hi : Option Int) : Reps W G (cutV vs lo hi) (cutL ds lo hi) := by
  unfold cutV cutL
  rw [r.length]
  exact (r.drop _).take _
theorem cut_map (ns : List Int) (lo hi : Option Int) : cutV (ns.map V.int) lo hi = (cutL ns lo hi).map V.int := by
  unfold cutV cutL
  rw [List.length_map, List.map_take, List.map_drop]
theorem te_sl {lo hi : Option Expr} {ml mh : M (Option Int)} (hW : B.W.K = X.K) (ha : PE X a (tR B ma)) (hl : PO X lo (tO B ml)) (hh : PO X hi (tO B mh)) : PE X (.Subscript a (.Slice lo hi none p2) pos) (tR B (eSl ma ml mh)) :=
  PE.imp (pe_slice sl_list ha hl hh) fun σ H Q h => by
    obtain ⟨ρ, G, ok, h⟩ := h
    refine tR.mono (runR ok h) fun x H1 ⟨r1, ρ1, G1, n1, q1, h⟩ => ?_
    refine tO.mono (runO (α := Unit) n1.ok h) fun l H2 ⟨ρ2, G2, n2, h⟩ => ?_
    refine tO.mono (runO (α := Unit) n2.ok h) fun u H3 ⟨ρ3, G3, n3, h⟩ => ?_
    obtain ⟨d, e, h⟩ := pk_get (P := PR B ρ3 G3 σ H3 Q) h id
    have pk := pk_ok n3.ok (q1.mono (n2.ext.trans n3.ext)) e
    dsimp only at h
    unfold dSl at h
    split at h
    · obtain ⟨a, vs, rfl, ha, ra⟩ := pk.lst_of n3.ok
      exact ⟨a, vs, rfl, SqL.of ha, new_lst n3.ok (ra.cut l u) h⟩
    · rename_i ns
      obtain ⟨a, rfl, ha⟩ := pk.scr_of n3.ok
      refine ⟨a, _, rfl, hW ▸ ha, ?_⟩
      rw [cut_map]
      exact new_lst n3.ok (Reps.ints _) h
    · exact h.elim
end

/-! ### calls of built-ins, by values -/
@[simp] def pks (ρ : En) : List Rs → R (List D)
  | [] => .ok []
  | r :: rs => (pk ρ r).bind fun d => (pks ρ rs).bind fun ds => .ok (d :: ds)
inductive PkOks (B : Bs) (G H : Hp) : List V → List D → Prop
  | nil : PkOks B G H [] []
  | cons {v vs d ds} : PkOk B G H v d → PkOks B G H vs ds → PkOks B G H (v :: vs) (d :: ds)
@[simp] def eCB (f : List D → R Rs) (a : M (List Rs)) : M Rs := fun ρ => (a ρ).bind fun p => (pks p.2 p.1).bind fun ds => (f ds).bind fun r => .ok (r, p.2)
def CallS (B : Bs) (r : List V → Hp → VK → Prop) (f : List D → R Rs) : Prop := ∀ {σ ρ G H vs ds} {Q : VK}, Ok B ρ G σ H → PkOks B G H vs ds → PR B ρ G σ H Q ((f ds).bind fun r => .ok (r, ρ)) → r vs H Q
section
variable {X : Cx} {B : Bs} {x : Str} {p pos : Pos} {e : Expr} {es : List Expr} {ms : M (List Rs)} {id Tn : String} {r : List V → Hp → VK → Prop} {f : List D → R Rs}
theorem pks_get {α : Type} {P : R α → Prop} (hs : ¬ P (.err .stuck)) : ∀ {rs : List Rs} {ρ : En} {Y : List D → R α}, P ((pks ρ rs).bind Y) → ∃ ds, pks ρ rs = .ok ds ∧ P (Y ds)
  | [], ρ, Y, h => ⟨[], rfl, h⟩
  | r :: rs, ρ, Y, h => by
    unfold pks at h
    rw [R.bind_assoc] at h
    obtain ⟨d, e1, h⟩ := pk_get h hs
    rw [R.bind_assoc] at h
    obtain ⟨ds, e2, h⟩ := pks_get hs h
    refine ⟨d :: ds, ?_, h⟩
    unfold pks
    rw [e1]
    dsimp only [R.bind_ok]
    rw [e2]
    rfl
theorem st_rv {G : Hp} {σ : L2.St} {v : V} {r : Rs} (h : RvOk B G σ v r) : RvOk B G σ v (st r) := by cases r <;> first | exact h | exact (show False from h).elim
theorem pks_ok {ρ : En} {G H : Hp} {σ : L2.St} (ok : Ok B ρ G σ H) : ∀ {vs : List V} {rs : List Rs} {ds : List D}, RvsOk B G σ vs rs → pks ρ rs = .ok ds → PkOks B G H vs ds
  | _, _, _, .nil, e => by cases e; exact .nil
  | _, _, ds, .cons (r := r) (rs := rs) h t, e => by
    unfold pks at e
    cases e1 : pk ρ r with
    | err x => rw [e1] at e; cases e
    | ok d =>
      rw [e1] at e
      dsimp only [R.bind_ok] at e
      cases e2 : pks ρ rs with
      | err x => rw [e2] at e; cases e
      | ok ds' =>
        rw [e2] at e; cases e
        exact .cons (pk_ok ok (st_rv h) e1) (pks_ok ok t e2)
theorem cb_read (hf : CallS B r f) {σ : L2.St} {H : Hp} {Q : VK} (h : tR B (eCB f ms) σ H Q) : tCB r (tA B ms) σ H Q := by
  obtain ⟨ρ, G, ok, h⟩ := h
  refine tA.mono (runLR ok h) fun vs H1 ⟨rs, ρ1, G1, n1, q1, h1⟩ => ?_
  obtain ⟨ds, e1, h2⟩ := pks_get (P := PR B ρ1 G1 σ H1 Q) id h1
  exact hf n1.ok (pks_ok n1.ok q1 e1) h2
theorem te_callB (hc : CallR X (.builtin id) r) (hf : CallS B r f) (hm : X.mg x = none) (hv : bootBuiltins x = some (.builtin id)) (ha : PA X (e :: es) (tA B ms)) (hg : Gl X x := by rfl) (hn : x ≠ "__name__" := by decide) (hdb : (x == ("__debug__" : Str)) = false := by decide)
    (he : starEach (e :: es) X.env = (false, eval e X.env) :: starEach es X.env := by rfl) (hpl : (backTo pos (starEach es X.env)).any (·.1) = false := by rfl) : PE X (.Call (.Name x p) (e :: es) [] pos) (tR B (eCB f ms)) :=
  PE.imp (pe_callB hc hg hm hv ha hn hdb he hpl) fun _ _ _ h => cb_read hf h
theorem te_callTy (hc : CallR X (.type Tn) r) (hf : CallS B r f) (hm : X.mg x = none) (hv : bootBuiltins x = some (.type Tn)) (ha : PA X (e :: es) (tA B ms)) (hg : Gl X x := by rfl) (hn : x ≠ "__name__" := by decide) (hdb : (x == ("__debug__" : Str)) = false := by decide)
    (he : starEach (e :: es) X.env = (false, eval e X.env) :: starEach es X.env := by rfl) (hpl : (backTo pos (starEach es X.env)).any (·.1) = false := by rfl) : PE X (.Call (.Name x p) (e :: es) [] pos) (tR B (eCB f ms)) :=
  PE.imp (pe_callTy hc hg hm hv ha hn hdb he hpl) fun _ _ _ h => cb_read hf h
/-- len -/
@[simp] def dLen : List D → R Rs
  | [.lst xs] => .ok (.val (.int xs.length))
  | [.tup xs] => .ok (.val (.int xs.length))
  | [.scr xs] => .ok (.val (.int xs.length))
  | [.str z] => if z.length ≤ 16777216 then .ok (.val (.int z.length)) else R.stuck
  | _ => R.stuck
theorem PkOks.one {G H : Hp} {vs : List V} {d : D} (h : PkOks B G H vs [d]) : ∃ v, vs = [v] ∧ PkOk B G H v d := by
  cases h with | cons a b => cases b; exact ⟨_, rfl, a⟩
theorem PkOks.two {G H : Hp} {vs : List V} {d e : D} (h : PkOks B G H vs [d, e]) : ∃ v w, vs = [v, w] ∧ PkOk B G H v d ∧ PkOk B G H w e := by
  cases h with | cons a b => cases b with | cons b c => cases c; exact ⟨_, _, rfl, a, b⟩
theorem c_len (hW : B.W.K = X.K) : CallS B (fun xs H Q => ∃ x n, xs = [x] ∧ LenV X.K x H n ∧ Q (.int n) H) dLen := by
  intro σ ρ G H vs ds Q ok p q
  unfold dLen at q
  split at q
  · obtain ⟨v, rfl, p1⟩ := p.one
    obtain ⟨a, ws, rfl, ha, ra⟩ := p1.lst_of ok
    exact ⟨_, _, rfl, .inl ⟨ws, SqL.of ha, rfl⟩, by rw [ra.length]; exact pr_val ok (.int _) q⟩
  · obtain ⟨v, rfl, p1⟩ := p.one
    obtain ⟨a, ws, rfl, ha, ra⟩ := p1.tup_of ok
    exact ⟨_, _, rfl, .inr ⟨ws, SqT.of ha, rfl⟩, by rw [ra.length]; exact pr_val ok (.int _) q⟩
  · rename_i ns
    obtain ⟨v, rfl, p1⟩ := p.one
    obtain ⟨a, rfl, ha⟩ := p1.scr_of ok
    exact ⟨_, ns.length, rfl, .inl ⟨_, hW ▸ ha, by rw [List.length_map]⟩, pr_val ok (.int _) q⟩
  · split at q
    · rename_i z hz
      obtain ⟨v, rfl, p1⟩ := p.one
      cases p1.str_of
      exact ⟨_, z.length, rfl, ⟨by rw [sizeLine_eq]; exact hz, rfl⟩, pr_val ok (.int _) q⟩
    · exact q.elim
  · exact q.elim
/-- max, min of two ints -/
@[simp] def dMax2 : List D → R Rs
  | [.int i, .int j] => .ok (.val (.int (if i < j then j else i)))
  | _ => R.stuck
@[simp] def dMin2 : List D → R Rs
  | [.int i, .int j] => .ok (.val (.int (if j < i then j else i)))
  | _ => R.stuck
theorem c_max2 : CallS B (fun xs H Q => ∃ i j, xs = [.int i, .int j] ∧ Q (.int (if j > i then j else i)) H) dMax2 := by
  intro σ ρ G H vs ds Q ok p q
  unfold dMax2 at q
  split at q
  · obtain ⟨v, w, rfl, p1, p2⟩ := p.two
    cases p1.int_of
    cases p2.int_of
    exact ⟨_, _, rfl, pr_val ok (.int _) q⟩
  · exact q.elim
theorem c_min2 : CallS B (fun xs H Q => ∃ i j, xs = [.int i, .int j] ∧ Q (.int (if j < i then j else i)) H) dMin2 := by
  intro σ ρ G H vs ds Q ok p q
  unfold dMin2 at q
  split at q
  · obtain ⟨v, w, rfl, p1, p2⟩ := p.two
    cases p1.int_of
    cases p2.int_of
    exact ⟨_, _, rfl, pr_val ok (.int _) q⟩
  · exact q.elim
/-- int(x) of an int, a bool -/
@[simp] def dInt1 : List D → R Rs
  | [.int i] => .ok (.val (.int i))
  | [.bl b] => .ok (.val (.int (if b then 1 else 0)))
  | _ => R.stuck
theorem c_int1 : CallS B (fun xs H Q => (∃ i, xs = [.int i] ∧ Q (.int i) H) ∨ ∃ k, xs = [.bl k] ∧ Q (.int (if k then 1 else 0)) H) dInt1 := by
  intro σ ρ G H vs ds Q ok p q
  unfold dInt1 at q
  split at q
  · obtain ⟨v, rfl, p1⟩ := p.one
    cases p1.int_of
    exact .inl ⟨_, rfl, pr_val ok (.int _) q⟩
  · obtain ⟨v, rfl, p1⟩ := p.one
    cases p1.bl_of
    exact .inr ⟨_, rfl, pr_val ok (.int _) q⟩
  · exact q.elim
/-- isinstance(x, T), T a built-in class -/
@[simp] def D.tyN : D → Option String
  | .non => some "NoneType"
  | .bl _ => some "bool"
  | .int _ => some "int"
  | .str _ => some "str"
  | .lst _ => some "list"
  | .tup _ => some "tuple"
  | .dct _ => some "dict"
  | _ => none
@[simp] def dIsi : List D → R Rs
  | [d, .ty n] => match d.tyN with
    | some t => match kitB t n with | some b => .ok (.val (.bl b)) | none => R.stuck
    | none => R.stuck
  | _ => R.stuck
theorem PkOk.tyOf {K : PySem.W.Frag} {ρ : En} {G H : Hp} {σ : L2.St} {v : V} {d : D} {t : String} (ok : Ok B ρ G σ H) (h : PkOk B G H v d) (e : d.tyN = some t) : TyX K H v (.type t) := by
  refine .base ?_
  cases d with
  | non => cases e; rcases h with h | ⟨p, _, _, _, b⟩ <;> first | (cases h; exact .non) | (rcases b with ⟨_, _, e, _⟩ | ⟨_, _, e, _⟩ <;> cases e)
  | bl i => cases e; cases h.bl_of; exact .bl i
  | int i => cases e; cases h.int_of; exact .int i
  | str i => cases e; cases h.str_of; exact .str i
  | lst i => cases e; obtain ⟨a, vs, rfl, ha, _⟩ := h.lst_of ok; exact .lst ha
  | tup i => cases e; obtain ⟨a, vs, rfl, ha, _⟩ := h.tup_of ok; exact .tup ha
  | dct i =>
    cases e
    rcases h with h | ⟨p, rfl, _, _, b⟩
    · cases h with | dct h r => exact .dK (ok.gh _ _ h)
    · rcases b with ⟨_, _, e, _⟩ | ⟨_, _, e, hb, _⟩
      · cases e
      · exact .dK hb
  | _ => cases e
theorem c_isi (hW : B.W.K = X.K) : CallS B (rIsi X.K) dIsi := by
  intro σ ρ G H vs ds Q ok p q
  unfold dIsi at q
  split at q
  · split at q
    · rename_i t et
      split at q
      · rename_i b eb
        obtain ⟨v, w, rfl, p1, p2⟩ := p.two
        cases p2.ty_of
        exact ⟨v, _, .type t, _, b, rfl, .ty _, p1.tyOf ok et, kit_ty eb, pr_val ok (.bl _) q⟩
      · exact q.elim
    · exact q.elim
  · exact q.elim
theorem te_ty {n : String} (hm : X.mg x = none) (hv : bootBuiltins x = some (.type n)) (hg : Gl X x := by rfl) (hn : x ≠ "__name__" := by decide) (hd : (x == ("__debug__" : Str)) = false := by decide) : PE X (.Name x pos) (tR B (eC (.ty n))) :=
  te_c (pe_bltn (v := .ty n) hg hm hv rfl hn hd) fun _ => .ty n
/-- list(xs) -/
@[simp] def dList : List D → R Rs
  | [.lst xs] => .ok (.new (.lst xs))
  | [.tup xs] => .ok (.new (.lst xs))
  | [.scr xs] => .ok (.new (.lst (xs.map .int)))
  | _ => R.stuck
theorem c_list (hW : B.W.K = X.K) : CallS B (fun xs H Q => ∃ p ys, xs = [.ref p] ∧ (SqL X.K H p ys ∨ SqT X.K H p ys) ∧ ∀ l, H l = none → Q (.ref l) (upd H l (.lst ys))) dList := by
  intro σ ρ G H vs ds Q ok p q
  unfold dList at q
  split at q
  · obtain ⟨v, rfl, p1⟩ := p.one
    obtain ⟨a, ws, rfl, ha, ra⟩ := p1.lst_of ok
    exact ⟨_, _, rfl, .inl (SqL.of ha), new_lst ok ra q⟩
  · obtain ⟨v, rfl, p1⟩ := p.one
    obtain ⟨a, ws, rfl, ha, ra⟩ := p1.tup_of ok
    exact ⟨_, _, rfl, .inr (SqT.of ha), new_lst ok ra q⟩
  · rename_i ns
    obtain ⟨v, rfl, p1⟩ := p.one
    obtain ⟨a, rfl, ha⟩ := p1.scr_of ok
    exact ⟨_, _, rfl, .inl (hW ▸ ha), new_lst ok (Reps.ints ns) q⟩
  · exact q.elim
/-- sum of ints -/
def intsOf : List D → Option (List Int)
  | [] => some []
  | .int i :: ds => match intsOf ds with | some is => some (i :: is) | none => none
  | _ => none
theorem intsOf_map (ns : List Int) : intsOf (ns.map .int) = some ns := by
  induction ns with
  | nil => rfl
  | cons n ns ih => rw [List.map_cons, intsOf, ih]
theorem Reps.intsOf {W : Wd} {G : Hp} : ∀ {vs : List V} {ds : List D} {ns : List Int}, Reps W G vs ds → T.intsOf ds = some ns → vs = ns.map V.int
  | _, _, ns, .nil, e => by cases e; rfl
  | _, _, ns, .cons (d := d) (ds := ds) r t, e => by
    cases d with
    | int i =>
      unfold T.intsOf at e
      split at e
      · rename_i is q; cases e; cases r; rw [List.map_cons, Reps.intsOf t q]
      · cases e
    | _ => cases e
@[simp] def dSum : List D → R Rs
  | [.lst xs] => match intsOf xs with | some ns => .ok (.val (.int ns.sum)) | none => R.stuck
  | [.scr ns] => .ok (.val (.int ns.sum))
  | _ => R.stuck
theorem c_sum (hW : B.W.K = X.K) : CallS B (rSum X.K) dSum := by
  intro σ ρ G H vs ds Q ok p q
  unfold dSum at q
  split at q
  · split at q
    · rename_i ns e
      obtain ⟨v, rfl, p1⟩ := p.one
      obtain ⟨a, ws, rfl, ha, ra⟩ := p1.lst_of ok
      cases ra.intsOf e
      exact ⟨a, ns, rfl, SqL.of ha, pr_val ok (.int _) q⟩
    · exact q.elim
  · obtain ⟨v, rfl, p1⟩ := p.one
    obtain ⟨a, rfl, ha⟩ := p1.scr_of ok
    exact ⟨a, _, rfl, hW ▸ ha, pr_val ok (.int _) q⟩
  · exact q.elim
end
end T
namespace T
open PySem PySem.Spec PyProof.Rows L2

/-! ### a def's promise -/
mutual
@[simp] def D.flat : D → Bool
  | .non => true
  | .bl _ => true
  | .int _ => true
  | .str _ => true
  | .ty _ => true
  | .glo _ => true
  | .tup xs => D.flats xs
  | _ => false
@[simp] def D.flats : List D → Bool
  | [] => true
  | d :: ds => d.flat && D.flats ds
end
@[simp] def Rs.flat : Rs → Bool
  | .val d => d.flat
  | .new (.lst xs) => D.flats xs
  | _ => false
def RtOk (W : Wd) (G H H' : Hp) (v : V) : Rs → Prop
  | .val d => Rep W G v d
  | .new d => ∃ p, v = .ref p ∧ H p = none ∧ G p = none ∧ Body W G H' p d
  | .bor _ => False
/-- what a caller is told of an exception -/
def ExV (W : Wd) (G : Hp) (c : Str) (fs : List (Str × D)) (e : Value) (od : Option Addr) (H : Hp) : Prop :=
  ∃ C, W.mg c = some (.ref C) ∧ e = .ref C ∧ ((fs = [] ∧ od = none) ∨ ∃ d vs, od = some d ∧ H d = some (.xd vs) ∧ Flds W G vs fs)
/-- x: whether an exception may leave -/
def PM (W : Wd) (x : Bool) (G0 H : Hp) (Q : VK) (E : XK) : R Rs → Prop
  | .ok r => ∀ v G' H', Same G0 G' → Same G' H' → Same H H' → (∀ a o, G' a = some o → G0 a = some o ∨ H a = none) → RtOk W G' H H' v r → Q v H'
  | .err (.exc c fs) => x = true ∧ ∀ e od G' H', Same G0 G' → Same G' H' → Same H H' → ExV W G' c fs e od H' → E e od H'
  | .err .stuck => False
def spM (W : Wd) (x : Bool) (n : Nat) (m : List D → R Rs) : Sp := fun vs H Q E => ∃ G0 ds, ds.length = n ∧ Same G0 H ∧ Reps W G0 vs ds ∧ PM W x G0 H Q E (m ds)
theorem spM_len {W : Wd} {x : Bool} {n : Nat} {m : List D → R Rs} {vs : List V} {H : Hp} {Q : VK} {E : XK} (h : spM W x n m vs H Q E) : vs.length = n := by
  obtain ⟨G0, ds, e, _, r, _⟩ := h
  rw [r.length, e]

/-! ### a call of a def -/
@[simp] def eCall (m : List D → R Rs) (a : M (List Rs)) : M Rs := fun ρ => (a ρ).bind fun p => (fzs p.1 p.2).bind fun q => (m q.1).bind fun r => .ok (r, if r.flat = true then p.2 else q.2)
section
variable {X : Cx} {B : Bs} {ρ ρ1 ρ2 : En} {G G1 G2 G' : Hp} {σ : L2.St} {H H1 H' : Hp}
theorem body_same {W : Wd} {G G' H H' : Hp} {p : Addr} {d : D} (h : Body W G H p d) (g : Same G G') (e : ∀ o, H p = some o → H' p = some o) : Body W G' H' p d := by
  rcases h with ⟨vs, ds, z1, z2, z3⟩ | ⟨vs, ds, z1, z2, z3⟩
  · exact .inl ⟨vs, ds, z1, e _ z2, z3.mono g⟩
  · exact .inr ⟨vs, ds, z1, e _ z2, z3.mono g⟩
mutual
theorem flat_rep {W : Wd} {G G' : Hp} (h : ∀ a vs, G a = some (.tup vs) → G' a = some (.tup vs)) : ∀ {v : V} {d : D}, Rep W G v d → d.flat = true → Rep W G' v d
  | _, _, .non, _ => .non
  | _, _, .bl b, _ => .bl b
  | _, _, .int b, _ => .int b
  | _, _, .str b, _ => .str b
  | _, _, .ty b, _ => .ty b
  | _, _, .glo b, _ => .glo b
  | _, _, .tup (ds := ds) e r, f => .tup (h _ _ e) (flat_reps h r (by simpa [D.flat] using f))
  | _, _, .lst e r, f => by simp [D.flat] at f
  | _, _, .scr e, f => by simp [D.flat] at f
  | _, _, .obj e e2 r, f => by simp [D.flat] at f
  | _, _, .dct e r, f => by simp [D.flat] at f
theorem flat_reps {W : Wd} {G G' : Hp} (h : ∀ a vs, G a = some (.tup vs) → G' a = some (.tup vs)) : ∀ {vs : List V} {ds : List D}, Reps W G vs ds → D.flats ds = true → Reps W G' vs ds
  | _, _, .nil, _ => .nil
  | _, _, .cons r t, f => by
    simp only [D.flats, Bool.and_eq_true] at f
    exact .cons (flat_rep h r f.1) (flat_reps h t f.2)
end
open Classical in
/-- behind a call: what was frozen for it alone is free again where the result holds none of it -/
theorem call_back (ok1 : Ok B ρ1 G1 σ H1) (n2 : Nx B ρ1 G1 σ H1 ρ2 G2 H1) {v : V} {r : Rs} (s1 : Same G2 G') (s2 : Same G' H') (s3 : Same H1 H') (nw : ∀ a o, G' a = some o → G2 a = some o ∨ H1 a = none) (h : RtOk B.W G' H1 H' v r) :
    ∃ G'', Nx B ρ1 G1 σ H1 (if r.flat = true then ρ1 else ρ2) G'' H' ∧ RsOk B (if r.flat = true then ρ1 else ρ2) G'' σ H' v r ∧ Fr H1 v r := by
  have fr : Fr H1 v r := by
    cases r with
    | new d => obtain ⟨p, rfl, e, _⟩ := h; exact fun q z => by cases z; exact e
    | _ => exact True.intro
  by_cases f : r.flat = true
  · rw [if_pos f]
    refine ⟨fun a => if Owned ρ1 σ a then none else G' a, ?_, ?_, fr⟩
    · have og : ∀ a, Owned ρ1 σ a → G1 a = none := fun a ⟨i, d, e1, e2⟩ => by
        obtain ⟨p, e3, o⟩ := (show SlOk B G1 H1 σ[i]? (.own d) from ok1.sl i _ e1)
        rw [e2] at e3; cases e3; exact o.g
      have ext : Same G1 (fun a => if Owned ρ1 σ a then none else G' a) := fun a o e => by
        show (if Owned ρ1 σ a then none else G' a) = some o
        rw [if_neg (fun z => by rw [og a z] at e; cases e)]
        exact s1 a o (n2.ext a o e)
      have inv : ∀ a o, (if Owned ρ1 σ a then none else G' a) = some o → ¬ Owned ρ1 σ a ∧ G' a = some o := fun a o e => by
        by_cases z : Owned ρ1 σ a
        · rw [if_pos z] at e; cases e
        · rw [if_neg z] at e; exact ⟨z, e⟩
      refine ⟨ext, ⟨ok1.len, ok1.g0.trans ext, fun a o e => s2 a o (inv a o e).2, ok1.h0.trans s3, fun a o e => ?_, fun i s e => ?_, ok1.ap⟩, fun a o e _ => s3 a o e, fun a o e => ?_, fun _ s e => ⟨s, e, SlLe.refl s⟩, fun a o e => ⟨o, s3 a o e⟩⟩
      · rcases nw a o (inv a o e).2 with z | z
        · exact n2.ok.nw a o z
        · exact .inr (ok1.h0none z)
      · have q := ok1.sl i s e
        cases s with
        | un => exact True.intro
        | val d => obtain ⟨u, e1, rr⟩ := q; exact ⟨u, e1, rr.mono ext⟩
        | own d =>
          obtain ⟨p, e1, o1, o2, b⟩ := q
          exact ⟨p, e1, o1, if_pos ⟨i, d, e, e1⟩, body_same b ext fun o z => s3 p o z⟩
      · rcases nw a o (inv a o e).2 with z | z
        · rcases n2.gnew a o z with y | y | y
          · exact .inl y
          · exact .inr (.inl y)
          · exact ((inv a o e).1 y).elim
        · exact .inr (.inl z)
    · have tp : ∀ a vs, G' a = some (.tup vs) → (if Owned ρ1 σ a then none else G' a) = some (.tup vs) := fun a vs e => by
        rw [if_neg]
        · exact e
        · rintro ⟨i, d, e1, e2⟩
          obtain ⟨p, e3, o1, o2, b⟩ := (show SlOk B G1 H1 σ[i]? (.own d) from ok1.sl i _ e1)
          rw [e2] at e3; cases e3
          have e9 := s2 a _ e
          rcases b with ⟨_, _, _, z2, _⟩ | ⟨_, _, _, z2, _⟩
          · rw [s3 a _ z2] at e9; cases e9
          · rw [s3 a _ z2] at e9; cases e9
      cases r with
      | val d => exact flat_rep tp h f
      | bor i => exact (show False from h).elim
      | new d =>
        obtain ⟨p, rfl, e1, e2, b⟩ := h
        have no : ¬ Owned ρ1 σ p := ok1.notOwned e1
        refine ⟨p, rfl, ⟨ok1.h0none e1, ?_, ?_⟩, no⟩
        · show (if Owned ρ1 σ p then none else G' p) = none
          rw [if_neg no]; exact e2
        · rcases b with ⟨vs, ds, rfl, z2, z3⟩ | ⟨vs, ds, rfl, z2, z3⟩
          · exact .inl ⟨vs, ds, rfl, z2, flat_reps tp z3 f⟩
          · cases f
  · rw [if_neg f]
    have n3 : Nx B ρ2 G2 σ H1 ρ2 G' H' := by
      refine ⟨s1, ⟨n2.ok.len, n2.ok.g0.trans s1, s2, n2.ok.h0.trans s3, fun a o e => ?_, fun i s e => ?_, n2.ok.ap⟩, fun a o e _ => s3 a o e, fun a o e => ?_, fun _ s e => ⟨s, e, SlLe.refl s⟩, fun a o e => ⟨o, s3 a o e⟩⟩
      · rcases nw a o e with z | z
        · exact n2.ok.nw a o z
        · exact .inr (ok1.h0none z)
      · have q := n2.ok.sl i s e
        cases s with
        | un => exact True.intro
        | val d => obtain ⟨u, e1, rr⟩ := q; exact ⟨u, e1, rr.mono s1⟩
        | own d =>
          obtain ⟨p, e1, o1, o2, b⟩ := q
          refine ⟨p, e1, o1, ?_, body_same b s1 fun o z => s3 p o z⟩
          cases z : G' p with
          | none => rfl
          | some o =>
            rcases nw p o z with y | y
            · rw [o2] at y; cases y
            · obtain ⟨_, y2⟩ := n2.ok.ownedSome ⟨i, d, e, e1⟩
              rw [y] at y2; cases y2
      · rcases nw a o e with z | z
        · exact .inl z
        · exact .inr (.inl z)
    refine ⟨G', n2.trans n3, ?_, fr⟩
    cases r with
    | val d => exact h
    | bor i => exact (show False from h).elim
    | new d =>
      obtain ⟨p, rfl, e1, e2, b⟩ := h
      exact ⟨p, rfl, ⟨ok1.h0none e1, e2, b⟩, fun z => ok1.notOwned e1 (n2.owned z)⟩
variable {CX : CXT} {k : Nat} {f : Addr} {fd : FuncData} {ps : List Str} {E : XK} {x : Str} {p pos : Pos} {e : Expr} {es : List Expr} {ms : M (List Rs)} {n : Nat} {m : List D → R Rs} {xx : Bool}
theorem RvsOk.length {G : Hp} {σ : L2.St} : ∀ {vs : List V} {rs : List Rs}, RvsOk B G σ vs rs → vs.length = rs.length
  | _, _, .nil => rfl
  | _, _, .cons _ t => congrArg (· + 1) t.length
/-- how many arguments -/
def Len (n : Nat) (ms : M (List Rs)) : Prop := ∀ ρ a ρ', ms ρ = .ok (a, ρ') → a.length = n
theorem len_nil : Len 0 aNil := fun ρ a ρ' e => by cases e; rfl
theorem len_cons {n : Nat} {m : M Rs} {ms : M (List Rs)} (h : Len n ms) : Len (n + 1) (aCons m ms) := fun ρ a ρ' e => by
  unfold aCons at e
  cases e1 : m ρ with
  | err x => rw [e1] at e; cases e
  | ok p =>
    rw [e1] at e
    dsimp only [R.bind_ok] at e
    cases e2 : ms p.2 with
    | err x => rw [e2] at e; cases e
    | ok q =>
      obtain ⟨q1, q2⟩ := q
      rw [e2] at e; cases e
      rw [List.length_cons, h _ _ _ e2]
theorem call_read (hE : xx = true → ∀ c fs e od G' H', Same B.H0 H' → Same B.G0 G' → Same G' H' → ExV B.W G' c fs e od H' → B.E c fs H' → E e od H') (hx : xx = true ∨ ∀ ds c fs, m ds ≠ .err (.exc c fs)) (hn : Len n ms) {σ : L2.St} {H : Hp} {Q : VK}
    (h : tR B (eCall m ms) σ H Q) : tCall (spM B.W xx n m) [] E (tA B ms) σ H Q := by
  obtain ⟨ρ, G, ok, h⟩ := h
  have hl := hn ρ
  refine tA.mono (show tA B ms σ H fun vs H1 => ∃ rs ρ1 G1, Nx B ρ G σ H ρ1 G1 H1 ∧ RvsOk B G1 σ vs rs ∧ rs.length = n ∧ PR B ρ1 G1 σ H1 Q ((fzs rs ρ1).bind fun q => (m q.1).bind fun r => .ok (r, if r.flat = true then ρ1 else q.2)) from ?_) fun vs H1 ⟨rs, ρ1, G1, n1, q1, ln, h1⟩ => ?_
  · refine ⟨ρ, G, ok, ?_⟩
    unfold eCall at h
    cases e : ms ρ with
    | ok a =>
      obtain ⟨r, ρ1⟩ := a
      rw [e] at h
      exact fun v G' H' nx q => ⟨r, ρ1, G', nx, q, hl r ρ1 e, PR.mono nx h⟩
    | err e' =>
      rw [e] at h
      have := PR.err h
      cases e' <;> exact this
  · obtain ⟨ds, ρ2, e2, h2⟩ := fzs_get (P := PR B ρ1 G1 σ H1 Q) id h1
    obtain ⟨G2, n2, r2⟩ := fzs_ok n1.ok q1 e2
    dsimp only at h2
    have ld : ds.length = n := by rw [← r2.length, q1.length, ln]
    show spM B.W xx n m (vs ++ []) H1 Q E
    rw [List.append_nil]
    refine ⟨G2, ds, ld, n2.ok.gh, r2, ?_⟩
    cases e3 : m ds with
    | ok r =>
      rw [e3] at h2
      intro v G' H' s1 s2 s3 nw rt
      obtain ⟨G'', n3, rs3, fr⟩ := call_back n1.ok n2 s1 s2 s3 nw rt
      exact h2 v G'' H' n3 rs3 fr
    | err x =>
      rw [e3] at h2
      cases x with
      | stuck => exact h2
      | exc c fs =>
        rcases hx with hx | hx
        · exact ⟨hx, fun e od G' H' s1 s2 s3 ev => hE hx c fs e od G' H' (n2.ok.h0.trans s3) (n2.ok.g0.trans s1) s2 ev (h2 H' (n2.ok.h0.trans s3))⟩
        · exact (hx _ _ _ e3).elim
/-- a def that raises nothing: what its mirror says of errors is dropped -/
@[simp] def noexc (x : R Rs) : R Rs := match x with
  | .ok r => .ok r
  | .err _ => R.stuck
theorem noexc_ne {x : R Rs} (c : Str) (fs : List (Str × D)) : noexc x ≠ .err (.exc c fs) := by cases x <;> exact fun h => by cases h
theorem noexc_sp {W : Wd} {m : List D → R Rs} {vs : List V} {H : Hp} {Q : VK} {E : XK} (h : spM W xx n (fun ds => noexc (m ds)) vs H Q E) : spM W xx n m vs H Q E := by
  obtain ⟨G0, ds, e1, e2, e3, h⟩ := h
  refine ⟨G0, ds, e1, e2, e3, ?_⟩
  have h : PM W xx G0 H Q E (noexc (m ds)) := h
  cases e : m ds with
  | ok r => rw [e] at h; exact h
  | err x => rw [e] at h; exact (show False from h).elim
theorem te_call (F : FnOk X.prog X.w X.K X.mg X.base CX0 k f fd ps (spM B.W false n m)) (hr : Room k X.A) (hm : X.mg x = some (.ref f)) (hk : PySem.W.keepIn X.K (.ref f) = true) (hb : Binds X.K fd ps []) (hl : Len n ms) (ha : PA X (e :: es) (tA B ms))
    (hg : Gl X x := by rfl) (hdb : (x == ("__debug__" : Str)) = false := by decide) (he : starEach (e :: es) X.env = (false, eval e X.env) :: starEach es X.env := by rfl) (hpl : (backTo pos (starEach es X.env)).any (·.1) = false := by rfl) :
    PE X (.Call (.Name x p) (e :: es) [] pos) (tR B (eCall (fun ds => noexc (m ds)) ms)) :=
  PE.imp (pe_call (F.imp fun vs H Q E h => noexc_sp h) hr hg hm hk hb .nil (pass0 (X := X)) ha hdb he hpl) fun σ H Q h => by
    refine call_read (xx := false) (E := E0) (fun z => nomatch z) (.inr fun ds c fs => noexc_ne c fs) hl h
end
end T
namespace T
open PySem PySem.Spec PyProof.Rows L2

/-! ### statements -/
inductive Fl where
  | next | brk | cont | ret (r : Rs)
abbrev Sm := En → R (Fl × En)
def PS' (B : Bs) (G : Hp) (E : Ends) : R (Fl × En) → Prop
  | .ok (.next, ρ') => ∀ σ' G' H', Same G G' → Ok B ρ' G' σ' H' → E.nx σ' H'
  | .ok (.brk, ρ') => ∀ σ' G' H', Same G G' → Ok B ρ' G' σ' H' → E.bk σ' H'
  | .ok (.cont, ρ') => ∀ σ' G' H', Same G G' → Ok B ρ' G' σ' H' → E.ct σ' H'
  | .ok (.ret r, ρ') => ∀ v σ' G' H', Same G G' → Ok B ρ' G' σ' H' → RsOk B ρ' G' σ' H' v r → E.rt v H'
  | .err (.exc c fs) => ∀ H', Same B.H0 H' → B.E c fs H'
  | .err .stuck => False
def tS (B : Bs) (m : Sm) : TS := fun E σ H => ∃ ρ G, Ok B ρ G σ H ∧ PS' B G E (m ρ)
section
variable {X : Cx}
theorem PS.imp {s : Stmt} {t t' : TS} (h : PS X s t) (w : ∀ E σ H, t' E σ H → t E σ H) : PS X s t' := ⟨fun pins s σ H E I q => h.run pins s σ H E I (w E σ H q)⟩
theorem PSs.imp {s : List Stmt} {t t' : TS} (h : PSs X s t) (w : ∀ E σ H, t' E σ H → t E σ H) : PSs X s t' := ⟨fun pins s σ H E I q => h.run pins s σ H E I (w E σ H q)⟩
end
section
variable {B : Bs} {ρ ρ1 : En} {G G1 : Hp} {σ : L2.St} {H H1 : Hp} {E : Ends}
theorem PS'.mono (s : Same G G1) {x : R (Fl × En)} (h : PS' B G E x) : PS' B G1 E x := by
  cases x with
  | ok a =>
    obtain ⟨f, ρ'⟩ := a
    cases f with
    | next => exact fun σ' G' H' e q => h σ' G' H' (s.trans e) q
    | brk => exact fun σ' G' H' e q => h σ' G' H' (s.trans e) q
    | cont => exact fun σ' G' H' e q => h σ' G' H' (s.trans e) q
    | ret r => exact fun v σ' G' H' e q => h v σ' G' H' (s.trans e) q
  | err e => cases e <;> exact h
theorem PS'.err {e : Ex} (h : PS' B G E (.err e)) : PErr B e := by cases e <;> exact h
theorem runS {m : M Rs} {Y : Rs × En → R (Fl × En)} (ok : Ok B ρ G σ H) (h : PS' B G E ((m ρ).bind Y)) : tR B m σ H fun x H1 => ∃ r ρ1 G1, Nx B ρ G σ H ρ1 G1 H1 ∧ RvOk B G1 σ x (st r) ∧ PS' B G1 E (Y (r, ρ1)) :=
  run (P := fun x ρ G H => PS' B G E x) ok h (fun x n h => PS'.mono n.ext h) (fun e h => PS'.err h)
theorem runSN {m : M Rs} {Y : Rs × En → R (Fl × En)} (ok : Ok B ρ G σ H) (h : PS' B G E ((m ρ).bind Y)) : tR B m σ H fun x H1 => ∃ r ρ1 G1, Nx B ρ G σ H ρ1 G1 H1 ∧ RsOk B ρ1 G1 σ H1 x r ∧ Fr H x r ∧ PS' B G1 E (Y (r, ρ1)) :=
  runN (P := fun x ρ G H => PS' B G E x) ok h (fun x n h => PS'.mono n.ext h) (fun e h => PS'.err h)
theorem runST {m : M Bool} {Y : Bool × En → R (Fl × En)} (ok : Ok B ρ G σ H) (h : PS' B G E ((m ρ).bind Y)) : tT B m σ H fun x H1 => ∃ ρ1 G1, Nx B ρ G σ H ρ1 G1 H1 ∧ PS' B G1 E (Y (x, ρ1)) :=
  runT (P := fun x ρ G H => PS' B G E x) ok h (fun x n h => PS'.mono n.ext h) (fun e h => PS'.err h)
end
@[simp] def sNil : Sm := fun ρ => .ok (.next, ρ)
@[simp] def sSeq (a b : Sm) : Sm := fun ρ => (a ρ).bind fun p => match p.1 with
  | .next => b p.2
  | f => .ok (f, p.2)
@[simp] def sRet (m : M Rs) : Sm := fun ρ => (m ρ).bind fun p => match p.1 with
  | .bor i => match p.2[i]? with
    | some (.own d) => .ok (.ret (.new d), p.2.set i .un)
    | some (.val d) => .ok (.ret (.val d), p.2)
    | _ => R.stuck
  | r => .ok (.ret r, p.2)
@[simp] def sRetN : Sm := fun ρ => .ok (.ret (.val .non), ρ)
@[simp] def sIf (t : M Bool) (a b : Sm) : Sm := fun ρ => (t ρ).bind fun p => if p.1 = true then a p.2 else b p.2
@[simp] def sBrk : Sm := fun ρ => .ok (.brk, ρ)
@[simp] def sCont : Sm := fun ρ => .ok (.cont, ρ)
@[simp] def sDrop (m : M Rs) : Sm := fun ρ => (m ρ).bind fun p => .ok (.next, p.2)
/-- a slot gets a result -/
@[simp] def put (i : Nat) (r : Rs) (ρ : En) : R En := if i < ρ.length then (match r with
  | .val d => .ok (ρ.set i (.val d))
  | .new d => .ok (ρ.set i (.own d))
  | .bor j => (fz (.bor j) ρ).bind fun q => .ok (q.2.set i (.val q.1))) else R.stuck
@[simp] def sSet (i : Nat) (m : M Rs) : Sm := fun ρ => (m ρ).bind fun p => (put i p.1 p.2).bind fun ρ1 => .ok (.next, ρ1)
section
variable {X : Cx} {B : Bs} {st : Stmt} {rest : List Stmt} {a b : Sm} {e : Expr} {m : M Rs} {pos : Pos}
theorem ts_nil : PSs X [] (tS B sNil) := PSs.imp pss_nil fun E σ H h => by
  obtain ⟨ρ, G, ok, h⟩ := h
  exact h σ G H (Same.refl _) ok
theorem ts_cons (h1 : PS X st (tS B a)) (h2 : PSs X rest (tS B b)) : PSs X (st :: rest) (tS B (sSeq a b)) := PSs.imp (pss_cons h1 h2) fun E σ H h => by
  obtain ⟨ρ, G, ok, h⟩ := h
  refine ⟨ρ, G, ok, ?_⟩
  unfold sSeq at h
  cases e : a ρ with
  | err x => rw [e] at h; cases x <;> exact h
  | ok p =>
    obtain ⟨f, ρ1⟩ := p
    rw [e] at h
    cases f with
    | next => exact fun σ' G' H' s q => ⟨ρ1, G', q, PS'.mono s h⟩
    | brk => exact h
    | cont => exact h
    | ret r => exact h
theorem ts_one (h1 : PS X st (tS B a)) : PSs X [st] (tS B a) := pss_one h1
theorem ts_brk : PS X (.Break pos) (tS B sBrk) := PS.imp ps_break fun E σ H h => by
  obtain ⟨ρ, G, ok, h⟩ := h
  exact h σ G H (Same.refl _) ok
theorem ts_cont : PS X (.Continue pos) (tS B sCont) := PS.imp ps_continue fun E σ H h => by
  obtain ⟨ρ, G, ok, h⟩ := h
  exact h σ G H (Same.refl _) ok
theorem ts_pass : PS X (.Pass pos) (tS B sNil) := PS.imp ps_pass fun E σ H h => by
  obtain ⟨ρ, G, ok, h⟩ := h
  exact h σ G H (Same.refl _) ok
theorem unown {ρ : En} {G H : Hp} {σ : L2.St} {i : Nat} {d : D} {v : V} (ok : Ok B ρ G σ H) (q : ρ[i]? = some (.own d)) (hv : σ[i]? = some (some v)) : ∃ p, v = .ref p ∧ OwnAt B G H p d ∧ Ok B (ρ.set i .un) G σ H ∧ ¬ Owned (ρ.set i .un) σ p := by
  obtain ⟨p, e2, o⟩ := (show SlOk B G H σ[i]? (.own d) from ok.sl i _ q)
  rw [hv] at e2; cases e2
  have hi := own_lt q
  have get : ∀ {j s}, (ρ.set i .un)[j]? = some s → (j = i ∧ s = .un) ∨ (j ≠ i ∧ ρ[j]? = some s) := fun {j s} z => by
    by_cases hj : i = j
    · subst hj; rw [List.getElem?_set_self hi] at z; cases z; exact .inl ⟨rfl, rfl⟩
    · rw [List.getElem?_set_ne hj] at z; exact .inr ⟨Ne.symm hj, z⟩
  refine ⟨p, rfl, o, ⟨(List.length_set ..).trans ok.len, ok.g0, ok.gh, ok.h0, ok.nw, fun j s z => ?_, fun j k d1 d2 p' z1 z2 z3 z4 => ?_⟩, ?_⟩
  · rcases get z with ⟨_, rfl⟩ | ⟨_, z⟩
    · exact True.intro
    · exact ok.sl j s z
  · rcases get z1 with ⟨_, y⟩ | ⟨_, z1⟩
    · cases y
    · rcases get z2 with ⟨_, y⟩ | ⟨_, z2⟩
      · cases y
      · exact ok.ap j k d1 d2 p' z1 z2 z3 z4
  · rintro ⟨j, d1, z1, z2⟩
    rcases get z1 with ⟨_, y⟩ | ⟨hj, z1⟩
    · cases y
    · exact hj (ok.ap j i _ _ p z1 q z2 hv)
theorem ts_ret (he : PE X e (tR B m)) : PS X (.Return (some e) pos) (tS B (sRet m)) := PS.imp (ps_ret he) fun E σ H h => by
  obtain ⟨ρ, G, ok, h⟩ := h
  refine tR.mono (runSN ok h) fun x H1 ⟨r, ρ1, G1, n1, q1, f, h1⟩ => ?_
  cases r with
  | val d => exact h1 x σ G1 H1 (Same.refl _) n1.ok q1
  | new d => exact h1 x σ G1 H1 (Same.refl _) n1.ok q1
  | bor i =>
    dsimp only at h1
    split at h1
    · rename_i d q
      obtain ⟨p, rfl, o, ok', no⟩ := unown n1.ok q q1
      exact h1 _ σ G1 H1 (Same.refl _) ok' ⟨p, rfl, o, no⟩
    · rename_i d q
      obtain ⟨u, e2, o⟩ := (show SlOk B G1 H1 σ[i]? (.val d) from n1.ok.sl i _ q)
      rw [show σ[i]? = some (some x) from q1] at e2; cases e2
      exact h1 x σ G1 H1 (Same.refl _) n1.ok o
    · exact h1.elim
theorem ts_retN : PS X (.Return none pos) (tS B sRetN) := PS.imp ps_retN fun E σ H h => by
  obtain ⟨ρ, G, ok, h⟩ := h
  exact h .non σ G H (Same.refl _) ok .non
theorem ts_if {c : Expr} {t : M Bool} {as bs : List Stmt} (hc : PT X c (tT B t)) (ha : PSs X as (tS B a)) (hb : PSs X bs (tS B b)) : PS X (.If c as bs pos) (tS B (sIf t a b)) := PS.imp (ps_if hc ha hb) fun E σ H h => by
  obtain ⟨ρ, G, ok, h⟩ := h
  refine tT.mono (runST ok h) fun x H1 ⟨ρ1, G1, n1, h1⟩ => ?_
  cases x with
  | true => exact iteT ⟨ρ1, G1, n1.ok, h1⟩
  | false => exact iteF ⟨ρ1, G1, n1.ok, h1⟩
theorem ts_drop (he : PE X e (tR B m)) (hs : swapsWith e none pos.line X.env = pure false := by rfl) : PS X (.Expr e pos) (tS B (sDrop m)) := PS.imp (ps_expr he hs) fun E σ H h => by
  obtain ⟨ρ, G, ok, h⟩ := h
  exact tR.mono (runS ok h) fun x H1 ⟨r, ρ1, G1, n1, q1, h1⟩ => h1 σ G1 H1 (Same.refl _) n1.ok
/-- a slot is stored -/
theorem Ok.setVal {ρ : En} {G H : Hp} {σ : L2.St} {i : Nat} {d : D} {v : V} (ok : Ok B ρ G σ H) (hi : i < ρ.length) (r : Rep B.W G v d) : Ok B (ρ.set i (.val d)) G (σ.set i (some v)) H := by
  have hs : i < σ.length := by rw [← ok.len]; exact hi
  refine ⟨by simp [ok.len], ok.g0, ok.gh, ok.h0, ok.nw, fun j s z => ?_, fun j k d1 d2 p' z1 z2 z3 z4 => ?_⟩
  · by_cases hj : i = j
    · subst hj
      rw [List.getElem?_set_self hi] at z; cases z
      rw [List.getElem?_set_self hs]
      exact ⟨v, rfl, r⟩
    · rw [List.getElem?_set_ne hj] at z ⊢; exact ok.sl j s z
  · have n1 : i ≠ j := fun e => by subst e; rw [List.getElem?_set_self hi] at z1; cases z1
    have n2 : i ≠ k := fun e => by subst e; rw [List.getElem?_set_self hi] at z2; cases z2
    rw [List.getElem?_set_ne n1] at z1 z3
    rw [List.getElem?_set_ne n2] at z2 z4
    exact ok.ap j k d1 d2 p' z1 z2 z3 z4
theorem Ok.setOwn {ρ : En} {G H : Hp} {σ : L2.St} {i : Nat} {d : D} {p : Addr} (ok : Ok B ρ G σ H) (hi : i < ρ.length) (o : OwnAt B G H p d) (no : ¬ Owned ρ σ p) : Ok B (ρ.set i (.own d)) G (σ.set i (some (.ref p))) H := by
  have hs : i < σ.length := by rw [← ok.len]; exact hi
  refine ⟨by simp [ok.len], ok.g0, ok.gh, ok.h0, ok.nw, fun j s z => ?_, fun j k d1 d2 p' z1 z2 z3 z4 => ?_⟩
  · by_cases hj : i = j
    · subst hj
      rw [List.getElem?_set_self hi] at z; cases z
      rw [List.getElem?_set_self hs]
      exact ⟨p, rfl, o⟩
    · rw [List.getElem?_set_ne hj] at z ⊢; exact ok.sl j s z
  · by_cases n1 : i = j
    · by_cases n2 : i = k
      · rw [← n1, ← n2]
      · subst n1
        rw [List.getElem?_set_self hs] at z3; cases z3
        rw [List.getElem?_set_ne n2] at z2 z4
        exact (no ⟨k, d2, z2, z4⟩).elim
    · by_cases n2 : i = k
      · subst n2
        rw [List.getElem?_set_self hs] at z4; cases z4
        rw [List.getElem?_set_ne n1] at z1 z3
        exact (no ⟨j, d1, z1, z3⟩).elim
      · rw [List.getElem?_set_ne n1] at z1 z3
        rw [List.getElem?_set_ne n2] at z2 z4
        exact ok.ap j k d1 d2 p' z1 z2 z3 z4
theorem put_ok {ρ ρ' : En} {G H : Hp} {σ : L2.St} {i : Nat} {r : Rs} {v : V} (ok : Ok B ρ G σ H) (h : RsOk B ρ G σ H v r) (e : put i r ρ = .ok ρ') : ∃ G', Same G G' ∧ Ok B ρ' G' (σ.set i (some v)) H := by
  unfold put at e
  split at e
  · rename_i hi
    cases r with
    | val d => cases e; exact ⟨G, Same.refl _, ok.setVal hi h⟩
    | new d => cases e; obtain ⟨p, rfl, o, no⟩ := h; exact ⟨G, Same.refl _, ok.setOwn hi o no⟩
    | bor j =>
      dsimp only at e
      cases e1 : fz (.bor j) ρ with
      | err x => rw [e1] at e; cases e
      | ok q =>
        obtain ⟨d, ρ1⟩ := q
        rw [e1] at e; cases e
        obtain ⟨G', n, rr⟩ := fz_ok (r := .bor j) ok h e1
        have hi' : i < ρ1.length := by rw [n.ok.len, ← ok.len]; exact hi
        exact ⟨G', n.ext, n.ok.setVal hi' rr⟩
  · cases e
theorem put_get {i : Nat} {r : Rs} {ρ : En} {Y : En → R (Fl × En)} {G : Hp} {E : Ends} (h : PS' B G E ((put i r ρ).bind Y)) : ∃ ρ', put i r ρ = .ok ρ' ∧ PS' B G E (Y ρ') := by
  cases e : put i r ρ with
  | ok ρ' => rw [e] at h; exact ⟨ρ', rfl, h⟩
  | err x =>
    rw [e] at h
    have : x = .stuck := by
      unfold put at e
      split at e
      · cases r with
        | val d => cases e
        | new d => cases e
        | bor j =>
          dsimp only at e
          cases e1 : fz (.bor j) ρ with
          | err y => rw [e1] at e; cases e; exact fz_err e1
          | ok q => rw [e1] at e; cases e
      · cases e; rfl
    subst this
    exact (show False from h).elim
theorem ts_set {i : Nat} {x : Str} {pos' : Pos} (hN : X.N.Nodup) (hi : X.N[i]? = some x) (hx : Loc X.env.scope x) (he : PE X e (tR B m)) (hs : swapsWith e (some (.Name x pos')) pos.line X.env = pure false := by rfl) (hf : X.fn x = true ∨ X.env.scope.names.lookup x = some .local := by first | exact .inl rfl | exact .inr rfl | assumption) :
    PS X (.Assign [.Name x pos'] e pos) (tS B (sSet i m)) := PS.imp (ps_set hN hi hx he hs hf) fun E σ H h => by
  obtain ⟨ρ, G, ok, h⟩ := h
  refine tR.mono (runSN ok h) fun x H1 ⟨r, ρ1, G1, n1, q1, f, h1⟩ => ?_
  obtain ⟨ρ2, e2, h2⟩ := put_get h1
  obtain ⟨G2, s2, ok2⟩ := put_ok n1.ok q1 e2
  exact h2 _ G2 H1 s2 ok2
/-- x op= e -/
@[simp] def sAug (i : Nat) (f : D → D → R Rs) (m : M Rs) : Sm := fun ρ => match ρ[i]? with
  | some (.val x) => (m ρ).bind fun p => (pk p.2 p.1).bind fun y => (f x y).bind fun r => (put i r p.2).bind fun ρ1 => .ok (.next, ρ1)
  | _ => R.stuck
theorem pk_getS {ρ : En} {r : Rs} {Y : D → R (Fl × En)} {G : Hp} {E : Ends} (h : PS' B G E ((pk ρ r).bind Y)) : ∃ d, pk ρ r = .ok d ∧ PS' B G E (Y d) := pk_get (P := PS' B G E) h id
theorem ts_aug {i : Nat} {x : Str} {op : Operator} {r : R2} {f : D → D → R Rs} {pos' : Pos} (ho : OpR X (inplaceOp op) r) (hf2 : Op2 B r f) (hN : X.N.Nodup) (hi : X.N[i]? = some x) (hx : Loc X.env.scope x) (he : PE X e (tR B m))
    (hf : X.fn x = true ∨ X.env.scope.names.lookup x = some .local := by first | exact .inl rfl | exact .inr rfl | assumption) :
    PS X (.AugAssign (.Name x pos') op e pos) (tS B (sAug i f m)) := PS.imp (ps_aug (ti := r) hN hi hx he ho hf) fun E σ H h => by
  obtain ⟨ρ, G, ok, h⟩ := h
  unfold sAug at h
  split at h
  · rename_i d1 e1
    obtain ⟨v, e2, r1⟩ := (show SlOk B G H σ[i]? (.val d1) from ok.sl i _ e1)
    refine ⟨v, e2, tR.mono (runS ok h) fun y H1 ⟨q, ρ1, G1, n1, q1, h1⟩ => ?_⟩
    obtain ⟨d2, e3, h2⟩ := pk_getS h1
    refine hf2 n1.ok (.inl (r1.mono n1.ext)) (pk_ok n1.ok q1 e3) ?_
    cases e4 : f d1 d2 with
    | err x =>
      rw [e4] at h2
      cases x <;> exact h2
    | ok r2 =>
      rw [e4] at h2
      intro z G2 H2 n2 rs fr
      obtain ⟨ρ2, e5, h3⟩ := put_get h2
      obtain ⟨G3, s3, ok3⟩ := put_ok n2.ok rs e5
      exact h3 _ G3 H2 (n2.ext.trans s3) ok3
  · exact h.elim
end

/-! ### a body keeps a promise -/
@[simp] def start' (ds : List D) (n : Nat) : En := ds.map Sl.val ++ List.replicate (n - ds.length) .un
/-- a def's mirror: its body on the slots -/
@[simp] def fnM (n : Nat) (b : Sm) (ds : List D) : R Rs := (b (start' ds n)).bind fun p => match p.1 with
  | .next => .ok (.val .non)
  | .ret (.val d) => .ok (.val d)
  | .ret (.new d) => .ok (.new d)
  | _ => R.stuck
theorem start_ok {B : Bs} {G0 H : Hp} {ds : List D} {vs : List V} {N : List Str} (g : Same G0 H) (r : Reps B.W G0 vs ds) (hl : vs.length ≤ N.length) (e1 : B.H0 = H) (e2 : B.G0 = G0) : Ok B (start' ds N.length) G0 (L2.start N vs) H := by
  have hl2 := r.length
  have cs : ∀ (i : Nat) s, (start' ds N.length)[i]? = some s → (∃ d, s = .val d ∧ ds[i]? = some d) ∨ s = .un := fun i s e => by
    unfold start' at e
    by_cases hi : i < ds.length
    · rw [List.getElem?_append_left (by simpa using hi), List.getElem?_map] at e
      cases q : ds[i]? with
      | none => rw [q] at e; cases e
      | some d => rw [q] at e; cases e; exact .inl ⟨d, rfl, rfl⟩
    · rw [List.getElem?_append_right (by simpa using Nat.le_of_not_lt hi), List.getElem?_replicate] at e
      split at e
      · cases e; exact .inr rfl
      · cases e
  refine ⟨?_, by rw [e2]; exact Same.refl _, g, by rw [e1]; exact Same.refl _, fun a o e => .inl (by rw [e2]; exact e), fun i s e => ?_, fun i j d d' p z1 z2 _ _ => ?_⟩
  · unfold start' L2.start
    rw [List.length_append, List.length_append, List.length_map, List.length_map, List.length_replicate, List.length_replicate]
    omega
  · rcases cs i s e with ⟨d, rfl, q⟩ | rfl
    · obtain ⟨v, e3, r3⟩ := r.get q
      refine ⟨v, ?_, r3⟩
      unfold L2.start
      have hi : i < vs.length := (List.getElem?_eq_some_iff.mp e3).1
      rw [List.getElem?_append_left (by simpa using hi), List.getElem?_map, e3]
      rfl
    · exact True.intro
  · rcases cs i _ z1 with ⟨d, q, _⟩ | q <;> cases q
section
variable {P : Program} {w : World} {K : PySem.W.Frag} {mg : Str → Option Value} {base : Heap}
/-- THE RULE for a def that raises nothing -/
theorem fn_ok {x qual : Str} {st : Stmt} {f : Addr} {fd : FuncData} {N ps : List Str} {k n : Nat} {b : Sm} (F : Fun K x qual st f fd) (S : FnScope N ps (defScope st)) (hn : ps.length = n)
    (hb : ∀ (cdv : Value) (A : Around) (outer : List PySem.Env) (s : Shared) (H : Hp) (B : Bs) (E : XK), Room k (A.deeper (envOfC qual (defScope st) s.heap.objs.size f cdv)) → B.W = ⟨K, mg⟩ →
      PSs (cxOf CX0 P w K mg base N qual (defScope st) f cdv A outer s H E).nox (defBody st) (tS B b)) : FnOk P w K mg base CX0 (k + 1) f fd ps (spM ⟨K, mg⟩ false n (fnM N.length b)) := by
  refine F.ok S (fun vs H Q E h => (spM_len h).trans hn.symm) fun cdv A outer s H vs Q E hr h => ?_
  have hvl := spM_len h
  obtain ⟨G0, ds, hd, g, r, h⟩ := h
  have hpl : ps.length ≤ N.length := by have := congrArg List.length S.pre; rw [List.length_take] at this; omega
  refine ⟨_, hb cdv A outer s H ⟨⟨K, mg⟩, H, G0, fun _ _ _ => False⟩ E hr rfl, _, G0, start_ok (N := N) g r (by omega) rfl rfl, ?_⟩
  unfold fnM at h
  cases e : b (start' ds N.length) with
  | err x =>
    rw [e] at h
    cases x with
    | stuck => exact h
    | exc c fs => exact nomatch h.1
  | ok p =>
    obtain ⟨fl, ρ'⟩ := p
    rw [e] at h
    have fin : ∀ {σ' G' H'}, Same G0 G' → Ok (⟨⟨K, mg⟩, H, G0, fun _ _ _ => False⟩ : Bs) ρ' G' σ' H' → Same G0 G' ∧ Same G' H' ∧ Same H H' ∧ ∀ a o, G' a = some o → G0 a = some o ∨ H a = none := fun s ok => ⟨s, ok.gh, ok.h0, ok.nw⟩
    cases fl with
    | next =>
      intro σ' G' H' s ok
      obtain ⟨f1, f2, f3, f4⟩ := fin s ok
      exact h .non G' H' f1 f2 f3 f4 .non
    | brk => exact h.elim
    | cont => exact h.elim
    | ret r =>
      intro v σ' G' H' s ok rs
      obtain ⟨f1, f2, f3, f4⟩ := fin s ok
      cases r with
      | val d => exact h v G' H' f1 f2 f3 f4 rs
      | bor i => exact h.elim
      | new d =>
        obtain ⟨p, rfl, o, no⟩ := rs
        exact h _ G' H' f1 f2 f3 f4 ⟨p, rfl, o.h0, o.g, o.body⟩
end
end T
namespace T
open PySem PySem.Spec PyProof.Rows L2

/-! ### what is walked -/
def SrcOk (W : Wd) (G : Hp) (J : It) (ds : List D) : Prop := ∀ (i : Nat) H, Same G H → (∀ d, ds[i]? = some d → J.go i H ∧ ∀ x H', J.yld i H x H' → H' = H ∧ Rep W G x d) ∧ (ds.length ≤ i → J.stop i H)
def PI' (B : Bs) (ρ : En) (G : Hp) (σ : L2.St) (H : Hp) (R' : It → Hp → Prop) : R (List D × En) → Prop
  | .ok (ds, ρ') => ∀ J G' H', Nx B ρ G σ H ρ' G' H' → SrcOk B.W G' J ds → R' J H'
  | .err (.exc c fs) => ∀ H', Same B.H0 H' → B.E c fs H'
  | .err .stuck => False
def iS (B : Bs) (m : M (List D)) : TI := fun σ H R' => ∃ ρ G, Ok B ρ G σ H ∧ PI' B ρ G σ H R' (m ρ)
section
variable {X : Cx} {tg l : Expr} {B : Bs}
theorem PI.imp {w w' : TI} (h : PI X tg l w) (k : ∀ σ H R', w' σ H R' → w σ H R') : PI X tg l w' := ⟨fun pins s σ H R' I q => h.run pins s σ H R' I (k σ H R' q)⟩
theorem PI.or {w w' : TI} (h : PI X tg l w) (h' : PI X tg l w') : PI X tg l (fun σ H R' => w σ H R' ∨ w' σ H R') := ⟨fun pins s σ H R' I q => q.elim (h.run pins s σ H R' I) (h'.run pins s σ H R' I)⟩
theorem src_lst {W : Wd} {G : Hp} {K : PySem.W.Frag} {a : Addr} {vs : List V} {ds : List D} (e : G a = some (.lst vs)) (r : Reps W G vs ds) : SrcOk W G (Itl K a) ds := fun i H s =>
  ⟨fun d q => by
    obtain ⟨v, h1, h2⟩ := r.get q
    refine ⟨⟨vs, v, SqL.of (s _ _ e), h1⟩, fun x H' y => ⟨y.1, ?_⟩⟩
    have h3 := y.2 vs (SqL.of (s _ _ e))
    rw [h1] at h3; cases h3; exact h2, fun hl => ⟨vs, SqL.of (s _ _ e), by rw [r.length]; exact hl⟩⟩
theorem src_tup {W : Wd} {G : Hp} {K : PySem.W.Frag} {a : Addr} {vs : List V} {ds : List D} (e : G a = some (.tup vs)) (r : Reps W G vs ds) : SrcOk W G (Itt K a) ds := fun i H s =>
  ⟨fun d q => by
    obtain ⟨v, h1, h2⟩ := r.get q
    refine ⟨⟨vs, v, SqT.of (s _ _ e), h1⟩, fun x H' y => ⟨y.1, ?_⟩⟩
    have h3 := y.2 vs (SqT.of (s _ _ e))
    rw [h1] at h3; cases h3; exact h2, fun hl => ⟨vs, SqT.of (s _ _ e), by rw [r.length]; exact hl⟩⟩
theorem src_scr {W : Wd} {G : Hp} {a : Addr} {ns : List Int} (e : SqL W.K G a (ns.map V.int)) : SrcOk W G (Itl W.K a) (ns.map .int) := fun i H s =>
  ⟨fun d q => by
    have e' := s.seq e
    rw [List.getElem?_map] at q
    cases q2 : ns[i]? with
    | none => rw [q2] at q; cases q
    | some n =>
      rw [q2] at q; cases q
      have h1 : (ns.map V.int)[i]? = some (.int n) := by rw [List.getElem?_map, q2]; rfl
      refine ⟨⟨_, _, e', h1⟩, fun x H' y => ⟨y.1, ?_⟩⟩
      have h3 := y.2 _ e'
      rw [h1] at h3; cases h3; exact .int n, fun hl => ⟨_, s.seq e, by rw [List.length_map] at hl ⊢; exact hl⟩⟩
def rng (lo hi : Int) : List D := (List.range (hi - lo).toNat).map fun (k : Nat) => D.int (lo + (k : Int))
theorem src_rng {W : Wd} {G : Hp} (lo hi : Int) : SrcOk W G (Itr lo (hi - lo).toNat) (rng lo hi) := fun i H s => by
  refine ⟨fun d q => ?_, fun hl => ?_⟩
  · unfold rng at q
    rw [List.getElem?_map] at q
    by_cases hi' : i < (hi - lo).toNat
    · rw [List.getElem?_range hi'] at q
      cases q
      refine ⟨hi', fun x H' y => ⟨y.1, ?_⟩⟩
      rw [y.2]; exact .int _
    · rw [List.getElem?_eq_none (by simpa using Nat.le_of_not_lt hi')] at q; cases q
  · unfold rng at hl; rw [List.length_map, List.length_range] at hl; exact hl
def sgn (x : Str) : List D := x.cps.toList.map fun c => D.str ⟨#[c]⟩
theorem src_str {W : Wd} {G : Hp} (x : Str) : SrcOk W G (Its x) (sgn x) := fun i H s => by
  refine ⟨fun d q => ?_, fun hl => ?_⟩
  · unfold sgn at q
    rw [List.getElem?_map] at q
    cases e : x.cps.toList[i]? with
    | none => rw [e] at q; cases q
    | some c =>
      rw [e] at q; cases q
      have hi : i < x.cps.size := by simpa using (List.getElem?_eq_some_iff.mp e).1
      refine ⟨hi, fun v H' y => ⟨y.1, ?_⟩⟩
      obtain ⟨_, c', h1, rfl⟩ := y
      rw [Array.getElem?_toList, h1] at e; cases e
      exact .str _
  · unfold sgn at hl; exact (show x.cps.size ≤ i by simpa using hl)
theorem src_rev {W : Wd} {G : Hp} {K : PySem.W.Frag} {a : Addr} {vs : List V} {ds : List D} (e : G a = some (.lst vs)) (r : Reps W G vs ds) : SrcOk W G (Itl K a) ds := src_lst e r
@[simp] def items : D → R (List D)
  | .lst xs => .ok xs
  | .tup xs => .ok xs
  | .scr ns => .ok (ns.map .int)
  | _ => R.stuck
@[simp] def itM (m : M Rs) : M (List D) := fun ρ => (m ρ).bind fun p => (fz p.1 p.2).bind fun q => (items q.1).bind fun ds => .ok (ds, q.2)
theorem PI'.err {ρ : En} {G H : Hp} {σ : L2.St} {R' : It → Hp → Prop} {e : Ex} (h : PI' B ρ G σ H R' (.err e)) : PErr B e := by cases e <;> exact h
theorem PI'.mono {ρ ρ1 : En} {G H G1 H1 : Hp} {σ : L2.St} {R' : It → Hp → Prop} (n : Nx B ρ G σ H ρ1 G1 H1) {x : R (List D × En)} (h : PI' B ρ G σ H R' x) : PI' B ρ1 G1 σ H1 R' x := by
  cases x with
  | ok a => obtain ⟨r, ρ'⟩ := a; exact fun J G' H' m q => h J G' H' (n.trans m) q
  | err e => cases e <;> exact h
theorem items_get {ρ : En} {G H : Hp} {σ : L2.St} {R' : It → Hp → Prop} {d : D} {Y : List D → R (List D × En)} (h : PI' B ρ G σ H R' ((items d).bind Y)) : ∃ ds, items d = .ok ds ∧ PI' B ρ G σ H R' (Y ds) := by
  cases e : items d with
  | ok ds => rw [e] at h; exact ⟨ds, rfl, h⟩
  | err x =>
    rw [e] at h
    have : x = .stuck := by cases d <;> (unfold items at e; cases e; try rfl)
    subst this
    exact (show False from h).elim
@[simp] def itStr (m : M Rs) : M (List D) := fun ρ => (m ρ).bind fun p => match p.1 with
  | .val (.str x) => .ok (sgn x, p.2)
  | _ => R.stuck
theorem runI {m : M Rs} {ρ : En} {G H : Hp} {σ : L2.St} {R' : It → Hp → Prop} {Y : Rs × En → R (List D × En)} (ok : Ok B ρ G σ H) (h : PI' B ρ G σ H R' ((m ρ).bind Y)) : tR B m σ H fun x H1 => ∃ r ρ1 G1, Nx B ρ G σ H ρ1 G1 H1 ∧ RvOk B G1 σ x (st r) ∧ PI' B ρ1 G1 σ H1 R' (Y (r, ρ1)) :=
  run (P := fun x ρ G H => PI' B ρ G σ H R' x) ok h (fun x n h => PI'.mono n h) (fun e h => PI'.err h)
theorem ti_seq {m : M Rs} (hW : B.W.K = X.K) (hl : PE X l (tR B m)) : PI X tg l (iS B (itM m)) := PI.imp (T.PI.or (pi_list hl) (pi_tup hl)) fun σ H R' h => by
  obtain ⟨ρ, G, ok, h⟩ := h
  have key := runI ok h
  by_cases c : ∃ r ρ1 d ρ2 ds, m ρ = .ok (r, ρ1) ∧ fz r ρ1 = .ok (d, ρ2) ∧ d = .tup ds
  · obtain ⟨r0, ρ0, d0, ρ3, ds0, c1, c2, c3⟩ := c
    refine .inr ⟨ρ, G, ok, ?_⟩
    rw [c1]
    intro v G1 H1 n1 q1 f
    have h : PI' B ρ G σ H R' ((m ρ).bind _) := h
    rw [c1] at h
    obtain ⟨G1', n1', q1', _⟩ := settle n1 q1 f
    have h := PI'.mono n1' h
    dsimp only [R.bind_ok] at h
    rw [c2] at h
    obtain ⟨G2, n2, rr⟩ := fz_ok n1'.ok q1' c2
    subst c3
    cases rr with
    | tup e rs =>
      refine ⟨_, rfl, ⟨_, SqT.of (n2.ok.gh _ _ e)⟩, ?_⟩
      exact h _ G2 H1 n2 (src_tup e rs)
  · refine .inl (tR.mono (show tR B m σ H fun x H1 => ∃ r ρ1 G1, m ρ = .ok (r, ρ1) ∧ Nx B ρ G σ H ρ1 G1 H1 ∧ RvOk B G1 σ x (st r) ∧ PI' B ρ1 G1 σ H1 R' ((fz r ρ1).bind fun q => (items q.1).bind fun ds => .ok (ds, q.2)) from ?_) fun x H1 ⟨r, ρ1, G1, c1, n1, q1, h1⟩ => ?_)
    · refine ⟨ρ, G, ok, ?_⟩
      unfold itM at h
      cases e : m ρ with
      | ok a =>
        obtain ⟨r, ρ1⟩ := a
        rw [e] at h
        intro v G' H' n q f
        obtain ⟨G2, n2, q2, _⟩ := settle n q f
        exact ⟨r, ρ1, G2, rfl, n2, q2, PI'.mono n2 h⟩
      | err e' =>
        rw [e] at h
        have := PI'.err h
        cases e' <;> exact this
    · obtain ⟨d, ρ2, c2, h2⟩ := fz_get (P := PI' B ρ1 G1 σ H1 R') h1 id
      obtain ⟨ds, c3, h3⟩ := items_get h2
      obtain ⟨G2, n2, rr⟩ := fz_ok n1.ok q1 c2
      have h3 := PI'.mono n2 h3
      cases d with
      | tup ds' => exact (c ⟨r, ρ1, _, ρ2, ds', c1, c2, rfl⟩).elim
      | lst ds' =>
        cases c3
        cases rr with
        | lst e rs => exact ⟨_, rfl, ⟨_, SqL.of (n2.ok.gh _ _ e)⟩, h3 _ G2 H1 (Nx.refl n2.ok) (src_lst e rs)⟩
      | scr ns =>
        cases c3
        cases rr with
        | scr e => exact ⟨_, rfl, ⟨_, hW ▸ n2.ok.gh.seq e⟩, h3 _ G2 H1 (Nx.refl n2.ok) (hW ▸ src_scr e)⟩
      | _ => cases c3
theorem ti_str {m : M Rs} (hl : PE X l (tR B m)) : PI X tg l (iS B (itStr m)) := PI.imp (pi_str hl) fun σ H R' h => by
  obtain ⟨ρ, G, ok, h⟩ := h
  refine tR.mono (runI ok h) fun x H1 ⟨r, ρ1, G1, n1, q1, h1⟩ => ?_
  cases r with
  | val d =>
    cases d with
    | str z => cases q1; exact ⟨z, rfl, h1 _ G1 H1 (Nx.refl n1.ok) (src_str z)⟩
    | _ => exact (show False from h1).elim
  | new d => exact (show False from h1).elim
  | bor i => exact (show False from h1).elim
/-- the bounds of a range -/
def RB (j : Int) : Prop := -4611686018427387904 ≤ j ∧ j < 4611686018427387904
noncomputable instance (j : Int) : Decidable (RB j) := Classical.propDecidable _
theorem RB.of {j : Int} (h1 : -1000000000 ≤ j) (h2 : j ≤ 1000000000) : RB j := by unfold RB; omega
theorem RB.len {α : Type} {xs : List α} (h : xs.length ≤ 1000000000) : RB (xs.length : Int) := RB.of (by omega) (by omega)
theorem RB.zero : RB 0 := RB.of (by omega) (by omega)
@[simp] theorem RB.lit {j : Int} (h : -1000000000 ≤ j ∧ j ≤ 1000000000) : RB j = True := eq_true (RB.of h.1 h.2)
/-- range(n), range(a, b) -/
@[simp] noncomputable def itR1 (ms : M (List Rs)) : M (List D) := fun ρ => (ms ρ).bind fun p => match p.1 with
  | [.val (.int j)] => if RB j then .ok (rng 0 j, p.2) else R.stuck
  | _ => R.stuck
@[simp] noncomputable def itR2 (ms : M (List Rs)) : M (List D) := fun ρ => (ms ρ).bind fun p => match p.1 with
  | [.val (.int i), .val (.int j)] => if RB i ∧ RB j then .ok (rng i j, p.2) else R.stuck
  | _ => R.stuck
theorem runIL {ms : M (List Rs)} {ρ : En} {G H : Hp} {σ : L2.St} {R' : It → Hp → Prop} {Y : List Rs × En → R (List D × En)} (ok : Ok B ρ G σ H) (h : PI' B ρ G σ H R' ((ms ρ).bind Y)) : tA B ms σ H fun x H1 => ∃ r ρ1 G1, Nx B ρ G σ H ρ1 G1 H1 ∧ RvsOk B G1 σ x r ∧ PI' B ρ1 G1 σ H1 R' (Y (r, ρ1)) :=
  runL (P := fun x ρ G H => PI' B ρ G σ H R' x) ok h (fun x n h => PI'.mono n h) (fun e h => PI'.err h)
theorem ti_range1 {a : Expr} {ms : M (List Rs)} {p pos : Pos} (hm : X.mg "range" = none) (ha : PA X [a] (tA B ms)) (hg : Gl X "range" := by rfl) (hs : starEach [a] X.env = [(false, eval a X.env)] := by rfl) : PI X tg (.Call (.Name "range" p) [a] [] pos) (iS B (itR1 ms)) :=
  PI.imp (pi_range1 hg hm ha hs) fun σ H R' h => by
    obtain ⟨ρ, G, ok, h⟩ := h
    refine tA.mono (runIL ok h) fun vs H1 ⟨rs, ρ1, G1, n1, q1, h1⟩ => ?_
    dsimp only at h1
    split at h1
    · rename_i j
      split at h1
      · rename_i hb
        unfold RB at hb
        cases q1 with
        | cons a b =>
          cases b
          cases a
          refine ⟨j, rfl, by omega, by omega, ?_⟩
          have := h1 (Itr 0 (j - 0).toNat) G1 H1 (Nx.refl n1.ok) (src_rng 0 j)
          rw [Int.sub_zero] at this
          exact this
      · exact h1.elim
    · exact h1.elim
theorem ti_range2 {a b : Expr} {ms : M (List Rs)} {p pos : Pos} (hm : X.mg "range" = none) (ha : PA X [a, b] (tA B ms)) (hg : Gl X "range" := by rfl) (hs : starEach [a, b] X.env = [(false, eval a X.env), (false, eval b X.env)] := by rfl)
    (hs2 : starEach [b] X.env = [(false, eval b X.env)] := by rfl) : PI X tg (.Call (.Name "range" p) [a, b] [] pos) (iS B (itR2 ms)) :=
  PI.imp (pi_range2 hg hm ha hs hs2) fun σ H R' h => by
    obtain ⟨ρ, G, ok, h⟩ := h
    refine tA.mono (runIL ok h) fun vs H1 ⟨rs, ρ1, G1, n1, q1, h1⟩ => ?_
    dsimp only at h1
    split at h1
    · rename_i i j
      split at h1
      · rename_i hb
        unfold RB at hb
        cases q1 with
        | cons a b =>
          cases b with
          | cons b c =>
            cases c
            cases a
            cases b
            exact ⟨i, j, rfl, ⟨by omega, by omega, by omega, by omega⟩, h1 _ G1 H1 (Nx.refl n1.ok) (src_rng i j)⟩
      · exact h1.elim
    · exact h1.elim
end

/-! ### targets -/
def gB (B : Bs) (ws : List Nat) (bt : D → En → R En) : TG := fun v σ H Q => ∃ ρ G d, Ok B ρ G σ H ∧ Rep B.W G v d ∧ ∃ ρ', bt d ρ = .ok ρ' ∧ ∀ σ', Ok B ρ' G σ' H → σ'.length = σ.length → (∀ (j : Nat), j ∉ ws → σ'[j]? = σ[j]?) → Q σ' H
def gBs (B : Bs) (ws : List Nat) (bts : List D → En → R En) : TGs := fun vs σ H Q => ∃ ρ G ds, Ok B ρ G σ H ∧ Reps B.W G vs ds ∧ ∃ ρ', bts ds ρ = .ok ρ' ∧ ∀ σ', Ok B ρ' G σ' H → σ'.length = σ.length → (∀ (j : Nat), j ∉ ws → σ'[j]? = σ[j]?) → Q σ' H
@[simp] def bName (i : Nat) : D → En → R En := fun d ρ => if i < ρ.length then .ok (ρ.set i (.val d)) else R.stuck
@[simp] def bTup (bts : List D → En → R En) : D → En → R En := fun d ρ => match d with
  | .tup xs => bts xs ρ
  | _ => R.stuck
@[simp] def bNil : List D → En → R En := fun ds ρ => match ds with
  | [] => .ok ρ
  | _ => R.stuck
@[simp] def bCons (b : D → En → R En) (bs : List D → En → R En) : List D → En → R En := fun ds ρ => match ds with
  | d :: ds => (b d ρ).bind fun ρ1 => bs ds ρ1
  | [] => R.stuck
section
variable {X : Cx} {B : Bs} {pos : Pos}
theorem PG.imp {tg : Expr} {g g' : TG} (h : PG X tg g) (k : ∀ v σ H Q, g' v σ H Q → g v σ H Q) : PG X tg g' := ⟨fun pins s σ H v u Q I r q => h.run pins s σ H v u Q I r (k v σ H Q q)⟩
theorem PGs.imp {tg : List Expr} {g g' : TGs} (h : PGs X tg g) (k : ∀ v σ H Q, g' v σ H Q → g v σ H Q) : PGs X tg g' := ⟨fun pins s σ H v u Q I r q => h.run pins s σ H v u Q I r (k v σ H Q q)⟩
theorem tg_name {i : Nat} {x : Str} (hN : X.N.Nodup) (hi : X.N[i]? = some x) (hx : Loc X.env.scope x) (hf : X.fn x = true ∨ X.env.scope.names.lookup x = some .local := by first | exact .inl rfl | exact .inr rfl | assumption) : PG X (.Name x pos) (gB B [i] (bName i)) :=
  PG.imp (pg_name hN hi hx hf) fun v σ H Q h => by
    obtain ⟨ρ, G, d, ok, r, ρ', e, h⟩ := h
    unfold bName at e
    split at e
    · rename_i hi
      cases e
      exact h _ (ok.setVal hi r) (by simp) fun j hj => by rw [List.getElem?_set_ne (by simpa using fun e => hj (by simp [e]))]
    · cases e
theorem tgs_nil : PGs X [] (gBs B [] bNil) := PGs.imp pgs_nil fun vs σ H Q h => by
  obtain ⟨ρ, G, ds, ok, r, ρ', e, h⟩ := h
  cases r with
  | nil => cases e; exact ⟨rfl, h σ ok rfl fun _ _ => rfl⟩
  | cons _ _ => cases e
theorem tgs_cons {e : Expr} {es : List Expr} {w ws : List Nat} {b : D → En → R En} {bs : List D → En → R En} (h1 : PG X e (gB B w b)) (h2 : PGs X es (gBs B ws bs))
    (hs : (assignEach (e :: es) X.env).map (·.2) = assign e X.env :: (assignEach es X.env).map (·.2) := by rfl) : PGs X (e :: es) (gBs B (w ++ ws) (bCons b bs)) := PGs.imp (pgs_cons h1 h2 hs) fun vs σ H Q h => by
  obtain ⟨ρ, G, ds, ok, r, ρ', e, h⟩ := h
  cases r with
  | nil => cases e
  | cons r t =>
    rename_i v vs d ds
    refine ⟨v, vs, rfl, ?_⟩
    have e : (b d ρ).bind (fun ρ1 => bs ds ρ1) = .ok ρ' := e
    cases e1 : b d ρ with
    | err x => rw [e1] at e; cases e
    | ok ρ1 =>
      rw [e1] at e
      refine ⟨ρ, G, d, ok, r, ρ1, e1, fun σ1 ok1 l1 k1 => ⟨ρ1, G, ds, ok1, t, ρ', e, fun σ2 ok2 l2 k2 => h σ2 ok2 (l2.trans l1) fun j hj => ?_⟩⟩
      rw [List.mem_append, not_or] at hj
      rw [k2 j hj.2, k1 j hj.1]
theorem tg_tup {es : List Expr} {k : Nat} {ws : List Nat} {bts : List D → En → R En} {n : Nat} (hc : X.calm = true) (h : PGs X es (gBs B ws bts)) (hlen : ∀ ds ρ ρ', bts ds ρ = .ok ρ' → ds.length = n)
    (hn : (assignEach es X.env).length = n := by rfl) (hst : (assignEach es X.env).findIdx? (·.1) = none := by rfl) : PG X (.Tuple es k pos) (gB B ws (bTup bts)) := PG.imp (pg_tup hc h hn hst) fun v σ H Q h => by
  obtain ⟨ρ, G, d, ok, r, ρ', e, h⟩ := h
  unfold bTup at e
  split at e
  · cases r with
    | tup ea rs => exact ⟨_, _, rfl, SqT.of (ok.gh _ _ ea), by rw [rs.length]; exact hlen _ _ _ e, ρ, G, _, ok, rs, ρ', e, h⟩
  · cases e
theorem bl_nil : ∀ ds ρ ρ', bNil ds ρ = .ok ρ' → ds.length = 0 := fun ds ρ ρ' e => by cases ds <;> cases e; rfl
theorem bl_cons {b : D → En → R En} {bs : List D → En → R En} {n : Nat} (h : ∀ ds ρ ρ', bs ds ρ = .ok ρ' → ds.length = n) : ∀ ds ρ ρ', bCons b bs ds ρ = .ok ρ' → ds.length = n + 1 := fun ds ρ ρ' e => by
  cases ds with
  | nil => cases e
  | cons d ds =>
    have e : (b d ρ).bind (fun ρ1 => bs ds ρ1) = .ok ρ' := e
    cases e1 : b d ρ with
    | err x => rw [e1] at e; cases e
    | ok ρ1 => rw [e1] at e; rw [List.length_cons, h _ _ _ e]
end

/-! ### for -/
def loop (bt : D → En → R En) (b : Sm) : List D → Sm
  | [], ρ => .ok (.next, ρ)
  | d :: ds, ρ => (bt d ρ).bind fun ρ1 => (b ρ1).bind fun q => match q.1 with
    | .next => loop bt b ds q.2
    | .cont => loop bt b ds q.2
    | .brk => .ok (.next, q.2)
    | .ret r => .ok (.ret r, q.2)
@[simp] def sFor (it : M (List D)) (bt : D → En → R En) (b : Sm) : Sm := fun ρ => (it ρ).bind fun p => loop bt b p.1 p.2
section
variable {X : Cx} {B : Bs} {tg iter : Expr} {body : List Stmt} {it : M (List D)} {bt : D → En → R En} {b : Sm} {ws : List Nat} {pos : Pos}
theorem ts_for (hp : PassesOwn (model X.prog X.w) X.A X.env X.xe) (hc : X.calm = true) (hi : PI X tg iter (iS B it)) (hg : PG X tg (gB B ws bt)) (hb : PSs X body (tS B b))
    (hbt : ∀ d ρ e, bt d ρ = .err e → e = .stuck) (hs : ∀ x, foldedSetIterable iter X.env x = pure x := by intro _; rfl) : PS X (.For tg iter body [] pos) (tS B (sFor it bt b)) := PS.imp (ps_for hp hc hi hg hb hs) fun E σ H h => by
  obtain ⟨ρ, G, ok, h⟩ := h
  unfold sFor at h
  refine ⟨ρ, G, ok, ?_⟩
  cases e : it ρ with
  | err x =>
    rw [e] at h
    have := PS'.err h
    cases x <;> exact this
  | ok a =>
    obtain ⟨ds, ρ1⟩ := a
    rw [e] at h
    intro J G1 H1 n1 src
    have h : PS' B G E (loop bt b ds ρ1) := h
    have h := PS'.mono n1.ext h
    refine ⟨fun i m σ H => m = ds.length - i ∧ i ≤ ds.length ∧ ∃ ρ G, Same G1 G ∧ Ok B ρ G σ H ∧ PS' B G E (loop bt b (ds.drop i) ρ), ⟨ds.length, rfl, Nat.zero_le _, ρ1, G1, Same.refl _, n1.ok, h⟩, ?_⟩
    rintro i m σ2 H2 ⟨rfl, hl, ρ2, G2, s2, ok2, h2⟩
    obtain ⟨go, stop⟩ := src i H2 (s2.trans ok2.gh)
    cases q : ds[i]? with
    | none =>
      have hle : ds.length ≤ i := List.getElem?_eq_none_iff.mp q
      rw [List.drop_eq_nil_of_le hle] at h2
      exact .inl ⟨stop hle, h2 σ2 G2 H2 (Same.refl _) ok2⟩
    | some d =>
      obtain ⟨g1, g2⟩ := go d q
      have hlt : i < ds.length := (List.getElem?_eq_some_iff.mp q).1
      have hd : ds.drop i = d :: ds.drop (i + 1) := by
        rw [List.drop_eq_getElem_cons hlt]
        have := (List.getElem?_eq_some_iff.mp q).2
        rw [this]
      rw [hd] at h2
      refine .inr ⟨g1, fun σ' H' => ∃ ρ G, Same G1 G ∧ Ok B ρ G σ' H' ∧ PS' B G E (loop bt b (ds.drop (i + 1)) ρ), fun σ' H' n => ⟨ds.length - (i + 1), by omega, rfl, hlt, n⟩, fun x H' y => ?_⟩
      obtain ⟨rfl, rx⟩ := g2 x H' y
      have h2 : PS' B G2 E ((bt d ρ2).bind fun ρ1 => (b ρ1).bind fun q => match q.1 with
        | .next => loop bt b (ds.drop (i + 1)) q.2
        | .cont => loop bt b (ds.drop (i + 1)) q.2
        | .brk => .ok (.next, q.2)
        | .ret r => .ok (.ret r, q.2)) := h2
      cases e3 : bt d ρ2 with
      | err x =>
        rw [e3] at h2
        have := hbt _ _ _ e3
        subst this
        exact (show False from h2).elim
      | ok ρ3 =>
        rw [e3] at h2
        refine ⟨ρ2, G2, d, ok2, rx.mono s2, ρ3, e3, fun σ3 ok3 _ _ => ⟨ρ3, G2, ok3, ?_⟩⟩
        dsimp only [R.bind_ok] at h2
        cases e4 : b ρ3 with
        | err x => rw [e4] at h2; cases x <;> exact h2
        | ok q =>
          obtain ⟨f, ρ4⟩ := q
          rw [e4] at h2
          cases f with
          | next => exact fun σ' G' H' s o => ⟨ρ4, G', s2.trans s, o, PS'.mono s h2⟩
          | cont => exact fun σ' G' H' s o => ⟨ρ4, G', s2.trans s, o, PS'.mono s h2⟩
          | brk => exact h2
          | ret r => exact h2
theorem bt_name {i : Nat} : ∀ d ρ e, bName i d ρ = .err e → e = .stuck := fun d ρ e h => by
  unfold bName at h
  split at h <;> cases h
  rfl
theorem bts_nil : ∀ d ρ e, bNil d ρ = .err e → e = .stuck := fun d ρ e h => by cases d <;> cases h; rfl
theorem bts_cons {b : D → En → R En} {bs : List D → En → R En} (h1 : ∀ d ρ e, b d ρ = .err e → e = .stuck) (h2 : ∀ d ρ e, bs d ρ = .err e → e = .stuck) : ∀ d ρ e, bCons b bs d ρ = .err e → e = .stuck := fun ds ρ x e => by
  cases ds with
  | nil => cases e; rfl
  | cons d ds =>
    have e : (b d ρ).bind (fun ρ1 => bs ds ρ1) = .err x := e
    cases e1 : b d ρ with
    | err y => rw [e1] at e; cases e; exact h1 _ _ _ e1
    | ok ρ1 => rw [e1] at e; exact h2 _ _ _ e
theorem bt_tup {bs : List D → En → R En} (h2 : ∀ d ρ e, bs d ρ = .err e → e = .stuck) : ∀ d ρ e, bTup bs d ρ = .err e → e = .stuck := fun d ρ x e => by
  unfold bTup at e
  split at e
  · exact h2 _ _ _ e
  · cases e; rfl
/-- a, b = e -/
@[simp] def sAsg (bt : D → En → R En) (m : M Rs) : Sm := fun ρ => (m ρ).bind fun p => (fz p.1 p.2).bind fun q => (bt q.1 q.2).bind fun ρ1 => .ok (.next, ρ1)
theorem ts_asg {e : Expr} {m : M Rs} (he : PE X e (tR B m)) (hg : PG X tg (gB B ws bt)) (hbt : ∀ d ρ e, bt d ρ = .err e → e = .stuck) (hs : swapsWithSole [tg] e pos.line X.env = pure false := by rfl) (hw : swappedStores [tg] e X.env = pure none := by rfl)
    (h1 : (assignEach [tg] X.env).map (·.2) = [assign tg X.env] := by rfl) : PS X (.Assign [tg] e pos) (tS B (sAsg bt m)) := PS.imp (ps_asg he hg hs hw h1) fun E σ H h => by
  obtain ⟨ρ, G, ok, h⟩ := h
  refine tR.mono (runS ok h) fun x H1 ⟨r, ρ1, G1, n1, q1, h1⟩ => ?_
  obtain ⟨d, ρ2, e2, h2⟩ := fz_get (P := PS' B G1 E) h1 id
  obtain ⟨G2, n2, rr⟩ := fz_ok n1.ok q1 e2
  have h2 := PS'.mono n2.ext h2
  dsimp only at h2
  cases e3 : bt d ρ2 with
  | err y =>
    rw [e3] at h2
    have := hbt _ _ _ e3
    subst this
    exact (show False from h2).elim
  | ok ρ3 =>
    rw [e3] at h2
    exact ⟨ρ2, G2, d, n2.ok, rr, ρ3, e3, fun σ' ok' _ _ => h2 σ' G2 H1 (Same.refl _) ok'⟩
end

/-! ### while -/
def loopW (t : M Bool) (b : Sm) : Nat → Sm
  | 0, _ => R.stuck
  | n + 1, ρ => (t ρ).bind fun p => if p.1 = true then (b p.2).bind fun q => (match q.1 with
      | .next => loopW t b n q.2
      | .cont => loopW t b n q.2
      | .brk => .ok (.next, q.2)
      | .ret r => .ok (.ret r, q.2)) else .ok (.next, p.2)
section
variable {X : Cx} {B : Bs} {c : Expr} {body : List Stmt} {t : M Bool} {b : Sm} {pos : Pos}
theorem ts_while (fuel : Nat) (hp : PassesOwn (model X.prog X.w) X.A X.env X.xe) (hc : PT X c (tT B t)) (hb : PSs X body (tS B b)) : PS X (.While c body [] pos) (tS B (loopW t b fuel)) := PS.imp (ps_while hp hc hb) fun E σ H h => by
  obtain ⟨ρ, G, ok, h⟩ := h
  refine ⟨fun n σ H => ∃ ρ G, Ok B ρ G σ H ∧ PS' B G E (loopW t b n ρ), ⟨fuel, ρ, G, ok, h⟩, ?_⟩
  rintro n σ1 H1 ⟨ρ1, G1, ok1, h1⟩
  cases n with
  | zero => exact h1.elim
  | succ n =>
    refine tT.mono (runST ok1 h1) fun x H2 ⟨ρ2, G2, n2, h2⟩ => ?_
    cases x with
    | false => exact iteF (h2 σ1 G2 H2 (Same.refl _) n2.ok)
    | true =>
      refine iteT ⟨fun σ' H' => ∃ ρ G, Ok B ρ G σ' H' ∧ PS' B G E (loopW t b n ρ), fun σ' H' h => ⟨n, Nat.lt_succ_self n, h⟩, ρ2, G2, n2.ok, ?_⟩
      have h2 : PS' B G2 E ((b ρ2).bind fun q => match q.1 with
        | .next => loopW t b n q.2
        | .cont => loopW t b n q.2
        | .brk => .ok (.next, q.2)
        | .ret r => .ok (.ret r, q.2)) := h2
      cases e4 : b ρ2 with
      | err x => rw [e4] at h2; cases x <;> exact h2
      | ok q =>
        obtain ⟨f, ρ4⟩ := q
        rw [e4] at h2
        cases f with
        | next => exact fun σ' G' H' s o => ⟨ρ4, G', o, PS'.mono s h2⟩
        | cont => exact fun σ' G' H' s o => ⟨ρ4, G', o, PS'.mono s h2⟩
        | brk => exact h2
        | ret r => exact h2
end
end T
namespace T
open PySem PySem.Spec PyProof.Rows L2

/-! ### methods of a list that one slot has -/
@[simp] def eMeth (i : Nat) (f : List D → List D → R (D × List D)) (args : M (List Rs)) : M Rs := fun ρ => match ρ[i]? with
  | some (.own (.lst _)) => (args ρ).bind fun p => (fzs p.1 p.2).bind fun q => match q.2[i]? with
    | some (.own (.lst xs)) => (f xs q.1).bind fun r => .ok (.val r.1, q.2.set i (.own (.lst r.2)))
    | _ => R.stuck
  | _ => R.stuck
def MtS (r : V → List V → Hp → VK → Prop) (f : List D → List D → R (D × List D)) : Prop := ∀ {W : Wd} {G H : Hp} {l : Addr} {vs : List V} {xs : List D} {avs : List V} {ads : List D}, Same G H → H l = some (.lst vs) → Reps W G vs xs → Reps W G avs ads →
  ∀ d ys, f xs ads = .ok (d, ys) → ∃ v vs', Rep W G v d ∧ Reps W G vs' ys ∧ ∀ Q : VK, Q v (upd H l (.lst vs')) → r (.ref l) avs H Q
section
variable {X : Cx} {B : Bs} {ρ : En} {G H : Hp} {σ : L2.St}
theorem own_lst {i : Nat} {xs : List D} (ok : Ok B ρ G σ H) (e : ρ[i]? = some (.own (.lst xs))) : ∃ l vs, σ[i]? = some (some (.ref l)) ∧ H l = some (.lst vs) ∧ Reps B.W G vs xs ∧ G l = none ∧ B.H0 l = none := by
  obtain ⟨l, e1, o1, o2, b⟩ := (show SlOk B G H σ[i]? (.own (.lst xs)) from ok.sl i _ e)
  rcases b with ⟨vs, ds, z1, z2, z3⟩ | ⟨vs, ds, z1, z2, z3⟩
  · cases z1; exact ⟨l, vs, e1, z2, z3, o2, o1⟩
  · cases z1
/-- the list of a slot is changed in place -/
theorem Nx.setIn {i : Nat} {xs ys : List D} {l : Addr} {vs' : List V} (ok : Ok B ρ G σ H) (e : ρ[i]? = some (.own (.lst xs))) (hl : σ[i]? = some (some (.ref l))) (g : G l = none) (h0 : B.H0 l = none) (r : Reps B.W G vs' ys) :
    Nx B ρ G σ H (ρ.set i (.own (.lst ys))) G (upd H l (.lst vs')) := by
  have hi := own_lt e
  have get : ∀ {j s}, (ρ.set i (.own (.lst ys)))[j]? = some s → (j = i ∧ s = .own (.lst ys)) ∨ (j ≠ i ∧ ρ[j]? = some s) := fun {j s} z => by
    by_cases hj : i = j
    · subst hj; rw [List.getElem?_set_self hi] at z; cases z; exact .inl ⟨rfl, rfl⟩
    · rw [List.getElem?_set_ne hj] at z; exact .inr ⟨Ne.symm hj, z⟩
  have gh : Same G (upd H l (.lst vs')) := fun a o q => by rw [upd_ne (ne_of_none q g)]; exact ok.gh a o q
  refine ⟨Same.refl _, ⟨(List.length_set ..).trans ok.len, ok.g0, gh, fun a o q => by rw [upd_ne (ne_of_none q h0)]; exact ok.h0 a o q, ok.nw, fun j s z => ?_, fun j k d1 d2 p z1 z2 z3 z4 => ?_⟩, fun a o q no => ?_, fun _ _ q => .inl q, fun j s z => ?_, fun a o q => ?_⟩
  · rcases get z with ⟨rfl, rfl⟩ | ⟨hj, z⟩
    · exact ⟨l, hl, h0, g, .inl ⟨vs', ys, rfl, upd_same, r⟩⟩
    · have q := ok.sl j s z
      cases s with
      | un => exact True.intro
      | val d => exact q
      | own d =>
        obtain ⟨p, e1, o1, o2, b⟩ := q
        have ne : p ≠ l := fun w => by subst w; exact hj (ok.ap j i _ _ p z e e1 hl)
        refine ⟨p, e1, o1, o2, body_same b (Same.refl _) fun o w => by rw [upd_ne ne]; exact w⟩
  · have un : ∀ {j : Nat} {d : D}, (ρ.set i (Sl.own (.lst ys)))[j]? = some (Sl.own d) → ∃ d' : D, ρ[j]? = some (Sl.own d') := fun {j d} z => by
      rcases get z with ⟨rfl, _⟩ | ⟨_, z⟩
      · exact ⟨_, e⟩
      · exact ⟨_, z⟩
    obtain ⟨d1', z1⟩ := un z1
    obtain ⟨d2', z2⟩ := un z2
    exact ok.ap j k _ _ p z1 z2 z3 z4
  · rw [upd_ne]
    · exact q
    · rintro rfl; exact no ⟨i, _, e, hl⟩
  · rcases get z with ⟨rfl, rfl⟩ | ⟨hj, z⟩
    · exact ⟨_, e, True.intro⟩
    · exact ⟨s, z, SlLe.refl s⟩
  · by_cases w : a = l
    · subst w; exact ⟨_, upd_same⟩
    · rw [upd_ne w]; exact ⟨o, q⟩
variable {e o : Expr} {es : List Expr} {ms : M (List Rs)} {i : Nat} {name : Str} {mid : String} {r : V → List V → Hp → VK → Prop} {f : List D → List D → R (D × List D)} {apos cpos : Pos}
theorem meth_end {i : Nat} {Q : VK} (ok : Ok B ρ G σ H) (hf : MtS r f) (hs : ∀ xs ds e, f xs ds = .err e → e = .stuck) {avs : List V} {ads : List D} (ra : Reps B.W G avs ads) {v : V} (hv : σ[i]? = some (some v))
    (h : PR B ρ G σ H Q (match ρ[i]? with
      | some (.own (.lst xs)) => (f xs ads).bind fun r => .ok (.val r.1, ρ.set i (.own (.lst r.2)))
      | _ => R.stuck)) : r v avs H Q := by
  split at h
  · rename_i xs e1
    obtain ⟨l, vs, q1, q2, q3, q4, q5⟩ := own_lst ok e1
    rw [hv] at q1; cases q1
    cases e2 : f xs ads with
    | err x => rw [e2] at h; cases hs _ _ _ e2; exact (show False from h).elim
    | ok p =>
      obtain ⟨d, ys⟩ := p
      rw [e2] at h
      obtain ⟨v, vs', rv, rvs, k⟩ := hf ok.gh q2 q3 ra d ys e2
      exact k Q (h v G _ (Nx.setIn ok e1 hv q4 q5 rvs) rv True.intro)
  · exact h.elim
theorem te_meth (hf : MtS r f) (hs : ∀ xs ds e, f xs ds = .err e → e = .stuck)
    (he : PE X (.Call (.Attribute o name apos) (e :: es) [] cpos) (tBM X.K "list" r (tVar i) (tA B ms))) : PE X (.Call (.Attribute o name apos) (e :: es) [] cpos) (tR B (eMeth i f ms)) := PE.imp he fun σ H Q h => by
  obtain ⟨ρ, G, ok, h⟩ := h
  unfold eMeth at h
  split at h
  · rename_i xs e1
    obtain ⟨l, vs, q1, q2, _⟩ := own_lst ok e1
    refine ⟨_, q1, .inl ⟨rfl, _, .inl (.inl q2)⟩, ?_⟩
    refine tA.mono (runLR ok h) fun avs H1 ⟨rs, ρ1, G1, n1, q1', h1⟩ => ?_
    obtain ⟨ds, ρ2, e2, h2⟩ := fzs_get (P := PR B ρ1 G1 σ H1 Q) id h1
    obtain ⟨G2, n2, rr⟩ := fzs_ok n1.ok q1' e2
    exact meth_end n2.ok hf hs rr q1 (PR.mono n2 h2)
  · exact h.elim
theorem te_meth0 (hf : MtS r f) (hs : ∀ xs ds e, f xs ds = .err e → e = .stuck)
    (he : PE X (.Call (.Attribute o name apos) [] [] cpos) (tBM0 X.K "list" r (tVar i))) : PE X (.Call (.Attribute o name apos) [] [] cpos) (tR B (eMeth i f aNil)) := PE.imp he fun σ H Q h => by
  obtain ⟨ρ, G, ok, h⟩ := h
  unfold eMeth at h
  split at h
  · rename_i xs e1
    obtain ⟨l, vs, q1, q2, _⟩ := own_lst ok e1
    refine ⟨_, q1, .inl ⟨rfl, _, .inl (.inl q2)⟩, ?_⟩
    have h2 : PR B ρ G σ H Q (match ρ[i]? with
      | some (.own (.lst xs)) => (f xs []).bind fun r => .ok (.val r.1, ρ.set i (.own (.lst r.2)))
      | _ => R.stuck) := h
    exact meth_end ok hf hs .nil q1 h2
  · exact h.elim
end
@[simp] def fApp : List D → List D → R (D × List D) := fun xs as => match as with
  | [d] => if xs.length < 16777216 then .ok (.non, xs ++ [d]) else R.stuck
  | _ => R.stuck
@[simp] def fExt : List D → List D → R (D × List D) := fun xs as => match as with
  | [.lst d] => if xs.length + d.length ≤ 16777216 then .ok (.non, xs ++ d) else R.stuck
  | _ => R.stuck
@[simp] def fPop : List D → List D → R (D × List D) := fun xs as => match as with
  | [] => match xs[xs.length - 1]? with | some d => .ok (d, xs.dropLast) | none => R.stuck
  | _ => R.stuck
@[simp] def fPopAt : List D → List D → R (D × List D) := fun xs as => match as with
  | [.int i] => if 0 ≤ i ∧ i < 9223372036854775808 ∧ i < xs.length then (match xs[i.toNat]? with | some d => .ok (d, xs.eraseIdx i.toNat) | none => R.stuck) else R.stuck
  | _ => R.stuck
@[simp] def fClear : List D → List D → R (D × List D) := fun xs as => match as with
  | [] => .ok (.non, [])
  | _ => R.stuck
theorem ms_app : MtS rAppend fApp := by
  intro W G H l vs xs avs ads s hl r ra d ys e
  unfold fApp at e
  split at e
  · split at e
    · rename_i h
      cases e
      cases ra with
      | cons a b => cases b; exact ⟨.non, _, .non, r.append (.cons a .nil), fun Q q => ⟨l, vs, _, rfl, rfl, hl, by rw [r.length, sizeLine_eq]; exact h, q⟩⟩
    · cases e
  · cases e
theorem ms_ext : MtS rExtend fExt := by
  intro W G H l vs xs avs ads s hl r ra d ys e
  unfold fExt at e
  split at e
  · split at e
    · rename_i h
      cases e
      cases ra with
      | cons a b =>
        cases b
        cases a with
        | lst e1 r1 => exact ⟨.non, _, .non, r.append r1, fun Q q => ⟨l, _, vs, _, rfl, rfl, hl, s _ _ e1, by rw [r.length, r1.length, sizeLine_eq]; exact h, q⟩⟩
    · cases e
  · cases e
theorem ms_pop : MtS rPop fPop := by
  intro W G H l vs xs avs ads s hl r ra d ys e
  unfold fPop at e
  split at e
  · split at e
    · rename_i d' h
      cases e
      cases ra
      obtain ⟨v, h1, h2⟩ := r.get h
      exact ⟨v, _, h2, r.dropLast, fun Q q => ⟨l, vs, v, rfl, rfl, hl, by rw [r.length]; exact h1, q⟩⟩
    · cases e
  · cases e
theorem ms_popAt : MtS rPopAt fPopAt := by
  intro W G H l vs xs avs ads s hl r ra d ys e
  unfold fPopAt at e
  split at e
  · rename_i i
    split at e
    · rename_i hb
      split at e
      · rename_i d' h
        cases e
        cases ra with
        | cons a b =>
          cases b
          cases a
          obtain ⟨v, h1, h2⟩ := r.get h
          refine ⟨v, _, h2, r.eraseIdx i.toNat, fun Q q => ⟨l, vs, i, i.toNat, v, rfl, rfl, hl, by omega, by omega, ?_, h1, q⟩⟩
          exact seqIndex_of hb.1 (by rw [r.length]; exact hb.2.2)
      · cases e
    · cases e
  · cases e
theorem ms_clear : MtS rClear fClear := by
  intro W G H l vs xs avs ads s hl r ra d ys e
  unfold fClear at e
  split at e
  · cases e; cases ra; exact ⟨.non, [], .non, .nil, fun Q q => ⟨l, vs, rfl, rfl, hl, q⟩⟩
  · cases e
theorem fs_app : ∀ xs ds e, fApp xs ds = .err e → e = .stuck := fun xs ds e h => by
  unfold fApp at h; split at h
  · split at h <;> cases h; rfl
  · cases h; rfl
theorem fs_ext : ∀ xs ds e, fExt xs ds = .err e → e = .stuck := fun xs ds e h => by
  unfold fExt at h; split at h
  · split at h <;> cases h; rfl
  · cases h; rfl
theorem fs_pop : ∀ xs ds e, fPop xs ds = .err e → e = .stuck := fun xs ds e h => by
  unfold fPop at h; split at h
  · split at h <;> cases h; rfl
  · cases h; rfl
theorem fs_popAt : ∀ xs ds e, fPopAt xs ds = .err e → e = .stuck := fun xs ds e h => by
  unfold fPopAt at h; split at h
  · split at h
    · split at h <;> cases h; rfl
    · cases h; rfl
  · cases h; rfl
theorem fs_clear : ∀ xs ds e, fClear xs ds = .err e → e = .stuck := fun xs ds e h => by
  unfold fClear at h; split at h <;> cases h; rfl
/-- x[i] = e, x a list that its slot alone has -/
@[simp] def sSub (i : Nat) (mi m : M Rs) : Sm := fun ρ => (m ρ).bind fun p => (fz p.1 p.2).bind fun q => match q.2[i]? with
  | some (.own (.lst _)) => (mi q.2).bind fun k => match k.1 with
    | .val (.int z) => (match k.2[i]? with
      | some (.own (.lst xs)) => (match ixN xs.length z with | some j => .ok (.next, k.2.set i (.own (.lst (xs.set j q.1)))) | none => R.stuck)
      | _ => R.stuck)
    | _ => R.stuck
  | _ => R.stuck
section
variable {X : Cx} {B : Bs} {e o ie : Expr} {m mi : M Rs} {i : Nat} {pos spos : Pos}
theorem ts_sub (he : PE X e (tR B m)) (hi : PE X ie (tR B mi)) (h : PS X (.Assign [.Subscript o ie spos] e pos) (tAsg (tR B m) (gSub (tVar i) (tR B mi) rSetL))) : PS X (.Assign [.Subscript o ie spos] e pos) (tS B (sSub i mi m)) := PS.imp h fun E σ H h => by
  obtain ⟨ρ, G, ok, h⟩ := h
  refine tR.mono (runS ok h) fun x H1 ⟨r, ρ1, G1, n1, q1, h1⟩ => ?_
  obtain ⟨d, ρ2, e2, h2⟩ := fz_get (P := PS' B G1 E) h1 id
  obtain ⟨G2, n2, rr⟩ := fz_ok n1.ok q1 e2
  have h2 := PS'.mono n2.ext h2
  dsimp only at h2
  split at h2
  · rename_i xs0 e3
    obtain ⟨l, vs0, q3, _⟩ := own_lst n2.ok e3
    refine ⟨_, q3, tR.mono (runS n2.ok h2) fun y H3 ⟨k, ρ3, G3, n3, q4, h3⟩ => ?_⟩
    have hk : ∃ z, k = .val (.int z) := by
      cases k with
      | val d =>
        cases d with
        | int z => exact ⟨z, rfl⟩
        | _ => exact (show False from h3).elim
      | new d => exact (show False from h3).elim
      | bor d => exact (show False from h3).elim
    obtain ⟨z, rfl⟩ := hk
    cases q4
    cases e5 : ρ3[i]? with
    | none =>
      dsimp only at h3
      rw [e5] at h3
      exact (show False from h3).elim
    | some s =>
      have h3 : PS' B G3 E (match some s with
        | some (.own (.lst xs)) => (match ixN xs.length z with | some j => .ok (.next, ρ3.set i (.own (.lst (xs.set j d)))) | none => R.stuck)
        | _ => R.stuck) := by rw [← e5]; exact h3
      split at h3
      · rename_i xs e7
        cases e7
        obtain ⟨l', vs, w1, w2, w3, w4, w5⟩ := own_lst n3.ok e5
        rw [q3] at w1; cases w1
        split at h3
        · rename_i j e6
          refine ⟨l, vs, z, j, rfl, rfl, w2, by rw [w3.length]; exact e6, ?_⟩
          exact h3 σ G3 _ (Same.refl _) (Nx.setIn n3.ok e5 q3 w4 w5 (w3.set j (rr.mono n3.ext))).ok
        · exact h3.elim
      · exact h3.elim
  · exact h2.elim
end
/-- a module's constant -/
theorem te_glob {X : Cx} {B : Bs} {x : Str} {v : V} {u : Value} {d : D} {pos : Pos} (hm : X.mg x = some u) (r : RelV v u) (rd : ∀ G, Rep B.W G v d) (hg : Gl X x := by rfl) (hd : (x == ("__debug__" : Str)) = false := by decide) : PE X (.Name x pos) (tR B (eC d)) := te_c (pe_glob hg hm r hd) rd
end T
namespace T
open PySem PySem.Spec PyProof.Rows L2

/-! ### list comprehensions -/
@[simp] def wipeE (ρ : En) : List Nat → En
  | [] => ρ
  | v :: vs => (wipeE ρ vs).set v .un
/-- the slots of vs as they were ahead -/
@[simp] def backE (ρ ρ' : En) : List Nat → En
  | [] => ρ'
  | v :: vs => match ρ[v]? with | some s => (backE ρ ρ' vs).set v s | none => backE ρ ρ' vs
def lcLoop (bt : D → En → R En) (t : M Bool) (m : M Rs) (vs : List Nat) : List D → List D → En → R (List D × En)
  | [], acc, ρ => .ok (acc, ρ)
  | d :: ds, acc, ρ => (bt d ρ).bind fun ρ1 => (t ρ1).bind fun p => if p.1 = true then (m p.2).bind fun q => (fz q.1 q.2).bind fun z => if acc.length < 16777216 then lcLoop bt t m vs ds (acc ++ [z.1]) (wipeE z.2 vs) else R.stuck
      else lcLoop bt t m vs ds acc (wipeE p.2 vs)
@[simp] def eLc (it : M (List D)) (bt : D → En → R En) (t : M Bool) (m : M Rs) (vs : List Nat) : M Rs := fun ρ => (it ρ).bind fun p => (lcLoop bt t m vs p.1 [] (wipeE p.2 vs)).bind fun q => .ok (.new (.lst q.1), backE p.2 q.2 vs)
@[simp] def tYesM : M Bool := fun ρ => .ok (true, ρ)
section
variable {B : Bs} {ρ ρ1 ρ2 : En} {G G1 G2 : Hp} {σ σ1 : L2.St} {H H1 H2 : Hp} {vs : List Nat}
theorem wipeE_len (ρ : En) : ∀ vs, (wipeE ρ vs).length = ρ.length
  | [] => rfl
  | v :: vs => by unfold wipeE; rw [List.length_set, wipeE_len ρ vs]
theorem wipeE_get {i : Nat} {s : Sl} : ∀ {vs : List Nat}, (wipeE ρ vs)[i]? = some s → (i ∈ vs ∧ s = .un) ∨ (i ∉ vs ∧ ρ[i]? = some s)
  | [], h => .inr ⟨by simp, h⟩
  | v :: vs, h => by
    unfold wipeE at h
    by_cases hi : v = i
    · subst hi
      have hv : v < (wipeE ρ vs).length := by have := (List.getElem?_eq_some_iff.mp h).1; simpa using this
      rw [List.getElem?_set_self hv] at h; cases h
      exact .inl ⟨by simp, rfl⟩
    · rw [List.getElem?_set_ne hi] at h
      rcases wipeE_get h with ⟨h1, h2⟩ | ⟨h1, h2⟩
      · exact .inl ⟨by simp [h1], h2⟩
      · exact .inr ⟨by simp only [List.mem_cons, not_or]; exact ⟨fun e => hi e.symm, h1⟩, h2⟩
theorem wipe_get {i : Nat} : ∀ {vs : List Nat}, i ∉ vs → (wipe σ vs)[i]? = σ[i]?
  | [], _ => rfl
  | v :: vs, h => by
    simp only [List.mem_cons, not_or] at h
    show ((wipe σ vs).set v none)[i]? = _
    rw [List.getElem?_set_ne (fun e => h.1 e.symm), wipe_get h.2]
theorem wipe_none {i : Nat} (hi : i < σ.length) : ∀ {vs : List Nat}, i ∈ vs → (wipe σ vs)[i]? = some none
  | v :: vs, h => by
    show ((wipe σ vs).set v none)[i]? = _
    by_cases e : v = i
    · subst e; rw [List.getElem?_set_self (by rw [wipe_length]; exact hi)]
    · rw [List.getElem?_set_ne e]
      rcases List.mem_cons.mp h with h | h
      · exact (e h.symm).elim
      · exact wipe_none hi h
theorem wipe_eq {σ1 : L2.St} (hl : σ1.length = (wipe σ vs).length) (h : ∀ (j : Nat), j ∉ vs → σ1[j]? = (wipe σ vs)[j]?) : wipe σ1 vs = wipe σ vs := by
  apply List.ext_getElem?
  intro i
  by_cases hi : i ∈ vs
  · by_cases hl2 : i < σ.length
    · rw [wipe_none hl2 hi, wipe_none (by rw [hl, wipe_length]; exact hl2) hi]
    · rw [List.getElem?_eq_none (by rw [wipe_length, hl, wipe_length]; omega), List.getElem?_eq_none (by rw [wipe_length]; omega)]
  · rw [wipe_get hi, h i hi]
/-- forgetting slots -/
theorem Ok.wipe (ok : Ok B ρ G σ1 H) (hs : σ.length = σ1.length) (h : ∀ (j : Nat), j ∉ vs → σ1[j]? = (L2.wipe σ vs)[j]?) : Ok B (wipeE ρ vs) G (L2.wipe σ vs) H := by
  refine ⟨by rw [wipeE_len, wipe_length, hs]; exact ok.len, ok.g0, ok.gh, ok.h0, ok.nw, fun i s e => ?_, fun i j d1 d2 p z1 z2 z3 z4 => ?_⟩
  · rcases wipeE_get e with ⟨_, rfl⟩ | ⟨h1, h2⟩
    · exact True.intro
    · rw [← h i h1]; exact ok.sl i s h2
  · rcases wipeE_get z1 with ⟨_, y⟩ | ⟨h1, z1⟩
    · cases y
    · rcases wipeE_get z2 with ⟨_, y⟩ | ⟨h2, z2⟩
      · cases y
      · rw [← h i h1] at z3; rw [← h j h2] at z4
        exact ok.ap i j d1 d2 p z1 z2 z3 z4
theorem owned_wipe {a : Addr} (h : ∀ (j : Nat), j ∉ vs → σ1[j]? = (wipe σ vs)[j]?) (o : Owned (wipeE ρ vs) (wipe σ vs) a) : Owned ρ σ1 a := by
  obtain ⟨i, d, e1, e2⟩ := o
  rcases wipeE_get e1 with ⟨_, y⟩ | ⟨h1, e1⟩
  · cases y
  · exact ⟨i, d, e1, by rw [h i h1]; exact e2⟩
/-- the cell D's content does not matter to what is held -/
theorem Ok.reset {p : Addr} {o : HO} (ok : Ok B ρ G σ H) (g : G p = none) (h0 : B.H0 p = none) (no : ¬ Owned ρ σ p) : Ok B ρ G σ (upd H p o) := by
  refine ⟨ok.len, ok.g0, fun a u e => by rw [upd_ne (ne_of_none e g)]; exact ok.gh a u e, fun a u e => by rw [upd_ne (ne_of_none e h0)]; exact ok.h0 a u e, ok.nw, fun i s e => ?_, ok.ap⟩
  have q := ok.sl i s e
  cases s with
  | un => exact True.intro
  | val d => exact q
  | own d =>
    obtain ⟨p', e1, o1, o2, b⟩ := q
    have ne : p' ≠ p := fun w => by subst w; exact no ⟨i, d, e, e1⟩
    exact ⟨p', e1, o1, o2, body_same b (Same.refl _) fun o w => by rw [upd_ne ne]; exact w⟩
theorem Nx.reset {p : Addr} {o : HO} (n : Nx B ρ G σ H ρ1 G1 H1) (g : G1 p = none) (h0 : B.H0 p = none) (no : ¬ Owned ρ σ p) : Nx B ρ G σ (upd H p o) ρ1 G1 (upd H1 p o) := by
  have no1 : ¬ Owned ρ1 σ p := fun z => no (n.owned z)
  refine ⟨n.ext, n.ok.reset g h0 no1, fun a u e z => ?_, fun a u e => ?_, n.le, fun a u e => ?_⟩
  · by_cases w : a = p
    · subst w; rw [upd_same] at e ⊢; exact e
    · rw [upd_ne w] at e ⊢; exact n.keep a u e z
  · have w : a ≠ p := fun w => by subst w; rw [g] at e; cases e
    rw [upd_ne w]; exact n.gnew a u e
  · by_cases w : a = p
    · subst w; exact ⟨o, upd_same⟩
    · rw [upd_ne w] at e ⊢; exact n.dom a u e
theorem upd_self {H : Hp} {a : Addr} {o : HO} (e : H a = some o) : upd H a o = H := by
  funext b
  by_cases z : b = a
  · subst z; rw [upd_same, e]
  · rw [upd_ne z]
/-- a target's mirror lays values alone, in the slots ws -/
structure BtOk (ws : List Nat) (bt : D → En → R En) : Prop where
  st : ∀ d ρ e, bt d ρ = .err e → e = .stuck
  len : ∀ d ρ ρ', bt d ρ = .ok ρ' → ρ'.length = ρ.length
  out : ∀ d ρ ρ', bt d ρ = .ok ρ' → ∀ (j : Nat), j ∉ ws → ρ'[j]? = ρ[j]?
  own : ∀ d ρ ρ', bt d ρ = .ok ρ' → ∀ (j : Nat) s, ρ'[j]? = some (.own s) → ρ[j]? = some (.own s)
theorem Nx.wipe (ok1 : Ok B ρ1 G σ1 H) (n : Nx B ρ1 G σ1 H ρ2 G1 H1) {ρ0 : En} (hs : σ.length = σ1.length) (h : ∀ (j : Nat), j ∉ vs → σ1[j]? = (L2.wipe σ vs)[j]?) (hl : ρ1.length = ρ0.length) (hρ : ∀ (j : Nat), j ∉ vs → ρ1[j]? = ρ0[j]?) (ho : ∀ (j : Nat) s, ρ1[j]? = some (.own s) → ρ0[j]? = some (.own s))
    (un : ∀ (j : Nat) s, j ∈ vs → ρ0[j]? = some s → s = .un) : Nx B ρ0 G (L2.wipe σ vs) H (wipeE ρ2 vs) G1 H1 := by
  have od : ∀ a, Owned ρ1 σ1 a → Owned ρ0 (L2.wipe σ vs) a := fun a ⟨i, d, e1, e2⟩ => by
    have e3 := ho i d e1
    have hi : i ∉ vs := fun z => by have := un i _ z e3; cases this
    exact ⟨i, d, e3, by rw [← h i hi]; exact e2⟩
  have l2 : ρ2.length = ρ1.length := by rw [n.ok.len, ok1.len]
  refine ⟨n.ext, n.ok.wipe hs h, fun a o e no => n.keep a o e fun z => no (od a z), fun a o e => ?_, fun i s e => ?_, n.dom⟩
  · rcases n.gnew a o e with z | z | z
    · exact .inl z
    · exact .inr (.inl z)
    · exact .inr (.inr (od a z))
  · rcases wipeE_get e with ⟨h1, rfl⟩ | ⟨h1, e⟩
    · have hi : i < ρ0.length := by have := (List.getElem?_eq_some_iff.mp e).1; rw [wipeE_len, l2, hl] at this; exact this
      refine ⟨.un, ?_, True.intro⟩
      have q : ρ0[i]? = some ρ0[i] := List.getElem?_eq_getElem hi
      rw [q, un i _ h1 q]
    · obtain ⟨s1, e1, l1⟩ := n.le i s e
      exact ⟨s1, by rw [← hρ i h1]; exact e1, l1⟩
theorem backE_get {ρ ρ' : En} {i : Nat} {s : Sl} : ∀ {vs : List Nat}, (∀ v ∈ vs, v < ρ'.length → v < ρ.length) → (backE ρ ρ' vs)[i]? = some s → (i ∈ vs ∧ ρ[i]? = some s) ∨ (i ∉ vs ∧ ρ'[i]? = some s)
  | [], _, h => .inr ⟨by simp, h⟩
  | v :: vs, hv, h => by
    unfold backE at h
    have ih : (backE ρ ρ' vs)[i]? = some s → (i ∈ vs ∧ ρ[i]? = some s) ∨ (i ∉ vs ∧ ρ'[i]? = some s) := backE_get fun v h => hv v (by simp [h])
    split at h
    · rename_i s' e
      by_cases hi : v = i
      · subst hi
        have hl : v < (backE ρ ρ' vs).length := by have := (List.getElem?_eq_some_iff.mp h).1; simpa using this
        rw [List.getElem?_set_self hl] at h; cases h
        exact .inl ⟨by simp, e⟩
      · rw [List.getElem?_set_ne hi] at h
        rcases ih h with ⟨h1, h2⟩ | ⟨h1, h2⟩
        · exact .inl ⟨by simp [h1], h2⟩
        · exact .inr ⟨by simp only [List.mem_cons, not_or]; exact ⟨fun e => hi e.symm, h1⟩, h2⟩
    · rename_i e
      rcases ih h with ⟨h1, h2⟩ | ⟨h1, h2⟩
      · exact .inl ⟨by simp [h1], h2⟩
      · refine .inr ⟨?_, h2⟩
        simp only [List.mem_cons, not_or]
        refine ⟨fun z => ?_, h1⟩
        subst z
        have := hv i (by simp) (List.getElem?_eq_some_iff.mp h2).1
        rw [List.getElem?_eq_getElem this] at e; cases e
theorem backE_len (ρ ρ' : En) : ∀ vs, (backE ρ ρ' vs).length = ρ'.length
  | [] => rfl
  | v :: vs => by
    unfold backE
    split
    · rw [List.length_set, backE_len]
    · rw [backE_len]
/-- the block is left: the slots of its own names are as they were -/
theorem Nx.back (ok1 : Ok B ρ1 G1 σ H1) {D : Addr} (hD : H1 D = none) {o : HO} (n : Nx B (wipeE ρ1 vs) G1 (L2.wipe σ vs) (upd H1 D o) ρ2 G2 (upd H D o)) (hl : ∃ o, H D = some o) : Nx B ρ1 G1 σ H1 (backE ρ1 ρ2 vs) G2 H := by
  have noD1 : ¬ Owned ρ1 σ D := ok1.notOwned hD
  have noD : ¬ Owned (wipeE ρ1 vs) (L2.wipe σ vs) D := fun z => noD1 (owned_wipe (fun j hj => (wipe_get hj).symm) z)
  have gD : G2 D = none := by
    cases q : G2 D with
    | none => rfl
    | some u =>
      rcases n.gnew D u q with z | z | z
      · rw [ok1.gnone hD] at z; cases z
      · rw [upd_same] at z; cases z
      · exact (noD z).elim
  have off : ∀ a, a ≠ D → H a = (upd H D o) a := fun a h => (upd_ne h).symm
  have l2 : ρ2.length = ρ1.length := by rw [n.ok.len, wipe_length, ok1.len]
  have bg : ∀ {i s}, (backE ρ1 ρ2 vs)[i]? = some s → (i ∈ vs ∧ ρ1[i]? = some s) ∨ (i ∉ vs ∧ ρ2[i]? = some s) := fun {i s} => backE_get fun v _ h => by rw [l2] at h; exact h
  have toOwn : ∀ {i : Nat} {d : T.D}, i ∉ vs → ρ2[i]? = some (Sl.own d) → ∃ d' : T.D, ρ1[i]? = some (Sl.own d') := fun {i d} hi e => by
    obtain ⟨s, e1, l⟩ := n.le i _ e
    rcases wipeE_get e1 with ⟨h1, _⟩ | ⟨_, e1⟩
    · exact (hi h1).elim
    · cases s with
      | own d' => exact ⟨d', e1⟩
      | val _ => exact (show False from l).elim
      | un => exact (show False from l).elim
  have kp : ∀ a u, H1 a = some u → ¬ Owned (wipeE ρ1 vs) (L2.wipe σ vs) a → H a = some u := fun a u e no => by
    have ne : a ≠ D := ne_of_none e hD
    rw [off a ne]
    exact n.keep a u (by rw [upd_ne ne]; exact e) no
  refine ⟨n.ext, ⟨?_, n.ok.g0, fun a u e => ?_, fun a u e => ?_, n.ok.nw, fun i s e => ?_, fun i j d1 d2 p z1 z2 z3 z4 => ?_⟩, fun a u e no => kp a u e fun z => no (owned_wipe (fun j hj => (wipe_get hj).symm) z), fun a u e => ?_, fun i s e => ?_, fun a u e => ?_⟩
  · rw [backE_len, l2]; exact ok1.len
  · rw [off a (ne_of_none e gD)]; exact n.ok.gh a u e
  · have ne : a ≠ D := ne_of_none e (ok1.h0none hD)
    rw [off a ne]; exact n.ok.h0 a u e
  · rcases bg e with ⟨hi, e⟩ | ⟨hi, e⟩
    · have q := ok1.sl i s e
      cases s with
      | un => exact True.intro
      | val d => obtain ⟨v, e1, r⟩ := q; exact ⟨v, e1, r.mono n.ext⟩
      | own d =>
        obtain ⟨p, e1, o1, o2, b⟩ := q
        have no : ¬ Owned (wipeE ρ1 vs) (L2.wipe σ vs) p := fun ⟨j, d', w1, w2⟩ => by
          rcases wipeE_get w1 with ⟨_, y⟩ | ⟨hj, w1⟩
          · cases y
          · rw [wipe_get hj] at w2
            have := ok1.ap i j _ _ p e w1 e1 w2
            subst this; exact hj hi
        have hp : ∃ u, H1 p = some u := by rcases b with ⟨_, _, _, z, _⟩ | ⟨_, _, _, z, _⟩ <;> exact ⟨_, z⟩
        refine ⟨p, e1, o1, ?_, body_same b n.ext fun u z => kp p u z no⟩
        cases q : G2 p with
        | none => rfl
        | some u =>
          obtain ⟨u', hu⟩ := hp
          have ne : p ≠ D := ne_of_none hu hD
          rcases n.gnew p u q with z | z | z
          · rw [o2] at z; cases z
          · rw [upd_ne ne, hu] at z; cases z
          · exact (no z).elim
    · have q := n.ok.sl i s e
      rw [wipe_get hi] at q
      cases s with
      | un => exact True.intro
      | val d => exact q
      | own d =>
        obtain ⟨p, e1, o1, o2, b⟩ := q
        have ne : p ≠ D := fun z => by
          subst z
          obtain ⟨d', e9⟩ := toOwn hi e
          exact noD1 ⟨i, d', e9, e1⟩
        exact ⟨p, e1, o1, o2, body_same b (Same.refl _) fun u z => by rw [upd_ne ne] at z; exact z⟩
  · have un : ∀ {i : Nat} {d : T.D}, (backE ρ1 ρ2 vs)[i]? = some (Sl.own d) → ∃ d' : T.D, ρ1[i]? = some (Sl.own d') := fun {i d} z => by
      rcases bg z with ⟨_, e⟩ | ⟨hi, e⟩
      · exact ⟨d, e⟩
      · exact toOwn hi e
    obtain ⟨_, z1⟩ := un z1
    obtain ⟨_, z2⟩ := un z2
    exact ok1.ap i j _ _ p z1 z2 z3 z4
  · have ne : a ≠ D := ne_of_none e gD
    rcases n.gnew a u e with z | z | z
    · exact .inl z
    · rw [upd_ne ne] at z; exact .inr (.inl z)
    · exact .inr (.inr (owned_wipe (fun j hj => (wipe_get hj).symm) z))
  · rcases bg e with ⟨_, e⟩ | ⟨hi, e⟩
    · exact ⟨s, e, SlLe.refl s⟩
    · obtain ⟨s1, e1, l⟩ := n.le i s e
      rcases wipeE_get e1 with ⟨h1, _⟩ | ⟨_, e1⟩
      · exact (hi h1).elim
      · exact ⟨s1, e1, l⟩
  · have ne : a ≠ D := ne_of_none e hD
    obtain ⟨u', e'⟩ := n.dom a u (by rw [upd_ne ne]; exact e)
    rw [upd_ne ne] at e'
    exact ⟨u', e'⟩
end
def PTs' (B : Bs) (X : Cx) (ifs : List Expr) (t : M Bool) : Prop := PTs X ifs (tT B t)
theorem tts_nil {X : Cx} {B : Bs} : PTs X [] (tT B tYesM) := ⟨fun pins s σ H Q I h => by
  obtain ⟨ρ, G, ok, h⟩ := h
  exact pts_nil.run pins s σ H Q I (h G H (Nx.refl ok))⟩
theorem tts_one {X : Cx} {B : Bs} {c : Expr} {t : M Bool} (h : PT X c (tT B t)) : PTs X [c] (tT B t) := pts_one h
section
variable {X : Cx} {B : Bs} {elt tg iter : Expr} {ifs : List Expr} {scope : Scope} {own : List (Str × Nat)} {pos : Pos} {it : M (List D)} {bt : D → En → R En} {t : M Bool} {m : M Rs} {ws : List Nat}
theorem lc_read {vs : List Nat} (hbt : BtOk ws bt) (hw : ∀ j ∈ ws, j ∈ vs) {σ : L2.St} {H : Hp} {Q : VK} (h : tR B (eLc it bt t m vs) σ H Q) : tLc (iS B it) (gB B ws bt) (tT B t) (tR B m) vs σ H Q := by
  obtain ⟨ρ, G, ok, h⟩ := h
  unfold eLc at h
  refine ⟨ρ, G, ok, ?_⟩
  cases e : it ρ with
  | err x =>
    rw [e] at h
    have := PR.err h
    cases x <;> exact this
  | ok a =>
    obtain ⟨ds, ρ1⟩ := a
    rw [e] at h
    intro J G1 H1 n1 src Dd hD
    have h : PR B ρ G σ H Q ((lcLoop bt t m vs ds [] (wipeE ρ1 vs)).bind fun q => .ok (.new (.lst q.1), backE ρ1 q.2 vs)) := h
    have h := PR.mono n1 h
    have okw : Ok B (wipeE ρ1 vs) G1 (L2.wipe σ vs) H1 := n1.ok.wipe rfl fun j hj => (wipe_get hj).symm
    have noD1 : ¬ Owned ρ1 σ Dd := n1.ok.notOwned hD
    have noDw : ¬ Owned (wipeE ρ1 vs) (L2.wipe σ vs) Dd := okw.notOwned hD
    have nw0 : Nx B (wipeE ρ1 vs) G1 (L2.wipe σ vs) (upd H1 Dd (.lst [])) (wipeE ρ1 vs) G1 (upd H1 Dd (.lst [])) := Nx.refl (okw.grow hD)
    have gDof : ∀ {ρ2 G2 H2}, Nx B (wipeE ρ1 vs) G1 (L2.wipe σ vs) (upd H1 Dd (.lst [])) ρ2 G2 H2 → G2 Dd = none := fun {ρ2 G2 H2} n => by
      cases q : G2 Dd with
      | none => rfl
      | some u =>
        rcases n.gnew Dd u q with z | z | z
        · rw [n1.ok.gnone hD] at z; cases z
        · rw [upd_same] at z; cases z
        · exact (noDw z).elim
    have unof : ∀ {ρ2 G2 H2}, Nx B (wipeE ρ1 vs) G1 (L2.wipe σ vs) (upd H1 Dd (.lst [])) ρ2 G2 H2 → ∀ (j : Nat) s, j ∈ vs → ρ2[j]? = some s → s = .un := fun {ρ2 G2 H2} n j s hj e => by
      obtain ⟨s1, e1, l⟩ := n.le j s e
      rcases wipeE_get e1 with ⟨_, rfl⟩ | ⟨h1, _⟩
      · cases s with
        | un => rfl
        | val _ => exact (show False from l).elim
        | own _ => exact (show False from l).elim
      · exact (h1 hj).elim
    refine ⟨fun i k H => k = ds.length - i ∧ i ≤ ds.length ∧ ∃ ρ2 G2 accV accD, H Dd = some (.lst accV) ∧ Reps B.W G2 accV accD ∧ Nx B (wipeE ρ1 vs) G1 (L2.wipe σ vs) (upd H1 Dd (.lst [])) ρ2 G2 (upd H Dd (.lst [])) ∧
      PR B ρ1 G1 σ H1 Q ((lcLoop bt t m vs (ds.drop i) accD ρ2).bind fun q => .ok (.new (.lst q.1), backE ρ1 q.2 vs)), ⟨ds.length, rfl, Nat.zero_le _, wipeE ρ1 vs, G1, [], [], upd_same, .nil, by rw [upd_upd]; exact nw0, h⟩, ?_⟩
    rintro i k H2 ⟨rfl, hl, ρ2, G2, accV, accD, hacc, racc, n2, h2⟩
    have gD2 := gDof n2
    have no2 : ¬ Owned ρ2 (L2.wipe σ vs) Dd := fun z => noDw (n2.owned z)
    have ok2 : Ok B ρ2 G2 (L2.wipe σ vs) H2 := by
      have := n2.ok.reset (o := .lst accV) gD2 (n1.ok.h0none hD) no2
      rw [upd_upd, upd_self hacc] at this
      exact this
    obtain ⟨go, stop⟩ := src i H2 (n2.ext.trans ok2.gh)
    cases q : ds[i]? with
    | none =>
      have hle : ds.length ≤ i := List.getElem?_eq_none_iff.mp q
      rw [List.drop_eq_nil_of_le hle] at h2
      refine .inl ⟨stop hle, ?_⟩
      have nb := Nx.back n1.ok hD n2 ⟨_, hacc⟩
      refine h2 (.ref Dd) G2 H2 nb ⟨Dd, rfl, ⟨n1.ok.h0none hD, gD2, .inl ⟨accV, accD, rfl, hacc, racc⟩⟩, fun z => noD1 (nb.owned z)⟩ fun p z => by cases z; exact hD
    | some d =>
      obtain ⟨g1, g2⟩ := go d q
      have hlt : i < ds.length := (List.getElem?_eq_some_iff.mp q).1
      have hd : ds.drop i = d :: ds.drop (i + 1) := by
        rw [List.drop_eq_getElem_cons hlt]
        have := (List.getElem?_eq_some_iff.mp q).2
        rw [this]
      rw [hd] at h2
      refine .inr ⟨g1, fun H' => ∃ ρ2 G2 accV accD, H' Dd = some (.lst accV) ∧ Reps B.W G2 accV accD ∧ Nx B (wipeE ρ1 vs) G1 (L2.wipe σ vs) (upd H1 Dd (.lst [])) ρ2 G2 (upd H' Dd (.lst [])) ∧
        PR B ρ1 G1 σ H1 Q ((lcLoop bt t m vs (ds.drop (i + 1)) accD ρ2).bind fun q => .ok (.new (.lst q.1), backE ρ1 q.2 vs)), fun H' n => ⟨ds.length - (i + 1), by omega, rfl, hlt, n⟩, fun x H' y => ?_⟩
      obtain ⟨rfl, rx⟩ := g2 x H' y
      unfold lcLoop at h2
      rw [R.bind_assoc] at h2
      cases e3 : bt d ρ2 with
      | err x =>
        rw [e3] at h2
        have := hbt.st _ _ _ e3
        subst this
        exact (show False from h2).elim
      | ok ρ3 =>
        rw [e3] at h2
        refine ⟨ρ2, G2, d, ok2, rx.mono n2.ext, ρ3, e3, fun σ3 ok3 l3 k3 => ?_⟩
        have k3' : ∀ (j : Nat), j ∉ vs → σ3[j]? = (L2.wipe σ vs)[j]? := fun j hj => k3 j fun z => hj (hw j z)
        refine ⟨wipe_eq l3 k3', ?_⟩
        dsimp only [R.bind_ok] at h2
        have hlen : ρ3.length = ρ2.length := hbt.len _ _ _ e3
        have ls : σ.length = σ3.length := by rw [l3, wipe_length]
        have wp : ∀ {ρ4 G4 H4}, Nx B ρ3 G2 σ3 H' ρ4 G4 H4 → Nx B ρ2 G2 (L2.wipe σ vs) H' (wipeE ρ4 vs) G4 H4 := fun {ρ4 G4 H4} n =>
          Nx.wipe ok3 n ls k3' hlen (fun j hj => hbt.out _ _ _ e3 j fun z => hj (hw j z)) (fun j s z => hbt.own _ _ _ e3 j s z) (unof n2)
        have no3 : ¬ Owned ρ3 σ3 Dd := fun ⟨j, d', w1, w2⟩ => by
          have w3 := hbt.own _ _ _ e3 j d' w1
          by_cases hj : j ∈ vs
          · have := unof n2 j _ hj w3; cases this
          · rw [k3' j hj] at w2; exact no2 ⟨j, d', w3, w2⟩
        have step : ∀ {ρ4 G4 H4}, Nx B ρ3 G2 σ3 H' ρ4 G4 H4 → Nx B (wipeE ρ1 vs) G1 (L2.wipe σ vs) (upd H1 Dd (.lst [])) (wipeE ρ4 vs) G4 (upd H4 Dd (.lst [])) ∧ H4 Dd = some (.lst accV) := fun {ρ4 G4 H4} n => by
          have hk := n.keep Dd _ hacc no3
          have w := wp n
          have g4 : G4 Dd = none := by
            cases z : G4 Dd with
            | none => rfl
            | some u =>
              rcases w.gnew Dd u z with y | y | y
              · rw [gD2] at y; cases y
              · rw [hacc] at y; cases y
              · exact (no2 y).elim
          exact ⟨n2.trans (w.reset g4 (n1.ok.h0none hD) no2), hk⟩
        refine tT.mono (runT (P := fun (x : R (List D × En)) (_ : En) (_ : Hp) (_ : Hp) => PR B ρ1 G1 σ H1 Q (x.bind fun q => .ok (.new (.lst q.1), backE ρ1 q.2 vs))) (X := fun p => if p.1 = true then (m p.2).bind fun q => (fz q.1 q.2).bind fun z => if accD.length < 16777216 then lcLoop bt t m vs (ds.drop (i + 1)) (accD ++ [z.1]) (wipeE z.2 vs) else R.stuck else lcLoop bt t m vs (ds.drop (i + 1)) accD (wipeE p.2 vs)) ok3 h2 (fun x _ h => h) (fun e h => PR.err h)) fun b H4 ⟨ρ4, G4, n4, h4⟩ => ?_
        cases b with
        | false =>
          refine iteF ?_
          obtain ⟨s1, s2⟩ := step n4
          exact ⟨_, G4, accV, accD, s2, racc.mono n4.ext, s1, h4⟩
        | true =>
          refine iteT ?_
          have h4 : PR B ρ1 G1 σ H1 Q (((m ρ4).bind fun q => (fz q.1 q.2).bind fun z => if accD.length < 16777216 then lcLoop bt t m vs (ds.drop (i + 1)) (accD ++ [z.1]) (wipeE z.2 vs) else R.stuck).bind fun q => .ok (.new (.lst q.1), backE ρ1 q.2 vs)) := h4
          refine tR.mono (run (P := fun (x : R (List D × En)) (_ : En) (_ : Hp) (_ : Hp) => PR B ρ1 G1 σ H1 Q (x.bind fun q => .ok (.new (.lst q.1), backE ρ1 q.2 vs))) n4.ok h4 (fun x _ h => h) (fun e h => PR.err h)) fun y H5 ⟨r, ρ5, G5, n5, q5, h5⟩ => ?_
          obtain ⟨z, ρ6, e6, h6⟩ := fz_get (P := fun (x : R (List D × En)) => PR B ρ1 G1 σ H1 Q (x.bind fun q => .ok (.new (.lst q.1), backE ρ1 q.2 vs))) h5 id
          obtain ⟨G6, n6, rr⟩ := fz_ok n5.ok q5 e6
          obtain ⟨s1, s2⟩ := step ((n4.trans n5).trans n6)
          have ext6 := (n4.ext.trans n5.ext).trans n6.ext
          dsimp only at h6
          split at h6
          · rename_i hlim
            refine ⟨accV, s2, by rw [(racc.mono ext6).length, sizeLine_eq]; exact hlim, ?_⟩
            exact ⟨_, G6, accV ++ [y], accD ++ [z], upd_same, (racc.mono ext6).append (.cons rr .nil), by rw [upd_upd]; exact s1, h6⟩
          · exact h6.elim
theorem te_lc (hbt : BtOk ws bt) (hw : ∀ j ∈ ws, j ∈ own.map (·.2)) (hc : X.calm = true) (hN : X.N.Nodup) (hi : PI X tg iter (iS B it)) (ok : BlkOk X.N X.env.scope scope own)
    (hg : ∀ (s : Shared) (H : Hp) (C : Addr) (cl : List (Str × Addr)) (fp : List Addr), PG (X.blk s H scope (compEnvC scope cl C X.env) fp) tg (gB B ws bt)) (ht : ∀ (s : Shared) (H : Hp) (C : Addr) (cl : List (Str × Addr)) (fp : List Addr), PTs (X.blk s H scope (compEnvC scope cl C X.env) fp) ifs (tT B t))
    (he : ∀ (s : Shared) (H : Hp) (C : Addr) (cl : List (Str × Addr)) (fp : List Addr), PE (X.blk s H scope (compEnvC scope cl C X.env) fp) elt (tR B m)) (hs : ∀ x, foldedSetIterable iter X.env x = pure x := by intro _; rfl) :
    PE X (.ListComp elt [⟨tg, iter, ifs, 0⟩] scope pos) (tR B (eLc it bt t m (own.map (·.2)))) := PE.imp (pe_lc hc hN hi ok hg ht he hs) fun σ H Q h => lc_read hbt hw h
theorem ts_setLc {i : Nat} {y : Str} {py spos : Pos} (hbt : BtOk ws bt) (hw : ∀ j ∈ ws, j ∈ own.map (·.2)) (hc : X.calm = true) (hN : X.N.Nodup) (hy : X.N[i]? = some y) (hyl : X.env.scope.names.lookup y = some .local)
    (hsw : swapsWith (.ListComp elt [⟨tg, iter, ifs, 0⟩] scope pos) (some (.Name y py)) spos.line X.env = pure true) (hi : PI X tg iter (iS B it)) (ok : BlkOk X.N X.env.scope scope own)
    (hg : ∀ (s : Shared) (H : Hp) (C : Addr) (cl : List (Str × Addr)) (fp : List Addr), PG (X.blk s H scope (compEnvC scope cl C X.env) fp) tg (gB B ws bt)) (ht : ∀ (s : Shared) (H : Hp) (C : Addr) (cl : List (Str × Addr)) (fp : List Addr), PTs (X.blk s H scope (compEnvC scope cl C X.env) fp) ifs (tT B t))
    (he : ∀ (s : Shared) (H : Hp) (C : Addr) (cl : List (Str × Addr)) (fp : List Addr), PE (X.blk s H scope (compEnvC scope cl C X.env) fp) elt (tR B m)) (hs : ∀ x, foldedSetIterable iter X.env x = pure x := by intro _; rfl) :
    PS X (.Assign [.Name y py] (.ListComp elt [⟨tg, iter, ifs, 0⟩] scope pos) spos) (tS B (sSet i (eLc it bt t m (own.map (·.2))))) := PS.imp (ps_setLc hc hN hy hyl hsw hi ok hg ht he hs) fun E σ H h => by
  refine lc_read hbt hw ?_
  obtain ⟨ρ, G, ok, h⟩ := h
  refine tR.mono (runSN ok h) fun x H1 ⟨r, ρ1, G1, n1, q1, f, h1⟩ => ?_
  obtain ⟨ρ2, e2, h2⟩ := put_get h1
  obtain ⟨G2, s2, ok2⟩ := put_ok n1.ok q1 e2
  exact h2 _ G2 H1 s2 ok2
end
theorem bto_name {i : Nat} : BtOk [i] (bName i) := by
  refine ⟨bt_name, fun d ρ ρ' e => ?_, fun d ρ ρ' e j hj => ?_, fun d ρ ρ' e j s hs => ?_⟩
  · unfold bName at e; split at e <;> cases e; simp
  · unfold bName at e; split at e <;> cases e
    rw [List.getElem?_set_ne (by simpa using fun z => hj (by simp [z]))]
  · unfold bName at e; split at e <;> cases e
    rename_i hi
    by_cases z : i = j
    · subst z; rw [List.getElem?_set_self hi] at hs; cases hs
    · rw [List.getElem?_set_ne z] at hs; exact hs
end T
namespace T
open PySem PySem.Spec PyProof.Rows L2

/-! ### defs of the text, their calls, the end -/
structure Def (K : PySem.W.Frag) (mg : Str → Option Value) (x : Str) (st : Stmt) (ps : List Str) : Prop where
  ex : ∃ f fd, Fun K x x st f fd ∧ mg x = some (.ref f) ∧ ∀ us : List Value, us.length = ps.length → bindArgs fd ⟨us, []⟩ = pure (ps.zip us)
structure Cal (P : Program) (w : World) (K : PySem.W.Frag) (mg : Str → Option Value) (base : Heap) (x : Str) (k n : Nat) (m : List D → R Rs) : Prop where
  ex : ∃ f fd ps, FnOk P w K mg base CX0 k f fd ps (spM ⟨K, mg⟩ false n m) ∧ mg x = some (.ref f) ∧ PySem.W.keepIn K (.ref f) = true ∧ Binds K fd ps []
section
variable {P : Program} {w : World} {K : PySem.W.Frag} {mg : Str → Option Value} {base : Heap} {x : Str} {st : Stmt} {ps N : List Str}
theorem def_mk {h : Heap} (X : K.In h) (G : h.Ns mainGlobals mg) {f : Addr} {oc : Value} {od an : Option Addr} {osl : Array (Option Value)} {kV doc pm cdv ct : Value} (a : PySem.W.nsIn K mainGlobals x = some (some (.ref f)))
    (l : K.lookup f = some ⟨oc, od, .func (PySem.W.fnOf x x (defArgs st) (defBody st) (defScope st) .none kV doc pm an cdv ct), osl⟩)
    (c : PySem.W.codeIn K cdv x = true) (k : PySem.W.keepIn K (.ref f) = true)
    (hb : ∀ (kV doc pm : Value) (an : Option Addr) (cdv ct : Value) (us : List Value), us.length = ps.length → bindArgs (PySem.W.fnOf x x (defArgs st) (defBody st) (defScope st) .none kV doc pm an cdv ct) ⟨us, []⟩ = pure (ps.zip us)) : Def K mg x st ps :=
  have F := fun_mk (x := x) (qual := x) (st := st) l c k
  ⟨⟨f, _, F, PySem.W.mg_of X G a, hb kV doc pm an cdv ct⟩⟩
/-- a body's mirror -/
def BodyOk (P : Program) (w : World) (K : PySem.W.Frag) (mg : Str → Option Value) (base : Heap) (x : Str) (st : Stmt) (N : List Str) (k : Nat) (b : Sm) : Prop :=
  ∀ (f : Addr) (cdv : Value) (A : Around) (outer : List PySem.Env) (s : Shared) (H : Hp) (B : Bs) (E : XK), Room k (A.deeper (envOfC x (defScope st) s.heap.objs.size f cdv)) → B.W = ⟨K, mg⟩ →
      PSs (cxOf CX0 P w K mg base N x (defScope st) f cdv A outer s H E).nox (defBody st) (tS B b)
theorem cal_mk {k n : Nat} {b : Sm} (d : Def K mg x st ps) (S : FnScope N ps (defScope st)) (hn : ps.length = n) (hb : BodyOk P w K mg base x st N k b) : Cal P w K mg base x (k + 1) n (fnM N.length b) := by
  obtain ⟨f, fd, F, m, bd⟩ := d.ex
  exact ⟨⟨f, fd, ps, fn_ok F S hn (hb f), m, F.kp, .all bd⟩⟩
end
section
variable {X : Cx} {B : Bs} {x : Str} {k j n : Nat} {m : List D → R Rs} {e : Expr} {es : List Expr} {ms : M (List Rs)} {p pos : Pos}
/-- a call of a def of the text -/
theorem te_fn (c : Cal X.prog X.w X.K X.mg X.base x k n m) (hW : B.W = ⟨X.K, X.mg⟩) (hr : Room j X.A) (hk : k ≤ j) (hl : Len n ms) (ha : PA X (e :: es) (tA B ms))
    (hg : Gl X x := by rfl) (hdb : (x == ("__debug__" : Str)) = false := by decide) (he : starEach (e :: es) X.env = (false, eval e X.env) :: starEach es X.env := by rfl) (hpl : (backTo pos (starEach es X.env)).any (·.1) = false := by rfl) :
    PE X (.Call (.Name x p) (e :: es) [] pos) (tR B (eCall (fun ds => noexc (m ds)) ms)) := by
  obtain ⟨f, fd, ps, F, hm, kp, hb⟩ := c.ex
  exact te_call (by rw [hW]; exact F) (hr.mono hk) hm kp hb hl ha hg hdb he hpl
end
def spLaw (K : PySem.W.Frag) : Sp := fun vs H Q _ => ∃ (a : Addr) (ns : List Int), vs = [.ref a] ∧ SqL K H a (ns.map V.int) ∧ ns.length ≤ 63 ∧ ∀ H', Q (.bl true) H'
theorem law_sp {K : PySem.W.Frag} {mg : Str → Option Value} {m : List D → R Rs} (h : ∀ ns : List Int, ns.length ≤ 63 → m [.scr ns] = .ok (.val (.bl true))) (vs : List V) (H : Hp) (Q : VK) (E : XK) (s : spLaw K vs H Q E) : spM ⟨K, mg⟩ false 1 m vs H Q E := by
  obtain ⟨a, ns, rfl, hs, hl, k⟩ := s
  refine ⟨H, [.scr ns], rfl, Same.refl _, .cons (.scr hs) .nil, ?_⟩
  rw [h ns hl]
  intro v G' H' _ _ _ _ r
  cases r
  exact k H'
theorem walk_law {l : PySem.W.OpenLaw} {q : Program} {loose : List Str} {XP : (Str → Option Value) → Heap → Prop} {YP : World → Heap → Prop} {d : DefRec} {K : Params → PySem.W.Frag} {k : Nat} {b : Sm} {N : List Str} {st : Stmt} (hn : l.most = some 63) (hdf : d.params.defaults = []) (hd : d.name = ("law" : Str))
    (hr : Room (k + 1) callerA) (hY : ∀ (w : World) (h : Heap), YP w h → (K w.params).In h) (S : FnScope N ["_law_script"] (defScope st)) (hm : ∀ ns : List Int, ns.length ≤ 63 → fnM N.length b [.scr ns] = .ok (.val (.bl true)))
    (F : ∀ (w : World) (mg : Str → Option Value) (h : Heap), (K w.params).In h → h.Ns mainGlobals mg →
      Def (K w.params) mg "law" st ["_law_script"] ∧ ∀ base : Heap, BodyOk l.prog w (K w.params) mg base "law" st N k b) :
    PySem.W.WalkO q loose XP YP l.row.toRowW d [] (fun f vs => PySem.call f vs) := by
  refine L2.walk_ofK (x := "_law_script") (CX := CX0) (sp := spLaw) hn (by decide) hdf hr hY (fun w mg fa h KX G hmg => ?_) (fun K H a ns hl _ hS => ⟨a, ns, rfl, hS, hl, fun _ => rfl⟩) fun _ _ _ _ z => z
  obtain ⟨⟨f, fd, Fn, m, bd⟩, FB⟩ := F w mg h KX G
  rw [hd, m] at hmg
  cases hmg
  exact ⟨fd, fun s u => .of_eq (bd [u] rfl), fun base _ _ => (fn_ok Fn S rfl (FB base fa)).imp (law_sp hm)⟩
end T
namespace T
open PySem PySem.Spec PyProof.Rows L2
section
variable {X : Cx} {B : Bs}
/-! ### in, not in; += -/
def D.flatS : D → Bool
  | .non => true
  | .bl _ => true
  | .int _ => true
  | .str _ => true
  | _ => false
def eqS : D → D → Bool
  | .non, .non => true
  | .bl a, .bl b => a == b
  | .bl a, .int b => (if a then 1 else 0) == b
  | .int a, .bl b => a == (if b then 1 else 0)
  | .int a, .int b => a == b
  | .str a, .str b => a == b
  | _, _ => false
def inS (x : D) (ds : List D) : Bool := ds.any fun y => eqS y x
def dIn : D → D → R Rs
  | x, .lst ds => if x.flatS = true ∧ ds.all D.flatS = true then .ok (.val (.bl (inS x ds))) else R.stuck
  | x, .tup ds => if x.flatS = true ∧ ds.all D.flatS = true then .ok (.val (.bl (inS x ds))) else R.stuck
  | .str a, .str b => .ok (.val (.bl (!(Builtin.Str.occurrences b a 0 b.length 1).isEmpty)))
  | _, _ => R.stuck
def dNin (a b : D) : R Rs := match dIn a b with
  | .ok (.val (.bl k)) => .ok (.val (.bl (!k)))
  | _ => R.stuck
theorem flatS_rep {W : Wd} {G : Hp} {v : V} {d : D} (r : Rep W G v d) (f : d.flatS = true) : flatV v = true := by cases r <;> first | rfl | cases f
theorem eqS_rep {W : Wd} {G : Hp} {v u : V} {d e : D} (r : Rep W G v d) (q : Rep W G u e) (f : d.flatS = true) (g : e.flatS = true) : eqV v u = eqS d e := by
  cases r <;> first | (cases f; done) | (cases q <;> first | rfl | (cases g; done))
theorem PkOk.flat_rep {G H : Hp} {v : V} {d : D} (h : PkOk B G H v d) (f : d.flatS = true) : Rep B.W G v d := by
  rcases h with h | ⟨p, rfl, _, _, b⟩
  · exact h
  · rcases b with ⟨_, _, rfl, _⟩ | ⟨_, _, rfl, _⟩ <;> cases f
theorem inS_rep {W : Wd} {G : Hp} {x : V} {dx : D} (rx : Rep W G x dx) (fx : dx.flatS = true) : ∀ {vs : List V} {ds : List D}, Reps W G vs ds → ds.all D.flatS = true → inV x vs = inS dx ds ∧ vs.all flatV = true
  | _, _, .nil, _ => ⟨rfl, rfl⟩
  | _, _, .cons r t, f => by
    rw [List.all_cons, Bool.and_eq_true] at f
    obtain ⟨i1, i2⟩ := inS_rep rx fx t f.2
    unfold inV at i1 ⊢
    unfold inS at i1 ⊢
    rw [List.any_cons, List.any_cons, eqS_rep r rx f.1 fx, i1, List.all_cons, flatS_rep r f.1, i2]
    exact ⟨rfl, rfl⟩
abbrev rInA (K : PySem.W.Frag) (neg : Bool) : R2 := fun x y H Q => rIn K neg x y H Q ∨ ∃ i j, x = .str i ∧ y = .str j ∧ Q (.bl (if neg then !(!(Builtin.Str.occurrences j i 0 j.length 1).isEmpty) else !(Builtin.Str.occurrences j i 0 j.length 1).isEmpty)) H
theorem op_inA : OpR X (compareOp .In) (rInA X.K false) := op_in_seq.or op_in_str
theorem op_ninA : OpR X (compareOp .NotIn) (rInA X.K true) := op_notIn_seq.or op_notIn_str
theorem in_ok {neg : Bool} (hW : B.W.K = X.K) {σ : L2.St} {ρ : En} {G H : Hp} {x y : V} {d1 d2 : D} {Q : VK} (ok : Ok B ρ G σ H) (p1 : PkOk B G H x d1) (p2 : PkOk B G H y d2) (k : Bool) (e : dIn d1 d2 = .ok (.val (.bl k))) (q : Q (.bl (if neg then !k else k)) H) : rInA X.K neg x y H Q := by
  unfold dIn at e
  split at e
  · split at e
    · rename_i h
      cases e
      obtain ⟨a, vs, rfl, ha, ra⟩ := p2.lst_of ok
      have r1 := p1.flat_rep h.1
      obtain ⟨i1, i2⟩ := inS_rep r1 h.1 ra h.2
      exact .inl ⟨a, vs, rfl, .inl (SqL.of ha), flatS_rep r1 h.1, i2, by rw [i1]; exact q⟩
    · cases e
  · split at e
    · rename_i h
      cases e
      obtain ⟨a, vs, rfl, ha, ra⟩ := p2.tup_of ok
      have r1 := p1.flat_rep h.1
      obtain ⟨i1, i2⟩ := inS_rep r1 h.1 ra h.2
      exact .inl ⟨a, vs, rfl, .inr (SqT.of ha), flatS_rep r1 h.1, i2, by rw [i1]; exact q⟩
    · cases e
  · cases e
    exact .inr ⟨_, _, p1.str_of, p2.str_of, q⟩
  · cases e
theorem on_in : OnlyB dIn := fun d1 d2 => by
  unfold dIn
  split
  · split
    · exact .inr ⟨_, rfl⟩
    · exact .inl rfl
  · split
    · exact .inr ⟨_, rfl⟩
    · exact .inl rfl
  · exact .inr ⟨_, rfl⟩
  · exact .inl rfl
theorem on_nin : OnlyB dNin := fun d1 d2 => by
  unfold dNin
  rcases on_in d1 d2 with e | ⟨k, e⟩
  · rw [e]; exact .inl rfl
  · rw [e]; exact .inr ⟨_, rfl⟩
theorem oB_in (hW : B.W.K = X.K) : OpB B (rInA X.K false) dIn := fun ok p1 p2 k e q => in_ok (neg := false) hW ok p1 p2 k e q
theorem oB_nin (hW : B.W.K = X.K) : OpB B (rInA X.K true) dNin := fun {σ ρ G H x y d1 d2 Q} ok p1 p2 k e q => by
  unfold dNin at e
  rcases on_in d1 d2 with e1 | ⟨k1, e1⟩
  · rw [e1] at e; cases e
  · rw [e1] at e; cases e
    exact in_ok (neg := true) hW ok p1 p2 k1 e1 q
abbrev rAddI : R2 := fun x y H Q => rI0 (fun i j => .int (i + j)) x y H Q ∨ (∃ i j, x = .str i ∧ y = .str j ∧ i.length + j.length ≤ sizeLine ∧ Q (.str (i ++ j)) H)
theorem iop_addA : OpR X (inplaceOp .Add) rAddI := iop_add.or iop_add_str
end
/-- += of ints and texts alone -/
@[simp] def dAddI : D → D → R Rs
  | .int i, .int j => .ok (.val (.int (i + j)))
  | .str a, .str b => if a.length + b.length ≤ 16777216 then .ok (.val (.str (a ++ b))) else R.stuck
  | _, _ => R.stuck
theorem o2_addI {B : Bs} : Op2 B rAddI dAddI := by
  intro σ ρ G H x y d1 d2 Q ok p1 p2 q
  unfold dAddI at q
  split at q
  · exact .inl ⟨_, _, p1.int_of, p2.int_of, pr_val ok (.int _) q⟩
  · split at q
    · rename_i h
      exact .inr ⟨_, _, p1.str_of, p2.str_of, by rw [sizeLine_eq]; exact h, pr_val ok (.str _) q⟩
    · exact q.elim
  · exact q.elim
theorem o2_mulI {B : Bs} : Op2 B (rI CMul fun i j => .int (i * j)) (fun a b => match a, b with | .int i, .int j => dMul (.int i) (.int j) | _, _ => R.stuck) := by
  intro σ ρ G H x y d1 d2 Q ok p1 p2 q
  dsimp only at q
  split at q
  · unfold dMul at q
    dsimp only at q
    split at q
    · rename_i h
      exact ⟨_, _, p1.int_of, p2.int_of, h, pr_val ok (.int _) q⟩
    · exact q.elim
  · exact q.elim
structure BtsOk (ws : List Nat) (bt : List D → En → R En) : Prop where
  st : ∀ d ρ e, bt d ρ = .err e → e = .stuck
  len : ∀ d ρ ρ', bt d ρ = .ok ρ' → ρ'.length = ρ.length
  out : ∀ d ρ ρ', bt d ρ = .ok ρ' → ∀ (j : Nat), j ∉ ws → ρ'[j]? = ρ[j]?
  own : ∀ d ρ ρ', bt d ρ = .ok ρ' → ∀ (j : Nat) s, ρ'[j]? = some (.own s) → ρ[j]? = some (.own s)
theorem bNil_ok {ds : List D} {ρ ρ' : En} (e : bNil ds ρ = .ok ρ') : ρ' = ρ := by cases ds <;> cases e; rfl
theorem btos_nil : BtsOk [] bNil :=
  ⟨bts_nil, fun d ρ ρ' e => by rw [bNil_ok e], fun d ρ ρ' e j _ => by rw [bNil_ok e], fun d ρ ρ' e j s h => by rw [bNil_ok e] at h; exact h⟩
theorem bCons_ok {b : D → En → R En} {bs : List D → En → R En} {ds : List D} {ρ ρ' : En} (e : bCons b bs ds ρ = .ok ρ') : ∃ d r ρ1, ds = d :: r ∧ b d ρ = .ok ρ1 ∧ bs r ρ1 = .ok ρ' := by
  cases ds with
  | nil => cases e
  | cons d r =>
    have e : (b d ρ).bind (fun ρ1 => bs r ρ1) = .ok ρ' := e
    cases e1 : b d ρ with
    | err y => rw [e1] at e; cases e
    | ok ρ1 => rw [e1] at e; exact ⟨d, r, ρ1, rfl, e1, e⟩
theorem btos_cons {w ws : List Nat} {b : D → En → R En} {bs : List D → En → R En} (h1 : BtOk w b) (h2 : BtsOk ws bs) : BtsOk (w ++ ws) (bCons b bs) := by
  refine ⟨bts_cons h1.st h2.st, fun d ρ ρ' e => ?_, fun d ρ ρ' e j hj => ?_, fun d ρ ρ' e j s h => ?_⟩
  · obtain ⟨d, r, ρ1, rfl, e1, e2⟩ := bCons_ok e
    rw [h2.len _ _ _ e2, h1.len _ _ _ e1]
  · obtain ⟨d, r, ρ1, rfl, e1, e2⟩ := bCons_ok e
    rw [List.mem_append, not_or] at hj
    rw [h2.out _ _ _ e2 j hj.2, h1.out _ _ _ e1 j hj.1]
  · obtain ⟨d, r, ρ1, rfl, e1, e2⟩ := bCons_ok e
    exact h1.own _ _ _ e1 j s (h2.own _ _ _ e2 j s h)
theorem bTup_ok {bs : List D → En → R En} {d : D} {ρ ρ' : En} (e : bTup bs d ρ = .ok ρ') : ∃ xs, bs xs ρ = .ok ρ' := by
  unfold bTup at e
  split at e
  · exact ⟨_, e⟩
  · cases e
theorem bto_tup {ws : List Nat} {bs : List D → En → R En} (h : BtsOk ws bs) : BtOk ws (bTup bs) :=
  ⟨bt_tup h.st, fun d ρ ρ' e => let ⟨_, e⟩ := bTup_ok e; h.len _ _ _ e, fun d ρ ρ' e => let ⟨_, e⟩ := bTup_ok e; h.out _ _ _ e, fun d ρ ρ' e => let ⟨_, e⟩ := bTup_ok e; h.own _ _ _ e⟩
end T
namespace T
open PySem
/-! ### reckoning with mirrors -/
@[simp] theorem kit_int_int : L2.kitB "int" "int" = some true := by decide +kernel
@[simp] theorem kit_int_bool : L2.kitB "int" "bool" = some false := by decide +kernel
@[simp] theorem kit_bool_int : L2.kitB "bool" "int" = some true := by decide +kernel
@[simp] theorem kit_bool_bool : L2.kitB "bool" "bool" = some true := by decide +kernel
@[simp] theorem kit_list_list : L2.kitB "list" "list" = some true := by decide +kernel
@[simp] theorem kit_tuple_list : L2.kitB "tuple" "list" = some false := by decide +kernel
@[simp] theorem kit_tuple_tuple : L2.kitB "tuple" "tuple" = some true := by decide +kernel
@[simp] theorem kit_list_tuple : L2.kitB "list" "tuple" = some false := by decide +kernel
@[simp] theorem kit_str_str : L2.kitB "str" "str" = some true := by decide +kernel
@[simp] theorem kit_none_int : L2.kitB "NoneType" "int" = some false := by decide +kernel
/-- a for whose states are told: inv i is the state ahead of turn i -/
theorem loop_inv {bt : D → En → R En} {b : Sm} : ∀ {ds : List D} (inv : Nat → En) (h : ∀ (i : Nat) d, ds[i]? = some d → ∃ ρ1, bt d (inv i) = .ok ρ1 ∧ (b ρ1 = .ok (.next, inv (i + 1)) ∨ b ρ1 = .ok (.cont, inv (i + 1)))), loop bt b ds (inv 0) = .ok (.next, inv ds.length)
  | [], inv, h => rfl
  | d :: ds, inv, h => by
    obtain ⟨ρ1, e1, e2⟩ := h 0 d rfl
    have ih := loop_inv (ds := ds) (fun i => inv (i + 1)) fun i d' e => h (i + 1) d' (by simpa using e)
    rw [loop, e1, R.bind_ok]
    rcases e2 with e2 | e2 <;> (rw [e2, R.bind_ok]; exact ih)
/-- a for, its states told by a property -/
theorem loop_P {bt : D → En → R En} {b : Sm} : ∀ {ds : List D} (P : Nat → En → Prop) {ρ0 : En} (h0 : P 0 ρ0)
    (h : ∀ (i : Nat) d ρ, ds[i]? = some d → P i ρ → ∃ ρ1 ρ2, bt d ρ = .ok ρ1 ∧ (b ρ1 = .ok (.next, ρ2) ∨ b ρ1 = .ok (.cont, ρ2)) ∧ P (i + 1) ρ2), ∃ ρ', loop bt b ds ρ0 = .ok (.next, ρ') ∧ P ds.length ρ'
  | [], P, ρ0, h0, h => ⟨ρ0, rfl, h0⟩
  | d :: ds, P, ρ0, h0, h => by
    obtain ⟨ρ1, ρ2, e1, e2, h1⟩ := h 0 d ρ0 rfl h0
    obtain ⟨ρ', e, hp⟩ := loop_P (ds := ds) (fun i => P (i + 1)) h1 fun i d' ρ e p => h (i + 1) d' ρ (by simpa using e) p
    refine ⟨ρ', ?_, hp⟩
    rw [loop, e1, R.bind_ok]
    rcases e2 with e2 | e2 <;> (rw [e2, R.bind_ok]; exact e)
/-- a run ends well, with what is wanted -/
def Ends {α : Type} (x : R α) (P : α → Prop) : Prop := ∃ a, x = .ok a ∧ P a
section
variable {α β : Type} {P : α → Prop}
@[simp] theorem Ends_ok {a : α} : Ends (.ok a) P ↔ P a := ⟨fun ⟨_, e, p⟩ => (by cases e; exact p), fun p => ⟨a, rfl, p⟩⟩
@[simp] theorem Ends_err {e : Ex} : Ends (.err e : R α) P ↔ False := ⟨fun ⟨_, e, _⟩ => (by cases e), False.elim⟩
@[simp] theorem Ends_bind {x : R β} {f : β → R α} : Ends (x.bind f) P ↔ Ends x fun a => Ends (f a) P := by
  cases x with
  | ok a => simp
  | err e => simp
@[simp] theorem Ends_ite {c : Prop} [Decidable c] {x y : R α} : Ends (if c then x else y) P ↔ if c then Ends x P else Ends y P := by
  split <;> rfl
theorem Ends.mono {x : R α} {Q : α → Prop} (h : Ends x P) (w : ∀ a, P a → Q a) : Ends x Q := let ⟨a, e, p⟩ := h; ⟨a, e, w a p⟩
theorem Ends.eq {x : R α} {a : α} (h : Ends x fun b => b = a) : x = .ok a := let ⟨b, e, p⟩ := h; by rw [e, p]
end
def LoopK (P : Nat → En → Prop) (i : Nat) (K : Fl × En → Prop) (q : Fl × En) : Prop := match q.1 with
  | .next => P (i + 1) q.2
  | .cont => P (i + 1) q.2
  | .brk => K (.next, q.2)
  | .ret r => K (.ret r, q.2)
@[simp] theorem LoopK_next {P i K ρ} : LoopK P i K (.next, ρ) ↔ P (i + 1) ρ := Iff.rfl
@[simp] theorem LoopK_cont {P i K ρ} : LoopK P i K (.cont, ρ) ↔ P (i + 1) ρ := Iff.rfl
@[simp] theorem LoopK_brk {P i K ρ} : LoopK P i K (.brk, ρ) ↔ K (.next, ρ) := Iff.rfl
@[simp] theorem LoopK_ret {P i K ρ r} : LoopK P i K (.ret r, ρ) ↔ K (.ret r, ρ) := Iff.rfl
theorem loop_E {bt : D → En → R En} {b : Sm} {K : Fl × En → Prop} : ∀ {ds : List D} (P : Nat → En → Prop) {ρ0 : En} (_ : P 0 ρ0)
    (_ : ∀ (i : Nat) d ρ, ds[i]? = some d → P i ρ → Ends (bt d ρ) fun ρ1 => Ends (b ρ1) (LoopK P i K)) (_ : ∀ ρ, P ds.length ρ → K (.next, ρ)), Ends (loop bt b ds ρ0) K
  | [], P, ρ0, h0, h, hd => ⟨_, rfl, hd _ h0⟩
  | d :: ds, P, ρ0, h0, h, hd => by
    obtain ⟨ρ1, e1, ⟨f, ρ2⟩, e2, h1⟩ := h 0 d ρ0 rfl h0
    rw [loop, e1, R.bind_ok, e2, R.bind_ok]
    have rec_ : P 1 ρ2 → Ends (loop bt b ds ρ2) K := fun p => loop_E (ds := ds) (fun i => P (i + 1)) p (fun i d' ρ e p => (h (i + 1) d' ρ (by simpa using e) p).mono fun ρ1 q => q.mono fun q r => r) hd
    cases f with
    | next => exact rec_ h1
    | cont => exact rec_ h1
    | brk => exact ⟨_, rfl, h1⟩
    | ret r => exact ⟨_, rfl, h1⟩
/-- over ints -/
theorem loop_I {bt : D → En → R En} {b : Sm} {K : Fl × En → Prop} {ns : List Int} (P : Nat → En → Prop) {ρ0 : En} (h0 : P 0 ρ0)
    (h : ∀ (i : Nat) n ρ, ns[i]? = some n → P i ρ → Ends (bt (.int n) ρ) fun ρ1 => Ends (b ρ1) (LoopK P i K)) (hd : ∀ ρ, P ns.length ρ → K (.next, ρ)) : Ends (loop bt b (ns.map .int) ρ0) K :=
  loop_E P h0 (fun i d ρ e p => by
    rw [List.getElem?_map] at e
    cases q : ns[i]? with
    | none => rw [q] at e; cases e
    | some n => rw [q] at e; cases e; exact h i n ρ q p) fun ρ p => hd ρ (by simpa using p)
theorem loop_R {bt : D → En → R En} {b : Sm} {K : Fl × En → Prop} {lo hi : Int} (P : Nat → En → Prop) {ρ0 : En} (h0 : P 0 ρ0)
    (h : ∀ (i : Nat) ρ, i < (hi - lo).toNat → P i ρ → Ends (bt (.int (lo + (i : Int))) ρ) fun ρ1 => Ends (b ρ1) (LoopK P i K)) (hd : ∀ ρ, P (hi - lo).toNat ρ → K (.next, ρ)) : Ends (loop bt b (rng lo hi) ρ0) K := by
  unfold rng
  refine loop_E P h0 (fun i d ρ e p => ?_) fun ρ p => hd ρ (by simpa using p)
  rw [List.getElem?_map] at e
  by_cases hi' : i < (hi - lo).toNat
  · rw [List.getElem?_range hi'] at e; cases e; exact h i ρ hi' p
  · rw [List.getElem?_eq_none (by simpa using Nat.le_of_not_lt hi')] at e; cases e
end T
namespace T
open PySem PySem.Spec PyProof.Rows L2
/-! ### raise that is never come to; divmod -/
@[simp] def sNever : Sm := fun _ => R.stuck
theorem ts_never {X : Cx} {B : Bs} {st : Stmt} : PS X st (tS B sNever) := PS.imp ps_never fun E σ H h => by
  obtain ⟨ρ, G, ok, h⟩ := h
  exact h
theorem call_divmodX {X : Cx} : CallR X (.builtin "divmod") (fun xs H Q => ∃ i j, xs = [.int i, .int j] ∧ (j ≠ 0 ∧ j.natAbs < 2 ^ 128) ∧ ∀ p, H p = none → Q (.ref p) (upd H p (.tup [.int (i.fdiv j), .int (i.fmod j)]))) := by
  intro pins s σ H xs us Q I r h
  obtain ⟨i, j, rfl, ⟨h1, h2⟩, q⟩ := h
  obtain ⟨u, w', rfl, ⟨t, rfl⟩, ⟨t', rfl⟩⟩ := vals2 r
  refine divmod_int h1 ?_ (.inl (PyProof.noPylong_of_log2 (Nat.lt_of_lt_of_le (PySem.Flt.log2_lt_of (by decide) h2) (by decide))))
  have hn : H s.heap.objs.size = none := I.hok.fresh (Nat.le_refl _)
  refine ⟨.ref s.heap.objs.size, _, ?_, rfl, q _ hn⟩
  refine I.laid (fun b o e => Heap.get?_push_of_some _ e) (Nat.le_refl _) ⟨by simp only [List.length_cons, List.length_nil]; rw [sizeLine_eq]; decide, [.int (i.fdiv j) s.toks, .int (i.fmod j) (s.toks + 1)], .cons ⟨_, rfl⟩ (.cons ⟨_, rfl⟩ .nil), ?_⟩
  exact ⟨_, Heap.get?_push_size s.heap rfl, rfl, 0, rfl⟩
@[simp] def dDivmod : List D → R Rs
  | [.int i, .int j] => if 0 < j ∧ j < 340282366920938463463374607431768211456 then .ok (.val (.tup [.int (i / j), .int (i % j)])) else
      if j < 0 ∧ -340282366920938463463374607431768211456 < j then .ok (.val (.tup [.int (i.fdiv j), .int (i.fmod j)])) else R.stuck
  | _ => R.stuck
theorem c_divmod {B : Bs} : CallS B (fun xs H Q => ∃ i j, xs = [.int i, .int j] ∧ (j ≠ 0 ∧ j.natAbs < 2 ^ 128) ∧ ∀ p, H p = none → Q (.ref p) (upd H p (.tup [.int (i.fdiv j), .int (i.fmod j)]))) dDivmod := by
  intro σ ρ G H vs ds Q ok p q
  unfold dDivmod at q
  split at q
  · obtain ⟨v, w, rfl, p1, p2⟩ := p.two
    cases p1.int_of
    cases p2.int_of
    rename_i i j
    refine ⟨i, j, rfl, ?_⟩
    split at q
    · rename_i h
      refine ⟨⟨by omega, by omega⟩, ?_⟩
      rw [Int.fdiv_eq_ediv_of_nonneg i (by omega), Int.fmod_eq_emod_of_nonneg i (by omega)]
      exact new_tup ok (.cons (.int _) (.cons (.int _) .nil)) q
    · split at q
      · rename_i h
        exact ⟨⟨by omega, by omega⟩, new_tup ok (.cons (.int _) (.cons (.int _) .nil)) q⟩
      · exact q.elim
  · exact q.elim
/-! ### list comprehensions, reckoned -/
theorem lc_E {bt : D → En → R En} {m : M Rs} {vs : List Nat} {K : List D × En → Prop} {ρ : En} : ∀ {ds acc : List D} (gs : List D) (_ : gs.length = ds.length) (_ : acc.length + ds.length ≤ 16777216)
    (_ : ∀ (i : Nat) d g, ds[i]? = some d → gs[i]? = some g → Ends (bt d ρ) fun ρ1 => Ends (m ρ1) fun q => Ends (fz q.1 q.2) fun z => z.1 = g ∧ wipeE z.2 vs = ρ) (_ : K (acc ++ gs, ρ)), Ends (lcLoop bt tYesM m vs ds acc ρ) K
  | [], acc, [], _, _, _, k => ⟨_, rfl, by simpa using k⟩
  | [], acc, _ :: _, h, _, _, k => by cases h
  | _ :: _, acc, [], h, _, _, k => by cases h
  | d :: ds, acc, g :: gs, hl, ha, h, k => by
    obtain ⟨ρ1, e1, q, e2, z, e3, hz, hw⟩ := h 0 d g rfl rfl
    rw [List.length_cons] at ha
    rw [lcLoop, e1, R.bind_ok]
    show Ends ((R.ok (true, ρ1)).bind _) K
    rw [R.bind_ok, if_pos rfl, e2, R.bind_ok, e3, R.bind_ok, if_pos (by omega), hw, hz]
    exact lc_E (acc := acc ++ [g]) gs (by simpa using hl) (by rw [List.length_append, List.length_singleton]; omega) (fun i d' g' a b => h (i + 1) d' g' (by simpa using a) (by simpa using b)) (by simpa using k)
/-- ints from ints -/
theorem lc_I {bt : D → En → R En} {m : M Rs} {vs : List Nat} {K : List D × En → Prop} {ρ : En} {ns : List Int} (f : Int → D) (hl : ns.length ≤ 16777216)
    (h : ∀ n ∈ ns, Ends (bt (.int n) ρ) fun ρ1 => Ends (m ρ1) fun q => Ends (fz q.1 q.2) fun z => z.1 = f n ∧ wipeE z.2 vs = ρ) (k : K (ns.map f, ρ)) : Ends (lcLoop bt tYesM m vs (ns.map .int) [] ρ) K := by
  refine lc_E (ns.map f) (by simp) (by simpa using hl) (fun i d g a b => ?_) (by simpa using k)
  rw [List.getElem?_map] at a b
  cases q : ns[i]? with
  | none => rw [q] at a; cases a
  | some n => rw [q] at a b; cases a; cases b; exact h n (List.mem_of_getElem? q)
/-- over a range from 0 -/
theorem lc_R {bt : D → En → R En} {m : M Rs} {vs : List Nat} {K : List D × En → Prop} {ρ : En} {n : Int} (f : Nat → D) (hl : n.toNat ≤ 16777216)
    (h : ∀ i : Nat, i < n.toNat → Ends (bt (.int (i : Int)) ρ) fun ρ1 => Ends (m ρ1) fun q => Ends (fz q.1 q.2) fun z => z.1 = f i ∧ wipeE z.2 vs = ρ) (k : K ((List.range n.toNat).map f, ρ)) : Ends (lcLoop bt tYesM m vs (rng 0 n) [] ρ) K := by
  unfold rng
  rw [Int.sub_zero]
  refine lc_E ((List.range n.toNat).map f) (by simp) (by simpa using hl) (fun i d g a b => ?_) (by simpa using k)
  rw [List.getElem?_map] at a b
  by_cases hi : i < n.toNat
  · rw [List.getElem?_range hi] at a b
    cases a; cases b
    have := h i hi
    simpa using this
  · rw [List.getElem?_eq_none (by simpa using Nat.le_of_not_lt hi)] at a; cases a
/-! ### == of equal data -/
theorem toPs_ints : ∀ ns : List Int, D.toPs (ns.map .int) = some (ns.map PyData.int)
  | [] => rfl
  | n :: ns => by rw [List.map_cons, D.toPs, toPs_ints ns]; rfl
theorem lay_ints : ∀ ns : List Int, PyData.canLayAll0 (ns.map PyData.int) = true
  | [] => rfl
  | n :: ns => by rw [List.map_cons, PyData.canLayAll0, lay_ints ns]; rfl
theorem depth_ints : ∀ ns : List Int, PyData.depthAll (ns.map PyData.int) = 0
  | [] => rfl
  | n :: ns => by rw [List.map_cons, PyData.depthAll, depth_ints ns]; rfl
theorem eqv_ints : ∀ ns ms : List Int, PyData.eqvAll (ns.map PyData.int) (ms.map PyData.int) = decide (ns = ms)
  | [], [] => rfl
  | [], _ :: _ => rfl
  | _ :: _, [] => rfl
  | n :: ns, m :: ms => by
    rw [List.map_cons, List.map_cons, PyData.eqvAll, eqv_ints ns ms]
    show ((n == m) && decide (ns = ms)) = _
    by_cases h : n = m
    · subst h; simp
    · simp [h]
theorem shaped_ints (ns : List Int) : SeqAt.shaped (.list (ns.map PyData.int)) = true := by
  unfold SeqAt.shaped
  rw [PyData.canLay0, lay_ints, PyData.depth, depth_ints]; rfl
@[simp] theorem dEq_ints (ns ms : List Int) : dEq (.lst (ns.map .int)) (.lst (ms.map .int)) = .ok (.val (.bl (decide (ns = ms)))) := by
  have h : ∀ ns : List Int, (D.lst (ns.map .int)).toP = some (.list (ns.map PyData.int)) := fun ns => by rw [D.toP, toPs_ints]
  show (match (D.lst (ns.map .int)).toP, (D.lst (ms.map .int)).toP with
    | some x, some y => if SeqAt.shaped x = true ∧ SeqAt.shaped y = true then R.ok (Rs.val (.bl (PyData.eqv x y))) else R.stuck
    | _, _ => R.stuck) = _
  rw [h, h]
  dsimp only
  rw [if_pos ⟨shaped_ints _, shaped_ints _⟩, PyData.eqv, eqv_ints]
/-- == of data with itself -/
theorem dEq_self {d : D} {x : PyData} (h : d.toP = some x) (s : SeqAt.shaped x = true) : dEq d d = .ok (.val (.bl true)) := by
  have e : PyData.eqv x x = true := SeqAt.eqv_refl x (SeqAt.canLay_of_shaped s)
  unfold dEq
  split
  · simp
  · simp
  · simp
  · rw [h]; dsimp only; rw [if_pos ⟨s, s⟩, e]
/-! ### is of bools -/
@[simp] def dIsB : D → D → R Rs
  | .bl a, .bl b => .ok (.val (.bl (a == b)))
  | _, _ => R.stuck
@[simp] def dNotB : D → D → R Rs
  | .bl a, .bl b => .ok (.val (.bl (!(a == b))))
  | _, _ => R.stuck
theorem on_isB : OnlyB dIsB := fun d1 d2 => by
  unfold dIsB; split
  · exact .inr ⟨_, rfl⟩
  · exact .inl rfl
theorem on_notB : OnlyB dNotB := fun d1 d2 => by
  unfold dNotB; split
  · exact .inr ⟨_, rfl⟩
  · exact .inl rfl
theorem oB_isB {B : Bs} : OpB B rIsB dIsB := fun {σ ρ G H x y d1 d2 Q} ok p1 p2 k e q => by
  unfold dIsB at e; split at e
  · cases e
    exact ⟨_, _, p1.bl_of, p2.bl_of, by rw [← Bool.beq_eq_decide_eq]; exact q⟩
  · cases e
theorem oB_notB {B : Bs} : OpB B rNotB dNotB := fun {σ ρ G H x y d1 d2 Q} ok p1 p2 k e q => by
  unfold dNotB at e; split at e
  · cases e
    exact ⟨_, _, p1.bl_of, p2.bl_of, by rw [← Bool.beq_eq_decide_eq]; exact q⟩
  · cases e
end T
noncomputable section
namespace T
open PySem PySem.Spec PyProof.Rows L2
theorem o2_mulA {B : Bs} : Op2 B (rI CMul fun i j => .int (i * j)) (fun a b => match a, b with | .int i, .int j => dMul (.int i) (.int j) | _, _ => R.stuck) := o2_mulI
@[simp] def dMulI : D → D → R Rs
  | .int i, .int j => if MulOk i j then .ok (.val (.int (i * j))) else R.stuck
  | _, _ => R.stuck
theorem o2_mulX {B : Bs} : Op2 B (rI CMul fun i j => .int (i * j)) dMulI := by
  intro σ ρ G H x y d1 d2 Q ok p1 p2 q
  unfold dMulI at q
  split at q
  · split at q
    · rename_i h
      exact ⟨_, _, p1.int_of, p2.int_of, h, pr_val ok (.int _) q⟩
    · exact q.elim
  · exact q.elim
/-- x = y, where y is not read again: the list goes over -/
@[simp] def sMv (i j : Nat) : Sm := fun ρ => if i < ρ.length then (match ρ[j]? with
  | some (.val d) => .ok (.next, ρ.set i (.val d))
  | some (.own d) => .ok (.next, (ρ.set j .un).set i (.own d))
  | _ => R.stuck) else R.stuck
theorem Ok.drop {B : Bs} {ρ : En} {G H : Hp} {σ : L2.St} {j : Nat} (ok : Ok B ρ G σ H) : Ok B (ρ.set j .un) G σ H := by
  refine ⟨by rw [List.length_set]; exact ok.len, ok.g0, ok.gh, ok.h0, ok.nw, fun i s e => ?_, fun i k d e p h1 h2 => ?_⟩
  · rw [List.getElem?_set] at e
    split at e
    · split at e
      · cases e; exact True.intro
      · cases e
    · exact ok.sl i s e
  · have g : ∀ {i : Nat} {d : D}, (ρ.set j .un)[i]? = some (.own d) → ρ[i]? = some (.own d) := fun {i d} e => by
      rw [List.getElem?_set] at e
      split at e
      · split at e <;> cases e
      · exact e
    exact ok.ap i k d e p (g h1) (g h2)
theorem ts_mv {X : Cx} {B : Bs} {i : Nat} {x : Str} {pos pos' p3 : Pos} {y : Str} {j : Nat} (hN : X.N.Nodup) (hi : X.N[i]? = some x) (hx : Loc X.env.scope x) (he : PE X (.Name y p3) (tVar j)) (hs : swapsWith (.Name y p3) (some (.Name x pos')) pos.line X.env = pure false := by rfl) (hf : X.fn x = true ∨ X.env.scope.names.lookup x = some .local := by first | exact .inl rfl | exact .inr rfl | assumption) :
    PS X (.Assign [.Name x pos'] (.Name y p3) pos) (tS B (sMv i j)) := PS.imp (ps_set hN hi hx he hs hf) fun E σ H h => by
  obtain ⟨ρ, G, ok, h⟩ := h
  unfold sMv at h
  split at h
  · rename_i hl
    split at h
    · rename_i d e
      obtain ⟨v, e1, r⟩ := (show SlOk B G H σ[j]? (.val d) from ok.sl j _ e)
      exact ⟨v, e1, h _ G H (Same.refl _) (ok.setVal hl r)⟩
    · rename_i d e
      obtain ⟨p, e1, o⟩ := (show SlOk B G H σ[j]? (.own d) from ok.sl j _ e)
      refine ⟨_, e1, h _ G H (Same.refl _) ((ok.drop (j := j)).setOwn (by rw [List.length_set]; exact hl) o ?_)⟩
      rintro ⟨k, d', e2, e3⟩
      rw [List.getElem?_set] at e2
      split at e2
      · split at e2 <;> cases e2
      · rename_i hne
        exact hne (ok.ap _ _ _ _ _ e e2 e1 e3)
    · exact h.elim
  · exact h.elim
/-! ### a text times a number -/
theorem op_mul_strT {X : Cx} : OpR X (binaryOp .Mult) (fun x y H Q => ∃ i j, x = .str i ∧ y = .int j ∧ PySem.MulOk i j ∧ Q (.str (Txt.mul i j)) H) := by
  intro pins s σ H x y v u Q I rx ry h
  obtain ⟨i, j, rfl, rfl, hz, q⟩ := h
  obtain ⟨t, rfl⟩ := rx
  obtain ⟨t', rfl⟩ := ry
  exact SB.mul hz (fun t' tk => ⟨.str (Txt.mul i j), H, I.tok _, ⟨_, rfl⟩, q⟩)
noncomputable instance (i : Str) (j : Int) : Decidable (PySem.MulOk i j) := Classical.propDecidable _
@[simp] def dMulS : D → D → R Rs
  | .str i, .int j => if PySem.MulOk i j then .ok (.val (.str (Txt.mul i j))) else R.stuck
  | _, _ => R.stuck
theorem o2_mulS {B : Bs} : Op2 B (fun x y H Q => ∃ i j, x = .str i ∧ y = .int j ∧ PySem.MulOk i j ∧ Q (.str (Txt.mul i j)) H) dMulS := by
  intro σ ρ G H x y d1 d2 Q ok p1 p2 q
  unfold dMulS at q
  split at q
  · split at q
    · rename_i h
      exact ⟨_, _, p1.str_of, p2.int_of, h, pr_val ok (.str _) q⟩
    · exact q.elim
  · exact q.elim
theorem mulS_ok {c : Nat} {n : Int} (h0 : 0 ≤ n) (h1 : n ≤ 1000000) : PySem.MulOk ⟨#[c]⟩ n := by
  have e : (⟨#[c]⟩ : Str).length = 1 := rfl
  refine ⟨by simp; omega, fun a b => ?_, fun a b => ?_⟩
  · rw [e]
    have : (1 : Int) ≤ (2 ^ 63 - 1) / n := by
      rw [Int.le_ediv_iff_mul_le (by omega)]; omega
    omega
  · rw [e]
    have : 1 * n.toNat ≤ 1000000 := by omega
    unfold Builtin.Str.tooLong
    simp
    have hz : sizeLine = 16777216 := sizeLine_eq
    omega
theorem fold_rep (c : Nat) : ∀ (m : Nat) (a : Array Nat), ((List.replicate m #[c]).foldl (· ++ ·) a).toList = a.toList ++ List.replicate m c
  | 0, a => by simp
  | m + 1, a => by
    rw [List.replicate_succ, List.foldl_cons, fold_rep c m, List.replicate_succ, Array.toList_append, List.append_assoc]; rfl
theorem mulS_list (c : Nat) (n : Int) : (Txt.mul ⟨#[c]⟩ n).cps.toList = List.replicate n.toNat c := by
  unfold Txt.mul
  split
  · rw [show n.toNat = 0 by omega]; rfl
  · split
    · rename_i h
      have : n = 1 := by simpa [Str.length] using h
      subst this; rfl
    · show ((List.replicate n.toNat #[c]).foldl (· ++ ·) #[]).toList = _
      rw [fold_rep]; rfl
end T
/-! A third layer over HandS: an abstract store of cells; aliasing and mutation are exact. -/
namespace U
open PySem PySem.Spec PyProof.Rows L2
abbrev Wd := T.Wd

/-! ### values, cells -/
inductive A where
  | non | bl (b : Bool) | int (i : Int) | str (s : Str) | ty (n : String) | glo (x : Str)
  | tup (xs : List A) | fl (xs : List A) | scr (ns : List Int) | ob (c : Str) (fs : List (Str × A)) | exo (c : Str) (fs : List (Str × A)) | loc (n : Nat)
inductive Cell where
  | lst (xs : List A) | obj (c : Str) (fs : List (Str × A)) | dct (kvs : List (Key × A)) | dtu (kvs : List (List Key × A)) | gone
abbrev Th := List Cell
abbrev Mu := List Addr
/-- a caught exception as a thing in the heap -/
def XO (cls : Value) (d : Option Addr) (a : Addr) : HO := .ext fun h => ∃ oe, h.get? a = some oe ∧ Zc cls d oe ∧ ∃ vs, oe.data = .fields vs
mutual
inductive Rel (W : Wd) (μ : Mu) (G : Hp) : V → A → Prop
  | non : Rel W μ G .non .non
  | bl (b : Bool) : Rel W μ G (.bl b) (.bl b)
  | int (i : Int) : Rel W μ G (.int i) (.int i)
  | str (x : Str) : Rel W μ G (.str x) (.str x)
  | ty (n : String) : Rel W μ G (.ty n) (.ty n)
  | glo {x : Str} {a : Addr} : W.mg x = some (.ref a) → Rel W μ G (.ref a) (.glo x)
  | tup {a : Addr} {vs : List V} {xs : List A} : G a = some (.tup vs) → Rels W μ G vs xs → Rel W μ G (.ref a) (.tup xs)
  | fl {a : Addr} {vs : List V} {xs : List A} : G a = some (.lst vs) → Rels W μ G vs xs → Rel W μ G (.ref a) (.fl xs)
  | scr {a : Addr} {ns : List Int} : SqL W.K G a (ns.map V.int) → Rel W μ G (.ref a) (.scr ns)
  | ob {a C dx : Addr} {c : Str} {fs : List (Str × V)} {xs : List (Str × A)} : W.mg c = some (.ref C) → G a = some (.ins C dx fs) → Flds W μ G fs xs → Rel W μ G (.ref a) (.ob c xs)
  | exo0 {a C : Addr} {c : Str} : W.mg c = some (.ref C) → G a = some (XO (.ref C) none a) → Rel W μ G (.ref a) (.exo c [])
  | exo1 {a C dd : Addr} {c : Str} {vs : List (Str × V)} {fs : List (Str × A)} : W.mg c = some (.ref C) → G a = some (XO (.ref C) (some dd) a) → G dd = some (.xd vs) → Flds W μ G vs fs → Rel W μ G (.ref a) (.exo c fs)
  | loc {n : Nat} {p : Addr} : μ[n]? = some p → Rel W μ G (.ref p) (.loc n)
inductive Rels (W : Wd) (μ : Mu) (G : Hp) : List V → List A → Prop
  | nil : Rels W μ G [] []
  | cons {v : V} {vs : List V} {d : A} {ds : List A} : Rel W μ G v d → Rels W μ G vs ds → Rels W μ G (v :: vs) (d :: ds)
inductive Flds (W : Wd) (μ : Mu) (G : Hp) : List (Str × V) → List (Str × A) → Prop
  | nil : Flds W μ G [] []
  | cons {f : Str} {v : V} {vs : List (Str × V)} {d : A} {ds : List (Str × A)} : Rel W μ G v d → Flds W μ G vs ds → Flds W μ G ((f, v) :: vs) ((f, d) :: ds)
end
inductive Prs {κ : Type} (W : Wd) (μ : Mu) (G : Hp) : List (κ × V) → List (κ × A) → Prop
  | nil : Prs W μ G [] []
  | cons {k : κ} {v : V} {vs : List (κ × V)} {d : A} {ds : List (κ × A)} : Rel W μ G v d → Prs W μ G vs ds → Prs W μ G ((k, v) :: vs) ((k, d) :: ds)
/-- from one state to a later one -/
structure Nx (μ : Mu) (G : Hp) (μ' : Mu) (G' : Hp) : Prop where
  pre : ∀ (n : Nat) (p : Addr), μ[n]? = some p → μ'[n]? = some p
  same : Same G G'
theorem Nx.refl (μ : Mu) (G : Hp) : Nx μ G μ G := ⟨fun _ _ h => h, Same.refl _⟩
theorem Nx.trans {μ μ1 μ2 : Mu} {G G1 G2 : Hp} (a : Nx μ G μ1 G1) (b : Nx μ1 G1 μ2 G2) : Nx μ G μ2 G2 := ⟨fun n p h => b.pre n p (a.pre n p h), a.same.trans b.same⟩
section
variable {W : Wd} {μ μ' : Mu} {G G' : Hp}
mutual
theorem Rel.mono (h : Nx μ G μ' G') : ∀ {v : V} {d : A}, Rel W μ G v d → Rel W μ' G' v d
  | _, _, .non => .non
  | _, _, .bl b => .bl b
  | _, _, .int i => .int i
  | _, _, .str x => .str x
  | _, _, .ty n => .ty n
  | _, _, .glo e => .glo e
  | _, _, .tup e r => .tup (h.same _ _ e) (Rels.mono h r)
  | _, _, .fl e r => .fl (h.same _ _ e) (Rels.mono h r)
  | _, _, .scr e => .scr (h.same.seq e)
  | _, _, .ob m e r => .ob m (h.same _ _ e) (Flds.mono h r)
  | _, _, .exo0 m e => .exo0 m (h.same _ _ e)
  | _, _, .exo1 m e e2 r => .exo1 m (h.same _ _ e) (h.same _ _ e2) (Flds.mono h r)
  | _, _, .loc e => .loc (h.pre _ _ e)
theorem Rels.mono (h : Nx μ G μ' G') : ∀ {vs : List V} {ds : List A}, Rels W μ G vs ds → Rels W μ' G' vs ds
  | _, _, .nil => .nil
  | _, _, .cons r t => .cons (Rel.mono h r) (Rels.mono h t)
theorem Flds.mono (h : Nx μ G μ' G') : ∀ {vs : List (Str × V)} {ds : List (Str × A)}, Flds W μ G vs ds → Flds W μ' G' vs ds
  | _, _, .nil => .nil
  | _, _, .cons r t => .cons (Rel.mono h r) (Flds.mono h t)
end
theorem Prs.mono {κ : Type} (h : Nx μ G μ' G') : ∀ {vs : List (κ × V)} {ds : List (κ × A)}, Prs W μ G vs ds → Prs W μ' G' vs ds
  | _, _, .nil => .nil
  | _, _, .cons r t => .cons (r.mono h) (Prs.mono h t)
theorem Rels.length : ∀ {vs : List V} {ds : List A}, Rels W μ G vs ds → vs.length = ds.length
  | _, _, .nil => rfl
  | _, _, .cons _ t => congrArg (· + 1) t.length
theorem Rels.get : ∀ {vs : List V} {ds : List A} {i : Nat} {d : A}, Rels W μ G vs ds → ds[i]? = some d → ∃ v, vs[i]? = some v ∧ Rel W μ G v d
  | _, _, i, _, .nil, h => by simp at h
  | _, _, 0, _, .cons r _, h => by simp at h; subst h; exact ⟨_, rfl, r⟩
  | _, _, i + 1, _, .cons _ t, h => by simpa using Rels.get (i := i) t (by simpa using h)
theorem Rels.getV : ∀ {vs : List V} {ds : List A} {i : Nat} {v : V}, Rels W μ G vs ds → vs[i]? = some v → ∃ d, ds[i]? = some d ∧ Rel W μ G v d
  | _, _, i, _, .nil, h => by simp at h
  | _, _, 0, _, .cons r _, h => by simp at h; subst h; exact ⟨_, rfl, r⟩
  | _, _, i + 1, _, .cons _ t, h => by simpa using Rels.getV (i := i) t (by simpa using h)
theorem Rels.append : ∀ {vs ws : List V} {ds es : List A}, Rels W μ G vs ds → Rels W μ G ws es → Rels W μ G (vs ++ ws) (ds ++ es)
  | _, _, _, _, .nil, s => s
  | _, _, _, _, .cons r t, s => .cons r (Rels.append t s)
theorem Rels.take : ∀ {vs : List V} {ds : List A} (n : Nat), Rels W μ G vs ds → Rels W μ G (vs.take n) (ds.take n)
  | _, _, 0, _ => .nil
  | _, _, _ + 1, .nil => .nil
  | _, _, n + 1, .cons r t => .cons r (Rels.take n t)
theorem Rels.drop : ∀ {vs : List V} {ds : List A} (n : Nat), Rels W μ G vs ds → Rels W μ G (vs.drop n) (ds.drop n)
  | _, _, 0, r => r
  | _, _, _ + 1, .nil => .nil
  | _, _, n + 1, .cons _ t => Rels.drop n t
theorem Rels.set : ∀ {vs : List V} {ds : List A} {v : V} {d : A} (n : Nat), Rel W μ G v d → Rels W μ G vs ds → Rels W μ G (vs.set n v) (ds.set n d)
  | _, _, _, _, _, _, .nil => .nil
  | _, _, _, _, 0, q, .cons _ t => .cons q t
  | _, _, _, _, n + 1, q, .cons r t => .cons r (Rels.set n q t)
theorem Rels.reverse : ∀ {vs : List V} {ds : List A}, Rels W μ G vs ds → Rels W μ G vs.reverse ds.reverse
  | _, _, .nil => .nil
  | _, _, .cons r t => by
    rw [List.reverse_cons, List.reverse_cons]
    exact (Rels.reverse t).append (.cons r .nil)
theorem Rels.dropLast {vs : List V} {ds : List A} (r : Rels W μ G vs ds) : Rels W μ G vs.dropLast ds.dropLast := by
  rw [List.dropLast_eq_take, List.dropLast_eq_take, r.length]
  exact r.take _
theorem Rels.eraseIdx : ∀ {vs : List V} {ds : List A} (n : Nat), Rels W μ G vs ds → Rels W μ G (vs.eraseIdx n) (ds.eraseIdx n)
  | _, _, _, .nil => .nil
  | _, _, 0, .cons _ t => t
  | _, _, n + 1, .cons r t => .cons r (Rels.eraseIdx n t)
theorem Rels.insertIdx : ∀ {vs : List V} {ds : List A} {v : V} {d : A} (n : Nat), Rel W μ G v d → Rels W μ G vs ds → Rels W μ G (vs.insertIdx n v) (ds.insertIdx n d)
  | _, _, _, _, 0, q, r => .cons q r
  | _, _, _, _, n + 1, q, .nil => .nil
  | _, _, _, _, n + 1, q, .cons r t => .cons r (Rels.insertIdx n q t)
theorem Rels.ints : ∀ (ns : List Int), Rels W μ G (ns.map V.int) (ns.map A.int)
  | [] => .nil
  | n :: ns => .cons (.int n) (Rels.ints ns)
theorem Rels.rep {v : V} {d : A} (r : Rel W μ G v d) : ∀ n : Nat, Rels W μ G (List.replicate n v) (List.replicate n d)
  | 0 => .nil
  | n + 1 => .cons r (Rels.rep r n)
theorem Rels.flatRep {vs : List V} {ds : List A} (r : Rels W μ G vs ds) : ∀ n : Nat, Rels W μ G (List.replicate n vs).flatten (List.replicate n ds).flatten
  | 0 => .nil
  | n + 1 => by
    rw [List.replicate_succ, List.replicate_succ, List.flatten_cons, List.flatten_cons]
    exact r.append (Rels.flatRep r n)
theorem Flds.lookup {f : Str} : ∀ {vs : List (Str × V)} {ds : List (Str × A)}, Flds W μ G vs ds → (∀ d, ds.lookup f = some d → ∃ v, vs.lookup f = some v ∧ Rel W μ G v d) ∧ (ds.lookup f = none → vs.lookup f = none)
  | _, _, .nil => ⟨fun _ h => (by cases h), fun _ => rfl⟩
  | _, _, .cons (f := g) (v := v) (d := d) (vs := vs) (ds := ds) r t => by
    have ih := Flds.lookup (f := f) t
    rw [List.lookup_cons, List.lookup_cons]
    cases f == g with
    | true => exact ⟨fun e h => (by cases h; exact ⟨v, rfl, r⟩), fun h => (by cases h)⟩
    | false => exact ih
end

/-! ### the store and the heap -/
def Cont (W : Wd) (μ : Mu) (G : Hp) (o : HO) : Cell → Prop
  | .lst xs => ∃ vs, o = .lst vs ∧ Rels W μ G vs xs
  | .obj c fs => ∃ C dx vs, W.mg c = some (.ref C) ∧ o = .ins C dx vs ∧ Flds W μ G vs fs
  | .dct kvs => ∃ vs, o = .dK vs ∧ Prs W μ G vs kvs
  | .dtu kvs => ∃ vs, o = .dT vs ∧ Prs W μ G vs kvs
  | .gone => True
theorem Cont.mono {W : Wd} {μ μ' : Mu} {G G' : Hp} (h : Nx μ G μ' G') {o : HO} : ∀ {c : Cell}, Cont W μ G o c → Cont W μ' G' o c
  | .lst xs, ⟨vs, e, r⟩ => ⟨vs, e, r.mono h⟩
  | .obj c fs, ⟨C, dx, vs, m, e, r⟩ => ⟨C, dx, vs, m, e, r.mono h⟩
  | .dct kvs, ⟨vs, e, r⟩ => ⟨vs, e, r.mono h⟩
  | .dtu kvs, ⟨vs, e, r⟩ => ⟨vs, e, r.mono h⟩
  | .gone, _ => True.intro
structure Sim (W : Wd) (μ : Mu) (G : Hp) (Θ : Th) (H : Hp) : Prop where
  len : μ.length = Θ.length
  gh : Same G H
  cell : ∀ (n : Nat) p c, μ[n]? = some p → Θ[n]? = some c → c ≠ .gone → ∃ o, H p = some o ∧ Cont W μ G o c
  off : ∀ (n : Nat) p c, μ[n]? = some p → Θ[n]? = some c → c ≠ .gone → G p = none
  inj : ∀ (i j : Nat) p c d, μ[i]? = some p → μ[j]? = some p → Θ[i]? = some c → Θ[j]? = some d → c ≠ .gone → d ≠ .gone → i = j
section
variable {W : Wd} {μ μ' : Mu} {G G' : Hp} {Θ : Th} {H : Hp}
theorem Sim.at (s : Sim W μ G Θ H) {n : Nat} {c : Cell} (e : Θ[n]? = some c) : ∃ p, μ[n]? = some p := by
  have := (List.getElem?_eq_some_iff.mp e).1
  exact ⟨_, List.getElem?_eq_getElem (s.len ▸ this)⟩
theorem same_new {p : Addr} {o : HO} (hp : H p = none) : Same H (upd H p o) := fun b u e => by rw [upd_ne (ne_of_none e hp)]; exact e
/-- something new in the heap that is no cell -/
theorem Sim.more (s : Sim W μ G Θ H) {p : Addr} {o : HO} (hp : H p = none) : Sim W μ G Θ (upd H p o) :=
  ⟨s.len, s.gh.trans (same_new hp), fun n q c e1 e2 e3 => by obtain ⟨u, h1, h2⟩ := s.cell n q c e1 e2 e3; exact ⟨u, same_new hp _ _ h1, h2⟩, s.off, s.inj⟩
theorem nx_push {p : Addr} : Nx μ G (μ ++ [p]) G := ⟨fun n q e => by rw [List.getElem?_append_left (List.getElem?_eq_some_iff.mp e).1]; exact e, Same.refl _⟩
/-- a new cell -/
theorem Sim.push (s : Sim W μ G Θ H) {p : Addr} {o : HO} {c : Cell} (hp : H p = none) (hc : Cont W μ G o c) : Sim W (μ ++ [p]) G (Θ ++ [c]) (upd H p o) := by
  have gp : G p = none := Same.free s.gh hp
  have mu : ∀ {n : Nat} {q : Addr}, (μ ++ [p])[n]? = some q → μ[n]? = some q ∨ (n = μ.length ∧ q = p) := fun {n q} e => by
    rw [List.getElem?_append] at e
    split at e
    · exact .inl e
    · rename_i h
      rw [List.getElem?_singleton] at e
      split at e
      · cases e; exact .inr ⟨by omega, rfl⟩
      · cases e
  have th : ∀ {n : Nat} {d : Cell}, (Θ ++ [c])[n]? = some d → n ≠ μ.length → Θ[n]? = some d := fun {n d} e h => by
    rw [List.getElem?_append] at e
    split at e
    · exact e
    · rename_i h2
      rw [List.getElem?_singleton] at e
      split at e
      · rename_i h3; exact (h (by rw [s.len]; omega)).elim
      · cases e
  have lt : ∀ {n : Nat} {q : Addr}, μ[n]? = some q → n ≠ μ.length := fun {n q} e z => by
    have := (List.getElem?_eq_some_iff.mp e).1
    omega
  have last : ∀ {d : Cell}, (Θ ++ [c])[μ.length]? = some d → d = c := fun {d} e => by
    rw [s.len, List.getElem?_append_right (Nat.le_refl _), Nat.sub_self] at e
    cases e; rfl
  refine ⟨by rw [List.length_append, List.length_append, s.len]; rfl, s.gh.trans (same_new hp), fun n q d e1 e2 e3 => ?_, fun n q d e1 e2 e3 => ?_, fun i j q d d' e1 e2 e3 e4 e5 e6 => ?_⟩
  · rcases mu e1 with h | ⟨rfl, rfl⟩
    · obtain ⟨u, h1, h2⟩ := s.cell n q d h (th e2 (lt h)) e3
      exact ⟨u, same_new hp _ _ h1, h2.mono nx_push⟩
    · cases last e2
      exact ⟨o, upd_same, hc.mono nx_push⟩
  · rcases mu e1 with h | ⟨rfl, rfl⟩
    · exact s.off n q d h (th e2 (lt h)) e3
    · exact gp
  · rcases mu e1 with h | ⟨rfl, rfl⟩
    · rcases mu e2 with h' | ⟨rfl, rfl⟩
      · exact s.inj i j q d d' h h' (th e3 (lt h)) (th e4 (lt h')) e5 e6
      · obtain ⟨u, h1, _⟩ := s.cell i q d h (th e3 (lt h)) e5
        rw [hp] at h1; cases h1
    · rcases mu e2 with h' | ⟨rfl, _⟩
      · obtain ⟨u, h1, _⟩ := s.cell j q d' h' (th e4 (lt h')) e6
        rw [hp] at h1; cases h1
      · rfl
/-- a new frozen thing -/
theorem Sim.lay (s : Sim W μ G Θ H) {p : Addr} {o : HO} (hp : H p = none) : Sim W μ (upd G p o) Θ (upd H p o) ∧ Nx μ G μ (upd G p o) := by
  have gp : G p = none := Same.free s.gh hp
  have nx : Nx μ G μ (upd G p o) := ⟨fun _ _ h => h, same_new gp⟩
  refine ⟨⟨s.len, fun a u e => ?_, fun n q c e1 e2 e3 => ?_, fun n q c e1 e2 e3 => ?_, s.inj⟩, nx⟩
  · by_cases z : a = p
    · subst z; rw [upd_same] at e ⊢; exact e
    · rw [upd_ne z] at e ⊢; exact s.gh a u e
  · obtain ⟨u, h1, h2⟩ := s.cell n q c e1 e2 e3
    exact ⟨u, same_new hp _ _ h1, h2.mono nx⟩
  · obtain ⟨u, h1, h2⟩ := s.cell n q c e1 e2 e3
    rw [upd_ne (ne_of_none h1 hp)]
    exact s.off n q c e1 e2 e3
/-- a cell changed -/
theorem Sim.set (s : Sim W μ G Θ H) {n : Nat} {p : Addr} {c d : Cell} {o : HO} (e1 : μ[n]? = some p) (e2 : Θ[n]? = some c) (hc : c ≠ .gone) (hd : Cont W μ G o d) : Sim W μ G (Θ.set n d) (upd H p o) := by
  have hn : n < Θ.length := (List.getElem?_eq_some_iff.mp e2).1
  have st : ∀ {i : Nat} {x : Cell}, (Θ.set n d)[i]? = some x → (i = n ∧ x = d) ∨ (i ≠ n ∧ Θ[i]? = some x) := fun {i x} e => by
    by_cases h : i = n
    · subst h; rw [List.getElem?_set_self hn] at e; cases e; exact .inl ⟨rfl, rfl⟩
    · rw [List.getElem?_set_ne (fun z => h z.symm)] at e; exact .inr ⟨h, e⟩
  have gp := s.off n p c e1 e2 hc
  refine ⟨by rw [List.length_set]; exact s.len, fun a u e => ?_, fun i q x h1 h2 h3 => ?_, fun i q x h1 h2 h3 => ?_, fun i j q x y h1 h2 h3 h4 h5 h6 => ?_⟩
  · rw [upd_ne (ne_of_none e gp)]; exact s.gh a u e
  · rcases st h2 with ⟨rfl, rfl⟩ | ⟨ne, h2⟩
    · rw [e1] at h1; cases h1; exact ⟨o, upd_same, hd⟩
    · obtain ⟨u, z1, z2⟩ := s.cell i q x h1 h2 h3
      refine ⟨u, ?_, z2⟩
      rw [upd_ne]
      · exact z1
      · rintro rfl
        exact ne (s.inj i n q x c h1 e1 h2 e2 h3 hc)
  · rcases st h2 with ⟨rfl, rfl⟩ | ⟨ne, h2⟩
    · rw [e1] at h1; cases h1; exact gp
    · exact s.off i q x h1 h2 h3
  · rcases st h3 with ⟨k1, _⟩ | ⟨_, k3⟩
    · rcases st h4 with ⟨k2, _⟩ | ⟨_, k4⟩
      · rw [k1, k2]
      · rw [k1] at h1 ⊢; exact s.inj n j q c y h1 h2 e2 k4 hc h6
    · rcases st h4 with ⟨k2, _⟩ | ⟨_, k4⟩
      · rw [k2] at h2 ⊢; exact s.inj i n q x c h1 h2 k3 e2 h5 hc
      · exact s.inj i j q x y h1 h2 k3 k4 h5 h6
/-- a cell frozen -/
theorem Sim.freeze (s : Sim W μ G Θ H) {n : Nat} {p : Addr} {c : Cell} {o : HO} (e1 : μ[n]? = some p) (e2 : Θ[n]? = some c) (hc : c ≠ .gone) (ho : H p = some o) : Sim W μ (upd G p o) (Θ.set n .gone) H ∧ Nx μ G μ (upd G p o) := by
  have gp := s.off n p c e1 e2 hc
  have nx : Nx μ G μ (upd G p o) := ⟨fun _ _ h => h, same_new gp⟩
  have st : ∀ {i : Nat} {x : Cell}, (Θ.set n .gone)[i]? = some x → x ≠ .gone → i ≠ n ∧ Θ[i]? = some x := fun {i x} e h => by
    rw [List.getElem?_set] at e
    split at e
    · split at e
      · cases e; exact (h rfl).elim
      · cases e
    · rename_i h; exact ⟨fun z => h z.symm, e⟩
  refine ⟨⟨by rw [List.length_set]; exact s.len, fun a u e => ?_, fun i q x h1 h2 h3 => ?_, fun i q x h1 h2 h3 => ?_, fun i j q x y h1 h2 h3 h4 h5 h6 => s.inj i j q x y h1 h2 (st h3 h5).2 (st h4 h6).2 h5 h6⟩, nx⟩
  · by_cases z : a = p
    · subst z; rw [upd_same] at e; cases e; exact ho
    · rw [upd_ne z] at e; exact s.gh a u e
  · obtain ⟨u, z1, z2⟩ := s.cell i q x h1 (st h2 h3).2 h3
    exact ⟨u, z1, z2.mono nx⟩
  · rw [upd_ne]
    · exact s.off i q x h1 (st h2 h3).2 h3
    · rintro rfl
      exact (st h2 h3).1 (s.inj i n q x c h1 e1 (st h2 h3).2 e2 h3 hc)
end
end U
namespace U
open PySem PySem.Spec PyProof.Rows L2
open T (PE.imp PT.imp PW.imp PA.imp PS.imp PSs.imp)

/-! ### runs -/
inductive R (α : Type) where
  | ok (a : α) (Θ : Th) | exc (c : Str) (fs : List (Str × A)) (Θ : Th) | stuck
def R.bind {α β : Type} (x : R α) (f : α → Th → R β) : R β := match x with
  | .ok a Θ => f a Θ
  | .exc c fs Θ => .exc c fs Θ
  | .stuck => .stuck
@[simp] theorem R.bind_ok {α β : Type} {a : α} {Θ : Th} {f : α → Th → R β} : (R.ok a Θ).bind f = f a Θ := rfl
@[simp] theorem R.bind_exc {α β : Type} {c : Str} {fs : List (Str × A)} {Θ : Th} {f : α → Th → R β} : (R.exc c fs Θ).bind f = .exc c fs Θ := rfl
@[simp] theorem R.bind_stuck {α β : Type} {f : α → Th → R β} : (R.stuck : R α).bind f = .stuck := rfl
abbrev Rho := List (Option A)
abbrev M (α : Type) := Rho → Th → R α
structure Bs where
  W : Wd
  E : L2.St → Mu → Hp → Str → List (Str × A) → Th → Hp → Prop
structure Ok (B : Bs) (ρ : Rho) (μ : Mu) (G : Hp) (σ : L2.St) (Θ : Th) (H : Hp) : Prop where
  len : ρ.length = σ.length
  sl : ∀ (i : Nat) a, ρ[i]? = some (some a) → ∃ v, σ[i]? = some (some v) ∧ Rel B.W μ G v a
  sim : Sim B.W μ G Θ H
theorem Ok.to {B : Bs} {ρ : Rho} {μ μ' : Mu} {G G' : Hp} {σ : L2.St} {Θ Θ' : Th} {H H' : Hp} (ok : Ok B ρ μ G σ Θ H) (n : Nx μ G μ' G') (s : Sim B.W μ' G' Θ' H') : Ok B ρ μ' G' σ Θ' H' :=
  ⟨ok.len, fun i a e => by obtain ⟨v, e1, r⟩ := ok.sl i a e; exact ⟨v, e1, r.mono n⟩, s⟩
def PX {α β : Type} (rel : Mu → Hp → β → α → Prop) (B : Bs) (σ : L2.St) (μ : Mu) (G : Hp) (Q : β → Hp → Prop) : R α → Prop
  | .ok a Θ' => ∀ b μ' G' H', Nx μ G μ' G' → Sim B.W μ' G' Θ' H' → rel μ' G' b a → Q b H'
  | .exc c fs Θ' => ∀ μ' G' H', Nx μ G μ' G' → Sim B.W μ' G' Θ' H' → B.E σ μ' G' c fs Θ' H'
  | .stuck => False
def uX {α β : Type} (rel : Mu → Hp → β → α → Prop) (B : Bs) (m : M α) (σ : L2.St) (H : Hp) (Q : β → Hp → Prop) : Prop := ∃ ρ μ G Θ, Ok B ρ μ G σ Θ H ∧ PX rel B σ μ G Q (m ρ Θ)
abbrev relB : Mu → Hp → Bool → Bool → Prop := fun _ _ b a => b = a
abbrev uR (B : Bs) (m : M A) : TE := uX (Rel B.W) B m
abbrev uT (B : Bs) (m : M Bool) : TT := uX relB B m
abbrev uA (B : Bs) (m : M (List A)) : TA := uX (Rels B.W) B m
section
variable {α β γ δ : Type} {rel : Mu → Hp → β → α → Prop} {rel2 : Mu → Hp → δ → γ → Prop} {B : Bs} {ρ : Rho} {μ μ1 : Mu} {G G1 : Hp} {σ : L2.St} {Θ : Th} {H : Hp}
theorem PX.mono (n : Nx μ G μ1 G1) {Q : β → Hp → Prop} {x : R α} (h : PX rel B σ μ G Q x) : PX rel B σ μ1 G1 Q x := by
  cases x with
  | ok a Θ' => exact fun b μ' G' H' m s r => h b μ' G' H' (n.trans m) s r
  | exc c fs Θ' => exact fun μ' G' H' m s => h μ' G' H' (n.trans m) s
  | stuck => exact h
theorem uX.mono {m : M α} {Q Q' : β → Hp → Prop} (h : uX rel B m σ H Q) (w : ∀ b H', Q b H' → Q' b H') : uX rel B m σ H Q' := by
  obtain ⟨ρ, μ, G, Θ, ok, h⟩ := h
  refine ⟨ρ, μ, G, Θ, ok, ?_⟩
  cases e : m ρ Θ with
  | ok a Θ' => rw [e] at h; exact fun b μ' G' H' n s r => w _ _ (h b μ' G' H' n s r)
  | exc c fs Θ' => rw [e] at h; exact h
  | stuck => rw [e] at h; exact h
/-- THE BIND -/
theorem bnd {m : M α} {f : α → Th → R γ} {Q : δ → Hp → Prop} (ok : Ok B ρ μ G σ Θ H) (h : PX rel2 B σ μ G Q ((m ρ Θ).bind f)) :
    uX rel B m σ H fun b H1 => ∃ a μ1 G1 Θ1, Nx μ G μ1 G1 ∧ Ok B ρ μ1 G1 σ Θ1 H1 ∧ rel μ1 G1 b a ∧ PX rel2 B σ μ1 G1 Q (f a Θ1) := by
  refine ⟨ρ, μ, G, Θ, ok, ?_⟩
  cases e : m ρ Θ with
  | ok a Θ' => rw [e] at h; exact fun b μ' G' H' n s r => ⟨a, μ', G', Θ', n, ok.to n s, r, PX.mono n h⟩
  | exc c fs Θ' => rw [e] at h; exact h
  | stuck => rw [e] at h; exact h
theorem px_ok {Q : β → Hp → Prop} {a : α} {b : β} (s : Sim B.W μ G Θ H) (r : rel μ G b a) (h : PX rel B σ μ G Q (.ok a Θ)) : Q b H := h b μ G H (Nx.refl _ _) s r
end
@[simp] def alloc (c : Cell) (Θ : Th) : R A := .ok (.loc Θ.length) (Θ ++ [c])
section
variable {B : Bs} {ρ : Rho} {μ : Mu} {G : Hp} {σ : L2.St} {Θ : Th} {H : Hp} {Q : VK}
theorem px_new (s : Sim B.W μ G Θ H) {c : Cell} {o : HO} (hc : Cont B.W μ G o c) (h : PX (Rel B.W) B σ μ G Q (alloc c Θ)) : ∀ p, H p = none → Q (.ref p) (upd H p o) := fun p hp =>
  h _ (μ ++ [p]) G _ nx_push (s.push hp hc) (.loc (by rw [← s.len, List.getElem?_append_right (Nat.le_refl _), Nat.sub_self]; rfl))
theorem px_tup (s : Sim B.W μ G Θ H) {vs : List V} {xs : List A} (r : Rels B.W μ G vs xs) (h : PX (Rel B.W) B σ μ G Q (.ok (.tup xs) Θ)) : ∀ p, H p = none → Q (.ref p) (upd H p (.tup vs)) := fun p hp => by
  obtain ⟨s', n⟩ := s.lay (o := .tup vs) hp
  exact h _ μ _ _ n s' (.tup upd_same (r.mono n))
end
/-- the list that a value is -/
def lstOf (Θ : Th) : A → Option (List A)
  | .loc n => match Θ[n]? with | some (.lst xs) => some xs | _ => none
  | .fl xs => some xs
  | .scr ns => some (ns.map .int)
  | _ => none
/-- the items of a list or a tuple -/
def seqOf (Θ : Th) : A → Option (List A)
  | .tup xs => some xs
  | a => lstOf Θ a
@[simp] theorem lstOf_fl (Θ : Th) (xs : List A) : lstOf Θ (.fl xs) = some xs := rfl
@[simp] theorem lstOf_scr (Θ : Th) (ns : List Int) : lstOf Θ (.scr ns) = some (ns.map .int) := rfl
@[simp] theorem lstOf_loc (Θ : Th) (n : Nat) : lstOf Θ (.loc n) = (match Θ[n]? with | some (.lst xs) => some xs | _ => none) := rfl
@[simp] theorem lstOf_tup (Θ : Th) (xs : List A) : lstOf Θ (.tup xs) = none := rfl
@[simp] theorem lstOf_int (Θ : Th) (i : Int) : lstOf Θ (.int i) = none := rfl
@[simp] theorem lstOf_str (Θ : Th) (i : Str) : lstOf Θ (.str i) = none := rfl
@[simp] theorem lstOf_non (Θ : Th) : lstOf Θ .non = none := rfl
@[simp] theorem seqOf_tup (Θ : Th) (xs : List A) : seqOf Θ (.tup xs) = some xs := rfl
@[simp] theorem seqOf_fl (Θ : Th) (xs : List A) : seqOf Θ (.fl xs) = some xs := rfl
@[simp] theorem seqOf_scr (Θ : Th) (ns : List Int) : seqOf Θ (.scr ns) = some (ns.map .int) := rfl
@[simp] theorem seqOf_loc (Θ : Th) (n : Nat) : seqOf Θ (.loc n) = (match Θ[n]? with | some (.lst xs) => some xs | _ => none) := rfl
theorem seqOf_lst {Θ : Th} {a : A} {xs : List A} (h : lstOf Θ a = some xs) : seqOf Θ a = some xs := by
  cases a <;> first | exact h | cases h
section
variable {W : Wd} {μ : Mu} {G : Hp} {Θ : Th} {H : Hp} {v : V} {a : A} {xs : List A}
theorem lst_of (s : Sim W μ G Θ H) (r : Rel W μ G v a) (e : lstOf Θ a = some xs) : ∃ p vs, v = .ref p ∧ SqL W.K H p vs ∧ Rels W μ G vs xs := by
  cases r with
  | loc h =>
    rename_i n p
    unfold lstOf at e
    dsimp only at e
    split at e
    · rename_i ys q
      cases e
      obtain ⟨o, h1, vs, rfl, h2⟩ := s.cell n p _ h q (by intro z; cases z)
      exact ⟨p, vs, rfl, SqL.of h1, h2⟩
    · cases e
  | fl h r => cases e; exact ⟨_, _, rfl, SqL.of (s.gh _ _ h), r⟩
  | scr h => cases e; exact ⟨_, _, rfl, s.gh.seq h, Rels.ints _⟩
  | _ => cases e
theorem seq_of (s : Sim W μ G Θ H) (r : Rel W μ G v a) (e : seqOf Θ a = some xs) : ∃ p vs, v = .ref p ∧ (SqL W.K H p vs ∨ SqT W.K H p vs) ∧ Rels W μ G vs xs := by
  cases r with
  | tup h r => cases e; exact ⟨_, _, rfl, .inr (SqT.of (s.gh _ _ h)), r⟩
  | loc h => obtain ⟨p, vs, h1, h2, h3⟩ := lst_of s (.loc h) e; exact ⟨p, vs, h1, .inl h2, h3⟩
  | fl h r => obtain ⟨p, vs, h1, h2, h3⟩ := lst_of s (.fl h r) e; exact ⟨p, vs, h1, .inl h2, h3⟩
  | scr h => obtain ⟨p, vs, h1, h2, h3⟩ := lst_of s (.scr h) e; exact ⟨p, vs, h1, .inl h2, h3⟩
  | _ => cases e
end

/-! ### names, constants, two operands -/
@[simp] def eLoc (i : Nat) : M A := fun ρ Θ => match ρ[i]? with
  | some (some a) => .ok a Θ
  | _ => .stuck
@[simp] def eC (d : A) : M A := fun _ Θ => .ok d Θ
@[simp] def eBin (f : A → A → Th → R A) (a b : M A) : M A := fun ρ Θ => (a ρ Θ).bind fun x Θ1 => (b ρ Θ1).bind fun y Θ2 => f x y Θ2
def Op2 (B : Bs) (r : R2) (f : A → A → Th → R A) : Prop := ∀ {σ μ G Θ H x y a b} {Q : VK}, Sim B.W μ G Θ H → Rel B.W μ G x a → Rel B.W μ G y b → PX (Rel B.W) B σ μ G Q (f a b Θ) → r x y H Q
section
variable {X : Cx} {B : Bs} {ma mb mc : M A} {a b c : Expr} {pos : Pos} {r r' : R2} {f f' : A → A → Th → R A} {σ : L2.St} {H : Hp} {Q : VK}
theorem te_loc (i : Nat) {x : Str} {pos : Pos} (h : PE X (.Name x pos) (tVar i)) : PE X (.Name x pos) (uR B (eLoc i)) := PE.imp h fun σ H Q h => by
  obtain ⟨ρ, μ, G, Θ, ok, h⟩ := h
  unfold eLoc at h
  split at h
  · rename_i d e
    obtain ⟨v, e1, r⟩ := ok.sl i d e
    exact ⟨v, e1, px_ok ok.sim r h⟩
  · exact h.elim
theorem te_c {e : Expr} {v : V} {d : A} (h : PE X e (tC v)) (r : ∀ μ G, Rel B.W μ G v d) : PE X e (uR B (eC d)) := PE.imp h fun σ H Q h => by
  obtain ⟨ρ, μ, G, Θ, ok, h⟩ := h
  exact px_ok ok.sim (r μ G) h
theorem te_int {i j pos} : PE X (.Constant (.int i) j pos) (uR B (eC (.int i))) := te_c pe_int fun _ _ => .int i
theorem te_str {i j pos} : PE X (.Constant (.str i) j pos) (uR B (eC (.str i))) := te_c pe_str fun _ _ => .str i
theorem te_bl {i j pos} : PE X (.Constant (.bool i) j pos) (uR B (eC (.bl i))) := te_c pe_bl fun _ _ => .bl i
theorem te_non {j pos} : PE X (.Constant .none j pos) (uR B (eC .non)) := te_c pe_non fun _ _ => .non
theorem bin_read (hf : Op2 B r f) (h : uR B (eBin f ma mb) σ H Q) : tOp r (uR B ma) (uR B mb) σ H Q := by
  obtain ⟨ρ, μ, G, Θ, ok, h⟩ := h
  refine (bnd ok h).mono fun x H1 ⟨a1, μ1, G1, Θ1, n1, ok1, r1, h1⟩ => ?_
  refine (bnd ok1 h1).mono fun y H2 ⟨a2, μ2, G2, Θ2, n2, ok2, r2, h2⟩ => ?_
  exact hf ok2.sim (r1.mono n2) r2 h2
theorem te_bin {op : Operator} (ho : OpR X (binaryOp op) r) (hf : Op2 B r f) (ha : PE X a (uR B ma)) (hb : PE X b (uR B mb)) : PE X (.BinOp a op b pos) (uR B (eBin f ma mb)) :=
  PE.imp (pe_op ho ha hb) fun _ _ _ h => bin_read hf h
theorem te_cmp {op : CmpOp} (ho : OpR X (compareOp op) r) (hf : Op2 B r f) (ha : PE X a (uR B ma)) (hb : PE X b (uR B mb)) (hm : behindInMarks op b = false) : PE X (.Compare a [op] [b] pos) (uR B (eBin f ma mb)) :=
  PE.imp (pe_cmpR ho ha hb hm) fun _ _ _ h => bin_read hf h
@[simp] def asB (a : A) (Θ : Th) : R Bool := match a with
  | .bl b => .ok b Θ
  | _ => .stuck
@[simp] def tOf (m : M A) : M Bool := fun ρ Θ => (m ρ Θ).bind asB
theorem tst_read {m : M A} {Q : Bool → Hp → Prop} (h : uT B (tOf m) σ H Q) : uR B m σ H fun x H1 => ∃ k, x = .bl k ∧ Q k H1 := by
  obtain ⟨ρ, μ, G, Θ, ok, h⟩ := h
  refine (bnd ok h).mono fun x H1 ⟨a1, μ1, G1, Θ1, n1, ok1, r1, h1⟩ => ?_
  unfold asB at h1
  split at h1
  · cases r1; exact ⟨_, rfl, px_ok ok1.sim rfl h1⟩
  · exact h1.elim
theorem tt_cmp {op : CmpOp} (ho : OpR X (compareOp op) r) (hf : Op2 B r f) (ha : PE X a (uR B ma)) (hb : PE X b (uR B mb)) (hm : behindInMarks op b = false) : PT X (.Compare a [op] [b] pos) (uT B (tOf (eBin f ma mb))) :=
  PT.imp (pt_cmpR ho ha hb hm) fun σ H Q h => bin_read (Q := fun x H' => ∃ k, x = .bl k ∧ Q k H') hf (tst_read h)
theorem tt_val (ha : PE X a (uR B ma)) (he : ∀ whole, isTrue a X.env whole = (do let v ← whole; standAt a.pos; holding [v] (truthy v)) := by intro _; rfl) : PT X a (uT B (tOf ma)) :=
  PT.imp (pt_val ha he) fun σ H Q h => tst_read h
/-- a op b op' c -/
@[simp] def eChain (f f' : A → A → Th → R A) (a b c : M A) : M A := fun ρ Θ => (a ρ Θ).bind fun x Θ1 => (b ρ Θ1).bind fun y Θ2 => (f x y Θ2).bind fun r Θ3 => match r with
  | .bl true => (c ρ Θ3).bind fun z Θ4 => f' y z Θ4
  | .bl false => .ok (.bl false) Θ3
  | _ => .stuck
/-- a comparison's answer -/
def OpB (B : Bs) (r : R2) (f : A → A → Th → R A) : Prop := ∀ {μ G Θ H x y a b} {Q : VK}, Sim B.W μ G Θ H → Rel B.W μ G x a → Rel B.W μ G y b → ∀ k, f a b Θ = .ok (.bl k) Θ → Q (.bl k) H → r x y H Q
def OnlyB (f : A → A → Th → R A) : Prop := ∀ a b Θ, f a b Θ = .stuck ∨ ∃ k, f a b Θ = .ok (.bl k) Θ
theorem OpB.op2 (h : OpB B r f) (o : OnlyB f) : Op2 B r f := by
  intro σ μ G Θ H x y a b Q s p1 p2 q
  rcases o a b Θ with e | ⟨k, e⟩
  · rw [e] at q; exact q.elim
  · rw [e] at q
    exact h s p1 p2 k e (px_ok s (.bl k) q)
theorem chain_read (h1 : OpB B r f) (o1 : OnlyB f) (h2 : Op2 B r' f') (h : uR B (eChain f f' ma mb mc) σ H Q) : tChain r r' (uR B ma) (uR B mb) (uR B mc) σ H Q := by
  obtain ⟨ρ, μ, G, Θ, ok, h⟩ := h
  refine (bnd ok h).mono fun x H1 ⟨a1, μ1, G1, Θ1, n1, ok1, r1, h⟩ => ?_
  refine (bnd ok1 h).mono fun y H2 ⟨a2, μ2, G2, Θ2, n2, ok2, r2, h⟩ => ?_
  rcases o1 a1 a2 Θ2 with e | ⟨k, e⟩
  · rw [e] at h; exact (show False from h).elim
  · rw [e] at h
    refine h1 ok2.sim (r1.mono n2) r2 k e ⟨k, rfl, ?_⟩
    cases k with
    | true =>
      refine iteT ?_
      refine (bnd ok2 h).mono fun z H3 ⟨a3, μ3, G3, Θ3, n3, ok3, r3, h⟩ => ?_
      exact h2 ok3.sim (r2.mono n3) r3 h
    | false => exact iteF (px_ok ok2.sim (.bl false) h)
theorem te_chain {op op' : CmpOp} (ho : OpR X (compareOp op) r) (ho' : OpR X (compareOp op') r') (h1 : OpB B r f) (o1 : OnlyB f) (h2 : Op2 B r' f') (ha : PE X a (uR B ma)) (hb : PE X b (uR B mb)) (hc : PE X c (uR B mc))
    (hm : lastMarks [op, op'] [b, c] = false := by with_unfolding_all rfl) : PE X (.Compare a [op, op'] [b, c] pos) (uR B (eChain f f' ma mb mc)) :=
  PE.imp (pe_chain ho ho' ha hb hc hm) fun _ _ _ h => chain_read h1 o1 h2 h
theorem tt_chain {op op' : CmpOp} (ho : OpR X (compareOp op) r) (ho' : OpR X (compareOp op') r') (h1 : OpB B r f) (o1 : OnlyB f) (h2 : Op2 B r' f') (ha : PE X a (uR B ma)) (hb : PE X b (uR B mb)) (hc : PE X c (uR B mc))
    (hm : lastMarks [op, op'] [b, c] = false := by with_unfolding_all rfl) : PT X (.Compare a [op, op'] [b, c] pos) (uT B (tOf (eChain f f' ma mb mc))) :=
  PT.imp (pt_chain ho ho' ha hb hc hm) fun σ H Q h => chain_read (Q := fun x H' => ∃ k, x = .bl k ∧ Q k H') h1 o1 h2 (tst_read h)
end

/-! ### and, or, not, a if t else b -/
@[simp] def tAndM (a b : M Bool) : M Bool := fun ρ Θ => (a ρ Θ).bind fun p Θ1 => if p = true then b ρ Θ1 else .ok false Θ1
@[simp] def tOrM (a b : M Bool) : M Bool := fun ρ Θ => (a ρ Θ).bind fun p Θ1 => if p = true then .ok true Θ1 else b ρ Θ1
@[simp] def tNotM (a : M Bool) : M Bool := fun ρ Θ => (a ρ Θ).bind fun p Θ1 => .ok (!p) Θ1
@[simp] def eAnd (a b : M A) : M A := fun ρ Θ => (tOf a ρ Θ).bind fun p Θ1 => if p = true then b ρ Θ1 else .ok (.bl false) Θ1
@[simp] def eOr (a b : M A) : M A := fun ρ Θ => (tOf a ρ Θ).bind fun p Θ1 => if p = true then .ok (.bl true) Θ1 else b ρ Θ1
@[simp] def eNot (a : M A) : M A := fun ρ Θ => (tOf a ρ Θ).bind fun p Θ1 => .ok (.bl (!p)) Θ1
@[simp] def eIf (t : M Bool) (a b : M A) : M A := fun ρ Θ => (t ρ Θ).bind fun p Θ1 => if p = true then a ρ Θ1 else b ρ Θ1
section
variable {X : Cx} {B : Bs} {a b : Expr} {rest : List Expr} {pos : Pos} {m m' : M A} {t t' : M Bool}
theorem tw_and1 (ha : PT X a (uT B t)) : PW X (.BoolOp .And [a] pos) (uT B t) := pw_and1 ha
theorem tw_or1 (ha : PT X a (uT B t)) : PW X (.BoolOp .Or [a] pos) (uT B t) := pw_or1 ha
theorem tw_and (ha : PT X a (uT B t)) (hb : PW X (.BoolOp .And (b :: rest) pos) (uT B t')) : PW X (.BoolOp .And (a :: b :: rest) pos) (uT B (tAndM t t')) := PW.imp (pw_and ha hb) fun σ H Q h => by
  obtain ⟨ρ, μ, G, Θ, ok, h⟩ := h
  refine (bnd ok h).mono fun x H1 ⟨a1, μ1, G1, Θ1, n1, ok1, r1, h⟩ => ?_
  cases r1
  cases x with
  | true => exact iteT ⟨ρ, μ1, G1, Θ1, ok1, h⟩
  | false => exact iteF (px_ok ok1.sim rfl h)
theorem tw_or (ha : PT X a (uT B t)) (hb : PW X (.BoolOp .Or (b :: rest) pos) (uT B t')) : PW X (.BoolOp .Or (a :: b :: rest) pos) (uT B (tOrM t t')) := PW.imp (pw_or ha hb) fun σ H Q h => by
  obtain ⟨ρ, μ, G, Θ, ok, h⟩ := h
  refine (bnd ok h).mono fun x H1 ⟨a1, μ1, G1, Θ1, n1, ok1, r1, h⟩ => ?_
  cases r1
  cases x with
  | true => exact iteT (px_ok ok1.sim rfl h)
  | false => exact iteF ⟨ρ, μ1, G1, Θ1, ok1, h⟩
theorem tt_not (ha : PT X a (uT B t)) : PT X (.UnaryOp .Not a pos) (uT B (tNotM t)) := PT.imp (pt_not ha) fun σ H Q h => by
  obtain ⟨ρ, μ, G, Θ, ok, h⟩ := h
  refine (bnd ok h).mono fun x H1 ⟨a1, μ1, G1, Θ1, n1, ok1, r1, h⟩ => ?_
  cases r1
  exact px_ok ok1.sim rfl h
theorem bl_read {ρ : Rho} {μ : Mu} {G H : Hp} {Θ : Th} {σ : L2.St} {Q : VK} {Y : Bool → Th → R A} (ok : Ok B ρ μ G σ Θ H) (h : PX (Rel B.W) B σ μ G Q ((tOf m ρ Θ).bind Y)) :
    uR B m σ H fun x H1 => ∃ c, x = .bl c ∧ ∃ μ1 G1 Θ1, Nx μ G μ1 G1 ∧ Ok B ρ μ1 G1 σ Θ1 H1 ∧ PX (Rel B.W) B σ μ1 G1 Q (Y c Θ1) :=
  tst_read ((bnd (rel := relB) ok h).mono fun x H1 ⟨a1, μ1, G1, Θ1, n1, ok1, r1, h⟩ => by cases r1; exact ⟨μ1, G1, Θ1, n1, ok1, h⟩)
theorem te_one {op} (h : PE X a (uR B m)) : PE X (.BoolOp op [a] pos) (uR B m) := pe_one h
theorem te_and (ha : PE X a (uR B m)) (hb : PE X (.BoolOp .And (b :: rest) pos) (uR B m')) : PE X (.BoolOp .And (a :: b :: rest) pos) (uR B (eAnd m m')) := PE.imp (pe_and ha hb) fun σ H Q h => by
  obtain ⟨ρ, μ, G, Θ, ok, h⟩ := h
  refine (bl_read ok h).mono fun x H1 ⟨c, e, μ1, G1, Θ1, n1, ok1, h1⟩ => ⟨c, e, ?_⟩
  cases c with
  | true => exact iteT ⟨ρ, μ1, G1, Θ1, ok1, h1⟩
  | false => exact iteF (px_ok ok1.sim (.bl _) h1)
theorem te_or (ha : PE X a (uR B m)) (hb : PE X (.BoolOp .Or (b :: rest) pos) (uR B m')) : PE X (.BoolOp .Or (a :: b :: rest) pos) (uR B (eOr m m')) := PE.imp (pe_or ha hb) fun σ H Q h => by
  obtain ⟨ρ, μ, G, Θ, ok, h⟩ := h
  refine (bl_read ok h).mono fun x H1 ⟨c, e, μ1, G1, Θ1, n1, ok1, h1⟩ => ⟨c, e, ?_⟩
  cases c with
  | true => exact iteT (px_ok ok1.sim (.bl _) h1)
  | false => exact iteF ⟨ρ, μ1, G1, Θ1, ok1, h1⟩
theorem te_not (ha : PE X a (uR B m)) : PE X (.UnaryOp .Not a pos) (uR B (eNot m)) := PE.imp (pe_not ha) fun σ H Q h => by
  obtain ⟨ρ, μ, G, Θ, ok, h⟩ := h
  exact (bl_read ok h).mono fun x H1 ⟨c, e, μ1, G1, Θ1, n1, ok1, h1⟩ => ⟨c, e, px_ok ok1.sim (.bl _) h1⟩
theorem te_if {c : Expr} (hc : PT X c (uT B t)) (ha : PE X a (uR B m)) (hb : PE X b (uR B m')) : PE X (.IfExp c a b pos) (uR B (eIf t m m')) := PE.imp (pe_ifExp hc ha hb) fun σ H Q h => by
  obtain ⟨ρ, μ, G, Θ, ok, h⟩ := h
  refine (bnd (rel := relB) ok h).mono fun x H1 ⟨a1, μ1, G1, Θ1, n1, ok1, r1, h⟩ => ?_
  cases r1
  cases x with
  | true => exact iteT ⟨ρ, μ1, G1, Θ1, ok1, h⟩
  | false => exact iteF ⟨ρ, μ1, G1, Θ1, ok1, h⟩
end

/-! ### one operand, argument lists, displays, is None -/
@[simp] def eUn (f : A → Th → R A) (a : M A) : M A := fun ρ Θ => (a ρ Θ).bind f
@[simp] def dNeg : A → Th → R A
  | .int i, Θ => .ok (.int (-i)) Θ
  | _, _ => .stuck
@[simp] def aNil : M (List A) := fun _ Θ => .ok [] Θ
@[simp] def aCons (a : M A) (r : M (List A)) : M (List A) := fun ρ Θ => (a ρ Θ).bind fun p Θ1 => (r ρ Θ1).bind fun q Θ2 => .ok (p :: q) Θ2
@[simp] def eTup (a : M (List A)) : M A := fun ρ Θ => (a ρ Θ).bind fun p Θ1 => if p.length ≤ 16777216 then .ok (.tup p) Θ1 else .stuck
@[simp] def eLst (a : M (List A)) : M A := fun ρ Θ => (a ρ Θ).bind fun p Θ1 => if p.length ≤ 16777216 then alloc (.lst p) Θ1 else .stuck
@[simp] def A.isNon : A → Bool
  | .non => true
  | _ => false
@[simp] def eIsN (m : M A) : M A := fun ρ Θ => (m ρ Θ).bind fun d Θ1 => .ok (.bl d.isNon) Θ1
@[simp] def eNotN (m : M A) : M A := fun ρ Θ => (m ρ Θ).bind fun d Θ1 => .ok (.bl (!d.isNon)) Θ1
section
variable {X : Cx} {B : Bs} {a e : Expr} {es : List Expr} {pos pos' : Pos} {j : Nat} {m : M A} {ms : M (List A)}
theorem te_neg (ha : PE X a (uR B m)) : PE X (.UnaryOp .USub a pos) (uR B (eUn dNeg m)) := PE.imp (pe_un un_neg ha) fun σ H Q h => by
  obtain ⟨ρ, μ, G, Θ, ok, h⟩ := h
  refine (bnd ok h).mono fun x H1 ⟨a1, μ1, G1, Θ1, n1, ok1, r1, h⟩ => ?_
  unfold dNeg at h
  split at h
  · cases r1; exact ⟨_, rfl, px_ok ok1.sim (.int _) h⟩
  · exact h.elim
theorem ta_nil : PA X [] (uA B aNil) := PA.imp pa_nil fun σ H Q h => by
  obtain ⟨ρ, μ, G, Θ, ok, h⟩ := h
  exact px_ok ok.sim .nil h
theorem ta_cons (ha : PE X e (uR B m)) (hr : PA X es (uA B ms)) (hs : starEach (e :: es) X.env = (false, eval e X.env) :: starEach es X.env := by rfl) : PA X (e :: es) (uA B (aCons m ms)) := PA.imp (pa_cons ha hr hs) fun σ H Q h => by
  obtain ⟨ρ, μ, G, Θ, ok, h⟩ := h
  refine (bnd ok h).mono fun x H1 ⟨a1, μ1, G1, Θ1, n1, ok1, r1, h⟩ => ?_
  refine (bnd ok1 h).mono fun xs H2 ⟨a2, μ2, G2, Θ2, n2, ok2, r2, h⟩ => ?_
  exact px_ok ok2.sim (.cons (r1.mono n2) r2) h
theorem te_tup {k} (h : PA X es (uA B ms)) : PE X (.Tuple es k pos) (uR B (eTup ms)) := PE.imp (pe_tup h) fun σ H Q h => by
  obtain ⟨ρ, μ, G, Θ, ok, h⟩ := h
  refine (bnd ok h).mono fun x H1 ⟨a1, μ1, G1, Θ1, n1, ok1, r1, h⟩ => ?_
  split at h
  · rename_i hl
    exact ⟨by rw [sizeLine_eq, r1.length]; exact hl, px_tup ok1.sim r1 h⟩
  · exact h.elim
theorem te_lst (h : PA X es (uA B ms)) : PE X (.List es pos) (uR B (eLst ms)) := PE.imp (pe_lst h) fun σ H Q h => by
  obtain ⟨ρ, μ, G, Θ, ok, h⟩ := h
  refine (bnd ok h).mono fun x H1 ⟨a1, μ1, G1, Θ1, n1, ok1, r1, h⟩ => ?_
  split at h
  · rename_i hl
    exact ⟨by rw [sizeLine_eq, r1.length]; exact hl, px_new (c := .lst _) ok1.sim ⟨_, rfl, r1⟩ h⟩
  · exact h.elim
theorem Rel.isNon {W : Wd} {μ : Mu} {G : Hp} {v : V} {d : A} (h : Rel W μ G v d) : decide (v = .non) = d.isNon := by cases h <;> rfl
theorem isN_read {σ : L2.St} {H : Hp} {Q : VK} (h : uR B (eIsN m) σ H Q) : tIsN (uR B m) σ H Q := by
  obtain ⟨ρ, μ, G, Θ, ok, h⟩ := h
  refine (bnd ok h).mono fun x H1 ⟨a1, μ1, G1, Θ1, n1, ok1, r1, h⟩ => ?_
  rw [r1.isNon]
  exact px_ok ok1.sim (.bl _) h
theorem notN_read {σ : L2.St} {H : Hp} {Q : VK} (h : uR B (eNotN m) σ H Q) : tNotN (uR B m) σ H Q := by
  obtain ⟨ρ, μ, G, Θ, ok, h⟩ := h
  refine (bnd ok h).mono fun x H1 ⟨a1, μ1, G1, Θ1, n1, ok1, r1, h⟩ => ?_
  rw [r1.isNon]
  exact px_ok ok1.sim (.bl _) h
theorem te_isN (ha : PE X a (uR B m)) : PE X (.Compare a [.Is] [.Constant .none j pos'] pos) (uR B (eIsN m)) := PE.imp (pe_cmp (pc_isN ha) rfl) fun _ _ _ h => isN_read h
theorem te_notN (ha : PE X a (uR B m)) : PE X (.Compare a [.IsNot] [.Constant .none j pos'] pos) (uR B (eNotN m)) := PE.imp (pe_cmp (pc_notN ha) rfl) fun _ _ _ h => notN_read h
theorem tt_isN (ha : PE X a (uR B m)) : PT X (.Compare a [.Is] [.Constant .none j pos'] pos) (uT B (tOf (eIsN m))) := PT.imp (pt_cmp (pc_isN ha) rfl) fun σ H Q h => isN_read (Q := fun x H' => ∃ k, x = .bl k ∧ Q k H') (tst_read h)
theorem tt_notN (ha : PE X a (uR B m)) : PT X (.Compare a [.IsNot] [.Constant .none j pos'] pos) (uT B (tOf (eNotN m))) := PT.imp (pt_cmp (pc_notN ha) rfl) fun σ H Q h => notN_read (Q := fun x H' => ∃ k, x = .bl k ∧ Q k H') (tst_read h)
end
end U
noncomputable section
namespace U
open PySem PySem.Spec PyProof.Rows L2
open T (MulOk RB op_fdivX op_addA rAddA op_mulA rMulA op_eqA op_neA rEqA rNeA op_inA op_ninA rInA op_mul_strT Dp.same DpAll.same)

/-! ### operators -/
/-- a list that stands in the heap as such -/
@[simp] def lsOf (Θ : Th) : A → Option (List A)
  | .loc n => match Θ[n]? with | some (.lst xs) => some xs | _ => none
  | .fl xs => some xs
  | _ => none
theorem ls_of {W : Wd} {μ : Mu} {G : Hp} {Θ : Th} {H : Hp} {v : V} {a : A} {xs : List A} (s : Sim W μ G Θ H) (r : Rel W μ G v a) (e : lsOf Θ a = some xs) : ∃ p vs, v = .ref p ∧ H p = some (.lst vs) ∧ Rels W μ G vs xs := by
  cases r with
  | loc h =>
    rename_i n p
    unfold lsOf at e
    dsimp only at e
    split at e
    · rename_i ys q
      cases e
      obtain ⟨o, h1, vs, rfl, h2⟩ := s.cell n p _ h q (by intro z; cases z)
      exact ⟨p, vs, rfl, h1, h2⟩
    · cases e
  | fl h r => cases e; exact ⟨_, _, rfl, s.gh _ _ h, r⟩
  | _ => cases e
@[simp] def dAdd (a b : A) (Θ : Th) : R A := match a, b with
  | .int i, .int j => .ok (.int (i + j)) Θ
  | .str a, .str b => if a.length + b.length ≤ 16777216 then .ok (.str (a ++ b)) Θ else .stuck
  | a, b => match lsOf Θ a, lsOf Θ b with
    | some xs, some ys => if xs.length + ys.length ≤ 16777216 then alloc (.lst (xs ++ ys)) Θ else .stuck
    | _, _ => .stuck
@[simp] def dSub (a b : A) (Θ : Th) : R A := match a, b with
  | .int i, .int j => .ok (.int (i - j)) Θ
  | _, _ => .stuck
@[simp] def dMul (a b : A) (Θ : Th) : R A := match a, b with
  | .int i, .int j => if MulOk i j then .ok (.int (i * j)) Θ else .stuck
  | a, .int k => match lsOf Θ a with
    | some xs => @ite (R A) (-9223372036854775808 ≤ k ∧ k < 9223372036854775808 ∧ xs.length * k.toNat ≤ 16777216) (Classical.propDecidable _) (alloc (.lst (List.replicate k.toNat xs).flatten) Θ) .stuck
    | none => .stuck
  | _, _ => .stuck
@[simp] def dMulI (a b : A) (Θ : Th) : R A := match a, b with
  | .int i, .int j => if MulOk i j then .ok (.int (i * j)) Θ else .stuck
  | _, _ => .stuck
@[simp] def dMulS (a b : A) (Θ : Th) : R A := match a, b with
  | .str i, .int j => if PySem.MulOk i j then .ok (.str (Txt.mul i j)) Θ else .stuck
  | _, _ => .stuck
@[simp] def dFdiv (a b : A) (Θ : Th) : R A := match a, b with
  | .int i, .int j => @ite (R A) (0 < j ∧ j < 340282366920938463463374607431768211456) (Classical.propDecidable _) (.ok (.int (i / j)) Θ)
      (@ite (R A) (j < 0 ∧ -340282366920938463463374607431768211456 < j) (Classical.propDecidable _) (.ok (.int (i.fdiv j)) Θ) .stuck)
  | _, _ => .stuck
@[simp] def dMod (a b : A) (Θ : Th) : R A := match a, b with
  | .int i, .int j => if 0 < j then .ok (.int (i % j)) Θ else if j < 0 then .ok (.int (i.fmod j)) Θ else .stuck
  | _, _ => .stuck
@[simp] def dAnd (a b : A) (Θ : Th) : R A := match a, b with
  | .int i, .int j => .ok (.int (Builtin.bitAnd i j)) Θ
  | _, _ => .stuck
@[simp] def dOr (a b : A) (Θ : Th) : R A := match a, b with
  | .int i, .int j => .ok (.int (Builtin.bitOr i j)) Θ
  | _, _ => .stuck
@[simp] def dXor (a b : A) (Θ : Th) : R A := match a, b with
  | .int i, .int j => .ok (.int (Builtin.bitXor i j)) Θ
  | _, _ => .stuck
@[simp] def dPow (a b : A) (Θ : Th) : R A := match a, b with
  | .int i, .int j => @ite (R A) (0 ≤ j ∧ j ≤ 1000000 ∧ -18446744073709551616 < i ∧ i < 18446744073709551616) (Classical.propDecidable _) (.ok (.int (i ^ j.toNat)) Θ) .stuck
  | _, _ => .stuck
@[simp] def dLt (a b : A) (Θ : Th) : R A := match a, b with
  | .int i, .int j => .ok (.bl (decide (i < j))) Θ
  | _, _ => .stuck
@[simp] def dLe (a b : A) (Θ : Th) : R A := match a, b with
  | .int i, .int j => .ok (.bl (decide (i ≤ j))) Θ
  | _, _ => .stuck
@[simp] def dGt (a b : A) (Θ : Th) : R A := match a, b with
  | .int i, .int j => .ok (.bl (decide (j < i))) Θ
  | _, _ => .stuck
@[simp] def dGe (a b : A) (Θ : Th) : R A := match a, b with
  | .int i, .int j => .ok (.bl (decide (j ≤ i))) Θ
  | _, _ => .stuck
section
variable {X : Cx} {B : Bs}
theorem Rel.int_of {W : Wd} {μ : Mu} {G : Hp} {v : V} {i : Int} (h : Rel W μ G v (.int i)) : v = .int i := by cases h; rfl
theorem Rel.str_of {W : Wd} {μ : Mu} {G : Hp} {v : V} {i : Str} (h : Rel W μ G v (.str i)) : v = .str i := by cases h; rfl
theorem Rel.bl_of {W : Wd} {μ : Mu} {G : Hp} {v : V} {i : Bool} (h : Rel W μ G v (.bl i)) : v = .bl i := by cases h; rfl
theorem o2_add : Op2 B rAddA dAdd := by
  intro σ μ G Θ H x y a b Q s p1 p2 q
  unfold dAdd at q
  split at q
  · exact .inl ⟨_, _, p1.int_of, p2.int_of, px_ok s (.int _) q⟩
  · split at q
    · rename_i h
      exact .inr (.inl ⟨_, _, p1.str_of, p2.str_of, by rw [sizeLine_eq]; exact h, px_ok s (.str _) q⟩)
    · exact q.elim
  · split at q
    · rename_i xs ys e1 e2
      split at q
      · rename_i h
        obtain ⟨a, vs, rfl, ha, ra⟩ := ls_of s p1 e1
        obtain ⟨b, ws, rfl, hb, rb⟩ := ls_of s p2 e2
        exact .inr (.inr ⟨a, b, vs, ws, rfl, rfl, ha, hb, by rw [sizeLine_eq, ra.length, rb.length]; exact h, px_new (c := .lst _) s ⟨_, rfl, ra.append rb⟩ q⟩)
      · exact q.elim
    · exact q.elim
theorem op2_int0 {g : Int → Int → V} {g' : Int → Int → A} {f : A → A → Th → R A} (hg : ∀ i j W μ G, Rel W μ G (g i j) (g' i j)) (hf : ∀ a b Θ, f a b Θ = .stuck ∨ ∃ i j, a = .int i ∧ b = .int j ∧ f a b Θ = .ok (g' i j) Θ) : Op2 B (rI0 g) f := by
  intro σ μ G Θ H x y a b Q s p1 p2 q
  rcases hf a b Θ with e | ⟨i, j, rfl, rfl, e⟩
  · rw [e] at q; exact q.elim
  · rw [e] at q
    exact ⟨i, j, p1.int_of, p2.int_of, px_ok s (hg i j _ _ _) q⟩
theorem o2_sub : Op2 B (rI0 fun i j => .int (i - j)) dSub := op2_int0 (g' := fun i j => .int (i - j)) (fun _ _ _ _ _ => .int _) fun a b Θ => by
  unfold dSub; split
  · exact .inr ⟨_, _, rfl, rfl, rfl⟩
  · exact .inl rfl
theorem o2_and : Op2 B (rI0 fun i j => .int (Builtin.bitAnd i j)) dAnd := op2_int0 (g' := fun i j => .int (Builtin.bitAnd i j)) (fun _ _ _ _ _ => .int _) fun a b Θ => by
  unfold dAnd; split
  · exact .inr ⟨_, _, rfl, rfl, rfl⟩
  · exact .inl rfl
theorem o2_or : Op2 B (rI0 fun i j => .int (Builtin.bitOr i j)) dOr := op2_int0 (g' := fun i j => .int (Builtin.bitOr i j)) (fun _ _ _ _ _ => .int _) fun a b Θ => by
  unfold dOr; split
  · exact .inr ⟨_, _, rfl, rfl, rfl⟩
  · exact .inl rfl
theorem o2_xor : Op2 B (rI0 fun i j => .int (Builtin.bitXor i j)) dXor := op2_int0 (g' := fun i j => .int (Builtin.bitXor i j)) (fun _ _ _ _ _ => .int _) fun a b Θ => by
  unfold dXor; split
  · exact .inr ⟨_, _, rfl, rfl, rfl⟩
  · exact .inl rfl
theorem o2_mulI : Op2 B (rI CMul fun i j => .int (i * j)) dMulI := by
  intro σ μ G Θ H x y a b Q s p1 p2 q
  unfold dMulI at q
  split at q
  · split at q
    · rename_i h; exact ⟨_, _, p1.int_of, p2.int_of, h, px_ok s (.int _) q⟩
    · exact q.elim
  · exact q.elim
theorem o2_mul : Op2 B rMulA dMul := by
  intro σ μ G Θ H x y a b Q s p1 p2 q
  unfold dMul at q
  split at q
  · split at q
    · rename_i h; exact .inl ⟨_, _, p1.int_of, p2.int_of, h, px_ok s (.int _) q⟩
    · exact q.elim
  · rename_i a' k _
    split at q
    · rename_i xs e
      split at q
      · rename_i h
        obtain ⟨p, vs, rfl, ha, ra⟩ := ls_of s p1 e
        exact .inr ⟨p, k, vs, rfl, p2.int_of, ha, h.1, h.2.1, by rw [sizeLine_eq, ra.length]; exact h.2.2, px_new (c := .lst _) s ⟨_, rfl, ra.flatRep _⟩ q⟩
      · exact q.elim
    · exact q.elim
  · exact q.elim
theorem o2_mulS : Op2 B (fun x y H Q => ∃ i j, x = .str i ∧ y = .int j ∧ PySem.MulOk i j ∧ Q (.str (Txt.mul i j)) H) dMulS := by
  intro σ μ G Θ H x y a b Q s p1 p2 q
  unfold dMulS at q
  split at q
  · split at q
    · rename_i h; exact ⟨_, _, p1.str_of, p2.int_of, h, px_ok s (.str _) q⟩
    · exact q.elim
  · exact q.elim
theorem o2_fdiv : Op2 B (rI (fun _ j => j ≠ 0 ∧ j.natAbs < 2 ^ 128) fun i j => .int (i.fdiv j)) dFdiv := by
  intro σ μ G Θ H x y a b Q s p1 p2 q
  unfold dFdiv at q
  split at q
  · rename_i i j
    split at q
    · rename_i h
      refine ⟨_, _, p1.int_of, p2.int_of, ⟨by omega, by omega⟩, ?_⟩
      show Q (V.int (i.fdiv j)) H
      rw [Int.fdiv_eq_ediv_of_nonneg i (by omega)]
      exact px_ok s (.int _) q
    · split at q
      · rename_i h
        exact ⟨_, _, p1.int_of, p2.int_of, ⟨by omega, by omega⟩, px_ok s (.int _) q⟩
      · exact q.elim
  · exact q.elim
theorem o2_mod : Op2 B (rI (fun _ j => j ≠ 0) fun i j => .int (i.fmod j)) dMod := by
  intro σ μ G Θ H x y a b Q s p1 p2 q
  unfold dMod at q
  split at q
  · rename_i i j
    split at q
    · rename_i h
      refine ⟨_, _, p1.int_of, p2.int_of, by omega, ?_⟩
      show Q (V.int (i.fmod j)) H
      rw [Int.fmod_eq_emod_of_nonneg i (by omega)]
      exact px_ok s (.int _) q
    · split at q
      · exact ⟨_, _, p1.int_of, p2.int_of, by omega, px_ok s (.int _) q⟩
      · exact q.elim
  · exact q.elim
theorem o2_pow : Op2 B (rI CPow fun i j => .int (i ^ j.toNat)) dPow := by
  intro σ μ G Θ H x y a b Q s p1 p2 q
  unfold dPow at q
  split at q
  · split at q
    · rename_i h; exact ⟨_, _, p1.int_of, p2.int_of, ⟨h.1, h.2.1, by omega⟩, px_ok s (.int _) q⟩
    · exact q.elim
  · exact q.elim
theorem opB_int {g : Int → Int → Bool} {f : A → A → Th → R A} (hf : ∀ a b Θ, f a b Θ = .stuck ∨ ∃ i j, a = .int i ∧ b = .int j ∧ f a b Θ = .ok (.bl (g i j)) Θ) : OpB B (rI0 fun i j => .bl (g i j)) f := by
  intro μ G Θ H x y a b Q s p1 p2 k e q
  rcases hf a b Θ with e' | ⟨i, j, rfl, rfl, e'⟩
  · rw [e'] at e; cases e
  · rw [e'] at e; cases e
    exact ⟨i, j, p1.int_of, p2.int_of, q⟩
theorem onB_int {g : Int → Int → Bool} {f : A → A → Th → R A} (hf : ∀ a b Θ, f a b Θ = .stuck ∨ ∃ i j, a = .int i ∧ b = .int j ∧ f a b Θ = .ok (.bl (g i j)) Θ) : OnlyB f := fun a b Θ => by
  rcases hf a b Θ with e' | ⟨i, j, rfl, rfl, e'⟩
  · exact .inl e'
  · exact .inr ⟨_, e'⟩
theorem f_lt (a b : A) (Θ : Th) : dLt a b Θ = .stuck ∨ ∃ i j, a = .int i ∧ b = .int j ∧ dLt a b Θ = .ok (.bl (decide (i < j))) Θ := by
  unfold dLt; split
  · exact .inr ⟨_, _, rfl, rfl, rfl⟩
  · exact .inl rfl
theorem f_le (a b : A) (Θ : Th) : dLe a b Θ = .stuck ∨ ∃ i j, a = .int i ∧ b = .int j ∧ dLe a b Θ = .ok (.bl (decide (i ≤ j))) Θ := by
  unfold dLe; split
  · exact .inr ⟨_, _, rfl, rfl, rfl⟩
  · exact .inl rfl
theorem f_gt (a b : A) (Θ : Th) : dGt a b Θ = .stuck ∨ ∃ i j, a = .int i ∧ b = .int j ∧ dGt a b Θ = .ok (.bl (decide (j < i))) Θ := by
  unfold dGt; split
  · exact .inr ⟨_, _, rfl, rfl, rfl⟩
  · exact .inl rfl
theorem f_ge (a b : A) (Θ : Th) : dGe a b Θ = .stuck ∨ ∃ i j, a = .int i ∧ b = .int j ∧ dGe a b Θ = .ok (.bl (decide (j ≤ i))) Θ := by
  unfold dGe; split
  · exact .inr ⟨_, _, rfl, rfl, rfl⟩
  · exact .inl rfl
theorem oB_lt : OpB B (rI0 fun i j => .bl (decide (i < j))) dLt := opB_int f_lt
theorem oB_le : OpB B (rI0 fun i j => .bl (decide (i ≤ j))) dLe := opB_int f_le
theorem oB_gt : OpB B (rI0 fun i j => .bl (decide (j < i))) dGt := opB_int f_gt
theorem oB_ge : OpB B (rI0 fun i j => .bl (decide (j ≤ i))) dGe := opB_int f_ge
theorem on_lt : OnlyB dLt := onB_int f_lt
theorem on_le : OnlyB dLe := onB_int f_le
theorem on_gt : OnlyB dGt := onB_int f_gt
theorem on_ge : OnlyB dGe := onB_int f_ge
end

/-! ### == of data -/
@[simp] def mapO {α β : Type} (f : α → Option β) : List α → Option (List β)
  | [] => some []
  | x :: xs => match f x, mapO f xs with | some y, some ys => some (y :: ys) | _, _ => none
def toP (Θ : Th) : Nat → A → Option PyData
  | 0, _ => none
  | _ + 1, .non => some .none
  | _ + 1, .bl b => some (.bool b)
  | _ + 1, .int i => some (.int i)
  | _ + 1, .str s => some (.str s)
  | k + 1, .tup xs => (mapO (toP Θ k) xs).map .tuple
  | k + 1, .fl xs => (mapO (toP Θ k) xs).map .list
  | _ + 1, .scr ns => some (.list (ns.map .int))
  | k + 1, .loc n => match Θ[n]? with | some (.lst xs) => (mapO (toP Θ k) xs).map .list | _ => none
  | _ + 1, _ => none
def dEq (a b : A) (Θ : Th) : R A := match a, b with
  | .int i, .int j => .ok (.bl (decide (i = j))) Θ
  | .str i, .str j => .ok (.bl (decide (i = j))) Θ
  | .bl i, .bl j => .ok (.bl (i == j)) Θ
  | a, b => match toP Θ 9 a, toP Θ 9 b with
    | some x, some y => if SeqAt.shaped x = true ∧ SeqAt.shaped y = true then .ok (.bl (PyData.eqv x y)) Θ else .stuck
    | _, _ => .stuck
@[simp] theorem dEq_int (i j : Int) (Θ : Th) : dEq (.int i) (.int j) Θ = .ok (.bl (decide (i = j))) Θ := rfl
@[simp] theorem dEq_str (i j : Str) (Θ : Th) : dEq (.str i) (.str j) Θ = .ok (.bl (decide (i = j))) Θ := rfl
@[simp] theorem dEq_bl (i j : Bool) (Θ : Th) : dEq (.bl i) (.bl j) Θ = .ok (.bl (i == j)) Θ := rfl
@[simp] def dNe (a b : A) (Θ : Th) : R A := match dEq a b Θ with
  | .ok (.bl k) _ => .ok (.bl (!k)) Θ
  | _ => .stuck
section
variable {W : Wd} {μ : Mu} {G : Hp} {Θ : Th} {H : Hp}
theorem dps {f : A → Option PyData} (h : ∀ {v : V} {a : A} {p : PyData}, Rel W μ G v a → f a = some p → Dp W.K H v p) : ∀ {vs : List V} {xs : List A} {ps : List PyData}, Rels W μ G vs xs → mapO f xs = some ps → DpAll W.K H vs ps
  | _, _, _, .nil, e => by cases e; exact .nil
  | _, _, _, .cons r t, e => by
    unfold mapO at e
    split at e
    · rename_i x xs q1 q2; cases e; exact .cons (h r q1) (dps h t q2)
    · cases e
theorem Rel.dp (s : Sim W μ G Θ H) : ∀ (k : Nat) {v : V} {a : A} {p : PyData}, Rel W μ G v a → toP Θ k a = some p → Dp W.K H v p
  | 0, _, _, _, _, e => by cases e
  | k + 1, v, a, p, r, e => by
    have ih := fun {v a p} => Rel.dp s k (v := v) (a := a) (p := p)
    cases r with
    | non => cases e; exact .non
    | bl b => cases e; exact .bl b
    | int i => cases e; exact .int i
    | str x => cases e; exact .str x
    | ty n => cases e
    | glo h => cases e
    | ob h h2 r => cases e
    | exo0 h h2 => cases e
    | exo1 h h2 h3 r => cases e
    | scr h => cases e; exact .lst (s.gh.seq h) (T.dp_ints _)
    | tup h r =>
      unfold toP at e
      cases q : mapO (toP Θ k) _ with
      | none => rw [q] at e; cases e
      | some ys => rw [q] at e; cases e; exact .tup (SqT.of (s.gh _ _ h)) (dps ih r q)
    | fl h r =>
      unfold toP at e
      cases q : mapO (toP Θ k) _ with
      | none => rw [q] at e; cases e
      | some ys => rw [q] at e; cases e; exact .lst (SqL.of (s.gh _ _ h)) (dps ih r q)
    | loc h =>
      rename_i n p'
      unfold toP at e
      split at e
      · rename_i xs q
        obtain ⟨o, h1, vs, rfl, h2⟩ := s.cell n p' _ h q (by intro z; cases z)
        cases q2 : mapO (toP Θ k) xs with
        | none => rw [q2] at e; cases e
        | some ys => rw [q2] at e; cases e; exact .lst (SqL.of h1) (dps ih h2 q2)
      · cases e
end
section
variable {X : Cx} {B : Bs}
theorem f_eq (a b : A) (Θ : Th) : dEq a b Θ = .stuck ∨ (∃ i j, a = .str i ∧ b = .str j ∧ dEq a b Θ = .ok (.bl (decide (i = j))) Θ) ∨ ∃ x y, toP Θ 9 a = some x ∧ toP Θ 9 b = some y ∧ SeqAt.shaped x = true ∧ SeqAt.shaped y = true ∧ dEq a b Θ = .ok (.bl (PyData.eqv x y)) Θ := by
  unfold dEq
  split
  · exact .inr (.inr ⟨_, _, rfl, rfl, rfl, rfl, rfl⟩)
  · exact .inr (.inl ⟨_, _, rfl, rfl, rfl⟩)
  · exact .inr (.inr ⟨_, _, rfl, rfl, rfl, rfl, rfl⟩)
  · split
    · rename_i x y e1 e2
      split
      · rename_i h; exact .inr (.inr ⟨x, y, e1, e2, h.1, h.2, rfl⟩)
      · exact .inl rfl
    · exact .inl rfl
theorem oB_eq (hW : B.W.K = X.K) : OpB B (rEqA X.K) dEq := by
  intro μ G Θ H x y a b Q s p1 p2 k e q
  rcases f_eq a b Θ with e' | ⟨i, j, rfl, rfl, e'⟩ | ⟨x', y', h1, h2, s1, s2, e'⟩
  · rw [e'] at e; cases e
  · rw [e'] at e; cases e
    cases p1; cases p2
    refine .inl ⟨rfl, ?_⟩
    have : decide (V.str i = V.str j) = decide (i = j) := by simp
    rw [this]; exact q
  · rw [e'] at e; cases e
    exact .inr ⟨x', y', hW ▸ p1.dp s 9 h1, hW ▸ p2.dp s 9 h2, s1, s2, q⟩
theorem on_eq : OnlyB dEq := fun a b Θ => by
  rcases f_eq a b Θ with e' | ⟨i, j, rfl, rfl, e'⟩ | ⟨x, y, h1, h2, s1, s2, e'⟩
  · exact .inl e'
  · exact .inr ⟨_, e'⟩
  · exact .inr ⟨_, e'⟩
theorem oB_ne (hW : B.W.K = X.K) : OpB B (rNeA X.K) dNe := by
  intro μ G Θ H x y a b Q s p1 p2 k e q
  unfold dNe at e
  rcases f_eq a b Θ with e' | ⟨i, j, rfl, rfl, e'⟩ | ⟨x', y', h1, h2, s1, s2, e'⟩
  · rw [e'] at e; cases e
  · rw [e'] at e; cases e
    cases p1; cases p2
    refine .inl ⟨rfl, ?_⟩
    have : decide (V.str i = V.str j) = decide (i = j) := by simp
    rw [this]; exact q
  · rw [e'] at e; cases e
    exact .inr ⟨x', y', hW ▸ p1.dp s 9 h1, hW ▸ p2.dp s 9 h2, s1, s2, q⟩
theorem on_ne : OnlyB dNe := fun a b Θ => by
  unfold dNe
  rcases on_eq a b Θ with e' | ⟨k, e'⟩
  · rw [e']; exact .inl rfl
  · rw [e']; exact .inr ⟨_, rfl⟩
end

/-! ### in, not in -/
@[simp] def A.flatS : A → Bool
  | .non => true
  | .bl _ => true
  | .int _ => true
  | .str _ => true
  | _ => false
@[simp] def eqS : A → A → Bool
  | .non, .non => true
  | .bl a, .bl b => a == b
  | .bl a, .int b => (if a then 1 else 0) == b
  | .int a, .bl b => a == (if b then 1 else 0)
  | .int a, .int b => a == b
  | .str a, .str b => a == b
  | _, _ => false
def inS (x : A) (ds : List A) : Bool := ds.any fun y => eqS y x
def dIn (a b : A) (Θ : Th) : R A := match a, b with
  | .str a, .str b => .ok (.bl (!(Builtin.Str.occurrences b a 0 b.length 1).isEmpty)) Θ
  | x, b => match seqOf Θ b with
    | some ds => if x.flatS = true ∧ ds.all A.flatS = true then .ok (.bl (inS x ds)) Θ else .stuck
    | none => .stuck
@[simp] def dNin (a b : A) (Θ : Th) : R A := match dIn a b Θ with
  | .ok (.bl k) _ => .ok (.bl (!k)) Θ
  | _ => .stuck
section
variable {W : Wd} {μ : Mu} {G : Hp} {Θ : Th} {H : Hp} {X : Cx} {B : Bs}
theorem flatS_rep {v : V} {d : A} (r : Rel W μ G v d) (f : d.flatS = true) : flatV v = true := by cases r <;> first | rfl | cases f
theorem eqS_rep {v u : V} {d e : A} (r : Rel W μ G v d) (q : Rel W μ G u e) (f : d.flatS = true) (g : e.flatS = true) : eqV v u = eqS d e := by
  cases r <;> first | (cases f; done) | (cases q <;> first | rfl | (cases g; done))
theorem inS_rep {x : V} {dx : A} (rx : Rel W μ G x dx) (fx : dx.flatS = true) : ∀ {vs : List V} {ds : List A}, Rels W μ G vs ds → ds.all A.flatS = true → inV x vs = inS dx ds ∧ vs.all flatV = true
  | _, _, .nil, _ => ⟨rfl, rfl⟩
  | _, _, .cons r t, f => by
    rw [List.all_cons, Bool.and_eq_true] at f
    obtain ⟨i1, i2⟩ := inS_rep rx fx t f.2
    unfold inV at i1 ⊢
    unfold inS at i1 ⊢
    rw [List.any_cons, List.any_cons, eqS_rep r rx f.1 fx, i1, List.all_cons, flatS_rep r f.1, i2]
    exact ⟨rfl, rfl⟩
theorem in_ok {neg : Bool} (hW : B.W.K = X.K) {x y : V} {a b : A} {Q : VK} (s : Sim B.W μ G Θ H) (p1 : Rel B.W μ G x a) (p2 : Rel B.W μ G y b) (k : Bool) (e : dIn a b Θ = .ok (.bl k) Θ) (q : Q (.bl (if neg then !k else k)) H) : rInA X.K neg x y H Q := by
  unfold dIn at e
  split at e
  · cases e; exact .inr ⟨_, _, p1.str_of, p2.str_of, q⟩
  · split at e
    · rename_i ds e1
      split at e
      · rename_i h
        cases e
        obtain ⟨p, vs, rfl, ha, ra⟩ := seq_of s p2 e1
        obtain ⟨i1, i2⟩ := inS_rep p1 h.1 ra h.2
        exact .inl ⟨p, vs, rfl, hW ▸ ha, flatS_rep p1 h.1, i2, by rw [i1]; exact q⟩
      · cases e
    · cases e
theorem on_in : OnlyB dIn := fun a b Θ => by
  unfold dIn
  split
  · exact .inr ⟨_, rfl⟩
  · split
    · split
      · exact .inr ⟨_, rfl⟩
      · exact .inl rfl
    · exact .inl rfl
theorem on_nin : OnlyB dNin := fun a b Θ => by
  unfold dNin
  rcases on_in a b Θ with e | ⟨k, e⟩
  · rw [e]; exact .inl rfl
  · rw [e]; exact .inr ⟨_, rfl⟩
theorem oB_in (hW : B.W.K = X.K) : OpB B (rInA X.K false) dIn := fun s p1 p2 k e q => in_ok (neg := false) hW s p1 p2 k e q
theorem oB_nin (hW : B.W.K = X.K) : OpB B (rInA X.K true) dNin := fun {μ G Θ H x y a b Q} s p1 p2 k e q => by
  unfold dNin at e
  rcases on_in a b Θ with e1 | ⟨k1, e1⟩
  · rw [e1] at e; cases e
  · rw [e1] at e; cases e
    exact in_ok (neg := true) hW s p1 p2 k1 e1 q
/-! ### +=; is of bools -/
@[simp] def dAddI (a b : A) (Θ : Th) : R A := match a, b with
  | .int i, .int j => .ok (.int (i + j)) Θ
  | .str a, .str b => if a.length + b.length ≤ 16777216 then .ok (.str (a ++ b)) Θ else .stuck
  | _, _ => .stuck
theorem o2_addI : Op2 B T.rAddI dAddI := by
  intro σ μ G Θ H x y a b Q s p1 p2 q
  unfold dAddI at q
  split at q
  · exact .inl ⟨_, _, p1.int_of, p2.int_of, px_ok s (.int _) q⟩
  · split at q
    · rename_i h
      exact .inr ⟨_, _, p1.str_of, p2.str_of, by rw [sizeLine_eq]; exact h, px_ok s (.str _) q⟩
    · exact q.elim
  · exact q.elim
@[simp] def dIsB (a b : A) (Θ : Th) : R A := match a, b with
  | .bl a, .bl b => .ok (.bl (a == b)) Θ
  | _, _ => .stuck
@[simp] def dNotB (a b : A) (Θ : Th) : R A := match a, b with
  | .bl a, .bl b => .ok (.bl (!(a == b))) Θ
  | _, _ => .stuck
theorem on_isB : OnlyB dIsB := fun a b Θ => by
  unfold dIsB; split
  · exact .inr ⟨_, rfl⟩
  · exact .inl rfl
theorem on_notB : OnlyB dNotB := fun a b Θ => by
  unfold dNotB; split
  · exact .inr ⟨_, rfl⟩
  · exact .inl rfl
theorem oB_isB : OpB B rIsB dIsB := fun {μ G Θ H x y a b Q} s p1 p2 k e q => by
  unfold dIsB at e; split at e
  · cases e
    exact ⟨_, _, p1.bl_of, p2.bl_of, by rw [← Bool.beq_eq_decide_eq]; exact q⟩
  · cases e
theorem oB_notB : OpB B rNotB dNotB := fun {μ G Θ H x y a b Q} s p1 p2 k e q => by
  unfold dNotB at e; split at e
  · cases e
    exact ⟨_, _, p1.bl_of, p2.bl_of, by rw [← Bool.beq_eq_decide_eq]; exact q⟩
  · cases e
end
end U
noncomputable section
namespace U
open PySem PySem.Spec PyProof.Rows L2
open T (cutL call_divmodX PE.imp PT.imp PW.imp PA.imp)

/-! ### items and slices -/
theorem Rels.atI {W : Wd} {μ : Mu} {G : Hp} {vs : List V} {ds : List A} {i : Int} {d : A} (r : Rels W μ G vs ds) (e : L2.atI ds i = some d) : ∃ v, L2.atI vs i = some v ∧ Rel W μ G v d := by
  unfold L2.atI at e ⊢
  rw [r.length]
  cases q : ixN ds.length i with
  | none => rw [q] at e; cases e
  | some j =>
    rw [q] at e
    obtain ⟨v, h1, h2⟩ := r.get (i := j) (d := d) e
    exact ⟨v, h1, h2⟩
def dIx (a b : A) (Θ : Th) : R A := match a, b with
  | .str z, .int i => if z.length ≤ 16777216 then (match L2.atI z.cps.toList i with | some c => .ok (.str ⟨#[c]⟩) Θ | none => .stuck) else .stuck
  | a, .int i => match seqOf Θ a with
    | some xs => match L2.atI xs i with | some d => .ok d Θ | none => .stuck
    | none => .stuck
  | _, _ => .stuck
@[simp] theorem dIx_loc (n : Nat) (i : Int) (Θ : Th) : dIx (.loc n) (.int i) Θ = (match seqOf Θ (.loc n) with
    | some xs => match L2.atI xs i with | some d => .ok d Θ | none => .stuck
    | none => .stuck) := rfl
@[simp] theorem dIx_fl (xs : List A) (i : Int) (Θ : Th) : dIx (.fl xs) (.int i) Θ = (match L2.atI xs i with | some d => .ok d Θ | none => .stuck) := rfl
@[simp] theorem dIx_tup (xs : List A) (i : Int) (Θ : Th) : dIx (.tup xs) (.int i) Θ = (match L2.atI xs i with | some d => .ok d Θ | none => .stuck) := rfl
@[simp] theorem dIx_scr (ns : List Int) (i : Int) (Θ : Th) : dIx (.scr ns) (.int i) Θ = (match L2.atI (ns.map A.int) i with | some d => .ok d Θ | none => .stuck) := rfl
@[simp] theorem dIx_str (z : Str) (i : Int) (Θ : Th) : dIx (.str z) (.int i) Θ = if z.length ≤ 16777216 then (match L2.atI z.cps.toList i with | some c => .ok (.str ⟨#[c]⟩) Θ | none => .stuck) else .stuck := rfl
theorem dIx_seq {a : A} {xs : List A} {Θ : Th} (h : seqOf Θ a = some xs) {i : Int} {d : A} (e : L2.atI xs i = some d) : dIx a (.int i) Θ = .ok d Θ := by
  have key : ∀ b : A, (∀ z, b ≠ .str z) → dIx b (.int i) Θ = (match seqOf Θ b with | some xs => (match L2.atI xs i with | some d => R.ok d Θ | none => .stuck) | none => .stuck) := by
    intro b hb
    cases b <;> first | rfl | exact (hb _ rfl).elim
  rw [key a (by rintro z rfl; cases h), h]
  dsimp only
  rw [e]
@[simp] def dSl (lo hi : Option Int) (a : A) (Θ : Th) : R A := match lstOf Θ a with
  | some xs => alloc (.lst (cutL xs lo hi)) Θ
  | none => .stuck
@[simp] def oNo : M (Option Int) := fun _ Θ => .ok none Θ
@[simp] def oAt (m : M A) : M (Option Int) := fun ρ Θ => (m ρ Θ).bind fun p Θ1 => match p with
  | .int i => .ok (some i) Θ1
  | _ => .stuck
abbrev relO : Mu → Hp → Option Int → Option Int → Prop := fun _ _ b a => b = a
abbrev uO (B : Bs) (m : M (Option Int)) : TO := uX relO B m
@[simp] def eSl (a : M A) (lo hi : M (Option Int)) : M A := fun ρ Θ => (a ρ Θ).bind fun p Θ1 => (lo ρ Θ1).bind fun l Θ2 => (hi ρ Θ2).bind fun h Θ3 => dSl l h p Θ3
section
variable {X : Cx} {B : Bs} {a b : Expr} {pos p2 : Pos} {ma mb : M A}
theorem o2_ix (hW : B.W.K = X.K) : Op2 B (rIx X.K) dIx := by
  intro σ μ G Θ H x y a b Q s p1 p2 q
  unfold dIx at q
  split at q
  · split at q
    · rename_i z i hz
      split at q
      · rename_i c e
        exact .inr (.inr ⟨z, i, c, p1.str_of, p2.int_of, by rw [sizeLine_eq]; exact hz, e, px_ok s (.str _) q⟩)
      · exact q.elim
    · exact q.elim
  · split at q
    · rename_i xs e1
      split at q
      · rename_i d e
        obtain ⟨a, vs, rfl, ha, ra⟩ := seq_of s p1 e1
        obtain ⟨v, e2, r2⟩ := ra.atI e
        rcases ha with ha | ha
        · exact .inl ⟨a, vs, _, v, rfl, p2.int_of, hW ▸ ha, e2, px_ok s r2 q⟩
        · exact .inr (.inl ⟨a, vs, _, v, rfl, p2.int_of, hW ▸ ha, e2, px_ok s r2 q⟩)
      · exact q.elim
    · exact q.elim
  · exact q.elim
theorem te_ix (hW : B.W.K = X.K) (ha : PE X a (uR B ma)) (hb : PE X b (uR B mb)) (hs : PlainIx b := by intro _ _; rfl) : PE X (.Subscript a b pos) (uR B (eBin dIx ma mb)) :=
  PE.imp (pe_ix ix_seq ha hb hs) fun _ _ _ h => bin_read (o2_ix hW) h
theorem to_none : PO X none (uO B oNo) := ⟨fun pins s σ H Q I h => by
  obtain ⟨ρ, μ, G, Θ, ok, h⟩ := h
  exact po_none.run pins s σ H Q I (px_ok ok.sim rfl h)⟩
theorem to_some (ha : PE X a (uR B ma)) : PO X (some a) (uO B (oAt ma)) := ⟨fun pins s σ H Q I h => by
  refine (po_some ha).run pins s σ H Q I ?_
  obtain ⟨ρ, μ, G, Θ, ok, h⟩ := h
  refine (bnd ok h).mono fun x H1 ⟨a1, μ1, G1, Θ1, n1, ok1, r1, h⟩ => ?_
  split at h
  · exact ⟨_, r1.int_of, px_ok ok1.sim rfl h⟩
  · exact h.elim⟩
theorem Rels.cut {W : Wd} {μ : Mu} {G : Hp} {vs : List V} {ds : List A} (r : Rels W μ G vs ds) (lo hi : Option Int) : Rels W μ G (cutV vs lo hi) (cutL ds lo hi) := by
  unfold cutV cutL
  rw [r.length]
  exact (r.drop _).take _
theorem te_sl {lo hi : Option Expr} {ml mh : M (Option Int)} (hW : B.W.K = X.K) (ha : PE X a (uR B ma)) (hl : PO X lo (uO B ml)) (hh : PO X hi (uO B mh)) : PE X (.Subscript a (.Slice lo hi none p2) pos) (uR B (eSl ma ml mh)) :=
  PE.imp (pe_slice sl_list ha hl hh) fun σ H Q h => by
    obtain ⟨ρ, μ, G, Θ, ok, h⟩ := h
    refine (bnd ok h).mono fun x H1 ⟨a1, μ1, G1, Θ1, n1, ok1, r1, h⟩ => ?_
    refine (bnd (rel := relO) ok1 h).mono fun l H2 ⟨a2, μ2, G2, Θ2, n2, ok2, r2, h⟩ => ?_
    refine (bnd (rel := relO) ok2 h).mono fun u H3 ⟨a3, μ3, G3, Θ3, n3, ok3, r3, h⟩ => ?_
    cases r2; cases r3
    unfold dSl at h
    split at h
    · rename_i xs e
      obtain ⟨p, vs, rfl, hp, rp⟩ := lst_of ok3.sim (r1.mono (n2.trans n3)) e
      exact ⟨p, vs, rfl, hW ▸ hp, px_new (c := .lst _) ok3.sim ⟨_, rfl, rp.cut l u⟩ h⟩
    · exact h.elim
end

/-! ### calls of built-ins, by values -/
@[simp] def eCB (f : List A → Th → R A) (a : M (List A)) : M A := fun ρ Θ => (a ρ Θ).bind f
def CallS (B : Bs) (r : List V → Hp → VK → Prop) (f : List A → Th → R A) : Prop := ∀ {σ μ G Θ H vs ds} {Q : VK}, Sim B.W μ G Θ H → Rels B.W μ G vs ds → PX (Rel B.W) B σ μ G Q (f ds Θ) → r vs H Q
section
variable {X : Cx} {B : Bs} {x : Str} {p pos : Pos} {e : Expr} {es : List Expr} {ms : M (List A)} {id Tn : String} {r : List V → Hp → VK → Prop} {f : List A → Th → R A}
theorem cb_read (hf : CallS B r f) {σ : L2.St} {H : Hp} {Q : VK} (h : uR B (eCB f ms) σ H Q) : tCB r (uA B ms) σ H Q := by
  obtain ⟨ρ, μ, G, Θ, ok, h⟩ := h
  exact (bnd ok h).mono fun x H1 ⟨a1, μ1, G1, Θ1, n1, ok1, r1, h⟩ => hf ok1.sim r1 h
theorem te_callB (hc : CallR X (.builtin id) r) (hf : CallS B r f) (hm : X.mg x = none) (hv : bootBuiltins x = some (.builtin id)) (ha : PA X (e :: es) (uA B ms)) (hg : Gl X x := by rfl) (hn : x ≠ "__name__" := by decide) (hdb : (x == ("__debug__" : Str)) = false := by decide)
    (he : starEach (e :: es) X.env = (false, eval e X.env) :: starEach es X.env := by rfl) (hpl : (backTo pos (starEach es X.env)).any (·.1) = false := by rfl) : PE X (.Call (.Name x p) (e :: es) [] pos) (uR B (eCB f ms)) :=
  PE.imp (pe_callB hc hg hm hv ha hn hdb he hpl) fun _ _ _ h => cb_read hf h
theorem te_callTy (hc : CallR X (.type Tn) r) (hf : CallS B r f) (hm : X.mg x = none) (hv : bootBuiltins x = some (.type Tn)) (ha : PA X (e :: es) (uA B ms)) (hg : Gl X x := by rfl) (hn : x ≠ "__name__" := by decide) (hdb : (x == ("__debug__" : Str)) = false := by decide)
    (he : starEach (e :: es) X.env = (false, eval e X.env) :: starEach es X.env := by rfl) (hpl : (backTo pos (starEach es X.env)).any (·.1) = false := by rfl) : PE X (.Call (.Name x p) (e :: es) [] pos) (uR B (eCB f ms)) :=
  PE.imp (pe_callTy hc hg hm hv ha hn hdb he hpl) fun _ _ _ h => cb_read hf h
theorem Rels.one {W : Wd} {μ : Mu} {G : Hp} {vs : List V} {d : A} (h : Rels W μ G vs [d]) : ∃ v, vs = [v] ∧ Rel W μ G v d := by
  cases h with | cons a b => cases b; exact ⟨_, rfl, a⟩
theorem Rels.two {W : Wd} {μ : Mu} {G : Hp} {vs : List V} {d e : A} (h : Rels W μ G vs [d, e]) : ∃ v w, vs = [v, w] ∧ Rel W μ G v d ∧ Rel W μ G w e := by
  cases h with | cons a b => cases b with | cons b c => cases c; exact ⟨_, _, rfl, a, b⟩
/-- len -/
@[simp] def dLen (as : List A) (Θ : Th) : R A := match as with
  | [.str z] => if z.length ≤ 16777216 then .ok (.int z.length) Θ else .stuck
  | [a] => match seqOf Θ a with | some xs => .ok (.int xs.length) Θ | none => .stuck
  | _ => .stuck
theorem c_len (hW : B.W.K = X.K) : CallS B (fun xs H Q => ∃ x n, xs = [x] ∧ LenV X.K x H n ∧ Q (.int n) H) dLen := by
  intro σ μ G Θ H vs ds Q s p q
  unfold dLen at q
  split at q
  · split at q
    · rename_i z hz
      obtain ⟨v, rfl, p1⟩ := p.one
      cases p1
      exact ⟨_, z.length, rfl, ⟨by rw [sizeLine_eq]; exact hz, rfl⟩, px_ok s (.int _) q⟩
    · exact q.elim
  · split at q
    · rename_i xs e
      obtain ⟨v, rfl, p1⟩ := p.one
      obtain ⟨a, ws, rfl, ha, ra⟩ := seq_of s p1 e
      rcases ha with ha | ha
      · exact ⟨_, _, rfl, .inl ⟨ws, hW ▸ ha, rfl⟩, by rw [ra.length]; exact px_ok s (.int _) q⟩
      · exact ⟨_, _, rfl, .inr ⟨ws, hW ▸ ha, rfl⟩, by rw [ra.length]; exact px_ok s (.int _) q⟩
    · exact q.elim
  · exact q.elim
/-- max, min of two ints -/
@[simp] def dMax2 (as : List A) (Θ : Th) : R A := match as with
  | [.int i, .int j] => .ok (.int (if i < j then j else i)) Θ
  | _ => .stuck
@[simp] def dMin2 (as : List A) (Θ : Th) : R A := match as with
  | [.int i, .int j] => .ok (.int (if j < i then j else i)) Θ
  | _ => .stuck
theorem c_max2 : CallS B (fun xs H Q => ∃ i j, xs = [.int i, .int j] ∧ Q (.int (if j > i then j else i)) H) dMax2 := by
  intro σ μ G Θ H vs ds Q s p q
  unfold dMax2 at q
  split at q
  · obtain ⟨v, w, rfl, p1, p2⟩ := p.two
    cases p1; cases p2
    exact ⟨_, _, rfl, px_ok s (.int _) q⟩
  · exact q.elim
theorem c_min2 : CallS B (fun xs H Q => ∃ i j, xs = [.int i, .int j] ∧ Q (.int (if j < i then j else i)) H) dMin2 := by
  intro σ μ G Θ H vs ds Q s p q
  unfold dMin2 at q
  split at q
  · obtain ⟨v, w, rfl, p1, p2⟩ := p.two
    cases p1; cases p2
    exact ⟨_, _, rfl, px_ok s (.int _) q⟩
  · exact q.elim
@[simp] def dInt1 (as : List A) (Θ : Th) : R A := match as with
  | [.int i] => .ok (.int i) Θ
  | [.bl b] => .ok (.int (if b then 1 else 0)) Θ
  | _ => .stuck
theorem c_int1 : CallS B (fun xs H Q => (∃ i, xs = [.int i] ∧ Q (.int i) H) ∨ ∃ k, xs = [.bl k] ∧ Q (.int (if k then 1 else 0)) H) dInt1 := by
  intro σ μ G Θ H vs ds Q s p q
  unfold dInt1 at q
  split at q
  · obtain ⟨v, rfl, p1⟩ := p.one
    cases p1
    exact .inl ⟨_, rfl, px_ok s (.int _) q⟩
  · obtain ⟨v, rfl, p1⟩ := p.one
    cases p1
    exact .inr ⟨_, rfl, px_ok s (.int _) q⟩
  · exact q.elim
/-- isinstance(x, T), T a built-in class -/
def tyN (Θ : Th) : A → Option String
  | .non => some "NoneType"
  | .bl _ => some "bool"
  | .int _ => some "int"
  | .str _ => some "str"
  | .fl _ => some "list"
  | .tup _ => some "tuple"
  | .loc n => match Θ[n]? with | some (.lst _) => some "list" | some (.dct _) => some "dict" | _ => none
  | _ => none
@[simp] def dIsi (as : List A) (Θ : Th) : R A := match as with
  | [d, .ty n] => match tyN Θ d with
    | some t => match kitB t n with | some b => .ok (.bl b) Θ | none => .stuck
    | none => .stuck
  | _ => .stuck
theorem Rel.tyOf {K : PySem.W.Frag} {W : Wd} {μ : Mu} {G : Hp} {Θ : Th} {H : Hp} {v : V} {d : A} {t : String} (s : Sim W μ G Θ H) (h : Rel W μ G v d) (e : tyN Θ d = some t) : TyX K H v (.type t) := by
  refine .base ?_
  cases h with
  | non => cases e; exact .non
  | bl i => cases e; exact .bl i
  | int i => cases e; exact .int i
  | str i => cases e; exact .str i
  | fl h r => cases e; exact .lst (s.gh _ _ h)
  | tup h r => cases e; exact .tup (s.gh _ _ h)
  | loc h =>
    rename_i n p
    unfold tyN at e
    dsimp only at e
    split at e
    · rename_i xs q
      cases e
      obtain ⟨o, h1, vs, rfl, h2⟩ := s.cell n p _ h q (by intro z; cases z)
      exact .lst h1
    · rename_i xs q
      cases e
      obtain ⟨o, h1, vs, rfl, h2⟩ := s.cell n p _ h q (by intro z; cases z)
      exact .dK h1
    · cases e
  | _ => cases e
theorem c_isi (hW : B.W.K = X.K) : CallS B (rIsi X.K) dIsi := by
  intro σ μ G Θ H vs ds Q s p q
  unfold dIsi at q
  split at q
  · split at q
    · rename_i t et
      split at q
      · rename_i b eb
        obtain ⟨v, w, rfl, p1, p2⟩ := p.two
        cases p2
        exact ⟨v, _, .type t, _, b, rfl, .ty _, p1.tyOf s et, kit_ty eb, px_ok s (.bl _) q⟩
      · exact q.elim
    · exact q.elim
  · exact q.elim
theorem te_ty {n : String} (hm : X.mg x = none) (hv : bootBuiltins x = some (.type n)) (hg : Gl X x := by rfl) (hn : x ≠ "__name__" := by decide) (hd : (x == ("__debug__" : Str)) = false := by decide) : PE X (.Name x pos) (uR B (eC (.ty n))) :=
  te_c (pe_bltn (v := .ty n) hg hm hv rfl hn hd) fun _ _ => .ty n
/-- list(xs) -/
@[simp] def dList (as : List A) (Θ : Th) : R A := match as with
  | [a] => match seqOf Θ a with | some xs => alloc (.lst xs) Θ | none => .stuck
  | _ => .stuck
theorem c_list (hW : B.W.K = X.K) : CallS B (fun xs H Q => ∃ p ys, xs = [.ref p] ∧ (SqL X.K H p ys ∨ SqT X.K H p ys) ∧ ∀ l, H l = none → Q (.ref l) (upd H l (.lst ys))) dList := by
  intro σ μ G Θ H vs ds Q s p q
  unfold dList at q
  split at q
  · split at q
    · rename_i xs e
      obtain ⟨v, rfl, p1⟩ := p.one
      obtain ⟨a, ws, rfl, ha, ra⟩ := seq_of s p1 e
      exact ⟨_, _, rfl, hW ▸ ha, px_new (c := .lst _) s ⟨_, rfl, ra⟩ q⟩
    · exact q.elim
  · exact q.elim
/-- sum of ints -/
@[simp] def intsOf : List A → Option (List Int)
  | [] => some []
  | .int i :: ds => match intsOf ds with | some is => some (i :: is) | none => none
  | _ => none
@[simp] theorem intsOf_map (ns : List Int) : intsOf (ns.map .int) = some ns := by
  induction ns with
  | nil => rfl
  | cons n ns ih => rw [List.map_cons, intsOf, ih]
theorem Rels.intsOf {W : Wd} {μ : Mu} {G : Hp} : ∀ {vs : List V} {ds : List A} {ns : List Int}, Rels W μ G vs ds → U.intsOf ds = some ns → vs = ns.map V.int
  | _, _, ns, .nil, e => by cases e; rfl
  | _, _, ns, .cons (d := d) (ds := ds) r t, e => by
    cases d with
    | int i =>
      unfold U.intsOf at e
      split at e
      · rename_i is q; cases e; cases r; rw [List.map_cons, Rels.intsOf t q]
      · cases e
    | _ => cases e
@[simp] def dSum (as : List A) (Θ : Th) : R A := match as with
  | [a] => match lstOf Θ a with
    | some xs => match U.intsOf xs with | some ns => .ok (.int ns.sum) Θ | none => .stuck
    | none => .stuck
  | _ => .stuck
theorem c_sum (hW : B.W.K = X.K) : CallS B (rSum X.K) dSum := by
  intro σ μ G Θ H vs ds Q s p q
  unfold dSum at q
  split at q
  · split at q
    · rename_i xs e
      split at q
      · rename_i ns e2
        obtain ⟨v, rfl, p1⟩ := p.one
        obtain ⟨a, ws, rfl, ha, ra⟩ := lst_of s p1 e
        cases ra.intsOf e2
        exact ⟨a, ns, rfl, hW ▸ ha, px_ok s (.int _) q⟩
      · exact q.elim
    · exact q.elim
  · exact q.elim
/-- divmod -/
@[simp] def dDivmod (as : List A) (Θ : Th) : R A := match as with
  | [.int i, .int j] => @ite (R A) (0 < j ∧ j < 340282366920938463463374607431768211456) (Classical.propDecidable _) (.ok (.tup [.int (i / j), .int (i % j)]) Θ)
      (@ite (R A) (j < 0 ∧ -340282366920938463463374607431768211456 < j) (Classical.propDecidable _) (.ok (.tup [.int (i.fdiv j), .int (i.fmod j)]) Θ) .stuck)
  | _ => .stuck
theorem c_divmod : CallS B (fun xs H Q => ∃ i j, xs = [.int i, .int j] ∧ (j ≠ 0 ∧ j.natAbs < 2 ^ 128) ∧ ∀ p, H p = none → Q (.ref p) (upd H p (.tup [.int (i.fdiv j), .int (i.fmod j)]))) dDivmod := by
  intro σ μ G Θ H vs ds Q s p q
  unfold dDivmod at q
  split at q
  · rename_i i j
    obtain ⟨v, w, rfl, p1, p2⟩ := p.two
    cases p1; cases p2
    split at q
    · rename_i h
      refine ⟨i, j, rfl, ⟨by omega, by omega⟩, ?_⟩
      rw [Int.fdiv_eq_ediv_of_nonneg i (by omega), Int.fmod_eq_emod_of_nonneg i (by omega)]
      exact px_tup s (.cons (.int _) (.cons (.int _) .nil)) q
    · split at q
      · rename_i h
        exact ⟨i, j, rfl, ⟨by omega, by omega⟩, px_tup s (.cons (.int _) (.cons (.int _) .nil)) q⟩
      · exact q.elim
  · exact q.elim
/-- a global that is a constant -/
theorem te_glob {a : A} {v : V} {u : Value} (hm : X.mg x = some u) (hr : RelV v u) (ha : ∀ μ G, Rel B.W μ G v a) (hg : Gl X x := by rfl) (hd : (x == ("__debug__" : Str)) = false := by decide) : PE X (.Name x pos) (uR B (eC a)) := te_c (pe_glob hg hm hr hd) ha
end
end U
noncomputable section
namespace U
open PySem PySem.Spec PyProof.Rows L2
open T (PE.imp PT.imp PW.imp PA.imp PS.imp PSs.imp PI.imp PI.or PG.imp PGs.imp RB)

/-! ### statements -/
inductive Fl where
  | next | brk | cont | ret (a : A)
inductive RS where
  | ok (f : Fl) (ρ : Rho) (Θ : Th) | exc (c : Str) (fs : List (Str × A)) (ρ : Rho) (Θ : Th) | stuck
abbrev Sm := Rho → Th → RS
def R.bindS {α : Type} (x : R α) (ρ : Rho) (f : α → Th → RS) : RS := match x with
  | .ok a Θ => f a Θ
  | .exc c fs Θ => .exc c fs ρ Θ
  | .stuck => .stuck
def RS.then (x : RS) (f : Fl → Rho → Th → RS) : RS := match x with
  | .ok a ρ Θ => f a ρ Θ
  | .exc c fs ρ Θ => .exc c fs ρ Θ
  | .stuck => .stuck
@[simp] theorem R.bindS_ok {α : Type} {a : α} {Θ : Th} {ρ : Rho} {f : α → Th → RS} : (R.ok a Θ).bindS ρ f = f a Θ := rfl
@[simp] theorem R.bindS_exc {α : Type} {c : Str} {fs : List (Str × A)} {Θ : Th} {ρ : Rho} {f : α → Th → RS} : (R.exc c fs Θ).bindS ρ f = .exc c fs ρ Θ := rfl
@[simp] theorem R.bindS_stuck {α : Type} {ρ : Rho} {f : α → Th → RS} : (R.stuck : R α).bindS ρ f = .stuck := rfl
@[simp] theorem RS.then_ok {a : Fl} {ρ : Rho} {Θ : Th} {f : Fl → Rho → Th → RS} : (RS.ok a ρ Θ).then f = f a ρ Θ := rfl
@[simp] theorem RS.then_exc {c : Str} {fs : List (Str × A)} {ρ : Rho} {Θ : Th} {f : Fl → Rho → Th → RS} : (RS.exc c fs ρ Θ).then f = .exc c fs ρ Θ := rfl
@[simp] theorem RS.then_stuck {f : Fl → Rho → Th → RS} : RS.stuck.then f = .stuck := rfl
def PS' (B : Bs) (μ : Mu) (G : Hp) (E : Ends) : RS → Prop
  | .ok .next ρ' Θ' => ∀ σ' μ' G' H', Nx μ G μ' G' → Ok B ρ' μ' G' σ' Θ' H' → E.nx σ' H'
  | .ok .brk ρ' Θ' => ∀ σ' μ' G' H', Nx μ G μ' G' → Ok B ρ' μ' G' σ' Θ' H' → E.bk σ' H'
  | .ok .cont ρ' Θ' => ∀ σ' μ' G' H', Nx μ G μ' G' → Ok B ρ' μ' G' σ' Θ' H' → E.ct σ' H'
  | .ok (.ret a) ρ' Θ' => ∀ v μ' G' H', Nx μ G μ' G' → Sim B.W μ' G' Θ' H' → Rel B.W μ' G' v a → E.rt v H'
  | .exc c fs ρ' Θ' => ∀ σ' μ' G' H', Nx μ G μ' G' → Ok B ρ' μ' G' σ' Θ' H' → B.E σ' μ' G' c fs Θ' H'
  | .stuck => False
def uS (B : Bs) (m : Sm) : TS := fun E σ H => ∃ ρ μ G Θ, Ok B ρ μ G σ Θ H ∧ PS' B μ G E (m ρ Θ)
section
variable {α β : Type} {rel : Mu → Hp → β → α → Prop} {B : Bs} {ρ : Rho} {μ μ1 : Mu} {G G1 : Hp} {σ : L2.St} {Θ : Th} {H : Hp} {E : Ends}
theorem PS'.mono (n : Nx μ G μ1 G1) {x : RS} (h : PS' B μ G E x) : PS' B μ1 G1 E x := by
  cases x with
  | ok f ρ' Θ' =>
    cases f with
    | next => exact fun σ' μ' G' H' m o => h σ' μ' G' H' (n.trans m) o
    | brk => exact fun σ' μ' G' H' m o => h σ' μ' G' H' (n.trans m) o
    | cont => exact fun σ' μ' G' H' m o => h σ' μ' G' H' (n.trans m) o
    | ret a => exact fun v μ' G' H' m s r => h v μ' G' H' (n.trans m) s r
  | exc c fs ρ' Θ' => exact fun σ' μ' G' H' m o => h σ' μ' G' H' (n.trans m) o
  | stuck => exact h
theorem bndS {m : M α} {f : α → Th → RS} (ok : Ok B ρ μ G σ Θ H) (h : PS' B μ G E ((m ρ Θ).bindS ρ f)) :
    uX rel B m σ H fun b H1 => ∃ a μ1 G1 Θ1, Nx μ G μ1 G1 ∧ Ok B ρ μ1 G1 σ Θ1 H1 ∧ rel μ1 G1 b a ∧ PS' B μ1 G1 E (f a Θ1) := by
  refine ⟨ρ, μ, G, Θ, ok, ?_⟩
  cases e : m ρ Θ with
  | ok a Θ' => rw [e] at h; exact fun b μ' G' H' n s r => ⟨a, μ', G', Θ', n, ok.to n s, r, PS'.mono n h⟩
  | exc c fs Θ' => rw [e] at h; exact fun μ' G' H' n s => h σ μ' G' H' n (ok.to n s)
  | stuck => rw [e] at h; exact h
theorem ps_nx {ρ' : Rho} (ok : Ok B ρ' μ G σ Θ H) (h : PS' B μ G E (.ok .next ρ' Θ)) : E.nx σ H := h σ μ G H (Nx.refl _ _) ok
end
@[simp] def sNil : Sm := fun ρ Θ => .ok .next ρ Θ
@[simp] def sSeq (a b : Sm) : Sm := fun ρ Θ => (a ρ Θ).then fun f ρ1 Θ1 => match f with
  | .next => b ρ1 Θ1
  | f => .ok f ρ1 Θ1
@[simp] def sRet (m : M A) : Sm := fun ρ Θ => (m ρ Θ).bindS ρ fun a Θ1 => .ok (.ret a) ρ Θ1
@[simp] def sRetN : Sm := fun ρ Θ => .ok (.ret .non) ρ Θ
@[simp] def sIf (t : M Bool) (a b : Sm) : Sm := fun ρ Θ => (t ρ Θ).bindS ρ fun p Θ1 => if p = true then a ρ Θ1 else b ρ Θ1
@[simp] def sBrk : Sm := fun ρ Θ => .ok .brk ρ Θ
@[simp] def sCont : Sm := fun ρ Θ => .ok .cont ρ Θ
@[simp] def sDrop (m : M A) : Sm := fun ρ Θ => (m ρ Θ).bindS ρ fun _ Θ1 => .ok .next ρ Θ1
@[simp] def sNever : Sm := fun _ _ => .stuck
@[simp] def sSet (i : Nat) (m : M A) : Sm := fun ρ Θ => (m ρ Θ).bindS ρ fun a Θ1 => if i < ρ.length then .ok .next (ρ.set i (some a)) Θ1 else .stuck
@[simp] def sAug (i : Nat) (f : A → A → Th → R A) (m : M A) : Sm := fun ρ Θ => match ρ[i]? with
  | some (some x) => (m ρ Θ).bindS ρ fun y Θ1 => (f x y Θ1).bindS ρ fun r Θ2 => .ok .next (ρ.set i (some r)) Θ2
  | _ => .stuck
section
variable {X : Cx} {B : Bs} {st : Stmt} {rest : List Stmt} {a b : Sm} {e : Expr} {m : M A} {pos : Pos}
theorem ts_nil : PSs X [] (uS B sNil) := PSs.imp pss_nil fun E σ H h => by
  obtain ⟨ρ, μ, G, Θ, ok, h⟩ := h
  exact ps_nx ok h
theorem ts_cons (h1 : PS X st (uS B a)) (h2 : PSs X rest (uS B b)) : PSs X (st :: rest) (uS B (sSeq a b)) := PSs.imp (pss_cons h1 h2) fun E σ H h => by
  obtain ⟨ρ, μ, G, Θ, ok, h⟩ := h
  refine ⟨ρ, μ, G, Θ, ok, ?_⟩
  unfold sSeq at h
  cases q : a ρ Θ with
  | ok f ρ1 Θ1 =>
    rw [q] at h
    cases f with
    | next => exact fun σ' μ' G' H' n o => ⟨ρ1, μ', G', Θ1, o, PS'.mono n h⟩
    | brk => exact h
    | cont => exact h
    | ret r => exact h
  | exc c fs ρ1 Θ1 => rw [q] at h; exact h
  | stuck => rw [q] at h; exact h
theorem ts_one (h1 : PS X st (uS B a)) : PSs X [st] (uS B a) := pss_one h1
theorem ts_brk : PS X (.Break pos) (uS B sBrk) := PS.imp ps_break fun E σ H h => by
  obtain ⟨ρ, μ, G, Θ, ok, h⟩ := h
  exact h σ μ G H (Nx.refl _ _) ok
theorem ts_cont : PS X (.Continue pos) (uS B sCont) := PS.imp ps_continue fun E σ H h => by
  obtain ⟨ρ, μ, G, Θ, ok, h⟩ := h
  exact h σ μ G H (Nx.refl _ _) ok
theorem ts_pass : PS X (.Pass pos) (uS B sNil) := PS.imp ps_pass fun E σ H h => by
  obtain ⟨ρ, μ, G, Θ, ok, h⟩ := h
  exact ps_nx ok h
theorem ts_never : PS X st (uS B sNever) := PS.imp ps_never fun E σ H h => by
  obtain ⟨ρ, μ, G, Θ, ok, h⟩ := h
  exact (show False from h)
theorem ts_ret (he : PE X e (uR B m)) : PS X (.Return (some e) pos) (uS B (sRet m)) := PS.imp (ps_ret he) fun E σ H h => by
  obtain ⟨ρ, μ, G, Θ, ok, h⟩ := h
  exact (bndS ok h).mono fun x H1 ⟨a1, μ1, G1, Θ1, n1, ok1, r1, h⟩ => h x μ1 G1 H1 (Nx.refl _ _) ok1.sim r1
theorem ts_retN : PS X (.Return none pos) (uS B sRetN) := PS.imp ps_retN fun E σ H h => by
  obtain ⟨ρ, μ, G, Θ, ok, h⟩ := h
  exact h .non μ G H (Nx.refl _ _) ok.sim .non
theorem ts_if {c : Expr} {t : M Bool} {as bs : List Stmt} (hc : PT X c (uT B t)) (ha : PSs X as (uS B a)) (hb : PSs X bs (uS B b)) : PS X (.If c as bs pos) (uS B (sIf t a b)) := PS.imp (ps_if hc ha hb) fun E σ H h => by
  obtain ⟨ρ, μ, G, Θ, ok, h⟩ := h
  refine (bndS (rel := relB) ok h).mono fun x H1 ⟨a1, μ1, G1, Θ1, n1, ok1, r1, h⟩ => ?_
  cases r1
  cases x with
  | true => exact iteT ⟨ρ, μ1, G1, Θ1, ok1, h⟩
  | false => exact iteF ⟨ρ, μ1, G1, Θ1, ok1, h⟩
theorem ts_drop (he : PE X e (uR B m)) (hs : swapsWith e none pos.line X.env = pure false := by rfl) : PS X (.Expr e pos) (uS B (sDrop m)) := PS.imp (ps_expr he hs) fun E σ H h => by
  obtain ⟨ρ, μ, G, Θ, ok, h⟩ := h
  exact (bndS ok h).mono fun x H1 ⟨a1, μ1, G1, Θ1, n1, ok1, r1, h⟩ => ps_nx ok1 h
theorem Ok.put {ρ : Rho} {μ : Mu} {G H : Hp} {Θ : Th} {σ : L2.St} {i : Nat} {d : A} {v : V} (ok : Ok B ρ μ G σ Θ H) (hi : i < ρ.length) (r : Rel B.W μ G v d) : Ok B (ρ.set i (some d)) μ G (σ.set i (some v)) Θ H := by
  have hs : i < σ.length := by rw [← ok.len]; exact hi
  refine ⟨by simp [ok.len], fun j s z => ?_, ok.sim⟩
  by_cases hj : i = j
  · subst hj
    rw [List.getElem?_set_self hi] at z; cases z
    rw [List.getElem?_set_self hs]
    exact ⟨v, rfl, r⟩
  · rw [List.getElem?_set_ne hj] at z ⊢; exact ok.sl j s z
theorem ts_set {i : Nat} {x : Str} {pos' : Pos} (hN : X.N.Nodup) (hi : X.N[i]? = some x) (hx : Loc X.env.scope x) (he : PE X e (uR B m)) (hs : swapsWith e (some (.Name x pos')) pos.line X.env = pure false := by rfl) (hf : X.fn x = true ∨ X.env.scope.names.lookup x = some .local := by first | exact .inl rfl | exact .inr rfl | assumption) :
    PS X (.Assign [.Name x pos'] e pos) (uS B (sSet i m)) := PS.imp (ps_set hN hi hx he hs hf) fun E σ H h => by
  obtain ⟨ρ, μ, G, Θ, ok, h⟩ := h
  refine (bndS ok h).mono fun x H1 ⟨a1, μ1, G1, Θ1, n1, ok1, r1, h⟩ => ?_
  split at h
  · rename_i hl; exact ps_nx (ok1.put hl r1) h
  · exact h.elim
theorem ts_aug {i : Nat} {x : Str} {op : Operator} {r : R2} {f : A → A → Th → R A} {pos' : Pos} (ho : OpR X (inplaceOp op) r) (hf2 : Op2 B r f) (hN : X.N.Nodup) (hi : X.N[i]? = some x) (hx : Loc X.env.scope x) (he : PE X e (uR B m))
    (hf : X.fn x = true ∨ X.env.scope.names.lookup x = some .local := by first | exact .inl rfl | exact .inr rfl | assumption) :
    PS X (.AugAssign (.Name x pos') op e pos) (uS B (sAug i f m)) := PS.imp (ps_aug (ti := r) hN hi hx he ho hf) fun E σ H h => by
  obtain ⟨ρ, μ, G, Θ, ok, h⟩ := h
  unfold sAug at h
  split at h
  · rename_i d1 e1
    obtain ⟨v, e2, r1⟩ := ok.sl i _ e1
    have hl : i < ρ.length := (List.getElem?_eq_some_iff.mp e1).1
    refine ⟨v, e2, (bndS ok h).mono fun y H1 ⟨a1, μ1, G1, Θ1, n1, ok1, ry, h⟩ => ?_⟩
    refine hf2 (σ := σ) ok1.sim (r1.mono n1) ry ?_
    cases q : f d1 a1 Θ1 with
    | ok a Θ2 => rw [q] at h; exact fun b μ' G' H' n s rr => ps_nx ((ok1.to n s).put hl rr) (PS'.mono n h)
    | exc c fs Θ2 => rw [q] at h; exact fun μ' G' H' n s => h σ μ' G' H' n (ok1.to n s)
    | stuck => rw [q] at h; exact h
  · exact h.elim
end

/-! ### what is walked -/
structure Src where
  xs : List A
  on : Option Nat
def Src.now (s : Src) (Θ : Th) : Prop := match s.on with
  | none => True
  | some n => Θ[n]? = some (.lst s.xs)
instance (s : Src) (Θ : Th) : Decidable (s.now Θ) := Classical.propDecidable _
@[simp] theorem Src.now_none (xs : List A) (Θ : Th) : (Src.mk xs none).now Θ = True := rfl
@[simp] theorem Src.now_some (xs : List A) (n : Nat) (Θ : Th) : (Src.mk xs (some n)).now Θ = (Θ[n]? = some (.lst xs)) := rfl
def SrcOk (W : Wd) (μ : Mu) (G : Hp) (J : It) (s : Src) : Prop := ∀ (i : Nat) μ' G' Θ H, Nx μ G μ' G' → Sim W μ' G' Θ H → s.now Θ →
  (∀ d, s.xs[i]? = some d → J.go i H ∧ ∀ x H', J.yld i H x H' → ∃ G'', Nx μ' G' μ' G'' ∧ Sim W μ' G'' Θ H' ∧ Rel W μ' G'' x d) ∧ (s.xs.length ≤ i → J.stop i H)
abbrev relI (W : Wd) : Mu → Hp → It → Src → Prop := fun μ G J s => SrcOk W μ G J s
abbrev uI (B : Bs) (m : M Src) : TI := uX (relI B.W) B m
@[simp] def srcOf (a : A) (Θ : Th) : R Src := match a with
  | .loc n => match Θ[n]? with | some (.lst xs) => .ok ⟨xs, some n⟩ Θ | _ => .stuck
  | .fl xs => .ok ⟨xs, none⟩ Θ
  | .tup xs => .ok ⟨xs, none⟩ Θ
  | .scr ns => .ok ⟨ns.map .int, none⟩ Θ
  | _ => .stuck
@[simp] def itM (m : M A) : M Src := fun ρ Θ => (m ρ Θ).bind srcOf
def sgn (x : Str) : List A := x.cps.toList.map fun c => A.str ⟨#[c]⟩
@[simp] def itStr (m : M A) : M Src := fun ρ Θ => (m ρ Θ).bind fun a Θ1 => match a with
  | .str x => .ok ⟨sgn x, none⟩ Θ1
  | _ => .stuck
def rng (lo hi : Int) : List A := (List.range (hi - lo).toNat).map fun (k : Nat) => A.int (lo + (k : Int))
@[simp] def itR1 (ms : M (List A)) : M Src := fun ρ Θ => (ms ρ Θ).bind fun p Θ1 => match p with
  | [.int j] => if RB j then .ok ⟨rng 0 j, none⟩ Θ1 else .stuck
  | _ => .stuck
@[simp] def itR2 (ms : M (List A)) : M Src := fun ρ Θ => (ms ρ Θ).bind fun p Θ1 => match p with
  | [.int i, .int j] => if RB i ∧ RB j then .ok ⟨rng i j, none⟩ Θ1 else .stuck
  | _ => .stuck
section
variable {X : Cx} {tg l : Expr} {B : Bs} {W : Wd} {μ : Mu} {G : Hp}
theorem src_sqL {a : Addr} {vs : List V} {s : Src} (e : ∀ μ' G' Θ H, Nx μ G μ' G' → Sim W μ' G' Θ H → s.now Θ → ∃ ws, SqL W.K H a ws ∧ Rels W μ' G' ws s.xs) : SrcOk W μ G (Itl W.K a) s := fun i μ' G' Θ H n sm nw => by
  obtain ⟨ws, h1, h2⟩ := e μ' G' Θ H n sm nw
  refine ⟨fun d q => ?_, fun hl => ⟨ws, h1, by rw [h2.length]; exact hl⟩⟩
  obtain ⟨v, g1, g2⟩ := h2.get q
  refine ⟨⟨ws, v, h1, g1⟩, fun x H' y => ?_⟩
  obtain ⟨rfl, y2⟩ := y
  have h3 := y2 ws h1
  rw [g1] at h3; cases h3
  exact ⟨G', Nx.refl _ _, sm, g2⟩
theorem src_sqT {a : Addr} {ws : List V} {s : Src} (h : G a = some (.tup ws)) (r : Rels W μ G ws s.xs) : SrcOk W μ G (Itt W.K a) s := fun i μ' G' Θ H n sm nw => by
  have h1 : SqT W.K H a ws := SqT.of (sm.gh _ _ (n.same _ _ h))
  have h2 := r.mono n
  refine ⟨fun d q => ?_, fun hl => ⟨ws, h1, by rw [h2.length]; exact hl⟩⟩
  obtain ⟨v, g1, g2⟩ := h2.get q
  refine ⟨⟨ws, v, h1, g1⟩, fun x H' y => ?_⟩
  obtain ⟨rfl, y2⟩ := y
  have h3 := y2 ws h1
  rw [g1] at h3; cases h3
  exact ⟨G', Nx.refl _ _, sm, g2⟩
theorem src_rng (lo hi : Int) : SrcOk W μ G (Itr lo (hi - lo).toNat) ⟨rng lo hi, none⟩ := fun i μ' G' Θ H n sm nw => by
  refine ⟨fun d q => ?_, fun hl => ?_⟩
  · unfold rng at q
    rw [List.getElem?_map] at q
    by_cases hi' : i < (hi - lo).toNat
    · rw [List.getElem?_range hi'] at q
      cases q
      refine ⟨hi', fun x H' y => ?_⟩
      obtain ⟨rfl, y2⟩ := y
      exact ⟨G', Nx.refl _ _, sm, by rw [y2]; exact .int _⟩
    · rw [List.getElem?_eq_none (by simpa using Nat.le_of_not_lt hi')] at q; cases q
  · unfold rng at hl; rw [List.length_map, List.length_range] at hl; exact hl
theorem src_str (x : Str) : SrcOk W μ G (Its x) ⟨sgn x, none⟩ := fun i μ' G' Θ H n sm nw => by
  refine ⟨fun d q => ?_, fun hl => ?_⟩
  · unfold sgn at q
    rw [List.getElem?_map] at q
    cases e : x.cps.toList[i]? with
    | none => rw [e] at q; cases q
    | some c =>
      rw [e] at q; cases q
      have hi : i < x.cps.size := by simpa using (List.getElem?_eq_some_iff.mp e).1
      refine ⟨hi, fun v H' y => ?_⟩
      obtain ⟨rfl, c', h1, rfl⟩ := y
      rw [Array.getElem?_toList, h1] at e; cases e
      exact ⟨G', Nx.refl _ _, sm, .str _⟩
  · unfold sgn at hl; exact (show x.cps.size ≤ i by simpa using hl)
theorem ti_seq {m : M A} (hW : B.W.K = X.K) (hl : PE X l (uR B m)) : PI X tg l (uI B (itM m)) := PI.imp (PI.or (pi_list hl) (pi_tup hl)) fun σ H R' h => by
  obtain ⟨ρ, μ, G, Θ, ok, h⟩ := h
  by_cases c : ∃ xs Θ1, m ρ Θ = .ok (.tup xs) Θ1
  · obtain ⟨xs, Θ1, c⟩ := c
    refine .inr ⟨ρ, μ, G, Θ, ok, ?_⟩
    unfold itM at h
    rw [c] at h ⊢
    intro v μ' G' H' n s r
    cases r with
    | tup e rs => exact ⟨_, rfl, ⟨_, SqT.of (s.gh _ _ e)⟩, by rw [← hW]; exact px_ok (rel := relI B.W) s (src_sqT e rs) (PX.mono n h)⟩
  · refine .inl ⟨ρ, μ, G, Θ, ok, ?_⟩
    unfold itM at h
    cases e : m ρ Θ with
    | exc c' fs Θ' => rw [e] at h; exact h
    | stuck => rw [e] at h; exact h
    | ok a Θ' =>
      rw [e] at h c
      intro v μ' G' H' n s r
      have h2 := PX.mono n h
      clear h
      cases r with
      | tup e rs => exact (c ⟨_, _, rfl⟩).elim
      | @loc k p hp =>
        dsimp only [R.bind, srcOf] at h2
        split at h2
        · rename_i xs q
          obtain ⟨o, h1, vs, rfl, h3⟩ := s.cell k p _ hp q (by intro z; cases z)
          refine ⟨p, rfl, ⟨vs, SqL.of h1⟩, ?_⟩
          rw [← hW]
          refine px_ok (rel := relI B.W) s (src_sqL (vs := vs) fun μ2 G2 Θ2 H2 n2 s2 w => ?_) h2
          obtain ⟨o, g1, ws, rfl, g2⟩ := s2.cell k p _ (n2.pre _ _ hp) w (by intro z; cases z)
          exact ⟨ws, SqL.of g1, g2⟩
        · exact h2.elim
      | fl eg rs =>
        clear e
        refine ⟨_, rfl, ⟨_, SqL.of (s.gh _ _ eg)⟩, ?_⟩
        rw [← hW]
        exact px_ok (rel := relI B.W) s (src_sqL (vs := []) fun μ2 G2 Θ2 H2 n2 s2 w => ⟨_, SqL.of (s2.gh _ _ (n2.same _ _ eg)), rs.mono n2⟩) h2
      | scr eg =>
        clear e
        refine ⟨_, rfl, ⟨_, by rw [← hW]; exact s.gh.seq eg⟩, ?_⟩
        rw [← hW]
        exact px_ok (rel := relI B.W) s (src_sqL (vs := []) fun μ2 G2 Θ2 H2 n2 s2 w => ⟨_, s2.gh.seq (n2.same.seq eg), Rels.ints _⟩) h2
      | _ => exact (show False from h2).elim
theorem ti_str {m : M A} (hl : PE X l (uR B m)) : PI X tg l (uI B (itStr m)) := PI.imp (pi_str hl) fun σ H R' h => by
  obtain ⟨ρ, μ, G, Θ, ok, h⟩ := h
  refine (bnd (rel2 := relI B.W) ok h).mono fun x H1 ⟨a1, μ1, G1, Θ1, n1, ok1, r1, h⟩ => ?_
  split at h
  · cases r1; exact ⟨_, rfl, px_ok (rel := relI B.W) ok1.sim (src_str _) h⟩
  · exact h.elim
theorem ti_range1 {a : Expr} {ms : M (List A)} {p pos : Pos} (hm : X.mg "range" = none) (ha : PA X [a] (uA B ms)) (hg : Gl X "range" := by rfl) (hs : starEach [a] X.env = [(false, eval a X.env)] := by rfl) : PI X tg (.Call (.Name "range" p) [a] [] pos) (uI B (itR1 ms)) :=
  PI.imp (pi_range1 hg hm ha hs) fun σ H R' h => by
    obtain ⟨ρ, μ, G, Θ, ok, h⟩ := h
    refine (bnd (rel2 := relI B.W) ok h).mono fun x H1 ⟨a1, μ1, G1, Θ1, n1, ok1, r1, h⟩ => ?_
    split at h
    · rename_i j
      split at h
      · rename_i hb
        unfold RB at hb
        obtain ⟨v, rfl, r⟩ := r1.one
        cases r
        refine ⟨j, rfl, by omega, by omega, ?_⟩
        have := px_ok (rel := relI B.W) ok1.sim (src_rng 0 j) h
        rw [Int.sub_zero] at this
        exact this
      · exact h.elim
    · exact h.elim
theorem ti_range2 {a b : Expr} {ms : M (List A)} {p pos : Pos} (hm : X.mg "range" = none) (ha : PA X [a, b] (uA B ms)) (hg : Gl X "range" := by rfl) (hs : starEach [a, b] X.env = [(false, eval a X.env), (false, eval b X.env)] := by rfl)
    (hs2 : starEach [b] X.env = [(false, eval b X.env)] := by rfl) : PI X tg (.Call (.Name "range" p) [a, b] [] pos) (uI B (itR2 ms)) :=
  PI.imp (pi_range2 hg hm ha hs hs2) fun σ H R' h => by
    obtain ⟨ρ, μ, G, Θ, ok, h⟩ := h
    refine (bnd (rel2 := relI B.W) ok h).mono fun x H1 ⟨a1, μ1, G1, Θ1, n1, ok1, r1, h⟩ => ?_
    split at h
    · rename_i i j
      split at h
      · rename_i hb
        unfold RB at hb
        obtain ⟨v, w, rfl, r, r'⟩ := r1.two
        cases r; cases r'
        exact ⟨i, j, rfl, ⟨by omega, by omega, by omega, by omega⟩, px_ok (rel := relI B.W) ok1.sim (src_rng i j) h⟩
      · exact h.elim
    · exact h.elim
end
end U
noncomputable section
namespace U
open PySem PySem.Spec PyProof.Rows L2
open T (PE.imp PT.imp PW.imp PA.imp PS.imp PSs.imp PI.imp PI.or PG.imp PGs.imp RB)

/-! ### targets -/
abbrev Bt := A → Rho → Option Rho
abbrev Bts := List A → Rho → Option Rho
def gB (B : Bs) (ws : List Nat) (bt : Bt) : TG := fun v σ H Q => ∃ ρ μ G Θ a, Ok B ρ μ G σ Θ H ∧ Rel B.W μ G v a ∧ ∃ ρ', bt a ρ = some ρ' ∧ ∀ σ', Ok B ρ' μ G σ' Θ H → σ'.length = σ.length → (∀ (j : Nat), j ∉ ws → σ'[j]? = σ[j]?) → Q σ' H
def gBs (B : Bs) (ws : List Nat) (bt : Bts) : TGs := fun vs σ H Q => ∃ ρ μ G Θ as, Ok B ρ μ G σ Θ H ∧ Rels B.W μ G vs as ∧ ∃ ρ', bt as ρ = some ρ' ∧ ∀ σ', Ok B ρ' μ G σ' Θ H → σ'.length = σ.length → (∀ (j : Nat), j ∉ ws → σ'[j]? = σ[j]?) → Q σ' H
@[simp] def bName (i : Nat) : Bt := fun a ρ => if i < ρ.length then some (ρ.set i (some a)) else none
@[simp] def bTup (bts : Bts) : Bt := fun a ρ => match a with
  | .tup xs => bts xs ρ
  | _ => none
@[simp] def bNil : Bts := fun as ρ => match as with
  | [] => some ρ
  | _ => none
@[simp] def bCons (b : Bt) (bs : Bts) : Bts := fun as ρ => match as with
  | a :: as => match b a ρ with | some ρ1 => bs as ρ1 | none => none
  | [] => none
structure BtOk (ws : List Nat) (bt : Bt) : Prop where
  len : ∀ d ρ ρ', bt d ρ = some ρ' → ρ'.length = ρ.length
  out : ∀ d ρ ρ', bt d ρ = some ρ' → ∀ (j : Nat), j ∉ ws → ρ'[j]? = ρ[j]?
structure BtsOk (ws : List Nat) (bt : Bts) : Prop where
  len : ∀ d ρ ρ', bt d ρ = some ρ' → ρ'.length = ρ.length
  out : ∀ d ρ ρ', bt d ρ = some ρ' → ∀ (j : Nat), j ∉ ws → ρ'[j]? = ρ[j]?
theorem bto_name {i : Nat} : BtOk [i] (bName i) :=
  ⟨fun d ρ ρ' e => by unfold bName at e; split at e <;> cases e; simp, fun d ρ ρ' e j hj => by
    unfold bName at e; split at e <;> cases e
    rw [List.getElem?_set_ne (by simpa using fun e => hj (by simp [e]))]⟩
theorem btos_nil : BtsOk [] bNil := ⟨fun d ρ ρ' e => by cases d <;> cases e; rfl, fun d ρ ρ' e j hj => by cases d <;> cases e; rfl⟩
theorem btos_cons {w ws : List Nat} {b : Bt} {bs : Bts} (h1 : BtOk w b) (h2 : BtsOk ws bs) : BtsOk (w ++ ws) (bCons b bs) := by
  have key : ∀ d ρ ρ', bCons b bs d ρ = some ρ' → ∃ a as ρ1, b a ρ = some ρ1 ∧ bs as ρ1 = some ρ' := fun d ρ ρ' e => by
    cases d with
    | nil => cases e
    | cons a as =>
      unfold bCons at e
      dsimp only at e
      split at e
      · rename_i ρ1 q; exact ⟨a, as, ρ1, q, e⟩
      · cases e
  refine ⟨fun d ρ ρ' e => ?_, fun d ρ ρ' e j hj => ?_⟩
  · obtain ⟨a, as, ρ1, e1, e2⟩ := key d ρ ρ' e
    rw [h2.len _ _ _ e2, h1.len _ _ _ e1]
  · obtain ⟨a, as, ρ1, e1, e2⟩ := key d ρ ρ' e
    rw [List.mem_append, not_or] at hj
    rw [h2.out _ _ _ e2 j hj.2, h1.out _ _ _ e1 j hj.1]
theorem bto_tup {ws : List Nat} {bs : Bts} (h : BtsOk ws bs) : BtOk ws (bTup bs) :=
  ⟨fun d ρ ρ' e => (by unfold bTup at e; split at e; exact h.len _ _ _ e; cases e), fun d ρ ρ' e j hj => (by unfold bTup at e; split at e; exact h.out _ _ _ e j hj; cases e)⟩
section
variable {X : Cx} {B : Bs} {pos : Pos}
theorem tg_name {i : Nat} {x : Str} (hN : X.N.Nodup) (hi : X.N[i]? = some x) (hx : Loc X.env.scope x) (hf : X.fn x = true ∨ X.env.scope.names.lookup x = some .local := by first | exact .inl rfl | exact .inr rfl | assumption) : PG X (.Name x pos) (gB B [i] (bName i)) :=
  PG.imp (pg_name hN hi hx hf) fun v σ H Q h => by
    obtain ⟨ρ, μ, G, Θ, d, ok, r, ρ', e, h⟩ := h
    unfold bName at e
    split at e
    · rename_i hi
      cases e
      exact h _ (ok.put hi r) (by simp) fun j hj => by rw [List.getElem?_set_ne (by simpa using fun e => hj (by simp [e]))]
    · cases e
theorem tgs_nil : PGs X [] (gBs B [] bNil) := PGs.imp pgs_nil fun vs σ H Q h => by
  obtain ⟨ρ, μ, G, Θ, ds, ok, r, ρ', e, h⟩ := h
  cases r with
  | nil => cases e; exact ⟨rfl, h σ ok rfl fun _ _ => rfl⟩
  | cons _ _ => cases e
theorem tgs_cons {e : Expr} {es : List Expr} {w ws : List Nat} {b : Bt} {bs : Bts} (h1 : PG X e (gB B w b)) (h2 : PGs X es (gBs B ws bs))
    (hs : (assignEach (e :: es) X.env).map (·.2) = assign e X.env :: (assignEach es X.env).map (·.2) := by rfl) : PGs X (e :: es) (gBs B (w ++ ws) (bCons b bs)) := PGs.imp (pgs_cons h1 h2 hs) fun vs σ H Q h => by
  obtain ⟨ρ, μ, G, Θ, ds, ok, r, ρ', e, h⟩ := h
  cases r with
  | nil => cases e
  | cons r t =>
    rename_i v vs d ds
    refine ⟨v, vs, rfl, ?_⟩
    unfold bCons at e
    dsimp only at e
    split at e
    · rename_i ρ1 e1
      refine ⟨ρ, μ, G, Θ, d, ok, r, ρ1, e1, fun σ1 ok1 l1 k1 => ⟨ρ1, μ, G, Θ, ds, ok1, t, ρ', e, fun σ2 ok2 l2 k2 => h σ2 ok2 (l2.trans l1) fun j hj => ?_⟩⟩
      rw [List.mem_append, not_or] at hj
      rw [k2 j hj.2, k1 j hj.1]
    · cases e
theorem tg_tup {es : List Expr} {k : Nat} {ws : List Nat} {bts : Bts} {n : Nat} (hc : X.calm = true) (h : PGs X es (gBs B ws bts)) (hlen : ∀ ds ρ ρ', bts ds ρ = some ρ' → ds.length = n)
    (hn : (assignEach es X.env).length = n := by rfl) (hst : (assignEach es X.env).findIdx? (·.1) = none := by rfl) : PG X (.Tuple es k pos) (gB B ws (bTup bts)) := PG.imp (pg_tup hc h hn hst) fun v σ H Q h => by
  obtain ⟨ρ, μ, G, Θ, d, ok, r, ρ', e, h⟩ := h
  unfold bTup at e
  split at e
  · cases r with
    | tup ea rs => exact ⟨_, _, rfl, SqT.of (ok.sim.gh _ _ ea), by rw [rs.length]; exact hlen _ _ _ e, ρ, μ, G, Θ, _, ok, rs, ρ', e, h⟩
  · cases e
theorem bl_nil : ∀ ds ρ ρ', bNil ds ρ = some ρ' → ds.length = 0 := fun ds ρ ρ' e => by cases ds <;> cases e; rfl
theorem bl_cons {b : Bt} {bs : Bts} {n : Nat} (h : ∀ ds ρ ρ', bs ds ρ = some ρ' → ds.length = n) : ∀ ds ρ ρ', bCons b bs ds ρ = some ρ' → ds.length = n + 1 := fun ds ρ ρ' e => by
  cases ds with
  | nil => cases e
  | cons d ds =>
    unfold bCons at e
    dsimp only at e
    split at e
    · rw [List.length_cons, h _ _ _ e]
    · cases e
end

/-! ### for -/
def loop (bt : Bt) (b : Sm) (s : Src) : List A → Sm
  | [], ρ, Θ => if s.now Θ then .ok .next ρ Θ else .stuck
  | d :: ds, ρ, Θ => if s.now Θ then (match bt d ρ with
    | some ρ1 => (b ρ1 Θ).then fun f ρ2 Θ2 => match f with
      | .next => loop bt b s ds ρ2 Θ2
      | .cont => loop bt b s ds ρ2 Θ2
      | .brk => .ok .next ρ2 Θ2
      | .ret r => .ok (.ret r) ρ2 Θ2
    | none => .stuck) else .stuck
@[simp] def sFor (it : M Src) (bt : Bt) (b : Sm) : Sm := fun ρ Θ => (it ρ Θ).bindS ρ fun s Θ1 => loop bt b s s.xs ρ Θ1
@[simp] def sAsg (bt : Bt) (m : M A) : Sm := fun ρ Θ => (m ρ Θ).bindS ρ fun a Θ1 => match bt a ρ with
  | some ρ1 => .ok .next ρ1 Θ1
  | none => .stuck
def loopW (t : M Bool) (b : Sm) : Nat → Sm
  | 0, _, _ => .stuck
  | n + 1, ρ, Θ => (t ρ Θ).bindS ρ fun p Θ1 => if p = true then (b ρ Θ1).then fun f ρ2 Θ2 => (match f with
      | .next => loopW t b n ρ2 Θ2
      | .cont => loopW t b n ρ2 Θ2
      | .brk => .ok .next ρ2 Θ2
      | .ret r => .ok (.ret r) ρ2 Θ2) else .ok .next ρ Θ1
section
variable {X : Cx} {B : Bs} {tg iter : Expr} {body : List Stmt} {it : M Src} {bt : Bt} {b : Sm} {ws : List Nat} {pos : Pos}
theorem ts_for (hp : PassesOwn (model X.prog X.w) X.A X.env X.xe) (hc : X.calm = true) (hi : PI X tg iter (uI B it)) (hg : PG X tg (gB B ws bt)) (hb : PSs X body (uS B b))
    (hs : ∀ x, foldedSetIterable iter X.env x = pure x := by intro _; rfl) : PS X (.For tg iter body [] pos) (uS B (sFor it bt b)) := PS.imp (ps_for hp hc hi hg hb hs) fun E σ H h => by
  obtain ⟨ρ, μ, G, Θ, ok, h⟩ := h
  unfold sFor at h
  refine (bndS (rel := relI B.W) ok h).mono fun J H1 ⟨s, μ1, G1, Θ1, n1, ok1, src, h⟩ => ?_
  refine ⟨fun i m σ H => m = s.xs.length - i ∧ i ≤ s.xs.length ∧ ∃ ρ μ G Θ, Nx μ1 G1 μ G ∧ Ok B ρ μ G σ Θ H ∧ PS' B μ G E (loop bt b s (s.xs.drop i) ρ Θ), ⟨s.xs.length, rfl, Nat.zero_le _, ρ, μ1, G1, Θ1, Nx.refl _ _, ok1, h⟩, ?_⟩
  rintro i m σ2 H2 ⟨rfl, hl, ρ2, μ2, G2, Θ2, n2, ok2, h2⟩
  by_cases nw : s.now Θ2
  · obtain ⟨go, stop⟩ := src i μ2 G2 Θ2 H2 n2 ok2.sim nw
    cases q : s.xs[i]? with
    | none =>
      have hle : s.xs.length ≤ i := List.getElem?_eq_none_iff.mp q
      rw [List.drop_eq_nil_of_le hle] at h2
      unfold loop at h2
      rw [if_pos nw] at h2
      exact .inl ⟨stop hle, ps_nx ok2 h2⟩
    | some d =>
      obtain ⟨g1, g2⟩ := go d q
      have hlt : i < s.xs.length := (List.getElem?_eq_some_iff.mp q).1
      have hd : s.xs.drop i = d :: s.xs.drop (i + 1) := by
        rw [List.drop_eq_getElem_cons hlt]
        have := (List.getElem?_eq_some_iff.mp q).2
        rw [this]
      rw [hd] at h2
      unfold loop at h2
      rw [if_pos nw] at h2
      refine .inr ⟨g1, fun σ' H' => ∃ ρ μ G Θ, Nx μ1 G1 μ G ∧ Ok B ρ μ G σ' Θ H' ∧ PS' B μ G E (loop bt b s (s.xs.drop (i + 1)) ρ Θ), fun σ' H' n => ⟨s.xs.length - (i + 1), by omega, rfl, hlt, n⟩, fun x H' y => ?_⟩
      obtain ⟨G3, n3, s3, rx⟩ := g2 x H' y
      have h2 := PS'.mono n3 h2
      cases e3 : bt d ρ2 with
      | none => rw [e3] at h2; exact (show False from h2).elim
      | some ρ3 =>
        rw [e3] at h2
        refine ⟨ρ2, μ2, G3, Θ2, d, ok2.to n3 s3, rx, ρ3, e3, fun σ3 ok3 _ _ => ⟨ρ3, μ2, G3, Θ2, ok3, ?_⟩⟩
        dsimp only at h2
        cases e4 : b ρ3 Θ2 with
        | exc c fs ρ4 Θ4 => rw [e4] at h2; exact h2
        | stuck => rw [e4] at h2; exact h2
        | ok f ρ4 Θ4 =>
          rw [e4] at h2
          cases f with
          | next => exact fun σ' μ' G' H' m o => ⟨ρ4, μ', G', Θ4, (n2.trans n3).trans m, o, PS'.mono m h2⟩
          | cont => exact fun σ' μ' G' H' m o => ⟨ρ4, μ', G', Θ4, (n2.trans n3).trans m, o, PS'.mono m h2⟩
          | brk => exact h2
          | ret r => exact h2
  · have : False := by
      cases q : s.xs.drop i with
      | nil => rw [q] at h2; unfold loop at h2; rw [if_neg nw] at h2; exact h2
      | cons d ds => rw [q] at h2; unfold loop at h2; rw [if_neg nw] at h2; exact h2
    exact this.elim
theorem ts_asg {e : Expr} {m : M A} (he : PE X e (uR B m)) (hg : PG X tg (gB B ws bt)) (hs : swapsWithSole [tg] e pos.line X.env = pure false := by rfl) (hw : swappedStores [tg] e X.env = pure none := by rfl)
    (h1 : (assignEach [tg] X.env).map (·.2) = [assign tg X.env] := by rfl) : PS X (.Assign [tg] e pos) (uS B (sAsg bt m)) := PS.imp (ps_asg he hg hs hw h1) fun E σ H h => by
  obtain ⟨ρ, μ, G, Θ, ok, h⟩ := h
  refine (bndS ok h).mono fun x H1 ⟨a1, μ1, G1, Θ1, n1, ok1, r1, h⟩ => ?_
  split at h
  · rename_i ρ3 e3
    exact ⟨ρ, μ1, G1, Θ1, a1, ok1, r1, ρ3, e3, fun σ' ok' _ _ => ps_nx ok' h⟩
  · exact h.elim
theorem ts_while {c : Expr} {t : M Bool} (fuel : Nat) (hp : PassesOwn (model X.prog X.w) X.A X.env X.xe) (hc : PT X c (uT B t)) (hb : PSs X body (uS B b)) : PS X (.While c body [] pos) (uS B (loopW t b fuel)) := PS.imp (ps_while hp hc hb) fun E σ H h => by
  obtain ⟨ρ, μ, G, Θ, ok, h⟩ := h
  refine ⟨fun n σ H => ∃ ρ μ G Θ, Ok B ρ μ G σ Θ H ∧ PS' B μ G E (loopW t b n ρ Θ), ⟨fuel, ρ, μ, G, Θ, ok, h⟩, ?_⟩
  rintro n σ1 H1 ⟨ρ1, μ1, G1, Θ1, ok1, h1⟩
  cases n with
  | zero => exact h1.elim
  | succ n =>
    unfold loopW at h1
    refine (bndS (rel := relB) ok1 h1).mono fun x H2 ⟨a2, μ2, G2, Θ2, n2, ok2, r2, h2⟩ => ?_
    cases r2
    cases x with
    | false => exact iteF (ps_nx ok2 h2)
    | true =>
      refine iteT ⟨fun σ' H' => ∃ ρ μ G Θ, Ok B ρ μ G σ' Θ H' ∧ PS' B μ G E (loopW t b n ρ Θ), fun σ' H' h => ⟨n, Nat.lt_succ_self n, h⟩, ρ1, μ2, G2, Θ2, ok2, ?_⟩
      rw [if_pos rfl] at h2
      cases e4 : b ρ1 Θ2 with
      | exc c fs ρ4 Θ4 => rw [e4] at h2; exact h2
      | stuck => rw [e4] at h2; exact h2
      | ok f ρ4 Θ4 =>
        rw [e4] at h2
        cases f with
        | next => exact fun σ' μ' G' H' m o => ⟨ρ4, μ', G', Θ4, o, PS'.mono m h2⟩
        | cont => exact fun σ' μ' G' H' m o => ⟨ρ4, μ', G', Θ4, o, PS'.mono m h2⟩
        | brk => exact h2
        | ret r => exact h2
end
end U
noncomputable section
namespace U
open PySem PySem.Spec PyProof.Rows L2
open T (PE.imp PT.imp PW.imp PA.imp PS.imp PSs.imp Def)

/-! ### what a call is told of an exception; a def's promise -/
def ExV (W : Wd) (μ : Mu) (G : Hp) (c : Str) (fs : List (Str × A)) (e : Value) (od : Option Addr) (H : Hp) : Prop :=
  ∃ C, W.mg c = some (.ref C) ∧ e = .ref C ∧ ((fs = [] ∧ od = none) ∨ ∃ d vs, od = some d ∧ H d = some (.xd vs) ∧ Flds W μ G vs fs)
def PM (W : Wd) (μ : Mu) (G : Hp) (Q : VK) (E : XK) : R A → Prop
  | .ok a Θ' => ∀ v μ' G' H', Nx μ G μ' G' → Sim W μ' G' Θ' H' → Rel W μ' G' v a → Q v H'
  | .exc c fs Θ' => ∀ e od μ' G' H', Nx μ G μ' G' → Sim W μ' G' Θ' H' → ExV W μ' G' c fs e od H' → E e od H'
  | .stuck => False
abbrev Fn := List A → Th → R A
def spU (W : Wd) (n : Nat) (m : Fn) : Sp := fun vs H Q E => ∃ μ G Θ as, as.length = n ∧ Sim W μ G Θ H ∧ Rels W μ G vs as ∧ PM W μ G Q E (m as Θ)
theorem spU_len {W : Wd} {n : Nat} {m : Fn} {vs : List V} {H : Hp} {Q : VK} {E : XK} (h : spU W n m vs H Q E) : vs.length = n := by
  obtain ⟨μ, G, Θ, as, e, _, r, _⟩ := h
  rw [r.length, e]
@[simp] def start' (as : List A) (n : Nat) : Rho := as.map some ++ List.replicate (n - as.length) none
/-- a def's mirror: its body on the slots -/
@[simp] def fnM (n : Nat) (b : Sm) : Fn := fun as Θ => match b (start' as n) Θ with
  | .ok .next _ Θ' => .ok .non Θ'
  | .ok (.ret a) _ Θ' => .ok a Θ'
  | .exc c fs _ Θ' => .exc c fs Θ'
  | _ => .stuck
theorem start_ok {B : Bs} {μ : Mu} {G H : Hp} {Θ : Th} {as : List A} {vs : List V} {N : List Str} (s : Sim B.W μ G Θ H) (r : Rels B.W μ G vs as) (hl : vs.length ≤ N.length) : Ok B (start' as N.length) μ G (L2.start N vs) Θ H := by
  have hl2 := r.length
  refine ⟨?_, fun i a e => ?_, s⟩
  · unfold start' L2.start
    rw [List.length_append, List.length_append, List.length_map, List.length_map, List.length_replicate, List.length_replicate]
    omega
  · unfold start' at e
    by_cases hi : i < as.length
    · rw [List.getElem?_append_left (by simpa using hi), List.getElem?_map] at e
      cases q : as[i]? with
      | none => rw [q] at e; cases e
      | some d =>
        rw [q] at e; cases e
        obtain ⟨v, e3, r3⟩ := r.get q
        refine ⟨v, ?_, r3⟩
        unfold L2.start
        have hi : i < vs.length := (List.getElem?_eq_some_iff.mp e3).1
        rw [List.getElem?_append_left (by simpa using hi), List.getElem?_map, e3]
        rfl
    · rw [List.getElem?_append_right (by simpa using Nat.le_of_not_lt hi), List.getElem?_replicate] at e
      split at e <;> cases e
/-- how a context's exceptions are wished for -/
structure Link (X : Cx) (B : Bs) (W : WX) : Prop where
  w : B.W = ⟨X.K, X.mg⟩
  tk : Takes X W
  ex : ∀ σ μ G c fs Θ H e od, B.E σ μ G c fs Θ H → Sim B.W μ G Θ H → ExV B.W μ G c fs e od H → W e od σ H
structure Cal (P : Program) (w : World) (K : PySem.W.Frag) (mg : Str → Option Value) (base : Heap) (x : Str) (k n : Nat) (m : Fn) : Prop where
  ex : ∃ f fd ps, FnOk P w K mg base (L2.CX P w) k f fd ps (spU ⟨K, mg⟩ n m) ∧ mg x = some (.ref f) ∧ PySem.W.keepIn K (.ref f) = true ∧ Binds K fd ps []
/-- a body's mirror -/
def BodyOk (P : Program) (w : World) (K : PySem.W.Frag) (mg : Str → Option Value) (base : Heap) (x : Str) (st : Stmt) (N : List Str) (k : Nat) (b : Sm) : Prop :=
  ∀ (f : Addr) (cdv : Value) (A : Around) (outer : List PySem.Env) (s : Shared) (H : Hp) (B : Bs) (E : XK), Room k (A.deeper (envOfC x (defScope st) s.heap.objs.size f cdv)) →
      Link (cxOf (L2.CX P w) P w K mg base N x (defScope st) f cdv A outer s H E) B (fun cls d _ H => E cls d H) →
      PSs (cxOf (L2.CX P w) P w K mg base N x (defScope st) f cdv A outer s H E) (defBody st) (uS B b)
section
variable {P : Program} {w : World} {K : PySem.W.Frag} {mg : Str → Option Value} {base : Heap} {x : Str} {st : Stmt} {ps N : List Str}
theorem fn_okU {y : Str} {f : Addr} {fd : FuncData} {k n : Nat} {b : Sm} (F : Fun K y x st f fd) (S : FnScope N ps (defScope st)) (hn : ps.length = n) (hb : BodyOk P w K mg base x st N k b) : FnOk P w K mg base (L2.CX P w) (k + 1) f fd ps (spU ⟨K, mg⟩ n (fnM N.length b)) := by
  refine F.okX S (fun vs H Q E h => (spU_len h).trans hn.symm) fun cdv A outer s H vs Q E hr h => ?_
  have hvl := spU_len h
  obtain ⟨μ, G, Θ, as, ha, sm, r, h⟩ := h
  have hpl : ps.length ≤ N.length := by have := congrArg List.length S.pre; rw [List.length_take] at this; omega
  refine ⟨_, hb f cdv A outer s H ⟨⟨K, mg⟩, fun _ μ G c fs Θ H => Sim ⟨K, mg⟩ μ G Θ H → ∀ e od, ExV ⟨K, mg⟩ μ G c fs e od H → E e od H⟩ E hr ⟨rfl, takes_of rfl rfl rfl rfl, fun σ μ G c fs Θ H e od h s v => h s e od v⟩, _, μ, G, Θ, start_ok (N := N) sm r (by omega), ?_⟩
  unfold fnM at h
  cases e : b (start' as N.length) Θ with
  | stuck => rw [e] at h; exact h
  | exc c fs ρ' Θ' => rw [e] at h; exact fun σ' μ' G' H' n o s e od v => h e od μ' G' H' n s v
  | ok fl ρ' Θ' =>
    rw [e] at h
    cases fl with
    | next => exact fun σ' μ' G' H' n o => h .non μ' G' H' n o.sim .non
    | brk => exact h.elim
    | cont => exact h.elim
    | ret a => exact fun v μ' G' H' n s r => h v μ' G' H' n s r
theorem cal_mk {k n : Nat} {b : Sm} (d : Def K mg x st ps) (S : FnScope N ps (defScope st)) (hn : ps.length = n) (hb : BodyOk P w K mg base x st N k b) : Cal P w K mg base x (k + 1) n (fnM N.length b) := by
  obtain ⟨f, fd, F, m, bd⟩ := d.ex
  exact ⟨⟨f, fd, ps, fn_okU F S hn hb, m, F.kp, .all bd⟩⟩
end

/-! ### a call -/
@[simp] def eCall (m : Fn) (ms : M (List A)) : M A := fun ρ Θ => (ms ρ Θ).bind m
def Len (n : Nat) (ms : M (List A)) : Prop := ∀ ρ Θ a Θ', ms ρ Θ = .ok a Θ' → a.length = n
theorem len_nil : Len 0 aNil := fun ρ Θ a Θ' e => by cases e; rfl
theorem len_cons {n : Nat} {m : M A} {ms : M (List A)} (h : Len n ms) : Len (n + 1) (aCons m ms) := fun ρ Θ a Θ' e => by
  unfold aCons at e
  cases e1 : m ρ Θ with
  | exc c fs Θ1 => rw [e1] at e; cases e
  | stuck => rw [e1] at e; cases e
  | ok p Θ1 =>
    rw [e1] at e
    dsimp only [R.bind] at e
    cases e2 : ms ρ Θ1 with
    | exc c fs Θ1 => rw [e2] at e; cases e
    | stuck => rw [e2] at e; cases e
    | ok q Θ2 => rw [e2] at e; cases e; rw [List.length_cons, h _ _ _ _ e2]
section
variable {X : Cx} {B : Bs} {W : WX} {x : Str} {k j n : Nat} {m : Fn} {e : Expr} {es : List Expr} {ms : M (List A)} {p pos : Pos}
theorem call_read (L : Link X B W) (hl : Len n ms) {σ : L2.St} {H : Hp} {Q : VK} (h : uR B (eCall m ms) σ H Q) : uA B ms σ H fun vs H1 => spU B.W n m (vs ++ []) H1 Q (WE W σ) := by
  obtain ⟨ρ, μ, G, Θ, ok, h⟩ := h
  refine ⟨ρ, μ, G, Θ, ok, ?_⟩
  unfold eCall at h
  cases q : ms ρ Θ with
  | exc c fs Θ1 => rw [q] at h; exact h
  | stuck => rw [q] at h; exact h
  | ok as Θ1 =>
    rw [q] at h
    intro vs μ1 G1 H1 n1 s1 r1
    refine ⟨μ1, G1, Θ1, as, hl _ _ _ _ q, s1, by rw [List.append_nil]; exact r1, ?_⟩
    have h : PX (Rel B.W) B σ μ G Q (m as Θ1) := h
    have h := PX.mono n1 h
    cases q2 : m as Θ1 with
    | ok a Θ2 => rw [q2] at h; exact h
    | stuck => rw [q2] at h; exact h
    | exc c fs Θ2 => rw [q2] at h; exact fun e od μ' G' H' n2 s2 v => L.ex σ μ' G' c fs Θ2 H' e od (h μ' G' H' n2 s2) s2 v
/-- a call of a def of the text -/
theorem te_fn (L : Link X B W) (c : Cal X.prog X.w X.K X.mg X.base x k n m) (hr : Room j X.A) (hk : k ≤ j) (hl : Len n ms) (ha : PA X (e :: es) (uA B ms))
    (hg : Gl X x := by rfl) (hdb : (x == ("__debug__" : Str)) = false := by decide) (he : starEach (e :: es) X.env = (false, eval e X.env) :: starEach es X.env := by rfl) (hpl : (backTo pos (starEach es X.env)).any (·.1) = false := by rfl) :
    PE X (.Call (.Name x p) (e :: es) [] pos) (uR B (eCall m ms)) := by
  obtain ⟨f, fd, ps, F, hm, kp, hb⟩ := c.ex
  exact PE.imp (pe_callSD (E := WE W) (dvs := []) (ds := []) F (hr.mono hk) hg hm kp hb .nil (fun σ => passAt L.tk σ) ha hdb he hpl) fun σ H Q h => L.w ▸ call_read L hl h
end

/-! ### what a callee allocated and nobody holds -/
mutual
@[simp] def A.bd (k : Nat) : A → Bool
  | .loc n => decide (n < k)
  | .tup xs => A.bds k xs
  | .fl xs => A.bds k xs
  | .ob _ fs => A.bdf k fs
  | .exo _ fs => A.bdf k fs
  | _ => true
@[simp] def A.bds (k : Nat) : List A → Bool
  | [] => true
  | a :: as => a.bd k && A.bds k as
@[simp] def A.bdf (k : Nat) : List (Str × A) → Bool
  | [] => true
  | a :: as => a.2.bd k && A.bdf k as
end
section
variable {W : Wd} {μ μ' : Mu} {G G' : Hp}
mutual
theorem Rel.bd : ∀ {v : V} {a : A}, Rel W μ G v a → a.bd μ.length = true
  | _, _, .non => rfl
  | _, _, .bl _ => rfl
  | _, _, .int _ => rfl
  | _, _, .str _ => rfl
  | _, _, .ty _ => rfl
  | _, _, .glo _ => rfl
  | _, _, .scr _ => rfl
  | _, _, .tup e r => by rw [A.bd]; exact Rels.bd r
  | _, _, .fl e r => by rw [A.bd]; exact Rels.bd r
  | _, _, .ob m e r => by rw [A.bd]; exact Flds.bd r
  | _, _, .exo0 m e => by rw [A.bd]; rfl
  | _, _, .exo1 m e e2 r => by rw [A.bd]; exact Flds.bd r
  | _, _, .loc e => by rw [A.bd]; exact decide_eq_true (List.getElem?_eq_some_iff.mp e).1
theorem Rels.bd : ∀ {vs : List V} {as : List A}, Rels W μ G vs as → A.bds μ.length as = true
  | _, _, .nil => rfl
  | _, _, .cons r t => by rw [A.bds, Rel.bd r, Rels.bd t]; rfl
theorem Flds.bd : ∀ {vs : List (Str × V)} {as : List (Str × A)}, Flds W μ G vs as → A.bdf μ.length as = true
  | _, _, .nil => rfl
  | _, _, .cons r t => by rw [A.bdf, Rel.bd r, Flds.bd t]; rfl
end
mutual
theorem Rel.back {k : Nat} (h : ∀ (n : Nat) p, n < k → μ'[n]? = some p → μ[n]? = some p) : ∀ {v : V} {a : A}, Rel W μ' G v a → a.bd k = true → Rel W μ G v a
  | _, _, .non, _ => .non
  | _, _, .bl _, _ => .bl _
  | _, _, .int _, _ => .int _
  | _, _, .str _, _ => .str _
  | _, _, .ty _, _ => .ty _
  | _, _, .glo e, _ => .glo e
  | _, _, .scr e, _ => .scr e
  | _, _, .tup e r, b => .tup e (Rels.back h r (by rw [A.bd] at b; exact b))
  | _, _, .fl e r, b => .fl e (Rels.back h r (by rw [A.bd] at b; exact b))
  | _, _, .ob m e r, b => .ob m e (Flds.back h r (by rw [A.bd] at b; exact b))
  | _, _, .exo0 m e, _ => .exo0 m e
  | _, _, .exo1 m e e2 r, b => .exo1 m e e2 (Flds.back h r (by rw [A.bd] at b; exact b))
  | _, _, .loc e, b => .loc (h _ _ (by rw [A.bd] at b; exact of_decide_eq_true b) e)
theorem Rels.back {k : Nat} (h : ∀ (n : Nat) p, n < k → μ'[n]? = some p → μ[n]? = some p) : ∀ {vs : List V} {as : List A}, Rels W μ' G vs as → A.bds k as = true → Rels W μ G vs as
  | _, _, .nil, _ => .nil
  | _, _, .cons r t, b => by
    rw [A.bds, Bool.and_eq_true] at b
    exact .cons (Rel.back h r b.1) (Rels.back h t b.2)
theorem Flds.back {k : Nat} (h : ∀ (n : Nat) p, n < k → μ'[n]? = some p → μ[n]? = some p) : ∀ {vs : List (Str × V)} {as : List (Str × A)}, Flds W μ' G vs as → A.bdf k as = true → Flds W μ G vs as
  | _, _, .nil, _ => .nil
  | _, _, .cons r t, b => by
    rw [A.bdf, Bool.and_eq_true] at b
    exact .cons (Rel.back h r b.1) (Flds.back h t b.2)
end
theorem Prs.bd {κ : Type} : ∀ {vs : List (κ × V)} {as : List (κ × A)}, Prs W μ G vs as → as.all (fun p => p.2.bd μ.length) = true
  | _, _, .nil => rfl
  | _, _, .cons r t => by rw [List.all_cons, r.bd, Prs.bd t]; rfl
theorem Prs.back {κ : Type} {k : Nat} (h : ∀ (n : Nat) p, n < k → μ'[n]? = some p → μ[n]? = some p) : ∀ {vs : List (κ × V)} {as : List (κ × A)}, Prs W μ' G vs as → as.all (fun p => p.2.bd k) = true → Prs W μ G vs as
  | _, _, .nil, _ => .nil
  | _, _, .cons r t, b => by
    rw [List.all_cons, Bool.and_eq_true] at b
    exact .cons (r.back h b.1) (Prs.back h t b.2)
/-- the old cells as they were: the new ones are dropped -/
theorem Sim.drop {Θ Θ' : Th} {H H' : Hp} (s : Sim W μ G Θ H) (n : Nx μ G μ' G') (s' : Sim W μ' G' Θ' H') (e : Θ'.take Θ.length = Θ) : Sim W μ G' Θ H' ∧ Nx μ G μ G' := by
  have bk : ∀ (i : Nat) p, i < μ.length → μ'[i]? = some p → μ[i]? = some p := fun i p hi h => by
    have := n.pre i _ (List.getElem?_eq_getElem hi)
    rw [h] at this; cases this
    exact List.getElem?_eq_getElem hi
  have th : ∀ (i : Nat) c, Θ[i]? = some c → Θ'[i]? = some c := fun i c h => by
    have hi := (List.getElem?_eq_some_iff.mp h).1
    rw [← e, List.getElem?_take] at h
    rw [if_pos hi] at h; exact h
  have nx : Nx μ G μ G' := ⟨fun _ _ h => h, n.same⟩
  refine ⟨⟨s.len, s'.gh, fun i p c e1 e2 e3 => ?_, fun i p c e1 e2 e3 => s'.off i p c (n.pre _ _ e1) (th _ _ e2) e3, fun i j p c d e1 e2 e3 e4 e5 e6 => s'.inj i j p c d (n.pre _ _ e1) (n.pre _ _ e2) (th _ _ e3) (th _ _ e4) e5 e6⟩, nx⟩
  obtain ⟨o, h1, h2⟩ := s'.cell i p c (n.pre _ _ e1) (th _ _ e2) e3
  obtain ⟨o0, g1, g2⟩ := s.cell i p c e1 e2 e3
  refine ⟨o, h1, ?_⟩
  cases c with
  | lst xs => obtain ⟨ws, z1, z2⟩ := h2; obtain ⟨_, _, y⟩ := g2; exact ⟨ws, z1, z2.back bk y.bd⟩
  | obj c fs => obtain ⟨C, dx, ws, m, z1, z2⟩ := h2; obtain ⟨_, _, _, _, _, y⟩ := g2; exact ⟨C, dx, ws, m, z1, z2.back bk y.bd⟩
  | dct kvs => obtain ⟨ws, z1, z2⟩ := h2; obtain ⟨_, _, y⟩ := g2; exact ⟨ws, z1, z2.back bk y.bd⟩
  | dtu kvs => obtain ⟨ws, z1, z2⟩ := h2; obtain ⟨_, _, y⟩ := g2; exact ⟨ws, z1, z2.back bk y.bd⟩
  | gone => exact (e3 rfl).elim
end
instance : DecidableEq A := fun a b => Classical.propDecidable (a = b)
instance : DecidableEq Cell := fun a b => Classical.propDecidable (a = b)
/-- a result that holds none of the new cells, the old cells unchanged: the new ones go -/
@[simp] def tidy (Θ : Th) (x : R A) : R A := match x with
  | .ok a Θ' => if a.bd Θ.length = true ∧ Θ'.take Θ.length = Θ then .ok a Θ else .stuck
  | .exc c fs Θ' => if A.bdf Θ.length fs = true ∧ Θ'.take Θ.length = Θ then .exc c fs Θ else .stuck
  | .stuck => .stuck
@[simp] def gcP (m : Fn) : Fn := fun as Θ => tidy Θ (m as Θ)
/-- the result is a new list that holds none of the new cells -/
@[simp] def tidyL (Θ : Th) (x : R A) : R A := match x with
  | .ok (.loc n) Θ' => match Θ'[n]? with
    | some (.lst xs) => if Θ.length ≤ n ∧ A.bds Θ.length xs = true ∧ Θ'.take Θ.length = Θ then alloc (.lst xs) Θ else .stuck
    | _ => .stuck
  | .exc c fs Θ' => if A.bdf Θ.length fs = true ∧ Θ'.take Θ.length = Θ then .exc c fs Θ else .stuck
  | _ => .stuck
@[simp] def gcL (m : Fn) : Fn := fun as Θ => tidyL Θ (m as Θ)
section
variable {W : Wd} {n : Nat} {m : Fn} {vs : List V} {H : Hp} {Q : VK} {E : XK}
theorem ExV.back {μ μ' : Mu} {G : Hp} {k : Nat} (h : ∀ (n : Nat) p, n < k → μ'[n]? = some p → μ[n]? = some p) {c : Str} {fs : List (Str × A)} {e : Value} {od : Option Addr} (v : ExV W μ' G c fs e od H) (b : A.bdf k fs = true) : ExV W μ G c fs e od H := by
  obtain ⟨C, h1, h2, h3⟩ := v
  refine ⟨C, h1, h2, ?_⟩
  rcases h3 with h3 | ⟨d, ws, z1, z2, z3⟩
  · exact .inl h3
  · exact .inr ⟨d, ws, z1, z2, z3.back h b⟩
theorem nx_back {μ μ' : Mu} {G G' : Hp} (n : Nx μ G μ' G') (i : Nat) (p : Addr) (hi : i < μ.length) (h : μ'[i]? = some p) : μ[i]? = some p := by
  have := n.pre i _ (List.getElem?_eq_getElem hi)
  rw [h] at this; cases this
  exact List.getElem?_eq_getElem hi
theorem gcP_sp (h : spU W n (gcP m) vs H Q E) : spU W n m vs H Q E := by
  obtain ⟨μ, G, Θ, as, e1, s, r, h⟩ := h
  refine ⟨μ, G, Θ, as, e1, s, r, ?_⟩
  unfold gcP tidy at h
  cases q : m as Θ with
  | stuck => rw [q] at h; exact h
  | ok a Θ' =>
    rw [q] at h
    dsimp only at h
    split at h
    · rename_i c
      intro v μ' G' H' nx s' rv
      obtain ⟨s2, n2⟩ := s.drop nx s' c.2
      exact h v μ G' H' n2 s2 (rv.back (k := Θ.length) (fun i p hi => nx_back nx i p (by rw [s.len]; exact hi)) c.1)
    · exact h.elim
  | exc c fs Θ' =>
    rw [q] at h
    dsimp only at h
    split at h
    · rename_i c
      intro e od μ' G' H' nx s' rv
      obtain ⟨s2, n2⟩ := s.drop nx s' c.2
      exact h e od μ G' H' n2 s2 (rv.back (k := Θ.length) (fun i p hi => nx_back nx i p (by rw [s.len]; exact hi)) c.1)
    · exact h.elim
end
theorem Sim.add {W : Wd} {μ : Mu} {G : Hp} {Θ : Th} {H : Hp} (s : Sim W μ G Θ H) {p : Addr} {o : HO} {c : Cell} (hp : H p = some o) (hg : G p = none) (hc : Cont W μ G o c) (ne : ∀ (i : Nat) d, μ[i]? = some p → Θ[i]? = some d → d = .gone) : Sim W (μ ++ [p]) G (Θ ++ [c]) H := by
  have mu : ∀ {n : Nat} {q : Addr}, (μ ++ [p])[n]? = some q → μ[n]? = some q ∨ (n = μ.length ∧ q = p) := fun {n q} e => by
    rw [List.getElem?_append] at e
    split at e
    · exact .inl e
    · rename_i h
      rw [List.getElem?_singleton] at e
      split at e
      · cases e; exact .inr ⟨by omega, rfl⟩
      · cases e
  have th : ∀ {n : Nat} {d : Cell}, (Θ ++ [c])[n]? = some d → n < μ.length → Θ[n]? = some d := fun {n d} e h => by
    rw [List.getElem?_append_left (by rw [← s.len]; exact h)] at e; exact e
  have lt : ∀ {n : Nat} {q : Addr}, μ[n]? = some q → n < μ.length := fun {n q} e => (List.getElem?_eq_some_iff.mp e).1
  have last : ∀ {d : Cell}, (Θ ++ [c])[μ.length]? = some d → d = c := fun {d} e => by
    rw [s.len, List.getElem?_append_right (Nat.le_refl _), Nat.sub_self] at e
    cases e; rfl
  refine ⟨by rw [List.length_append, List.length_append, s.len]; rfl, s.gh, fun n q d e1 e2 e3 => ?_, fun n q d e1 e2 e3 => ?_, fun i j q d d' e1 e2 e3 e4 e5 e6 => ?_⟩
  · rcases mu e1 with h | ⟨k1, k2⟩
    · obtain ⟨u, h1, h2⟩ := s.cell n q d h (th e2 (lt h)) e3
      exact ⟨u, h1, h2.mono nx_push⟩
    · subst k1; subst k2
      cases last e2
      exact ⟨o, hp, hc.mono nx_push⟩
  · rcases mu e1 with h | ⟨k1, k2⟩
    · exact s.off n q d h (th e2 (lt h)) e3
    · rw [k2]; exact hg
  · rcases mu e1 with h | ⟨k1, k2⟩
    · rcases mu e2 with h' | ⟨k3, k4⟩
      · exact s.inj i j q d d' h h' (th e3 (lt h)) (th e4 (lt h')) e5 e6
      · rw [k4] at h; exact (e5 (ne i d h (th e3 (lt h)))).elim
    · rcases mu e2 with h' | ⟨k3, k4⟩
      · rw [k2] at h'; exact (e6 (ne j d' h' (th e4 (lt h')))).elim
      · rw [k1, k3]
theorem gcL_sp {W : Wd} {n : Nat} {m : Fn} {vs : List V} {H : Hp} {Q : VK} {E : XK} (h : spU W n (gcL m) vs H Q E) : spU W n m vs H Q E := by
  obtain ⟨μ, G, Θ, as, e1, s, r, h⟩ := h
  refine ⟨μ, G, Θ, as, e1, s, r, ?_⟩
  unfold gcL tidyL at h
  cases q : m as Θ with
  | stuck => rw [q] at h; exact h
  | ok a Θ' =>
    rw [q] at h
    cases a with
    | loc k =>
      dsimp only at h
      split at h
      · rename_i xs q2
        split at h
        · rename_i c
          intro v μ' G' H' nx s' rv
          obtain ⟨s2, n2⟩ := s.drop nx s' c.2.2
          have bk : ∀ (i : Nat) p, i < Θ.length → μ'[i]? = some p → μ[i]? = some p := fun i p hi => nx_back nx i p (by rw [s.len]; exact hi)
          cases rv with
          | @loc _ p hp =>
            obtain ⟨o, h1, ws, rfl, h2⟩ := s'.cell k p _ hp q2 (by intro z; cases z)
            have s3 := s2.add (c := .lst xs) h1 (s'.off k p _ hp q2 (by intro z; cases z)) ⟨ws, rfl, h2.back bk c.2.1⟩ fun i d g1 g2 => by
              have hi : i < μ.length := (List.getElem?_eq_some_iff.mp g1).1
              have g3 : Θ'[i]? = some d := by
                have hi2 : i < Θ.length := by rw [← s.len]; exact hi
                rw [← c.2.2, List.getElem?_take, if_pos hi2] at g2; exact g2
              by_cases z : d = .gone
              · exact z
              · have := s'.inj i k p d _ (nx.pre _ _ g1) hp g3 q2 z (by intro z; cases z)
                have := s.len
                omega
            have g4 : (μ ++ [p])[Θ.length]? = some p := by rw [← s.len, List.getElem?_append_right (Nat.le_refl _), Nat.sub_self]; rfl
            exact h _ _ G' H' (n2.trans nx_push) s3 (.loc g4)
        · exact h.elim
      · exact h.elim
    | _ => exact (show False from h).elim
  | exc c fs Θ' =>
    rw [q] at h
    dsimp only at h
    split at h
    · rename_i c
      intro e od μ' G' H' nx s' rv
      obtain ⟨s2, n2⟩ := s.drop nx s' c.2
      exact h e od μ G' H' n2 s2 (rv.back (k := Θ.length) (fun i p hi => nx_back nx i p (by rw [s.len]; exact hi)) c.1)
    · exact h.elim
theorem Cal.gcL {P : Program} {w : World} {K : PySem.W.Frag} {mg : Str → Option Value} {base : Heap} {x : Str} {k n : Nat} {m : Fn} (c : Cal P w K mg base x k n m) : Cal P w K mg base x k n (U.gcL m) := by
  obtain ⟨f, fd, ps, F, a, b, d⟩ := c.ex
  exact ⟨⟨f, fd, ps, F.imp fun _ _ _ _ h => gcL_sp h, a, b, d⟩⟩
theorem Cal.gcP {P : Program} {w : World} {K : PySem.W.Frag} {mg : Str → Option Value} {base : Heap} {x : Str} {k n : Nat} {m : Fn} (c : Cal P w K mg base x k n m) : Cal P w K mg base x k n (U.gcP m) := by
  obtain ⟨f, fd, ps, F, a, b, d⟩ := c.ex
  exact ⟨⟨f, fd, ps, F.imp fun _ _ _ _ h => gcP_sp h, a, b, d⟩⟩
end U
noncomputable section
namespace U
open PySem PySem.Spec PyProof.Rows L2
open T (PE.imp PT.imp PW.imp PA.imp PS.imp PSs.imp)

/-! ### methods of lists -/
abbrev Lm := Th → List A → List A → Option (A × List A)
@[simp] def eMeth (o : M A) (f : Lm) (ms : M (List A)) : M A := fun ρ Θ => (o ρ Θ).bind fun p Θ1 => match p with
  | .loc n => (match Θ1[n]? with
    | some (.lst _) => (ms ρ Θ1).bind fun as Θ2 => match Θ2[n]? with
      | some (.lst xs) => (match f Θ2 xs as with
        | some r => .ok r.1 (Θ2.set n (.lst r.2))
        | none => .stuck)
      | _ => .stuck
    | _ => .stuck)
  | _ => .stuck
def MtS (r : V → List V → Hp → VK → Prop) (f : Lm) : Prop := ∀ {W : Wd} {μ : Mu} {G H : Hp} {Θ : Th} {l : Addr} {vs : List V} {xs : List A} {avs : List V} {as : List A}, Sim W μ G Θ H → H l = some (.lst vs) → Rels W μ G vs xs → Rels W μ G avs as →
  ∀ d ys, f Θ xs as = some (d, ys) → ∃ v vs', Rel W μ G v d ∧ Rels W μ G vs' ys ∧ ∀ Q : VK, Q v (upd H l (.lst vs')) → r (.ref l) avs H Q
section
variable {X : Cx} {B : Bs} {e o : Expr} {es : List Expr} {ms : M (List A)} {mo : M A} {name : Str} {mid : String} {r : V → List V → Hp → VK → Prop} {f : Lm} {apos cpos : Pos}
theorem cell_lst {W : Wd} {μ : Mu} {G H : Hp} {Θ : Th} {n : Nat} {p : Addr} {xs : List A} (s : Sim W μ G Θ H) (e1 : μ[n]? = some p) (e2 : Θ[n]? = some (.lst xs)) : ∃ vs, H p = some (.lst vs) ∧ Rels W μ G vs xs := by
  obtain ⟨o, h1, vs, rfl, h2⟩ := s.cell n p _ e1 e2 (by intro z; cases z)
  exact ⟨vs, h1, h2⟩
theorem meth_end {σ : L2.St} {μ : Mu} {G H : Hp} {Θ : Th} {Q : VK} {n : Nat} {p : Addr} {avs : List V} {as : List A} (s : Sim B.W μ G Θ H) (hf : MtS r f) (ra : Rels B.W μ G avs as) (hp : μ[n]? = some p)
    (h : PX (Rel B.W) B σ μ G Q (match Θ[n]? with
      | some (.lst xs) => (match f Θ xs as with
        | some r => .ok r.1 (Θ.set n (.lst r.2))
        | none => .stuck)
      | _ => .stuck)) : r (.ref p) avs H Q := by
  split at h
  · rename_i xs e1
    obtain ⟨vs, h1, h2⟩ := cell_lst s hp e1
    split at h
    · rename_i q e2
      obtain ⟨d, ys⟩ := q
      obtain ⟨v, vs', rv, rvs, k⟩ := hf s h1 h2 ra d ys e2
      exact k Q (px_ok (s.set (d := .lst ys) hp e1 (by intro z; cases z) ⟨vs', rfl, rvs⟩) rv h)
    · exact h.elim
  · exact h.elim
theorem te_meth (hf : MtS r f) (he : PE X (.Call (.Attribute o name apos) (e :: es) [] cpos) (tBM X.K "list" r (uR B mo) (uA B ms))) : PE X (.Call (.Attribute o name apos) (e :: es) [] cpos) (uR B (eMeth mo f ms)) := PE.imp he fun σ H Q h => by
  obtain ⟨ρ, μ, G, Θ, ok, h⟩ := h
  refine (bnd ok h).mono fun x H1 ⟨a1, μ1, G1, Θ1, n1, ok1, r1, h⟩ => ?_
  split at h
  · rename_i n
    split at h
    · rename_i xs0 e0
      cases r1 with
      | @loc _ p hp =>
        obtain ⟨vs0, g1, _⟩ := cell_lst ok1.sim hp e0
        refine ⟨.inl ⟨rfl, _, .inl (.inl g1)⟩, ?_⟩
        refine (bnd ok1 h).mono fun avs H2 ⟨as, μ2, G2, Θ2, n2, ok2, ra, h⟩ => ?_
        exact meth_end ok2.sim hf ra (n2.pre _ _ hp) h
    · exact h.elim
  · exact h.elim
theorem te_meth0 (hf : MtS r f) (he : PE X (.Call (.Attribute o name apos) [] [] cpos) (tBM0 X.K "list" r (uR B mo))) : PE X (.Call (.Attribute o name apos) [] [] cpos) (uR B (eMeth mo f aNil)) := PE.imp he fun σ H Q h => by
  obtain ⟨ρ, μ, G, Θ, ok, h⟩ := h
  refine (bnd ok h).mono fun x H1 ⟨a1, μ1, G1, Θ1, n1, ok1, r1, h⟩ => ?_
  split at h
  · rename_i n
    split at h
    · rename_i xs0 e0
      cases r1 with
      | @loc _ p hp =>
        obtain ⟨vs0, g1, _⟩ := cell_lst ok1.sim hp e0
        exact ⟨.inl ⟨rfl, _, .inl (.inl g1)⟩, meth_end ok1.sim hf .nil hp h⟩
    · exact h.elim
  · exact h.elim
@[simp] def fApp : Lm := fun _ xs as => match as with
  | [d] => if xs.length < 16777216 then some (.non, xs ++ [d]) else none
  | _ => none
@[simp] def fExt : Lm := fun Θ xs as => match as with
  | [d] => (match lsOf Θ d with | some ys => if xs.length + ys.length ≤ 16777216 then some (.non, xs ++ ys) else none | none => none)
  | _ => none
@[simp] def fPop : Lm := fun _ xs as => match as with
  | [] => (match xs[xs.length - 1]? with | some d => some (d, xs.dropLast) | none => none)
  | _ => none
@[simp] def fPopAt : Lm := fun _ xs as => match as with
  | [.int i] => @ite (Option (A × List A)) (0 ≤ i ∧ i < 9223372036854775808 ∧ i < xs.length) (Classical.propDecidable _) (match xs[i.toNat]? with | some d => some (d, xs.eraseIdx i.toNat) | none => none) none
  | _ => none
@[simp] def fClear : Lm := fun _ xs as => match as with
  | [] => some (.non, [])
  | _ => none
theorem ms_app : MtS rAppend fApp := by
  intro W μ G H Θ l vs xs avs as s hl r ra d ys e
  unfold fApp at e
  split at e
  · split at e
    · rename_i h
      cases e
      obtain ⟨v, rfl, r1⟩ := ra.one
      exact ⟨.non, _, .non, r.append (.cons r1 .nil), fun Q q => ⟨l, vs, _, rfl, rfl, hl, by rw [r.length, sizeLine_eq]; exact h, q⟩⟩
    · cases e
  · cases e
theorem ms_ext : MtS rExtend fExt := by
  intro W μ G H Θ l vs xs avs as s hl r ra d ys e
  unfold fExt at e
  split at e
  · split at e
    · rename_i zs ez
      split at e
      · rename_i h
        cases e
        obtain ⟨v, rfl, r1⟩ := ra.one
        obtain ⟨p, ws, rfl, hp, rp⟩ := ls_of s r1 ez
        exact ⟨.non, _, .non, r.append rp, fun Q q => ⟨l, _, vs, _, rfl, rfl, hl, hp, by rw [r.length, rp.length, sizeLine_eq]; exact h, q⟩⟩
      · cases e
    · cases e
  · cases e
theorem ms_pop : MtS rPop fPop := by
  intro W μ G H Θ l vs xs avs as s hl r ra d ys e
  unfold fPop at e
  split at e
  · split at e
    · rename_i d' h
      cases e
      cases ra
      obtain ⟨v, h1, h2⟩ := r.get h
      exact ⟨v, _, h2, r.dropLast, fun Q q => ⟨l, vs, v, rfl, rfl, hl, by rw [r.length]; exact h1, q⟩⟩
    · cases e
  · cases e
theorem ms_popAt : MtS rPopAt fPopAt := by
  intro W μ G H Θ l vs xs avs as s hl r ra d ys e
  unfold fPopAt at e
  split at e
  · rename_i i
    split at e
    · rename_i hb
      split at e
      · rename_i d' h
        cases e
        obtain ⟨w, rfl, r1⟩ := ra.one
        cases r1
        obtain ⟨v, h1, h2⟩ := r.get h
        refine ⟨v, _, h2, r.eraseIdx i.toNat, fun Q q => ⟨l, vs, i, i.toNat, v, rfl, rfl, hl, by omega, by omega, ?_, h1, q⟩⟩
        exact seqIndex_of hb.1 (by rw [r.length]; exact hb.2.2)
      · cases e
    · cases e
  · cases e
theorem ms_clear : MtS rClear fClear := by
  intro W μ G H Θ l vs xs avs as s hl r ra d ys e
  unfold fClear at e
  split at e
  · cases e; cases ra; exact ⟨.non, [], .non, .nil, fun Q q => ⟨l, vs, rfl, rfl, hl, q⟩⟩
  · cases e
end

/-! ### o[i] = e -/
@[simp] def sSub (o mi m : M A) : Sm := fun ρ Θ => (m ρ Θ).bindS ρ fun d Θ1 => (o ρ Θ1).bindS ρ fun p Θ2 => (mi ρ Θ2).bindS ρ fun k Θ3 => match p, k with
  | .loc n, .int z => (match Θ3[n]? with
    | some (.lst xs) => (match ixN xs.length z with | some j => .ok .next ρ (Θ3.set n (.lst (xs.set j d))) | none => .stuck)
    | _ => .stuck)
  | _, _ => .stuck
section
variable {X : Cx} {B : Bs} {e o ie : Expr} {m mi mo : M A} {pos spos : Pos}
theorem ts_sub (h : PS X (.Assign [.Subscript o ie spos] e pos) (tAsg (uR B m) (gSub (uR B mo) (uR B mi) rSetL))) : PS X (.Assign [.Subscript o ie spos] e pos) (uS B (sSub mo mi m)) := PS.imp h fun E σ H h => by
  obtain ⟨ρ, μ, G, Θ, ok, h⟩ := h
  refine (bndS ok h).mono fun x H1 ⟨a1, μ1, G1, Θ1, n1, ok1, r1, h⟩ => ?_
  refine (bndS ok1 h).mono fun y H2 ⟨a2, μ2, G2, Θ2, n2, ok2, r2, h⟩ => ?_
  refine (bndS ok2 h).mono fun z H3 ⟨a3, μ3, G3, Θ3, n3, ok3, r3, h⟩ => ?_
  split at h
  · split at h
    · rename_i xs e1
      split at h
      · rename_i j e2
        cases r2 with
        | @loc _ p hp =>
          cases r3
          have hp3 := n3.pre _ _ hp
          obtain ⟨vs, g1, g2⟩ := cell_lst ok3.sim hp3 e1
          refine ⟨p, vs, _, j, rfl, rfl, g1, by rw [g2.length]; exact e2, ?_⟩
          have s' := ok3.sim.set hp3 e1 (d := .lst (xs.set j a1)) (by intro z; cases z) ⟨vs.set j x, rfl, g2.set j (r1.mono (n2.trans n3))⟩
          exact ps_nx (ok3.to (Nx.refl _ _) s') h
      · exact h.elim
    · exact h.elim
  · exact h.elim
end

/-! ### attributes -/
def KlOk (X : Cx) (kl : Str → Str → Bool) : Prop := ∀ c f, kl c f = true → ∀ C, X.mg c = some (.ref C) → Cls X.K C ∧ NoAttr X.K C f
def putA (f : Str) (a : A) : List (Str × A) → List (Str × A)
  | [] => [(f, a)]
  | (g, x) :: r => if g = f then (g, a) :: r else (g, x) :: putA f a r
theorem Flds.put {W : Wd} {μ : Mu} {G : Hp} {f : Str} {v : V} {a : A} (r : Rel W μ G v a) : ∀ {vs : List (Str × V)} {as : List (Str × A)}, Flds W μ G vs as → Flds W μ G (putF f v vs) (putA f a as)
  | _, _, .nil => .cons r .nil
  | _, _, .cons (f := g) q t => by
    unfold putF putA
    by_cases h : g = f
    · rw [if_pos h, if_pos h]; exact .cons r t
    · rw [if_neg h, if_neg h]; exact .cons q (Flds.put r t)
theorem Flds.length {W : Wd} {μ : Mu} {G : Hp} : ∀ {vs : List (Str × V)} {as : List (Str × A)}, Flds W μ G vs as → vs.length = as.length
  | _, _, .nil => rfl
  | _, _, .cons _ t => congrArg (· + 1) t.length
/-- the class and the fields of an object -/
def objOf (Θ : Th) : A → Option (Str × List (Str × A))
  | .loc n => match Θ[n]? with | some (.obj c fs) => some (c, fs) | _ => none
  | .ob c fs => some (c, fs)
  | _ => none
@[simp] theorem objOf_ob (Θ : Th) (c : Str) (fs : List (Str × A)) : objOf Θ (.ob c fs) = some (c, fs) := rfl
@[simp] theorem objOf_loc (Θ : Th) (n : Nat) : objOf Θ (.loc n) = (match Θ[n]? with | some (.obj c fs) => some (c, fs) | _ => none) := rfl
@[simp] def eFld (kl : Str → Str → Bool) (f : Str) (o : M A) : M A := fun ρ Θ => (o ρ Θ).bind fun p Θ1 => match objOf Θ1 p with
  | some (c, fs) => if kl c f = true then (match fs.lookup f with | some d => .ok d Θ1 | none => .stuck) else .stuck
  | none => .stuck
@[simp] def sFldA (kl : Str → Str → Bool) (f : Str) (o m : M A) : Sm := fun ρ Θ => (m ρ Θ).bindS ρ fun d Θ1 => (o ρ Θ1).bindS ρ fun p Θ2 => match p with
  | .loc n => (match Θ2[n]? with
    | some (.obj c fs) => if kl c f = true ∧ fs.length < 1000 then .ok .next ρ (Θ2.set n (.obj c (putA f d fs))) else .stuck
    | _ => .stuck)
  | _ => .stuck
section
variable {X : Cx} {B : Bs} {o value : Expr} {f : Str} {pos pos' : Pos} {m mo : M A} {kl : Str → Str → Bool}
theorem obj_of {W : Wd} {μ : Mu} {G : Hp} {Θ : Th} {H : Hp} {v : V} {a : A} {c : Str} {fs : List (Str × A)} (s : Sim W μ G Θ H) (r : Rel W μ G v a) (e : objOf Θ a = some (c, fs)) : ∃ p C dx vs, v = .ref p ∧ W.mg c = some (.ref C) ∧ H p = some (.ins C dx vs) ∧ Flds W μ G vs fs := by
  cases r with
  | loc h =>
    rename_i n p
    unfold objOf at e
    dsimp only at e
    split at e
    · rename_i c' fs' q
      cases e
      obtain ⟨o, h1, C, dx, vs, m, rfl, h2⟩ := s.cell n p _ h q (by intro z; cases z)
      exact ⟨p, C, dx, vs, rfl, m, h1, h2⟩
    · cases e
  | ob m h r => cases e; exact ⟨_, _, _, _, rfl, m, s.gh _ _ h, r⟩
  | _ => cases e
theorem te_fld (hW : B.W = ⟨X.K, X.mg⟩) (hk : KlOk X kl) (he : PE X o (uR B mo)) (hb : attributeBase o f X.env (eval o X.env) = eval o X.env := by rfl) : PE X (.Attribute o f pos) (uR B (eFld kl f mo)) := PE.imp (pe_fld he hb) fun σ H Q h => by
  obtain ⟨ρ, μ, G, Θ, ok, h⟩ := h
  refine (bnd ok h).mono fun x H1 ⟨a1, μ1, G1, Θ1, n1, ok1, r1, h⟩ => ?_
  split at h
  · rename_i c fs e1
    split at h
    · rename_i hc
      split at h
      · rename_i d e2
        obtain ⟨p, C, dx, vs, rfl, hm, hp, rf⟩ := obj_of ok1.sim r1 e1
        obtain ⟨v, g1, g2⟩ := (rf.lookup (f := f)).1 d e2
        rw [hW] at hm
        obtain ⟨k1, k2⟩ := hk c f hc C hm
        exact ⟨p, C, dx, vs, v, rfl, hp, k1, k2, g1, px_ok ok1.sim g2 h⟩
      · exact h.elim
    · exact h.elim
  · exact h.elim
theorem ts_fld (hW : B.W = ⟨X.K, X.mg⟩) (hk : KlOk X kl) (ho : PE X o (uR B mo)) (hv : PE X value (uR B m)) (hs : swapsWith value (some (.Attribute o f pos')) pos.line X.env = pure false := by rfl) : PS X (.Assign [.Attribute o f pos'] value pos) (uS B (sFldA kl f mo m)) := PS.imp (ps_fld ho hv hs) fun E σ H h => by
  obtain ⟨ρ, μ, G, Θ, ok, h⟩ := h
  refine (bndS ok h).mono fun y H1 ⟨a1, μ1, G1, Θ1, n1, ok1, r1, h⟩ => ?_
  refine (bndS ok1 h).mono fun x H2 ⟨a2, μ2, G2, Θ2, n2, ok2, r2, h⟩ => ?_
  split at h
  · split at h
    · rename_i c fs e1
      split at h
      · rename_i hc
        cases r2 with
        | @loc _ p hp =>
          obtain ⟨o, h1, C, dx, vs, hm, rfl, h2⟩ := ok2.sim.cell _ p _ hp e1 (by intro z; cases z)
          have hm' := hm
          rw [hW] at hm'
          obtain ⟨k1, k2⟩ := hk c f hc.1 C hm'
          refine ⟨p, C, dx, vs, rfl, h1, k1, k2, by rw [h2.length]; exact hc.2, ?_⟩
          have s' := ok2.sim.set hp e1 (d := .obj c (putA f a1 fs)) (by intro z; cases z) ⟨C, dx, _, hm, rfl, h2.put (r1.mono n2)⟩
          exact ps_nx (ok2.to (Nx.refl _ _) s') h
      · exact h.elim
    · exact h.elim
  · exact h.elim
end
end U
noncomputable section
namespace U
open PySem PySem.Spec PyProof.Rows L2
open T (PE.imp PT.imp PW.imp PA.imp PS.imp PSs.imp)

/-! ### a value frozen: a ghost step behind an expression -/
@[simp] def frzOf (a : A) (Θ : Th) : R A := match a with
  | .loc n => (match Θ[n]? with
    | some (.lst xs) => .ok (.fl xs) (Θ.set n .gone)
    | some (.obj c fs) => .ok (.ob c fs) (Θ.set n .gone)
    | _ => .stuck)
  | a => .ok a Θ
@[simp] def eFrz (m : M A) : M A := fun ρ Θ => (m ρ Θ).bind frzOf
section
variable {X : Cx} {B : Bs} {e : Expr} {m : M A}
theorem te_frz (h : PE X e (uR B m)) : PE X e (uR B (eFrz m)) := PE.imp h fun σ H Q h => by
  obtain ⟨ρ, μ, G, Θ, ok, h⟩ := h
  refine (bnd ok h).mono fun x H1 ⟨a1, μ1, G1, Θ1, n1, ok1, r1, h⟩ => ?_
  unfold frzOf at h
  split at h
  · rename_i n
    cases r1 with
    | @loc _ p hp =>
      split at h
      · rename_i xs e1
        obtain ⟨o, h1, vs, rfl, h2⟩ := ok1.sim.cell _ p _ hp e1 (by intro z; cases z)
        obtain ⟨s2, n2⟩ := ok1.sim.freeze hp e1 (by intro z; cases z) h1
        exact px_ok s2 (.fl upd_same (h2.mono n2)) (PX.mono n2 h)
      · rename_i c fs e1
        obtain ⟨o, h1, C, dx, vs, hm, rfl, h2⟩ := ok1.sim.cell _ p _ hp e1 (by intro z; cases z)
        obtain ⟨s2, n2⟩ := ok1.sim.freeze hp e1 (by intro z; cases z) h1
        exact px_ok s2 (.ob hm upd_same (h2.mono n2)) (PX.mono n2 h)
      · exact h.elim
  · exact px_ok ok1.sim r1 h
end

/-! ### methods of the program's classes -/
/-- the method name, found from class c -/
structure CalM (P : Program) (w : World) (K : PySem.W.Frag) (mg : Str → Option Value) (base : Heap) (c name : Str) (k n : Nat) (m : Fn) : Prop where
  ex : ∃ C f fd ps, mg c = some (.ref C) ∧ Cls K C ∧ Meth K C name f ∧ FnOk P w K mg base (L2.CX P w) k f fd ps (spU ⟨K, mg⟩ n m) ∧ Binds K fd ps []
def tMethW (C : Addr) (m : Str) (sp : Sp) (E : L2.St → XK) (ta : TE) (t : TA) : TE := fun σ H Q => ta σ H fun x H1 => ∃ a dx fs, x = .ref a ∧ H1 a = some (.ins C dx fs) ∧ fs.lookup m = none ∧ t σ H1 fun vs H2 => sp (x :: vs) H2 Q (E σ)
section
variable {X : Cx} {CX : CXT} {k : Nat} {f C : Addr} {fd : FuncData} {ps : List Str} {sp : Sp} {E : L2.St → XK} {m : Str} {pos apos : Pos} {e o : Expr} {es : List Expr} {ta : TE} {t : TA}
theorem pe_methW {pl : Sem Bool} (ho : PE X o ta) (hc : Cls X.K C) (hm : Meth X.K C m f) (F : FnOk X.prog X.w X.K X.mg X.base CX k f fd ps sp) (hr : Room k X.A) (hb : Binds X.K fd ps []) (hx : ∀ σ, PassesAt CX X σ (E σ)) (ha : PA X (e :: es) t)
    (hst : starEach (e :: es) X.env = (false, eval e X.env) :: starEach es X.env := by rfl) (hpl : (backTo pos (starEach es X.env)).any (·.1) = false := by rfl)
    (ht : eval (.Call (.Attribute o m apos) (e :: es) [] pos) X.env = (do
      let w ← eval o X.env
      standAt apos.atName
      let (g, first) ← holding [w] (getMethod w m pl)
      callWith pos g first (backTo pos (starEach (e :: es) X.env)) (backToKw pos (keywordEach [] X.env))) := by rfl) : PE X (.Call (.Attribute o m apos) (e :: es) [] pos) (tMethW C m sp E ta t) := ⟨fun pins s σ H Q I h => by
  have st1 := ho.run pins s σ H _ I h
  refine PySem.W.methodCall_KW (pl := pl) (thn st1 fun u s1 hh => ?_) ht
  obtain ⟨x, H1, I1, rx, a, dx, fs, rfl, ea, l, q⟩ := hh
  cases (show u = Value.ref a from rx)
  have st2 := ha.run pos pins s1 σ H1 _ I1 q
  refine getmeth_ok I1 ea hc hm l (PySem.W.callWith_K (first := [.ref a]) (h₀ := X.base) I.ok.mod.kin hm.kp (thn st2 fun us s2 hh => ?_) hst hpl)
  obtain ⟨vs, H2, I2, r, q2⟩ := hh
  exact ⟨I2.kIn, run_fnSD (us := .ref a :: us) (vs := .ref a :: vs) (dvs := []) (ds := []) F hr hb .nil (hx σ) I2 (.cons rfl r) (by rw [List.append_nil]; exact q2)⟩⟩
theorem pe_methW0 {pl : Sem Bool} (ho : PE X o ta) (hc : Cls X.K C) (hm : Meth X.K C m f) (F : FnOk X.prog X.w X.K X.mg X.base CX k f fd ps sp) (hr : Room k X.A) (hb : Binds X.K fd ps []) (hx : ∀ σ, PassesAt CX X σ (E σ))
    (ht : eval (.Call (.Attribute o m apos) [] [] pos) X.env = (do
      let w ← eval o X.env
      standAt apos.atName
      let (g, first) ← holding [w] (getMethod w m pl)
      callWith pos g first (backTo pos (starEach [] X.env)) (backToKw pos (keywordEach [] X.env))) := by rfl) : PE X (.Call (.Attribute o m apos) [] [] pos) (tMethW C m sp E ta tNil) := ⟨fun pins s σ H Q I h => by
  have st1 := ho.run pins s σ H _ I h
  refine PySem.W.methodCall_KW (pl := pl) (thn st1 fun u s1 hh => ?_) ht
  obtain ⟨x, H1, I1, rx, a, dx, fs, rfl, ea, l, q⟩ := hh
  cases (show u = Value.ref a from rx)
  exact getmeth_ok I1 ea hc hm l (PySem.W.callWith_K0 (first := [.ref a]) I1.kIn hm.kp (run_fnSD (us := [.ref a]) (vs := [.ref a]) (dvs := []) (ds := []) F hr hb .nil (hx σ) I1 (.cons rfl .nil) (by rw [List.append_nil]; exact q)))⟩
end
/-- o.m(..): by the class of what o is -/
def eMth (tab : Str → Option Fn) (name : Str) (o : M A) (ms : M (List A)) : M A := fun ρ Θ => (o ρ Θ).bind fun p Θ1 => match objOf Θ1 p with
  | some (c, fs) => (match tab c with
    | some m => if (fs.lookup name).isNone = true then (ms ρ Θ1).bind fun as Θ2 => m (p :: as) Θ2 else .stuck
    | none => .stuck)
  | none => .stuck
section
variable {X : Cx} {B : Bs} {W : WX} {name : Str} {k j n : Nat} {tab : Str → Option Fn} {e o : Expr} {es : List Expr} {mo : M A} {ms : M (List A)} {pos apos : Pos}
theorem mth_read (L : Link X B W) (hl : Len n ms) {σ : L2.St} {H : Hp} {Q : VK} {C : Addr} {c : Str} {m : Fn} (hmg : X.mg c = some (.ref C)) (ht : tab c = some m) {ρ : Rho} {μ : Mu} {G : Hp} {Θ : Th} (ok : Ok B ρ μ G σ Θ H)
    {a : A} {Θ1 : Th} {fs : List (Str × A)} (q : mo ρ Θ = .ok a Θ1) (qo : objOf Θ1 a = some (c, fs)) (h : PX (Rel B.W) B σ μ G Q (eMth tab name mo ms ρ Θ)) : tMethW C name (spU B.W (n + 1) m) (WE W) (uR B mo) (uA B ms) σ H Q := by
  refine ⟨ρ, μ, G, Θ, ok, ?_⟩
  rw [q]
  intro x μ1 G1 H1 n1 s1 r1
  unfold eMth at h
  rw [q] at h
  dsimp only [R.bind] at h
  rw [qo] at h
  dsimp only at h
  rw [ht] at h
  dsimp only at h
  obtain ⟨p, C', dx, vs, rfl, hm', hp, rf⟩ := obj_of s1 r1 qo
  rw [L.w] at hm'
  have eC : C' = C := by
    have hm2 : X.mg c = some (.ref C') := hm'
    rw [hmg] at hm2; cases hm2; rfl
  subst eC
  split at h
  · rename_i hn
    refine ⟨p, dx, vs, rfl, hp, (rf.lookup (f := name)).2 (by simpa using hn), ?_⟩
    have h := PX.mono n1 h
    refine ⟨ρ, μ1, G1, Θ1, ok.to n1 s1, ?_⟩
    cases q2 : ms ρ Θ1 with
    | exc c fs Θ2 => rw [q2] at h; exact h
    | stuck => rw [q2] at h; exact h
    | ok as Θ2 =>
      rw [q2] at h
      intro ws μ2 G2 H2 n2 s2 r2
      refine ⟨μ2, G2, Θ2, a :: as, by rw [List.length_cons, hl _ _ _ _ q2], s2, .cons (r1.mono n2) r2, ?_⟩
      have h : PX (Rel B.W) B σ μ1 G1 Q (m (a :: as) Θ2) := h
      have h := PX.mono n2 h
      cases q3 : m (a :: as) Θ2 with
      | ok b Θ3 => rw [q3] at h; exact h
      | stuck => rw [q3] at h; exact h
      | exc c fs Θ3 => rw [q3] at h; exact fun e od μ' G' H' n3 s3 v => L.ex σ μ' G' c fs Θ3 H' e od (h μ' G' H' n3 s3) s3 v
  · exact h.elim
/-- where the receiver ends otherwise, nothing is to be shown of the call -/
theorem mth_cases {σ : L2.St} {H : Hp} {Q : VK} (h : uR B (eMth tab name mo ms) σ H Q) {t : TE} (hx : ∀ Q', (uR B mo) σ H Q' → (∀ v H', ¬ Q' v H') → t σ H Q)
    (hy : ∀ (c : Str) (m : Fn) ρ μ G Θ a Θ1 fs, Ok B ρ μ G σ Θ H → mo ρ Θ = .ok a Θ1 → objOf Θ1 a = some (c, fs) → tab c = some m → PX (Rel B.W) B σ μ G Q (eMth tab name mo ms ρ Θ) → t σ H Q) : t σ H Q := by
  obtain ⟨ρ, μ, G, Θ, ok, h⟩ := h
  cases q : mo ρ Θ with
  | stuck => have h2 := h; unfold eMth at h2; rw [q] at h2; exact h2.elim
  | exc c fs Θ' =>
    refine hx (fun _ _ => False) ⟨ρ, μ, G, Θ, ok, ?_⟩ fun _ _ z => z
    have h2 := h; unfold eMth at h2
    rw [q] at h2 ⊢; exact h2
  | ok a Θ1 =>
    have h2 := h; unfold eMth at h2
    rw [q] at h2
    dsimp only [R.bind] at h2
    cases q2 : objOf Θ1 a with
    | none => rw [q2] at h2; exact h2.elim
    | some p =>
      obtain ⟨c, fs⟩ := p
      rw [q2] at h2
      dsimp only at h2
      cases q3 : tab c with
      | none => rw [q3] at h2; exact h2.elim
      | some m => exact hy c m ρ μ G Θ a Θ1 fs ok q q2 q3 h
theorem PE.ex {X : Cx} {ι : Type} {e : Expr} {t : ι → TE} (h : ∀ i, PE X e (t i)) : PE X e (fun σ H Q => ∃ i, t i σ H Q) := ⟨fun pins s σ H Q I ⟨i, q⟩ => (h i).run pins s σ H Q I q⟩
theorem te_mth (L : Link X B W) (hc : ∀ c m, tab c = some m → CalM X.prog X.w X.K X.mg X.base c name k (n + 1) m) (c0 : ∃ c m, tab c = some m) (hr : Room j X.A) (hk : k ≤ j) (hl : Len n ms) (ho : PE X o (uR B mo)) (ha : PA X (e :: es) (uA B ms)) {pl : Sem Bool}
    (hst : starEach (e :: es) X.env = (false, eval e X.env) :: starEach es X.env := by rfl) (hpl : (backTo pos (starEach es X.env)).any (·.1) = false := by rfl)
    (ht : eval (.Call (.Attribute o name apos) (e :: es) [] pos) X.env = (do
      let w ← eval o X.env
      standAt apos.atName
      let (g, first) ← holding [w] (getMethod w name pl)
      callWith pos g first (backTo pos (starEach (e :: es) X.env)) (backToKw pos (keywordEach [] X.env))) := by rfl) : PE X (.Call (.Attribute o name apos) (e :: es) [] pos) (uR B (eMth tab name mo ms)) := by
  have fam : ∀ i : {p : Str × Fn // tab p.1 = some p.2}, PE X (.Call (.Attribute o name apos) (e :: es) [] pos) (fun σ H Q => ∃ C, X.mg i.1.1 = some (.ref C) ∧ tMethW C name (spU B.W (n + 1) i.1.2) (WE W) (uR B mo) (uA B ms) σ H Q) := fun i => by
    obtain ⟨C, f, fd, ps, h1, h2, h3, h4, h5⟩ := (hc _ _ i.2).ex
    exact PE.imp (pe_methW (pl := pl) (E := WE W) ho h2 h3 h4 (hr.mono hk) h5 (fun σ => passAt L.tk σ) ha hst hpl ht) fun σ H Q ⟨C', g1, g2⟩ => by
      have : C' = C := by rw [h1] at g1; cases g1; rfl
      subst this
      rw [L.w] at g2; rw [← L.w]; rw [L.w]; exact g2
  refine PE.imp (PE.ex fam) fun σ H Q h => ?_
  refine mth_cases (t := fun σ H Q => ∃ i : {p : Str × Fn // tab p.1 = some p.2}, ∃ C, X.mg i.1.1 = some (.ref C) ∧ tMethW C name (spU B.W (n + 1) i.1.2) (WE W) (uR B mo) (uA B ms) σ H Q) h (fun Q' h1 h2 => ?_) fun c m ρ μ G Θ a Θ1 fs ok q q2 q3 h => ?_
  · obtain ⟨c, m, hm⟩ := c0
    obtain ⟨C, _, _, _, g1, _⟩ := (hc _ _ hm).ex
    exact ⟨⟨(c, m), hm⟩, C, g1, h1.mono fun v H' z => (h2 v H' z).elim⟩
  · obtain ⟨C, _, _, _, g1, _⟩ := (hc _ _ q3).ex
    exact ⟨⟨(c, m), q3⟩, C, g1, mth_read L hl g1 q3 ok q q2 h⟩
theorem te_mth0 (L : Link X B W) (hc : ∀ c m, tab c = some m → CalM X.prog X.w X.K X.mg X.base c name k 1 m) (c0 : ∃ c m, tab c = some m) (hr : Room j X.A) (hk : k ≤ j) (ho : PE X o (uR B mo)) {pl : Sem Bool}
    (ht : eval (.Call (.Attribute o name apos) [] [] pos) X.env = (do
      let w ← eval o X.env
      standAt apos.atName
      let (g, first) ← holding [w] (getMethod w name pl)
      callWith pos g first (backTo pos (starEach [] X.env)) (backToKw pos (keywordEach [] X.env))) := by rfl) : PE X (.Call (.Attribute o name apos) [] [] pos) (uR B (eMth tab name mo aNil)) := by
  have fam : ∀ i : {p : Str × Fn // tab p.1 = some p.2}, PE X (.Call (.Attribute o name apos) [] [] pos) (fun σ H Q => ∃ C, X.mg i.1.1 = some (.ref C) ∧ tMethW C name (spU B.W (0 + 1) i.1.2) (WE W) (uR B mo) (uA B aNil) σ H Q) := fun i => by
    obtain ⟨C, f, fd, ps, h1, h2, h3, h4, h5⟩ := (hc _ _ i.2).ex
    exact PE.imp (pe_methW0 (pl := pl) (E := WE W) ho h2 h3 h4 (hr.mono hk) h5 (fun σ => passAt L.tk σ) ht) fun σ H Q ⟨C', g1, g2⟩ => by
      have : C' = C := by rw [h1] at g1; cases g1; rfl
      subst this
      refine uX.mono g2 fun x H1 ⟨a, dx, fs, z1, z2, z3, z4⟩ => ⟨a, dx, fs, z1, z2, z3, ?_⟩
      obtain ⟨ρ, μ, G, Θ, ok, z4⟩ := z4
      rw [← L.w]
      exact px_ok (rel := Rels B.W) ok.sim .nil z4
  refine PE.imp (PE.ex fam) fun σ H Q h => ?_
  refine mth_cases (t := fun σ H Q => ∃ i : {p : Str × Fn // tab p.1 = some p.2}, ∃ C, X.mg i.1.1 = some (.ref C) ∧ tMethW C name (spU B.W (0 + 1) i.1.2) (WE W) (uR B mo) (uA B aNil) σ H Q) h (fun Q' h1 h2 => ?_) fun c m ρ μ G Θ a Θ1 fs ok q q2 q3 h => ?_
  · obtain ⟨c, m, hm⟩ := c0
    obtain ⟨C, _, _, _, g1, _⟩ := (hc _ _ hm).ex
    exact ⟨⟨(c, m), hm⟩, C, g1, h1.mono fun v H' z => (h2 v H' z).elim⟩
  · obtain ⟨C, _, _, _, g1, _⟩ := (hc _ _ q3).ex
    exact ⟨⟨(c, m), q3⟩, C, g1, mth_read L len_nil g1 q3 ok q q2 h⟩
end
end U
noncomputable section
namespace U
open PySem PySem.Spec PyProof.Rows L2
open T (PE.imp PT.imp PW.imp PA.imp PS.imp PSs.imp)

/-! ### C(..): a new cell, then __init__ -/
/-- das: what the parameters left out are -/
structure Dfl (das : List A) (dvs : List V) (ds : List Value) : Prop where
  v : Vals dvs ds
  r : ∀ W μ G, Rels W μ G dvs das
theorem dfl_nil : Dfl [] [] [] := ⟨.nil, fun _ _ _ => .nil⟩
structure CalI (P : Program) (w : World) (K : PySem.W.Frag) (mg : Str → Option Value) (base : Heap) (c : Str) (k n : Nat) (das : List A) (m : Fn) : Prop where
  ex : ∃ C f fd ps dvs ds, mg c = some (.ref C) ∧ Mk K C f ∧ FnOk P w K mg base (L2.CX P w) k f fd ps (spU ⟨K, mg⟩ n m) ∧ Binds K fd ps ds ∧ Dfl das dvs ds
@[simp] def eNew (c : Str) (m : Fn) (das : List A) (ms : M (List A)) : M A := fun ρ Θ => (ms ρ Θ).bind fun as Θ1 => match m (.loc Θ1.length :: (as ++ das)) (Θ1 ++ [.obj c []]) with
  | .ok .non Θ2 => .ok (.loc Θ1.length) Θ2
  | _ => .stuck
section
variable {X : Cx} {B : Bs} {c : Str} {k j n : Nat} {m : Fn} {das : List A} {e : Expr} {es : List Expr} {ms : M (List A)} {p pos : Pos}
theorem make_read (hW : B.W = ⟨X.K, X.mg⟩) (hl : Len n ms) {C : Addr} (hm : X.mg c = some (.ref C)) {dvs : List V} (hd : ∀ W μ G, Rels W μ G dvs das) {σ : L2.St} {H : Hp} {Q : VK} (h : uR B (eNew c m das ms) σ H Q) :
    tMake C (spU ⟨X.K, X.mg⟩ (n + das.length + 1) m) dvs E0 (uA B ms) σ H Q := by
  obtain ⟨ρ, μ, G, Θ, ok, h⟩ := h
  refine ⟨ρ, μ, G, Θ, ok, ?_⟩
  unfold eNew at h
  cases q : ms ρ Θ with
  | exc c fs Θ2 => rw [q] at h; exact h
  | stuck => rw [q] at h; exact h
  | ok as Θ1 =>
    rw [q] at h
    intro vs μ1 G1 H1 n1 s1 r1 x dx hx hdx ne
    have sA : Sim B.W μ1 G1 Θ1 (upd H1 dx (.own x)) := s1.more hdx
    have hx2 : (upd H1 dx (.own x)) x = none := by rw [upd_ne (Ne.symm ne)]; exact hx
    have sB := sA.push (o := .ins C dx []) (c := .obj c []) hx2 ⟨C, dx, [], by rw [hW]; exact hm, rfl, .nil⟩
    have h : PX (Rel B.W) B σ μ G Q (match m (.loc Θ1.length :: (as ++ das)) (Θ1 ++ [.obj c []]) with
      | .ok .non Θ2 => .ok (.loc Θ1.length) Θ2
      | _ => .stuck) := h
    have h := PX.mono n1 h
    have e0 : (μ1 ++ [x])[Θ1.length]? = some x := by rw [← s1.len, List.getElem?_append_right (Nat.le_refl _), Nat.sub_self]; rfl
    refine ⟨μ1 ++ [x], G1, Θ1 ++ [.obj c []], .loc Θ1.length :: (as ++ das), ?_, hW ▸ sB, .cons (.loc e0) ((hW ▸ (r1.mono nx_push)).append (hd _ _ _)), ?_⟩
    · rw [List.length_cons, List.length_append, hl _ _ _ _ q]
    · cases q2 : m (.loc Θ1.length :: (as ++ das)) (Θ1 ++ [.obj c []]) with
      | stuck => rw [q2] at h; exact h
      | exc c fs Θ3 => rw [q2] at h; exact h.elim
      | ok b Θ3 =>
        rw [q2] at h
        cases b with
        | non =>
          intro v μ2 G2 H2 n2 s2 r2
          cases r2
          exact ⟨rfl, h _ μ2 G2 H2 (nx_push.trans n2) (hW ▸ s2) (.loc (n2.pre _ _ e0))⟩
        | _ => exact (show False from h).elim
theorem te_new (hW : B.W = ⟨X.K, X.mg⟩) (I : CalI X.prog X.w X.K X.mg X.base c k (n + das.length + 1) das m) (hr : Room j X.A) (hk : k + 1 ≤ j) (hl : Len n ms) (ha : PA X (e :: es) (uA B ms))
    (hg : Gl X c := by rfl) (hdb : (c == ("__debug__" : Str)) = false := by decide) (he : starEach (e :: es) X.env = (false, eval e X.env) :: starEach es X.env := by rfl) (hpl : (backTo pos (starEach es X.env)).any (·.1) = false := by rfl) :
    PE X (.Call (.Name c p) (e :: es) [] pos) (uR B (eNew c m das ms)) := by
  obtain ⟨C, f, fd, ps, dvs, ds, h1, h2, h3, h4, h5⟩ := I.ex
  exact PE.imp (pe_make (E := E0) h2 h3 (hr.mono hk) hg h1 h4 h5.v passL ha hdb he hpl) fun σ H Q h => make_read hW hl h1 h5.r h
theorem te_new0 (hW : B.W = ⟨X.K, X.mg⟩) (I : CalI X.prog X.w X.K X.mg X.base c k (0 + das.length + 1) das m) (hr : Room j X.A) (hk : k + 1 ≤ j)
    (hg : Gl X c := by rfl) (hdb : (c == ("__debug__" : Str)) = false := by decide) : PE X (.Call (.Name c p) [] [] pos) (uR B (eNew c m das aNil)) := by
  obtain ⟨C, f, fd, ps, dvs, ds, h1, h2, h3, h4, h5⟩ := I.ex
  refine PE.imp (pe_make0 (E := E0) h2 h3 (hr.mono hk) hg h1 h4 h5.v passL hdb) fun σ H Q h => ?_
  have h2 := make_read (C := C) (dvs := dvs) hW len_nil h1 h5.r h
  refine uX.mono (Q := _) (show uA B aNil σ H _ from h2) (fun vs H' z => z) |> fun z => ?_
  obtain ⟨ρ, μ, G, Θ, ok, z⟩ := z
  exact px_ok (rel := Rels B.W) ok.sim .nil z
end
end U
noncomputable section
namespace U
open PySem PySem.Spec PyProof.Rows L2
open T (PE.imp PT.imp PW.imp PA.imp PS.imp PSs.imp)

/-! ### raise C('..'), C a class of the program without its own __init__ -/
@[simp] def sRaise (c : Str) : Sm := fun ρ Θ => .exc c [] ρ Θ
theorem ts_raise {X : Cx} {B : Bs} {W : WX} {e : Expr} {c : Str} {C : Addr} {pos : Pos} (L : Link X B W) (hc : X.calm = true) (hm : X.mg c = some (.ref C)) (pm : PMk X e (fun _ H Q => Q (.ref C) none H)) : PS X (.Raise (some e) none pos) (uS B (sRaise c)) :=
  PS.imp (ps_raise hc L.tk pm) fun E σ H h => by
    obtain ⟨ρ, μ, G, Θ, ok, h⟩ := h
    exact L.ex σ μ G c [] Θ H _ none (h σ μ G H (Nx.refl _ _) ok) ok.sim ⟨C, by rw [L.w]; exact hm, rfl, .inl ⟨rfl, rfl⟩⟩

/-! ### a caught exception is a thing in the heap from its suite on -/
theorem inv_exo {X : Cx} {pins : List (Addr × Obj)} {σ : L2.St} {H : Hp} {s : Shared} {a : Addr} {oe : Obj} {vs : Array Value} {cls : Value} {d : Option Addr} (I : Inv X pins σ H s) (ha : s.heap.get? a = some oe) (hz : Zc cls d oe) (hd : oe.data = .fields vs)
    (na : H a = none) (nL : a ≠ X.env.locals) (n0 : X.s_0.heap.get? a = none) (np : ∀ p ∈ X.pn ++ pins, p.1 ≠ a) : Inv (X.suite a (X.pn ++ pins)) [] σ (upd H a (XO cls d a)) s where
  ok := I.ok.suite _ _
  os := I.os
  bare := I.bare
  base := {
    keep := I.base.keep
    slot := I.base.slot
    free := fun b o e n hx => by
      have nb : b ≠ a := fun z => by rw [z, n0] at e; cases e
      rw [upd_ne nb]; exact I.base.free b o e n hx
    there := I.base.there
    tups := fun b xs e => by
      have q := I.base.tups b xs e
      rw [upd_ne (ne_of_none q na)]; exact q
    frzs := fun b o u e => by
      have q := I.base.frzs b o u e
      rw [upd_ne (ne_of_none q na)]; exact q
    tbls := fun b ps e => by
      obtain ⟨more, q⟩ := I.base.tbls b ps e
      exact ⟨more, by rw [upd_ne (ne_of_none q na)]; exact q⟩ }
  loc := I.loc
  cell := I.cell
  free := by rw [upd_ne (fun z => nL z.symm)]; exact I.free
  freeC := fun x c e => by
    have nb : c ≠ a := fun z => by
      obtain ⟨v, o, h1, h2⟩ := I.cell x c e
      rw [z, ha] at h1; cases h1
      rw [hd] at h2; cases h2
    rw [upd_ne nb]; exact I.freeC x c e
  pin := fun p hp => by
    have hp' : p ∈ X.pn ++ pins := by rw [List.append_nil] at hp; exact hp
    obtain ⟨h1, h2, h3⟩ := I.pin p hp'
    exact ⟨h1, by rw [upd_ne (np p hp')]; exact h2, h3⟩
  hok := fun b u e => by
    by_cases hb : b = a
    · subst hb
      rw [upd_same] at e; cases e
      exact ⟨⟨oe, ha, hz, vs, hd⟩, ⟨oe, ha⟩, fun _ _ ⟨o, q, r⟩ k => ⟨o, k o q, r⟩⟩
    · rw [upd_ne hb] at e
      exact (I.hok b u e).stay (fun c v _ q => q) (fun c q => by rw [upd_ne (ne_of_none q na)]; exact q) fun c xs q => by rw [upd_ne (ne_of_none q na)]; exact q
  len := I.len
theorem inv_unsuite {X : Cx} {pins : List (Addr × Obj)} {σ : L2.St} {H : Hp} {s : Shared} {a : Addr} (I : Inv (X.suite a (X.pn ++ pins)) [] σ H s) (ok : X.Ok) : Inv X pins σ H s :=
  ⟨ok, I.os, I.bare, I.base, I.loc, I.cell, I.free, I.freeC, fun p hp => I.pin p (List.mem_append_left _ hp), I.hok, I.len⟩

/-! ### try with any clauses, each with or without a name -/
abbrev Clz := Value × Option Nat × (Addr → Value → Option Addr → TS)
@[reducible] def offE (D : L2.Ends) (i : Nat) : L2.Ends := { nx := fun σ H => D.nx (σ.set i none) H, rt := D.rt, bk := fun σ H => D.bk (σ.set i none) H, ct := fun σ H => D.ct (σ.set i none) H }
def wG (K : PySem.W.Frag) (Wo : WX) (D : L2.Ends) : List Clz → WX
  | [] => Wo
  | (cv, none, ts) :: r => fun cls d σ H => ∃ k, PySem.W.exmOne K cls cv = some k ∧ (k = true → ∀ a, H a = none → ts a cls d D σ H) ∧ (k = false → wG K Wo D r cls d σ H)
  | (cv, some i, ts) :: r => fun cls d σ H => ∃ k, PySem.W.exmOne K cls cv = some k ∧ (k = true → ∀ a, H a = none → ts a cls d (offE D i) (σ.set i (some (.ref a))) (upd H a (XO cls d a))) ∧ (k = false → wG K Wo D r cls d σ H)
inductive HdsG (X : Cx) : List ExceptHandler → List Clz → Prop
  | nil : HdsG X [] []
  | plain {x : Str} {c : Value} {ts : Addr → Value → Option Addr → TS} {b : Stmt} {su : List Stmt} {np p' : Pos} {hds : List ExceptHandler} {l : List Clz} (hc : Names X x c)
      (hsu : ∀ (a : Addr) (oe : Obj) (cls : Value) (d : Option Addr) (pn : List (Addr × Obj)), PSs (X.suite a ((a, oe) :: pn)) (b :: su) (ts a cls d)) (r : HdsG X hds l) : HdsG X (.ExceptHandler (some (.Name x np)) none (b :: su) p' :: hds) ((c, none, ts) :: l)
  | named {x n : Str} {i : Nat} {c : Value} {ts : Addr → Value → Option Addr → TS} {b : Stmt} {su : List Stmt} {np p' : Pos} {hds : List ExceptHandler} {l : List Clz} (hc : Names X x c) (hi : X.N[i]? = some n) (hk : X.env.kindOf n = some .local)
      (hsu : ∀ (a : Addr) (cls : Value) (d : Option Addr) (pn : List (Addr × Obj)), PSs (X.suite a pn) (b :: su) (ts a cls d)) (r : HdsG X hds l) : HdsG X (.ExceptHandler (some (.Name x np)) (some n) (b :: su) p' :: hds) ((c, some i, ts) :: l)
section
variable {X : Cx} {body els : List Stmt} {h0 : ExceptHandler} {hds : List ExceptHandler} {l : List Clz} {pos : Pos} {tb : WX → TS} {Wo : WX} {u : TS}
theorem ps_try_gen (hN : X.N.Nodup) (hex : X.ex = []) (ho : PSs X els u) (hst : X.stack = X.env :: X.outer) (hfm : X.env.frame = some X.env.locals) (tk : Takes X Wo)
    (hbd : ∀ (W : WX) (pn : List (Addr × Obj)) (xe : Value → Shared → Prop), Takes (X.tr pn xe) W → PSs (X.tr pn xe) body (tb W)) (hhs : HdsG X (h0 :: hds) l) :
    PS X (.Try body (h0 :: hds) els [] pos) (fun D σ H => tb (wG X.K Wo D l) { D with nx := u D } σ H) := by
  refine ⟨fun pins s σ H D I h => ?_⟩
  have okX := I.ok
  have hA : X.A.frames = some (X.env :: X.outer) := by rw [okX.frames, hst]
  refine wpAny_Try_except ?_
  let xe' : Value → Shared → Prop := fun e s1 => wpAny (model X.prog X.w) X.A (noteFrame e X.env)
    (fun _ s2 => wpAny (model X.prog X.w) X.A (setFlight e none) (fun _ s3 => wpAny (model X.prog X.w) X.A (handleBy e X.env (h0 :: hds)) (SP X pins D) X.xe s3) X.xe s2) X.xe s1
  have catch_ : ∀ v sv, XE (X.tr (X.pn ++ pins) xe') (wG X.K Wo D l) v sv → xe' v sv := by
    intro v sv xx
    obtain ⟨a, Bd, sI, pins1, σ1, H1, cls, d, rfl, J1, ground, up1, sky, na, os1, bare1, wish⟩ := xx
    have JI : Inv X pins σ1 H1 sI := J1.ofTry okX
    have sky1 : Sky Bd (X.env :: X.outer) a (Zc cls d) X.env.locals sv.heap := hst ▸ sky
    show wpAny (model X.prog X.w) X.A (noteFrame (.ref a) X.env) _ _ _
    refine Sky.land Zc.steady hA hfm sky1 fun hA3 fly up3 => ?_
    have J3 : Inv X pins σ1 H1 { sv with heap := hA3 } := JI.landed ground fly.1 (up1.trans up3) os1 bare1
    obtain ⟨o3, f3, get3, zc3, dat3⟩ := fly.there
    have nofr : ∀ {hh : Heap} {o : Obj} {fv : Array Value}, hh.FunFrames Bd (X.env :: X.outer) → hh.get? a = some o → o.data = .fields fv → a ∉ frs (X.env :: X.outer) := by
      intro hh o fv ff e1 e2 hm
      obtain ⟨_, o1, e3, hn⟩ := ff.mem hm
      rw [e1] at e3; cases e3
      exact hn _ e2
    have nfr := nofr fly.2.2.1 get3 dat3
    have nL : a ≠ X.env.locals := fun z => nfr (List.mem_filterMap.mpr ⟨X.env, List.mem_cons_self, z ▸ hfm⟩)
    have nF : a ∉ X.fs := fun hm => by
      obtain ⟨e, h1, h2⟩ := List.mem_filterMap.mp hm
      exact nfr (List.mem_filterMap.mpr ⟨e, List.mem_cons_of_mem _ h1, h2⟩)
    have nI : sI.heap.get? a = none := by
      cases q : sI.heap.get? a with
      | none => rfl
      | some o =>
        have := ground a o q (by show a ∉ frs X.stack; rw [hst]; exact nfr)
        rw [fly.2.1] at this; cases this
    have n0 : X.s_0.heap.get? a = none := by
      cases q : X.s_0.heap.get? a with
      | none => rfl
      | some o =>
        obtain ⟨o', q'⟩ := JI.base.there a o q (by rw [hex]; intro z; cases z)
        rw [nI] at q'; cases q'
    have npin : ∀ p ∈ X.pn ++ pins, p.1 ≠ a := fun p hp z => by
      have := (JI.pin p hp).1
      rw [z, nI] at this; cases this
    have S3 := J3.suite get3 dat3 na nL nF
    have go : ∀ {hs1 : List ExceptHandler} {l1 : List Clz}, HdsG X hs1 l1 → wG X.K Wo D l1 cls d σ1 H1 → wpAny (model X.prog X.w) X.A (handleBy (.ref a) X.env hs1) (SP X pins D) X.xe { sv with heap := hA3 } := by
      intro hs1 l1 hk
      have tst : ∀ {x : Str} {c : Value} {np : Pos} {Q : Value → Shared → Prop} {E : Value → Shared → Prop}, Names X x c → Q c { sv with heap := hA3 } → wpAny (model X.prog X.w) (X.A.mark (some (.ref a))) (eval (.Name x np) X.env) Q E { sv with heap := hA3 } := by
        intro x c np Q E hc q
        obtain ⟨g1, g2, g3 | ⟨g3, g4, g5⟩⟩ := hc
        · exact ld_glob (X := X.suite a ((a, o3) :: (X.pn ++ pins))) S3 g1 g3 q g2
        · exact ld_blt (X := X.suite a ((a, o3) :: (X.pn ++ pins))) S3 g1 g3 g4 q g5 g2
      have lk : PySem.W.Looks (model X.prog X.w) hA3 (typeOf (.ref a)) cls := fun A Q E s k q => wpAny_typeOf_ref (k _ _ get3) (zc3.1 ▸ q)
      induction hk with
      | nil =>
        intro w
        refine wpAny_handleBy_nil ?_
        obtain ⟨k1, k2, k3, oe, fv, T, oT, ts', g1, g2, g3, g4, g5⟩ := id fly
        unfold PySem.passOn
        refine wpAny_bind (wpAny_field g1 g3 g4 ?_)
        rw [if_neg (show ¬ ((Value.ref T == Value.none) = true) by simp)]
        have fin : wpAny (model X.prog X.w) X.A (setFlight (.ref a) X.env.frame) (fun _ s4 => wpAny (model X.prog X.w) X.A (throw (.ref a) : Sem Flow) (SP X pins D) X.xe s4) X.xe { sv with heap := hA3 } := by
          rw [hfm]
          exact HandSPX.setFlight_upZ fly fun h4 held up4 => wpAny_throw (tk _ _ ⟨a, Bd, sI, pins, σ1, H1, cls, d, rfl, JI, ground, (up1.trans up3).trans up4, .inr (.inr (hst ▸ held)), na, os1, bare1, w⟩)
        first | exact wpAny_bind (wpAny_pure (wpAny_bind fin)) | exact wpAny_bind fin
      | @plain x c ts b su np p' hds2 l2 hc hsu r ih =>
        intro w
        obtain ⟨k, hk1, yes, no⟩ := w
        refine wpAny_handleBy_cons (codeAny_handlers_test ?_) (by intro q; cases q)
        have LM := PySem.W.exm_one (M := model X.prog X.w) (J3.kIn) lk hk1
        refine tst hc (LM.here ?_)
        cases k with
        | false => exact ih (no rfl)
        | true =>
          refine codeAny_handlers_suite ?_
          refine HandSPX.lands_againZ fly fun h4 fly4 up4 => ?_
          have J4 : Inv X pins σ1 H1 { sv with heap := h4 } := JI.landed ground fly4.1 ((up1.trans up3).trans up4) os1 bare1
          obtain ⟨o4, f4, get4, zc4, dat4⟩ := fly4.there
          have S4 := J4.suite get4 dat4 na nL nF
          refine wpAny_mono ((hsu a o4 cls d (X.pn ++ pins)).run [] _ _ H1 _ S4 (yes rfl a na)) (fun f s6 q => ?_) fun _ _ z => z.elim
          cases f with
          | next => obtain ⟨σ6, H6, S6, q6⟩ := q; exact ⟨_, _, S6.unsuite okX, q6⟩
          | brk => obtain ⟨σ6, H6, S6, q6⟩ := q; exact ⟨_, _, S6.unsuite okX, q6⟩
          | cont => obtain ⟨σ6, H6, S6, q6⟩ := q; exact ⟨_, _, S6.unsuite okX, q6⟩
          | ret v => obtain ⟨v6, σ6, H6, S6, r6, q6⟩ := q; exact ⟨_, _, _, S6.unsuite okX, r6, q6⟩
      | @named x n i c ts b su np p' hds2 l2 hc hi hkd hsu r ih =>
        intro w
        obtain ⟨k, hk1, yes, no⟩ := w
        refine wpAny_handleBy_cons (codeAny_handlers_test ?_) (by intro q; cases q)
        have LM := PySem.W.exm_one (M := model X.prog X.w) (J3.kIn) lk hk1
        refine tst hc (LM.here ?_)
        cases k with
        | false => exact ih (no rfl)
        | true =>
          refine codeAny_handlers_suite_as ?_
          refine HandSPX.lands_againZ fly fun h4 fly4 up4 => ?_
          have J4 : Inv X pins σ1 H1 { sv with heap := h4 } := JI.landed ground fly4.1 ((up1.trans up3).trans up4) os1 bare1
          obtain ⟨o4, f4, get4, zc4, dat4⟩ := fly4.there
          have S4 := inv_exo J4 get4 zc4 dat4 na nL n0 npin
          refine store_ok (X := X.suite a (X.pn ++ pins)) (v := .ref a) S4 hN hi (.inl hkd) rfl (fun s5 S5 => ?_) (.inr hkd)
          refine wpAny_mono ((hsu a cls d (X.pn ++ pins)).run [] s5 _ _ _ S5 (yes rfl a na)) (fun f s6 q => ?_) fun _ _ z => z.elim
          have fin : ∀ {σ6 : L2.St} {H6 : Hp} {Q : Shared → Prop}, Inv (X.suite a (X.pn ++ pins)) [] σ6 H6 s6 → (∀ s7, Inv X pins (σ6.set i none) H6 s7 → Q s7) →
              wpAny (model X.prog X.w) X.A (do bindName X.env n .none; unbindBehindTheSuite X.env n p') (fun _ s7 => Q s7) X.xe s6 := fun S6 hq => gone_ok (inv_unsuite S6 okX) hN hi hkd hq
          cases f with
          | next => obtain ⟨σ6, H6, S6, q6⟩ := q; exact fin S6 fun s7 J7 => ⟨_, _, J7, q6⟩
          | brk => obtain ⟨σ6, H6, S6, q6⟩ := q; exact fin S6 fun s7 J7 => ⟨_, _, J7, q6⟩
          | cont => obtain ⟨σ6, H6, S6, q6⟩ := q; exact fin S6 fun s7 J7 => ⟨_, _, J7, q6⟩
          | ret v => obtain ⟨v6, σ6, H6, S6, r6, q6⟩ := q; exact fin S6 fun s7 J7 => ⟨_, _, _, J7, r6, q6⟩
    exact go hhs wish
  refine wpAny_mono ((hbd (wG X.K Wo D l) (X.pn ++ pins) xe' catch_).run [] s σ H { D with nx := u D } (I.toTry _) h) (fun f s1 q => ?_) (fun e s1 he => he)
  cases f with
  | next => obtain ⟨σ1, H1, J1, q⟩ := q; exact ho.run pins s1 σ1 H1 D (J1.ofTry okX) q
  | brk => obtain ⟨σ1, H1, J1, q⟩ := q; exact ⟨σ1, H1, J1.ofTry okX, q⟩
  | cont => obtain ⟨σ1, H1, J1, q⟩ := q; exact ⟨σ1, H1, J1.ofTry okX, q⟩
  | ret v => obtain ⟨v1, σ1, H1, J1, r1, q⟩ := q; exact ⟨v1, σ1, H1, J1.ofTry okX, r1, q⟩
end

/-! ### the mirror of try -/
abbrev ClM := (Str → Option Bool) × Option Nat × Sm
@[simp] def noX (x : RS) : RS := match x with
  | .exc _ _ _ _ => .stuck
  | r => r
@[simp] def offS (i : Nat) (x : RS) : RS := match x with
  | .ok (.ret a) ρ Θ => .ok (.ret a) ρ Θ
  | .ok f ρ Θ => .ok f (ρ.set i none) Θ
  | r => r
def handle : List ClM → Str → List (Str × A) → Sm
  | [], c, fs => fun ρ Θ => .exc c fs ρ Θ
  | (mt, io, s) :: r, c, fs => fun ρ Θ => match mt c with
    | some true => (match io with
      | none => noX (s ρ Θ)
      | some i => if i < ρ.length then offS i (noX (s (ρ.set i (some (.exo c fs))) Θ)) else .stuck)
    | some false => handle r c fs ρ Θ
    | none => .stuck
@[simp] theorem handle_nil (c : Str) (fs : List (Str × A)) (ρ : Rho) (Θ : Th) : handle [] c fs ρ Θ = .exc c fs ρ Θ := rfl
@[simp] theorem handle_cons (mt : Str → Option Bool) (io : Option Nat) (s : Sm) (r : List ClM) (c : Str) (fs : List (Str × A)) (ρ : Rho) (Θ : Th) : handle ((mt, io, s) :: r) c fs ρ Θ = (match mt c with
    | some true => (match io with
      | none => noX (s ρ Θ)
      | some i => if i < ρ.length then offS i (noX (s (ρ.set i (some (.exo c fs))) Θ)) else .stuck)
    | some false => handle r c fs ρ Θ
    | none => .stuck) := rfl
def sTry (hs : List ClM) (b o : Sm) : Sm := fun ρ Θ => match b ρ Θ with
  | .exc c fs ρ1 Θ1 => handle hs c fs ρ1 Θ1
  | .ok .next ρ1 Θ1 => o ρ1 Θ1
  | r => r
theorem sTry_def (hs : List ClM) (b o : Sm) (ρ : Rho) (Θ : Th) : sTry hs b o ρ Θ = (match b ρ Θ with
  | .exc c fs ρ1 Θ1 => handle hs c fs ρ1 Θ1
  | .ok .next ρ1 Θ1 => o ρ1 Θ1
  | r => r) := rfl
/-- what a clause's suite is in a context where nothing is let out -/
abbrev Bs.shut (B : Bs) : Bs := ⟨B.W, fun _ _ _ _ _ _ _ => False⟩
inductive HsOk (X : Cx) (B : Bs) : List ExceptHandler → List ClM → List Clz → Prop
  | nil : HsOk X B [] [] []
  | plain {x : Str} {cv : Value} {mt : Str → Option Bool} {s : Sm} {b : Stmt} {su : List Stmt} {np p' : Pos} {hds : List ExceptHandler} {hs : List ClM} {l : List Clz}
      (hc : Names X x cv) (hm : ∀ c k C, mt c = some k → X.mg c = some (.ref C) → PySem.W.exmOne X.K (.ref C) cv = some k)
      (hsu : ∀ (a : Addr) (oe : Obj) (pn : List (Addr × Obj)), PSs (X.suite a ((a, oe) :: pn)) (b :: su) (uS B.shut s)) (r : HsOk X B hds hs l) :
      HsOk X B (.ExceptHandler (some (.Name x np)) none (b :: su) p' :: hds) ((mt, none, s) :: hs) ((cv, none, fun _ _ _ => uS B.shut s) :: l)
  | named {x n : Str} {i : Nat} {cv : Value} {mt : Str → Option Bool} {s : Sm} {b : Stmt} {su : List Stmt} {np p' : Pos} {hds : List ExceptHandler} {hs : List ClM} {l : List Clz}
      (hc : Names X x cv) (hi : X.N[i]? = some n) (hk : X.env.kindOf n = some .local) (hm : ∀ c k C, mt c = some k → X.mg c = some (.ref C) → PySem.W.exmOne X.K (.ref C) cv = some k)
      (hsu : ∀ (a : Addr) (pn : List (Addr × Obj)), PSs (X.suite a pn) (b :: su) (uS B.shut s)) (r : HsOk X B hds hs l) :
      HsOk X B (.ExceptHandler (some (.Name x np)) (some n) (b :: su) p' :: hds) ((mt, some i, s) :: hs) ((cv, some i, fun _ _ _ => uS B.shut s) :: l)
/-- a thing in the heap that is no cell's is known for good -/
theorem Sim.know {W : Wd} {μ : Mu} {G : Hp} {Θ : Th} {H : Hp} (s : Sim W μ G Θ H) {p : Addr} {o : HO} (hp : H p = some o) (hno : ∀ (c : Cell), c ≠ .gone → ¬ Cont W μ G o c) : Sim W μ (upd G p o) Θ H ∧ Nx μ G μ (upd G p o) := by
  have nx : Nx μ G μ (upd G p o) := ⟨fun _ _ h => h, fun b u e => by
    by_cases z : b = p
    · subst z
      have := s.gh _ _ e
      rw [hp] at this; cases this; exact upd_same
    · rw [upd_ne z]; exact e⟩
  refine ⟨⟨s.len, fun a u e => ?_, fun n q c e1 e2 e3 => ?_, fun n q c e1 e2 e3 => ?_, s.inj⟩, nx⟩
  · by_cases z : a = p
    · subst z; rw [upd_same] at e; cases e; exact hp
    · rw [upd_ne z] at e; exact s.gh a u e
  · obtain ⟨u, h1, h2⟩ := s.cell n q c e1 e2 e3
    exact ⟨u, h1, h2.mono nx⟩
  · obtain ⟨u, h1, h2⟩ := s.cell n q c e1 e2 e3
    have nq : q ≠ p := fun z => by
      subst z
      rw [hp] at h1; cases h1
      exact hno c e3 h2
    rw [upd_ne nq]
    exact s.off n q c e1 e2 e3
theorem cont_xd {W : Wd} {μ : Mu} {G : Hp} {fs : List (Str × V)} : ∀ (c : Cell), c ≠ .gone → ¬ Cont W μ G (.xd fs) c
  | .lst xs, _, ⟨_, e, _⟩ => by cases e
  | .obj c fs, _, ⟨_, _, _, _, e, _⟩ => by cases e
  | .dct kvs, _, ⟨_, e, _⟩ => by cases e
  | .dtu kvs, _, ⟨_, e, _⟩ => by cases e
  | .gone, h, _ => h rfl
section
variable {X : Cx} {B : Bs} {W : WX}
theorem HsOk.hds {hds : List ExceptHandler} {hs : List ClM} {l : List Clz} (h : HsOk X B hds hs l) : HdsG X hds l := by
  induction h with
  | nil => exact .nil
  | plain hc hm hsu r ih => exact .plain hc (fun a oe _ _ pn => hsu a oe pn) ih
  | named hc hi hk hm hsu r ih => exact .named hc hi hk (fun a _ _ pn => hsu a pn) ih
theorem Ok.cast {B' : Bs} (e : B'.W = B.W) {ρ : Rho} {μ : Mu} {G : Hp} {σ : L2.St} {Θ : Th} {H : Hp} (ok : Ok B ρ μ G σ Θ H) : Ok B' ρ μ G σ Θ H := ⟨ok.len, fun i a q => by rw [e]; exact ok.sl i a q, by rw [e]; exact ok.sim⟩
section
variable {ρ : Rho} {μ : Mu} {G : Hp} {σ : L2.St} {Θ : Th} {H : Hp} {W' : WX}
theorem Ok.sh (ok : Ok B ρ μ G σ Θ H) : Ok B.shut ρ μ G σ Θ H := ⟨ok.len, ok.sl, ok.sim⟩
theorem Ok.unsh (ok : Ok B.shut ρ μ G σ Θ H) : Ok B ρ μ G σ Θ H := ⟨ok.len, ok.sl, ok.sim⟩
theorem Ok.trd (ok : Ok B ρ μ G σ Θ H) : Ok ⟨B.W, fun σ μ G c fs Θ H => ∀ e od, Sim B.W μ G Θ H → ExV B.W μ G c fs e od H → W' e od σ H⟩ ρ μ G σ Θ H := ⟨ok.len, ok.sl, ok.sim⟩
theorem Ok.untr (ok : Ok ⟨B.W, fun σ μ G c fs Θ H => ∀ e od, Sim B.W μ G Θ H → ExV B.W μ G c fs e od H → W' e od σ H⟩ ρ μ G σ Θ H) : Ok B ρ μ G σ Θ H := ⟨ok.len, ok.sl, ok.sim⟩
theorem Ok.unset {i : Nat} (ok : Ok B ρ μ G σ Θ H) : Ok B (ρ.set i none) μ G (σ.set i none) Θ H :=
  ⟨by rw [List.length_set, List.length_set]; exact ok.len, fun j a e => by
    rw [List.getElem?_set] at e
    split at e
    · split at e <;> cases e
    · rename_i h
      rw [List.getElem?_set_ne h]; exact ok.sl j a e, ok.sim⟩
end
theorem shut_ps {μ : Mu} {G : Hp} {E : L2.Ends} {x : RS} (h : PS' B μ G E (noX x)) : PS' B.shut μ G E x := by
  cases x with
  | ok f ρ' Θ' =>
    cases f with
    | next => exact fun σ' μ' G' H' n o => h σ' μ' G' H' n o.unsh
    | brk => exact fun σ' μ' G' H' n o => h σ' μ' G' H' n o.unsh
    | cont => exact fun σ' μ' G' H' n o => h σ' μ' G' H' n o.unsh
    | ret a => exact h
  | exc c fs ρ' Θ' => exact h.elim
  | stuck => exact h
theorem off_ps {μ : Mu} {G : Hp} {E : L2.Ends} {i : Nat} {x : RS} (h : PS' B μ G E (offS i x)) : PS' B μ G (offE E i) x := by
  cases x with
  | ok f ρ' Θ' =>
    cases f with
    | next => exact fun σ' μ' G' H' n o => h _ μ' G' H' n o.unset
    | brk => exact fun σ' μ' G' H' n o => h _ μ' G' H' n o.unset
    | cont => exact fun σ' μ' G' H' n o => h _ μ' G' H' n o.unset
    | ret a => exact h
  | exc c fs ρ' Θ' => exact h
  | stuck => exact h
theorem noX_off {i : Nat} {x : RS} : offS i (noX x) = noX (offS i x) := by
  cases x with
  | ok f ρ Θ => cases f <;> rfl
  | exc c fs ρ Θ => rfl
  | stuck => rfl
theorem hs_many (L : Link X B W) {E : L2.Ends} {hds : List ExceptHandler} {hs : List ClM} {l : List Clz} (k : HsOk X B hds hs l) {c : Str} {fs : List (Str × A)} {ρ : Rho} {μ : Mu} {G : Hp} {σ : L2.St} {Θ : Th} {H : Hp} (ok : Ok B ρ μ G σ Θ H)
    {e : Value} {od : Option Addr} (v : ExV B.W μ G c fs e od H) (h : PS' B μ G E (handle hs c fs ρ Θ)) : wG X.K W E l e od σ H := by
  induction k with
  | nil => exact L.ex σ μ G c fs Θ H e od (h σ μ G H (Nx.refl _ _) ok) ok.sim v
  | @plain x cv mt s b su np p' hds hs l hc hm hsu r ih =>
    obtain ⟨C, hC, rfl, _⟩ := id v
    rw [L.w] at hC
    unfold handle at h
    dsimp only at h
    cases q : mt c with
    | none => rw [q] at h; exact h.elim
    | some k =>
      rw [q] at h
      refine ⟨k, hm c k C q hC, fun hk a _ => ?_, fun hk => ?_⟩
      · subst hk
        exact ⟨ρ, μ, G, Θ, ok.sh, shut_ps h⟩
      · subst hk
        exact ih h
  | @named x n i cv mt s b su np p' hds hs l hc hi hkd hm hsu r ih =>
    obtain ⟨C, hC, rfl, hf⟩ := id v
    have hC' := hC
    rw [L.w] at hC
    unfold handle at h
    dsimp only at h
    cases q : mt c with
    | none => rw [q] at h; exact h.elim
    | some k =>
      rw [q] at h
      refine ⟨k, hm c k C q hC, fun hk a na => ?_, fun hk => ?_⟩
      · subst hk
        dsimp only at h
        split at h
        · rename_i hlen
          have fin : ∀ {G1 : Hp} (s1 : Sim B.W μ G1 Θ (upd H a (XO (.ref C) od a))) (n1 : Nx μ G μ G1), Rel B.W μ G1 (.ref a) (.exo c fs) → uS B.shut s (offE E i) (σ.set i (some (.ref a))) (upd H a (XO (.ref C) od a)) := fun s1 n1 r1 =>
            ⟨ρ.set i (some (.exo c fs)), μ, _, Θ, ((ok.to n1 s1).put hlen r1).sh, shut_ps (off_ps (PS'.mono n1 h))⟩
          have lay := ok.sim.lay (o := XO (.ref C) od a) na
          rcases hf with ⟨rfl, rfl⟩ | ⟨d, ws, rfl, hd, hw⟩
          · exact fin lay.1 lay.2 (.exo0 hC' upd_same)
          · have hd1 : (upd H a (XO (.ref C) (some d) a)) d = some (.xd ws) := by rw [upd_ne (ne_of_none hd na)]; exact hd
            have kn := lay.1.know hd1 cont_xd
            refine fin kn.1 (lay.2.trans kn.2) (.exo1 hC' ?_ upd_same (hw.mono (lay.2.trans kn.2)))
            exact kn.2.same _ _ upd_same
        · exact h.elim
      · subst hk
        exact ih h
/-- the body of a try, its exceptions wished for by W' -/
abbrev Bs.tr (B : Bs) (W' : WX) : Bs := ⟨B.W, fun σ μ G c fs Θ H => ∀ e od, Sim B.W μ G Θ H → ExV B.W μ G c fs e od H → W' e od σ H⟩
theorem Link.tr (L : Link X B W) {W' : WX} {pn : List (Addr × Obj)} {xe : Value → Shared → Prop} (tk : Takes (X.tr pn xe) W') : Link (X.tr pn xe) (B.tr W') W' :=
  ⟨L.w, tk, fun σ μ G c fs Θ H e od h s v => h e od s v⟩
theorem ts_try {hds : List ExceptHandler} {h₀ : ExceptHandler} {hs : List ClM} {l : List Clz} {body orelse : List Stmt} {b o : Sm} {pos : Pos} (L : Link X B W) (hN : X.N.Nodup) (hex : X.ex = []) (hst : X.stack = X.env :: X.outer) (hf : X.env.frame = some X.env.locals)
    (hb : ∀ (W' : WX) (pn : List (Addr × Obj)) (xe : Value → Shared → Prop), Link (X.tr pn xe) (B.tr W') W' → PSs (X.tr pn xe) body (uS (B.tr W') b)) (ho : PSs X orelse (uS B o)) (k : HsOk X B (h₀ :: hds) hs l) :
    PS X (.Try body (h₀ :: hds) orelse [] pos) (uS B (sTry hs b o)) :=
  PS.imp (ps_try_gen (tb := fun W' => uS (B.tr W') b) hN hex ho hst hf L.tk (fun W' pn xe tk => hb W' pn xe (L.tr tk)) k.hds) fun E σ H h => by
    obtain ⟨ρ, μ, G, Θ, ok, h⟩ := h
    refine ⟨ρ, μ, G, Θ, ok.trd, ?_⟩
    unfold sTry at h
    cases q : b ρ Θ with
    | stuck => rw [q] at h; exact h
    | exc c fs ρ1 Θ1 =>
      rw [q] at h
      exact fun σ' μ' G' H' n o' e od _ v => hs_many L k o'.untr v (PS'.mono n h)
    | ok f ρ1 Θ1 =>
      rw [q] at h
      cases f with
      | next => exact fun σ' μ' G' H' n o' => ⟨ρ1, μ', G', Θ1, o'.untr, PS'.mono n h⟩
      | brk => exact fun σ' μ' G' H' n o' => h σ' μ' G' H' n o'.untr
      | cont => exact fun σ' μ' G' H' n o' => h σ' μ' G' H' n o'.untr
      | ret a => exact h
end
end U
noncomputable section
namespace U
open PySem PySem.Spec PyProof.Rows L2
open T (PE.imp PT.imp PW.imp PA.imp PS.imp PSs.imp)

/-! ### list comprehensions: the list that grows is a cell from the start -/
@[simp] def wipeR (ρ : Rho) : List Nat → Rho
  | [] => ρ
  | v :: vs => (wipeR ρ vs).set v none
def R.bindN {α β : Type} (x : R α) (f : α → Th → R β) : R β := match x with
  | .ok a Θ => f a Θ
  | _ => .stuck
@[simp] theorem R.bindN_ok {α β : Type} {a : α} {Θ : Th} {f : α → Th → R β} : (R.ok a Θ).bindN f = f a Θ := rfl
def lcLoop (bt : Bt) (t : M Bool) (m : M A) (s : Src) (n0 : Nat) (ρ : Rho) : List A → List A → Th → R A
  | [], acc, Θ => if s.now Θ ∧ Θ[n0]? = some (.lst acc) then .ok (.loc n0) Θ else .stuck
  | d :: ds, acc, Θ => if s.now Θ then (match bt d ρ with
    | some ρ1 => (t ρ1 Θ).bindN fun p Θ1 => if p = true then (m ρ1 Θ1).bindN fun a Θ2 => if acc.length < 16777216 ∧ Θ2[n0]? = some (.lst acc) then lcLoop bt t m s n0 ρ ds (acc ++ [a]) (Θ2.set n0 (.lst (acc ++ [a]))) else .stuck
      else if Θ1[n0]? = some (.lst acc) then lcLoop bt t m s n0 ρ ds acc Θ1 else .stuck
    | none => .stuck) else .stuck
@[simp] def eLc (it : M Src) (bt : Bt) (t : M Bool) (m : M A) (vs : List Nat) : M A := fun ρ Θ => (it ρ Θ).bind fun s Θ1 => lcLoop bt t m s Θ1.length (wipeR ρ vs) s.xs [] (Θ1 ++ [.lst []])
@[simp] def tYesM : M Bool := fun _ Θ => .ok true Θ
section
variable {B : Bs} {ρ : Rho} {μ : Mu} {G : Hp} {σ σ1 : L2.St} {Θ : Th} {H : Hp} {vs : List Nat}
theorem wipeR_len (ρ : Rho) : ∀ vs, (wipeR ρ vs).length = ρ.length
  | [] => rfl
  | v :: vs => by unfold wipeR; rw [List.length_set, wipeR_len ρ vs]
theorem wipeR_get {i : Nat} {a : A} : ∀ {vs : List Nat}, (wipeR ρ vs)[i]? = some (some a) → i ∉ vs ∧ ρ[i]? = some (some a)
  | [], h => ⟨by simp, h⟩
  | v :: vs, h => by
    unfold wipeR at h
    by_cases hi : v = i
    · subst hi
      have hv : v < (wipeR ρ vs).length := by have := (List.getElem?_eq_some_iff.mp h).1; simpa using this
      rw [List.getElem?_set_self hv] at h; cases h
    · rw [List.getElem?_set_ne hi] at h
      obtain ⟨h1, h2⟩ := wipeR_get h
      exact ⟨by simp only [List.mem_cons, not_or]; exact ⟨fun e => hi e.symm, h1⟩, h2⟩
theorem Ok.wipe (ok : Ok B ρ μ G σ Θ H) : Ok B (wipeR ρ vs) μ G (L2.wipe σ vs) Θ H := by
  refine ⟨by rw [wipeR_len, wipe_length]; exact ok.len, fun i a e => ?_, ok.sim⟩
  obtain ⟨h1, h2⟩ := wipeR_get e
  obtain ⟨v, e1, r⟩ := ok.sl i a h2
  exact ⟨v, by rw [T.wipe_get h1]; exact e1, r⟩
end
section
variable {X : Cx} {B : Bs} {elt tg iter : Expr} {ifs : List Expr} {scope : Scope} {own : List (Str × Nat)} {pos : Pos} {it : M Src} {bt : Bt} {t : M Bool} {m : M A} {ws : List Nat}
theorem tts_nil {X : Cx} {B : Bs} : PTs X [] (uT B tYesM) := ⟨fun pins s σ H Q I h => by
  obtain ⟨ρ, μ, G, Θ, ok, h⟩ := h
  exact pts_nil.run pins s σ H Q I (px_ok (rel := relB) ok.sim rfl h)⟩
theorem tts_one {X : Cx} {B : Bs} {c : Expr} {t : M Bool} (h : PT X c (uT B t)) : PTs X [c] (uT B t) := pts_one h
/-- the bind in a context that lets nothing out -/
theorem bndN {α β γ δ : Type} {rel : Mu → Hp → β → α → Prop} {rel2 : Mu → Hp → δ → γ → Prop} {ρ : Rho} {μ : Mu} {G : Hp} {σ σ0 : L2.St} {Θ : Th} {H : Hp} {f : α → Th → R γ} {m : M α} {Q : δ → Hp → Prop} (ok : Ok B ρ μ G σ Θ H) (h : PX rel2 B σ0 μ G Q ((m ρ Θ).bindN f)) :
    uX rel B.shut m σ H fun b H1 => ∃ a μ1 G1 Θ1, Nx μ G μ1 G1 ∧ Sim B.W μ1 G1 Θ1 H1 ∧ rel μ1 G1 b a ∧ PX rel2 B σ0 μ1 G1 Q (f a Θ1) := by
  refine ⟨ρ, μ, G, Θ, ok.sh, ?_⟩
  cases e : m ρ Θ with
  | ok a Θ' => rw [e] at h; exact fun b μ' G' H' n s r => ⟨a, μ', G', Θ', n, s, r, PX.mono n h⟩
  | exc c fs Θ' => rw [e] at h; exact h.elim
  | stuck => rw [e] at h; exact h
theorem lc_read {vs : List Nat} (hbt : BtOk ws bt) (hw : ∀ j ∈ ws, j ∈ vs) {σ : L2.St} {H : Hp} {Q : VK} (h : uR B (eLc it bt t m vs) σ H Q) : tLc (uI B it) (gB B ws bt) (uT B.shut t) (uR B.shut m) vs σ H Q := by
  obtain ⟨ρ, μ, G, Θ, ok, h⟩ := h
  unfold eLc at h
  refine (bnd (rel := relI B.W) ok h).mono fun J H1 ⟨s, μ1, G1, Θ1, n1, ok1, src, h⟩ => ?_
  intro D hD
  have s0 : Sim B.W (μ1 ++ [D]) G1 (Θ1 ++ [.lst []]) (upd H1 D (.lst [])) := ok1.sim.push hD ⟨[], rfl, .nil⟩
  have e0 : (μ1 ++ [D])[Θ1.length]? = some D := by rw [← ok1.sim.len, List.getElem?_append_right (Nat.le_refl _), Nat.sub_self]; rfl
  have c0 : (Θ1 ++ [Cell.lst []])[Θ1.length]? = some (.lst []) := by rw [List.getElem?_append_right (Nat.le_refl _), Nat.sub_self]; rfl
  refine ⟨fun i k H => k = s.xs.length - i ∧ i ≤ s.xs.length ∧ ∃ μ2 G2 Θ2 acc, Nx (μ1 ++ [D]) G1 μ2 G2 ∧ Sim B.W μ2 G2 Θ2 H ∧ PX (Rel B.W) B σ μ2 G2 Q (lcLoop bt t m s Θ1.length (wipeR ρ vs) (s.xs.drop i) acc Θ2),
    ⟨s.xs.length, rfl, Nat.zero_le _, μ1 ++ [D], G1, Θ1 ++ [.lst []], [], Nx.refl _ _, s0, by rw [List.drop_zero]; exact PX.mono nx_push h⟩, ?_⟩
  rintro i k H2 ⟨rfl, hl, μ2, G2, Θ2, acc, n2, s2, h2⟩
  have eD : μ2[Θ1.length]? = some D := n2.pre _ _ e0
  by_cases nw : s.now Θ2
  · obtain ⟨go, stop⟩ := src i μ2 G2 Θ2 H2 (nx_push.trans n2) s2 nw
    cases q : s.xs[i]? with
    | none =>
      have hle : s.xs.length ≤ i := List.getElem?_eq_none_iff.mp q
      rw [List.drop_eq_nil_of_le hle] at h2
      unfold lcLoop at h2
      split at h2
      · exact .inl ⟨stop hle, px_ok s2 (.loc eD) h2⟩
      · exact h2.elim
    | some d =>
      obtain ⟨g1, g2⟩ := go d q
      have hlt : i < s.xs.length := (List.getElem?_eq_some_iff.mp q).1
      have hd : s.xs.drop i = d :: s.xs.drop (i + 1) := by
        rw [List.drop_eq_getElem_cons hlt]
        have := (List.getElem?_eq_some_iff.mp q).2
        rw [this]
      rw [hd] at h2
      unfold lcLoop at h2
      rw [if_pos nw] at h2
      refine .inr ⟨g1, fun H' => ∃ μ2 G2 Θ2 acc, Nx (μ1 ++ [D]) G1 μ2 G2 ∧ Sim B.W μ2 G2 Θ2 H' ∧ PX (Rel B.W) B σ μ2 G2 Q (lcLoop bt t m s Θ1.length (wipeR ρ vs) (s.xs.drop (i + 1)) acc Θ2), fun H' n => ⟨s.xs.length - (i + 1), by omega, rfl, hlt, n⟩, fun x H' y => ?_⟩
      obtain ⟨G3, n3, s3, rx⟩ := g2 x H' y
      have h2 := PX.mono n3 h2
      have okw : Ok B (wipeR ρ vs) μ2 G3 (L2.wipe σ vs) Θ2 H' := (ok1.wipe (vs := vs)).to ((nx_push.trans n2).trans n3) s3
      cases e3 : bt d (wipeR ρ vs) with
      | none => rw [e3] at h2; exact (show False from h2).elim
      | some ρ3 =>
        rw [e3] at h2
        dsimp only at h2
        refine ⟨wipeR ρ vs, μ2, G3, Θ2, d, okw, rx, ρ3, e3, fun σ3 ok3 l3 k3 => ⟨T.wipe_eq l3 fun j hj => k3 j fun z => hj (hw j z), ?_⟩⟩
        refine (bndN (rel := relB) ok3 h2).mono fun b H4 ⟨a4, μ4, G4, Θ4, n4, s4, r4, h4⟩ => ?_
        cases r4
        cases b with
        | false =>
          refine iteF ?_
          rw [if_neg (by simp)] at h4
          split at h4
          · exact ⟨μ4, G4, Θ4, acc, (n2.trans n3).trans n4, s4, h4⟩
          · exact h4.elim
        | true =>
          refine iteT ?_
          rw [if_pos rfl] at h4
          refine (bndN (rel := Rel B.W) (ok3.to n4 s4) h4).mono fun y H5 ⟨a5, μ5, G5, Θ5, n5, s5, r5, h5⟩ => ?_
          split at h5
          · rename_i hc
            have eD5 := n5.pre _ _ (n4.pre _ _ eD)
            obtain ⟨ws', z1, z2⟩ := cell_lst s5 eD5 hc.2
            refine ⟨ws', z1, by rw [z2.length, sizeLine_eq]; exact hc.1, μ5, G5, _, acc ++ [a5], ((n2.trans n3).trans n4).trans n5, ?_, h5⟩
            exact s5.set eD5 hc.2 (by intro z; cases z) ⟨_, rfl, z2.append (.cons r5 .nil)⟩
          · exact h5.elim
  · have : False := by
      cases q : s.xs.drop i with
      | nil => rw [q] at h2; unfold lcLoop at h2; rw [if_neg (fun z => nw z.1)] at h2; exact h2
      | cons d ds => rw [q] at h2; unfold lcLoop at h2; rw [if_neg nw] at h2; exact h2
    exact this.elim
theorem te_lc (hbt : BtOk ws bt) (hw : ∀ j ∈ ws, j ∈ own.map (·.2)) (hc : X.calm = true) (hN : X.N.Nodup) (hi : PI X tg iter (uI B it)) (ok : BlkOk X.N X.env.scope scope own)
    (hg : ∀ (s : Shared) (H : Hp) (C : Addr) (cl : List (Str × Addr)) (fp : List Addr), PG (X.blk s H scope (compEnvC scope cl C X.env) fp) tg (gB B ws bt)) (ht : ∀ (s : Shared) (H : Hp) (C : Addr) (cl : List (Str × Addr)) (fp : List Addr), PTs (X.blk s H scope (compEnvC scope cl C X.env) fp) ifs (uT B.shut t))
    (he : ∀ (s : Shared) (H : Hp) (C : Addr) (cl : List (Str × Addr)) (fp : List Addr), PE (X.blk s H scope (compEnvC scope cl C X.env) fp) elt (uR B.shut m)) (hs : ∀ x, foldedSetIterable iter X.env x = pure x := by intro _; rfl) :
    PE X (.ListComp elt [⟨tg, iter, ifs, 0⟩] scope pos) (uR B (eLc it bt t m (own.map (·.2)))) := PE.imp (pe_lc hc hN hi ok hg ht he hs) fun σ H Q h => lc_read hbt hw h
theorem ts_setLc {i : Nat} {y : Str} {py spos : Pos} (hbt : BtOk ws bt) (hw : ∀ j ∈ ws, j ∈ own.map (·.2)) (hc : X.calm = true) (hN : X.N.Nodup) (hy : X.N[i]? = some y) (hyl : X.env.scope.names.lookup y = some .local)
    (hsw : swapsWith (.ListComp elt [⟨tg, iter, ifs, 0⟩] scope pos) (some (.Name y py)) spos.line X.env = pure true) (hi : PI X tg iter (uI B it)) (ok : BlkOk X.N X.env.scope scope own)
    (hg : ∀ (s : Shared) (H : Hp) (C : Addr) (cl : List (Str × Addr)) (fp : List Addr), PG (X.blk s H scope (compEnvC scope cl C X.env) fp) tg (gB B ws bt)) (ht : ∀ (s : Shared) (H : Hp) (C : Addr) (cl : List (Str × Addr)) (fp : List Addr), PTs (X.blk s H scope (compEnvC scope cl C X.env) fp) ifs (uT B.shut t))
    (he : ∀ (s : Shared) (H : Hp) (C : Addr) (cl : List (Str × Addr)) (fp : List Addr), PE (X.blk s H scope (compEnvC scope cl C X.env) fp) elt (uR B.shut m)) (hs : ∀ x, foldedSetIterable iter X.env x = pure x := by intro _; rfl) :
    PS X (.Assign [.Name y py] (.ListComp elt [⟨tg, iter, ifs, 0⟩] scope pos) spos) (uS B (sSet i (eLc it bt t m (own.map (·.2))))) := PS.imp (ps_setLc hc hN hy hyl hsw hi ok hg ht he hs) fun E σ H h => by
  refine lc_read hbt hw ?_
  obtain ⟨ρ, μ, G, Θ, ok, h⟩ := h
  refine (bndS ok h).mono fun x H1 ⟨a1, μ1, G1, Θ1, n1, ok1, r1, h⟩ => ?_
  split at h
  · rename_i hl; exact ps_nx (ok1.put hl r1) h
  · exact h.elim
end
end U
noncomputable section
namespace U
open PySem PySem.Spec PyProof.Rows L2
open T (PE.imp PT.imp PW.imp PA.imp PS.imp PSs.imp Def spLaw)

/-! ### the end -/
theorem sim_start (W : Wd) (H : Hp) : Sim W [] H [] H := ⟨rfl, Same.refl _, fun n p c e => (by simp at e), fun n p c e => (by simp at e), fun i j p c d e => (by simp at e)⟩
theorem law_sp {K : PySem.W.Frag} {mg : Str → Option Value} {m : Fn} (h : ∀ ns : List Int, ns.length ≤ 63 → ∃ Θ', m [.scr ns] [] = .ok (.bl true) Θ') (vs : List V) (H : Hp) (Q : VK) (E : XK) (s : spLaw K vs H Q E) : spU ⟨K, mg⟩ 1 m vs H Q E := by
  obtain ⟨a, ns, rfl, hs, hl, k⟩ := s
  obtain ⟨Θ', e⟩ := h ns hl
  refine ⟨[], H, [], [.scr ns], rfl, sim_start _ _, .cons (.scr hs) .nil, ?_⟩
  rw [e]
  intro v μ' G' H' _ _ r
  cases r
  exact k H'
theorem walk_law {l : PySem.W.OpenLaw} {q : Program} {loose : List Str} {XP : (Str → Option Value) → Heap → Prop} {YP : World → Heap → Prop} {d : DefRec} {K : Params → PySem.W.Frag} {k : Nat} {b : Sm} {N : List Str} {st : Stmt} (hn : l.most = some 63) (hdf : d.params.defaults = []) (hd : d.name = ("law" : Str))
    (hr : Room (k + 1) callerA) (hY : ∀ (w : World) (h : Heap), YP w h → (K w.params).In h) (S : FnScope N ["_law_script"] (defScope st)) (hm : ∀ ns : List Int, ns.length ≤ 63 → ∃ Θ', fnM N.length b [.scr ns] [] = .ok (.bl true) Θ')
    (F : ∀ (w : World) (mg : Str → Option Value) (h : Heap), (K w.params).In h → h.Ns mainGlobals mg →
      Def (K w.params) mg "law" st ["_law_script"] ∧ ∀ base : Heap, BodyOk l.prog w (K w.params) mg base "law" st N k b) :
    PySem.W.WalkO q loose XP YP l.row.toRowW d [] (fun f vs => PySem.call f vs) := by
  refine L2.walk_of (x := "_law_script") (CX := fun w => L2.CX l.prog w) (sp := fun w => spLaw (K w.params)) hn (by decide) hdf hr hY (fun w mg fa h KX G hmg => ?_) (fun w H a ns hl _ hS => ⟨a, ns, rfl, hS, hl, fun _ => rfl⟩) fun w H s e s' z => ?_
  · obtain ⟨dd, FB⟩ := F w mg h KX G
    obtain ⟨⟨f, fd, Fn, m, bd⟩⟩ := id dd
    rw [hd, m] at hmg
    cases hmg
    exact ⟨fd, fun s u => .of_eq (bd [u] rfl), fun base _ _ => (fn_okU Fn S rfl (FB base)).imp (law_sp hm)⟩
  · obtain ⟨_, _, _, _, _, _, _, _, _, _, _, _, z⟩ := z
    exact z.elim
end U
namespace U
open PySem
/-! ### the plain side: what a run ends with (P), what it raises (X) -/
def Ends {α : Type} (x : R α) (P : α → Th → Prop) (X : Str → List (Str × A) → Th → Prop) : Prop := match x with
  | .ok a Θ => P a Θ
  | .exc c fs Θ => X c fs Θ
  | .stuck => False
def EndsS (x : RS) (P : Fl → Rho → Th → Prop) (X : Str → List (Str × A) → Rho → Th → Prop) : Prop := match x with
  | .ok f ρ Θ => P f ρ Θ
  | .exc c fs ρ Θ => X c fs ρ Θ
  | .stuck => False
section
variable {α β : Type} {P : α → Th → Prop} {X : Str → List (Str × A) → Th → Prop} {PS : Fl → Rho → Th → Prop} {XS : Str → List (Str × A) → Rho → Th → Prop}
@[simp] theorem Ends_ok {a : α} {Θ : Th} : Ends (.ok a Θ) P X ↔ P a Θ := Iff.rfl
@[simp] theorem Ends_exc {c fs} {Θ : Th} : Ends (.exc c fs Θ : R α) P X ↔ X c fs Θ := Iff.rfl
@[simp] theorem Ends_stuck : Ends (.stuck : R α) P X ↔ False := Iff.rfl
@[simp] theorem EndsS_ok {f ρ} {Θ : Th} : EndsS (.ok f ρ Θ) PS XS ↔ PS f ρ Θ := Iff.rfl
@[simp] theorem EndsS_exc {c fs ρ} {Θ : Th} : EndsS (.exc c fs ρ Θ) PS XS ↔ XS c fs ρ Θ := Iff.rfl
@[simp] theorem EndsS_stuck : EndsS .stuck PS XS ↔ False := Iff.rfl
@[simp] theorem Ends_bind {x : R β} {f : β → Th → R α} : Ends (x.bind f) P X ↔ Ends x (fun a Θ => Ends (f a Θ) P X) X := by cases x <;> exact Iff.rfl
@[simp] theorem EndsS_bind {x : R β} {ρ : Rho} {f : β → Th → RS} : EndsS (x.bindS ρ f) PS XS ↔ Ends x (fun a Θ => EndsS (f a Θ) PS XS) (fun c fs Θ => XS c fs ρ Θ) := by cases x <;> exact Iff.rfl
@[simp] theorem EndsS_then {x : RS} {f : Fl → Rho → Th → RS} : EndsS (x.then f) PS XS ↔ EndsS x (fun a ρ Θ => EndsS (f a ρ Θ) PS XS) XS := by cases x <;> exact Iff.rfl
@[simp] theorem Ends_ite {c : Prop} [Decidable c] {x y : R α} : Ends (if c then x else y) P X ↔ if c then Ends x P X else Ends y P X := by split <;> exact Iff.rfl
@[simp] theorem EndsS_ite {c : Prop} [Decidable c] {x y : RS} : EndsS (if c then x else y) PS XS ↔ if c then EndsS x PS XS else EndsS y PS XS := by split <;> exact Iff.rfl
theorem Ends.mono {x : R α} {P' X'} (h : Ends x P X) (w : ∀ a Θ, P a Θ → P' a Θ) (v : ∀ c fs Θ, X c fs Θ → X' c fs Θ) : Ends x P' X' := by cases x <;> first | exact w _ _ h | exact v _ _ _ h | exact h
theorem EndsS.mono {x : RS} {P' X'} (h : EndsS x PS XS) (w : ∀ f ρ Θ, PS f ρ Θ → P' f ρ Θ) (v : ∀ c fs ρ Θ, XS c fs ρ Θ → X' c fs ρ Θ) : EndsS x P' X' := by cases x <;> first | exact w _ _ _ h | exact v _ _ _ _ h | exact h
theorem Ends.eq {x : R α} {a : α} {Θ : Th} (h : Ends x (fun b Θ' => b = a ∧ Θ' = Θ) fun _ _ _ => False) : x = .ok a Θ := by
  cases x with
  | ok b Θ' => obtain ⟨rfl, rfl⟩ := h; rfl
  | exc c fs Θ' => exact h.elim
  | stuck => exact h.elim
theorem Ends.exc_eq {x : R α} {c : Str} {fs : List (Str × A)} {Θ : Th} (h : Ends x (fun _ _ => False) fun d gs Θ' => d = c ∧ gs = fs ∧ Θ' = Θ) : x = .exc c fs Θ := by
  cases x with
  | ok b Θ' => exact h.elim
  | exc c fs Θ' => obtain ⟨rfl, rfl, rfl⟩ := h; rfl
  | stuck => exact h.elim
theorem Ends.of {x y : R α} (e : x = y) (h : Ends y P X) : Ends x P X := e ▸ h
theorem fnM_ends {n : Nat} {b : Sm} {as : List A} {Θ : Th} {P : A → Th → Prop} : Ends (fnM n b as Θ) P X ↔ EndsS (b (start' as n) Θ) (fun f _ Θ' => match f with
    | .next => P .non Θ'
    | .ret a => P a Θ'
    | _ => False) fun c fs _ Θ' => X c fs Θ' := by
  unfold fnM
  cases b (start' as n) Θ with
  | ok f ρ Θ' => cases f <;> exact Iff.rfl
  | exc c fs ρ Θ' => exact Iff.rfl
  | stuck => exact Iff.rfl
end
/-- what a turn of a loop leads to -/
def LoopK (P : Nat → Rho → Th → Prop) (i : Nat) (K : Fl → Rho → Th → Prop) (f : Fl) (ρ : Rho) (Θ : Th) : Prop := match f with
  | .next => P (i + 1) ρ Θ
  | .cont => P (i + 1) ρ Θ
  | .brk => K .next ρ Θ
  | .ret r => K (.ret r) ρ Θ
section
variable {P : Nat → Rho → Th → Prop} {i : Nat} {K : Fl → Rho → Th → Prop} {ρ : Rho} {Θ : Th} {r : A} {XS : Str → List (Str × A) → Rho → Th → Prop}
@[simp] theorem LoopK_next : LoopK P i K .next ρ Θ ↔ P (i + 1) ρ Θ := Iff.rfl
@[simp] theorem LoopK_cont : LoopK P i K .cont ρ Θ ↔ P (i + 1) ρ Θ := Iff.rfl
@[simp] theorem LoopK_brk : LoopK P i K .brk ρ Θ ↔ K .next ρ Θ := Iff.rfl
@[simp] theorem LoopK_ret : LoopK P i K (.ret r) ρ Θ ↔ K (.ret r) ρ Θ := Iff.rfl
theorem loop_E {bt : Bt} {b : Sm} {s : Src} : ∀ {ds : List A} (P : Nat → Rho → Th → Prop) {ρ0 : Rho} {Θ0 : Th} (_ : P 0 ρ0 Θ0) (_ : ∀ i ρ Θ, i ≤ ds.length → P i ρ Θ → s.now Θ)
    (_ : ∀ (i : Nat) d ρ Θ, ds[i]? = some d → P i ρ Θ → ∃ ρ1, bt d ρ = some ρ1 ∧ EndsS (b ρ1 Θ) (LoopK P i K) XS) (_ : ∀ ρ Θ, P ds.length ρ Θ → K .next ρ Θ), EndsS (loop bt b s ds ρ0 Θ0) K XS
  | [], P, ρ0, Θ0, h0, hn, h, hd => by unfold loop; rw [if_pos (hn 0 ρ0 Θ0 (Nat.le_refl _) h0)]; exact hd _ _ h0
  | d :: ds, P, ρ0, Θ0, h0, hn, h, hd => by
    obtain ⟨ρ1, e1, h1⟩ := h 0 d ρ0 Θ0 rfl h0
    unfold loop
    rw [if_pos (hn 0 ρ0 Θ0 (Nat.zero_le _) h0), e1]
    dsimp only
    rw [EndsS_then]
    refine h1.mono (fun f ρ2 Θ2 q => ?_) fun _ _ _ _ q => q
    have rec_ : P 1 ρ2 Θ2 → EndsS (loop bt b s ds ρ2 Θ2) K XS := fun p => loop_E (ds := ds) (fun i => P (i + 1)) p (fun i ρ Θ hi p => hn (i + 1) ρ Θ (by simpa using hi) p) (fun i d' ρ Θ e p => h (i + 1) d' ρ Θ (by simpa using e) p) hd
    cases f with
    | next => exact rec_ q
    | cont => exact rec_ q
    | brk => exact q
    | ret r => exact q
/-- over a source that cannot change -/
theorem loop_N {bt : Bt} {b : Sm} {ds xs : List A} (P : Nat → Rho → Th → Prop) {ρ0 : Rho} {Θ0 : Th} (h0 : P 0 ρ0 Θ0)
    (h : ∀ (i : Nat) d ρ Θ, ds[i]? = some d → P i ρ Θ → ∃ ρ1, bt d ρ = some ρ1 ∧ EndsS (b ρ1 Θ) (LoopK P i K) XS) (hd : ∀ ρ Θ, P ds.length ρ Θ → K .next ρ Θ) : EndsS (loop bt b ⟨xs, none⟩ ds ρ0 Θ0) K XS :=
  loop_E P h0 (fun _ _ _ _ _ => True.intro) h hd
theorem loop_R {bt : Bt} {b : Sm} {xs : List A} {lo hi : Int} (P : Nat → Rho → Th → Prop) {ρ0 : Rho} {Θ0 : Th} (h0 : P 0 ρ0 Θ0)
    (h : ∀ (i : Nat) ρ Θ, i < (hi - lo).toNat → P i ρ Θ → ∃ ρ1, bt (.int (lo + (i : Int))) ρ = some ρ1 ∧ EndsS (b ρ1 Θ) (LoopK P i K) XS) (hd : ∀ ρ Θ, P (hi - lo).toNat ρ Θ → K .next ρ Θ) : EndsS (loop bt b ⟨xs, none⟩ (rng lo hi) ρ0 Θ0) K XS := by
  unfold rng
  refine loop_N P h0 (fun i d ρ Θ e p => ?_) fun ρ Θ p => hd ρ Θ (by simpa using p)
  rw [List.getElem?_map] at e
  by_cases hi' : i < (hi - lo).toNat
  · rw [List.getElem?_range hi'] at e; cases e; exact h i ρ Θ hi' p
  · rw [List.getElem?_eq_none (by simpa using Nat.le_of_not_lt hi')] at e; cases e
theorem loopW_E {t : M Bool} {b : Sm} : ∀ (n : Nat) (P : Nat → Rho → Th → Prop) {ρ0 : Rho} {Θ0 : Th} (_ : P 0 ρ0 Θ0)
    (_ : ∀ (i : Nat) ρ Θ, i < n → P i ρ Θ → Ends (t ρ Θ) (fun p Θ1 => if p = true then EndsS (b ρ Θ1) (LoopK P i K) XS else K .next ρ Θ1) fun c fs Θ1 => XS c fs ρ Θ1) (_ : ∀ ρ Θ, ¬ P n ρ Θ), EndsS (loopW t b n ρ0 Θ0) K XS
  | 0, P, ρ0, Θ0, h0, h, hd => (hd _ _ h0).elim
  | n + 1, P, ρ0, Θ0, h0, h, hd => by
    unfold loopW
    rw [EndsS_bind]
    refine (h 0 ρ0 Θ0 (by omega) h0).mono (fun p Θ1 q => ?_) fun _ _ _ q => q
    split
    · rename_i c
      rw [if_pos c] at q
      rw [EndsS_then]
      refine q.mono (fun f ρ2 Θ2 q => ?_) fun _ _ _ _ q => q
      have rec_ : P 1 ρ2 Θ2 → EndsS (loopW t b n ρ2 Θ2) K XS := fun p => loopW_E n (fun i => P (i + 1)) p (fun i ρ Θ hi p => h (i + 1) ρ Θ (by omega) p) hd
      cases f with
      | next => exact rec_ q
      | cont => exact rec_ q
      | brk => exact q
      | ret r => exact q
    · rename_i c
      rw [if_neg c] at q
      exact q
end
end U
noncomputable section
namespace U
open PySem PySem.Spec PyProof.Rows L2
section
variable {X : Cx} {B : Bs} {W : WX}
abbrev W0 : WX := fun _ _ _ _ => False
theorem Link.blk (L : Link X B W) {s : Shared} {H : Hp} {scope : Scope} {env : PySem.Env} {fp : List Addr} : Link (X.blk s H scope env fp) B.shut W0 := ⟨L.w, takes0, fun _ _ _ _ _ _ _ _ _ h => h.elim⟩
theorem Link.suite (L : Link X B W) {a : Addr} {pn : List (Addr × Obj)} : Link (X.suite a pn) B.shut W0 := ⟨L.w, takes0, fun _ _ _ _ _ _ _ _ _ h => h.elim⟩
end
end U
noncomputable section
namespace U
open PySem PySem.Spec PyProof.Rows L2
open T (PE.imp PT.imp PW.imp PA.imp PS.imp PSs.imp)

/-! ### o.f += e of ints -/
@[simp] def sFldI (kl : Str → Str → Bool) (f : Str) (g : Int → Int → Int) (o m : M A) : Sm := fun ρ Θ => (o ρ Θ).bindS ρ fun p Θ1 => match p with
  | .loc n => (match Θ1[n]? with
    | some (.obj c fs) => if kl c f = true then (match fs.lookup f with
      | some (.int i) => (m ρ Θ1).bindS ρ fun y Θ2 => (match y, Θ2[n]? with
        | .int j, some (.obj c' fs') => if c' = c ∧ fs'.length < 1000 then .ok .next ρ (Θ2.set n (.obj c (putA f (.int (g i j)) fs'))) else .stuck
        | _, _ => .stuck)
      | _ => .stuck) else .stuck
    | _ => .stuck)
  | _ => .stuck
section
variable {X : Cx} {B : Bs} {o value : Expr} {f : Str} {pos tpos : Pos} {m mo : M A} {kl : Str → Str → Bool} {g : Int → Int → Int} {op : Operator}
theorem ts_fldI (hW : B.W = ⟨X.K, X.mg⟩) (hk : KlOk X kl) (hop : InOp X op (fun x y H Q => ∃ i j, x = .int i ∧ y = .int j ∧ Q (.int (g i j)) H)) (ho : PE X o (uR B mo)) (hv : PE X value (uR B m)) :
    PS X (.AugAssign (.Attribute o f tpos) op value pos) (uS B (sFldI kl f g mo m)) := PS.imp (ps_fldaug ho hv hop) fun E σ H h => by
  obtain ⟨ρ, μ, G, Θ, ok, h⟩ := h
  refine (bndS ok h).mono fun x H1 ⟨a1, μ1, G1, Θ1, n1, ok1, r1, h⟩ => ?_
  split at h
  · rename_i n
    split at h
    · rename_i c fs e1
      split at h
      · rename_i hc
        split at h
        · rename_i i e2
          cases r1 with
          | @loc _ p hp =>
            obtain ⟨o, h1, C, dx, vs, hm, rfl, h2⟩ := ok1.sim.cell _ p _ hp e1 (by intro z; cases z)
            have hm' := hm
            rw [hW] at hm'
            obtain ⟨k1, k2⟩ := hk c f hc C hm'
            obtain ⟨v, z1, z2⟩ := (h2.lookup (f := f)).1 _ e2
            refine ⟨p, C, dx, vs, v, rfl, h1, k1, k2, z1, ?_⟩
            cases z2
            refine (bndS ok1 h).mono fun y H2 ⟨a2, μ2, G2, Θ2, n2, ok2, r2, h⟩ => ?_
            split at h
            · rename_i j c' fs' e3
              split at h
              · rename_i hcc
                obtain ⟨rfl, hlen⟩ := hcc
                cases r2
                refine ⟨i, j, rfl, rfl, ?_⟩
                have hp2 := n2.pre _ _ hp
                obtain ⟨o, g1, C', dx', vs', gm, rfl, g2⟩ := ok2.sim.cell _ p _ hp2 e3 (by intro z; cases z)
                have eC : C' = C := by rw [hm] at gm; cases gm; rfl
                subst eC
                refine ⟨dx', vs', g1, by rw [g2.length]; exact hlen, ?_⟩
                have s' := ok2.sim.set hp2 e3 (d := .obj c' (putA f (.int (g i j)) fs')) (by intro z; cases z) ⟨C', dx', _, gm, rfl, g2.put (.int _)⟩
                exact ps_nx (ok2.to (Nx.refl _ _) s') h
              · exact h.elim
            · exact h.elim
        · exact h.elim
      · exact h.elim
    · exact h.elim
  · exact h.elim
end
end U
noncomputable section
namespace U
open PySem PySem.Spec PyProof.Rows L2
/-! ### what the top has written of a class -/
structure ClsD (K : PySem.W.Frag) (mg : Str → Option Value) (c : Str) : Prop where
  ex : ∃ C, mg c = some (.ref C) ∧ Cls K C ∧ PySem.W.makesIn K C = true ∧ PySem.W.keepIn K (.ref C) = true
theorem clsd_mk {K : PySem.W.Frag} {mg : Str → Option Value} {c : Str} {h : Heap} (X : K.In h) (G : h.Ns mainGlobals mg) {C : Addr} (a : PySem.W.nsIn K mainGlobals c = some (some (.ref C)))
    (pg : PySem.W.plainGet K C Str.empty = true) (hd : PySem.W.hasDictIn K C = true) (po : PySem.W.plainOver K C = true) (sa : PySem.W.findIn K (.ref C) "__setattr__" = some (some (.builtin "object.__setattr__"))) (mk : PySem.W.makesIn K C = true) (kc : PySem.W.keepIn K (.ref C) = true) : ClsD K mg c :=
  ⟨⟨C, PySem.W.mg_of X G a, ⟨pg, hd, po, sa⟩, mk, kc⟩⟩
/-- a def in a class, found by its name from class c -/
structure DefM (K : PySem.W.Frag) (mg : Str → Option Value) (c name qual : Str) (st : Stmt) (ps : List Str) : Prop where
  ex : ∃ C f fd, mg c = some (.ref C) ∧ Fun K name qual st f fd ∧ PySem.W.findIn K (.ref C) name = some (some (.ref f)) ∧ PySem.W.isFn K (.ref f) = true ∧ PySem.W.keepIn K (.ref f) = true ∧ ∀ us : List Value, us.length = ps.length → bindArgs fd ⟨us, []⟩ = pure (ps.zip us)
theorem defm_mk {K : PySem.W.Frag} {mg : Str → Option Value} {c name qual : Str} {st : Stmt} {ps : List Str} {h : Heap} (X : K.In h) (G : h.Ns mainGlobals mg) {C f : Addr} {oc : Value} {od an : Option Addr} {osl : Array (Option Value)} {kV doc pm cdv ct : Value}
    (a : PySem.W.nsIn K mainGlobals c = some (some (.ref C))) (m : PySem.W.findIn K (.ref C) name = some (some (.ref f))) (i : PySem.W.isFn K (.ref f) = true)
    (l : K.lookup f = some ⟨oc, od, .func (PySem.W.fnOf name qual (defArgs st) (defBody st) (defScope st) .none kV doc pm an cdv ct), osl⟩)
    (cd : PySem.W.codeIn K cdv qual = true) (k : PySem.W.keepIn K (.ref f) = true)
    (hb : ∀ (kV doc pm : Value) (an : Option Addr) (cdv ct : Value) (us : List Value), us.length = ps.length → bindArgs (PySem.W.fnOf name qual (defArgs st) (defBody st) (defScope st) .none kV doc pm an cdv ct) ⟨us, []⟩ = pure (ps.zip us)) : DefM K mg c name qual st ps :=
  ⟨⟨C, f, _, PySem.W.mg_of X G a, fun_mk (st := st) l cd k, m, i, k, hb kV doc pm an cdv ct⟩⟩
section
variable {P : Program} {w : World} {K : PySem.W.Frag} {mg : Str → Option Value} {base : Heap} {c name qual : Str} {st : Stmt} {ps N : List Str} {k n : Nat} {b : Sm}
theorem calm_mk (d : DefM K mg c name qual st ps) (hc : ClsD K mg c) (S : FnScope N ps (defScope st)) (hn : ps.length = n) (hb : BodyOk P w K mg base qual st N k b) : CalM P w K mg base c name (k + 1) n (fnM N.length b) := by
  obtain ⟨C, f, fd, m1, F, m2, m3, m4, bd⟩ := d.ex
  obtain ⟨C', g1, g2, _⟩ := hc.ex
  have : C' = C := by rw [m1] at g1; cases g1; rfl
  subst this
  exact ⟨⟨C', f, fd, ps, m1, g2, ⟨m2, m3, m4⟩, fn_okU F S hn hb, .all bd⟩⟩
theorem cali_mk (d : DefM K mg c "__init__" qual st ps) (hc : ClsD K mg c) (S : FnScope N ps (defScope st)) (hn : ps.length = n) (hb : BodyOk P w K mg base qual st N k b) : CalI P w K mg base c (k + 1) n [] (fnM N.length b) := by
  obtain ⟨C, f, fd, m1, F, m2, m3, m4, bd⟩ := d.ex
  obtain ⟨C', g1, g2, g3, g4⟩ := hc.ex
  have : C' = C := by rw [m1] at g1; cases g1; rfl
  subst this
  exact ⟨⟨C', f, fd, ps, [], [], m1, ⟨g3, m2, m3, g4⟩, fn_okU F S hn hb, .all bd, dfl_nil⟩⟩
end
end U
noncomputable section
namespace U
open PySem PySem.Spec PyProof.Rows L2
open T (PE.imp PT.imp PW.imp PA.imp PS.imp PSs.imp)

/-! ### what nobody holds goes, in general: ghost steps -/
@[simp] def Cell.bd (k : Nat) : Cell → Bool
  | .lst xs => A.bds k xs
  | .obj _ fs => A.bdf k fs
  | .dct kvs => kvs.all fun p => p.2.bd k
  | .dtu kvs => kvs.all fun p => p.2.bd k
  | .gone => true
/-- the old cells as they are now, where they hold no new one -/
def cutR (k : Nat) : Th → Th → Option Th
  | [], _ => some []
  | c :: Θ, d :: Θ' => if d = c ∨ d.bd k = true then (match cutR k Θ Θ' with | some r => some (d :: r) | none => none) else none
  | _ :: _, [] => none
def cut (Θ Θ' : Th) : Option Th := cutR Θ.length Θ Θ'
theorem cutR_spec {k : Nat} : ∀ {Θ Θ' r : Th}, cutR k Θ Θ' = some r → r = Θ'.take Θ.length ∧ Θ.length ≤ Θ'.length ∧ ∀ (i : Nat) c, i < Θ.length → Θ'[i]? = some c → Θ[i]? = some c ∨ c.bd k = true
  | [], Θ', r, h => by cases h; exact ⟨by simp, by simp, fun i c hi => by simp at hi⟩
  | c :: Θ, [], r, h => by cases h
  | c :: Θ, d :: Θ', r, h => by
    unfold cutR at h
    split at h
    · rename_i hc
      split at h
      · rename_i r' e
        cases h
        obtain ⟨h1, h2, h3⟩ := cutR_spec e
        refine ⟨by rw [h1]; rfl, by simpa using h2, fun i x hi e' => ?_⟩
        cases i with
        | zero =>
          simp at e' ⊢
          subst e'
          rcases hc with hc | hc
          · exact .inl hc.symm
          · exact .inr hc
        | succ i => simpa using h3 i x (by simpa using hi) (by simpa using e')
      · cases h
    · cases h
theorem cutR_take {k : Nat} : ∀ {Θ Θ' : Th}, Θ.length ≤ Θ'.length → (∀ (i : Nat) c, i < Θ.length → Θ'[i]? = some c → Θ[i]? = some c ∨ c.bd k = true) → cutR k Θ Θ' = some (Θ'.take Θ.length)
  | [], Θ', _, _ => by unfold cutR; simp
  | c :: Θ, [], h, _ => by simp at h
  | c :: Θ, d :: Θ', h, w => by
    unfold cutR
    have e := cutR_take (k := k) (Θ := Θ) (Θ' := Θ') (by simpa using h) fun i x hi e => by simpa using w (i + 1) x (by simpa using hi) (by simpa using e)
    have q : d = c ∨ d.bd k = true := by
      rcases w 0 d (by simp) rfl with z | z
      · simp at z; exact .inl z.symm
      · exact .inr z
    rw [if_pos q, e]
    simp
theorem cut_of {Θ Θ' : Th} (h : Θ.length ≤ Θ'.length) (w : ∀ (i : Nat) c, i < Θ.length → Θ'[i]? = some c → Θ[i]? = some c ∨ c.bd Θ.length = true) : cut Θ Θ' = some (Θ'.take Θ.length) := cutR_take h w
@[simp] theorem cut_app (Θ J : Th) : cut Θ (Θ ++ J) = some Θ := by
  rw [cut_of (by simp) fun i c hi e => .inl (by rw [List.getElem?_append_left hi] at e; exact e)]
  simp
@[simp] theorem cut_self (Θ : Th) : cut Θ Θ = some Θ := by simpa using cut_app Θ []
/-- cells changed and new ones laid -/
theorem cut_set {Θ Θ1 J : Th} (hl : Θ1.length = Θ.length) (w : ∀ (i : Nat) c, Θ1[i]? = some c → Θ[i]? = some c ∨ c.bd Θ.length = true) : cut Θ (Θ1 ++ J) = some Θ1 := by
  rw [cut_of (by rw [List.length_append]; omega) fun i c hi e => w i c (by rw [List.getElem?_append_left (by omega)] at e; exact e), ← hl]
  simp
theorem cut_set0 {Θ Θ1 : Th} (hl : Θ1.length = Θ.length) (w : ∀ (i : Nat) c, Θ1[i]? = some c → Θ[i]? = some c ∨ c.bd Θ.length = true) : cut Θ Θ1 = some Θ1 := by
  have := cut_set (J := []) hl w
  rwa [List.append_nil] at this
section
variable {W : Wd} {μ μ' : Mu} {G G' : Hp}
theorem Cont.bd {o : HO} : ∀ {c : Cell}, Cont W μ G o c → c.bd μ.length = true
  | .lst xs, ⟨_, _, r⟩ => r.bd
  | .obj c fs, ⟨_, _, _, _, _, r⟩ => r.bd
  | .dct kvs, ⟨_, _, r⟩ => r.bd
  | .dtu kvs, ⟨_, _, r⟩ => r.bd
  | .gone, _ => rfl
theorem Cont.back {k : Nat} (h : ∀ (n : Nat) p, n < k → μ'[n]? = some p → μ[n]? = some p) {o : HO} : ∀ {c : Cell}, Cont W μ' G o c → c.bd k = true → Cont W μ G o c
  | .lst xs, ⟨vs, e, r⟩, b => ⟨vs, e, r.back h b⟩
  | .obj c fs, ⟨C, dx, vs, m, e, r⟩, b => ⟨C, dx, vs, m, e, r.back h b⟩
  | .dct kvs, ⟨vs, e, r⟩, b => ⟨vs, e, r.back h b⟩
  | .dtu kvs, ⟨vs, e, r⟩, b => ⟨vs, e, r.back h b⟩
  | .gone, _, _ => True.intro
theorem Sim.cut {Θ Θ' Θ2 : Th} {H H' : Hp} (s : Sim W μ G Θ H) (n : Nx μ G μ' G') (s' : Sim W μ' G' Θ' H') (e : U.cut Θ Θ' = some Θ2) : Sim W μ G' Θ2 H' ∧ Nx μ G μ G' := by
  obtain ⟨rfl, hl, w⟩ := cutR_spec e
  have bk : ∀ (i : Nat) p, i < Θ.length → μ'[i]? = some p → μ[i]? = some p := fun i p hi h => nx_back n i p (by rw [s.len]; exact hi) h
  have th : ∀ {i : Nat} {c : Cell}, (Θ'.take Θ.length)[i]? = some c → i < Θ.length ∧ Θ'[i]? = some c := fun {i c} h => by
    rw [List.getElem?_take] at h
    split at h
    · exact ⟨by assumption, h⟩
    · cases h
  have nx : Nx μ G μ G' := ⟨fun _ _ h => h, n.same⟩
  refine ⟨⟨by rw [List.length_take, s.len]; omega, s'.gh, fun i p c e1 e2 e3 => ?_, fun i p c e1 e2 e3 => s'.off i p c (n.pre _ _ e1) (th e2).2 e3, fun i j p c d e1 e2 e3 e4 e5 e6 => s'.inj i j p c d (n.pre _ _ e1) (n.pre _ _ e2) (th e3).2 (th e4).2 e5 e6⟩, nx⟩
  obtain ⟨hi, e2⟩ := th e2
  obtain ⟨o, h1, h2⟩ := s'.cell i p c (n.pre _ _ e1) e2 e3
  refine ⟨o, h1, h2.back bk ?_⟩
  rcases w i c hi e2 with z | z
  · obtain ⟨o0, _, g2⟩ := s.cell i p c e1 z e3
    rw [← s.len]; exact g2.bd
  · exact z
end

/-! a call: the result holds nothing new, old cells may have changed -/
def tidyM (Θ : Th) (x : R A) : R A := match x with
  | .ok a Θ' => (match cut Θ Θ' with
    | some Θ2 => if a.bd Θ.length = true then .ok a Θ2 else .stuck
    | none => .stuck)
  | .exc c fs Θ' => (match cut Θ Θ' with
    | some Θ2 => if A.bdf Θ.length fs = true then .exc c fs Θ2 else .stuck
    | none => .stuck)
  | .stuck => .stuck
def gcM (m : Fn) : Fn := fun as Θ => tidyM Θ (m as Θ)
theorem gcM_ok {m : Fn} {as : List A} {Θ Θ' Θ2 : Th} {a : A} (h : m as Θ = .ok a Θ') (c : cut Θ Θ' = some Θ2) (b : a.bd Θ.length = true) : gcM m as Θ = .ok a Θ2 := by
  unfold gcM tidyM; rw [h]; dsimp only; rw [c]; dsimp only; rw [if_pos b]
theorem gcM_exc {m : Fn} {as : List A} {Θ Θ' Θ2 : Th} {c : Str} {fs : List (Str × A)} (h : m as Θ = .exc c fs Θ') (q : cut Θ Θ' = some Θ2) (b : A.bdf Θ.length fs = true) : gcM m as Θ = .exc c fs Θ2 := by
  unfold gcM tidyM; rw [h]; dsimp only; rw [q]; dsimp only; rw [if_pos b]
section
variable {W : Wd} {n : Nat} {m : Fn} {vs : List V} {H : Hp} {Q : VK} {E : XK}
theorem gcM_sp (h : spU W n (gcM m) vs H Q E) : spU W n m vs H Q E := by
  obtain ⟨μ, G, Θ, as, e1, s, r, h⟩ := h
  refine ⟨μ, G, Θ, as, e1, s, r, ?_⟩
  unfold gcM tidyM at h
  cases q : m as Θ with
  | stuck => rw [q] at h; exact h
  | ok a Θ' =>
    rw [q] at h
    dsimp only at h
    split at h
    · rename_i Θ2 c
      split at h
      · rename_i b
        intro v μ' G' H' nx s' rv
        obtain ⟨s2, n2⟩ := s.cut nx s' c
        exact h v μ G' H' n2 s2 (rv.back (k := Θ.length) (fun i p hi => nx_back nx i p (by rw [s.len]; exact hi)) b)
      · exact h.elim
    · exact h.elim
  | exc c fs Θ' =>
    rw [q] at h
    dsimp only at h
    split at h
    · rename_i Θ2 c
      split at h
      · rename_i b
        intro e od μ' G' H' nx s' rv
        obtain ⟨s2, n2⟩ := s.cut nx s' c
        exact h e od μ G' H' n2 s2 (rv.back (k := Θ.length) (fun i p hi => nx_back nx i p (by rw [s.len]; exact hi)) b)
      · exact h.elim
    · exact h.elim
end
theorem Cal.gcM {P : Program} {w : World} {K : PySem.W.Frag} {mg : Str → Option Value} {base : Heap} {x : Str} {k n : Nat} {m : Fn} (c : Cal P w K mg base x k n m) : Cal P w K mg base x k n (U.gcM m) := by
  obtain ⟨f, fd, ps, F, a, b, d⟩ := c.ex
  exact ⟨⟨f, fd, ps, F.imp fun _ _ _ _ h => gcM_sp h, a, b, d⟩⟩
theorem CalM.gcM {P : Program} {w : World} {K : PySem.W.Frag} {mg : Str → Option Value} {base : Heap} {c x : Str} {k n : Nat} {m : Fn} (h : CalM P w K mg base c x k n m) : CalM P w K mg base c x k n (U.gcM m) := by
  obtain ⟨C, f, fd, ps, a, b, d, F, e⟩ := h.ex
  exact ⟨⟨C, f, fd, ps, a, b, d, F.imp fun _ _ _ _ h => gcM_sp h, e⟩⟩
theorem CalM.gcP {P : Program} {w : World} {K : PySem.W.Frag} {mg : Str → Option Value} {base : Heap} {c x : Str} {k n : Nat} {m : Fn} (h : CalM P w K mg base c x k n m) : CalM P w K mg base c x k n (U.gcP m) := by
  obtain ⟨C, f, fd, ps, a, b, d, F, e⟩ := h.ex
  exact ⟨⟨C, f, fd, ps, a, b, d, F.imp fun _ _ _ _ h => gcP_sp h, e⟩⟩

/-! a new list or object frozen: it goes from the store at once -/
def fzOf (Θ : Th) (x : R A) : R A := match x with
  | .ok (.loc n) Θ' => (match cut Θ Θ' with
    | some Θ2 => if Θ.length ≤ n then (match Θ'[n]? with
      | some (.lst xs) => if A.bds Θ.length xs = true then .ok (.fl xs) Θ2 else .stuck
      | some (.obj c fs) => if A.bdf Θ.length fs = true then .ok (.ob c fs) Θ2 else .stuck
      | _ => .stuck) else .stuck
    | none => .stuck)
  | .ok a Θ' => (match cut Θ Θ' with
    | some Θ2 => if a.bd Θ.length = true then .ok a Θ2 else .stuck
    | none => .stuck)
  | .exc c fs Θ' => .exc c fs Θ'
  | .stuck => .stuck
def eFz (m : M A) : M A := fun ρ Θ => fzOf Θ (m ρ Θ)
@[simp] theorem eFz_def (m : M A) (ρ : Rho) (Θ : Th) : eFz m ρ Θ = fzOf Θ (m ρ Θ) := rfl
@[simp] theorem fzOf_exc {Θ Θ' : Th} {c : Str} {fs : List (Str × A)} : fzOf Θ (.exc c fs Θ') = .exc c fs Θ' := rfl
@[simp] theorem fzOf_stuck {Θ : Th} : fzOf Θ .stuck = .stuck := rfl
theorem fzOf_lst {Θ Θ' Θ2 : Th} {n : Nat} {xs : List A} (c : cut Θ Θ' = some Θ2) (hn : Θ.length ≤ n) (e : Θ'[n]? = some (.lst xs)) (b : A.bds Θ.length xs = true) : fzOf Θ (.ok (.loc n) Θ') = .ok (.fl xs) Θ2 := by
  unfold fzOf; dsimp only; rw [c]; dsimp only; rw [if_pos hn, e]; dsimp only; rw [if_pos b]
theorem fzOf_obj {Θ Θ' Θ2 : Th} {n : Nat} {k : Str} {fs : List (Str × A)} (c : cut Θ Θ' = some Θ2) (hn : Θ.length ≤ n) (e : Θ'[n]? = some (.obj k fs)) (b : A.bdf Θ.length fs = true) : fzOf Θ (.ok (.loc n) Θ') = .ok (.ob k fs) Θ2 := by
  unfold fzOf; dsimp only; rw [c]; dsimp only; rw [if_pos hn, e]; dsimp only; rw [if_pos b]
/-- the new cell stands last -/
@[simp] theorem fzOf_last {Θ : Th} {xs : List A} : fzOf Θ (.ok (.loc Θ.length) (Θ ++ [.lst xs])) = if A.bds Θ.length xs = true then .ok (.fl xs) Θ else .stuck := by
  unfold fzOf; simp
@[simp] theorem fzOf_lastO {Θ : Th} {k : Str} {fs : List (Str × A)} : fzOf Θ (.ok (.loc Θ.length) (Θ ++ [.obj k fs])) = if A.bdf Θ.length fs = true then .ok (.ob k fs) Θ else .stuck := by
  unfold fzOf; simp
section
variable {X : Cx} {B : Bs} {e : Expr} {m : M A}
theorem te_fz (h : PE X e (uR B m)) : PE X e (uR B (eFz m)) := PE.imp h fun σ H Q h => by
  obtain ⟨ρ, μ, G, Θ, ok, h⟩ := h
  refine ⟨ρ, μ, G, Θ, ok, ?_⟩
  unfold eFz fzOf at h
  cases q : m ρ Θ with
  | stuck => rw [q] at h; exact h
  | exc c fs Θ' => rw [q] at h; exact h
  | ok a Θ' =>
    rw [q] at h
    cases a with
    | loc n =>
      dsimp only at h
      split at h
      · rename_i Θ2 c
        split at h
        · rename_i hn
          intro v μ' G' H' nx s' rv
          have bk : ∀ (i : Nat) p, i < Θ.length → μ'[i]? = some p → μ[i]? = some p := fun i p hi => nx_back nx i p (by rw [ok.sim.len]; exact hi)
          cases rv with
          | @loc _ p hp =>
            have fin : ∀ {d : Cell} {o : HO}, Θ'[n]? = some d → d ≠ .gone → H' p = some o → ∀ {w : A}, (∀ μ1 G1, Nx μ' G' μ1 G1 → G1 p = some o → (∀ (i : Nat) q, i < Θ.length → μ1[i]? = some q → μ[i]? = some q) → Nx μ G μ G1 → Rel B.W μ G1 (.ref p) w) → PX (Rel B.W) B σ μ G Q (.ok w Θ2) → Q (.ref p) H' := by
              intro d o e1 e2 e3 w hw h
              obtain ⟨s2, n2⟩ := s'.freeze hp e1 e2 e3
              have nn := nx.trans n2
              have hc : U.cut Θ (Θ'.set n .gone) = some Θ2 := by
                obtain ⟨rfl, hl, w⟩ := cutR_spec c
                rw [cut_of (by rw [List.length_set]; exact hl) fun i c hi e => w i c hi (by rw [List.getElem?_set_ne (by omega)] at e; exact e)]
                congr 1
                apply List.ext_getElem?
                intro i
                rw [List.getElem?_take, List.getElem?_take]
                split
                · rw [List.getElem?_set_ne (by omega)]
                · rfl
              obtain ⟨s3, n3⟩ := ok.sim.cut nn s2 hc
              exact h _ μ _ _ n3 s3 (hw _ _ n2 upd_same bk n3)
            split at h
            · rename_i xs e1
              split at h
              · rename_i b
                obtain ⟨o, h1, ws, rfl, h2⟩ := s'.cell _ p _ hp e1 (by intro z; cases z)
                exact fin e1 (by intro z; cases z) h1 (fun μ1 G1 n1 hg bk1 n3 => .fl hg ((h2.mono n1).back bk1 b)) h
              · exact h.elim
            · rename_i k fs e1
              split at h
              · rename_i b
                obtain ⟨o, h1, C, dx, ws, hm, rfl, h2⟩ := s'.cell _ p _ hp e1 (by intro z; cases z)
                exact fin e1 (by intro z; cases z) h1 (fun μ1 G1 n1 hg bk1 n3 => .ob hm hg ((h2.mono n1).back bk1 b)) h
              · exact h.elim
            · exact h.elim
        · exact h.elim
      · exact h.elim
    | _ =>
      dsimp only at h
      split at h
      · rename_i Θ2 c
        split at h
        · rename_i b
          intro v μ' G' H' nx s' rv
          obtain ⟨s2, n2⟩ := ok.sim.cut nx s' c
          exact h v μ G' H' n2 s2 (rv.back (k := Θ.length) (fun i p hi => nx_back nx i p (by rw [ok.sim.len]; exact hi)) b)
        · exact h.elim
      · exact h.elim
end

/-! the turn of a loop: slots forgotten, new cells gone -/
def rhoBd (k : Nat) : Rho → Bool
  | [] => true
  | none :: r => rhoBd k r
  | some a :: r => a.bd k && rhoBd k r
@[simp] theorem rhoBd_nil (k : Nat) : rhoBd k [] = true := rfl
@[simp] theorem rhoBd_none (k : Nat) (r : Rho) : rhoBd k (none :: r) = rhoBd k r := rfl
@[simp] theorem rhoBd_some (k : Nat) (a : A) (r : Rho) : rhoBd k (some a :: r) = (a.bd k && rhoBd k r) := rfl
theorem rhoBd_get {k : Nat} : ∀ {ρ : Rho} {i : Nat} {a : A}, rhoBd k ρ = true → ρ[i]? = some (some a) → a.bd k = true
  | [], i, a, _, e => by simp at e
  | none :: r, 0, a, h, e => by simp at e
  | none :: r, i + 1, a, h, e => rhoBd_get (ρ := r) (i := i) h (by simpa using e)
  | some b :: r, 0, a, h, e => by simp at e; subst e; simp at h; exact h.1
  | some b :: r, i + 1, a, h, e => rhoBd_get (ρ := r) (i := i) (by simp at h; exact h.2) (by simpa using e)
def gcTurn (vs : List Nat) (Θ : Th) (x : RS) : RS := match x with
  | .ok f ρ Θ' => (match f with
    | .next => (match cut Θ Θ' with
      | some Θ2 => if rhoBd Θ.length (wipeR ρ vs) = true then .ok .next (wipeR ρ vs) Θ2 else .stuck
      | none => .stuck)
    | .cont => (match cut Θ Θ' with
      | some Θ2 => if rhoBd Θ.length (wipeR ρ vs) = true then .ok .cont (wipeR ρ vs) Θ2 else .stuck
      | none => .stuck)
    | f => .ok f ρ Θ')
  | r => r
def sGc (vs : List Nat) (b : Sm) : Sm := fun ρ Θ => gcTurn vs Θ (b ρ Θ)
@[simp] theorem sGc_def (vs : List Nat) (b : Sm) (ρ : Rho) (Θ : Th) : sGc vs b ρ Θ = gcTurn vs Θ (b ρ Θ) := rfl
@[simp] theorem gcTurn_brk {vs : List Nat} {Θ Θ' : Th} {ρ : Rho} : gcTurn vs Θ (.ok .brk ρ Θ') = .ok .brk ρ Θ' := rfl
@[simp] theorem gcTurn_ret {vs : List Nat} {Θ Θ' : Th} {ρ : Rho} {a : A} : gcTurn vs Θ (.ok (.ret a) ρ Θ') = .ok (.ret a) ρ Θ' := rfl
@[simp] theorem gcTurn_exc {vs : List Nat} {Θ Θ' : Th} {ρ : Rho} {c : Str} {fs : List (Str × A)} : gcTurn vs Θ (.exc c fs ρ Θ') = .exc c fs ρ Θ' := rfl
@[simp] theorem gcTurn_stuck {vs : List Nat} {Θ : Th} : gcTurn vs Θ .stuck = .stuck := rfl
theorem gcTurn_next {vs : List Nat} {Θ Θ' Θ2 : Th} {ρ : Rho} (c : cut Θ Θ' = some Θ2) (b : rhoBd Θ.length (wipeR ρ vs) = true) : gcTurn vs Θ (.ok .next ρ Θ') = .ok .next (wipeR ρ vs) Θ2 := by
  unfold gcTurn; dsimp only; rw [c]; dsimp only; rw [if_pos b]
theorem gcTurn_cont {vs : List Nat} {Θ Θ' Θ2 : Th} {ρ : Rho} (c : cut Θ Θ' = some Θ2) (b : rhoBd Θ.length (wipeR ρ vs) = true) : gcTurn vs Θ (.ok .cont ρ Θ') = .ok .cont (wipeR ρ vs) Θ2 := by
  unfold gcTurn; dsimp only; rw [c]; dsimp only; rw [if_pos b]
@[simp] theorem gcTurn_same {vs : List Nat} {Θ J : Th} {ρ : Rho} : gcTurn vs Θ (.ok .next ρ (Θ ++ J)) = if rhoBd Θ.length (wipeR ρ vs) = true then .ok .next (wipeR ρ vs) Θ else .stuck := by
  unfold gcTurn; simp
@[simp] theorem gcTurn_sameC {vs : List Nat} {Θ J : Th} {ρ : Rho} : gcTurn vs Θ (.ok .cont ρ (Θ ++ J)) = if rhoBd Θ.length (wipeR ρ vs) = true then .ok .cont (wipeR ρ vs) Θ else .stuck := by
  unfold gcTurn; simp
@[simp] theorem gcTurn_self {vs : List Nat} {Θ : Th} {ρ : Rho} : gcTurn vs Θ (.ok .next ρ Θ) = if rhoBd Θ.length (wipeR ρ vs) = true then .ok .next (wipeR ρ vs) Θ else .stuck := by
  simpa using gcTurn_same (vs := vs) (Θ := Θ) (J := []) (ρ := ρ)
@[simp] theorem gcTurn_selfC {vs : List Nat} {Θ : Th} {ρ : Rho} : gcTurn vs Θ (.ok .cont ρ Θ) = if rhoBd Θ.length (wipeR ρ vs) = true then .ok .cont (wipeR ρ vs) Θ else .stuck := by
  simpa using gcTurn_sameC (vs := vs) (Θ := Θ) (J := []) (ρ := ρ)
section
variable {X : Cx} {B : Bs} {b : Sm}
theorem Ok.cutW {vs : List Nat} {ρ ρ' : Rho} {μ μ' : Mu} {G G' H H' : Hp} {σ σ' : L2.St} {Θ Θ' Θ2 : Th} (ok : Ok B ρ μ G σ Θ H) (n : Nx μ G μ' G') (ok' : Ok B ρ' μ' G' σ' Θ' H') (c : U.cut Θ Θ' = some Θ2) (b : rhoBd Θ.length (wipeR ρ' vs) = true) : Ok B (wipeR ρ' vs) μ G' σ' Θ2 H' ∧ Nx μ G μ G' := by
  obtain ⟨s2, n2⟩ := ok.sim.cut n ok'.sim c
  refine ⟨⟨by rw [wipeR_len]; exact ok'.len, fun i a e => ?_, s2⟩, n2⟩
  obtain ⟨v, e1, r⟩ := ok'.sl i a (wipeR_get e).2
  exact ⟨v, e1, r.back (k := Θ.length) (fun i p hi => nx_back n i p (by rw [ok.sim.len]; exact hi)) (rhoBd_get b e)⟩
theorem ts_gc {ss : List Stmt} (vs : List Nat) (h : PSs X ss (uS B b)) : PSs X ss (uS B (sGc vs b)) := PSs.imp h fun E σ H h => by
  obtain ⟨ρ, μ, G, Θ, ok, h⟩ := h
  refine ⟨ρ, μ, G, Θ, ok, ?_⟩
  unfold sGc gcTurn at h
  cases q : b ρ Θ with
  | stuck => rw [q] at h; exact h
  | exc c fs ρ1 Θ1 => rw [q] at h; exact h
  | ok f ρ1 Θ1 =>
    rw [q] at h
    cases f with
    | next =>
      dsimp only at h
      split at h
      · rename_i Θ2 c
        split at h
        · rename_i b
          intro σ' μ' G' H' n o
          obtain ⟨o2, n2⟩ := ok.cutW n o c b
          exact h σ' μ G' H' n2 o2
        · exact h.elim
      · exact h.elim
    | cont =>
      dsimp only at h
      split at h
      · rename_i Θ2 c
        split at h
        · rename_i b
          intro σ' μ' G' H' n o
          obtain ⟨o2, n2⟩ := ok.cutW n o c b
          exact h σ' μ G' H' n2 o2
        · exact h.elim
      · exact h.elim
    | brk => exact h
    | ret a => exact h
end
end U
noncomputable section
namespace UX
open PySem PySem.W PySem.Spec PySem.Calls PyProof.Rows
section
variable {prog : Program} {w : World} {A : Around} {E : Value → Shared → Prop} {s : Shared} {K : Frag} {x D : Addr} {ox : Obj} {od : Option Obj}
/-- e.__class__ of a caught exception, whether it has a dict or not -/
theorem class_of {Q : Option Value → Shared → Prop} (C : L2.ExcC K D) (X : K.In s.heap) (J : InstAt s.heap x ox D od) (h : Q (some (.ref D)) { s with toks := s.toks + 1 }) : wpAny (model prog w) A (getAttr? (.ref x) "__class__") Q E s := by
  have found : findObj K D od "__class__" = some (.bind (.builtin "getset_descriptor.__get__") (.builtin "object.__class__")) := by
    obtain ⟨cd, hc, _⟩ := any_some C.hd
    unfold findObj; rw [hc, Option.bind_some, C.ha, Option.bind_some]; simp [C.hn, C.ht]
  obtain ⟨hp, g, d, t, os⟩ := s
  have T0 := J.type (M := model prog w); have T1 := looks_findIn (M := model prog w) X C.hg; have T2 := looks_findIn (M := model prog w) X C.hk
  have T3 := looks_find (M := model prog w) X J found
  have isx : Looks (model prog w) hp (isInstance (.ref x) (.type "BaseException")) true := T0.andThen (looks_subIn X C.hs)
  have n0 : (false && onTheHeap (Value.builtin "BaseException.__getattribute__")) = false := rfl
  have n1 : (onTheHeap (Value.ref D) && Value.builtin "BaseException.__getattribute__" == Value.builtin "object.__getattribute__") = false := by
    have n2 : (Value.builtin "BaseException.__getattribute__" == Value.builtin "object.__getattribute__") = false := by decide +kernel
    rw [n2]; rfl
  unfold getAttr? getAttrBy? getAttrBy
  refine wpAny_bind (wpAny_mkText (wpAny_bind (wpAny_attempt (wpAny_holding (wpAny_bind (T0.at (wpAny_bind (T1.at ?_))))))))
  show wpAny _ _ (if (onTheHeap (Value.ref D) && Value.builtin "BaseException.__getattribute__" == Value.builtin "object.__getattribute__") = true then _ else _) _ _ _ ; rw [n1, if_neg Bool.false_ne_true]
  unfold getAttrByItsOwn hookBefore; refine wpAny_bind ?_
  rw [if_pos (show onTheHeap (Value.ref D) = true from rfl)] ; refine T2.at (wpAny_bind (wpAny_attempt (wpAny_holding ?_)))
  unfold callGetattribute; rw [n0, if_neg Bool.false_ne_true]
  unfold boundAndCalled; rw [PySem.F.excAttr_ValueError.ga.bind (.ref x)] ; refine wpAny_bind (wpAny_pure ?_)
  show wpAny _ _ (call (.builtin "BaseException.__getattribute__") [.ref x, .str "__class__" t]) _ _ _ ; refine wpAny_call (codeAny_call_builtin PySem.F.excAttr_ValueError.ga.plain PySem.F.entry_bexc_ga ?_)
  refine @check_slot (model prog w) _ _ ⟨hp, g, d, t + 1, os⟩ "BaseException.__getattribute__" "BaseException" "__getattribute__" (.ref x) [.str "__class__" t] [] _ (by decide +kernel) (by decide +kernel) isx (PySem.F.args_bexc_ga (.ref x) (.str "__class__" t)) ?_
  unfold Builtin.«object.__getattribute__»; refine wpAny_bind (wpAny_of_eq (a := ((Value.ref x : Value), [Value.str "__class__" t])) (by first | rfl | (simp only [slotArgs]; rfl)) ?_)
  refine wpAny_bind (wpAny_pure (wpAny_bind (T0.at (wpAny_bind (T3.at ?_)))))
  show wpAny _ _ (holding [Value.builtin "object.__class__"] (call (.builtin "getset_descriptor.__get__") [.builtin "object.__class__", .ref x, .ref D]) >>= ret) _ _ _
  refine wpAny_bind (wpAny_holding (wpAny_call (class_get (s := ⟨hp, g, d, t + 1, os⟩) (ox := ox) (od := od) X J C.hm (wpAny_pure ?_))))
  show wpAny _ _ (handedOut (.ref D)) _ _ _ ; rw [handedOut_of (v := .ref D) rfl]
  first | exact wpAny_pure (wpAny_pure h) | exact wpAny_pure h | exact wpAny_pure (wpAny_bind (wpAny_pure (wpAny_pure h)))
theorem kitx_any (C : L2.ExcC K D) : KitX K (.ref x) (.ref D) (fun h => ∃ ox od, InstAt h x ox D od) where
  ty := fun _ _ _ ⟨_, _, J⟩ => J.type
  it := fun _ _ X _ => by
    obtain ⟨cd, hc, _⟩ := any_some C.hd
    unfold clsIn at hc; split at hc
    · rename_i ho; intro A' Q' E' s' k q; unfold isType loadHead; exact wpAny_bind (wpAny_loadPart (k _ _ (X _ _ ho)) (wpAny_pure q))
    · cases hc
  ne := fun h tp dd its n sl X htp => by
    obtain ⟨cd, hc, _⟩ := any_some C.hd
    refine Bool.eq_false_iff.mpr fun q => ?_
    obtain rfl : D = tp := Value.ref.inj (beq_iff_eq.mp q)
    unfold clsIn at hc; split at hc
    · rename_i ho; cases (X _ _ ho).symm.trans htp
    · cases hc
  ca := fun X ⟨_, _, J⟩ k => class_of C X J k
end
end UX
namespace U
open PySem PySem.Spec PyProof.Rows L2
open T (PE.imp PT.imp PW.imp PA.imp PS.imp PSs.imp)

/-! ### classes of the program as values; isinstance -/
section
variable {X : Cx} {B : Bs}
theorem te_cls {c : Str} {C : Addr} {pos : Pos} (hW : B.W = ⟨X.K, X.mg⟩) (hm : X.mg c = some (.ref C)) (hg : Gl X c := by rfl) (hd : (c == ("__debug__" : Str)) = false := by decide) : PE X (.Name c pos) (uR B (eC (.glo c))) :=
  te_c (pe_glob (v := .ref C) hg hm rfl hd) fun _ _ => .glo (by rw [hW]; exact hm)
end
/-- the tables of isinstance: a class of the program against one, against a built-in one; a built-in one against a class of the program -/
structure Isa where
  cc : Str → Str → Option Bool
  ct : Str → String → Option Bool
  tc : String → Str → Option Bool
  xc : Str → Str → Option Bool
  xt : Str → String → Option Bool
/-- what a class must say for isinstance of its instances -/
structure ObC (K : PySem.W.Frag) (C : Addr) : Prop where
  cl : Cls K C
  ha : PySem.W.findIn K (.ref C) "__class__" = some (some (.builtin "object.__class__"))
  hn : PySem.W.specialIn K (.builtin "object.__class__") "__get__" = some (some (.builtin "getset_descriptor.__get__"))
  htk : PySem.W.takesIn K (.builtin "object.__class__") = some true
  hm : PySem.W.mroIn K C (.type "object") = some true
structure IsaOk (K : PySem.W.Frag) (mg : Str → Option Value) (I : Isa) : Prop where
  cc : ∀ c d b, I.cc c d = some b → ∀ C D, mg c = some (.ref C) → mg d = some (.ref D) → PySem.W.kitOne K (.ref C) (.ref D) = some b
  ct : ∀ c n b, I.ct c n = some b → ∀ C, mg c = some (.ref C) → PySem.W.kitOne K (.ref C) (.type n) = some b
  tc : ∀ n d b, I.tc n d = some b → ∀ D, mg d = some (.ref D) → PySem.W.kitOne K (.type n) (.ref D) = some b
  xc : ∀ c d b, I.xc c d = some b → ∀ C D, mg c = some (.ref C) → mg d = some (.ref D) → PySem.W.kitOne K (.ref C) (.ref D) = some b
  xt : ∀ c n b, I.xt c n = some b → ∀ C, mg c = some (.ref C) → PySem.W.kitOne K (.ref C) (.type n) = some b
/-- what a value is of: a built-in class, a class of the program by an object, by a caught exception -/
inductive Ky where
  | ty (n : String) | ob (c : Str) | ex (c : Str)
def kyOf (Θ : Th) : A → Option Ky
  | .ob c _ => some (.ob c)
  | .exo c _ => some (.ex c)
  | .loc n => (match Θ[n]? with
    | some (.obj c _) => some (.ob c)
    | some (.lst _) => some (.ty "list")
    | some (.dct _) => some (.ty "dict")
    | _ => none)
  | a => (tyN Θ a).map .ty
@[simp] theorem kyOf_ob (Θ : Th) (c : Str) (fs : List (Str × A)) : kyOf Θ (.ob c fs) = some (.ob c) := rfl
@[simp] theorem kyOf_exo (Θ : Th) (c : Str) (fs : List (Str × A)) : kyOf Θ (.exo c fs) = some (.ex c) := rfl
@[simp] theorem kyOf_loc (Θ : Th) (n : Nat) : kyOf Θ (.loc n) = (match Θ[n]? with
    | some (.obj c _) => some (.ob c)
    | some (.lst _) => some (.ty "list")
    | some (.dct _) => some (.ty "dict")
    | _ => none) := rfl
@[simp] theorem kyOf_int (Θ : Th) (i : Int) : kyOf Θ (.int i) = some (.ty "int") := rfl
@[simp] theorem kyOf_bl (Θ : Th) (i : Bool) : kyOf Θ (.bl i) = some (.ty "bool") := rfl
@[simp] theorem kyOf_str (Θ : Th) (i : Str) : kyOf Θ (.str i) = some (.ty "str") := rfl
@[simp] theorem kyOf_non (Θ : Th) : kyOf Θ .non = some (.ty "NoneType") := rfl
@[simp] theorem kyOf_fl (Θ : Th) (xs : List A) : kyOf Θ (.fl xs) = some (.ty "list") := rfl
@[simp] theorem kyOf_tup (Θ : Th) (xs : List A) : kyOf Θ (.tup xs) = some (.ty "tuple") := rfl
@[simp] def isOne (I : Isa) : Ky → A → Option Bool
  | .ty t, .ty n => kitB t n
  | .ty t, .glo d => I.tc t d
  | .ob c, .ty n => I.ct c n
  | .ob c, .glo d => I.cc c d
  | .ex c, .ty n => I.xt c n
  | .ex c, .glo d => I.xc c d
  | _, _ => none
@[simp] def isAny (I : Isa) (k : Ky) : List A → Option Bool
  | [] => some false
  | t :: r => match isOne I k t, isAny I k r with
    | some b, some c => some (b || c)
    | _, _ => none
@[simp] def Ky.plain : Ky → Bool
  | .ex _ => false
  | _ => true
@[simp] def dIsa (I : Isa) (as : List A) (Θ : Th) : R A := match as with
  | [d, .tup (t :: ts)] => (match kyOf Θ d with
    | some k => if k.plain = true then (match isAny I k (t :: ts) with | some b => .ok (.bl b) Θ | none => .stuck) else .stuck
    | none => .stuck)
  | [d, t] => (match kyOf Θ d with
    | some k => (match isOne I k t with | some b => .ok (.bl b) Θ | none => .stuck)
    | none => .stuck)
  | _ => .stuck
/-- the type of a value, of caught exceptions too -/
inductive TyZ (K : PySem.W.Frag) (H : Hp) : V → Value → Prop where
  | base {x : V} {t : Value} (h : TyX K H x t) : TyZ K H x t
  | exo0 {a C : Addr} (e : H a = some (XO (.ref C) none a)) (h : ExcC K C) : TyZ K H (.ref a) (.ref C)
  | exo1 {a C dd : Addr} {fs : List (Str × V)} (e : H a = some (XO (.ref C) (some dd) a)) (e2 : H dd = some (.xd fs)) (h : ExcC K C) : TyZ K H (.ref a) (.ref C)
theorem kitz_of {X : Cx} {pins : List (Addr × Obj)} {σ : L2.St} {H : Hp} {s : Shared} {x : V} {u t : Value} (I : Inv X pins σ H s) (rx : RelV x u) (ty : TyZ X.K H x t) : ∃ P : Heap → Prop, PySem.W.KitX X.K u t P ∧ P s.heap ∧ u ≠ .builtin "__main__.__loader__#opaque" := by
  cases ty with
  | base h => exact kit_of I rx h
  | @exo0 a C e h =>
    cases (show u = Value.ref a from rx)
    obtain ⟨⟨oe, h1, h2, vs, h3⟩, _⟩ := I.hok a _ e
    refine ⟨_, UX.kitx_any (x := a) h, ⟨oe, none, ?_⟩, fun z => nomatch z⟩
    exact ⟨h1, h2.1, by unfold PySem.W.notCls; rw [h3] <;> rfl, by rw [h2.2]; exact True.intro⟩
  | @exo1 a C dd fs e e2 h =>
    cases (show u = Value.ref a from rx)
    obtain ⟨⟨oe, h1, h2, vs, h3⟩, _⟩ := I.hok a _ e
    obtain ⟨mA, hns, hr⟩ := (show ObjOk X.prog X.w H s.heap dd (.xd fs) from I.hok dd _ e2)
    obtain ⟨od, ho, hl⟩ := lookIn_ns hns
    refine ⟨_, UX.kitx_any (x := a) h, ⟨oe, some od, ?_⟩, fun z => nomatch z⟩
    exact ⟨h1, h2.1, by unfold PySem.W.notCls; rw [h3] <;> rfl, by rw [h2.2]; exact ho⟩
def rIsZ (K : PySem.W.Frag) : List V → Hp → VK → Prop := fun xs H Q => ∃ (x c : V) (t u : Value) (b : Bool), xs = [x, c] ∧ ClsV c u ∧ TyZ K H x t ∧ PySem.W.kitOne K t u = some b ∧ Q (.bl b) H
theorem call_isZ {X : Cx} : CallR X (.builtin "isinstance") (rIsZ X.K) := by
  intro pins s σ H xs us Q I r h
  obtain ⟨x, c, t, u, b, rfl, k, ty, e, q⟩ := h
  obtain ⟨w1, w2, rfl, r1, r2⟩ := vals2 r
  have e2 := k.eq r2
  subst e2
  obtain ⟨P, Z, p, hx⟩ := kitz_of I r1 ty
  exact PySem.W.kia_one Z I.kIn p e hx fun tk => ⟨.bl b, H, I.tok tk, rfl, q⟩
/-- both forms -/
def rIsU (K : PySem.W.Frag) : List V → Hp → VK → Prop := fun xs H Q => rIsZ K xs H Q ∨ rIsiT K xs H Q
theorem call_isU {X : Cx} : CallR X (.builtin "isinstance") (rIsU X.K) := by
  intro pins s σ H xs us Q I r h
  rcases h with h | h
  · exact call_isZ pins s σ H xs us Q I r h
  · exact call_isiT pins s σ H xs us Q I r h
/-- what isinstance wants of the classes that it is asked of -/
structure IsaK (K : PySem.W.Frag) (mg : Str → Option Value) (I : Isa) : Prop where
  ok : IsaOk K mg I
  ob : ∀ c, ((∃ d b, I.cc c d = some b) ∨ ∃ n b, I.ct c n = some b) → ∀ C, mg c = some (.ref C) → ObC K C
  ex : ∀ c, ((∃ d b, I.xc c d = some b) ∨ ∃ n b, I.xt c n = some b) → ∀ C, mg c = some (.ref C) → ExcC K C
theorem Rel.tyZ {K : PySem.W.Frag} {mg : Str → Option Value} {μ : Mu} {G : Hp} {Θ : Th} {H : Hp} {v : V} {d : A} {t : String} (s : Sim ⟨K, mg⟩ μ G Θ H) (h : Rel ⟨K, mg⟩ μ G v d) (e : kyOf Θ d = some (.ty t)) : TyX K H v (.type t) := by
  cases h with
  | @loc n p h =>
    refine h |> fun h => ?_
    unfold kyOf at e
    dsimp only at e
    split at e
    · cases e
    · rename_i xs q
      exact Rel.tyOf s (.loc h) (by unfold tyN; dsimp only; rw [q]; cases e; rfl)
    · rename_i xs q
      exact Rel.tyOf s (.loc h) (by unfold tyN; dsimp only; rw [q]; cases e; rfl)
    · cases e
  | non => cases e; exact Rel.tyOf s .non rfl
  | bl b => cases e; exact Rel.tyOf s (.bl b) rfl
  | int i => cases e; exact Rel.tyOf s (.int i) rfl
  | str x => cases e; exact Rel.tyOf s (.str x) rfl
  | tup h r => cases e; exact Rel.tyOf s (.tup h r) rfl
  | fl h r => cases e; exact Rel.tyOf s (.fl h r) rfl
  | _ => cases e
/-- a value of a class of the program -/
theorem Rel.tyC {K : PySem.W.Frag} {mg : Str → Option Value} {μ : Mu} {G : Hp} {Θ : Th} {H : Hp} {v : V} {d : A} {c : Str} (s : Sim ⟨K, mg⟩ μ G Θ H) (h : Rel ⟨K, mg⟩ μ G v d) (e : kyOf Θ d = some (.ob c)) :
    ∃ p C dx fs, v = .ref p ∧ mg c = some (.ref C) ∧ H p = some (.ins C dx fs) := by
  have e' : ∃ fs, objOf Θ d = some (c, fs) := by
    cases d with
    | loc n =>
      unfold kyOf at e
      dsimp only at e
      split at e
      · rename_i k fs q
        cases e
        exact ⟨fs, by unfold objOf; dsimp only; rw [q]⟩
      all_goals cases e
    | ob c' fs => cases e; exact ⟨fs, rfl⟩
    | _ => cases e
  obtain ⟨fs, e'⟩ := e'
  obtain ⟨p, C, dx, vs, h1, h2, h3, h4⟩ := obj_of s h e'
  exact ⟨p, C, dx, vs, h1, h2, h3⟩
theorem Rel.tyX {K : PySem.W.Frag} {mg : Str → Option Value} {μ : Mu} {G : Hp} {Θ : Th} {H : Hp} {v : V} {d : A} {c : Str} (s : Sim ⟨K, mg⟩ μ G Θ H) (h : Rel ⟨K, mg⟩ μ G v d) (e : kyOf Θ d = some (.ex c)) :
    ∃ C, mg c = some (.ref C) ∧ (ExcC K C → TyZ K H v (.ref C)) := by
  cases h with
  | exo0 m h => cases e; exact ⟨_, m, fun x => .exo0 (s.gh _ _ h) x⟩
  | exo1 m h h2 r => cases e; exact ⟨_, m, fun x => .exo1 (s.gh _ _ h) (s.gh _ _ h2) x⟩
  | @loc n p h =>
    unfold kyOf at e
    dsimp only at e
    split at e <;> cases e
  | _ => cases e
section
variable {X : Cx} {B : Bs} {I : Isa}
/-- a class as isinstance's second operand -/
inductive TgZ (mg : Str → Option Value) : A → V → Value → Prop where
  | ty (n : String) : TgZ mg (.ty n) (.ty n) (.type n)
  | glo {c : Str} {C : Addr} (h : mg c = some (.ref C)) : TgZ mg (.glo c) (.ref C) (.ref C)
theorem TgZ.cls {mg : Str → Option Value} {a : A} {v : V} {u : Value} (h : TgZ mg a v u) : ClsV v u := by
  cases h with
  | ty n => exact .ty n
  | glo h => exact .own _
theorem tgz_of {K : PySem.W.Frag} {mg : Str → Option Value} {μ : Mu} {G : Hp} {k : Ky} {t : A} {v : V} {b : Bool} (h : Rel ⟨K, mg⟩ μ G v t) (e : isOne I k t = some b) : ∃ u, TgZ mg t v u := by
  cases h with
  | ty n => exact ⟨_, .ty n⟩
  | glo h => exact ⟨_, .glo h⟩
  | _ => cases k <;> cases e
/-- the type of a value and kitOne's answer -/
theorem isOne_ok {K : PySem.W.Frag} {mg : Str → Option Value} {μ : Mu} {G : Hp} {Θ : Th} {H : Hp} {v w : V} {d t : A} {k : Ky} {b : Bool} (Z : IsaK K mg I) (s : Sim ⟨K, mg⟩ μ G Θ H) (h : Rel ⟨K, mg⟩ μ G v d) (hk : kyOf Θ d = some k)
    {u : Value} (g : TgZ mg t w u) (e : isOne I k t = some b) : ∃ kv, TyZ K H v kv ∧ (k.plain = true → TyX K H v kv) ∧ (∀ t' w' u' b', TgZ mg t' w' u' → isOne I k t' = some b' → PySem.W.kitOne K kv u' = some b') := by
  cases k with
  | ty n =>
    refine ⟨.type n, .base (h.tyZ s hk), fun _ => h.tyZ s hk, fun t' w' u' b' g e => ?_⟩
    cases g with
    | ty m => exact kit_ty e
    | glo hm => exact Z.ok.tc _ _ _ e _ hm
  | ob c =>
    obtain ⟨p, C, dx, fs, rfl, hC, hp⟩ := h.tyC s hk
    have hO : ObC K C := Z.ob c (by
      cases g with
      | ty m => exact .inr ⟨_, _, e⟩
      | glo hm => exact .inl ⟨_, _, e⟩) C hC
    have hT : TyX K H (.ref p) (.ref C) := .base (.ins hp hO.cl hO.ha hO.hn hO.htk hO.hm)
    refine ⟨.ref C, .base hT, fun _ => hT, fun t' w' u' b' g e => ?_⟩
    cases g with
    | ty m => exact Z.ok.ct _ _ _ e _ hC
    | glo hm => exact Z.ok.cc _ _ _ e _ _ hC hm
  | ex c =>
    obtain ⟨C, hC, hp⟩ := h.tyX s hk
    have hO : ExcC K C := Z.ex c (by
      cases g with
      | ty m => exact .inr ⟨_, _, e⟩
      | glo hm => exact .inl ⟨_, _, e⟩) C hC
    refine ⟨.ref C, hp hO, fun z => (by cases z), fun t' w' u' b' g e => ?_⟩
    cases g with
    | ty m => exact Z.ok.xt _ _ _ e _ hC
    | glo hm => exact Z.ok.xc _ _ _ e _ _ hC hm
theorem isAny_ok {K : PySem.W.Frag} {mg : Str → Option Value} {μ : Mu} {G : Hp} {kv : Value} {k : Ky} (f : ∀ t' w' u' b', TgZ mg t' w' u' → isOne I k t' = some b' → PySem.W.kitOne K kv u' = some b') : ∀ {ts : List A} {ws : List V} {b : Bool}, Rels ⟨K, mg⟩ μ G ws ts → isAny I k ts = some b → ∃ us, Paired ClsV ws us ∧ PySem.W.kitAny K kv us = some b := by
  intro ts
  induction ts with
  | nil =>
    intro ws b r e
    cases r; cases e
    exact ⟨[], .nil, rfl⟩
  | cons t ts ih =>
    intro ws b r e
    cases r with
    | cons r1 r2 =>
      unfold isAny at e
      split at e
      · rename_i b1 b2 e1 e2
        cases e
        obtain ⟨u, g⟩ := tgz_of r1 e1
        obtain ⟨us, h1, h2⟩ := ih r2 e2
        refine ⟨u :: us, .cons g.cls h1, ?_⟩
        unfold PySem.W.kitAny
        rw [f _ _ _ _ g e1]
        cases b1 with
        | true => rfl
        | false => exact h2
      · cases e
/-- isinstance -/
theorem c_isa (hW : B.W = ⟨X.K, X.mg⟩) (Z : IsaK X.K X.mg I) : CallS B (rIsU X.K) (dIsa I) := by
  intro σ μ G Θ H vs ds Q s p q
  obtain ⟨W, E⟩ := B
  dsimp only at hW
  subst hW
  unfold dIsa at q
  split at q
  · rename_i d t ts
    split at q
    · rename_i k hk
      split at q
      · rename_i pl
        split at q
        · rename_i b eb
          obtain ⟨v, w, rfl, p1, p2⟩ := p.two
          cases p2 with
          | @tup a cs _ hg rc =>
            have hc := s.gh _ _ hg
            have e1 : ∃ b1, isOne I k t = some b1 := by
                unfold isAny at eb
                split at eb
                · rename_i b1 b2 e1 e2; exact ⟨b1, e1⟩
                · cases eb
            obtain ⟨b1, e1⟩ := e1
            cases rc with
            | cons r1 r2 =>
                obtain ⟨u, g⟩ := tgz_of r1 e1
                obtain ⟨kv, _, h1, h2⟩ := isOne_ok Z s p1 hk g e1
                obtain ⟨us, h3, h4⟩ := isAny_ok h2 (.cons r1 r2) eb
                exact .inr ⟨v, a, _, kv, us, b, rfl, hc, h3, h1 pl, h4, px_ok s (.bl b) q⟩
        · exact q.elim
      · exact q.elim
    · exact q.elim
  · split at q
    · rename_i d t _ k hk
      split at q
      · rename_i b eb
        obtain ⟨v, w, rfl, p1, p2⟩ := p.two
        obtain ⟨u, g⟩ := tgz_of p2 eb
        obtain ⟨kv, h1, _, h2⟩ := isOne_ok Z s p1 hk g eb
        exact .inl ⟨v, w, kv, u, b, rfl, g.cls, h1, h2 _ _ _ _ g eb, px_ok s (.bl b) q⟩
      · exact q.elim
    · exact q.elim
  · exact q.elim
end
end U
noncomputable section
namespace UX
open PySem PySem.Spec PyProof.Rows PySem.AutoSeq1 MeetsSeq
/-- xs + ys of plain lists, whatever slots they carry -/
theorem cat_plain (l b : Addr) (xs ys : Array Value) (n m : Nat) (s1 s2 : Array (Option Value)) (hz : xs.size + ys.size ≤ sizeLine) :
    Meets (Builtin.«list.__add__» ⟨[.ref l, .ref b], []⟩) (fun _ R s => s.heap.get? l = some ⟨.type "list", none, .seq xs n, s1⟩ ∧ s.heap.get? b = some ⟨.type "list", none, .seq ys m, s2⟩ ∧ R (.ok (.ret (Value.ref s.heap.objs.size))) { s with heap := s.heap.push { cls := .type "list", data := .seq (xs ++ ys) } }) :=
  .of_wp fun prog w A R s h => by
    obtain ⟨hp, g, d, tk, os⟩ := s
    obtain ⟨h1, h2, h⟩ := h
    have g1 := idx_int; have g2 := AutoSeq1.sub_tuple_tuple; have g3 := AutoSeq1.sub_list_list; have g4 := AutoSeq1.sub_tuple_list; have g5 := AutoSeq1.sub_list_tuple
    wp_walk using wpAny_loadPart' h1, wpAny_loadPart' h2
    exact ⟨_, rfl, h⟩
end UX
namespace U
open PySem PySem.Spec PyProof.Rows L2 MeetsSeq
open T (PE.imp PT.imp PW.imp PA.imp PS.imp PSs.imp)
/-! ### xs + ys of any lists -/
def rCatS (K : PySem.W.Frag) : R2 := fun x y H Q => ∃ l b xs ys, x = .ref l ∧ y = .ref b ∧ SqL K H l xs ∧ SqL K H b ys ∧ xs.length + ys.length ≤ sizeLine ∧ ∀ p, H p = none → Q (.ref p) (upd H p (.lst (xs ++ ys)))
theorem op_catS {X : Cx} : OpR X (binaryOp .Add) (rCatS X.K) := by
  intro pins s σ H x y v u Q I rx ry h
  obtain ⟨l, b, xs, ys, rfl, rfl, h1, h2, hz, q⟩ := h
  cases rx
  cases ry
  obtain ⟨i1, r1, ⟨o1, n1, e1, c1, d1, t1⟩, _⟩ := I.list h1
  obtain ⟨i2, r2, ⟨o2, n2, e2, c2, d2, t2⟩, _⟩ := I.list h2
  obtain ⟨k1, k2, k3, sl1⟩ := o1
  obtain ⟨k4, k5, k6, sl2⟩ := o2
  dsimp only at c1 d1 t1 c2 d2 t2
  subst c1; subst d1; subst t1; subst c2; subst d2; subst t2
  have z : i1.toArray.size + i2.toArray.size ≤ sizeLine := by rw [List.size_toArray, List.size_toArray, ← r1.length, ← r2.length]; exact hz
  refine concat_meets ⟨_, e1, rfl⟩ ⟨_, e2, rfl⟩ noFill_list_add seq_list_add F.slot_list_add F.entry_list_add (F.args_list_add_2 _ _) (UX.cat_plain l b i1.toArray i2.toArray n1 n2 sl1 sl2 z) ⟨e1, e2, ?_⟩
  have ea : i1.toArray ++ i2.toArray = (i1 ++ i2).toArray := by simp
  rw [ea]
  exact ⟨.ref _, _, I.lnew (t' := s.toks) (r1.append r2) (by rw [List.length_append]; exact hz), rfl, q _ I.fresh⟩
@[simp] def dCat (a b : A) (Θ : Th) : R A := match lstOf Θ a, lstOf Θ b with
  | some xs, some ys => if xs.length + ys.length ≤ 16777216 then alloc (.lst (xs ++ ys)) Θ else .stuck
  | _, _ => .stuck
theorem o2_cat {X : Cx} {B : Bs} (hW : B.W.K = X.K) : Op2 B (rCatS X.K) dCat := by
  intro σ μ G Θ H x y a b Q s p1 p2 q
  unfold dCat at q
  split at q
  · rename_i xs ys e1 e2
    split at q
    · rename_i hz
      obtain ⟨p, vs, rfl, h1, r1⟩ := lst_of s p1 e1
      obtain ⟨p', ws, rfl, h2, r2⟩ := lst_of s p2 e2
      rw [hW] at h1 h2
      exact ⟨p, p', vs, ws, rfl, rfl, h1, h2, by rw [r1.length, r2.length, sizeLine_eq]; exact hz, px_new (c := .lst _) s ⟨_, rfl, r1.append r2⟩ q⟩
    · exact q.elim
  · exact q.elim

/-! ### a field of a caught exception -/
def tXo (K : PySem.W.Frag) (f : Str) (te : TE) : TE := fun σ H Q => te σ H fun x H1 => ∃ (a C dd : Addr) (fs : List (Str × V)) (v : V), x = .ref a ∧ H1 a = some (XO (.ref C) (some dd) a) ∧ XfC K C ∧ PySem.W.findIn K (.ref C) f = some none ∧ H1 dd = some (.xd fs) ∧ fs.lookup f = some v ∧ Q v H1
theorem pe_xo {X : Cx} {e : Expr} {te : TE} {pos : Pos} {f : Str} (he : PE X e te) (hb : attributeBase e f X.env (eval e X.env) = eval e X.env := by rfl) : PE X (.Attribute e f pos) (tXo X.K f te) := by
  refine ⟨fun pins s σ H Q I h => ?_⟩
  refine attr_of hb (thn (he.run pins s σ H _ I h) fun u s1 hh => ?_)
  obtain ⟨x, H1, I1, rx, a, C, dd, fs, v, ex, ea, T, hno, ed, l, q⟩ := hh
  subst ex
  obtain rfl : u = Value.ref a := rx
  obtain ⟨⟨oe, h1, h2, vs, h3⟩, _⟩ := I1.hok a _ ea
  obtain ⟨mA, hns, hr⟩ := (show ObjOk X.prog X.w H1 s1.heap dd (.xd fs) from I1.hok dd _ ed)
  obtain ⟨od, ho, hl⟩ := lookIn_ns hns
  obtain ⟨u, hu, ru⟩ := RelO.some_of (v := v) (o := mA f) (by rw [← l]; exact hr f)
  have J : PySem.W.InstAt s1.heap a oe C (some od) := ⟨h1, h2.1, by unfold PySem.W.notCls; rw [h3] <;> rfl, by rw [h2.2]; exact ho⟩
  exact HandSPX.exc_get I1.kIn J T.ga T.gg T.exC (PySem.W.findObj_own T.hdC hno rfl (by rw [hl, hu])) (handed_of ru) ⟨v, H1, I1.tok _, ru, q⟩
/-- which exception class has which field -/
def XlOk (K : PySem.W.Frag) (mg : Str → Option Value) (xl : Str → Str → Bool) : Prop := ∀ c f, xl c f = true → ∀ C, mg c = some (.ref C) → XfC K C ∧ PySem.W.findIn K (.ref C) f = some none
@[simp] def eXld (xl : Str → Str → Bool) (f : Str) (o : M A) : M A := fun ρ Θ => (o ρ Θ).bind fun p Θ1 => match p with
  | .exo c fs => if xl c f = true then (match fs.lookup f with
    | some a => .ok a Θ1
    | none => .stuck) else .stuck
  | _ => .stuck
theorem te_xld {X : Cx} {B : Bs} {xl : Str → Str → Bool} {o : Expr} {mo : M A} {f : Str} {pos : Pos} (hW : B.W = ⟨X.K, X.mg⟩) (hk : XlOk X.K X.mg xl) (he : PE X o (uR B mo)) (hb : attributeBase o f X.env (eval o X.env) = eval o X.env := by rfl) : PE X (.Attribute o f pos) (uR B (eXld xl f mo)) := PE.imp (pe_xo he hb) fun σ H Q h => by
  obtain ⟨ρ, μ, G, Θ, ok, h⟩ := h
  refine (bnd ok h).mono fun x H1 ⟨a1, μ1, G1, Θ1, n1, ok1, r1, h⟩ => ?_
  split at h
  · rename_i c fs
    split at h
    · rename_i hx
      split at h
      · rename_i a l
        cases r1 with
        | exo0 m hg => cases l
        | exo1 m hg hd rf =>
          obtain ⟨v, lv, rv⟩ := (rf.lookup (f := f)).1 a l
          have m' := m
          rw [hW] at m'
          obtain ⟨T, hno⟩ := hk c f hx _ m'
          exact ⟨_, _, _, _, v, rfl, ok1.sim.gh _ _ hg, T, hno, ok1.sim.gh _ _ hd, lv, px_ok ok1.sim rv h⟩
      · exact h.elim
    · exact h.elim
  · exact h.elim
end U
noncomputable section
namespace U
open PySem PySem.Spec PyProof.Rows L2
open T (PE.imp PT.imp PW.imp PA.imp PS.imp PSs.imp Def)

/-! ### levels; what is never reached -/
section
variable {P : Program} {w : World} {K : PySem.W.Frag} {mg : Str → Option Value} {base : Heap}
theorem Cal.mono {x : Str} {j k n : Nat} {m : Fn} (c : Cal P w K mg base x j n m) (h : j ≤ k) : Cal P w K mg base x k n m := by
  obtain ⟨f, fd, ps, F, a, b, d⟩ := c.ex
  exact ⟨⟨f, fd, ps, F.mono h, a, b, d⟩⟩
theorem CalM.mono {c x : Str} {j k n : Nat} {m : Fn} (h : CalM P w K mg base c x j n m) (l : j ≤ k) : CalM P w K mg base c x k n m := by
  obtain ⟨C, f, fd, ps, a, b, d, F, e⟩ := h.ex
  exact ⟨⟨C, f, fd, ps, a, b, d, F.mono l, e⟩⟩
theorem body_stuck {x : Str} {st : Stmt} {N : List Str} {k : Nat} : BodyOk P w K mg base x st N k fun _ _ => .stuck :=
  fun f cdv A outer s H B E hr L => ⟨fun pins s σ H E I h => by obtain ⟨ρ, μ, G, Θ, ok, h⟩ := h; exact h.elim⟩
end
/-! ### facts on classes, by pairs of names -/
def tabOf (l : List (Str × Str × Bool)) (c d : Str) : Option Bool := match l with
  | [] => none
  | (a, b, k) :: r => if a = c ∧ b = d then some k else tabOf r c d
def tabT (l : List (Str × String × Bool)) (c : Str) (d : String) : Option Bool := match l with
  | [] => none
  | (a, b, k) :: r => if a = c ∧ b = d then some k else tabT r c d
theorem tabOf_all {P : Str → Str → Bool → Prop} : ∀ {l : List (Str × Str × Bool)} (_ : ∀ p ∈ l, P p.1 p.2.1 p.2.2) {c d : Str} {k : Bool} (_ : tabOf l c d = some k), P c d k
  | [], _, _, _, _, e => by cases e
  | (a, b, k') :: r, h, c, d, k, e => by
    unfold tabOf at e
    split at e
    · rename_i q; obtain ⟨rfl, rfl⟩ := q; cases e; exact h _ List.mem_cons_self
    · exact tabOf_all (fun p hp => h p (List.mem_cons_of_mem _ hp)) e
theorem tabT_all {P : Str → String → Bool → Prop} : ∀ {l : List (Str × String × Bool)} (_ : ∀ p ∈ l, P p.1 p.2.1 p.2.2) {c : Str} {d : String} {k : Bool} (_ : tabT l c d = some k), P c d k
  | [], _, _, _, _, e => by cases e
  | (a, b, k') :: r, h, c, d, k, e => by
    unfold tabT at e
    split at e
    · rename_i q; obtain ⟨rfl, rfl⟩ := q; cases e; exact h _ List.mem_cons_self
    · exact tabT_all (fun p hp => h p (List.mem_cons_of_mem _ hp)) e
theorem all_nil {α : Type} {P : α → Prop} : ∀ p ∈ ([] : List α), P p := fun p h => by cases h
theorem all_cons {α : Type} {P : α → Prop} {a : α} {l : List α} (h : P a) (t : ∀ p ∈ l, P p) : ∀ p ∈ a :: l, P p := fun p hp => by
  rcases List.mem_cons.mp hp with e | e
  · rw [e]; exact h
  · exact t p e
section
variable {K : PySem.W.Frag} {mg : Str → Option Value}
/-- a class that is asked for -/
structure TgC (K : PySem.W.Frag) (D : Addr) : Prop where
  hd : PySem.W.hasDictIn K D = true
  ty : PySem.W.typeIn K (.ref D) = some (.type "type")
theorem TgC.kit {t : Value} {D : Addr} {b : Bool} (g : TgC K D) (s : PySem.W.subIn K t (.ref D) = some b) (e : b = true ∨ (t == Value.ref D) = false) : PySem.W.kitOne K t (.ref D) = some b := by
  unfold PySem.W.kitOne
  split
  · rename_i h
    rcases e with e | e
    · rw [e]
    · rw [h] at e; cases e
  · obtain ⟨cd, hc, _⟩ := PySem.W.any_some g.hd
    unfold PySem.W.kitCls
    dsimp only
    rw [hc, g.ty, s]; rfl
theorem kit_type {C : Addr} {n : String} {b : Bool} (s : PySem.W.subIn K (.ref C) (.type n) = some b) (m : PySem.W.kitMeta n = true) : PySem.W.kitOne K (.ref C) (.type n) = some b := by
  unfold PySem.W.kitOne
  rw [if_neg (by simp)]
  unfold PySem.W.kitCls
  dsimp only
  rw [if_pos m, s]
theorem ccF {c d : Str} {b : Bool} {C D : Addr} (h1 : mg c = some (.ref C)) (h2 : mg d = some (.ref D)) (g : TgC K D) (s : PySem.W.subIn K (.ref C) (.ref D) = some b) (e : b = true ∨ (Value.ref C == Value.ref D) = false) :
    ∀ C D, mg c = some (.ref C) → mg d = some (.ref D) → PySem.W.kitOne K (.ref C) (.ref D) = some b := fun C' D' e1 e2 => by
  rw [h1] at e1; rw [h2] at e2; cases e1; cases e2
  exact g.kit s e
theorem ctF {c : Str} {n : String} {b : Bool} {C : Addr} (h1 : mg c = some (.ref C)) (s : PySem.W.subIn K (.ref C) (.type n) = some b) (m : PySem.W.kitMeta n = true) : ∀ C, mg c = some (.ref C) → PySem.W.kitOne K (.ref C) (.type n) = some b := fun C' e1 => by
  rw [h1] at e1; cases e1
  exact kit_type s m
theorem tcF {n : String} {d : Str} {b : Bool} {D : Addr} (h2 : mg d = some (.ref D)) (g : TgC K D) (s : PySem.W.subIn K (.type n) (.ref D) = some b) : ∀ D, mg d = some (.ref D) → PySem.W.kitOne K (.type n) (.ref D) = some b := fun D' e1 => by
  rw [h2] at e1; cases e1
  exact g.kit s (.inr (by simp))
theorem obF {P : PySem.W.Frag → Addr → Prop} {c : Str} {C : Addr} (h1 : mg c = some (.ref C)) (h : P K C) : ∀ C, mg c = some (.ref C) → P K C := fun C' e1 => by
  rw [h1] at e1; cases e1
  exact h
/-- the clauses' table -/
theorem exF {c d : Str} {b : Bool} {C D : Addr} (h1 : mg c = some (.ref C)) (h2 : mg d = some (.ref D)) (g : TgC K D) (x : PySem.W.subIn K (.ref D) (.type "BaseException") = some true) (s : PySem.W.subIn K (.ref C) (.ref D) = some b) :
    ∀ C D, mg c = some (.ref C) → mg d = some (.ref D) → PySem.W.exmOne K (.ref C) (.ref D) = some b := fun C' D' e1 e2 => by
  rw [h1] at e1; rw [h2] at e2; cases e1; cases e2
  exact PySem.W.exm_ref x g.hd g.ty s
/-- a class without own __init__ that is raised -/
structure RaiseC (K : PySem.W.Frag) (mg : Str → Option Value) (c : Str) (C : Addr) : Prop where
  m : mg c = some (.ref C)
  ex : PySem.W.excIn K C [.type "ValueError", .type "Exception", .type "BaseException", .type "object"] "ValueError.__new__" = true
  kp : PySem.W.keepIn K (.ref C) = true
  sb : PySem.W.subIn K (.ref C) (.type "BaseException") = some true
  ty : PySem.W.typeIn K (.ref C) = some (.type "type")
theorem RaiseC.mk' {X : Cx} {c : Str} {C : Addr} {m : Str} {j : Nat} {p p2 pos : Pos} (r : RaiseC X.K X.mg c C) (hg : Gl X c) (hd : (c == ("__debug__" : Str)) = false) : PMk X (.Call (.Name c p) [.Constant (.str m) j p2] [] pos) (fun _ H Q => Q (.ref C) none H) :=
  pmk_own PySem.F.excBase_ValueError r.ex r.m r.kp (raises_own r.sb r.ty) hg hd
end
/-! ### a variable's new list frozen behind its assignment -/
def fzV (i : Nat) (Θ : Th) (x : RS) : RS := match x with
  | .ok .next ρ Θ' => (match ρ[i]? with
    | some (some (.loc n)) => (match cut Θ Θ' with
      | some Θ2 => if Θ.length ≤ n ∧ rhoBd Θ.length (ρ.set i none) = true then (match Θ'[n]? with
        | some (.lst xs) => if A.bds Θ.length xs = true then .ok .next (ρ.set i (some (.fl xs))) Θ2 else .stuck
        | _ => .stuck) else .stuck
      | none => .stuck)
    | _ => .stuck)
  | r => r
def sFzV (i : Nat) (s : Sm) : Sm := fun ρ Θ => fzV i Θ (s ρ Θ)
@[simp] theorem sFzV_def (i : Nat) (s : Sm) (ρ : Rho) (Θ : Th) : sFzV i s ρ Θ = fzV i Θ (s ρ Θ) := rfl
@[simp] theorem fzV_exc {i : Nat} {Θ Θ' : Th} {c : Str} {fs : List (Str × A)} {ρ : Rho} : fzV i Θ (.exc c fs ρ Θ') = .exc c fs ρ Θ' := rfl
@[simp] theorem fzV_stuck {i : Nat} {Θ : Th} : fzV i Θ .stuck = .stuck := rfl
theorem fzV_next {i n : Nat} {Θ Θ' Θ2 : Th} {ρ : Rho} {xs : List A} (e : ρ[i]? = some (some (.loc n))) (c : cut Θ Θ' = some Θ2) (hn : Θ.length ≤ n) (hb : rhoBd Θ.length (ρ.set i none) = true) (q : Θ'[n]? = some (.lst xs)) (b : A.bds Θ.length xs = true) :
    fzV i Θ (.ok .next ρ Θ') = .ok .next (ρ.set i (some (.fl xs))) Θ2 := by
  unfold fzV; dsimp only; rw [e]; dsimp only; rw [c]; dsimp only; rw [if_pos ⟨hn, hb⟩, q]; dsimp only; rw [if_pos b]
theorem rhoBd_set {k i : Nat} {ρ : Rho} {j : Nat} {a : A} (h : rhoBd k (ρ.set i none) = true) (hj : j ≠ i) (e : ρ[j]? = some (some a)) : a.bd k = true :=
  rhoBd_get (ρ := ρ.set i none) (i := j) h (by rw [List.getElem?_set_ne (fun z => hj z.symm)]; exact e)
theorem ts_fzV {X : Cx} {B : Bs} {st : Stmt} {s : Sm} (i : Nat) (h : PS X st (uS B s)) : PS X st (uS B (sFzV i s)) := PS.imp h fun E σ H h => by
  obtain ⟨ρ, μ, G, Θ, ok, h⟩ := h
  refine ⟨ρ, μ, G, Θ, ok, ?_⟩
  unfold sFzV fzV at h
  cases q : s ρ Θ with
  | stuck => rw [q] at h; exact h
  | exc c fs ρ1 Θ1 => rw [q] at h; exact h
  | ok f ρ1 Θ1 =>
    rw [q] at h
    cases f with
    | next =>
      dsimp only at h
      split at h
      · rename_i n e
        split at h
        · rename_i Θ2 c
          split at h
          · rename_i hn
            split at h
            · rename_i xs e1
              split at h
              · rename_i b
                intro σ' μ' G' H' nx o
                have bk : ∀ (i : Nat) p, i < Θ.length → μ'[i]? = some p → μ[i]? = some p := fun i p hi => nx_back nx i p (by rw [ok.sim.len]; exact hi)
                obtain ⟨v, ev, rv⟩ := o.sl i _ e
                cases rv with
                | @loc _ p hp =>
                  obtain ⟨ob, h1, ws, rfl, h2⟩ := o.sim.cell _ p _ hp e1 (by intro z; cases z)
                  obtain ⟨s2, n2⟩ := o.sim.freeze hp e1 (by intro z; cases z) h1
                  have hc : U.cut Θ (Θ1.set n .gone) = some Θ2 := by
                    obtain ⟨rfl, hl, w⟩ := cutR_spec c
                    rw [cut_of (by rw [List.length_set]; exact hl) fun i c hi e => w i c hi (by rw [List.getElem?_set_ne (by omega)] at e; exact e)]
                    congr 1
                    apply List.ext_getElem?
                    intro i
                    rw [List.getElem?_take, List.getElem?_take]
                    split
                    · rw [List.getElem?_set_ne (by omega)]
                    · rfl
                  obtain ⟨s3, n3⟩ := ok.sim.cut (nx.trans n2) s2 hc
                  refine h σ' μ _ H' n3 ⟨by rw [List.length_set]; exact o.len, fun j a ej => ?_, s3⟩
                  by_cases hj : j = i
                  · subst hj
                    have hl : j < ρ1.length := (List.getElem?_eq_some_iff.mp e).1
                    rw [List.getElem?_set_self hl] at ej
                    cases ej
                    exact ⟨.ref p, ev, .fl upd_same ((h2.mono n2).back bk b)⟩
                  · rw [List.getElem?_set_ne (fun z => hj z.symm)] at ej
                    obtain ⟨v, e1, r⟩ := o.sl j a ej
                    exact ⟨v, e1, (r.mono n2).back bk (rhoBd_set hn.2 hj ej)⟩
              · exact h.elim
            · exact h.elim
          · exact h.elim
        · exact h.elim
      · exact h.elim
    | brk => exact h
    | cont => exact h
    | ret a => exact h
end U
noncomputable section
namespace U
open PySem PySem.Spec PyProof.Rows L2
open T (PE.imp PT.imp PW.imp PA.imp PS.imp PSs.imp Def)

/-! ### C() of a class without __init__ -/
structure Mk0 (K : PySem.W.Frag) (C : Addr) : Prop where
  mks : PySem.W.makesIn K C = true
  ini : PySem.W.findIn K (.ref C) "__init__" = some (some (.builtin "object.__init__"))
  kp : PySem.W.keepIn K (.ref C) = true
structure New0 (K : PySem.W.Frag) (mg : Str → Option Value) (c : Str) : Prop where
  ex : ∃ C, mg c = some (.ref C) ∧ Mk0 K C
theorem new0_mk {K : PySem.W.Frag} {mg : Str → Option Value} {c : Str} {h : Heap} (X : K.In h) (G : h.Ns mainGlobals mg) {C : Addr} (a : PySem.W.nsIn K mainGlobals c = some (some (.ref C)))
    (mk : PySem.W.makesIn K C = true) (kc : PySem.W.keepIn K (.ref C) = true) (hi : PySem.W.findIn K (.ref C) "__init__" = some (some (.builtin "object.__init__"))) : New0 K mg c := ⟨⟨C, PySem.W.mg_of X G a, ⟨mk, hi, kc⟩⟩⟩
def tMk0 (C : Addr) : TE := fun σ H Q => ∀ x dx, H x = none → H dx = none → dx ≠ x → Q (.ref x) (upd (upd H dx (.own x)) x (.ins C dx []))
theorem pe_mk0 {X : Cx} {C : Addr} {x : Str} {p pos : Pos} (M : Mk0 X.K C) (hg : Gl X x) (hm : X.mg x = some (.ref C)) (hdb : (x == ("__debug__" : Str)) = false) : PE X (.Call (.Name x p) [] [] pos) (tMk0 C) := by
  refine ⟨fun pins s σ H Q I h => ?_⟩
  refine wpAny_Call_Name_kw (ld_glob I hg hm ?_ hdb)
  refine PySem.W.callWith_K0 I.kIn M.kp ?_
  have hq := h (s.heap.objs.size + 1) s.heap.objs.size (I.hok.fresh (Nat.le_succ _)) (I.hok.fresh (Nat.le_refl _)) (Nat.ne_of_lt (Nat.lt_succ_self _))
  have I2 := Inv.made (C := C) I
  have Y := PySem.W.makes_of (M := model X.prog X.w) I.kIn M.mks
  refine wpAny_call (make_map0 I.kIn M.mks M.ini (fun self => PySem.W.Looks.of_pure (PySem.W.oi_bind self)) ?_)
  have hx : ((s.heap.push PySem.W.emptyDict).push (PySem.W.instObj C s.heap.objs.size)).get? (s.heap.objs.size + 1) = some (PySem.W.instObj C s.heap.objs.size) := Heap.get?_push_at (by rw [Heap.size_push]) rfl
  have t1 : PySem.W.Looks (model X.prog X.w) ((s.heap.push PySem.W.emptyDict).push (PySem.W.instObj C s.heap.objs.size)) (typeOf (.ref (s.heap.objs.size + 1))) (.ref C) := (PySem.W.Looks.ld hx).andThen .now
  have t2 : PySem.W.Looks (model X.prog X.w) ((s.heap.push PySem.W.emptyDict).push (PySem.W.instObj C s.heap.objs.size)) (isInstance (.ref (s.heap.objs.size + 1)) (.type "object")) true := t1.andThen (Y.top.keeps fun b o e => Heap.get?_push_of_some _ (Heap.get?_push_of_some _ e))
  refine codeAny_call_builtin PySem.W.oi_plain PySem.W.entry_oi (@PySem.W.check_slot (model X.prog X.w) _ _ _ "object.__init__" "object" "__init__" (.ref (s.heap.objs.size + 1)) [] [] _ PySem.W.oi_kind PySem.W.oi_split t2 (PySem.W.oi_args (.ref (s.heap.objs.size + 1))) ?_)
  rw [PySem.W.oi_run]
  exact wpAny_pure ⟨rfl, ⟨V.ref (s.heap.objs.size + 1), _, I2, rfl, hq⟩⟩
@[simp] def eNew0 (c : Str) : M A := fun _ Θ => alloc (.obj c []) Θ
theorem te_newN {X : Cx} {B : Bs} {c : Str} {j : Nat} {p pos : Pos} (hW : B.W = ⟨X.K, X.mg⟩) (N : New0 X.K X.mg c) (hr : Room j X.A) (hk : 1 ≤ j) (hg : Gl X c := by rfl) (hd : (c == ("__debug__" : Str)) = false := by decide) : PE X (.Call (.Name c p) [] [] pos) (uR B (eNew0 c)) := by
  obtain ⟨C, hm, M⟩ := N.ex
  refine PE.imp (pe_mk0 M hg hm hd) fun σ H Q h => ?_
  obtain ⟨ρ, μ, G, Θ, ok, h⟩ := h
  intro x dx hx hdx ne
  have sA : Sim B.W μ G Θ (upd H dx (.own x)) := ok.sim.more hdx
  have hx2 : (upd H dx (.own x)) x = none := by rw [upd_ne (Ne.symm ne)]; exact hx
  exact px_new (c := .obj c []) (o := .ins C dx []) sA ⟨C, dx, [], by rw [hW]; exact hm, rfl, .nil⟩ h x hx2
/-! the turn of a loop: slots forgotten only -/
def wpTurn (vs : List Nat) (x : RS) : RS := match x with
  | .ok .next ρ Θ' => .ok .next (wipeR ρ vs) Θ'
  | .ok .cont ρ Θ' => .ok .cont (wipeR ρ vs) Θ'
  | r => r
def sWp (vs : List Nat) (b : Sm) : Sm := fun ρ Θ => wpTurn vs (b ρ Θ)
@[simp] theorem sWp_def (vs : List Nat) (b : Sm) (ρ : Rho) (Θ : Th) : sWp vs b ρ Θ = wpTurn vs (b ρ Θ) := rfl
@[simp] theorem wpTurn_next {vs : List Nat} {Θ : Th} {ρ : Rho} : wpTurn vs (.ok .next ρ Θ) = .ok .next (wipeR ρ vs) Θ := rfl
@[simp] theorem wpTurn_cont {vs : List Nat} {Θ : Th} {ρ : Rho} : wpTurn vs (.ok .cont ρ Θ) = .ok .cont (wipeR ρ vs) Θ := rfl
@[simp] theorem wpTurn_brk {vs : List Nat} {Θ : Th} {ρ : Rho} : wpTurn vs (.ok .brk ρ Θ) = .ok .brk ρ Θ := rfl
@[simp] theorem wpTurn_ret {vs : List Nat} {Θ : Th} {ρ : Rho} {a : A} : wpTurn vs (.ok (.ret a) ρ Θ) = .ok (.ret a) ρ Θ := rfl
@[simp] theorem wpTurn_exc {vs : List Nat} {Θ : Th} {ρ : Rho} {c : Str} {fs : List (Str × A)} : wpTurn vs (.exc c fs ρ Θ) = .exc c fs ρ Θ := rfl
@[simp] theorem wpTurn_stuck {vs : List Nat} : wpTurn vs .stuck = .stuck := rfl
theorem Ok.wp {B : Bs} {vs : List Nat} {ρ : Rho} {μ : Mu} {G H : Hp} {σ : L2.St} {Θ : Th} (ok : Ok B ρ μ G σ Θ H) : Ok B (wipeR ρ vs) μ G σ Θ H :=
  ⟨by rw [wipeR_len]; exact ok.len, fun i a e => ok.sl i a (wipeR_get e).2, ok.sim⟩
theorem ts_wp {X : Cx} {B : Bs} {b : Sm} {ss : List Stmt} (vs : List Nat) (h : PSs X ss (uS B b)) : PSs X ss (uS B (sWp vs b)) := PSs.imp h fun E σ H h => by
  obtain ⟨ρ, μ, G, Θ, ok, h⟩ := h
  refine ⟨ρ, μ, G, Θ, ok, ?_⟩
  unfold sWp wpTurn at h
  cases q : b ρ Θ with
  | stuck => rw [q] at h; exact h
  | exc c fs ρ1 Θ1 => rw [q] at h; exact h
  | ok f ρ1 Θ1 =>
    rw [q] at h
    cases f with
    | next => exact fun σ' μ' G' H' n o => h σ' μ' G' H' n o.wp
    | cont => exact fun σ' μ' G' H' n o => h σ' μ' G' H' n o.wp
    | brk => exact h
    | ret a => exact h
end U
noncomputable section
namespace U
open PySem PySem.Spec PyProof.Rows L2
open T (PE.imp PT.imp PW.imp PA.imp PS.imp PSs.imp PI.imp Def)

/-! ### max, min of a list of ints; any; tuple(xs); list.insert -/
def mxI : List Int → Int
  | [] => 0
  | [n] => n
  | n :: r => if mxI r ≤ n then n else mxI r
def mnI : List Int → Int
  | [] => 0
  | [n] => n
  | n :: r => if n ≤ mnI r then n else mnI r
theorem mxI_mem : ∀ {ns : List Int}, 0 < ns.length → mxI ns ∈ ns ∧ ∀ y ∈ ns, y ≤ mxI ns
  | [n], _ => by simp [mxI]
  | n :: m :: r, _ => by
    obtain ⟨h1, h2⟩ := mxI_mem (ns := m :: r) (by simp)
    rw [mxI]
    split
    · rename_i h
      refine ⟨List.mem_cons_self, fun y hy => ?_⟩
      rcases List.mem_cons.mp hy with e | e
      · omega
      · have := h2 y e; omega
    · rename_i h
      refine ⟨List.mem_cons_of_mem _ h1, fun y hy => ?_⟩
      rcases List.mem_cons.mp hy with e | e
      · omega
      · exact h2 y e
    all_goals simp
theorem mnI_mem : ∀ {ns : List Int}, 0 < ns.length → mnI ns ∈ ns ∧ ∀ y ∈ ns, mnI ns ≤ y
  | [n], _ => by simp [mnI]
  | n :: m :: r, _ => by
    obtain ⟨h1, h2⟩ := mnI_mem (ns := m :: r) (by simp)
    rw [mnI]
    split
    · rename_i h
      refine ⟨List.mem_cons_self, fun y hy => ?_⟩
      rcases List.mem_cons.mp hy with e | e
      · omega
      · have := h2 y e; omega
    · rename_i h
      refine ⟨List.mem_cons_of_mem _ h1, fun y hy => ?_⟩
      rcases List.mem_cons.mp hy with e | e
      · omega
      · exact h2 y e
    all_goals simp
@[simp] def dMaxL (as : List A) (Θ : Th) : R A := match as with
  | [a] => match lstOf Θ a with
    | some xs => match U.intsOf xs with | some ns => if 0 < ns.length then .ok (.int (mxI ns)) Θ else .stuck | none => .stuck
    | none => .stuck
  | _ => .stuck
@[simp] def dMinL (as : List A) (Θ : Th) : R A := match as with
  | [a] => match lstOf Θ a with
    | some xs => match U.intsOf xs with | some ns => if 0 < ns.length then .ok (.int (mnI ns)) Θ else .stuck | none => .stuck
    | none => .stuck
  | _ => .stuck
section
variable {X : Cx} {B : Bs}
theorem c_maxL (hW : B.W.K = X.K) : CallS B (rMax X.K) dMaxL := by
  intro σ μ G Θ H vs ds Q s p q
  unfold dMaxL at q
  split at q
  · split at q
    · rename_i xs e
      split at q
      · rename_i ns e2
        split at q
        · rename_i hl
          obtain ⟨v, rfl, p1⟩ := p.one
          obtain ⟨a, ws, rfl, ha, ra⟩ := lst_of s p1 e
          cases ra.intsOf e2
          obtain ⟨h1, h2⟩ := mxI_mem hl
          refine ⟨a, ns, rfl, hW ▸ ha, hl, fun m hm hy => ?_⟩
          have : m = mxI ns := by have := h2 m hm; have := hy _ h1; omega
          rw [this]
          exact px_ok s (.int _) q
        · exact q.elim
      · exact q.elim
    · exact q.elim
  · exact q.elim
theorem c_minL (hW : B.W.K = X.K) : CallS B (rMin X.K) dMinL := by
  intro σ μ G Θ H vs ds Q s p q
  unfold dMinL at q
  split at q
  · split at q
    · rename_i xs e
      split at q
      · rename_i ns e2
        split at q
        · rename_i hl
          obtain ⟨v, rfl, p1⟩ := p.one
          obtain ⟨a, ws, rfl, ha, ra⟩ := lst_of s p1 e
          cases ra.intsOf e2
          obtain ⟨h1, h2⟩ := mnI_mem hl
          refine ⟨a, ns, rfl, hW ▸ ha, hl, fun m hm hy => ?_⟩
          have : m = mnI ns := by have := h2 m hm; have := hy _ h1; omega
          rw [this]
          exact px_ok s (.int _) q
        · exact q.elim
      · exact q.elim
    · exact q.elim
  · exact q.elim
@[simp] def blsOf : List A → Option (List Bool)
  | [] => some []
  | .bl b :: r => (blsOf r).map (b :: ·)
  | _ :: _ => none
@[simp] theorem blsOf_map (bs : List Bool) : blsOf (bs.map .bl) = some bs := by
  induction bs with
  | nil => rfl
  | cons b bs ih => simp [ih]
theorem Rels.blsOf {W : Wd} {μ : Mu} {G : Hp} : ∀ {vs : List V} {ds : List A} {ns : List Bool}, Rels W μ G vs ds → U.blsOf ds = some ns → vs = ns.map V.bl
  | _, _, _, .nil, e => by cases e; rfl
  | _, d :: ds, ns, .cons r t, e => by
    cases d with
    | bl b =>
      unfold U.blsOf at e
      cases q : U.blsOf ds with
      | none => rw [q] at e; cases e
      | some bs => rw [q] at e; cases e; cases r; rw [Rels.blsOf t q]; rfl
    | _ => cases e
@[simp] def dAny (as : List A) (Θ : Th) : R A := match as with
  | [a] => match lstOf Θ a with
    | some xs => match U.blsOf xs with | some bs => .ok (.bl (bs.any id)) Θ | none => .stuck
    | none => .stuck
  | _ => .stuck
theorem c_any (hW : B.W.K = X.K) : CallS B (rAny X.K) dAny := by
  intro σ μ G Θ H vs ds Q s p q
  unfold dAny at q
  split at q
  · split at q
    · rename_i xs e
      split at q
      · rename_i ns e2
        obtain ⟨v, rfl, p1⟩ := p.one
        obtain ⟨a, ws, rfl, ha, ra⟩ := lst_of s p1 e
        cases ra.blsOf e2
        exact ⟨a, ns, rfl, hW ▸ ha, px_ok s (.bl _) q⟩
      · exact q.elim
    · exact q.elim
  · exact q.elim
@[simp] def dTuple (as : List A) (Θ : Th) : R A := match as with
  | [.tup xs] => .ok (.tup xs) Θ
  | [a] => match lstOf Θ a with | some xs => .ok (.tup xs) Θ | none => .stuck
  | _ => .stuck
theorem c_tuple (hW : B.W.K = X.K) : CallS B (fun xs H Q => ∃ p ys, xs = [.ref p] ∧ ((SqL X.K H p ys ∧ ∀ l, H l = none → Q (.ref l) (upd H l (.tup ys))) ∨ (SqT X.K H p ys ∧ Q (.ref p) H))) dTuple := by
  intro σ μ G Θ H vs ds Q s p q
  unfold dTuple at q
  split at q
  · obtain ⟨v, rfl, p1⟩ := p.one
    cases p1 with
    | tup e r => exact ⟨_, _, rfl, .inr ⟨SqT.of (s.gh _ _ e), px_ok s (.tup e r) q⟩⟩
  · split at q
    · rename_i xs e
      obtain ⟨v, rfl, p1⟩ := p.one
      obtain ⟨a, ws, rfl, ha, ra⟩ := lst_of s p1 e
      exact ⟨a, ws, rfl, .inl ⟨hW ▸ ha, px_tup s ra q⟩⟩
    · exact q.elim
  · exact q.elim
end
@[simp] def fIns : Lm := fun _ xs as => match as with
  | [.int i, d] => @ite (Option (A × List A)) (xs.length < 16777216 ∧ 0 ≤ i ∧ i < 9223372036854775808) (Classical.propDecidable _) (some (.non, xs.take i.toNat ++ [d] ++ xs.drop i.toNat)) none
  | _ => none
theorem ms_ins : MtS (fun x vs H Q => ∃ (l : Addr) (xs : List V) (i : Int) (y : V), x = .ref l ∧ vs = [.int i, y] ∧ H l = some (.lst xs) ∧ xs.length < sizeLine ∧ 0 ≤ i ∧ i < 2 ^ 63 ∧ Q .non (upd H l (.lst (xs.take i.toNat ++ [y] ++ xs.drop i.toNat)))) fIns := by
  intro W μ G H Θ l vs xs avs as s hl r ra d ys e
  unfold fIns at e
  split at e
  · rename_i i d'
    split at e
    · rename_i hb
      cases e
      obtain ⟨v, w, rfl, r1, r2⟩ := ra.two
      cases r1
      exact ⟨.non, _, .non, ((r.take _).append (.cons r2 .nil)).append (r.drop _), fun Q q => ⟨l, vs, i, w, rfl, rfl, hl, by rw [r.length, sizeLine_eq]; exact hb.1, hb.2.1, by have := hb.2.2; omega, q⟩⟩
    · cases e
  · cases e

/-! ### zip, enumerate, reversed over lists that do not change -/
@[simp] def frl : A → Option (List A)
  | .fl xs => some xs
  | .scr ns => some (ns.map .int)
  | _ => none
theorem frl_sq {W : Wd} {μ : Mu} {G : Hp} {v : V} {a : A} {xs : List A} (r : Rel W μ G v a) (e : frl a = some xs) : ∃ p vs, v = .ref p ∧ (∀ μ' G' Θ H, Nx μ G μ' G' → Sim W μ' G' Θ H → SqL W.K H p vs) ∧ Rels W μ G vs xs := by
  cases r with
  | fl h r => cases e; exact ⟨_, _, rfl, fun μ' G' Θ H n s => SqL.of (s.gh _ _ (n.same _ _ h)), r⟩
  | scr h => cases e; exact ⟨_, _, rfl, fun μ' G' Θ H n s => s.gh.seq (n.same.seq h), Rels.ints _⟩
  | _ => cases e
def zipA (xs ys : List A) : List A := (xs.zip ys).map fun p => .tup [p.1, p.2]
def enumA (xs : List A) : List A := xs.zipIdx.map fun p => .tup [.int (p.2 : Int), p.1]
@[simp] def itZip (ms : M (List A)) : M Src := fun ρ Θ => (ms ρ Θ).bind fun p Θ1 => match p with
  | [a, b] => (match frl a, frl b with
    | some xs, some ys => .ok ⟨zipA xs ys, none⟩ Θ1
    | _, _ => .stuck)
  | _ => .stuck
@[simp] def itEnum (ms : M (List A)) : M Src := fun ρ Θ => (ms ρ Θ).bind fun p Θ1 => match p with
  | [a] => (match frl a with
    | some xs => .ok ⟨enumA xs, none⟩ Θ1
    | _ => .stuck)
  | _ => .stuck
@[simp] def itRev (ms : M (List A)) : M Src := fun ρ Θ => (ms ρ Θ).bind fun p Θ1 => match p with
  | [a] => (match frl a with
    | some xs => .ok ⟨xs.reverse, none⟩ Θ1
    | _ => .stuck)
  | _ => .stuck
section
variable {X : Cx} {B : Bs} {W : Wd} {μ : Mu} {G : Hp}
theorem src_zip {a b : Addr} {vs ws : List V} {xs ys : List A} (h1 : ∀ μ' G' Θ H, Nx μ G μ' G' → Sim W μ' G' Θ H → SqL W.K H a vs) (r1 : Rels W μ G vs xs) (h2 : ∀ μ' G' Θ H, Nx μ G μ' G' → Sim W μ' G' Θ H → SqL W.K H b ws) (r2 : Rels W μ G ws ys) :
    SrcOk W μ G (Itz W.K a b) ⟨zipA xs ys, none⟩ := fun i μ' G' Θ H n s _ => by
  have q1 := h1 μ' G' Θ H n s
  have q2 := h2 μ' G' Θ H n s
  refine ⟨fun d hd => ?_, fun hl => ⟨vs, ws, q1, q2, ?_⟩⟩
  · unfold zipA at hd
    rw [List.getElem?_map] at hd
    cases q : (xs.zip ys)[i]? with
    | none => rw [q] at hd; cases hd
    | some p =>
      obtain ⟨x, y⟩ := p
      rw [q] at hd; cases hd
      obtain ⟨e1, e2⟩ := List.getElem?_zip_eq_some.mp q
      obtain ⟨v1, g1, t1⟩ := r1.get e1
      obtain ⟨w1, g2, t2⟩ := r2.get e2
      refine ⟨⟨vs, ws, v1, w1, q1, q2, g1, g2⟩, fun u H' yl => ?_⟩
      obtain ⟨T, x', y', rfl, hT, rfl, f1, f2⟩ := yl
      have z1 := f1 vs q1
      have z2 := f2 ws q2
      rw [g1] at z1; cases z1
      rw [g2] at z2; cases z2
      obtain ⟨s2, n2⟩ := s.lay (o := .tup [v1, w1]) hT
      exact ⟨_, n2, s2, .tup upd_same (.cons ((t1.mono n).mono n2) (.cons ((t2.mono n).mono n2) .nil))⟩
  · unfold zipA at hl
    simp at hl
    rw [r1.length, r2.length]
    omega
theorem src_enum {a : Addr} {vs : List V} {xs : List A} (h1 : ∀ μ' G' Θ H, Nx μ G μ' G' → Sim W μ' G' Θ H → SqL W.K H a vs) (r1 : Rels W μ G vs xs) : SrcOk W μ G (Ite W.K a) ⟨enumA xs, none⟩ := fun i μ' G' Θ H n s _ => by
  have q1 := h1 μ' G' Θ H n s
  refine ⟨fun d hd => ?_, fun hl => ⟨vs, q1, ?_⟩⟩
  · unfold enumA at hd
    rw [List.getElem?_map, List.getElem?_zipIdx] at hd
    cases q : xs[i]? with
    | none => rw [q] at hd; cases hd
    | some x =>
      rw [q] at hd
      have hd' : A.tup [.int ((0 + i : Nat) : Int), x] = d := Option.some.inj hd
      rw [Nat.zero_add] at hd'
      subst hd'
      obtain ⟨v1, g1, t1⟩ := r1.get q
      refine ⟨⟨vs, v1, q1, g1⟩, fun u H' yl => ?_⟩
      obtain ⟨T, x', rfl, hT, rfl, f1⟩ := yl
      have z1 := f1 vs q1
      rw [g1] at z1; cases z1
      obtain ⟨s2, n2⟩ := s.lay (o := .tup [.int (i : Nat), v1]) hT
      exact ⟨_, n2, s2, .tup upd_same (.cons (.int _) (.cons ((t1.mono n).mono n2) .nil))⟩
  · unfold enumA at hl
    simp at hl
    rw [r1.length]; exact hl
theorem src_rev {a : Addr} {vs : List V} {xs : List A} (h1 : ∀ μ' G' Θ H, Nx μ G μ' G' → Sim W μ' G' Θ H → SqL W.K H a vs) (r1 : Rels W μ G vs xs) : SrcOk W μ G (Itv W.K a vs.length) ⟨xs.reverse, none⟩ := fun i μ' G' Θ H n s _ => by
  have q1 := h1 μ' G' Θ H n s
  refine ⟨fun d hd => ?_, fun hl => ?_⟩
  · have hi : i < xs.length := by have := (List.getElem?_eq_some_iff.mp hd).1; simpa using this
    rw [List.getElem?_reverse hi] at hd
    obtain ⟨v1, g1, t1⟩ := r1.get hd
    rw [← r1.length] at g1 hi
    refine ⟨⟨hi, vs, v1, q1, g1⟩, fun u H' yl => ?_⟩
    obtain ⟨rfl, f1⟩ := yl
    have z1 := f1 vs q1
    rw [g1] at z1; cases z1
    exact ⟨G', Nx.refl _ _, s, t1.mono n⟩
  · show vs.length ≤ i
    rw [r1.length]; simpa using hl
theorem ti_zip {e e2 : Expr} {ms : M (List A)} {p pos tpos : Pos} {elts : List Expr} {kk : Nat} (hW : B.W.K = X.K) (hm : X.mg "zip" = none) (ha : PA X [e, e2] (uA B ms)) (hg : Gl X "zip" := by rfl)
    (hs : starEach [e, e2] X.env = (false, eval e X.env) :: starEach [e2] X.env := by rfl) (hpl : (backTo pos (starEach [e2] X.env)).any (·.1) = false := by rfl) :
    PI X (.Tuple elts kk tpos) (.Call (.Name "zip" p) [e, e2] [] pos) (uI B (itZip ms)) := PI.imp (RZ.pi_zipA hg hm ha hs hpl) fun σ H R' h => by
  obtain ⟨ρ, μ, G, Θ, ok, h⟩ := h
  refine (bnd ok h).mono fun x H1 ⟨a1, μ1, G1, Θ1, n1, ok1, r1, h⟩ => ?_
  split at h
  · split at h
    · rename_i xs ys e1 e2
      obtain ⟨v, w, rfl, p1, p2⟩ := r1.two
      obtain ⟨a, vs, rfl, k1, t1⟩ := frl_sq p1 e1
      obtain ⟨b, ws, rfl, k2, t2⟩ := frl_sq p2 e2
      refine ⟨a, b, vs, ws, rfl, .inl ⟨by rw [← hW]; exact k1 _ _ _ _ (Nx.refl _ _) ok1.sim, by rw [← hW]; exact k2 _ _ _ _ (Nx.refl _ _) ok1.sim, ?_⟩⟩
      rw [← hW]
      exact px_ok (rel := relI B.W) ok1.sim (src_zip k1 t1 k2 t2) h
    · exact h.elim
  · exact h.elim
theorem ti_enum {e : Expr} {ms : M (List A)} {p pos tpos : Pos} {elts : List Expr} {kk : Nat} (hW : B.W.K = X.K) (hm : X.mg "enumerate" = none) (ha : PA X [e] (uA B ms)) (hg : Gl X "enumerate" := by rfl) (hs : starEach [e] X.env = [(false, eval e X.env)] := by rfl) :
    PI X (.Tuple elts kk tpos) (.Call (.Name "enumerate" p) [e] [] pos) (uI B (itEnum ms)) := PI.imp (pi_enum hg hm ha hs) fun σ H R' h => by
  obtain ⟨ρ, μ, G, Θ, ok, h⟩ := h
  refine (bnd ok h).mono fun x H1 ⟨a1, μ1, G1, Θ1, n1, ok1, r1, h⟩ => ?_
  split at h
  · split at h
    · rename_i xs e1
      obtain ⟨v, rfl, p1⟩ := r1.one
      obtain ⟨a, vs, rfl, k1, t1⟩ := frl_sq p1 e1
      refine ⟨a, vs, rfl, by rw [← hW]; exact k1 _ _ _ _ (Nx.refl _ _) ok1.sim, ?_⟩
      rw [← hW]
      exact px_ok (rel := relI B.W) ok1.sim (src_enum k1 t1) h
    · exact h.elim
  · exact h.elim
theorem ti_rev {tg e : Expr} {ms : M (List A)} {p pos : Pos} (hW : B.W.K = X.K) (hm : X.mg "reversed" = none) (ha : PA X [e] (uA B ms)) (hg : Gl X "reversed" := by rfl) (hs : starEach [e] X.env = [(false, eval e X.env)] := by rfl) :
    PI X tg (.Call (.Name "reversed" p) [e] [] pos) (uI B (itRev ms)) := PI.imp (pi_reversed hg hm ha hs) fun σ H R' h => by
  obtain ⟨ρ, μ, G, Θ, ok, h⟩ := h
  refine (bnd ok h).mono fun x H1 ⟨a1, μ1, G1, Θ1, n1, ok1, r1, h⟩ => ?_
  split at h
  · split at h
    · rename_i xs e1
      obtain ⟨v, rfl, p1⟩ := r1.one
      obtain ⟨a, vs, rfl, k1, t1⟩ := frl_sq p1 e1
      refine ⟨a, vs, rfl, by rw [← hW]; exact k1 _ _ _ _ (Nx.refl _ _) ok1.sim, ?_⟩
      rw [← hW]
      exact px_ok (rel := relI B.W) ok1.sim (src_rev k1 t1) h
    · exact h.elim
  · exact h.elim
end
end U
noncomputable section
namespace U
open PySem PySem.Spec PyProof.Rows L2
open T (PE.imp PT.imp PW.imp PA.imp PS.imp PSs.imp)
/-! ### list(reversed(xs)) -/
section
variable {prog : Program} {w : World} {A : Around} {E : Value → Shared → Prop} {s : Shared}
theorem list_init_rev {R : Result → Shared → Prop} {it l : Addr} {items : Array Value} (hh : A.handled = none) (hit : s.heap.IsRevIter it l ((items.size : Int) - 1)) (hl : s.heap.IsList l items) (hne : l ≠ it) (hn : items.size ≤ sizeLine)
    (S : Addr) (hS : s.heap.get? S = some { cls := .type "list", data := .seq #[] }) (hSi : S ≠ it) (hSl : S ≠ l)
    (hR : ∀ h' tk acc' c', (∀ b o, b ≠ S → b ≠ it → s.heap.get? b = some o → h'.get? b = some o) → h'.get? S = some { cls := .type "list", dict := none, data := .seq acc' c', slots := #[] } →
      ItemsOf (fun i v => items[items.size - 1 - i]? = some v) acc' items.size → R (.ok (.ret .none)) { s with heap := h', toks := tk }) :
    wpAny (model prog w) A.in1 (Builtin.«list.__init__» ⟨[.ref S, .ref it], []⟩)
      (fun fin s' => match fin with | .done f => R (.ok f) s' | .again c' => c'.quiet = true ∧ codeAny (model prog w) A c' R s') (fun e s' => R (.error e) s') s := by
  have W := (Walks.listRev (prog := prog) (w := w) (A := A.in1) hh it l hne items).toS
  have hSf : S ∉ [it, l] := by simp only [List.mem_cons, List.not_mem_nil, or_false, not_or]; exact ⟨hSi, hSl⟩
  show wpAny _ _ (do let old ← Builtin.List.listItems (.ref S); Builtin.List.listUpdate (.ref S) (fun _ => #[]); letGo old.toList.reverse; Builtin.List.listExtendWith (.ref S) (.ref it) .none) _ _ s
  refine wpAny_bind ?_
  unfold Builtin.List.listItems
  refine wpAny_bind (wpAny_seqItems hS rfl (wpAny_pure ?_))
  show wpAny _ _ (updateSeq S (fun _ => #[]) >>= fun _ => letGo (#[] : Array Value).toList.reverse >>= fun _ => Builtin.List.listExtendWith (.ref S) (.ref it) .none) _ _ s
  refine wpAny_bind (wpAny_updateSeq hS rfl ?_)
  have hS₂ := Heap.get?_update_self (Obj.mapSeq (fun _ => (#[] : Array Value))) hS rfl
  have oth : ∀ b o, b ≠ S → s.heap.get? b = some o → (s.heap.update S (Obj.mapSeq (fun _ => (#[] : Array Value)))).get? b = some o :=
    fun b o hb e => (Heap.get?_update_other _ _ (Ne.symm hb)).trans e
  refine wpAny_bind (wpAny_letGo ?_)
  have hit1 : (s.heap.update S (Obj.mapSeq (fun _ => (#[] : Array Value)))).IsRevIter it l ((items.size : Int) - 1) := hit.at fun o e => oth it o (Ne.symm hSi) e
  have hl1 : (s.heap.update S (Obj.mapSeq (fun _ => (#[] : Array Value)))).IsList l items := by
    obtain ⟨o, ho, r⟩ := hl
    exact ⟨o, oth l o (Ne.symm hSl) ho, r⟩
  have hT : ({ s with heap := s.heap.update S (Obj.mapSeq (fun _ => (#[] : Array Value))) } : Shared).TypeIs (.ref it) "list_reverseiterator" := Heap.IsRevIter.typeIs (s := { s with heap := s.heap.update S (Obj.mapSeq (fun _ => (#[] : Array Value))) }) hit1
  have h1 : Builtin.List.listSameRef (.ref S) (.ref it) = false := by simp [Builtin.List.listSameRef, hSi]
  unfold Builtin.List.listExtendWith
  refine wpAny_bind (wpAny_typeOf hT ?_)
  rw [if_neg (by rw [h1]; decide)]
  refine wpAny_bind (wpAny_pyIter_revIter (s := { s with heap := s.heap.update S (Obj.mapSeq (fun _ => (#[] : Array Value))) }) hit1 ?_)
  refine wpAny_bind (wpAny_holding ?_)
  unfold Builtin.List.listLengthHint
  refine wpAny_bind (wpAny_specialOf hT RT.nolen_lri ?_)
  show wpAny _ A.in1 (specialOf (Value.ref it) (Str.ofString "__length_hint__") >>= _) _ _ _
  refine wpAny_bind (wpAny_specialOf hT RT.hint_lri ?_)
  generalize hid : ("list_reverseiterator.__length_hint__" : String) = id0
  wp_delta
  rw [show splitId id0 = some ("list_reverseiterator", "__length_hint__") from by subst hid; decide +kernel]
  subst hid
  refine wpAny_bind (wpAny_isInstance (b := true) hT (by rw [isSubtype_type]; kernel_rfl) ?_)
  refine wpAny_pure ?_
  rw [if_neg (by decide)]
  have e0 : ((items.size : Nat) : Int) - 1 - ((0 : Nat) : Int) = (items.size : Int) - 1 := by omega
  refine wpAny_pure ⟨plainId_quiet F.plain_extend_loop _, codeAny_extend_loopS W hn _ hSf _ items.size 0 _ _ _ rfl (Nat.zero_le _) ⟨Nat.zero_le _, by rw [e0]; exact hit1, hl1⟩ hS₂ (ItemsOf.nil _) fun s' acc' c' hm hS' hacc => ?_⟩
  rw [Moved.eq_with hm]
  refine hR s'.heap s'.toks acc' c' (fun b o hb hb2 e => hm.heap b o (fun hmem => ?_) (oth b o hb e)) hS' hacc
  rcases List.mem_cons.mp hmem with e' | hmem
  · exact hb e'
  · exact hb2 (List.mem_singleton.mp hmem)
theorem call_list_rev {it l : Addr} {items : Array Value} {Q : Value → Shared → Prop} (hh : A.handled = none) (hit : s.heap.IsRevIter it l ((items.size : Int) - 1)) (hl : s.heap.IsList l items) (hne : l ≠ it) (hn : items.size ≤ sizeLine)
    (hQ : ∀ h' tk acc' c', (∀ b o, b ≠ it → s.heap.get? b = some o → h'.get? b = some o) →
      h'.get? s.heap.objs.size = some { cls := .type "list", dict := none, data := .seq acc' c', slots := #[] } → ItemsOf (fun i v => items[items.size - 1 - i]? = some v) acc' items.size → Q (.ref s.heap.objs.size) { s with heap := h', toks := tk }) :
    wpAny (model prog w) A (call (.type "list") [.ref it]) Q E s := by
  refine callType_codes (Q₁ := fun obj s₁ => obj = .ref s.heap.objs.size ∧ s₁ = { s with heap := s.heap.push { cls := .type "list", data := .seq #[] } }) F.called_list (F.typeCall_list_1 _) F.entry_list_init
    (code_list_new _ ⟨rfl, rfl⟩) fun obj s₁ h₁ => ?_
  obtain ⟨rfl, rfl⟩ := h₁
  have hS : (s.heap.push { cls := .type "list", data := .seq #[] }).get? s.heap.objs.size = some { cls := .type "list", data := .seq #[] } := Heap.get?_push_size _ rfl
  obtain ⟨oi, hoi, _⟩ := id hit
  obtain ⟨ol, hol, _⟩ := id hl
  refine ⟨⟨_, hS, rfl⟩, F.args_list_init_2 _ _, list_init_rev (A := A.in1) hh (hit.at fun o e => Heap.get?_push_of_some _ e) (hl.push _) hne hn _ hS (Nat.ne_of_gt (Heap.lt_size hoi)) (Nat.ne_of_gt (Heap.lt_size hol)) fun h' tk acc' c' hk hS' hacc => ?_⟩
  exact ⟨rfl, hQ h' tk acc' c' (fun b o hb e => hk b o (Nat.ne_of_lt (Heap.lt_size e)) hb (Heap.get?_push_of_some _ e)) hS' hacc⟩
end
/-- list(reversed(x)), x a list -/
def tLstRev (K : PySem.W.Frag) (te : TE) : TE := fun σ H Q => te σ H fun v H1 => ∃ (a : Addr) (xs : List V), v = .ref a ∧ SqL K H1 a xs ∧ ∀ q, H1 q = none → Q (.ref q) (upd H1 q (.lst xs.reverse))
section
variable {X : Cx}
theorem pe_lstRev {e : Expr} {te : TE} {p p2 pos pos2 : Pos} (hc : X.calm = true) (hg : Gl X "list") (hm : X.mg "list" = none) (hg2 : Gl X "reversed") (hm2 : X.mg "reversed" = none) (he : PE X e te)
    (hs : starEach [e] X.env = (false, eval e X.env) :: starEach [] X.env := by rfl)
    (hs2 : starEach [.Call (.Name "reversed" p2) [e] [] pos2] X.env = (false, eval (.Call (.Name "reversed" p2) [e] [] pos2) X.env) :: starEach [] X.env := by rfl) :
    PE X (.Call (.Name "list" p) [.Call (.Name "reversed" p2) [e] [] pos2] [] pos) (tLstRev X.K te) := by
  refine ⟨fun pins s σ H Q I h => ?_⟩
  refine Call_ (ld_blt I hg hm boot_list (PyProof.Rows.callWith_type1 (args_cons (Call_ (ld_blt I hg2 hm2 PyProof.Rows.boot_reversed (PyProof.Rows.callWith_type1 (args_cons (thn (he.run pins s σ H _ I h) fun u s1 ⟨v, H1, I1, r1, q1⟩ => args_nil ?_) hs) hs rfl))) hs2) hs2 rfl))
  obtain ⟨a, xs, ev, hq, q⟩ := q1
  subst ev
  obtain rfl : u = Value.ref a := r1
  obtain ⟨its, rv, p', hz⟩ := I1.list hq
  refine call_reversed_list p'.isList ?_
  refine args_nil ?_
  have k0 : ∀ b o, s1.heap.get? b = some o → (s1.heap.push (revObj a ((its.toArray.size : Int) - 1))).get? b = some o := fun b o e => Heap.get?_push_of_some _ e
  obtain ⟨f0, f1, f2, f3, f4, f5⟩ := I1.fpOk (H' := H1) (b := s1.heap.objs.size) (Nat.le_refl _) (I1.hok.fresh (Nat.le_refl _))
  have hl := p'.isList
  obtain ⟨ol, hol, _⟩ := id hl
  have hne : a ≠ s1.heap.objs.size := Nat.ne_of_lt (Heap.lt_size hol)
  have hn : its.toArray.size ≤ sizeLine := by rw [List.size_toArray, ← rv.length]; exact hz
  have I2 : Inv X pins σ H1 { s1 with heap := s1.heap.push (revObj a ((its.toArray.size : Int) - 1)) } := I1.kept (t' := s1.toks) k0
  refine call_list_rev (s := { s1 with heap := s1.heap.push (revObj a ((its.toArray.size : Int) - 1)) }) (I1.ok.hd hc) ⟨_, Heap.get?_push_size _ rfl, rfl, rfl⟩ (hl.push _) hne hn fun h' tk acc c' hk e' hi => ?_
  have nw : s1.heap.objs.size + 1 = (s1.heap.push (revObj a ((its.toArray.size : Int) - 1))).objs.size := by rw [Heap.size_push]
  have hkk : ∀ b o, s1.heap.get? b = some o → h'.get? b = some o := fun b o e => hk b o (Nat.ne_of_lt (Heap.lt_size e)) (k0 b o e)
  refine ⟨.ref (s1.heap.push (revObj a ((its.toArray.size : Int) - 1))).objs.size, upd H1 (s1.heap.push (revObj a ((its.toArray.size : Int) - 1))).objs.size (.lst xs.reverse), I1.laid (t' := tk) hkk (by rw [← nw]; exact Nat.le_succ _) (show ObjOk X.prog X.w _ _ _ (.lst xs.reverse) from ⟨by rw [List.length_reverse]; exact hz, acc.toList, c', RT.vals_rev rv hi, ?_⟩), rfl, q _ (I1.hok.fresh (by rw [← nw]; exact Nat.le_succ _))⟩
  rw [Array.toArray_toList]
  exact e'
end
@[simp] def eRevL (m : M A) : M A := fun ρ Θ => (m ρ Θ).bind fun p Θ1 => match lstOf Θ1 p with
  | some xs => alloc (.lst xs.reverse) Θ1
  | none => .stuck
theorem te_lstRev {X : Cx} {B : Bs} {e : Expr} {m : M A} {p p2 pos pos2 : Pos} (hK : B.W.K = X.K) (hm : X.mg "list" = none) (hm2 : X.mg "reversed" = none) (he : PE X e (uR B m)) (hc : X.calm = true := by rfl) (hg : Gl X "list" := by rfl) (hg2 : Gl X "reversed" := by rfl)
    (hs : starEach [e] X.env = (false, eval e X.env) :: starEach [] X.env := by rfl)
    (hs2 : starEach [.Call (.Name "reversed" p2) [e] [] pos2] X.env = (false, eval (.Call (.Name "reversed" p2) [e] [] pos2) X.env) :: starEach [] X.env := by rfl) :
    PE X (.Call (.Name "list" p) [.Call (.Name "reversed" p2) [e] [] pos2] [] pos) (uR B (eRevL m)) := PE.imp (pe_lstRev hc hg hm hg2 hm2 he hs hs2) fun σ H Q h => by
  obtain ⟨ρ, μ, G, Θ, ok, h⟩ := h
  refine (bnd ok h).mono fun x H1 ⟨a1, μ1, G1, Θ1, n1, ok1, r1, h⟩ => ?_
  split at h
  · rename_i xs e1
    obtain ⟨q, vs, rfl, h1, h2⟩ := lst_of ok1.sim r1 e1
    exact ⟨q, vs, rfl, hK ▸ h1, px_new (c := .lst _) ok1.sim ⟨_, rfl, h2.reverse⟩ h⟩
  · exact h.elim
end U
noncomputable section
namespace Law
open PySem U
def kls : Str → Str → Bool := fun c f => (c == "Feed" && f == "stock") || (c == "Feed" && f == "spent")
@[simp] theorem kl_Feed_stock : kls "Feed" "stock" = true := by decide +kernel
@[simp] theorem kl_Feed_spent : kls "Feed" "spent" = true := by decide +kernel
def ccL : List (Str × Str × Bool) := []
def xcL : List (Str × Str × Bool) := []
def xtL : List (Str × String × Bool) := []
def tcL : List (Str × Str × Bool) := []
def isa : Isa := ⟨tabOf ccL, fun _ _ => none, fun n d => tabOf tcL (Str.ofString n) d, tabOf xcL, tabT xtL⟩
def b__law_cell_at : Sm := (sSeq (sIf (tOf (eBin dLt (eLoc 1) (eCB dLen (aCons (eLoc 0) aNil)))) (sRet (eBin dIx (eLoc 0) (eLoc 1))) sNil)
  (sRet (eC (.int 0))))
def m__law_cell_at : Fn := gcM (fnM 2 b__law_cell_at)
def b_Feed___init__ : Sm := (sSeq (sFldA kls "stock" (eLoc 0) (eFz (eCB dList (aCons (eLoc 1) aNil))))
  (sFldA kls "spent" (eLoc 0) (eC (.int 0))))
def m_Feed___init__ : Fn := (fnM 2 b_Feed___init__)
def b__law_some : Sm := (sSeq (sSet 4 (eBin dAdd (eBin dMod (eCall m__law_cell_at (aCons (eLoc 0) (aCons (eLoc 1) aNil))) (eC (.int 1000003))) (eC (.int 1))))
  (sSeq (sSet 5 (eBin dMod (eBin dMul (eLoc 4) (eBin dAdd (eBin dAdd (eC (.int 48271)) (eBin dMul (eBin dMul (eC (.int 1000)) (eLoc 1)) (eLoc 1))) (eBin dMul (eBin dMul (eC (.int 69621)) (eLoc 2)) (eLoc 2)))) (eC (.int 2147483647))))
  (sRet (eBin dMod (eBin dFdiv (eBin dMod (eBin dMul (eLoc 5) (eLoc 5)) (eC (.int 2147483629))) (eC (.int 3))) (eLoc 3)))))
def m__law_some : Fn := gcM (fnM 6 b__law_some)
def b_Feed_taken : Sm := (sSeq (sIf (tOf (eBin dEq (eCB dLen (aCons (eFld kls "stock" (eLoc 0)) aNil)) (eC (.int 0)))) (sRet (eC (.int 0))) sNil)
  (sSeq (sSet 1 (eBin dIx (eFld kls "stock" (eLoc 0)) (eFld kls "spent" (eLoc 0))))
  (sSeq (sFldI kls "spent" (fun i j => i + j) (eLoc 0) (eC (.int 1)))
  (sSeq (sIf (tOf (eBin dEq (eFld kls "spent" (eLoc 0)) (eCB dLen (aCons (eFld kls "stock" (eLoc 0)) aNil)))) (sFldA kls "spent" (eLoc 0) (eC (.int 0))) sNil)
  (sRet (eLoc 1))))))
def m_Feed_taken : Fn := gcM (fnM 2 b_Feed_taken)
def b__law_due : Sm := (sSeq (sIf (tOf (eBin dEq (eCB dLen (aCons (eLoc 0) aNil)) (eC (.int 0)))) (sRet (eC (.int 0))) sNil)
  (sRet (eBin dIx (eLoc 0) (eBin dMod (eLoc 1) (eCB dLen (aCons (eLoc 0) aNil))))))
def m__law_due : Fn := gcM (fnM 2 b__law_due)
def b__law_whole : Sm := (sRet (eAnd (eCB (dIsa isa) (aCons (eLoc 0) (aCons (eC (.ty "int")) aNil))) (eNot (eCB (dIsa isa) (aCons (eLoc 0) (aCons (eC (.ty "bool")) aNil))))))
def m__law_whole : Fn := gcM (fnM 1 b__law_whole)
def tab_taken : Str → Option Fn := fun c => if c = "Feed" then some m_Feed_taken else none
@[simp] theorem tab_taken_Feed : tab_taken "Feed" = some m_Feed_taken := by simp (decide := true) [tab_taken]
def e1_law : M A := (eBin dSub (eBin dMod (eLoc 9) (eBin dMul (eC (.int 2)) (eBin dPow (eC (.int 10)) (eC (.int 60))))) (eBin dPow (eC (.int 10)) (eC (.int 60))))
def t1_law : Sm := (sIf (tOrM (tNotM (tOf (eCall m__law_whole (aCons (eLoc 10) aNil)))) (tOf (eBin dNe (eLoc 10) (eLoc 11)))) (sRet (eC (.bl false))) sNil)
def t2_law : Sm := (sSeq (sIf (tOf (eBin dEq (eCall m__law_some (aCons (eLoc 0) (aCons (eBin dAdd (eLoc 8) (eC (.int 2))) (aCons (eC (.int 3)) (aCons (eC (.int 2)) aNil))))) (eC (.int 0)))) (sSeq (sSet 10 (eMth tab_taken "taken" (eLoc 4) aNil))
  (sSeq (sSet 11 (eCall m__law_due (aCons (eLoc 1) (aCons (eBin dIx (eLoc 6) (eC (.int 0))) aNil))))
  (sSub (eLoc 6) (eC (.int 0)) (eBin dAdd (eBin dIx (eLoc 6) (eC (.int 0))) (eC (.int 1)))))) (sSeq (sSet 10 (eMth tab_taken "taken" (eLoc 5) aNil))
  (sSeq (sSet 11 (eCall m__law_due (aCons (eLoc 2) (aCons (eBin dIx (eLoc 6) (eC (.int 1))) aNil))))
  (sSub (eLoc 6) (eC (.int 1)) (eBin dAdd (eBin dIx (eLoc 6) (eC (.int 1))) (eC (.int 1)))))))
  t1_law)
def l1_law : Sm := (sSeq (sIf (tOf (eBin dEq (eLoc 8) (eC (.int 3)))) (sSeq (sIf (tOf (eBin dNe (eLoc 3) (eFz (eLst (aCons (eLoc 1) (aCons (eLoc 2) aNil)))))) (sRet (eC (.bl false))) sNil)
  (sIf (tOf (eBin dEq (eCall m__law_some (aCons (eLoc 0) (aCons (eC (.int 1)) (aCons (eC (.int 2)) (aCons (eC (.int 2)) aNil))))) (eC (.int 0)))) (sDrop (eMeth (eBin dIx (eLoc 3) (eC (.int 0))) fClear aNil)) (sDrop (eMeth (eBin dIx (eLoc 3) (eC (.int 0))) fIns (aCons (eC (.int 0)) (aCons (eC (.int 5)) aNil)))))) sNil)
  t2_law)
def t3_law : Sm := (sSeq (sSet 2 (eFz (eRevL (eLoc 1))))
  (sSeq (sSet 3 (eLst (aCons (eCB dList (aCons (eLoc 1) aNil)) (aCons (eCB dList (aCons (eLoc 2) aNil)) aNil))))
  (sSeq (sSet 4 (eNew "Feed" m_Feed___init__ [] (aCons (eBin dIx (eLoc 3) (eC (.int 0))) aNil)))
  (sSeq (sSet 5 (eNew "Feed" m_Feed___init__ [] (aCons (eBin dIx (eLoc 3) (eC (.int 1))) aNil)))
  (sSeq (sSet 6 (eLst (aCons (eC (.int 0)) (aCons (eC (.int 0)) aNil))))
  (sSeq (sSet 7 (eBin dAdd (eC (.int 4)) (eCall m__law_some (aCons (eLoc 0) (aCons (eC (.int 1)) (aCons (eC (.int 1)) (aCons (eBin dAdd (eBin dMul (eC (.int 3)) (eCB dLen (aCons (eLoc 1) aNil))) (eC (.int 8))) aNil)))))))
  (sSeq (sFor (itR1 (aCons (eLoc 7) aNil)) (bName 8) (sGc [8, 10, 11] l1_law))
  (sRet (eBin dEq (eBin dIx (eLoc 3) (eC (.int 1))) (eLoc 2))))))))))
def b_law : Sm := (sSeq (sFzV 1 (sSet 1 (eLc (itM (eFz (eSl (eLoc 0) (oAt (eC (.int 2))) oNo))) (bName 9) tYesM e1_law [9])))
  (sSeq (sIf (tOf (eBin dEq (eBin dMod (eCall m__law_cell_at (aCons (eLoc 0) (aCons (eC (.int 0)) aNil))) (eC (.int 3))) (eC (.int 1)))) (sSet 1 (eFz (eSl (eLoc 1) oNo (oAt (eBin dMod (eBin dFdiv (eCall m__law_cell_at (aCons (eLoc 0) (aCons (eC (.int 0)) aNil))) (eC (.int 3))) (eC (.int 4))))))) sNil)
  t3_law))
def m_law : Fn := gcM (fnM 12 b_law)
end Law
noncomputable section
namespace Law
open PySem PySem.Spec PyProof.Rows L2 U
open T (Def def_mk op_addA op_mulA op_eqA op_neA op_inA op_ninA op_fdivX op_mul_strT iop_addA call_divmodX)
def topM (i j : Nat) : Stmt := match PySem.Challenge.pw_rowbreadth_k29_numbers_handed_out.main.body.getD i (.Pass ⟨0, 0, 0, 0⟩) with | .ClassDef (body := b) .. => b.getD j (.Pass ⟨0, 0, 0, 0⟩) | s => s
def top (i : Nat) : Stmt := PySem.Challenge.pw_rowbreadth_k29_numbers_handed_out.main.body.getD i (.Pass ⟨0, 0, 0, 0⟩)
structure Tx (K : PySem.W.Frag) (mg : Str → Option Value) : Prop where
  tt : True
  z_bool : mg "bool" = none
  z_int : mg "int" = none
  z_isinstance : mg "isinstance" = none
  z_len : mg "len" = none
  z_list : mg "list" = none
  z_range : mg "range" = none
  z_reversed : mg "reversed" = none
  kl : ∀ c f, kls c f = true → ∀ C, mg c = some (.ref C) → Cls K C ∧ NoAttr K C f
  isa : IsaK K mg isa
theorem kl_mk {K : PySem.W.Frag} {mg : Str → Option Value} {C_Feed : Addr} (m_Feed : mg "Feed" = some (.ref C_Feed)) (c_Feed : Cls K C_Feed) (n_Feed_stock : NoAttr K C_Feed "stock") (n_Feed_spent : NoAttr K C_Feed "spent") : ∀ c f, kls c f = true → ∀ C, mg c = some (.ref C) → Cls K C ∧ NoAttr K C f := by
  intro c f h C hm
  unfold kls at h
  simp only [Bool.or_eq_true, Bool.and_eq_true, beq_iff_eq] at h
  rcases h with (⟨rfl, rfl⟩) | ⟨rfl, rfl⟩
  · rw [m_Feed] at hm; cases hm; exact ⟨c_Feed, n_Feed_stock⟩
  · rw [m_Feed] at hm; cases hm; exact ⟨c_Feed, n_Feed_spent⟩
theorem isa_mk {K : PySem.W.Frag} {mg : Str → Option Value} (ob_Feed : ∃ C, mg "Feed" = some (.ref C) ∧ ObC K C) : IsaK K mg isa := by
  refine ⟨⟨fun c d b e => U.tabOf_all (l := ccL) (P := fun c d b => ∀ C D, mg c = some (.ref C) → mg d = some (.ref D) → PySem.W.kitOne K (.ref C) (.ref D) = some b) U.all_nil e, fun _ _ _ e => (by cases e), ?_, fun c d b e => U.tabOf_all (l := xcL) (P := fun c d b => ∀ C D, mg c = some (.ref C) → mg d = some (.ref D) → PySem.W.kitOne K (.ref C) (.ref D) = some b) U.all_nil e, fun c d b e => U.tabT_all (l := xtL) (P := fun c d b => ∀ C, mg c = some (.ref C) → PySem.W.kitOne K (.ref C) (.type d) = some b) U.all_nil e⟩, ?_, ?_⟩
  · exact fun _ _ _ e => (by cases e)
  · intro c hq; rcases hq with ⟨d, b, e⟩ | ⟨d, b, e⟩
    · exact U.tabOf_all (l := ccL) (P := fun c d b => ∀ C, mg c = some (.ref C) → ObC K C) U.all_nil (c := c) (d := d) (k := b) e
    · cases e
  · intro c hq; rcases hq with ⟨d, b, e⟩ | ⟨d, b, e⟩
    · exact U.tabOf_all (l := xcL) (P := fun c d b => ∀ C, mg c = some (.ref C) → ExcC K C) U.all_nil (c := c) (d := d) (k := b) e
    · exact U.tabT_all (l := xtL) (P := fun c d b => ∀ C, mg c = some (.ref C) → ExcC K C) U.all_nil (c := c) (d := d) (k := b) e
section
variable {P : Program} {w : World} {K : PySem.W.Frag} {mg : Str → Option Value} {base : Heap}
abbrev s__law_cell_at : Stmt := top 3
theorem sc__law_cell_at : FnScope ["_law_script", "_law_k"] ["_law_script", "_law_k"] (defScope s__law_cell_at) := ⟨rfl, rfl, rfl, by decide +kernel, rfl, by decide +kernel, by decide +kernel⟩
theorem bd__law_cell_at (Z : Tx K mg) : BodyOk P w K mg base "_law_cell_at" s__law_cell_at ["_law_script", "_law_k"] 0 b__law_cell_at := by
  intro f cdv A outer s H B E hr L
  have hK : B.W.K = K := by rw [L.w]; rfl
  exact (ts_cons (ts_if (tt_cmp op_lt (OpB.op2 oB_lt on_lt) (te_loc 1 (pv 1)) (te_callB call_len (c_len hK) Z.z_len PySem.boot_len (ta_cons (te_loc 0 (pv 0)) ta_nil)) (nomark _)) (ts_one (ts_ret (te_ix hK (te_loc 0 (pv 0)) (te_loc 1 (pv 1))))) ts_nil)
  (ts_one (ts_ret te_int)))
abbrev s_Feed___init__ : Stmt := topM 1 0
theorem sc_Feed___init__ : FnScope ["self", "numbers"] ["self", "numbers"] (defScope s_Feed___init__) := ⟨rfl, rfl, rfl, by decide +kernel, rfl, by decide +kernel, by decide +kernel⟩
theorem bd_Feed___init__ (Z : Tx K mg) : BodyOk P w K mg base "Feed.__init__" s_Feed___init__ ["self", "numbers"] 0 b_Feed___init__ := by
  intro f cdv A outer s H B E hr L
  have hK : B.W.K = K := by rw [L.w]; rfl
  exact (ts_cons (ts_fld L.w Z.kl (te_loc 0 (pv 0)) (te_fz (te_callTy call_list_of (c_list hK) Z.z_list (by decide +kernel) (ta_cons (te_loc 1 (pv 1)) ta_nil))))
  (ts_one (ts_fld L.w Z.kl (te_loc 0 (pv 0)) te_int)))
abbrev s__law_some : Stmt := top 4
theorem sc__law_some : FnScope ["_law_script", "_law_k", "_law_salt", "_law_many", "_law_cell", "_law_mixed"] ["_law_script", "_law_k", "_law_salt", "_law_many"] (defScope s__law_some) := ⟨rfl, rfl, rfl, by decide +kernel, rfl, by decide +kernel, by decide +kernel⟩
theorem bd__law_some (Z : Tx K mg) (c__law_cell_at : Cal P w K mg base "_law_cell_at" 1 2 m__law_cell_at) : BodyOk P w K mg base "_law_some" s__law_some ["_law_script", "_law_k", "_law_salt", "_law_many", "_law_cell", "_law_mixed"] 1 b__law_some := by
  intro f cdv A outer s H B E hr L
  have hK : B.W.K = K := by rw [L.w]; rfl
  exact (ts_cons (ts_set (i := 4) sc__law_some.nd rfl (by first | exact .inl rfl | exact .inr rfl) (te_bin op_addA o2_add (te_bin op_modN o2_mod (te_fn L c__law_cell_at hr (by first | decide | omega) (len_cons (len_cons len_nil)) (ta_cons (te_loc 0 (pv 0)) (ta_cons (te_loc 1 (pv 1)) ta_nil))) te_int) te_int))
  (ts_cons (ts_set (i := 5) sc__law_some.nd rfl (by first | exact .inl rfl | exact .inr rfl) (te_bin op_modN o2_mod (te_bin op_mulA o2_mul (te_loc 4 (pv 4)) (te_bin op_addA o2_add (te_bin op_addA o2_add te_int (te_bin op_mulA o2_mul (te_bin op_mulA o2_mul te_int (te_loc 1 (pv 1))) (te_loc 1 (pv 1)))) (te_bin op_mulA o2_mul (te_bin op_mulA o2_mul te_int (te_loc 2 (pv 2))) (te_loc 2 (pv 2))))) te_int))
  (ts_one (ts_ret (te_bin op_modN o2_mod (te_bin op_fdivX o2_fdiv (te_bin op_modN o2_mod (te_bin op_mulA o2_mul (te_loc 5 (pv 5)) (te_loc 5 (pv 5))) te_int) te_int) (te_loc 3 (pv 3)))))))
abbrev s_Feed_taken : Stmt := topM 1 1
theorem sc_Feed_taken : FnScope ["self", "number"] ["self"] (defScope s_Feed_taken) := ⟨rfl, rfl, rfl, by decide +kernel, rfl, by decide +kernel, by decide +kernel⟩
theorem bd_Feed_taken (Z : Tx K mg) : BodyOk P w K mg base "Feed.taken" s_Feed_taken ["self", "number"] 0 b_Feed_taken := by
  intro f cdv A outer s H B E hr L
  have hK : B.W.K = K := by rw [L.w]; rfl
  exact (ts_cons (ts_if (tt_cmp (op_eqA hr.units) (OpB.op2 (oB_eq hK) on_eq) (te_callB call_len (c_len hK) Z.z_len PySem.boot_len (ta_cons (te_fld L.w Z.kl (te_loc 0 (pv 0))) ta_nil)) te_int (nomark _)) (ts_one (ts_ret te_int)) ts_nil)
  (ts_cons (ts_set (i := 1) sc_Feed_taken.nd rfl (by first | exact .inl rfl | exact .inr rfl) (te_ix hK (te_fld L.w Z.kl (te_loc 0 (pv 0))) (te_fld L.w Z.kl (te_loc 0 (pv 0)))))
  (ts_cons (ts_fldI L.w Z.kl in_add (te_loc 0 (pv 0)) te_int)
  (ts_cons (ts_if (tt_cmp (op_eqA hr.units) (OpB.op2 (oB_eq hK) on_eq) (te_fld L.w Z.kl (te_loc 0 (pv 0))) (te_callB call_len (c_len hK) Z.z_len PySem.boot_len (ta_cons (te_fld L.w Z.kl (te_loc 0 (pv 0))) ta_nil)) (nomark _)) (ts_one (ts_fld L.w Z.kl (te_loc 0 (pv 0)) te_int)) ts_nil)
  (ts_one (ts_ret (te_loc 1 (pv 1))))))))
abbrev s__law_due : Stmt := top 6
theorem sc__law_due : FnScope ["_law_numbers", "_law_k"] ["_law_numbers", "_law_k"] (defScope s__law_due) := ⟨rfl, rfl, rfl, by decide +kernel, rfl, by decide +kernel, by decide +kernel⟩
theorem bd__law_due (Z : Tx K mg) : BodyOk P w K mg base "_law_due" s__law_due ["_law_numbers", "_law_k"] 0 b__law_due := by
  intro f cdv A outer s H B E hr L
  have hK : B.W.K = K := by rw [L.w]; rfl
  exact (ts_cons (ts_if (tt_cmp (op_eqA hr.units) (OpB.op2 (oB_eq hK) on_eq) (te_callB call_len (c_len hK) Z.z_len PySem.boot_len (ta_cons (te_loc 0 (pv 0)) ta_nil)) te_int (nomark _)) (ts_one (ts_ret te_int)) ts_nil)
  (ts_one (ts_ret (te_ix hK (te_loc 0 (pv 0)) (te_bin op_modN o2_mod (te_loc 1 (pv 1)) (te_callB call_len (c_len hK) Z.z_len PySem.boot_len (ta_cons (te_loc 0 (pv 0)) ta_nil)))))))
abbrev s__law_whole : Stmt := top 5
theorem sc__law_whole : FnScope ["_law_found"] ["_law_found"] (defScope s__law_whole) := ⟨rfl, rfl, rfl, by decide +kernel, rfl, by decide +kernel, by decide +kernel⟩
theorem bd__law_whole (Z : Tx K mg) : BodyOk P w K mg base "_law_whole" s__law_whole ["_law_found"] 0 b__law_whole := by
  intro f cdv A outer s H B E hr L
  have hK : B.W.K = K := by rw [L.w]; rfl
  exact (ts_one (ts_ret (te_and (te_callB call_isU (c_isa L.w Z.isa) Z.z_isinstance (by decide +kernel) (ta_cons (te_loc 0 (pv 0)) (ta_cons (te_ty Z.z_int (by decide +kernel)) ta_nil))) (te_one (te_not (te_callB call_isU (c_isa L.w Z.isa) Z.z_isinstance (by decide +kernel) (ta_cons (te_loc 0 (pv 0)) (ta_cons (te_ty Z.z_bool (by decide +kernel)) ta_nil))))))))
abbrev s_law : Stmt := top 7
theorem sc_law : FnScope ["_law_script", "_law_numbers", "_law_turned", "_law_handed", "_law_one", "_law_two", "_law_asked", "_law_many", "_law_k", "_law_cell", "_law_found", "_law_due_here"] ["_law_script"] (defScope s_law) := ⟨rfl, rfl, rfl, by decide +kernel, rfl, by decide +kernel, by decide +kernel⟩
theorem bd_law (Z : Tx K mg) (c__law_cell_at : Cal P w K mg base "_law_cell_at" 1 2 m__law_cell_at) (c__law_some : Cal P w K mg base "_law_some" 2 4 m__law_some) (c__law_due : Cal P w K mg base "_law_due" 1 2 m__law_due) (c__law_whole : Cal P w K mg base "_law_whole" 1 1 m__law_whole) (ci_Feed : CalI P w K mg base "Feed" 1 2 [] m_Feed___init__) (ht_taken : ∀ c m, tab_taken c = some m → CalM P w K mg base c "taken" 1 1 m) (h0_taken : ∃ c m, tab_taken c = some m) : BodyOk P w K mg base "law" s_law ["_law_script", "_law_numbers", "_law_turned", "_law_handed", "_law_one", "_law_two", "_law_asked", "_law_many", "_law_k", "_law_cell", "_law_found", "_law_due_here"] 2 b_law := by
  intro f cdv A outer s H B E hr L
  have hK : B.W.K = K := by rw [L.w]; rfl
  exact (ts_cons (ts_fzV 1 (by first | exact ts_setLc (i := 1) (own := [("_law_cell", 9)]) bto_name (by decide) rfl sc_law.nd rfl rfl (sw_true rfl rfl rfl (by decide +kernel)) (ti_seq hK (te_fz (te_sl hK (te_loc 0 (pv 0)) (to_some te_int) to_none))) (blkOk_by (N := ["_law_script", "_law_numbers", "_law_turned", "_law_handed", "_law_one", "_law_two", "_law_asked", "_law_many", "_law_k", "_law_cell", "_law_found", "_law_due_here"]) (sc := defScope s_law) (by decide +kernel)) (fun _ _ _ _ _ => (tg_name sc_law.nd rfl (by first | exact .inl rfl | exact .inr rfl))) (fun _ _ _ _ _ => tts_nil) (fun _ _ _ _ _ => (te_bin op_sub o2_sub (te_bin op_modN o2_mod (te_loc 9 (pv 9)) (te_bin op_mulA o2_mul te_int (te_bin op_pow o2_pow te_int te_int))) (te_bin op_pow o2_pow te_int te_int))) | exact ts_set (i := 1) sc_law.nd rfl (by first | exact .inl rfl | exact .inr rfl) (te_lc (own := [("_law_cell", 9)]) bto_name (by decide) rfl sc_law.nd (ti_seq hK (te_fz (te_sl hK (te_loc 0 (pv 0)) (to_some te_int) to_none))) (blkOk_by (N := ["_law_script", "_law_numbers", "_law_turned", "_law_handed", "_law_one", "_law_two", "_law_asked", "_law_many", "_law_k", "_law_cell", "_law_found", "_law_due_here"]) (sc := defScope s_law) (by decide +kernel)) (fun _ _ _ _ _ => (tg_name sc_law.nd rfl (by first | exact .inl rfl | exact .inr rfl))) (fun _ _ _ _ _ => tts_nil) (fun _ _ _ _ _ => (te_bin op_sub o2_sub (te_bin op_modN o2_mod (te_loc 9 (pv 9)) (te_bin op_mulA o2_mul te_int (te_bin op_pow o2_pow te_int te_int))) (te_bin op_pow o2_pow te_int te_int))))))
  (ts_cons (ts_if (tt_cmp (op_eqA hr.units) (OpB.op2 (oB_eq hK) on_eq) (te_bin op_modN o2_mod (te_fn L c__law_cell_at hr (by first | decide | omega) (len_cons (len_cons len_nil)) (ta_cons (te_loc 0 (pv 0)) (ta_cons te_int ta_nil))) te_int) te_int (nomark _)) (ts_one (ts_set (i := 1) sc_law.nd rfl (by first | exact .inl rfl | exact .inr rfl) (te_fz (te_sl hK (te_loc 1 (pv 1)) to_none (to_some (te_bin op_modN o2_mod (te_bin op_fdivX o2_fdiv (te_fn L c__law_cell_at hr (by first | decide | omega) (len_cons (len_cons len_nil)) (ta_cons (te_loc 0 (pv 0)) (ta_cons te_int ta_nil))) te_int) te_int)))))) ts_nil)
  (ts_cons (ts_set (i := 2) sc_law.nd rfl (by first | exact .inl rfl | exact .inr rfl) (te_fz (te_lstRev hK Z.z_list Z.z_reversed (te_loc 1 (pv 1)))))
  (ts_cons (ts_set (i := 3) sc_law.nd rfl (by first | exact .inl rfl | exact .inr rfl) (te_lst (ta_cons (te_callTy call_list_of (c_list hK) Z.z_list (by decide +kernel) (ta_cons (te_loc 1 (pv 1)) ta_nil)) (ta_cons (te_callTy call_list_of (c_list hK) Z.z_list (by decide +kernel) (ta_cons (te_loc 2 (pv 2)) ta_nil)) ta_nil))))
  (ts_cons (ts_set (i := 4) sc_law.nd rfl (by first | exact .inl rfl | exact .inr rfl) (te_new L.w ci_Feed hr (by first | decide | omega) (len_cons len_nil) (ta_cons (te_ix hK (te_loc 3 (pv 3)) te_int) ta_nil)))
  (ts_cons (ts_set (i := 5) sc_law.nd rfl (by first | exact .inl rfl | exact .inr rfl) (te_new L.w ci_Feed hr (by first | decide | omega) (len_cons len_nil) (ta_cons (te_ix hK (te_loc 3 (pv 3)) te_int) ta_nil)))
  (ts_cons (ts_set (i := 6) sc_law.nd rfl (by first | exact .inl rfl | exact .inr rfl) (te_lst (ta_cons te_int (ta_cons te_int ta_nil))))
  (ts_cons (ts_set (i := 7) sc_law.nd rfl (by first | exact .inl rfl | exact .inr rfl) (te_bin op_addA o2_add te_int (te_fn L c__law_some hr (by first | decide | omega) (len_cons (len_cons (len_cons (len_cons len_nil)))) (ta_cons (te_loc 0 (pv 0)) (ta_cons te_int (ta_cons te_int (ta_cons (te_bin op_addA o2_add (te_bin op_mulA o2_mul te_int (te_callB call_len (c_len hK) Z.z_len PySem.boot_len (ta_cons (te_loc 1 (pv 1)) ta_nil))) te_int) ta_nil)))))))
  (ts_cons (ts_for (passes_of rfl) rfl (ti_range1 Z.z_range (ta_cons (te_loc 7 (pv 7)) ta_nil)) (tg_name sc_law.nd rfl (by first | exact .inl rfl | exact .inr rfl)) (ts_gc [8, 10, 11] (ts_cons (ts_if (tt_cmp (op_eqA hr.units) (OpB.op2 (oB_eq hK) on_eq) (te_loc 8 (pv 8)) te_int (nomark _)) (ts_cons (ts_if (tt_cmp (op_neA hr.units) (OpB.op2 (oB_ne hK) on_ne) (te_loc 3 (pv 3)) (te_fz (te_lst (ta_cons (te_loc 1 (pv 1)) (ta_cons (te_loc 2 (pv 2)) ta_nil)))) (nomark _)) (ts_one (ts_ret te_bl)) ts_nil)
  (ts_one (ts_if (tt_cmp (op_eqA hr.units) (OpB.op2 (oB_eq hK) on_eq) (te_fn L c__law_some hr (by first | decide | omega) (len_cons (len_cons (len_cons (len_cons len_nil)))) (ta_cons (te_loc 0 (pv 0)) (ta_cons te_int (ta_cons te_int (ta_cons te_int ta_nil))))) te_int (nomark _)) (ts_one (ts_drop (te_meth0 ms_clear (pe_bm0 PySem.F.plainAttrs_list PySem.F.slot_list_clear PySem.F.type_list_clear mt_clear (te_ix hK (te_loc 3 (pv 3)) te_int))))) (ts_one (ts_drop (te_meth ms_ins (pe_bm PySem.F.plainAttrs_list PySem.F.slot_list_insert PySem.F.type_list_insert mt_insert (te_ix hK (te_loc 3 (pv 3)) te_int) (ta_cons te_int (ta_cons te_int ta_nil))))))))) ts_nil)
  (ts_cons (ts_if (tt_cmp (op_eqA hr.units) (OpB.op2 (oB_eq hK) on_eq) (te_fn L c__law_some hr (by first | decide | omega) (len_cons (len_cons (len_cons (len_cons len_nil)))) (ta_cons (te_loc 0 (pv 0)) (ta_cons (te_bin op_addA o2_add (te_loc 8 (pv 8)) te_int) (ta_cons te_int (ta_cons te_int ta_nil))))) te_int (nomark _)) (ts_cons (ts_set (i := 10) sc_law.nd rfl (by first | exact .inl rfl | exact .inr rfl) (te_mth0 L ht_taken h0_taken hr (by first | decide | omega) (te_loc 4 (pv 4))))
  (ts_cons (ts_set (i := 11) sc_law.nd rfl (by first | exact .inl rfl | exact .inr rfl) (te_fn L c__law_due hr (by first | decide | omega) (len_cons (len_cons len_nil)) (ta_cons (te_loc 1 (pv 1)) (ta_cons (te_ix hK (te_loc 6 (pv 6)) te_int) ta_nil))))
  (ts_one (ts_sub (ps_asg (te_bin op_addA o2_add (te_ix hK (te_loc 6 (pv 6)) te_int) te_int) (pg_sub (te_loc 6 (pv 6)) te_int set_list)))))) (ts_cons (ts_set (i := 10) sc_law.nd rfl (by first | exact .inl rfl | exact .inr rfl) (te_mth0 L ht_taken h0_taken hr (by first | decide | omega) (te_loc 5 (pv 5))))
  (ts_cons (ts_set (i := 11) sc_law.nd rfl (by first | exact .inl rfl | exact .inr rfl) (te_fn L c__law_due hr (by first | decide | omega) (len_cons (len_cons len_nil)) (ta_cons (te_loc 2 (pv 2)) (ta_cons (te_ix hK (te_loc 6 (pv 6)) te_int) ta_nil))))
  (ts_one (ts_sub (ps_asg (te_bin op_addA o2_add (te_ix hK (te_loc 6 (pv 6)) te_int) te_int) (pg_sub (te_loc 6 (pv 6)) te_int set_list)))))))
  (ts_one (ts_if (PW.pt (tw_or (tt_not (tt_val (te_fn L c__law_whole hr (by first | decide | omega) (len_cons len_nil) (ta_cons (te_loc 10 (pv 10)) ta_nil)))) (tw_or1 (tt_cmp (op_neA hr.units) (OpB.op2 (oB_ne hK) on_ne) (te_loc 10 (pv 10)) (te_loc 11 (pv 11)) (nomark _))))) (ts_one (ts_ret te_bl)) ts_nil))))))
  (ts_one (ts_ret (te_cmp (op_eqA hr.units) (OpB.op2 (oB_eq hK) on_eq) (te_ix hK (te_loc 3 (pv 3)) te_int) (te_loc 2 (pv 2)) (nomark _)))))))))))))
end
end Law
namespace Law
open PySem T
/-! plain functions that several laws share -/
def keptN (n : Int) : Int := (n + 9223372036854775808) % 18446744073709551616 - 9223372036854775808
def IsKept (n : Int) : Prop := -9223372036854775808 ≤ n ∧ n ≤ 9223372036854775807
theorem keptN_kept (n : Int) : IsKept (keptN n) := by unfold keptN IsKept; omega
theorem keptN_id {n : Int} (h : IsKept n) : keptN n = n := by unfold keptN; unfold IsKept at h; omega
/-- a number that a cell draws -/
def edges : List Int := [-9223372036854775808, 9223372036854775807, -1, 4294967296, -9223372036854775807, 3037000500]
def keptBy (c : Int) : Int :=
  if c % 4 = 0 then c / 4 % 7 - 3 else if c % 4 = 1 then edges.getD (c / 4 % 6).toNat 0 else if c % 4 = 2 then c / 4 * 48271 % 2001 - 1000 else c / 4 * 2862933555777941757 % 18446744073709551616 - 9223372036854775808
theorem edges_kept (i : Nat) (h : i < 6) : IsKept (edges.getD i 0) := by
  have : i = 0 ∨ i = 1 ∨ i = 2 ∨ i = 3 ∨ i = 4 ∨ i = 5 := by omega
  rcases this with rfl | rfl | rfl | rfl | rfl | rfl <;> (unfold IsKept edges; simp)
theorem keptBy_kept (c : Int) : IsKept (keptBy c) := by
  unfold keptBy
  split
  · unfold IsKept; omega
  · split
    · exact edges_kept _ (by omega)
    · split
      · unfold IsKept; omega
      · unfold IsKept; omega
end Law
namespace Law
open PySem T
/-! the signs and what they tell -/
def signs : List Str := ["+", "-", "*", "/", "rest", "least", "most", "<", "=", "&", "|", "^"]
def doneN (s : Str) (a b : Int) : Int :=
  if s = "+" then keptN (a + b) else if s = "-" then keptN (a - b) else if s = "*" then keptN (a * b) else if s = "/" then keptN (a.fdiv b) else if s = "rest" then a.fmod b else
  if s = "least" then (if b < a then b else a) else if s = "most" then (if a < b then b else a) else if s = "<" then (if a < b then 1 else 0) else if s = "=" then (if a = b then 1 else 0) else
  if s = "&" then Builtin.bitAnd a b else if s = "|" then Builtin.bitOr a b else Builtin.bitXor a b
end Law
namespace Law
open PySem PyProof.Rows
/-! bits of whole numbers -/
theorem nat_xor_and (m : Nat) : ∀ n : Nat, (m ^^^ n) + (m &&& n) = m ||| n := by
  induction m using Nat.strongRecOn with
  | ind m ih =>
    intro n
    by_cases hm : m = 0
    · subst hm; simp
    · have h := ih (m / 2) (by omega) (n / 2)
      have e1 := Nat.div_add_mod (m ^^^ n) 2
      have e2 := Nat.div_add_mod (m &&& n) 2
      have e3 := Nat.div_add_mod (m ||| n) 2
      have d1 : (m ^^^ n) / 2 = m / 2 ^^^ n / 2 := Nat.xor_div_two
      have d2 : (m &&& n) / 2 = m / 2 &&& n / 2 := Nat.and_div_two
      have d3 : (m ||| n) / 2 = m / 2 ||| n / 2 := Nat.or_div_two
      have m1 : (m ^^^ n) % 2 + (m &&& n) % 2 = (m ||| n) % 2 := by
        have a := Nat.mod_two_eq_zero_or_one m
        have b := Nat.mod_two_eq_zero_or_one n
        have t1 : (m ^^^ n) % 2 = (m % 2) ^^^ (n % 2) := Nat.xor_mod_two_pow (n := 1)
        have t2 : (m &&& n) % 2 = (m % 2) &&& (n % 2) := Nat.and_mod_two_pow (n := 1)
        have t3 : (m ||| n) % 2 = (m % 2) ||| (n % 2) := Nat.or_mod_two_pow (n := 1)
        rw [t1, t2, t3]
        rcases a with a | a <;> rcases b with b | b <;> rw [a, b] <;> rfl
      omega
def ibit (x : Int) (k : Nat) : Bool := if 0 ≤ x then x.toNat.testBit k else !(Builtin.bitNot x).toNat.testBit k
theorem ibit_not (x : Int) (k : Nat) : ibit (Builtin.bitNot x) k = !ibit x k := by
  unfold ibit
  rw [bitNot_bitNot]
  by_cases h : 0 ≤ x
  · rw [if_pos h, if_neg (by rw [bitNot_nonneg]; omega)]
  · rw [if_neg h, if_pos (bitNot_nonneg.mpr h)]; simp
theorem ibit_nat (n k : Nat) : ibit (n : Int) k = n.testBit k := by unfold ibit; rw [if_pos (Int.natCast_nonneg n), Int.toNat_natCast]
theorem ibit_ext {x y : Int} (h : ∀ k, ibit x k = ibit y k) : x = y := by
  have top : ∀ n : Nat, n.testBit n = false := fun n => Nat.testBit_lt_two_pow Nat.lt_two_pow_self
  have big : ∀ (n m : Nat), n ≤ m → n.testBit m = false := fun n m hm => Nat.testBit_lt_two_pow (Nat.lt_of_lt_of_le Nat.lt_two_pow_self (Nat.pow_le_pow_right (by decide) hm))
  unfold ibit at h
  by_cases hx : 0 ≤ x
  · by_cases hy : 0 ≤ y
    · simp only [if_pos hx, if_pos hy] at h
      have := Nat.eq_of_testBit_eq h
      omega
    · simp only [if_pos hx, if_neg hy] at h
      have := h (max x.toNat (Builtin.bitNot y).toNat)
      rw [big _ _ (Nat.le_max_left ..), big _ _ (Nat.le_max_right ..)] at this
      cases this
  · by_cases hy : 0 ≤ y
    · simp only [if_neg hx, if_pos hy] at h
      have := h (max y.toNat (Builtin.bitNot x).toNat)
      rw [big _ _ (Nat.le_max_left ..), big _ _ (Nat.le_max_right ..)] at this
      cases this
    · simp only [if_neg hx, if_neg hy, Bool.not_inj_iff] at h
      have := Nat.eq_of_testBit_eq h
      unfold Builtin.bitNot at this
      omega
theorem bitNot_cast (n : Nat) : ¬ 0 ≤ Builtin.bitNot (n : Int) := by rw [bitNot_nonneg]; omega
theorem toNat_cast {x : Int} (h : 0 ≤ x) : x = (x.toNat : Int) := by omega
theorem nat_of_neg {x : Int} (h : ¬ 0 ≤ x) : x = Builtin.bitNot ((Builtin.bitNot x).toNat : Int) := by
  rw [Int.toNat_of_nonneg (bitNot_nonneg.mpr h), bitNot_bitNot]
theorem sub_and (a b : Nat) (k : Nat) : (a - (a &&& b)).testBit k = (a.testBit k && !b.testBit k) := by
  have e : a - (a &&& b) = a ^^^ (a &&& b) := by
    have h := nat_xor_and a (a &&& b)
    have h1 : a &&& (a &&& b) = a &&& b := by apply Nat.eq_of_testBit_eq; intro i; simp
    have h2 : a ||| (a &&& b) = a := by apply Nat.eq_of_testBit_eq; intro i; simp; cases a.testBit i <;> simp
    rw [h1, h2] at h
    omega
  rw [e, Nat.testBit_xor, Nat.testBit_and]
  cases a.testBit k <;> cases b.testBit k <;> rfl
theorem and_le (a b : Nat) : a &&& b ≤ a := Nat.and_le_left
theorem ibit_and (x y : Int) (k : Nat) : ibit (Builtin.bitAnd x y) k = (ibit x k && ibit y k) := by
  by_cases hx : 0 ≤ x <;> by_cases hy : 0 ≤ y
  · rw [bitAnd_pp hx hy, ibit_nat, Nat.testBit_and]
    unfold ibit; rw [if_pos hx, if_pos hy]
  · rw [bitAnd_pn hx hy]
    have e : x - ((x.toNat &&& (Builtin.bitNot y).toNat : Nat) : Int) = ((x.toNat - (x.toNat &&& (Builtin.bitNot y).toNat) : Nat) : Int) := by have := and_le x.toNat (Builtin.bitNot y).toNat; omega
    rw [e, ibit_nat, sub_and]
    unfold ibit; rw [if_pos hx, if_neg hy]
  · rw [bitAnd_np hx hy]
    have e : y - ((y.toNat &&& (Builtin.bitNot x).toNat : Nat) : Int) = ((y.toNat - (y.toNat &&& (Builtin.bitNot x).toNat) : Nat) : Int) := by have := and_le y.toNat (Builtin.bitNot x).toNat; omega
    rw [e, ibit_nat, sub_and]
    unfold ibit; rw [if_neg hx, if_pos hy, Bool.and_comm]
  · rw [bitAnd_nn hx hy, ibit_not, ibit_nat, Nat.testBit_or]
    unfold ibit; rw [if_neg hx, if_neg hy]; simp
theorem ibit_or (x y : Int) (k : Nat) : ibit (Builtin.bitOr x y) k = (ibit x k || ibit y k) := by
  unfold Builtin.bitOr
  rw [ibit_not, ibit_and, ibit_not, ibit_not]
  simp
theorem ibit_xor (x y : Int) (k : Nat) : ibit (Builtin.bitXor x y) k = (ibit x k ^^ ibit y k) := by
  have ba : Builtin.bitXor x y = x + y - 2 * Builtin.bitAnd x y := by
    unfold Builtin.bitXor; rw [bitOr_and]; omega
  have nn : ∀ a b : Nat, (a ^^^ b : Nat) + 2 * (a &&& b) = a + b := fun a b => by have := nat_xor_and a b; have := nat_or_add_and a b; omega
  rw [ba]
  by_cases hx : 0 ≤ x <;> by_cases hy : 0 ≤ y
  · rw [bitAnd_pp hx hy]
    have := nn x.toNat y.toNat
    have e : x + y - 2 * ((x.toNat &&& y.toNat : Nat) : Int) = ((x.toNat ^^^ y.toNat : Nat) : Int) := by omega
    rw [e, ibit_nat, Nat.testBit_xor]
    unfold ibit; rw [if_pos hx, if_pos hy]
  · rw [bitAnd_pn hx hy]
    have := nn x.toNat (Builtin.bitNot y).toNat
    have hb := Int.toNat_of_nonneg (bitNot_nonneg.mpr hy)
    have e : x + y - 2 * (x - ((x.toNat &&& (Builtin.bitNot y).toNat : Nat) : Int)) = Builtin.bitNot ((x.toNat ^^^ (Builtin.bitNot y).toNat : Nat) : Int) := by
      unfold Builtin.bitNot at *; omega
    rw [e, ibit_not, ibit_nat, Nat.testBit_xor]
    unfold ibit; rw [if_pos hx, if_neg hy]
    cases x.toNat.testBit k <;> cases (Builtin.bitNot y).toNat.testBit k <;> rfl
  · rw [bitAnd_np hx hy]
    have := nn y.toNat (Builtin.bitNot x).toNat
    have hb := Int.toNat_of_nonneg (bitNot_nonneg.mpr hx)
    have e : x + y - 2 * (y - ((y.toNat &&& (Builtin.bitNot x).toNat : Nat) : Int)) = Builtin.bitNot ((y.toNat ^^^ (Builtin.bitNot x).toNat : Nat) : Int) := by
      unfold Builtin.bitNot at *; omega
    rw [e, ibit_not, ibit_nat, Nat.testBit_xor]
    unfold ibit; rw [if_neg hx, if_pos hy]
    cases y.toNat.testBit k <;> cases (Builtin.bitNot x).toNat.testBit k <;> rfl
  · rw [bitAnd_nn hx hy]
    have h1 := nn (Builtin.bitNot x).toNat (Builtin.bitNot y).toNat
    have h2 := nat_or_add_and (Builtin.bitNot x).toNat (Builtin.bitNot y).toNat
    have hb := Int.toNat_of_nonneg (bitNot_nonneg.mpr hx)
    have hb' := Int.toNat_of_nonneg (bitNot_nonneg.mpr hy)
    have e : x + y - 2 * Builtin.bitNot (((Builtin.bitNot x).toNat ||| (Builtin.bitNot y).toNat : Nat) : Int) = (((Builtin.bitNot x).toNat ^^^ (Builtin.bitNot y).toNat : Nat) : Int) := by
      unfold Builtin.bitNot at *; omega
    rw [e, ibit_nat, Nat.testBit_xor]
    unfold ibit; rw [if_neg hx, if_neg hy]
    cases (Builtin.bitNot x).toNat.testBit k <;> cases (Builtin.bitNot y).toNat.testBit k <;> rfl
/-- kept: the bits from the 63rd on are alike -/
theorem kept_bits {x : Int} : IsKept x ↔ ∀ k, 63 ≤ k → ibit x k = ibit x 63 := by
  have nat : ∀ n : Nat, (n < 9223372036854775808) ↔ ∀ k, 63 ≤ k → n.testBit k = false := fun n => by
    constructor
    · intro h k hk
      exact Nat.testBit_lt_two_pow (Nat.lt_of_lt_of_le (show n < 2 ^ 63 from h) (Nat.pow_le_pow_right (by decide) hk))
    · intro h
      exact Nat.lt_pow_two_of_testBit (n := 63) n fun k hk => h k hk
  have lo : ∀ n : Nat, (∀ k, 63 ≤ k → n.testBit k = n.testBit 63) → n < 9223372036854775808 := fun n h => by
    rw [nat]
    intro k hk
    have a := h k hk
    have b := h (max n 63) (Nat.le_max_right ..)
    rw [Nat.testBit_lt_two_pow (Nat.lt_of_lt_of_le Nat.lt_two_pow_self (Nat.pow_le_pow_right (by decide) (Nat.le_max_left n 63)))] at b
    rw [a, ← b]
  constructor
  · intro h k hk
    unfold IsKept at h
    unfold ibit
    by_cases hx : 0 ≤ x
    · simp only [if_pos hx]
      have := (nat x.toNat).mp (by omega)
      rw [this k hk, this 63 (Nat.le_refl _)]
    · simp only [if_neg hx]
      have := (nat (Builtin.bitNot x).toNat).mp (by unfold Builtin.bitNot; omega)
      rw [this k hk, this 63 (Nat.le_refl _)]
  · intro h
    unfold ibit at h
    unfold IsKept
    by_cases hx : 0 ≤ x
    · simp only [if_pos hx] at h
      have := lo _ h; omega
    · simp only [if_neg hx, Bool.not_inj_iff] at h
      have := lo _ h
      unfold Builtin.bitNot at this; omega
theorem and_kept {x y : Int} (hx : IsKept x) (hy : IsKept y) : IsKept (Builtin.bitAnd x y) := by
  rw [kept_bits] at *; intro k hk; rw [ibit_and, ibit_and, hx k hk, hy k hk]
theorem or_kept {x y : Int} (hx : IsKept x) (hy : IsKept y) : IsKept (Builtin.bitOr x y) := by
  rw [kept_bits] at *; intro k hk; rw [ibit_or, ibit_or, hx k hk, hy k hk]
theorem xor_kept {x y : Int} (hx : IsKept x) (hy : IsKept y) : IsKept (Builtin.bitXor x y) := by
  rw [kept_bits] at *; intro k hk; rw [ibit_xor, ibit_xor, hx k hk, hy k hk]
/-- a bit by division -/
theorem bit_div (x : Int) (k : Nat) : x / 2 ^ k % 2 = if ibit x k = true then 1 else 0 := by
  have nat : ∀ n : Nat, ((n : Int) / 2 ^ k % 2) = if n.testBit k = true then 1 else 0 := fun n => by
    rw [Nat.testBit_eq_decide_div_mod_eq]
    have : ((n : Int) / 2 ^ k % 2) = ((n / 2 ^ k % 2 : Nat) : Int) := by
      rw [Int.natCast_emod, Int.natCast_ediv, Int.natCast_pow]; rfl
    rw [this]
    have := Nat.mod_two_eq_zero_or_one (n / 2 ^ k)
    rcases this with h | h <;> rw [h] <;> simp
  unfold ibit
  by_cases hx : 0 ≤ x
  · rw [if_pos hx, ← nat, Int.toNat_of_nonneg hx]
  · rw [if_neg hx]
    have hp : (0 : Int) < 2 ^ k := Int.pow_pos (by decide)
    have hb := Int.toNat_of_nonneg (bitNot_nonneg.mpr hx)
    have q := nat (Builtin.bitNot x).toNat
    rw [hb] at q
    have e : x / 2 ^ k = -(Builtin.bitNot x / 2 ^ k) - 1 := by
      unfold Builtin.bitNot
      have h1 := Int.mul_ediv_add_emod (-x - 1) (2 ^ k)
      have h2 := Int.emod_nonneg (-x - 1) (show (2 : Int) ^ k ≠ 0 by omega)
      have h3 := Int.emod_lt_of_pos (-x - 1) hp
      generalize (-x - 1) / 2 ^ k = q' at *
      generalize (-x - 1) % 2 ^ k = r' at *
      have : x = 2 ^ k - 1 - r' + (-q' - 1) * 2 ^ k := by
        rw [Int.sub_mul, Int.neg_mul, Int.one_mul, Int.mul_comm q']
        omega
      rw [this, Int.add_mul_ediv_right _ _ (by omega), Int.ediv_eq_zero_of_lt (by omega) (by omega)]
      omega
    rw [e]
    cases h : (Builtin.bitNot x).toNat.testBit k
    · rw [h] at q
      simp at q ⊢
      omega
    · rw [h] at q
      simp at q ⊢
      omega
end Law
namespace Law
open PySem PyProof.Rows
/-! the folds -/
def folds : List Str := ["sum", "product", "least", "most", "both", "either", "odd", "chain", "capped"]
def frees : List Str := ["sum", "product", "least", "most", "both", "either", "odd"]
theorem free_fold {f : Str} (h : f ∈ frees) : f ∈ folds := by simp only [frees, folds, List.mem_cons, List.mem_nil_iff, or_false] at *; rcases h with h | h | h | h | h | h | h <;> simp [h]
def lower (a b : Int) : Int := if b < a then b else a
def higher (a b : Int) : Int := if a < b then b else a
def cap (n : Int) : Int := if 1000000000 < n then 1000000000 else if n < -1000000000 then -1000000000 else n
def joinN (f : Str) (a b : Int) : Int :=
  if f = "sum" then keptN (a + b) else if f = "product" then keptN (a * b) else if f = "least" then lower a b else if f = "most" then higher a b else if f = "both" then Builtin.bitAnd a b else
  if f = "either" then Builtin.bitOr a b else if f = "odd" then Builtin.bitXor a b else if f = "chain" then keptN (31 * a + b) else cap (a + b)
theorem joinN_kept {f : Str} {a b : Int} (ka : IsKept a) (kb : IsKept b) : IsKept (joinN f a b) := by
  unfold joinN
  repeat' split
  all_goals first | exact keptN_kept _ | exact and_kept ka kb | exact or_kept ka kb | exact xor_kept ka kb | (unfold lower; split <;> assumption) | (unfold higher; split <;> assumption) | (unfold cap IsKept; unfold IsKept at ka kb; repeat' split <;> omega)
end Law
namespace Law
open PySem T
@[simp] theorem flats_ints : ∀ ns : List Int, D.flats (ns.map D.int) = true
  | [] => rfl
  | n :: ns => by rw [List.map_cons, D.flats, flats_ints ns]; rfl
/-! pieces of lists, places in lists -/
theorem cutL_tail {α : Type} (x : α) (xs : List α) : cutL (x :: xs) (some 1) none = xs := by
  unfold cutL
  have e : HT.sIx (x :: xs).length 0 (some 1) = 1 := by
    have := HT.sIx_nat (x :: xs).length 0 1
    rw [show ((1 : Nat) : Int) = 1 from rfl] at this
    rw [this]; simp
  rw [e, HT.sIx_none]; simp
theorem cutL_to {α : Type} (xs : List α) (n : Nat) : cutL xs none (some (n : Int)) = xs.take n := by
  unfold cutL
  rw [HT.sIx_nat, HT.sIx_none, List.drop_zero, Nat.sub_zero, List.take_eq_take_iff]
  omega
theorem cutL_nat {α : Type} (xs : List α) (a b : Nat) (hb : b ≤ xs.length) (ha : a ≤ b) : cutL xs (some (a : Int)) (some (b : Int)) = (xs.drop a).take (b - a) := by
  unfold cutL
  rw [HT.sIx_nat, HT.sIx_nat, Nat.min_eq_left hb, Nat.min_eq_left (Nat.le_trans ha hb)]
theorem atI_map {α β : Type} {f : α → β} {xs : List α} {j : Nat} (h : j < xs.length) : L2.atI (xs.map f) (j : Int) = some (f xs[j]) := L2.atI_nat (by rw [List.getElem?_map, List.getElem?_eq_getElem h]; rfl)
/-! the free folds are commutative and associative -/
theorem keptN_congr {x y : Int} (h : (x - y) % 18446744073709551616 = 0) : keptN x = keptN y := by unfold keptN; omega
theorem keptN_off (x : Int) : ∃ t, keptN x = x - 18446744073709551616 * t := ⟨(x + 9223372036854775808) / 18446744073709551616, by unfold keptN; omega⟩
theorem joinN_comm {f : Str} (hf : f ∈ frees) (a b : Int) : joinN f a b = joinN f b a := by
  simp only [frees, List.mem_cons, List.mem_nil_iff, or_false] at hf
  rcases hf with rfl | rfl | rfl | rfl | rfl | rfl | rfl <;> simp (decide := true) [joinN]
  · rw [Int.add_comm]
  · rw [Int.mul_comm]
  · unfold lower; split <;> split <;> omega
  · unfold higher; split <;> split <;> omega
  · exact ibit_ext fun k => by rw [ibit_and, ibit_and, Bool.and_comm]
  · exact ibit_ext fun k => by rw [ibit_or, ibit_or, Bool.or_comm]
  · exact ibit_ext fun k => by rw [ibit_xor, ibit_xor, Bool.xor_comm]
theorem joinN_assoc {f : Str} (hf : f ∈ frees) (a b c : Int) : joinN f (joinN f a b) c = joinN f a (joinN f b c) := by
  simp only [frees, List.mem_cons, List.mem_nil_iff, or_false] at hf
  rcases hf with rfl | rfl | rfl | rfl | rfl | rfl | rfl <;> simp (decide := true) [joinN]
  · unfold keptN; omega
  · obtain ⟨s, hs⟩ := keptN_off (a * b)
    obtain ⟨t, ht⟩ := keptN_off (b * c)
    refine keptN_congr ?_
    rw [hs, ht]
    have : (a * b - 18446744073709551616 * s) * c - a * (b * c - 18446744073709551616 * t) = 18446744073709551616 * (a * t - s * c) := by
      rw [Int.sub_mul, Int.mul_sub, Int.mul_sub, Int.mul_assoc a b c, Int.mul_assoc 18446744073709551616 s c, Int.mul_left_comm a 18446744073709551616 t]; omega
    rw [this]; exact Int.mul_emod_right _ _
  · unfold lower; repeat' split
    all_goals omega
  · unfold higher; repeat' split
    all_goals omega
  · exact ibit_ext fun k => by rw [ibit_and, ibit_and, ibit_and, ibit_and, Bool.and_assoc]
  · exact ibit_ext fun k => by rw [ibit_or, ibit_or, ibit_or, ibit_or, Bool.or_assoc]
  · exact ibit_ext fun k => by rw [ibit_xor, ibit_xor, ibit_xor, ibit_xor, Bool.xor_assoc]
theorem joinN_right {f : Str} (hf : f ∈ frees) (z x y : Int) : joinN f (joinN f z x) y = joinN f (joinN f z y) x := by
  rw [joinN_assoc hf, joinN_assoc hf, joinN_comm hf x y]
def foldO (f : Str) : List Int → Option Int
  | [] => none
  | x :: r => some (r.foldl (joinN f) x)
theorem foldO_perm {f : Str} (hf : f ∈ frees) {xs ys : List Int} (p : xs.Perm ys) : foldO f xs = foldO f ys := by
  induction p with
  | nil => rfl
  | cons x p ih =>
    rename_i l1 l2
    show some _ = some _
    rw [List.Perm.foldl_eq' p (fun a _ b _ z => joinN_right hf z a b)]
  | swap x y l => show some _ = some _; rw [List.foldl_cons, List.foldl_cons, joinN_comm hf]
  | trans _ _ h1 h2 => exact h1.trans h2
theorem foldN_kept {f : Str} : ∀ {r : List Int} {x : Int}, IsKept x → (∀ n ∈ r, IsKept n) → IsKept (r.foldl (joinN f) x)
  | [], x, k, _ => k
  | y :: r, x, k, h => foldN_kept (r := r) (joinN_kept k (h y (List.mem_cons_self))) fun n m => h n (List.mem_cons_of_mem _ m)
end Law
namespace T
/-- a while loop: what holds at each turn, and where its fuel can't be used up -/
theorem loopW_E {t : M Bool} {b : Sm} {K : Fl × En → Prop} : ∀ (n : Nat) (P : Nat → En → Prop) {ρ0 : En} (_ : P 0 ρ0)
    (_ : ∀ (i : Nat) ρ, i < n → P i ρ → Ends (t ρ) fun p => if p.1 = true then Ends (b p.2) (LoopK P i K) else K (.next, p.2)) (_ : ∀ ρ, ¬ P n ρ), Ends (loopW t b n ρ0) K
  | 0, P, ρ0, h0, h, hd => (hd _ h0).elim
  | n + 1, P, ρ0, h0, h, hd => by
    obtain ⟨p, e1, h1⟩ := h 0 ρ0 (by omega) h0
    rw [loopW, e1, R.bind_ok]
    split at h1
    · rename_i c
      rw [if_pos c]
      obtain ⟨⟨f, ρ2⟩, e2, h2⟩ := h1
      rw [e2, R.bind_ok]
      have rec_ : P 1 ρ2 → Ends (loopW t b n ρ2) K := fun p => loopW_E n (fun i => P (i + 1)) p (fun i ρ hi p => (h (i + 1) ρ (by omega) p).mono fun q r => by
        split
        · rename_i c; rw [if_pos c] at r; exact r.mono fun q r => r
        · rename_i c; rw [if_neg c] at r; exact r) hd
      cases f with
      | next => exact rec_ h2
      | cont => exact rec_ h2
      | brk => exact ⟨_, rfl, h2⟩
      | ret r => exact ⟨_, rfl, h2⟩
    · rename_i c
      rw [if_neg c]
      exact ⟨_, rfl, h1⟩
end T
namespace Law
open PySem T
/-! a piece of a row joined -/
def seg (f : Str) (xs : List Int) (lo : Nat) : Nat → Int
  | 0 => xs.getD lo 0
  | n + 1 => joinN f (seg f xs lo n) (xs.getD (lo + n + 1) 0)
theorem seg_join {f : Str} (hf : f ∈ frees) (xs : List Int) (lo m : Nat) : ∀ n, joinN f (seg f xs lo m) (seg f xs (lo + m + 1) n) = seg f xs lo (m + n + 1)
  | 0 => rfl
  | n + 1 => by
    show joinN f (seg f xs lo m) (joinN f (seg f xs (lo + m + 1) n) (xs.getD (lo + m + 1 + n + 1) 0)) = joinN f (seg f xs lo (m + n + 1)) (xs.getD (lo + (m + n + 1) + 1) 0)
    rw [← joinN_assoc hf, seg_join hf xs lo m n, show lo + m + 1 + n + 1 = lo + (m + n + 1) + 1 by omega]
theorem getD_kept {xs : List Int} (h : ∀ n ∈ xs, IsKept n) (i : Nat) : IsKept (xs.getD i 0) := by
  rw [List.getD_eq_getElem?_getD]
  by_cases q : i < xs.length
  · rw [List.getElem?_eq_getElem q]; exact h _ (List.getElem_mem q)
  · rw [List.getElem?_eq_none (by omega)]; unfold IsKept; simp
theorem seg_kept {f : Str} {xs : List Int} (h : ∀ n ∈ xs, IsKept n) (lo : Nat) : ∀ n, IsKept (seg f xs lo n)
  | 0 => getD_kept h lo
  | n + 1 => joinN_kept (seg_kept h lo n) (getD_kept h _)
/-- runs where each is joined of at most a numbers -/
def runsN (f : Str) (xs : List Int) (a : Nat) : List Int := (List.range xs.length).map fun k => if k < a then seg f xs 0 k else seg f xs (k + 1 - a) (a - 1)
theorem runs_len (f : Str) (xs : List Int) (a : Nat) : (runsN f xs a).length = xs.length := by unfold runsN; simp
theorem runs_at {f : Str} {xs : List Int} {a k : Nat} (h : k < xs.length) : L2.atI ((runsN f xs a).map D.int) (k : Int) = some (.int (if k < a then seg f xs 0 k else seg f xs (k + 1 - a) (a - 1))) := by
  rw [atI_map (by rw [runs_len]; exact h)]; unfold runsN; simp
theorem runs_one (f : Str) (xs : List Int) : runsN f xs 1 = xs := by
  unfold runsN
  refine List.ext_getElem (by simp) fun i h1 h2 => ?_
  simp only [List.getElem_map, List.getElem_range]
  split
  · have : i = 0 := by omega
    subst this; rw [seg, List.getD_eq_getElem?_getD, List.getElem?_eq_getElem h2]; rfl
  · rw [show i + 1 - 1 = i by omega, show 1 - 1 = 0 by omega, seg, List.getD_eq_getElem?_getD, List.getElem?_eq_getElem h2]; rfl
theorem runs_step {f : Str} (hf : f ∈ frees) {xs : List Int} {a k : Nat} (ha : 1 ≤ a) (hk : a ≤ k) :
    joinN f (if k - a < a then seg f xs 0 (k - a) else seg f xs (k - a + 1 - a) (a - 1)) (if k < a then seg f xs 0 k else seg f xs (k + 1 - a) (a - 1)) = if k < a * 2 then seg f xs 0 k else seg f xs (k + 1 - a * 2) (a * 2 - 1) := by
  rw [if_neg (by omega : ¬ k < a)]
  by_cases h : k - a < a
  · rw [if_pos h, if_pos (by omega)]
    have := seg_join hf xs 0 (k - a) (a - 1)
    rw [show 0 + (k - a) + 1 = k + 1 - a by omega, show k - a + (a - 1) + 1 = k by omega] at this
    exact this
  · rw [if_neg h, if_neg (by omega)]
    have := seg_join hf xs (k - a + 1 - a) (a - 1) (a - 1)
    rw [show k - a + 1 - a + (a - 1) + 1 = k + 1 - a by omega, show a - 1 + (a - 1) + 1 = a * 2 - 1 by omega, show k - a + 1 - a = k + 1 - a * 2 by omega] at this
    rw [show k - a + 1 - a = k + 1 - a * 2 by omega]
    exact this
end Law
namespace Law
open PySem T
/-! texts as lists of signs -/
def S (l : List Nat) : Str := ⟨l.toArray⟩
theorem S_app (a b : List Nat) : S a ++ S b = S (a ++ b) := by
  show Str.mk (a.toArray ++ b.toArray) = Str.mk (a ++ b).toArray
  simp
@[simp] theorem S_len (l : List Nat) : (S l).length = l.length := by simp [S, Str.length]
theorem S_inj {a b : List Nat} : S a = S b ↔ a = b := by
  refine ⟨fun h => ?_, fun h => by rw [h]⟩
  have := congrArg (fun s : Str => s.cps.toList) h
  simpa [S] using this
theorem S_of (z : Str) : z = S z.cps.toList := by cases z; simp [S]
theorem S_one (c : Nat) : (⟨#[c]⟩ : Str) = S [c] := rfl
@[simp] theorem S_list (l : List Nat) : (S l).cps.toList = l := by simp [S]
theorem lit_empty : ("" : Str) = S [] := by decide +kernel
theorem lit_blank : (" " : Str) = S [32] := by decide +kernel
theorem lit_open : ("(" : Str) = S [40] := by decide +kernel
theorem lit_close : (")" : Str) = S [41] := by decide +kernel
def DS (l : List Nat) : D := .str (S l)
@[simp] theorem flats_DS : ∀ ws : List (List Nat), D.flats (ws.map DS) = true
  | [] => rfl
  | n :: ns => by rw [List.map_cons, D.flats, flats_DS ns]; rfl
/-! the words of a line -/
def Spec (c : Nat) : Prop := c = 32 ∨ c = 40 ∨ c = 41
instance (c : Nat) : Decidable (Spec c) := inferInstanceAs (Decidable (_ ∨ _))
def flush (w : List Nat) : List (List Nat) := if w = [] then [] else [w]
def wstep (q : List (List Nat) × List Nat) (c : Nat) : List (List Nat) × List Nat :=
  if Spec c then (q.1 ++ flush q.2 ++ (if c = 32 then [] else [[c]]), []) else (q.1, q.2 ++ [c])
def wfold (l : List Nat) : List (List Nat) × List Nat := l.foldl wstep ([], [])
def wordsN (l : List Nat) : List (List Nat) := (wfold l).1 ++ flush (wfold l).2
theorem wfold_app (a b : List Nat) : wfold (a ++ b) = b.foldl wstep (wfold a) := by unfold wfold; rw [List.foldl_append]
theorem flush_len (w : List Nat) : (flush w).length ≤ 1 := by unfold flush; split <;> simp
theorem wfold_len (l : List Nat) : ∀ i, ((wfold (l.take i)).1.length ≤ 2 * i) ∧ (wfold (l.take i)).2.length ≤ i
  | 0 => by simp [wfold]
  | i + 1 => by
    have ih := wfold_len l i
    by_cases h : i < l.length
    · rw [List.take_add_one, List.getElem?_eq_getElem h, Option.toList_some, wfold_app]
      show (wstep _ _).1.length ≤ _ ∧ (wstep _ _).2.length ≤ _
      have f := flush_len (wfold (l.take i)).2
      unfold wstep
      split
      · refine ⟨?_, by simp⟩
        have : ∀ c : Nat, (if c = 32 then [] else [[c]] : List (List Nat)).length ≤ 1 := fun c => by split <;> simp
        have := this l[i]
        simp only [List.length_append]
        omega
      · refine ⟨by simp only; omega, by simp only [List.length_append, List.length_singleton]; omega⟩
    · rw [List.take_of_length_le (by omega)]
      rw [List.take_of_length_le (by omega)] at ih
      omega
theorem wfold_signs {sg : List Nat} (h : ∀ c ∈ sg, ¬ Spec c) : ∀ q, sg.foldl wstep q = (q.1, q.2 ++ sg) := by
  induction sg with
  | nil => intro q; simp
  | cons c r ih =>
    intro q
    rw [List.foldl_cons, ih (fun c m => h c (List.mem_cons_of_mem _ m))]
    unfold wstep
    rw [if_neg (h c (List.mem_cons_self))]
    simp
theorem wfold_blanks (q : List (List Nat) × List Nat) : ∀ k, (List.replicate (k + 1) 32).foldl wstep q = (q.1 ++ flush q.2, [])
  | 0 => by simp [wstep, Spec]
  | k + 1 => by
    rw [List.replicate_succ', List.foldl_append, wfold_blanks q k]
    simp [wstep, Spec, flush]
end Law
namespace Law
open PySem U
/-! plain facts on stores -/
theorem at_push {Θ : Th} {c : Cell} : (Θ ++ [c])[Θ.length]? = some c := by rw [List.getElem?_append_right (Nat.le_refl _), Nat.sub_self]; rfl
theorem at_old {Θ J : Th} {n : Nat} (h : n < Θ.length) : (Θ ++ J)[n]? = Θ[n]? := List.getElem?_append_left h
theorem atA {xs : List Int} {j : Nat} (h : j < xs.length) : L2.atI (xs.map A.int) (j : Int) = some (.int xs[j]) := L2.atI_nat (by rw [List.getElem?_map, List.getElem?_eq_getElem h]; rfl)
theorem atL {α : Type} {xs : List α} {j : Nat} {a : α} (h : xs[j]? = some a) : L2.atI xs (j : Int) = some a := L2.atI_nat h
/-! small things that simp should know -/
@[simp] theorem gcM_def (m : Fn) (as : List A) (Θ : Th) : gcM m as Θ = tidyM Θ (m as Θ) := rfl
@[simp] theorem tidyM_same (Θ J : Th) (a : A) : tidyM Θ (.ok a (Θ ++ J)) = if a.bd Θ.length = true then .ok a Θ else .stuck := by unfold tidyM; simp
@[simp] theorem tidyM_self (Θ : Th) (a : A) : tidyM Θ (.ok a Θ) = if a.bd Θ.length = true then .ok a Θ else .stuck := by simpa using tidyM_same Θ [] a
@[simp] theorem tidyM_sameX (Θ J : Th) (c : Str) (fs : List (Str × A)) : tidyM Θ (.exc c fs (Θ ++ J)) = if A.bdf Θ.length fs = true then .exc c fs Θ else .stuck := by unfold tidyM; simp
@[simp] theorem tidyM_selfX (Θ : Th) (c : Str) (fs : List (Str × A)) : tidyM Θ (.exc c fs Θ) = if A.bdf Θ.length fs = true then .exc c fs Θ else .stuck := by simpa using tidyM_sameX Θ [] c fs
@[simp] theorem tidyM_stuck (Θ : Th) : tidyM Θ .stuck = .stuck := rfl
@[simp] theorem bds_ints (k : Nat) : ∀ xs : List Int, A.bds k (xs.map A.int) = true
  | [] => rfl
  | x :: xs => by simp [bds_ints k xs]
@[simp] theorem bds_strs (k : Nat) : ∀ xs : List Str, A.bds k (xs.map A.str) = true
  | [] => rfl
  | x :: xs => by simp [bds_strs k xs]
@[simp] theorem bds_app (k : Nat) : ∀ xs ys : List A, A.bds k (xs ++ ys) = (A.bds k xs && A.bds k ys)
  | [], ys => by simp
  | x :: xs, ys => by simp [bds_app k xs ys, Bool.and_assoc]
@[simp] theorem cutR_nil (k : Nat) (Θ' : Th) : cutR k [] Θ' = some [] := by unfold cutR; rfl
@[simp] theorem cutR_cons (k : Nat) (c d : Cell) (Θ Θ' : Th) : cutR k (c :: Θ) (d :: Θ') = if d = c ∨ d.bd k = true then (match cutR k Θ Θ' with | some r => some (d :: r) | none => none) else none := by
  by_cases h : d = c ∨ d.bd k = true
  · first | (rw [cutR]; done) | (rw [cutR]; exact (if_pos h).trans (if_pos h).symm)
  · first | (rw [cutR]; done) | (rw [cutR]; exact (if_neg h).trans (if_neg h).symm)
@[simp] theorem cut_nil (Θ' : Th) : cut [] Θ' = some [] := by unfold cut; simp
@[simp] theorem cut_cons (c d : Cell) (Θ Θ' : Th) : cut (c :: Θ) (d :: Θ') = cutR (Θ.length + 1) (c :: Θ) (d :: Θ') := rfl
@[simp] theorem fzOf_ok (Θ Θ' : Th) (n : Nat) : fzOf Θ (.ok (.loc n) Θ') = (match cut Θ Θ' with
    | some Θ2 => if Θ.length ≤ n then (match Θ'[n]? with
      | some (.lst xs) => if A.bds Θ.length xs = true then .ok (.fl xs) Θ2 else .stuck
      | some (.obj c fs) => if A.bdf Θ.length fs = true then .ok (.ob c fs) Θ2 else .stuck
      | _ => .stuck) else .stuck
    | none => .stuck) := rfl
@[simp] theorem lookup_hit {β : Type} (a : Str) (v : β) (l : List (Str × β)) : List.lookup a ((a, v) :: l) = some v := by simp [List.lookup]
@[simp] theorem lookup_miss {β : Type} {a b : Str} (h : a ≠ b) (v : β) (l : List (Str × β)) : List.lookup a ((b, v) :: l) = List.lookup a l := by
  have e : (a == b) = false := by simpa using h
  simp [List.lookup, e]
@[simp] theorem putA_nil (f : Str) (a : A) : putA f a [] = [(f, a)] := rfl
@[simp] theorem putA_cons (f g : Str) (a x : A) (r : List (Str × A)) : putA f a ((g, x) :: r) = if g = f then (g, a) :: r else (g, x) :: putA f a r := rfl
@[simp] theorem fzOf_fl (Θ Θ' : Th) (xs : List A) : fzOf Θ (.ok (.fl xs) Θ') = (match cut Θ Θ' with
    | some Θ2 => if (A.fl xs).bd Θ.length = true then .ok (.fl xs) Θ2 else .stuck
    | none => .stuck) := rfl
@[simp] theorem fzOf_tup (Θ Θ' : Th) (xs : List A) : fzOf Θ (.ok (.tup xs) Θ') = (match cut Θ Θ' with
    | some Θ2 => if (A.tup xs).bd Θ.length = true then .ok (.tup xs) Θ2 else .stuck
    | none => .stuck) := rfl
@[simp] theorem fzOf_ob (Θ Θ' : Th) (c : Str) (fs : List (Str × A)) : fzOf Θ (.ok (.ob c fs) Θ') = (match cut Θ Θ' with
    | some Θ2 => if (A.ob c fs).bd Θ.length = true then .ok (.ob c fs) Θ2 else .stuck
    | none => .stuck) := rfl
theorem EndsS_gc {vs : List Nat} {Θ : Th} {x : RS} {P : Fl → Rho → Th → Prop} {X : Str → List (Str × A) → Rho → Th → Prop} (h : EndsS x (fun f ρ Θ' => EndsS (gcTurn vs Θ (.ok f ρ Θ')) P X) X) : EndsS (gcTurn vs Θ x) P X := by
  cases x with
  | ok f ρ Θ' => exact h
  | exc c fs ρ Θ' => exact h
  | stuck => exact h
@[simp] theorem fzV_ok (i : Nat) (Θ Θ' : Th) (ρ : Rho) : fzV i Θ (.ok .next ρ Θ') = (match ρ[i]? with
    | some (some (.loc n)) => (match cut Θ Θ' with
      | some Θ2 => if Θ.length ≤ n ∧ rhoBd Θ.length (ρ.set i none) = true then (match Θ'[n]? with
        | some (.lst xs) => if A.bds Θ.length xs = true then .ok .next (ρ.set i (some (.fl xs))) Θ2 else .stuck
        | _ => .stuck) else .stuck
      | none => .stuck)
    | _ => .stuck) := rfl
@[simp] theorem cut_app1 (A J : Th) (x : Cell) : cut (A ++ [x]) (A ++ x :: J) = some (A ++ [x]) := by
  have := cut_app (A ++ [x]) J; rwa [List.append_assoc] at this
@[simp] theorem cut_app2 (A J : Th) (x y : Cell) : cut (A ++ [x, y]) (A ++ x :: y :: J) = some (A ++ [x, y]) := by
  have := cut_app (A ++ [x, y]) J; rwa [List.append_assoc] at this
@[simp] theorem cut_app3 (A J : Th) (x y z : Cell) : cut (A ++ [x, y, z]) (A ++ x :: y :: z :: J) = some (A ++ [x, y, z]) := by
  have := cut_app (A ++ [x, y, z]) J; rwa [List.append_assoc] at this
@[simp] theorem cut_app4 (A J : Th) (x y z w : Cell) : cut (A ++ [x, y, z, w]) (A ++ x :: y :: z :: w :: J) = some (A ++ [x, y, z, w]) := by
  have := cut_app (A ++ [x, y, z, w]) J; rwa [List.append_assoc] at this
/-- a method's call, the receiver at hand -/
def mthS (tab : Str → Option Fn) (name : Str) (p : A) (ms : Th → R (List A)) (Θ : Th) : R A := match objOf Θ p with
  | some (c, fs) => (match tab c with
    | some m => if (fs.lookup name).isNone = true then (ms Θ).bind fun as Θ2 => m (p :: as) Θ2 else .stuck
    | none => .stuck)
  | none => .stuck
@[simp] theorem eMth_eq (tab : Str → Option Fn) (name : Str) (o : M A) (ms : M (List A)) (ρ : Rho) (Θ : Th) : eMth tab name o ms ρ Θ = (o ρ Θ).bind fun p Θ1 => mthS tab name p (ms ρ) Θ1 := rfl
@[simp] theorem mthS_ob (tab : Str → Option Fn) (name c : Str) (fs : List (Str × A)) (ms : Th → R (List A)) (Θ : Th) : mthS tab name (.ob c fs) ms Θ = (match tab c with
    | some m => if (fs.lookup name).isNone = true then (ms Θ).bind fun as Θ2 => m (.ob c fs :: as) Θ2 else .stuck
    | none => .stuck) := rfl
@[simp] theorem mthS_loc (tab : Str → Option Fn) (name : Str) (n : Nat) (ms : Th → R (List A)) (Θ : Th) : mthS tab name (.loc n) ms Θ = (match objOf Θ (.loc n) with
    | some (c, fs) => (match tab c with
      | some m => if (fs.lookup name).isNone = true then (ms Θ).bind fun as Θ2 => m (.loc n :: as) Θ2 else .stuck
      | none => .stuck)
    | none => .stuck) := rfl
/-! == of data -/
theorem dEq_data {a b : A} {Θ : Th} {x y : PyData} (ha : toP Θ 9 a = some x) (hb : toP Θ 9 b = some y) (sx : SeqAt.shaped x = true) (sy : SeqAt.shaped y = true) : dEq a b Θ = .ok (.bl (PyData.eqv x y)) Θ := by
  unfold dEq
  split
  · rename_i i j
    cases ha; cases hb
    rfl
  · rename_i i j
    cases ha; cases hb
    show R.ok (A.bl (decide (i = j))) Θ = R.ok (A.bl (i == j)) Θ
    by_cases h : i = j <;> simp [h]
  · rename_i i j
    cases ha; cases hb
    rfl
  · rw [ha, hb]; dsimp only; rw [if_pos ⟨sx, sy⟩]
theorem mapO_ints (Θ : Th) (k : Nat) : ∀ ns : List Int, mapO (toP Θ (k + 1)) (ns.map A.int) = some (ns.map PyData.int)
  | [] => rfl
  | n :: ns => by rw [List.map_cons, mapO, mapO_ints Θ k ns]; rfl
theorem toP_ints {a : A} {Θ : Th} {ns : List Int} (h : lstOf Θ a = some (ns.map A.int)) : toP Θ 9 a = some (.list (ns.map PyData.int)) := by
  cases a with
  | fl xs => cases h; show (mapO (toP Θ 8) (ns.map A.int)).map PyData.list = _; rw [mapO_ints]; rfl
  | scr ms =>
    cases q : ms with
    | nil => subst q; cases ns with
      | nil => rfl
      | cons n ns => cases h
    | cons m ms' =>
      rw [q] at h
      have h' : (m :: ms').map A.int = ns.map A.int := Option.some.inj h
      have inj : ∀ {xs ys : List Int}, xs.map A.int = ys.map A.int → xs = ys := fun {xs} => by
        induction xs with
        | nil => intro ys h; cases ys with
          | nil => rfl
          | cons y ys => cases h
        | cons x xs ih => intro ys h; cases ys with
          | nil => cases h
          | cons y ys => rw [List.map_cons, List.map_cons] at h; injection h with h1 h2; injection h1 with h1; rw [h1, ih h2]
      rw [inj h']; rfl
  | loc n =>
    unfold lstOf at h
    unfold toP
    dsimp only at h ⊢
    split at h
    · rename_i xs q
      cases h
      try rw [q]
      try dsimp only
      rw [mapO_ints]; rfl
    · cases h
  | _ => cases h
theorem dEq_ints {a b : A} {Θ : Th} {ns ms : List Int} (ha : lstOf Θ a = some (ns.map A.int)) (hb : lstOf Θ b = some (ms.map A.int)) : dEq a b Θ = .ok (.bl (decide (ns = ms))) Θ := by
  rw [dEq_data (toP_ints ha) (toP_ints hb) (T.shaped_ints _) (T.shaped_ints _), PyData.eqv, T.eqv_ints]
@[simp] theorem dEq_fl_ints (ns ms : List Int) (Θ : Th) : dEq (.fl (ns.map A.int)) (.fl (ms.map A.int)) Θ = .ok (.bl (decide (ns = ms))) Θ := dEq_ints rfl rfl
@[simp] theorem dEq_fl2 (a b c d : Int) (Θ : Th) : dEq (.fl [.int a, .int b]) (.fl [.int c, .int d]) Θ = .ok (.bl (decide (a = c ∧ b = d))) Θ := by
  have := dEq_fl_ints [a, b] [c, d] Θ
  simpa using this
theorem strOk_of {x : Str} (h : PyData.strOk x = true) : SeqAt.shaped (.str x) = true := by unfold SeqAt.shaped; rw [PyData.canLay0, h]; rfl
theorem dEq_tupSI {s t : Str} (hs : PyData.strOk s = true) (ht : PyData.strOk t = true) (i j : Int) (Θ : Th) : dEq (.tup [.str s, .int i]) (.tup [.str t, .int j]) Θ = .ok (.bl (decide (s = t ∧ i = j))) Θ := by
  rw [dEq_data (x := .tuple [.str s, .int i]) (y := .tuple [.str t, .int j]) rfl rfl (by unfold SeqAt.shaped; simp [PyData.canLay0, PyData.canLayAll0, hs, PyData.depth, PyData.depthAll]) (by unfold SeqAt.shaped; simp [PyData.canLay0, PyData.canLayAll0, ht, PyData.depth, PyData.depthAll])]
  by_cases h : s = t <;> by_cases h2 : i = j <;> simp [PyData.eqv, PyData.eqvAll, h, h2]
/-! a list comprehension whose elements leave the store as it is -/
theorem lc_pure {bt : Bt} {m : M A} {s : Src} {n0 : Nat} {ρ : Rho} {Θ0 : Th} (hs : ∀ ys, s.now (Θ0 ++ [.lst ys])) (hn : n0 = Θ0.length) : ∀ {ds acc : List A} (f : A → A), acc.length + ds.length ≤ 16777216 →
    (∀ d ∈ ds, ∀ Θ : Th, (∃ ys, Θ = Θ0 ++ [.lst ys]) → ∃ ρ1, bt d ρ = some ρ1 ∧ m ρ1 Θ = .ok (f d) Θ) →
    lcLoop bt tYesM m s n0 ρ ds acc (Θ0 ++ [.lst acc]) = .ok (.loc n0) (Θ0 ++ [.lst (acc ++ ds.map f)])
  | [], acc, f, hl, h => by
    have nw : s.now (Θ0 ++ [.lst acc]) := hs acc
    unfold lcLoop
    rw [if_pos ⟨nw, by rw [hn]; exact at_push⟩]
    simp
  | d :: ds, acc, f, hl, h => by
    have nw : s.now (Θ0 ++ [.lst acc]) := hs acc
    obtain ⟨ρ1, e1, e2⟩ := h d List.mem_cons_self (Θ0 ++ [.lst acc]) ⟨acc, rfl⟩
    have ih := lc_pure hs hn (ds := ds) (acc := acc ++ [f d]) f (by simp at hl ⊢; omega) fun x hx => h x (List.mem_cons_of_mem _ hx)
    unfold lcLoop
    rw [if_pos nw, e1]
    show R.bindN (.ok true (Θ0 ++ [.lst acc])) _ = _
    rw [R.bindN_ok, if_pos rfl, e2, R.bindN_ok]
    have at_ : (Θ0 ++ [Cell.lst acc])[n0]? = some (.lst acc) := by rw [hn]; exact at_push
    rw [if_pos ⟨by simp at hl; omega, at_⟩]
    have st : (Θ0 ++ [Cell.lst acc]).set n0 (.lst (acc ++ [f d])) = Θ0 ++ [.lst (acc ++ [f d])] := by rw [hn, List.set_append_right _ _ (Nat.le_refl _), Nat.sub_self]; rfl
    rw [st, ih]
    simp
/-- over a range from 0, whole numbers told -/
theorem lc_rng {bt : Bt} {m : M A} {xs : List A} {n0 : Nat} {ρ : Rho} {Θ0 : Th} {N : Int} (g : Nat → Int) (hn : n0 = Θ0.length) (hN : N.toNat ≤ 16777216)
    (h : ∀ i : Nat, i < N.toNat → ∀ Θ : Th, ∃ ρ1, bt (.int (i : Int)) ρ = some ρ1 ∧ m ρ1 Θ = .ok (.int (g i)) Θ) :
    lcLoop bt tYesM m ⟨xs, none⟩ n0 ρ (rng 0 N) [] (Θ0 ++ [.lst []]) = .ok (.loc n0) (Θ0 ++ [.lst (((List.range N.toNat).map g).map A.int)]) := by
  have e : rng 0 N = (List.range N.toNat).map fun (k : Nat) => A.int (k : Int) := by unfold rng; simp
  have key := lc_pure (bt := bt) (m := m) (s := ⟨xs, none⟩) (n0 := n0) (ρ := ρ) (Θ0 := Θ0) (fun _ => True.intro) hn (ds := rng 0 N) (acc := []) (fun d => match d with | .int k => .int (g k.toNat) | d => d) (by rw [e]; simpa using hN) fun d hd Θ _ => by
    rw [e] at hd
    obtain ⟨k, hk, rfl⟩ := List.mem_map.mp hd
    have := h k (List.mem_range.mp hk) Θ
    simpa using this
  rw [key, e]
  simp
theorem atI_last {α : Type} {xs : List α} (h : 0 < xs.length) : L2.atI xs (-1) = some (xs[xs.length - 1]'(by omega)) := by
  unfold L2.atI L2.ixN
  rw [if_neg (by decide), if_pos (by omega)]
  show xs[(-1 + (xs.length : Int)).toNat]? = _
  have : (-1 + (xs.length : Int)).toNat = xs.length - 1 := by omega
  rw [this, List.getElem?_eq_getElem]
theorem cut_last {Θ : Th} {c d : Cell} (J : Th) (h : d.bd (Θ.length + 1) = true) : cut (Θ ++ [c]) (Θ ++ d :: J) = some (Θ ++ [d]) := by
  have e : Θ ++ d :: J = (Θ ++ [d]) ++ J := by simp
  rw [e]
  refine cut_set (by simp) fun i x hx => ?_
  rw [List.getElem?_append] at hx
  split at hx
  · rename_i hi
    exact .inl (by rw [List.getElem?_append_left hi]; exact hx)
  · rename_i hi
    rw [List.getElem?_singleton] at hx
    split at hx
    · cases hx; exact .inr (by simpa using h)
    · cases hx
theorem cut_last0 {Θ : Th} {c d : Cell} (h : d.bd (Θ.length + 1) = true) : cut (Θ ++ [c]) (Θ ++ [d]) = some (Θ ++ [d]) := cut_last [] h
theorem Ends.ex {α : Type} {x : R α} {a : α} (h : U.Ends x (fun b _ => b = a) fun _ _ _ => False) : ∃ Θ, x = .ok a Θ := by
  cases x with
  | ok b Θ' => cases h; exact ⟨Θ', rfl⟩
  | exc c fs Θ' => exact h.elim
  | stuck => exact h.elim
theorem dLen_seq {a : A} {xs : List A} {Θ : Th} (h : seqOf Θ a = some xs) : dLen [a] Θ = .ok (.int xs.length) Θ := by
  have key : ∀ b : A, (∀ z, b ≠ .str z) → dLen [b] Θ = (match seqOf Θ b with | some xs => .ok (.int xs.length) Θ | none => .stuck) := by
    intro b hb
    cases b <;> first | rfl | exact (hb _ rfl).elim
  rw [key a (by rintro z rfl; cases h), h]
end Law
namespace Law
open PySem U
/-- a comprehension over whole numbers that tells whole numbers -/
theorem lc_ints {bt : Bt} {m : M A} {s : Src} {n0 : Nat} {ρ : Rho} {Θ0 : Th} {xs : List Int} (g : Int → Int) (hs : ∀ ys, s.now (Θ0 ++ [.lst ys])) (hn : n0 = Θ0.length) (hl : xs.length ≤ 16777216)
    (h : ∀ x ∈ xs, ∀ Θ : Th, ∃ ρ1, bt (.int x) ρ = some ρ1 ∧ m ρ1 Θ = .ok (.int (g x)) Θ) :
    lcLoop bt tYesM m s n0 ρ (xs.map A.int) [] (Θ0 ++ [.lst []]) = .ok (.loc n0) (Θ0 ++ [.lst ((xs.map g).map A.int)]) := by
  have key := lc_pure (bt := bt) (m := m) (s := s) (n0 := n0) (ρ := ρ) (Θ0 := Θ0) hs hn (ds := xs.map A.int) (acc := []) (fun d => match d with | .int k => .int (g k) | d => d) (by simpa using hl) fun d hd Θ _ => by
    obtain ⟨k, hk, rfl⟩ := List.mem_map.mp hd
    exact h k hk Θ
  rw [key]
  simp
theorem ixN_nat {n j : Nat} (h : j < n) : L2.ixN n (j : Int) = some j := by
  unfold L2.ixN
  rw [if_pos (by omega), if_pos (by omega)]
  simp
theorem map_erase {α β : Type} (f : α → β) : ∀ (l : List α) (i : Nat), (l.map f).eraseIdx i = (l.eraseIdx i).map f
  | [], _ => rfl
  | x :: l, 0 => rfl
  | x :: l, i + 1 => by rw [List.map_cons, List.eraseIdx_cons_succ, List.eraseIdx_cons_succ, List.map_cons, map_erase f l i]
theorem erase_perm {α : Type} : ∀ (l : List α) (i : Nat) (h : i < l.length), (l[i] :: l.eraseIdx i).Perm l
  | x :: l, 0, h => List.Perm.refl _
  | x :: l, i + 1, h => by
    have := erase_perm l i (by simpa using h)
    rw [List.eraseIdx_cons_succ]
    exact (List.Perm.swap x _ _).trans (List.Perm.cons x this)
/-- a part of a rest -/
theorem mod_nat (a : Int) {n : Nat} (h : 0 < n) : ∃ j : Nat, a % (n : Int) = (j : Int) ∧ j < n := by
  have h1 := Int.emod_nonneg a (show (n : Int) ≠ 0 by omega)
  have h2 := Int.emod_lt_of_pos a (show (0 : Int) < (n : Int) by omega)
  exact ⟨(a % (n : Int)).toNat, by omega, by omega⟩
/-- a run's answer, by what it ends with -/
theorem Ends.get {α : Type} {x : R α} {P : α → Th → Prop} (h : U.Ends x P fun _ _ _ => False) : ∃ a Θ, x = .ok a Θ ∧ P a Θ := by
  cases x with
  | ok b Θ' => exact ⟨b, Θ', rfl, h⟩
  | exc c fs Θ' => exact h.elim
  | stuck => exact h.elim
theorem cut_setJ {Θ J : Th} {n : Nat} {c : Cell} (h : c.bd Θ.length = true) : cut Θ (Θ.set n c ++ J) = some (Θ.set n c) :=
  cut_set (by simp) fun i d e => by
    rw [List.getElem?_set] at e
    split at e
    · split at e
      · cases e; exact .inr h
      · cases e
    · exact .inl e
/-- a comprehension whose elements are a new cell each -/
theorem lc_cellsS {bt : Bt} {m : M A} {xs : List A} {n0 : Nat} {ρ : Rho} {Θ0 : Th} (g : A → Cell) (hn : n0 = Θ0.length) : ∀ {ds acc : List A} {J : Th}, acc.length + ds.length ≤ 16777216 →
    (∀ d ∈ ds, ∀ acc J, ∃ ρ1, bt d ρ = some ρ1 ∧ m ρ1 (Θ0 ++ .lst acc :: J) = .ok (.loc (Θ0 ++ .lst acc :: J).length) (Θ0 ++ .lst acc :: J ++ [g d])) →
    lcLoop bt tYesM m ⟨xs, none⟩ n0 ρ ds acc (Θ0 ++ .lst acc :: J) = .ok (.loc n0) (Θ0 ++ .lst (acc ++ (List.range ds.length).map fun i => A.loc (n0 + 1 + J.length + i)) :: (J ++ ds.map g))
  | [], acc, J, hl, h => by
    unfold lcLoop
    rw [if_pos ⟨True.intro, by rw [hn, List.getElem?_append_right (Nat.le_refl _), Nat.sub_self]; rfl⟩]
    simp
  | d :: ds, acc, J, hl, h => by
    obtain ⟨ρ1, e1, e2⟩ := h d List.mem_cons_self acc J
    have ih := lc_cellsS (bt := bt) (m := m) (xs := xs) (n0 := n0) (ρ := ρ) (Θ0 := Θ0) g hn (ds := ds) (acc := acc ++ [.loc (n0 + 1 + J.length)]) (J := J ++ [g d]) (by simp at hl ⊢; omega) fun x hx => h x (List.mem_cons_of_mem _ hx)
    have hlen : (Θ0 ++ Cell.lst acc :: J).length = n0 + 1 + J.length := by rw [hn]; simp; omega
    unfold lcLoop
    rw [if_pos (show Src.now ⟨xs, none⟩ _ from True.intro), e1]
    show R.bindN (.ok true (Θ0 ++ .lst acc :: J)) _ = _
    rw [R.bindN_ok, if_pos rfl, e2, R.bindN_ok, hlen]
    have as_ : (Θ0 ++ Cell.lst acc :: J) ++ [g d] = Θ0 ++ Cell.lst acc :: (J ++ [g d]) := by simp
    have at_ : (Θ0 ++ Cell.lst acc :: (J ++ [g d]))[n0]? = some (.lst acc) := by rw [hn, List.getElem?_append_right (Nat.le_refl _), Nat.sub_self]; rfl
    rw [as_, if_pos ⟨by simp at hl; omega, at_⟩]
    have st : (Θ0 ++ Cell.lst acc :: (J ++ [g d])).set n0 (.lst (acc ++ [.loc (n0 + 1 + J.length)])) = Θ0 ++ .lst (acc ++ [.loc (n0 + 1 + J.length)]) :: (J ++ [g d]) := by rw [hn, List.set_append_right _ _ (Nat.le_refl _), Nat.sub_self]; rfl
    rw [st, ih]
    have r1 : acc ++ [A.loc (n0 + 1 + J.length)] ++ List.map (fun i => A.loc (n0 + 1 + (J ++ [g d]).length + i)) (List.range ds.length) = acc ++ List.map (fun i => A.loc (n0 + 1 + J.length + i)) (List.range (d :: ds).length) := by
      rw [List.append_assoc, List.length_cons, List.range_succ_eq_map, List.map_cons, List.map_map, List.singleton_append]
      congr 2
      refine List.map_congr_left fun i _ => ?_
      simp
      omega
    have r2 : J ++ [g d] ++ ds.map g = J ++ (d :: ds).map g := by simp
    rw [r1, r2]
theorem lc_cells {bt : Bt} {m : M A} {xs : List A} {n0 : Nat} {ρ : Rho} {Θ0 : Th} (g : A → Cell) (hn : n0 = Θ0.length) {ds acc : List A} {J : Th} (hl : acc.length + ds.length ≤ 16777216)
    (h : ∀ d ∈ ds, ∀ Θ : Th, ∃ ρ1, bt d ρ = some ρ1 ∧ m ρ1 Θ = .ok (.loc Θ.length) (Θ ++ [g d])) :
    lcLoop bt tYesM m ⟨xs, none⟩ n0 ρ ds acc (Θ0 ++ .lst acc :: J) = .ok (.loc n0) (Θ0 ++ .lst (acc ++ (List.range ds.length).map fun i => A.loc (n0 + 1 + J.length + i)) :: (J ++ ds.map g)) :=
  lc_cellsS g hn hl fun d hd acc J => h d hd _
theorem popAt_eq {Θ : Th} {xs : List A} {j : Nat} {a : A} (h : xs[j]? = some a) (hl : xs.length ≤ 16777216) : fPopAt Θ xs [.int (j : Int)] = some (a, xs.eraseIdx j) := by
  have hj : j < xs.length := (List.getElem?_eq_some_iff.mp h).1
  unfold fPopAt
  dsimp only
  rw [if_pos ⟨by omega, by omega, by omega⟩, Int.toNat_natCast, h]
section
open T (cutL)
theorem cutL_map {α β : Type} (g : α → β) (xs : List α) (lo hi : Option Int) : cutL (xs.map g) lo hi = (cutL xs lo hi).map g := by
  unfold cutL; simp [List.map_drop, List.map_take]
theorem cutL_len {α : Type} (xs : List α) (lo hi : Option Int) : (cutL xs lo hi).length ≤ xs.length := by
  unfold cutL; simp; omega
end
theorem at_zero {α : Type} (x : α) (r : List α) : L2.atI (x :: r) 0 = some x := L2.atI_nat (j := 0) (by simp)
/-- over a range from 0, whole numbers told, the store is known -/
theorem lc_rngS {bt : Bt} {m : M A} {xs : List A} {n0 : Nat} {ρ : Rho} {Θ0 : Th} {N : Int} (g : Nat → Int) (hn : n0 = Θ0.length) (hN : N.toNat ≤ 16777216)
    (h : ∀ i : Nat, i < N.toNat → ∀ ys, ∃ ρ1, bt (.int (i : Int)) ρ = some ρ1 ∧ m ρ1 (Θ0 ++ [.lst ys]) = .ok (.int (g i)) (Θ0 ++ [.lst ys])) :
    lcLoop bt tYesM m ⟨xs, none⟩ n0 ρ (rng 0 N) [] (Θ0 ++ [.lst []]) = .ok (.loc n0) (Θ0 ++ [.lst (((List.range N.toNat).map g).map A.int)]) := by
  have e : rng 0 N = (List.range N.toNat).map fun (k : Nat) => A.int (k : Int) := by unfold rng; simp
  have key := lc_pure (bt := bt) (m := m) (s := ⟨xs, none⟩) (n0 := n0) (ρ := ρ) (Θ0 := Θ0) (fun _ => True.intro) hn (ds := rng 0 N) (acc := []) (fun d => match d with | .int k => .int (g k.toNat) | d => d) (by rw [e]; simpa using hN) fun d hd Θ ⟨ys, hy⟩ => by
    rw [e] at hd
    subst hy
    obtain ⟨k, hk, rfl⟩ := List.mem_map.mp hd
    have := h k (List.mem_range.mp hk) ys
    simpa using this
  rw [key, e]
  simp
theorem range_getD (D : List Int) : (List.range D.length).map (fun i => D.getD i 0) = D := by
  refine List.ext_getElem (by simp) fun i h1 h2 => ?_
  simp [List.getD_eq_getElem?_getD, List.getElem?_eq_getElem h2]
/-- all cells of a later store hold nothing new -/
theorem cut_all {Θ Θ' : Th} (hl : Θ'.length = Θ.length) (h : Θ'.all (fun c => c.bd Θ.length) = true) : cut Θ Θ' = some Θ' :=
  cut_set0 hl fun i c e => .inr (List.all_eq_true.mp h c (List.mem_of_getElem? e))
/-! one statement behind the other -/
theorem seq_of {a b : Sm} {ρ ρ1 : Rho} {Θ Θ1 : Th} (h : a ρ Θ = .ok .next ρ1 Θ1) : sSeq a b ρ Θ = b ρ1 Θ1 := by
  show (a ρ Θ).then _ = _
  rw [h]; rfl
theorem seq_set {i : Nat} {m : M A} {b : Sm} {ρ : Rho} {Θ Θ1 : Th} {a : A} (h : m ρ Θ = .ok a Θ1) (hi : i < ρ.length) : sSeq (sSet i m) b ρ Θ = b (ρ.set i (some a)) Θ1 := by
  refine seq_of ?_
  show (m ρ Θ).bindS ρ _ = _
  rw [h]
  show (if i < ρ.length then _ else _) = _
  rw [if_pos hi]
theorem if_yes {t : M Bool} {a b : Sm} {ρ : Rho} {Θ Θ1 : Th} (h : t ρ Θ = .ok true Θ1) : sIf t a b ρ Θ = a ρ Θ1 := by
  show (t ρ Θ).bindS ρ _ = _
  rw [h]; rfl
theorem if_no {t : M Bool} {a b : Sm} {ρ : Rho} {Θ Θ1 : Th} (h : t ρ Θ = .ok false Θ1) : sIf t a b ρ Θ = b ρ Θ1 := by
  show (t ρ Θ).bindS ρ _ = _
  rw [h]; rfl
theorem seq_yes {t : M Bool} {a b c : Sm} {ρ ρ1 : Rho} {Θ Θ1 Θ2 : Th} (h : t ρ Θ = .ok true Θ1) (ha : a ρ Θ1 = .ok .next ρ1 Θ2) : sSeq (sIf t a b) c ρ Θ = c ρ1 Θ2 := seq_of ((if_yes h).trans ha)
theorem seq_no {t : M Bool} {a c : Sm} {ρ : Rho} {Θ Θ1 : Th} (h : t ρ Θ = .ok false Θ1) : sSeq (sIf t a sNil) c ρ Θ = c ρ Θ1 := seq_of ((if_no h).trans rfl)
theorem seq_ret {t : M Bool} {m : M A} {b c : Sm} {ρ : Rho} {Θ Θ1 Θ2 : Th} {a : A} (h : t ρ Θ = .ok true Θ1) (hm : m ρ Θ1 = .ok a Θ2) : sSeq (sIf t (sRet m) b) c ρ Θ = .ok (.ret a) ρ Θ2 := by
  show ((sIf t (sRet m) b) ρ Θ).then _ = _
  rw [if_yes h]
  show ((m ρ Θ1).bindS ρ _).then _ = _
  rw [hm]; rfl
theorem set_at {i : Nat} {m : M A} {ρ : Rho} {Θ Θ1 : Th} {a : A} (h : m ρ Θ = .ok a Θ1) (hi : i < ρ.length) : sSet i m ρ Θ = .ok .next (ρ.set i (some a)) Θ1 := by
  show (m ρ Θ).bindS ρ _ = _
  rw [h]
  show (if i < ρ.length then _ else _) = _
  rw [if_pos hi]
theorem ret_at {m : M A} {ρ : Rho} {Θ Θ1 : Th} {a : A} (h : m ρ Θ = .ok a Θ1) : sRet m ρ Θ = .ok (.ret a) ρ Θ1 := by
  show (m ρ Θ).bindS ρ _ = _
  rw [h]; rfl
theorem EndsS_set {i : Nat} {m : M A} {b : Sm} {ρ : Rho} {Θ Θ1 : Th} {a : A} {P : Fl → Rho → Th → Prop} {X : Str → List (Str × A) → Rho → Th → Prop} (h : m ρ Θ = .ok a Θ1) (hi : i < ρ.length) (k : EndsS (b (ρ.set i (some a)) Θ1) P X) : EndsS (sSeq (sSet i m) b ρ Θ) P X := by
  rw [seq_set h hi]; exact k
theorem dEq_same {a b : A} {Θ : Th} {x : PyData} (ha : toP Θ 9 a = some x) (hb : toP Θ 9 b = some x) (sx : SeqAt.shaped x = true) : dEq a b Θ = .ok (.bl true) Θ := by
  rw [dEq_data ha hb sx sx, SeqAt.eqv_refl x (SeqAt.canLay_of_shaped sx)]
theorem shaped_ll (xs ys : List Int) : SeqAt.shaped (.list [.list (xs.map PyData.int), .list (ys.map PyData.int)]) = true := by
  unfold SeqAt.shaped
  rw [PyData.canLay0, PyData.canLayAll0, PyData.canLayAll0, PyData.canLayAll0, PyData.canLay0, PyData.canLay0, T.lay_ints, T.lay_ints]
  simp [PyData.depth, PyData.depthAll, T.depth_ints]
theorem toP_intsK {a : A} {Θ : Th} {ns : List Int} (k : Nat) (h : lstOf Θ a = some (ns.map A.int)) : toP Θ (k + 2) a = some (.list (ns.map PyData.int)) := by
  cases a with
  | fl xs => cases h; show (mapO (toP Θ (k + 1)) (ns.map A.int)).map PyData.list = _; rw [mapO_ints]; rfl
  | scr ms =>
    have e := toP_ints h
    exact e
  | loc n =>
    unfold lstOf at h
    unfold toP
    dsimp only at h ⊢
    split at h
    · rename_i xs q
      cases h
      try rw [q]
      try dsimp only
      rw [mapO_ints]; rfl
    · cases h
  | _ => cases h
end Law
namespace Law
open PySem U
/-! forms as a tree, what they are worth -/
inductive Form where
  | num (n : Int) | here | cell (row : Nat) | shf (row : Nat) (by_ other : Int) | loc (at_ : Nat)
  | gat (row : Nat) (place : Form) | pair (s : Str) (l r : Form) | cho (t l r : Form) | call (at_ : Nat) (hs : List Form)
mutual
def enc : Form → A
  | .num n => .ob "Number" [("number", .int n)]
  | .here => .ob "Here" []
  | .cell r => .ob "Cell" [("row", .int (r : Int))]
  | .shf r b o => .ob "Shifted" [("row", .int (r : Int)), ("by", .int b), ("other", .int o)]
  | .loc i => .ob "Local" [("at", .int (i : Int))]
  | .gat r p => .ob "At" [("row", .int (r : Int)), ("place", enc p)]
  | .pair s l r => .ob "Pair" [("sign", .str s), ("left", enc l), ("right", enc r)]
  | .cho t l r => .ob "Choice" [("test", enc t), ("left", enc l), ("right", enc r)]
  | .call i hs => .ob "Call" [("at", .int (i : Int)), ("handed", .fl (encs hs))]
def encs : List Form → List A
  | [] => []
  | f :: fs => enc f :: encs fs
end
mutual
@[simp] theorem enc_bd (k : Nat) : ∀ f : Form, (enc f).bd k = true
  | .num n => rfl
  | .here => rfl
  | .cell r => rfl
  | .shf r b o => rfl
  | .loc i => rfl
  | .gat r p => by simp [enc, enc_bd k p]
  | .pair s l r => by simp [enc, enc_bd k l, enc_bd k r]
  | .cho t l r => by simp [enc, enc_bd k t, enc_bd k l, enc_bd k r]
  | .call i hs => by simp [enc, encs_bd k hs]
@[simp] theorem encs_bd (k : Nat) : ∀ fs : List Form, A.bds k (encs fs) = true
  | [] => rfl
  | f :: fs => by simp [encs, enc_bd k f, encs_bd k fs]
end
theorem encs_len : ∀ fs : List Form, (encs fs).length = fs.length
  | [] => rfl
  | f :: fs => by simp [encs, encs_len fs]
theorem encs_get : ∀ (fs : List Form) (i : Nat), (encs fs)[i]? = fs[i]?.map enc
  | [], i => by simp [encs]
  | f :: fs, 0 => by simp [encs]
  | f :: fs, i + 1 => by simp [encs, encs_get fs i]
/-! an object that is a form -/
theorem f_num (n : Int) : A.ob "Number" [("number", .int n)] = enc (.num n) := rfl
theorem f_here : A.ob "Here" [] = enc .here := rfl
theorem f_cell (r : Nat) : A.ob "Cell" [("row", .int (r : Int))] = enc (.cell r) := rfl
theorem f_shf (r : Nat) (b o : Int) : A.ob "Shifted" [("row", .int (r : Int)), ("by", .int b), ("other", .int o)] = enc (.shf r b o) := rfl
theorem f_loc (i : Nat) : A.ob "Local" [("at", .int (i : Int))] = enc (.loc i) := rfl
theorem f_at (r : Nat) (p : Form) : A.ob "At" [("row", .int (r : Int)), ("place", enc p)] = enc (.gat r p) := rfl
theorem f_at0 (p : Form) : A.ob "At" [("row", .int 0), ("place", enc p)] = enc (.gat 0 p) := rfl
theorem f_pair (s : Str) (l r : Form) : A.ob "Pair" [("sign", .str s), ("left", enc l), ("right", enc r)] = enc (.pair s l r) := rfl
theorem f_cho (t l r : Form) : A.ob "Choice" [("test", enc t), ("left", enc l), ("right", enc r)] = enc (.cho t l r) := rfl
theorem f_call (i : Nat) (hs : List Form) : A.ob "Call" [("at", .int (i : Int)), ("handed", .fl (encs hs))] = enc (.call i hs) := rfl
def Form.cls : Form → Str
  | .num _ => "Number" | .here => "Here" | .cell _ => "Cell" | .shf _ _ _ => "Shifted" | .loc _ => "Local" | .gat _ _ => "At" | .pair _ _ _ => "Pair" | .cho _ _ _ => "Choice" | .call _ _ => "Call"
def Form.flds : Form → List (Str × A)
  | .num n => [("number", .int n)]
  | .here => []
  | .cell r => [("row", .int (r : Int))]
  | .shf r b o => [("row", .int (r : Int)), ("by", .int b), ("other", .int o)]
  | .loc i => [("at", .int (i : Int))]
  | .gat r p => [("row", .int (r : Int)), ("place", enc p)]
  | .pair s l r => [("sign", .str s), ("left", enc l), ("right", enc r)]
  | .cho t l r => [("test", enc t), ("left", enc l), ("right", enc r)]
  | .call i hs => [("at", .int (i : Int)), ("handed", .fl (encs hs))]
theorem enc_ob (f : Form) : enc f = .ob f.cls f.flds := by cases f <;> rfl
theorem objOf_enc (Θ : Th) (f : Form) : objOf Θ (enc f) = some (f.cls, f.flds) := by rw [enc_ob]; rfl
theorem kyOf_enc (Θ : Th) (f : Form) : kyOf Θ (enc f) = some (.ob f.cls) := by rw [enc_ob]; rfl
theorem isNon_enc (f : Form) : (enc f).isNon = false := by rw [enc_ob]; rfl
/-! a form's classes are among these -/
mutual
def Form.inC (cs : List Str) : Form → Bool
  | .num _ => cs.contains "Number"
  | .here => cs.contains "Here"
  | .cell _ => cs.contains "Cell"
  | .shf _ _ _ => cs.contains "Shifted"
  | .loc _ => cs.contains "Local"
  | .gat _ p => cs.contains "At" && p.inC cs
  | .pair _ l r => cs.contains "Pair" && (l.inC cs && r.inC cs)
  | .cho t l r => cs.contains "Choice" && (t.inC cs && (l.inC cs && r.inC cs))
  | .call _ hs => cs.contains "Call" && Form.insC cs hs
def Form.insC (cs : List Str) : List Form → Bool
  | [] => true
  | f :: fs => f.inC cs && Form.insC cs fs
end
/-- what a form comes to -/
inductive W where
  | ok (n : Int) | nought | outside
@[simp] def W.r (w : W) (Θ : Th) : R A := match w with
  | .ok n => .ok (.int n) Θ
  | .nought => .exc "ByNought" [] Θ
  | .outside => .exc "Outside" [] Θ
def W.bind (w : W) (f : Int → Option W) : Option W := match w with
  | .ok n => f n
  | e => some e
def W.a : W → A
  | .ok n => .tup [.str "", .int n]
  | .nought => .tup [.str "nought", .int 0]
  | .outside => .tup [.str "outside", .int 0]
theorem w_ok (n : Int) : A.tup [.str "", .int n] = W.a (.ok n) := rfl
theorem w_nought : A.tup [.str "nought", .int 0] = W.a .nought := rfl
theorem w_outside : A.tup [.str "outside", .int 0] = W.a .outside := rfl
@[simp] theorem w_bd (k : Nat) (w : W) : w.a.bd k = true := by cases w <;> rfl
theorem dEq_w (v w : W) (Θ : Th) : ∃ b, dEq v.a w.a Θ = .ok (.bl b) Θ ∧ (b = true ↔ v = w) := by
  cases v <;> cases w <;> (simp only [W.a]; rw [dEq_tupSI (by decide +kernel) (by decide +kernel)]; refine ⟨_, rfl, ?_⟩; simp (decide := true))
theorem dEq_ww (w : W) (Θ : Th) : dEq w.a w.a Θ = .ok (.bl true) Θ := by
  obtain ⟨b, e, h⟩ := dEq_w w w Θ
  rw [e, h.mpr rfl]
structure Spt where
  lens : List Int
  funs : List (Int × Form)
  cells : List Int
  place : Int
  own : List Int
def encF (p : Int × Form) : A := .tup [.int p.1, enc p.2]
/-- a is a spot in the store Θ -/
structure SpotAt (Θ : Th) (a : A) (S : Spt) : Prop where
  ex : ∃ l f c o, a = .ob "Spot" [("lengths", l), ("functions", f), ("cells", c), ("place", .int S.place), ("own", o)] ∧ lstOf Θ l = some (S.lens.map A.int) ∧ lstOf Θ f = some (S.funs.map encF) ∧ lstOf Θ c = some (S.cells.map A.int) ∧ lstOf Θ o = some (S.own.map A.int) ∧ a.bd Θ.length = true
theorem lstOf_app {Θ J : Th} {a : A} {xs : List A} (h : lstOf Θ a = some xs) : lstOf (Θ ++ J) a = some xs := by
  cases a with
  | loc n =>
    unfold lstOf at h ⊢
    dsimp only at h ⊢
    split at h
    · rename_i ys q
      rw [List.getElem?_append_left (List.getElem?_eq_some_iff.mp q).1, q]; exact h
    · cases h
  | fl xs => exact h
  | scr ns => exact h
  | _ => cases h
mutual
theorem bd_mono {k j : Nat} (h : k ≤ j) : ∀ {a : A}, a.bd k = true → a.bd j = true
  | .non, _ => rfl
  | .bl _, _ => rfl
  | .int _, _ => rfl
  | .str _, _ => rfl
  | .ty _, _ => rfl
  | .glo _, _ => rfl
  | .scr _, _ => rfl
  | .tup xs, b => by rw [A.bd] at b ⊢; exact bds_mono h b
  | .fl xs, b => by rw [A.bd] at b ⊢; exact bds_mono h b
  | .ob _ fs, b => by rw [A.bd] at b ⊢; exact bdf_mono h b
  | .exo _ fs, b => by rw [A.bd] at b ⊢; exact bdf_mono h b
  | .loc n, b => by rw [A.bd] at b ⊢; exact decide_eq_true (Nat.lt_of_lt_of_le (of_decide_eq_true b) h)
theorem bds_mono {k j : Nat} (h : k ≤ j) : ∀ {as : List A}, A.bds k as = true → A.bds j as = true
  | [], _ => rfl
  | a :: as, b => by
    rw [A.bds, Bool.and_eq_true] at b ⊢
    exact ⟨bd_mono h b.1, bds_mono h b.2⟩
theorem bdf_mono {k j : Nat} (h : k ≤ j) : ∀ {as : List (Str × A)}, A.bdf k as = true → A.bdf j as = true
  | [], _ => rfl
  | a :: as, b => by
    rw [A.bdf, Bool.and_eq_true] at b ⊢
    exact ⟨bd_mono h b.1, bdf_mono h b.2⟩
end
theorem SpotAt.app {Θ : Th} {a : A} {S : Spt} (s : SpotAt Θ a S) (J : Th) : SpotAt (Θ ++ J) a S := by
  obtain ⟨l, f, c, o, h0, h1, h2, h3, h4, h5⟩ := s.ex
  exact ⟨l, f, c, o, h0, lstOf_app h1, lstOf_app h2, lstOf_app h3, lstOf_app h4, bd_mono (by simp) h5⟩
/-- the sum of the lengths ahead -/
def startI (lens : List Int) (row : Nat) : Int := (lens.take row).sum
instance (n : Int) : Decidable (IsKept n) := by unfold IsKept; infer_instance
def cellAt (cells : List Int) (i : Int) : Option Int := if 0 ≤ i then cells[i.toNat]? else none
theorem cellAt_some {cells : List Int} {i n : Int} (h : cellAt cells i = some n) : L2.atI (cells.map A.int) i = some (.int n) := by
  unfold cellAt at h
  split at h
  · rename_i hi
    have : i = (i.toNat : Int) := by omega
    rw [this]
    exact L2.atI_nat (by rw [List.getElem?_map, h]; rfl)
  · cases h
/-- what a form is worth, by fuel; none: it is not told -/
def worthF : Nat → Spt → Form → Option W
  | 0, _, _ => none
  | _ + 1, _, .num n => some (.ok n)
  | _ + 1, S, .here => some (.ok S.place)
  | _ + 1, S, .cell r => match S.lens[r]? with
    | some m => (cellAt S.cells (startI S.lens r + if m = 1 then 0 else S.place)).map .ok
    | none => none
  | _ + 1, S, .shf r b o => match S.lens[r]? with
    | some m => if 0 ≤ S.place + b ∧ S.place + b < m then (cellAt S.cells (startI S.lens r + (S.place + b))).map .ok else some (.ok o)
    | none => none
  | _ + 1, S, .loc i => S.own[i]?.map .ok
  | k + 1, S, .gat r p => match worthF k S p with
    | some (.ok n) => (match S.lens[r]? with
      | some m => if 0 ≤ n ∧ n < m then (cellAt S.cells (startI S.lens r + n)).map .ok else some .outside
      | none => none)
    | w => w
  | k + 1, S, .pair s l r => match worthF k S l with
    | some (.ok a) => (match worthF k S r with
      | some (.ok b) => if s ∈ signs ∧ IsKept a ∧ IsKept b then (if (s = "/" ∨ s = "rest") ∧ b = 0 then some .nought else some (.ok (doneN s a b))) else none
      | w => w)
    | w => w
  | k + 1, S, .cho t l r => match worthF k S t with
    | some (.ok n) => if n ≠ 0 then worthF k S l else worthF k S r
    | w => w
  | k + 1, S, .call i hs => (go k S hs []).bind fun w => match w with
      | .inl ns => (match S.funs[i]? with
        | some p => worthF k { S with own := ns } p.2
        | none => none)
      | .inr e => some e
where
  go (k : Nat) (S : Spt) : List Form → List Int → Option (List Int ⊕ W)
    | [], acc => some (.inl acc)
    | f :: fs, acc => match worthF k S f with
      | some (.ok n) => go k S fs (acc ++ [n])
      | some e => some (.inr e)
      | none => none
theorem fmod_kept {a b : Int} (ka : IsKept a) (kb : IsKept b) (h : b ≠ 0) : IsKept (a.fmod b) := by
  unfold IsKept at *
  rcases Int.lt_or_gt_of_ne h with hb | hb
  · have r0 : a.fmod b = -((-a) % (-b)) := by rw [← Int.fmod_eq_emod_of_nonneg (-a) (show 0 ≤ -b by omega), Int.neg_fmod_neg]; omega
    have r1 := Int.emod_lt_of_pos (-a) (show 0 < -b by omega)
    have r2 := Int.emod_nonneg (-a) (show -b ≠ 0 by omega)
    omega
  · have r1 : a.fmod b < b := Int.fmod_lt_of_pos a hb
    have r2 : 0 ≤ a.fmod b := Int.fmod_nonneg_of_pos a hb
    omega
theorem doneN_kept {s : Str} {a b : Int} (hs : s ∈ signs) (ka : IsKept a) (kb : IsKept b) (h0 : (s = "/" ∨ s = "rest") → b ≠ 0) : IsKept (doneN s a b) := by
  simp only [signs, List.mem_cons, List.mem_nil_iff, or_false] at hs
  rcases hs with rfl | rfl | rfl | rfl | rfl | rfl | rfl | rfl | rfl | rfl | rfl | rfl
  · simp (decide := true) [doneN]; exact keptN_kept _
  · simp (decide := true) [doneN]; exact keptN_kept _
  · simp (decide := true) [doneN]; exact keptN_kept _
  · simp (decide := true) [doneN]; exact keptN_kept _
  · simp (decide := true) [doneN]; exact fmod_kept ka kb (h0 (.inr rfl))
  · simp (decide := true) [doneN]; split <;> assumption
  · simp (decide := true) [doneN]; split <;> assumption
  · simp (decide := true) [doneN]; unfold IsKept; split <;> omega
  · simp (decide := true) [doneN]; unfold IsKept; split <;> omega
  · simp (decide := true) [doneN]; exact and_kept ka kb
  · simp (decide := true) [doneN]; exact or_kept ka kb
  · simp (decide := true) [doneN]; exact xor_kept ka kb
/-! rows, one behind the other -/
def lensI (rows : List (List Int)) : List Int := rows.map fun r => (r.length : Int)
theorem flat_at {rows : List (List Int)} {j : Nat} {r : List Int} (h : rows[j]? = some r) {p : Nat} (hp : p < r.length) : cellAt rows.flatten (startI (lensI rows) j + (p : Int)) = some r[p] := by
  have key : ∀ {rows : List (List Int)} {j : Nat}, rows[j]? = some r → ∃ n : Nat, startI (lensI rows) j = (n : Int) ∧ rows.flatten[n + p]? = some r[p] := by
    intro rows
    induction rows with
    | nil => intro j h; simp at h
    | cons x xs ih =>
      intro j h
      cases j with
      | zero =>
        simp at h; subst h
        exact ⟨0, by simp [startI], by simp [List.getElem?_append_left, hp]⟩
      | succ j =>
        obtain ⟨n, h1, h2⟩ := ih (j := j) (by simpa using h)
        refine ⟨x.length + n, ?_, ?_⟩
        · simp [startI, lensI] at h1 ⊢
          omega
        · rw [List.flatten_cons, List.getElem?_append_right (by omega)]
          rw [show x.length + n + p - x.length = n + p by omega]
          exact h2
  obtain ⟨n, h1, h2⟩ := key h
  unfold cellAt
  rw [h1, if_pos (by omega), show ((n : Int) + (p : Int)).toNat = n + p by omega]
  exact h2
end Law
noncomputable section
namespace Law
open PySem U
theorem cell_at_eq (ns : List Int) (k : Nat) (Θ : Th) : m__law_cell_at [.scr ns, .int (k : Int)] Θ = .ok (.int (ns.getD k 0)) Θ := by
  by_cases h : k < ns.length
  · have a : L2.atI (ns.map A.int) (k : Int) = some (.int (ns.getD k 0)) := by rw [atA h, List.getD_eq_getElem?_getD, List.getElem?_eq_getElem h]; rfl
    simp [m__law_cell_at, b__law_cell_at, h, a]
  · have : ns.getD k 0 = 0 := by rw [List.getD_eq_getElem?_getD, List.getElem?_eq_none (by omega)]; rfl
    simp [m__law_cell_at, b__law_cell_at, h, this]

def someN (ns : List Int) (k : Nat) (salt many : Int) : Int :=
  let m := (ns.getD k 0 % 1000003 + 1) * (48271 + 1000 * k * k + 69621 * salt * salt) % 2147483647
  m * m % 2147483629 / 3 % many
theorem some_eq (ns : List Int) (k : Nat) (salt many : Int) (Θ : Th) (hk : k < 1000000) (hs : -1000 < salt ∧ salt < 1000) (hm : 0 < many ∧ many < 1000000000) : m__law_some [.scr ns, .int (k : Int), .int salt, .int many] Θ = .ok (.int (someN ns k salt many)) Θ := by
  have c := cell_at_eq ns k Θ
  unfold someN
  generalize ns.getD k 0 = z at *
  have m1 : T.MulOk (1000 * (k : Int)) k := .inr (by omega)
  have m2 : T.MulOk (69621 * salt) salt := .inr (by omega)
  have m4 : T.MulOk 69621 salt := .inr (by omega)
  have m5 : T.MulOk 1000 (k : Int) := .inr (by omega)
  have m3 : ∀ y, T.MulOk (z % 1000003 + 1) y := fun y => .inl (by omega)
  have m6 : ∀ y : Int, T.MulOk (y % 2147483647) (y % 2147483647) := fun y => .inl (by omega)
  have h2 : many < 340282366920938463463374607431768211456 := by omega
  simp [m__law_some, b__law_some, c, m1, m2, m3, m4, m5, m6, hm.1, h2]
theorem some_lt (ns : List Int) (k : Nat) (salt : Int) {many : Int} (hm : 0 < many) : 0 ≤ someN ns k salt many ∧ someN ns k salt many < many :=
  ⟨Int.emod_nonneg _ (by omega), Int.emod_lt_of_pos _ hm⟩

/-! a feed: its numbers, how many of them are spent -/
def feedN (xs : List Int) (s : Nat) : Cell := .obj "Feed" [("stock", .fl (xs.map A.int)), ("spent", .int (s : Int))]
def tookN (xs : List Int) (s : Nat) : Int := xs.getD s 0
def spentN (xs : List Int) (s : Nat) : Nat := if xs = [] then s else if s + 1 = xs.length then 0 else s + 1
theorem taken_eq {Θ : Th} {n : Nat} {xs : List Int} {s : Nat} (h : Θ[n]? = some (feedN xs s)) (hs : s < xs.length ∨ (xs = [] ∧ s = 0)) : m_Feed_taken [.loc n] Θ = .ok (.int (tookN xs s)) (Θ.set n (feedN xs (spentN xs s))) := by
  have hn : n < Θ.length := (List.getElem?_eq_some_iff.mp h).1
  unfold feedN at h
  have hh : ∀ c, (Θ.set n c)[n]? = some c := fun c => List.getElem?_set_self hn
  have hc : ∀ c : Cell, c.bd Θ.length = true → cut Θ (Θ.set n c) = some (Θ.set n c) := fun c hb => by simpa using cut_setJ (J := []) (n := n) hb
  rcases hs with hs | ⟨rfl, rfl⟩
  · have ne : xs ≠ [] := by intro z; subst z; simp at hs
    have nl : ¬ xs.length = 0 := by omega
    have a1 := atA hs
    have e0 : tookN xs s = xs[s] := by unfold tookN; rw [List.getD_eq_getElem?_getD, List.getElem?_eq_getElem hs]; rfl
    rw [e0]
    unfold feedN spentN
    rw [if_neg ne]
    generalize hz : xs[s] = z at *
    by_cases hl : s + 1 = xs.length
    · have hl' : (s : Int) + 1 = (xs.length : Int) := by omega
      simp (decide := true) [m_Feed_taken, b_Feed_taken, h, hh, nl, a1, hl', hl, List.length_map, ne, hc, tidyM]
    · have hl' : ¬ (s : Int) + 1 = (xs.length : Int) := by omega
      simp (decide := true) [m_Feed_taken, b_Feed_taken, h, hh, nl, a1, hl', hl, List.length_map, ne, hc, tidyM]
  · have e : Θ.set n (feedN [] (spentN [] 0)) = Θ := by
      refine List.ext_getElem? fun i => ?_
      rw [List.getElem?_set]
      by_cases hi : n = i
      · subst hi; rw [if_pos rfl, h]; simp [hn, feedN, spentN]
      · rw [if_neg hi]
    rw [e]
    simp (decide := true) [m_Feed_taken, b_Feed_taken, h, tookN]
theorem spentN_lt {xs : List Int} {s : Nat} (hs : s < xs.length ∨ (xs = [] ∧ s = 0)) : spentN xs s < xs.length ∨ (xs = [] ∧ spentN xs s = 0) := by
  unfold spentN
  rcases hs with hs | ⟨rfl, rfl⟩
  · rw [if_neg (by intro z; subst z; simp at hs)]
    split <;> exact .inl (by omega)
  · exact .inr ⟨rfl, rfl⟩
theorem taken_m {Θ : Th} {n : Nat} {xs : List Int} {s : Nat} (h : Θ[n]? = some (feedN xs s)) (hs : s < xs.length ∨ (xs = [] ∧ s = 0)) (ms : Th → R (List A)) (hm : ms Θ = .ok [] Θ) : mthS tab_taken "taken" (.loc n) ms Θ = .ok (.int (tookN xs s)) (Θ.set n (feedN xs (spentN xs s))) := by
  have e := taken_eq h hs
  unfold feedN at h
  simp (decide := true) [h, hm, e]

/-- how many numbers are spent behind i askings -/
def stN (xs : List Int) (i : Nat) : Nat := if xs = [] then 0 else i % xs.length
theorem stN_lt (xs : List Int) (i : Nat) : stN xs i < xs.length ∨ (xs = [] ∧ stN xs i = 0) := by
  unfold stN
  by_cases h : xs = []
  · exact .inr ⟨h, if_pos h⟩
  · rw [if_neg h]; exact .inl (Nat.mod_lt _ (List.length_pos_iff.mpr h))
theorem stN_next (xs : List Int) (i : Nat) : spentN xs (stN xs i) = stN xs (i + 1) := by
  unfold spentN stN
  by_cases h : xs = []
  · simp [h]
  · simp only [if_neg h]
    have hp : 0 < xs.length := List.length_pos_iff.mpr h
    have h1 := Nat.div_add_mod i xs.length
    have h2 := Nat.mod_lt i hp
    by_cases e : i % xs.length + 1 = xs.length
    · rw [if_pos e]
      have : i + 1 = xs.length * (i / xs.length + 1) := by rw [Nat.mul_add]; omega
      rw [this, Nat.mul_mod_right]
    · rw [if_neg e]
      have : i + 1 = xs.length * (i / xs.length) + (i % xs.length + 1) := by omega
      rw [this, Nat.mul_add_mod, Nat.mod_eq_of_lt (show i % xs.length + 1 < xs.length by omega)]
theorem due_eq (xs : List Int) (i : Nat) (Θ : Th) : m__law_due [.fl (xs.map A.int), .int (i : Int)] Θ = .ok (.int (tookN xs (stN xs i))) Θ := by
  unfold stN tookN
  by_cases h : xs = []
  · subst h; simp (decide := true) [m__law_due, b__law_due]
  · rw [if_neg h]
    have hp : 0 < xs.length := List.length_pos_iff.mpr h
    have hm : i % xs.length < xs.length := Nat.mod_lt _ hp
    have a1 := atA hm
    have e : (i : Int) % (xs.length : Int) = ((i % xs.length : Nat) : Int) := by simp
    have nz : ¬ xs.length = 0 := by omega
    rw [List.getD_eq_getElem?_getD, List.getElem?_eq_getElem hm]
    simp only [Option.getD_some]
    generalize xs[i % xs.length] = v at *
    generalize i % xs.length = m at *
    simp (decide := true) [m__law_due, b__law_due, h, hp, e, a1, nz]

@[simp] theorem whole_eq (n : Int) (Θ : Th) : m__law_whole [.int n] Θ = .ok (.bl true) Θ := by
  simp [m__law_whole, b__law_whole]

end Law
namespace Law
open PySem U
open T (cutL)
def T6 (L : List A) (xs ys : List Int) (s t : Nat) (i j : Int) : Th := [.lst L, .lst (ys.map A.int), .lst [.loc 0, .loc 1], feedN xs s, feedN ys t, .lst [.int i, .int j]]
theorem T6_cut (L M : List A) (xs ys : List Int) (s t s' t' : Nat) (i j i' j' : Int) (h : A.bds 6 M = true) : cut (T6 L xs ys s t i j) (T6 M xs ys s' t' i' j') = some (T6 M xs ys s' t' i' j') := by
  refine cut_all rfl ?_
  simp [T6, feedN, h]
theorem init_of {Θ : Th} {a : A} {xs : List Int} (h : lstOf Θ a = some (xs.map A.int)) : m_Feed___init__ [.loc Θ.length, a] (Θ ++ [.obj "Feed" []]) = .ok .non (Θ ++ [feedN xs 0]) := by
  have h1 : ∀ c : Cell, (Θ ++ [c])[Θ.length]? = some c := fun c => at_push
  have hs : ∀ c d : Cell, (Θ ++ [c]).set Θ.length d = Θ ++ [d] := fun c d => by rw [List.set_append_right _ _ (Nat.le_refl _), Nat.sub_self]; rfl
  have hq : ∀ J : Th, seqOf (Θ ++ J) a = some (xs.map A.int) := fun J => seqOf_lst (lstOf_app h)
  simp (decide := true) [m_Feed___init__, b_Feed___init__, h1, hs, feedN, dList, hq]
section
variable {ns xs ys : List Int}
theorem first_eq (L : List A) (hL : A.bds 6 L = true) (k : Nat) (hk : k ≤ 3 → L = xs.map A.int) (hx : xs.length ≤ 63) (s t a b : Nat) (R4 R5 R6 R7 : Option A) (h3 : k = 3) :
    ∃ M, A.bds 6 M = true ∧ (sSeq (sIf (tOf (eBin dNe (eLoc 3) (eFz (eLst (aCons (eLoc 1) (aCons (eLoc 2) aNil)))))) (sRet (eC (.bl false))) sNil)
      (sIf (tOf (eBin dEq (eCall m__law_some (aCons (eLoc 0) (aCons (eC (.int 1)) (aCons (eC (.int 2)) (aCons (eC (.int 2)) aNil))))) (eC (.int 0)))) (sDrop (eMeth (eBin dIx (eLoc 3) (eC (.int 0))) fClear aNil)) (sDrop (eMeth (eBin dIx (eLoc 3) (eC (.int 0))) fIns (aCons (eC (.int 0)) (aCons (eC (.int 5)) aNil))))))
      [some (.scr ns), some (.fl (xs.map A.int)), some (.fl (ys.map A.int)), some (.loc 2), some (.loc 3), some (.loc 4), some (.loc 5), R7, some (.int (k : Int)), none, R5, R6] (T6 L xs ys s t a b)
      = .ok .next [some (.scr ns), some (.fl (xs.map A.int)), some (.fl (ys.map A.int)), some (.loc 2), some (.loc 3), some (.loc 4), some (.loc 5), R7, some (.int (k : Int)), none, R5, R6] (T6 M xs ys s t a b) := by
  have eL := hk (by omega)
  subst eL
  have s1 := fun Θ => some_eq ns 1 2 2 Θ (by omega) (by omega) (by omega)
  simp only [Int.ofNat_eq_natCast, Int.cast_ofNat_Int] at s1
  have E : dEq (.loc 2) (.fl [.fl (xs.map A.int), .fl (ys.map A.int)]) (T6 (xs.map A.int) xs ys s t a b) = .ok (.bl true) (T6 (xs.map A.int) xs ys s t a b) := by
    refine dEq_same (x := .list [.list (xs.map PyData.int), .list (ys.map PyData.int)]) ?_ ?_ (shaped_ll _ _)
    · have h0 := toP_intsK (a := .loc 0) (Θ := T6 (xs.map A.int) xs ys s t a b) (ns := xs) 6 rfl
      have h1 := toP_intsK (a := .loc 1) (Θ := T6 (xs.map A.int) xs ys s t a b) (ns := ys) 6 rfl
      show ((mapO (toP (T6 (xs.map A.int) xs ys s t a b) 8) [.loc 0, .loc 1]).map PyData.list) = _
      simp [h0, h1]
    · have h0 := toP_intsK (a := .fl (xs.map A.int)) (Θ := T6 (xs.map A.int) xs ys s t a b) (ns := xs) 6 rfl
      have h1 := toP_intsK (a := .fl (ys.map A.int)) (Θ := T6 (xs.map A.int) xs ys s t a b) (ns := ys) 6 rfl
      show ((mapO (toP (T6 (xs.map A.int) xs ys s t a b) 8) [.fl (xs.map A.int), .fl (ys.map A.int)]).map PyData.list) = _
      simp [h0, h1]
  have g0 : ∀ L, (T6 L xs ys s t a b)[0]? = some (.lst L) := fun _ => rfl
  have g2 : ∀ L, (T6 L xs ys s t a b)[2]? = some (.lst [.loc 0, .loc 1]) := fun _ => rfl
  have gs : ∀ L M, (T6 L xs ys s t a b).set 0 (.lst M) = T6 M xs ys s t a b := fun _ _ => rfl
  have a0 : L2.atI [A.loc 0, A.loc 1] 0 = some (.loc 0) := rfl
  have hxl : xs.length < 16777216 := by omega
  by_cases h2 : someN ns 1 2 2 = 0
  · refine ⟨[], rfl, ?_⟩
    simp (decide := true) [E, s1, h2, g0, g2, gs, a0]
  · refine ⟨.int 5 :: xs.map A.int, by simp, ?_⟩
    simp (decide := true) [E, s1, h2, g0, g2, gs, a0, hxl]
theorem T6_4 (L : List A) (s t : Nat) (i j : Int) : (T6 L xs ys s t i j)[4]? = some (feedN ys t) := rfl
theorem second_eq (L : List A) (k : Nat) (hk : k < 100000) (a b : Nat) (R9 R5 R6 R7 : Option A) :
    ∃ (a' b' : Nat) (v : Int), t2_law [some (.scr ns), some (.fl (xs.map A.int)), some (.fl (ys.map A.int)), some (.loc 2), some (.loc 3), some (.loc 4), some (.loc 5), R7, some (.int (k : Int)), R9, R5, R6] (T6 L xs ys (stN xs a) (stN ys b) a b)
      = .ok .next [some (.scr ns), some (.fl (xs.map A.int)), some (.fl (ys.map A.int)), some (.loc 2), some (.loc 3), some (.loc 4), some (.loc 5), R7, some (.int (k : Int)), R9, some (.int v), some (.int v)] (T6 L xs ys (stN xs a') (stN ys b') a' b') := by
  have s1 := fun Θ => some_eq ns (k + 2) 3 2 Θ (by omega) (by omega) (by omega)
  have ek : ((k + 2 : Nat) : Int) = (k : Int) + 2 := by omega
  rw [ek] at s1
  have g3 : ∀ i j s t, (T6 L xs ys s t i j)[3]? = some (feedN xs s) := fun _ _ _ _ => rfl
  have g4 : ∀ i j s t, (T6 L xs ys s t i j)[4]? = some (feedN ys t) := fun _ _ _ _ => rfl
  have g5 : ∀ i j s t, (T6 L xs ys s t i j)[5]? = some (.lst [.int i, .int j]) := fun _ _ _ _ => rfl
  have u3 : ∀ i j s t s', (T6 L xs ys s t i j).set 3 (feedN xs s') = T6 L xs ys s' t i j := fun _ _ _ _ _ => rfl
  have u4 : ∀ i j s t t', (T6 L xs ys s t i j).set 4 (feedN ys t') = T6 L xs ys s t' i j := fun _ _ _ _ _ => rfl
  have u5 : ∀ i j s t i' j', (T6 L xs ys s t i j).set 5 (.lst [.int i', .int j']) = T6 L xs ys s t i' j' := fun _ _ _ _ _ _ => rfl
  have t1 : ∀ ρ : Rho, mthS tab_taken "taken" (.loc 3) (aNil ρ) (T6 L xs ys (stN xs a) (stN ys b) a b) = .ok (.int (tookN xs (stN xs a))) (T6 L xs ys (stN xs (a + 1)) (stN ys b) a b) := fun ρ => (taken_m (g3 _ _ _ _) (stN_lt _ _) _ rfl).trans (by rw [u3, stN_next])
  have t2 : ∀ ρ : Rho, mthS tab_taken "taken" (.loc 4) (aNil ρ) (T6 L xs ys (stN xs a) (stN ys b) a b) = .ok (.int (tookN ys (stN ys b))) (T6 L xs ys (stN xs a) (stN ys (b + 1)) a b) := fun ρ => (taken_m (g4 _ _ _ _) (stN_lt _ _) _ rfl).trans (by rw [u4, stN_next])
  have d1 := fun Θ => due_eq xs a Θ
  have d2 := fun Θ => due_eq ys b Θ
  have a0 : ∀ i j : Int, L2.atI [A.int i, A.int j] 0 = some (.int i) := fun _ _ => rfl
  have a1 : ∀ i j : Int, L2.atI [A.int i, A.int j] 1 = some (.int j) := fun _ _ => rfl
  have x0 : L2.ixN 2 0 = some 0 := rfl
  have x1 : L2.ixN 2 1 = some 1 := rfl
  by_cases h2 : someN ns (k + 2) 3 2 = 0
  · refine ⟨a + 1, b, tookN xs (stN xs a), ?_⟩
    rw [h2] at s1
    simp (decide := true) [-mthS_loc, t2_law, t1_law, s1, t1, d1, g5, u5, a0, x0]
  · refine ⟨a, b + 1, tookN ys (stN ys b), ?_⟩
    simp (decide := true) [-mthS_loc, t2_law, t1_law, s1, h2, t2, d2, g5, u5, a1, x1]
theorem turn_eq (L : List A) (hL : A.bds 6 L = true) (k : Nat) (hk : k < 100000) (h3 : k ≤ 3 → L = xs.map A.int) (hx : xs.length ≤ 63) (a b : Nat) (m : Int) :
    ∃ (M : List A) (a' b' : Nat), A.bds 6 M = true ∧ (k + 1 ≤ 3 → M = xs.map A.int) ∧ sGc [8, 10, 11] l1_law [some (.scr ns), some (.fl (xs.map A.int)), some (.fl (ys.map A.int)), some (.loc 2), some (.loc 3), some (.loc 4), some (.loc 5), some (.int m), some (.int (k : Int)), none, none, none] (T6 L xs ys (stN xs a) (stN ys b) a b)
      = .ok .next [some (.scr ns), some (.fl (xs.map A.int)), some (.fl (ys.map A.int)), some (.loc 2), some (.loc 3), some (.loc 4), some (.loc 5), some (.int m), none, none, none, none] (T6 M xs ys (stN xs a') (stN ys b') a' b') := by
  by_cases e3 : k = 3
  · obtain ⟨M, hM, e1⟩ := first_eq (ns := ns) (ys := ys) L hL k h3 hx (stN xs a) (stN ys b) a b none none none (some (.int m)) e3
    obtain ⟨a', b', v, e2⟩ := second_eq (ns := ns) (xs := xs) (ys := ys) M k hk a b none none none (some (.int m))
    refine ⟨M, a', b', hM, fun z => by omega, ?_⟩
    show gcTurn _ _ (l1_law _ _) = _
    unfold l1_law
    rw [seq_yes (Θ1 := T6 L xs ys (stN xs a) (stN ys b) a b) (by simp [e3]) e1, e2, gcTurn_next (T6_cut L M xs ys _ _ _ _ _ _ _ _ hM) (by simp [T6])]
    simp
  · obtain ⟨a', b', v, e2⟩ := second_eq (ns := ns) (xs := xs) (ys := ys) L k hk a b none none none (some (.int m))
    refine ⟨L, a', b', hL, fun z => h3 (by omega), ?_⟩
    show gcTurn _ _ (l1_law _ _) = _
    unfold l1_law
    have e3' : ¬ (k : Int) = 3 := by omega
    rw [seq_no (Θ1 := T6 L xs ys (stN xs a) (stN ys b) a b) (by simp [e3']), e2, gcTurn_next (T6_cut L L xs ys _ _ _ _ _ _ _ _ hL) (by simp [T6])]
    simp
end
theorem main_eq {ns xs : List Int} (hx : xs.length ≤ 63) : EndsS (t3_law [some (.scr ns), some (.fl (xs.map A.int)), none, none, none, none, none, none, none, none, none, none] []) (fun f _ _ => f = .ret (.bl true)) (fun _ _ _ _ => False) := by
  obtain ⟨ys, hys, hyl⟩ : ∃ ys : List Int, (xs.map A.int).reverse = ys.map A.int ∧ ys.length = xs.length := ⟨xs.reverse, by simp, by simp⟩
  have i1 := init_of (Θ := [.lst (xs.map A.int), .lst (ys.map A.int), .lst [.loc 0, .loc 1]]) (a := .loc 0) (xs := xs) rfl
  have i2 := init_of (Θ := [.lst (xs.map A.int), .lst (ys.map A.int), .lst [.loc 0, .loc 1], feedN xs 0]) (a := .loc 1) (xs := ys) rfl
  simp at i1 i2
  have s1 := fun Θ => some_eq ns 1 1 (3 * (xs.length : Int) + 8) Θ (by omega) (by omega) (by omega)
  have l1 := some_lt ns 1 1 (many := 3 * (xs.length : Int) + 8) (by omega)
  simp only [Int.ofNat_eq_natCast, Int.cast_ofNat_Int] at s1
  generalize someN ns 1 1 (3 * (xs.length : Int) + 8) = z at *
  have a0 : L2.atI [A.loc 0, A.loc 1] 0 = some (.loc 0) := rfl
  have a1 : L2.atI [A.loc 0, A.loc 1] 1 = some (.loc 1) := rfl
  have rb : T.RB (4 + z) := by unfold T.RB; omega
  have m3 : T.MulOk 3 (xs.length : Int) := .inr (by omega)
  simp (decide := true) [t3_law, hys, a0, a1, i1, i2, s1, rb, m3]
  refine loop_R (fun i ρ Θ => ∃ (L : List A) (a b : Nat), A.bds 6 L = true ∧ (i ≤ 3 → L = xs.map A.int) ∧ Θ = T6 L xs ys (stN xs a) (stN ys b) a b ∧ ρ = [some (.scr ns), some (.fl (xs.map A.int)), some (.fl (ys.map A.int)), some (.loc 2), some (.loc 3), some (.loc 4), some (.loc 5), some (.int (4 + z)), none, none, none, none]) ?_ ?_ ?_
  · refine ⟨xs.map A.int, 0, 0, by simp, fun _ => rfl, ?_, rfl⟩
    have : ∀ zs, stN zs 0 = 0 := fun zs => by unfold stN; split <;> simp
    rw [this, this]; rfl
  · rintro i ρ Θ hi ⟨L, a, b, hL, h3, rfl, rfl⟩
    refine ⟨_, rfl, ?_⟩
    obtain ⟨M, a', b', hM, hM3, e⟩ := turn_eq (ns := ns) (ys := ys) L hL i (by omega) h3 hx a b (4 + z)
    have e0 : (0 : Int) + (i : Int) = (i : Int) := by omega
    show EndsS (sGc [8, 10, 11] l1_law [some (.scr ns), some (.fl (xs.map A.int)), some (.fl (ys.map A.int)), some (.loc 2), some (.loc 3), some (.loc 4), some (.loc 5), some (.int (4 + z)), some (.int (0 + (i : Int))), none, none, none] (T6 L xs ys (stN xs a) (stN ys b) a b)) _ _
    rw [e0, e]
    exact ⟨M, a', b', hM, hM3, rfl, rfl⟩
  · rintro ρ Θ ⟨L, a, b, hL, h3, rfl, rfl⟩
    have E : dEq (.loc 1) (.fl (ys.map A.int)) (T6 L xs ys (stN xs a) (stN ys b) a b) = .ok (.bl true) (T6 L xs ys (stN xs a) (stN ys b) a b) := by rw [dEq_ints (ns := ys) (ms := ys) rfl rfl]; simp
    have g2 : (T6 L xs ys (stN xs a) (stN ys b) a b)[2]? = some (.lst [.loc 0, .loc 1]) := rfl
    simp [g2, a1, E]
theorem law_true : ∀ ns : List Int, ns.length ≤ 63 → ∃ Θ', fnM 12 b_law [.scr ns] [] = .ok (.bl true) Θ' := by
  intro ns hl
  refine Ends.ex ?_
  rw [fnM_ends]
  have c0 := fun Θ => cell_at_eq ns 0 Θ
  simp only [Int.ofNat_eq_natCast, Int.cast_ofNat_Int, Int.natCast_zero] at c0
  generalize ns.getD 0 0 = k0 at *
  have pl : (cutL ns (some 2) none).length ≤ 63 := by have := cutL_len ns (some 2) none; omega
  have lc := lc_ints (bt := bName 9) (m := e1_law) (s := ⟨(cutL ns (some 2) none).map A.int, none⟩) (n0 := 0) (ρ := [some (.scr ns), none, none, none, none, none, none, none, none, none, none, none]) (Θ0 := []) (xs := cutL ns (some 2) none) (fun c => c % 2000000000000000000000000000000000000000000000000000000000000 - 1000000000000000000000000000000000000000000000000000000000000) (fun _ => True.intro) rfl (by omega) (fun x _ Θ => ⟨_, rfl, by simp [e1_law]⟩)
  obtain ⟨ps, hps⟩ : ∃ ps, ((cutL ns (some 2) none).map fun c => c % 2000000000000000000000000000000000000000000000000000000000000 - 1000000000000000000000000000000000000000000000000000000000000) = ps := ⟨_, rfl⟩
  have pl2 : ps.length ≤ 63 := by rw [← hps, List.length_map]; exact pl
  rw [hps] at lc
  simp only [List.nil_append, List.length_nil] at lc
  by_cases h1 : k0 % 3 = 1
  · have cl : (cutL ps none (some (k0 / 3 % 4))).length ≤ 63 := by have := cutL_len ps none (some (k0 / 3 % 4)); omega
    simp (decide := true) [b_law, c0, cutL_map, lc, h1]
    exact (main_eq cl).mono (fun f ρ Θ e => by subst e; rfl) fun _ _ _ _ z => z
  · simp (decide := true) [b_law, c0, cutL_map, lc, h1]
    exact (main_eq pl2).mono (fun f ρ Θ e => by subst e; rfl) fun _ _ _ _ z => z
end Law
namespace Law
open PySem PySem.Spec PyProof.Rows L2 U
open T (Def def_mk)
theorem fin {P : Program} {w : World} {K : PySem.W.Frag} {mg : Str → Option Value} {h : Heap} (_ : K.In h) (Z : Tx K mg)
    (cd_Feed : ClsD K mg "Feed")
    (d__law_cell_at : Def K mg "_law_cell_at" s__law_cell_at ["_law_script", "_law_k"])
    (dm_Feed___init__ : DefM K mg "Feed" "__init__" "Feed.__init__" s_Feed___init__ ["self", "numbers"])
    (d__law_some : Def K mg "_law_some" s__law_some ["_law_script", "_law_k", "_law_salt", "_law_many"])
    (dm_Feed_taken : DefM K mg "Feed" "taken" "Feed.taken" s_Feed_taken ["self"])
    (d__law_due : Def K mg "_law_due" s__law_due ["_law_numbers", "_law_k"])
    (d__law_whole : Def K mg "_law_whole" s__law_whole ["_law_found"])
    (d_law : Def K mg "law" s_law ["_law_script"])
    : Def K mg "law" s_law ["_law_script"] ∧ ∀ base : Heap, BodyOk P w K mg base "law" s_law ["_law_script", "_law_numbers", "_law_turned", "_law_handed", "_law_one", "_law_two", "_law_asked", "_law_many", "_law_k", "_law_cell", "_law_found", "_law_due_here"] 2 b_law := by
  refine ⟨d_law, fun base => ?_⟩
  have c__law_cell_at : Cal P w K mg base "_law_cell_at" 1 2 m__law_cell_at := (cal_mk (P := P) (w := w) (base := base) d__law_cell_at sc__law_cell_at rfl (bd__law_cell_at Z )).gcM
  have ci_Feed := cali_mk (P := P) (w := w) (base := base) dm_Feed___init__ cd_Feed sc_Feed___init__ rfl (bd_Feed___init__ Z )
  have c__law_some : Cal P w K mg base "_law_some" 2 4 m__law_some := (cal_mk (P := P) (w := w) (base := base) d__law_some sc__law_some rfl (bd__law_some Z c__law_cell_at)).gcM
  have cm_Feed_taken : CalM P w K mg base "Feed" "taken" 1 1 m_Feed_taken := (calm_mk (P := P) (w := w) (base := base) dm_Feed_taken cd_Feed sc_Feed_taken rfl (bd_Feed_taken Z )).gcM
  have c__law_due : Cal P w K mg base "_law_due" 1 2 m__law_due := (cal_mk (P := P) (w := w) (base := base) d__law_due sc__law_due rfl (bd__law_due Z )).gcM
  have c__law_whole : Cal P w K mg base "_law_whole" 1 1 m__law_whole := (cal_mk (P := P) (w := w) (base := base) d__law_whole sc__law_whole rfl (bd__law_whole Z )).gcM
  have ht_taken : ∀ c f, tab_taken c = some f → CalM P w K mg base c "taken" (1) 1 f := by
    intro c f e; unfold tab_taken at e
    by_cases h_Feed : c = "Feed"
    · rw [if_pos h_Feed] at e; cases e; rw [h_Feed]; exact cm_Feed_taken.mono (by first | decide | omega)
    rw [if_neg h_Feed] at e
    cases e
  have h0_taken : ∃ c f, tab_taken c = some f := ⟨"Feed", _, tab_taken_Feed⟩
  exact bd_law Z c__law_cell_at c__law_some c__law_due c__law_whole ci_Feed ht_taken h0_taken
end Law
open PySem PySem.W PyProof.Rows
set_option maxRecDepth 100000 in
set_option maxHeartbeats 0 in
theorem PySem.Challenge.cw_rowbreadth_k29_numbers_handed_out_holds : PySem.Challenge.rw_rowbreadth_k29_numbers_handed_out.Holds := by
  w_on; o_law; k_head; (case hw => w_witness2)
  k_fill
  refine U.walk_law (l := PySem.Challenge.rw_rowbreadth_k29_numbers_handed_out) (k := 2) (st := Law.s_law) rfl rfl rfl ⟨rfl, by decide, by decide⟩ (fun w h Y => PySem.W.kIn_of Y) Law.sc_law Law.law_true ?F
  case F =>
    intro w mg h KX G
    refine' Law.fin KX ?Z ?cd_Feed ?d__law_cell_at ?dm_Feed___init__ ?d__law_some ?dm_Feed_taken ?d__law_due ?d__law_whole ?d_law
    (case Z => refine' ⟨trivial,
      PySem.W.mg_none_of KX G ?z0,
      PySem.W.mg_none_of KX G ?z1,
      PySem.W.mg_none_of KX G ?z2,
      PySem.W.mg_none_of KX G ?z3,
      PySem.W.mg_none_of KX G ?z4,
      PySem.W.mg_none_of KX G ?z5,
      PySem.W.mg_none_of KX G ?z6,
      Law.kl_mk (PySem.W.mg_of KX G ?a_Feed) ⟨?pg_Feed, ?hd_Feed, ?po_Feed, ?sa_Feed⟩ ?n_Feed_stock ?n_Feed_spent,
      Law.isa_mk ?ob_Feed⟩; (case z0 => k_is); (case z1 => k_is); (case z2 => k_is); (case z3 => k_is); (case z4 => k_is); (case z5 => k_is); (case z6 => k_is); (case a_Feed => k_is); (case pg_Feed => k_is); (case hd_Feed => k_is); (case po_Feed => k_is); (case sa_Feed => k_is); (case n_Feed_stock => unfold L2.NoAttr; k_is); (case n_Feed_spent => unfold L2.NoAttr; k_is); (case ob_Feed => refine' ⟨_, PySem.W.mg_of KX G ?a, ⟨?pg, ?hd, ?po, ?sa⟩, ?ha, ?hn, ?ht, ?hm⟩; (case a => k_is); (case pg => k_is); (case hd => k_is); (case po => k_is); (case sa => k_is); (case ha => k_is); (case hn => k_is); (case ht => k_is); (case hm => k_is)))
    (case cd_Feed => refine' U.clsd_mk KX G ?a ?pg ?hd ?po ?sa ?mk ?kc; (case a => k_is); (case pg => k_is); (case hd => k_is); (case po => k_is); (case sa => k_is); (case mk => k_is); (case kc => k_is))
    (case d__law_cell_at => refine' T.def_mk (st := Law.s__law_cell_at) KX G ?a ?l ?c ?k (fun _ _ _ _ _ _ us hl => match us, hl with | [_, _], _ => rfl); (case a => k_is); (case l => k_is); (case c => k_is); (case k => k_is))
    (case dm_Feed___init__ => refine' U.defm_mk (st := Law.s_Feed___init__) KX G ?a ?m ?i ?l ?c ?k (fun _ _ _ _ _ _ us hl => match us, hl with | [_, _], _ => rfl); (case a => k_is); (case m => k_is); (case i => k_is); (case l => k_is); (case c => k_is); (case k => k_is))
    (case d__law_some => refine' T.def_mk (st := Law.s__law_some) KX G ?a ?l ?c ?k (fun _ _ _ _ _ _ us hl => match us, hl with | [_, _, _, _], _ => rfl); (case a => k_is); (case l => k_is); (case c => k_is); (case k => k_is))
    (case dm_Feed_taken => refine' U.defm_mk (st := Law.s_Feed_taken) KX G ?a ?m ?i ?l ?c ?k (fun _ _ _ _ _ _ us hl => match us, hl with | [_], _ => rfl); (case a => k_is); (case m => k_is); (case i => k_is); (case l => k_is); (case c => k_is); (case k => k_is))
    (case d__law_due => refine' T.def_mk (st := Law.s__law_due) KX G ?a ?l ?c ?k (fun _ _ _ _ _ _ us hl => match us, hl with | [_, _], _ => rfl); (case a => k_is); (case l => k_is); (case c => k_is); (case k => k_is))
    (case d__law_whole => refine' T.def_mk (st := Law.s__law_whole) KX G ?a ?l ?c ?k (fun _ _ _ _ _ _ us hl => match us, hl with | [_], _ => rfl); (case a => k_is); (case l => k_is); (case c => k_is); (case k => k_is))
    (case d_law => refine' T.def_mk (st := Law.s_law) KX G ?a ?l ?c ?k (fun _ _ _ _ _ _ us hl => match us, hl with | [_], _ => rfl); (case a => k_is); (case l => k_is); (case c => k_is); (case k => k_is))
