import PyProof.Rows.All
import Wide.All
import OpenK.AllK
import Wide.FinOn
import HandS.ForExc
import HandS.ForMost
import HandS.Wide
import HandS.IsInst
import HandS.Flow
import HandS.Style
import PySem.Challenge.RW_rowbreadth_k21_words_of_a_line
set_option Elab.async false
set_option linter.all false
set_option maxRecDepth 100000
set_option maxHeartbeats 4000000
/-! A second layer over HandS: data as trees, a def's body as a plain function on trees. -/
namespace T
open PySem PySem.Spec PyProof.Rows L2

/-! ### data as trees -/
inductive D where
  | non | bl (b : Bool) | int (i : Int) | str (s : Str) | ty (n : String) | glo (x : Str)
  | tup (xs : List D) | lst (xs : List D) | scr (ns : List Int)
  | obj (c : Str) (fs : List (Str × D)) | dct (kvs : List (Key × D))
/-- what a run ends with: a value, an exception of the program's own, or it is not told -/
inductive Ex where
  | stuck
  | exc (c : Str) (fs : List (Str × D))
inductive R (α : Type) where
  | ok (a : α)
  | err (e : Ex)
def R.bind {α β : Type} (x : R α) (f : α → R β) : R β := match x with
  | .ok a => f a
  | .err e => .err e
@[simp] theorem R.bind_ok {α β : Type} (a : α) (f : α → R β) : R.bind (.ok a) f = f a := rfl
@[simp] theorem R.bind_err {α β : Type} (e : Ex) (f : α → R β) : R.bind (.err e) f = .err e := rfl
abbrev R.stuck {α : Type} : R α := .err .stuck
instance : Monad R where
  pure := .ok
  bind := R.bind
@[simp] theorem R.bind_eq {α β : Type} (x : R α) (f : α → R β) : (x >>= f) = R.bind x f := rfl
@[simp] theorem R.pure_eq {α : Type} (a : α) : (pure a : R α) = .ok a := rfl
theorem R.bind_assoc {α β γ : Type} (x : R α) (f : α → R β) (g : β → R γ) : (x.bind f).bind g = x.bind fun a => (f a).bind g := by
  cases x <;> rfl

/-! ### a tree in the heap -/
structure Wd where
  K : PySem.W.Frag
  mg : Str → Option Value
mutual
inductive Rep (W : Wd) (G : Hp) : V → D → Prop
  | non : Rep W G .non .non
  | bl (b : Bool) : Rep W G (.bl b) (.bl b)
  | int (i : Int) : Rep W G (.int i) (.int i)
  | str (x : Str) : Rep W G (.str x) (.str x)
  | ty (n : String) : Rep W G (.ty n) (.ty n)
  | glo {x : Str} {a : Addr} : W.mg x = some (.ref a) → Rep W G (.ref a) (.glo x)
  | tup {a : Addr} {vs : List V} {ds : List D} : G a = some (.tup vs) → Reps W G vs ds → Rep W G (.ref a) (.tup ds)
  | lst {a : Addr} {vs : List V} {ds : List D} : G a = some (.lst vs) → Reps W G vs ds → Rep W G (.ref a) (.lst ds)
  | scr {a : Addr} {ns : List Int} : SqL W.K G a (ns.map V.int) → Rep W G (.ref a) (.scr ns)
  | obj {a C dx : Addr} {c : Str} {fs : List (Str × V)} {ds : List (Str × D)} : W.mg c = some (.ref C) → G a = some (.ins C dx fs) → Flds W G fs ds → Rep W G (.ref a) (.obj c ds)
  | dct {a : Addr} {kvs : List (Key × V)} {ds : List (Key × D)} : G a = some (.dK kvs) → Prs W G kvs ds → Rep W G (.ref a) (.dct ds)
inductive Reps (W : Wd) (G : Hp) : List V → List D → Prop
  | nil : Reps W G [] []
  | cons {v : V} {vs : List V} {d : D} {ds : List D} : Rep W G v d → Reps W G vs ds → Reps W G (v :: vs) (d :: ds)
inductive Flds (W : Wd) (G : Hp) : List (Str × V) → List (Str × D) → Prop
  | nil : Flds W G [] []
  | cons {f : Str} {v : V} {vs : List (Str × V)} {d : D} {ds : List (Str × D)} : Rep W G v d → Flds W G vs ds → Flds W G ((f, v) :: vs) ((f, d) :: ds)
inductive Prs (W : Wd) (G : Hp) : List (Key × V) → List (Key × D) → Prop
  | nil : Prs W G [] []
  | cons {k : Key} {v : V} {vs : List (Key × V)} {d : D} {ds : List (Key × D)} : Rep W G v d → Prs W G vs ds → Prs W G ((k, v) :: vs) ((k, d) :: ds)
end
section
variable {W : Wd} {G G' : Hp}
mutual
theorem Rep.mono (h : Same G G') : ∀ {v : V} {d : D}, Rep W G v d → Rep W G' v d
  | _, _, .non => .non
  | _, _, .bl b => .bl b
  | _, _, .int i => .int i
  | _, _, .str x => .str x
  | _, _, .ty n => .ty n
  | _, _, .glo e => .glo e
  | _, _, .tup e r => .tup (h _ _ e) (Reps.mono h r)
  | _, _, .lst e r => .lst (h _ _ e) (Reps.mono h r)
  | _, _, .scr e => .scr (h.seq e)
  | _, _, .obj m e r => .obj m (h _ _ e) (Flds.mono h r)
  | _, _, .dct e r => .dct (h _ _ e) (Prs.mono h r)
theorem Reps.mono (h : Same G G') : ∀ {vs : List V} {ds : List D}, Reps W G vs ds → Reps W G' vs ds
  | _, _, .nil => .nil
  | _, _, .cons r t => .cons (Rep.mono h r) (Reps.mono h t)
theorem Flds.mono (h : Same G G') : ∀ {vs : List (Str × V)} {ds : List (Str × D)}, Flds W G vs ds → Flds W G' vs ds
  | _, _, .nil => .nil
  | _, _, .cons r t => .cons (Rep.mono h r) (Flds.mono h t)
theorem Prs.mono (h : Same G G') : ∀ {vs : List (Key × V)} {ds : List (Key × D)}, Prs W G vs ds → Prs W G' vs ds
  | _, _, .nil => .nil
  | _, _, .cons r t => .cons (Rep.mono h r) (Prs.mono h t)
end
theorem Reps.length : ∀ {vs : List V} {ds : List D}, Reps W G vs ds → vs.length = ds.length
  | _, _, .nil => rfl
  | _, _, .cons _ t => congrArg (· + 1) t.length
theorem Reps.get : ∀ {vs : List V} {ds : List D} {i : Nat} {d : D}, Reps W G vs ds → ds[i]? = some d → ∃ v, vs[i]? = some v ∧ Rep W G v d
  | _, _, i, _, .nil, h => by simp at h
  | _, _, 0, _, .cons r _, h => by simp at h; subst h; exact ⟨_, rfl, r⟩
  | _, _, i + 1, _, .cons _ t, h => by simpa using Reps.get (i := i) t (by simpa using h)
theorem Reps.getV : ∀ {vs : List V} {ds : List D} {i : Nat} {v : V}, Reps W G vs ds → vs[i]? = some v → ∃ d, ds[i]? = some d ∧ Rep W G v d
  | _, _, i, _, .nil, h => by simp at h
  | _, _, 0, _, .cons r _, h => by simp at h; subst h; exact ⟨_, rfl, r⟩
  | _, _, i + 1, _, .cons _ t, h => by simpa using Reps.getV (i := i) t (by simpa using h)
theorem Reps.append : ∀ {vs ws : List V} {ds es : List D}, Reps W G vs ds → Reps W G ws es → Reps W G (vs ++ ws) (ds ++ es)
  | _, _, _, _, .nil, s => s
  | _, _, _, _, .cons r t, s => .cons r (Reps.append t s)
theorem Reps.take : ∀ {vs : List V} {ds : List D} (n : Nat), Reps W G vs ds → Reps W G (vs.take n) (ds.take n)
  | _, _, 0, _ => .nil
  | _, _, _ + 1, .nil => .nil
  | _, _, n + 1, .cons r t => .cons r (Reps.take n t)
theorem Reps.drop : ∀ {vs : List V} {ds : List D} (n : Nat), Reps W G vs ds → Reps W G (vs.drop n) (ds.drop n)
  | _, _, 0, r => r
  | _, _, _ + 1, .nil => .nil
  | _, _, n + 1, .cons _ t => Reps.drop n t
theorem Reps.set : ∀ {vs : List V} {ds : List D} {v : V} {d : D} (n : Nat), Rep W G v d → Reps W G vs ds → Reps W G (vs.set n v) (ds.set n d)
  | _, _, _, _, _, _, .nil => .nil
  | _, _, _, _, 0, q, .cons _ t => .cons q t
  | _, _, _, _, n + 1, q, .cons r t => .cons r (Reps.set n q t)
theorem Reps.reverse : ∀ {vs : List V} {ds : List D}, Reps W G vs ds → Reps W G vs.reverse ds.reverse
  | _, _, .nil => .nil
  | _, _, .cons r t => by
    rw [List.reverse_cons, List.reverse_cons]
    exact (Reps.reverse t).append (.cons r .nil)
theorem Reps.dropLast {vs : List V} {ds : List D} (r : Reps W G vs ds) : Reps W G vs.dropLast ds.dropLast := by
  rw [List.dropLast_eq_take, List.dropLast_eq_take, r.length]
  exact r.take _
theorem Reps.eraseIdx : ∀ {vs : List V} {ds : List D} (n : Nat), Reps W G vs ds → Reps W G (vs.eraseIdx n) (ds.eraseIdx n)
  | _, _, _, .nil => .nil
  | _, _, 0, .cons _ t => t
  | _, _, n + 1, .cons r t => .cons r (Reps.eraseIdx n t)
theorem Reps.ints : ∀ (ns : List Int), Reps W G (ns.map V.int) (ns.map D.int)
  | [] => .nil
  | n :: ns => .cons (.int n) (Reps.ints ns)
theorem Reps.rep {v : V} {d : D} (r : Rep W G v d) : ∀ n : Nat, Reps W G (List.replicate n v) (List.replicate n d)
  | 0 => .nil
  | n + 1 => .cons r (Reps.rep r n)
theorem Reps.flatRep {vs : List V} {ds : List D} (r : Reps W G vs ds) : ∀ n : Nat, Reps W G (List.replicate n vs).flatten (List.replicate n ds).flatten
  | 0 => .nil
  | n + 1 => by
    rw [List.replicate_succ, List.replicate_succ, List.flatten_cons, List.flatten_cons]
    exact r.append (Reps.flatRep r n)
end

/-! ### slots: a frozen tree, or a list (a dict) that only this slot has -/
inductive Sl where
  | un | val (d : D) | own (d : D)
abbrev En := List Sl
structure Bs where
  W : Wd
  H0 : Hp
  G0 : Hp
  E : Str → List (Str × D) → Hp → Prop
def Body (W : Wd) (G H : Hp) (p : Addr) (d : D) : Prop :=
  (∃ vs ds, d = .lst ds ∧ H p = some (.lst vs) ∧ Reps W G vs ds) ∨ (∃ vs ds, d = .dct ds ∧ H p = some (.dK vs) ∧ Prs W G vs ds)
structure OwnAt (B : Bs) (G H : Hp) (p : Addr) (d : D) : Prop where
  h0 : B.H0 p = none
  g : G p = none
  body : Body B.W G H p d
def SlOk (B : Bs) (G H : Hp) (o : Option (Option V)) : Sl → Prop
  | .un => True
  | .val d => ∃ v, o = some (some v) ∧ Rep B.W G v d
  | .own d => ∃ p, o = some (some (.ref p)) ∧ OwnAt B G H p d
def Owned (ρ : En) (σ : L2.St) (p : Addr) : Prop := ∃ (i : Nat) (d : D), ρ[i]? = some (.own d) ∧ σ[i]? = some (some (.ref p))
structure Ok (B : Bs) (ρ : En) (G : Hp) (σ : L2.St) (H : Hp) : Prop where
  len : ρ.length = σ.length
  g0 : Same B.G0 G
  gh : Same G H
  h0 : Same B.H0 H
  nw : ∀ a o, G a = some o → B.G0 a = some o ∨ B.H0 a = none
  sl : ∀ (i : Nat) s, ρ[i]? = some s → SlOk B G H σ[i]? s
  ap : ∀ (i j : Nat) d e p, ρ[i]? = some (.own d) → ρ[j]? = some (.own e) → σ[i]? = some (some (.ref p)) → σ[j]? = some (some (.ref p)) → i = j
def SlLe : Sl → Sl → Prop
  | .own _, .own _ => True
  | .val _, .own _ => True
  | .val d, .val e => d = e
  | .un, .un => True
  | _, _ => False
theorem SlLe.refl (s : Sl) : SlLe s s := by cases s <;> first | trivial | rfl
theorem SlLe.trans {a b c : Sl} (h : SlLe a b) (k : SlLe b c) : SlLe a c := by
  cases a <;> cases b <;> cases c <;> simp_all [SlLe]
/-- from one state to the next while an expression is evaluated -/
structure Nx (B : Bs) (ρ : En) (G : Hp) (σ : L2.St) (H : Hp) (ρ' : En) (G' H' : Hp) : Prop where
  ext : Same G G'
  ok : Ok B ρ' G' σ H'
  keep : ∀ a o, H a = some o → ¬ Owned ρ σ a → H' a = some o
  gnew : ∀ a o, G' a = some o → G a = some o ∨ H a = none ∨ Owned ρ σ a
  le : ∀ (i : Nat) s', ρ'[i]? = some s' → ∃ s, ρ[i]? = some s ∧ SlLe s' s
  dom : ∀ a o, H a = some o → ∃ o', H' a = some o'
section
variable {B : Bs} {ρ ρ' ρ'' : En} {G G' G'' : Hp} {σ σ' : L2.St} {H H' H'' : Hp}
theorem Nx.refl (ok : Ok B ρ G σ H) : Nx B ρ G σ H ρ G H := ⟨Same.refl _, ok, fun _ _ e _ => e, fun _ _ e => .inl e, fun _ s e => ⟨s, e, SlLe.refl s⟩, fun _ o e => ⟨o, e⟩⟩
theorem Nx.owned (n : Nx B ρ G σ H ρ' G' H') {a : Addr} (h : Owned ρ' σ a) : Owned ρ σ a := by
  obtain ⟨i, d, e, q⟩ := h
  obtain ⟨s, e', l⟩ := n.le i _ e
  cases s with
  | own d' => exact ⟨i, d', e', q⟩
  | val _ => exact (show False from l).elim
  | un => exact (show False from l).elim
theorem Ok.ownedSome (ok : Ok B ρ G σ H) {a : Addr} (h : Owned ρ σ a) : ∃ o, H a = some o := by
  obtain ⟨i, d, e, q⟩ := h
  obtain ⟨p, e2, _, _, b⟩ := (show SlOk B G H σ[i]? (.own d) from ok.sl i _ e)
  rw [q] at e2
  cases e2
  rcases b with ⟨vs, ds, _, hb, _⟩ | ⟨vs, ds, _, hb, _⟩
  · exact ⟨_, hb⟩
  · exact ⟨_, hb⟩
theorem Nx.trans (n : Nx B ρ G σ H ρ' G' H') (m : Nx B ρ' G' σ H' ρ'' G'' H'') : Nx B ρ G σ H ρ'' G'' H'' := by
  refine ⟨n.ext.trans m.ext, m.ok, fun a o e no => m.keep a o (n.keep a o e no) fun z => no (n.owned z), fun a o e => ?_, fun i s e => ?_, fun a o e => ?_⟩
  · rcases m.gnew a o e with h | h | h
    · exact n.gnew a o h
    · by_cases z : Owned ρ σ a
      · exact .inr (.inr z)
      · refine .inr (.inl ?_)
        cases q : H a with
        | none => rfl
        | some u => rw [n.keep a u q z] at h; cases h
    · exact .inr (.inr (n.owned h))
  · obtain ⟨s1, e1, l1⟩ := m.le i s e
    obtain ⟨s2, e2, l2⟩ := n.le i s1 e1
    exact ⟨s2, e2, l1.trans l2⟩
  · obtain ⟨o1, e1⟩ := n.dom a o e
    exact m.dom a o1 e1
theorem Nx.free (n : Nx B ρ G σ H ρ' G' H') {a : Addr} (e : H' a = none) : H a = none := by
  cases q : H a with
  | none => rfl
  | some o =>
    obtain ⟨o', e'⟩ := n.dom a o q
    rw [e'] at e; cases e
end

/-! ### results of expressions -/
inductive Rs where
  | val (d : D) | new (d : D) | bor (i : Nat)
def RsOk (B : Bs) (ρ : En) (G : Hp) (σ : L2.St) (H : Hp) (v : V) : Rs → Prop
  | .val d => Rep B.W G v d
  | .new d => ∃ p, v = .ref p ∧ OwnAt B G H p d ∧ ¬ Owned ρ σ p
  | .bor i => σ[i]? = some (some v)
/-- a result that is no new one -/
def RvOk (B : Bs) (G : Hp) (σ : L2.St) (v : V) : Rs → Prop
  | .val d => Rep B.W G v d
  | .new _ => False
  | .bor i => σ[i]? = some (some v)
inductive RvsOk (B : Bs) (G : Hp) (σ : L2.St) : List V → List Rs → Prop
  | nil : RvsOk B G σ [] []
  | cons {v vs r rs} : RvOk B G σ v r → RvsOk B G σ vs rs → RvsOk B G σ (v :: vs) (r :: rs)
/-- a new result is newer than where its expression began -/
def Fr (H : Hp) (v : V) : Rs → Prop
  | .new _ => ∀ p, v = .ref p → H p = none
  | _ => True
abbrev M (α : Type) := En → R (α × En)
def PR (B : Bs) (ρ : En) (G : Hp) (σ : L2.St) (H : Hp) (Q : V → Hp → Prop) : R (Rs × En) → Prop
  | .ok (r, ρ') => ∀ v G' H', Nx B ρ G σ H ρ' G' H' → RsOk B ρ' G' σ H' v r → Fr H v r → Q v H'
  | .err (.exc c fs) => ∀ H', Same B.H0 H' → B.E c fs H'
  | .err .stuck => False
def PT' (B : Bs) (ρ : En) (G : Hp) (σ : L2.St) (H : Hp) (Q : Bool → Hp → Prop) : R (Bool × En) → Prop
  | .ok (b, ρ') => ∀ G' H', Nx B ρ G σ H ρ' G' H' → Q b H'
  | .err (.exc c fs) => ∀ H', Same B.H0 H' → B.E c fs H'
  | .err .stuck => False
def PL (B : Bs) (ρ : En) (G : Hp) (σ : L2.St) (H : Hp) (Q : List V → Hp → Prop) : R (List Rs × En) → Prop
  | .ok (rs, ρ') => ∀ vs G' H', Nx B ρ G σ H ρ' G' H' → RvsOk B G' σ vs rs → Q vs H'
  | .err (.exc c fs) => ∀ H', Same B.H0 H' → B.E c fs H'
  | .err .stuck => False
def tR (B : Bs) (m : M Rs) : TE := fun σ H Q => ∃ ρ G, Ok B ρ G σ H ∧ PR B ρ G σ H Q (m ρ)
def tT (B : Bs) (m : M Bool) : TT := fun σ H Q => ∃ ρ G, Ok B ρ G σ H ∧ PT' B ρ G σ H Q (m ρ)
def tA (B : Bs) (m : M (List Rs)) : TA := fun σ H Q => ∃ ρ G, Ok B ρ G σ H ∧ PL B ρ G σ H Q (m ρ)
section
variable {B : Bs} {ρ ρ' ρ1 : En} {G G' G1 : Hp} {σ σ' : L2.St} {H H' H1 : Hp} {Q : V → Hp → Prop}
theorem Fr.back (n : Nx B ρ G σ H ρ1 G1 H1) {v : V} {r : Rs} (h : Fr H1 v r) : Fr H v r := by
  cases r with
  | new d => exact fun p e => n.free (h p e)
  | _ => exact True.intro
theorem PR.mono (n : Nx B ρ G σ H ρ1 G1 H1) {x : R (Rs × En)} (h : PR B ρ G σ H Q x) : PR B ρ1 G1 σ H1 Q x := by
  cases x with
  | ok a => obtain ⟨r, ρ'⟩ := a; exact fun v G' H' m q f => h v G' H' (n.trans m) q (f.back n)
  | err e => cases e <;> exact h
theorem PT'.mono {Q : Bool → Hp → Prop} (n : Nx B ρ G σ H ρ1 G1 H1) {x : R (Bool × En)} (h : PT' B ρ G σ H Q x) : PT' B ρ1 G1 σ H1 Q x := by
  cases x with
  | ok a => obtain ⟨r, ρ'⟩ := a; exact fun G' H' m => h G' H' (n.trans m)
  | err e => cases e <;> exact h
theorem PL.mono {Q : List V → Hp → Prop} (n : Nx B ρ G σ H ρ1 G1 H1) {x : R (List Rs × En)} (h : PL B ρ G σ H Q x) : PL B ρ1 G1 σ H1 Q x := by
  cases x with
  | ok a => obtain ⟨r, ρ'⟩ := a; exact fun v G' H' m q => h v G' H' (n.trans m) q
  | err e => cases e <;> exact h
/-- what is wanted where a run ends in an error, whatever its kind -/
def PErr (B : Bs) : Ex → Prop
  | .exc c fs => ∀ H', Same B.H0 H' → B.E c fs H'
  | .stuck => False
theorem PR.err {e : Ex} (h : PR B ρ G σ H Q (.err e)) : PErr B e := by cases e <;> exact h
theorem PT'.err {Q : Bool → Hp → Prop} {e : Ex} (h : PT' B ρ G σ H Q (.err e)) : PErr B e := by cases e <;> exact h
theorem PL.err {Q : List V → Hp → Prop} {e : Ex} (h : PL B ρ G σ H Q (.err e)) : PErr B e := by cases e <;> exact h
theorem RvOk.mono (e : Same G G1) {v : V} {r : Rs} (h : RvOk B G σ v r) : RvOk B G1 σ v r := by
  cases r with
  | val d => exact Rep.mono e h
  | bor i => exact h
  | new d => exact h
theorem RvsOk.mono (e : Same G G1) : ∀ {vs : List V} {rs : List Rs}, RvsOk B G σ vs rs → RvsOk B G1 σ vs rs
  | _, _, .nil => .nil
  | _, _, .cons r t => .cons (r.mono e) (RvsOk.mono e t)
theorem own_lt {i : Nat} {s : Sl} (e : ρ[i]? = some s) : i < ρ.length := (List.getElem?_eq_some_iff.mp e).1
/-- a cell that is only ours becomes frozen -/
theorem freeze {p : Addr} {d : D} (ok : Ok B ρ G σ H) (o : OwnAt B G H p d) (hρ : ∀ (j : Nat) e, ρ'[j]? = some (.own e) → ρ[j]? = some (.own e) ∧ σ[j]? ≠ some (some (.ref p)))
    (hv : ∀ (j : Nat) e, ρ'[j]? = some (.val e) → ρ[j]? = some (.val e) ∨ (ρ[j]? = some (.own e) ∧ e = d ∧ σ[j]? = some (some (.ref p)))) (hl : ρ'.length = ρ.length) :
    ∃ o', H p = some o' ∧ Ok B ρ' (upd G p o') σ H ∧ Rep B.W (upd G p o') (.ref p) d ∧ Same G (upd G p o') := by
  obtain ⟨o1, o2, o3⟩ := o
  have ext : ∀ o', Same G (upd G p o') := fun o' b u e => by rw [upd_ne (ne_of_none e o2)]; exact e
  have main : ∀ o', H p = some o' → Rep B.W (upd G p o') (.ref p) d → Ok B ρ' (upd G p o') σ H := fun o' hp rp => by
    refine ⟨hl.trans ok.len, ok.g0.trans (ext o'), fun b u e => ?_, ok.h0, fun b u e => ?_, fun i s e => ?_, fun i j a b q e1 e2 => ok.ap i j a b q (hρ i a e1).1 (hρ j b e2).1⟩
    · by_cases hb : b = p
      · subst hb; rw [upd_same] at e; cases e; exact hp
      · rw [upd_ne hb] at e; exact ok.gh b u e
    · by_cases hb : b = p
      · subst hb; exact .inr o1
      · rw [upd_ne hb] at e; exact ok.nw b u e
    · cases s with
      | un => exact True.intro
      | val a =>
        rcases hv i a e with z | ⟨_, ez, z⟩
        · obtain ⟨u, q1, q2⟩ := (show SlOk B G H σ[i]? (.val a) from ok.sl i _ z)
          exact ⟨u, q1, q2.mono (ext o')⟩
        · subst ez
          exact ⟨_, z, rp⟩
      | own a =>
        obtain ⟨q, q1, ⟨w1, w2, w3⟩⟩ := (show SlOk B G H σ[i]? (.own a) from ok.sl i _ (hρ i a e).1)
        refine ⟨q, q1, w1, ?_, ?_⟩
        · rw [upd_ne]
          · exact w2
          · rintro rfl
            exact (hρ i a e).2 q1
        · rcases w3 with ⟨vs, ds, z1, z2, z3⟩ | ⟨vs, ds, z1, z2, z3⟩
          · exact .inl ⟨vs, ds, z1, z2, z3.mono (ext o')⟩
          · exact .inr ⟨vs, ds, z1, z2, z3.mono (ext o')⟩
  rcases o3 with ⟨vs, ds, rfl, hb, r⟩ | ⟨vs, ds, rfl, hb, r⟩
  · have rp : Rep B.W (upd G p (.lst vs)) (.ref p) (.lst ds) := .lst upd_same (r.mono (ext _))
    exact ⟨_, hb, main _ hb rp, rp, ext _⟩
  · have rp : Rep B.W (upd G p (.dK vs)) (.ref p) (.dct ds) := .dct upd_same (r.mono (ext _))
    exact ⟨_, hb, main _ hb rp, rp, ext _⟩
end

/-! ### settling a result: a new one is frozen -/
@[simp] def st : Rs → Rs
  | .new d => .val d
  | r => r
section
variable {B : Bs} {ρ ρ' ρ1 : En} {G G' G1 : Hp} {σ σ' : L2.St} {H H' H1 : Hp} {v : V} {r : Rs} {d : D} {Q : V → Hp → Prop}
theorem settle (n : Nx B ρ G σ H ρ1 G1 H1) (h : RsOk B ρ1 G1 σ H1 v r) (f : Fr H v r) : ∃ G2, Nx B ρ G σ H ρ1 G2 H1 ∧ RvOk B G2 σ v (st r) ∧ Same G1 G2 := by
  cases r with
  | val d => exact ⟨G1, n, h, Same.refl _⟩
  | bor i => exact ⟨G1, n, h, Same.refl _⟩
  | new d =>
    obtain ⟨p, rfl, o, no⟩ := h
    obtain ⟨o', hp, ok', rp, ext⟩ := freeze (ρ' := ρ1) n.ok o (fun j e q => ⟨q, fun z => no ⟨j, e, q, z⟩⟩) (fun j e q => .inl q) rfl
    refine ⟨_, ⟨n.ext.trans ext, ok', n.keep, fun a u q => ?_, n.le, n.dom⟩, rp, ext⟩
    by_cases z : a = p
    · subst z; exact .inr (.inl (f _ rfl))
    · rw [upd_ne z] at q; exact n.gnew a u q
/-- THE BIND: an expression ahead of what is done with its settled result -/
theorem run {α : Type} {m : M Rs} {X : Rs × En → R α} {P : R α → En → Hp → Hp → Prop} (ok : Ok B ρ G σ H) (h : P ((m ρ).bind X) ρ G H)
    (hm : ∀ {ρ1 G1 H1} x, Nx B ρ G σ H ρ1 G1 H1 → P x ρ G H → P x ρ1 G1 H1) (he : ∀ e, P (.err e) ρ G H → PErr B e) :
    tR B m σ H fun x H1 => ∃ r ρ1 G1, Nx B ρ G σ H ρ1 G1 H1 ∧ RvOk B G1 σ x (st r) ∧ P (X (r, ρ1)) ρ1 G1 H1 := by
  refine ⟨ρ, G, ok, ?_⟩
  cases e : m ρ with
  | ok a =>
    obtain ⟨r, ρ1⟩ := a
    rw [e] at h
    intro v G' H' n q f
    obtain ⟨G2, n2, q2, _⟩ := settle n q f
    exact ⟨r, ρ1, G2, n2, q2, hm _ n2 h⟩
  | err e' =>
    rw [e] at h
    have := he e' h
    cases e' <;> exact this
/-- .. with the result as it came -/
theorem runN {α : Type} {m : M Rs} {X : Rs × En → R α} {P : R α → En → Hp → Hp → Prop} (ok : Ok B ρ G σ H) (h : P ((m ρ).bind X) ρ G H)
    (hm : ∀ {ρ1 G1 H1} x, Nx B ρ G σ H ρ1 G1 H1 → P x ρ G H → P x ρ1 G1 H1) (he : ∀ e, P (.err e) ρ G H → PErr B e) :
    tR B m σ H fun x H1 => ∃ r ρ1 G1, Nx B ρ G σ H ρ1 G1 H1 ∧ RsOk B ρ1 G1 σ H1 x r ∧ Fr H x r ∧ P (X (r, ρ1)) ρ1 G1 H1 := by
  refine ⟨ρ, G, ok, ?_⟩
  cases e : m ρ with
  | ok a =>
    obtain ⟨r, ρ1⟩ := a
    rw [e] at h
    exact fun v G' H' n q f => ⟨r, ρ1, G', n, q, f, hm _ n h⟩
  | err e' =>
    rw [e] at h
    have := he e' h
    cases e' <;> exact this
theorem runT {α : Type} {m : M Bool} {X : Bool × En → R α} {P : R α → En → Hp → Hp → Prop} (ok : Ok B ρ G σ H) (h : P ((m ρ).bind X) ρ G H)
    (hm : ∀ {ρ1 G1 H1} x, Nx B ρ G σ H ρ1 G1 H1 → P x ρ G H → P x ρ1 G1 H1) (he : ∀ e, P (.err e) ρ G H → PErr B e) :
    tT B m σ H fun b H1 => ∃ ρ1 G1, Nx B ρ G σ H ρ1 G1 H1 ∧ P (X (b, ρ1)) ρ1 G1 H1 := by
  refine ⟨ρ, G, ok, ?_⟩
  cases e : m ρ with
  | ok a =>
    obtain ⟨r, ρ1⟩ := a
    rw [e] at h
    exact fun G' H' n => ⟨ρ1, G', n, hm _ n h⟩
  | err e' =>
    rw [e] at h
    have := he e' h
    cases e' <;> exact this
theorem runL {α : Type} {m : M (List Rs)} {X : List Rs × En → R α} {P : R α → En → Hp → Hp → Prop} (ok : Ok B ρ G σ H) (h : P ((m ρ).bind X) ρ G H)
    (hm : ∀ {ρ1 G1 H1} x, Nx B ρ G σ H ρ1 G1 H1 → P x ρ G H → P x ρ1 G1 H1) (he : ∀ e, P (.err e) ρ G H → PErr B e) :
    tA B m σ H fun vs H1 => ∃ rs ρ1 G1, Nx B ρ G σ H ρ1 G1 H1 ∧ RvsOk B G1 σ vs rs ∧ P (X (rs, ρ1)) ρ1 G1 H1 := by
  refine ⟨ρ, G, ok, ?_⟩
  cases e : m ρ with
  | ok a =>
    obtain ⟨r, ρ1⟩ := a
    rw [e] at h
    exact fun v G' H' n q => ⟨r, ρ1, G', n, q, hm _ n h⟩
  | err e' =>
    rw [e] at h
    have := he e' h
    cases e' <;> exact this
end

/-! ### looking at a result, freezing it -/
@[simp] def look (ρ : En) (i : Nat) : R D := match ρ[i]? with
  | some (.own d) => .ok d
  | some (.val d) => .ok d
  | _ => R.stuck
@[simp] def pk (ρ : En) : Rs → R D
  | .val d => .ok d
  | .new d => .ok d
  | .bor i => look ρ i
/-- a value that may be looked at -/
def PkOk (B : Bs) (G H : Hp) (v : V) (d : D) : Prop := Rep B.W G v d ∨ ∃ p, v = .ref p ∧ OwnAt B G H p d
@[simp] def fz (r : Rs) (ρ : En) : R (D × En) := match r with
  | .val d => .ok (d, ρ)
  | .new d => .ok (d, ρ)
  | .bor i => match ρ[i]? with
    | some (.own d) => .ok (d, ρ.set i (.val d))
    | some (.val d) => .ok (d, ρ)
    | _ => R.stuck
@[simp] def fzs : List Rs → En → R (List D × En)
  | [], ρ => .ok ([], ρ)
  | r :: rs, ρ => (fz r ρ).bind fun (d, ρ1) => (fzs rs ρ1).bind fun (ds, ρ2) => .ok (d :: ds, ρ2)
section
variable {B : Bs} {ρ ρ' ρ1 : En} {G G' G1 : Hp} {σ σ' : L2.St} {H H' H1 : Hp} {v : V} {r : Rs} {d : D}
theorem pk_ok (ok : Ok B ρ G σ H) (h : RvOk B G σ v (st r)) (e : pk ρ r = .ok d) : PkOk B G H v d := by
  cases r with
  | val d' => cases e; exact .inl h
  | new d' => cases e; exact .inl h
  | bor i =>
    have e : look ρ i = .ok d := e
    have h : σ[i]? = some (some v) := h
    unfold look at e
    split at e
    · rename_i d' q
      cases e
      obtain ⟨p, e2, o⟩ := (show SlOk B G H σ[i]? (.own d) from ok.sl i _ q)
      rw [h] at e2
      cases e2
      exact .inr ⟨p, rfl, o⟩
    · rename_i d' q
      cases e
      obtain ⟨u, e2, o⟩ := (show SlOk B G H σ[i]? (.val d) from ok.sl i _ q)
      rw [h] at e2
      cases e2
      exact .inl o
    · cases e
theorem fz_ok (ok : Ok B ρ G σ H) (h : RvOk B G σ v (st r)) (e : fz r ρ = .ok (d, ρ')) : ∃ G', Nx B ρ G σ H ρ' G' H ∧ Rep B.W G' v d := by
  cases r with
  | val d' => cases e; exact ⟨G, Nx.refl ok, h⟩
  | new d' => cases e; exact ⟨G, Nx.refl ok, h⟩
  | bor i =>
    have h : σ[i]? = some (some v) := h
    unfold fz at e
    dsimp only at e
    split at e
    · rename_i d' q
      cases e
      obtain ⟨p, e2, o⟩ := (show SlOk B G H σ[i]? (.own d) from ok.sl i _ q)
      rw [h] at e2
      cases e2
      have hi := own_lt q
      obtain ⟨o', hp, ok', rp, ext⟩ := freeze (ρ' := ρ.set i (.val d)) ok o (fun j e z => by
          by_cases hj : i = j
          · subst hj; rw [List.getElem?_set_self hi] at z; cases z
          · rw [List.getElem?_set_ne hj] at z
            exact ⟨z, fun w => hj (ok.ap i j _ _ p q z h w)⟩) (fun j e z => by
          by_cases hj : i = j
          · subst hj; rw [List.getElem?_set_self hi] at z; cases z; exact .inr ⟨q, rfl, h⟩
          · rw [List.getElem?_set_ne hj] at z; exact .inl z) (List.length_set ..)
      refine ⟨_, ⟨ext, ok', fun _ _ q _ => q, fun a u z => ?_, fun j s z => ?_, fun _ o e => ⟨o, e⟩⟩, rp⟩
      · by_cases w : a = p
        · subst w; exact .inr (.inr ⟨i, d, q, h⟩)
        · rw [upd_ne w] at z; exact .inl z
      · by_cases hj : i = j
        · subst hj; rw [List.getElem?_set_self hi] at z; cases z; exact ⟨_, q, True.intro⟩
        · rw [List.getElem?_set_ne hj] at z; exact ⟨s, z, SlLe.refl s⟩
    · rename_i d' q
      cases e
      obtain ⟨u, e2, o⟩ := (show SlOk B G H σ[i]? (.val d) from ok.sl i _ q)
      rw [h] at e2
      cases e2
      exact ⟨G, Nx.refl ok, o⟩
    · cases e
theorem st_st (r : Rs) : st (st r) = st r := by cases r <;> rfl
theorem fzs_ok : ∀ {rs : List Rs} {vs : List V} {ds : List D} {ρ ρ' : En} {G : Hp}, Ok B ρ G σ H → RvsOk B G σ vs rs → fzs rs ρ = .ok (ds, ρ') → ∃ G', Nx B ρ G σ H ρ' G' H ∧ Reps B.W G' vs ds
  | [], _, _, ρ, ρ', G, ok, .nil, e => by cases e; exact ⟨G, Nx.refl ok, .nil⟩
  | r :: rs, _, ds, ρ, ρ', G, ok, .cons (v := v) h t, e => by
    unfold fzs at e
    cases e1 : fz r ρ with
    | err x => rw [e1] at e; cases e
    | ok a =>
      obtain ⟨d, ρ1⟩ := a
      rw [e1] at e
      dsimp only [R.bind_ok] at e
      cases e2 : fzs rs ρ1 with
      | err x => rw [e2] at e; cases e
      | ok b =>
        obtain ⟨ds', ρ2⟩ := b
        rw [e2] at e
        cases e
        have h' : RvOk B G σ v (st r) := by cases r <;> first | exact h | exact (show False from h).elim
        obtain ⟨G1, n1, r1⟩ := fz_ok ok h' e1
        obtain ⟨G2, n2, r2⟩ := fzs_ok n1.ok (t.mono n1.ext) e2
        exact ⟨G2, n1.trans n2, .cons (r1.mono n2.ext) r2⟩
end
end T
namespace T
open PySem PySem.Spec PyProof.Rows L2

/-! ### weakening readings -/
section
variable {X : Cx}
theorem PE.imp {e : Expr} {t t' : TE} (h : PE X e t) (w : ∀ σ H Q, t' σ H Q → t σ H Q) : PE X e t' := ⟨fun pins s σ H Q I q => h.run pins s σ H Q I (w σ H Q q)⟩
theorem PT.imp {e : Expr} {t t' : TT} (h : PT X e t) (w : ∀ σ H Q, t' σ H Q → t σ H Q) : PT X e t' := ⟨fun pins s σ H Q I q => h.run pins s σ H Q I (w σ H Q q)⟩
theorem PW.imp {e : Expr} {t t' : TT} (h : PW X e t) (w : ∀ σ H Q, t' σ H Q → t σ H Q) : PW X e t' := ⟨fun wh pins s σ H Q I q => h.run wh pins s σ H Q I (w σ H Q q)⟩
theorem PA.imp {e : List Expr} {t t' : TA} (h : PA X e t) (w : ∀ σ H Q, t' σ H Q → t σ H Q) : PA X e t' := ⟨fun pos pins s σ H Q I q => h.run pos pins s σ H Q I (w σ H Q q)⟩
end

/-! ### what a looked-at value is -/
section
variable {B : Bs} {ρ : En} {G H : Hp} {σ : L2.St} {v : V}
theorem PkOk.int_of {i : Int} (h : PkOk B G H v (.int i)) : v = .int i := by
  rcases h with h | ⟨p, _, _, _, b⟩
  · cases h; rfl
  · rcases b with ⟨_, _, e, _⟩ | ⟨_, _, e, _⟩ <;> cases e
theorem PkOk.str_of {i : Str} (h : PkOk B G H v (.str i)) : v = .str i := by
  rcases h with h | ⟨p, _, _, _, b⟩
  · cases h; rfl
  · rcases b with ⟨_, _, e, _⟩ | ⟨_, _, e, _⟩ <;> cases e
theorem PkOk.bl_of {i : Bool} (h : PkOk B G H v (.bl i)) : v = .bl i := by
  rcases h with h | ⟨p, _, _, _, b⟩
  · cases h; rfl
  · rcases b with ⟨_, _, e, _⟩ | ⟨_, _, e, _⟩ <;> cases e
theorem PkOk.ty_of {i : String} (h : PkOk B G H v (.ty i)) : v = .ty i := by
  rcases h with h | ⟨p, _, _, _, b⟩
  · cases h; rfl
  · rcases b with ⟨_, _, e, _⟩ | ⟨_, _, e, _⟩ <;> cases e
theorem PkOk.lst_of (ok : Ok B ρ G σ H) {ds : List D} (h : PkOk B G H v (.lst ds)) : ∃ a vs, v = .ref a ∧ H a = some (.lst vs) ∧ Reps B.W G vs ds := by
  rcases h with h | ⟨p, rfl, _, _, b⟩
  · cases h with
    | lst e r => exact ⟨_, _, rfl, ok.gh _ _ e, r⟩
  · rcases b with ⟨vs, ds', e, hb, r⟩ | ⟨_, _, e, _⟩
    · cases e; exact ⟨_, _, rfl, hb, r⟩
    · cases e
theorem PkOk.tup_of (ok : Ok B ρ G σ H) {ds : List D} (h : PkOk B G H v (.tup ds)) : ∃ a vs, v = .ref a ∧ H a = some (.tup vs) ∧ Reps B.W G vs ds := by
  rcases h with h | ⟨p, rfl, _, _, b⟩
  · cases h with
    | tup e r => exact ⟨_, _, rfl, ok.gh _ _ e, r⟩
  · rcases b with ⟨vs, ds', e, hb, r⟩ | ⟨_, _, e, _⟩ <;> cases e
theorem PkOk.scr_of (ok : Ok B ρ G σ H) {ns : List Int} (h : PkOk B G H v (.scr ns)) : ∃ a, v = .ref a ∧ SqL B.W.K H a (ns.map V.int) := by
  rcases h with h | ⟨p, rfl, _, _, b⟩
  · cases h with
    | scr e => exact ⟨_, rfl, ok.gh.seq e⟩
  · rcases b with ⟨vs, ds', e, hb, r⟩ | ⟨_, _, e, _⟩ <;> cases e
/-- the state behind a new cell -/
theorem Ok.grow (ok : Ok B ρ G σ H) {p : Addr} {o : HO} (hp : H p = none) : Ok B ρ G σ (upd H p o) := by
  have sm : Same H (upd H p o) := fun b u e => by rw [upd_ne (ne_of_none e hp)]; exact e
  refine ⟨ok.len, ok.g0, ok.gh.trans sm, ok.h0.trans sm, ok.nw, fun i s e => ?_, ok.ap⟩
  have q := ok.sl i s e
  cases s with
  | un => exact True.intro
  | val d => exact q
  | own d =>
    obtain ⟨p', e1, o1, o2, b⟩ := q
    refine ⟨p', e1, o1, o2, ?_⟩
    rcases b with ⟨vs, ds, z1, z2, z3⟩ | ⟨vs, ds, z1, z2, z3⟩
    · exact .inl ⟨vs, ds, z1, sm _ _ z2, z3⟩
    · exact .inr ⟨vs, ds, z1, sm _ _ z2, z3⟩
theorem Nx.grow (ok : Ok B ρ G σ H) {p : Addr} {o : HO} (hp : H p = none) : Nx B ρ G σ H ρ G (upd H p o) := by
  have sm : Same H (upd H p o) := fun b u e => by rw [upd_ne (ne_of_none e hp)]; exact e
  exact ⟨Same.refl _, ok.grow hp, fun a u e _ => sm a u e, fun _ _ e => .inl e, fun _ s e => ⟨s, e, SlLe.refl s⟩, fun a u e => ⟨u, sm a u e⟩⟩
theorem Ok.h0none (ok : Ok B ρ G σ H) {p : Addr} (hp : H p = none) : B.H0 p = none := Same.free ok.h0 hp
theorem Ok.gnone (ok : Ok B ρ G σ H) {p : Addr} (hp : H p = none) : G p = none := Same.free ok.gh hp
theorem Ok.notOwned (ok : Ok B ρ G σ H) {p : Addr} (hp : H p = none) : ¬ Owned ρ σ p := fun z => by
  obtain ⟨o, e⟩ := ok.ownedSome z
  rw [hp] at e; cases e
/-- a new list -/
theorem new_lst (ok : Ok B ρ G σ H) {Q : V → Hp → Prop} {vs : List V} {ds : List D} (r : Reps B.W G vs ds) (h : PR B ρ G σ H Q (.ok (.new (.lst ds), ρ))) : ∀ p, H p = none → Q (.ref p) (upd H p (.lst vs)) := fun p hp =>
  h _ G _ (Nx.grow ok hp) ⟨p, rfl, ⟨ok.h0none hp, ok.gnone hp, .inl ⟨vs, ds, rfl, upd_same, r⟩⟩, ok.notOwned hp⟩ (fun q e => by cases e; exact hp)
theorem new_dct (ok : Ok B ρ G σ H) {Q : V → Hp → Prop} {vs : List (Key × V)} {ds : List (Key × D)} (r : Prs B.W G vs ds) (h : PR B ρ G σ H Q (.ok (.new (.dct ds), ρ))) : ∀ p, H p = none → Q (.ref p) (upd H p (.dK vs)) := fun p hp =>
  h _ G _ (Nx.grow ok hp) ⟨p, rfl, ⟨ok.h0none hp, ok.gnone hp, .inr ⟨vs, ds, rfl, upd_same, r⟩⟩, ok.notOwned hp⟩ (fun q e => by cases e; exact hp)
/-- a new frozen cell -/
theorem Nx.lay (ok : Ok B ρ G σ H) {p : Addr} {o : HO} (hp : H p = none) : Nx B ρ G σ H ρ (upd G p o) (upd H p o) := by
  have sm : Same H (upd H p o) := fun b u e => by rw [upd_ne (ne_of_none e hp)]; exact e
  have gm : Same G (upd G p o) := fun b u e => by rw [upd_ne (ne_of_none e (ok.gnone hp))]; exact e
  have ok' := ok.grow (o := o) hp
  refine ⟨gm, ⟨ok.len, ok.g0.trans gm, fun a u e => ?_, ok'.h0, fun a u e => ?_, fun i s e => ?_, ok.ap⟩, fun a u e _ => sm a u e, fun a u e => ?_, fun _ s e => ⟨s, e, SlLe.refl s⟩, fun a u e => ⟨u, sm a u e⟩⟩
  · by_cases z : a = p
    · subst z; rw [upd_same] at e ⊢; exact e
    · rw [upd_ne z] at e ⊢; exact ok.gh a u e
  · by_cases z : a = p
    · subst z; exact .inr (ok.h0none hp)
    · rw [upd_ne z] at e; exact ok.nw a u e
  · have q := ok'.sl i s e
    cases s with
    | un => exact True.intro
    | val d => obtain ⟨v, e1, r⟩ := q; exact ⟨v, e1, r.mono gm⟩
    | own d =>
      obtain ⟨p', e1, o1, o2, b⟩ := q
      have ne : p' ≠ p := fun z => by
        subst z
        obtain ⟨_, e9⟩ := ok.ownedSome ⟨i, d, e, e1⟩
        rw [hp] at e9; cases e9
      refine ⟨p', e1, o1, by rw [upd_ne ne]; exact o2, ?_⟩
      rcases b with ⟨vs, ds, z1, z2, z3⟩ | ⟨vs, ds, z1, z2, z3⟩
      · exact .inl ⟨vs, ds, z1, z2, z3.mono gm⟩
      · exact .inr ⟨vs, ds, z1, z2, z3.mono gm⟩
  · by_cases z : a = p
    · subst z; exact .inr (.inl hp)
    · rw [upd_ne z] at e; exact .inl e
theorem new_tup (ok : Ok B ρ G σ H) {Q : V → Hp → Prop} {vs : List V} {ds : List D} (r : Reps B.W G vs ds) (h : PR B ρ G σ H Q (.ok (.val (.tup ds), ρ))) : ∀ p, H p = none → Q (.ref p) (upd H p (.tup vs)) := fun p hp =>
  have n := Nx.lay (o := .tup vs) ok hp
  h _ _ _ n (Rep.tup upd_same (r.mono n.ext)) True.intro
end

/-! ### names, constants -/
@[simp] def eLoc (i : Nat) : M Rs := fun ρ => match ρ[i]? with
  | some (.val d) => .ok (.val d, ρ)
  | some (.own _) => .ok (.bor i, ρ)
  | _ => R.stuck
@[simp] def eC (d : D) : M Rs := fun ρ => .ok (.val d, ρ)
section
variable {X : Cx} {B : Bs}
theorem te_loc (i : Nat) {x : Str} {pos : Pos} (h : PE X (.Name x pos) (tVar i)) : PE X (.Name x pos) (tR B (eLoc i)) := by
  refine PE.imp h fun σ H Q h => ?_
  obtain ⟨ρ, G, ok, h⟩ := h
  unfold eLoc at h
  split at h
  · rename_i d e
    obtain ⟨v, e1, r⟩ := (show SlOk B G H σ[i]? (.val d) from ok.sl i _ e)
    exact ⟨v, e1, h v G H (Nx.refl ok) r True.intro⟩
  · rename_i d e
    obtain ⟨p, e1, o⟩ := (show SlOk B G H σ[i]? (.own d) from ok.sl i _ e)
    exact ⟨_, e1, h _ G H (Nx.refl ok) e1 True.intro⟩
  · exact h.elim
theorem te_c {e : Expr} {v : V} {d : D} (h : PE X e (tC v)) (r : ∀ G, Rep B.W G v d) : PE X e (tR B (eC d)) := by
  refine PE.imp h fun σ H Q h => ?_
  obtain ⟨ρ, G, ok, h⟩ := h
  exact h v G H (Nx.refl ok) (r G) True.intro
theorem te_int {i j pos} : PE X (.Constant (.int i) j pos) (tR B (eC (.int i))) := te_c pe_int fun _ => .int i
theorem te_str {i j pos} : PE X (.Constant (.str i) j pos) (tR B (eC (.str i))) := te_c pe_str fun _ => .str i
theorem te_bl {i j pos} : PE X (.Constant (.bool i) j pos) (tR B (eC (.bl i))) := te_c pe_bl fun _ => .bl i
theorem te_non {j pos} : PE X (.Constant .none j pos) (tR B (eC .non)) := te_c pe_non fun _ => .non
end

/-! ### two operands -/
@[simp] def eBin (f : D → D → R Rs) (a b : M Rs) : M Rs := fun ρ => (a ρ).bind fun p => (b p.2).bind fun q => (pk q.2 p.1).bind fun x => (pk q.2 q.1).bind fun y => (f x y).bind fun r => .ok (r, q.2)
def Op2 (B : Bs) (r : R2) (f : D → D → R Rs) : Prop := ∀ {σ ρ G H x y d1 d2} {Q : VK}, Ok B ρ G σ H → PkOk B G H x d1 → PkOk B G H y d2 → PR B ρ G σ H Q ((f d1 d2).bind fun r => .ok (r, ρ)) → r x y H Q
section
variable {X : Cx} {B : Bs} {ma mb mc : M Rs} {a b c : Expr} {pos : Pos} {r r' : R2} {f f' : D → D → R Rs}
/-- looking never ends in an error but stuck -/
theorem pk_err {ρ : En} {r : Rs} {e : Ex} (h : pk ρ r = .err e) : e = .stuck := by
  cases r with
  | val d => cases h
  | new d => cases h
  | bor i =>
    have h : look ρ i = .err e := h
    unfold look at h
    split at h <;> cases h
    rfl
theorem fz_err {ρ : En} {r : Rs} {e : Ex} (h : fz r ρ = .err e) : e = .stuck := by
  cases r with
  | val d => cases h
  | new d => cases h
  | bor i =>
    unfold fz at h
    dsimp only at h
    split at h <;> cases h
    rfl
theorem pk_get {α : Type} {P : R α → Prop} {ρ : En} {r : Rs} {Y : D → R α} (h : P ((pk ρ r).bind Y)) (hs : ¬ P (.err .stuck)) : ∃ d, pk ρ r = .ok d ∧ P (Y d) := by
  cases e : pk ρ r with
  | ok d => rw [e] at h; exact ⟨d, rfl, h⟩
  | err x => rw [e] at h; cases pk_err e; exact (hs h).elim
theorem fz_get {α : Type} {P : R α → Prop} {ρ : En} {r : Rs} {Y : D × En → R α} (h : P ((fz r ρ).bind Y)) (hs : ¬ P (.err .stuck)) : ∃ d ρ', fz r ρ = .ok (d, ρ') ∧ P (Y (d, ρ')) := by
  cases e : fz r ρ with
  | ok d => obtain ⟨d, ρ'⟩ := d; rw [e] at h; exact ⟨d, ρ', rfl, h⟩
  | err x => rw [e] at h; cases fz_err e; exact (hs h).elim
theorem fzs_get {α : Type} {P : R α → Prop} (hs : ¬ P (.err .stuck)) : ∀ {rs : List Rs} {ρ : En} {Y : List D × En → R α}, P ((fzs rs ρ).bind Y) → ∃ ds ρ', fzs rs ρ = .ok (ds, ρ') ∧ P (Y (ds, ρ'))
  | [], ρ, Y, h => ⟨[], ρ, rfl, h⟩
  | r :: rs, ρ, Y, h => by
    unfold fzs at h
    rw [R.bind_assoc] at h
    obtain ⟨d, ρ1, e1, h⟩ := fz_get h hs
    dsimp only at h
    rw [R.bind_assoc] at h
    obtain ⟨ds, ρ2, e2, h⟩ := fzs_get hs h
    refine ⟨d :: ds, ρ2, ?_, h⟩
    unfold fzs
    rw [e1]
    dsimp only [R.bind_ok]
    rw [e2]
    rfl
theorem tR.mono {m : M Rs} {σ : L2.St} {H : Hp} {Q Q' : VK} (h : tR B m σ H Q) (w : ∀ v H', Q v H' → Q' v H') : tR B m σ H Q' := by
  obtain ⟨ρ, G, ok, h⟩ := h
  refine ⟨ρ, G, ok, ?_⟩
  cases e : m ρ with
  | ok a => rw [e] at h; exact fun v G' H' n q f => w _ _ (h v G' H' n q f)
  | err x => rw [e] at h; cases x <;> exact h
theorem tT.mono {m : M Bool} {σ : L2.St} {H : Hp} {Q Q' : Bool → Hp → Prop} (h : tT B m σ H Q) (w : ∀ v H', Q v H' → Q' v H') : tT B m σ H Q' := by
  obtain ⟨ρ, G, ok, h⟩ := h
  refine ⟨ρ, G, ok, ?_⟩
  cases e : m ρ with
  | ok a => rw [e] at h; exact fun G' H' n => w _ _ (h G' H' n)
  | err x => rw [e] at h; cases x <;> exact h
theorem tA.mono {m : M (List Rs)} {σ : L2.St} {H : Hp} {Q Q' : List V → Hp → Prop} (h : tA B m σ H Q) (w : ∀ v H', Q v H' → Q' v H') : tA B m σ H Q' := by
  obtain ⟨ρ, G, ok, h⟩ := h
  refine ⟨ρ, G, ok, ?_⟩
  cases e : m ρ with
  | ok a => rw [e] at h; exact fun v G' H' n q => w _ _ (h v G' H' n q)
  | err x => rw [e] at h; cases x <;> exact h
variable {ρ : En} {G H : Hp} {σ : L2.St} {Q : VK}
/-- run, the end wanted of a result -/
theorem runR {m : M Rs} {Y : Rs × En → R (Rs × En)} (ok : Ok B ρ G σ H) (h : PR B ρ G σ H Q ((m ρ).bind Y)) : tR B m σ H fun x H1 => ∃ r ρ1 G1, Nx B ρ G σ H ρ1 G1 H1 ∧ RvOk B G1 σ x (st r) ∧ PR B ρ1 G1 σ H1 Q (Y (r, ρ1)) :=
  run (P := fun x ρ G H => PR B ρ G σ H Q x) ok h (fun x n h => PR.mono n h) (fun e h => PR.err h)
theorem runB {m : M Rs} {Y : Rs × En → R (Bool × En)} {Q : Bool → Hp → Prop} (ok : Ok B ρ G σ H) (h : PT' B ρ G σ H Q ((m ρ).bind Y)) : tR B m σ H fun x H1 => ∃ r ρ1 G1, Nx B ρ G σ H ρ1 G1 H1 ∧ RvOk B G1 σ x (st r) ∧ PT' B ρ1 G1 σ H1 Q (Y (r, ρ1)) :=
  run (P := fun x ρ G H => PT' B ρ G σ H Q x) ok h (fun x n h => PT'.mono n h) (fun e h => PT'.err h)
theorem bin_read (hf : Op2 B r f) (h : tR B (eBin f ma mb) σ H Q) : tOp r (tR B ma) (tR B mb) σ H Q := by
  obtain ⟨ρ, G, ok, h⟩ := h
  refine tR.mono (runR ok h) fun x H1 ⟨r1, ρ1, G1, n1, q1, h1⟩ => ?_
  refine tR.mono (runR n1.ok h1) fun y H2 ⟨r2, ρ2, G2, n2, q2, h2⟩ => ?_
  obtain ⟨d1, e1, h2⟩ := pk_get (P := PR B ρ2 G2 σ H2 Q) h2 id
  obtain ⟨d2, e2, h2⟩ := pk_get (P := PR B ρ2 G2 σ H2 Q) h2 id
  exact hf n2.ok (pk_ok n2.ok (q1.mono n2.ext) e1) (pk_ok n2.ok q2 e2) h2
theorem te_bin {op : Operator} (ho : OpR X (binaryOp op) r) (hf : Op2 B r f) (ha : PE X a (tR B ma)) (hb : PE X b (tR B mb)) : PE X (.BinOp a op b pos) (tR B (eBin f ma mb)) :=
  PE.imp (pe_op ho ha hb) fun _ _ _ h => bin_read hf h
theorem te_cmp {op : CmpOp} (ho : OpR X (compareOp op) r) (hf : Op2 B r f) (ha : PE X a (tR B ma)) (hb : PE X b (tR B mb)) (hm : behindInMarks op b = false) : PE X (.Compare a [op] [b] pos) (tR B (eBin f ma mb)) :=
  PE.imp (pe_cmpR ho ha hb hm) fun _ _ _ h => bin_read hf h
/-- a result that is a bool -/
@[simp] def asB (p : Rs × En) : R (Bool × En) := match p.1 with
  | .val (.bl b) => .ok (b, p.2)
  | _ => R.stuck
@[simp] def tOf (m : M Rs) : M Bool := fun ρ => (m ρ).bind asB
theorem tst_read {m : M Rs} {Q : Bool → Hp → Prop} (h : tT B (tOf m) σ H Q) : tR B m σ H fun x H1 => ∃ k, x = .bl k ∧ Q k H1 := by
  obtain ⟨ρ, G, ok, h⟩ := h
  refine ⟨ρ, G, ok, ?_⟩
  unfold tOf at h
  cases e : m ρ with
  | err x => rw [e] at h; cases x <;> exact h
  | ok a =>
    obtain ⟨r, ρ1⟩ := a
    rw [e] at h
    cases r with
    | new d => exact (show False from h).elim
    | bor d => exact (show False from h).elim
    | val d =>
      cases d with
      | bl k =>
        intro v G' H' n q f
        cases q
        exact ⟨k, rfl, h G' H' n⟩
      | _ => exact (show False from h).elim
theorem tt_cmp {op : CmpOp} (ho : OpR X (compareOp op) r) (hf : Op2 B r f) (ha : PE X a (tR B ma)) (hb : PE X b (tR B mb)) (hm : behindInMarks op b = false) : PT X (.Compare a [op] [b] pos) (tT B (tOf (eBin f ma mb))) :=
  PT.imp (pt_cmpR ho ha hb hm) fun σ H Q h => bin_read (Q := fun x H' => ∃ k, x = .bl k ∧ Q k H') hf (tst_read h)
theorem tt_val (ha : PE X a (tR B ma)) (he : ∀ whole, isTrue a X.env whole = (do let v ← whole; standAt a.pos; holding [v] (truthy v)) := by intro _; rfl) : PT X a (tT B (tOf ma)) :=
  PT.imp (pt_val ha he) fun σ H Q h => tst_read h
/-- a op b op' c -/
@[simp] def eChain (f f' : D → D → R Rs) (a b c : M Rs) : M Rs := fun ρ => (a ρ).bind fun p => (b p.2).bind fun q => (pk q.2 p.1).bind fun x => (pk q.2 q.1).bind fun y => (f x y).bind fun r => match r with
  | .val (.bl true) => (c q.2).bind fun s => (pk s.2 q.1).bind fun y' => (pk s.2 s.1).bind fun z => (f' y' z).bind fun r' => .ok (r', s.2)
  | .val (.bl false) => .ok (.val (.bl false), q.2)
  | _ => R.stuck
/-- a comparison's answer -/
def OpB (B : Bs) (r : R2) (f : D → D → R Rs) : Prop := ∀ {σ ρ G H x y d1 d2} {Q : VK}, Ok B ρ G σ H → PkOk B G H x d1 → PkOk B G H y d2 → ∀ k, f d1 d2 = .ok (.val (.bl k)) → Q (.bl k) H → r x y H Q
def OnlyB (f : D → D → R Rs) : Prop := ∀ d1 d2, f d1 d2 = R.stuck ∨ ∃ k, f d1 d2 = .ok (.val (.bl k))
theorem OpB.op2 (h : OpB B r f) (o : OnlyB f) : Op2 B r f := by
  intro σ ρ G H x y d1 d2 Q ok p1 p2 q
  rcases o d1 d2 with e | ⟨k, e⟩
  · rw [e] at q; exact q.elim
  · rw [e] at q
    exact h ok p1 p2 k e (q (.bl k) G H (Nx.refl ok) (.bl k) True.intro)
theorem chain_read (h1 : OpB B r f) (o1 : OnlyB f) (h2 : Op2 B r' f') (h : tR B (eChain f f' ma mb mc) σ H Q) : tChain r r' (tR B ma) (tR B mb) (tR B mc) σ H Q := by
  obtain ⟨ρ, G, ok, h⟩ := h
  refine tR.mono (runR ok h) fun x H1 ⟨r1, ρ1, G1, n1, q1, h⟩ => ?_
  refine tR.mono (runR n1.ok h) fun y H2 ⟨r2, ρ2, G2, n2, q2, h⟩ => ?_
  obtain ⟨d1, e1, h⟩ := pk_get (P := PR B ρ2 G2 σ H2 Q) h id
  obtain ⟨d2, e2, h⟩ := pk_get (P := PR B ρ2 G2 σ H2 Q) h id
  rcases o1 d1 d2 with e | ⟨k, e⟩
  · rw [e] at h; exact (show False from h).elim
  · rw [e] at h
    refine h1 n2.ok (pk_ok n2.ok (q1.mono n2.ext) e1) (pk_ok n2.ok q2 e2) k e ⟨k, rfl, ?_⟩
    cases k with
    | true =>
      refine iteT ?_
      refine tR.mono (runR n2.ok h) fun z H3 ⟨r3, ρ3, G3, n3, q3, h⟩ => ?_
      obtain ⟨d3, e3, h⟩ := pk_get (P := PR B ρ3 G3 σ H3 Q) h id
      obtain ⟨d4, e4, h⟩ := pk_get (P := PR B ρ3 G3 σ H3 Q) h id
      exact h2 n3.ok (pk_ok n3.ok (q2.mono n3.ext) e3) (pk_ok n3.ok q3 e4) h
    | false => exact iteF (h (.bl false) G2 H2 (Nx.refl n2.ok) (.bl false) True.intro)
theorem te_chain {op op' : CmpOp} (ho : OpR X (compareOp op) r) (ho' : OpR X (compareOp op') r') (h1 : OpB B r f) (o1 : OnlyB f) (h2 : Op2 B r' f') (ha : PE X a (tR B ma)) (hb : PE X b (tR B mb)) (hc : PE X c (tR B mc))
    (hm : lastMarks [op, op'] [b, c] = false := by with_unfolding_all rfl) : PE X (.Compare a [op, op'] [b, c] pos) (tR B (eChain f f' ma mb mc)) :=
  PE.imp (pe_chain ho ho' ha hb hc hm) fun _ _ _ h => chain_read h1 o1 h2 h
theorem tt_chain {op op' : CmpOp} (ho : OpR X (compareOp op) r) (ho' : OpR X (compareOp op') r') (h1 : OpB B r f) (o1 : OnlyB f) (h2 : Op2 B r' f') (ha : PE X a (tR B ma)) (hb : PE X b (tR B mb)) (hc : PE X c (tR B mc))
    (hm : lastMarks [op, op'] [b, c] = false := by with_unfolding_all rfl) : PT X (.Compare a [op, op'] [b, c] pos) (tT B (tOf (eChain f f' ma mb mc))) :=
  PT.imp (pt_chain ho ho' ha hb hc hm) fun σ H Q h => chain_read (Q := fun x H' => ∃ k, x = .bl k ∧ Q k H') h1 o1 h2 (tst_read h)
end

/-! ### operators on trees -/
@[simp] def dAdd : D → D → R Rs
  | .int i, .int j => .ok (.val (.int (i + j)))
  | .str a, .str b => if a.length + b.length ≤ 16777216 then .ok (.val (.str (a ++ b))) else R.stuck
  | .lst a, .lst b => if a.length + b.length ≤ 16777216 then .ok (.new (.lst (a ++ b))) else R.stuck
  | _, _ => R.stuck
@[simp] def dSub : D → D → R Rs
  | .int i, .int j => .ok (.val (.int (i - j)))
  | _, _ => R.stuck
/-- one of two factors is below 2 ^ 64 -/
def MulOk (i j : Int) : Prop := (-18446744073709551616 < i ∧ i < 18446744073709551616) ∨ (-18446744073709551616 < j ∧ j < 18446744073709551616)
noncomputable instance (i j : Int) : Decidable (MulOk i j) := Classical.propDecidable _
@[simp] theorem MulOk.right {i j : Int} (h : -18446744073709551616 < j ∧ j < 18446744073709551616) : MulOk i j = True := eq_true (.inr h)
@[simp] theorem MulOk.left {i j : Int} (h : -18446744073709551616 < i ∧ i < 18446744073709551616) : MulOk i j = True := eq_true (.inl h)
@[simp] noncomputable def dMul : D → D → R Rs
  | .int i, .int j => if MulOk i j then .ok (.val (.int (i * j))) else R.stuck
  | .lst a, .int k => if -9223372036854775808 ≤ k ∧ k < 9223372036854775808 ∧ a.length * k.toNat ≤ 16777216 then .ok (.new (.lst (List.replicate k.toNat a).flatten)) else R.stuck
  | _, _ => R.stuck
@[simp] def dFdiv : D → D → R Rs
  | .int i, .int j => if 0 < j ∧ j < 340282366920938463463374607431768211456 then .ok (.val (.int (i / j))) else
      if j < 0 ∧ -340282366920938463463374607431768211456 < j then .ok (.val (.int (i.fdiv j))) else R.stuck
  | _, _ => R.stuck
@[simp] def dMod : D → D → R Rs
  | .int i, .int j => if 0 < j then .ok (.val (.int (i % j))) else if j < 0 then .ok (.val (.int (i.fmod j))) else R.stuck
  | _, _ => R.stuck
@[simp] def dAnd : D → D → R Rs
  | .int i, .int j => .ok (.val (.int (Builtin.bitAnd i j)))
  | _, _ => R.stuck
@[simp] def dOr : D → D → R Rs
  | .int i, .int j => .ok (.val (.int (Builtin.bitOr i j)))
  | _, _ => R.stuck
@[simp] def dXor : D → D → R Rs
  | .int i, .int j => .ok (.val (.int (Builtin.bitXor i j)))
  | _, _ => R.stuck
@[simp] def dPow : D → D → R Rs
  | .int i, .int j => if 0 ≤ j ∧ j ≤ 1000000 ∧ -18446744073709551616 < i ∧ i < 18446744073709551616 then .ok (.val (.int (i ^ j.toNat))) else R.stuck
  | _, _ => R.stuck
@[simp] def dShl : D → D → R Rs
  | .int i, .int j => if 0 ≤ j ∧ j ≤ 1000000 ∧ -18446744073709551616 < i ∧ i < 18446744073709551616 then .ok (.val (.int (i * 2 ^ j.toNat))) else R.stuck
  | _, _ => R.stuck
@[simp] def dLt : D → D → R Rs
  | .int i, .int j => .ok (.val (.bl (decide (i < j))))
  | _, _ => R.stuck
@[simp] def dLe : D → D → R Rs
  | .int i, .int j => .ok (.val (.bl (decide (i ≤ j))))
  | _, _ => R.stuck
@[simp] def dGt : D → D → R Rs
  | .int i, .int j => .ok (.val (.bl (decide (j < i))))
  | _, _ => R.stuck
@[simp] def dGe : D → D → R Rs
  | .int i, .int j => .ok (.val (.bl (decide (j ≤ i))))
  | _, _ => R.stuck
section
variable {X : Cx} {B : Bs}
theorem pr_val {ρ : En} {G H : Hp} {σ : L2.St} {Q : VK} (ok : Ok B ρ G σ H) {d : D} {v : V} (r : Rep B.W G v d) (h : PR B ρ G σ H Q (.ok (.val d, ρ))) : Q v H := h v G H (Nx.refl ok) r True.intro
/-- ints in, a scalar out -/
theorem op2_int0 {g : Int → Int → V} {g' : Int → Int → D} {f : D → D → R Rs} (hg : ∀ i j W G, Rep W G (g i j) (g' i j)) (hf : ∀ d1 d2, f d1 d2 = R.stuck ∨ ∃ i j, d1 = .int i ∧ d2 = .int j ∧ f d1 d2 = .ok (.val (g' i j))) : Op2 B (rI0 g) f := by
  intro σ ρ G H x y d1 d2 Q ok p1 p2 q
  rcases hf d1 d2 with e | ⟨i, j, rfl, rfl, e⟩
  · rw [e] at q; exact q.elim
  · rw [e] at q
    exact ⟨i, j, p1.int_of, p2.int_of, pr_val ok (hg i j _ _) q⟩
theorem op2_int {C : Int → Int → Prop} {g : Int → Int → V} {g' : Int → Int → D} {f : D → D → R Rs} (hg : ∀ i j W G, Rep W G (g i j) (g' i j)) (hf : ∀ d1 d2, f d1 d2 = R.stuck ∨ ∃ i j, d1 = .int i ∧ d2 = .int j ∧ C i j ∧ f d1 d2 = .ok (.val (g' i j))) : Op2 B (rI C g) f := by
  intro σ ρ G H x y d1 d2 Q ok p1 p2 q
  rcases hf d1 d2 with e | ⟨i, j, rfl, rfl, c, e⟩
  · rw [e] at q; exact q.elim
  · rw [e] at q
    exact ⟨i, j, p1.int_of, p2.int_of, c, pr_val ok (hg i j _ _) q⟩
theorem cases2 {f : D → D → R Rs} {P : D → D → Prop} (h : ∀ i j, P (.int i) (.int j)) (h' : ∀ d1 d2, (∀ i j, ¬ (d1 = .int i ∧ d2 = .int j)) → P d1 d2) : ∀ d1 d2, P d1 d2 := fun d1 d2 => by
  by_cases q : ∃ i j, d1 = .int i ∧ d2 = .int j
  · obtain ⟨i, j, rfl, rfl⟩ := q; exact h i j
  · exact h' d1 d2 fun i j z => q ⟨i, j, z⟩
end
end T
namespace T
open PySem PySem.Spec PyProof.Rows L2
section
variable {X : Cx} {B : Bs}
theorem op_fdivX : OpR X (binaryOp .FloorDiv) (rI (fun _ j => j ≠ 0 ∧ j.natAbs < 2 ^ 128) fun i j => .int (i.fdiv j)) := opI fun i j _ _ _ _ _ hc q => by
  exact floordiv_int hc.1 q (.inl (PyProof.noPylong_of_log2 (Nat.lt_of_lt_of_le (PySem.Flt.log2_lt_of (by decide) hc.2) (by decide))))
abbrev rAddA : R2 := fun x y H Q => rI0 (fun i j => .int (i + j)) x y H Q ∨ ((∃ i j, x = .str i ∧ y = .str j ∧ i.length + j.length ≤ sizeLine ∧ Q (.str (i ++ j)) H) ∨ rCat x y H Q)
theorem op_addA : OpR X (binaryOp .Add) rAddA := op_add.or (op_add_str.or op_cat)
theorem o2_add : Op2 B rAddA dAdd := by
  intro σ ρ G H x y d1 d2 Q ok p1 p2 q
  unfold dAdd at q
  split at q
  · exact .inl ⟨_, _, p1.int_of, p2.int_of, pr_val ok (.int _) q⟩
  · split at q
    · rename_i h
      exact .inr (.inl ⟨_, _, p1.str_of, p2.str_of, by rw [sizeLine_eq]; exact h, pr_val ok (.str _) q⟩)
    · exact q.elim
  · split at q
    · rename_i h
      obtain ⟨a, vs, rfl, ha, ra⟩ := p1.lst_of ok
      obtain ⟨b, ws, rfl, hb, rb⟩ := p2.lst_of ok
      exact .inr (.inr ⟨a, b, vs, ws, rfl, rfl, ha, hb, by rw [sizeLine_eq, ra.length, rb.length]; exact h, new_lst ok (ra.append rb) q⟩)
    · exact q.elim
  · exact q.elim
theorem o2_sub : Op2 B (rI0 fun i j => .int (i - j)) dSub := op2_int0 (g' := fun i j => .int (i - j)) (fun _ _ _ _ => .int _) fun d1 d2 => by
  unfold dSub; split
  · exact .inr ⟨_, _, rfl, rfl, rfl⟩
  · exact .inl rfl
abbrev rMulA : R2 := fun x y H Q => rI CMul (fun i j => .int (i * j)) x y H Q ∨ rRep x y H Q
theorem op_mulA : OpR X (binaryOp .Mult) rMulA := op_mul.or op_rep
theorem o2_mul : Op2 B rMulA dMul := by
  intro σ ρ G H x y d1 d2 Q ok p1 p2 q
  unfold dMul at q
  split at q
  · split at q
    · rename_i h
      exact .inl ⟨_, _, p1.int_of, p2.int_of, h, pr_val ok (.int _) q⟩
    · exact q.elim
  · split at q
    · rename_i a k h
      obtain ⟨a, vs, rfl, ha, ra⟩ := p1.lst_of ok
      exact .inr ⟨a, k, vs, rfl, p2.int_of, ha, h.1, h.2.1, by rw [sizeLine_eq, ra.length]; exact h.2.2, new_lst ok (ra.flatRep _) q⟩
    · exact q.elim
  · exact q.elim
theorem o2_fdiv : Op2 B (rI (fun _ j => j ≠ 0 ∧ j.natAbs < 2 ^ 128) fun i j => .int (i.fdiv j)) dFdiv := by
  intro σ ρ G H x y d1 d2 Q ok p1 p2 q
  unfold dFdiv at q
  split at q
  · rename_i i j
    split at q
    · rename_i h
      refine ⟨_, _, p1.int_of, p2.int_of, ⟨by omega, by omega⟩, ?_⟩
      show Q (V.int (i.fdiv j)) H
      rw [Int.fdiv_eq_ediv_of_nonneg i (by omega)]
      exact pr_val ok (.int _) q
    · split at q
      · rename_i h
        exact ⟨_, _, p1.int_of, p2.int_of, ⟨by omega, by omega⟩, pr_val ok (.int _) q⟩
      · exact q.elim
  · exact q.elim
theorem o2_mod : Op2 B (rI (fun _ j => j ≠ 0) fun i j => .int (i.fmod j)) dMod := by
  intro σ ρ G H x y d1 d2 Q ok p1 p2 q
  unfold dMod at q
  split at q
  · rename_i i j
    split at q
    · rename_i h
      refine ⟨_, _, p1.int_of, p2.int_of, by omega, ?_⟩
      show Q (V.int (i.fmod j)) H
      rw [Int.fmod_eq_emod_of_nonneg i (by omega)]
      exact pr_val ok (.int _) q
    · split at q
      · exact ⟨_, _, p1.int_of, p2.int_of, by omega, pr_val ok (.int _) q⟩
      · exact q.elim
  · exact q.elim
theorem o2_and : Op2 B (rI0 fun i j => .int (Builtin.bitAnd i j)) dAnd := op2_int0 (g' := fun i j => .int (Builtin.bitAnd i j)) (fun _ _ _ _ => .int _) fun d1 d2 => by
  unfold dAnd; split
  · exact .inr ⟨_, _, rfl, rfl, rfl⟩
  · exact .inl rfl
theorem o2_or : Op2 B (rI0 fun i j => .int (Builtin.bitOr i j)) dOr := op2_int0 (g' := fun i j => .int (Builtin.bitOr i j)) (fun _ _ _ _ => .int _) fun d1 d2 => by
  unfold dOr; split
  · exact .inr ⟨_, _, rfl, rfl, rfl⟩
  · exact .inl rfl
theorem o2_xor : Op2 B (rI0 fun i j => .int (Builtin.bitXor i j)) dXor := op2_int0 (g' := fun i j => .int (Builtin.bitXor i j)) (fun _ _ _ _ => .int _) fun d1 d2 => by
  unfold dXor; split
  · exact .inr ⟨_, _, rfl, rfl, rfl⟩
  · exact .inl rfl
theorem o2_pow : Op2 B (rI CPow fun i j => .int (i ^ j.toNat)) dPow := op2_int (g' := fun i j => .int (i ^ j.toNat)) (fun _ _ _ _ => .int _) fun d1 d2 => by
  unfold dPow; split
  · split
    · rename_i h
      exact .inr ⟨_, _, rfl, rfl, ⟨h.1, h.2.1, by omega⟩, rfl⟩
    · exact .inl rfl
  · exact .inl rfl
theorem o2_shl : Op2 B (rI CPow fun i j => .int (i * 2 ^ j.toNat)) dShl := op2_int (g' := fun i j => .int (i * 2 ^ j.toNat)) (fun _ _ _ _ => .int _) fun d1 d2 => by
  unfold dShl; split
  · split
    · rename_i h
      exact .inr ⟨_, _, rfl, rfl, ⟨h.1, h.2.1, by omega⟩, rfl⟩
    · exact .inl rfl
  · exact .inl rfl
theorem opB_int {g : Int → Int → Bool} {f : D → D → R Rs} (hf : ∀ d1 d2, f d1 d2 = R.stuck ∨ ∃ i j, d1 = .int i ∧ d2 = .int j ∧ f d1 d2 = .ok (.val (.bl (g i j)))) : OpB B (rI0 fun i j => .bl (g i j)) f := by
  intro σ ρ G H x y d1 d2 Q ok p1 p2 k e q
  rcases hf d1 d2 with e' | ⟨i, j, rfl, rfl, e'⟩
  · rw [e'] at e; cases e
  · rw [e'] at e; cases e
    exact ⟨i, j, p1.int_of, p2.int_of, q⟩
theorem onB_int {g : Int → Int → Bool} {f : D → D → R Rs} (hf : ∀ d1 d2, f d1 d2 = R.stuck ∨ ∃ i j, d1 = .int i ∧ d2 = .int j ∧ f d1 d2 = .ok (.val (.bl (g i j)))) : OnlyB f := fun d1 d2 => by
  rcases hf d1 d2 with e' | ⟨i, j, rfl, rfl, e'⟩
  · exact .inl e'
  · exact .inr ⟨_, e'⟩
theorem f_lt (d1 d2 : D) : dLt d1 d2 = R.stuck ∨ ∃ i j, d1 = .int i ∧ d2 = .int j ∧ dLt d1 d2 = .ok (.val (.bl (decide (i < j)))) := by
  unfold dLt; split
  · exact .inr ⟨_, _, rfl, rfl, rfl⟩
  · exact .inl rfl
theorem f_le (d1 d2 : D) : dLe d1 d2 = R.stuck ∨ ∃ i j, d1 = .int i ∧ d2 = .int j ∧ dLe d1 d2 = .ok (.val (.bl (decide (i ≤ j)))) := by
  unfold dLe; split
  · exact .inr ⟨_, _, rfl, rfl, rfl⟩
  · exact .inl rfl
theorem f_gt (d1 d2 : D) : dGt d1 d2 = R.stuck ∨ ∃ i j, d1 = .int i ∧ d2 = .int j ∧ dGt d1 d2 = .ok (.val (.bl (decide (j < i)))) := by
  unfold dGt; split
  · exact .inr ⟨_, _, rfl, rfl, rfl⟩
  · exact .inl rfl
theorem f_ge (d1 d2 : D) : dGe d1 d2 = R.stuck ∨ ∃ i j, d1 = .int i ∧ d2 = .int j ∧ dGe d1 d2 = .ok (.val (.bl (decide (j ≤ i)))) := by
  unfold dGe; split
  · exact .inr ⟨_, _, rfl, rfl, rfl⟩
  · exact .inl rfl
theorem oB_lt : OpB B (rI0 fun i j => .bl (decide (i < j))) dLt := opB_int f_lt
theorem oB_le : OpB B (rI0 fun i j => .bl (decide (i ≤ j))) dLe := opB_int f_le
theorem oB_gt : OpB B (rI0 fun i j => .bl (decide (j < i))) dGt := opB_int f_gt
theorem oB_ge : OpB B (rI0 fun i j => .bl (decide (j ≤ i))) dGe := opB_int f_ge
theorem on_lt : OnlyB dLt := onB_int f_lt
theorem on_le : OnlyB dLe := onB_int f_le
theorem on_gt : OnlyB dGt := onB_int f_gt
theorem on_ge : OnlyB dGe := onB_int f_ge
end

/-! ### == of trees -/
mutual
def D.toP : D → Option PyData
  | .non => some .none
  | .bl b => some (.bool b)
  | .int i => some (.int i)
  | .str s => some (.str s)
  | .lst xs => match D.toPs xs with | some ys => some (.list ys) | none => none
  | .tup xs => match D.toPs xs with | some ys => some (.tuple ys) | none => none
  | .scr ns => some (.list (ns.map .int))
  | _ => none
def D.toPs : List D → Option (List PyData)
  | [] => some []
  | d :: ds => match D.toP d, D.toPs ds with | some x, some xs => some (x :: xs) | _, _ => none
end
def dEq : D → D → R Rs
  | .int i, .int j => .ok (.val (.bl (decide (i = j))))
  | .str i, .str j => .ok (.val (.bl (decide (i = j))))
  | .bl i, .bl j => .ok (.val (.bl (i == j)))
  | a, b => match a.toP, b.toP with
    | some x, some y => if SeqAt.shaped x = true ∧ SeqAt.shaped y = true then .ok (.val (.bl (PyData.eqv x y))) else R.stuck
    | _, _ => R.stuck
@[simp] theorem dEq_int (i j : Int) : dEq (.int i) (.int j) = .ok (.val (.bl (decide (i = j)))) := rfl
@[simp] theorem dEq_str (i j : Str) : dEq (.str i) (.str j) = .ok (.val (.bl (decide (i = j)))) := rfl
@[simp] theorem dEq_bl (i j : Bool) : dEq (.bl i) (.bl j) = .ok (.val (.bl (i == j))) := rfl
@[simp] def dNe (a b : D) : R Rs := match dEq a b with
  | .ok (.val (.bl k)) => .ok (.val (.bl (!k)))
  | _ => R.stuck
section
variable {W : Wd} {G : Hp}
theorem dp_ints {K : PySem.W.Frag} {H : Hp} : ∀ ns : List Int, DpAll K H (ns.map V.int) (ns.map PyData.int)
  | [] => .nil
  | n :: ns => .cons (.int n) (dp_ints ns)
mutual
theorem Rep.dp : ∀ {v : V} {d : D} {p : PyData}, Rep W G v d → d.toP = some p → Dp W.K G v p
  | _, _, p, .non, e => by cases e; exact .non
  | _, _, p, .bl b, e => by cases e; exact .bl b
  | _, _, p, .int i, e => by cases e; exact .int i
  | _, _, p, .str x, e => by cases e; exact .str x
  | _, _, p, .ty n, e => by cases e
  | _, _, p, .glo h, e => by cases e
  | _, _, p, .obj h h2 r, e => by cases e
  | _, _, p, .dct h r, e => by cases e
  | _, _, p, .scr (ns := ns) h, e => by cases e; exact .lst h (dp_ints ns)
  | _, _, p, .tup (ds := ds) h r, e => by
    unfold D.toP at e
    split at e
    · rename_i ys q; cases e; exact .tup (SqT.of h) (Reps.dp r q)
    · cases e
  | _, _, p, .lst (ds := ds) h r, e => by
    unfold D.toP at e
    split at e
    · rename_i ys q; cases e; exact .lst (SqL.of h) (Reps.dp r q)
    · cases e
theorem Reps.dp : ∀ {vs : List V} {ds : List D} {ps : List PyData}, Reps W G vs ds → D.toPs ds = some ps → DpAll W.K G vs ps
  | _, _, _, .nil, e => by cases e; exact .nil
  | _, _, _, .cons r t, e => by
    unfold D.toPs at e
    split at e
    · rename_i x xs q1 q2; cases e; exact .cons (Rep.dp r q1) (Reps.dp t q2)
    · cases e
end
theorem SqT.same {K : PySem.W.Frag} {H H' : Hp} {a : Addr} {xs : List V} (e : Same H H') (h : SqT K H a xs) : SqT K H' a xs := by
  rcases h with (h | ⟨o, h⟩) | h
  · exact .inl (.inl (e _ _ h))
  · exact .inl (.inr ⟨o, e _ _ h⟩)
  · exact .inr h
mutual
theorem Dp.same {K : PySem.W.Frag} {H H' : Hp} (h : Same H H') : ∀ {v : V} {d : PyData}, Dp K H v d → Dp K H' v d
  | _, _, .non => .non
  | _, _, .bl b => .bl b
  | _, _, .int b => .int b
  | _, _, .str b => .str b
  | _, _, .lst e r => .lst (h.seq e) (DpAll.same h r)
  | _, _, .tup e r => .tup (SqT.same h e) (DpAll.same h r)
theorem DpAll.same {K : PySem.W.Frag} {H H' : Hp} (h : Same H H') : ∀ {vs : List V} {ds : List PyData}, DpAll K H vs ds → DpAll K H' vs ds
  | _, _, .nil => .nil
  | _, _, .cons r t => .cons (Dp.same h r) (DpAll.same h t)
end
end
section
variable {X : Cx} {B : Bs} {ρ : En} {G H : Hp} {σ : L2.St} {v : V} {d : D}
theorem PkOk.dp (ok : Ok B ρ G σ H) (h : PkOk B G H v d) {p : PyData} (e : d.toP = some p) : Dp B.W.K H v p := by
  rcases h with h | ⟨a, rfl, _, _, b⟩
  · exact Dp.same ok.gh (h.dp e)
  · rcases b with ⟨vs, ds, rfl, hb, r⟩ | ⟨vs, ds, rfl, hb, r⟩
    · unfold D.toP at e
      split at e
      · rename_i ys q; cases e; exact .lst (SqL.of hb) (DpAll.same ok.gh (r.dp q))
      · cases e
    · cases e
abbrev rEqA (K : PySem.W.Frag) : R2 := fun x y H Q => rEq x y H Q ∨ rEqD K x y H Q
abbrev rNeA (K : PySem.W.Frag) : R2 := fun x y H Q => rNe x y H Q ∨ rNeD K x y H Q
theorem op_eqA (hu : X.A.units + 64 < cLine) : OpR X (compareOp .Eq) (rEqA X.K) := op_eq.or (op_eqD hu)
theorem op_neA (hu : X.A.units + 64 < cLine) : OpR X (compareOp .NotEq) (rNeA X.K) := op_ne.or (op_neD hu)
theorem f_eq (d1 d2 : D) : dEq d1 d2 = R.stuck ∨ (∃ i j, d1 = .str i ∧ d2 = .str j ∧ dEq d1 d2 = .ok (.val (.bl (decide (i = j))))) ∨ ∃ x y, d1.toP = some x ∧ d2.toP = some y ∧ SeqAt.shaped x = true ∧ SeqAt.shaped y = true ∧ dEq d1 d2 = .ok (.val (.bl (PyData.eqv x y))) := by
  unfold dEq
  split
  · exact .inr (.inr ⟨_, _, rfl, rfl, rfl, rfl, rfl⟩)
  · exact .inr (.inl ⟨_, _, rfl, rfl, rfl⟩)
  · exact .inr (.inr ⟨_, _, rfl, rfl, rfl, rfl, rfl⟩)
  · split
    · rename_i x y e1 e2
      split
      · rename_i h; exact .inr (.inr ⟨x, y, e1, e2, h.1, h.2, rfl⟩)
      · exact .inl rfl
    · exact .inl rfl
theorem oB_eq (hW : B.W.K = X.K) : OpB B (rEqA X.K) dEq := by
  intro σ ρ G H x y d1 d2 Q ok p1 p2 k e q
  rcases f_eq d1 d2 with e' | ⟨i, j, rfl, rfl, e'⟩ | ⟨a, b, h1, h2, s1, s2, e'⟩
  · rw [e'] at e; cases e
  · rw [e'] at e; cases e
    cases p1.str_of
    cases p2.str_of
    refine .inl ⟨rfl, ?_⟩
    have : decide (V.str i = V.str j) = decide (i = j) := by simp
    rw [this]; exact q
  · rw [e'] at e; cases e
    exact .inr ⟨a, b, hW ▸ p1.dp ok h1, hW ▸ p2.dp ok h2, s1, s2, q⟩
theorem on_eq : OnlyB dEq := fun d1 d2 => by
  rcases f_eq d1 d2 with e' | ⟨i, j, rfl, rfl, e'⟩ | ⟨a, b, h1, h2, s1, s2, e'⟩
  · exact .inl e'
  · exact .inr ⟨_, e'⟩
  · exact .inr ⟨_, e'⟩
theorem oB_ne (hW : B.W.K = X.K) : OpB B (rNeA X.K) dNe := by
  intro σ ρ G H x y d1 d2 Q ok p1 p2 k e q
  unfold dNe at e
  rcases f_eq d1 d2 with e' | ⟨i, j, rfl, rfl, e'⟩ | ⟨a, b, h1, h2, s1, s2, e'⟩
  · rw [e'] at e; cases e
  · rw [e'] at e; cases e
    cases p1.str_of
    cases p2.str_of
    refine .inl ⟨rfl, ?_⟩
    have : decide (V.str i = V.str j) = decide (i = j) := by simp
    rw [this]; exact q
  · rw [e'] at e; cases e
    exact .inr ⟨a, b, hW ▸ p1.dp ok h1, hW ▸ p2.dp ok h2, s1, s2, q⟩
theorem on_ne : OnlyB dNe := fun d1 d2 => by
  unfold dNe
  rcases on_eq d1 d2 with e' | ⟨k, e'⟩
  · rw [e']; exact .inl rfl
  · rw [e']; exact .inr ⟨_, rfl⟩
end

/-! ### is None -/
@[simp] def D.isNon : D → Bool
  | .non => true
  | _ => false
@[simp] def eIsN (m : M Rs) : M Rs := fun ρ => (m ρ).bind fun p => (pk p.2 p.1).bind fun d => .ok (.val (.bl d.isNon), p.2)
@[simp] def eNotN (m : M Rs) : M Rs := fun ρ => (m ρ).bind fun p => (pk p.2 p.1).bind fun d => .ok (.val (.bl (!d.isNon)), p.2)
section
variable {X : Cx} {B : Bs} {a : Expr} {pos pos' : Pos} {j : Nat} {m : M Rs}
theorem PkOk.isNon {G H : Hp} {v : V} {d : D} (h : PkOk B G H v d) : decide (v = .non) = d.isNon := by
  rcases h with h | ⟨p, rfl, _, _, b⟩
  · cases h <;> rfl
  · rcases b with ⟨_, _, rfl, _⟩ | ⟨_, _, rfl, _⟩ <;> rfl
theorem isN_read {σ : L2.St} {H : Hp} {Q : VK} (h : tR B (eIsN m) σ H Q) : tIsN (tR B m) σ H Q := by
  obtain ⟨ρ, G, ok, h⟩ := h
  refine tR.mono (runR ok h) fun x H1 ⟨r1, ρ1, G1, n1, q1, h1⟩ => ?_
  obtain ⟨d1, e1, h2⟩ := pk_get (P := PR B ρ1 G1 σ H1 Q) h1 id
  rw [(pk_ok n1.ok q1 e1).isNon]
  exact pr_val n1.ok (.bl _) h2
theorem notN_read {σ : L2.St} {H : Hp} {Q : VK} (h : tR B (eNotN m) σ H Q) : tNotN (tR B m) σ H Q := by
  obtain ⟨ρ, G, ok, h⟩ := h
  refine tR.mono (runR ok h) fun x H1 ⟨r1, ρ1, G1, n1, q1, h1⟩ => ?_
  obtain ⟨d1, e1, h2⟩ := pk_get (P := PR B ρ1 G1 σ H1 Q) h1 id
  rw [(pk_ok n1.ok q1 e1).isNon]
  exact pr_val n1.ok (.bl _) h2
theorem te_isN (ha : PE X a (tR B m)) : PE X (.Compare a [.Is] [.Constant .none j pos'] pos) (tR B (eIsN m)) := PE.imp (pe_cmp (pc_isN ha) rfl) fun _ _ _ h => isN_read h
theorem te_notN (ha : PE X a (tR B m)) : PE X (.Compare a [.IsNot] [.Constant .none j pos'] pos) (tR B (eNotN m)) := PE.imp (pe_cmp (pc_notN ha) rfl) fun _ _ _ h => notN_read h
theorem tt_isN (ha : PE X a (tR B m)) : PT X (.Compare a [.Is] [.Constant .none j pos'] pos) (tT B (tOf (eIsN m))) := PT.imp (pt_cmp (pc_isN ha) rfl) fun σ H Q h => isN_read (Q := fun x H' => ∃ k, x = .bl k ∧ Q k H') (tst_read h)
theorem tt_notN (ha : PE X a (tR B m)) : PT X (.Compare a [.IsNot] [.Constant .none j pos'] pos) (tT B (tOf (eNotN m))) := PT.imp (pt_cmp (pc_notN ha) rfl) fun σ H Q h => notN_read (Q := fun x H' => ∃ k, x = .bl k ∧ Q k H') (tst_read h)
end

/-! ### and, or, not, a if t else b -/
@[simp] def tAndM (a b : M Bool) : M Bool := fun ρ => (a ρ).bind fun p => if p.1 = true then b p.2 else .ok (false, p.2)
@[simp] def tOrM (a b : M Bool) : M Bool := fun ρ => (a ρ).bind fun p => if p.1 = true then .ok (true, p.2) else b p.2
@[simp] def tNotM (a : M Bool) : M Bool := fun ρ => (a ρ).bind fun p => .ok (!p.1, p.2)
@[simp] def eAnd (a b : M Rs) : M Rs := fun ρ => (tOf a ρ).bind fun p => if p.1 = true then b p.2 else .ok (.val (.bl false), p.2)
@[simp] def eOr (a b : M Rs) : M Rs := fun ρ => (tOf a ρ).bind fun p => if p.1 = true then .ok (.val (.bl true), p.2) else b p.2
@[simp] def eNot (a : M Rs) : M Rs := fun ρ => (tOf a ρ).bind fun p => .ok (.val (.bl (!p.1)), p.2)
@[simp] def eIf (t : M Bool) (a b : M Rs) : M Rs := fun ρ => (t ρ).bind fun p => if p.1 = true then a p.2 else b p.2
section
variable {X : Cx} {B : Bs} {a b : Expr} {rest : List Expr} {pos : Pos} {m m' : M Rs} {t t' : M Bool}
theorem runTR {ρ : En} {G H : Hp} {σ : L2.St} {Q : VK} {Y : Bool × En → R (Rs × En)} (ok : Ok B ρ G σ H) (h : PR B ρ G σ H Q ((t ρ).bind Y)) : tT B t σ H fun x H1 => ∃ ρ1 G1, Nx B ρ G σ H ρ1 G1 H1 ∧ PR B ρ1 G1 σ H1 Q (Y (x, ρ1)) :=
  runT (P := fun x ρ G H => PR B ρ G σ H Q x) ok h (fun x n h => PR.mono n h) (fun e h => PR.err h)
theorem runTB {ρ : En} {G H : Hp} {σ : L2.St} {Q : Bool → Hp → Prop} {Y : Bool × En → R (Bool × En)} (ok : Ok B ρ G σ H) (h : PT' B ρ G σ H Q ((t ρ).bind Y)) : tT B t σ H fun x H1 => ∃ ρ1 G1, Nx B ρ G σ H ρ1 G1 H1 ∧ PT' B ρ1 G1 σ H1 Q (Y (x, ρ1)) :=
  runT (P := fun x ρ G H => PT' B ρ G σ H Q x) ok h (fun x n h => PT'.mono n h) (fun e h => PT'.err h)
theorem tw_and1 (ha : PT X a (tT B t)) : PW X (.BoolOp .And [a] pos) (tT B t) := pw_and1 ha
theorem tw_or1 (ha : PT X a (tT B t)) : PW X (.BoolOp .Or [a] pos) (tT B t) := pw_or1 ha
theorem tw_and (ha : PT X a (tT B t)) (hb : PW X (.BoolOp .And (b :: rest) pos) (tT B t')) : PW X (.BoolOp .And (a :: b :: rest) pos) (tT B (tAndM t t')) := PW.imp (pw_and ha hb) fun σ H Q h => by
  obtain ⟨ρ, G, ok, h⟩ := h
  refine tT.mono (runTB ok h) fun x H1 ⟨ρ1, G1, n1, h1⟩ => ?_
  cases x with
  | true => exact iteT ⟨ρ1, G1, n1.ok, h1⟩
  | false => exact iteF (h1 G1 H1 (Nx.refl n1.ok))
theorem tw_or (ha : PT X a (tT B t)) (hb : PW X (.BoolOp .Or (b :: rest) pos) (tT B t')) : PW X (.BoolOp .Or (a :: b :: rest) pos) (tT B (tOrM t t')) := PW.imp (pw_or ha hb) fun σ H Q h => by
  obtain ⟨ρ, G, ok, h⟩ := h
  refine tT.mono (runTB ok h) fun x H1 ⟨ρ1, G1, n1, h1⟩ => ?_
  cases x with
  | true => exact iteT (h1 G1 H1 (Nx.refl n1.ok))
  | false => exact iteF ⟨ρ1, G1, n1.ok, h1⟩
theorem tt_not (ha : PT X a (tT B t)) : PT X (.UnaryOp .Not a pos) (tT B (tNotM t)) := PT.imp (pt_not ha) fun σ H Q h => by
  obtain ⟨ρ, G, ok, h⟩ := h
  exact tT.mono (runTB ok h) fun x H1 ⟨ρ1, G1, n1, h1⟩ => h1 G1 H1 (Nx.refl n1.ok)
theorem bl_read {ρ : En} {G H : Hp} {σ : L2.St} {Q : VK} {Y : Bool × En → R (Rs × En)} (ok : Ok B ρ G σ H) (h : PR B ρ G σ H Q ((tOf m ρ).bind Y)) : tR B m σ H fun x H1 => ∃ c, x = .bl c ∧ ∃ ρ1 G1, Nx B ρ G σ H ρ1 G1 H1 ∧ PR B ρ1 G1 σ H1 Q (Y (c, ρ1)) :=
  tst_read (runTR ok h)
theorem te_one {op} (h : PE X a (tR B m)) : PE X (.BoolOp op [a] pos) (tR B m) := pe_one h
theorem te_and (ha : PE X a (tR B m)) (hb : PE X (.BoolOp .And (b :: rest) pos) (tR B m')) : PE X (.BoolOp .And (a :: b :: rest) pos) (tR B (eAnd m m')) := PE.imp (pe_and ha hb) fun σ H Q h => by
  obtain ⟨ρ, G, ok, h⟩ := h
  refine tR.mono (bl_read ok h) fun x H1 ⟨c, e, ρ1, G1, n1, h1⟩ => ⟨c, e, ?_⟩
  cases c with
  | true => exact iteT ⟨ρ1, G1, n1.ok, h1⟩
  | false => exact iteF (pr_val n1.ok (.bl _) h1)
theorem te_or (ha : PE X a (tR B m)) (hb : PE X (.BoolOp .Or (b :: rest) pos) (tR B m')) : PE X (.BoolOp .Or (a :: b :: rest) pos) (tR B (eOr m m')) := PE.imp (pe_or ha hb) fun σ H Q h => by
  obtain ⟨ρ, G, ok, h⟩ := h
  refine tR.mono (bl_read ok h) fun x H1 ⟨c, e, ρ1, G1, n1, h1⟩ => ⟨c, e, ?_⟩
  cases c with
  | true => exact iteT (pr_val n1.ok (.bl _) h1)
  | false => exact iteF ⟨ρ1, G1, n1.ok, h1⟩
theorem te_not (ha : PE X a (tR B m)) : PE X (.UnaryOp .Not a pos) (tR B (eNot m)) := PE.imp (pe_not ha) fun σ H Q h => by
  obtain ⟨ρ, G, ok, h⟩ := h
  exact tR.mono (bl_read ok h) fun x H1 ⟨c, e, ρ1, G1, n1, h1⟩ => ⟨c, e, pr_val n1.ok (.bl _) h1⟩
theorem te_if {c : Expr} (hc : PT X c (tT B t)) (ha : PE X a (tR B m)) (hb : PE X b (tR B m')) : PE X (.IfExp c a b pos) (tR B (eIf t m m')) := PE.imp (pe_ifExp hc ha hb) fun σ H Q h => by
  obtain ⟨ρ, G, ok, h⟩ := h
  refine tT.mono (runTR ok h) fun x H1 ⟨ρ1, G1, n1, h1⟩ => ?_
  cases x with
  | true => exact iteT ⟨ρ1, G1, n1.ok, h1⟩
  | false => exact iteF ⟨ρ1, G1, n1.ok, h1⟩
end

/-! ### a one-place operator -/
@[simp] def eUn (f : D → R Rs) (a : M Rs) : M Rs := fun ρ => (a ρ).bind fun p => (pk p.2 p.1).bind fun x => (f x).bind fun r => .ok (r, p.2)
@[simp] def dNeg : D → R Rs
  | .int i => .ok (.val (.int (-i)))
  | _ => R.stuck
section
variable {X : Cx} {B : Bs} {a : Expr} {pos : Pos} {m : M Rs}
theorem te_neg (ha : PE X a (tR B m)) : PE X (.UnaryOp .USub a pos) (tR B (eUn dNeg m)) := PE.imp (pe_un un_neg ha) fun σ H Q h => by
  obtain ⟨ρ, G, ok, h⟩ := h
  refine tR.mono (runR ok h) fun x H1 ⟨r1, ρ1, G1, n1, q1, h1⟩ => ?_
  obtain ⟨d1, e1, h2⟩ := pk_get (P := PR B ρ1 G1 σ H1 Q) h1 id
  have pk := pk_ok n1.ok q1 e1
  unfold dNeg at h2
  split at h2
  · exact ⟨_, pk.int_of, pr_val n1.ok (.int _) h2⟩
  · exact h2.elim
end

/-! ### argument lists, displays -/
@[simp] def aNil : M (List Rs) := fun ρ => .ok ([], ρ)
@[simp] def aCons (a : M Rs) (r : M (List Rs)) : M (List Rs) := fun ρ => (a ρ).bind fun p => (r p.2).bind fun q => .ok (st p.1 :: q.1, q.2)
@[simp] def eTup (a : M (List Rs)) : M Rs := fun ρ => (a ρ).bind fun p => (fzs p.1 p.2).bind fun q => if q.1.length ≤ 16777216 then .ok (.val (.tup q.1), q.2) else R.stuck
@[simp] def eLst (a : M (List Rs)) : M Rs := fun ρ => (a ρ).bind fun p => (fzs p.1 p.2).bind fun q => if q.1.length ≤ 16777216 then .ok (.new (.lst q.1), q.2) else R.stuck
section
variable {X : Cx} {B : Bs} {e : Expr} {es : List Expr} {pos : Pos} {m : M Rs} {ms : M (List Rs)}
theorem runRL {ρ : En} {G H : Hp} {σ : L2.St} {Q : List V → Hp → Prop} {Y : Rs × En → R (List Rs × En)} (ok : Ok B ρ G σ H) (h : PL B ρ G σ H Q ((m ρ).bind Y)) : tR B m σ H fun x H1 => ∃ r ρ1 G1, Nx B ρ G σ H ρ1 G1 H1 ∧ RvOk B G1 σ x (st r) ∧ PL B ρ1 G1 σ H1 Q (Y (r, ρ1)) :=
  run (P := fun x ρ G H => PL B ρ G σ H Q x) ok h (fun x n h => PL.mono n h) (fun e h => PL.err h)
theorem runLL {ρ : En} {G H : Hp} {σ : L2.St} {Q : List V → Hp → Prop} {Y : List Rs × En → R (List Rs × En)} (ok : Ok B ρ G σ H) (h : PL B ρ G σ H Q ((ms ρ).bind Y)) : tA B ms σ H fun x H1 => ∃ r ρ1 G1, Nx B ρ G σ H ρ1 G1 H1 ∧ RvsOk B G1 σ x r ∧ PL B ρ1 G1 σ H1 Q (Y (r, ρ1)) :=
  runL (P := fun x ρ G H => PL B ρ G σ H Q x) ok h (fun x n h => PL.mono n h) (fun e h => PL.err h)
theorem runLR {ρ : En} {G H : Hp} {σ : L2.St} {Q : VK} {Y : List Rs × En → R (Rs × En)} (ok : Ok B ρ G σ H) (h : PR B ρ G σ H Q ((ms ρ).bind Y)) : tA B ms σ H fun x H1 => ∃ r ρ1 G1, Nx B ρ G σ H ρ1 G1 H1 ∧ RvsOk B G1 σ x r ∧ PR B ρ1 G1 σ H1 Q (Y (r, ρ1)) :=
  runL (P := fun x ρ G H => PR B ρ G σ H Q x) ok h (fun x n h => PR.mono n h) (fun e h => PR.err h)
theorem ta_nil : PA X [] (tA B aNil) := PA.imp pa_nil fun σ H Q h => by
  obtain ⟨ρ, G, ok, h⟩ := h
  exact h [] G H (Nx.refl ok) .nil
theorem ta_cons (ha : PE X e (tR B m)) (hr : PA X es (tA B ms)) (hs : starEach (e :: es) X.env = (false, eval e X.env) :: starEach es X.env := by rfl) : PA X (e :: es) (tA B (aCons m ms)) := PA.imp (pa_cons ha hr hs) fun σ H Q h => by
  obtain ⟨ρ, G, ok, h⟩ := h
  refine tR.mono (runRL ok h) fun x H1 ⟨r1, ρ1, G1, n1, q1, h1⟩ => ?_
  refine tA.mono (runLL n1.ok h1) fun xs H2 ⟨rs, ρ2, G2, n2, q2, h2⟩ => ?_
  exact h2 _ G2 H2 (Nx.refl n2.ok) (.cons (q1.mono n2.ext) q2)
theorem te_tup {k} (h : PA X es (tA B ms)) : PE X (.Tuple es k pos) (tR B (eTup ms)) := PE.imp (pe_tup h) fun σ H Q h => by
  obtain ⟨ρ, G, ok, h⟩ := h
  refine tA.mono (runLR ok h) fun xs H1 ⟨rs, ρ1, G1, n1, q1, h1⟩ => ?_
  obtain ⟨ds, ρ2, e2, h2⟩ := fzs_get (P := PR B ρ1 G1 σ H1 Q) id h1
  obtain ⟨G2, n2, r2⟩ := fzs_ok n1.ok q1 e2
  dsimp only at h2
  split at h2
  · rename_i hl
    exact ⟨by rw [sizeLine_eq, r2.length]; exact hl, new_tup n2.ok r2 (PR.mono n2 h2)⟩
  · exact h2.elim
theorem te_lst (h : PA X es (tA B ms)) : PE X (.List es pos) (tR B (eLst ms)) := PE.imp (pe_lst h) fun σ H Q h => by
  obtain ⟨ρ, G, ok, h⟩ := h
  refine tA.mono (runLR ok h) fun xs H1 ⟨rs, ρ1, G1, n1, q1, h1⟩ => ?_
  obtain ⟨ds, ρ2, e2, h2⟩ := fzs_get (P := PR B ρ1 G1 σ H1 Q) id h1
  obtain ⟨G2, n2, r2⟩ := fzs_ok n1.ok q1 e2
  dsimp only at h2
  split at h2
  · rename_i hl
    exact ⟨by rw [sizeLine_eq, r2.length]; exact hl, new_lst n2.ok r2 (PR.mono n2 h2)⟩
  · exact h2.elim
end
end T
namespace T
open PySem PySem.Spec PyProof.Rows L2

/-! ### items and slices -/
section
variable {W : Wd} {G : Hp}
theorem Reps.atI {vs : List V} {ds : List D} {i : Int} {d : D} (r : Reps W G vs ds) (e : L2.atI ds i = some d) : ∃ v, L2.atI vs i = some v ∧ Rep W G v d := by
  unfold L2.atI at e ⊢
  rw [r.length]
  cases q : ixN ds.length i with
  | none => rw [q] at e; cases e
  | some j =>
    rw [q] at e
    obtain ⟨v, h1, h2⟩ := r.get (i := j) (d := d) e
    exact ⟨v, h1, h2⟩
theorem atI_map {ns : List Int} {i : Int} {n : Int} (e : L2.atI ns i = some n) : L2.atI (ns.map V.int) i = some (.int n) := by
  unfold L2.atI at e ⊢
  rw [List.length_map]
  cases q : ixN ns.length i with
  | none => rw [q] at e; cases e
  | some j =>
    rw [q] at e
    have e : ns[j]? = some n := e
    show (ns.map V.int)[j]? = _
    rw [List.getElem?_map, e]; rfl
end
@[simp] def dIx : D → D → R Rs
  | .lst xs, .int i => match L2.atI xs i with | some d => .ok (.val d) | none => R.stuck
  | .tup xs, .int i => match L2.atI xs i with | some d => .ok (.val d) | none => R.stuck
  | .scr xs, .int i => match L2.atI xs i with | some d => .ok (.val (.int d)) | none => R.stuck
  | .str z, .int i => if z.length ≤ 16777216 then (match L2.atI z.cps.toList i with | some c => .ok (.val (.str ⟨#[c]⟩)) | none => R.stuck) else R.stuck
  | _, _ => R.stuck
def cutL {α : Type} (xs : List α) (lo hi : Option Int) : List α := (xs.drop (HT.sIx xs.length 0 lo)).take (HT.sIx xs.length xs.length hi - HT.sIx xs.length 0 lo)
@[simp] def dSl (lo hi : Option Int) : D → R Rs
  | .lst xs => .ok (.new (.lst (cutL xs lo hi)))
  | .scr xs => .ok (.new (.lst ((cutL xs lo hi).map .int)))
  | _ => R.stuck
section
variable {X : Cx} {B : Bs} {a b : Expr} {pos p2 : Pos} {ma mb : M Rs}
theorem o2_ix (hW : B.W.K = X.K) : Op2 B (rIx X.K) dIx := by
  intro σ ρ G H x y d1 d2 Q ok p1 p2 q
  unfold dIx at q
  split at q
  · split at q
    · rename_i i d e
      obtain ⟨a, vs, rfl, ha, ra⟩ := p1.lst_of ok
      obtain ⟨v, e2, r2⟩ := ra.atI e
      exact .inl ⟨a, vs, _, v, rfl, p2.int_of, SqL.of ha, e2, pr_val ok r2 q⟩
    · exact q.elim
  · split at q
    · rename_i i d e
      obtain ⟨a, vs, rfl, ha, ra⟩ := p1.tup_of ok
      obtain ⟨v, e2, r2⟩ := ra.atI e
      exact .inr (.inl ⟨a, vs, _, v, rfl, p2.int_of, SqT.of ha, e2, pr_val ok r2 q⟩)
    · exact q.elim
  · split at q
    · rename_i i d e
      obtain ⟨a, rfl, ha⟩ := p1.scr_of ok
      exact .inl ⟨a, _, _, _, rfl, p2.int_of, hW ▸ ha, atI_map e, pr_val ok (.int _) q⟩
    · exact q.elim
  · split at q
    · rename_i z i hz
      split at q
      · rename_i c e
        exact .inr (.inr ⟨z, i, c, p1.str_of, p2.int_of, by rw [sizeLine_eq]; exact hz, e, pr_val ok (.str _) q⟩)
      · exact q.elim
    · exact q.elim
  · exact q.elim
theorem te_ix (hW : B.W.K = X.K) (ha : PE X a (tR B ma)) (hb : PE X b (tR B mb)) (hs : PlainIx b := by intro _ _; rfl) : PE X (.Subscript a b pos) (tR B (eBin dIx ma mb)) :=
  PE.imp (pe_ix ix_seq ha hb hs) fun _ _ _ h => bin_read (o2_ix hW) h
@[simp] def oNo : M (Option Int) := fun ρ => .ok (none, ρ)
@[simp] def oAt (m : M Rs) : M (Option Int) := fun ρ => (m ρ).bind fun p => match p.1 with
  | .val (.int i) => .ok (some i, p.2)
  | _ => R.stuck
def PO' (B : Bs) (ρ : En) (G : Hp) (σ : L2.St) (H : Hp) (Q : Option Int → Hp → Prop) : R (Option Int × En) → Prop
  | .ok (b, ρ') => ∀ G' H', Nx B ρ G σ H ρ' G' H' → Q b H'
  | .err (.exc c fs) => ∀ H', Same B.H0 H' → B.E c fs H'
  | .err .stuck => False
def tO (B : Bs) (m : M (Option Int)) : TO := fun σ H Q => ∃ ρ G, Ok B ρ G σ H ∧ PO' B ρ G σ H Q (m ρ)
theorem to_none : PO X none (tO B oNo) := ⟨fun pins s σ H Q I h => by
  obtain ⟨ρ, G, ok, h⟩ := h
  exact po_none.run pins s σ H Q I (h G H (Nx.refl ok))⟩
theorem to_some (ha : PE X a (tR B ma)) : PO X (some a) (tO B (oAt ma)) := ⟨fun pins s σ H Q I h => by
  refine (po_some ha).run pins s σ H Q I ?_
  obtain ⟨ρ, G, ok, h⟩ := h
  refine ⟨ρ, G, ok, ?_⟩
  unfold oAt at h
  cases e : ma ρ with
  | err x => rw [e] at h; cases x <;> exact h
  | ok a =>
    obtain ⟨r, ρ1⟩ := a
    rw [e] at h
    cases r with
    | new d => exact (show False from h).elim
    | bor d => exact (show False from h).elim
    | val d =>
      cases d with
      | int k =>
        intro v G' H' n q f
        cases q
        exact ⟨k, rfl, h G' H' n⟩
      | _ => exact (show False from h).elim⟩
@[simp] def eSl (a : M Rs) (lo hi : M (Option Int)) : M Rs := fun ρ => (a ρ).bind fun p => (lo p.2).bind fun l => (hi l.2).bind fun h => (pk h.2 p.1).bind fun x => (dSl l.1 h.1 x).bind fun r => .ok (r, h.2)
theorem runO {α : Type} {m : M (Option Int)} {ρ : En} {G H : Hp} {σ : L2.St} {Q : VK} {Y : Option Int × En → R (Rs × En)} (ok : Ok B ρ G σ H) (h : PR B ρ G σ H Q ((m ρ).bind Y)) :
    tO B m σ H fun b H1 => ∃ ρ1 G1, Nx B ρ G σ H ρ1 G1 H1 ∧ PR B ρ1 G1 σ H1 Q (Y (b, ρ1)) := by
  refine ⟨ρ, G, ok, ?_⟩
  cases e : m ρ with
  | ok a =>
    obtain ⟨r, ρ1⟩ := a
    rw [e] at h
    exact fun G' H' n => ⟨ρ1, G', n, PR.mono n h⟩
  | err e' =>
    rw [e] at h
    have := PR.err h
    cases e' <;> exact this
theorem tO.mono {m : M (Option Int)} {σ : L2.St} {H : Hp} {Q Q' : Option Int → Hp → Prop} (h : tO B m σ H Q) (w : ∀ v H', Q v H' → Q' v H') : tO B m σ H Q' := by
  obtain ⟨ρ, G, ok, h⟩ := h
  refine ⟨ρ, G, ok, ?_⟩
  cases e : m ρ with
  | ok a => rw [e] at h; exact fun G' H' n => w _ _ (h G' H' n)
  | err x => rw [e] at h; cases x <;> exact h
theorem Reps.cut {W : Wd} {G : Hp} {vs : List V} {ds : List D} (r : Reps W G vs ds) (lo hi : Option Int) : Reps W G (cutV vs lo hi) (cutL ds lo hi) := by
  unfold cutV cutL
  rw [r.length]
  exact (r.drop _).take _
theorem cut_map (ns : List Int) (lo hi : Option Int) : cutV (ns.map V.int) lo hi = (cutL ns lo hi).map V.int := by
  unfold cutV cutL
  rw [List.length_map, List.map_take, List.map_drop]
theorem te_sl {lo hi : Option Expr} {ml mh : M (Option Int)} (hW : B.W.K = X.K) (ha : PE X a (tR B ma)) (hl : PO X lo (tO B ml)) (hh : PO X hi (tO B mh)) : PE X (.Subscript a (.Slice lo hi none p2) pos) (tR B (eSl ma ml mh)) :=
  PE.imp (pe_slice sl_list ha hl hh) fun σ H Q h => by
    obtain ⟨ρ, G, ok, h⟩ := h
    refine tR.mono (runR ok h) fun x H1 ⟨r1, ρ1, G1, n1, q1, h⟩ => ?_
    refine tO.mono (runO (α := Unit) n1.ok h) fun l H2 ⟨ρ2, G2, n2, h⟩ => ?_
    refine tO.mono (runO (α := Unit) n2.ok h) fun u H3 ⟨ρ3, G3, n3, h⟩ => ?_
    obtain ⟨d, e, h⟩ := pk_get (P := PR B ρ3 G3 σ H3 Q) h id
    have pk := pk_ok n3.ok (q1.mono (n2.ext.trans n3.ext)) e
    dsimp only at h
    unfold dSl at h
    split at h
    · obtain ⟨a, vs, rfl, ha, ra⟩ := pk.lst_of n3.ok
      exact ⟨a, vs, rfl, SqL.of ha, new_lst n3.ok (ra.cut l u) h⟩
    · rename_i ns
      obtain ⟨a, rfl, ha⟩ := pk.scr_of n3.ok
      refine ⟨a, _, rfl, hW ▸ ha, ?_⟩
      rw [cut_map]
      exact new_lst n3.ok (Reps.ints _) h
    · exact h.elim
end

/-! ### calls of built-ins, by values -/
@[simp] def pks (ρ : En) : List Rs → R (List D)
  | [] => .ok []
  | r :: rs => (pk ρ r).bind fun d => (pks ρ rs).bind fun ds => .ok (d :: ds)
inductive PkOks (B : Bs) (G H : Hp) : List V → List D → Prop
  | nil : PkOks B G H [] []
  | cons {v vs d ds} : PkOk B G H v d → PkOks B G H vs ds → PkOks B G H (v :: vs) (d :: ds)
@[simp] def eCB (f : List D → R Rs) (a : M (List Rs)) : M Rs := fun ρ => (a ρ).bind fun p => (pks p.2 p.1).bind fun ds => (f ds).bind fun r => .ok (r, p.2)
def CallS (B : Bs) (r : List V → Hp → VK → Prop) (f : List D → R Rs) : Prop := ∀ {σ ρ G H vs ds} {Q : VK}, Ok B ρ G σ H → PkOks B G H vs ds → PR B ρ G σ H Q ((f ds).bind fun r => .ok (r, ρ)) → r vs H Q
section
variable {X : Cx} {B : Bs} {x : Str} {p pos : Pos} {e : Expr} {es : List Expr} {ms : M (List Rs)} {id Tn : String} {r : List V → Hp → VK → Prop} {f : List D → R Rs}
theorem pks_get {α : Type} {P : R α → Prop} (hs : ¬ P (.err .stuck)) : ∀ {rs : List Rs} {ρ : En} {Y : List D → R α}, P ((pks ρ rs).bind Y) → ∃ ds, pks ρ rs = .ok ds ∧ P (Y ds)
  | [], ρ, Y, h => ⟨[], rfl, h⟩
  | r :: rs, ρ, Y, h => by
    unfold pks at h
    rw [R.bind_assoc] at h
    obtain ⟨d, e1, h⟩ := pk_get h hs
    rw [R.bind_assoc] at h
    obtain ⟨ds, e2, h⟩ := pks_get hs h
    refine ⟨d :: ds, ?_, h⟩
    unfold pks
    rw [e1]
    dsimp only [R.bind_ok]
    rw [e2]
    rfl
theorem st_rv {G : Hp} {σ : L2.St} {v : V} {r : Rs} (h : RvOk B G σ v r) : RvOk B G σ v (st r) := by cases r <;> first | exact h | exact (show False from h).elim
theorem pks_ok {ρ : En} {G H : Hp} {σ : L2.St} (ok : Ok B ρ G σ H) : ∀ {vs : List V} {rs : List Rs} {ds : List D}, RvsOk B G σ vs rs → pks ρ rs = .ok ds → PkOks B G H vs ds
  | _, _, _, .nil, e => by cases e; exact .nil
  | _, _, ds, .cons (r := r) (rs := rs) h t, e => by
    unfold pks at e
    cases e1 : pk ρ r with
    | err x => rw [e1] at e; cases e
    | ok d =>
      rw [e1] at e
      dsimp only [R.bind_ok] at e
      cases e2 : pks ρ rs with
      | err x => rw [e2] at e; cases e
      | ok ds' =>
        rw [e2] at e; cases e
        exact .cons (pk_ok ok (st_rv h) e1) (pks_ok ok t e2)
theorem cb_read (hf : CallS B r f) {σ : L2.St} {H : Hp} {Q : VK} (h : tR B (eCB f ms) σ H Q) : tCB r (tA B ms) σ H Q := by
  obtain ⟨ρ, G, ok, h⟩ := h
  refine tA.mono (runLR ok h) fun vs H1 ⟨rs, ρ1, G1, n1, q1, h1⟩ => ?_
  obtain ⟨ds, e1, h2⟩ := pks_get (P := PR B ρ1 G1 σ H1 Q) id h1
  exact hf n1.ok (pks_ok n1.ok q1 e1) h2
theorem te_callB (hc : CallR X (.builtin id) r) (hf : CallS B r f) (hm : X.mg x = none) (hv : bootBuiltins x = some (.builtin id)) (ha : PA X (e :: es) (tA B ms)) (hg : Gl X x := by rfl) (hn : x ≠ "__name__" := by decide) (hdb : (x == ("__debug__" : Str)) = false := by decide)
    (he : starEach (e :: es) X.env = (false, eval e X.env) :: starEach es X.env := by rfl) (hpl : (backTo pos (starEach es X.env)).any (·.1) = false := by rfl) : PE X (.Call (.Name x p) (e :: es) [] pos) (tR B (eCB f ms)) :=
  PE.imp (pe_callB hc hg hm hv ha hn hdb he hpl) fun _ _ _ h => cb_read hf h
theorem te_callTy (hc : CallR X (.type Tn) r) (hf : CallS B r f) (hm : X.mg x = none) (hv : bootBuiltins x = some (.type Tn)) (ha : PA X (e :: es) (tA B ms)) (hg : Gl X x := by rfl) (hn : x ≠ "__name__" := by decide) (hdb : (x == ("__debug__" : Str)) = false := by decide)
    (he : starEach (e :: es) X.env = (false, eval e X.env) :: starEach es X.env := by rfl) (hpl : (backTo pos (starEach es X.env)).any (·.1) = false := by rfl) : PE X (.Call (.Name x p) (e :: es) [] pos) (tR B (eCB f ms)) :=
  PE.imp (pe_callTy hc hg hm hv ha hn hdb he hpl) fun _ _ _ h => cb_read hf h
/-- len -/
@[simp] def dLen : List D → R Rs
  | [.lst xs] => .ok (.val (.int xs.length))
  | [.tup xs] => .ok (.val (.int xs.length))
  | [.scr xs] => .ok (.val (.int xs.length))
  | [.str z] => if z.length ≤ 16777216 then .ok (.val (.int z.length)) else R.stuck
  | _ => R.stuck
theorem PkOks.one {G H : Hp} {vs : List V} {d : D} (h : PkOks B G H vs [d]) : ∃ v, vs = [v] ∧ PkOk B G H v d := by
  cases h with | cons a b => cases b; exact ⟨_, rfl, a⟩
theorem PkOks.two {G H : Hp} {vs : List V} {d e : D} (h : PkOks B G H vs [d, e]) : ∃ v w, vs = [v, w] ∧ PkOk B G H v d ∧ PkOk B G H w e := by
  cases h with | cons a b => cases b with | cons b c => cases c; exact ⟨_, _, rfl, a, b⟩
theorem c_len (hW : B.W.K = X.K) : CallS B (fun xs H Q => ∃ x n, xs = [x] ∧ LenV X.K x H n ∧ Q (.int n) H) dLen := by
  intro σ ρ G H vs ds Q ok p q
  unfold dLen at q
  split at q
  · obtain ⟨v, rfl, p1⟩ := p.one
    obtain ⟨a, ws, rfl, ha, ra⟩ := p1.lst_of ok
    exact ⟨_, _, rfl, .inl ⟨ws, SqL.of ha, rfl⟩, by rw [ra.length]; exact pr_val ok (.int _) q⟩
  · obtain ⟨v, rfl, p1⟩ := p.one
    obtain ⟨a, ws, rfl, ha, ra⟩ := p1.tup_of ok
    exact ⟨_, _, rfl, .inr ⟨ws, SqT.of ha, rfl⟩, by rw [ra.length]; exact pr_val ok (.int _) q⟩
  · rename_i ns
    obtain ⟨v, rfl, p1⟩ := p.one
    obtain ⟨a, rfl, ha⟩ := p1.scr_of ok
    exact ⟨_, ns.length, rfl, .inl ⟨_, hW ▸ ha, by rw [List.length_map]⟩, pr_val ok (.int _) q⟩
  · split at q
    · rename_i z hz
      obtain ⟨v, rfl, p1⟩ := p.one
      cases p1.str_of
      exact ⟨_, z.length, rfl, ⟨by rw [sizeLine_eq]; exact hz, rfl⟩, pr_val ok (.int _) q⟩
    · exact q.elim
  · exact q.elim
/-- max, min of two ints -/
@[simp] def dMax2 : List D → R Rs
  | [.int i, .int j] => .ok (.val (.int (if i < j then j else i)))
  | _ => R.stuck
@[simp] def dMin2 : List D → R Rs
  | [.int i, .int j] => .ok (.val (.int (if j < i then j else i)))
  | _ => R.stuck
theorem c_max2 : CallS B (fun xs H Q => ∃ i j, xs = [.int i, .int j] ∧ Q (.int (if j > i then j else i)) H) dMax2 := by
  intro σ ρ G H vs ds Q ok p q
  unfold dMax2 at q
  split at q
  · obtain ⟨v, w, rfl, p1, p2⟩ := p.two
    cases p1.int_of
    cases p2.int_of
    exact ⟨_, _, rfl, pr_val ok (.int _) q⟩
  · exact q.elim
theorem c_min2 : CallS B (fun xs H Q => ∃ i j, xs = [.int i, .int j] ∧ Q (.int (if j < i then j else i)) H) dMin2 := by
  intro σ ρ G H vs ds Q ok p q
  unfold dMin2 at q
  split at q
  · obtain ⟨v, w, rfl, p1, p2⟩ := p.two
    cases p1.int_of
    cases p2.int_of
    exact ⟨_, _, rfl, pr_val ok (.int _) q⟩
  · exact q.elim
/-- int(x) of an int, a bool -/
@[simp] def dInt1 : List D → R Rs
  | [.int i] => .ok (.val (.int i))
  | [.bl b] => .ok (.val (.int (if b then 1 else 0)))
  | _ => R.stuck
theorem c_int1 : CallS B (fun xs H Q => (∃ i, xs = [.int i] ∧ Q (.int i) H) ∨ ∃ k, xs = [.bl k] ∧ Q (.int (if k then 1 else 0)) H) dInt1 := by
  intro σ ρ G H vs ds Q ok p q
  unfold dInt1 at q
  split at q
  · obtain ⟨v, rfl, p1⟩ := p.one
    cases p1.int_of
    exact .inl ⟨_, rfl, pr_val ok (.int _) q⟩
  · obtain ⟨v, rfl, p1⟩ := p.one
    cases p1.bl_of
    exact .inr ⟨_, rfl, pr_val ok (.int _) q⟩
  · exact q.elim
/-- isinstance(x, T), T a built-in class -/
@[simp] def D.tyN : D → Option String
  | .non => some "NoneType"
  | .bl _ => some "bool"
  | .int _ => some "int"
  | .str _ => some "str"
  | .lst _ => some "list"
  | .tup _ => some "tuple"
  | .dct _ => some "dict"
  | _ => none
@[simp] def dIsi : List D → R Rs
  | [d, .ty n] => match d.tyN with
    | some t => match kitB t n with | some b => .ok (.val (.bl b)) | none => R.stuck
    | none => R.stuck
  | _ => R.stuck
theorem PkOk.tyOf {K : PySem.W.Frag} {ρ : En} {G H : Hp} {σ : L2.St} {v : V} {d : D} {t : String} (ok : Ok B ρ G σ H) (h : PkOk B G H v d) (e : d.tyN = some t) : TyX K H v (.type t) := by
  refine .base ?_
  cases d with
  | non => cases e; rcases h with h | ⟨p, _, _, _, b⟩ <;> first | (cases h; exact .non) | (rcases b with ⟨_, _, e, _⟩ | ⟨_, _, e, _⟩ <;> cases e)
  | bl i => cases e; cases h.bl_of; exact .bl i
  | int i => cases e; cases h.int_of; exact .int i
  | str i => cases e; cases h.str_of; exact .str i
  | lst i => cases e; obtain ⟨a, vs, rfl, ha, _⟩ := h.lst_of ok; exact .lst ha
  | tup i => cases e; obtain ⟨a, vs, rfl, ha, _⟩ := h.tup_of ok; exact .tup ha
  | dct i =>
    cases e
    rcases h with h | ⟨p, rfl, _, _, b⟩
    · cases h with | dct h r => exact .dK (ok.gh _ _ h)
    · rcases b with ⟨_, _, e, _⟩ | ⟨_, _, e, hb, _⟩
      · cases e
      · exact .dK hb
  | _ => cases e
theorem c_isi (hW : B.W.K = X.K) : CallS B (rIsi X.K) dIsi := by
  intro σ ρ G H vs ds Q ok p q
  unfold dIsi at q
  split at q
  · split at q
    · rename_i t et
      split at q
      · rename_i b eb
        obtain ⟨v, w, rfl, p1, p2⟩ := p.two
        cases p2.ty_of
        exact ⟨v, _, .type t, _, b, rfl, .ty _, p1.tyOf ok et, kit_ty eb, pr_val ok (.bl _) q⟩
      · exact q.elim
    · exact q.elim
  · exact q.elim
theorem te_ty {n : String} (hm : X.mg x = none) (hv : bootBuiltins x = some (.type n)) (hg : Gl X x := by rfl) (hn : x ≠ "__name__" := by decide) (hd : (x == ("__debug__" : Str)) = false := by decide) : PE X (.Name x pos) (tR B (eC (.ty n))) :=
  te_c (pe_bltn (v := .ty n) hg hm hv rfl hn hd) fun _ => .ty n
/-- list(xs) -/
@[simp] def dList : List D → R Rs
  | [.lst xs] => .ok (.new (.lst xs))
  | [.tup xs] => .ok (.new (.lst xs))
  | [.scr xs] => .ok (.new (.lst (xs.map .int)))
  | _ => R.stuck
theorem c_list (hW : B.W.K = X.K) : CallS B (fun xs H Q => ∃ p ys, xs = [.ref p] ∧ (SqL X.K H p ys ∨ SqT X.K H p ys) ∧ ∀ l, H l = none → Q (.ref l) (upd H l (.lst ys))) dList := by
  intro σ ρ G H vs ds Q ok p q
  unfold dList at q
  split at q
  · obtain ⟨v, rfl, p1⟩ := p.one
    obtain ⟨a, ws, rfl, ha, ra⟩ := p1.lst_of ok
    exact ⟨_, _, rfl, .inl (SqL.of ha), new_lst ok ra q⟩
  · obtain ⟨v, rfl, p1⟩ := p.one
    obtain ⟨a, ws, rfl, ha, ra⟩ := p1.tup_of ok
    exact ⟨_, _, rfl, .inr (SqT.of ha), new_lst ok ra q⟩
  · rename_i ns
    obtain ⟨v, rfl, p1⟩ := p.one
    obtain ⟨a, rfl, ha⟩ := p1.scr_of ok
    exact ⟨_, _, rfl, .inl (hW ▸ ha), new_lst ok (Reps.ints ns) q⟩
  · exact q.elim
/-- sum of ints -/
def intsOf : List D → Option (List Int)
  | [] => some []
  | .int i :: ds => match intsOf ds with | some is => some (i :: is) | none => none
  | _ => none
theorem intsOf_map (ns : List Int) : intsOf (ns.map .int) = some ns := by
  induction ns with
  | nil => rfl
  | cons n ns ih => rw [List.map_cons, intsOf, ih]
theorem Reps.intsOf {W : Wd} {G : Hp} : ∀ {vs : List V} {ds : List D} {ns : List Int}, Reps W G vs ds → T.intsOf ds = some ns → vs = ns.map V.int
  | _, _, ns, .nil, e => by cases e; rfl
  | _, _, ns, .cons (d := d) (ds := ds) r t, e => by
    cases d with
    | int i =>
      unfold T.intsOf at e
      split at e
      · rename_i is q; cases e; cases r; rw [List.map_cons, Reps.intsOf t q]
      · cases e
    | _ => cases e
@[simp] def dSum : List D → R Rs
  | [.lst xs] => match intsOf xs with | some ns => .ok (.val (.int ns.sum)) | none => R.stuck
  | [.scr ns] => .ok (.val (.int ns.sum))
  | _ => R.stuck
theorem c_sum (hW : B.W.K = X.K) : CallS B (rSum X.K) dSum := by
  intro σ ρ G H vs ds Q ok p q
  unfold dSum at q
  split at q
  · split at q
    · rename_i ns e
      obtain ⟨v, rfl, p1⟩ := p.one
      obtain ⟨a, ws, rfl, ha, ra⟩ := p1.lst_of ok
      cases ra.intsOf e
      exact ⟨a, ns, rfl, SqL.of ha, pr_val ok (.int _) q⟩
    · exact q.elim
  · obtain ⟨v, rfl, p1⟩ := p.one
    obtain ⟨a, rfl, ha⟩ := p1.scr_of ok
    exact ⟨a, _, rfl, hW ▸ ha, pr_val ok (.int _) q⟩
  · exact q.elim
end
end T
namespace T
open PySem PySem.Spec PyProof.Rows L2

/-! ### a def's promise -/
mutual
@[simp] def D.flat : D → Bool
  | .non => true
  | .bl _ => true
  | .int _ => true
  | .str _ => true
  | .ty _ => true
  | .glo _ => true
  | .tup xs => D.flats xs
  | _ => false
@[simp] def D.flats : List D → Bool
  | [] => true
  | d :: ds => d.flat && D.flats ds
end
@[simp] def Rs.flat : Rs → Bool
  | .val d => d.flat
  | .new (.lst xs) => D.flats xs
  | _ => false
def RtOk (W : Wd) (G H H' : Hp) (v : V) : Rs → Prop
  | .val d => Rep W G v d
  | .new d => ∃ p, v = .ref p ∧ H p = none ∧ G p = none ∧ Body W G H' p d
  | .bor _ => False
/-- what a caller is told of an exception -/
def ExV (W : Wd) (G : Hp) (c : Str) (fs : List (Str × D)) (e : Value) (od : Option Addr) (H : Hp) : Prop :=
  ∃ C, W.mg c = some (.ref C) ∧ e = .ref C ∧ ((fs = [] ∧ od = none) ∨ ∃ d vs, od = some d ∧ H d = some (.xd vs) ∧ Flds W G vs fs)
/-- x: whether an exception may leave -/
def PM (W : Wd) (x : Bool) (G0 H : Hp) (Q : VK) (E : XK) : R Rs → Prop
  | .ok r => ∀ v G' H', Same G0 G' → Same G' H' → Same H H' → (∀ a o, G' a = some o → G0 a = some o ∨ H a = none) → RtOk W G' H H' v r → Q v H'
  | .err (.exc c fs) => x = true ∧ ∀ e od G' H', Same G0 G' → Same G' H' → Same H H' → ExV W G' c fs e od H' → E e od H'
  | .err .stuck => False
def spM (W : Wd) (x : Bool) (n : Nat) (m : List D → R Rs) : Sp := fun vs H Q E => ∃ G0 ds, ds.length = n ∧ Same G0 H ∧ Reps W G0 vs ds ∧ PM W x G0 H Q E (m ds)
theorem spM_len {W : Wd} {x : Bool} {n : Nat} {m : List D → R Rs} {vs : List V} {H : Hp} {Q : VK} {E : XK} (h : spM W x n m vs H Q E) : vs.length = n := by
  obtain ⟨G0, ds, e, _, r, _⟩ := h
  rw [r.length, e]

/-! ### a call of a def -/
@[simp] def eCall (m : List D → R Rs) (a : M (List Rs)) : M Rs := fun ρ => (a ρ).bind fun p => (fzs p.1 p.2).bind fun q => (m q.1).bind fun r => .ok (r, if r.flat = true then p.2 else q.2)
section
variable {X : Cx} {B : Bs} {ρ ρ1 ρ2 : En} {G G1 G2 G' : Hp} {σ : L2.St} {H H1 H' : Hp}
theorem body_same {W : Wd} {G G' H H' : Hp} {p : Addr} {d : D} (h : Body W G H p d) (g : Same G G') (e : ∀ o, H p = some o → H' p = some o) : Body W G' H' p d := by
  rcases h with ⟨vs, ds, z1, z2, z3⟩ | ⟨vs, ds, z1, z2, z3⟩
  · exact .inl ⟨vs, ds, z1, e _ z2, z3.mono g⟩
  · exact .inr ⟨vs, ds, z1, e _ z2, z3.mono g⟩
mutual
theorem flat_rep {W : Wd} {G G' : Hp} (h : ∀ a vs, G a = some (.tup vs) → G' a = some (.tup vs)) : ∀ {v : V} {d : D}, Rep W G v d → d.flat = true → Rep W G' v d
  | _, _, .non, _ => .non
  | _, _, .bl b, _ => .bl b
  | _, _, .int b, _ => .int b
  | _, _, .str b, _ => .str b
  | _, _, .ty b, _ => .ty b
  | _, _, .glo b, _ => .glo b
  | _, _, .tup (ds := ds) e r, f => .tup (h _ _ e) (flat_reps h r (by simpa [D.flat] using f))
  | _, _, .lst e r, f => by simp [D.flat] at f
  | _, _, .scr e, f => by simp [D.flat] at f
  | _, _, .obj e e2 r, f => by simp [D.flat] at f
  | _, _, .dct e r, f => by simp [D.flat] at f
theorem flat_reps {W : Wd} {G G' : Hp} (h : ∀ a vs, G a = some (.tup vs) → G' a = some (.tup vs)) : ∀ {vs : List V} {ds : List D}, Reps W G vs ds → D.flats ds = true → Reps W G' vs ds
  | _, _, .nil, _ => .nil
  | _, _, .cons r t, f => by
    simp only [D.flats, Bool.and_eq_true] at f
    exact .cons (flat_rep h r f.1) (flat_reps h t f.2)
end
open Classical in
/-- behind a call: what was frozen for it alone is free again where the result holds none of it -/
theorem call_back (ok1 : Ok B ρ1 G1 σ H1) (n2 : Nx B ρ1 G1 σ H1 ρ2 G2 H1) {v : V} {r : Rs} (s1 : Same G2 G') (s2 : Same G' H') (s3 : Same H1 H') (nw : ∀ a o, G' a = some o → G2 a = some o ∨ H1 a = none) (h : RtOk B.W G' H1 H' v r) :
    ∃ G'', Nx B ρ1 G1 σ H1 (if r.flat = true then ρ1 else ρ2) G'' H' ∧ RsOk B (if r.flat = true then ρ1 else ρ2) G'' σ H' v r ∧ Fr H1 v r := by
  have fr : Fr H1 v r := by
    cases r with
    | new d => obtain ⟨p, rfl, e, _⟩ := h; exact fun q z => by cases z; exact e
    | _ => exact True.intro
  by_cases f : r.flat = true
  · rw [if_pos f]
    refine ⟨fun a => if Owned ρ1 σ a then none else G' a, ?_, ?_, fr⟩
    · have og : ∀ a, Owned ρ1 σ a → G1 a = none := fun a ⟨i, d, e1, e2⟩ => by
        obtain ⟨p, e3, o⟩ := (show SlOk B G1 H1 σ[i]? (.own d) from ok1.sl i _ e1)
        rw [e2] at e3; cases e3; exact o.g
      have ext : Same G1 (fun a => if Owned ρ1 σ a then none else G' a) := fun a o e => by
        show (if Owned ρ1 σ a then none else G' a) = some o
        rw [if_neg (fun z => by rw [og a z] at e; cases e)]
        exact s1 a o (n2.ext a o e)
      have inv : ∀ a o, (if Owned ρ1 σ a then none else G' a) = some o → ¬ Owned ρ1 σ a ∧ G' a = some o := fun a o e => by
        by_cases z : Owned ρ1 σ a
        · rw [if_pos z] at e; cases e
        · rw [if_neg z] at e; exact ⟨z, e⟩
      refine ⟨ext, ⟨ok1.len, ok1.g0.trans ext, fun a o e => s2 a o (inv a o e).2, ok1.h0.trans s3, fun a o e => ?_, fun i s e => ?_, ok1.ap⟩, fun a o e _ => s3 a o e, fun a o e => ?_, fun _ s e => ⟨s, e, SlLe.refl s⟩, fun a o e => ⟨o, s3 a o e⟩⟩
      · rcases nw a o (inv a o e).2 with z | z
        · exact n2.ok.nw a o z
        · exact .inr (ok1.h0none z)
      · have q := ok1.sl i s e
        cases s with
        | un => exact True.intro
        | val d => obtain ⟨u, e1, rr⟩ := q; exact ⟨u, e1, rr.mono ext⟩
        | own d =>
          obtain ⟨p, e1, o1, o2, b⟩ := q
          exact ⟨p, e1, o1, if_pos ⟨i, d, e, e1⟩, body_same b ext fun o z => s3 p o z⟩
      · rcases nw a o (inv a o e).2 with z | z
        · rcases n2.gnew a o z with y | y | y
          · exact .inl y
          · exact .inr (.inl y)
          · exact ((inv a o e).1 y).elim
        · exact .inr (.inl z)
    · have tp : ∀ a vs, G' a = some (.tup vs) → (if Owned ρ1 σ a then none else G' a) = some (.tup vs) := fun a vs e => by
        rw [if_neg]
        · exact e
        · rintro ⟨i, d, e1, e2⟩
          obtain ⟨p, e3, o1, o2, b⟩ := (show SlOk B G1 H1 σ[i]? (.own d) from ok1.sl i _ e1)
          rw [e2] at e3; cases e3
          have e9 := s2 a _ e
          rcases b with ⟨_, _, _, z2, _⟩ | ⟨_, _, _, z2, _⟩
          · rw [s3 a _ z2] at e9; cases e9
          · rw [s3 a _ z2] at e9; cases e9
      cases r with
      | val d => exact flat_rep tp h f
      | bor i => exact (show False from h).elim
      | new d =>
        obtain ⟨p, rfl, e1, e2, b⟩ := h
        have no : ¬ Owned ρ1 σ p := ok1.notOwned e1
        refine ⟨p, rfl, ⟨ok1.h0none e1, ?_, ?_⟩, no⟩
        · show (if Owned ρ1 σ p then none else G' p) = none
          rw [if_neg no]; exact e2
        · rcases b with ⟨vs, ds, rfl, z2, z3⟩ | ⟨vs, ds, rfl, z2, z3⟩
          · exact .inl ⟨vs, ds, rfl, z2, flat_reps tp z3 f⟩
          · cases f
  · rw [if_neg f]
    have n3 : Nx B ρ2 G2 σ H1 ρ2 G' H' := by
      refine ⟨s1, ⟨n2.ok.len, n2.ok.g0.trans s1, s2, n2.ok.h0.trans s3, fun a o e => ?_, fun i s e => ?_, n2.ok.ap⟩, fun a o e _ => s3 a o e, fun a o e => ?_, fun _ s e => ⟨s, e, SlLe.refl s⟩, fun a o e => ⟨o, s3 a o e⟩⟩
      · rcases nw a o e with z | z
        · exact n2.ok.nw a o z
        · exact .inr (ok1.h0none z)
      · have q := n2.ok.sl i s e
        cases s with
        | un => exact True.intro
        | val d => obtain ⟨u, e1, rr⟩ := q; exact ⟨u, e1, rr.mono s1⟩
        | own d =>
          obtain ⟨p, e1, o1, o2, b⟩ := q
          refine ⟨p, e1, o1, ?_, body_same b s1 fun o z => s3 p o z⟩
          cases z : G' p with
          | none => rfl
          | some o =>
            rcases nw p o z with y | y
            · rw [o2] at y; cases y
            · obtain ⟨_, y2⟩ := n2.ok.ownedSome ⟨i, d, e, e1⟩
              rw [y] at y2; cases y2
      · rcases nw a o e with z | z
        · exact .inl z
        · exact .inr (.inl z)
    refine ⟨G', n2.trans n3, ?_, fr⟩
    cases r with
    | val d => exact h
    | bor i => exact (show False from h).elim
    | new d =>
      obtain ⟨p, rfl, e1, e2, b⟩ := h
      exact ⟨p, rfl, ⟨ok1.h0none e1, e2, b⟩, fun z => ok1.notOwned e1 (n2.owned z)⟩
variable {CX : CXT} {k : Nat} {f : Addr} {fd : FuncData} {ps : List Str} {E : XK} {x : Str} {p pos : Pos} {e : Expr} {es : List Expr} {ms : M (List Rs)} {n : Nat} {m : List D → R Rs} {xx : Bool}
theorem RvsOk.length {G : Hp} {σ : L2.St} : ∀ {vs : List V} {rs : List Rs}, RvsOk B G σ vs rs → vs.length = rs.length
  | _, _, .nil => rfl
  | _, _, .cons _ t => congrArg (· + 1) t.length
/-- how many arguments -/
def Len (n : Nat) (ms : M (List Rs)) : Prop := ∀ ρ a ρ', ms ρ = .ok (a, ρ') → a.length = n
theorem len_nil : Len 0 aNil := fun ρ a ρ' e => by cases e; rfl
theorem len_cons {n : Nat} {m : M Rs} {ms : M (List Rs)} (h : Len n ms) : Len (n + 1) (aCons m ms) := fun ρ a ρ' e => by
  unfold aCons at e
  cases e1 : m ρ with
  | err x => rw [e1] at e; cases e
  | ok p =>
    rw [e1] at e
    dsimp only [R.bind_ok] at e
    cases e2 : ms p.2 with
    | err x => rw [e2] at e; cases e
    | ok q =>
      obtain ⟨q1, q2⟩ := q
      rw [e2] at e; cases e
      rw [List.length_cons, h _ _ _ e2]
theorem call_read (hE : xx = true → ∀ c fs e od G' H', Same B.H0 H' → Same B.G0 G' → Same G' H' → ExV B.W G' c fs e od H' → B.E c fs H' → E e od H') (hx : xx = true ∨ ∀ ds c fs, m ds ≠ .err (.exc c fs)) (hn : Len n ms) {σ : L2.St} {H : Hp} {Q : VK}
    (h : tR B (eCall m ms) σ H Q) : tCall (spM B.W xx n m) [] E (tA B ms) σ H Q := by
  obtain ⟨ρ, G, ok, h⟩ := h
  have hl := hn ρ
  refine tA.mono (show tA B ms σ H fun vs H1 => ∃ rs ρ1 G1, Nx B ρ G σ H ρ1 G1 H1 ∧ RvsOk B G1 σ vs rs ∧ rs.length = n ∧ PR B ρ1 G1 σ H1 Q ((fzs rs ρ1).bind fun q => (m q.1).bind fun r => .ok (r, if r.flat = true then ρ1 else q.2)) from ?_) fun vs H1 ⟨rs, ρ1, G1, n1, q1, ln, h1⟩ => ?_
  · refine ⟨ρ, G, ok, ?_⟩
    unfold eCall at h
    cases e : ms ρ with
    | ok a =>
      obtain ⟨r, ρ1⟩ := a
      rw [e] at h
      exact fun v G' H' nx q => ⟨r, ρ1, G', nx, q, hl r ρ1 e, PR.mono nx h⟩
    | err e' =>
      rw [e] at h
      have := PR.err h
      cases e' <;> exact this
  · obtain ⟨ds, ρ2, e2, h2⟩ := fzs_get (P := PR B ρ1 G1 σ H1 Q) id h1
    obtain ⟨G2, n2, r2⟩ := fzs_ok n1.ok q1 e2
    dsimp only at h2
    have ld : ds.length = n := by rw [← r2.length, q1.length, ln]
    show spM B.W xx n m (vs ++ []) H1 Q E
    rw [List.append_nil]
    refine ⟨G2, ds, ld, n2.ok.gh, r2, ?_⟩
    cases e3 : m ds with
    | ok r =>
      rw [e3] at h2
      intro v G' H' s1 s2 s3 nw rt
      obtain ⟨G'', n3, rs3, fr⟩ := call_back n1.ok n2 s1 s2 s3 nw rt
      exact h2 v G'' H' n3 rs3 fr
    | err x =>
      rw [e3] at h2
      cases x with
      | stuck => exact h2
      | exc c fs =>
        rcases hx with hx | hx
        · exact ⟨hx, fun e od G' H' s1 s2 s3 ev => hE hx c fs e od G' H' (n2.ok.h0.trans s3) (n2.ok.g0.trans s1) s2 ev (h2 H' (n2.ok.h0.trans s3))⟩
        · exact (hx _ _ _ e3).elim
/-- a def that raises nothing: what its mirror says of errors is dropped -/
@[simp] def noexc (x : R Rs) : R Rs := match x with
  | .ok r => .ok r
  | .err _ => R.stuck
theorem noexc_ne {x : R Rs} (c : Str) (fs : List (Str × D)) : noexc x ≠ .err (.exc c fs) := by cases x <;> exact fun h => by cases h
theorem noexc_sp {W : Wd} {m : List D → R Rs} {vs : List V} {H : Hp} {Q : VK} {E : XK} (h : spM W xx n (fun ds => noexc (m ds)) vs H Q E) : spM W xx n m vs H Q E := by
  obtain ⟨G0, ds, e1, e2, e3, h⟩ := h
  refine ⟨G0, ds, e1, e2, e3, ?_⟩
  have h : PM W xx G0 H Q E (noexc (m ds)) := h
  cases e : m ds with
  | ok r => rw [e] at h; exact h
  | err x => rw [e] at h; exact (show False from h).elim
theorem te_call (F : FnOk X.prog X.w X.K X.mg X.base CX0 k f fd ps (spM B.W false n m)) (hr : Room k X.A) (hm : X.mg x = some (.ref f)) (hk : PySem.W.keepIn X.K (.ref f) = true) (hb : Binds X.K fd ps []) (hl : Len n ms) (ha : PA X (e :: es) (tA B ms))
    (hg : Gl X x := by rfl) (hdb : (x == ("__debug__" : Str)) = false := by decide) (he : starEach (e :: es) X.env = (false, eval e X.env) :: starEach es X.env := by rfl) (hpl : (backTo pos (starEach es X.env)).any (·.1) = false := by rfl) :
    PE X (.Call (.Name x p) (e :: es) [] pos) (tR B (eCall (fun ds => noexc (m ds)) ms)) :=
  PE.imp (pe_call (F.imp fun vs H Q E h => noexc_sp h) hr hg hm hk hb .nil (pass0 (X := X)) ha hdb he hpl) fun σ H Q h => by
    refine call_read (xx := false) (E := E0) (fun z => nomatch z) (.inr fun ds c fs => noexc_ne c fs) hl h
end
end T
namespace T
open PySem PySem.Spec PyProof.Rows L2

/-! ### statements -/
inductive Fl where
  | next | brk | cont | ret (r : Rs)
abbrev Sm := En → R (Fl × En)
def PS' (B : Bs) (G : Hp) (E : Ends) : R (Fl × En) → Prop
  | .ok (.next, ρ') => ∀ σ' G' H', Same G G' → Ok B ρ' G' σ' H' → E.nx σ' H'
  | .ok (.brk, ρ') => ∀ σ' G' H', Same G G' → Ok B ρ' G' σ' H' → E.bk σ' H'
  | .ok (.cont, ρ') => ∀ σ' G' H', Same G G' → Ok B ρ' G' σ' H' → E.ct σ' H'
  | .ok (.ret r, ρ') => ∀ v σ' G' H', Same G G' → Ok B ρ' G' σ' H' → RsOk B ρ' G' σ' H' v r → E.rt v H'
  | .err (.exc c fs) => ∀ H', Same B.H0 H' → B.E c fs H'
  | .err .stuck => False
def tS (B : Bs) (m : Sm) : TS := fun E σ H => ∃ ρ G, Ok B ρ G σ H ∧ PS' B G E (m ρ)
section
variable {X : Cx}
theorem PS.imp {s : Stmt} {t t' : TS} (h : PS X s t) (w : ∀ E σ H, t' E σ H → t E σ H) : PS X s t' := ⟨fun pins s σ H E I q => h.run pins s σ H E I (w E σ H q)⟩
theorem PSs.imp {s : List Stmt} {t t' : TS} (h : PSs X s t) (w : ∀ E σ H, t' E σ H → t E σ H) : PSs X s t' := ⟨fun pins s σ H E I q => h.run pins s σ H E I (w E σ H q)⟩
end
section
variable {B : Bs} {ρ ρ1 : En} {G G1 : Hp} {σ : L2.St} {H H1 : Hp} {E : Ends}
theorem PS'.mono (s : Same G G1) {x : R (Fl × En)} (h : PS' B G E x) : PS' B G1 E x := by
  cases x with
  | ok a =>
    obtain ⟨f, ρ'⟩ := a
    cases f with
    | next => exact fun σ' G' H' e q => h σ' G' H' (s.trans e) q
    | brk => exact fun σ' G' H' e q => h σ' G' H' (s.trans e) q
    | cont => exact fun σ' G' H' e q => h σ' G' H' (s.trans e) q
    | ret r => exact fun v σ' G' H' e q => h v σ' G' H' (s.trans e) q
  | err e => cases e <;> exact h
theorem PS'.err {e : Ex} (h : PS' B G E (.err e)) : PErr B e := by cases e <;> exact h
theorem runS {m : M Rs} {Y : Rs × En → R (Fl × En)} (ok : Ok B ρ G σ H) (h : PS' B G E ((m ρ).bind Y)) : tR B m σ H fun x H1 => ∃ r ρ1 G1, Nx B ρ G σ H ρ1 G1 H1 ∧ RvOk B G1 σ x (st r) ∧ PS' B G1 E (Y (r, ρ1)) :=
  run (P := fun x ρ G H => PS' B G E x) ok h (fun x n h => PS'.mono n.ext h) (fun e h => PS'.err h)
theorem runSN {m : M Rs} {Y : Rs × En → R (Fl × En)} (ok : Ok B ρ G σ H) (h : PS' B G E ((m ρ).bind Y)) : tR B m σ H fun x H1 => ∃ r ρ1 G1, Nx B ρ G σ H ρ1 G1 H1 ∧ RsOk B ρ1 G1 σ H1 x r ∧ Fr H x r ∧ PS' B G1 E (Y (r, ρ1)) :=
  runN (P := fun x ρ G H => PS' B G E x) ok h (fun x n h => PS'.mono n.ext h) (fun e h => PS'.err h)
theorem runST {m : M Bool} {Y : Bool × En → R (Fl × En)} (ok : Ok B ρ G σ H) (h : PS' B G E ((m ρ).bind Y)) : tT B m σ H fun x H1 => ∃ ρ1 G1, Nx B ρ G σ H ρ1 G1 H1 ∧ PS' B G1 E (Y (x, ρ1)) :=
  runT (P := fun x ρ G H => PS' B G E x) ok h (fun x n h => PS'.mono n.ext h) (fun e h => PS'.err h)
end
@[simp] def sNil : Sm := fun ρ => .ok (.next, ρ)
@[simp] def sSeq (a b : Sm) : Sm := fun ρ => (a ρ).bind fun p => match p.1 with
  | .next => b p.2
  | f => .ok (f, p.2)
@[simp] def sRet (m : M Rs) : Sm := fun ρ => (m ρ).bind fun p => match p.1 with
  | .bor i => match p.2[i]? with
    | some (.own d) => .ok (.ret (.new d), p.2.set i .un)
    | some (.val d) => .ok (.ret (.val d), p.2)
    | _ => R.stuck
  | r => .ok (.ret r, p.2)
@[simp] def sRetN : Sm := fun ρ => .ok (.ret (.val .non), ρ)
@[simp] def sIf (t : M Bool) (a b : Sm) : Sm := fun ρ => (t ρ).bind fun p => if p.1 = true then a p.2 else b p.2
@[simp] def sBrk : Sm := fun ρ => .ok (.brk, ρ)
@[simp] def sCont : Sm := fun ρ => .ok (.cont, ρ)
@[simp] def sDrop (m : M Rs) : Sm := fun ρ => (m ρ).bind fun p => .ok (.next, p.2)
/-- a slot gets a result -/
@[simp] def put (i : Nat) (r : Rs) (ρ : En) : R En := if i < ρ.length then (match r with
  | .val d => .ok (ρ.set i (.val d))
  | .new d => .ok (ρ.set i (.own d))
  | .bor j => (fz (.bor j) ρ).bind fun q => .ok (q.2.set i (.val q.1))) else R.stuck
@[simp] def sSet (i : Nat) (m : M Rs) : Sm := fun ρ => (m ρ).bind fun p => (put i p.1 p.2).bind fun ρ1 => .ok (.next, ρ1)
section
variable {X : Cx} {B : Bs} {st : Stmt} {rest : List Stmt} {a b : Sm} {e : Expr} {m : M Rs} {pos : Pos}
theorem ts_nil : PSs X [] (tS B sNil) := PSs.imp pss_nil fun E σ H h => by
  obtain ⟨ρ, G, ok, h⟩ := h
  exact h σ G H (Same.refl _) ok
theorem ts_cons (h1 : PS X st (tS B a)) (h2 : PSs X rest (tS B b)) : PSs X (st :: rest) (tS B (sSeq a b)) := PSs.imp (pss_cons h1 h2) fun E σ H h => by
  obtain ⟨ρ, G, ok, h⟩ := h
  refine ⟨ρ, G, ok, ?_⟩
  unfold sSeq at h
  cases e : a ρ with
  | err x => rw [e] at h; cases x <;> exact h
  | ok p =>
    obtain ⟨f, ρ1⟩ := p
    rw [e] at h
    cases f with
    | next => exact fun σ' G' H' s q => ⟨ρ1, G', q, PS'.mono s h⟩
    | brk => exact h
    | cont => exact h
    | ret r => exact h
theorem ts_one (h1 : PS X st (tS B a)) : PSs X [st] (tS B a) := pss_one h1
theorem ts_brk : PS X (.Break pos) (tS B sBrk) := PS.imp ps_break fun E σ H h => by
  obtain ⟨ρ, G, ok, h⟩ := h
  exact h σ G H (Same.refl _) ok
theorem ts_cont : PS X (.Continue pos) (tS B sCont) := PS.imp ps_continue fun E σ H h => by
  obtain ⟨ρ, G, ok, h⟩ := h
  exact h σ G H (Same.refl _) ok
theorem ts_pass : PS X (.Pass pos) (tS B sNil) := PS.imp ps_pass fun E σ H h => by
  obtain ⟨ρ, G, ok, h⟩ := h
  exact h σ G H (Same.refl _) ok
theorem unown {ρ : En} {G H : Hp} {σ : L2.St} {i : Nat} {d : D} {v : V} (ok : Ok B ρ G σ H) (q : ρ[i]? = some (.own d)) (hv : σ[i]? = some (some v)) : ∃ p, v = .ref p ∧ OwnAt B G H p d ∧ Ok B (ρ.set i .un) G σ H ∧ ¬ Owned (ρ.set i .un) σ p := by
  obtain ⟨p, e2, o⟩ := (show SlOk B G H σ[i]? (.own d) from ok.sl i _ q)
  rw [hv] at e2; cases e2
  have hi := own_lt q
  have get : ∀ {j s}, (ρ.set i .un)[j]? = some s → (j = i ∧ s = .un) ∨ (j ≠ i ∧ ρ[j]? = some s) := fun {j s} z => by
    by_cases hj : i = j
    · subst hj; rw [List.getElem?_set_self hi] at z; cases z; exact .inl ⟨rfl, rfl⟩
    · rw [List.getElem?_set_ne hj] at z; exact .inr ⟨Ne.symm hj, z⟩
  refine ⟨p, rfl, o, ⟨(List.length_set ..).trans ok.len, ok.g0, ok.gh, ok.h0, ok.nw, fun j s z => ?_, fun j k d1 d2 p' z1 z2 z3 z4 => ?_⟩, ?_⟩
  · rcases get z with ⟨_, rfl⟩ | ⟨_, z⟩
    · exact True.intro
    · exact ok.sl j s z
  · rcases get z1 with ⟨_, y⟩ | ⟨_, z1⟩
    · cases y
    · rcases get z2 with ⟨_, y⟩ | ⟨_, z2⟩
      · cases y
      · exact ok.ap j k d1 d2 p' z1 z2 z3 z4
  · rintro ⟨j, d1, z1, z2⟩
    rcases get z1 with ⟨_, y⟩ | ⟨hj, z1⟩
    · cases y
    · exact hj (ok.ap j i _ _ p z1 q z2 hv)
theorem ts_ret (he : PE X e (tR B m)) : PS X (.Return (some e) pos) (tS B (sRet m)) := PS.imp (ps_ret he) fun E σ H h => by
  obtain ⟨ρ, G, ok, h⟩ := h
  refine tR.mono (runSN ok h) fun x H1 ⟨r, ρ1, G1, n1, q1, f, h1⟩ => ?_
  cases r with
  | val d => exact h1 x σ G1 H1 (Same.refl _) n1.ok q1
  | new d => exact h1 x σ G1 H1 (Same.refl _) n1.ok q1
  | bor i =>
    dsimp only at h1
    split at h1
    · rename_i d q
      obtain ⟨p, rfl, o, ok', no⟩ := unown n1.ok q q1
      exact h1 _ σ G1 H1 (Same.refl _) ok' ⟨p, rfl, o, no⟩
    · rename_i d q
      obtain ⟨u, e2, o⟩ := (show SlOk B G1 H1 σ[i]? (.val d) from n1.ok.sl i _ q)
      rw [show σ[i]? = some (some x) from q1] at e2; cases e2
      exact h1 x σ G1 H1 (Same.refl _) n1.ok o
    · exact h1.elim
theorem ts_retN : PS X (.Return none pos) (tS B sRetN) := PS.imp ps_retN fun E σ H h => by
  obtain ⟨ρ, G, ok, h⟩ := h
  exact h .non σ G H (Same.refl _) ok .non
theorem ts_if {c : Expr} {t : M Bool} {as bs : List Stmt} (hc : PT X c (tT B t)) (ha : PSs X as (tS B a)) (hb : PSs X bs (tS B b)) : PS X (.If c as bs pos) (tS B (sIf t a b)) := PS.imp (ps_if hc ha hb) fun E σ H h => by
  obtain ⟨ρ, G, ok, h⟩ := h
  refine tT.mono (runST ok h) fun x H1 ⟨ρ1, G1, n1, h1⟩ => ?_
  cases x with
  | true => exact iteT ⟨ρ1, G1, n1.ok, h1⟩
  | false => exact iteF ⟨ρ1, G1, n1.ok, h1⟩
theorem ts_drop (he : PE X e (tR B m)) (hs : swapsWith e none pos.line X.env = pure false := by rfl) : PS X (.Expr e pos) (tS B (sDrop m)) := PS.imp (ps_expr he hs) fun E σ H h => by
  obtain ⟨ρ, G, ok, h⟩ := h
  exact tR.mono (runS ok h) fun x H1 ⟨r, ρ1, G1, n1, q1, h1⟩ => h1 σ G1 H1 (Same.refl _) n1.ok
/-- a slot is stored -/
theorem Ok.setVal {ρ : En} {G H : Hp} {σ : L2.St} {i : Nat} {d : D} {v : V} (ok : Ok B ρ G σ H) (hi : i < ρ.length) (r : Rep B.W G v d) : Ok B (ρ.set i (.val d)) G (σ.set i (some v)) H := by
  have hs : i < σ.length := by rw [← ok.len]; exact hi
  refine ⟨by simp [ok.len], ok.g0, ok.gh, ok.h0, ok.nw, fun j s z => ?_, fun j k d1 d2 p' z1 z2 z3 z4 => ?_⟩
  · by_cases hj : i = j
    · subst hj
      rw [List.getElem?_set_self hi] at z; cases z
      rw [List.getElem?_set_self hs]
      exact ⟨v, rfl, r⟩
    · rw [List.getElem?_set_ne hj] at z ⊢; exact ok.sl j s z
  · have n1 : i ≠ j := fun e => by subst e; rw [List.getElem?_set_self hi] at z1; cases z1
    have n2 : i ≠ k := fun e => by subst e; rw [List.getElem?_set_self hi] at z2; cases z2
    rw [List.getElem?_set_ne n1] at z1 z3
    rw [List.getElem?_set_ne n2] at z2 z4
    exact ok.ap j k d1 d2 p' z1 z2 z3 z4
theorem Ok.setOwn {ρ : En} {G H : Hp} {σ : L2.St} {i : Nat} {d : D} {p : Addr} (ok : Ok B ρ G σ H) (hi : i < ρ.length) (o : OwnAt B G H p d) (no : ¬ Owned ρ σ p) : Ok B (ρ.set i (.own d)) G (σ.set i (some (.ref p))) H := by
  have hs : i < σ.length := by rw [← ok.len]; exact hi
  refine ⟨by simp [ok.len], ok.g0, ok.gh, ok.h0, ok.nw, fun j s z => ?_, fun j k d1 d2 p' z1 z2 z3 z4 => ?_⟩
  · by_cases hj : i = j
    · subst hj
      rw [List.getElem?_set_self hi] at z; cases z
      rw [List.getElem?_set_self hs]
      exact ⟨p, rfl, o⟩
    · rw [List.getElem?_set_ne hj] at z ⊢; exact ok.sl j s z
  · by_cases n1 : i = j
    · by_cases n2 : i = k
      · rw [← n1, ← n2]
      · subst n1
        rw [List.getElem?_set_self hs] at z3; cases z3
        rw [List.getElem?_set_ne n2] at z2 z4
        exact (no ⟨k, d2, z2, z4⟩).elim
    · by_cases n2 : i = k
      · subst n2
        rw [List.getElem?_set_self hs] at z4; cases z4
        rw [List.getElem?_set_ne n1] at z1 z3
        exact (no ⟨j, d1, z1, z3⟩).elim
      · rw [List.getElem?_set_ne n1] at z1 z3
        rw [List.getElem?_set_ne n2] at z2 z4
        exact ok.ap j k d1 d2 p' z1 z2 z3 z4
theorem put_ok {ρ ρ' : En} {G H : Hp} {σ : L2.St} {i : Nat} {r : Rs} {v : V} (ok : Ok B ρ G σ H) (h : RsOk B ρ G σ H v r) (e : put i r ρ = .ok ρ') : ∃ G', Same G G' ∧ Ok B ρ' G' (σ.set i (some v)) H := by
  unfold put at e
  split at e
  · rename_i hi
    cases r with
    | val d => cases e; exact ⟨G, Same.refl _, ok.setVal hi h⟩
    | new d => cases e; obtain ⟨p, rfl, o, no⟩ := h; exact ⟨G, Same.refl _, ok.setOwn hi o no⟩
    | bor j =>
      dsimp only at e
      cases e1 : fz (.bor j) ρ with
      | err x => rw [e1] at e; cases e
      | ok q =>
        obtain ⟨d, ρ1⟩ := q
        rw [e1] at e; cases e
        obtain ⟨G', n, rr⟩ := fz_ok (r := .bor j) ok h e1
        have hi' : i < ρ1.length := by rw [n.ok.len, ← ok.len]; exact hi
        exact ⟨G', n.ext, n.ok.setVal hi' rr⟩
  · cases e
theorem put_get {i : Nat} {r : Rs} {ρ : En} {Y : En → R (Fl × En)} {G : Hp} {E : Ends} (h : PS' B G E ((put i r ρ).bind Y)) : ∃ ρ', put i r ρ = .ok ρ' ∧ PS' B G E (Y ρ') := by
  cases e : put i r ρ with
  | ok ρ' => rw [e] at h; exact ⟨ρ', rfl, h⟩
  | err x =>
    rw [e] at h
    have : x = .stuck := by
      unfold put at e
      split at e
      · cases r with
        | val d => cases e
        | new d => cases e
        | bor j =>
          dsimp only at e
          cases e1 : fz (.bor j) ρ with
          | err y => rw [e1] at e; cases e; exact fz_err e1
          | ok q => rw [e1] at e; cases e
      · cases e; rfl
    subst this
    exact (show False from h).elim
theorem ts_set {i : Nat} {x : Str} {pos' : Pos} (hN : X.N.Nodup) (hi : X.N[i]? = some x) (hx : Loc X.env.scope x) (he : PE X e (tR B m)) (hs : swapsWith e (some (.Name x pos')) pos.line X.env = pure false := by rfl) (hf : X.fn x = true ∨ X.env.scope.names.lookup x = some .local := by first | exact .inl rfl | exact .inr rfl | assumption) :
    PS X (.Assign [.Name x pos'] e pos) (tS B (sSet i m)) := PS.imp (ps_set hN hi hx he hs hf) fun E σ H h => by
  obtain ⟨ρ, G, ok, h⟩ := h
  refine tR.mono (runSN ok h) fun x H1 ⟨r, ρ1, G1, n1, q1, f, h1⟩ => ?_
  obtain ⟨ρ2, e2, h2⟩ := put_get h1
  obtain ⟨G2, s2, ok2⟩ := put_ok n1.ok q1 e2
  exact h2 _ G2 H1 s2 ok2
/-- x op= e -/
@[simp] def sAug (i : Nat) (f : D → D → R Rs) (m : M Rs) : Sm := fun ρ => match ρ[i]? with
  | some (.val x) => (m ρ).bind fun p => (pk p.2 p.1).bind fun y => (f x y).bind fun r => (put i r p.2).bind fun ρ1 => .ok (.next, ρ1)
  | _ => R.stuck
theorem pk_getS {ρ : En} {r : Rs} {Y : D → R (Fl × En)} {G : Hp} {E : Ends} (h : PS' B G E ((pk ρ r).bind Y)) : ∃ d, pk ρ r = .ok d ∧ PS' B G E (Y d) := pk_get (P := PS' B G E) h id
theorem ts_aug {i : Nat} {x : Str} {op : Operator} {r : R2} {f : D → D → R Rs} {pos' : Pos} (ho : OpR X (inplaceOp op) r) (hf2 : Op2 B r f) (hN : X.N.Nodup) (hi : X.N[i]? = some x) (hx : Loc X.env.scope x) (he : PE X e (tR B m))
    (hf : X.fn x = true ∨ X.env.scope.names.lookup x = some .local := by first | exact .inl rfl | exact .inr rfl | assumption) :
    PS X (.AugAssign (.Name x pos') op e pos) (tS B (sAug i f m)) := PS.imp (ps_aug (ti := r) hN hi hx he ho hf) fun E σ H h => by
  obtain ⟨ρ, G, ok, h⟩ := h
  unfold sAug at h
  split at h
  · rename_i d1 e1
    obtain ⟨v, e2, r1⟩ := (show SlOk B G H σ[i]? (.val d1) from ok.sl i _ e1)
    refine ⟨v, e2, tR.mono (runS ok h) fun y H1 ⟨q, ρ1, G1, n1, q1, h1⟩ => ?_⟩
    obtain ⟨d2, e3, h2⟩ := pk_getS h1
    refine hf2 n1.ok (.inl (r1.mono n1.ext)) (pk_ok n1.ok q1 e3) ?_
    cases e4 : f d1 d2 with
    | err x =>
      rw [e4] at h2
      cases x <;> exact h2
    | ok r2 =>
      rw [e4] at h2
      intro z G2 H2 n2 rs fr
      obtain ⟨ρ2, e5, h3⟩ := put_get h2
      obtain ⟨G3, s3, ok3⟩ := put_ok n2.ok rs e5
      exact h3 _ G3 H2 (n2.ext.trans s3) ok3
  · exact h.elim
end

/-! ### a body keeps a promise -/
@[simp] def start' (ds : List D) (n : Nat) : En := ds.map Sl.val ++ List.replicate (n - ds.length) .un
/-- a def's mirror: its body on the slots -/
@[simp] def fnM (n : Nat) (b : Sm) (ds : List D) : R Rs := (b (start' ds n)).bind fun p => match p.1 with
  | .next => .ok (.val .non)
  | .ret (.val d) => .ok (.val d)
  | .ret (.new d) => .ok (.new d)
  | _ => R.stuck
theorem start_ok {B : Bs} {G0 H : Hp} {ds : List D} {vs : List V} {N : List Str} (g : Same G0 H) (r : Reps B.W G0 vs ds) (hl : vs.length ≤ N.length) (e1 : B.H0 = H) (e2 : B.G0 = G0) : Ok B (start' ds N.length) G0 (L2.start N vs) H := by
  have hl2 := r.length
  have cs : ∀ (i : Nat) s, (start' ds N.length)[i]? = some s → (∃ d, s = .val d ∧ ds[i]? = some d) ∨ s = .un := fun i s e => by
    unfold start' at e
    by_cases hi : i < ds.length
    · rw [List.getElem?_append_left (by simpa using hi), List.getElem?_map] at e
      cases q : ds[i]? with
      | none => rw [q] at e; cases e
      | some d => rw [q] at e; cases e; exact .inl ⟨d, rfl, rfl⟩
    · rw [List.getElem?_append_right (by simpa using Nat.le_of_not_lt hi), List.getElem?_replicate] at e
      split at e
      · cases e; exact .inr rfl
      · cases e
  refine ⟨?_, by rw [e2]; exact Same.refl _, g, by rw [e1]; exact Same.refl _, fun a o e => .inl (by rw [e2]; exact e), fun i s e => ?_, fun i j d d' p z1 z2 _ _ => ?_⟩
  · unfold start' L2.start
    rw [List.length_append, List.length_append, List.length_map, List.length_map, List.length_replicate, List.length_replicate]
    omega
  · rcases cs i s e with ⟨d, rfl, q⟩ | rfl
    · obtain ⟨v, e3, r3⟩ := r.get q
      refine ⟨v, ?_, r3⟩
      unfold L2.start
      have hi : i < vs.length := (List.getElem?_eq_some_iff.mp e3).1
      rw [List.getElem?_append_left (by simpa using hi), List.getElem?_map, e3]
      rfl
    · exact True.intro
  · rcases cs i _ z1 with ⟨d, q, _⟩ | q <;> cases q
section
variable {P : Program} {w : World} {K : PySem.W.Frag} {mg : Str → Option Value} {base : Heap}
/-- THE RULE for a def that raises nothing -/
theorem fn_ok {x qual : Str} {st : Stmt} {f : Addr} {fd : FuncData} {N ps : List Str} {k n : Nat} {b : Sm} (F : Fun K x qual st f fd) (S : FnScope N ps (defScope st)) (hn : ps.length = n)
    (hb : ∀ (cdv : Value) (A : Around) (outer : List PySem.Env) (s : Shared) (H : Hp) (B : Bs) (E : XK), Room k (A.deeper (envOfC qual (defScope st) s.heap.objs.size f cdv)) → B.W = ⟨K, mg⟩ →
      PSs (cxOf CX0 P w K mg base N qual (defScope st) f cdv A outer s H E).nox (defBody st) (tS B b)) : FnOk P w K mg base CX0 (k + 1) f fd ps (spM ⟨K, mg⟩ false n (fnM N.length b)) := by
  refine F.ok S (fun vs H Q E h => (spM_len h).trans hn.symm) fun cdv A outer s H vs Q E hr h => ?_
  have hvl := spM_len h
  obtain ⟨G0, ds, hd, g, r, h⟩ := h
  have hpl : ps.length ≤ N.length := by have := congrArg List.length S.pre; rw [List.length_take] at this; omega
  refine ⟨_, hb cdv A outer s H ⟨⟨K, mg⟩, H, G0, fun _ _ _ => False⟩ E hr rfl, _, G0, start_ok (N := N) g r (by omega) rfl rfl, ?_⟩
  unfold fnM at h
  cases e : b (start' ds N.length) with
  | err x =>
    rw [e] at h
    cases x with
    | stuck => exact h
    | exc c fs => exact nomatch h.1
  | ok p =>
    obtain ⟨fl, ρ'⟩ := p
    rw [e] at h
    have fin : ∀ {σ' G' H'}, Same G0 G' → Ok (⟨⟨K, mg⟩, H, G0, fun _ _ _ => False⟩ : Bs) ρ' G' σ' H' → Same G0 G' ∧ Same G' H' ∧ Same H H' ∧ ∀ a o, G' a = some o → G0 a = some o ∨ H a = none := fun s ok => ⟨s, ok.gh, ok.h0, ok.nw⟩
    cases fl with
    | next =>
      intro σ' G' H' s ok
      obtain ⟨f1, f2, f3, f4⟩ := fin s ok
      exact h .non G' H' f1 f2 f3 f4 .non
    | brk => exact h.elim
    | cont => exact h.elim
    | ret r =>
      intro v σ' G' H' s ok rs
      obtain ⟨f1, f2, f3, f4⟩ := fin s ok
      cases r with
      | val d => exact h v G' H' f1 f2 f3 f4 rs
      | bor i => exact h.elim
      | new d =>
        obtain ⟨p, rfl, o, no⟩ := rs
        exact h _ G' H' f1 f2 f3 f4 ⟨p, rfl, o.h0, o.g, o.body⟩
end
end T
namespace T
open PySem PySem.Spec PyProof.Rows L2

/-! ### what is walked -/
def SrcOk (W : Wd) (G : Hp) (J : It) (ds : List D) : Prop := ∀ (i : Nat) H, Same G H → (∀ d, ds[i]? = some d → J.go i H ∧ ∀ x H', J.yld i H x H' → H' = H ∧ Rep W G x d) ∧ (ds.length ≤ i → J.stop i H)
def PI' (B : Bs) (ρ : En) (G : Hp) (σ : L2.St) (H : Hp) (R' : It → Hp → Prop) : R (List D × En) → Prop
  | .ok (ds, ρ') => ∀ J G' H', Nx B ρ G σ H ρ' G' H' → SrcOk B.W G' J ds → R' J H'
  | .err (.exc c fs) => ∀ H', Same B.H0 H' → B.E c fs H'
  | .err .stuck => False
def iS (B : Bs) (m : M (List D)) : TI := fun σ H R' => ∃ ρ G, Ok B ρ G σ H ∧ PI' B ρ G σ H R' (m ρ)
section
variable {X : Cx} {tg l : Expr} {B : Bs}
theorem PI.imp {w w' : TI} (h : PI X tg l w) (k : ∀ σ H R', w' σ H R' → w σ H R') : PI X tg l w' := ⟨fun pins s σ H R' I q => h.run pins s σ H R' I (k σ H R' q)⟩
theorem PI.or {w w' : TI} (h : PI X tg l w) (h' : PI X tg l w') : PI X tg l (fun σ H R' => w σ H R' ∨ w' σ H R') := ⟨fun pins s σ H R' I q => q.elim (h.run pins s σ H R' I) (h'.run pins s σ H R' I)⟩
theorem src_lst {W : Wd} {G : Hp} {K : PySem.W.Frag} {a : Addr} {vs : List V} {ds : List D} (e : G a = some (.lst vs)) (r : Reps W G vs ds) : SrcOk W G (Itl K a) ds := fun i H s =>
  ⟨fun d q => by
    obtain ⟨v, h1, h2⟩ := r.get q
    refine ⟨⟨vs, v, SqL.of (s _ _ e), h1⟩, fun x H' y => ⟨y.1, ?_⟩⟩
    have h3 := y.2 vs (SqL.of (s _ _ e))
    rw [h1] at h3; cases h3; exact h2, fun hl => ⟨vs, SqL.of (s _ _ e), by rw [r.length]; exact hl⟩⟩
theorem src_tup {W : Wd} {G : Hp} {K : PySem.W.Frag} {a : Addr} {vs : List V} {ds : List D} (e : G a = some (.tup vs)) (r : Reps W G vs ds) : SrcOk W G (Itt K a) ds := fun i H s =>
  ⟨fun d q => by
    obtain ⟨v, h1, h2⟩ := r.get q
    refine ⟨⟨vs, v, SqT.of (s _ _ e), h1⟩, fun x H' y => ⟨y.1, ?_⟩⟩
    have h3 := y.2 vs (SqT.of (s _ _ e))
    rw [h1] at h3; cases h3; exact h2, fun hl => ⟨vs, SqT.of (s _ _ e), by rw [r.length]; exact hl⟩⟩
theorem src_scr {W : Wd} {G : Hp} {a : Addr} {ns : List Int} (e : SqL W.K G a (ns.map V.int)) : SrcOk W G (Itl W.K a) (ns.map .int) := fun i H s =>
  ⟨fun d q => by
    have e' := s.seq e
    rw [List.getElem?_map] at q
    cases q2 : ns[i]? with
    | none => rw [q2] at q; cases q
    | some n =>
      rw [q2] at q; cases q
      have h1 : (ns.map V.int)[i]? = some (.int n) := by rw [List.getElem?_map, q2]; rfl
      refine ⟨⟨_, _, e', h1⟩, fun x H' y => ⟨y.1, ?_⟩⟩
      have h3 := y.2 _ e'
      rw [h1] at h3; cases h3; exact .int n, fun hl => ⟨_, s.seq e, by rw [List.length_map] at hl ⊢; exact hl⟩⟩
def rng (lo hi : Int) : List D := (List.range (hi - lo).toNat).map fun (k : Nat) => D.int (lo + (k : Int))
theorem src_rng {W : Wd} {G : Hp} (lo hi : Int) : SrcOk W G (Itr lo (hi - lo).toNat) (rng lo hi) := fun i H s => by
  refine ⟨fun d q => ?_, fun hl => ?_⟩
  · unfold rng at q
    rw [List.getElem?_map] at q
    by_cases hi' : i < (hi - lo).toNat
    · rw [List.getElem?_range hi'] at q
      cases q
      refine ⟨hi', fun x H' y => ⟨y.1, ?_⟩⟩
      rw [y.2]; exact .int _
    · rw [List.getElem?_eq_none (by simpa using Nat.le_of_not_lt hi')] at q; cases q
  · unfold rng at hl; rw [List.length_map, List.length_range] at hl; exact hl
def sgn (x : Str) : List D := x.cps.toList.map fun c => D.str ⟨#[c]⟩
theorem src_str {W : Wd} {G : Hp} (x : Str) : SrcOk W G (Its x) (sgn x) := fun i H s => by
  refine ⟨fun d q => ?_, fun hl => ?_⟩
  · unfold sgn at q
    rw [List.getElem?_map] at q
    cases e : x.cps.toList[i]? with
    | none => rw [e] at q; cases q
    | some c =>
      rw [e] at q; cases q
      have hi : i < x.cps.size := by simpa using (List.getElem?_eq_some_iff.mp e).1
      refine ⟨hi, fun v H' y => ⟨y.1, ?_⟩⟩
      obtain ⟨_, c', h1, rfl⟩ := y
      rw [Array.getElem?_toList, h1] at e; cases e
      exact .str _
  · unfold sgn at hl; exact (show x.cps.size ≤ i by simpa using hl)
theorem src_rev {W : Wd} {G : Hp} {K : PySem.W.Frag} {a : Addr} {vs : List V} {ds : List D} (e : G a = some (.lst vs)) (r : Reps W G vs ds) : SrcOk W G (Itl K a) ds := src_lst e r
@[simp] def items : D → R (List D)
  | .lst xs => .ok xs
  | .tup xs => .ok xs
  | .scr ns => .ok (ns.map .int)
  | _ => R.stuck
@[simp] def itM (m : M Rs) : M (List D) := fun ρ => (m ρ).bind fun p => (fz p.1 p.2).bind fun q => (items q.1).bind fun ds => .ok (ds, q.2)
theorem PI'.err {ρ : En} {G H : Hp} {σ : L2.St} {R' : It → Hp → Prop} {e : Ex} (h : PI' B ρ G σ H R' (.err e)) : PErr B e := by cases e <;> exact h
theorem PI'.mono {ρ ρ1 : En} {G H G1 H1 : Hp} {σ : L2.St} {R' : It → Hp → Prop} (n : Nx B ρ G σ H ρ1 G1 H1) {x : R (List D × En)} (h : PI' B ρ G σ H R' x) : PI' B ρ1 G1 σ H1 R' x := by
  cases x with
  | ok a => obtain ⟨r, ρ'⟩ := a; exact fun J G' H' m q => h J G' H' (n.trans m) q
  | err e => cases e <;> exact h
theorem items_get {ρ : En} {G H : Hp} {σ : L2.St} {R' : It → Hp → Prop} {d : D} {Y : List D → R (List D × En)} (h : PI' B ρ G σ H R' ((items d).bind Y)) : ∃ ds, items d = .ok ds ∧ PI' B ρ G σ H R' (Y ds) := by
  cases e : items d with
  | ok ds => rw [e] at h; exact ⟨ds, rfl, h⟩
  | err x =>
    rw [e] at h
    have : x = .stuck := by cases d <;> (unfold items at e; cases e; try rfl)
    subst this
    exact (show False from h).elim
@[simp] def itStr (m : M Rs) : M (List D) := fun ρ => (m ρ).bind fun p => match p.1 with
  | .val (.str x) => .ok (sgn x, p.2)
  | _ => R.stuck
theorem runI {m : M Rs} {ρ : En} {G H : Hp} {σ : L2.St} {R' : It → Hp → Prop} {Y : Rs × En → R (List D × En)} (ok : Ok B ρ G σ H) (h : PI' B ρ G σ H R' ((m ρ).bind Y)) : tR B m σ H fun x H1 => ∃ r ρ1 G1, Nx B ρ G σ H ρ1 G1 H1 ∧ RvOk B G1 σ x (st r) ∧ PI' B ρ1 G1 σ H1 R' (Y (r, ρ1)) :=
  run (P := fun x ρ G H => PI' B ρ G σ H R' x) ok h (fun x n h => PI'.mono n h) (fun e h => PI'.err h)
theorem ti_seq {m : M Rs} (hW : B.W.K = X.K) (hl : PE X l (tR B m)) : PI X tg l (iS B (itM m)) := PI.imp (T.PI.or (pi_list hl) (pi_tup hl)) fun σ H R' h => by
  obtain ⟨ρ, G, ok, h⟩ := h
  have key := runI ok h
  by_cases c : ∃ r ρ1 d ρ2 ds, m ρ = .ok (r, ρ1) ∧ fz r ρ1 = .ok (d, ρ2) ∧ d = .tup ds
  · obtain ⟨r0, ρ0, d0, ρ3, ds0, c1, c2, c3⟩ := c
    refine .inr ⟨ρ, G, ok, ?_⟩
    rw [c1]
    intro v G1 H1 n1 q1 f
    have h : PI' B ρ G σ H R' ((m ρ).bind _) := h
    rw [c1] at h
    obtain ⟨G1', n1', q1', _⟩ := settle n1 q1 f
    have h := PI'.mono n1' h
    dsimp only [R.bind_ok] at h
    rw [c2] at h
    obtain ⟨G2, n2, rr⟩ := fz_ok n1'.ok q1' c2
    subst c3
    cases rr with
    | tup e rs =>
      refine ⟨_, rfl, ⟨_, SqT.of (n2.ok.gh _ _ e)⟩, ?_⟩
      exact h _ G2 H1 n2 (src_tup e rs)
  · refine .inl (tR.mono (show tR B m σ H fun x H1 => ∃ r ρ1 G1, m ρ = .ok (r, ρ1) ∧ Nx B ρ G σ H ρ1 G1 H1 ∧ RvOk B G1 σ x (st r) ∧ PI' B ρ1 G1 σ H1 R' ((fz r ρ1).bind fun q => (items q.1).bind fun ds => .ok (ds, q.2)) from ?_) fun x H1 ⟨r, ρ1, G1, c1, n1, q1, h1⟩ => ?_)
    · refine ⟨ρ, G, ok, ?_⟩
      unfold itM at h
      cases e : m ρ with
      | ok a =>
        obtain ⟨r, ρ1⟩ := a
        rw [e] at h
        intro v G' H' n q f
        obtain ⟨G2, n2, q2, _⟩ := settle n q f
        exact ⟨r, ρ1, G2, rfl, n2, q2, PI'.mono n2 h⟩
      | err e' =>
        rw [e] at h
        have := PI'.err h
        cases e' <;> exact this
    · obtain ⟨d, ρ2, c2, h2⟩ := fz_get (P := PI' B ρ1 G1 σ H1 R') h1 id
      obtain ⟨ds, c3, h3⟩ := items_get h2
      obtain ⟨G2, n2, rr⟩ := fz_ok n1.ok q1 c2
      have h3 := PI'.mono n2 h3
      cases d with
      | tup ds' => exact (c ⟨r, ρ1, _, ρ2, ds', c1, c2, rfl⟩).elim
      | lst ds' =>
        cases c3
        cases rr with
        | lst e rs => exact ⟨_, rfl, ⟨_, SqL.of (n2.ok.gh _ _ e)⟩, h3 _ G2 H1 (Nx.refl n2.ok) (src_lst e rs)⟩
      | scr ns =>
        cases c3
        cases rr with
        | scr e => exact ⟨_, rfl, ⟨_, hW ▸ n2.ok.gh.seq e⟩, h3 _ G2 H1 (Nx.refl n2.ok) (hW ▸ src_scr e)⟩
      | _ => cases c3
theorem ti_str {m : M Rs} (hl : PE X l (tR B m)) : PI X tg l (iS B (itStr m)) := PI.imp (pi_str hl) fun σ H R' h => by
  obtain ⟨ρ, G, ok, h⟩ := h
  refine tR.mono (runI ok h) fun x H1 ⟨r, ρ1, G1, n1, q1, h1⟩ => ?_
  cases r with
  | val d =>
    cases d with
    | str z => cases q1; exact ⟨z, rfl, h1 _ G1 H1 (Nx.refl n1.ok) (src_str z)⟩
    | _ => exact (show False from h1).elim
  | new d => exact (show False from h1).elim
  | bor i => exact (show False from h1).elim
/-- the bounds of a range -/
def RB (j : Int) : Prop := -4611686018427387904 ≤ j ∧ j < 4611686018427387904
noncomputable instance (j : Int) : Decidable (RB j) := Classical.propDecidable _
theorem RB.of {j : Int} (h1 : -1000000000 ≤ j) (h2 : j ≤ 1000000000) : RB j := by unfold RB; omega
theorem RB.len {α : Type} {xs : List α} (h : xs.length ≤ 1000000000) : RB (xs.length : Int) := RB.of (by omega) (by omega)
theorem RB.zero : RB 0 := RB.of (by omega) (by omega)
@[simp] theorem RB.lit {j : Int} (h : -1000000000 ≤ j ∧ j ≤ 1000000000) : RB j = True := eq_true (RB.of h.1 h.2)
/-- range(n), range(a, b) -/
@[simp] noncomputable def itR1 (ms : M (List Rs)) : M (List D) := fun ρ => (ms ρ).bind fun p => match p.1 with
  | [.val (.int j)] => if RB j then .ok (rng 0 j, p.2) else R.stuck
  | _ => R.stuck
@[simp] noncomputable def itR2 (ms : M (List Rs)) : M (List D) := fun ρ => (ms ρ).bind fun p => match p.1 with
  | [.val (.int i), .val (.int j)] => if RB i ∧ RB j then .ok (rng i j, p.2) else R.stuck
  | _ => R.stuck
theorem runIL {ms : M (List Rs)} {ρ : En} {G H : Hp} {σ : L2.St} {R' : It → Hp → Prop} {Y : List Rs × En → R (List D × En)} (ok : Ok B ρ G σ H) (h : PI' B ρ G σ H R' ((ms ρ).bind Y)) : tA B ms σ H fun x H1 => ∃ r ρ1 G1, Nx B ρ G σ H ρ1 G1 H1 ∧ RvsOk B G1 σ x r ∧ PI' B ρ1 G1 σ H1 R' (Y (r, ρ1)) :=
  runL (P := fun x ρ G H => PI' B ρ G σ H R' x) ok h (fun x n h => PI'.mono n h) (fun e h => PI'.err h)
theorem ti_range1 {a : Expr} {ms : M (List Rs)} {p pos : Pos} (hm : X.mg "range" = none) (ha : PA X [a] (tA B ms)) (hg : Gl X "range" := by rfl) (hs : starEach [a] X.env = [(false, eval a X.env)] := by rfl) : PI X tg (.Call (.Name "range" p) [a] [] pos) (iS B (itR1 ms)) :=
  PI.imp (pi_range1 hg hm ha hs) fun σ H R' h => by
    obtain ⟨ρ, G, ok, h⟩ := h
    refine tA.mono (runIL ok h) fun vs H1 ⟨rs, ρ1, G1, n1, q1, h1⟩ => ?_
    dsimp only at h1
    split at h1
    · rename_i j
      split at h1
      · rename_i hb
        unfold RB at hb
        cases q1 with
        | cons a b =>
          cases b
          cases a
          refine ⟨j, rfl, by omega, by omega, ?_⟩
          have := h1 (Itr 0 (j - 0).toNat) G1 H1 (Nx.refl n1.ok) (src_rng 0 j)
          rw [Int.sub_zero] at this
          exact this
      · exact h1.elim
    · exact h1.elim
theorem ti_range2 {a b : Expr} {ms : M (List Rs)} {p pos : Pos} (hm : X.mg "range" = none) (ha : PA X [a, b] (tA B ms)) (hg : Gl X "range" := by rfl) (hs : starEach [a, b] X.env = [(false, eval a X.env), (false, eval b X.env)] := by rfl)
    (hs2 : starEach [b] X.env = [(false, eval b X.env)] := by rfl) : PI X tg (.Call (.Name "range" p) [a, b] [] pos) (iS B (itR2 ms)) :=
  PI.imp (pi_range2 hg hm ha hs hs2) fun σ H R' h => by
    obtain ⟨ρ, G, ok, h⟩ := h
    refine tA.mono (runIL ok h) fun vs H1 ⟨rs, ρ1, G1, n1, q1, h1⟩ => ?_
    dsimp only at h1
    split at h1
    · rename_i i j
      split at h1
      · rename_i hb
        unfold RB at hb
        cases q1 with
        | cons a b =>
          cases b with
          | cons b c =>
            cases c
            cases a
            cases b
            exact ⟨i, j, rfl, ⟨by omega, by omega, by omega, by omega⟩, h1 _ G1 H1 (Nx.refl n1.ok) (src_rng i j)⟩
      · exact h1.elim
    · exact h1.elim
end

/-! ### targets -/
def gB (B : Bs) (ws : List Nat) (bt : D → En → R En) : TG := fun v σ H Q => ∃ ρ G d, Ok B ρ G σ H ∧ Rep B.W G v d ∧ ∃ ρ', bt d ρ = .ok ρ' ∧ ∀ σ', Ok B ρ' G σ' H → σ'.length = σ.length → (∀ (j : Nat), j ∉ ws → σ'[j]? = σ[j]?) → Q σ' H
def gBs (B : Bs) (ws : List Nat) (bts : List D → En → R En) : TGs := fun vs σ H Q => ∃ ρ G ds, Ok B ρ G σ H ∧ Reps B.W G vs ds ∧ ∃ ρ', bts ds ρ = .ok ρ' ∧ ∀ σ', Ok B ρ' G σ' H → σ'.length = σ.length → (∀ (j : Nat), j ∉ ws → σ'[j]? = σ[j]?) → Q σ' H
@[simp] def bName (i : Nat) : D → En → R En := fun d ρ => if i < ρ.length then .ok (ρ.set i (.val d)) else R.stuck
@[simp] def bTup (bts : List D → En → R En) : D → En → R En := fun d ρ => match d with
  | .tup xs => bts xs ρ
  | _ => R.stuck
@[simp] def bNil : List D → En → R En := fun ds ρ => match ds with
  | [] => .ok ρ
  | _ => R.stuck
@[simp] def bCons (b : D → En → R En) (bs : List D → En → R En) : List D → En → R En := fun ds ρ => match ds with
  | d :: ds => (b d ρ).bind fun ρ1 => bs ds ρ1
  | [] => R.stuck
section
variable {X : Cx} {B : Bs} {pos : Pos}
theorem PG.imp {tg : Expr} {g g' : TG} (h : PG X tg g) (k : ∀ v σ H Q, g' v σ H Q → g v σ H Q) : PG X tg g' := ⟨fun pins s σ H v u Q I r q => h.run pins s σ H v u Q I r (k v σ H Q q)⟩
theorem PGs.imp {tg : List Expr} {g g' : TGs} (h : PGs X tg g) (k : ∀ v σ H Q, g' v σ H Q → g v σ H Q) : PGs X tg g' := ⟨fun pins s σ H v u Q I r q => h.run pins s σ H v u Q I r (k v σ H Q q)⟩
theorem tg_name {i : Nat} {x : Str} (hN : X.N.Nodup) (hi : X.N[i]? = some x) (hx : Loc X.env.scope x) (hf : X.fn x = true ∨ X.env.scope.names.lookup x = some .local := by first | exact .inl rfl | exact .inr rfl | assumption) : PG X (.Name x pos) (gB B [i] (bName i)) :=
  PG.imp (pg_name hN hi hx hf) fun v σ H Q h => by
    obtain ⟨ρ, G, d, ok, r, ρ', e, h⟩ := h
    unfold bName at e
    split at e
    · rename_i hi
      cases e
      exact h _ (ok.setVal hi r) (by simp) fun j hj => by rw [List.getElem?_set_ne (by simpa using fun e => hj (by simp [e]))]
    · cases e
theorem tgs_nil : PGs X [] (gBs B [] bNil) := PGs.imp pgs_nil fun vs σ H Q h => by
  obtain ⟨ρ, G, ds, ok, r, ρ', e, h⟩ := h
  cases r with
  | nil => cases e; exact ⟨rfl, h σ ok rfl fun _ _ => rfl⟩
  | cons _ _ => cases e
theorem tgs_cons {e : Expr} {es : List Expr} {w ws : List Nat} {b : D → En → R En} {bs : List D → En → R En} (h1 : PG X e (gB B w b)) (h2 : PGs X es (gBs B ws bs))
    (hs : (assignEach (e :: es) X.env).map (·.2) = assign e X.env :: (assignEach es X.env).map (·.2) := by rfl) : PGs X (e :: es) (gBs B (w ++ ws) (bCons b bs)) := PGs.imp (pgs_cons h1 h2 hs) fun vs σ H Q h => by
  obtain ⟨ρ, G, ds, ok, r, ρ', e, h⟩ := h
  cases r with
  | nil => cases e
  | cons r t =>
    rename_i v vs d ds
    refine ⟨v, vs, rfl, ?_⟩
    have e : (b d ρ).bind (fun ρ1 => bs ds ρ1) = .ok ρ' := e
    cases e1 : b d ρ with
    | err x => rw [e1] at e; cases e
    | ok ρ1 =>
      rw [e1] at e
      refine ⟨ρ, G, d, ok, r, ρ1, e1, fun σ1 ok1 l1 k1 => ⟨ρ1, G, ds, ok1, t, ρ', e, fun σ2 ok2 l2 k2 => h σ2 ok2 (l2.trans l1) fun j hj => ?_⟩⟩
      rw [List.mem_append, not_or] at hj
      rw [k2 j hj.2, k1 j hj.1]
theorem tg_tup {es : List Expr} {k : Nat} {ws : List Nat} {bts : List D → En → R En} {n : Nat} (hc : X.calm = true) (h : PGs X es (gBs B ws bts)) (hlen : ∀ ds ρ ρ', bts ds ρ = .ok ρ' → ds.length = n)
    (hn : (assignEach es X.env).length = n := by rfl) (hst : (assignEach es X.env).findIdx? (·.1) = none := by rfl) : PG X (.Tuple es k pos) (gB B ws (bTup bts)) := PG.imp (pg_tup hc h hn hst) fun v σ H Q h => by
  obtain ⟨ρ, G, d, ok, r, ρ', e, h⟩ := h
  unfold bTup at e
  split at e
  · cases r with
    | tup ea rs => exact ⟨_, _, rfl, SqT.of (ok.gh _ _ ea), by rw [rs.length]; exact hlen _ _ _ e, ρ, G, _, ok, rs, ρ', e, h⟩
  · cases e
theorem bl_nil : ∀ ds ρ ρ', bNil ds ρ = .ok ρ' → ds.length = 0 := fun ds ρ ρ' e => by cases ds <;> cases e; rfl
theorem bl_cons {b : D → En → R En} {bs : List D → En → R En} {n : Nat} (h : ∀ ds ρ ρ', bs ds ρ = .ok ρ' → ds.length = n) : ∀ ds ρ ρ', bCons b bs ds ρ = .ok ρ' → ds.length = n + 1 := fun ds ρ ρ' e => by
  cases ds with
  | nil => cases e
  | cons d ds =>
    have e : (b d ρ).bind (fun ρ1 => bs ds ρ1) = .ok ρ' := e
    cases e1 : b d ρ with
    | err x => rw [e1] at e; cases e
    | ok ρ1 => rw [e1] at e; rw [List.length_cons, h _ _ _ e]
end

/-! ### for -/
def loop (bt : D → En → R En) (b : Sm) : List D → Sm
  | [], ρ => .ok (.next, ρ)
  | d :: ds, ρ => (bt d ρ).bind fun ρ1 => (b ρ1).bind fun q => match q.1 with
    | .next => loop bt b ds q.2
    | .cont => loop bt b ds q.2
    | .brk => .ok (.next, q.2)
    | .ret r => .ok (.ret r, q.2)
@[simp] def sFor (it : M (List D)) (bt : D → En → R En) (b : Sm) : Sm := fun ρ => (it ρ).bind fun p => loop bt b p.1 p.2
section
variable {X : Cx} {B : Bs} {tg iter : Expr} {body : List Stmt} {it : M (List D)} {bt : D → En → R En} {b : Sm} {ws : List Nat} {pos : Pos}
theorem ts_for (hp : PassesOwn (model X.prog X.w) X.A X.env X.xe) (hc : X.calm = true) (hi : PI X tg iter (iS B it)) (hg : PG X tg (gB B ws bt)) (hb : PSs X body (tS B b))
    (hbt : ∀ d ρ e, bt d ρ = .err e → e = .stuck) (hs : ∀ x, foldedSetIterable iter X.env x = pure x := by intro _; rfl) : PS X (.For tg iter body [] pos) (tS B (sFor it bt b)) := PS.imp (ps_for hp hc hi hg hb hs) fun E σ H h => by
  obtain ⟨ρ, G, ok, h⟩ := h
  unfold sFor at h
  refine ⟨ρ, G, ok, ?_⟩
  cases e : it ρ with
  | err x =>
    rw [e] at h
    have := PS'.err h
    cases x <;> exact this
  | ok a =>
    obtain ⟨ds, ρ1⟩ := a
    rw [e] at h
    intro J G1 H1 n1 src
    have h : PS' B G E (loop bt b ds ρ1) := h
    have h := PS'.mono n1.ext h
    refine ⟨fun i m σ H => m = ds.length - i ∧ i ≤ ds.length ∧ ∃ ρ G, Same G1 G ∧ Ok B ρ G σ H ∧ PS' B G E (loop bt b (ds.drop i) ρ), ⟨ds.length, rfl, Nat.zero_le _, ρ1, G1, Same.refl _, n1.ok, h⟩, ?_⟩
    rintro i m σ2 H2 ⟨rfl, hl, ρ2, G2, s2, ok2, h2⟩
    obtain ⟨go, stop⟩ := src i H2 (s2.trans ok2.gh)
    cases q : ds[i]? with
    | none =>
      have hle : ds.length ≤ i := List.getElem?_eq_none_iff.mp q
      rw [List.drop_eq_nil_of_le hle] at h2
      exact .inl ⟨stop hle, h2 σ2 G2 H2 (Same.refl _) ok2⟩
    | some d =>
      obtain ⟨g1, g2⟩ := go d q
      have hlt : i < ds.length := (List.getElem?_eq_some_iff.mp q).1
      have hd : ds.drop i = d :: ds.drop (i + 1) := by
        rw [List.drop_eq_getElem_cons hlt]
        have := (List.getElem?_eq_some_iff.mp q).2
        rw [this]
      rw [hd] at h2
      refine .inr ⟨g1, fun σ' H' => ∃ ρ G, Same G1 G ∧ Ok B ρ G σ' H' ∧ PS' B G E (loop bt b (ds.drop (i + 1)) ρ), fun σ' H' n => ⟨ds.length - (i + 1), by omega, rfl, hlt, n⟩, fun x H' y => ?_⟩
      obtain ⟨rfl, rx⟩ := g2 x H' y
      have h2 : PS' B G2 E ((bt d ρ2).bind fun ρ1 => (b ρ1).bind fun q => match q.1 with
        | .next => loop bt b (ds.drop (i + 1)) q.2
        | .cont => loop bt b (ds.drop (i + 1)) q.2
        | .brk => .ok (.next, q.2)
        | .ret r => .ok (.ret r, q.2)) := h2
      cases e3 : bt d ρ2 with
      | err x =>
        rw [e3] at h2
        have := hbt _ _ _ e3
        subst this
        exact (show False from h2).elim
      | ok ρ3 =>
        rw [e3] at h2
        refine ⟨ρ2, G2, d, ok2, rx.mono s2, ρ3, e3, fun σ3 ok3 _ _ => ⟨ρ3, G2, ok3, ?_⟩⟩
        dsimp only [R.bind_ok] at h2
        cases e4 : b ρ3 with
        | err x => rw [e4] at h2; cases x <;> exact h2
        | ok q =>
          obtain ⟨f, ρ4⟩ := q
          rw [e4] at h2
          cases f with
          | next => exact fun σ' G' H' s o => ⟨ρ4, G', s2.trans s, o, PS'.mono s h2⟩
          | cont => exact fun σ' G' H' s o => ⟨ρ4, G', s2.trans s, o, PS'.mono s h2⟩
          | brk => exact h2
          | ret r => exact h2
theorem bt_name {i : Nat} : ∀ d ρ e, bName i d ρ = .err e → e = .stuck := fun d ρ e h => by
  unfold bName at h
  split at h <;> cases h
  rfl
theorem bts_nil : ∀ d ρ e, bNil d ρ = .err e → e = .stuck := fun d ρ e h => by cases d <;> cases h; rfl
theorem bts_cons {b : D → En → R En} {bs : List D → En → R En} (h1 : ∀ d ρ e, b d ρ = .err e → e = .stuck) (h2 : ∀ d ρ e, bs d ρ = .err e → e = .stuck) : ∀ d ρ e, bCons b bs d ρ = .err e → e = .stuck := fun ds ρ x e => by
  cases ds with
  | nil => cases e; rfl
  | cons d ds =>
    have e : (b d ρ).bind (fun ρ1 => bs ds ρ1) = .err x := e
    cases e1 : b d ρ with
    | err y => rw [e1] at e; cases e; exact h1 _ _ _ e1
    | ok ρ1 => rw [e1] at e; exact h2 _ _ _ e
theorem bt_tup {bs : List D → En → R En} (h2 : ∀ d ρ e, bs d ρ = .err e → e = .stuck) : ∀ d ρ e, bTup bs d ρ = .err e → e = .stuck := fun d ρ x e => by
  unfold bTup at e
  split at e
  · exact h2 _ _ _ e
  · cases e; rfl
/-- a, b = e -/
@[simp] def sAsg (bt : D → En → R En) (m : M Rs) : Sm := fun ρ => (m ρ).bind fun p => (fz p.1 p.2).bind fun q => (bt q.1 q.2).bind fun ρ1 => .ok (.next, ρ1)
theorem ts_asg {e : Expr} {m : M Rs} (he : PE X e (tR B m)) (hg : PG X tg (gB B ws bt)) (hbt : ∀ d ρ e, bt d ρ = .err e → e = .stuck) (hs : swapsWithSole [tg] e pos.line X.env = pure false := by rfl) (hw : swappedStores [tg] e X.env = pure none := by rfl)
    (h1 : (assignEach [tg] X.env).map (·.2) = [assign tg X.env] := by rfl) : PS X (.Assign [tg] e pos) (tS B (sAsg bt m)) := PS.imp (ps_asg he hg hs hw h1) fun E σ H h => by
  obtain ⟨ρ, G, ok, h⟩ := h
  refine tR.mono (runS ok h) fun x H1 ⟨r, ρ1, G1, n1, q1, h1⟩ => ?_
  obtain ⟨d, ρ2, e2, h2⟩ := fz_get (P := PS' B G1 E) h1 id
  obtain ⟨G2, n2, rr⟩ := fz_ok n1.ok q1 e2
  have h2 := PS'.mono n2.ext h2
  dsimp only at h2
  cases e3 : bt d ρ2 with
  | err y =>
    rw [e3] at h2
    have := hbt _ _ _ e3
    subst this
    exact (show False from h2).elim
  | ok ρ3 =>
    rw [e3] at h2
    exact ⟨ρ2, G2, d, n2.ok, rr, ρ3, e3, fun σ' ok' _ _ => h2 σ' G2 H1 (Same.refl _) ok'⟩
end

/-! ### while -/
def loopW (t : M Bool) (b : Sm) : Nat → Sm
  | 0, _ => R.stuck
  | n + 1, ρ => (t ρ).bind fun p => if p.1 = true then (b p.2).bind fun q => (match q.1 with
      | .next => loopW t b n q.2
      | .cont => loopW t b n q.2
      | .brk => .ok (.next, q.2)
      | .ret r => .ok (.ret r, q.2)) else .ok (.next, p.2)
section
variable {X : Cx} {B : Bs} {c : Expr} {body : List Stmt} {t : M Bool} {b : Sm} {pos : Pos}
theorem ts_while (fuel : Nat) (hp : PassesOwn (model X.prog X.w) X.A X.env X.xe) (hc : PT X c (tT B t)) (hb : PSs X body (tS B b)) : PS X (.While c body [] pos) (tS B (loopW t b fuel)) := PS.imp (ps_while hp hc hb) fun E σ H h => by
  obtain ⟨ρ, G, ok, h⟩ := h
  refine ⟨fun n σ H => ∃ ρ G, Ok B ρ G σ H ∧ PS' B G E (loopW t b n ρ), ⟨fuel, ρ, G, ok, h⟩, ?_⟩
  rintro n σ1 H1 ⟨ρ1, G1, ok1, h1⟩
  cases n with
  | zero => exact h1.elim
  | succ n =>
    refine tT.mono (runST ok1 h1) fun x H2 ⟨ρ2, G2, n2, h2⟩ => ?_
    cases x with
    | false => exact iteF (h2 σ1 G2 H2 (Same.refl _) n2.ok)
    | true =>
      refine iteT ⟨fun σ' H' => ∃ ρ G, Ok B ρ G σ' H' ∧ PS' B G E (loopW t b n ρ), fun σ' H' h => ⟨n, Nat.lt_succ_self n, h⟩, ρ2, G2, n2.ok, ?_⟩
      have h2 : PS' B G2 E ((b ρ2).bind fun q => match q.1 with
        | .next => loopW t b n q.2
        | .cont => loopW t b n q.2
        | .brk => .ok (.next, q.2)
        | .ret r => .ok (.ret r, q.2)) := h2
      cases e4 : b ρ2 with
      | err x => rw [e4] at h2; cases x <;> exact h2
      | ok q =>
        obtain ⟨f, ρ4⟩ := q
        rw [e4] at h2
        cases f with
        | next => exact fun σ' G' H' s o => ⟨ρ4, G', o, PS'.mono s h2⟩
        | cont => exact fun σ' G' H' s o => ⟨ρ4, G', o, PS'.mono s h2⟩
        | brk => exact h2
        | ret r => exact h2
end
end T
namespace T
open PySem PySem.Spec PyProof.Rows L2

/-! ### methods of a list that one slot has -/
@[simp] def eMeth (i : Nat) (f : List D → List D → R (D × List D)) (args : M (List Rs)) : M Rs := fun ρ => match ρ[i]? with
  | some (.own (.lst _)) => (args ρ).bind fun p => (fzs p.1 p.2).bind fun q => match q.2[i]? with
    | some (.own (.lst xs)) => (f xs q.1).bind fun r => .ok (.val r.1, q.2.set i (.own (.lst r.2)))
    | _ => R.stuck
  | _ => R.stuck
def MtS (r : V → List V → Hp → VK → Prop) (f : List D → List D → R (D × List D)) : Prop := ∀ {W : Wd} {G H : Hp} {l : Addr} {vs : List V} {xs : List D} {avs : List V} {ads : List D}, Same G H → H l = some (.lst vs) → Reps W G vs xs → Reps W G avs ads →
  ∀ d ys, f xs ads = .ok (d, ys) → ∃ v vs', Rep W G v d ∧ Reps W G vs' ys ∧ ∀ Q : VK, Q v (upd H l (.lst vs')) → r (.ref l) avs H Q
section
variable {X : Cx} {B : Bs} {ρ : En} {G H : Hp} {σ : L2.St}
theorem own_lst {i : Nat} {xs : List D} (ok : Ok B ρ G σ H) (e : ρ[i]? = some (.own (.lst xs))) : ∃ l vs, σ[i]? = some (some (.ref l)) ∧ H l = some (.lst vs) ∧ Reps B.W G vs xs ∧ G l = none ∧ B.H0 l = none := by
  obtain ⟨l, e1, o1, o2, b⟩ := (show SlOk B G H σ[i]? (.own (.lst xs)) from ok.sl i _ e)
  rcases b with ⟨vs, ds, z1, z2, z3⟩ | ⟨vs, ds, z1, z2, z3⟩
  · cases z1; exact ⟨l, vs, e1, z2, z3, o2, o1⟩
  · cases z1
/-- the list of a slot is changed in place -/
theorem Nx.setIn {i : Nat} {xs ys : List D} {l : Addr} {vs' : List V} (ok : Ok B ρ G σ H) (e : ρ[i]? = some (.own (.lst xs))) (hl : σ[i]? = some (some (.ref l))) (g : G l = none) (h0 : B.H0 l = none) (r : Reps B.W G vs' ys) :
    Nx B ρ G σ H (ρ.set i (.own (.lst ys))) G (upd H l (.lst vs')) := by
  have hi := own_lt e
  have get : ∀ {j s}, (ρ.set i (.own (.lst ys)))[j]? = some s → (j = i ∧ s = .own (.lst ys)) ∨ (j ≠ i ∧ ρ[j]? = some s) := fun {j s} z => by
    by_cases hj : i = j
    · subst hj; rw [List.getElem?_set_self hi] at z; cases z; exact .inl ⟨rfl, rfl⟩
    · rw [List.getElem?_set_ne hj] at z; exact .inr ⟨Ne.symm hj, z⟩
  have gh : Same G (upd H l (.lst vs')) := fun a o q => by rw [upd_ne (ne_of_none q g)]; exact ok.gh a o q
  refine ⟨Same.refl _, ⟨(List.length_set ..).trans ok.len, ok.g0, gh, fun a o q => by rw [upd_ne (ne_of_none q h0)]; exact ok.h0 a o q, ok.nw, fun j s z => ?_, fun j k d1 d2 p z1 z2 z3 z4 => ?_⟩, fun a o q no => ?_, fun _ _ q => .inl q, fun j s z => ?_, fun a o q => ?_⟩
  · rcases get z with ⟨rfl, rfl⟩ | ⟨hj, z⟩
    · exact ⟨l, hl, h0, g, .inl ⟨vs', ys, rfl, upd_same, r⟩⟩
    · have q := ok.sl j s z
      cases s with
      | un => exact True.intro
      | val d => exact q
      | own d =>
        obtain ⟨p, e1, o1, o2, b⟩ := q
        have ne : p ≠ l := fun w => by subst w; exact hj (ok.ap j i _ _ p z e e1 hl)
        refine ⟨p, e1, o1, o2, body_same b (Same.refl _) fun o w => by rw [upd_ne ne]; exact w⟩
  · have un : ∀ {j : Nat} {d : D}, (ρ.set i (Sl.own (.lst ys)))[j]? = some (Sl.own d) → ∃ d' : D, ρ[j]? = some (Sl.own d') := fun {j d} z => by
      rcases get z with ⟨rfl, _⟩ | ⟨_, z⟩
      · exact ⟨_, e⟩
      · exact ⟨_, z⟩
    obtain ⟨d1', z1⟩ := un z1
    obtain ⟨d2', z2⟩ := un z2
    exact ok.ap j k _ _ p z1 z2 z3 z4
  · rw [upd_ne]
    · exact q
    · rintro rfl; exact no ⟨i, _, e, hl⟩
  · rcases get z with ⟨rfl, rfl⟩ | ⟨hj, z⟩
    · exact ⟨_, e, True.intro⟩
    · exact ⟨s, z, SlLe.refl s⟩
  · by_cases w : a = l
    · subst w; exact ⟨_, upd_same⟩
    · rw [upd_ne w]; exact ⟨o, q⟩
variable {e o : Expr} {es : List Expr} {ms : M (List Rs)} {i : Nat} {name : Str} {mid : String} {r : V → List V → Hp → VK → Prop} {f : List D → List D → R (D × List D)} {apos cpos : Pos}
theorem meth_end {i : Nat} {Q : VK} (ok : Ok B ρ G σ H) (hf : MtS r f) (hs : ∀ xs ds e, f xs ds = .err e → e = .stuck) {avs : List V} {ads : List D} (ra : Reps B.W G avs ads) {v : V} (hv : σ[i]? = some (some v))
    (h : PR B ρ G σ H Q (match ρ[i]? with
      | some (.own (.lst xs)) => (f xs ads).bind fun r => .ok (.val r.1, ρ.set i (.own (.lst r.2)))
      | _ => R.stuck)) : r v avs H Q := by
  split at h
  · rename_i xs e1
    obtain ⟨l, vs, q1, q2, q3, q4, q5⟩ := own_lst ok e1
    rw [hv] at q1; cases q1
    cases e2 : f xs ads with
    | err x => rw [e2] at h; cases hs _ _ _ e2; exact (show False from h).elim
    | ok p =>
      obtain ⟨d, ys⟩ := p
      rw [e2] at h
      obtain ⟨v, vs', rv, rvs, k⟩ := hf ok.gh q2 q3 ra d ys e2
      exact k Q (h v G _ (Nx.setIn ok e1 hv q4 q5 rvs) rv True.intro)
  · exact h.elim
theorem te_meth (hf : MtS r f) (hs : ∀ xs ds e, f xs ds = .err e → e = .stuck)
    (he : PE X (.Call (.Attribute o name apos) (e :: es) [] cpos) (tBM X.K "list" r (tVar i) (tA B ms))) : PE X (.Call (.Attribute o name apos) (e :: es) [] cpos) (tR B (eMeth i f ms)) := PE.imp he fun σ H Q h => by
  obtain ⟨ρ, G, ok, h⟩ := h
  unfold eMeth at h
  split at h
  · rename_i xs e1
    obtain ⟨l, vs, q1, q2, _⟩ := own_lst ok e1
    refine ⟨_, q1, .inl ⟨rfl, _, .inl (.inl q2)⟩, ?_⟩
    refine tA.mono (runLR ok h) fun avs H1 ⟨rs, ρ1, G1, n1, q1', h1⟩ => ?_
    obtain ⟨ds, ρ2, e2, h2⟩ := fzs_get (P := PR B ρ1 G1 σ H1 Q) id h1
    obtain ⟨G2, n2, rr⟩ := fzs_ok n1.ok q1' e2
    exact meth_end n2.ok hf hs rr q1 (PR.mono n2 h2)
  · exact h.elim
theorem te_meth0 (hf : MtS r f) (hs : ∀ xs ds e, f xs ds = .err e → e = .stuck)
    (he : PE X (.Call (.Attribute o name apos) [] [] cpos) (tBM0 X.K "list" r (tVar i))) : PE X (.Call (.Attribute o name apos) [] [] cpos) (tR B (eMeth i f aNil)) := PE.imp he fun σ H Q h => by
  obtain ⟨ρ, G, ok, h⟩ := h
  unfold eMeth at h
  split at h
  · rename_i xs e1
    obtain ⟨l, vs, q1, q2, _⟩ := own_lst ok e1
    refine ⟨_, q1, .inl ⟨rfl, _, .inl (.inl q2)⟩, ?_⟩
    have h2 : PR B ρ G σ H Q (match ρ[i]? with
      | some (.own (.lst xs)) => (f xs []).bind fun r => .ok (.val r.1, ρ.set i (.own (.lst r.2)))
      | _ => R.stuck) := h
    exact meth_end ok hf hs .nil q1 h2
  · exact h.elim
end
@[simp] def fApp : List D → List D → R (D × List D) := fun xs as => match as with
  | [d] => if xs.length < 16777216 then .ok (.non, xs ++ [d]) else R.stuck
  | _ => R.stuck
@[simp] def fExt : List D → List D → R (D × List D) := fun xs as => match as with
  | [.lst d] => if xs.length + d.length ≤ 16777216 then .ok (.non, xs ++ d) else R.stuck
  | _ => R.stuck
@[simp] def fPop : List D → List D → R (D × List D) := fun xs as => match as with
  | [] => match xs[xs.length - 1]? with | some d => .ok (d, xs.dropLast) | none => R.stuck
  | _ => R.stuck
@[simp] def fPopAt : List D → List D → R (D × List D) := fun xs as => match as with
  | [.int i] => if 0 ≤ i ∧ i < 9223372036854775808 ∧ i < xs.length then (match xs[i.toNat]? with | some d => .ok (d, xs.eraseIdx i.toNat) | none => R.stuck) else R.stuck
  | _ => R.stuck
@[simp] def fClear : List D → List D → R (D × List D) := fun xs as => match as with
  | [] => .ok (.non, [])
  | _ => R.stuck
theorem ms_app : MtS rAppend fApp := by
  intro W G H l vs xs avs ads s hl r ra d ys e
  unfold fApp at e
  split at e
  · split at e
    · rename_i h
      cases e
      cases ra with
      | cons a b => cases b; exact ⟨.non, _, .non, r.append (.cons a .nil), fun Q q => ⟨l, vs, _, rfl, rfl, hl, by rw [r.length, sizeLine_eq]; exact h, q⟩⟩
    · cases e
  · cases e
theorem ms_ext : MtS rExtend fExt := by
  intro W G H l vs xs avs ads s hl r ra d ys e
  unfold fExt at e
  split at e
  · split at e
    · rename_i h
      cases e
      cases ra with
      | cons a b =>
        cases b
        cases a with
        | lst e1 r1 => exact ⟨.non, _, .non, r.append r1, fun Q q => ⟨l, _, vs, _, rfl, rfl, hl, s _ _ e1, by rw [r.length, r1.length, sizeLine_eq]; exact h, q⟩⟩
    · cases e
  · cases e
theorem ms_pop : MtS rPop fPop := by
  intro W G H l vs xs avs ads s hl r ra d ys e
  unfold fPop at e
  split at e
  · split at e
    · rename_i d' h
      cases e
      cases ra
      obtain ⟨v, h1, h2⟩ := r.get h
      exact ⟨v, _, h2, r.dropLast, fun Q q => ⟨l, vs, v, rfl, rfl, hl, by rw [r.length]; exact h1, q⟩⟩
    · cases e
  · cases e
theorem ms_popAt : MtS rPopAt fPopAt := by
  intro W G H l vs xs avs ads s hl r ra d ys e
  unfold fPopAt at e
  split at e
  · rename_i i
    split at e
    · rename_i hb
      split at e
      · rename_i d' h
        cases e
        cases ra with
        | cons a b =>
          cases b
          cases a
          obtain ⟨v, h1, h2⟩ := r.get h
          refine ⟨v, _, h2, r.eraseIdx i.toNat, fun Q q => ⟨l, vs, i, i.toNat, v, rfl, rfl, hl, by omega, by omega, ?_, h1, q⟩⟩
          exact seqIndex_of hb.1 (by rw [r.length]; exact hb.2.2)
      · cases e
    · cases e
  · cases e
theorem ms_clear : MtS rClear fClear := by
  intro W G H l vs xs avs ads s hl r ra d ys e
  unfold fClear at e
  split at e
  · cases e; cases ra; exact ⟨.non, [], .non, .nil, fun Q q => ⟨l, vs, rfl, rfl, hl, q⟩⟩
  · cases e
theorem fs_app : ∀ xs ds e, fApp xs ds = .err e → e = .stuck := fun xs ds e h => by
  unfold fApp at h; split at h
  · split at h <;> cases h; rfl
  · cases h; rfl
theorem fs_ext : ∀ xs ds e, fExt xs ds = .err e → e = .stuck := fun xs ds e h => by
  unfold fExt at h; split at h
  · split at h <;> cases h; rfl
  · cases h; rfl
theorem fs_pop : ∀ xs ds e, fPop xs ds = .err e → e = .stuck := fun xs ds e h => by
  unfold fPop at h; split at h
  · split at h <;> cases h; rfl
  · cases h; rfl
theorem fs_popAt : ∀ xs ds e, fPopAt xs ds = .err e → e = .stuck := fun xs ds e h => by
  unfold fPopAt at h; split at h
  · split at h
    · split at h <;> cases h; rfl
    · cases h; rfl
  · cases h; rfl
theorem fs_clear : ∀ xs ds e, fClear xs ds = .err e → e = .stuck := fun xs ds e h => by
  unfold fClear at h; split at h <;> cases h; rfl
/-- x[i] = e, x a list that its slot alone has -/
@[simp] def sSub (i : Nat) (mi m : M Rs) : Sm := fun ρ => (m ρ).bind fun p => (fz p.1 p.2).bind fun q => match q.2[i]? with
  | some (.own (.lst _)) => (mi q.2).bind fun k => match k.1 with
    | .val (.int z) => (match k.2[i]? with
      | some (.own (.lst xs)) => (match ixN xs.length z with | some j => .ok (.next, k.2.set i (.own (.lst (xs.set j q.1)))) | none => R.stuck)
      | _ => R.stuck)
    | _ => R.stuck
  | _ => R.stuck
section
variable {X : Cx} {B : Bs} {e o ie : Expr} {m mi : M Rs} {i : Nat} {pos spos : Pos}
theorem ts_sub (he : PE X e (tR B m)) (hi : PE X ie (tR B mi)) (h : PS X (.Assign [.Subscript o ie spos] e pos) (tAsg (tR B m) (gSub (tVar i) (tR B mi) rSetL))) : PS X (.Assign [.Subscript o ie spos] e pos) (tS B (sSub i mi m)) := PS.imp h fun E σ H h => by
  obtain ⟨ρ, G, ok, h⟩ := h
  refine tR.mono (runS ok h) fun x H1 ⟨r, ρ1, G1, n1, q1, h1⟩ => ?_
  obtain ⟨d, ρ2, e2, h2⟩ := fz_get (P := PS' B G1 E) h1 id
  obtain ⟨G2, n2, rr⟩ := fz_ok n1.ok q1 e2
  have h2 := PS'.mono n2.ext h2
  dsimp only at h2
  split at h2
  · rename_i xs0 e3
    obtain ⟨l, vs0, q3, _⟩ := own_lst n2.ok e3
    refine ⟨_, q3, tR.mono (runS n2.ok h2) fun y H3 ⟨k, ρ3, G3, n3, q4, h3⟩ => ?_⟩
    have hk : ∃ z, k = .val (.int z) := by
      cases k with
      | val d =>
        cases d with
        | int z => exact ⟨z, rfl⟩
        | _ => exact (show False from h3).elim
      | new d => exact (show False from h3).elim
      | bor d => exact (show False from h3).elim
    obtain ⟨z, rfl⟩ := hk
    cases q4
    cases e5 : ρ3[i]? with
    | none =>
      dsimp only at h3
      rw [e5] at h3
      exact (show False from h3).elim
    | some s =>
      have h3 : PS' B G3 E (match some s with
        | some (.own (.lst xs)) => (match ixN xs.length z with | some j => .ok (.next, ρ3.set i (.own (.lst (xs.set j d)))) | none => R.stuck)
        | _ => R.stuck) := by rw [← e5]; exact h3
      split at h3
      · rename_i xs e7
        cases e7
        obtain ⟨l', vs, w1, w2, w3, w4, w5⟩ := own_lst n3.ok e5
        rw [q3] at w1; cases w1
        split at h3
        · rename_i j e6
          refine ⟨l, vs, z, j, rfl, rfl, w2, by rw [w3.length]; exact e6, ?_⟩
          exact h3 σ G3 _ (Same.refl _) (Nx.setIn n3.ok e5 q3 w4 w5 (w3.set j (rr.mono n3.ext))).ok
        · exact h3.elim
      · exact h3.elim
  · exact h2.elim
end
/-- a module's constant -/
theorem te_glob {X : Cx} {B : Bs} {x : Str} {v : V} {u : Value} {d : D} {pos : Pos} (hm : X.mg x = some u) (r : RelV v u) (rd : ∀ G, Rep B.W G v d) (hg : Gl X x := by rfl) (hd : (x == ("__debug__" : Str)) = false := by decide) : PE X (.Name x pos) (tR B (eC d)) := te_c (pe_glob hg hm r hd) rd
end T
namespace T
open PySem PySem.Spec PyProof.Rows L2

/-! ### list comprehensions -/
@[simp] def wipeE (ρ : En) : List Nat → En
  | [] => ρ
  | v :: vs => (wipeE ρ vs).set v .un
/-- the slots of vs as they were ahead -/
@[simp] def backE (ρ ρ' : En) : List Nat → En
  | [] => ρ'
  | v :: vs => match ρ[v]? with | some s => (backE ρ ρ' vs).set v s | none => backE ρ ρ' vs
def lcLoop (bt : D → En → R En) (t : M Bool) (m : M Rs) (vs : List Nat) : List D → List D → En → R (List D × En)
  | [], acc, ρ => .ok (acc, ρ)
  | d :: ds, acc, ρ => (bt d ρ).bind fun ρ1 => (t ρ1).bind fun p => if p.1 = true then (m p.2).bind fun q => (fz q.1 q.2).bind fun z => if acc.length < 16777216 then lcLoop bt t m vs ds (acc ++ [z.1]) (wipeE z.2 vs) else R.stuck
      else lcLoop bt t m vs ds acc (wipeE p.2 vs)
@[simp] def eLc (it : M (List D)) (bt : D → En → R En) (t : M Bool) (m : M Rs) (vs : List Nat) : M Rs := fun ρ => (it ρ).bind fun p => (lcLoop bt t m vs p.1 [] (wipeE p.2 vs)).bind fun q => .ok (.new (.lst q.1), backE p.2 q.2 vs)
@[simp] def tYesM : M Bool := fun ρ => .ok (true, ρ)
section
variable {B : Bs} {ρ ρ1 ρ2 : En} {G G1 G2 : Hp} {σ σ1 : L2.St} {H H1 H2 : Hp} {vs : List Nat}
theorem wipeE_len (ρ : En) : ∀ vs, (wipeE ρ vs).length = ρ.length
  | [] => rfl
  | v :: vs => by unfold wipeE; rw [List.length_set, wipeE_len ρ vs]
theorem wipeE_get {i : Nat} {s : Sl} : ∀ {vs : List Nat}, (wipeE ρ vs)[i]? = some s → (i ∈ vs ∧ s = .un) ∨ (i ∉ vs ∧ ρ[i]? = some s)
  | [], h => .inr ⟨by simp, h⟩
  | v :: vs, h => by
    unfold wipeE at h
    by_cases hi : v = i
    · subst hi
      have hv : v < (wipeE ρ vs).length := by have := (List.getElem?_eq_some_iff.mp h).1; simpa using this
      rw [List.getElem?_set_self hv] at h; cases h
      exact .inl ⟨by simp, rfl⟩
    · rw [List.getElem?_set_ne hi] at h
      rcases wipeE_get h with ⟨h1, h2⟩ | ⟨h1, h2⟩
      · exact .inl ⟨by simp [h1], h2⟩
      · exact .inr ⟨by simp only [List.mem_cons, not_or]; exact ⟨fun e => hi e.symm, h1⟩, h2⟩
theorem wipe_get {i : Nat} : ∀ {vs : List Nat}, i ∉ vs → (wipe σ vs)[i]? = σ[i]?
  | [], _ => rfl
  | v :: vs, h => by
    simp only [List.mem_cons, not_or] at h
    show ((wipe σ vs).set v none)[i]? = _
    rw [List.getElem?_set_ne (fun e => h.1 e.symm), wipe_get h.2]
theorem wipe_none {i : Nat} (hi : i < σ.length) : ∀ {vs : List Nat}, i ∈ vs → (wipe σ vs)[i]? = some none
  | v :: vs, h => by
    show ((wipe σ vs).set v none)[i]? = _
    by_cases e : v = i
    · subst e; rw [List.getElem?_set_self (by rw [wipe_length]; exact hi)]
    · rw [List.getElem?_set_ne e]
      rcases List.mem_cons.mp h with h | h
      · exact (e h.symm).elim
      · exact wipe_none hi h
theorem wipe_eq {σ1 : L2.St} (hl : σ1.length = (wipe σ vs).length) (h : ∀ (j : Nat), j ∉ vs → σ1[j]? = (wipe σ vs)[j]?) : wipe σ1 vs = wipe σ vs := by
  apply List.ext_getElem?
  intro i
  by_cases hi : i ∈ vs
  · by_cases hl2 : i < σ.length
    · rw [wipe_none hl2 hi, wipe_none (by rw [hl, wipe_length]; exact hl2) hi]
    · rw [List.getElem?_eq_none (by rw [wipe_length, hl, wipe_length]; omega), List.getElem?_eq_none (by rw [wipe_length]; omega)]
  · rw [wipe_get hi, h i hi]
/-- forgetting slots -/
theorem Ok.wipe (ok : Ok B ρ G σ1 H) (hs : σ.length = σ1.length) (h : ∀ (j : Nat), j ∉ vs → σ1[j]? = (L2.wipe σ vs)[j]?) : Ok B (wipeE ρ vs) G (L2.wipe σ vs) H := by
  refine ⟨by rw [wipeE_len, wipe_length, hs]; exact ok.len, ok.g0, ok.gh, ok.h0, ok.nw, fun i s e => ?_, fun i j d1 d2 p z1 z2 z3 z4 => ?_⟩
  · rcases wipeE_get e with ⟨_, rfl⟩ | ⟨h1, h2⟩
    · exact True.intro
    · rw [← h i h1]; exact ok.sl i s h2
  · rcases wipeE_get z1 with ⟨_, y⟩ | ⟨h1, z1⟩
    · cases y
    · rcases wipeE_get z2 with ⟨_, y⟩ | ⟨h2, z2⟩
      · cases y
      · rw [← h i h1] at z3; rw [← h j h2] at z4
        exact ok.ap i j d1 d2 p z1 z2 z3 z4
theorem owned_wipe {a : Addr} (h : ∀ (j : Nat), j ∉ vs → σ1[j]? = (wipe σ vs)[j]?) (o : Owned (wipeE ρ vs) (wipe σ vs) a) : Owned ρ σ1 a := by
  obtain ⟨i, d, e1, e2⟩ := o
  rcases wipeE_get e1 with ⟨_, y⟩ | ⟨h1, e1⟩
  · cases y
  · exact ⟨i, d, e1, by rw [h i h1]; exact e2⟩
/-- the cell D's content does not matter to what is held -/
theorem Ok.reset {p : Addr} {o : HO} (ok : Ok B ρ G σ H) (g : G p = none) (h0 : B.H0 p = none) (no : ¬ Owned ρ σ p) : Ok B ρ G σ (upd H p o) := by
  refine ⟨ok.len, ok.g0, fun a u e => by rw [upd_ne (ne_of_none e g)]; exact ok.gh a u e, fun a u e => by rw [upd_ne (ne_of_none e h0)]; exact ok.h0 a u e, ok.nw, fun i s e => ?_, ok.ap⟩
  have q := ok.sl i s e
  cases s with
  | un => exact True.intro
  | val d => exact q
  | own d =>
    obtain ⟨p', e1, o1, o2, b⟩ := q
    have ne : p' ≠ p := fun w => by subst w; exact no ⟨i, d, e, e1⟩
    exact ⟨p', e1, o1, o2, body_same b (Same.refl _) fun o w => by rw [upd_ne ne]; exact w⟩
theorem Nx.reset {p : Addr} {o : HO} (n : Nx B ρ G σ H ρ1 G1 H1) (g : G1 p = none) (h0 : B.H0 p = none) (no : ¬ Owned ρ σ p) : Nx B ρ G σ (upd H p o) ρ1 G1 (upd H1 p o) := by
  have no1 : ¬ Owned ρ1 σ p := fun z => no (n.owned z)
  refine ⟨n.ext, n.ok.reset g h0 no1, fun a u e z => ?_, fun a u e => ?_, n.le, fun a u e => ?_⟩
  · by_cases w : a = p
    · subst w; rw [upd_same] at e ⊢; exact e
    · rw [upd_ne w] at e ⊢; exact n.keep a u e z
  · have w : a ≠ p := fun w => by subst w; rw [g] at e; cases e
    rw [upd_ne w]; exact n.gnew a u e
  · by_cases w : a = p
    · subst w; exact ⟨o, upd_same⟩
    · rw [upd_ne w] at e ⊢; exact n.dom a u e
theorem upd_self {H : Hp} {a : Addr} {o : HO} (e : H a = some o) : upd H a o = H := by
  funext b
  by_cases z : b = a
  · subst z; rw [upd_same, e]
  · rw [upd_ne z]
/-- a target's mirror lays values alone, in the slots ws -/
structure BtOk (ws : List Nat) (bt : D → En → R En) : Prop where
  st : ∀ d ρ e, bt d ρ = .err e → e = .stuck
  len : ∀ d ρ ρ', bt d ρ = .ok ρ' → ρ'.length = ρ.length
  out : ∀ d ρ ρ', bt d ρ = .ok ρ' → ∀ (j : Nat), j ∉ ws → ρ'[j]? = ρ[j]?
  own : ∀ d ρ ρ', bt d ρ = .ok ρ' → ∀ (j : Nat) s, ρ'[j]? = some (.own s) → ρ[j]? = some (.own s)
theorem Nx.wipe (ok1 : Ok B ρ1 G σ1 H) (n : Nx B ρ1 G σ1 H ρ2 G1 H1) {ρ0 : En} (hs : σ.length = σ1.length) (h : ∀ (j : Nat), j ∉ vs → σ1[j]? = (L2.wipe σ vs)[j]?) (hl : ρ1.length = ρ0.length) (hρ : ∀ (j : Nat), j ∉ vs → ρ1[j]? = ρ0[j]?) (ho : ∀ (j : Nat) s, ρ1[j]? = some (.own s) → ρ0[j]? = some (.own s))
    (un : ∀ (j : Nat) s, j ∈ vs → ρ0[j]? = some s → s = .un) : Nx B ρ0 G (L2.wipe σ vs) H (wipeE ρ2 vs) G1 H1 := by
  have od : ∀ a, Owned ρ1 σ1 a → Owned ρ0 (L2.wipe σ vs) a := fun a ⟨i, d, e1, e2⟩ => by
    have e3 := ho i d e1
    have hi : i ∉ vs := fun z => by have := un i _ z e3; cases this
    exact ⟨i, d, e3, by rw [← h i hi]; exact e2⟩
  have l2 : ρ2.length = ρ1.length := by rw [n.ok.len, ok1.len]
  refine ⟨n.ext, n.ok.wipe hs h, fun a o e no => n.keep a o e fun z => no (od a z), fun a o e => ?_, fun i s e => ?_, n.dom⟩
  · rcases n.gnew a o e with z | z | z
    · exact .inl z
    · exact .inr (.inl z)
    · exact .inr (.inr (od a z))
  · rcases wipeE_get e with ⟨h1, rfl⟩ | ⟨h1, e⟩
    · have hi : i < ρ0.length := by have := (List.getElem?_eq_some_iff.mp e).1; rw [wipeE_len, l2, hl] at this; exact this
      refine ⟨.un, ?_, True.intro⟩
      have q : ρ0[i]? = some ρ0[i] := List.getElem?_eq_getElem hi
      rw [q, un i _ h1 q]
    · obtain ⟨s1, e1, l1⟩ := n.le i s e
      exact ⟨s1, by rw [← hρ i h1]; exact e1, l1⟩
theorem backE_get {ρ ρ' : En} {i : Nat} {s : Sl} : ∀ {vs : List Nat}, (∀ v ∈ vs, v < ρ'.length → v < ρ.length) → (backE ρ ρ' vs)[i]? = some s → (i ∈ vs ∧ ρ[i]? = some s) ∨ (i ∉ vs ∧ ρ'[i]? = some s)
  | [], _, h => .inr ⟨by simp, h⟩
  | v :: vs, hv, h => by
    unfold backE at h
    have ih : (backE ρ ρ' vs)[i]? = some s → (i ∈ vs ∧ ρ[i]? = some s) ∨ (i ∉ vs ∧ ρ'[i]? = some s) := backE_get fun v h => hv v (by simp [h])
    split at h
    · rename_i s' e
      by_cases hi : v = i
      · subst hi
        have hl : v < (backE ρ ρ' vs).length := by have := (List.getElem?_eq_some_iff.mp h).1; simpa using this
        rw [List.getElem?_set_self hl] at h; cases h
        exact .inl ⟨by simp, e⟩
      · rw [List.getElem?_set_ne hi] at h
        rcases ih h with ⟨h1, h2⟩ | ⟨h1, h2⟩
        · exact .inl ⟨by simp [h1], h2⟩
        · exact .inr ⟨by simp only [List.mem_cons, not_or]; exact ⟨fun e => hi e.symm, h1⟩, h2⟩
    · rename_i e
      rcases ih h with ⟨h1, h2⟩ | ⟨h1, h2⟩
      · exact .inl ⟨by simp [h1], h2⟩
      · refine .inr ⟨?_, h2⟩
        simp only [List.mem_cons, not_or]
        refine ⟨fun z => ?_, h1⟩
        subst z
        have := hv i (by simp) (List.getElem?_eq_some_iff.mp h2).1
        rw [List.getElem?_eq_getElem this] at e; cases e
theorem backE_len (ρ ρ' : En) : ∀ vs, (backE ρ ρ' vs).length = ρ'.length
  | [] => rfl
  | v :: vs => by
    unfold backE
    split
    · rw [List.length_set, backE_len]
    · rw [backE_len]
/-- the block is left: the slots of its own names are as they were -/
theorem Nx.back (ok1 : Ok B ρ1 G1 σ H1) {D : Addr} (hD : H1 D = none) {o : HO} (n : Nx B (wipeE ρ1 vs) G1 (L2.wipe σ vs) (upd H1 D o) ρ2 G2 (upd H D o)) (hl : ∃ o, H D = some o) : Nx B ρ1 G1 σ H1 (backE ρ1 ρ2 vs) G2 H := by
  have noD1 : ¬ Owned ρ1 σ D := ok1.notOwned hD
  have noD : ¬ Owned (wipeE ρ1 vs) (L2.wipe σ vs) D := fun z => noD1 (owned_wipe (fun j hj => (wipe_get hj).symm) z)
  have gD : G2 D = none := by
    cases q : G2 D with
    | none => rfl
    | some u =>
      rcases n.gnew D u q with z | z | z
      · rw [ok1.gnone hD] at z; cases z
      · rw [upd_same] at z; cases z
      · exact (noD z).elim
  have off : ∀ a, a ≠ D → H a = (upd H D o) a := fun a h => (upd_ne h).symm
  have l2 : ρ2.length = ρ1.length := by rw [n.ok.len, wipe_length, ok1.len]
  have bg : ∀ {i s}, (backE ρ1 ρ2 vs)[i]? = some s → (i ∈ vs ∧ ρ1[i]? = some s) ∨ (i ∉ vs ∧ ρ2[i]? = some s) := fun {i s} => backE_get fun v _ h => by rw [l2] at h; exact h
  have toOwn : ∀ {i : Nat} {d : T.D}, i ∉ vs → ρ2[i]? = some (Sl.own d) → ∃ d' : T.D, ρ1[i]? = some (Sl.own d') := fun {i d} hi e => by
    obtain ⟨s, e1, l⟩ := n.le i _ e
    rcases wipeE_get e1 with ⟨h1, _⟩ | ⟨_, e1⟩
    · exact (hi h1).elim
    · cases s with
      | own d' => exact ⟨d', e1⟩
      | val _ => exact (show False from l).elim
      | un => exact (show False from l).elim
  have kp : ∀ a u, H1 a = some u → ¬ Owned (wipeE ρ1 vs) (L2.wipe σ vs) a → H a = some u := fun a u e no => by
    have ne : a ≠ D := ne_of_none e hD
    rw [off a ne]
    exact n.keep a u (by rw [upd_ne ne]; exact e) no
  refine ⟨n.ext, ⟨?_, n.ok.g0, fun a u e => ?_, fun a u e => ?_, n.ok.nw, fun i s e => ?_, fun i j d1 d2 p z1 z2 z3 z4 => ?_⟩, fun a u e no => kp a u e fun z => no (owned_wipe (fun j hj => (wipe_get hj).symm) z), fun a u e => ?_, fun i s e => ?_, fun a u e => ?_⟩
  · rw [backE_len, l2]; exact ok1.len
  · rw [off a (ne_of_none e gD)]; exact n.ok.gh a u e
  · have ne : a ≠ D := ne_of_none e (ok1.h0none hD)
    rw [off a ne]; exact n.ok.h0 a u e
  · rcases bg e with ⟨hi, e⟩ | ⟨hi, e⟩
    · have q := ok1.sl i s e
      cases s with
      | un => exact True.intro
      | val d => obtain ⟨v, e1, r⟩ := q; exact ⟨v, e1, r.mono n.ext⟩
      | own d =>
        obtain ⟨p, e1, o1, o2, b⟩ := q
        have no : ¬ Owned (wipeE ρ1 vs) (L2.wipe σ vs) p := fun ⟨j, d', w1, w2⟩ => by
          rcases wipeE_get w1 with ⟨_, y⟩ | ⟨hj, w1⟩
          · cases y
          · rw [wipe_get hj] at w2
            have := ok1.ap i j _ _ p e w1 e1 w2
            subst this; exact hj hi
        have hp : ∃ u, H1 p = some u := by rcases b with ⟨_, _, _, z, _⟩ | ⟨_, _, _, z, _⟩ <;> exact ⟨_, z⟩
        refine ⟨p, e1, o1, ?_, body_same b n.ext fun u z => kp p u z no⟩
        cases q : G2 p with
        | none => rfl
        | some u =>
          obtain ⟨u', hu⟩ := hp
          have ne : p ≠ D := ne_of_none hu hD
          rcases n.gnew p u q with z | z | z
          · rw [o2] at z; cases z
          · rw [upd_ne ne, hu] at z; cases z
          · exact (no z).elim
    · have q := n.ok.sl i s e
      rw [wipe_get hi] at q
      cases s with
      | un => exact True.intro
      | val d => exact q
      | own d =>
        obtain ⟨p, e1, o1, o2, b⟩ := q
        have ne : p ≠ D := fun z => by
          subst z
          obtain ⟨d', e9⟩ := toOwn hi e
          exact noD1 ⟨i, d', e9, e1⟩
        exact ⟨p, e1, o1, o2, body_same b (Same.refl _) fun u z => by rw [upd_ne ne] at z; exact z⟩
  · have un : ∀ {i : Nat} {d : T.D}, (backE ρ1 ρ2 vs)[i]? = some (Sl.own d) → ∃ d' : T.D, ρ1[i]? = some (Sl.own d') := fun {i d} z => by
      rcases bg z with ⟨_, e⟩ | ⟨hi, e⟩
      · exact ⟨d, e⟩
      · exact toOwn hi e
    obtain ⟨_, z1⟩ := un z1
    obtain ⟨_, z2⟩ := un z2
    exact ok1.ap i j _ _ p z1 z2 z3 z4
  · have ne : a ≠ D := ne_of_none e gD
    rcases n.gnew a u e with z | z | z
    · exact .inl z
    · rw [upd_ne ne] at z; exact .inr (.inl z)
    · exact .inr (.inr (owned_wipe (fun j hj => (wipe_get hj).symm) z))
  · rcases bg e with ⟨_, e⟩ | ⟨hi, e⟩
    · exact ⟨s, e, SlLe.refl s⟩
    · obtain ⟨s1, e1, l⟩ := n.le i s e
      rcases wipeE_get e1 with ⟨h1, _⟩ | ⟨_, e1⟩
      · exact (hi h1).elim
      · exact ⟨s1, e1, l⟩
  · have ne : a ≠ D := ne_of_none e hD
    obtain ⟨u', e'⟩ := n.dom a u (by rw [upd_ne ne]; exact e)
    rw [upd_ne ne] at e'
    exact ⟨u', e'⟩
end
def PTs' (B : Bs) (X : Cx) (ifs : List Expr) (t : M Bool) : Prop := PTs X ifs (tT B t)
theorem tts_nil {X : Cx} {B : Bs} : PTs X [] (tT B tYesM) := ⟨fun pins s σ H Q I h => by
  obtain ⟨ρ, G, ok, h⟩ := h
  exact pts_nil.run pins s σ H Q I (h G H (Nx.refl ok))⟩
theorem tts_one {X : Cx} {B : Bs} {c : Expr} {t : M Bool} (h : PT X c (tT B t)) : PTs X [c] (tT B t) := pts_one h
section
variable {X : Cx} {B : Bs} {elt tg iter : Expr} {ifs : List Expr} {scope : Scope} {own : List (Str × Nat)} {pos : Pos} {it : M (List D)} {bt : D → En → R En} {t : M Bool} {m : M Rs} {ws : List Nat}
theorem lc_read {vs : List Nat} (hbt : BtOk ws bt) (hw : ∀ j ∈ ws, j ∈ vs) {σ : L2.St} {H : Hp} {Q : VK} (h : tR B (eLc it bt t m vs) σ H Q) : tLc (iS B it) (gB B ws bt) (tT B t) (tR B m) vs σ H Q := by
  obtain ⟨ρ, G, ok, h⟩ := h
  unfold eLc at h
  refine ⟨ρ, G, ok, ?_⟩
  cases e : it ρ with
  | err x =>
    rw [e] at h
    have := PR.err h
    cases x <;> exact this
  | ok a =>
    obtain ⟨ds, ρ1⟩ := a
    rw [e] at h
    intro J G1 H1 n1 src Dd hD
    have h : PR B ρ G σ H Q ((lcLoop bt t m vs ds [] (wipeE ρ1 vs)).bind fun q => .ok (.new (.lst q.1), backE ρ1 q.2 vs)) := h
    have h := PR.mono n1 h
    have okw : Ok B (wipeE ρ1 vs) G1 (L2.wipe σ vs) H1 := n1.ok.wipe rfl fun j hj => (wipe_get hj).symm
    have noD1 : ¬ Owned ρ1 σ Dd := n1.ok.notOwned hD
    have noDw : ¬ Owned (wipeE ρ1 vs) (L2.wipe σ vs) Dd := okw.notOwned hD
    have nw0 : Nx B (wipeE ρ1 vs) G1 (L2.wipe σ vs) (upd H1 Dd (.lst [])) (wipeE ρ1 vs) G1 (upd H1 Dd (.lst [])) := Nx.refl (okw.grow hD)
    have gDof : ∀ {ρ2 G2 H2}, Nx B (wipeE ρ1 vs) G1 (L2.wipe σ vs) (upd H1 Dd (.lst [])) ρ2 G2 H2 → G2 Dd = none := fun {ρ2 G2 H2} n => by
      cases q : G2 Dd with
      | none => rfl
      | some u =>
        rcases n.gnew Dd u q with z | z | z
        · rw [n1.ok.gnone hD] at z; cases z
        · rw [upd_same] at z; cases z
        · exact (noDw z).elim
    have unof : ∀ {ρ2 G2 H2}, Nx B (wipeE ρ1 vs) G1 (L2.wipe σ vs) (upd H1 Dd (.lst [])) ρ2 G2 H2 → ∀ (j : Nat) s, j ∈ vs → ρ2[j]? = some s → s = .un := fun {ρ2 G2 H2} n j s hj e => by
      obtain ⟨s1, e1, l⟩ := n.le j s e
      rcases wipeE_get e1 with ⟨_, rfl⟩ | ⟨h1, _⟩
      · cases s with
        | un => rfl
        | val _ => exact (show False from l).elim
        | own _ => exact (show False from l).elim
      · exact (h1 hj).elim
    refine ⟨fun i k H => k = ds.length - i ∧ i ≤ ds.length ∧ ∃ ρ2 G2 accV accD, H Dd = some (.lst accV) ∧ Reps B.W G2 accV accD ∧ Nx B (wipeE ρ1 vs) G1 (L2.wipe σ vs) (upd H1 Dd (.lst [])) ρ2 G2 (upd H Dd (.lst [])) ∧
      PR B ρ1 G1 σ H1 Q ((lcLoop bt t m vs (ds.drop i) accD ρ2).bind fun q => .ok (.new (.lst q.1), backE ρ1 q.2 vs)), ⟨ds.length, rfl, Nat.zero_le _, wipeE ρ1 vs, G1, [], [], upd_same, .nil, by rw [upd_upd]; exact nw0, h⟩, ?_⟩
    rintro i k H2 ⟨rfl, hl, ρ2, G2, accV, accD, hacc, racc, n2, h2⟩
    have gD2 := gDof n2
    have no2 : ¬ Owned ρ2 (L2.wipe σ vs) Dd := fun z => noDw (n2.owned z)
    have ok2 : Ok B ρ2 G2 (L2.wipe σ vs) H2 := by
      have := n2.ok.reset (o := .lst accV) gD2 (n1.ok.h0none hD) no2
      rw [upd_upd, upd_self hacc] at this
      exact this
    obtain ⟨go, stop⟩ := src i H2 (n2.ext.trans ok2.gh)
    cases q : ds[i]? with
    | none =>
      have hle : ds.length ≤ i := List.getElem?_eq_none_iff.mp q
      rw [List.drop_eq_nil_of_le hle] at h2
      refine .inl ⟨stop hle, ?_⟩
      have nb := Nx.back n1.ok hD n2 ⟨_, hacc⟩
      refine h2 (.ref Dd) G2 H2 nb ⟨Dd, rfl, ⟨n1.ok.h0none hD, gD2, .inl ⟨accV, accD, rfl, hacc, racc⟩⟩, fun z => noD1 (nb.owned z)⟩ fun p z => by cases z; exact hD
    | some d =>
      obtain ⟨g1, g2⟩ := go d q
      have hlt : i < ds.length := (List.getElem?_eq_some_iff.mp q).1
      have hd : ds.drop i = d :: ds.drop (i + 1) := by
        rw [List.drop_eq_getElem_cons hlt]
        have := (List.getElem?_eq_some_iff.mp q).2
        rw [this]
      rw [hd] at h2
      refine .inr ⟨g1, fun H' => ∃ ρ2 G2 accV accD, H' Dd = some (.lst accV) ∧ Reps B.W G2 accV accD ∧ Nx B (wipeE ρ1 vs) G1 (L2.wipe σ vs) (upd H1 Dd (.lst [])) ρ2 G2 (upd H' Dd (.lst [])) ∧
        PR B ρ1 G1 σ H1 Q ((lcLoop bt t m vs (ds.drop (i + 1)) accD ρ2).bind fun q => .ok (.new (.lst q.1), backE ρ1 q.2 vs)), fun H' n => ⟨ds.length - (i + 1), by omega, rfl, hlt, n⟩, fun x H' y => ?_⟩
      obtain ⟨rfl, rx⟩ := g2 x H' y
      unfold lcLoop at h2
      rw [R.bind_assoc] at h2
      cases e3 : bt d ρ2 with
      | err x =>
        rw [e3] at h2
        have := hbt.st _ _ _ e3
        subst this
        exact (show False from h2).elim
      | ok ρ3 =>
        rw [e3] at h2
        refine ⟨ρ2, G2, d, ok2, rx.mono n2.ext, ρ3, e3, fun σ3 ok3 l3 k3 => ?_⟩
        have k3' : ∀ (j : Nat), j ∉ vs → σ3[j]? = (L2.wipe σ vs)[j]? := fun j hj => k3 j fun z => hj (hw j z)
        refine ⟨wipe_eq l3 k3', ?_⟩
        dsimp only [R.bind_ok] at h2
        have hlen : ρ3.length = ρ2.length := hbt.len _ _ _ e3
        have ls : σ.length = σ3.length := by rw [l3, wipe_length]
        have wp : ∀ {ρ4 G4 H4}, Nx B ρ3 G2 σ3 H' ρ4 G4 H4 → Nx B ρ2 G2 (L2.wipe σ vs) H' (wipeE ρ4 vs) G4 H4 := fun {ρ4 G4 H4} n =>
          Nx.wipe ok3 n ls k3' hlen (fun j hj => hbt.out _ _ _ e3 j fun z => hj (hw j z)) (fun j s z => hbt.own _ _ _ e3 j s z) (unof n2)
        have no3 : ¬ Owned ρ3 σ3 Dd := fun ⟨j, d', w1, w2⟩ => by
          have w3 := hbt.own _ _ _ e3 j d' w1
          by_cases hj : j ∈ vs
          · have := unof n2 j _ hj w3; cases this
          · rw [k3' j hj] at w2; exact no2 ⟨j, d', w3, w2⟩
        have step : ∀ {ρ4 G4 H4}, Nx B ρ3 G2 σ3 H' ρ4 G4 H4 → Nx B (wipeE ρ1 vs) G1 (L2.wipe σ vs) (upd H1 Dd (.lst [])) (wipeE ρ4 vs) G4 (upd H4 Dd (.lst [])) ∧ H4 Dd = some (.lst accV) := fun {ρ4 G4 H4} n => by
          have hk := n.keep Dd _ hacc no3
          have w := wp n
          have g4 : G4 Dd = none := by
            cases z : G4 Dd with
            | none => rfl
            | some u =>
              rcases w.gnew Dd u z with y | y | y
              · rw [gD2] at y; cases y
              · rw [hacc] at y; cases y
              · exact (no2 y).elim
          exact ⟨n2.trans (w.reset g4 (n1.ok.h0none hD) no2), hk⟩
        refine tT.mono (runT (P := fun (x : R (List D × En)) (_ : En) (_ : Hp) (_ : Hp) => PR B ρ1 G1 σ H1 Q (x.bind fun q => .ok (.new (.lst q.1), backE ρ1 q.2 vs))) (X := fun p => if p.1 = true then (m p.2).bind fun q => (fz q.1 q.2).bind fun z => if accD.length < 16777216 then lcLoop bt t m vs (ds.drop (i + 1)) (accD ++ [z.1]) (wipeE z.2 vs) else R.stuck else lcLoop bt t m vs (ds.drop (i + 1)) accD (wipeE p.2 vs)) ok3 h2 (fun x _ h => h) (fun e h => PR.err h)) fun b H4 ⟨ρ4, G4, n4, h4⟩ => ?_
        cases b with
        | false =>
          refine iteF ?_
          obtain ⟨s1, s2⟩ := step n4
          exact ⟨_, G4, accV, accD, s2, racc.mono n4.ext, s1, h4⟩
        | true =>
          refine iteT ?_
          have h4 : PR B ρ1 G1 σ H1 Q (((m ρ4).bind fun q => (fz q.1 q.2).bind fun z => if accD.length < 16777216 then lcLoop bt t m vs (ds.drop (i + 1)) (accD ++ [z.1]) (wipeE z.2 vs) else R.stuck).bind fun q => .ok (.new (.lst q.1), backE ρ1 q.2 vs)) := h4
          refine tR.mono (run (P := fun (x : R (List D × En)) (_ : En) (_ : Hp) (_ : Hp) => PR B ρ1 G1 σ H1 Q (x.bind fun q => .ok (.new (.lst q.1), backE ρ1 q.2 vs))) n4.ok h4 (fun x _ h => h) (fun e h => PR.err h)) fun y H5 ⟨r, ρ5, G5, n5, q5, h5⟩ => ?_
          obtain ⟨z, ρ6, e6, h6⟩ := fz_get (P := fun (x : R (List D × En)) => PR B ρ1 G1 σ H1 Q (x.bind fun q => .ok (.new (.lst q.1), backE ρ1 q.2 vs))) h5 id
          obtain ⟨G6, n6, rr⟩ := fz_ok n5.ok q5 e6
          obtain ⟨s1, s2⟩ := step ((n4.trans n5).trans n6)
          have ext6 := (n4.ext.trans n5.ext).trans n6.ext
          dsimp only at h6
          split at h6
          · rename_i hlim
            refine ⟨accV, s2, by rw [(racc.mono ext6).length, sizeLine_eq]; exact hlim, ?_⟩
            exact ⟨_, G6, accV ++ [y], accD ++ [z], upd_same, (racc.mono ext6).append (.cons rr .nil), by rw [upd_upd]; exact s1, h6⟩
          · exact h6.elim
theorem te_lc (hbt : BtOk ws bt) (hw : ∀ j ∈ ws, j ∈ own.map (·.2)) (hc : X.calm = true) (hN : X.N.Nodup) (hi : PI X tg iter (iS B it)) (ok : BlkOk X.N X.env.scope scope own)
    (hg : ∀ (s : Shared) (H : Hp) (C : Addr) (cl : List (Str × Addr)) (fp : List Addr), PG (X.blk s H scope (compEnvC scope cl C X.env) fp) tg (gB B ws bt)) (ht : ∀ (s : Shared) (H : Hp) (C : Addr) (cl : List (Str × Addr)) (fp : List Addr), PTs (X.blk s H scope (compEnvC scope cl C X.env) fp) ifs (tT B t))
    (he : ∀ (s : Shared) (H : Hp) (C : Addr) (cl : List (Str × Addr)) (fp : List Addr), PE (X.blk s H scope (compEnvC scope cl C X.env) fp) elt (tR B m)) (hs : ∀ x, foldedSetIterable iter X.env x = pure x := by intro _; rfl) :
    PE X (.ListComp elt [⟨tg, iter, ifs, 0⟩] scope pos) (tR B (eLc it bt t m (own.map (·.2)))) := PE.imp (pe_lc hc hN hi ok hg ht he hs) fun σ H Q h => lc_read hbt hw h
theorem ts_setLc {i : Nat} {y : Str} {py spos : Pos} (hbt : BtOk ws bt) (hw : ∀ j ∈ ws, j ∈ own.map (·.2)) (hc : X.calm = true) (hN : X.N.Nodup) (hy : X.N[i]? = some y) (hyl : X.env.scope.names.lookup y = some .local)
    (hsw : swapsWith (.ListComp elt [⟨tg, iter, ifs, 0⟩] scope pos) (some (.Name y py)) spos.line X.env = pure true) (hi : PI X tg iter (iS B it)) (ok : BlkOk X.N X.env.scope scope own)
    (hg : ∀ (s : Shared) (H : Hp) (C : Addr) (cl : List (Str × Addr)) (fp : List Addr), PG (X.blk s H scope (compEnvC scope cl C X.env) fp) tg (gB B ws bt)) (ht : ∀ (s : Shared) (H : Hp) (C : Addr) (cl : List (Str × Addr)) (fp : List Addr), PTs (X.blk s H scope (compEnvC scope cl C X.env) fp) ifs (tT B t))
    (he : ∀ (s : Shared) (H : Hp) (C : Addr) (cl : List (Str × Addr)) (fp : List Addr), PE (X.blk s H scope (compEnvC scope cl C X.env) fp) elt (tR B m)) (hs : ∀ x, foldedSetIterable iter X.env x = pure x := by intro _; rfl) :
    PS X (.Assign [.Name y py] (.ListComp elt [⟨tg, iter, ifs, 0⟩] scope pos) spos) (tS B (sSet i (eLc it bt t m (own.map (·.2))))) := PS.imp (ps_setLc hc hN hy hyl hsw hi ok hg ht he hs) fun E σ H h => by
  refine lc_read hbt hw ?_
  obtain ⟨ρ, G, ok, h⟩ := h
  refine tR.mono (runSN ok h) fun x H1 ⟨r, ρ1, G1, n1, q1, f, h1⟩ => ?_
  obtain ⟨ρ2, e2, h2⟩ := put_get h1
  obtain ⟨G2, s2, ok2⟩ := put_ok n1.ok q1 e2
  exact h2 _ G2 H1 s2 ok2
end
theorem bto_name {i : Nat} : BtOk [i] (bName i) := by
  refine ⟨bt_name, fun d ρ ρ' e => ?_, fun d ρ ρ' e j hj => ?_, fun d ρ ρ' e j s hs => ?_⟩
  · unfold bName at e; split at e <;> cases e; simp
  · unfold bName at e; split at e <;> cases e
    rw [List.getElem?_set_ne (by simpa using fun z => hj (by simp [z]))]
  · unfold bName at e; split at e <;> cases e
    rename_i hi
    by_cases z : i = j
    · subst z; rw [List.getElem?_set_self hi] at hs; cases hs
    · rw [List.getElem?_set_ne z] at hs; exact hs
end T
namespace T
open PySem PySem.Spec PyProof.Rows L2

/-! ### defs of the text, their calls, the end -/
structure Def (K : PySem.W.Frag) (mg : Str → Option Value) (x : Str) (st : Stmt) (ps : List Str) : Prop where
  ex : ∃ f fd, Fun K x x st f fd ∧ mg x = some (.ref f) ∧ ∀ us : List Value, us.length = ps.length → bindArgs fd ⟨us, []⟩ = pure (ps.zip us)
structure Cal (P : Program) (w : World) (K : PySem.W.Frag) (mg : Str → Option Value) (base : Heap) (x : Str) (k n : Nat) (m : List D → R Rs) : Prop where
  ex : ∃ f fd ps, FnOk P w K mg base CX0 k f fd ps (spM ⟨K, mg⟩ false n m) ∧ mg x = some (.ref f) ∧ PySem.W.keepIn K (.ref f) = true ∧ Binds K fd ps []
section
variable {P : Program} {w : World} {K : PySem.W.Frag} {mg : Str → Option Value} {base : Heap} {x : Str} {st : Stmt} {ps N : List Str}
theorem def_mk {h : Heap} (X : K.In h) (G : h.Ns mainGlobals mg) {f : Addr} {oc : Value} {od an : Option Addr} {osl : Array (Option Value)} {kV doc pm cdv ct : Value} (a : PySem.W.nsIn K mainGlobals x = some (some (.ref f)))
    (l : K.lookup f = some ⟨oc, od, .func (PySem.W.fnOf x x (defArgs st) (defBody st) (defScope st) .none kV doc pm an cdv ct), osl⟩)
    (c : PySem.W.codeIn K cdv x = true) (k : PySem.W.keepIn K (.ref f) = true)
    (hb : ∀ (kV doc pm : Value) (an : Option Addr) (cdv ct : Value) (us : List Value), us.length = ps.length → bindArgs (PySem.W.fnOf x x (defArgs st) (defBody st) (defScope st) .none kV doc pm an cdv ct) ⟨us, []⟩ = pure (ps.zip us)) : Def K mg x st ps :=
  have F := fun_mk (x := x) (qual := x) (st := st) l c k
  ⟨⟨f, _, F, PySem.W.mg_of X G a, hb kV doc pm an cdv ct⟩⟩
/-- a body's mirror -/
def BodyOk (P : Program) (w : World) (K : PySem.W.Frag) (mg : Str → Option Value) (base : Heap) (x : Str) (st : Stmt) (N : List Str) (k : Nat) (b : Sm) : Prop :=
  ∀ (f : Addr) (cdv : Value) (A : Around) (outer : List PySem.Env) (s : Shared) (H : Hp) (B : Bs) (E : XK), Room k (A.deeper (envOfC x (defScope st) s.heap.objs.size f cdv)) → B.W = ⟨K, mg⟩ →
      PSs (cxOf CX0 P w K mg base N x (defScope st) f cdv A outer s H E).nox (defBody st) (tS B b)
theorem cal_mk {k n : Nat} {b : Sm} (d : Def K mg x st ps) (S : FnScope N ps (defScope st)) (hn : ps.length = n) (hb : BodyOk P w K mg base x st N k b) : Cal P w K mg base x (k + 1) n (fnM N.length b) := by
  obtain ⟨f, fd, F, m, bd⟩ := d.ex
  exact ⟨⟨f, fd, ps, fn_ok F S hn (hb f), m, F.kp, .all bd⟩⟩
end
section
variable {X : Cx} {B : Bs} {x : Str} {k j n : Nat} {m : List D → R Rs} {e : Expr} {es : List Expr} {ms : M (List Rs)} {p pos : Pos}
/-- a call of a def of the text -/
theorem te_fn (c : Cal X.prog X.w X.K X.mg X.base x k n m) (hW : B.W = ⟨X.K, X.mg⟩) (hr : Room j X.A) (hk : k ≤ j) (hl : Len n ms) (ha : PA X (e :: es) (tA B ms))
    (hg : Gl X x := by rfl) (hdb : (x == ("__debug__" : Str)) = false := by decide) (he : starEach (e :: es) X.env = (false, eval e X.env) :: starEach es X.env := by rfl) (hpl : (backTo pos (starEach es X.env)).any (·.1) = false := by rfl) :
    PE X (.Call (.Name x p) (e :: es) [] pos) (tR B (eCall (fun ds => noexc (m ds)) ms)) := by
  obtain ⟨f, fd, ps, F, hm, kp, hb⟩ := c.ex
  exact te_call (by rw [hW]; exact F) (hr.mono hk) hm kp hb hl ha hg hdb he hpl
end
def spLaw (K : PySem.W.Frag) : Sp := fun vs H Q _ => ∃ (a : Addr) (ns : List Int), vs = [.ref a] ∧ SqL K H a (ns.map V.int) ∧ ns.length ≤ 63 ∧ ∀ H', Q (.bl true) H'
theorem law_sp {K : PySem.W.Frag} {mg : Str → Option Value} {m : List D → R Rs} (h : ∀ ns : List Int, ns.length ≤ 63 → m [.scr ns] = .ok (.val (.bl true))) (vs : List V) (H : Hp) (Q : VK) (E : XK) (s : spLaw K vs H Q E) : spM ⟨K, mg⟩ false 1 m vs H Q E := by
  obtain ⟨a, ns, rfl, hs, hl, k⟩ := s
  refine ⟨H, [.scr ns], rfl, Same.refl _, .cons (.scr hs) .nil, ?_⟩
  rw [h ns hl]
  intro v G' H' _ _ _ _ r
  cases r
  exact k H'
theorem walk_law {l : PySem.W.OpenLaw} {q : Program} {loose : List Str} {XP : (Str → Option Value) → Heap → Prop} {YP : World → Heap → Prop} {d : DefRec} {K : Params → PySem.W.Frag} {k : Nat} {b : Sm} {N : List Str} {st : Stmt} (hn : l.most = some 63) (hdf : d.params.defaults = []) (hd : d.name = ("law" : Str))
    (hr : Room (k + 1) callerA) (hY : ∀ (w : World) (h : Heap), YP w h → (K w.params).In h) (S : FnScope N ["_law_script"] (defScope st)) (hm : ∀ ns : List Int, ns.length ≤ 63 → fnM N.length b [.scr ns] = .ok (.val (.bl true)))
    (F : ∀ (w : World) (mg : Str → Option Value) (h : Heap), (K w.params).In h → h.Ns mainGlobals mg →
      Def (K w.params) mg "law" st ["_law_script"] ∧ ∀ base : Heap, BodyOk l.prog w (K w.params) mg base "law" st N k b) :
    PySem.W.WalkO q loose XP YP l.row.toRowW d [] (fun f vs => PySem.call f vs) := by
  refine L2.walk_ofK (x := "_law_script") (CX := CX0) (sp := spLaw) hn (by decide) hdf hr hY (fun w mg fa h KX G hmg => ?_) (fun K H a ns hl _ hS => ⟨a, ns, rfl, hS, hl, fun _ => rfl⟩) fun _ _ _ _ z => z
  obtain ⟨⟨f, fd, Fn, m, bd⟩, FB⟩ := F w mg h KX G
  rw [hd, m] at hmg
  cases hmg
  exact ⟨fd, fun s u => .of_eq (bd [u] rfl), fun base _ _ => (fn_ok Fn S rfl (FB base fa)).imp (law_sp hm)⟩
end T
namespace T
open PySem PySem.Spec PyProof.Rows L2
section
variable {X : Cx} {B : Bs}
/-! ### in, not in; += -/
def D.flatS : D → Bool
  | .non => true
  | .bl _ => true
  | .int _ => true
  | .str _ => true
  | _ => false
def eqS : D → D → Bool
  | .non, .non => true
  | .bl a, .bl b => a == b
  | .bl a, .int b => (if a then 1 else 0) == b
  | .int a, .bl b => a == (if b then 1 else 0)
  | .int a, .int b => a == b
  | .str a, .str b => a == b
  | _, _ => false
def inS (x : D) (ds : List D) : Bool := ds.any fun y => eqS y x
def dIn : D → D → R Rs
  | x, .lst ds => if x.flatS = true ∧ ds.all D.flatS = true then .ok (.val (.bl (inS x ds))) else R.stuck
  | x, .tup ds => if x.flatS = true ∧ ds.all D.flatS = true then .ok (.val (.bl (inS x ds))) else R.stuck
  | .str a, .str b => .ok (.val (.bl (!(Builtin.Str.occurrences b a 0 b.length 1).isEmpty)))
  | _, _ => R.stuck
def dNin (a b : D) : R Rs := match dIn a b with
  | .ok (.val (.bl k)) => .ok (.val (.bl (!k)))
  | _ => R.stuck
theorem flatS_rep {W : Wd} {G : Hp} {v : V} {d : D} (r : Rep W G v d) (f : d.flatS = true) : flatV v = true := by cases r <;> first | rfl | cases f
theorem eqS_rep {W : Wd} {G : Hp} {v u : V} {d e : D} (r : Rep W G v d) (q : Rep W G u e) (f : d.flatS = true) (g : e.flatS = true) : eqV v u = eqS d e := by
  cases r <;> first | (cases f; done) | (cases q <;> first | rfl | (cases g; done))
theorem PkOk.flat_rep {G H : Hp} {v : V} {d : D} (h : PkOk B G H v d) (f : d.flatS = true) : Rep B.W G v d := by
  rcases h with h | ⟨p, rfl, _, _, b⟩
  · exact h
  · rcases b with ⟨_, _, rfl, _⟩ | ⟨_, _, rfl, _⟩ <;> cases f
theorem inS_rep {W : Wd} {G : Hp} {x : V} {dx : D} (rx : Rep W G x dx) (fx : dx.flatS = true) : ∀ {vs : List V} {ds : List D}, Reps W G vs ds → ds.all D.flatS = true → inV x vs = inS dx ds ∧ vs.all flatV = true
  | _, _, .nil, _ => ⟨rfl, rfl⟩
  | _, _, .cons r t, f => by
    rw [List.all_cons, Bool.and_eq_true] at f
    obtain ⟨i1, i2⟩ := inS_rep rx fx t f.2
    unfold inV at i1 ⊢
    unfold inS at i1 ⊢
    rw [List.any_cons, List.any_cons, eqS_rep r rx f.1 fx, i1, List.all_cons, flatS_rep r f.1, i2]
    exact ⟨rfl, rfl⟩
abbrev rInA (K : PySem.W.Frag) (neg : Bool) : R2 := fun x y H Q => rIn K neg x y H Q ∨ ∃ i j, x = .str i ∧ y = .str j ∧ Q (.bl (if neg then !(!(Builtin.Str.occurrences j i 0 j.length 1).isEmpty) else !(Builtin.Str.occurrences j i 0 j.length 1).isEmpty)) H
theorem op_inA : OpR X (compareOp .In) (rInA X.K false) := op_in_seq.or op_in_str
theorem op_ninA : OpR X (compareOp .NotIn) (rInA X.K true) := op_notIn_seq.or op_notIn_str
theorem in_ok {neg : Bool} (hW : B.W.K = X.K) {σ : L2.St} {ρ : En} {G H : Hp} {x y : V} {d1 d2 : D} {Q : VK} (ok : Ok B ρ G σ H) (p1 : PkOk B G H x d1) (p2 : PkOk B G H y d2) (k : Bool) (e : dIn d1 d2 = .ok (.val (.bl k))) (q : Q (.bl (if neg then !k else k)) H) : rInA X.K neg x y H Q := by
  unfold dIn at e
  split at e
  · split at e
    · rename_i h
      cases e
      obtain ⟨a, vs, rfl, ha, ra⟩ := p2.lst_of ok
      have r1 := p1.flat_rep h.1
      obtain ⟨i1, i2⟩ := inS_rep r1 h.1 ra h.2
      exact .inl ⟨a, vs, rfl, .inl (SqL.of ha), flatS_rep r1 h.1, i2, by rw [i1]; exact q⟩
    · cases e
  · split at e
    · rename_i h
      cases e
      obtain ⟨a, vs, rfl, ha, ra⟩ := p2.tup_of ok
      have r1 := p1.flat_rep h.1
      obtain ⟨i1, i2⟩ := inS_rep r1 h.1 ra h.2
      exact .inl ⟨a, vs, rfl, .inr (SqT.of ha), flatS_rep r1 h.1, i2, by rw [i1]; exact q⟩
    · cases e
  · cases e
    exact .inr ⟨_, _, p1.str_of, p2.str_of, q⟩
  · cases e
theorem on_in : OnlyB dIn := fun d1 d2 => by
  unfold dIn
  split
  · split
    · exact .inr ⟨_, rfl⟩
    · exact .inl rfl
  · split
    · exact .inr ⟨_, rfl⟩
    · exact .inl rfl
  · exact .inr ⟨_, rfl⟩
  · exact .inl rfl
theorem on_nin : OnlyB dNin := fun d1 d2 => by
  unfold dNin
  rcases on_in d1 d2 with e | ⟨k, e⟩
  · rw [e]; exact .inl rfl
  · rw [e]; exact .inr ⟨_, rfl⟩
theorem oB_in (hW : B.W.K = X.K) : OpB B (rInA X.K false) dIn := fun ok p1 p2 k e q => in_ok (neg := false) hW ok p1 p2 k e q
theorem oB_nin (hW : B.W.K = X.K) : OpB B (rInA X.K true) dNin := fun {σ ρ G H x y d1 d2 Q} ok p1 p2 k e q => by
  unfold dNin at e
  rcases on_in d1 d2 with e1 | ⟨k1, e1⟩
  · rw [e1] at e; cases e
  · rw [e1] at e; cases e
    exact in_ok (neg := true) hW ok p1 p2 k1 e1 q
abbrev rAddI : R2 := fun x y H Q => rI0 (fun i j => .int (i + j)) x y H Q ∨ (∃ i j, x = .str i ∧ y = .str j ∧ i.length + j.length ≤ sizeLine ∧ Q (.str (i ++ j)) H)
theorem iop_addA : OpR X (inplaceOp .Add) rAddI := iop_add.or iop_add_str
end
/-- += of ints and texts alone -/
@[simp] def dAddI : D → D → R Rs
  | .int i, .int j => .ok (.val (.int (i + j)))
  | .str a, .str b => if a.length + b.length ≤ 16777216 then .ok (.val (.str (a ++ b))) else R.stuck
  | _, _ => R.stuck
theorem o2_addI {B : Bs} : Op2 B rAddI dAddI := by
  intro σ ρ G H x y d1 d2 Q ok p1 p2 q
  unfold dAddI at q
  split at q
  · exact .inl ⟨_, _, p1.int_of, p2.int_of, pr_val ok (.int _) q⟩
  · split at q
    · rename_i h
      exact .inr ⟨_, _, p1.str_of, p2.str_of, by rw [sizeLine_eq]; exact h, pr_val ok (.str _) q⟩
    · exact q.elim
  · exact q.elim
theorem o2_mulI {B : Bs} : Op2 B (rI CMul fun i j => .int (i * j)) (fun a b => match a, b with | .int i, .int j => dMul (.int i) (.int j) | _, _ => R.stuck) := by
  intro σ ρ G H x y d1 d2 Q ok p1 p2 q
  dsimp only at q
  split at q
  · unfold dMul at q
    dsimp only at q
    split at q
    · rename_i h
      exact ⟨_, _, p1.int_of, p2.int_of, h, pr_val ok (.int _) q⟩
    · exact q.elim
  · exact q.elim
structure BtsOk (ws : List Nat) (bt : List D → En → R En) : Prop where
  st : ∀ d ρ e, bt d ρ = .err e → e = .stuck
  len : ∀ d ρ ρ', bt d ρ = .ok ρ' → ρ'.length = ρ.length
  out : ∀ d ρ ρ', bt d ρ = .ok ρ' → ∀ (j : Nat), j ∉ ws → ρ'[j]? = ρ[j]?
  own : ∀ d ρ ρ', bt d ρ = .ok ρ' → ∀ (j : Nat) s, ρ'[j]? = some (.own s) → ρ[j]? = some (.own s)
theorem bNil_ok {ds : List D} {ρ ρ' : En} (e : bNil ds ρ = .ok ρ') : ρ' = ρ := by cases ds <;> cases e; rfl
theorem btos_nil : BtsOk [] bNil :=
  ⟨bts_nil, fun d ρ ρ' e => by rw [bNil_ok e], fun d ρ ρ' e j _ => by rw [bNil_ok e], fun d ρ ρ' e j s h => by rw [bNil_ok e] at h; exact h⟩
theorem bCons_ok {b : D → En → R En} {bs : List D → En → R En} {ds : List D} {ρ ρ' : En} (e : bCons b bs ds ρ = .ok ρ') : ∃ d r ρ1, ds = d :: r ∧ b d ρ = .ok ρ1 ∧ bs r ρ1 = .ok ρ' := by
  cases ds with
  | nil => cases e
  | cons d r =>
    have e : (b d ρ).bind (fun ρ1 => bs r ρ1) = .ok ρ' := e
    cases e1 : b d ρ with
    | err y => rw [e1] at e; cases e
    | ok ρ1 => rw [e1] at e; exact ⟨d, r, ρ1, rfl, e1, e⟩
theorem btos_cons {w ws : List Nat} {b : D → En → R En} {bs : List D → En → R En} (h1 : BtOk w b) (h2 : BtsOk ws bs) : BtsOk (w ++ ws) (bCons b bs) := by
  refine ⟨bts_cons h1.st h2.st, fun d ρ ρ' e => ?_, fun d ρ ρ' e j hj => ?_, fun d ρ ρ' e j s h => ?_⟩
  · obtain ⟨d, r, ρ1, rfl, e1, e2⟩ := bCons_ok e
    rw [h2.len _ _ _ e2, h1.len _ _ _ e1]
  · obtain ⟨d, r, ρ1, rfl, e1, e2⟩ := bCons_ok e
    rw [List.mem_append, not_or] at hj
    rw [h2.out _ _ _ e2 j hj.2, h1.out _ _ _ e1 j hj.1]
  · obtain ⟨d, r, ρ1, rfl, e1, e2⟩ := bCons_ok e
    exact h1.own _ _ _ e1 j s (h2.own _ _ _ e2 j s h)
theorem bTup_ok {bs : List D → En → R En} {d : D} {ρ ρ' : En} (e : bTup bs d ρ = .ok ρ') : ∃ xs, bs xs ρ = .ok ρ' := by
  unfold bTup at e
  split at e
  · exact ⟨_, e⟩
  · cases e
theorem bto_tup {ws : List Nat} {bs : List D → En → R En} (h : BtsOk ws bs) : BtOk ws (bTup bs) :=
  ⟨bt_tup h.st, fun d ρ ρ' e => let ⟨_, e⟩ := bTup_ok e; h.len _ _ _ e, fun d ρ ρ' e => let ⟨_, e⟩ := bTup_ok e; h.out _ _ _ e, fun d ρ ρ' e => let ⟨_, e⟩ := bTup_ok e; h.own _ _ _ e⟩
end T
namespace T
open PySem
/-! ### reckoning with mirrors -/
@[simp] theorem kit_int_int : L2.kitB "int" "int" = some true := by decide +kernel
@[simp] theorem kit_int_bool : L2.kitB "int" "bool" = some false := by decide +kernel
@[simp] theorem kit_bool_int : L2.kitB "bool" "int" = some true := by decide +kernel
@[simp] theorem kit_bool_bool : L2.kitB "bool" "bool" = some true := by decide +kernel
@[simp] theorem kit_list_list : L2.kitB "list" "list" = some true := by decide +kernel
@[simp] theorem kit_tuple_list : L2.kitB "tuple" "list" = some false := by decide +kernel
@[simp] theorem kit_tuple_tuple : L2.kitB "tuple" "tuple" = some true := by decide +kernel
@[simp] theorem kit_list_tuple : L2.kitB "list" "tuple" = some false := by decide +kernel
@[simp] theorem kit_str_str : L2.kitB "str" "str" = some true := by decide +kernel
@[simp] theorem kit_none_int : L2.kitB "NoneType" "int" = some false := by decide +kernel
/-- a for whose states are told: inv i is the state ahead of turn i -/
theorem loop_inv {bt : D → En → R En} {b : Sm} : ∀ {ds : List D} (inv : Nat → En) (h : ∀ (i : Nat) d, ds[i]? = some d → ∃ ρ1, bt d (inv i) = .ok ρ1 ∧ (b ρ1 = .ok (.next, inv (i + 1)) ∨ b ρ1 = .ok (.cont, inv (i + 1)))), loop bt b ds (inv 0) = .ok (.next, inv ds.length)
  | [], inv, h => rfl
  | d :: ds, inv, h => by
    obtain ⟨ρ1, e1, e2⟩ := h 0 d rfl
    have ih := loop_inv (ds := ds) (fun i => inv (i + 1)) fun i d' e => h (i + 1) d' (by simpa using e)
    rw [loop, e1, R.bind_ok]
    rcases e2 with e2 | e2 <;> (rw [e2, R.bind_ok]; exact ih)
/-- a for, its states told by a property -/
theorem loop_P {bt : D → En → R En} {b : Sm} : ∀ {ds : List D} (P : Nat → En → Prop) {ρ0 : En} (h0 : P 0 ρ0)
    (h : ∀ (i : Nat) d ρ, ds[i]? = some d → P i ρ → ∃ ρ1 ρ2, bt d ρ = .ok ρ1 ∧ (b ρ1 = .ok (.next, ρ2) ∨ b ρ1 = .ok (.cont, ρ2)) ∧ P (i + 1) ρ2), ∃ ρ', loop bt b ds ρ0 = .ok (.next, ρ') ∧ P ds.length ρ'
  | [], P, ρ0, h0, h => ⟨ρ0, rfl, h0⟩
  | d :: ds, P, ρ0, h0, h => by
    obtain ⟨ρ1, ρ2, e1, e2, h1⟩ := h 0 d ρ0 rfl h0
    obtain ⟨ρ', e, hp⟩ := loop_P (ds := ds) (fun i => P (i + 1)) h1 fun i d' ρ e p => h (i + 1) d' ρ (by simpa using e) p
    refine ⟨ρ', ?_, hp⟩
    rw [loop, e1, R.bind_ok]
    rcases e2 with e2 | e2 <;> (rw [e2, R.bind_ok]; exact e)
/-- a run ends well, with what is wanted -/
def Ends {α : Type} (x : R α) (P : α → Prop) : Prop := ∃ a, x = .ok a ∧ P a
section
variable {α β : Type} {P : α → Prop}
@[simp] theorem Ends_ok {a : α} : Ends (.ok a) P ↔ P a := ⟨fun ⟨_, e, p⟩ => (by cases e; exact p), fun p => ⟨a, rfl, p⟩⟩
@[simp] theorem Ends_err {e : Ex} : Ends (.err e : R α) P ↔ False := ⟨fun ⟨_, e, _⟩ => (by cases e), False.elim⟩
@[simp] theorem Ends_bind {x : R β} {f : β → R α} : Ends (x.bind f) P ↔ Ends x fun a => Ends (f a) P := by
  cases x with
  | ok a => simp
  | err e => simp
@[simp] theorem Ends_ite {c : Prop} [Decidable c] {x y : R α} : Ends (if c then x else y) P ↔ if c then Ends x P else Ends y P := by
  split <;> rfl
theorem Ends.mono {x : R α} {Q : α → Prop} (h : Ends x P) (w : ∀ a, P a → Q a) : Ends x Q := let ⟨a, e, p⟩ := h; ⟨a, e, w a p⟩
theorem Ends.eq {x : R α} {a : α} (h : Ends x fun b => b = a) : x = .ok a := let ⟨b, e, p⟩ := h; by rw [e, p]
end
def LoopK (P : Nat → En → Prop) (i : Nat) (K : Fl × En → Prop) (q : Fl × En) : Prop := match q.1 with
  | .next => P (i + 1) q.2
  | .cont => P (i + 1) q.2
  | .brk => K (.next, q.2)
  | .ret r => K (.ret r, q.2)
@[simp] theorem LoopK_next {P i K ρ} : LoopK P i K (.next, ρ) ↔ P (i + 1) ρ := Iff.rfl
@[simp] theorem LoopK_cont {P i K ρ} : LoopK P i K (.cont, ρ) ↔ P (i + 1) ρ := Iff.rfl
@[simp] theorem LoopK_brk {P i K ρ} : LoopK P i K (.brk, ρ) ↔ K (.next, ρ) := Iff.rfl
@[simp] theorem LoopK_ret {P i K ρ r} : LoopK P i K (.ret r, ρ) ↔ K (.ret r, ρ) := Iff.rfl
theorem loop_E {bt : D → En → R En} {b : Sm} {K : Fl × En → Prop} : ∀ {ds : List D} (P : Nat → En → Prop) {ρ0 : En} (_ : P 0 ρ0)
    (_ : ∀ (i : Nat) d ρ, ds[i]? = some d → P i ρ → Ends (bt d ρ) fun ρ1 => Ends (b ρ1) (LoopK P i K)) (_ : ∀ ρ, P ds.length ρ → K (.next, ρ)), Ends (loop bt b ds ρ0) K
  | [], P, ρ0, h0, h, hd => ⟨_, rfl, hd _ h0⟩
  | d :: ds, P, ρ0, h0, h, hd => by
    obtain ⟨ρ1, e1, ⟨f, ρ2⟩, e2, h1⟩ := h 0 d ρ0 rfl h0
    rw [loop, e1, R.bind_ok, e2, R.bind_ok]
    have rec_ : P 1 ρ2 → Ends (loop bt b ds ρ2) K := fun p => loop_E (ds := ds) (fun i => P (i + 1)) p (fun i d' ρ e p => (h (i + 1) d' ρ (by simpa using e) p).mono fun ρ1 q => q.mono fun q r => r) hd
    cases f with
    | next => exact rec_ h1
    | cont => exact rec_ h1
    | brk => exact ⟨_, rfl, h1⟩
    | ret r => exact ⟨_, rfl, h1⟩
/-- over ints -/
theorem loop_I {bt : D → En → R En} {b : Sm} {K : Fl × En → Prop} {ns : List Int} (P : Nat → En → Prop) {ρ0 : En} (h0 : P 0 ρ0)
    (h : ∀ (i : Nat) n ρ, ns[i]? = some n → P i ρ → Ends (bt (.int n) ρ) fun ρ1 => Ends (b ρ1) (LoopK P i K)) (hd : ∀ ρ, P ns.length ρ → K (.next, ρ)) : Ends (loop bt b (ns.map .int) ρ0) K :=
  loop_E P h0 (fun i d ρ e p => by
    rw [List.getElem?_map] at e
    cases q : ns[i]? with
    | none => rw [q] at e; cases e
    | some n => rw [q] at e; cases e; exact h i n ρ q p) fun ρ p => hd ρ (by simpa using p)
theorem loop_R {bt : D → En → R En} {b : Sm} {K : Fl × En → Prop} {lo hi : Int} (P : Nat → En → Prop) {ρ0 : En} (h0 : P 0 ρ0)
    (h : ∀ (i : Nat) ρ, i < (hi - lo).toNat → P i ρ → Ends (bt (.int (lo + (i : Int))) ρ) fun ρ1 => Ends (b ρ1) (LoopK P i K)) (hd : ∀ ρ, P (hi - lo).toNat ρ → K (.next, ρ)) : Ends (loop bt b (rng lo hi) ρ0) K := by
  unfold rng
  refine loop_E P h0 (fun i d ρ e p => ?_) fun ρ p => hd ρ (by simpa using p)
  rw [List.getElem?_map] at e
  by_cases hi' : i < (hi - lo).toNat
  · rw [List.getElem?_range hi'] at e; cases e; exact h i ρ hi' p
  · rw [List.getElem?_eq_none (by simpa using Nat.le_of_not_lt hi')] at e; cases e
end T
namespace T
open PySem PySem.Spec PyProof.Rows L2
/-! ### raise that is never come to; divmod -/
@[simp] def sNever : Sm := fun _ => R.stuck
theorem ts_never {X : Cx} {B : Bs} {st : Stmt} : PS X st (tS B sNever) := PS.imp ps_never fun E σ H h => by
  obtain ⟨ρ, G, ok, h⟩ := h
  exact h
theorem call_divmodX {X : Cx} : CallR X (.builtin "divmod") (fun xs H Q => ∃ i j, xs = [.int i, .int j] ∧ (j ≠ 0 ∧ j.natAbs < 2 ^ 128) ∧ ∀ p, H p = none → Q (.ref p) (upd H p (.tup [.int (i.fdiv j), .int (i.fmod j)]))) := by
  intro pins s σ H xs us Q I r h
  obtain ⟨i, j, rfl, ⟨h1, h2⟩, q⟩ := h
  obtain ⟨u, w', rfl, ⟨t, rfl⟩, ⟨t', rfl⟩⟩ := vals2 r
  refine divmod_int h1 ?_ (.inl (PyProof.noPylong_of_log2 (Nat.lt_of_lt_of_le (PySem.Flt.log2_lt_of (by decide) h2) (by decide))))
  have hn : H s.heap.objs.size = none := I.hok.fresh (Nat.le_refl _)
  refine ⟨.ref s.heap.objs.size, _, ?_, rfl, q _ hn⟩
  refine I.laid (fun b o e => Heap.get?_push_of_some _ e) (Nat.le_refl _) ⟨by simp only [List.length_cons, List.length_nil]; rw [sizeLine_eq]; decide, [.int (i.fdiv j) s.toks, .int (i.fmod j) (s.toks + 1)], .cons ⟨_, rfl⟩ (.cons ⟨_, rfl⟩ .nil), ?_⟩
  exact ⟨_, Heap.get?_push_size s.heap rfl, rfl, 0, rfl⟩
@[simp] def dDivmod : List D → R Rs
  | [.int i, .int j] => if 0 < j ∧ j < 340282366920938463463374607431768211456 then .ok (.val (.tup [.int (i / j), .int (i % j)])) else
      if j < 0 ∧ -340282366920938463463374607431768211456 < j then .ok (.val (.tup [.int (i.fdiv j), .int (i.fmod j)])) else R.stuck
  | _ => R.stuck
theorem c_divmod {B : Bs} : CallS B (fun xs H Q => ∃ i j, xs = [.int i, .int j] ∧ (j ≠ 0 ∧ j.natAbs < 2 ^ 128) ∧ ∀ p, H p = none → Q (.ref p) (upd H p (.tup [.int (i.fdiv j), .int (i.fmod j)]))) dDivmod := by
  intro σ ρ G H vs ds Q ok p q
  unfold dDivmod at q
  split at q
  · obtain ⟨v, w, rfl, p1, p2⟩ := p.two
    cases p1.int_of
    cases p2.int_of
    rename_i i j
    refine ⟨i, j, rfl, ?_⟩
    split at q
    · rename_i h
      refine ⟨⟨by omega, by omega⟩, ?_⟩
      rw [Int.fdiv_eq_ediv_of_nonneg i (by omega), Int.fmod_eq_emod_of_nonneg i (by omega)]
      exact new_tup ok (.cons (.int _) (.cons (.int _) .nil)) q
    · split at q
      · rename_i h
        exact ⟨⟨by omega, by omega⟩, new_tup ok (.cons (.int _) (.cons (.int _) .nil)) q⟩
      · exact q.elim
  · exact q.elim
/-! ### list comprehensions, reckoned -/
theorem lc_E {bt : D → En → R En} {m : M Rs} {vs : List Nat} {K : List D × En → Prop} {ρ : En} : ∀ {ds acc : List D} (gs : List D) (_ : gs.length = ds.length) (_ : acc.length + ds.length ≤ 16777216)
    (_ : ∀ (i : Nat) d g, ds[i]? = some d → gs[i]? = some g → Ends (bt d ρ) fun ρ1 => Ends (m ρ1) fun q => Ends (fz q.1 q.2) fun z => z.1 = g ∧ wipeE z.2 vs = ρ) (_ : K (acc ++ gs, ρ)), Ends (lcLoop bt tYesM m vs ds acc ρ) K
  | [], acc, [], _, _, _, k => ⟨_, rfl, by simpa using k⟩
  | [], acc, _ :: _, h, _, _, k => by cases h
  | _ :: _, acc, [], h, _, _, k => by cases h
  | d :: ds, acc, g :: gs, hl, ha, h, k => by
    obtain ⟨ρ1, e1, q, e2, z, e3, hz, hw⟩ := h 0 d g rfl rfl
    rw [List.length_cons] at ha
    rw [lcLoop, e1, R.bind_ok]
    show Ends ((R.ok (true, ρ1)).bind _) K
    rw [R.bind_ok, if_pos rfl, e2, R.bind_ok, e3, R.bind_ok, if_pos (by omega), hw, hz]
    exact lc_E (acc := acc ++ [g]) gs (by simpa using hl) (by rw [List.length_append, List.length_singleton]; omega) (fun i d' g' a b => h (i + 1) d' g' (by simpa using a) (by simpa using b)) (by simpa using k)
/-- ints from ints -/
theorem lc_I {bt : D → En → R En} {m : M Rs} {vs : List Nat} {K : List D × En → Prop} {ρ : En} {ns : List Int} (f : Int → D) (hl : ns.length ≤ 16777216)
    (h : ∀ n ∈ ns, Ends (bt (.int n) ρ) fun ρ1 => Ends (m ρ1) fun q => Ends (fz q.1 q.2) fun z => z.1 = f n ∧ wipeE z.2 vs = ρ) (k : K (ns.map f, ρ)) : Ends (lcLoop bt tYesM m vs (ns.map .int) [] ρ) K := by
  refine lc_E (ns.map f) (by simp) (by simpa using hl) (fun i d g a b => ?_) (by simpa using k)
  rw [List.getElem?_map] at a b
  cases q : ns[i]? with
  | none => rw [q] at a; cases a
  | some n => rw [q] at a b; cases a; cases b; exact h n (List.mem_of_getElem? q)
/-- over a range from 0 -/
theorem lc_R {bt : D → En → R En} {m : M Rs} {vs : List Nat} {K : List D × En → Prop} {ρ : En} {n : Int} (f : Nat → D) (hl : n.toNat ≤ 16777216)
    (h : ∀ i : Nat, i < n.toNat → Ends (bt (.int (i : Int)) ρ) fun ρ1 => Ends (m ρ1) fun q => Ends (fz q.1 q.2) fun z => z.1 = f i ∧ wipeE z.2 vs = ρ) (k : K ((List.range n.toNat).map f, ρ)) : Ends (lcLoop bt tYesM m vs (rng 0 n) [] ρ) K := by
  unfold rng
  rw [Int.sub_zero]
  refine lc_E ((List.range n.toNat).map f) (by simp) (by simpa using hl) (fun i d g a b => ?_) (by simpa using k)
  rw [List.getElem?_map] at a b
  by_cases hi : i < n.toNat
  · rw [List.getElem?_range hi] at a b
    cases a; cases b
    have := h i hi
    simpa using this
  · rw [List.getElem?_eq_none (by simpa using Nat.le_of_not_lt hi)] at a; cases a
/-! ### == of equal data -/
theorem toPs_ints : ∀ ns : List Int, D.toPs (ns.map .int) = some (ns.map PyData.int)
  | [] => rfl
  | n :: ns => by rw [List.map_cons, D.toPs, toPs_ints ns]; rfl
theorem lay_ints : ∀ ns : List Int, PyData.canLayAll0 (ns.map PyData.int) = true
  | [] => rfl
  | n :: ns => by rw [List.map_cons, PyData.canLayAll0, lay_ints ns]; rfl
theorem depth_ints : ∀ ns : List Int, PyData.depthAll (ns.map PyData.int) = 0
  | [] => rfl
  | n :: ns => by rw [List.map_cons, PyData.depthAll, depth_ints ns]; rfl
theorem eqv_ints : ∀ ns ms : List Int, PyData.eqvAll (ns.map PyData.int) (ms.map PyData.int) = decide (ns = ms)
  | [], [] => rfl
  | [], _ :: _ => rfl
  | _ :: _, [] => rfl
  | n :: ns, m :: ms => by
    rw [List.map_cons, List.map_cons, PyData.eqvAll, eqv_ints ns ms]
    show ((n == m) && decide (ns = ms)) = _
    by_cases h : n = m
    · subst h; simp
    · simp [h]
theorem shaped_ints (ns : List Int) : SeqAt.shaped (.list (ns.map PyData.int)) = true := by
  unfold SeqAt.shaped
  rw [PyData.canLay0, lay_ints, PyData.depth, depth_ints]; rfl
@[simp] theorem dEq_ints (ns ms : List Int) : dEq (.lst (ns.map .int)) (.lst (ms.map .int)) = .ok (.val (.bl (decide (ns = ms)))) := by
  have h : ∀ ns : List Int, (D.lst (ns.map .int)).toP = some (.list (ns.map PyData.int)) := fun ns => by rw [D.toP, toPs_ints]
  show (match (D.lst (ns.map .int)).toP, (D.lst (ms.map .int)).toP with
    | some x, some y => if SeqAt.shaped x = true ∧ SeqAt.shaped y = true then R.ok (Rs.val (.bl (PyData.eqv x y))) else R.stuck
    | _, _ => R.stuck) = _
  rw [h, h]
  dsimp only
  rw [if_pos ⟨shaped_ints _, shaped_ints _⟩, PyData.eqv, eqv_ints]
/-- == of data with itself -/
theorem dEq_self {d : D} {x : PyData} (h : d.toP = some x) (s : SeqAt.shaped x = true) : dEq d d = .ok (.val (.bl true)) := by
  have e : PyData.eqv x x = true := SeqAt.eqv_refl x (SeqAt.canLay_of_shaped s)
  unfold dEq
  split
  · simp
  · simp
  · simp
  · rw [h]; dsimp only; rw [if_pos ⟨s, s⟩, e]
/-! ### is of bools -/
@[simp] def dIsB : D → D → R Rs
  | .bl a, .bl b => .ok (.val (.bl (a == b)))
  | _, _ => R.stuck
@[simp] def dNotB : D → D → R Rs
  | .bl a, .bl b => .ok (.val (.bl (!(a == b))))
  | _, _ => R.stuck
theorem on_isB : OnlyB dIsB := fun d1 d2 => by
  unfold dIsB; split
  · exact .inr ⟨_, rfl⟩
  · exact .inl rfl
theorem on_notB : OnlyB dNotB := fun d1 d2 => by
  unfold dNotB; split
  · exact .inr ⟨_, rfl⟩
  · exact .inl rfl
theorem oB_isB {B : Bs} : OpB B rIsB dIsB := fun {σ ρ G H x y d1 d2 Q} ok p1 p2 k e q => by
  unfold dIsB at e; split at e
  · cases e
    exact ⟨_, _, p1.bl_of, p2.bl_of, by rw [← Bool.beq_eq_decide_eq]; exact q⟩
  · cases e
theorem oB_notB {B : Bs} : OpB B rNotB dNotB := fun {σ ρ G H x y d1 d2 Q} ok p1 p2 k e q => by
  unfold dNotB at e; split at e
  · cases e
    exact ⟨_, _, p1.bl_of, p2.bl_of, by rw [← Bool.beq_eq_decide_eq]; exact q⟩
  · cases e
end T
noncomputable section
namespace T
open PySem PySem.Spec PyProof.Rows L2
theorem o2_mulA {B : Bs} : Op2 B (rI CMul fun i j => .int (i * j)) (fun a b => match a, b with | .int i, .int j => dMul (.int i) (.int j) | _, _ => R.stuck) := o2_mulI
@[simp] def dMulI : D → D → R Rs
  | .int i, .int j => if MulOk i j then .ok (.val (.int (i * j))) else R.stuck
  | _, _ => R.stuck
theorem o2_mulX {B : Bs} : Op2 B (rI CMul fun i j => .int (i * j)) dMulI := by
  intro σ ρ G H x y d1 d2 Q ok p1 p2 q
  unfold dMulI at q
  split at q
  · split at q
    · rename_i h
      exact ⟨_, _, p1.int_of, p2.int_of, h, pr_val ok (.int _) q⟩
    · exact q.elim
  · exact q.elim
/-- x = y, where y is not read again: the list goes over -/
@[simp] def sMv (i j : Nat) : Sm := fun ρ => if i < ρ.length then (match ρ[j]? with
  | some (.val d) => .ok (.next, ρ.set i (.val d))
  | some (.own d) => .ok (.next, (ρ.set j .un).set i (.own d))
  | _ => R.stuck) else R.stuck
theorem Ok.drop {B : Bs} {ρ : En} {G H : Hp} {σ : L2.St} {j : Nat} (ok : Ok B ρ G σ H) : Ok B (ρ.set j .un) G σ H := by
  refine ⟨by rw [List.length_set]; exact ok.len, ok.g0, ok.gh, ok.h0, ok.nw, fun i s e => ?_, fun i k d e p h1 h2 => ?_⟩
  · rw [List.getElem?_set] at e
    split at e
    · split at e
      · cases e; exact True.intro
      · cases e
    · exact ok.sl i s e
  · have g : ∀ {i : Nat} {d : D}, (ρ.set j .un)[i]? = some (.own d) → ρ[i]? = some (.own d) := fun {i d} e => by
      rw [List.getElem?_set] at e
      split at e
      · split at e <;> cases e
      · exact e
    exact ok.ap i k d e p (g h1) (g h2)
theorem ts_mv {X : Cx} {B : Bs} {i : Nat} {x : Str} {pos pos' p3 : Pos} {y : Str} {j : Nat} (hN : X.N.Nodup) (hi : X.N[i]? = some x) (hx : Loc X.env.scope x) (he : PE X (.Name y p3) (tVar j)) (hs : swapsWith (.Name y p3) (some (.Name x pos')) pos.line X.env = pure false := by rfl) (hf : X.fn x = true ∨ X.env.scope.names.lookup x = some .local := by first | exact .inl rfl | exact .inr rfl | assumption) :
    PS X (.Assign [.Name x pos'] (.Name y p3) pos) (tS B (sMv i j)) := PS.imp (ps_set hN hi hx he hs hf) fun E σ H h => by
  obtain ⟨ρ, G, ok, h⟩ := h
  unfold sMv at h
  split at h
  · rename_i hl
    split at h
    · rename_i d e
      obtain ⟨v, e1, r⟩ := (show SlOk B G H σ[j]? (.val d) from ok.sl j _ e)
      exact ⟨v, e1, h _ G H (Same.refl _) (ok.setVal hl r)⟩
    · rename_i d e
      obtain ⟨p, e1, o⟩ := (show SlOk B G H σ[j]? (.own d) from ok.sl j _ e)
      refine ⟨_, e1, h _ G H (Same.refl _) ((ok.drop (j := j)).setOwn (by rw [List.length_set]; exact hl) o ?_)⟩
      rintro ⟨k, d', e2, e3⟩
      rw [List.getElem?_set] at e2
      split at e2
      · split at e2 <;> cases e2
      · rename_i hne
        exact hne (ok.ap _ _ _ _ _ e e2 e1 e3)
    · exact h.elim
  · exact h.elim
/-! ### a text times a number -/
theorem op_mul_strT {X : Cx} : OpR X (binaryOp .Mult) (fun x y H Q => ∃ i j, x = .str i ∧ y = .int j ∧ PySem.MulOk i j ∧ Q (.str (Txt.mul i j)) H) := by
  intro pins s σ H x y v u Q I rx ry h
  obtain ⟨i, j, rfl, rfl, hz, q⟩ := h
  obtain ⟨t, rfl⟩ := rx
  obtain ⟨t', rfl⟩ := ry
  exact SB.mul hz (fun t' tk => ⟨.str (Txt.mul i j), H, I.tok _, ⟨_, rfl⟩, q⟩)
noncomputable instance (i : Str) (j : Int) : Decidable (PySem.MulOk i j) := Classical.propDecidable _
@[simp] def dMulS : D → D → R Rs
  | .str i, .int j => if PySem.MulOk i j then .ok (.val (.str (Txt.mul i j))) else R.stuck
  | _, _ => R.stuck
theorem o2_mulS {B : Bs} : Op2 B (fun x y H Q => ∃ i j, x = .str i ∧ y = .int j ∧ PySem.MulOk i j ∧ Q (.str (Txt.mul i j)) H) dMulS := by
  intro σ ρ G H x y d1 d2 Q ok p1 p2 q
  unfold dMulS at q
  split at q
  · split at q
    · rename_i h
      exact ⟨_, _, p1.str_of, p2.int_of, h, pr_val ok (.str _) q⟩
    · exact q.elim
  · exact q.elim
theorem mulS_ok {c : Nat} {n : Int} (h0 : 0 ≤ n) (h1 : n ≤ 1000000) : PySem.MulOk ⟨#[c]⟩ n := by
  have e : (⟨#[c]⟩ : Str).length = 1 := rfl
  refine ⟨by simp; omega, fun a b => ?_, fun a b => ?_⟩
  · rw [e]
    have : (1 : Int) ≤ (2 ^ 63 - 1) / n := by
      rw [Int.le_ediv_iff_mul_le (by omega)]; omega
    omega
  · rw [e]
    have : 1 * n.toNat ≤ 1000000 := by omega
    unfold Builtin.Str.tooLong
    simp
    have hz : sizeLine = 16777216 := sizeLine_eq
    omega
theorem fold_rep (c : Nat) : ∀ (m : Nat) (a : Array Nat), ((List.replicate m #[c]).foldl (· ++ ·) a).toList = a.toList ++ List.replicate m c
  | 0, a => by simp
  | m + 1, a => by
    rw [List.replicate_succ, List.foldl_cons, fold_rep c m, List.replicate_succ, Array.toList_append, List.append_assoc]; rfl
theorem mulS_list (c : Nat) (n : Int) : (Txt.mul ⟨#[c]⟩ n).cps.toList = List.replicate n.toNat c := by
  unfold Txt.mul
  split
  · rw [show n.toNat = 0 by omega]; rfl
  · split
    · rename_i h
      have : n = 1 := by simpa [Str.length] using h
      subst this; rfl
    · show ((List.replicate n.toNat #[c]).foldl (· ++ ·) #[]).toList = _
      rw [fold_rep]; rfl
end T
noncomputable section
namespace Law
open PySem T
def l1_words_of : Sm := (sIf (tOrM (tOf (eBin dEq (eLoc 3) (eC (.str " ")))) (tOrM (tOf (eBin dEq (eLoc 3) (eC (.str "(")))) (tOf (eBin dEq (eLoc 3) (eC (.str ")")))))) (sSeq (sIf (tOf (eBin dNe (eLoc 2) (eC (.str "")))) (sDrop (eMeth 1 fApp (aCons (eLoc 2) aNil))) sNil)
  (sSeq (sSet 2 (eC (.str "")))
  (sIf (tOf (eBin dNe (eLoc 3) (eC (.str " ")))) (sDrop (eMeth 1 fApp (aCons (eLoc 3) aNil))) sNil))) (sAug 2 dAddI (eLoc 3)))
def b_words_of : Sm := (sSeq (sSet 1 (eLst aNil))
  (sSeq (sSet 2 (eC (.str "")))
  (sSeq (sFor (itStr (eLoc 0)) (bName 3) l1_words_of)
  (sSeq (sIf (tOf (eBin dNe (eLoc 2) (eC (.str "")))) (sDrop (eMeth 1 fApp (aCons (eLoc 2) aNil))) sNil)
  (sRet (eLoc 1))))))
def m_words_of : List D → R Rs := fnM 4 b_words_of
def l1__law_signs_by : Sm := (sSeq (sSet 3 (eBin dAdd (eLoc 3) (eBin dIx (eLoc 1) (eBin dMod (eLoc 2) (eC (.int 91))))))
  (sIf (tOf (eBin dEq (eBin dMod (eBin dFdiv (eLoc 0) (eC (.int 20))) (eC (.int 2))) (eC (.int 1)))) (sSet 2 (eBin dMod (eBin dMul (eLoc 2) (eC (.int 48271))) (eC (.int 2147483647)))) sNil))
def b__law_signs_by : Sm := (sSeq (sSet 1 (eC (.str "!\"#$&'*+,-./0123456789:;<=>?@ABCDEFGHIJKLMNOPQRSTUVWXYZ[\\]^_`")))
  (sSeq (sSet 1 (eBin dAdd (eLoc 1) (eC (.str "abcdefghijklmnopqrstuvwxyz{|}~"))))
  (sSeq (sSet 2 (eBin dMod (eBin dMul (eLoc 0) (eC (.int 48271))) (eC (.int 2147483647))))
  (sSeq (sSet 3 (eC (.str "")))
  (sSeq (sFor (itR1 (aCons (eBin dAdd (eBin dMod (eLoc 0) (eC (.int 20))) (eC (.int 1))) aNil)) (bName 4) l1__law_signs_by)
  (sRet (eLoc 3)))))))
def m__law_signs_by : List D → R Rs := fnM 5 b__law_signs_by
def l1__law_line_by : Sm := (sSeq (sSet 5 (eBin dMod (eLoc 4) (eC (.int 6))))
  (sIf (tOf (eBin dEq (eLoc 5) (eC (.int 0)))) (sSeq (sSet 1 (eBin dAdd (eLoc 1) (eBin dMulS (eC (.str " ")) (eBin dAdd (eBin dMod (eBin dFdiv (eLoc 4) (eC (.int 6))) (eC (.int 3))) (eC (.int 1))))))
  (sSet 3 (eC (.bl false)))) (sIf (tOf (eBin dLt (eLoc 5) (eC (.int 3)))) (sSeq (sSet 1 (eBin dAdd (eLoc 1) (eBin dIx (eC (.str "()")) (eBin dSub (eLoc 5) (eC (.int 1))))))
  (sSeq (sDrop (eMeth 2 fApp (aCons (eBin dIx (eC (.str "()")) (eBin dSub (eLoc 5) (eC (.int 1)))) aNil)))
  (sSet 3 (eC (.bl false))))) (sSeq (sSet 6 (eCall (fun ds => noexc (m__law_signs_by ds)) (aCons (eBin dFdiv (eLoc 4) (eC (.int 6))) aNil)))
  (sSeq (sSet 1 (eBin dAdd (eLoc 1) (eLoc 6)))
  (sSeq (sIf (tOf (eLoc 3)) (sSub 2 (eUn dNeg (eC (.int 1))) (eBin dAdd (eBin dIx (eLoc 2) (eUn dNeg (eC (.int 1)))) (eLoc 6))) (sDrop (eMeth 2 fApp (aCons (eLoc 6) aNil))))
  (sSet 3 (eC (.bl true)))))))))
def b__law_line_by : Sm := (sSeq (sSet 1 (eC (.str "")))
  (sSeq (sSet 2 (eLst aNil))
  (sSeq (sSet 3 (eC (.bl false)))
  (sSeq (sFor (itM (eLoc 0)) (bName 4) l1__law_line_by)
  (sRet (eTup (aCons (eLoc 1) (aCons (eLoc 2) aNil))))))))
def m__law_line_by : List D → R Rs := fnM 7 b__law_line_by
def l1__law_same : Sm := (sIf (tOrM (tNotM (tOf (eCB dIsi (aCons (eBin dIx (eLoc 0) (eLoc 2)) (aCons (eC (.ty "str")) aNil))))) (tOf (eBin dNe (eBin dIx (eLoc 0) (eLoc 2)) (eBin dIx (eLoc 1) (eLoc 2))))) (sRet (eC (.bl false))) sNil)
def b__law_same : Sm := (sSeq (sIf (tOrM (tNotM (tOf (eCB dIsi (aCons (eLoc 0) (aCons (eC (.ty "list")) aNil))))) (tOf (eBin dNe (eCB dLen (aCons (eLoc 0) aNil)) (eCB dLen (aCons (eLoc 1) aNil))))) (sRet (eC (.bl false))) sNil)
  (sSeq (sFor (itR1 (aCons (eCB dLen (aCons (eLoc 1) aNil)) aNil)) (bName 2) l1__law_same)
  (sRet (eC (.bl true)))))
def m__law_same : List D → R Rs := fnM 3 b__law_same
def b_law : Sm := (sSeq (sAsg (bTup (bCons (bName 1) (bCons (bName 2) bNil))) (eCall (fun ds => noexc (m__law_line_by ds)) (aCons (eSl (eLoc 0) oNo (oAt (eC (.int 250)))) aNil)))
  (sSeq (sSet 3 (eCall (fun ds => noexc (m_words_of ds)) (aCons (eLoc 1) aNil)))
  (sSeq (sIf (tNotM (tOf (eCall (fun ds => noexc (m__law_same ds)) (aCons (eLoc 3) (aCons (eLoc 2) aNil))))) (sRet (eC (.bl false))) sNil)
  (sSeq (sAsg (bTup (bCons (bName 4) (bCons (bName 5) bNil))) (eCall (fun ds => noexc (m__law_line_by ds)) (aCons (eBin dAdd (eSl (eLoc 0) (oAt (eC (.int 1))) (oAt (eC (.int 250)))) (eLst (aCons (eC (.int 7)) aNil))) aNil)))
  (sSeq (sIf (tNotM (tOf (eCall (fun ds => noexc (m__law_same ds)) (aCons (eCall (fun ds => noexc (m_words_of ds)) (aCons (eLoc 4) aNil)) (aCons (eLoc 5) aNil))))) (sRet (eC (.bl false))) sNil)
  (sSeq (sDrop (eMeth 3 fApp (aCons (eC (.str "more")) aNil)))
  (sRet (eAnd (eCall (fun ds => noexc (m__law_same ds)) (aCons (eCall (fun ds => noexc (m_words_of ds)) (aCons (eLoc 1) aNil)) (aCons (eLoc 2) aNil))) (eCall (fun ds => noexc (m__law_same ds)) (aCons (eCall (fun ds => noexc (m_words_of ds)) (aCons (eBin dMulS (eC (.str " ")) (eBin dMod (eCB dLen (aCons (eLoc 2) aNil)) (eC (.int 9)))) aNil)) (aCons (eLst aNil) aNil)))))))))))
def m_law : List D → R Rs := fnM 6 b_law
end Law
noncomputable section
namespace Law
open PySem PySem.Spec PyProof.Rows L2 T
def top (i : Nat) : Stmt := PySem.Challenge.pw_rowbreadth_k21_words_of_a_line.main.body.getD i (.Pass ⟨0, 0, 0, 0⟩)
structure Tx (K : PySem.W.Frag) (mg : Str → Option Value) : Prop where
  z_isinstance : mg "isinstance" = none
  z_len : mg "len" = none
  z_list : mg "list" = none
  z_range : mg "range" = none
  z_str : mg "str" = none
section
variable {P : Program} {w : World} {K : PySem.W.Frag} {mg : Str → Option Value} {base : Heap}
abbrev s_words_of : Stmt := top 1
theorem sc_words_of : FnScope ["line", "words", "word", "sign"] ["line"] (defScope s_words_of) := ⟨rfl, rfl, rfl, by decide +kernel, rfl, by decide +kernel, by decide +kernel⟩
theorem bd_words_of (Z : Tx K mg) : BodyOk P w K mg base "words_of" s_words_of ["line", "words", "word", "sign"] 0 b_words_of := by
  intro f cdv A outer s H B E hr hB
  have hK : B.W.K = K := by rw [hB]
  exact (ts_cons (ts_set (i := 1) sc_words_of.nd rfl (by first | exact .inl rfl | exact .inr rfl) (te_lst ta_nil))
  (ts_cons (ts_set (i := 2) sc_words_of.nd rfl (by first | exact .inl rfl | exact .inr rfl) te_str)
  (ts_cons (ts_for PassesOwn.never rfl (ti_str (te_loc 0 (pv 0))) (tg_name sc_words_of.nd rfl (by first | exact .inl rfl | exact .inr rfl)) (ts_one (ts_if (PW.pt (tw_or (tt_cmp (op_eqA hr.units) (OpB.op2 (oB_eq hK) on_eq) (te_loc 3 (pv 3)) te_str (nomark _)) (tw_or (tt_cmp (op_eqA hr.units) (OpB.op2 (oB_eq hK) on_eq) (te_loc 3 (pv 3)) te_str (nomark _)) (tw_or1 (tt_cmp (op_eqA hr.units) (OpB.op2 (oB_eq hK) on_eq) (te_loc 3 (pv 3)) te_str (nomark _)))))) (ts_cons (ts_if (tt_cmp (op_neA hr.units) (OpB.op2 (oB_ne hK) on_ne) (te_loc 2 (pv 2)) te_str (nomark _)) (ts_one (ts_drop (te_meth ms_app fs_app (pe_bm PySem.F.plainAttrs_list PySem.F.slot_list_append PySem.F.type_list_append mt_append (pv 1) (ta_cons (te_loc 2 (pv 2)) ta_nil))))) ts_nil)
  (ts_cons (ts_set (i := 2) sc_words_of.nd rfl (by first | exact .inl rfl | exact .inr rfl) te_str)
  (ts_one (ts_if (tt_cmp (op_neA hr.units) (OpB.op2 (oB_ne hK) on_ne) (te_loc 3 (pv 3)) te_str (nomark _)) (ts_one (ts_drop (te_meth ms_app fs_app (pe_bm PySem.F.plainAttrs_list PySem.F.slot_list_append PySem.F.type_list_append mt_append (pv 1) (ta_cons (te_loc 3 (pv 3)) ta_nil))))) ts_nil)))) (ts_one (ts_aug (i := 2) iop_addA o2_addI sc_words_of.nd rfl (by first | exact .inl rfl | exact .inr rfl) (te_loc 3 (pv 3)))))) bto_name.st)
  (ts_cons (ts_if (tt_cmp (op_neA hr.units) (OpB.op2 (oB_ne hK) on_ne) (te_loc 2 (pv 2)) te_str (nomark _)) (ts_one (ts_drop (te_meth ms_app fs_app (pe_bm PySem.F.plainAttrs_list PySem.F.slot_list_append PySem.F.type_list_append mt_append (pv 1) (ta_cons (te_loc 2 (pv 2)) ta_nil))))) ts_nil)
  (ts_one (ts_ret (te_loc 1 (pv 1))))))))
abbrev s__law_signs_by : Stmt := top 3
theorem sc__law_signs_by : FnScope ["_law_cell", "_law_some", "_law_mixed", "_law_signs", "_law_k"] ["_law_cell"] (defScope s__law_signs_by) := ⟨rfl, rfl, rfl, by decide +kernel, rfl, by decide +kernel, by decide +kernel⟩
theorem bd__law_signs_by (Z : Tx K mg) : BodyOk P w K mg base "_law_signs_by" s__law_signs_by ["_law_cell", "_law_some", "_law_mixed", "_law_signs", "_law_k"] 0 b__law_signs_by := by
  intro f cdv A outer s H B E hr hB
  have hK : B.W.K = K := by rw [hB]
  exact (ts_cons (ts_set (i := 1) sc__law_signs_by.nd rfl (by first | exact .inl rfl | exact .inr rfl) te_str)
  (ts_cons (ts_set (i := 1) sc__law_signs_by.nd rfl (by first | exact .inl rfl | exact .inr rfl) (te_bin op_addA o2_add (te_loc 1 (pv 1)) te_str))
  (ts_cons (ts_set (i := 2) sc__law_signs_by.nd rfl (by first | exact .inl rfl | exact .inr rfl) (te_bin op_modN o2_mod (te_bin op_mulA o2_mul (te_loc 0 (pv 0)) te_int) te_int))
  (ts_cons (ts_set (i := 3) sc__law_signs_by.nd rfl (by first | exact .inl rfl | exact .inr rfl) te_str)
  (ts_cons (ts_for PassesOwn.never rfl (ti_range1 Z.z_range (ta_cons (te_bin op_addA o2_add (te_bin op_modN o2_mod (te_loc 0 (pv 0)) te_int) te_int) ta_nil)) (tg_name sc__law_signs_by.nd rfl (by first | exact .inl rfl | exact .inr rfl)) (ts_cons (ts_set (i := 3) sc__law_signs_by.nd rfl (by first | exact .inl rfl | exact .inr rfl) (te_bin op_addA o2_add (te_loc 3 (pv 3)) (te_ix hK (te_loc 1 (pv 1)) (te_bin op_modN o2_mod (te_loc 2 (pv 2)) te_int))))
  (ts_one (ts_if (tt_cmp (op_eqA hr.units) (OpB.op2 (oB_eq hK) on_eq) (te_bin op_modN o2_mod (te_bin op_fdivX o2_fdiv (te_loc 0 (pv 0)) te_int) te_int) te_int (nomark _)) (ts_one (ts_set (i := 2) sc__law_signs_by.nd rfl (by first | exact .inl rfl | exact .inr rfl) (te_bin op_modN o2_mod (te_bin op_mulA o2_mul (te_loc 2 (pv 2)) te_int) te_int))) ts_nil))) bto_name.st)
  (ts_one (ts_ret (te_loc 3 (pv 3)))))))))
abbrev s__law_line_by : Stmt := top 4
theorem sc__law_line_by : FnScope ["_law_cells", "_law_line", "_law_due", "_law_still", "_law_cell", "_law_how", "_law_signs"] ["_law_cells"] (defScope s__law_line_by) := ⟨rfl, rfl, rfl, by decide +kernel, rfl, by decide +kernel, by decide +kernel⟩
theorem bd__law_line_by (Z : Tx K mg) (c__law_signs_by : Cal P w K mg base "_law_signs_by" 1 1 m__law_signs_by) : BodyOk P w K mg base "_law_line_by" s__law_line_by ["_law_cells", "_law_line", "_law_due", "_law_still", "_law_cell", "_law_how", "_law_signs"] 1 b__law_line_by := by
  intro f cdv A outer s H B E hr hB
  have hK : B.W.K = K := by rw [hB]
  exact (ts_cons (ts_set (i := 1) sc__law_line_by.nd rfl (by first | exact .inl rfl | exact .inr rfl) te_str)
  (ts_cons (ts_set (i := 2) sc__law_line_by.nd rfl (by first | exact .inl rfl | exact .inr rfl) (te_lst ta_nil))
  (ts_cons (ts_set (i := 3) sc__law_line_by.nd rfl (by first | exact .inl rfl | exact .inr rfl) te_bl)
  (ts_cons (ts_for PassesOwn.never rfl (ti_seq hK (te_loc 0 (pv 0))) (tg_name sc__law_line_by.nd rfl (by first | exact .inl rfl | exact .inr rfl)) (ts_cons (ts_set (i := 5) sc__law_line_by.nd rfl (by first | exact .inl rfl | exact .inr rfl) (te_bin op_modN o2_mod (te_loc 4 (pv 4)) te_int))
  (ts_one (ts_if (tt_cmp (op_eqA hr.units) (OpB.op2 (oB_eq hK) on_eq) (te_loc 5 (pv 5)) te_int (nomark _)) (ts_cons (ts_set (i := 1) sc__law_line_by.nd rfl (by first | exact .inl rfl | exact .inr rfl) (te_bin op_addA o2_add (te_loc 1 (pv 1)) (te_bin op_mul_strT o2_mulS te_str (te_bin op_addA o2_add (te_bin op_modN o2_mod (te_bin op_fdivX o2_fdiv (te_loc 4 (pv 4)) te_int) te_int) te_int))))
  (ts_one (ts_set (i := 3) sc__law_line_by.nd rfl (by first | exact .inl rfl | exact .inr rfl) te_bl))) (ts_one (ts_if (tt_cmp op_lt (OpB.op2 oB_lt on_lt) (te_loc 5 (pv 5)) te_int (nomark _)) (ts_cons (ts_set (i := 1) sc__law_line_by.nd rfl (by first | exact .inl rfl | exact .inr rfl) (te_bin op_addA o2_add (te_loc 1 (pv 1)) (te_ix hK te_str (te_bin op_sub o2_sub (te_loc 5 (pv 5)) te_int))))
  (ts_cons (ts_drop (te_meth ms_app fs_app (pe_bm PySem.F.plainAttrs_list PySem.F.slot_list_append PySem.F.type_list_append mt_append (pv 2) (ta_cons (te_ix hK te_str (te_bin op_sub o2_sub (te_loc 5 (pv 5)) te_int)) ta_nil))))
  (ts_one (ts_set (i := 3) sc__law_line_by.nd rfl (by first | exact .inl rfl | exact .inr rfl) te_bl)))) (ts_cons (ts_set (i := 6) sc__law_line_by.nd rfl (by first | exact .inl rfl | exact .inr rfl) (te_fn c__law_signs_by hB hr (by decide) (len_cons len_nil) (ta_cons (te_bin op_fdivX o2_fdiv (te_loc 4 (pv 4)) te_int) ta_nil)))
  (ts_cons (ts_set (i := 1) sc__law_line_by.nd rfl (by first | exact .inl rfl | exact .inr rfl) (te_bin op_addA o2_add (te_loc 1 (pv 1)) (te_loc 6 (pv 6))))
  (ts_cons (ts_if (tt_val (te_loc 3 (pv 3))) (ts_one (ts_sub (te_bin op_addA o2_add (te_ix hK (te_loc 2 (pv 2)) (te_neg te_int)) (te_loc 6 (pv 6))) (te_neg te_int) (ps_asg (te_bin op_addA o2_add (te_ix hK (te_loc 2 (pv 2)) (te_neg te_int)) (te_loc 6 (pv 6))) (pg_sub (pv 2) (te_neg te_int) set_list)))) (ts_one (ts_drop (te_meth ms_app fs_app (pe_bm PySem.F.plainAttrs_list PySem.F.slot_list_append PySem.F.type_list_append mt_append (pv 2) (ta_cons (te_loc 6 (pv 6)) ta_nil))))))
  (ts_one (ts_set (i := 3) sc__law_line_by.nd rfl (by first | exact .inl rfl | exact .inr rfl) te_bl)))))))))) bto_name.st)
  (ts_one (ts_ret (te_tup (ta_cons (te_loc 1 (pv 1)) (ta_cons (te_loc 2 (pv 2)) ta_nil)))))))))
abbrev s__law_same : Stmt := top 5
theorem sc__law_same : FnScope ["_law_found", "_law_due", "_law_k"] ["_law_found", "_law_due"] (defScope s__law_same) := ⟨rfl, rfl, rfl, by decide +kernel, rfl, by decide +kernel, by decide +kernel⟩
theorem bd__law_same (Z : Tx K mg) : BodyOk P w K mg base "_law_same" s__law_same ["_law_found", "_law_due", "_law_k"] 0 b__law_same := by
  intro f cdv A outer s H B E hr hB
  have hK : B.W.K = K := by rw [hB]
  exact (ts_cons (ts_if (PW.pt (tw_or (tt_not (tt_val (te_callB call_isi (c_isi hK) Z.z_isinstance (by decide +kernel) (ta_cons (te_loc 0 (pv 0)) (ta_cons (te_ty Z.z_list (by decide +kernel)) ta_nil))))) (tw_or1 (tt_cmp (op_neA hr.units) (OpB.op2 (oB_ne hK) on_ne) (te_callB call_len (c_len hK) Z.z_len PySem.boot_len (ta_cons (te_loc 0 (pv 0)) ta_nil)) (te_callB call_len (c_len hK) Z.z_len PySem.boot_len (ta_cons (te_loc 1 (pv 1)) ta_nil)) (nomark _))))) (ts_one (ts_ret te_bl)) ts_nil)
  (ts_cons (ts_for PassesOwn.never rfl (ti_range1 Z.z_range (ta_cons (te_callB call_len (c_len hK) Z.z_len PySem.boot_len (ta_cons (te_loc 1 (pv 1)) ta_nil)) ta_nil)) (tg_name sc__law_same.nd rfl (by first | exact .inl rfl | exact .inr rfl)) (ts_one (ts_if (PW.pt (tw_or (tt_not (tt_val (te_callB call_isi (c_isi hK) Z.z_isinstance (by decide +kernel) (ta_cons (te_ix hK (te_loc 0 (pv 0)) (te_loc 2 (pv 2))) (ta_cons (te_ty Z.z_str (by decide +kernel)) ta_nil))))) (tw_or1 (tt_cmp (op_neA hr.units) (OpB.op2 (oB_ne hK) on_ne) (te_ix hK (te_loc 0 (pv 0)) (te_loc 2 (pv 2))) (te_ix hK (te_loc 1 (pv 1)) (te_loc 2 (pv 2))) (nomark _))))) (ts_one (ts_ret te_bl)) ts_nil)) bto_name.st)
  (ts_one (ts_ret te_bl))))
abbrev s_law : Stmt := top 6
theorem sc_law : FnScope ["_law_script", "_law_line", "_law_due", "_law_held", "_law_other", "_law_due_there"] ["_law_script"] (defScope s_law) := ⟨rfl, rfl, rfl, by decide +kernel, rfl, by decide +kernel, by decide +kernel⟩
theorem bd_law (Z : Tx K mg) (c__law_line_by : Cal P w K mg base "_law_line_by" 2 1 m__law_line_by) (c_words_of : Cal P w K mg base "words_of" 1 1 m_words_of) (c__law_same : Cal P w K mg base "_law_same" 1 2 m__law_same) : BodyOk P w K mg base "law" s_law ["_law_script", "_law_line", "_law_due", "_law_held", "_law_other", "_law_due_there"] 2 b_law := by
  intro f cdv A outer s H B E hr hB
  have hK : B.W.K = K := by rw [hB]
  exact (ts_cons (ts_asg (te_fn c__law_line_by hB hr (by decide) (len_cons len_nil) (ta_cons (te_sl hK (te_loc 0 (pv 0)) to_none (to_some te_int)) ta_nil)) (tg_tup rfl (tgs_cons (tg_name sc_law.nd rfl (by first | exact .inl rfl | exact .inr rfl)) (tgs_cons (tg_name sc_law.nd rfl (by first | exact .inl rfl | exact .inr rfl)) tgs_nil)) (bl_cons (bl_cons bl_nil))) (bto_tup (btos_cons bto_name (btos_cons bto_name btos_nil))).st)
  (ts_cons (ts_set (i := 3) sc_law.nd rfl (by first | exact .inl rfl | exact .inr rfl) (te_fn c_words_of hB hr (by decide) (len_cons len_nil) (ta_cons (te_loc 1 (pv 1)) ta_nil)))
  (ts_cons (ts_if (tt_not (tt_val (te_fn c__law_same hB hr (by decide) (len_cons (len_cons len_nil)) (ta_cons (te_loc 3 (pv 3)) (ta_cons (te_loc 2 (pv 2)) ta_nil))))) (ts_one (ts_ret te_bl)) ts_nil)
  (ts_cons (ts_asg (te_fn c__law_line_by hB hr (by decide) (len_cons len_nil) (ta_cons (te_bin op_addA o2_add (te_sl hK (te_loc 0 (pv 0)) (to_some te_int) (to_some te_int)) (te_lst (ta_cons te_int ta_nil))) ta_nil)) (tg_tup rfl (tgs_cons (tg_name sc_law.nd rfl (by first | exact .inl rfl | exact .inr rfl)) (tgs_cons (tg_name sc_law.nd rfl (by first | exact .inl rfl | exact .inr rfl)) tgs_nil)) (bl_cons (bl_cons bl_nil))) (bto_tup (btos_cons bto_name (btos_cons bto_name btos_nil))).st)
  (ts_cons (ts_if (tt_not (tt_val (te_fn c__law_same hB hr (by decide) (len_cons (len_cons len_nil)) (ta_cons (te_fn c_words_of hB hr (by decide) (len_cons len_nil) (ta_cons (te_loc 4 (pv 4)) ta_nil)) (ta_cons (te_loc 5 (pv 5)) ta_nil))))) (ts_one (ts_ret te_bl)) ts_nil)
  (ts_cons (ts_drop (te_meth ms_app fs_app (pe_bm PySem.F.plainAttrs_list PySem.F.slot_list_append PySem.F.type_list_append mt_append (pv 3) (ta_cons te_str ta_nil))))
  (ts_one (ts_ret (te_and (te_fn c__law_same hB hr (by decide) (len_cons (len_cons len_nil)) (ta_cons (te_fn c_words_of hB hr (by decide) (len_cons len_nil) (ta_cons (te_loc 1 (pv 1)) ta_nil)) (ta_cons (te_loc 2 (pv 2)) ta_nil))) (te_one (te_fn c__law_same hB hr (by decide) (len_cons (len_cons len_nil)) (ta_cons (te_fn c_words_of hB hr (by decide) (len_cons len_nil) (ta_cons (te_bin op_mul_strT o2_mulS te_str (te_bin op_modN o2_mod (te_callB call_len (c_len hK) Z.z_len PySem.boot_len (ta_cons (te_loc 2 (pv 2)) ta_nil)) te_int)) ta_nil)) (ta_cons (te_lst ta_nil) ta_nil)))))))))))))
end
end Law
namespace Law
open PySem T
/-! plain functions that several laws share -/
def keptN (n : Int) : Int := (n + 9223372036854775808) % 18446744073709551616 - 9223372036854775808
def IsKept (n : Int) : Prop := -9223372036854775808 ≤ n ∧ n ≤ 9223372036854775807
theorem keptN_kept (n : Int) : IsKept (keptN n) := by unfold keptN IsKept; omega
theorem keptN_id {n : Int} (h : IsKept n) : keptN n = n := by unfold keptN; unfold IsKept at h; omega
/-- a number that a cell draws -/
def edges : List Int := [-9223372036854775808, 9223372036854775807, -1, 4294967296, -9223372036854775807, 3037000500]
def keptBy (c : Int) : Int :=
  if c % 4 = 0 then c / 4 % 7 - 3 else if c % 4 = 1 then edges.getD (c / 4 % 6).toNat 0 else if c % 4 = 2 then c / 4 * 48271 % 2001 - 1000 else c / 4 * 2862933555777941757 % 18446744073709551616 - 9223372036854775808
theorem edges_kept (i : Nat) (h : i < 6) : IsKept (edges.getD i 0) := by
  have : i = 0 ∨ i = 1 ∨ i = 2 ∨ i = 3 ∨ i = 4 ∨ i = 5 := by omega
  rcases this with rfl | rfl | rfl | rfl | rfl | rfl <;> (unfold IsKept edges; simp)
theorem keptBy_kept (c : Int) : IsKept (keptBy c) := by
  unfold keptBy
  split
  · unfold IsKept; omega
  · split
    · exact edges_kept _ (by omega)
    · split
      · unfold IsKept; omega
      · unfold IsKept; omega
end Law
namespace Law
open PySem T
/-! the signs and what they tell -/
def signs : List Str := ["+", "-", "*", "/", "rest", "least", "most", "<", "=", "&", "|", "^"]
def doneN (s : Str) (a b : Int) : Int :=
  if s = "+" then keptN (a + b) else if s = "-" then keptN (a - b) else if s = "*" then keptN (a * b) else if s = "/" then keptN (a.fdiv b) else if s = "rest" then a.fmod b else
  if s = "least" then (if b < a then b else a) else if s = "most" then (if a < b then b else a) else if s = "<" then (if a < b then 1 else 0) else if s = "=" then (if a = b then 1 else 0) else
  if s = "&" then Builtin.bitAnd a b else if s = "|" then Builtin.bitOr a b else Builtin.bitXor a b
end Law
namespace Law
open PySem PyProof.Rows
/-! bits of whole numbers -/
theorem nat_xor_and (m : Nat) : ∀ n : Nat, (m ^^^ n) + (m &&& n) = m ||| n := by
  induction m using Nat.strongRecOn with
  | ind m ih =>
    intro n
    by_cases hm : m = 0
    · subst hm; simp
    · have h := ih (m / 2) (by omega) (n / 2)
      have e1 := Nat.div_add_mod (m ^^^ n) 2
      have e2 := Nat.div_add_mod (m &&& n) 2
      have e3 := Nat.div_add_mod (m ||| n) 2
      have d1 : (m ^^^ n) / 2 = m / 2 ^^^ n / 2 := Nat.xor_div_two
      have d2 : (m &&& n) / 2 = m / 2 &&& n / 2 := Nat.and_div_two
      have d3 : (m ||| n) / 2 = m / 2 ||| n / 2 := Nat.or_div_two
      have m1 : (m ^^^ n) % 2 + (m &&& n) % 2 = (m ||| n) % 2 := by
        have a := Nat.mod_two_eq_zero_or_one m
        have b := Nat.mod_two_eq_zero_or_one n
        have t1 : (m ^^^ n) % 2 = (m % 2) ^^^ (n % 2) := Nat.xor_mod_two_pow (n := 1)
        have t2 : (m &&& n) % 2 = (m % 2) &&& (n % 2) := Nat.and_mod_two_pow (n := 1)
        have t3 : (m ||| n) % 2 = (m % 2) ||| (n % 2) := Nat.or_mod_two_pow (n := 1)
        rw [t1, t2, t3]
        rcases a with a | a <;> rcases b with b | b <;> rw [a, b] <;> rfl
      omega
def ibit (x : Int) (k : Nat) : Bool := if 0 ≤ x then x.toNat.testBit k else !(Builtin.bitNot x).toNat.testBit k
theorem ibit_not (x : Int) (k : Nat) : ibit (Builtin.bitNot x) k = !ibit x k := by
  unfold ibit
  rw [bitNot_bitNot]
  by_cases h : 0 ≤ x
  · rw [if_pos h, if_neg (by rw [bitNot_nonneg]; omega)]
  · rw [if_neg h, if_pos (bitNot_nonneg.mpr h)]; simp
theorem ibit_nat (n k : Nat) : ibit (n : Int) k = n.testBit k := by unfold ibit; rw [if_pos (Int.natCast_nonneg n), Int.toNat_natCast]
theorem ibit_ext {x y : Int} (h : ∀ k, ibit x k = ibit y k) : x = y := by
  have top : ∀ n : Nat, n.testBit n = false := fun n => Nat.testBit_lt_two_pow Nat.lt_two_pow_self
  have big : ∀ (n m : Nat), n ≤ m → n.testBit m = false := fun n m hm => Nat.testBit_lt_two_pow (Nat.lt_of_lt_of_le Nat.lt_two_pow_self (Nat.pow_le_pow_right (by decide) hm))
  unfold ibit at h
  by_cases hx : 0 ≤ x
  · by_cases hy : 0 ≤ y
    · simp only [if_pos hx, if_pos hy] at h
      have := Nat.eq_of_testBit_eq h
      omega
    · simp only [if_pos hx, if_neg hy] at h
      have := h (max x.toNat (Builtin.bitNot y).toNat)
      rw [big _ _ (Nat.le_max_left ..), big _ _ (Nat.le_max_right ..)] at this
      cases this
  · by_cases hy : 0 ≤ y
    · simp only [if_neg hx, if_pos hy] at h
      have := h (max y.toNat (Builtin.bitNot x).toNat)
      rw [big _ _ (Nat.le_max_left ..), big _ _ (Nat.le_max_right ..)] at this
      cases this
    · simp only [if_neg hx, if_neg hy, Bool.not_inj_iff] at h
      have := Nat.eq_of_testBit_eq h
      unfold Builtin.bitNot at this
      omega
theorem bitNot_cast (n : Nat) : ¬ 0 ≤ Builtin.bitNot (n : Int) := by rw [bitNot_nonneg]; omega
theorem toNat_cast {x : Int} (h : 0 ≤ x) : x = (x.toNat : Int) := by omega
theorem nat_of_neg {x : Int} (h : ¬ 0 ≤ x) : x = Builtin.bitNot ((Builtin.bitNot x).toNat : Int) := by
  rw [Int.toNat_of_nonneg (bitNot_nonneg.mpr h), bitNot_bitNot]
theorem sub_and (a b : Nat) (k : Nat) : (a - (a &&& b)).testBit k = (a.testBit k && !b.testBit k) := by
  have e : a - (a &&& b) = a ^^^ (a &&& b) := by
    have h := nat_xor_and a (a &&& b)
    have h1 : a &&& (a &&& b) = a &&& b := by apply Nat.eq_of_testBit_eq; intro i; simp
    have h2 : a ||| (a &&& b) = a := by apply Nat.eq_of_testBit_eq; intro i; simp; cases a.testBit i <;> simp
    rw [h1, h2] at h
    omega
  rw [e, Nat.testBit_xor, Nat.testBit_and]
  cases a.testBit k <;> cases b.testBit k <;> rfl
theorem and_le (a b : Nat) : a &&& b ≤ a := Nat.and_le_left
theorem ibit_and (x y : Int) (k : Nat) : ibit (Builtin.bitAnd x y) k = (ibit x k && ibit y k) := by
  by_cases hx : 0 ≤ x <;> by_cases hy : 0 ≤ y
  · rw [bitAnd_pp hx hy, ibit_nat, Nat.testBit_and]
    unfold ibit; rw [if_pos hx, if_pos hy]
  · rw [bitAnd_pn hx hy]
    have e : x - ((x.toNat &&& (Builtin.bitNot y).toNat : Nat) : Int) = ((x.toNat - (x.toNat &&& (Builtin.bitNot y).toNat) : Nat) : Int) := by have := and_le x.toNat (Builtin.bitNot y).toNat; omega
    rw [e, ibit_nat, sub_and]
    unfold ibit; rw [if_pos hx, if_neg hy]
  · rw [bitAnd_np hx hy]
    have e : y - ((y.toNat &&& (Builtin.bitNot x).toNat : Nat) : Int) = ((y.toNat - (y.toNat &&& (Builtin.bitNot x).toNat) : Nat) : Int) := by have := and_le y.toNat (Builtin.bitNot x).toNat; omega
    rw [e, ibit_nat, sub_and]
    unfold ibit; rw [if_neg hx, if_pos hy, Bool.and_comm]
  · rw [bitAnd_nn hx hy, ibit_not, ibit_nat, Nat.testBit_or]
    unfold ibit; rw [if_neg hx, if_neg hy]; simp
theorem ibit_or (x y : Int) (k : Nat) : ibit (Builtin.bitOr x y) k = (ibit x k || ibit y k) := by
  unfold Builtin.bitOr
  rw [ibit_not, ibit_and, ibit_not, ibit_not]
  simp
theorem ibit_xor (x y : Int) (k : Nat) : ibit (Builtin.bitXor x y) k = (ibit x k ^^ ibit y k) := by
  have ba : Builtin.bitXor x y = x + y - 2 * Builtin.bitAnd x y := by
    unfold Builtin.bitXor; rw [bitOr_and]; omega
  have nn : ∀ a b : Nat, (a ^^^ b : Nat) + 2 * (a &&& b) = a + b := fun a b => by have := nat_xor_and a b; have := nat_or_add_and a b; omega
  rw [ba]
  by_cases hx : 0 ≤ x <;> by_cases hy : 0 ≤ y
  · rw [bitAnd_pp hx hy]
    have := nn x.toNat y.toNat
    have e : x + y - 2 * ((x.toNat &&& y.toNat : Nat) : Int) = ((x.toNat ^^^ y.toNat : Nat) : Int) := by omega
    rw [e, ibit_nat, Nat.testBit_xor]
    unfold ibit; rw [if_pos hx, if_pos hy]
  · rw [bitAnd_pn hx hy]
    have := nn x.toNat (Builtin.bitNot y).toNat
    have hb := Int.toNat_of_nonneg (bitNot_nonneg.mpr hy)
    have e : x + y - 2 * (x - ((x.toNat &&& (Builtin.bitNot y).toNat : Nat) : Int)) = Builtin.bitNot ((x.toNat ^^^ (Builtin.bitNot y).toNat : Nat) : Int) := by
      unfold Builtin.bitNot at *; omega
    rw [e, ibit_not, ibit_nat, Nat.testBit_xor]
    unfold ibit; rw [if_pos hx, if_neg hy]
    cases x.toNat.testBit k <;> cases (Builtin.bitNot y).toNat.testBit k <;> rfl
  · rw [bitAnd_np hx hy]
    have := nn y.toNat (Builtin.bitNot x).toNat
    have hb := Int.toNat_of_nonneg (bitNot_nonneg.mpr hx)
    have e : x + y - 2 * (y - ((y.toNat &&& (Builtin.bitNot x).toNat : Nat) : Int)) = Builtin.bitNot ((y.toNat ^^^ (Builtin.bitNot x).toNat : Nat) : Int) := by
      unfold Builtin.bitNot at *; omega
    rw [e, ibit_not, ibit_nat, Nat.testBit_xor]
    unfold ibit; rw [if_neg hx, if_pos hy]
    cases y.toNat.testBit k <;> cases (Builtin.bitNot x).toNat.testBit k <;> rfl
  · rw [bitAnd_nn hx hy]
    have h1 := nn (Builtin.bitNot x).toNat (Builtin.bitNot y).toNat
    have h2 := nat_or_add_and (Builtin.bitNot x).toNat (Builtin.bitNot y).toNat
    have hb := Int.toNat_of_nonneg (bitNot_nonneg.mpr hx)
    have hb' := Int.toNat_of_nonneg (bitNot_nonneg.mpr hy)
    have e : x + y - 2 * Builtin.bitNot (((Builtin.bitNot x).toNat ||| (Builtin.bitNot y).toNat : Nat) : Int) = (((Builtin.bitNot x).toNat ^^^ (Builtin.bitNot y).toNat : Nat) : Int) := by
      unfold Builtin.bitNot at *; omega
    rw [e, ibit_nat, Nat.testBit_xor]
    unfold ibit; rw [if_neg hx, if_neg hy]
    cases (Builtin.bitNot x).toNat.testBit k <;> cases (Builtin.bitNot y).toNat.testBit k <;> rfl
/-- kept: the bits from the 63rd on are alike -/
theorem kept_bits {x : Int} : IsKept x ↔ ∀ k, 63 ≤ k → ibit x k = ibit x 63 := by
  have nat : ∀ n : Nat, (n < 9223372036854775808) ↔ ∀ k, 63 ≤ k → n.testBit k = false := fun n => by
    constructor
    · intro h k hk
      exact Nat.testBit_lt_two_pow (Nat.lt_of_lt_of_le (show n < 2 ^ 63 from h) (Nat.pow_le_pow_right (by decide) hk))
    · intro h
      exact Nat.lt_pow_two_of_testBit (n := 63) n fun k hk => h k hk
  have lo : ∀ n : Nat, (∀ k, 63 ≤ k → n.testBit k = n.testBit 63) → n < 9223372036854775808 := fun n h => by
    rw [nat]
    intro k hk
    have a := h k hk
    have b := h (max n 63) (Nat.le_max_right ..)
    rw [Nat.testBit_lt_two_pow (Nat.lt_of_lt_of_le Nat.lt_two_pow_self (Nat.pow_le_pow_right (by decide) (Nat.le_max_left n 63)))] at b
    rw [a, ← b]
  constructor
  · intro h k hk
    unfold IsKept at h
    unfold ibit
    by_cases hx : 0 ≤ x
    · simp only [if_pos hx]
      have := (nat x.toNat).mp (by omega)
      rw [this k hk, this 63 (Nat.le_refl _)]
    · simp only [if_neg hx]
      have := (nat (Builtin.bitNot x).toNat).mp (by unfold Builtin.bitNot; omega)
      rw [this k hk, this 63 (Nat.le_refl _)]
  · intro h
    unfold ibit at h
    unfold IsKept
    by_cases hx : 0 ≤ x
    · simp only [if_pos hx] at h
      have := lo _ h; omega
    · simp only [if_neg hx, Bool.not_inj_iff] at h
      have := lo _ h
      unfold Builtin.bitNot at this; omega
theorem and_kept {x y : Int} (hx : IsKept x) (hy : IsKept y) : IsKept (Builtin.bitAnd x y) := by
  rw [kept_bits] at *; intro k hk; rw [ibit_and, ibit_and, hx k hk, hy k hk]
theorem or_kept {x y : Int} (hx : IsKept x) (hy : IsKept y) : IsKept (Builtin.bitOr x y) := by
  rw [kept_bits] at *; intro k hk; rw [ibit_or, ibit_or, hx k hk, hy k hk]
theorem xor_kept {x y : Int} (hx : IsKept x) (hy : IsKept y) : IsKept (Builtin.bitXor x y) := by
  rw [kept_bits] at *; intro k hk; rw [ibit_xor, ibit_xor, hx k hk, hy k hk]
/-- a bit by division -/
theorem bit_div (x : Int) (k : Nat) : x / 2 ^ k % 2 = if ibit x k = true then 1 else 0 := by
  have nat : ∀ n : Nat, ((n : Int) / 2 ^ k % 2) = if n.testBit k = true then 1 else 0 := fun n => by
    rw [Nat.testBit_eq_decide_div_mod_eq]
    have : ((n : Int) / 2 ^ k % 2) = ((n / 2 ^ k % 2 : Nat) : Int) := by
      rw [Int.natCast_emod, Int.natCast_ediv, Int.natCast_pow]; rfl
    rw [this]
    have := Nat.mod_two_eq_zero_or_one (n / 2 ^ k)
    rcases this with h | h <;> rw [h] <;> simp
  unfold ibit
  by_cases hx : 0 ≤ x
  · rw [if_pos hx, ← nat, Int.toNat_of_nonneg hx]
  · rw [if_neg hx]
    have hp : (0 : Int) < 2 ^ k := Int.pow_pos (by decide)
    have hb := Int.toNat_of_nonneg (bitNot_nonneg.mpr hx)
    have q := nat (Builtin.bitNot x).toNat
    rw [hb] at q
    have e : x / 2 ^ k = -(Builtin.bitNot x / 2 ^ k) - 1 := by
      unfold Builtin.bitNot
      have h1 := Int.mul_ediv_add_emod (-x - 1) (2 ^ k)
      have h2 := Int.emod_nonneg (-x - 1) (show (2 : Int) ^ k ≠ 0 by omega)
      have h3 := Int.emod_lt_of_pos (-x - 1) hp
      generalize (-x - 1) / 2 ^ k = q' at *
      generalize (-x - 1) % 2 ^ k = r' at *
      have : x = 2 ^ k - 1 - r' + (-q' - 1) * 2 ^ k := by
        rw [Int.sub_mul, Int.neg_mul, Int.one_mul, Int.mul_comm q']
        omega
      rw [this, Int.add_mul_ediv_right _ _ (by omega), Int.ediv_eq_zero_of_lt (by omega) (by omega)]
      omega
    rw [e]
    cases h : (Builtin.bitNot x).toNat.testBit k
    · rw [h] at q
      simp at q ⊢
      omega
    · rw [h] at q
      simp at q ⊢
      omega
end Law
namespace Law
open PySem PyProof.Rows
/-! the folds -/
def folds : List Str := ["sum", "product", "least", "most", "both", "either", "odd", "chain", "capped"]
def frees : List Str := ["sum", "product", "least", "most", "both", "either", "odd"]
theorem free_fold {f : Str} (h : f ∈ frees) : f ∈ folds := by simp only [frees, folds, List.mem_cons, List.mem_nil_iff, or_false] at *; rcases h with h | h | h | h | h | h | h <;> simp [h]
def lower (a b : Int) : Int := if b < a then b else a
def higher (a b : Int) : Int := if a < b then b else a
def cap (n : Int) : Int := if 1000000000 < n then 1000000000 else if n < -1000000000 then -1000000000 else n
def joinN (f : Str) (a b : Int) : Int :=
  if f = "sum" then keptN (a + b) else if f = "product" then keptN (a * b) else if f = "least" then lower a b else if f = "most" then higher a b else if f = "both" then Builtin.bitAnd a b else
  if f = "either" then Builtin.bitOr a b else if f = "odd" then Builtin.bitXor a b else if f = "chain" then keptN (31 * a + b) else cap (a + b)
theorem joinN_kept {f : Str} {a b : Int} (ka : IsKept a) (kb : IsKept b) : IsKept (joinN f a b) := by
  unfold joinN
  repeat' split
  all_goals first | exact keptN_kept _ | exact and_kept ka kb | exact or_kept ka kb | exact xor_kept ka kb | (unfold lower; split <;> assumption) | (unfold higher; split <;> assumption) | (unfold cap IsKept; unfold IsKept at ka kb; repeat' split <;> omega)
end Law
namespace Law
open PySem T
@[simp] theorem flats_ints : ∀ ns : List Int, D.flats (ns.map D.int) = true
  | [] => rfl
  | n :: ns => by rw [List.map_cons, D.flats, flats_ints ns]; rfl
/-! pieces of lists, places in lists -/
theorem cutL_tail {α : Type} (x : α) (xs : List α) : cutL (x :: xs) (some 1) none = xs := by
  unfold cutL
  have e : HT.sIx (x :: xs).length 0 (some 1) = 1 := by
    have := HT.sIx_nat (x :: xs).length 0 1
    rw [show ((1 : Nat) : Int) = 1 from rfl] at this
    rw [this]; simp
  rw [e, HT.sIx_none]; simp
theorem cutL_to {α : Type} (xs : List α) (n : Nat) : cutL xs none (some (n : Int)) = xs.take n := by
  unfold cutL
  rw [HT.sIx_nat, HT.sIx_none, List.drop_zero, Nat.sub_zero, List.take_eq_take_iff]
  omega
theorem cutL_nat {α : Type} (xs : List α) (a b : Nat) (hb : b ≤ xs.length) (ha : a ≤ b) : cutL xs (some (a : Int)) (some (b : Int)) = (xs.drop a).take (b - a) := by
  unfold cutL
  rw [HT.sIx_nat, HT.sIx_nat, Nat.min_eq_left hb, Nat.min_eq_left (Nat.le_trans ha hb)]
theorem atI_map {α β : Type} {f : α → β} {xs : List α} {j : Nat} (h : j < xs.length) : L2.atI (xs.map f) (j : Int) = some (f xs[j]) := L2.atI_nat (by rw [List.getElem?_map, List.getElem?_eq_getElem h]; rfl)
/-! the free folds are commutative and associative -/
theorem keptN_congr {x y : Int} (h : (x - y) % 18446744073709551616 = 0) : keptN x = keptN y := by unfold keptN; omega
theorem keptN_off (x : Int) : ∃ t, keptN x = x - 18446744073709551616 * t := ⟨(x + 9223372036854775808) / 18446744073709551616, by unfold keptN; omega⟩
theorem joinN_comm {f : Str} (hf : f ∈ frees) (a b : Int) : joinN f a b = joinN f b a := by
  simp only [frees, List.mem_cons, List.mem_nil_iff, or_false] at hf
  rcases hf with rfl | rfl | rfl | rfl | rfl | rfl | rfl <;> simp (decide := true) [joinN]
  · rw [Int.add_comm]
  · rw [Int.mul_comm]
  · unfold lower; split <;> split <;> omega
  · unfold higher; split <;> split <;> omega
  · exact ibit_ext fun k => by rw [ibit_and, ibit_and, Bool.and_comm]
  · exact ibit_ext fun k => by rw [ibit_or, ibit_or, Bool.or_comm]
  · exact ibit_ext fun k => by rw [ibit_xor, ibit_xor, Bool.xor_comm]
theorem joinN_assoc {f : Str} (hf : f ∈ frees) (a b c : Int) : joinN f (joinN f a b) c = joinN f a (joinN f b c) := by
  simp only [frees, List.mem_cons, List.mem_nil_iff, or_false] at hf
  rcases hf with rfl | rfl | rfl | rfl | rfl | rfl | rfl <;> simp (decide := true) [joinN]
  · unfold keptN; omega
  · obtain ⟨s, hs⟩ := keptN_off (a * b)
    obtain ⟨t, ht⟩ := keptN_off (b * c)
    refine keptN_congr ?_
    rw [hs, ht]
    have : (a * b - 18446744073709551616 * s) * c - a * (b * c - 18446744073709551616 * t) = 18446744073709551616 * (a * t - s * c) := by
      rw [Int.sub_mul, Int.mul_sub, Int.mul_sub, Int.mul_assoc a b c, Int.mul_assoc 18446744073709551616 s c, Int.mul_left_comm a 18446744073709551616 t]; omega
    rw [this]; exact Int.mul_emod_right _ _
  · unfold lower; repeat' split
    all_goals omega
  · unfold higher; repeat' split
    all_goals omega
  · exact ibit_ext fun k => by rw [ibit_and, ibit_and, ibit_and, ibit_and, Bool.and_assoc]
  · exact ibit_ext fun k => by rw [ibit_or, ibit_or, ibit_or, ibit_or, Bool.or_assoc]
  · exact ibit_ext fun k => by rw [ibit_xor, ibit_xor, ibit_xor, ibit_xor, Bool.xor_assoc]
theorem joinN_right {f : Str} (hf : f ∈ frees) (z x y : Int) : joinN f (joinN f z x) y = joinN f (joinN f z y) x := by
  rw [joinN_assoc hf, joinN_assoc hf, joinN_comm hf x y]
def foldO (f : Str) : List Int → Option Int
  | [] => none
  | x :: r => some (r.foldl (joinN f) x)
theorem foldO_perm {f : Str} (hf : f ∈ frees) {xs ys : List Int} (p : xs.Perm ys) : foldO f xs = foldO f ys := by
  induction p with
  | nil => rfl
  | cons x p ih =>
    rename_i l1 l2
    show some _ = some _
    rw [List.Perm.foldl_eq' p (fun a _ b _ z => joinN_right hf z a b)]
  | swap x y l => show some _ = some _; rw [List.foldl_cons, List.foldl_cons, joinN_comm hf]
  | trans _ _ h1 h2 => exact h1.trans h2
theorem foldN_kept {f : Str} : ∀ {r : List Int} {x : Int}, IsKept x → (∀ n ∈ r, IsKept n) → IsKept (r.foldl (joinN f) x)
  | [], x, k, _ => k
  | y :: r, x, k, h => foldN_kept (r := r) (joinN_kept k (h y (List.mem_cons_self))) fun n m => h n (List.mem_cons_of_mem _ m)
end Law
namespace T
/-- a while loop: what holds at each turn, and where its fuel can't be used up -/
theorem loopW_E {t : M Bool} {b : Sm} {K : Fl × En → Prop} : ∀ (n : Nat) (P : Nat → En → Prop) {ρ0 : En} (_ : P 0 ρ0)
    (_ : ∀ (i : Nat) ρ, i < n → P i ρ → Ends (t ρ) fun p => if p.1 = true then Ends (b p.2) (LoopK P i K) else K (.next, p.2)) (_ : ∀ ρ, ¬ P n ρ), Ends (loopW t b n ρ0) K
  | 0, P, ρ0, h0, h, hd => (hd _ h0).elim
  | n + 1, P, ρ0, h0, h, hd => by
    obtain ⟨p, e1, h1⟩ := h 0 ρ0 (by omega) h0
    rw [loopW, e1, R.bind_ok]
    split at h1
    · rename_i c
      rw [if_pos c]
      obtain ⟨⟨f, ρ2⟩, e2, h2⟩ := h1
      rw [e2, R.bind_ok]
      have rec_ : P 1 ρ2 → Ends (loopW t b n ρ2) K := fun p => loopW_E n (fun i => P (i + 1)) p (fun i ρ hi p => (h (i + 1) ρ (by omega) p).mono fun q r => by
        split
        · rename_i c; rw [if_pos c] at r; exact r.mono fun q r => r
        · rename_i c; rw [if_neg c] at r; exact r) hd
      cases f with
      | next => exact rec_ h2
      | cont => exact rec_ h2
      | brk => exact ⟨_, rfl, h2⟩
      | ret r => exact ⟨_, rfl, h2⟩
    · rename_i c
      rw [if_neg c]
      exact ⟨_, rfl, h1⟩
end T
namespace Law
open PySem T
/-! a piece of a row joined -/
def seg (f : Str) (xs : List Int) (lo : Nat) : Nat → Int
  | 0 => xs.getD lo 0
  | n + 1 => joinN f (seg f xs lo n) (xs.getD (lo + n + 1) 0)
theorem seg_join {f : Str} (hf : f ∈ frees) (xs : List Int) (lo m : Nat) : ∀ n, joinN f (seg f xs lo m) (seg f xs (lo + m + 1) n) = seg f xs lo (m + n + 1)
  | 0 => rfl
  | n + 1 => by
    show joinN f (seg f xs lo m) (joinN f (seg f xs (lo + m + 1) n) (xs.getD (lo + m + 1 + n + 1) 0)) = joinN f (seg f xs lo (m + n + 1)) (xs.getD (lo + (m + n + 1) + 1) 0)
    rw [← joinN_assoc hf, seg_join hf xs lo m n, show lo + m + 1 + n + 1 = lo + (m + n + 1) + 1 by omega]
theorem getD_kept {xs : List Int} (h : ∀ n ∈ xs, IsKept n) (i : Nat) : IsKept (xs.getD i 0) := by
  rw [List.getD_eq_getElem?_getD]
  by_cases q : i < xs.length
  · rw [List.getElem?_eq_getElem q]; exact h _ (List.getElem_mem q)
  · rw [List.getElem?_eq_none (by omega)]; unfold IsKept; simp
theorem seg_kept {f : Str} {xs : List Int} (h : ∀ n ∈ xs, IsKept n) (lo : Nat) : ∀ n, IsKept (seg f xs lo n)
  | 0 => getD_kept h lo
  | n + 1 => joinN_kept (seg_kept h lo n) (getD_kept h _)
/-- runs where each is joined of at most a numbers -/
def runsN (f : Str) (xs : List Int) (a : Nat) : List Int := (List.range xs.length).map fun k => if k < a then seg f xs 0 k else seg f xs (k + 1 - a) (a - 1)
theorem runs_len (f : Str) (xs : List Int) (a : Nat) : (runsN f xs a).length = xs.length := by unfold runsN; simp
theorem runs_at {f : Str} {xs : List Int} {a k : Nat} (h : k < xs.length) : L2.atI ((runsN f xs a).map D.int) (k : Int) = some (.int (if k < a then seg f xs 0 k else seg f xs (k + 1 - a) (a - 1))) := by
  rw [atI_map (by rw [runs_len]; exact h)]; unfold runsN; simp
theorem runs_one (f : Str) (xs : List Int) : runsN f xs 1 = xs := by
  unfold runsN
  refine List.ext_getElem (by simp) fun i h1 h2 => ?_
  simp only [List.getElem_map, List.getElem_range]
  split
  · have : i = 0 := by omega
    subst this; rw [seg, List.getD_eq_getElem?_getD, List.getElem?_eq_getElem h2]; rfl
  · rw [show i + 1 - 1 = i by omega, show 1 - 1 = 0 by omega, seg, List.getD_eq_getElem?_getD, List.getElem?_eq_getElem h2]; rfl
theorem runs_step {f : Str} (hf : f ∈ frees) {xs : List Int} {a k : Nat} (ha : 1 ≤ a) (hk : a ≤ k) :
    joinN f (if k - a < a then seg f xs 0 (k - a) else seg f xs (k - a + 1 - a) (a - 1)) (if k < a then seg f xs 0 k else seg f xs (k + 1 - a) (a - 1)) = if k < a * 2 then seg f xs 0 k else seg f xs (k + 1 - a * 2) (a * 2 - 1) := by
  rw [if_neg (by omega : ¬ k < a)]
  by_cases h : k - a < a
  · rw [if_pos h, if_pos (by omega)]
    have := seg_join hf xs 0 (k - a) (a - 1)
    rw [show 0 + (k - a) + 1 = k + 1 - a by omega, show k - a + (a - 1) + 1 = k by omega] at this
    exact this
  · rw [if_neg h, if_neg (by omega)]
    have := seg_join hf xs (k - a + 1 - a) (a - 1) (a - 1)
    rw [show k - a + 1 - a + (a - 1) + 1 = k + 1 - a by omega, show a - 1 + (a - 1) + 1 = a * 2 - 1 by omega, show k - a + 1 - a = k + 1 - a * 2 by omega] at this
    rw [show k - a + 1 - a = k + 1 - a * 2 by omega]
    exact this
end Law
namespace Law
open PySem T
/-! texts as lists of signs -/
def S (l : List Nat) : Str := ⟨l.toArray⟩
theorem S_app (a b : List Nat) : S a ++ S b = S (a ++ b) := by
  show Str.mk (a.toArray ++ b.toArray) = Str.mk (a ++ b).toArray
  simp
@[simp] theorem S_len (l : List Nat) : (S l).length = l.length := by simp [S, Str.length]
theorem S_inj {a b : List Nat} : S a = S b ↔ a = b := by
  refine ⟨fun h => ?_, fun h => by rw [h]⟩
  have := congrArg (fun s : Str => s.cps.toList) h
  simpa [S] using this
theorem S_of (z : Str) : z = S z.cps.toList := by cases z; simp [S]
theorem S_one (c : Nat) : (⟨#[c]⟩ : Str) = S [c] := rfl
@[simp] theorem S_list (l : List Nat) : (S l).cps.toList = l := by simp [S]
theorem lit_empty : ("" : Str) = S [] := by decide +kernel
theorem lit_blank : (" " : Str) = S [32] := by decide +kernel
theorem lit_open : ("(" : Str) = S [40] := by decide +kernel
theorem lit_close : (")" : Str) = S [41] := by decide +kernel
def DS (l : List Nat) : D := .str (S l)
@[simp] theorem flats_DS : ∀ ws : List (List Nat), D.flats (ws.map DS) = true
  | [] => rfl
  | n :: ns => by rw [List.map_cons, D.flats, flats_DS ns]; rfl
/-! the words of a line -/
def Spec (c : Nat) : Prop := c = 32 ∨ c = 40 ∨ c = 41
instance (c : Nat) : Decidable (Spec c) := inferInstanceAs (Decidable (_ ∨ _))
def flush (w : List Nat) : List (List Nat) := if w = [] then [] else [w]
def wstep (q : List (List Nat) × List Nat) (c : Nat) : List (List Nat) × List Nat :=
  if Spec c then (q.1 ++ flush q.2 ++ (if c = 32 then [] else [[c]]), []) else (q.1, q.2 ++ [c])
def wfold (l : List Nat) : List (List Nat) × List Nat := l.foldl wstep ([], [])
def wordsN (l : List Nat) : List (List Nat) := (wfold l).1 ++ flush (wfold l).2
theorem wfold_app (a b : List Nat) : wfold (a ++ b) = b.foldl wstep (wfold a) := by unfold wfold; rw [List.foldl_append]
theorem flush_len (w : List Nat) : (flush w).length ≤ 1 := by unfold flush; split <;> simp
theorem wfold_len (l : List Nat) : ∀ i, ((wfold (l.take i)).1.length ≤ 2 * i) ∧ (wfold (l.take i)).2.length ≤ i
  | 0 => by simp [wfold]
  | i + 1 => by
    have ih := wfold_len l i
    by_cases h : i < l.length
    · rw [List.take_add_one, List.getElem?_eq_getElem h, Option.toList_some, wfold_app]
      show (wstep _ _).1.length ≤ _ ∧ (wstep _ _).2.length ≤ _
      have f := flush_len (wfold (l.take i)).2
      unfold wstep
      split
      · refine ⟨?_, by simp⟩
        have : ∀ c : Nat, (if c = 32 then [] else [[c]] : List (List Nat)).length ≤ 1 := fun c => by split <;> simp
        have := this l[i]
        simp only [List.length_append]
        omega
      · refine ⟨by simp only; omega, by simp only [List.length_append, List.length_singleton]; omega⟩
    · rw [List.take_of_length_le (by omega)]
      rw [List.take_of_length_le (by omega)] at ih
      omega
theorem wfold_signs {sg : List Nat} (h : ∀ c ∈ sg, ¬ Spec c) : ∀ q, sg.foldl wstep q = (q.1, q.2 ++ sg) := by
  induction sg with
  | nil => intro q; simp
  | cons c r ih =>
    intro q
    rw [List.foldl_cons, ih (fun c m => h c (List.mem_cons_of_mem _ m))]
    unfold wstep
    rw [if_neg (h c (List.mem_cons_self))]
    simp
theorem wfold_blanks (q : List (List Nat) × List Nat) : ∀ k, (List.replicate (k + 1) 32).foldl wstep q = (q.1 ++ flush q.2, [])
  | 0 => by simp [wstep, Spec]
  | k + 1 => by
    rw [List.replicate_succ', List.foldl_append, wfold_blanks q k]
    simp [wstep, Spec, flush]
end Law
noncomputable section
namespace Law
open PySem T
theorem dEqS (a b : List Nat) : dEq (.str (S a)) (.str (S b)) = .ok (.val (.bl (decide (a = b)))) := by rw [dEq_str]; simp only [S_inj]
theorem words_of_eq {l : List Nat} (hl : l.length ≤ 100000) : m_words_of [.str (S l)] = .ok (.new (.lst ((wordsN l).map DS))) := by
  refine Ends.eq ?_
  simp [m_words_of, b_words_of, lit_empty]
  have es : sgn (S l) = l.map fun c => D.str (S [c]) := by unfold sgn; rw [S_list]; rfl
  rw [es]
  refine loop_E (fun i ρ => ∃ s3, ρ = [.val (.str (S l)), .own (.lst ((wfold (l.take i)).1.map DS)), .val (.str (S (wfold (l.take i)).2)), s3]) ⟨.un, by simp [wfold]⟩ ?_ ?_
  · rintro i d ρ hd ⟨s3, rfl⟩
    rw [List.getElem?_map] at hd
    cases q : l[i]? with
    | none => rw [q] at hd; cases hd
    | some c =>
      rw [q] at hd; cases hd
      have hi : i < l.length := (List.getElem?_eq_some_iff.mp q).1
      have et : wfold (l.take (i + 1)) = wstep (wfold (l.take i)) c := by
        rw [List.take_add_one, q, Option.toList_some, wfold_app]; rfl
      obtain ⟨b1, b2⟩ := wfold_len l i
      simp only [LoopK, et]
      generalize wfold (l.take i) = st at *
      obtain ⟨ws, w⟩ := st
      simp only at b1 b2
      have c1 : ws.length < 16777216 := by omega
      have c2 : ws.length + 1 < 16777216 := by omega
      have c3 : w.length + 1 ≤ 16777216 := by omega
      by_cases h1 : c = 32
      · subst h1
        by_cases h2 : w = []
        · subst h2; simp [l1_words_of, lit_empty, lit_blank, lit_open, lit_close, dEqS, wstep, et, S_inj, Spec, flush, DS]
        · simp [l1_words_of, lit_empty, lit_blank, lit_open, lit_close, dEqS, wstep, et, S_inj, Spec, flush, h2, DS, c1]
      · by_cases h3 : c = 40 ∨ c = 41
        · have sp : Spec c := .inr h3
          by_cases h2 : w = []
          · subst h2
            rcases h3 with rfl | rfl <;> simp [l1_words_of, lit_empty, lit_blank, lit_open, lit_close, dEqS, wstep, et, S_inj, Spec, flush, DS, c1]
          · rcases h3 with rfl | rfl <;> simp [l1_words_of, lit_empty, lit_blank, lit_open, lit_close, dEqS, wstep, et, S_inj, Spec, flush, h2, DS, c1, c2]
        · have sp : ¬ Spec c := fun h => by rcases h with h | h; exact h1 h; exact h3 h
          have h4 : ¬ c = 40 := fun h => h3 (.inl h)
          have h5 : ¬ c = 41 := fun h => h3 (.inr h)
          simp [l1_words_of, lit_empty, lit_blank, lit_open, lit_close, dEqS, wstep, et, S_inj, sp, h1, h4, h5, c3, S_app]
  · rintro ρ ⟨s3, rfl⟩
    obtain ⟨b1, b2⟩ := wfold_len l l.length
    rw [List.length_map, List.take_of_length_le (Nat.le_refl _)]
    rw [List.take_of_length_le (Nat.le_refl _)] at b1 b2
    unfold wordsN
    generalize wfold l = st at *
    obtain ⟨ws, w⟩ := st
    simp only at b1 b2
    have c1 : ws.length < 16777216 := by omega
    by_cases h2 : w = []
    · subst h2; simp [dEqS, S_inj, flush, lit_empty]
    · simp [dEqS, S_inj, flush, lit_empty, h2, c1, DS]

end Law
namespace Law
open PySem T
def some91 : List Nat := ((Str.ofString "!\"#$&'*+,-./0123456789:;<=>?@ABCDEFGHIJKLMNOPQRSTUVWXYZ[\\]^_`").cps.toList ++ (Str.ofString "abcdefghijklmnopqrstuvwxyz{|}~").cps.toList)
theorem some91_eq : Str.ofString "!\"#$&'*+,-./0123456789:;<=>?@ABCDEFGHIJKLMNOPQRSTUVWXYZ[\\]^_`" ++ Str.ofString "abcdefghijklmnopqrstuvwxyz{|}~" = S some91 := by
  rw [S_of (Str.ofString "!\"#$&'*+,-./0123456789:;<=>?@ABCDEFGHIJKLMNOPQRSTUVWXYZ[\\]^_`"), S_of (Str.ofString "abcdefghijklmnopqrstuvwxyz{|}~"), S_app]
  unfold some91
  simp only [S_list]
theorem some91_len : some91.length = 91 := by decide +kernel
theorem some91_all : ∀ c ∈ some91, ¬ Spec c := by
  have : some91.all (fun c => decide (¬ Spec c)) = true := by decide +kernel
  intro c m; simpa using List.all_eq_true.mp this c m
theorem signs_by_eq (c : Int) : ∃ sg : List Nat, m__law_signs_by [.int c] = .ok (.val (.str (S sg))) ∧ sg ≠ [] ∧ sg.length ≤ 20 ∧ ∀ x ∈ sg, ¬ Spec x := by
  have h : Ends (m__law_signs_by [.int c]) fun r => ∃ sg : List Nat, r = .val (.str (S sg)) ∧ sg ≠ [] ∧ sg.length ≤ 20 ∧ ∀ x ∈ sg, ¬ Spec x := by
    have l1 : (Str.ofString "!\"#$&'*+,-./0123456789:;<=>?@ABCDEFGHIJKLMNOPQRSTUVWXYZ[\\]^_`").length = 61 := by decide +kernel
    have l2 : (Str.ofString "abcdefghijklmnopqrstuvwxyz{|}~").length = 30 := by decide +kernel
    have hb : RB (c % 20 + 1) := RB.of (by omega) (by omega)
    simp [m__law_signs_by, b__law_signs_by, l1, l2, some91_eq, lit_empty, hb]
    refine loop_R (fun i ρ => ∃ (s4 : Sl) (sg : List Nat) (mx : Int), sg.length = i ∧ (∀ x ∈ sg, ¬ Spec x) ∧ ρ = [.val (.int c), .val (.str (S some91)), .val (.int mx), .val (.str (S sg)), s4]) ⟨.un, [], _, rfl, by simp, rfl⟩ ?_ ?_
    · rintro i ρ hi ⟨s4, sg, mx, hl, hs, rfl⟩
      obtain ⟨q, hq, q9⟩ : ∃ q : Nat, mx % 91 = (q : Int) ∧ q < 91 := ⟨(mx % 91).toNat, by omega, by omega⟩
      have hq' : q < some91.length := by rw [some91_len]; exact q9
      have a := L2.atI_nat (List.getElem?_eq_getElem hq')
      have hx := some91_all _ (List.getElem_mem hq')
      generalize some91[q] = x at a hx
      have hc : sg.length + 1 ≤ 16777216 := by omega
      have hall : ∀ y ∈ sg ++ [x], ¬ Spec y := fun y m => by
        rcases List.mem_append.mp m with m | m
        · exact hs y m
        · rw [List.mem_singleton.mp m]; exact hx
      have hln : (sg ++ [x]).length = i + 1 := by simp [hl]
      by_cases h2 : c / 20 % 2 = 1
      · simp [l1__law_signs_by, hq, some91_len, a, S_one, S_app, hc, h2]
        exact ⟨_, _, hln, hall, rfl, rfl⟩
      · simp [l1__law_signs_by, hq, some91_len, a, S_one, S_app, hc, h2]
        exact ⟨_, _, hln, hall, rfl, rfl⟩
    · rintro ρ ⟨s4, sg, mx, hl, hs, rfl⟩
      simp
      refine ⟨sg, rfl, fun e => ?_, by omega, hs⟩
      subst e
      simp at hl
      omega
  obtain ⟨r, e, sg, rfl, h⟩ := h
  exact ⟨sg, e, h⟩
theorem same_eq (ws : List (List Nat)) (hl : ws.length ≤ 100000) : m__law_same [.lst (ws.map DS), .lst (ws.map DS)] = .ok (.val (.bl true)) := by
  refine Ends.eq ?_
  have hb : RB (ws.length : Int) := RB.of (by omega) (by omega)
  simp [m__law_same, b__law_same, hb]
  generalize hn : (ws.length : Int) = n
  refine loop_R (fun i ρ => ∃ s2, ρ = [.val (.lst (ws.map DS)), .val (.lst (ws.map DS)), s2]) ⟨.un, rfl⟩ ?_ ?_
  · rintro i ρ hi ⟨s2, rfl⟩
    have hi' : i < ws.length := by omega
    have a := atI_map (f := DS) hi'
    simp [l1__law_same, a, DS, dEq_str]
  · rintro ρ ⟨s2, rfl⟩
    simp
theorem lit_paren : ("()" : Str) = S [40, 41] := by decide +kernel
theorem blanks_eq (n : Int) : Txt.mul (S [32]) n = S (List.replicate n.toNat 32) := by
  have := mulS_list 32 n
  rw [S_of (Txt.mul (S [32]) n)]
  exact congrArg S this
theorem line_by_eq {ms : List Int} (hms : ms.length ≤ 64) : ∃ l : List Nat, m__law_line_by [.lst (ms.map D.int)] = .ok (.val (.tup [.str (S l), .lst ((wordsN l).map DS)])) ∧ l.length ≤ 1280 := by
  have h : Ends (m__law_line_by [.lst (ms.map D.int)]) fun r => ∃ l : List Nat, r = .val (.tup [.str (S l), .lst ((wordsN l).map DS)]) ∧ l.length ≤ 1280 := by
    simp [m__law_line_by, b__law_line_by, lit_empty]
    refine loop_I (ns := ms) (fun i ρ => ∃ (l : List Nat) (ws : List (List Nat)) (w : List Nat) (s4 s5 s6 : Sl), l.length ≤ 20 * i ∧ ws.length ≤ 20 * i ∧ wfold l = (ws, w) ∧ ρ = [.val (.lst (ms.map D.int)), .val (.str (S l)), .own (.lst ((ws ++ flush w).map DS)), .val (.bl (decide (w ≠ []))), s4, s5, s6]) ⟨[], [], [], .un, .un, .un, by simp, by simp, rfl, by simp [flush]⟩ ?_ ?_
    · rintro i c ρ hc ⟨l, ws, w, s4, s5, s6, hl, hw, hf, rfl⟩
      have hi : i < ms.length := (List.getElem?_eq_some_iff.mp hc).1
      have fl := flush_len w
      have lp : (S [40, 41]).length ≤ 16777216 := by simp
      have lb : (S [32]).length ≤ 16777216 := by simp
      by_cases h0 : c % 6 = 0
      · have mo : PySem.MulOk (S [32]) (c / 6 % 3 + 1) := mulS_ok (c := 32) (by omega) (by omega)
        have hk : l.length + (c / 6 % 3 + 1).toNat ≤ 16777216 := by omega
        obtain ⟨k, hk1, hk2⟩ : ∃ k : Nat, (c / 6 % 3 + 1).toNat = k + 1 ∧ k < 3 := ⟨(c / 6 % 3).toNat, by omega, by omega⟩
        have wf : wfold (l ++ List.replicate (k + 1) 32) = (ws ++ flush w, []) := by rw [wfold_app, hf, wfold_blanks]
        simp [l1__law_line_by, h0, lit_blank, mo, blanks_eq, S_app, hk, hk1]
        rw [hk1] at hk
        refine ⟨hk, l ++ List.replicate (k + 1) 32, ?_, ws ++ flush w, ?_, [], wf, ?_⟩
        rotate_left 2
        · simp [flush]
        · simp; omega
        · simp; omega
      · by_cases h3 : c % 6 < 3
        · obtain ⟨x, hx, sx⟩ : ∃ x : Nat, L2.atI [40, 41] (c % 6 - 1) = some x ∧ (x = 40 ∨ x = 41) := by
            have : c % 6 = 1 ∨ c % 6 = 2 := by omega
            rcases this with h | h
            · exact ⟨40, by rw [h]; rfl, .inl rfl⟩
            · exact ⟨41, by rw [h]; rfl, .inr rfl⟩
          have sp : Spec x := .inr sx
          have nx : ¬ x = 32 := by omega
          have wf : wfold (l ++ [x]) = (ws ++ flush w ++ [[x]], []) := by rw [wfold_app, hf]; simp [wstep, sp, nx]
          have hk : l.length + 1 ≤ 16777216 := by omega
          have hk2 : ws.length + (flush w).length < 16777216 := by omega
          simp [l1__law_line_by, h0, h3, lit_paren, hx, S_one, S_app, hk, hk2]
          refine ⟨l ++ [x], ?_, ws ++ flush w ++ [[x]], ?_, [], wf, ?_⟩
          rotate_left 2
          · simp [flush, DS]
          · simp; omega
          · simp; omega
        · obtain ⟨sg, es, h1, h2, h4⟩ := signs_by_eq (c / 6)
          have wf : wfold (l ++ sg) = (ws, w ++ sg) := by rw [wfold_app, hf, wfold_signs h4]
          have hk : l.length + sg.length ≤ 16777216 := by omega
          have hne : w ++ sg ≠ [] := fun e => h1 (List.append_eq_nil_iff.mp e).2
          have fe : flush (w ++ sg) = [w ++ sg] := by unfold flush; rw [if_neg hne]
          by_cases hw0 : w = []
          · subst hw0
            have hk2 : ws.length < 16777216 := by omega
            have fe' : flush sg = [sg] := by unfold flush; rw [if_neg h1]
            simp [l1__law_line_by, h0, h3, es, S_app, hk, flush, hk2]
            refine ⟨l ++ sg, ?_, ws, ?_, sg, wf, ?_⟩
            rotate_left 2
            · simp [flush, DS, h1]
            · simp; omega
            · omega
          · have fw : flush w = [w] := by unfold flush; rw [if_neg hw0]
            have al := L2.atI_last (ws.map DS) (DS w)
            have ix : L2.ixN (ws.length + 1) (-1) = some ws.length := by
              unfold L2.ixN
              rw [if_neg (by omega), if_pos (by omega)]
              congr 1; omega
            have hwl : w.length + sg.length ≤ 16777216 := by
              have := (wfold_len l l.length).2
              rw [List.take_of_length_le (Nat.le_refl _), hf] at this
              simp only at this
              omega
            have st : (ws.map DS ++ [DS w]).set ws.length (DS (w ++ sg)) = ws.map DS ++ [DS (w ++ sg)] := by
              rw [List.set_append_right _ _ (by simp)]; simp
            simp only [DS] at al st
            simp [l1__law_line_by, h0, h3, es, S_app, hk, fw, hw0, DS, al, ix, hwl, st]
            refine ⟨l ++ sg, ?_, ws, ?_, w ++ sg, wf, ?_⟩
            rotate_left 2
            · simp [flush, DS, hw0]
            · simp; omega
            · omega
    · rintro ρ ⟨l, ws, w, s4, s5, s6, hl, hw, hf, rfl⟩
      simp
      refine ⟨l, ⟨rfl, by unfold wordsN; rw [hf]; simp⟩, by omega⟩
  obtain ⟨r, e, l, rfl, h⟩ := h
  exact ⟨l, e, h⟩
theorem wordsN_len {l : List Nat} (h : l.length ≤ 1280) : (wordsN l).length ≤ 100000 := by
  have w := wfold_len l l.length
  rw [List.take_of_length_le (Nat.le_refl _)] at w
  have f := flush_len (wfold l).2
  unfold wordsN
  rw [List.length_append]
  omega
theorem law_true : ∀ ns : List Int, ns.length ≤ 63 → fnM 6 b_law [.scr ns] = .ok (.val (.bl true)) := by
  intro ns hl
  refine Ends.eq ?_
  have cl : ∀ lo hi, (cutL ns lo hi).length ≤ 63 := fun lo hi => by
    unfold cutL; rw [List.length_take, List.length_drop]; omega
  obtain ⟨l1, e1, h1⟩ := line_by_eq (ms := cutL ns none (some 250)) (by have := cl none (some 250); omega)
  obtain ⟨l2, e2, h2⟩ := line_by_eq (ms := cutL ns (some 1) (some 250) ++ [7]) (by rw [List.length_append]; have := cl (some 1) (some 250); simp; omega)
  have w1 := words_of_eq (l := l1) (by omega)
  have w2 := words_of_eq (l := l2) (by omega)
  have s1 := same_eq (wordsN l1) (wordsN_len h1)
  have s2 := same_eq (wordsN l2) (wordsN_len h2)
  have c2 := cl (some 1) (some 250)
  have n1 := wordsN_len h1
  have mo : PySem.MulOk (S [32]) ((wordsN l1).length % 9) := mulS_ok (c := 32) (by omega) (by omega)
  have wb : m_words_of [.str (S (List.replicate ((wordsN l1).length % 9) 32))] = .ok (.new (.lst [])) := by
    rw [words_of_eq (by simp; omega)]
    have : wordsN (List.replicate ((wordsN l1).length % 9) 32) = [] := by
      generalize (wordsN l1).length % 9 = k
      cases k with
      | zero => rfl
      | succ k => unfold wordsN wfold; rw [wfold_blanks]; rfl
    rw [this]; rfl
  have s0 := same_eq [] (by simp)
  generalize wordsN l1 = W1 at *
  generalize wordsN l2 = W2 at *
  have mi : (((W1.length : Int) % 9)).toNat = W1.length % 9 := by omega
  rw [List.map_append] at e2
  simp at e2 s0
  have cb : (cutL ns (some 1) (some 250)).length + 1 ≤ 16777216 := by omega
  have nb : W1.length < 16777216 := by omega
  simp [b_law, e1, e2, w1, w2, s1, s2, cb, nb, lit_blank, mo, blanks_eq, mi, wb, s0]
end Law
namespace Law
open PySem PySem.Spec PyProof.Rows L2 T
theorem fin {P : Program} {w : World} {K : PySem.W.Frag} {mg : Str → Option Value} {h : Heap} (_ : K.In h) (Z : Tx K mg)
    (d_words_of : Def K mg "words_of" s_words_of ["line"])
    (d__law_signs_by : Def K mg "_law_signs_by" s__law_signs_by ["_law_cell"])
    (d__law_line_by : Def K mg "_law_line_by" s__law_line_by ["_law_cells"])
    (d__law_same : Def K mg "_law_same" s__law_same ["_law_found", "_law_due"])
    (d_law : Def K mg "law" s_law ["_law_script"])
    : Def K mg "law" s_law ["_law_script"] ∧ ∀ base : Heap, BodyOk P w K mg base "law" s_law ["_law_script", "_law_line", "_law_due", "_law_held", "_law_other", "_law_due_there"] 2 b_law := by
  refine ⟨d_law, fun base => ?_⟩
  have c_words_of := cal_mk (P := P) (w := w) (base := base) d_words_of sc_words_of rfl (bd_words_of Z )
  have c__law_signs_by := cal_mk (P := P) (w := w) (base := base) d__law_signs_by sc__law_signs_by rfl (bd__law_signs_by Z )
  have c__law_line_by := cal_mk (P := P) (w := w) (base := base) d__law_line_by sc__law_line_by rfl (bd__law_line_by Z c__law_signs_by)
  have c__law_same := cal_mk (P := P) (w := w) (base := base) d__law_same sc__law_same rfl (bd__law_same Z )
  exact bd_law Z c__law_line_by c_words_of c__law_same
end Law
open PySem PySem.W PyProof.Rows
set_option maxRecDepth 100000 in
set_option maxHeartbeats 0 in
theorem PySem.Challenge.cw_rowbreadth_k21_words_of_a_line_holds : PySem.Challenge.rw_rowbreadth_k21_words_of_a_line.Holds := by
  w_on; o_law; k_head; (case hw => w_witness2)
  k_fill
  refine T.walk_law (l := PySem.Challenge.rw_rowbreadth_k21_words_of_a_line) (k := 2) (st := Law.s_law) rfl rfl rfl ⟨rfl, by decide, by decide⟩ (fun w h Y => PySem.W.kIn_of Y) Law.sc_law Law.law_true ?F
  case F =>
    intro w mg h KX G
    refine' Law.fin KX ?Z ?d0 ?d1 ?d2 ?d3 ?d4
    (case Z => refine' ⟨PySem.W.mg_none_of KX G ?z0, PySem.W.mg_none_of KX G ?z1, PySem.W.mg_none_of KX G ?z2, PySem.W.mg_none_of KX G ?z3, PySem.W.mg_none_of KX G ?z4⟩; (case z0 => k_is); (case z1 => k_is); (case z2 => k_is); (case z3 => k_is); (case z4 => k_is))
    (case d0 => refine' T.def_mk (st := Law.s_words_of) KX G ?a ?l ?c ?k (fun _ _ _ _ _ _ us hl => match us, hl with | [_], _ => rfl); (case a => k_is); (case l => k_is); (case c => k_is); (case k => k_is))
    (case d1 => refine' T.def_mk (st := Law.s__law_signs_by) KX G ?a ?l ?c ?k (fun _ _ _ _ _ _ us hl => match us, hl with | [_], _ => rfl); (case a => k_is); (case l => k_is); (case c => k_is); (case k => k_is))
    (case d2 => refine' T.def_mk (st := Law.s__law_line_by) KX G ?a ?l ?c ?k (fun _ _ _ _ _ _ us hl => match us, hl with | [_], _ => rfl); (case a => k_is); (case l => k_is); (case c => k_is); (case k => k_is))
    (case d3 => refine' T.def_mk (st := Law.s__law_same) KX G ?a ?l ?c ?k (fun _ _ _ _ _ _ us hl => match us, hl with | [_, _], _ => rfl); (case a => k_is); (case l => k_is); (case c => k_is); (case k => k_is))
    (case d4 => refine' T.def_mk (st := Law.s_law) KX G ?a ?l ?c ?k (fun _ _ _ _ _ _ us hl => match us, hl with | [_], _ => rfl); (case a => k_is); (case l => k_is); (case c => k_is); (case k => k_is))
