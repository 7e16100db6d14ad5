import PyProof.Rows.All
import HandS.ForMost
import HandS.Exc
import HandS.TupAny
import HandS.IsInst
import HandS.Flow
import HandS.CallSlots
import KE.DataCmp
import HandS.Deep
import HandS.Style
import HandS.Steps
import HandS.TupMul
import KE.DataEq
import HandS.WordsExc
import KE.SortData
import HandS.SortInts
import HandS.Walk
import HandS.AnyAll
import HandS.GenOver
import PyProof.GenQ
import HandS.NoneIn
import HandS.Small
import KE.KDictCopyH
import HandS.Iter
import HandS.DictTup
import KE.KDictSum
import PyProof.Transfer
import HandS.EndTab
import KE.GoesNew
import KE.GoesEnum
import KE.DataMinMax
import HandS.List
import HandS.Call
import KE.DatumOrd
import PySem.Challenge.RW_standsdespite_k03_ways_and_who_vouches
set_option Elab.async false
set_option linter.all false
set_option maxRecDepth 100000
set_option maxHeartbeats 1000000
/-! Core1: value trees over the abstract heap. -/
namespace Cor
open PySem PySem.Spec PyProof.Rows L2

abbrev D := PyData
/-- a reference to a cell of the store -/
abbrev rf (n : Nat) : D := .dict [(.int n, .none)]

/-- the addresses of the store's cells; of lists that are being made -/
structure Rho where
  c : List Addr
  h : List Addr
instance : Membership Addr Rho := ⟨fun ρ a => a ∈ ρ.c ∨ a ∈ ρ.h⟩
theorem Rho.mem {ρ : Rho} {a : Addr} : a ∈ ρ ↔ a ∈ ρ.c ∨ a ∈ ρ.h := Iff.rfl
theorem Rho.nc {ρ : Rho} {a : Addr} (h : a ∉ ρ) : a ∉ ρ.c := fun z => h (.inl z)
def Rho.add (ρ : Rho) (p : Addr) : Rho := ⟨ρ.c ++ [p], ρ.h⟩
def Rho.hide (ρ : Rho) (p : Addr) : Rho := ⟨ρ.c, p :: ρ.h⟩
/-- a tuple: tracked, no cell of the store -/
def TupAt (H : Hp) (ρ : Rho) (a : Addr) (xs : List V) : Prop := H a = some (.tup xs) ∧ a ∉ ρ
theorem TupAt.sq {K : PySem.W.Frag} {H : Hp} {ρ : Rho} {a : Addr} {xs : List V} (h : TupAt H ρ a xs) : SqT K H a xs := .inl (.inl h.1)
def LstAt (H : Hp) (ρ : Rho) (a : Addr) (xs : List V) : Prop := Rd H a (.lst xs) ∧ a ∉ ρ
theorem LstAt.sq {K : PySem.W.Frag} {H : Hp} {ρ : Rho} {a : Addr} {xs : List V} (h : LstAt H ρ a xs) : SqL K H a xs := .inl h.1

mutual
inductive Rp (K : PySem.W.Frag) (H : Hp) (ρ : Rho) : V → D → Prop
  | non : Rp K H ρ .non .none
  | bl (b : Bool) : Rp K H ρ (.bl b) (.bool b)
  | int (i : Int) : Rp K H ρ (.int i) (.int i)
  | str (x : Str) : Rp K H ρ (.str x) (.str x)
  | lst {a : Addr} {xs : List V} {ds : List D} : LstAt H ρ a xs → RpL K H ρ xs ds → Rp K H ρ (.ref a) (.list ds)
  | tup {a : Addr} {xs : List V} {ds : List D} : TupAt H ρ a xs → RpL K H ρ xs ds → Rp K H ρ (.ref a) (.tuple ds)
  | rf {a : Addr} {n : Nat} : ρ.c[n]? = some a → Rp K H ρ (.ref a) (rf n)
inductive RpL (K : PySem.W.Frag) (H : Hp) (ρ : Rho) : List V → List D → Prop
  | nil : RpL K H ρ [] []
  | cons {v : V} {vs : List V} {d : D} {ds : List D} : Rp K H ρ v d → RpL K H ρ vs ds → RpL K H ρ (v :: vs) (d :: ds)
end

/-- a code object's table stands at P -/
def TabG (H : Hp) (P : Addr) : Prop := ∃ ps : Array Value, H P = some (.tbl ps) ∧ TriplesOk ps.toList

/-- the heap goes on: cells may change, what is no cell stays (a table may grow), new cells were free -/
structure Stp (ρ : Rho) (H : Hp) (ρ' : Rho) (H' : Hp) : Prop where
  pre : ∃ t, ρ'.c = ρ.c ++ t
  hid : ∃ t, ρ'.h = t ++ ρ.h ∧ ∀ a ∈ t, a ∈ ρ.c ∨ H a = none
  new : ∀ a ∈ ρ'.c, a ∈ ρ.c ∨ H a = none
  keep : ∀ a o, H a = some o → a ∉ ρ.c → ∃ o', H' a = some o' ∧ ((∀ ps, o ≠ .tbl ps) → o' = o)
  tab : ∀ P, P ∉ ρ.c → TabG H P → TabG H' P

section
variable {K : PySem.W.Frag} {H H' H'' : Hp} {ρ ρ' ρ'' : Rho}
theorem Stp.refl : Stp ρ H ρ H := ⟨⟨[], by simp⟩, ⟨[], rfl, fun _ h => nomatch h⟩, fun _ h => .inl h, fun _ o h _ => ⟨o, h, fun _ => rfl⟩, fun _ _ h => h⟩
theorem Stp.outc (s : Stp ρ H ρ' H') {a : Addr} {o : HO} (h : H a = some o) (n : a ∉ ρ.c) : a ∉ ρ'.c := fun z => by
  rcases s.new a z with q | q
  · exact n q
  · rw [h] at q; cases q
theorem Stp.out (s : Stp ρ H ρ' H') {a : Addr} {o : HO} (h : H a = some o) (n : a ∉ ρ) : a ∉ ρ' := fun z => by
  rcases z with z | z
  · exact s.outc h (Rho.nc n) z
  · obtain ⟨t, e, ht⟩ := s.hid
    rw [e] at z
    rcases List.mem_append.mp z with z | z
    · rcases ht a z with q | q
      · exact n (.inl q)
      · rw [h] at q; cases q
    · exact n (.inr z)
theorem Stp.trans (s : Stp ρ H ρ' H') (t : Stp ρ' H' ρ'' H'') : Stp ρ H ρ'' H'' where
  pre := by
    obtain ⟨a, ea⟩ := s.pre
    obtain ⟨b, eb⟩ := t.pre
    exact ⟨a ++ b, by rw [eb, ea]; simp⟩
  hid := by
    obtain ⟨a, ea, ha⟩ := s.hid
    obtain ⟨b, eb, hb⟩ := t.hid
    refine ⟨b ++ a, by rw [eb, ea]; simp, fun x hx => ?_⟩
    rcases List.mem_append.mp hx with hx | hx
    · rcases hb x hx with q | q
      · exact s.new x q
      · by_cases m : x ∈ ρ.c
        · exact .inl m
        · right
          cases e : H x with
          | none => rfl
          | some o =>
            obtain ⟨o', e', _⟩ := s.keep x o e m
            rw [q] at e'; cases e'
    · exact ha x hx
  new := fun a h => by
    rcases t.new a h with q | q
    · exact s.new a q
    · by_cases m : a ∈ ρ.c
      · exact .inl m
      · right
        cases e : H a with
        | none => rfl
        | some o =>
          obtain ⟨o', e', _⟩ := s.keep a o e m
          rw [q] at e'; cases e'
  keep := fun a o h n => by
    obtain ⟨o', e, q⟩ := s.keep a o h n
    obtain ⟨o'', e', q'⟩ := t.keep a o' e (s.outc h n)
    exact ⟨o'', e', fun z => by rw [q' (by rw [q z]; exact z), q z]⟩
  tab := fun P n h => t.tab P (by obtain ⟨ps, e, _⟩ := h; exact s.outc e n) (s.tab P n h)
theorem Stp.stayc (s : Stp ρ H ρ' H') {a : Addr} {o : HO} (h : H a = some o) (n : a ∉ ρ.c) (z : ∀ ps, o ≠ .tbl ps) : H' a = some o := by
  obtain ⟨o', e, q⟩ := s.keep a o h n
  rw [e, q z]
theorem Stp.stay (s : Stp ρ H ρ' H') {a : Addr} {o : HO} (h : H a = some o) (n : a ∉ ρ) (z : ∀ ps, o ≠ .tbl ps) : H' a = some o := s.stayc h (Rho.nc n) z
theorem Stp.rd (s : Stp ρ H ρ' H') {a : Addr} {u : HO} (h : Rd H a u) (n : a ∉ ρ) (z : ∀ ps, u ≠ .tbl ps) : Rd H' a u ∧ a ∉ ρ' := by
  rcases h with h | ⟨o, h⟩
  · exact ⟨.inl (s.stay h n z), s.out h n⟩
  · exact ⟨.inr ⟨o, s.stay h n (fun _ q => nomatch q)⟩, s.out h n⟩
theorem Stp.at (s : Stp ρ H ρ' H') {n : Nat} {a : Addr} (h : ρ.c[n]? = some a) : ρ'.c[n]? = some a := by
  obtain ⟨t, e⟩ := s.pre
  obtain ⟨q, _⟩ := List.getElem?_eq_some_iff.mp h
  rw [e, List.getElem?_append_left q]; exact h
mutual
theorem Rp.step_ (s : Stp ρ H ρ' H') : ∀ (d : D) (v : V), Rp K H ρ v d → Rp K H' ρ' v d
  | .none, _, h => by cases h; exact .non
  | .bool b, _, h => by cases h; exact .bl b
  | .int i, _, h => by cases h; exact .int i
  | .str x, _, h => by cases h; exact .str x
  | .list ds, _, h => by
    cases h with
    | lst h r => exact .lst (s.rd h.1 h.2 (fun _ q => nomatch q)) (RpL.step_ s ds _ r)
  | .tuple ds, _, h => by
    cases h with
    | tup h r => exact .tup ⟨s.stay h.1 h.2 (fun _ z => nomatch z), s.out h.1 h.2⟩ (RpL.step_ s ds _ r)
  | .dict kvs, _, h => by
    cases h with
    | rf h => exact .rf (s.at h)
theorem RpL.step_ (s : Stp ρ H ρ' H') : ∀ (ds : List D) (vs : List V), RpL K H ρ vs ds → RpL K H' ρ' vs ds
  | [], _, h => by cases h; exact .nil
  | d :: ds, _, h => by
    cases h with
    | cons h t => exact .cons (Rp.step_ s d _ h) (RpL.step_ s ds _ t)
end
theorem Rp.step {v : V} {d : D} (s : Stp ρ H ρ' H') (h : Rp K H ρ v d) : Rp K H' ρ' v d := Rp.step_ s d v h
theorem RpL.step {vs : List V} {ds : List D} (s : Stp ρ H ρ' H') (h : RpL K H ρ vs ds) : RpL K H' ρ' vs ds := RpL.step_ s ds vs h
theorem RpL.length : ∀ {vs : List V} {ds : List D}, RpL K H ρ vs ds → vs.length = ds.length
  | _, _, .nil => rfl
  | _, _, .cons _ t => by simp [RpL.length t]
theorem RpL.get : ∀ {vs : List V} {ds : List D} {i : Nat} {d : D}, RpL K H ρ vs ds → ds[i]? = some d → ∃ v, vs[i]? = some v ∧ Rp K H ρ v d
  | _, _, _, _, .nil, e => by simp at e
  | _, _, 0, _, .cons h _, e => by simp at e; subst e; exact ⟨_, rfl, h⟩
  | _, _, i + 1, _, .cons _ t, e => by
    obtain ⟨v, q, r⟩ := RpL.get (i := i) t (by simpa using e)
    exact ⟨v, by simpa using q, r⟩
theorem RpL.get' : ∀ {vs : List V} {ds : List D} {i : Nat} {v : V}, RpL K H ρ vs ds → vs[i]? = some v → ∃ d, ds[i]? = some d ∧ Rp K H ρ v d
  | _, _, _, _, .nil, e => by simp at e
  | _, _, 0, _, .cons h _, e => by simp at e; subst e; exact ⟨_, rfl, h⟩
  | _, _, i + 1, _, .cons _ t, e => by
    obtain ⟨v, q, r⟩ := RpL.get' (i := i) t (by simpa using e)
    exact ⟨v, by simpa using q, r⟩
theorem RpL.append : ∀ {vs ws : List V} {ds es : List D}, RpL K H ρ vs ds → RpL K H ρ ws es → RpL K H ρ (vs ++ ws) (ds ++ es)
  | _, _, _, _, .nil, s => s
  | _, _, _, _, .cons h t, s => .cons h (RpL.append t s)
theorem RpL.take : ∀ {vs : List V} {ds : List D} (n : Nat), RpL K H ρ vs ds → RpL K H ρ (vs.take n) (ds.take n)
  | _, _, 0, _ => .nil
  | _, _, _ + 1, .nil => .nil
  | _, _, n + 1, .cons h t => .cons h (RpL.take n t)
theorem RpL.drop : ∀ {vs : List V} {ds : List D} (n : Nat), RpL K H ρ vs ds → RpL K H ρ (vs.drop n) (ds.drop n)
  | _, _, 0, r => r
  | _, _, _ + 1, .nil => .nil
  | _, _, n + 1, .cons _ t => RpL.drop n t
theorem RpL.set {v : V} {d : D} (h : Rp K H ρ v d) : ∀ {vs : List V} {ds : List D} (i : Nat), RpL K H ρ vs ds → RpL K H ρ (vs.set i v) (ds.set i d)
  | _, _, _, .nil => .nil
  | _, _, 0, .cons _ t => .cons h t
  | _, _, i + 1, .cons q t => .cons q (RpL.set h i t)
theorem RpL.reverse : ∀ {vs : List V} {ds : List D}, RpL K H ρ vs ds → RpL K H ρ vs.reverse ds.reverse
  | _, _, .nil => .nil
  | _, _, .cons h t => by rw [List.reverse_cons, List.reverse_cons]; exact (RpL.reverse t).append (.cons h .nil)
theorem RpL.eraseIdx : ∀ {vs : List V} {ds : List D} (i : Nat), RpL K H ρ vs ds → RpL K H ρ (vs.eraseIdx i) (ds.eraseIdx i)
  | _, _, _, .nil => .nil
  | _, _, 0, .cons _ t => t
  | _, _, i + 1, .cons q t => .cons q (RpL.eraseIdx i t)
end

/-! ### data without references -/
mutual
def flat : D → Bool
  | .list xs => flatL xs
  | .tuple xs => flatL xs
  | .dict _ => false
  | _ => true
def flatL : List D → Bool
  | [] => true
  | x :: xs => flat x && flatL xs
end
section
variable {K : PySem.W.Frag} {H : Hp} {ρ : Rho}
mutual
theorem Rp.dp_ : ∀ (d : D) (v : V), Rp K H ρ v d → flat d = true → Dp K H v d
  | .none, _, h, _ => by cases h; exact .non
  | .bool b, _, h, _ => by cases h; exact .bl b
  | .int i, _, h, _ => by cases h; exact .int i
  | .str x, _, h, _ => by cases h; exact .str x
  | .list ds, _, h, f => by
    cases h with
    | lst h r => exact .lst h.sq (RpL.dp_ ds _ r (by simpa [flat] using f))
  | .tuple ds, _, h, f => by
    cases h with
    | tup h r => exact .tup h.sq (RpL.dp_ ds _ r (by simpa [flat] using f))
  | .dict kvs, _, h, f => by simp [flat] at f
theorem RpL.dp_ : ∀ (ds : List D) (vs : List V), RpL K H ρ vs ds → flatL ds = true → DpAll K H vs ds
  | [], _, h, _ => by cases h; exact .nil
  | d :: ds, _, h, f => by
    cases h with
    | cons h t =>
      simp only [flatL, Bool.and_eq_true] at f
      exact .cons (Rp.dp_ d _ h f.1) (RpL.dp_ ds _ t f.2)
end
theorem Rp.dp {v : V} {d : D} (h : Rp K H ρ v d) (f : flat d = true) : Dp K H v d := Rp.dp_ d v h f
theorem RpL.dp {vs : List V} {ds : List D} (h : RpL K H ρ vs ds) (f : flatL ds = true) : DpAll K H vs ds := RpL.dp_ ds vs h f
end
end Cor

/-! Core2: the store, what an expression tells, the readings. -/
namespace Cor
open PySem PySem.Spec PyProof.Rows L2

/-- a cell of the store -/
inductive Cell where
  | lst (ds : List D)
  | dK (kvs : List (Key × D))
  | dT (kvs : List (List Key × D))
abbrev Sto := List Cell
/-- an exception: its class's name, what stands in its own dict -/
structure Exn where
  cls : Str
  fld : List (Str × D) := []
inductive R (α : Type) where
  | ok (a : α) (S : Sto)
  | er (e : Exn) (S : Sto)
  | no
def R.bind {α β : Type} (r : R α) (f : α → Sto → R β) : R β := match r with
  | .ok a S => f a S
  | .er e S => .er e S
  | .no => .no
@[simp] theorem R.bind_ok {α β : Type} (a : α) (S : Sto) (f : α → Sto → R β) : (R.ok a S).bind f = f a S := rfl
@[simp] theorem R.bind_er {α β : Type} (e : Exn) (S : Sto) (f : α → Sto → R β) : (R.er e S : R α).bind f = .er e S := rfl
@[simp] theorem R.bind_no {α β : Type} (f : α → Sto → R β) : (R.no : R α).bind f = .no := rfl

abbrev Envd := List (Option D)
abbrev Ex := Envd → Sto → R D
abbrev Exs := Envd → Sto → R (List D)
abbrev Tx := Envd → Sto → R Bool
inductive Fl where
  | nx (env : Envd) (S : Sto)
  | rt (d : D) (S : Sto)
  | bk (env : Envd) (S : Sto)
  | ct (env : Envd) (S : Sto)
  | er (e : Exn) (env : Envd) (S : Sto)
  | no
abbrev Blk := Envd → Sto → Fl
/-- a value met by a statement -/
def R.to {α : Type} (r : R α) (env : Envd) (f : α → Sto → Fl) : Fl := match r with
  | .ok a S => f a S
  | .er e S => .er e env S
  | .no => .no
@[simp] theorem R.to_ok {α : Type} (a : α) (S : Sto) (env : Envd) (f : α → Sto → Fl) : (R.ok a S).to env f = f a S := rfl
@[simp] theorem R.to_er {α : Type} (e : Exn) (S : Sto) (env : Envd) (f : α → Sto → Fl) : (R.er e S : R α).to env f = .er e env S := rfl
@[simp] theorem R.to_no {α : Type} (env : Envd) (f : α → Sto → Fl) : (R.no : R α).to env f = .no := rfl
def Fl.seq (r : Fl) (g : Blk) : Fl := match r with
  | .nx env S => g env S
  | x => x
@[simp] theorem Fl.seq_nx (env : Envd) (S : Sto) (g : Blk) : (Fl.nx env S).seq g = g env S := rfl
@[simp] theorem Fl.seq_rt (d : D) (S : Sto) (g : Blk) : (Fl.rt d S).seq g = .rt d S := rfl
@[simp] theorem Fl.seq_bk (env : Envd) (S : Sto) (g : Blk) : (Fl.bk env S).seq g = .bk env S := rfl
@[simp] theorem Fl.seq_ct (env : Envd) (S : Sto) (g : Blk) : (Fl.ct env S).seq g = .ct env S := rfl
@[simp] theorem Fl.seq_er (e : Exn) (env : Envd) (S : Sto) (g : Blk) : (Fl.er e env S).seq g = .er e env S := rfl
@[simp] theorem Fl.seq_no (g : Blk) : Fl.no.seq g = .no := rfl

/-! ### the store at the heap -/
def CellOk (K : PySem.W.Frag) (H : Hp) (ρ : Rho) (a : Addr) : Cell → Prop
  | .lst ds => ∃ xs, H a = some (.lst xs) ∧ RpL K H ρ xs ds
  | .dK kvs => ∃ ys, H a = some (.dK ys) ∧ ys.map (·.1) = kvs.map (·.1) ∧ RpL K H ρ (ys.map (·.2)) (kvs.map (·.2))
  | .dT kvs => ∃ ys, H a = some (.dT ys) ∧ ys.map (·.1) = kvs.map (·.1) ∧ RpL K H ρ (ys.map (·.2)) (kvs.map (·.2))
structure StoOk (K : PySem.W.Frag) (H : Hp) (ρ : Rho) (S : Sto) : Prop where
  len : ρ.c.length = S.length
  nd : ρ.c.Nodup
  cell : ∀ (n : Nat) (c : Cell), S[n]? = some c → ∃ a, ρ.c[n]? = some a ∧ CellOk K H ρ a c
  hd : ∀ a ∈ ρ.h, a ∉ ρ.c ∧ ∃ xs, H a = some (.lst xs)
def EnvOk (K : PySem.W.Frag) (H : Hp) (ρ : Rho) (env : Envd) (σ : L2.St) : Prop :=
  env.length = σ.length ∧ ∀ (i : Nat) (d : D), env[i]? = some (some d) → ∃ v, σ[i]? = some (some v) ∧ Rp K H ρ v d
structure Sim (K : PySem.W.Frag) (ts : List Addr) (ρ : Rho) (env : Envd) (S : Sto) (σ : L2.St) (H : Hp) : Prop where
  env : EnvOk K H ρ env σ
  sto : StoOk K H ρ S
  tab : ∀ P ∈ ts, TabG H P ∧ P ∉ ρ.c
/-- the exception's class and dict -/
def ExnOk (K : PySem.W.Frag) (mg : Str → Option Value) (H : Hp) (ρ : Rho) (e : Exn) (c : Value) (o : Option Addr) : Prop :=
  (∃ C, mg e.cls = some (.ref C) ∧ c = .ref C) ∧
    match e.fld with
    | [] => True
    | f :: fs => ∃ a xs, o = some a ∧ a ∉ ρ ∧ H a = some (.xd xs) ∧ xs.map (·.1) = (f :: fs).map (·.1) ∧ RpL K H ρ (xs.map (·.2)) ((f :: fs).map (·.2))

section
variable {K : PySem.W.Frag} {mg : Str → Option Value} {H H' H'' : Hp} {ρ ρ' ρ'' : Rho} {S S' : Sto} {env : Envd} {σ : L2.St} {ts : List Addr}
theorem CellOk.at {a : Addr} {c : Cell} (h : CellOk K H ρ a c) : ∃ o, H a = some o ∧ ∀ ps, o ≠ .tbl ps := by
  cases c with
  | lst ds => obtain ⟨xs, e, _⟩ := h; exact ⟨_, e, fun _ q => nomatch q⟩
  | dK ds => obtain ⟨xs, e, _⟩ := h; exact ⟨_, e, fun _ q => nomatch q⟩
  | dT ds => obtain ⟨xs, e, _⟩ := h; exact ⟨_, e, fun _ q => nomatch q⟩
theorem StoOk.there (h : StoOk K H ρ S) {a : Addr} (m : a ∈ ρ) : ∃ o, H a = some o := by
  rcases m with m | m
  · obtain ⟨n, hn, e⟩ := List.getElem_of_mem m
    have hn' : n < S.length := by rw [← h.len]; exact hn
    obtain ⟨b, e1, c⟩ := h.cell n S[n] (List.getElem?_eq_getElem hn')
    rw [List.getElem?_eq_getElem hn, e] at e1
    cases e1
    obtain ⟨o, q, _⟩ := c.at
    exact ⟨o, q⟩
  · obtain ⟨_, xs, e⟩ := h.hd a m
    exact ⟨_, e⟩
theorem StoOk.new (h : StoOk K H ρ S) {p : Addr} (n : H p = none) : p ∉ ρ := fun m => by
  obtain ⟨o, e⟩ := h.there m
  rw [n] at e; cases e
/-- a new object that is no cell -/
theorem stp_new {p : Addr} {o : HO} (n : H p = none) : Stp ρ H ρ (upd H p o) where
  pre := ⟨[], by simp⟩
  hid := ⟨[], rfl, fun _ h => nomatch h⟩
  new := fun _ h => .inl h
  keep := fun a u e _ => ⟨u, by rw [upd_ne (ne_of_none e n)]; exact e, fun _ => rfl⟩
  tab := fun P _ ⟨ps, e, t⟩ => ⟨ps, by rw [upd_ne (ne_of_none e n)]; exact e, t⟩
/-- a new object that becomes a cell -/
theorem stp_cell {p : Addr} {o : HO} (n : H p = none) : Stp ρ H (ρ.add p) (upd H p o) where
  pre := ⟨[p], rfl⟩
  hid := ⟨[], rfl, fun _ h => nomatch h⟩
  new := fun a h => by
    rcases List.mem_append.mp h with h | h
    · exact .inl h
    · rw [List.mem_singleton.mp h]; exact .inr n
  keep := fun a u e _ => ⟨u, by rw [upd_ne (ne_of_none e n)]; exact e, fun _ => rfl⟩
  tab := fun P _ ⟨ps, e, t⟩ => ⟨ps, by rw [upd_ne (ne_of_none e n)]; exact e, t⟩
theorem stp_write {a : Addr} {o : HO} (m : a ∈ ρ.c) : Stp ρ H ρ (upd H a o) where
  pre := ⟨[], by simp⟩
  hid := ⟨[], rfl, fun _ h => nomatch h⟩
  new := fun _ h => .inl h
  keep := fun b u e n => ⟨u, by rw [upd_ne (fun z => n (by rw [z]; exact m))]; exact e, fun _ => rfl⟩
  tab := fun P n ⟨ps, e, t⟩ => ⟨ps, by rw [upd_ne (fun z => n (by rw [z]; exact m))]; exact e, t⟩
theorem CellOk.step {a : Addr} {c : Cell} (h : CellOk K H ρ a c) (s : Stp ρ H ρ' H') (e : H' a = H a) : CellOk K H' ρ' a c := by
  cases c with
  | lst ds => obtain ⟨xs, q, r⟩ := h; exact ⟨xs, e.trans q, r.step s⟩
  | dK ds => obtain ⟨xs, q, k, r⟩ := h; exact ⟨xs, e.trans q, k, r.step s⟩
  | dT ds => obtain ⟨xs, q, k, r⟩ := h; exact ⟨xs, e.trans q, k, r.step s⟩
theorem StoOk.new_obj (h : StoOk K H ρ S) {p : Addr} {o : HO} (n : H p = none) : StoOk K (upd H p o) ρ S := by
  refine ⟨h.len, h.nd, fun i c e => ?_, fun a m => ?_⟩
  · obtain ⟨a, q, r⟩ := h.cell i c e
    obtain ⟨u, hu, _⟩ := r.at
    exact ⟨a, q, r.step (stp_new n) (upd_ne (ne_of_none hu n))⟩
  · obtain ⟨k, xs, e⟩ := h.hd a m
    exact ⟨k, xs, by rw [upd_ne (ne_of_none e n)]; exact e⟩
theorem StoOk.new_cell (h : StoOk K H ρ S) {p : Addr} {o : HO} {c : Cell} (n : H p = none) (hc : CellOk K (upd H p o) (ρ.add p) p c) : StoOk K (upd H p o) (ρ.add p) (S ++ [c]) := by
  have hnp : p ∉ ρ.c := Rho.nc (h.new n)
  refine ⟨by simp [Rho.add, h.len], ?_, fun i c' e => ?_, fun a m => ?_⟩
  · show (ρ.c ++ [p]).Nodup
    rw [List.nodup_append]
    exact ⟨h.nd, by simp, fun a m b m' z => hnp (by rw [List.mem_singleton] at m'; rw [← m', ← z]; exact m)⟩
  · by_cases hi : i < S.length
    · rw [List.getElem?_append_left hi] at e
      obtain ⟨a, q, r⟩ := h.cell i c' e
      obtain ⟨u, hu, _⟩ := r.at
      refine ⟨a, ?_, r.step (stp_cell n) (upd_ne (ne_of_none hu n))⟩
      show (ρ.c ++ [p])[i]? = _
      rw [List.getElem?_append_left (by rw [h.len]; exact hi)]; exact q
    · rw [List.getElem?_append_right (by omega)] at e
      have hj : i - S.length = 0 := by
        cases z : i - S.length with
        | zero => rfl
        | succ j => rw [z] at e; simp at e
      rw [hj] at e
      simp at e
      subst e
      refine ⟨p, ?_, hc⟩
      have : i = ρ.c.length := by rw [h.len]; omega
      show (ρ.c ++ [p])[i]? = _
      rw [this, List.getElem?_append_right (Nat.le_refl _)]; simp
  · obtain ⟨k, xs, e⟩ := h.hd a m
    have hne : a ≠ p := ne_of_none e n
    refine ⟨fun z => ?_, xs, by rw [upd_ne hne]; exact e⟩
    rcases List.mem_append.mp z with z | z
    · exact k z
    · exact hne (List.mem_singleton.mp z)
theorem StoOk.write (h : StoOk K H ρ S) {n : Nat} {a : Addr} {o : HO} {c : Cell} (e : ρ.c[n]? = some a) (hc : CellOk K (upd H a o) ρ a c) : StoOk K (upd H a o) ρ (S.set n c) := by
  obtain ⟨hn, ea⟩ := List.getElem?_eq_some_iff.mp e
  have hm : a ∈ ρ.c := by rw [← ea]; exact List.getElem_mem hn
  refine ⟨by simp [h.len], h.nd, fun i c' q => ?_, fun b m => ?_⟩
  · by_cases hi : i = n
    · subst hi
      have hl : i < S.length := by rw [← h.len]; exact hn
      rw [List.getElem?_set_self hl] at q
      cases q
      exact ⟨a, e, hc⟩
    · rw [List.getElem?_set_ne (Ne.symm hi)] at q
      obtain ⟨b, q1, r⟩ := h.cell i c' q
      refine ⟨b, q1, r.step (stp_write hm) (upd_ne fun z => hi ?_)⟩
      obtain ⟨hb, eb⟩ := List.getElem?_eq_some_iff.mp q1
      exact (List.getElem_inj h.nd).mp (by rw [eb, ea, z])
  · obtain ⟨k, xs, e'⟩ := h.hd b m
    exact ⟨k, xs, by rw [upd_ne (fun z => k (by rw [z]; exact hm))]; exact e'⟩
/-- a list is being made -/
theorem stp_hide {p : Addr} {o : HO} (n : H p = none) : Stp ρ H (ρ.hide p) (upd H p o) where
  pre := ⟨[], by simp [Rho.hide]⟩
  hid := ⟨[p], rfl, fun a h => by rw [List.mem_singleton.mp h]; exact .inr n⟩
  new := fun _ h => .inl h
  keep := fun a u e _ => ⟨u, by rw [upd_ne (ne_of_none e n)]; exact e, fun _ => rfl⟩
  tab := fun P _ ⟨ps, e, t⟩ => ⟨ps, by rw [upd_ne (ne_of_none e n)]; exact e, t⟩
theorem StoOk.hide (h : StoOk K H ρ S) {p : Addr} {xs : List V} (n : H p = none) : StoOk K (upd H p (.lst xs)) (ρ.hide p) S := by
  have hnp : p ∉ ρ.c := Rho.nc (h.new n)
  refine ⟨h.len, h.nd, fun i c e => ?_, fun a m => ?_⟩
  · obtain ⟨a, q, r⟩ := h.cell i c e
    obtain ⟨u, hu, _⟩ := r.at
    exact ⟨a, q, r.step (stp_hide n) (upd_ne (ne_of_none hu n))⟩
  · rcases List.mem_cons.mp m with m | m
    · rw [m]; exact ⟨hnp, xs, upd_same⟩
    · obtain ⟨k, ys, e⟩ := h.hd a m
      exact ⟨k, ys, by rw [upd_ne (ne_of_none e n)]; exact e⟩
theorem EnvOk.step (h : EnvOk K H ρ env σ) (s : Stp ρ H ρ' H') : EnvOk K H' ρ' env σ :=
  ⟨h.1, fun i d e => let ⟨v, q, r⟩ := h.2 i d e; ⟨v, q, r.step s⟩⟩
theorem tab_step (h : ∀ P ∈ ts, TabG H P ∧ P ∉ ρ.c) (s : Stp ρ H ρ' H') : ∀ P ∈ ts, TabG H' P ∧ P ∉ ρ'.c := fun P m => by
  obtain ⟨⟨ps, e, t⟩, n⟩ := h P m
  exact ⟨s.tab P n ⟨ps, e, t⟩, s.outc e n⟩
theorem Sim.step (h : Sim K ts ρ env S σ H) (s : Stp ρ H ρ' H') (o : StoOk K H' ρ' S') : Sim K ts ρ' env S' σ H' :=
  ⟨h.env.step s, o, tab_step h.tab s⟩
theorem EnvOk.set (h : EnvOk K H ρ env σ) {v : V} {d : D} (r : Rp K H ρ v d) (i : Nat) : EnvOk K H ρ (env.set i (some d)) (σ.set i (some v)) := by
  refine ⟨by simp [h.1], fun j d' e => ?_⟩
  by_cases hj : j = i
  · subst hj
    have hl : j < env.length := by
      have := (List.getElem?_eq_some_iff.mp e).1
      simpa using this
    rw [List.getElem?_set_self hl] at e
    cases e
    exact ⟨v, by rw [List.getElem?_set_self (by rw [← h.1]; exact hl)], r⟩
  · rw [List.getElem?_set_ne (Ne.symm hj)] at e
    obtain ⟨w, q, r'⟩ := h.2 j d' e
    exact ⟨w, by rw [List.getElem?_set_ne (Ne.symm hj)]; exact q, r'⟩
theorem ExnOk.step {e : Exn} {c : Value} {o : Option Addr} (h : ExnOk K mg H ρ e c o) (s : Stp ρ H ρ' H') : ExnOk K mg H' ρ' e c o := by
  refine ⟨h.1, ?_⟩
  have h2 := h.2
  cases hf : e.fld with
  | nil => trivial
  | cons f fs =>
    rw [hf] at h2
    obtain ⟨a, xs, e1, e2, e3, e4, e5⟩ := h2
    exact ⟨a, xs, e1, s.out e3 e2, s.stay e3 e2 (fun _ q => nomatch q), e4, e5.step s⟩
end

/-! ### what is wanted behind an expression -/
section
variable (K : PySem.W.Frag) (mg : Str → Option Value) (W : WX) (σ : L2.St) (ρ : Rho) (H : Hp)
def Post {α β : Type} (rel : Hp → Rho → β → α → Prop) (r : R α) (Q : β → Hp → Prop) : Prop :=
  match r with
  | .ok d S' => ∀ v ρ' H', Stp ρ H ρ' H' → StoOk K H' ρ' S' → rel H' ρ' v d → Q v H'
  | .er e S' => ∀ ρ' H' c o, Stp ρ H ρ' H' → StoOk K H' ρ' S' → ExnOk K mg H' ρ' e c o → W c o σ H'
  | .no => False
end
section
variable {K : PySem.W.Frag} {mg : Str → Option Value} {W : WX} {σ : L2.St} {ρ ρ' : Rho} {H H' : Hp} {α α' β β' : Type} {rel : Hp → Rho → β → α → Prop} {rel' : Hp → Rho → β' → α' → Prop}
theorem Post.from {r : R α} {Q : β → Hp → Prop} (h : Post K mg W σ ρ H rel r Q) (s : Stp ρ H ρ' H') : Post K mg W σ ρ' H' rel r Q := by
  cases r with
  | ok d S' => exact fun v ρ'' H'' t o r => h v ρ'' H'' (s.trans t) o r
  | er e S' => exact fun ρ'' H'' c o t so eo => h ρ'' H'' c o (s.trans t) so eo
  | no => exact h
/-- one thing after the other -/
theorem Post.next {r : R α} {f : α → Sto → R α'} {Q : β' → Hp → Prop} {Q1 : β → Hp → Prop} (h : Post K mg W σ ρ H rel' (r.bind f) Q)
    (k : ∀ v ρ' H' d S', r = .ok d S' → Stp ρ H ρ' H' → StoOk K H' ρ' S' → rel H' ρ' v d → Post K mg W σ ρ' H' rel' (f d S') Q → Q1 v H') : Post K mg W σ ρ H rel r Q1 := by
  cases r with
  | ok d S' => exact fun v ρ' H' s o r => k v ρ' H' d S' rfl s o r (Post.from h s)
  | er e S' => exact h
  | no => exact h
theorem Post.done {d : α} {S : Sto} {v : β} {Q : β → Hp → Prop} (h : Post K mg W σ ρ H rel (.ok d S) Q) (s : StoOk K H ρ S) (r : rel H ρ v d) : Q v H := h v ρ H .refl s r
end

def tE (K : PySem.W.Frag) (mg : Str → Option Value) (ts : List Addr) (W : WX) (g : Ex) : TE := fun σ H Q => ∃ ρ env S, Sim K ts ρ env S σ H ∧ Post K mg W σ ρ H (Rp K) (g env S) Q
def tX (K : PySem.W.Frag) (mg : Str → Option Value) (ts : List Addr) (W : WX) (g : Exs) : TA := fun σ H Q => ∃ ρ env S, Sim K ts ρ env S σ H ∧ Post K mg W σ ρ H (RpL K) (g env S) Q
def tT (K : PySem.W.Frag) (mg : Str → Option Value) (ts : List Addr) (W : WX) (g : Tx) : TT := fun σ H Q => ∃ ρ env S, Sim K ts ρ env S σ H ∧ Post K mg W σ ρ H (fun _ _ b b' => b = b') (g env S) Q
def PostB (K : PySem.W.Frag) (mg : Str → Option Value) (ts : List Addr) (W : WX) (ρ : Rho) (H : Hp) (r : Fl) (D : Ends) : Prop := match r with
  | .nx env' S' => ∀ ρ' σ' H', Stp ρ H ρ' H' → Sim K ts ρ' env' S' σ' H' → D.nx σ' H'
  | .rt d S' => ∀ v ρ' H', Stp ρ H ρ' H' → StoOk K H' ρ' S' → Rp K H' ρ' v d → D.rt v H'
  | .bk env' S' => ∀ ρ' σ' H', Stp ρ H ρ' H' → Sim K ts ρ' env' S' σ' H' → D.bk σ' H'
  | .ct env' S' => ∀ ρ' σ' H', Stp ρ H ρ' H' → Sim K ts ρ' env' S' σ' H' → D.ct σ' H'
  | .er e env' S' => ∀ ρ' σ' H' c o, Stp ρ H ρ' H' → Sim K ts ρ' env' S' σ' H' → ExnOk K mg H' ρ' e c o → W c o σ' H'
  | .no => False
def tS (K : PySem.W.Frag) (mg : Str → Option Value) (ts : List Addr) (W : WX) (g : Blk) : TS := fun D σ H => ∃ ρ env S, Sim K ts ρ env S σ H ∧ PostB K mg ts W ρ H (g env S) D
section
variable {K : PySem.W.Frag} {mg : Str → Option Value} {ts : List Addr} {W : WX} {ρ ρ' : Rho} {H H' : Hp} {r : Fl} {D : Ends}
theorem PostB.from (h : PostB K mg ts W ρ H r D) (s : Stp ρ H ρ' H') : PostB K mg ts W ρ' H' r D := by
  cases r with
  | nx env' S' => exact fun ρ'' σ'' H'' t m => h ρ'' σ'' H'' (s.trans t) m
  | rt d S' => exact fun v ρ'' H'' t o r => h v ρ'' H'' (s.trans t) o r
  | bk env' S' => exact fun ρ'' σ'' H'' t m => h ρ'' σ'' H'' (s.trans t) m
  | ct env' S' => exact fun ρ'' σ'' H'' t m => h ρ'' σ'' H'' (s.trans t) m
  | er e env' S' => exact fun ρ'' σ'' H'' c o t m x => h ρ'' σ'' H'' c o (s.trans t) m x
  | no => exact h
/-- a value met by a statement -/
theorem PostB.val {α β : Type} {rel : Hp → Rho → β → α → Prop} {x : R α} {env : Envd} {σ : L2.St} {f : α → Sto → Fl} {Q : β → Hp → Prop} {S : Sto} (m : Sim K ts ρ env S σ H) (h : PostB K mg ts W ρ H (x.to env f) D)
    (k : ∀ v ρ' H' d S', x = .ok d S' → Stp ρ H ρ' H' → StoOk K H' ρ' S' → rel H' ρ' v d → PostB K mg ts W ρ' H' (f d S') D → Q v H') : Post K mg W σ ρ H rel x Q := by
  cases x with
  | ok d S' => exact fun v ρ' H' s o r => k v ρ' H' d S' rfl s o r (PostB.from h s)
  | er e S' => exact fun ρ' H' c o s so eo => h ρ' σ H' c o s (m.step s so) eo
  | no => exact h
end
end Cor

/-! Core3: expressions. -/
namespace Cor
open PySem PySem.Spec PyProof.Rows L2

abbrev JE (X : Cx) (ts : List Addr) (W : WX) (e : Expr) (g : Ex) : Prop := PE X e (tE X.K X.mg ts W g)
abbrev JX (X : Cx) (ts : List Addr) (W : WX) (es : List Expr) (g : Exs) : Prop := PA X es (tX X.K X.mg ts W g)
abbrev JT (X : Cx) (ts : List Addr) (W : WX) (e : Expr) (g : Tx) : Prop := PT X e (tT X.K X.mg ts W g)

def lift {α : Type} (o : Option α) (S : Sto) : R α := match o with
  | some a => .ok a S
  | none => .no
@[simp] theorem lift_some {α : Type} (a : α) (S : Sto) : lift (some a) S = .ok a S := rfl
@[simp] theorem lift_none {α : Type} (S : Sto) : lift (none : Option α) S = .no := rfl

/-! ### names, constants -/
def var (i : Nat) : Ex := fun env S => match env[i]? with
  | some (some d) => .ok d S
  | _ => .no
def lit (d : D) : Ex := fun _ S => .ok d S
section
variable {X : Cx} {ts : List Addr} {W : WX} {pos : Pos}
theorem je_of {e : Expr} {t : TE} {g : Ex} (h : PE X e t) (k : ∀ σ H Q, tE X.K X.mg ts W g σ H Q → t σ H Q) : JE X ts W e g := ⟨fun pins s σ H Q I q => h.run pins s σ H Q I (k σ H Q q)⟩
theorem jt_of {e : Expr} {t : TT} {g : Tx} (h : PT X e t) (k : ∀ σ H Q, tT X.K X.mg ts W g σ H Q → t σ H Q) : JT X ts W e g := ⟨fun pins s σ H Q I q => h.run pins s σ H Q I (k σ H Q q)⟩
theorem je_var {i : Nat} {x : Str} (hN : X.N[i]? = some x) (hv : Vis X.env.scope x) (hd : (x == ("__debug__" : Str)) = false := by decide) (hcd : (x == ("__classdict__" : Str)) = false := by decide) : JE X ts W (.Name x pos) (var i) :=
  je_of (pe_var hN hv hd hcd) fun σ H Q ⟨ρ, env, S, m, p⟩ => by
    unfold var at p
    cases e : env[i]? with
    | none => rw [e] at p; exact p.elim
    | some o =>
      cases o with
      | none => rw [e] at p; exact p.elim
      | some d =>
        rw [e] at p
        obtain ⟨v, q, r⟩ := m.env.2 i d e
        exact ⟨v, q, p.done m.sto r⟩
theorem je_con {e : Expr} {v : V} {d : D} (h : PE X e (tC v)) (r : ∀ H ρ, Rp X.K H ρ v d) : JE X ts W e (lit d) :=
  je_of h fun σ H Q ⟨ρ, env, S, m, p⟩ => Post.done p m.sto (r H ρ)
theorem je_int {i : Int} {j : Nat} : JE X ts W (.Constant (.int i) j pos) (lit (.int i)) := je_con pe_int fun _ _ => .int i
theorem je_bl {b : Bool} {j : Nat} : JE X ts W (.Constant (.bool b) j pos) (lit (.bool b)) := je_con pe_bl fun _ _ => .bl b
theorem je_non {j : Nat} : JE X ts W (.Constant .none j pos) (lit .none) := je_con pe_non fun _ _ => .non
theorem je_str {x : Str} {j : Nat} : JE X ts W (.Constant (.str x) j pos) (lit (.str x)) := je_con pe_str fun _ _ => .str x
/-- a module's int -/
theorem je_gint {x : Str} {i : Int} (hg : Gl X x) (hm : ∃ t, X.mg x = some (.int i t)) (hd : (x == ("__debug__" : Str)) = false := by decide) : JE X ts W (.Name x pos) (lit (.int i)) := by
  obtain ⟨t, e⟩ := hm
  exact je_con (pe_glob hg e (v := .int i) ⟨t, rfl⟩ hd) fun _ _ => .int i
theorem je_gstr {x y : Str} (hg : Gl X x) (hm : ∃ t, X.mg x = some (.str y t)) (hd : (x == ("__debug__" : Str)) = false := by decide) : JE X ts W (.Name x pos) (lit (.str y)) := by
  obtain ⟨t, e⟩ := hm
  exact je_con (pe_glob hg e (v := .str y) ⟨t, rfl⟩ hd) fun _ _ => .str y
end

/-! ### truth -/
def refOf : D → Option Nat
  | .dict [(.int n, .none)] => some n.toNat
  | _ => none
@[simp] theorem refOf_rf (n : Nat) : refOf (rf n) = some n := rfl
/-- a list as data: a frozen one, or a cell's items -/
def der (S : Sto) : D → Option D
  | .dict kvs => match refOf (.dict kvs) with
    | some n => match S[n]? with
      | some (.lst ds) => some (.list ds)
      | _ => none
    | none => none
  | d => some d
def tv (S : Sto) : D → Option Bool
  | .none => some false
  | .bool b => some b
  | .int i => some (i != 0)
  | .str x => if x.length ≤ sizeLine then some ((x.length : Int) != 0) else none
  | .list ds => some (!ds.isEmpty)
  | .tuple ds => some (!ds.isEmpty)
  | .dict kvs => match refOf (.dict kvs) with
    | some n => match S[n]? with
      | some (.lst ds) => some (!ds.isEmpty)
      | some (.dK kvs) => some (!kvs.isEmpty)
      | _ => none
    | none => none
section
variable {K : PySem.W.Frag} {H : Hp} {ρ : Rho} {S : Sto}
theorem isE_map {α β : Type} : ∀ {xs : List α} {ys : List β}, xs.length = ys.length → xs.isEmpty = ys.isEmpty
  | [], [], _ => rfl
  | _ :: _, _ :: _, _ => rfl
  | [], _ :: _, h => by simp at h
  | _ :: _, [], h => by simp at h
theorem Rp.cell {v : V} {kvs : List (D × D)} {n : Nat} (o : StoOk K H ρ S) (r : Rp K H ρ v (.dict kvs)) (e : refOf (.dict kvs) = some n) : ∃ a, v = .ref a ∧ ρ.c[n]? = some a := by
  cases r with
  | rf h =>
    have e' : some _ = some n := e
    cases e'
    exact ⟨_, rfl, by simpa using h⟩
theorem Rp.cellAt {v : V} {kvs : List (D × D)} {n : Nat} {c : Cell} (o : StoOk K H ρ S) (r : Rp K H ρ v (.dict kvs)) (e : refOf (.dict kvs) = some n) (ec : S[n]? = some c) : ∃ a, v = .ref a ∧ ρ.c[n]? = some a ∧ CellOk K H ρ a c := by
  obtain ⟨a, rfl, q⟩ := r.cell o e
  obtain ⟨b, q', h⟩ := o.cell n c ec
  rw [q] at q'; cases q'
  exact ⟨a, rfl, q, h⟩
theorem tv_ok {v : V} {d : D} {b : Bool} (o : StoOk K H ρ S) (r : Rp K H ρ v d) (e : tv S d = some b) : TruV K v H b := by
  cases d with
  | none => cases r; exact (Option.some.inj e).symm
  | bool b => cases r; exact (Option.some.inj e).symm
  | int i => cases r; exact (Option.some.inj e).symm
  | str x =>
    cases r
    have e : (if x.length ≤ sizeLine then some ((x.length : Int) != 0) else none) = some b := e
    by_cases h : x.length ≤ sizeLine
    · rw [if_pos h] at e
      exact ⟨h, (Option.some.inj e).symm⟩
    · rw [if_neg h] at e; cases e
  | list ds =>
    cases r with
    | lst h r => exact .inl ⟨_, h.sq, by rw [← Option.some.inj e, isE_map r.length]⟩
  | tuple ds =>
    cases r with
    | tup h r => exact .inr (.inl ⟨_, h.sq, by rw [← Option.some.inj e, isE_map r.length]⟩)
  | dict kvs =>
    have e : (match refOf (.dict kvs) with
      | some n => match S[n]? with
        | some (.lst ds) => some (!ds.isEmpty)
        | some (.dK kvs) => some (!kvs.isEmpty)
        | _ => none
      | none => none) = some b := e
    cases en : refOf (.dict kvs) with
    | none => rw [en] at e; cases e
    | some n =>
      simp only [en] at e
      cases ec : S[n]? with
      | none => rw [ec] at e; cases e
      | some c =>
        rw [ec] at e
        obtain ⟨a, rfl, q, h⟩ := r.cellAt o en ec
        cases c with
        | lst ds =>
          obtain ⟨xs, h1, h2⟩ := h
          exact .inl ⟨xs, SqL.of h1, by rw [← Option.some.inj e, isE_map h2.length]⟩
        | dK ks =>
          obtain ⟨ys, h1, h2, h3⟩ := h
          have hl := h3.length
          simp only [List.length_map] at hl
          exact .inr (.inr ⟨ys, h1, by rw [← Option.some.inj e, isE_map hl]⟩)
        | dT ks => cases e
theorem der_ok {v : V} {d d' : D} (o : StoOk K H ρ S) (r : Rp K H ρ v d) (e : der S d = some d') (f : flat d' = true) : Dp K H v d' := by
  cases d with
  | dict kvs =>
    have e : (match refOf (.dict kvs) with
      | some n => match S[n]? with
        | some (.lst ds) => some (.list ds)
        | _ => none
      | none => none) = some d' := e
    cases en : refOf (.dict kvs) with
    | none => rw [en] at e; cases e
    | some n =>
      simp only [en] at e
      cases ec : S[n]? with
      | none => rw [ec] at e; cases e
      | some c =>
        rw [ec] at e
        obtain ⟨a, rfl, q, h⟩ := r.cellAt o en ec
        cases c with
        | lst ds =>
          obtain ⟨xs, h1, h2⟩ := h
          cases e
          exact .lst (SqL.of h1) (h2.dp (by simpa [flat] using f))
        | dK ks => cases e
        | dT ks => cases e
  | _ => cases e; exact r.dp f
end

/-- an expression's truth -/
def tru (g : Ex) : Tx := fun env S => (g env S).bind fun d S1 => lift (tv S1 d) S1
def andE (a b : Ex) : Ex := fun env S => (a env S).bind fun d S1 => match tv S1 d with
  | some true => b env S1
  | some false => .ok d S1
  | none => .no
def orE (a b : Ex) : Ex := fun env S => (a env S).bind fun d S1 => match tv S1 d with
  | some true => .ok d S1
  | some false => b env S1
  | none => .no
def notE (a : Ex) : Ex := fun env S => (a env S).bind fun d S1 => lift ((tv S1 d).map fun b => PyData.bool (!b)) S1
def andT (a b : Tx) : Tx := fun env S => (a env S).bind fun c S1 => if c = true then b env S1 else .ok false S1
def orT (a b : Tx) : Tx := fun env S => (a env S).bind fun c S1 => if c = true then .ok true S1 else b env S1
def notT (a : Tx) : Tx := fun env S => (a env S).bind fun c S1 => .ok (!c) S1
def iteE (c : Tx) (a b : Ex) : Ex := fun env S => (c env S).bind fun k S1 => if k = true then a env S1 else b env S1
section
variable {X : Cx} {ts : List Addr} {W : WX} {pos : Pos} {a b : Expr} {rest : List Expr} {ga gb : Ex} {ta tb : Tx}
theorem jt_tru (h : JE X ts W a ga) (he : ∀ whole, isTrue a X.env whole = (do let v ← whole; standAt a.pos; holding [v] (PySem.truthy v)) := by intro _; rfl) : JT X ts W a (tru ga) :=
  jt_of (pt_truth h he) fun σ H Q ⟨ρ, env, S, m, p⟩ => ⟨ρ, env, S, m, Post.next (f := fun d S1 => lift (tv S1 d) S1) p fun x ρ1 H1 d S1 _ st so rx p1 => by
    cases e : tv S1 d with
    | none => rw [e] at p1; exact p1.elim
    | some b => rw [e] at p1; exact ⟨b, tv_ok so rx e, p1.done so rfl⟩⟩
theorem je_one {op : BoolOp} (h : JE X ts W a ga) : JE X ts W (.BoolOp op [a] pos) ga := je_of (pe_one h) fun _ _ _ q => q
theorem je_and (ha : JE X ts W a ga) (hb : JE X ts W (.BoolOp .And (b :: rest) pos) gb) : JE X ts W (.BoolOp .And (a :: b :: rest) pos) (andE ga gb) :=
  je_of (pe_andT ha hb) fun σ H Q ⟨ρ, env, S, m, p⟩ => ⟨ρ, env, S, m, Post.next (f := fun d S1 => match tv S1 d with | some true => gb env S1 | some false => .ok d S1 | none => .no) p fun x ρ1 H1 d S1 _ st so rx p1 => by
    cases e : tv S1 d with
    | none => rw [e] at p1; exact p1.elim
    | some c =>
      rw [e] at p1
      cases c with
      | true => exact ⟨true, tv_ok so rx e, ρ1, env, S1, m.step st so, p1⟩
      | false => exact ⟨false, tv_ok so rx e, Post.done p1 so rx⟩⟩
theorem je_or (ha : JE X ts W a ga) (hb : JE X ts W (.BoolOp .Or (b :: rest) pos) gb) : JE X ts W (.BoolOp .Or (a :: b :: rest) pos) (orE ga gb) :=
  je_of (pe_orT ha hb) fun σ H Q ⟨ρ, env, S, m, p⟩ => ⟨ρ, env, S, m, Post.next (f := fun d S1 => match tv S1 d with | some true => .ok d S1 | some false => gb env S1 | none => .no) p fun x ρ1 H1 d S1 _ st so rx p1 => by
    cases e : tv S1 d with
    | none => rw [e] at p1; exact p1.elim
    | some c =>
      rw [e] at p1
      cases c with
      | true => exact ⟨true, tv_ok so rx e, Post.done p1 so rx⟩
      | false => exact ⟨false, tv_ok so rx e, ρ1, env, S1, m.step st so, p1⟩⟩
theorem je_not (ha : JE X ts W a ga) : JE X ts W (.UnaryOp .Not a pos) (notE ga) :=
  je_of (pe_notT ha) fun σ H Q ⟨ρ, env, S, m, p⟩ => ⟨ρ, env, S, m, Post.next (f := fun d S1 => lift ((tv S1 d).map fun b => PyData.bool (!b)) S1) p fun x ρ1 H1 d S1 _ st so rx p1 => by
    cases e : tv S1 d with
    | none => rw [e] at p1; exact p1.elim
    | some c => rw [e] at p1; exact ⟨c, tv_ok so rx e, Post.done p1 so (.bl _)⟩⟩
/-- and, or in a test -/
abbrev JW (X : Cx) (ts : List Addr) (W : WX) (e : Expr) (g : Tx) : Prop := PW X e (tT X.K X.mg ts W g)
theorem jw_of {e : Expr} {t : TT} {g : Tx} (h : PW X e t) (k : ∀ σ H Q, tT X.K X.mg ts W g σ H Q → t σ H Q) : JW X ts W e g := ⟨fun wh pins s σ H Q I q => h.run wh pins s σ H Q I (k σ H Q q)⟩
theorem jw_and1 (h : JT X ts W a ta) : JW X ts W (.BoolOp .And [a] pos) ta := jw_of (pw_and1 h) fun _ _ _ q => q
theorem jw_or1 (h : JT X ts W a ta) : JW X ts W (.BoolOp .Or [a] pos) ta := jw_of (pw_or1 h) fun _ _ _ q => q
theorem jw_and (ha : JT X ts W a ta) (hb : JW X ts W (.BoolOp .And (b :: rest) pos) tb) : JW X ts W (.BoolOp .And (a :: b :: rest) pos) (andT ta tb) :=
  jw_of (pw_and ha hb) fun σ H Q ⟨ρ, env, S, m, p⟩ => ⟨ρ, env, S, m, Post.next (f := fun c S1 => if c = true then tb env S1 else .ok false S1) p fun x ρ1 H1 c S1 _ st so rx p1 => by
    subst rx
    cases x with
    | true => exact ⟨ρ1, env, S1, m.step st so, p1⟩
    | false => exact Post.done p1 so rfl⟩
theorem jw_or (ha : JT X ts W a ta) (hb : JW X ts W (.BoolOp .Or (b :: rest) pos) tb) : JW X ts W (.BoolOp .Or (a :: b :: rest) pos) (orT ta tb) :=
  jw_of (pw_or ha hb) fun σ H Q ⟨ρ, env, S, m, p⟩ => ⟨ρ, env, S, m, Post.next (f := fun c S1 => if c = true then .ok true S1 else tb env S1) p fun x ρ1 H1 c S1 _ st so rx p1 => by
    subst rx
    cases x with
    | true => exact Post.done p1 so rfl
    | false => exact ⟨ρ1, env, S1, m.step st so, p1⟩⟩
theorem jt_w {e : Expr} (h : JW X ts W e ta) : JT X ts W e ta := h.pt
theorem jt_not (ha : JT X ts W a ta) : JT X ts W (.UnaryOp .Not a pos) (notT ta) :=
  jt_of (pt_not ha) fun σ H Q ⟨ρ, env, S, m, p⟩ => ⟨ρ, env, S, m, Post.next (f := fun c S1 => .ok (!c) S1) p fun x ρ1 H1 c S1 _ st so rx p1 => by
    subst rx; exact Post.done p1 so rfl⟩
theorem je_ite {c : Expr} {tc : Tx} (hc : JT X ts W c tc) (ha : JE X ts W a ga) (hb : JE X ts W b gb) : JE X ts W (.IfExp c a b pos) (iteE tc ga gb) :=
  je_of (pe_ifExp hc ha hb) fun σ H Q ⟨ρ, env, S, m, p⟩ => ⟨ρ, env, S, m, Post.next (f := fun k S1 => if k = true then ga env S1 else gb env S1) p fun x ρ1 H1 c S1 _ st so rx p1 => by
    subst rx
    cases x with
    | true => exact ⟨ρ1, env, S1, m.step st so, p1⟩
    | false => exact ⟨ρ1, env, S1, m.step st so, p1⟩⟩
end

/-! ### operators -/
def rD (X : Cx) (f : Sto → D → D → Option D) : R2 := fun x y H Q => ∃ ρ dx dy S d, StoOk X.K H ρ S ∧ Rp X.K H ρ x dx ∧ Rp X.K H ρ y dy ∧ f S dx dy = some d ∧ ∀ v H', Stp ρ H ρ H' → StoOk X.K H' ρ S → Rp X.K H' ρ v d → Q v H'
def rB (X : Cx) (f : Sto → D → D → Option Bool) : R2 := fun x y H Q => ∃ ρ dx dy S b, StoOk X.K H ρ S ∧ Rp X.K H ρ x dx ∧ Rp X.K H ρ y dy ∧ f S dx dy = some b ∧ Q (.bl b) H
def bin (f : Sto → D → D → Option D) (a b : Ex) : Ex := fun env S => (a env S).bind fun x S1 => (b env S1).bind fun y S2 => lift (f S2 x y) S2
def cmp (f : Sto → D → D → Option Bool) (a b : Ex) : Ex := bin (fun S x y => (f S x y).map PyData.bool) a b
def cmpT (f : Sto → D → D → Option Bool) (a b : Ex) : Tx := fun env S => (a env S).bind fun x S1 => (b env S1).bind fun y S2 => lift (f S2 x y) S2
def chn (f f' : Sto → D → D → Option Bool) (a b c : Ex) : Ex := fun env S => (a env S).bind fun x S1 => (b env S1).bind fun y S2 => match f S2 x y with
  | some true => (c env S2).bind fun z S3 => lift ((f' S3 y z).map PyData.bool) S3
  | some false => .ok (PyData.bool false) S2
  | none => .no
def chnT (f f' : Sto → D → D → Option Bool) (a b c : Ex) : Tx := fun env S => (a env S).bind fun x S1 => (b env S1).bind fun y S2 => match f S2 x y with
  | some true => (c env S2).bind fun z S3 => lift (f' S3 y z) S3
  | some false => .ok false S2
  | none => .no
section
variable {X : Cx} {ts : List Addr} {W : WX} {pos : Pos} {a b c : Expr} {ga gb gc : Ex}
theorem je_bin {op : Operator} {f : Sto → D → D → Option D} (ho : OpR X (binaryOp op) (rD X f)) (ha : JE X ts W a ga) (hb : JE X ts W b gb) : JE X ts W (.BinOp a op b pos) (bin f ga gb) :=
  je_of (pe_op ho ha hb) fun σ H Q ⟨ρ, env, S, m, p⟩ => ⟨ρ, env, S, m, Post.next (f := fun x S1 => (gb env S1).bind fun y S2 => lift (f S2 x y) S2) p fun x ρ1 H1 dx S1 _ st so rx p1 =>
    ⟨ρ1, env, S1, m.step st so, Post.next (f := fun y S2 => lift (f S2 dx y) S2) p1 fun y ρ2 H2 dy S2 _ st2 so2 ry p2 => by
      cases e : f S2 dx dy with
      | none => rw [e] at p2; exact p2.elim
      | some d => rw [e] at p2; exact ⟨ρ2, dx, dy, S2, d, so2, rx.step st2, ry, e, fun v H' st so r => p2 v ρ2 H' st so r⟩⟩⟩
theorem je_cmp {op : CmpOp} {f : Sto → D → D → Option Bool} (ho : OpR X (compareOp op) (rB X f)) (ha : JE X ts W a ga) (hb : JE X ts W b gb) (hm : behindInMarks op b = false := by rfl) : JE X ts W (.Compare a [op] [b] pos) (cmp f ga gb) :=
  je_of (pe_cmpR ho ha hb hm) fun σ H Q ⟨ρ, env, S, m, p⟩ => ⟨ρ, env, S, m, Post.next (f := fun x S1 => (gb env S1).bind fun y S2 => lift ((f S2 x y).map PyData.bool) S2) p fun x ρ1 H1 dx S1 _ st so rx p1 =>
    ⟨ρ1, env, S1, m.step st so, Post.next (f := fun y S2 => lift ((f S2 dx y).map PyData.bool) S2) p1 fun y ρ2 H2 dy S2 _ st2 so2 ry p2 => by
      cases e : f S2 dx dy with
      | none => rw [e] at p2; exact p2.elim
      | some d => rw [e] at p2; exact ⟨ρ2, dx, dy, S2, d, so2, rx.step st2, ry, e, Post.done p2 so2 (.bl _)⟩⟩⟩
theorem jt_cmp {op : CmpOp} {f : Sto → D → D → Option Bool} (ho : OpR X (compareOp op) (rB X f)) (ha : JE X ts W a ga) (hb : JE X ts W b gb) (hm : behindInMarks op b = false := by rfl) : JT X ts W (.Compare a [op] [b] pos) (cmpT f ga gb) :=
  jt_of (pt_cmpR ho ha hb hm) fun σ H Q ⟨ρ, env, S, m, p⟩ => ⟨ρ, env, S, m, Post.next (f := fun x S1 => (gb env S1).bind fun y S2 => lift (f S2 x y) S2) p fun x ρ1 H1 dx S1 _ st so rx p1 =>
    ⟨ρ1, env, S1, m.step st so, Post.next (f := fun y S2 => lift (f S2 dx y) S2) p1 fun y ρ2 H2 dy S2 _ st2 so2 ry p2 => by
      cases e : f S2 dx dy with
      | none => rw [e] at p2; exact p2.elim
      | some d => rw [e] at p2; exact ⟨ρ2, dx, dy, S2, d, so2, rx.step st2, ry, e, d, rfl, Post.done p2 so2 rfl⟩⟩⟩
theorem je_chn {op op' : CmpOp} {f f' : Sto → D → D → Option Bool} (ho : OpR X (compareOp op) (rB X f)) (ho' : OpR X (compareOp op') (rB X f')) (ha : JE X ts W a ga) (hb : JE X ts W b gb) (hc : JE X ts W c gc)
    (h1 : lastMarks [op, op'] [b, c] = false := by rfl) : JE X ts W (.Compare a [op, op'] [b, c] pos) (chn f f' ga gb gc) :=
  je_of (pe_chain ho ho' ha hb hc h1) fun σ H Q ⟨ρ, env, S, m, p⟩ => ⟨ρ, env, S, m, Post.next (f := fun x S1 => (gb env S1).bind fun y S2 => match f S2 x y with | some true => (gc env S2).bind fun z S3 => lift ((f' S3 y z).map PyData.bool) S3 | some false => .ok (PyData.bool false) S2 | none => .no) p fun x ρ1 H1 dx S1 _ st so rx p1 =>
    ⟨ρ1, env, S1, m.step st so, Post.next (f := fun y S2 => match f S2 dx y with | some true => (gc env S2).bind fun z S3 => lift ((f' S3 y z).map PyData.bool) S3 | some false => .ok (PyData.bool false) S2 | none => .no) p1 fun y ρ2 H2 dy S2 _ st2 so2 ry p2 => by
      cases e : f S2 dx dy with
      | none => rw [e] at p2; exact p2.elim
      | some d =>
        rw [e] at p2
        refine ⟨ρ2, dx, dy, S2, d, so2, rx.step st2, ry, e, d, rfl, ?_⟩
        cases d with
        | false => exact Post.done p2 so2 (.bl _)
        | true =>
          refine ⟨ρ2, env, S2, (m.step st so).step st2 so2, Post.next (f := fun z S3 => lift ((f' S3 dy z).map PyData.bool) S3) p2 fun z ρ3 H3 dz S3 _ st3 so3 rz p3 => ?_⟩
          cases e' : f' S3 dy dz with
          | none => rw [e'] at p3; exact p3.elim
          | some d' => rw [e'] at p3; exact ⟨ρ3, dy, dz, S3, d', so3, ry.step st3, rz, e', Post.done p3 so3 (.bl _)⟩⟩⟩
theorem jt_chn {op op' : CmpOp} {f f' : Sto → D → D → Option Bool} (ho : OpR X (compareOp op) (rB X f)) (ho' : OpR X (compareOp op') (rB X f')) (ha : JE X ts W a ga) (hb : JE X ts W b gb) (hc : JE X ts W c gc)
    (h1 : lastMarks [op, op'] [b, c] = false := by rfl) : JT X ts W (.Compare a [op, op'] [b, c] pos) (chnT f f' ga gb gc) :=
  jt_of (pt_chain ho ho' ha hb hc h1) fun σ H Q ⟨ρ, env, S, m, p⟩ => ⟨ρ, env, S, m, Post.next (f := fun x S1 => (gb env S1).bind fun y S2 => match f S2 x y with | some true => (gc env S2).bind fun z S3 => lift (f' S3 y z) S3 | some false => .ok false S2 | none => .no) p fun x ρ1 H1 dx S1 _ st so rx p1 =>
    ⟨ρ1, env, S1, m.step st so, Post.next (f := fun y S2 => match f S2 dx y with | some true => (gc env S2).bind fun z S3 => lift (f' S3 y z) S3 | some false => .ok false S2 | none => .no) p1 fun y ρ2 H2 dy S2 _ st2 so2 ry p2 => by
      cases e : f S2 dx dy with
      | none => rw [e] at p2; exact p2.elim
      | some d =>
        rw [e] at p2
        refine ⟨ρ2, dx, dy, S2, d, so2, rx.step st2, ry, e, d, rfl, ?_⟩
        cases d with
        | false => exact ⟨false, rfl, Post.done p2 so2 rfl⟩
        | true =>
          refine ⟨ρ2, env, S2, (m.step st so).step st2 so2, Post.next (f := fun z S3 => lift (f' S3 dy z) S3) p2 fun z ρ3 H3 dz S3 _ st3 so3 rz p3 => ?_⟩
          cases e' : f' S3 dy dz with
          | none => rw [e'] at p3; exact p3.elim
          | some d' => rw [e'] at p3; exact ⟨ρ3, dy, dz, S3, d', so3, ry.step st3, rz, e', d', rfl, Post.done p3 so3 rfl⟩⟩⟩
end
end Cor

/-! Core4: operators. -/
namespace Cor
open PySem PySem.Spec PyProof.Rows L2

/-! ### arithmetic -/
def addD (_ : Sto) : D → D → Option D
  | .int i, .int j => some (.int (i + j))
  | .str x, .str y => if x.length + y.length ≤ sizeLine then some (.str (x ++ y)) else none
  | .tuple xs, .tuple ys => if xs.length + ys.length ≤ sizeLine then some (.tuple (xs ++ ys)) else none
  | _, _ => none
def addI (_ : Sto) : D → D → Option D
  | .int i, .int j => some (.int (i + j))
  | _, _ => none
def subD (_ : Sto) : D → D → Option D
  | .int i, .int j => some (.int (i - j))
  | _, _ => none
/-- two factors of together less than a hundred million bits -/
def MulFits (i j : Int) : Prop := i.natAbs.log2 + j.natAbs.log2 < 100000000
instance (i j : Int) : Decidable (MulFits i j) := by unfold MulFits; infer_instance
theorem MulFits.ok {i j : Int} (h : MulFits i j) : IntMulOk i j := by
  have b : ∀ x : Int, Builtin.Int.intBits x ≤ x.natAbs.log2 + 1 := fun x => by
    unfold Builtin.Int.intBits
    split <;> omega
  have h1 := b i
  have h2 := b j
  have h3 : i.natAbs.log2 + j.natAbs.log2 < 100000000 := h
  have e : bitsLine = 134217728 := by decide
  unfold IntMulOk
  intro z
  rw [Bool.and_eq_true] at z
  have z2 := z.2
  unfold Builtin.Int.intTooBig at z2
  have z3 := of_decide_eq_true z2
  rw [e] at z3
  omega
def mulD (_ : Sto) : D → D → Option D
  | .int i, .int j => if MulFits i j then some (.int (i * j)) else none
  | .tuple xs, .int k => if xs ≠ [] ∧ 2 ≤ k ∧ k ≤ 1000 ∧ xs.length ≤ 1000 then some (.tuple (List.replicate k.toNat xs).flatten) else none
  | _, _ => none
def fdivD (_ : Sto) : D → D → Option D
  | .int i, .int j => if 0 < j ∧ j < 1073741824 then some (.int (i / j)) else none
  | _, _ => none
def modD (_ : Sto) : D → D → Option D
  | .int i, .int j => if 0 < j then some (.int (i % j)) else none
  | _, _ => none
def powD (_ : Sto) : D → D → Option D
  | .int i, .int j => if 0 ≤ j ∧ j ≤ 1000000 ∧ i.natAbs < 2 ^ 64 then some (.int (i ^ j.toNat)) else none
  | _, _ => none
def xorD (_ : Sto) : D → D → Option D
  | .int i, .int j => some (.int (Builtin.bitXor i j))
  | _, _ => none
def shlD (_ : Sto) : D → D → Option D
  | .int i, .int j => if 0 ≤ j ∧ j ≤ 1000000 ∧ i.natAbs < 2 ^ 64 then some (.int (i * 2 ^ j.toNat)) else none
  | _, _ => none
def negD (_ : Sto) : D → Option D
  | .int i => some (.int (-i))
  | _ => none
section
variable {X : Cx} {ts : List Addr} {W : WX} {k : Nat}
theorem RpL.repl {K : PySem.W.Frag} {H : Hp} {ρ : Rho} {xs : List V} {ds : List D} (r : RpL K H ρ xs ds) : ∀ n : Nat, RpL K H ρ (List.replicate n xs).flatten (List.replicate n ds).flatten
  | 0 => .nil
  | n + 1 => by rw [List.replicate_succ, List.replicate_succ, List.flatten_cons, List.flatten_cons]; exact r.append (RpL.repl r n)
theorem ifsome {α : Type} {c : Prop} [Decidable c] {x d : α} (h : (if c then some x else none) = some d) : c ∧ x = d := by
  by_cases z : c
  · rw [if_pos z] at h; exact ⟨z, Option.some.inj h⟩
  · rw [if_neg z] at h; cases h
theorem o_add : OpR X (binaryOp .Add) (rD X addD) := by
  intro pins s σ H x y v u Q I rx ry h
  obtain ⟨ρ, dx, dy, S, d, so, px, py, e, q⟩ := h
  cases dx <;> cases dy <;> first | (cases e; done) | skip
  · cases px; cases py; cases e
    exact op_add pins s σ H _ _ v u Q I rx ry ⟨_, _, rfl, rfl, q _ H .refl so (.int _)⟩
  · cases px; cases py
    obtain ⟨z, rfl⟩ := ifsome e
    exact op_add_str pins s σ H _ _ v u Q I rx ry ⟨_, _, rfl, rfl, z, q _ H .refl so (.str _)⟩
  · cases px with
    | tup h1 r1 =>
      cases py with
      | tup h2 r2 =>
        obtain ⟨z, rfl⟩ := ifsome e
        have l1 := r1.length
        have l2 := r2.length
        refine op_catA pins s σ H _ _ v u Q I rx ry ⟨_, _, _, _, rfl, rfl, h1.sq, h2.sq, by omega, fun e => ?_, fun _ e => ?_, fun _ _ p hp => ?_⟩
        · subst e; cases r1
          exact q _ H .refl so (.tup h2 r2)
        · subst e; cases r2
          exact q _ H .refl so (.tup h1 (by rw [List.append_nil]; exact r1))
        · exact q _ _ (stp_new hp) (so.new_obj hp) (.tup ⟨upd_same, so.new hp⟩ ((r1.append r2).step (stp_new hp)))
theorem o_sub : OpR X (binaryOp .Sub) (rD X subD) := by
  intro pins s σ H x y v u Q I rx ry h
  obtain ⟨ρ, dx, dy, S, d, so, px, py, e, q⟩ := h
  cases dx <;> cases dy <;> first | (cases e; done) | skip
  cases px; cases py; cases e
  exact op_sub pins s σ H _ _ v u Q I rx ry ⟨_, _, rfl, rfl, q _ H .refl so (.int _)⟩
theorem o_mul : OpR X (binaryOp .Mult) (rD X mulD) := by
  intro pins s σ H x y v u Q I rx ry h
  obtain ⟨ρ, dx, dy, S, d, so, px, py, e, q⟩ := h
  cases dx <;> cases dy <;> first | (cases e; done) | skip
  · cases px; cases py
    obtain ⟨z, rfl⟩ := ifsome e
    obtain ⟨t, rfl⟩ := rx
    obtain ⟨t', rfl⟩ := ry
    exact mul_int ⟨.int _, H, I.tok _, ⟨_, rfl⟩, q _ H .refl so (.int _)⟩ z.ok
  · cases py
    cases px with
    | tup h1 r1 =>
      obtain ⟨⟨z0, z1, z2, z3⟩, rfl⟩ := ifsome e
      have l1 := r1.length
      refine op_repT pins s σ H _ _ v u Q I rx ry ⟨_, _, _, rfl, rfl, h1.sq, fun e => z0 ?_, z1, z2, by omega, fun p hp => ?_⟩
      · subst e; cases r1; rfl
      · exact q _ _ (stp_new hp) (so.new_obj hp) (.tup ⟨upd_same, so.new hp⟩ ((r1.repl _).step (stp_new hp)))
theorem o_fdiv : OpR X (binaryOp .FloorDiv) (rD X fdivD) := by
  intro pins s σ H x y v u Q I rx ry h
  obtain ⟨ρ, dx, dy, S, d, so, px, py, e, q⟩ := h
  cases dx <;> cases dy <;> first | (cases e; done) | skip
  cases px; cases py
  obtain ⟨z, rfl⟩ := ifsome e
  exact op_fdiv pins s σ H _ _ v u Q I rx ry ⟨_, _, rfl, rfl, z, q _ H .refl so (.int _)⟩
theorem o_mod : OpR X (binaryOp .Mod) (rD X modD) := by
  intro pins s σ H x y v u Q I rx ry h
  obtain ⟨ρ, dx, dy, S, d, so, px, py, e, q⟩ := h
  cases dx <;> cases dy <;> first | (cases e; done) | skip
  cases px; cases py
  obtain ⟨z, rfl⟩ := ifsome e
  exact op_mod pins s σ H _ _ v u Q I rx ry ⟨_, _, rfl, rfl, z, q _ H .refl so (.int _)⟩
theorem o_pow : OpR X (binaryOp .Pow) (rD X powD) := by
  intro pins s σ H x y v u Q I rx ry h
  obtain ⟨ρ, dx, dy, S, d, so, px, py, e, q⟩ := h
  cases dx <;> cases dy <;> first | (cases e; done) | skip
  cases px; cases py
  obtain ⟨z, rfl⟩ := ifsome e
  exact op_pow pins s σ H _ _ v u Q I rx ry ⟨_, _, rfl, rfl, z, q _ H .refl so (.int _)⟩
theorem o_xor : OpR X (binaryOp .BitXor) (rD X xorD) := by
  intro pins s σ H x y v u Q I rx ry h
  obtain ⟨ρ, dx, dy, S, d, so, px, py, e, q⟩ := h
  cases dx <;> cases dy <;> first | (cases e; done) | skip
  cases px; cases py; cases e
  exact op_xor pins s σ H _ _ v u Q I rx ry ⟨_, _, rfl, rfl, q _ H .refl so (.int _)⟩
theorem o_shl : OpR X (binaryOp .LShift) (rD X shlD) := by
  intro pins s σ H x y v u Q I rx ry h
  obtain ⟨ρ, dx, dy, S, d, so, px, py, e, q⟩ := h
  cases dx <;> cases dy <;> first | (cases e; done) | skip
  cases px; cases py
  obtain ⟨z, rfl⟩ := ifsome e
  exact op_shl pins s σ H _ _ v u Q I rx ry ⟨_, _, rfl, rfl, z, q _ H .refl so (.int _)⟩
/-- a unary operator -/
def un (f : Sto → D → Option D) (a : Ex) : Ex := fun env S => (a env S).bind fun x S1 => lift (f S1 x) S1
theorem je_neg {a : Expr} {ga : Ex} {pos : Pos} (ha : JE X ts W a ga) : JE X ts W (.UnaryOp .USub a pos) (un negD ga) :=
  je_of (pe_un un_neg ha) fun σ H Q ⟨ρ, env, S, m, p⟩ => ⟨ρ, env, S, m, Post.next (f := fun x S1 => lift (negD S1 x) S1) p fun x ρ1 H1 dx S1 _ st so rx p1 => by
    cases dx <;> first | exact p1.elim | skip
    cases rx
    exact ⟨_, rfl, Post.done p1 so (.int _)⟩⟩
end

/-! ### comparisons -/
def okD (x : D) : Bool := flat x && decide (x.depth ≤ 64)
mutual
theorem plain_flat : ∀ d : D, flat d = true → d.plain = true
  | .none, _ => by simp [PyData.plain]
  | .bool _, _ => by simp [PyData.plain]
  | .int _, _ => by simp [PyData.plain]
  | .str _, _ => by simp [PyData.plain]
  | .list ds, h => by simp [PyData.plain]; exact plain_flatL ds (by simpa [flat] using h)
  | .tuple ds, h => by simp [PyData.plain]; exact plain_flatL ds (by simpa [flat] using h)
  | .dict _, h => by simp [flat] at h
theorem plain_flatL : ∀ ds : List D, flatL ds = true → PyData.plainAll ds = true
  | [], _ => by simp [PyData.plainAll]
  | d :: ds, h => by
    simp only [flatL, Bool.and_eq_true] at h
    simp only [PyData.plainAll, Bool.and_eq_true]
    exact ⟨plain_flat d h.1, plain_flatL ds h.2⟩
end
def eqB (S : Sto) (x y : D) : Option Bool := match der S x, der S y with
  | some a, some b => if okD a && okD b then some (PyData.eqv a b) else none
  | _, _ => none
def neB (S : Sto) (x y : D) : Option Bool := (eqB S x y).map (!·)
/-- < of alike data -/
def ltB (S : Sto) (x y : D) : Option Bool := match der S x, der S y with
  | some a, some b => if okD a && okD b && PySem.W.alike a b && (match a with | .none => false | _ => true) then some (PySem.W.dataLt a b) else none
  | _, _ => none
def gtB (S : Sto) (x y : D) : Option Bool := match der S x, der S y with
  | some a, some b => if okD a && okD b && PySem.W.alike a b && (match a with | .none => false | _ => true) then some (PySem.W.dataLt b a) else none
  | _, _ => none
def leB (S : Sto) (x y : D) : Option Bool := (gtB S x y).map (!·)
def geB (S : Sto) (x y : D) : Option Bool := (ltB S x y).map (!·)
def isNon : D → Bool
  | .none => true
  | _ => false
def isB (_ : Sto) (x y : D) : Option Bool := match y with
  | .none => some (isNon x)
  | .bool b => match x with
    | .bool a => some (decide (a = b))
    | _ => none
  | _ => none
def isnB (S : Sto) (x y : D) : Option Bool := (isB S x y).map (!·)
section
variable {K : PySem.W.Frag} {H : Hp} {ρ : Rho} {S : Sto}
theorem notnone {a : D} (h : (match a with | .none => false | _ => true) = true) : a ≠ .none := by
  intro e; subst e; cases h
theorem isnone {v : V} {d : D} (r : Rp K H ρ v d) : decide (v = .non) = isNon d := by
  cases d <;> cases r <;> rfl
end
section
variable {X : Cx} {ts : List Addr} {W : WX} {k : Nat}
theorem cmp_room {a b : D} (hr : Room k X.A) (h : a.depth ≤ 64) : X.A.units + min a.depth b.depth < cLine := by
  have h1 := hr.units
  have h2 : min a.depth b.depth ≤ a.depth := Nat.min_le_left _ _
  omega
theorem o_eq (hr : Room k X.A) : OpR X (compareOp .Eq) (rB X eqB) := by
  intro pins s σ H x y v u Q I rx ry h
  obtain ⟨ρ, dx, dy, S, b, so, px, py, e, q⟩ := h
  unfold eqB at e
  cases e1 : der S dx with
  | none => rw [e1] at e; cases e
  | some a =>
    cases e2 : der S dy with
    | none => rw [e1, e2] at e; cases e
    | some c =>
      rw [e1, e2] at e
      obtain ⟨z, rfl⟩ := ifsome e
      simp only [okD, Bool.and_eq_true, decide_eq_true_eq] at z
      obtain ⟨as, r1⟩ := Dp.reads I a x v (der_ok so px e1 z.1.1) rx
      obtain ⟨bs, r2⟩ := Dp.reads I c y u (der_ok so py e2 z.2.1) ry
      exact SeqAt.eq_plain r1 r2 (plain_flat _ z.1.1) (plain_flat _ z.2.1) (cmp_room hr z.1.2) ⟨.bl _, H, I, rfl, q⟩
theorem o_ne (hr : Room k X.A) : OpR X (compareOp .NotEq) (rB X neB) := by
  intro pins s σ H x y v u Q I rx ry h
  obtain ⟨ρ, dx, dy, S, b, so, px, py, e, q⟩ := h
  unfold neB at e
  cases eg : eqB S dx dy with
  | none => rw [eg] at e; cases e
  | some b' =>
    rw [eg] at e
    cases e
    unfold eqB at eg
    cases e1 : der S dx with
    | none => rw [e1] at eg; cases eg
    | some a =>
      cases e2 : der S dy with
      | none => rw [e1, e2] at eg; cases eg
      | some c =>
        rw [e1, e2] at eg
        obtain ⟨z, rfl⟩ := ifsome eg
        simp only [okD, Bool.and_eq_true, decide_eq_true_eq] at z
        obtain ⟨as, r1⟩ := Dp.reads I a x v (der_ok so px e1 z.1.1) rx
        obtain ⟨bs, r2⟩ := Dp.reads I c y u (der_ok so py e2 z.2.1) ry
        exact SeqAt.ne_plain r1 r2 (plain_flat _ z.1.1) (plain_flat _ z.2.1) (cmp_room hr z.1.2) ⟨.bl _, H, I, rfl, q⟩
theorem ord_facts {c d : D} {r : Bool} {b : Bool} (e : (if okD c && okD d && PySem.W.alike c d && (match c with | .none => false | _ => true) then some r else none) = some b) :
    flat c = true ∧ c.depth ≤ 64 ∧ flat d = true ∧ PySem.W.alike c d = true ∧ c ≠ .none ∧ r = b := by
  obtain ⟨z, rfl⟩ := ifsome e
  simp only [okD, Bool.and_eq_true, decide_eq_true_eq] at z
  exact ⟨z.1.1.1.1, z.1.1.1.2, z.1.1.2.1, z.1.2, notnone z.2, rfl⟩
theorem o_lt (hr : Room k X.A) : OpR X (compareOp .Lt) (rB X ltB) := by
  intro pins s σ H x y v u Q I rx ry h
  obtain ⟨ρ, dx, dy, S, b, so, px, py, e, q⟩ := h
  unfold ltB at e
  cases e1 : der S dx with
  | none => rw [e1] at e; cases e
  | some a =>
    cases e2 : der S dy with
    | none => rw [e1, e2] at e; cases e
    | some c =>
      rw [e1, e2] at e
      obtain ⟨f1, s1, f2, al, nn, rfl⟩ := ord_facts e
      obtain ⟨as, r1⟩ := Dp.reads I a x v (der_ok so px e1 f1) rx
      obtain ⟨bs, r2⟩ := Dp.reads I c y u (der_ok so py e2 f2) ry
      exact PySem.W.lt_data r1 r2 al nn (cmp_room hr s1) ⟨.bl _, H, I, rfl, q⟩
theorem o_gt (hr : Room k X.A) : OpR X (compareOp .Gt) (rB X gtB) := by
  intro pins s σ H x y v u Q I rx ry h
  obtain ⟨ρ, dx, dy, S, b, so, px, py, e, q⟩ := h
  unfold gtB at e
  cases e1 : der S dx with
  | none => rw [e1] at e; cases e
  | some a =>
    cases e2 : der S dy with
    | none => rw [e1, e2] at e; cases e
    | some c =>
      rw [e1, e2] at e
      obtain ⟨f1, s1, f2, al, nn, rfl⟩ := ord_facts e
      obtain ⟨as, r1⟩ := Dp.reads I a x v (der_ok so px e1 f1) rx
      obtain ⟨bs, r2⟩ := Dp.reads I c y u (der_ok so py e2 f2) ry
      exact PySem.W.gt_data r1 r2 al nn (cmp_room hr s1) ⟨.bl _, H, I, rfl, q⟩
theorem o_le (hr : Room k X.A) : OpR X (compareOp .LtE) (rB X leB) := by
  intro pins s σ H x y v u Q I rx ry h
  obtain ⟨ρ, dx, dy, S, b, so, px, py, e, q⟩ := h
  unfold leB at e
  cases eg : gtB S dx dy with
  | none => rw [eg] at e; cases e
  | some b' =>
    rw [eg] at e
    cases e
    unfold gtB at eg
    cases e1 : der S dx with
    | none => rw [e1] at eg; cases eg
    | some a =>
      cases e2 : der S dy with
      | none => rw [e1, e2] at eg; cases eg
      | some c =>
        rw [e1, e2] at eg
        obtain ⟨f1, s1, f2, al, nn, rfl⟩ := ord_facts eg
        obtain ⟨as, r1⟩ := Dp.reads I a x v (der_ok so px e1 f1) rx
        obtain ⟨bs, r2⟩ := Dp.reads I c y u (der_ok so py e2 f2) ry
        exact PySem.W.le_data r1 r2 al nn (cmp_room hr s1) ⟨.bl _, H, I, rfl, q⟩
theorem o_ge (hr : Room k X.A) : OpR X (compareOp .GtE) (rB X geB) := by
  intro pins s σ H x y v u Q I rx ry h
  obtain ⟨ρ, dx, dy, S, b, so, px, py, e, q⟩ := h
  unfold geB at e
  cases eg : ltB S dx dy with
  | none => rw [eg] at e; cases e
  | some b' =>
    rw [eg] at e
    cases e
    unfold ltB at eg
    cases e1 : der S dx with
    | none => rw [e1] at eg; cases eg
    | some a =>
      cases e2 : der S dy with
      | none => rw [e1, e2] at eg; cases eg
      | some c =>
        rw [e1, e2] at eg
        obtain ⟨f1, s1, f2, al, nn, rfl⟩ := ord_facts eg
        obtain ⟨as, r1⟩ := Dp.reads I a x v (der_ok so px e1 f1) rx
        obtain ⟨bs, r2⟩ := Dp.reads I c y u (der_ok so py e2 f2) ry
        exact PySem.W.ge_data r1 r2 al nn (cmp_room hr s1) ⟨.bl _, H, I, rfl, q⟩
theorem o_is : OpR X (compareOp .Is) (rB X isB) := by
  intro pins s σ H x y v u Q I rx ry h
  obtain ⟨ρ, dx, dy, S, b, so, px, py, e, q⟩ := h
  cases dy <;> first | (cases e; done) | skip
  · cases py
    refine op_isN pins s σ H _ _ v u Q I rx ry ⟨rfl, ?_⟩
    rw [isnone px]
    cases e
    exact q
  · cases py
    cases dx <;> first | (cases e; done) | skip
    cases px; cases e
    exact op_isBl pins s σ H _ _ v u Q I rx ry ⟨_, _, rfl, rfl, q⟩
theorem o_isn : OpR X (compareOp .IsNot) (rB X isnB) := by
  intro pins s σ H x y v u Q I rx ry h
  obtain ⟨ρ, dx, dy, S, b, so, px, py, e, q⟩ := h
  cases dy <;> first | (cases e; done) | skip
  · cases py
    refine op_notN pins s σ H _ _ v u Q I rx ry ⟨rfl, ?_⟩
    rw [isnone px]
    cases e
    exact q
  · cases py
    cases dx <;> first | (cases e; done) | skip
    cases px; cases e
    exact op_notBl pins s σ H _ _ v u Q I rx ry ⟨_, _, rfl, rfl, q⟩
end
end Cor

/-! Core5: containers, displays, calls of one's own defs and of built-ins. -/
namespace Cor
open PySem PySem.Spec PyProof.Rows L2

/-! ### in -/
/-- a key of a dict as data -/
def keyD : D → Option Key
  | .int i => some (.inl i)
  | .str x => some (.inr x)
  | _ => none
def keysD : List D → Option (List Key)
  | [] => some []
  | d :: ds => match keyD d, keysD ds with
    | some k, some ks => some (k :: ks)
    | _, _ => none
def valD {κ : Type} [DecidableEq κ] (kvs : List (κ × D)) (k : κ) : Option D := (kvs.find? fun kv => decide (kv.1 = k)).map (·.2)
/-- what a dict's cell gives: some none where the key is not there -/
def getD (c : Cell) (k : D) : Option (Option D) := match c with
  | .dK kvs => match keyD k with
    | some q => some (valD kvs q)
    | none => none
  | .dT kvs => match k with
    | .tuple ks => match keysD ks with
      | some q => some (valD kvs q)
      | none => none
    | _ => none
  | .lst _ => none
/-- the dict that d is -/
def cellD (S : Sto) (d : D) : Option Cell := match refOf d with
  | some n => S[n]?
  | none => none
def inSeq (x : D) (ys : List D) : Option Bool := if okD x && flatL ys then some (ys.any fun z => PyData.eqv z x) else none
def inB (S : Sto) (x y : D) : Option Bool := match y with
  | .list ys => inSeq x ys
  | .tuple ys => inSeq x ys
  | .str z => match x with
    | .str t => match t.cps.toList with
      | [c] => some (decide (c ∈ z.cps.toList))
      | _ => none
    | _ => none
  | .dict kvs => match cellD S (.dict kvs) with
    | some (.lst ys) => inSeq x ys
    | some c => (getD c x).map (·.isSome)
    | none => none
  | _ => none
def ninB (S : Sto) (x y : D) : Option Bool := (inB S x y).map (!·)
section
variable {K : PySem.W.Frag} {H : Hp} {ρ : Rho} {S : Sto}
theorem keyD_ok {v : V} {d : D} {k : Key} (r : Rp K H ρ v d) (e : keyD d = some k) : v = kV k := by
  cases d <;> first | (cases e; done) | skip
  · cases r; cases e; rfl
  · cases r; cases e; rfl
theorem keysD_ok : ∀ {ds : List D} {vs : List V} {ks : List Key}, RpL K H ρ vs ds → keysD ds = some ks → vs = ks.map kV
  | [], _, _, r, e => by cases r; cases e; rfl
  | d :: ds, _, ks, r, e => by
    cases r with
    | cons h t =>
      unfold keysD at e
      cases e1 : keyD d with
      | none => rw [e1] at e; cases e
      | some k =>
        cases e2 : keysD ds with
        | none => rw [e1, e2] at e; cases e
        | some r =>
          rw [e1, e2] at e
          cases e
          rw [List.map_cons, ← keyD_ok h e1, ← keysD_ok t e2]
theorem valD_ok {κ : Type} [DecidableEq κ] : ∀ {ys : List (κ × V)} {kvs : List (κ × D)} (k : κ), ys.map (·.1) = kvs.map (·.1) → RpL K H ρ (ys.map (·.2)) (kvs.map (·.2)) →
    (valV ys k = none ∧ valD kvs k = none) ∨ ∃ v d, valV ys k = some v ∧ valD kvs k = some d ∧ Rp K H ρ v d
  | [], [], k, _, _ => .inl ⟨rfl, rfl⟩
  | (a, v) :: ys, (b, d) :: kvs, k, e, r => by
    have e1 : a = b := (List.cons.inj e).1
    have e2 := (List.cons.inj e).2
    subst e1
    cases r with
    | cons h t =>
      by_cases z : a = k
      · exact .inr ⟨v, d, valV_pos (p := (a, v)) z, by unfold valD; rw [List.find?_cons_of_pos (by simpa using z)]; rfl, h⟩
      · rcases valD_ok k e2 t with ⟨q1, q2⟩ | ⟨v', d', q1, q2, q3⟩
        · exact .inl ⟨by rw [valV_neg (p := (a, v)) z]; exact q1, by unfold valD; rw [List.find?_cons_of_neg (by simpa using z)]; exact q2⟩
        · exact .inr ⟨v', d', by rw [valV_neg (p := (a, v)) z]; exact q1, by unfold valD; rw [List.find?_cons_of_neg (by simpa using z)]; exact q2, q3⟩
  | [], _ :: _, k, e, _ => by simp at e
  | _ :: _, [], k, e, _ => by simp at e
theorem dget_ok {a : Addr} {c : Cell} {v : V} {k : D} {o : Option D} (h : CellOk K H ρ a c) (r : Rp K H ρ v k) (e : getD c k = some o) :
    ∃ ov, DGet H a v ov ∧ ((ov = none ∧ o = none) ∨ ∃ x d, ov = some x ∧ o = some d ∧ Rp K H ρ x d) := by
  cases c with
  | lst ds => cases e
  | dK kvs =>
    obtain ⟨ys, e1, e2, e3⟩ := h
    unfold getD at e
    cases ek : keyD k with
    | none => rw [ek] at e; cases e
    | some q =>
      rw [ek] at e
      have e : some (valD kvs q) = some o := e
      cases e
      rw [keyD_ok r ek]
      refine ⟨valV ys q, .k e1, ?_⟩
      rcases valD_ok q e2 e3 with ⟨q1, q2⟩ | ⟨x, d, q1, q2, q3⟩
      · exact .inl ⟨q1, q2⟩
      · exact .inr ⟨x, d, q1, q2, q3⟩
  | dT kvs =>
    obtain ⟨ys, e1, e2, e3⟩ := h
    unfold getD at e
    cases k <;> first | (cases e; done) | skip
    rename_i ks
    cases r with
    | tup h1 h2 =>
      have e : (match keysD ks with | some q => some (valD kvs q) | none => none) = some o := e
      cases ek : keysD ks with
      | none => rw [ek] at e; cases e
      | some q =>
        rw [ek] at e
        cases e
        have hk := keysD_ok h2 ek
        subst hk
        refine ⟨valV ys q, .t e1 h1.1, ?_⟩
        rcases valD_ok q e2 e3 with ⟨q1, q2⟩ | ⟨x, d, q1, q2, q3⟩
        · exact .inl ⟨q1, q2⟩
        · exact .inr ⟨x, d, q1, q2, q3⟩
theorem cellD_ok {v : V} {d : D} {c : Cell} (o : StoOk K H ρ S) (r : Rp K H ρ v d) (e : cellD S d = some c) : ∃ n a, refOf d = some n ∧ v = .ref a ∧ ρ.c[n]? = some a ∧ S[n]? = some c ∧ CellOk K H ρ a c := by
  unfold cellD at e
  cases en : refOf d with
  | none => rw [en] at e; cases e
  | some n =>
    rw [en] at e
    have e : S[n]? = some c := e
    cases d <;> first | (cases en; done) | skip
    obtain ⟨a, rfl, q, h⟩ := r.cellAt o en e
    exact ⟨n, a, rfl, rfl, q, e, h⟩
end
section
variable {X : Cx} {k : Nat}
theorem room65 (hr : Room k X.A) : X.A.units + 65 < cLine := by have := hr.un; omega
theorem o_inBoth (hr : Room k X.A) : OpR X (compareOp .In) (rB X inB) ∧ OpR X (compareOp .NotIn) (rB X ninB) := by
  have seq : ∀ {pins : List (Addr × Obj)} {s : Shared} {σ : L2.St} {H : Hp} {x y : V} {v u : Value} {ρ : Rho} {dx : D} {ys : List D} {b : Bool} {Q : VK}, L2.Inv X pins σ H s → RelV x v → RelV y u → Rp X.K H ρ x dx →
      (flatL ys = true → Dp X.K H y (.list ys) ∨ Dp X.K H y (.tuple ys)) → inSeq dx ys = some b →
      (Q (.bl b) H → wpAny (model X.prog X.w) X.A (compareOp .In v u) (EP X pins σ Q) X.xe s) ∧ (Q (.bl (!b)) H → wpAny (model X.prog X.w) X.A (compareOp .NotIn v u) (EP X pins σ Q) X.xe s) := by
    intro pins s σ H x y v u ρ dx ys b Q I rx ry px py e
    obtain ⟨z, rfl⟩ := ifsome e
    simp only [okD, Bool.and_eq_true, decide_eq_true_eq] at z
    obtain ⟨⟨f1, s1⟩, f2⟩ := z
    obtain ⟨as, r1⟩ := Dp.reads I dx x v (px.dp f1) rx
    have hu : X.A.units + 1 + min (PyData.depthAll ys) dx.depth < cLine := by
      have h1 := room65 hr
      have h2 : min (PyData.depthAll ys) dx.depth ≤ dx.depth := Nat.min_le_right _ _
      omega
    rcases py f2 with d | d
    · obtain ⟨bs, r2⟩ := Dp.reads I _ y u d ry
      exact ⟨fun q => SeqAt.in_list_data r2 r1 (plain_flatL _ f2) (plain_flat _ f1) hu ⟨.bl _, H, I, rfl, q⟩, fun q => SeqAt.notIn_list_data r2 r1 (plain_flatL _ f2) (plain_flat _ f1) hu ⟨.bl _, H, I, rfl, q⟩⟩
    · obtain ⟨bs, r2⟩ := Dp.reads I _ y u d ry
      exact ⟨fun q => SeqAt.in_tuple_data r2 r1 (plain_flatL _ f2) (plain_flat _ f1) hu ⟨.bl _, H, I, rfl, q⟩, fun q => SeqAt.notIn_tuple_data r2 r1 (plain_flatL _ f2) (plain_flat _ f1) hu ⟨.bl _, H, I, rfl, q⟩⟩
  have both : ∀ {pins : List (Addr × Obj)} {s : Shared} {σ : L2.St} {H : Hp} {x y : V} {v u : Value} {ρ : Rho} {S : Sto} {dx dy : D} {b : Bool} {Q : VK}, L2.Inv X pins σ H s → RelV x v → RelV y u → StoOk X.K H ρ S → Rp X.K H ρ x dx → Rp X.K H ρ y dy → inB S dx dy = some b →
      (Q (.bl b) H → wpAny (model X.prog X.w) X.A (compareOp .In v u) (EP X pins σ Q) X.xe s) ∧ (Q (.bl (!b)) H → wpAny (model X.prog X.w) X.A (compareOp .NotIn v u) (EP X pins σ Q) X.xe s) := by
    intro pins s σ H x y v u ρ S dx dy b Q I rx ry so px py e
    cases dy <;> first | (cases e; done) | skip
    · rename_i z
      cases py
      cases dx <;> first | (cases e; done) | skip
      rename_i t
      cases px
      have e : (match t.cps.toList with | [c] => some (decide (c ∈ z.cps.toList)) | _ => none) = some b := e
      match ht : t.cps.toList, e with
      | [c], e =>
        cases e
        have et : t = ⟨#[c]⟩ := by
          cases t with
          | mk a => simp only at ht; rw [← Array.toList_inj.mp (show a.toList = #[c].toList from ht)]
        subst et
        exact ⟨fun q => op_inS pins s σ H _ _ v u Q I rx ry ⟨c, z, rfl, rfl, q⟩, fun q => op_notInS pins s σ H _ _ v u Q I rx ry ⟨c, z, rfl, rfl, q⟩⟩
    · exact seq I rx ry px (fun f => .inl (py.dp (by simpa [flat] using f))) e
    · exact seq I rx ry px (fun f => .inr (py.dp (by simpa [flat] using f))) e
    · rename_i kvs
      have e : (match cellD S (.dict kvs) with | some (.lst ys) => inSeq dx ys | some c => (getD c dx).map (·.isSome) | none => none) = some b := e
      cases ec : cellD S (.dict kvs) with
      | none => rw [ec] at e; cases e
      | some c =>
        rw [ec] at e
        obtain ⟨n, a, _, rfl, q, hS, hc⟩ := cellD_ok so py ec
        have dct : ∀ {o : Option D}, getD c dx = some o → o.isSome = b → (Q (.bl b) H → wpAny (model X.prog X.w) X.A (compareOp .In v u) (EP X pins σ Q) X.xe s) ∧ (Q (.bl (!b)) H → wpAny (model X.prog X.w) X.A (compareOp .NotIn v u) (EP X pins σ Q) X.xe s) := by
          intro o eo eb
          obtain ⟨ov, g, h⟩ := dget_ok hc px eo
          have es : ov.isSome = b := by
            rcases h with ⟨rfl, rfl⟩ | ⟨x', d', rfl, rfl, _⟩ <;> exact eb
          cases ry
          have hu : X.A.units + 1 < cLine := by have := hr.un; omega
          exact ⟨fun q => d_in hu I g rx fun s3 I3 => ⟨.bl _, H, I3, rfl, by rw [es]; exact q⟩, fun q => d_notIn hu I g rx fun s3 I3 => ⟨.bl _, H, I3, rfl, by rw [es]; exact q⟩⟩
        cases c with
        | lst ys =>
          obtain ⟨xs, h1, h2⟩ := hc
          exact seq I rx ry px (fun f => .inl (.lst (SqL.of h1) (h2.dp f))) e
        | dK ks =>
          have e : (getD (.dK ks) dx).map (·.isSome) = some b := e
          cases eo : getD (.dK ks) dx with
          | none => rw [eo] at e; cases e
          | some o => rw [eo] at e; exact dct eo (Option.some.inj e)
        | dT ks =>
          have e : (getD (.dT ks) dx).map (·.isSome) = some b := e
          cases eo : getD (.dT ks) dx with
          | none => rw [eo] at e; cases e
          | some o => rw [eo] at e; exact dct eo (Option.some.inj e)
  constructor
  · intro pins s σ H x y v u Q I rx ry h
    obtain ⟨ρ, dx, dy, S, b, so, px, py, e, q⟩ := h
    exact (both I rx ry so px py e).1 q
  · intro pins s σ H x y v u Q I rx ry h
    obtain ⟨ρ, dx, dy, S, b, so, px, py, e, q⟩ := h
    unfold ninB at e
    cases ei : inB S dx dy with
    | none => rw [ei] at e; cases e
    | some b' =>
      rw [ei] at e
      cases e
      exact (both I rx ry so px py ei).2 q
theorem o_in (hr : Room k X.A) : OpR X (compareOp .In) (rB X inB) := (o_inBoth hr).1
theorem o_nin (hr : Room k X.A) : OpR X (compareOp .NotIn) (rB X ninB) := (o_inBoth hr).2
end

/-! ### a place -/
def intAt (xs : List D) : D → Option D
  | .int i => L2.atI xs i
  | _ => none
def strAt (z : Str) : D → Option D
  | .int i => if z.length ≤ sizeLine then (L2.atI z.cps.toList i).map fun c => .str ⟨#[c]⟩ else none
  | _ => none
def cellAt (y : D) : Cell → Option D
  | .lst xs => intAt xs y
  | c => (getD c y).bind fun o => o
def idxD (S : Sto) (x y : D) : Option D := match x with
  | .list xs => intAt xs y
  | .tuple xs => intAt xs y
  | .str z => strAt z y
  | .dict kvs => (cellD S (.dict kvs)).bind (cellAt y)
  | _ => none
section
variable {X : Cx} {ts : List Addr} {W : WX} {k : Nat} {pos : Pos} {a b : Expr} {ga gb : Ex}
theorem atI_ok {K : PySem.W.Frag} {H : Hp} {ρ : Rho} {xs : List V} {ds : List D} {i : Int} {d : D} (r : RpL K H ρ xs ds) (e : L2.atI ds i = some d) : ∃ v, L2.atI xs i = some v ∧ Rp K H ρ v d := by
  unfold L2.atI at e ⊢
  rw [r.length]
  cases ej : L2.ixN ds.length i with
  | none => rw [ej] at e; cases e
  | some j =>
    rw [ej] at e
    exact r.get e
theorem ix_dict (hu : X.A.units + 1 < cLine) : IxR X (fun x y H Q => ∃ a v, x = .ref a ∧ DGet H a y (some v) ∧ Q v H) := by
  intro value slice pins s σ H x y v u Q I rx ry h hs
  obtain ⟨a, w', rfl, g, q⟩ := h
  cases rx
  have hT := dict_typeIs I g
  unfold subscriptTail
  refine wpAny_bind ?_
  rw [getitemInPython_of_ne hT.not_modules]
  refine wpAny_bind (wpAny_specialOf hT PySem.F.slot_dict_getitem.lookup ?_)
  have fin : wpAny (model X.prog X.w) X.A (subscripted slice false (.ref a) u) (fun r s₃ => wpAny (model X.prog X.w) X.A (letTemporaryGo value (.ref a) r >>= fun _ => pure r) (EP X pins σ Q) X.xe s₃) X.xe s := by
    rw [hs]
    exact wpAny_operating (d_getItem hu I g ry fun w'' s3 I3 rw' => wpAny_bind (wpAny_letTemporaryGo (wpAny_pure ⟨w', H, I3, rw', q⟩)))
  first
    | exact wpAny_pure (wpAny_bind fin)
    | exact wpAny_bind (wpAny_pure (wpAny_bind fin))
    | exact wpAny_bind fin
theorem i_idx (hr : Room k X.A) : IxR X (rD X idxD) := by
  intro value slice pins s σ H x y v u Q I rx ry h hs
  obtain ⟨ρ, dx, dy, S, d, so, px, py, e, q⟩ := h
  cases dx <;> first | (cases e; done) | skip
  · rename_i z
    cases px
    cases dy <;> first | (cases e; done) | skip
    rename_i i
    cases py
    obtain ⟨hz, e⟩ := ifsome (show (if z.length ≤ sizeLine then some ((L2.atI z.cps.toList i).map fun c => PyData.str ⟨#[c]⟩) else none) = some (some d) by
      have e : (if z.length ≤ sizeLine then (L2.atI z.cps.toList i).map fun c => PyData.str ⟨#[c]⟩ else none) = some d := e
      by_cases hz : z.length ≤ sizeLine
      · rw [if_pos hz] at e ⊢; rw [e]
      · rw [if_neg hz] at e; cases e)
    cases ec : L2.atI z.cps.toList i with
    | none => rw [ec] at e; cases e
    | some c =>
      rw [ec] at e
      cases e
      exact ix_str value slice pins s σ H _ _ v u Q I rx ry ⟨z, i, c, rfl, rfl, hz, ec, q _ H .refl so (.str _)⟩ hs
  · rename_i ds
    cases dy <;> first | (cases e; done) | skip
    cases py
    cases px with
    | lst h r =>
      obtain ⟨w', ew, rw'⟩ := atI_ok r e
      exact ix_list value slice pins s σ H _ _ v u Q I rx ry ⟨_, _, _, w', rfl, rfl, h.sq, ew, q _ H .refl so rw'⟩ hs
  · rename_i ds
    cases dy <;> first | (cases e; done) | skip
    cases py
    cases px with
    | tup h r =>
      obtain ⟨w', ew, rw'⟩ := atI_ok r e
      exact ix_tup value slice pins s σ H _ _ v u Q I rx ry ⟨_, _, _, w', rfl, rfl, h.sq, ew, q _ H .refl so rw'⟩ hs
  · rename_i kvs
    have e : (cellD S (.dict kvs)).bind (cellAt dy) = some d := e
    cases ec : cellD S (.dict kvs) with
    | none => rw [ec] at e; cases e
    | some c =>
      rw [ec] at e
      obtain ⟨n, a, _, rfl, _, hS, hc⟩ := cellD_ok so px ec
      have hu : X.A.units + 1 < cLine := by have := hr.un; omega
      have dct : ∀ {dd : D}, getD c dy = some (some dd) → dd = d → wpAny (model X.prog X.w) X.A (subscriptTail value slice v u) (EP X pins σ Q) X.xe s := by
        intro dd eo ed
        subst ed
        obtain ⟨ov, g, h⟩ := dget_ok hc py eo
        rcases h with ⟨_, h⟩ | ⟨x', d', rfl, h, r'⟩
        · cases h
        · cases h
          exact ix_dict hu value slice pins s σ H _ _ v u Q I rx ry ⟨a, x', rfl, g, q _ H .refl so r'⟩ hs
      cases c with
      | lst xs =>
        have e : intAt xs dy = some d := e
        cases dy <;> first | (cases e; done) | skip
        cases py
        obtain ⟨ys, h1, h2⟩ := hc
        obtain ⟨w', ew, rw'⟩ := atI_ok h2 e
        exact ix_list value slice pins s σ H _ _ v u Q I rx ry ⟨_, _, _, w', rfl, rfl, SqL.of h1, ew, q _ H .refl so rw'⟩ hs
      | dK ks =>
        have e : (getD (.dK ks) dy).bind (fun o => o) = some d := e
        cases eo : getD (.dK ks) dy with
        | none => rw [eo] at e; cases e
        | some o =>
          rw [eo] at e
          cases o with
          | none => cases e
          | some dd => exact dct eo (Option.some.inj e)
      | dT ks =>
        have e : (getD (.dT ks) dy).bind (fun o => o) = some d := e
        cases eo : getD (.dT ks) dy with
        | none => rw [eo] at e; cases e
        | some o =>
          rw [eo] at e
          cases o with
          | none => cases e
          | some dd => exact dct eo (Option.some.inj e)
    theorem je_idx (hr : Room k X.A) (ha : JE X ts W a ga) (hb : JE X ts W b gb) (hs : PlainIx b := by exact fun _ _ => rfl) : JE X ts W (.Subscript a b pos) (bin idxD ga gb) :=
  je_of (pe_ix (i_idx hr) ha hb hs) fun σ H Q ⟨ρ, env, S, m, p⟩ => ⟨ρ, env, S, m, Post.next (f := fun x S1 => (gb env S1).bind fun y S2 => lift (idxD S2 x y) S2) p fun x ρ1 H1 dx S1 _ st so rx p1 =>
    ⟨ρ1, env, S1, m.step st so, Post.next (f := fun y S2 => lift (idxD S2 dx y) S2) p1 fun y ρ2 H2 dy S2 _ st2 so2 ry p2 => by
      cases e : idxD S2 dx dy with
      | none => rw [e] at p2; exact p2.elim
      | some d => rw [e] at p2; exact ⟨ρ2, dx, dy, S2, d, so2, rx.step st2, ry, e, fun v H' st so r => p2 v ρ2 H' st so r⟩⟩⟩
end
end Cor

/-! Core6: displays, slices, calls. -/
namespace Cor
open PySem PySem.Spec PyProof.Rows L2

theorem der_seq {K : PySem.W.Frag} {H : Hp} {ρ : Rho} {S : Sto} {v : V} {d : D} {ds : List D} (o : StoOk K H ρ S) (r : Rp K H ρ v d) (e : der S d = some (PyData.list ds)) : ∃ a xs, v = .ref a ∧ SqL K H a xs ∧ RpL K H ρ xs ds := by
  cases d with
  | dict kvs =>
    have e : (match refOf (.dict kvs) with
      | some n => match S[n]? with
        | some (.lst ds) => some (PyData.list ds)
        | _ => none
      | none => none) = some (PyData.list ds) := e
    cases en : refOf (.dict kvs) with
    | none => rw [en] at e; cases e
    | some n =>
      simp only [en] at e
      cases ec : S[n]? with
      | none => rw [ec] at e; cases e
      | some c =>
        rw [ec] at e
        obtain ⟨a, rfl, q, h⟩ := r.cellAt o en ec
        cases c with
        | lst ds =>
          obtain ⟨xs, h1, h2⟩ := h
          cases e
          exact ⟨a, xs, rfl, SqL.of h1, h2⟩
        | dK ks => cases e
        | dT ks => cases e
  | list ds =>
    cases e
    cases r with
    | lst h r => exact ⟨_, _, rfl, h.sq, r⟩
  | _ => cases e

/-! ### arguments, displays -/
def nilX : Exs := fun _ S => .ok [] S
def consX (g : Ex) (gs : Exs) : Exs := fun env S => (g env S).bind fun d S1 => (gs env S1).bind fun ds S2 => .ok (d :: ds) S2
def tupE (gs : Exs) : Ex := fun env S => (gs env S).bind fun ds S1 => if ds.length ≤ sizeLine then .ok (.tuple ds) S1 else .no
/-- what is wanted behind a fresh list: at H1 it is not there yet -/
def PostF (K : PySem.W.Frag) (mg : Str → Option Value) (W : WX) (σ : L2.St) (ρ : Rho) (H : Hp) (r : R (List D)) (Q : VK) : Prop :=
  match r with
  | .ok ds S' => ∀ xs ρ1 H1 p, Stp ρ H ρ1 H1 → StoOk K H1 ρ1 S' → RpL K H1 ρ1 xs ds → H1 p = none → Q (.ref p) (upd H1 p (.lst xs))
  | .er e S' => ∀ ρ' H' c o, Stp ρ H ρ' H' → StoOk K H' ρ' S' → ExnOk K mg H' ρ' e c o → W c o σ H'
  | .no => False
def tF (K : PySem.W.Frag) (mg : Str → Option Value) (ts : List Addr) (W : WX) (g : Exs) : TE := fun σ H Q => ∃ ρ env S, Sim K ts ρ env S σ H ∧ PostF K mg W σ ρ H (g env S) Q
/-- an expression that makes a list -/
abbrev JF (X : Cx) (ts : List Addr) (W : WX) (e : Expr) (g : Exs) : Prop := PE X e (tF X.K X.mg ts W g)
/-- never written: a value -/
def frz (g : Exs) : Ex := fun env S => (g env S).bind fun ds S1 => .ok (.list ds) S1
/-- a cell of the store -/
def cel (g : Exs) : Ex := fun env S => (g env S).bind fun ds S1 => .ok (rf S1.length) (S1 ++ [.lst ds])
section
variable {K : PySem.W.Frag} {mg : Str → Option Value} {W : WX} {σ : L2.St} {ρ ρ' : Rho} {H H' : Hp}
theorem PostF.from {r : R (List D)} {Q : VK} (h : PostF K mg W σ ρ H r Q) (s : Stp ρ H ρ' H') : PostF K mg W σ ρ' H' r Q := by
  cases r with
  | ok d S' => exact fun xs ρ1 H1 p t o r n => h xs ρ1 H1 p (s.trans t) o r n
  | er e S' => exact fun ρ'' H'' c o t so eo => h ρ'' H'' c o (s.trans t) so eo
  | no => exact h
theorem PostF.next {β' α' : Type} {rel : Hp → Rho → β' → α' → Prop} {r : R α'} {f : α' → Sto → R (List D)} {Q : VK} {Q1 : β' → Hp → Prop} (h : PostF K mg W σ ρ H (r.bind f) Q)
    (k : ∀ v ρ' H' d S', r = .ok d S' → Stp ρ H ρ' H' → StoOk K H' ρ' S' → rel H' ρ' v d → PostF K mg W σ ρ' H' (f d S') Q → Q1 v H') : Post K mg W σ ρ H rel r Q1 := by
  cases r with
  | ok d S' => exact fun v ρ' H' s o r => k v ρ' H' d S' rfl s o r (PostF.from h s)
  | er e S' => exact h
  | no => exact h
theorem PostF.done {ds : List D} {S : Sto} {Q : VK} {xs : List V} (h : PostF K mg W σ ρ H (.ok ds S) Q) (so : StoOk K H ρ S) (r : RpL K H ρ xs ds) : ∀ p, H p = none → Q (.ref p) (upd H p (.lst xs)) := fun p n => h xs ρ H p .refl so r n
/-- the fresh list is used as .. -/
theorem PostF.use {β' α' : Type} {rel : Hp → Rho → β' → α' → Prop} {r : R (List D)} {f : List D → Sto → R α'} {Q : β' → Hp → Prop} {Q1 : VK} (h : Post K mg W σ ρ H rel (r.bind f) Q)
    (k : ∀ ds S' xs ρ1 H1 p, r = .ok ds S' → Stp ρ H ρ1 H1 → StoOk K H1 ρ1 S' → RpL K H1 ρ1 xs ds → H1 p = none → Post K mg W σ ρ1 H1 rel (f ds S') Q → Q1 (.ref p) (upd H1 p (.lst xs))) : PostF K mg W σ ρ H r Q1 := by
  cases r with
  | ok ds S' => exact fun xs ρ1 H1 p t o r n => k ds S' xs ρ1 H1 p rfl t o r n (Post.from h t)
  | er e S' => exact h
  | no => exact h
end
section
variable {X : Cx} {ts : List Addr} {W : WX} {k : Nat} {pos : Pos} {a b e : Expr} {es : List Expr} {ga gb g : Ex} {gs : Exs}
theorem jx_of {t : TA} (h : PA X es t) (k : ∀ σ H Q, tX X.K X.mg ts W gs σ H Q → t σ H Q) : JX X ts W es gs := ⟨fun pos pins s σ H Q I q => h.run pos pins s σ H Q I (k σ H Q q)⟩
theorem jx_nil : JX X ts W [] nilX := jx_of pa_nil fun σ H Q ⟨ρ, env, S, m, p⟩ => Post.done (v := []) p m.sto .nil
theorem jx_cons (he : JE X ts W e g) (hs : JX X ts W es gs) (h1 : starEach (e :: es) X.env = (false, eval e X.env) :: starEach es X.env := by rfl) : JX X ts W (e :: es) (consX g gs) :=
  jx_of (pa_cons he hs h1) fun σ H Q ⟨ρ, env, S, m, p⟩ => ⟨ρ, env, S, m, Post.next (f := fun d S1 => (gs env S1).bind fun ds S2 => .ok (d :: ds) S2) p fun x ρ1 H1 d S1 _ st so rx p1 =>
    ⟨ρ1, env, S1, m.step st so, Post.next (f := fun ds S2 => .ok (d :: ds) S2) p1 fun xs ρ2 H2 ds S2 _ st2 so2 rxs p2 => Post.done (v := x :: xs) p2 so2 (.cons (rx.step st2) rxs)⟩⟩
theorem je_tup {x1 : Nat} (h : JX X ts W es gs) : JE X ts W (.Tuple es x1 pos) (tupE gs) :=
  je_of (pe_tup h) fun σ H Q ⟨ρ, env, S, m, p⟩ => ⟨ρ, env, S, m, Post.next (f := fun ds S1 => if ds.length ≤ sizeLine then .ok (PyData.tuple ds) S1 else .no) p fun xs ρ1 H1 ds S1 _ st so rx p1 => by
    by_cases z : ds.length ≤ sizeLine
    · rw [if_pos z] at p1
      exact ⟨by rw [rx.length]; exact z, fun q hq => p1 _ ρ1 _ (stp_new hq) (so.new_obj hq) (.tup ⟨upd_same, so.new hq⟩ (rx.step (stp_new hq)))⟩
    · rw [if_neg z] at p1; exact p1.elim⟩
theorem jf_of {e : Expr} {t : TE} {g : Exs} (h : PE X e t) (k : ∀ σ H Q, tF X.K X.mg ts W g σ H Q → t σ H Q) : JF X ts W e g := ⟨fun pins s σ H Q I q => h.run pins s σ H Q I (k σ H Q q)⟩
theorem je_frz (h : JF X ts W e gs) : JE X ts W e (frz gs) :=
  je_of h fun σ H Q ⟨ρ, env, S, m, p⟩ => ⟨ρ, env, S, m, PostF.use (f := fun ds S1 => .ok (PyData.list ds) S1) p fun ds S' xs ρ1 H1 q _ st so rx n p1 =>
    p1 _ ρ1 _ (stp_new n) (so.new_obj n) (.lst ⟨.inl upd_same, so.new n⟩ (rx.step (stp_new n)))⟩
theorem je_cel (h : JF X ts W e gs) : JE X ts W e (cel gs) :=
  je_of h fun σ H Q ⟨ρ, env, S, m, p⟩ => ⟨ρ, env, S, m, PostF.use (f := fun ds S1 => .ok (rf S1.length) (S1 ++ [.lst ds])) p fun ds S' xs ρ1 H1 q _ st so rx n p1 =>
    p1 _ (ρ1.add q) _ (stp_cell n) (so.new_cell (c := .lst ds) n ⟨xs, upd_same, rx.step (stp_cell n)⟩) (.rf (by show (ρ1.c ++ [q])[_]? = _; rw [← so.len, List.getElem?_append_right (Nat.le_refl _)]; simp))⟩
/-- a list display -/
def lstF (gs : Exs) : Exs := fun env S => (gs env S).bind fun ds S1 => if ds.length ≤ sizeLine then .ok ds S1 else .no
theorem jf_lst (h : JX X ts W es gs) : JF X ts W (.List es pos) (lstF gs) :=
  jf_of (pe_lst h) fun σ H Q ⟨ρ, env, S, m, p⟩ => ⟨ρ, env, S, m, PostF.next (f := fun (ds : List D) S1 => if ds.length ≤ sizeLine then .ok ds S1 else .no) p fun xs ρ1 H1 ds S1 _ st so rx p1 => by
    by_cases z : ds.length ≤ sizeLine
    · rw [if_pos z] at p1
      exact ⟨by rw [rx.length]; exact z, p1.done so rx⟩
    · rw [if_neg z] at p1; exact p1.elim⟩
end

/-! ### slices -/
def cutD (ds : List D) (lo hi : Option Int) : List D := (ds.drop (HT.sIx ds.length 0 lo)).take (HT.sIx ds.length ds.length hi - HT.sIx ds.length 0 lo)
abbrev Px := Envd → Sto → R (Option Int)
def noP : Px := fun _ S => .ok none S
def someP (g : Ex) : Px := fun env S => (g env S).bind fun d S1 => match d with
  | .int i => .ok (some i) S1
  | _ => .no
def slD (x : D) (lo hi : Option Int) : Option D := match x with
  | .tuple ds => some (.tuple (cutD ds lo hi))
  | .str z => if z.length ≤ sizeLine then some (.str (cutS z lo hi)) else none
  | _ => none
def slE (a : Ex) (lo hi : Px) : Ex := fun env S => (a env S).bind fun x S1 => (lo env S1).bind fun l S2 => (hi env S2).bind fun u S3 => lift (slD x l u) S3
/-- a list's slice -/
def slF (a : Ex) (lo hi : Px) : Exs := fun env S => (a env S).bind fun x S1 => (lo env S1).bind fun l S2 => (hi env S2).bind fun u S3 => match der S3 x with
  | some (.list ds) => .ok (cutD ds l u) S3
  | _ => .no
def tP (K : PySem.W.Frag) (mg : Str → Option Value) (ts : List Addr) (W : WX) (g : Px) : TO := fun σ H Q => ∃ ρ env S, Sim K ts ρ env S σ H ∧ Post K mg W σ ρ H (fun _ _ b b' => b = b') (g env S) Q
abbrev JP (X : Cx) (ts : List Addr) (W : WX) (e : Option Expr) (g : Px) : Prop := PO X e (tP X.K X.mg ts W g)
section
variable {X : Cx} {ts : List Addr} {W : WX} {k : Nat} {pos p2 : Pos} {a e : Expr} {lo hi : Option Expr} {ga g : Ex} {gl gu : Px}
theorem jp_none : JP X ts W none noP := ⟨fun pins s σ H Q I ⟨ρ, env, S, m, p⟩ => po_none.run pins s σ H Q I (Post.done (v := Option.none) p m.sto rfl)⟩
theorem jp_some (h : JE X ts W e g) : JP X ts W (some e) (someP g) := ⟨fun pins s σ H Q I ⟨ρ, env, S, m, p⟩ => (po_some h).run pins s σ H Q I
  ⟨ρ, env, S, m, Post.next (f := fun d S1 => match d with | .int i => .ok (some i) S1 | _ => .no) p fun x ρ1 H1 d S1 _ st so rx p1 => by
    cases d <;> first | exact p1.elim | skip
    cases rx
    exact ⟨_, rfl, Post.done p1 so rfl⟩⟩⟩
theorem cutD_ok {K : PySem.W.Frag} {H : Hp} {ρ : Rho} {xs : List V} {ds : List D} (r : RpL K H ρ xs ds) (lo hi : Option Int) : RpL K H ρ (cutV xs lo hi) (cutD ds lo hi) := by
  unfold cutV cutD
  rw [r.length]
  exact (r.drop _).take _
theorem je_sl (ha : JE X ts W a ga) (hl : JP X ts W lo gl) (hu : JP X ts W hi gu) : JE X ts W (.Subscript a (.Slice lo hi none p2) pos) (slE ga gl gu) :=
  je_of (pe_slice (sl_tupA.or sl_str) ha hl hu) fun σ H Q ⟨ρ, env, S, m, p⟩ => ⟨ρ, env, S, m, Post.next (f := fun x S1 => (gl env S1).bind fun l S2 => (gu env S2).bind fun u S3 => lift (slD x l u) S3) p fun x ρ1 H1 dx S1 er1 st so rx p1 =>
    ⟨ρ1, env, S1, m.step st so, Post.next (f := fun l S2 => (gu env S2).bind fun u S3 => lift (slD dx l u) S3) p1 fun l ρ2 H2 l' S2 _ st2 so2 el p2 => by
      subst el
      exact ⟨ρ2, env, S2, (m.step st so).step st2 so2, Post.next (f := fun u S3 => lift (slD dx l u) S3) p2 fun u ρ3 H3 u' S3 _ st3 so3 eu p3 => by
        subst eu
        cases dx <;> first | exact p3.elim | skip
        · rename_i z
          cases rx
          by_cases hz : z.length ≤ sizeLine
          · have p3 : Post X.K X.mg W σ ρ3 H3 (Rp X.K) (lift (if z.length ≤ sizeLine then some (PyData.str (cutS z l u)) else none) S3) Q := p3
            rw [if_pos hz] at p3
            exact .inr ⟨z, rfl, hz, Post.done p3 so3 (.str _)⟩
          · have p3 : Post X.K X.mg W σ ρ3 H3 (Rp X.K) (lift (if z.length ≤ sizeLine then some (PyData.str (cutS z l u)) else none) S3) Q := p3
            rw [if_neg hz] at p3; exact p3.elim
        · rename_i ds
          have rx := (rx.step st2).step st3
          cases rx with
          | tup h r =>
            rename_i a' xs
            refine .inl ⟨a', xs, rfl, h.sq, fun e => ?_, fun _ q hq => ?_⟩
            · have ec : cutD ds l u = ds := by
                unfold cutD
                rw [← r.length, e.1, e.2, r.length]
                simp
              have p3 : Post X.K X.mg W σ ρ3 H3 (Rp X.K) (.ok (PyData.tuple (cutD ds l u)) S3) Q := p3
              rw [ec] at p3
              exact Post.done p3 so3 (.tup h r)
            · exact p3 _ ρ3 _ (stp_new hq) (so3.new_obj hq) (.tup ⟨upd_same, so3.new hq⟩ ((cutD_ok r l u).step (stp_new hq)))⟩⟩⟩
theorem jf_sl (ha : JE X ts W a ga) (hl : JP X ts W lo gl) (hu : JP X ts W hi gu) : JF X ts W (.Subscript a (.Slice lo hi none p2) pos) (slF ga gl gu) :=
  jf_of (pe_slice sl_list ha hl hu) fun σ H Q ⟨ρ, env, S, m, p⟩ => ⟨ρ, env, S, m, PostF.next (f := fun x S1 => (gl env S1).bind fun l S2 => (gu env S2).bind fun u S3 => match der S3 x with | some (.list ds) => .ok (cutD ds l u) S3 | _ => .no) p fun x ρ1 H1 dx S1 er1 st so rx p1 =>
    ⟨ρ1, env, S1, m.step st so, PostF.next (f := fun l S2 => (gu env S2).bind fun u S3 => match der S3 dx with | some (.list ds) => .ok (cutD ds l u) S3 | _ => .no) p1 fun l ρ2 H2 l' S2 _ st2 so2 el p2 => by
      subst el
      exact ⟨ρ2, env, S2, (m.step st so).step st2 so2, PostF.next (f := fun u S3 => match der S3 dx with | some (.list ds) => .ok (cutD ds l u) S3 | _ => .no) p2 fun u ρ3 H3 u' S3 _ st3 so3 eu p3 => by
        subst eu
        cases ed : der S3 dx with
        | none => simp only [ed] at p3; exact p3.elim
        | some d' =>
          simp only [ed] at p3
          cases d' <;> first | exact p3.elim | skip
          obtain ⟨a', xs, rfl, h1, h2⟩ := der_seq so3 ((rx.step st2).step st3) ed
          exact ⟨_, _, rfl, h1, p3.done so3 (cutD_ok h2 l u)⟩⟩⟩⟩
end

/-! ### calls of one's own defs -/
abbrev Clls := Nat → List D → Sto → R D
def callE (C : Clls) (id : Nat) (gs : Exs) : Ex := fun env S => (gs env S).bind fun ds S1 => C id ds S1
/-- the promise of a def: what C tells -/
def spC (K : PySem.W.Frag) (mg : Str → Option Value) (ts : List Addr) (C : Clls) (id : Nat) (ar : Nat) : Sp := fun vs H Q E =>
  vs.length = ar ∧ ∃ ρ ds S, StoOk K H ρ S ∧ RpL K H ρ vs ds ∧ (∀ P ∈ ts, TabG H P ∧ P ∉ ρ.c) ∧ Post K mg (fun c o _ H' => E c o H') [] ρ H (Rp K) (C id ds S) Q
/-- the def of this name keeps it -/
def Cal (P : Program) (w : World) (K : PySem.W.Frag) (mg : Str → Option Value) (base : Heap) (ts : List Addr) (k : Nat) (C : Clls) (name : Str) (id ar : Nat) : Prop :=
  ∃ (f : Addr) (fd : FuncData) (ps : List Str), mg name = some (.ref f) ∧ PySem.W.keepIn K (.ref f) = true ∧ Binds K fd ps [] ∧ FnOk P w K mg base (L2.CX P w) k f fd ps (spC K mg ts C id ar)
section
variable {X : Cx} {ts : List Addr} {W : WX} {k : Nat} {pos p : Pos} {e : Expr} {es : List Expr} {gs : Exs} {C : Clls} {name : Str} {id ar : Nat}
theorem call_reading (hl : ∀ σ H Q, tX X.K X.mg ts W gs σ H Q → tX X.K X.mg ts W gs σ H fun vs H1 => vs.length = ar ∧ Q vs H1) : ∀ σ H Q, tE X.K X.mg ts W (callE C id gs) σ H Q → tCallSD (spC X.K X.mg ts C id ar) [] (WE W) (tX X.K X.mg ts W gs) σ H Q := by
  intro σ H Q ⟨ρ, env, S, m, p⟩
  have q : tX X.K X.mg ts W gs σ H fun vs H1 => ∃ ρ1 ds S1, StoOk X.K H1 ρ1 S1 ∧ RpL X.K H1 ρ1 vs ds ∧ (∀ P ∈ ts, TabG H1 P ∧ P ∉ ρ1.c) ∧ Post X.K X.mg (fun c o _ H' => W c o σ H') [] ρ1 H1 (Rp X.K) (C id ds S1) Q :=
    ⟨ρ, env, S, m, Post.next (f := fun ds S1 => C id ds S1) p fun vs ρ1 H1 ds S1 _ st so rx p1 => ⟨ρ1, ds, S1, so, rx, tab_step m.tab st, by
      cases er : C id ds S1 with
      | ok d S' => rw [er] at p1; exact p1
      | er e S' => rw [er] at p1; exact p1
      | no => rw [er] at p1; exact p1⟩⟩
  obtain ⟨ρ0, env0, S0, m0, p0⟩ := hl σ H _ q
  refine ⟨ρ0, env0, S0, m0, ?_⟩
  cases er : gs env0 S0 with
  | ok ds S' =>
    rw [er] at p0
    intro vs ρ1 H1 st so rx
    obtain ⟨hlen, ρ2, ds2, S2, so2, rx2, tb, pp⟩ := p0 vs ρ1 H1 st so rx
    show spC X.K X.mg ts C id ar (vs ++ []) H1 Q (WE W σ)
    rw [List.append_nil]
    exact ⟨hlen, ρ2, ds2, S2, so2, rx2, tb, pp⟩
  | er e S' => rw [er] at p0; exact p0
  | no => rw [er] at p0; exact p0
/-- how many arguments there are -/
class LenX (gs : Exs) (n : Nat) : Prop where
  len : ∀ env S ds S', gs env S = .ok ds S' → ds.length = n
instance : LenX nilX 0 := ⟨fun env S ds S' e => by cases e; rfl⟩
instance {g : Ex} {gs : Exs} {n : Nat} [h : LenX gs n] : LenX (consX g gs) (n + 1) := ⟨fun env S ds S' e => by
  unfold consX at e
  cases e1 : g env S with
  | ok d S1 =>
    rw [e1] at e
    have e : ((gs env S1).bind fun ds S2 => R.ok (d :: ds) S2) = .ok ds S' := e
    cases e2 : gs env S1 with
    | ok dr S2 =>
      rw [e2] at e
      cases e
      simp [h.len env S1 dr _ e2]
    | er x S2 => rw [e2] at e; cases e
    | no => rw [e2] at e; cases e
  | er x S1 => rw [e1] at e; cases e
  | no => rw [e1] at e; cases e⟩
theorem len_reading [h : LenX gs ar] : ∀ σ H Q, tX X.K X.mg ts W gs σ H Q → tX X.K X.mg ts W gs σ H fun vs H1 => vs.length = ar ∧ Q vs H1 := fun σ H Q ⟨ρ, env, S, m, p⟩ => ⟨ρ, env, S, m, by
  cases er : gs env S with
  | ok ds S' =>
    rw [er] at p
    exact fun vs ρ1 H1 st so rx => ⟨by rw [rx.length]; exact h.len env S ds S' er, p vs ρ1 H1 st so rx⟩
  | er e S' => rw [er] at p; exact p
  | no => rw [er] at p; exact p⟩
theorem je_call (cl : Cal X.prog X.w X.K X.mg X.base ts k C name id ar) (tk : Takes X W) (hr : Room k X.A) (hg : Gl X name) (ha : JX X ts W (e :: es) gs) [LenX gs ar]
    (hdb : (name == ("__debug__" : Str)) = false := by decide) (he : starEach (e :: es) X.env = (false, eval e X.env) :: starEach es X.env := by rfl) (hpl : (backTo pos (starEach es X.env)).any (·.1) = false := by rfl) :
    JE X ts W (.Call (.Name name p) (e :: es) [] pos) (callE C id gs) := by
  obtain ⟨f, fd, ps, hm, hk, hb, F⟩ := cl
  exact je_of (pe_callSD F hr hg hm hk hb .nil (fun σ => passAt tk σ) ha hdb he hpl) (call_reading len_reading)
end
end Cor

/-! Core7: built-in functions and types. -/
namespace Cor
open PySem PySem.Spec PyProof.Rows L2

def rC (X : Cx) (f : Sto → List D → Option D) : List V → Hp → VK → Prop := fun vs H Q => ∃ ρ ds S d, StoOk X.K H ρ S ∧ RpL X.K H ρ vs ds ∧ f S ds = some d ∧ ∀ v H', Stp ρ H ρ H' → StoOk X.K H' ρ S → Rp X.K H' ρ v d → Q v H'
def rCF (X : Cx) (f : Sto → List D → Option (List D)) : List V → Hp → VK → Prop := fun vs H Q => ∃ ρ ds S es, StoOk X.K H ρ S ∧ RpL X.K H ρ vs ds ∧ f S ds = some es ∧ ∀ xs H1 p, Stp ρ H ρ H1 → StoOk X.K H1 ρ S → RpL X.K H1 ρ xs es → H1 p = none → Q (.ref p) (upd H1 p (.lst xs))
def bltE (f : Sto → List D → Option D) (gs : Exs) : Ex := fun env S => (gs env S).bind fun ds S1 => lift (f S1 ds) S1
def bltF (f : Sto → List D → Option (List D)) (gs : Exs) : Exs := fun env S => (gs env S).bind fun ds S1 => lift (f S1 ds) S1
section
variable {X : Cx} {ts : List Addr} {W : WX} {k : Nat} {pos p : Pos} {e : Expr} {es : List Expr} {gs : Exs} {x : Str} {id T : String}
theorem blt_reading {f : Sto → List D → Option D} : ∀ σ H Q, tE X.K X.mg ts W (bltE f gs) σ H Q → tCB (rC X f) (tX X.K X.mg ts W gs) σ H Q := fun σ H Q ⟨ρ, env, S, m, p⟩ =>
  ⟨ρ, env, S, m, Post.next (f := fun ds S1 => lift (f S1 ds) S1) p fun vs ρ1 H1 ds S1 _ st so rx p1 => by
    cases e : f S1 ds with
    | none => rw [e] at p1; exact p1.elim
    | some d => rw [e] at p1; exact ⟨ρ1, ds, S1, d, so, rx, e, fun v H' st so r => p1 v ρ1 H' st so r⟩⟩
theorem bltF_reading {f : Sto → List D → Option (List D)} : ∀ σ H Q, tF X.K X.mg ts W (bltF f gs) σ H Q → tCB (rCF X f) (tX X.K X.mg ts W gs) σ H Q := fun σ H Q ⟨ρ, env, S, m, p⟩ =>
  ⟨ρ, env, S, m, PostF.next (f := fun ds S1 => lift (f S1 ds) S1) p fun vs ρ1 H1 ds S1 _ st so rx p1 => by
    cases e : f S1 ds with
    | none => rw [e] at p1; exact p1.elim
    | some d => rw [e] at p1; exact ⟨ρ1, ds, S1, d, so, rx, e, fun xs H1 p st so r n => p1 xs ρ1 H1 p st so r n⟩⟩
theorem je_blt {f : Sto → List D → Option D} (hc : CallR X (.builtin id) (rC X f)) (hg : Gl X x) (hm : X.mg x = none) (hv : bootBuiltins x = some (.builtin id)) (ha : JX X ts W (e :: es) gs) (hn : x ≠ "__name__" := by decide) (hdb : (x == ("__debug__" : Str)) = false := by decide)
    (he : starEach (e :: es) X.env = (false, eval e X.env) :: starEach es X.env := by rfl) (hpl : (backTo pos (starEach es X.env)).any (·.1) = false := by rfl) : JE X ts W (.Call (.Name x p) (e :: es) [] pos) (bltE f gs) :=
  je_of (pe_callB hc hg hm hv ha hn hdb he hpl) blt_reading
theorem je_bltT {f : Sto → List D → Option D} (hc : CallR X (.type T) (rC X f)) (hg : Gl X x) (hm : X.mg x = none) (hv : bootBuiltins x = some (.type T)) (ha : JX X ts W (e :: es) gs) (hn : x ≠ "__name__" := by decide) (hdb : (x == ("__debug__" : Str)) = false := by decide)
    (he : starEach (e :: es) X.env = (false, eval e X.env) :: starEach es X.env := by rfl) (hpl : (backTo pos (starEach es X.env)).any (·.1) = false := by rfl) : JE X ts W (.Call (.Name x p) (e :: es) [] pos) (bltE f gs) :=
  je_of (pe_callTy hc hg hm hv ha hn hdb he hpl) blt_reading
theorem jf_blt {f : Sto → List D → Option (List D)} (hc : CallR X (.builtin id) (rCF X f)) (hg : Gl X x) (hm : X.mg x = none) (hv : bootBuiltins x = some (.builtin id)) (ha : JX X ts W (e :: es) gs) (hn : x ≠ "__name__" := by decide) (hdb : (x == ("__debug__" : Str)) = false := by decide)
    (he : starEach (e :: es) X.env = (false, eval e X.env) :: starEach es X.env := by rfl) (hpl : (backTo pos (starEach es X.env)).any (·.1) = false := by rfl) : JF X ts W (.Call (.Name x p) (e :: es) [] pos) (bltF f gs) :=
  jf_of (pe_callB hc hg hm hv ha hn hdb he hpl) bltF_reading
theorem jf_bltT {f : Sto → List D → Option (List D)} (hc : CallR X (.type T) (rCF X f)) (hg : Gl X x) (hm : X.mg x = none) (hv : bootBuiltins x = some (.type T)) (ha : JX X ts W (e :: es) gs) (hn : x ≠ "__name__" := by decide) (hdb : (x == ("__debug__" : Str)) = false := by decide)
    (he : starEach (e :: es) X.env = (false, eval e X.env) :: starEach es X.env := by rfl) (hpl : (backTo pos (starEach es X.env)).any (·.1) = false := by rfl) : JF X ts W (.Call (.Name x p) (e :: es) [] pos) (bltF f gs) :=
  jf_of (pe_callTy hc hg hm hv ha hn hdb he hpl) bltF_reading
end

/-! ### the single ones -/
/-- a sequence's items, and whether it is a list -/
def seqD (S : Sto) (d : D) : Option (Bool × List D) := match der S d with
  | some (.list ds) => some (true, ds)
  | some (.tuple ds) => some (false, ds)
  | _ => none
theorem seqD_ok {K : PySem.W.Frag} {H : Hp} {ρ : Rho} {S : Sto} {v : V} {d : D} {b : Bool} {ds : List D} (o : StoOk K H ρ S) (r : Rp K H ρ v d) (e : seqD S d = some (b, ds)) :
    ∃ a xs, v = .ref a ∧ RpL K H ρ xs ds ∧ ((b = true ∧ SqL K H a xs) ∨ (b = false ∧ TupAt H ρ a xs ∧ d = .tuple ds)) := by
  unfold seqD at e
  cases ed : der S d with
  | none => rw [ed] at e; cases e
  | some d' =>
    rw [ed] at e
    cases d' <;> first | (cases e; done) | skip
    · cases e
      obtain ⟨a, xs, rfl, h1, h2⟩ := der_seq o r ed
      exact ⟨a, xs, rfl, h2, .inl ⟨rfl, h1⟩⟩
    · cases e
      have : d = .tuple ds := by
        cases d <;> first | (cases ed; rfl) | (cases ed; done) | skip
        rename_i kvs
        exfalso
        have ed : (match refOf (.dict kvs) with
          | some n => match S[n]? with
            | some (.lst ds) => some (PyData.list ds)
            | _ => none
          | none => none) = some (PyData.tuple ds) := ed
        cases en : refOf (.dict kvs) with
        | none => rw [en] at ed; cases ed
        | some n =>
          simp only [en] at ed
          cases ec : S[n]? with
          | none => rw [ec] at ed; cases ed
          | some c => rw [ec] at ed; cases c <;> cases ed
      subst this
      cases r with
      | tup h r => exact ⟨_, _, rfl, r, .inr ⟨rfl, h, rfl⟩⟩
def lenD (S : Sto) : List D → Option D
  | [.str x] => if x.length ≤ sizeLine then some (.int x.length) else none
  | [.dict kvs] => match cellD S (.dict kvs) with
    | some (.lst ds) => some (.int ds.length)
    | some (.dK ks) => some (.int ks.length)
    | _ => none
  | [.list ds] => some (.int ds.length)
  | [.tuple ds] => some (.int ds.length)
  | _ => none
def intD (_ : Sto) : List D → Option D
  | [.int i] => some (.int i)
  | [.bool b] => some (.int (if b then 1 else 0))
  | _ => none
def tupleD (S : Sto) : List D → Option D
  | [d] => (seqD S d).map fun p => .tuple p.2
  | _ => none
def listD (S : Sto) : List D → Option (List D)
  | [d] => (seqD S d).map fun p => p.2
  | _ => none
section
variable {X : Cx} {k : Nat}
theorem rpl1 {K : PySem.W.Frag} {H : Hp} {ρ : Rho} {vs : List V} {d : D} (r : RpL K H ρ vs [d]) : ∃ v, vs = [v] ∧ Rp K H ρ v d := by
  cases r with
  | cons h t => cases t; exact ⟨_, rfl, h⟩
theorem c_len : CallR X (.builtin "len") (rC X lenD) := by
  intro pins s σ H vs us Q I r h
  obtain ⟨ρ, ds, S, d, so, px, e, q⟩ := h
  match ds, e with
  | [], e => cases e
  | _ :: _ :: _, e =>
    rename_i a b l
    cases a <;> cases e
  | [x], e =>
    replace px := rpl1 px
    obtain ⟨v, rfl, px⟩ := px
    cases x <;> first | (cases e; done) | skip
    · rename_i x
      cases px
      obtain ⟨z, rfl⟩ := ifsome (show (if x.length ≤ sizeLine then some (PyData.int x.length) else none) = some d from e)
      exact call_len pins s σ H _ us Q I r ⟨V.str x, _, rfl, ⟨z, rfl⟩, q _ H .refl so (.int _)⟩
    · cases e
      cases px with
      | lst h rr => exact call_len pins s σ H _ us Q I r ⟨V.ref _, _, rfl, .inl ⟨_, h.sq, rr.length.symm⟩, q _ H .refl so (.int _)⟩
    · cases e
      cases px with
      | tup h rr => exact call_len pins s σ H _ us Q I r ⟨V.ref _, _, rfl, .inr ⟨_, h.sq, rr.length.symm⟩, q _ H .refl so (.int _)⟩
    · rename_i kvs
      have e : (match cellD S (.dict kvs) with | some (.lst ds) => some (PyData.int ds.length) | some (.dK ks) => some (PyData.int ks.length) | _ => none) = some d := e
      cases ec : cellD S (.dict kvs) with
      | none => rw [ec] at e; cases e
      | some c =>
        rw [ec] at e
        obtain ⟨n, a, _, rfl, _, hS, hc⟩ := cellD_ok so px ec
        cases c with
        | lst ds =>
          cases e
          obtain ⟨xs, h1, h2⟩ := hc
          exact call_len pins s σ H _ us Q I r ⟨V.ref _, _, rfl, .inl ⟨_, SqL.of h1, h2.length.symm⟩, q _ H .refl so (.int _)⟩
        | dK ks =>
          cases e
          obtain ⟨ys, h1, h2, h3⟩ := hc
          have hl := h3.length
          simp only [List.length_map] at hl
          exact call_lenD pins s σ H _ us Q I r ⟨_, _, rfl, h1, by rw [hl]; exact q _ H .refl so (.int _)⟩
        | dT ks => cases e
theorem c_int : CallR X (.type "int") (rC X intD) := by
  intro pins s σ H vs us Q I r h
  obtain ⟨ρ, ds, S, d, so, px, e, q⟩ := h
  match ds, e with
  | [], e => cases e
  | _ :: _ :: _, e =>
    rename_i a b l
    cases a <;> cases e
  | [x], e =>
    replace px := rpl1 px
    obtain ⟨v, rfl, px⟩ := px
    cases x <;> first | (cases e; done) | skip
    · cases px; cases e
      exact call_int1 pins s σ H _ us Q I r (.inr ⟨_, rfl, q _ H .refl so (.int _)⟩)
    · cases px; cases e
      exact call_int1 pins s σ H _ us Q I r (.inl ⟨_, rfl, q _ H .refl so (.int _)⟩)
theorem c_tuple : CallR X (.type "tuple") (rC X tupleD) := by
  intro pins s σ H vs us Q I r h
  obtain ⟨ρ, ds, S, d, so, px, e, q⟩ := h
  match ds, e with
  | [], e => cases e
  | _ :: _ :: _, e => cases e
  | [x], e =>
    replace px := rpl1 px
    obtain ⟨v, rfl, px⟩ := px
    have e : (seqD S x).map (fun p => PyData.tuple p.2) = some d := e
    cases es : seqD S x with
    | none => rw [es] at e; cases e
    | some p =>
      rw [es] at e
      cases e
      obtain ⟨b, ds⟩ := p
      obtain ⟨a, xs, rfl, rr, h⟩ := seqD_ok so px es
      refine call_tuple_of pins s σ H _ us Q I r ⟨a, xs, rfl, ?_⟩
      rcases h with ⟨_, h⟩ | ⟨_, h, _⟩
      · exact .inl ⟨h, fun l hl => q _ _ (stp_new hl) (so.new_obj hl) (.tup ⟨upd_same, so.new hl⟩ (rr.step (stp_new hl)))⟩
      · exact .inr ⟨h.sq, q _ H .refl so (.tup h rr)⟩
theorem c_list : CallR X (.type "list") (rCF X listD) := by
  intro pins s σ H vs us Q I r h
  obtain ⟨ρ, ds, S, d, so, px, e, q⟩ := h
  match ds, e with
  | [], e => cases e
  | _ :: _ :: _, e => cases e
  | [x], e =>
    replace px := rpl1 px
    obtain ⟨v, rfl, px⟩ := px
    have e : (seqD S x).map (fun p => p.2) = some d := e
    cases es : seqD S x with
    | none => rw [es] at e; cases e
    | some p =>
      rw [es] at e
      cases e
      obtain ⟨b, ds⟩ := p
      obtain ⟨a, xs, rfl, rr, h⟩ := seqD_ok so px es
      refine call_list_of pins s σ H _ us Q I r ⟨a, xs, rfl, ?_, fun l hl => q _ H l .refl so rr hl⟩
      rcases h with ⟨_, h⟩ | ⟨_, h, _⟩
      · exact .inl h
      · exact .inr h.sq
end

/-! ### sorted -/
/-- what sorted asks of the items -/
def SortOk (ds : List D) : Prop := (∀ d ∈ ds, flat d = true ∧ d.depth ≤ 64) ∧ PySem.W.AllAlike ds ∧ PySem.W.Sortable ds
def sortL (ds : List D) : List D := ds.mergeSort (PySem.W.dataLe false fun d => d)
open Classical in
noncomputable def sortedL : D → Option (List D)
  | .list ds => if SortOk ds then some (sortL ds) else none
  | _ => none
theorem sortedL_some {ds es : List D} (h : sortedL (.list ds) = some es) : SortOk ds ∧ sortL ds = es := by
  unfold sortedL at h
  by_cases z : SortOk ds
  · simp only [if_pos z] at h; exact ⟨z, Option.some.inj h⟩
  · simp only [if_neg z] at h; cases h
theorem sortedL_of {ds : List D} (h : SortOk ds) : sortedL (.list ds) = some (sortL ds) := by
  unfold sortedL
  simp only [if_pos h]
noncomputable def sortedD (S : Sto) : List D → Option (List D)
  | [d] => (der S d).bind sortedL
  | _ => none
section
variable {X : Cx} {k : Nat}
theorem paired_zip {K : PySem.W.Frag} {H : Hp} {ρ : Rho} : ∀ {xs : List V} {ds : List D} {us : List Value}, RpL K H ρ xs ds → Vals xs us → PySem.W.EachIs (fun (u : Value) (p : V × D) => RelV p.1 u ∧ Rp K H ρ p.1 p.2) us (xs.zip ds)
  | [], [], _, .nil, .nil => .nil
  | x :: xs, d :: ds, u :: us, .cons h t, .cons r rr => .cons ⟨r, h⟩ (paired_zip t rr)
theorem each_back {K : PySem.W.Frag} {H : Hp} {ρ : Rho} : ∀ {us : List Value} {ps : List (V × D)}, PySem.W.EachIs (fun (u : Value) (p : V × D) => RelV p.1 u ∧ Rp K H ρ p.1 p.2) us ps → Vals (ps.map (·.1)) us ∧ RpL K H ρ (ps.map (·.1)) (ps.map (·.2))
  | [], [], .nil => ⟨.nil, .nil⟩
  | u :: us, p :: ps, .cons h t => ⟨.cons h.1 (each_back t).1, .cons h.2 (each_back t).2⟩
theorem zip_snd {K : PySem.W.Frag} {H : Hp} {ρ : Rho} {xs : List V} {ds : List D} (r : RpL K H ρ xs ds) : (xs.zip ds).map (·.2) = ds := by
  rw [List.map_snd_zip]
  rw [r.length]; exact Nat.le_refl _
theorem each_reads {pins : List (Addr × Obj)} {s : Shared} {σ : L2.St} {H : Hp} {ρ : Rho} (I : L2.Inv X pins σ H s) : ∀ {xs : List V} {ds : List D} {us : List Value}, RpL X.K H ρ xs ds → Vals xs us → (∀ d ∈ ds, flat d = true) →
    PySem.W.EachIs (fun (u : Value) (p : V × D) => ∃ as, Reads s.heap u p.2 as) us (xs.zip ds)
  | [], [], _, .nil, .nil, _ => .nil
  | x :: xs, d :: ds, u :: us, .cons h t, .cons r rr, f => .cons (Dp.reads I d x u (h.dp (f d (List.mem_cons_self ..))) r) (each_reads I t rr fun d m => f d (List.mem_cons_of_mem _ m))
theorem c_sorted (hr : Room k X.A) : CallR X (.builtin "sorted") (rCF X sortedD) := by
  intro pins s σ H vs us Q I r h
  obtain ⟨ρ, ds, S, es, so, px, e, q⟩ := h
  match ds, e with
  | [], e => cases e
  | _ :: _ :: _, e => cases e
  | [x], e =>
    replace px := rpl1 px
    obtain ⟨v, rfl, px⟩ := px
    have e : (der S x).bind sortedL = some es := e
    cases ed : der S x with
    | none => rw [ed] at e; cases e
    | some d' =>
      rw [ed] at e
      cases d' <;> first | (cases e; done) | skip
      rename_i ds
      obtain ⟨⟨f1, al, sr⟩, rfl⟩ := sortedL_some e
      obtain ⟨a, xs, rfl, h1, rr⟩ := der_seq so px ed
      obtain ⟨its, rv, hl, hz⟩ := I.list h1
      rw [Vals.ref1 r]
      have hz2 := rr.length
      have es2 : (xs.zip ds).map (fun p : V × D => p.2) = ds := zip_snd rr
      have mem2 : ∀ b ∈ xs.zip ds, b.2 ∈ ds := fun b m => (List.of_mem_zip m).2
      refine PySem.W.sorted_data (enc := fun p : V × D => p.2) (bs := xs.zip ds) hl.isList (paired_zip rr rv) (each_reads I rr rv fun d m => (f1 d m).1) (by rw [es2]; exact al) (by rw [es2]; exact sr)
        (by rw [List.length_zip]; omega) (fun b m => ?_) fun out h1 h2 => ?_
      · have := (f1 b.2 (mem2 b m)).2
        have := hr.un
        omega
      · obtain ⟨k1, k2⟩ := each_back h2
        obtain ⟨ep, he'⟩ := PyProof.Rows.sortedAll_at s.heap its out.toArray
        have hlen : (((xs.zip ds).mergeSort (PySem.W.dataLe false fun p : V × D => p.2)).map (·.1)).length ≤ sizeLine := by
          rw [List.length_map, List.length_mergeSort, List.length_zip]; omega
        have em : ((xs.zip ds).mergeSort (PySem.W.dataLe false fun p : V × D => p.2)).map (·.2) = sortL ds := by
          unfold sortL
          have q := List.map_mergeSort (r := PySem.W.dataLe false fun p : V × D => p.2) (s := PySem.W.dataLe false fun d : D => d) (f := fun p : V × D => p.2) (l := xs.zip ds) (fun a _ b _ => rfl)
          rw [es2] at q
          exact q
        rw [em] at k2
        have hn : H (s.heap.objs.size + 1) = none := I.hok.fresh (Nat.le_succ _)
        exact ⟨.ref _, upd H (s.heap.objs.size + 1) (.lst (((xs.zip ds).mergeSort (PySem.W.dataLe false fun p : V × D => p.2)).map (·.1))), I.laid (t' := s.toks) (fun _ _ => PyProof.Rows.sortedAll_old) (Nat.le_succ _) ⟨hlen, out, ep, k1, he'⟩, rfl, q _ H _ .refl so k2 hn⟩
end
end Cor

/-! Core8: isinstance, targets, what is walked, statements, loops. -/
namespace Cor
open PySem PySem.Spec PyProof.Rows L2

/-! ### isinstance -/
inductive Kd where
  | non | bl | int | str | lst | tup | dct
  deriving DecidableEq
inductive Ty where
  | int | bool | str | tuple | list | dict
  deriving DecidableEq
def Kd.name : Kd → String
  | .non => "NoneType" | .bl => "bool" | .int => "int" | .str => "str" | .lst => "list" | .tup => "tuple" | .dct => "dict"
def Ty.name : Ty → String
  | .int => "int" | .bool => "bool" | .str => "str" | .tuple => "tuple" | .list => "list" | .dict => "dict"
def isK : Kd → Ty → Bool
  | .int, .int => true | .bl, .int => true | .bl, .bool => true | .str, .str => true | .tup, .tuple => true | .lst, .list => true | .dct, .dict => true
  | _, _ => false
def Cell.kd : Cell → Kd
  | .lst _ => .lst
  | .dK _ => .dct
  | .dT _ => .dct
def kindD (S : Sto) : D → Option Kd
  | .none => some .non
  | .bool _ => some .bl
  | .int _ => some .int
  | .str _ => some .str
  | .list _ => some .lst
  | .tuple _ => some .tup
  | .dict kvs => (cellD S (.dict kvs)).map Cell.kd
theorem kit_all (k : Kd) (t : Ty) : kitB k.name t.name = some (isK k t) := by
  cases k <;> cases t <;> decide +kernel
section
variable {X : Cx}
theorem kind_ty {H : Hp} {ρ : Rho} {S : Sto} {v : V} {d : D} {k : Kd} (o : StoOk X.K H ρ S) (r : Rp X.K H ρ v d) (e : kindD S d = some k) : TyX X.K H v (.type k.name) := by
  cases d with
  | none => cases r; cases e; exact .base .non
  | bool b => cases r; cases e; exact .base (.bl b)
  | int b => cases r; cases e; exact .base (.int b)
  | str b => cases r; cases e; exact .base (.str b)
  | list ds =>
    cases e
    cases r with
    | lst h r =>
      rcases h.1 with q | ⟨ob, q⟩
      · exact .base (.lst q)
      · exact .base (.frz q)
  | tuple ds =>
    cases e
    cases r with
    | tup h r => exact .base (.tup h.1)
  | dict kvs =>
    have e : (cellD S (.dict kvs)).map Cell.kd = some k := e
    cases ec : cellD S (.dict kvs) with
    | none => rw [ec] at e; cases e
    | some c =>
      rw [ec] at e
      obtain ⟨n, a, _, rfl, _, hS, hc⟩ := cellD_ok o r ec
      cases c with
      | lst ds => cases e; obtain ⟨xs, h1, _⟩ := hc; exact .base (.lst h1)
      | dK ds => cases e; obtain ⟨xs, h1, _⟩ := hc; exact .base (.dK h1)
      | dT ds => cases e; obtain ⟨xs, h1, _⟩ := hc; exact .base (.dT h1)
/-- isinstance(e, t1) or isinstance(e, (t1, t2)) -/
def isiE (a : Ex) (ts : List Ty) : Ex := fun env S => (a env S).bind fun d S1 => lift ((kindD S1 d).map fun k => .bool (ts.any (isK k))) S1
variable {ts : List Addr} {W : WX} {k : Nat} {pos p p1 p2 p3 : Pos} {e : Expr} {g : Ex} {x1 x2 : Str} {t1 t2 : Ty} {j : Nat}
theorem je_isi1 (hg : Gl X "isinstance") (hm : X.mg "isinstance" = none) (he : JE X ts W e g) (g1 : Gl X x1) (m1 : X.mg x1 = none) (v1 : bootBuiltins x1 = some (.type t1.name)) (n1 : x1 ≠ "__name__" := by decide) (d1 : (x1 == ("__debug__" : Str)) = false := by decide)
    (h1 : starEach [e, .Name x1 p1] X.env = (false, eval e X.env) :: starEach [.Name x1 p1] X.env := by rfl) : JE X ts W (.Call (.Name "isinstance" p) [e, .Name x1 p1] [] pos) (isiE g [t1]) := by
  have hT : PE X (.Name x1 p1) (tC (.ty t1.name)) := pe_bltn g1 m1 v1 rfl n1 d1
  refine je_of (pe_callB call_isi hg hm boot_isinstance (pa_cons he (pa_cons hT pa_nil)  h1) (by decide) (by decide) h1) fun σ H Q ⟨ρ, env, S, m, p⟩ => ⟨ρ, env, S, m, Post.next (f := fun d S1 => lift ((kindD S1 d).map fun k => PyData.bool ([t1].any (isK k))) S1) p fun x ρ1 H1 d S1 _ st so rx p1 => ?_⟩
  cases ek : kindD S1 d with
  | none => rw [ek] at p1; exact p1.elim
  | some kd =>
    rw [ek] at p1
    have p1 : Post X.K X.mg W σ ρ1 H1 (Rp X.K) (.ok (PyData.bool ([t1].any (isK kd))) S1) Q := p1
    rw [show [t1].any (isK kd) = isK kd t1 by simp] at p1
    exact ⟨x, _, _, _, _, rfl, .ty t1.name, kind_ty so rx ek, kit_ty (kit_all kd t1), Post.done p1 so (.bl _)⟩
theorem je_isi2 (hg : Gl X "isinstance") (hm : X.mg "isinstance" = none) (he : JE X ts W e g) (g1 : Gl X x1) (m1 : X.mg x1 = none) (v1 : bootBuiltins x1 = some (.type t1.name)) (g2 : Gl X x2) (m2 : X.mg x2 = none) (v2 : bootBuiltins x2 = some (.type t2.name))
    (n1 : x1 ≠ "__name__" := by decide) (d1 : (x1 == ("__debug__" : Str)) = false := by decide) (n2 : x2 ≠ "__name__" := by decide) (d2 : (x2 == ("__debug__" : Str)) = false := by decide)
    (h1 : starEach [e, .Tuple [.Name x1 p1, .Name x2 p2] j p3] X.env = (false, eval e X.env) :: starEach [.Tuple [.Name x1 p1, .Name x2 p2] j p3] X.env := by rfl) :
    JE X ts W (.Call (.Name "isinstance" p) [e, .Tuple [.Name x1 p1, .Name x2 p2] j p3] [] pos) (isiE g [t1, t2]) := by
  have hT1 : PE X (.Name x1 p1) (tC (.ty t1.name)) := pe_bltn g1 m1 v1 rfl n1 d1
  have hT2 : PE X (.Name x2 p2) (tC (.ty t2.name)) := pe_bltn g2 m2 v2 rfl n2 d2
  refine je_of (pe_callB call_isiT hg hm boot_isinstance (pa_cons he (pa_cons (pe_tup (pa_cons hT1 (pa_cons hT2 pa_nil))) pa_nil) h1) (by decide) (by decide) h1) fun σ H Q ⟨ρ, env, S, m, p⟩ => ⟨ρ, env, S, m, Post.next (f := fun d S1 => lift ((kindD S1 d).map fun k => PyData.bool ([t1, t2].any (isK k))) S1) p fun x ρ1 H1 d S1 _ st so rx p1 => ?_⟩
  cases ek : kindD S1 d with
  | none => rw [ek] at p1; exact p1.elim
  | some kd =>
    rw [ek] at p1
    refine ⟨by show 2 ≤ sizeLine; rw [sizeLine_eq]; decide, fun q hq => ?_⟩
    have tx := kind_ty (so.new_obj (o := .tup [.ty t1.name, .ty t2.name]) hq) (rx.step (stp_new hq)) ek
    refine ⟨x, q, [.ty t1.name, .ty t2.name], _, [.type t1.name, .type t2.name], [t1, t2].any (isK kd), rfl, upd_same, .cons (.ty _) (.cons (.ty _) .nil), tx, ?_, p1 _ ρ1 _ (stp_new hq) (so.new_obj hq) (.bl _)⟩
    have h1 := kit_ty (K := X.K) (kit_all kd t1)
    have h2 := kit_ty (K := X.K) (kit_all kd t2)
    refine kitAny_cons h1 (fun e1 => kitAny_cons h2 (fun e2 => ?_) fun e2 => ?_) fun e1 => ?_
    · simp only [List.any_cons, List.any_nil, e1, e2]
      rfl
    · simp only [List.any_cons, e2, Bool.true_or, Bool.or_true]
    · simp only [List.any_cons, e1, Bool.true_or]
end

/-! ### targets -/
abbrev Tg := D → Envd → Option Envd
/-- the same but at the slots L -/
def Agr (L : List Nat) (σ σ' : L2.St) : Prop := σ'.length = σ.length ∧ ∀ j : Nat, j ∉ L → σ'[j]? = σ[j]?
theorem Agr.refl {L : List Nat} {σ : L2.St} : Agr L σ σ := ⟨rfl, fun _ _ => rfl⟩
theorem Agr.trans {L L' : List Nat} {σ σ' σ'' : L2.St} (a : Agr L σ σ') (b : Agr L' σ' σ'') : Agr (L ++ L') σ σ'' :=
  ⟨b.1.trans a.1, fun j h => (b.2 j fun z => h (List.mem_append_right _ z)).trans (a.2 j fun z => h (List.mem_append_left _ z))⟩
def tG (K : PySem.W.Frag) (ts : List Addr) (L : List Nat) (g : Tg) : TG := fun v σ H Q => ∃ ρ env S d, Sim K ts ρ env S σ H ∧ Rp K H ρ v d ∧ match g d env with
  | some env' => ∀ σ' H', Stp ρ H ρ H' → Sim K ts ρ env' S σ' H' → Agr L σ σ' → Q σ' H'
  | none => False
abbrev JG (X : Cx) (ts : List Addr) (L : List Nat) (e : Expr) (g : Tg) : Prop := PG X e (tG X.K ts L g)
def setN (i : Nat) : Tg := fun d env => some (env.set i (some d))
abbrev Tgs := List D → Envd → Option Envd
def tGs (K : PySem.W.Frag) (ts : List Addr) (L : List Nat) (g : Tgs) : TGs := fun vs σ H Q => ∃ ρ env S ds, Sim K ts ρ env S σ H ∧ RpL K H ρ vs ds ∧ match g ds env with
  | some env' => ∀ σ' H', Stp ρ H ρ H' → Sim K ts ρ env' S σ' H' → Agr L σ σ' → Q σ' H'
  | none => False
abbrev JGs (X : Cx) (ts : List Addr) (L : List Nat) (es : List Expr) (g : Tgs) : Prop := PGs X es (tGs X.K ts L g)
def nilG : Tgs := fun ds env => match ds with
  | [] => some env
  | _ => none
def consG (g : Tg) (gs : Tgs) : Tgs := fun ds env => match ds with
  | d :: r => (g d env).bind (gs r)
  | [] => none
def tupG (n : Nat) (gs : Tgs) : Tg := fun d env => match d with
  | .tuple ds => if ds.length = n then gs ds env else none
  | _ => none
section
variable {X : Cx} {ts : List Addr} {pos : Pos} {e : Expr} {es : List Expr} {g : Tg} {gs : Tgs} {L L' : List Nat}
theorem jg_name {i : Nat} {x : Str} (hN : X.N.Nodup) (hi : X.N[i]? = some x) (hx : Loc X.env.scope x) (hf : X.fn x = true ∨ X.env.scope.names.lookup x = some .local := by first | exact .inl rfl | exact .inr rfl | assumption) : JG X ts [i] (.Name x pos) (setN i) :=
  ⟨fun pins s σ H v u Q I r ⟨ρ, env, S, d, m, rp, q⟩ => (pg_name hN hi hx hf).run pins s σ H v u Q I r (q _ H .refl ⟨m.env.set rp i, m.sto, m.tab⟩
    ⟨by simp, fun j hj => by rw [List.getElem?_set_ne (fun z => hj (by rw [z]; exact List.mem_singleton.mpr rfl))]⟩)⟩
theorem jgs_nil : JGs X ts [] [] nilG := ⟨fun pins s σ H vs us Q I r ⟨ρ, env, S, ds, m, rp, q⟩ => pgs_nil.run pins s σ H vs us Q I r (by
  cases ds with
  | nil => cases rp; exact ⟨rfl, q σ H .refl m .refl⟩
  | cons _ _ => exact q.elim)⟩
theorem jgs_cons (h1 : JG X ts L e g) (h2 : JGs X ts L' es gs) (hs : (assignEach (e :: es) X.env).map (·.2) = assign e X.env :: (assignEach es X.env).map (·.2) := by rfl) : JGs X ts (L ++ L') (e :: es) (consG g gs) :=
  ⟨fun pins s σ H vs us Q I r ⟨ρ, env, S, ds, m, rp, q⟩ => (pgs_cons h1 h2 hs).run pins s σ H vs us Q I r (by
    cases ds with
    | nil => exact q.elim
    | cons d dr =>
      cases rp with
      | cons h t =>
        refine ⟨_, _, rfl, ρ, env, S, d, m, h, ?_⟩
        cases e1 : g d env with
        | none =>
          have q : (match (g d env).bind (gs dr) with | some env' => _ | none => False) := q
          rw [e1] at q
          exact q.elim
        | some env1 =>
          intro σ1 H1 st m1 a1
          refine ⟨ρ, env1, S, dr, m1, t.step st, ?_⟩
          have q : (match (g d env).bind (gs dr) with | some env' => ∀ σ' H', Stp ρ H ρ H' → Sim X.K ts ρ env' S σ' H' → Agr (L ++ L') σ σ' → Q σ' H' | none => False) := q
          rw [e1] at q
          have q : (match gs dr env1 with | some env' => ∀ σ' H', Stp ρ H ρ H' → Sim X.K ts ρ env' S σ' H' → Agr (L ++ L') σ σ' → Q σ' H' | none => False) := q
          cases e2 : gs dr env1 with
          | none => rw [e2] at q; exact q.elim
          | some env2 => rw [e2] at q; exact fun σ2 H2 st2 m2 a2 => q σ2 H2 (st.trans st2) m2 (a1.trans a2))⟩
theorem jg_tup {k n : Nat} (hc : X.calm = true) (h : JGs X ts L es gs) (hn : (assignEach es X.env).length = n := by rfl) (hst : (assignEach es X.env).findIdx? (·.1) = none := by rfl) : JG X ts L (.Tuple es k pos) (tupG n gs) :=
  ⟨fun pins s σ H v u Q I r ⟨ρ, env, S, d, m, rp, q⟩ => (pg_tup hc h hn hst).run pins s σ H v u Q I r (by
    cases d <;> first | exact q.elim | skip
    rename_i ds
    cases rp with
    | tup hT rr =>
      have q : (match (if ds.length = n then gs ds env else none) with | some env' => ∀ σ' H', Stp ρ H ρ H' → Sim X.K ts ρ env' S σ' H' → Agr L σ σ' → Q σ' H' | none => False) := q
      by_cases hl : ds.length = n
      · rw [if_pos hl] at q
        exact ⟨_, _, rfl, hT.sq, by rw [rr.length]; exact hl, ρ, env, S, ds, m, rr, q⟩
      · rw [if_neg hl] at q; exact q.elim)⟩
end

/-! ### what is walked -/
abbrev Items := List D × Option Nat
/-- the walked cell is as it was -/
def guard (o : Option Nat) (ds : List D) (S : Sto) : Prop := match o with
  | none => True
  | some n => S[n]? = some (.lst ds)
structure Src (K : PySem.W.Frag) (ρ1 : Rho) (H1 : Hp) (o : Option Nat) (ds : List D) (J : It) : Prop where
  goes : ∀ i ρ H S, i < ds.length → Stp ρ1 H1 ρ H → StoOk K H ρ S → guard o ds S → J.go i H
  stops : ∀ ρ H S, Stp ρ1 H1 ρ H → StoOk K H ρ S → guard o ds S → J.stop ds.length H
  yields : ∀ i ρ H S x H', i < ds.length → Stp ρ1 H1 ρ H → StoOk K H ρ S → guard o ds S → J.yld i H x H' → ∃ d, ds[i]? = some d ∧ Stp ρ H ρ H' ∧ StoOk K H' ρ S ∧ Rp K H' ρ x d
abbrev Ix := Envd → Sto → R Items
def tI (K : PySem.W.Frag) (mg : Str → Option Value) (ts : List Addr) (W : WX) (g : Ix) : TI := fun σ H R => ∃ ρ env S, Sim K ts ρ env S σ H ∧ match g env S with
  | .ok p S' => ∀ ρ1 H1 J, Stp ρ H ρ1 H1 → StoOk K H1 ρ1 S' → guard p.2 p.1 S' → Src K ρ1 H1 p.2 p.1 J → R J H1
  | .er e S' => ∀ ρ' H' c o, Stp ρ H ρ' H' → StoOk K H' ρ' S' → ExnOk K mg H' ρ' e c o → W c o σ H'
  | .no => False
abbrev JI (X : Cx) (ts : List Addr) (W : WX) (tg iter : Expr) (g : Ix) : Prop := PI X tg iter (tI X.K X.mg ts W g)
/-- a sequence that is walked -/
def cellItems (n : Option Nat) : Cell → Option Items
  | .lst ds => some (ds, n)
  | _ => none
def itemsD (S : Sto) (d : D) : Option Items := match d with
  | .list ds => some (ds, none)
  | .tuple ds => some (ds, none)
  | .dict kvs => (cellD S (.dict kvs)).bind (cellItems (refOf (.dict kvs)))
  | _ => none
def valI (g : Ex) : Ix := fun env S => (g env S).bind fun d S1 => lift (itemsD S1 d) S1
def rangeL (lo hi : Int) : List D := (List.range (hi - lo).toNat).map fun i => .int (lo + (i : Nat))
def rng1 (g : Ex) : Ix := fun env S => (g env S).bind fun d S1 => match d with
  | .int j => if -(2 ^ 62) ≤ j ∧ j < 2 ^ 62 then .ok (rangeL 0 j, none) S1 else .no
  | _ => .no
def rngD : D → D → Option Items
  | .int i, .int j => if (-(2 ^ 62) ≤ i ∧ i < 2 ^ 62) ∧ (-(2 ^ 62) ≤ j ∧ j < 2 ^ 62) then some (rangeL i j, none) else none
  | _, _ => none
def rng2 (a b : Ex) : Ix := fun env S => (a env S).bind fun x S1 => (b env S1).bind fun y S2 => lift (rngD x y) S2
section
variable {X : Cx} {ts : List Addr} {W : WX} {tg : Expr} {pos p : Pos}
/-- a list or a tuple, whichever it is -/
theorem pi_seq {l : Expr} {tl : TE} (hl : PE X l tl) : PI X tg l (fun σ H R => tl σ H fun x H1 => (∃ a, x = .ref a ∧ (∃ xs, SqL X.K H1 a xs) ∧ R (Itl X.K a) H1) ∨ ∃ a, x = .ref a ∧ (∃ xs, SqT X.K H1 a xs) ∧ R (Itt X.K a) H1) := by
  refine ⟨fun pins s σ H R I h => ?_⟩
  refine thn (hl.run pins s σ H _ I h) fun v s1 ⟨x, H1, I1, r1, q1⟩ => ?_
  rcases q1 with ⟨a, e, ⟨xs, hq⟩, q⟩ | ⟨a, e, ⟨xs, hq⟩, q⟩
  · subst e
    cases r1
    obtain ⟨its, rv, p, hz⟩ := I1.list hq
    refine wpAny_pyIter_list p.isList ?_
    refine ⟨s1.heap.objs.size, [s1.heap.objs.size], _, _, H1, rfl, I1.kept (t' := s1.toks) fun b o e => Heap.get?_push_of_some _ e, turn_list a _, ⟨_, Heap.get?_push_size _ rfl, rfl, rfl⟩, fun b hb => ?_, q⟩
    have e : b = s1.heap.objs.size := by simpa using hb
    subst e
    exact I1.fpOk (Nat.le_refl _) (I1.hok.fresh (Nat.le_refl _))
  · subst e
    cases r1
    obtain ⟨its, rv, p, hz⟩ := I1.tuple hq
    refine wpAny_pyIter_tuple (show s1.heap.IsTuple a its.toArray from p) ?_
    refine ⟨s1.heap.objs.size, [s1.heap.objs.size], _, _, H1, rfl, I1.kept (t' := s1.toks) fun b o e => Heap.get?_push_of_some _ e, turn_tuple a _, ⟨_, Heap.get?_push_size _ rfl, rfl, rfl⟩, fun b hb => ?_, q⟩
    have e : b = s1.heap.objs.size := by simpa using hb
    subst e
    exact I1.fpOk (Nat.le_refl _) (I1.hok.fresh (Nat.le_refl _))
theorem ji_of {iter : Expr} {t : TI} {g : Ix} (h : PI X tg iter t) (k : ∀ σ H R, tI X.K X.mg ts W g σ H R → t σ H R) : JI X ts W tg iter g := ⟨fun pins s σ H R I q => h.run pins s σ H R I (k σ H R q)⟩
/-- a value met by what is walked -/
theorem tI_next {K : PySem.W.Frag} {mg : Str → Option Value} {W : WX} {σ : L2.St} {ρ : Rho} {H : Hp} {α β : Type} {rel : Hp → Rho → β → α → Prop} {r : R α} {f : α → Sto → R Items} {R' : It → Hp → Prop} {Q1 : β → Hp → Prop}
    (h : match r.bind f with
      | .ok p S' => ∀ ρ1 H1 J, Stp ρ H ρ1 H1 → StoOk K H1 ρ1 S' → guard p.2 p.1 S' → Src K ρ1 H1 p.2 p.1 J → R' J H1
      | .er e S' => ∀ ρ' H' c o, Stp ρ H ρ' H' → StoOk K H' ρ' S' → ExnOk K mg H' ρ' e c o → W c o σ H'
      | .no => False)
    (k : ∀ v ρ' H' d S', r = .ok d S' → Stp ρ H ρ' H' → StoOk K H' ρ' S' → rel H' ρ' v d → (match f d S' with
      | .ok p S' => ∀ ρ1 H1 J, Stp ρ' H' ρ1 H1 → StoOk K H1 ρ1 S' → guard p.2 p.1 S' → Src K ρ1 H1 p.2 p.1 J → R' J H1
      | .er e S' => ∀ ρ1 H1 c o, Stp ρ' H' ρ1 H1 → StoOk K H1 ρ1 S' → ExnOk K mg H1 ρ1 e c o → W c o σ H1
      | .no => False) → Q1 v H') : Post K mg W σ ρ H rel r Q1 := by
  cases r with
  | ok d S' =>
    intro v ρ' H' st so rx
    refine k v ρ' H' d S' rfl st so rx ?_
    have h : (match f d S' with
      | .ok p S' => ∀ ρ1 H1 J, Stp ρ H ρ1 H1 → StoOk K H1 ρ1 S' → guard p.2 p.1 S' → Src K ρ1 H1 p.2 p.1 J → R' J H1
      | .er e S' => ∀ ρ' H' c o, Stp ρ H ρ' H' → StoOk K H' ρ' S' → ExnOk K mg H' ρ' e c o → W c o σ H'
      | .no => False) := h
    cases er : f d S' with
    | ok p S2 => rw [er] at h; exact fun ρ1 H1 J s o g c => h ρ1 H1 J (st.trans s) o g c
    | er e S2 => rw [er] at h; exact fun ρ1 H1 c o s so eo => h ρ1 H1 c o (st.trans s) so eo
    | no => rw [er] at h; exact h
  | er e S' => exact h
  | no => exact h
theorem src_list {K : PySem.W.Frag} {ρ1 : Rho} {H1 : Hp} {a : Addr} {xs : List V} {ds : List D} (h : LstAt H1 ρ1 a xs) (r : RpL K H1 ρ1 xs ds) : Src K ρ1 H1 none ds (Itl K a) where
  goes := fun i ρ H S hi st so _ => walk_list.goes i H (by rw [r.length]; exact hi) (.inl (st.rd h.1 h.2 (fun _ q => nomatch q)).1)
  stops := fun ρ H S st so _ => by
    rw [← r.length]
    exact walk_list.stops H (.inl (st.rd h.1 h.2 (fun _ q => nomatch q)).1)
  yields := fun i ρ H S x H' hi st so _ y => by
    obtain ⟨rfl, e⟩ := walk_list.yields i H x H' (by rw [r.length]; exact hi) (.inl (st.rd h.1 h.2 (fun _ q => nomatch q)).1) y
    obtain ⟨d, ed, rd⟩ := (r.step st).get' e
    exact ⟨d, ed, .refl, so, rd⟩
theorem src_cell {K : PySem.W.Frag} {ρ1 : Rho} {H1 : Hp} {n : Nat} {a : Addr} {ds : List D} (h : ρ1.c[n]? = some a) : Src K ρ1 H1 (some n) ds (Itl K a) := by
  have at_ : ∀ {ρ : Rho} {H : Hp} {S : Sto}, Stp ρ1 H1 ρ H → StoOk K H ρ S → guard (some n) ds S → ∃ xs, SqL K H a xs ∧ RpL K H ρ xs ds := fun st so g => by
    obtain ⟨b, e, xs, h1, h2⟩ := so.cell n (.lst ds) g
    rw [st.at h] at e
    cases e
    exact ⟨xs, SqL.of h1, h2⟩
  exact {
    goes := fun i ρ H S hi st so g => by
      obtain ⟨xs, h1, h2⟩ := at_ st so g
      exact walk_list.goes i H (by rw [h2.length]; exact hi) h1
    stops := fun ρ H S st so g => by
      obtain ⟨xs, h1, h2⟩ := at_ st so g
      rw [← h2.length]
      exact walk_list.stops H h1
    yields := fun i ρ H S x H' hi st so g y => by
      obtain ⟨xs, h1, h2⟩ := at_ st so g
      obtain ⟨rfl, e⟩ := walk_list.yields i H x H' (by rw [h2.length]; exact hi) h1 y
      obtain ⟨d, ed, rd⟩ := h2.get' e
      exact ⟨d, ed, .refl, so, rd⟩ }
theorem src_tup {K : PySem.W.Frag} {ρ1 : Rho} {H1 : Hp} {a : Addr} {xs : List V} {ds : List D} (h : TupAt H1 ρ1 a xs) (r : RpL K H1 ρ1 xs ds) : Src K ρ1 H1 none ds (Itt K a) where
  goes := fun i ρ H S hi st so _ => walk_tup.goes i H (by rw [r.length]; exact hi) (SqT.of (st.stay h.1 h.2 (fun _ q => nomatch q)))
  stops := fun ρ H S st so _ => by
    rw [← r.length]
    exact walk_tup.stops H (SqT.of (st.stay h.1 h.2 (fun _ q => nomatch q)))
  yields := fun i ρ H S x H' hi st so _ y => by
    obtain ⟨rfl, e⟩ := walk_tup.yields i H x H' (by rw [r.length]; exact hi) (SqT.of (st.stay h.1 h.2 (fun _ q => nomatch q))) y
    obtain ⟨d, ed, rd⟩ := (r.step st).get' e
    exact ⟨d, ed, .refl, so, rd⟩
theorem src_range {K : PySem.W.Frag} {ρ1 : Rho} {H1 : Hp} {lo hi : Int} : Src K ρ1 H1 none (rangeL lo hi) (Itr lo (hi - lo).toNat) where
  goes := fun i ρ H S h st so _ => by
    have h : i < (rangeL lo hi).length := h
    unfold rangeL at h
    simp only [List.length_map, List.length_range] at h
    exact h
  stops := fun ρ H S st so _ => by
    unfold rangeL
    simp only [List.length_map, List.length_range]
    exact Nat.le_refl _
  yields := fun i ρ H S x H' h st so _ y => by
    obtain ⟨rfl, rfl⟩ := y
    unfold rangeL at h
    simp only [List.length_map, List.length_range] at h
    refine ⟨.int (lo + i), ?_, .refl, so, .int _⟩
    unfold rangeL
    simp [List.getElem?_range h]
theorem ji_val {l : Expr} {g : Ex} (hl : JE X ts W l g) : JI X ts W tg l (valI g) :=
  ji_of (pi_seq hl) fun σ H R ⟨ρ, env, S, m, q⟩ => ⟨ρ, env, S, m, tI_next (f := fun d S1 => lift (itemsD S1 d) S1) q fun x ρ1 H1 d S1 er1 st so rx p1 => by
    cases d <;> first | exact p1.elim | skip
    · cases rx with
      | lst h r => exact .inl ⟨_, rfl, ⟨_, h.sq⟩, p1 ρ1 H1 _ .refl so trivial (src_list h r)⟩
    · cases rx with
      | tup h r => exact .inr ⟨_, rfl, ⟨_, h.sq⟩, p1 ρ1 H1 _ .refl so trivial (src_tup h r)⟩
    · rename_i kvs
      cases ec : cellD S1 (.dict kvs) with
      | none =>
        have z : itemsD S1 (.dict kvs) = none := by show (cellD S1 (.dict kvs)).bind _ = none; rw [ec]; rfl
        simp only [z] at p1; exact p1.elim
      | some c =>
        obtain ⟨n, a, en, rfl, hn, hS, hc⟩ := cellD_ok so rx ec
        have z : itemsD S1 (.dict kvs) = cellItems (some n) c := by
          show (cellD S1 (.dict kvs)).bind (cellItems (refOf (.dict kvs))) = _
          rw [ec, en]; rfl
        cases c with
        | lst ds =>
          simp only [z, cellItems] at p1
          obtain ⟨xs, h1, h2⟩ := hc
          exact .inl ⟨a, rfl, ⟨xs, SqL.of h1⟩, p1 ρ1 H1 _ .refl so hS (src_cell hn)⟩
        | dK _ => simp only [z, cellItems] at p1; exact p1.elim
        | dT _ => simp only [z, cellItems] at p1; exact p1.elim⟩
theorem ji_rng1 {a : Expr} {g : Ex} (hg : Gl X "range") (hm : X.mg "range" = none) (ha : JE X ts W a g) (h1 : starEach [a] X.env = (false, eval a X.env) :: starEach [] X.env := by rfl) : JI X ts W tg (.Call (.Name "range" p) [a] [] pos) (rng1 g) :=
  ji_of (pi_range1 hg hm (pa_cons ha pa_nil h1) h1) fun σ H R ⟨ρ, env, S, m, q⟩ => ⟨ρ, env, S, m, tI_next (f := fun d S1 => match d with | .int j => if -(2 ^ 62) ≤ j ∧ j < 2 ^ 62 then .ok (rangeL 0 j, none) S1 else .no | _ => .no) q fun x ρ1 H1 d S1 er1 st so rx p1 => by
    cases d <;> first | exact p1.elim | skip
    rename_i j
    cases rx
    by_cases hj : -(2 ^ 62) ≤ j ∧ j < 2 ^ 62
    · simp only [if_pos hj] at p1
      refine ⟨j, rfl, hj.1, hj.2, ?_⟩
      have e := p1 ρ1 H1 _ .refl so trivial src_range
      simpa using e
    · simp only [if_neg hj] at p1⟩
theorem ji_rng2 {a b : Expr} {ga gb : Ex} (hg : Gl X "range") (hm : X.mg "range" = none) (ha : JE X ts W a ga) (hb : JE X ts W b gb) (h1 : starEach [a, b] X.env = (false, eval a X.env) :: starEach [b] X.env := by rfl) (h2 : starEach [b] X.env = (false, eval b X.env) :: starEach [] X.env := by rfl) :
    JI X ts W tg (.Call (.Name "range" p) [a, b] [] pos) (rng2 ga gb) :=
  ji_of (pi_range2 hg hm (pa_cons ha (pa_cons hb pa_nil h2) h1) (by rw [h1, h2]; rfl) h2) fun σ H R ⟨ρ, env, S, m, q⟩ => ⟨ρ, env, S, m, tI_next (f := fun x S1 => (gb env S1).bind fun y S2 => lift (rngD x y) S2) q fun x ρ1 H1 d S1 er1 st so rx p1 =>
    ⟨ρ1, env, S1, m.step st so, tI_next (f := fun y S2 => lift (rngD d y) S2) p1 fun y ρ2 H2 d2 S2 er2 st2 so2 ry p2 => by
      cases d <;> first | exact p2.elim | skip
      rename_i i
      cases d2 <;> first | exact p2.elim | skip
      rename_i j
      cases rx
      cases ry
      by_cases hj : (-(2 ^ 62) ≤ i ∧ i < 2 ^ 62) ∧ (-(2 ^ 62) ≤ j ∧ j < 2 ^ 62)
      · simp only [rngD, if_pos hj] at p2
        exact ⟨i, j, rfl, ⟨hj.1.1, hj.1.2, hj.2.1, hj.2.2⟩, p2 ρ2 H2 _ .refl so2 trivial src_range⟩
      · simp only [rngD, if_neg hj] at p2
        exact p2.elim⟩⟩
end
end Cor

/-! Core9: statements, loops, list comprehensions. -/
namespace Cor
open PySem PySem.Spec PyProof.Rows L2

abbrev JS (X : Cx) (ts : List Addr) (W : WX) (st : Stmt) (g : Blk) : Prop := PS X st (tS X.K X.mg ts W g)
abbrev JB (X : Cx) (ts : List Addr) (W : WX) (st : List Stmt) (g : Blk) : Prop := PSs X st (tS X.K X.mg ts W g)

def skipB : Blk := fun env S => .nx env S
def brkB : Blk := fun env S => .bk env S
def ctB : Blk := fun env S => .ct env S
def seqB (a b : Blk) : Blk := fun env S => (a env S).seq b
def expB (g : Ex) : Blk := fun env S => (g env S).to env fun _ S1 => .nx env S1
def retB (g : Ex) : Blk := fun env S => (g env S).to env fun d S1 => .rt d S1
def retN : Blk := fun _ S => .rt .none S
def ifB (c : Tx) (a b : Blk) : Blk := fun env S => (c env S).to env fun k S1 => if k = true then a env S1 else b env S1
def tgF (o : Option Envd) (S : Sto) : Fl := match o with
  | some env => .nx env S
  | none => .no
@[simp] theorem tgF_some (env : Envd) (S : Sto) : tgF (some env) S = .nx env S := rfl
def asgB (g : Ex) (t : Tg) : Blk := fun env S => (g env S).to env fun d S1 => tgF (t d env) S1
/-- name op= e -/
def augB (i : Nat) (f : Sto → D → D → Option D) (g : Ex) : Blk := fun env S => match env[i]? with
  | some (some d) => (g env S).to env fun y S1 => match f S1 d y with
    | some z => .nx (env.set i (some z)) S1
    | none => .no
  | _ => .no
open Classical in
noncomputable def guardF (o : Option Nat) (ds : List D) (S : Sto) (r : Fl) : Fl := if guard o ds S then r else .no
@[simp] theorem guardF_none (ds : List D) (S : Sto) (r : Fl) : guardF none ds S r = r := by unfold guardF; exact if_pos trivial
theorem guardF_some {n : Nat} {ds : List D} {S : Sto} (r : Fl) (h : S[n]? = some (.lst ds)) : guardF (some n) ds S r = r := by unfold guardF; exact if_pos h
theorem guardF_ok {o : Option Nat} {ds : List D} {S : Sto} {r : Fl} (h : guardF o ds S r ≠ .no) : guard o ds S ∧ guardF o ds S r = r := by
  unfold guardF at h ⊢
  by_cases z : guard o ds S
  · simp only [if_pos z] at h ⊢; exact ⟨z, trivial⟩
  · simp only [if_neg z] at h; exact (h rfl).elim
/-- a loop's turn -/
def Fl.turn (r : Fl) (again : Blk) : Fl := match r with
  | .nx env S => again env S
  | .ct env S => again env S
  | .bk env S => .nx env S
  | x => x
@[simp] theorem turn_nx (env : Envd) (S : Sto) (g : Blk) : (Fl.nx env S).turn g = g env S := rfl
@[simp] theorem turn_ct (env : Envd) (S : Sto) (g : Blk) : (Fl.ct env S).turn g = g env S := rfl
@[simp] theorem turn_bk (env : Envd) (S : Sto) (g : Blk) : (Fl.bk env S).turn g = .nx env S := rfl
@[simp] theorem turn_rt (d : D) (S : Sto) (g : Blk) : (Fl.rt d S).turn g = .rt d S := rfl
@[simp] theorem turn_er (e : Exn) (env : Envd) (S : Sto) (g : Blk) : (Fl.er e env S).turn g = .er e env S := rfl
@[simp] theorem turn_no (g : Blk) : (Fl.no).turn g = .no := rfl
noncomputable def forL (t : Tg) (b : Blk) (o : Option Nat) (all : List D) : List D → Blk
  | [], env, S => guardF o all S (.nx env S)
  | d :: ds, env, S => guardF o all S ((tgF (t d env) S).seq fun env1 S1 => (b env1 S1).turn (forL t b o all ds))
noncomputable def forB (it : Ix) (t : Tg) (b : Blk) : Blk := fun env S => (it env S).to env fun p S1 => forL t b p.2 p.1 p.1 env S1
def whileL (c : Tx) (b : Blk) : Nat → Blk
  | 0, _, _ => .no
  | n + 1, env, S => (c env S).to env fun k S1 => if k = true then (b env S1).turn (whileL c b n) else .nx env S1
def whileB (n : Nat) (c : Tx) (b : Blk) : Blk := whileL c b n

section
variable {X : Cx} {ts : List Addr} {W : WX} {pos : Pos} {st : Stmt} {rest : List Stmt} {e : Expr} {g : Ex} {a b : Blk}
theorem js_of {t : TS} {g : Blk} (h : PS X st t) (k : ∀ D σ H, tS X.K X.mg ts W g D σ H → t D σ H) : JS X ts W st g := ⟨fun pins s σ H D I q => h.run pins s σ H D I (k D σ H q)⟩
theorem jb_of {t : TS} {g : Blk} (h : PSs X rest t) (k : ∀ D σ H, tS X.K X.mg ts W g D σ H → t D σ H) : JB X ts W rest g := ⟨fun pins s σ H D I q => h.run pins s σ H D I (k D σ H q)⟩
theorem jb_nil : JB X ts W [] skipB := jb_of pss_nil fun D σ H ⟨ρ, env, S, m, q⟩ => q ρ σ H .refl m
theorem js_pass : JS X ts W (.Pass pos) skipB := js_of ps_pass fun D σ H ⟨ρ, env, S, m, q⟩ => q ρ σ H .refl m
theorem js_brk : JS X ts W (.Break pos) brkB := js_of ps_break fun D σ H ⟨ρ, env, S, m, q⟩ => q ρ σ H .refl m
theorem js_ct : JS X ts W (.Continue pos) ctB := js_of ps_continue fun D σ H ⟨ρ, env, S, m, q⟩ => q ρ σ H .refl m
theorem jb_one (h : JS X ts W st a) : JB X ts W [st] a := jb_of (pss_one h) fun _ _ _ q => q
theorem jb_cons (h : JS X ts W st a) (hr : JB X ts W rest b) : JB X ts W (st :: rest) (seqB a b) :=
  jb_of (pss_cons h hr) fun D σ H ⟨ρ, env, S, m, q⟩ => by
    refine ⟨ρ, env, S, m, ?_⟩
    unfold seqB at q
    cases er : a env S with
    | nx env1 S1 => rw [er] at q; exact fun ρ' σ' H' st' m' => ⟨ρ', env1, S1, m', PostB.from q st'⟩
    | rt d S1 => rw [er] at q; exact q
    | bk env1 S1 => rw [er] at q; exact q
    | ct env1 S1 => rw [er] at q; exact q
    | er e env1 S1 => rw [er] at q; exact q
    | no => rw [er] at q; exact q
theorem js_exp (h : JE X ts W e g) (hs : swapsWith e none pos.line X.env = pure false := by rfl) : JS X ts W (.Expr e pos) (expB g) :=
  js_of (ps_expr h hs) fun D σ H ⟨ρ, env, S, m, q⟩ => ⟨ρ, env, S, m, PostB.val (f := fun _ S1 => .nx env S1) m q fun v ρ' H' d S' _ st so r p => p ρ' σ H' .refl (m.step st so)⟩
theorem js_ret (h : JE X ts W e g) : JS X ts W (.Return (some e) pos) (retB g) :=
  js_of (ps_ret h) fun D σ H ⟨ρ, env, S, m, q⟩ => ⟨ρ, env, S, m, PostB.val (f := fun d S1 => .rt d S1) m q fun v ρ' H' d S' _ st so r p => p v ρ' H' .refl so r⟩
theorem js_retN : JS X ts W (.Return none pos) retN := js_of ps_retN fun D σ H ⟨ρ, env, S, m, q⟩ => q _ ρ H .refl m.sto .non
theorem js_if {c : Expr} {tc : Tx} {p q : List Stmt} (hc : JT X ts W c tc) (ha : JB X ts W p a) (hb : JB X ts W q b) : JS X ts W (.If c p q pos) (ifB tc a b) :=
  js_of (ps_if hc ha hb) fun D σ H ⟨ρ, env, S, m, q⟩ => ⟨ρ, env, S, m, PostB.val (f := fun k S1 => if k = true then a env S1 else b env S1) m q fun v ρ' H' d S' _ st so r p => by
    subst r
    cases v with
    | true => exact ⟨ρ', env, S', m.step st so, p⟩
    | false => exact ⟨ρ', env, S', m.step st so, p⟩⟩
theorem asg_reading {t : Tg} {L : List Nat} : ∀ D σ H, tS X.K X.mg ts W (asgB g t) D σ H → tAsg (tE X.K X.mg ts W g) (tG X.K ts L t) D σ H := fun D σ H ⟨ρ, env, S, m, q⟩ =>
  ⟨ρ, env, S, m, PostB.val (f := fun d S1 => tgF (t d env) S1) m q fun v ρ' H' d S' _ st so r p => by
    refine ⟨ρ', env, S', d, m.step st so, r, ?_⟩
    cases et : t d env with
    | none => rw [et] at p; exact p
    | some env' => rw [et] at p; exact fun σ' H'' st' m' _ => p ρ' σ' H'' st' m'⟩
theorem js_set {i : Nat} {x : Str} {pos' : Pos} (hN : X.N.Nodup) (hi : X.N[i]? = some x) (hx : Loc X.env.scope x) (he : JE X ts W e g) (hs : swapsWith e (some (.Name x pos')) pos.line X.env = pure false := by rfl) (hf : X.fn x = true ∨ X.env.scope.names.lookup x = some .local := by first | exact .inl rfl | exact .inr rfl | assumption) :
    JS X ts W (.Assign [.Name x pos'] e pos) (asgB g (setN i)) :=
  js_of (ps_set hN hi hx he hs hf) fun D σ H ⟨ρ, env, S, m, q⟩ => ⟨ρ, env, S, m, PostB.val (f := fun d S1 => tgF (setN i d env) S1) m q fun v ρ' H' d S' _ st so r p =>
    p ρ' _ H' .refl ⟨((m.step st so).env).set r i, so, (m.step st so).tab⟩⟩
theorem js_asg {tg : Expr} {t : Tg} {L : List Nat} (he : JE X ts W e g) (hg : JG X ts L tg t) (hs : swapsWithSole [tg] e pos.line X.env = pure false := by rfl) (hw : swappedStores [tg] e X.env = pure none := by rfl)
    (h1 : (assignEach [tg] X.env).map (·.2) = [assign tg X.env] := by rfl) : JS X ts W (.Assign [tg] e pos) (asgB g t) :=
  js_of (ps_asg he hg hs hw h1) asg_reading
/-- op=, by values -/
def rP (X : Cx) (f : Sto → D → D → Option D) : TIp := fun x y H Q => ∃ ρ dx dy S d, StoOk X.K H ρ S ∧ Rp X.K H ρ x dx ∧ Rp X.K H ρ y dy ∧ f S dx dy = some d ∧ ∀ v H', Stp ρ H ρ H' → StoOk X.K H' ρ S → Rp X.K H' ρ v d → Q v H'
theorem p_add : PIp X .Add (rP X addI) := by
  intro pins s σ H x y v u Q I rx ry h
  obtain ⟨ρ, dx, dy, S, d, so, px, py, e, q⟩ := h
  cases dx <;> cases dy <;> first | (cases e; done) | skip
  · cases px; cases py; cases e
    exact ip_add pins s σ H _ _ v u Q I rx ry ⟨_, _, rfl, rfl, q _ H .refl so (.int _)⟩
theorem p_sub : PIp X .Sub (rP X subD) := by
  intro pins s σ H x y v u Q I rx ry h
  obtain ⟨ρ, dx, dy, S, d, so, px, py, e, q⟩ := h
  cases dx <;> cases dy <;> first | (cases e; done) | skip
  cases px; cases py; cases e
  exact ip_sub pins s σ H _ _ v u Q I rx ry ⟨_, _, rfl, rfl, q _ H .refl so (.int _)⟩
theorem js_aug {i : Nat} {x : Str} {op : Operator} {f : Sto → D → D → Option D} {pos' : Pos} (hN : X.N.Nodup) (hi : X.N[i]? = some x) (hx : Loc X.env.scope x) (he : JE X ts W e g) (ho : PIp X op (rP X f)) (hf : X.fn x = true ∨ X.env.scope.names.lookup x = some .local := by first | exact .inl rfl | exact .inr rfl | assumption) :
    JS X ts W (.AugAssign (.Name x pos') op e pos) (augB i f g) :=
  js_of (ps_aug hN hi hx he ho hf) fun D σ H ⟨ρ, env, S, m, q⟩ => by
    unfold augB at q
    cases ei : env[i]? with
    | none => rw [ei] at q; exact q.elim
    | some o =>
      cases o with
      | none => rw [ei] at q; exact q.elim
      | some d =>
        rw [ei] at q
        obtain ⟨v, ev, rv⟩ := m.env.2 i d ei
        refine ⟨v, ev, ρ, env, S, m, PostB.val (f := fun y S1 => match f S1 d y with | some z => .nx (env.set i (some z)) S1 | none => .no) m q fun w ρ' H' y S' _ st so r p => ?_⟩
        cases ef : f S' d y with
        | none => rw [ef] at p; exact p.elim
        | some z =>
          rw [ef] at p
          refine ⟨ρ', d, y, S', z, so, rv.step st, r, ef, fun w' H'' st2 so2 r2 => ?_⟩
          have m2 := (m.step st so).step st2 so2
          exact p ρ' _ H'' st2 ⟨m2.env.set r2 i, so2, m2.tab⟩
theorem js_for {tg iter : Expr} {body : List Stmt} {gi : Ix} {t : Tg} {L : List Nat} {gb : Blk} (hp : PassesOwn (model X.prog X.w) X.A X.env X.xe) (hc : X.calm = true) (hi : JI X ts W tg iter gi) (hg : JG X ts L tg t) (hb : JB X ts W body gb)
    (hs : ∀ x, foldedSetIterable iter X.env x = pure x := by intro _; rfl) : JS X ts W (.For tg iter body [] pos) (forB gi t gb) :=
  js_of (ps_for hp hc hi hg hb hs) fun D σ H ⟨ρ, env, S, m, q⟩ => ⟨ρ, env, S, m, by
    unfold forB at q
    cases ei : gi env S with
    | no => rw [ei] at q; exact q
    | er e S' => rw [ei] at q; exact fun ρ' H' c o st so eo => q ρ' σ H' c o st (m.step st so) eo
    | ok p S' =>
      rw [ei] at q
      intro ρ1 H1 J st1 so1 g1 src
      have q : PostB X.K X.mg ts W ρ1 H1 (forL t gb p.2 p.1 p.1 env S') D := PostB.from q st1
      obtain ⟨ds, o⟩ := p
      refine ⟨fun i n σ H => n = ds.length - i ∧ i ≤ ds.length ∧ ∃ ρ env S, Stp ρ1 H1 ρ H ∧ Sim X.K ts ρ env S σ H ∧ PostB X.K X.mg ts W ρ H (forL t gb o ds (ds.drop i) env S) D,
        ⟨ds.length, by simp, Nat.zero_le _, ρ1, env, S', .refl, m.step st1 so1, by simpa using q⟩, ?_⟩
      rintro i n σ2 H2 ⟨rfl, hi2, ρ2, env2, S2, st2, m2, q2⟩
      by_cases hlt : i < ds.length
      · have ed : ds.drop i = ds[i] :: ds.drop (i + 1) := List.drop_eq_getElem_cons hlt
        rw [ed] at q2
        have nn : forL t gb o ds (ds[i] :: ds.drop (i + 1)) env2 S2 ≠ .no := fun z => by rw [z] at q2; exact q2
        obtain ⟨hgd, eg⟩ := guardF_ok (show guardF o ds S2 ((tgF (t ds[i] env2) S2).seq fun env1 S1 => (gb env1 S1).turn (forL t gb o ds (ds.drop (i + 1)))) ≠ .no from nn)
        have q2 : PostB X.K X.mg ts W ρ2 H2 (guardF o ds S2 ((tgF (t ds[i] env2) S2).seq fun env1 S1 => (gb env1 S1).turn (forL t gb o ds (ds.drop (i + 1))))) D := q2
        rw [eg] at q2
        refine .inr ⟨src.goes i ρ2 H2 S2 hlt st2 m2.sto hgd, fun σ H => i + 1 ≤ ds.length ∧ ∃ ρ env S, Stp ρ1 H1 ρ H ∧ Sim X.K ts ρ env S σ H ∧ PostB X.K X.mg ts W ρ H (forL t gb o ds (ds.drop (i + 1)) env S) D, fun σ' H' h => ⟨ds.length - (i + 1), by omega, rfl, h⟩, fun x H3 y => ?_⟩
        obtain ⟨d, e3, st3, so3, r3⟩ := src.yields i ρ2 H2 S2 x H3 hlt st2 m2.sto hgd y
        rw [List.getElem?_eq_getElem hlt] at e3
        cases e3
        refine ⟨ρ2, env2, S2, ds[i], m2.step st3 so3, r3, ?_⟩
        cases et : t ds[i] env2 with
        | none => rw [et] at q2; exact q2.elim
        | some env3 =>
          rw [et] at q2
          intro σ4 H4 st4 m4 _
          have q2 : PostB X.K X.mg ts W ρ2 H2 ((gb env3 S2).turn (forL t gb o ds (ds.drop (i + 1)))) D := q2
          refine ⟨ρ2, env3, S2, m4, ?_⟩
          have q4 := PostB.from q2 (st3.trans st4)
          have s14 : Stp ρ1 H1 ρ2 H4 := st2.trans (st3.trans st4)
          cases eb : gb env3 S2 with
          | nx e5 S5 => rw [eb] at q4; exact fun ρ5 σ5 H5 st5 m5 => ⟨hlt, ρ5, e5, S5, s14.trans st5, m5, PostB.from q4 st5⟩
          | ct e5 S5 => rw [eb] at q4; exact fun ρ5 σ5 H5 st5 m5 => ⟨hlt, ρ5, e5, S5, s14.trans st5, m5, PostB.from q4 st5⟩
          | bk e5 S5 => rw [eb] at q4; exact q4
          | rt d5 S5 => rw [eb] at q4; exact q4
          | er x5 e5 S5 => rw [eb] at q4; exact q4
          | no => rw [eb] at q4; exact q4
      · have hie : i = ds.length := by omega
        subst hie
        rw [List.drop_length] at q2
        have nn : forL t gb o ds [] env2 S2 ≠ .no := fun z => by rw [z] at q2; exact q2
        obtain ⟨hgd, eg⟩ := guardF_ok (show guardF o ds S2 (.nx env2 S2) ≠ .no from nn)
        have q2 : PostB X.K X.mg ts W ρ2 H2 (guardF o ds S2 (.nx env2 S2)) D := q2
        rw [eg] at q2
        exact .inl ⟨src.stops ρ2 H2 S2 st2 m2.sto hgd, q2 ρ2 σ2 H2 .refl m2⟩⟩
theorem js_while {c : Expr} {body : List Stmt} {tc : Tx} {gb : Blk} {n : Nat} (hp : PassesOwn (model X.prog X.w) X.A X.env X.xe) (hc : JT X ts W c tc) (hb : JB X ts W body gb) : JS X ts W (.While c body [] pos) (whileB n tc gb) :=
  js_of (ps_while hp hc hb) fun D σ H ⟨ρ, env, S, m, q⟩ => by
    refine ⟨fun n σ H => ∃ ρ env S, Sim X.K ts ρ env S σ H ∧ PostB X.K X.mg ts W ρ H (whileL tc gb n env S) D, ⟨n, ρ, env, S, m, q⟩, ?_⟩
    rintro n σ1 H1 ⟨ρ1, env1, S1, m1, q1⟩
    cases n with
    | zero => exact q1.elim
    | succ n =>
      refine ⟨ρ1, env1, S1, m1, PostB.val (f := fun k S1 => if k = true then (gb env1 S1).turn (whileL tc gb n) else .nx env1 S1) m1 q1 fun v ρ2 H2 k S2 _ st so r p => ?_⟩
      subst r
      cases v with
      | false => exact p ρ2 σ1 H2 .refl (m1.step st so)
      | true =>
        refine ⟨fun σ H => ∃ ρ env S, Sim X.K ts ρ env S σ H ∧ PostB X.K X.mg ts W ρ H (whileL tc gb n env S) D, fun σ' H' h => ⟨n, Nat.lt_succ_self n, h⟩, ρ2, env1, S2, m1.step st so, ?_⟩
        have p : PostB X.K X.mg ts W ρ2 H2 ((gb env1 S2).turn (whileL tc gb n)) D := p
        cases eb : gb env1 S2 with
        | nx e5 S5 => rw [eb] at p; exact fun ρ5 σ5 H5 st5 m5 => ⟨ρ5, e5, S5, m5, PostB.from p st5⟩
        | ct e5 S5 => rw [eb] at p; exact fun ρ5 σ5 H5 st5 m5 => ⟨ρ5, e5, S5, m5, PostB.from p st5⟩
        | bk e5 S5 => rw [eb] at p; exact p
        | rt d5 S5 => rw [eb] at p; exact p
        | er x5 e5 S5 => rw [eb] at p; exact p
        | no => rw [eb] at p; exact p
end
end Cor

/-! Core10: list comprehensions. -/
namespace Cor
open PySem PySem.Spec PyProof.Rows L2

/-! ### the heap without a list that was being made -/
/-- the heap without the object at D0 -/
def cutH (H : Hp) (D0 : Addr) : Hp := fun b => if b = D0 then none else H b
theorem cutH_ne {H : Hp} {D0 b : Addr} (h : b ≠ D0) : cutH H D0 b = H b := by unfold cutH; rw [if_neg h]
theorem cutH_at {H : Hp} {D0 : Addr} : cutH H D0 D0 = none := by unfold cutH; rw [if_pos rfl]
theorem cutH_upd {H : Hp} {D0 : Addr} {o : HO} (h : H D0 = some o) : upd (cutH H D0) D0 o = H := by
  funext b
  by_cases e : b = D0
  · subst e; rw [upd_same, h]
  · rw [upd_ne e, cutH_ne e]
section
variable {K : PySem.W.Frag} {H : Hp} {ρ : Rho} {D0 : Addr}
mutual
theorem Rp.cut_ {h : List Addr} (e : D0 ∈ ρ) (hs : ∀ a ∈ h, a ∈ ρ.h) : ∀ (d : D) (v : V), Rp K H ρ v d → Rp K (cutH H D0) ⟨ρ.c, h⟩ v d
  | .none, _, h => by cases h; exact .non
  | .bool b, _, h => by cases h; exact .bl b
  | .int i, _, h => by cases h; exact .int i
  | .str x, _, h => by cases h; exact .str x
  | .list ds, _, h => by
    cases h with
    | lst h r =>
      have hne : ∀ {a : Addr}, a ∉ ρ → a ≠ D0 := fun n z => n (by rw [z]; exact e)
      refine .lst ⟨?_, fun z => h.2 (z.imp id (hs _))⟩ (RpL.cut_ e hs ds _ r)
      rcases h.1 with q | ⟨o, q⟩
      · exact .inl ((cutH_ne (hne h.2)).trans q)
      · exact .inr ⟨o, (cutH_ne (hne h.2)).trans q⟩
  | .tuple ds, _, h => by
    cases h with
    | tup h r =>
      have hne : ∀ {a : Addr}, a ∉ ρ → a ≠ D0 := fun n z => n (by rw [z]; exact e)
      exact .tup ⟨(cutH_ne (hne h.2)).trans h.1, fun z => h.2 (z.imp id (hs _))⟩ (RpL.cut_ e hs ds _ r)
  | .dict kvs, _, h => by
    cases h with
    | rf h => exact .rf h
theorem RpL.cut_ {h : List Addr} (e : D0 ∈ ρ) (hs : ∀ a ∈ h, a ∈ ρ.h) : ∀ (ds : List D) (vs : List V), RpL K H ρ vs ds → RpL K (cutH H D0) ⟨ρ.c, h⟩ vs ds
  | [], _, h => by cases h; exact .nil
  | d :: ds, _, h => by
    cases h with
    | cons h t => exact .cons (Rp.cut_ e hs d _ h) (RpL.cut_ e hs ds _ t)
end
theorem CellOk.cut {a : Addr} {c : Cell} {h : List Addr} (e : D0 ∈ ρ) (hs : ∀ a ∈ h, a ∈ ρ.h) (hc : CellOk K H ρ a c) (n : a ≠ D0) : CellOk K (cutH H D0) ⟨ρ.c, h⟩ a c := by
  cases c with
  | lst ds => obtain ⟨xs, q, r⟩ := hc; exact ⟨xs, (cutH_ne n).trans q, RpL.cut_ e hs _ _ r⟩
  | dK ds => obtain ⟨xs, q, k, r⟩ := hc; exact ⟨xs, (cutH_ne n).trans q, k, RpL.cut_ e hs _ _ r⟩
  | dT ds => obtain ⟨xs, q, k, r⟩ := hc; exact ⟨xs, (cutH_ne n).trans q, k, RpL.cut_ e hs _ _ r⟩
theorem StoOk.cut {S : Sto} {h : List Addr} (e : D0 ∈ ρ.h) (hs : ∀ a ∈ h, a ∈ ρ.h) (hn : D0 ∉ h) (so : StoOk K H ρ S) : StoOk K (cutH H D0) ⟨ρ.c, h⟩ S := by
  have nD : D0 ∉ ρ.c := (so.hd D0 e).1
  refine ⟨so.len, so.nd, fun i c q => ?_, fun a m => ?_⟩
  · obtain ⟨a, ea, hc⟩ := so.cell i c q
    refine ⟨a, ea, hc.cut (.inr e) hs fun z => nD ?_⟩
    obtain ⟨hi, e2⟩ := List.getElem?_eq_some_iff.mp ea
    rw [← z, ← e2]; exact List.getElem_mem hi
  · obtain ⟨k, xs, q⟩ := so.hd a (hs a m)
    exact ⟨k, xs, (cutH_ne fun z => hn (by rw [← z]; exact m)).trans q⟩
mutual
theorem Rp.hupd_ {o : HO} (e : D0 ∈ ρ) : ∀ (d : D) (v : V), Rp K H ρ v d → Rp K (upd H D0 o) ρ v d
  | .none, _, h => by cases h; exact .non
  | .bool b, _, h => by cases h; exact .bl b
  | .int i, _, h => by cases h; exact .int i
  | .str x, _, h => by cases h; exact .str x
  | .list ds, _, h => by
    cases h with
    | lst h r =>
      have hne : ∀ {a : Addr}, a ∉ ρ → a ≠ D0 := fun n z => n (by rw [z]; exact e)
      refine .lst ⟨?_, h.2⟩ (RpL.hupd_ e ds _ r)
      rcases h.1 with q | ⟨o, q⟩
      · exact .inl (by rw [upd_ne (hne h.2)]; exact q)
      · exact .inr ⟨o, by rw [upd_ne (hne h.2)]; exact q⟩
  | .tuple ds, _, h => by
    cases h with
    | tup h r =>
      have hne : ∀ {a : Addr}, a ∉ ρ → a ≠ D0 := fun n z => n (by rw [z]; exact e)
      exact .tup ⟨by rw [upd_ne (hne h.2)]; exact h.1, h.2⟩ (RpL.hupd_ e ds _ r)
  | .dict kvs, _, h => by
    cases h with
    | rf h => exact .rf h
theorem RpL.hupd_ {o : HO} (e : D0 ∈ ρ) : ∀ (ds : List D) (vs : List V), RpL K H ρ vs ds → RpL K (upd H D0 o) ρ vs ds
  | [], _, h => by cases h; exact .nil
  | d :: ds, _, h => by
    cases h with
    | cons h t => exact .cons (Rp.hupd_ e d _ h) (RpL.hupd_ e ds _ t)
end
theorem StoOk.hupd {S : Sto} {ys : List V} (e : D0 ∈ ρ.h) (so : StoOk K H ρ S) : StoOk K (upd H D0 (.lst ys)) ρ S := by
  have nD : D0 ∉ ρ.c := (so.hd D0 e).1
  refine ⟨so.len, so.nd, fun i c q => ?_, fun a m => ?_⟩
  · obtain ⟨a, ea, hc⟩ := so.cell i c q
    have hne : a ≠ D0 := fun z => nD (by
      obtain ⟨hi, e2⟩ := List.getElem?_eq_some_iff.mp ea
      rw [← z, ← e2]; exact List.getElem_mem hi)
    refine ⟨a, ea, ?_⟩
    cases c with
    | lst ds => obtain ⟨xs, q, r⟩ := hc; exact ⟨xs, by rw [upd_ne hne]; exact q, RpL.hupd_ (.inr e) _ _ r⟩
    | dK ds => obtain ⟨xs, q, k, r⟩ := hc; exact ⟨xs, by rw [upd_ne hne]; exact q, k, RpL.hupd_ (.inr e) _ _ r⟩
    | dT ds => obtain ⟨xs, q, k, r⟩ := hc; exact ⟨xs, by rw [upd_ne hne]; exact q, k, RpL.hupd_ (.inr e) _ _ r⟩
  · obtain ⟨k, xs, q⟩ := so.hd a m
    by_cases z : a = D0
    · exact ⟨k, ys, by rw [z, upd_same]⟩
    · exact ⟨k, xs, by rw [upd_ne z]; exact q⟩
end

/-! ### the comprehension -/
def R.calm {α : Type} (r : R α) : R α := match r with
  | .er _ _ => .no
  | x => x
@[simp] theorem calm_ok {α : Type} (a : α) (S : Sto) : (R.ok a S).calm = .ok a S := rfl
@[simp] theorem calm_no {α : Type} : (R.no : R α).calm = .no := rfl
@[simp] theorem calm_er {α : Type} (e : Exn) (S : Sto) : (R.er e S : R α).calm = .no := rfl
def wipeE (env : Envd) : List Nat → Envd
  | [] => env
  | i :: r => (wipeE env r).set i none
open Classical in
noncomputable def guardR {α : Type} (o : Option Nat) (ds : List D) (S : Sto) (r : R α) : R α := if guard o ds S then r else .no
@[simp] theorem guardR_none {α : Type} (ds : List D) (S : Sto) (r : R α) : guardR none ds S r = r := by unfold guardR; exact if_pos trivial
theorem guardR_some {α : Type} {n : Nat} {ds : List D} {S : Sto} (r : R α) (h : S[n]? = some (.lst ds)) : guardR (some n) ds S r = r := by unfold guardR; exact if_pos h
theorem guardR_ok {α : Type} {o : Option Nat} {ds : List D} {S : Sto} {r : R α} (h : guardR o ds S r ≠ .no) : guard o ds S ∧ guardR o ds S r = r := by
  unfold guardR at h ⊢
  by_cases z : guard o ds S
  · simp only [if_pos z] at h ⊢; exact ⟨z, trivial⟩
  · simp only [if_neg z] at h; exact (h rfl).elim
def optR {α β : Type} (o : Option α) (f : α → R β) : R β := match o with
  | some a => f a
  | none => .no
@[simp] theorem optR_some {α β : Type} (a : α) (f : α → R β) : optR (some a) f = f a := rfl
@[simp] theorem optR_none {α β : Type} (f : α → R β) : optR none f = .no := rfl
noncomputable def compL (t : Tg) (c : Tx) (g : Ex) (o : Option Nat) (all : List D) (env : Envd) : List D → Sto → R (List D)
  | [], S => guardR o all S (.ok [] S)
  | d :: ds, S => guardR o all S (optR (t d env) fun env1 => (c env1 S).calm.bind fun b S1 =>
      if b = true then (g env1 S1).calm.bind fun y S2 => (compL t c g o all env ds S2).bind fun ys S3 => .ok (y :: ys) S3 else compL t c g o all env ds S1)
noncomputable def compF (gi : Ix) (t : Tg) (c : Tx) (g : Ex) (vs : List Nat) : Exs := fun env S => (gi env S).bind fun p S1 =>
  if p.1.length ≤ sizeLine then compL t c g p.2 p.1 (wipeE env vs) p.1 S1 else .no
def yesT : Tx := fun _ S => .ok true S
abbrev W0 : WX := fun _ _ _ _ => False
abbrev JTs (X : Cx) (ts : List Addr) (W : WX) (ifs : List Expr) (g : Tx) : Prop := PTs X ifs (tT X.K X.mg ts W g)
section
variable {X : Cx} {ts : List Addr} {W : WX}
theorem jts_nil : JTs X ts W [] yesT := ⟨fun pins s σ H Q I ⟨ρ, env, S, m, p⟩ => pts_nil.run pins s σ H Q I (Post.done (v := true) p m.sto rfl)⟩
theorem jts_one {c : Expr} {g : Tx} (h : JT X ts W c g) : JTs X ts W [c] g := pts_one h
theorem wipe_env {K : PySem.W.Frag} {H : Hp} {ρ : Rho} {env : Envd} {σ : L2.St} (h : EnvOk K H ρ env σ) : ∀ vs : List Nat, EnvOk K H ρ (wipeE env vs) (L2.wipe σ vs)
  | [] => h
  | i :: r => by
    have ih := wipe_env h r
    refine ⟨by simp [wipeE, L2.wipe, ih.1], fun j d e => ?_⟩
    by_cases hj : j = i
    · subst hj
      have hl : j < (wipeE env r).length := by
        have := (List.getElem?_eq_some_iff.mp e).1
        simpa [wipeE] using this
      unfold wipeE at e
      rw [List.getElem?_set_self hl] at e
      cases e
    · unfold wipeE at e
      rw [List.getElem?_set_ne (Ne.symm hj)] at e
      obtain ⟨v, q, rv⟩ := ih.2 j d e
      refine ⟨v, ?_, rv⟩
      show ((L2.wipe σ r).set i none)[j]? = _
      rw [List.getElem?_set_ne (Ne.symm hj)]; exact q
theorem wipe_agr {L vs : List Nat} {σ σ2 : L2.St} (hL : ∀ i ∈ L, i ∈ vs) (a : Agr L (L2.wipe σ vs) σ2) : L2.wipe σ2 vs = L2.wipe σ vs := by
  apply List.ext_getElem?
  intro j
  have wset : ∀ (vs : List Nat) (τ : L2.St), j ∈ vs → j < τ.length → (L2.wipe τ vs)[j]? = some none := by
    intro vs
    induction vs with
    | nil => intro τ h _; cases h
    | cons i r ih =>
      intro τ h hl
      show ((L2.wipe τ r).set i none)[j]? = _
      by_cases e : j = i
      · subst e
        rw [List.getElem?_set_self (by rw [L2.wipe_length]; exact hl)]
      · rw [List.getElem?_set_ne (Ne.symm e)]
        exact ih τ (by rcases List.mem_cons.mp h with z | z; exact absurd z e; exact z) hl
  have hlen : σ2.length = σ.length := by rw [a.1, L2.wipe_length]
  by_cases hj : j ∈ vs
  · by_cases hl : j < σ.length
    · rw [wset vs σ2 hj (by omega), wset vs σ hj hl]
    · rw [List.getElem?_eq_none (by rw [L2.wipe_length]; omega), List.getElem?_eq_none (by rw [L2.wipe_length]; omega)]
  · rw [L2.wipe_out hj, a.2 j (fun z => hj (hL j z))]
theorem ne_no {α : Type} {K : PySem.W.Frag} {mg : Str → Option Value} {σ : L2.St} {ρ : Rho} {H : Hp} {r : R (List D)} {Q : VK} (h : PostF K mg W σ ρ H r Q) : r ≠ .no := fun e => by subst e; exact h
/-- the reading of a comprehension -/
theorem lc_reading {gi : Ix} {t : Tg} {c : Tx} {g : Ex} {vs L : List Nat} (hL : ∀ i ∈ L, i ∈ vs) : ∀ σ H Q, tF X.K X.mg ts W (compF gi t c g vs) σ H Q →
    tLc (tI X.K X.mg ts W gi) (tG X.K ts L t) (tT X.K X.mg ts W0 c) (tE X.K X.mg ts W0 g) vs σ H Q := by
  intro σ H Q ⟨ρ, env, S, m, q⟩
  refine ⟨ρ, env, S, m, ?_⟩
  unfold compF at q
  cases ei : gi env S with
  | no => rw [ei] at q; exact q
  | er e S' => rw [ei] at q; exact q
  | ok p S1 =>
    rw [ei] at q
    obtain ⟨ds, o⟩ := p
    intro ρ1 H1 J st1 so1 g1 src D0 hD
    have q : PostF X.K X.mg W σ ρ1 H1 (if ds.length ≤ sizeLine then compL t c g o ds (wipeE env vs) ds S1 else .no) Q := PostF.from q st1
    by_cases hl : ds.length ≤ sizeLine
    case neg => rw [if_neg hl] at q; exact q.elim
    rw [if_pos hl] at q
    have hD1 : D0 ∉ ρ1 := so1.new hD
    have soN : StoOk X.K (upd H1 D0 (.lst [])) (ρ1.hide D0) S1 := so1.hide hD
    have m1 := m.step st1 so1
    have stN : Stp ρ1 H1 (ρ1.hide D0) (upd H1 D0 (.lst [])) := stp_hide hD
    have envN : EnvOk X.K H1 ρ1 (wipeE env vs) (L2.wipe σ vs) := wipe_env m1.env vs
    -- what is left to do at turn i
    refine ⟨fun i n H => n = ds.length - i ∧ i ≤ ds.length ∧ ∃ ρ S xs acc, Stp ρ1 H1 ρ H ∧ (D0 ∈ ρ.h ∧ ∀ a ∈ ρ1.h, a ∈ ρ.h) ∧ StoOk X.K H ρ S ∧ H D0 = some (.lst xs) ∧ RpL X.K H ρ xs acc ∧ xs.length ≤ i ∧
      PostF X.K X.mg W σ ρ1 H1 ((compL t c g o ds (wipeE env vs) (ds.drop i) S).bind fun ys S2 => .ok (acc ++ ys) S2) Q,
      ⟨ds.length, by simp, Nat.zero_le _, ρ1.hide D0, S1, [], [], stN, ⟨List.mem_cons_self .., fun a h => List.mem_cons_of_mem _ h⟩, soN, upd_same, .nil, Nat.le_refl _, ?_⟩, ?_⟩
    · rw [List.drop_zero]
      cases ec : compL t c g o ds (wipeE env vs) ds S1 with
      | ok ys S2 => rw [ec] at q; exact q
      | er e S2 => rw [ec] at q; exact q
      | no => rw [ec] at q; exact q
    rintro i n H2 ⟨rfl, hi2, ρ2, S2, xs, acc, st2, ⟨hid2, sub2⟩, so2, hD2, rx2, hx2, q2⟩
    by_cases hlt : i < ds.length
    · have ed : ds.drop i = ds[i] :: ds.drop (i + 1) := List.drop_eq_getElem_cons hlt
      rw [ed] at q2
      have nn : compL t c g o ds (wipeE env vs) (ds[i] :: ds.drop (i + 1)) S2 ≠ .no := fun z => by rw [z] at q2; exact q2
      obtain ⟨hgd, eg⟩ := guardR_ok (show guardR o ds S2 (optR (t ds[i] (wipeE env vs)) fun env1 => (c env1 S2).calm.bind fun b S1 =>
        if b = true then (g env1 S1).calm.bind fun y S2 => (compL t c g o ds (wipeE env vs) (ds.drop (i + 1)) S2).bind fun ys S3 => .ok (y :: ys) S3 else compL t c g o ds (wipeE env vs) (ds.drop (i + 1)) S1) ≠ .no from nn)
      rw [show compL t c g o ds (wipeE env vs) (ds[i] :: ds.drop (i + 1)) S2 = guardR o ds S2 (optR (t ds[i] (wipeE env vs)) fun env1 => (c env1 S2).calm.bind fun b S1 =>
        if b = true then (g env1 S1).calm.bind fun y S2 => (compL t c g o ds (wipeE env vs) (ds.drop (i + 1)) S2).bind fun ys S3 => .ok (y :: ys) S3 else compL t c g o ds (wipeE env vs) (ds.drop (i + 1)) S1) from rfl, eg] at q2
      refine .inr ⟨src.goes i ρ2 H2 S2 hlt st2 so2 hgd, fun H => i + 1 ≤ ds.length ∧ ∃ ρ S xs acc, Stp ρ1 H1 ρ H ∧ (D0 ∈ ρ.h ∧ ∀ a ∈ ρ1.h, a ∈ ρ.h) ∧ StoOk X.K H ρ S ∧ H D0 = some (.lst xs) ∧ RpL X.K H ρ xs acc ∧ xs.length ≤ i + 1 ∧
        PostF X.K X.mg W σ ρ1 H1 ((compL t c g o ds (wipeE env vs) (ds.drop (i + 1)) S).bind fun ys S2 => .ok (acc ++ ys) S2) Q, fun H' h => ⟨ds.length - (i + 1), by omega, rfl, h⟩, fun x H3 y => ?_⟩
      obtain ⟨d, e3, st3, so3, r3⟩ := src.yields i ρ2 H2 S2 x H3 hlt st2 so2 hgd y
      rw [List.getElem?_eq_getElem hlt] at e3
      cases e3
      refine ⟨ρ2, wipeE env vs, S2, ds[i], ⟨(envN.step st2).step st3, so3, tab_step m1.tab (st2.trans st3)⟩, r3, ?_⟩
      cases et : t ds[i] (wipeE env vs) with
      | none => rw [et] at q2; exact q2.elim
      | some env3 =>
        rw [et] at q2
        intro σ4 H4 st4 m4 a4
        have q2 : PostF X.K X.mg W σ ρ1 H1 (((c env3 S2).calm.bind fun b S1 =>
          if b = true then (g env3 S1).calm.bind fun y S2 => (compL t c g o ds (wipeE env vs) (ds.drop (i + 1)) S2).bind fun ys S3 => .ok (y :: ys) S3 else compL t c g o ds (wipeE env vs) (ds.drop (i + 1)) S1).bind fun ys S2 => .ok (acc ++ ys) S2) Q := q2
        refine ⟨wipe_agr hL a4, ρ2, env3, S2, m4, ?_⟩
        have s14 := st2.trans (st3.trans st4)
        have rx4 := rx2.step (st3.trans st4)
        have nD2 : D0 ∉ ρ2.c := (so2.hd D0 hid2).1
        have hD4 : H4 D0 = some (.lst xs) := (st3.trans st4).stayc hD2 nD2 (fun _ q => nomatch q)
        -- what stays of the hidden list
        have stays : ∀ {ρ' : Rho} {H' : Hp}, Stp ρ2 H4 ρ' H' → H' D0 = some (.lst xs) ∧ D0 ∈ ρ'.h ∧ ∀ a ∈ ρ1.h, a ∈ ρ'.h := fun st => by
          obtain ⟨tl, e, _⟩ := st.hid
          exact ⟨st.stayc hD4 nD2 (fun _ q => nomatch q), by rw [e]; exact List.mem_append_right _ hid2, fun a h => by rw [e]; exact List.mem_append_right _ (sub2 a h)⟩
        cases ec : c env3 S2 with
        | no => rw [ec] at q2; exact q2.elim
        | er e S5 => rw [ec] at q2; exact q2.elim
        | ok b S5 =>
          rw [ec] at q2
          intro b' ρ5 H5 st5 so5 eb
          subst eb
          have q2 : PostF X.K X.mg W σ ρ1 H1 ((if b' = true then (g env3 S5).calm.bind fun y S2 => (compL t c g o ds (wipeE env vs) (ds.drop (i + 1)) S2).bind fun ys S3 => .ok (y :: ys) S3 else compL t c g o ds (wipeE env vs) (ds.drop (i + 1)) S5).bind fun ys S2 => .ok (acc ++ ys) S2) Q := q2
          cases b' with
          | false =>
            obtain ⟨k1, k2, k3⟩ := stays st5
            exact ⟨hlt, ρ5, S5, xs, acc, s14.trans st5, ⟨k2, k3⟩, so5, k1, rx4.step st5, by omega, q2⟩
          | true =>
            have q2 : PostF X.K X.mg W σ ρ1 H1 (((g env3 S5).calm.bind fun y S2 => (compL t c g o ds (wipeE env vs) (ds.drop (i + 1)) S2).bind fun ys S3 => .ok (y :: ys) S3).bind fun ys S2 => .ok (acc ++ ys) S2) Q := q2
            refine ⟨ρ5, env3, S5, m4.step st5 so5, ?_⟩
            cases eg : g env3 S5 with
            | no => rw [eg] at q2; exact q2.elim
            | er e S6 => rw [eg] at q2; exact q2.elim
            | ok y S6 =>
              rw [eg] at q2
              intro yv ρ6 H6 st6 so6 ry
              have q2 : PostF X.K X.mg W σ ρ1 H1 (((compL t c g o ds (wipeE env vs) (ds.drop (i + 1)) S6).bind fun ys S3 => .ok (y :: ys) S3).bind fun ys S2 => .ok (acc ++ ys) S2) Q := q2
              obtain ⟨k1, k2, k3⟩ := stays (st5.trans st6)
              refine ⟨xs, k1, by omega, hlt, ρ6, S6, xs ++ [yv], acc ++ [y], ?_, ⟨k2, k3⟩, so6.hupd k2, upd_same, RpL.hupd_ (.inr k2) _ _ (((rx4.step st5).step st6).append (.cons ry .nil)), by simp; omega, ?_⟩
              · have s16 := s14.trans (st5.trans st6)
                exact ⟨s16.pre, s16.hid, s16.new, fun a u e n => by
                  obtain ⟨u', e', z⟩ := s16.keep a u e n
                  exact ⟨u', by rw [upd_ne (ne_of_none e hD)]; exact e', z⟩, fun P n h => by
                  obtain ⟨ps, e, tr⟩ := h
                  obtain ⟨ps', e', tr'⟩ := s16.tab P n ⟨ps, e, tr⟩
                  exact ⟨ps', by rw [upd_ne (ne_of_none e hD)]; exact e', tr'⟩⟩
              · cases er : compL t c g o ds (wipeE env vs) (ds.drop (i + 1)) S6 with
                | ok ys S7 =>
                  rw [er] at q2
                  show PostF X.K X.mg W σ ρ1 H1 (.ok ((acc ++ [y]) ++ ys) S7) Q
                  rw [List.append_assoc]
                  exact q2
                | er e S7 => rw [er] at q2; exact q2
                | no => rw [er] at q2; exact q2
    · have hie : i = ds.length := by omega
      subst hie
      rw [List.drop_length] at q2
      have nn : compL t c g o ds (wipeE env vs) [] S2 ≠ .no := fun z => by rw [z] at q2; exact q2
      obtain ⟨hgd, eg⟩ := guardR_ok (show guardR o ds S2 (.ok ([] : List D) S2) ≠ .no from nn)
      rw [show compL t c g o ds (wipeE env vs) [] S2 = guardR o ds S2 (.ok ([] : List D) S2) from rfl, eg] at q2
      refine .inl ⟨src.stops ρ2 H2 S2 st2 so2 hgd, ?_⟩
      have q2 : PostF X.K X.mg W σ ρ1 H1 (.ok (acc ++ []) S2) Q := q2
      rw [List.append_nil] at q2
      have hn : D0 ∉ ρ1.h := fun z => hD1 (.inr z)
      have fin := q2 xs ⟨ρ2.c, ρ1.h⟩ (cutH H2 D0) D0 ⟨st2.pre, ⟨[], rfl, fun _ h => nomatch h⟩, st2.new, fun a u e n => by
          obtain ⟨u', e', z⟩ := st2.keep a u e n
          exact ⟨u', (cutH_ne (ne_of_none e hD)).trans e', z⟩, fun P n h => by
          obtain ⟨ps, e, tr⟩ := h
          obtain ⟨ps', e', tr'⟩ := st2.tab P n ⟨ps, e, tr⟩
          exact ⟨ps', (cutH_ne (ne_of_none e hD)).trans e', tr'⟩⟩ (so2.cut hid2 sub2 hn) (RpL.cut_ (.inr hid2) sub2 _ _ rx2) cutH_at
      rw [cutH_upd hD2] at fin
      exact fin

theorem frz_reading {gs : Exs} : ∀ σ H Q, tE X.K X.mg ts W (frz gs) σ H Q → tF X.K X.mg ts W gs σ H Q := fun σ H Q ⟨ρ, env, S, m, p⟩ =>
  ⟨ρ, env, S, m, PostF.use (f := fun ds S1 => .ok (PyData.list ds) S1) p fun ds S' xs ρ1 H1 q _ st so rx n p1 =>
    p1 _ ρ1 _ (stp_new n) (so.new_obj n) (.lst ⟨.inl upd_same, so.new n⟩ (rx.step (stp_new n)))⟩
theorem cel_reading {gs : Exs} : ∀ σ H Q, tE X.K X.mg ts W (cel gs) σ H Q → tF X.K X.mg ts W gs σ H Q := fun σ H Q ⟨ρ, env, S, m, p⟩ =>
  ⟨ρ, env, S, m, PostF.use (f := fun ds S1 => .ok (rf S1.length) (S1 ++ [.lst ds])) p fun ds S' xs ρ1 H1 q _ st so rx n p1 =>
    p1 _ (ρ1.add q) _ (stp_cell n) (so.new_cell (c := .lst ds) n ⟨xs, upd_same, rx.step (stp_cell n)⟩) (.rf (by show (ρ1.c ++ [q])[_]? = _; rw [← so.len, List.getElem?_append_right (Nat.le_refl _)]; simp))⟩
section
variable {elt tg iter : Expr} {ifs : List Expr} {scope : Scope} {own : List (Str × Nat)} {L : List Nat} {pos : Pos} {gi : Ix} {t : Tg} {c : Tx} {g : Ex}
theorem jf_lc (hc : X.calm = true) (hN : X.N.Nodup) (hi : JI X ts W tg iter gi) (ok : BlkOk X.N X.env.scope scope own) (hL : ∀ i ∈ L, i ∈ own.map (·.2))
    (hg : ∀ (s : Shared) (H : Hp) (C : Addr) (cl : List (Str × Addr)) (fp : List Addr), JG (X.blk s H scope (compEnvC scope cl C X.env) fp) ts L tg t)
    (ht : ∀ (s : Shared) (H : Hp) (C : Addr) (cl : List (Str × Addr)) (fp : List Addr), JTs (X.blk s H scope (compEnvC scope cl C X.env) fp) ts W0 ifs c)
    (he : ∀ (s : Shared) (H : Hp) (C : Addr) (cl : List (Str × Addr)) (fp : List Addr), JE (X.blk s H scope (compEnvC scope cl C X.env) fp) ts W0 elt g)
    (hs : ∀ x, foldedSetIterable iter X.env x = pure x := by intro _; rfl) : JF X ts W (.ListComp elt [⟨tg, iter, ifs, 0⟩] scope pos) (compF gi t c g (own.map (·.2))) :=
  jf_of (pe_lc hc hN hi ok hg ht he hs) fun σ H Q q => lc_reading hL σ H Q q
theorem js_setLc {f : Exs → Ex} (hf : ∀ σ H Q, tE X.K X.mg ts W (f (compF gi t c g (own.map (·.2)))) σ H Q → tF X.K X.mg ts W (compF gi t c g (own.map (·.2))) σ H Q) {i : Nat} {y : Str} {py spos : Pos}
    (hc : X.calm = true) (hN : X.N.Nodup) (hy : X.N[i]? = some y) (hyl : X.env.scope.names.lookup y = some .local)
    (hsw : swapsWith (.ListComp elt [⟨tg, iter, ifs, 0⟩] scope pos) (some (.Name y py)) spos.line X.env = pure true) (hi : JI X ts W tg iter gi) (ok : BlkOk X.N X.env.scope scope own) (hL : ∀ i ∈ L, i ∈ own.map (·.2))
    (hg : ∀ (s : Shared) (H : Hp) (C : Addr) (cl : List (Str × Addr)) (fp : List Addr), JG (X.blk s H scope (compEnvC scope cl C X.env) fp) ts L tg t)
    (ht : ∀ (s : Shared) (H : Hp) (C : Addr) (cl : List (Str × Addr)) (fp : List Addr), JTs (X.blk s H scope (compEnvC scope cl C X.env) fp) ts W0 ifs c)
    (he : ∀ (s : Shared) (H : Hp) (C : Addr) (cl : List (Str × Addr)) (fp : List Addr), JE (X.blk s H scope (compEnvC scope cl C X.env) fp) ts W0 elt g)
    (hs : ∀ x, foldedSetIterable iter X.env x = pure x := by intro _; rfl) : JS X ts W (.Assign [.Name y py] (.ListComp elt [⟨tg, iter, ifs, 0⟩] scope pos) spos) (asgB (f (compF gi t c g (own.map (·.2)))) (setN i)) :=
  js_of (ps_setLc hc hN hy hyl hsw hi ok hg ht he hs) fun D σ H q => by
    have q2 : tE X.K X.mg ts W (f (compF gi t c g (own.map (·.2)))) σ H (fun x H1 => gName i x σ H1 D.nx) := by
      obtain ⟨ρ, env, S, m, q⟩ := q
      exact ⟨ρ, env, S, m, PostB.val (f := fun d S1 => tgF (setN i d env) S1) m q fun v ρ' H' d S' _ st so r p =>
        p ρ' _ H' .refl ⟨((m.step st so).env).set r i, so, (m.step st so).tab⟩⟩
    exact lc_reading hL σ H _ (hf σ H _ q2)
end
end
end Cor

/-! Core11: any, all of a generator expression. -/
namespace Cor
open PySem PySem.Spec PyProof.Rows L2 GenW

/-- the context of a generator expression's frame -/
abbrev gex (X : Cx) (A : Around) (s : Shared) (H : Hp) (genv : Env) (fp : List Addr) : Cx :=
  { X with A := A, s_0 := s, H_0 := H, env := genv, outer := X.stack, stack := genv :: X.stack, ex := fp, fn := fun _ => false, pn := [], xe := fun _ _ => False }
abbrev gEnv (X : Cx) (scope : Scope) (C : Addr) (code : Value) : Env := genEnv scope (cloFrom X.env.cells scope.names []) C code builtinsNs X.env
section
variable {X : Cx} {pins : List (Addr × Obj)} {σ : L2.St} {H : Hp} {s : Shared}
theorem gen_start {scope : Scope} {own : List (Str × Nat)} {fp : List Addr} {A' : Around} {code : Value} (I : Inv X pins σ H s) (ok : BlkOk X.N X.env.scope scope own) (hN : X.N.Nodup) (nocell : ∀ y ∈ scope.names, y.2 ≠ .cell)
    (hfp : ∀ b ∈ fp, FpOk X pins H b ∧ b < s.heap.objs.size) (hfr : A'.frames = some (gEnv X scope s.heap.objs.size code :: X.stack)) (hhd : A'.handled = none)
    {h' : Heap} {g' : Array GenState} {t' : Nat} {m : Str → Option Value} (hns : h'.Ns s.heap.objs.size m) (kp : ∀ b o, s.heap.get? b = some o → h'.get? b = some o) (hb : AllBare g') :
    Inv (gex X A' s H (gEnv X scope s.heap.objs.size code) fp) [] (wipe σ (own.map (·.2))) H { s with heap := h', gens := g', toks := t' } := by
  have hfree : ∀ y ∈ scope.names, y.2 = .free → ∃ c, X.env.cells.lookup y.1 = some c := fun y hy e => by
    rcases ok.free y hy e with k | k
    · exact I.ok.has _ (.inl k)
    · exact I.ok.has _ (.inr k)
  have cm : ∀ {y c}, (cloFrom X.env.cells scope.names []).lookup y = some c → X.env.cells.lookup y = some c ∧ c < s.heap.objs.size := fun {y c} hm => by
    rcases cloFrom_mem (PySem.mem_of_lookup hm) with hm | ⟨h1, rfl⟩
    · cases hm
    · obtain ⟨c, hc⟩ := hfree _ h1 rfl
      rw [hc]
      obtain ⟨w, z⟩ := I.cell _ _ hc
      exact ⟨rfl, z.lt⟩
  have look : ∀ {y}, scope.names.lookup y = some .free → ∃ c, (cloFrom X.env.cells scope.names []).lookup y = some c ∧ X.env.cells.lookup y = some c := fun {y} hl => by
    have hy : (y, NameKind.free) ∈ scope.names := PySem.mem_of_lookup hl
    obtain ⟨c', e'⟩ := mem_lookup (cloFrom_has (cells := X.env.cells) (acc := []) hy)
    exact ⟨c', e', (cm e').1⟩
  have okB : (gex X A' s H (gEnv X scope s.heap.objs.size code) fp).Ok := by
    refine ⟨I.ok.mod, ok.kind, I.ok.glob, rfl, Nat.le_refl _, fun y z c e1 e2 => I.ok.inj y z c (cm e1).1 (cm e2).1, fun y hy => ?_, fun y c z e => (by cases z), fun _ => hhd, hfr, .inr ⟨rfl, rfl⟩, fun b hb => ⟨Nat.ne_of_lt (hfp b hb).2, fun y c e => (hfp b hb).1.2.2.2.2.1 y c (cm e).1⟩,
      I.bs, Nat.le_trans I.ok.bsz I.sz, fun b o e hb => ?_, fun b hb z => ?_, I.stack, I.stkFree⟩
    · have hy : scope.names.lookup y = some .cell ∨ scope.names.lookup y = some .free := hy
      rcases hy with hy | hy
      · exact absurd rfl (nocell _ (PySem.mem_of_lookup hy))
      · obtain ⟨c, h1, _⟩ := look hy
        exact ⟨c, h1⟩
    · rcases (hfp b hb).1.2.2.2.1 with z | z
      · exact I.ok.noex b o e z
      · exact absurd (Nat.lt_of_lt_of_le (Heap.lt_size e) (Nat.le_trans I.ok.bsz z)) (Nat.lt_irrefl _)
    · rcases List.mem_cons.mp (I.stkSub b z) with z | z
      · exact (hfp b hb).1.2.1 z
      · exact (hfp b hb).1.2.2.1 z
  refine ⟨okB, rfl, hb, Un.kept kp, ⟨m, hns, fun i y av e1 e2 e3 => ?_⟩, fun y c e => ?_, I.hok.fresh (Nat.le_refl _), fun y c e => I.freeC y c (cm e).1, fun p hp => absurd (show p ∈ ([] : List (Addr × Obj)) ++ [] from hp) (by simp), I.hok.kept kp, by rw [wipe_length]; exact I.len⟩
  · obtain ⟨e2, hne⟩ := wipe_some e2
    have no : ¬ (scope.names.lookup y = some .local ∨ scope.names.lookup y = some .cell) := fun hh => by
      have : ∃ k, (k = NameKind.local ∨ k = .cell) ∧ scope.names.lookup y = some k := by
        rcases hh with h | h
        · exact ⟨_, .inl rfl, h⟩
        · exact ⟨_, .inr rfl, h⟩
      obtain ⟨k, hk, e⟩ := this
      rcases ok.own _ (PySem.mem_of_lookup e) hk with e' | e'
      · obtain ⟨p, hp, hpy⟩ := List.mem_map.mp e'
        have e3 := ok.ix p hp
        have : p.1 = y := hpy
        rw [this] at e3
        exact hne (List.mem_map.mpr ⟨p, hp, nodup_ix hN e3 e1⟩)
      · exact e' (List.mem_of_getElem? e1)
    have hfr : scope.names.lookup y = some .free := by
      have e3 : scope.names.lookup y = some .local ∨ scope.names.lookup y = some .cell ∨ scope.names.lookup y = some .free := e3
      rcases e3 with e3 | e3 | e3
      · exact absurd (.inl e3) no
      · exact absurd (.inr e3) no
      · exact e3
    obtain ⟨m, hn, hl⟩ := I.loc
    have hvis : Vis X.env.scope y := (ok.free _ (PySem.mem_of_lookup hfr) rfl).elim (fun k => .inr (.inl k)) (fun k => .inr (.inr k))
    obtain ⟨w, r, q⟩ := hl i y av e1 e2 hvis
    refine ⟨w, r, .inr ⟨.inr hfr, ?_⟩⟩
    obtain ⟨c, h1, h2⟩ := look hfr
    rcases q with ⟨k, _⟩ | ⟨_, c', e', z⟩
    · have k : X.env.scope.names.lookup y = some .local := k
      rcases ok.free _ (PySem.mem_of_lookup hfr) rfl with k' | k' <;> rw [show X.env.scope.names.lookup y = _ from k'] at k <;> cases k
    · rw [h2] at e'; cases e'
      exact ⟨c, h1, z.keeps kp⟩
  · obtain ⟨h1, _⟩ := cm (show (cloFrom X.env.cells scope.names []).lookup y = some c from e)
    obtain ⟨w, z⟩ := I.cell y c h1
    exact ⟨w, z.keeps kp⟩
theorem inv_gens {s' : Shared} (I : Inv X pins σ H s) (hh : s'.heap = s.heap) (ho : s'.os = s.os) (hb : AllBare s'.gens) : Inv X pins σ H s' := by
  obtain ⟨h, g, d, t, o⟩ := s'
  have hh : h = s.heap := hh
  have ho : o = s.os := ho
  subst hh ho
  exact ⟨I.ok, I.os, hb, I.base, I.loc, I.cell, I.free, I.freeC, I.pin, I.hok, I.len⟩
end

/-! ### the generator's own loop -/
def GRe (G : Cx) (pa : List (Addr × Obj)) (σw : L2.St) (Qe : Bool → Hp → Prop) (w : Bool) : GenEnd := fun _ _ r s1 => r = .ok .next ∧ ∃ H1, Inv G pa σw H1 s1 ∧ Qe w H1
def GYe (G : Cx) (pa : List (Addr × Obj)) (Qe : Bool → Hp → Prop) (w : Bool) : Protocol := fun _ _ v s kap =>
  ∃ r σ' H1, v = .bool r ∧ Inv G pa σ' H1 s ∧ ((r = w ∧ ∀ s'', s''.heap = s.heap → s''.os = s.os → AllBare s''.gens → kap (.send .none) s'') ∨ (r ≠ w ∧ Qe r H1))
theorem seg_gloop {G : Cx} {AW : Around} {elt tg iter : Expr} {ifs : List Expr} {scope : Scope} {gpos : Pos} {it : Addr} {J : It} {fp : List Addr} {tn : Nat → Heap → Prop} {g : TG} {tt : TT} {te : TE} {vs : List Nat} {σw : L2.St} {pa : List (Addr × Obj)} {w : Bool} {Qe : Bool → Hp → Prop} (W : Nat → Nat → Hp → Prop)
    (hc : G.calm = true) (hxe : ∀ e s, ¬ G.xe e s) (hco : G.env.scope.isCoroutine = false) (T : Turn G.prog G.w G.K tg J fp it tn) (pg : PG G tg g) (pt : PTs G ifs tt) (pe : PE G elt te)
    (hov : AW.over (.compLoop (.GeneratorExp elt [⟨tg, iter, ifs, 0⟩] scope gpos) 0 (.ref it) .none G.env) [] = G.A)
    (stat : ∀ σ' H' s', Inv G pa σ' H' s' → (∀ b ∈ fp, H' b = none) → ∀ b ∈ fp, FpOk G pa H' b)
    (turn : ∀ i m H, W i m H → (J.stop i H ∧ Qe w H) ∨ (J.go i H ∧ ∃ Nx : Hp → Prop, (∀ H', Nx H' → ∃ m', m' < m ∧ W (i + 1) m' H') ∧ ∀ x H', J.yld i H x H' → g x σw H' fun σ2 H2 => wipe σ2 vs = σw ∧ tt σ2 H2 fun b H3 =>
      if b = true then te σ2 H3 fun y H4 => ∃ r : Bool, y = .bl r ∧ ((r = w ∧ Nx H4) ∨ (r ≠ w ∧ Qe r H4)) else Nx H3)) :
    ∀ (m n i : Nat) (s₀ s : Shared) (H : Hp), m < n → W i m H → Inv G pa σw H s → tn i s.heap → (∀ b ∈ fp, H b = none) →
      Seg (model G.prog G.w) AW (GRe G pa σw Qe w) (GYe G pa Qe w) n s₀ (.compLoop (.GeneratorExp elt [⟨tg, iter, ifs, 0⟩] scope gpos) 0 (.ref it) .none G.env)
        ((model G.prog G.w).den (.compLoop (.GeneratorExp elt [⟨tg, iter, ifs, 0⟩] scope gpos) 0 (.ref it) .none G.env)) [] s := by
  intro m
  induction m using Nat.strongRecOn with
  | ind m ih =>
    intro n i s₀ s H hmn w0 I st nf
    show Seg _ AW _ _ n s₀ _ ((compTurn (.GeneratorExp elt [⟨tg, iter, ifs, 0⟩] scope gpos) 0 (.ref it) .none G.env).onRaise (leaving G.env)) [] s
    rw [compTurn_gen, Sem.onRaise_eq_wrap]
    refine seg_bind_wrap (wpAny_standAt ?_)
    refine seg_bind_wrap ?_
    rw [hov]
    rcases turn i m H w0 with ⟨stop, qq⟩ | ⟨go, Nx, hNx, step⟩
    · refine wpAny_mono (T.done G rfl rfl rfl hc i pa s σw H (fun _ _ => False) I (stat _ _ _ I nf) st stop) (fun r s6 h6 => ?_) fun _ _ z => z.elim
      obtain ⟨hr, I6⟩ := h6
      subst hr
      exact seg_end (.ok .next) ⟨rfl, H, I6, qq⟩
    · refine wpAny_mono (T.item G rfl rfl rfl hc i pa s σw H (fun _ _ => False) I (stat _ _ _ I nf) st go) (fun r s6 h6 => ?_) fun _ _ z => z.elim
      obtain ⟨u, hr, h6⟩ := h6
      subst hr
      refine seg_bind_wrap ?_
      rw [hov]
      refine wpAny_mono h6 (fun _ s7 h7 => ?_) fun _ _ z => z.elim
      obtain ⟨x, H7, I7, r7, y7, st7, n7⟩ := h7
      have I7' := I7.pinned (stat _ _ _ I7 n7) (T.obj _ _ st7)
      refine seg_bind_wrap ?_
      rw [hov]
      refine wpAny_mono (pg.run _ s7 _ H7 x u _ I7' r7 (step x H7 y7)) (fun _ s8 h8 => ?_) fun e s' z => (hxe e s' z).elim
      obtain ⟨σ8, H8, I8, hw8, q8⟩ := h8
      refine seg_bind_wrap ?_
      rw [hov]
      refine wpAny_mono (pt.run _ s8 σ8 H8 _ I8 q8) (fun b s9 h9 => ?_) fun e s' z => (hxe e s' z).elim
      obtain ⟨H9, I9, q9⟩ := h9
      have fin : ∀ {s' : Shared} {H' : Hp}, Inv G (pa ++ pinsAt fp s7.heap) σ8 H' s' → Inv G pa σw H' s' ∧ tn (i + 1) s'.heap ∧ ∀ b ∈ fp, H' b = none := fun {s' H'} I' => by
        have pin' : ∀ b ∈ fp, ∀ o, s7.heap.get? b = some o → s'.heap.get? b = some o ∧ H' b = none := fun b hb o e =>
          let z := I'.pin (b, o) (List.mem_append_right _ (List.mem_append_right _ (mem_pinsAt hb e)))
          ⟨z.1, z.2.1⟩
        refine ⟨(I'.unpinned (pins := pa)).weak (by rw [← hw8, wipe_length]) (fun j v e => ?_), T.keep _ _ _ st7 fun b hb o e => (pin' b hb o e).1, fun b hb => ?_⟩
        · rw [← hw8] at e
          exact (wipe_some e).1
        · obtain ⟨o, e, _⟩ := T.obj _ _ st7 b hb
          exact (pin' b hb o e).2
      cases b with
      | false =>
        simp only [Bool.false_eq_true, if_false] at q9 ⊢
        obtain ⟨m', hm, w'⟩ := hNx _ q9
        obtain ⟨k1, k2, k3⟩ := fin I9
        exact seg_again rfl (ih m' hm n (i + 1) s₀ s9 H9 (by omega) w' k1 k2 k3)
      | true =>
        simp only [if_true] at q9 ⊢
        have hy : ∀ v, yieldOut G.env v = yieldValue v := fun v => by simp only [yieldOut, hco, Bool.false_eq_true, if_false]
        simp only [hy]
        rw [Sem.bind_eq_wrap', Sem.bind_eq_wrap', Sem.wrap_wrap, Sem.wrap_wrap]
        refine seg_wrap ?_
        rw [hov]
        refine wpAny_mono (pe.run _ s9 σ8 H9 _ I9 q9) (fun z s10 h10 => ?_) fun e s' z => (hxe e s' z).elim
        obtain ⟨yv, H10, I10, r10, r, rfl, q10⟩ := h10
        have rz : z = .bool r := r10
        subst rz
        obtain ⟨k1, k2, k3⟩ := fin I10
        rcases q10 with ⟨hr, nx⟩ | ⟨hr, qq⟩
        · obtain ⟨m', hm, w'⟩ := hNx _ nx
          cases n with
          | zero => omega
          | succ n =>
            refine seg_at (seg_yield rfl rfl rfl ⟨r, σw, H10, rfl, k1, .inl ⟨hr, fun s'' hh ho hb => ?_⟩⟩)
            exact seg_again rfl (ih m' hm n (i + 1) s'' s'' H10 (by omega) w' (inv_gens k1 hh ho hb) (by rw [hh]; exact k2) k3)
        · cases n with
          | zero => omega
          | succ n => exact seg_at (seg_yield rfl rfl rfl ⟨r, σw, H10, rfl, k1, .inr ⟨hr, qq⟩⟩)

theorem seg_gstart {G : Cx} {AW : Around} {elt tg iter : Expr} {ifs : List Expr} {scope : Scope} {gpos : Pos} {it : Addr} {J : It} {fp : List Addr} {tn : Nat → Heap → Prop} {R : GenEnd} {Y : Protocol} {n i : Nat} {s₀ s : Shared}
    (T : Turn G.prog G.w G.K tg J fp it tn) (st : tn i s.heap)
    (loop : Seg (model G.prog G.w) AW R Y n s₀ (.compLoop (.GeneratorExp elt [⟨tg, iter, ifs, 0⟩] scope gpos) 0 (.ref it) .none G.env) ((model G.prog G.w).den (.compLoop (.GeneratorExp elt [⟨tg, iter, ifs, 0⟩] scope gpos) 0 (.ref it) .none G.env)) [] s) :
    Seg (model G.prog G.w) AW R Y n s₀ (.compStart (.GeneratorExp elt [⟨tg, iter, ifs, 0⟩] scope gpos) 0 (.ref it) .none G.env) ((model G.prog G.w).den (.compStart (.GeneratorExp elt [⟨tg, iter, ifs, 0⟩] scope gpos) 0 (.ref it) .none G.env)) [] s := by
  show Seg _ AW _ _ _ s₀ _ ((compStart (.GeneratorExp elt [⟨tg, iter, ifs, 0⟩] scope gpos) 0 (.ref it) .none G.env).onRaise (leaving G.env)) [] s
  unfold compStart
  rw [Sem.onRaise_eq_wrap]
  show Seg _ AW _ _ _ s₀ _ ((ask >>= _).wrap _ _ _ _) [] s
  refine seg_bind_wrap (wpAny_askSetting ?_)
  split
  · exact seg_again rfl loop
  · refine seg_bind_wrap (wpAny_rule ?_)
    first
      | exact seg_bind_wrap (wpAny_standAt (seg_bind_wrap (T.self _ i s _ _ st (seg_again rfl loop))))
      | (show Seg _ AW _ _ _ s₀ _ ((standAt iter.pos >>= _).wrap _ _ _ _) [] s; exact seg_bind_wrap (wpAny_standAt (seg_bind_wrap (T.self _ i s _ _ st (seg_again rfl loop)))))

/-! ### the consumer -/
/-- the generator at a, ready to be pulled -/
def GRdy (X : Cx) (pins : List (Addr × Obj)) (σ : L2.St) (w : Bool) (Qe : Bool → Hp → Prop) (n : Nat) (a : Addr) (s5 : Shared) : Prop :=
  ∃ (G : Cx) (pa : List (Addr × Obj)) (g : Nat) (gs : GenState) (σw : L2.St), G.prog = X.prog ∧ G.w = X.w ∧ (∀ σ' H' s', Inv G pa σ' H' s' → s'.heap.IsGen a g) ∧ (∃ σ' H', Inv G pa σ' H' s5) ∧ s5.gens[g]? = some gs ∧
    gs.Goes (model X.prog X.w) X.A.in1.in1 (GRe G pa σw Qe w) (GYe G pa Qe w) n (.send .none) (s5.setGen g .running) ∧ ∀ σ' H' s', Inv G pa σ' H' s' → Inv X pins σ H' s'
theorem bare_set {s : Shared} {g : Nat} {x : GenState} (h : AllBare s.gens) (hx : x.bare = true) : AllBare (s.setGen g x).gens := by
  have e : (s.setGen g x).gens = s.gens.setIfInBounds g x := rfl
  rw [e]
  intro y hy
  rcases Array.mem_or_eq_of_mem_setIfInBounds hy with q | q
  · exact h y q
  · rw [q]; exact hx
theorem pull {X : Cx} {pins : List (Addr × Obj)} {σ : L2.St} {w : Bool} {Qe : Bool → Hp → Prop} {n : Nat} {a : Addr} {s : Shared} {E : Value → Shared → Prop} {Q : Option Value → Shared → Prop} (hd : X.A.handled = none) (hr : X.A.depth < recursionLimit) (h : GRdy X pins σ w Qe n a s)
    (hN : ∀ H' s', Inv X pins σ H' s' → Qe w H' → Q none s') (hS : ∀ r H' s', Inv X pins σ H' s' → r ≠ w → Qe r H' → Q (some (.bool r)) s') (hG : ∀ m s', n = m + 1 → GRdy X pins σ w Qe m a s' → Q (some (.bool w)) s') :
    wpAny (model X.prog X.w) X.A.in1 (pyNext (.ref a)) Q E s := by
  obtain ⟨G, pa, g, gs, σw, ep, ew, ig, ⟨σ', H', I⟩, hgs, hgo, back⟩ := h
  have hlt : g + 1 ≤ s.gens.size := by
    rcases Nat.lt_or_ge g s.gens.size with h' | h'
    · exact h'
    · rw [Array.getElem?_eq_none h'] at hgs; cases hgs
  refine wpAny_gsz hlt ?_
  refine wpAny_pyNext_genexpQ (P := fun _ s₀ s1 => ∃ H1, Inv G pa σw H1 s1 ∧ Qe w H1) hd (back _ _ _ I).nolimit hr (ig _ _ _ I) hgs hgo (fun v s₁ gs' hb hv => ?_) fun s₁ hp h' hk => ?_
  · obtain ⟨r, σ1, H1, rfl, I1, q⟩ := hv
    intro hsz
    rcases q with ⟨rfl, hk⟩ | ⟨hr, qq⟩
    · cases n with
      | zero => exact (hk s₁ rfl rfl I1.bare).elim
      | succ m =>
        refine hG m _ rfl ⟨G, pa, g, gs', σw, ep, ew, ig, ⟨σ1, H1, inv_gens I1 rfl rfl (bare_set I1.bare hb)⟩, ?_, ?_, back⟩
        · have : g < s₁.gens.size := by
            have e : (s₁.setGen g gs').gens.size = s₁.gens.size := by simp [Shared.setGen]
            omega
          simp [Shared.setGen, this]
        · exact hk _ rfl rfl (bare_set (s := s₁.setGen g gs') (bare_set I1.bare hb) rfl)
    · exact hS r H1 _ (back _ _ _ (inv_gens I1 rfl rfl (bare_set I1.bare hb))) hr qq
  · obtain ⟨H1, I1, qq⟩ := hp
    intro _
    refine hN H1 _ ?_ qq
    have I2 := back _ _ _ (inv_gens (s' := s₁.setGen g .finished) I1 rfl rfl (bare_set I1.bare rfl))
    exact I2.kept (t' := (s₁.setGen g .finished).toks) hk
theorem all_gloop {X : Cx} {pins : List (Addr × Obj)} {σ : L2.St} {Qe : Bool → Hp → Prop} {a : Addr} {R : Result → Shared → Prop} (hd : X.A.handled = none) (hr : X.A.depth < recursionLimit) (hR : ∀ r H' s', Inv X pins σ H' s' → Qe r H' → R (.ok (.ret (.bool r))) s') :
    ∀ (n : Nat) (s : Shared), GRdy X pins σ true Qe n a s → codeAny (model X.prog X.w) X.A (.builtin "all.loop" ⟨[.ref a], []⟩) R s := by
  intro n
  induction n with
  | zero =>
    intro s h
    refine codeAny_builtin F.entry_all_loop ?_
    rw [Around.under_plainId F.plain_all_loop _]
    show wpAny _ X.A.in1 (pyNext (.ref a) >>= _) _ _ s
    refine wpAny_bind (pull hd hr h (fun H' s' I q => wpAny_bind (wpAny_rule (wpAny_pure (hR true H' s' I q)))) (fun r H' s' I hr q => ?_) fun m s' e => by omega)
    refine wpAny_bind (wpAny_holding (wpAny_truthy_bool ?_))
    refine wpAny_bind (wpAny_letGo ?_)
    cases r with
    | true => exact absurd rfl hr
    | false =>
      simp only [Bool.false_eq_true, if_false]
      exact wpAny_bind (wpAny_rule (wpAny_pure (hR false H' s' I q)))
  | succ n ih =>
    intro s h
    refine codeAny_builtin F.entry_all_loop ?_
    rw [Around.under_plainId F.plain_all_loop _]
    show wpAny _ X.A.in1 (pyNext (.ref a) >>= _) _ _ s
    refine wpAny_bind (pull hd hr h (fun H' s' I q => wpAny_bind (wpAny_rule (wpAny_pure (hR true H' s' I q)))) (fun r H' s' I hr q => ?_) fun m s' e hG => ?_)
    · refine wpAny_bind (wpAny_holding (wpAny_truthy_bool ?_))
      refine wpAny_bind (wpAny_letGo ?_)
      cases r with
      | true => exact absurd rfl hr
      | false =>
        simp only [Bool.false_eq_true, if_false]
        exact wpAny_bind (wpAny_rule (wpAny_pure (hR false H' s' I q)))
    · cases e
      refine wpAny_bind (wpAny_holding (wpAny_truthy_bool ?_))
      refine wpAny_bind (wpAny_letGo ?_)
      simp only [if_true]
      exact wpAny_pure ⟨plainId_quiet F.plain_all_loop _, ih _ hG⟩
theorem any_gloop {X : Cx} {pins : List (Addr × Obj)} {σ : L2.St} {Qe : Bool → Hp → Prop} {a : Addr} {R : Result → Shared → Prop} (hd : X.A.handled = none) (hr : X.A.depth < recursionLimit) (hR : ∀ r H' s', Inv X pins σ H' s' → Qe r H' → R (.ok (.ret (.bool r))) s') :
    ∀ (n : Nat) (s : Shared), GRdy X pins σ false Qe n a s → codeAny (model X.prog X.w) X.A (.builtin "any.loop" ⟨[.ref a], []⟩) R s := by
  intro n
  induction n with
  | zero =>
    intro s h
    refine codeAny_builtin F.entry_any_loop ?_
    rw [Around.under_plainId F.plain_any_loop _]
    show wpAny _ X.A.in1 (pyNext (.ref a) >>= _) _ _ s
    refine wpAny_bind (pull hd hr h (fun H' s' I q => wpAny_bind (wpAny_rule (wpAny_pure (hR false H' s' I q)))) (fun r H' s' I hr q => ?_) fun m s' e => by omega)
    refine wpAny_bind (wpAny_holding (wpAny_truthy_bool ?_))
    refine wpAny_bind (wpAny_letGo ?_)
    cases r with
    | false => exact absurd rfl hr
    | true =>
      simp only [if_true]
      exact wpAny_bind (wpAny_rule (wpAny_pure (hR true H' s' I q)))
  | succ n ih =>
    intro s h
    refine codeAny_builtin F.entry_any_loop ?_
    rw [Around.under_plainId F.plain_any_loop _]
    show wpAny _ X.A.in1 (pyNext (.ref a) >>= _) _ _ s
    refine wpAny_bind (pull hd hr h (fun H' s' I q => wpAny_bind (wpAny_rule (wpAny_pure (hR false H' s' I q)))) (fun r H' s' I hr q => ?_) fun m s' e hG => ?_)
    · refine wpAny_bind (wpAny_holding (wpAny_truthy_bool ?_))
      refine wpAny_bind (wpAny_letGo ?_)
      cases r with
      | false => exact absurd rfl hr
      | true =>
        simp only [if_true]
        exact wpAny_bind (wpAny_rule (wpAny_pure (hR true H' s' I q)))
    · cases e
      refine wpAny_bind (wpAny_holding (wpAny_truthy_bool ?_))
      refine wpAny_bind (wpAny_letGo ?_)
      simp only [Bool.false_eq_true, if_false]
      exact wpAny_pure ⟨plainId_quiet F.plain_any_loop _, ih _ hG⟩

/-! ### the expression -/
/-- the code's table at P may grow -/
def tAA (P : Addr) (wi : TI) (g : TG) (tt : TT) (te : TE) (vs : List Nat) (w : Bool) : TE := fun σ H Q => wi σ H fun J H1 => GxR.TabG H1 P ∧ ∀ H2, GxR.Tabbed P H1 H2 → ∃ W : Nat → Nat → Hp → Prop, (∃ m, W 0 m H2) ∧ ∀ i m H, W i m H →
  (J.stop i H ∧ Q (.bl w) H) ∨ (J.go i H ∧ ∃ Nx : Hp → Prop, (∀ H', Nx H' → ∃ m', m' < m ∧ W (i + 1) m' H') ∧ ∀ x H', J.yld i H x H' → g x (wipe σ vs) H' fun σ2 H2 => wipe σ2 vs = wipe σ vs ∧ tt σ2 H2 fun b H3 =>
    if b = true then te σ2 H3 fun y H4 => ∃ r : Bool, y = .bl r ∧ ((r = w ∧ Nx H4) ∨ (r ≠ w ∧ Q (.bl r) H4)) else Nx H3)
section
variable {X : Cx} {c P : Addr} {elt tg iter : Expr} {ifs : List Expr} {scope : Scope} {own : List (Str × Nat)} {pos gpos p : Pos} {wi : TI} {g : TG} {tt : TT} {te : TE} {k : Nat} {w : Bool}
theorem gen_make {pins : List (Addr × Obj)} {σ : L2.St} {H : Hp} {s : Shared} {Q : VK} {Q' : Value → Shared → Prop} (hr : Room (k + 1) X.A) (hc : X.calm = true) (hN : X.N.Nodup) (TB : GxR.TabB X.base X.mg c P) (hcode : X.env.code = .ref c) (hi : PI X tg iter wi) (ok : BlkOk X.N X.env.scope scope own)
    (hco : scope.isCoroutine = false) (nocell : ∀ y ∈ scope.names, y.2 ≠ .cell) (hdot : scope.names.lookup (".0" : Str) = some NameKind.local)
    (hg : ∀ (A' : Around) (s : Shared) (H : Hp) (C : Addr) (code : Value) (fp : List Addr), Room k A' → PG (gex X A' s H (gEnv X scope C code) fp) tg g)
    (ht : ∀ (A' : Around) (s : Shared) (H : Hp) (C : Addr) (code : Value) (fp : List Addr), Room k A' → PTs (gex X A' s H (gEnv X scope C code) fp) ifs tt)
    (he : ∀ (A' : Around) (s : Shared) (H : Hp) (C : Addr) (code : Value) (fp : List Addr), Room k A' → PE (gex X A' s H (gEnv X scope C code) fp) elt te)
    (hs : ∀ v, genFold iter X.env v = pure v) (I : Inv X pins σ H s) (h : tAA P wi g tt te (own.map (·.2)) w σ H Q)
    (hQ : ∀ a n s5, s5.heap.IsGen a (s5.gens.size - 1) → GRdy X pins σ w (fun b H => Q (.bl b) H) n a s5 → Q' (.ref a) s5) :
    wpAny (model X.prog X.w) X.A (eval (.GeneratorExp elt [⟨tg, iter, ifs, 0⟩] scope gpos) X.env) Q' X.xe s := by
  have hfree : ∀ y ∈ scope.names, y.2 = .free → ∃ c, X.env.cells.lookup y.1 = some c := fun y hy e => by
    rcases ok.free y hy e with k | k
    · exact I.ok.has _ (.inl k)
    · exact I.ok.has _ (.inr k)
  refine wpAny_GeneratorExp_make hco (closure_ok hfree) nocell hdot ok.kind (by have := hr.dp; omega) (thn (hi.run pins s σ H _ I h) fun xv s1 hx => thn hx fun itv s2 h2 => ?_) hs
  obtain ⟨it, fp, tn, J, H2, e, I2, T, st2, f2, ⟨ps, hP, htr⟩, q⟩ := h2
  subst e
  have hPs : s2.heap.get? P = some { cls := .none, data := .fields ps } := I2.hok P _ hP
  have hPlt : P < s2.heap.objs.size := Heap.lt_size hPs
  have cd : PySem.W.CodeHd s2.heap c P := TB.code.keeps fun b u e => I2.bk b u e
  have sz2 : ∀ b ∈ fp, b < s2.heap.objs.size := fun b hb => by
    obtain ⟨o, e, _⟩ := T.obj _ _ st2 b hb
    exact Heap.lt_size e
  refine ⟨I2.nolimit, ?_⟩
  have cont : ∀ (code : Value) (h3 : Heap) (tk : Nat) (ps' : Array Value), Heap.ExtBut P s2.heap h3 → s2.heap.objs.size ≤ h3.objs.size → h3.get? P = some { cls := .none, data := .fields ps' } → (∃ more, ps' = ps ++ more) → TriplesOk ps'.toList →
      wpAny (model X.prog X.w) X.A (builtinsFor X.env.globals X.env.builtins) (fun bi s₄ =>
        ∀ h', h'.Ns s₄.heap.objs.size (fun y => if y = ".0" then some (.ref it) else none) → Heap.SameBut s₄.heap.objs.size (s₄.heap.push { cls := .type "frame", data := .dict #[] }) h' →
          Q' (.ref h'.objs.size) { s₄ with
            gens := s₄.gens.push (.fresh (.compStart (.GeneratorExp elt [⟨tg, iter, ifs, 0⟩] scope gpos) 0 (.ref it) .none (genEnv scope (cloFrom X.env.cells scope.names []) s₄.heap.objs.size code bi X.env))),
            toks := s₄.toks + 1 + 1 + 1,
            heap := h'.push { cls := .type "generator", data := .fields #[.int s₄.gens.size 0, .str "<genexpr>" (s₄.toks + 1), .str (X.env.qual ++ "<genexpr>") (s₄.toks + 1 + 1)] } }) X.xe { s2 with heap := h3, toks := tk } := by
    intro code h3 tk ps' hx hsz hP3 hmore ht3
    obtain ⟨more, em⟩ := hmore
    have I3 : Inv X pins σ (upd H2 P (.tbl (ps ++ more))) { s2 with heap := h3, toks := tk } :=
      GxR.inv_tab (h' := h3) (g' := s2.gens) (d' := s2.drawn) (t' := tk) I2 hP (fun b u hb e => hx b u hb e) (by rw [← em]; exact hP3) I2.bare
    generalize hH3 : upd H2 P (.tbl (ps ++ more)) = H3 at I3
    have hq := q H3 (by rw [← hH3]; exact ⟨⟨ps ++ more, upd_same, by rw [← em]; exact ht3⟩, fun b hb => upd_ne hb⟩)
    obtain ⟨W, ⟨m0, w0⟩, turn⟩ := hq
    obtain ⟨bm, ob, e1, e2, e3, e4, e5, e6, e7, e8⟩ := TB.bm
    refine wpAny_builtinsFor (m := X.mg) (by rw [I2.ok.glob]; exact (I2.mod.glob.keeps I2.bk).extBut hx TB.gP) e1 e2 (hx _ _ e4 (I2.bk _ _ e5)) e6 e7 e8 ?_
    generalize hs4 : ({ s2 with heap := h3, toks := tk } : Shared) = s4 at I3 ⊢
    have h34 : s4.heap = h3 := by rw [← hs4]
    intro h' hn' hs'
    have hsz' : h'.objs.size = s4.heap.objs.size + 1 := by rw [hs'.1, Heap.size_push]
    have keep' : ∀ b o, s4.heap.get? b = some o → h'.get? b = some o := fun b o e => hs'.extBut b o (Nat.ne_of_lt (Heap.lt_size e)) (Heap.get?_push_of_some _ e)
    generalize hgo : ({ cls := .type "generator", data := .fields #[.int s4.gens.size 0, .str "<genexpr>" (s4.toks + 1), .str (X.env.qual ++ "<genexpr>") (s4.toks + 1 + 1)] } : Obj) = go
    have keep₅ : ∀ b o, s4.heap.get? b = some o → (h'.push go).get? b = some o := fun b o e => Heap.get?_push_of_some _ (keep' b o e)
    have f3 : ∀ b ∈ fp, FpOk X pins H3 b ∧ b < s4.heap.objs.size := fun b hb => by
      have hlt := sz2 b hb
      have hbP : b ≠ P := fun z => by
        have := (f2 b hb).1
        rw [z, hP] at this; cases this
      refine ⟨⟨?_, (f2 b hb).2⟩, by rw [h34]; exact Nat.lt_of_lt_of_le hlt hsz⟩
      rw [← hH3, upd_ne hbP]
      exact (f2 b hb).1
    have st3 : tn 0 (h'.push go) := T.keep _ _ _ st2 fun b hb o e => keep₅ b o (by
      rw [h34]
      exact hx b o (fun z => by
        have := (f2 b hb).1
        rw [z, hP] at this; cases this) e)
    generalize hcode' : (Code.compStart (.GeneratorExp elt [⟨tg, iter, ifs, 0⟩] scope gpos) 0 (.ref it) .none (genEnv scope (cloFrom X.env.cells scope.names []) s4.heap.objs.size code builtinsNs X.env)) = cst
    generalize hAG : X.A.in1.in1.over (.compLoop (.GeneratorExp elt [⟨tg, iter, ifs, 0⟩] scope gpos) 0 (.ref it) .none (gEnv X scope s4.heap.objs.size code)) [] = AG
    have hfr : AG.frames = some (gEnv X scope s4.heap.objs.size code :: X.stack) := by
      rw [← hAG]
      show pushEnvs [gEnv X scope s4.heap.objs.size code] (pushEnvs (envsOf []) X.A.frames) = _
      rw [I2.ok.frames]
      rfl
    have hhd : AG.handled = none := by rw [← hAG]; exact hr.hd
    have hrG : Room k AG := by
      have hd := hr.dp
      have hu := hr.un
      refine ⟨hhd, ?_, ?_⟩
      · have : AG.depth ≤ X.A.depth + 1 := by rw [← hAG]; exact Nat.le_of_eq rfl
        omega
      · have : AG.units ≤ X.A.units + 5 := by rw [← hAG]; exact Nat.le_of_eq rfl
        omega
    have bareP : AllBare (s4.gens.push (.fresh cst)) := I3.bare.push rfl
    have I4 := gen_start (A' := AG) (code := code) (h' := h'.push go) (g' := s4.gens.push (.fresh cst)) (t' := s4.toks + 1 + 1 + 1) I3 ok hN nocell f3 hfr hhd (hn'.push _) keep₅ bareP
    have pg := hg AG s4 H3 s4.heap.objs.size code fp hrG
    have pt := ht AG s4 H3 s4.heap.objs.size code fp hrG
    have pe := he AG s4 H3 s4.heap.objs.size code fp hrG
    have hga : (h'.push go).get? h'.objs.size = some go := Heap.get?_push_size _ (by rw [← hgo]; rfl)
    have hig : ∀ h : Heap, h.get? h'.objs.size = some go → h.IsGen h'.objs.size s4.gens.size := fun h e => ⟨go, _, _, e, by rw [← hgo], by rw [← hgo], by rw [← hgo]⟩
    have hge : s4.heap.objs.size ≤ h'.objs.size := by omega
    have naL : h'.objs.size ≠ X.env.locals := fun z => absurd (Nat.lt_of_lt_of_le I3.lt hge) (by rw [z]; exact Nat.lt_irrefl _)
    generalize hG : gex X AG s4 H3 (gEnv X scope s4.heap.objs.size code) fp = G at I4 pg pt pe
    have GL : G.env.locals = s4.heap.objs.size := by subst hG; rfl
    have I5 : Inv G [(h'.objs.size, go)] (wipe σ (own.map (·.2))) H3 { s4 with heap := h'.push go, gens := s4.gens.push (.fresh cst), toks := s4.toks + 1 + 1 + 1 } := I4.pins_of fun p hp => by
      rw [List.mem_singleton.mp hp]
      refine ⟨hga, I3.hok.fresh hge, ?_, ?_, fun v e => ?_⟩
      · rw [GL]
        show h'.objs.size ≠ s4.heap.objs.size
        omega
      · intro z
        have z : h'.objs.size ∈ frs X.stack := by subst hG; exact z
        rcases List.mem_cons.mp (I3.stkSub _ z) with z | z
        · exact naL z
        · exact I3.nofs hge z
      · rw [← hgo] at e; cases e
    have stat : ∀ (σ' : L2.St) (H' : Hp) (s' : Shared), Inv G [(h'.objs.size, go)] σ' H' s' → (∀ b ∈ fp, H' b = none) → ∀ b ∈ fp, FpOk G [(h'.objs.size, go)] H' b := fun σ' H' s' I' hn b hb => by
      have hb' : b ∈ G.ex := by subst hG; exact hb
      refine ⟨hn b hb, (I'.ok.exf b hb').1, I'.ok.exfs b hb', .inl hb', fun x c e => (I'.ok.exf b hb').2 x c e, fun p hp => ?_⟩
      have hp : p ∈ [(h'.objs.size, go)] := by subst hG; exact hp
      rw [List.mem_singleton.mp hp]
      intro z
      have := (f3 b hb).2
      rw [← z] at this
      have : h'.objs.size < s4.heap.objs.size := this
      omega
    have back : ∀ (σ' : L2.St) (H' : Hp) (s' : Shared), Inv G [(h'.objs.size, go)] σ' H' s' → Inv X pins σ H' s' := fun σ' H' s' I' => by
      subst hG
      exact I3.call' (ch := fp) I'.os I'.base I'.hok I'.bare fun b hb => ⟨(f3 b hb).1.2.2.2.1, (f3 b hb).1.2.1, (f3 b hb).1.2.2.2.2.1, (f3 b hb).1.2.2.2.2.2⟩
    refine hQ _ (m0 + 1) _ ?_ ⟨G, [(h'.objs.size, go)], s4.gens.size, .fresh cst, wipe σ (own.map (·.2)), by subst hG; rfl, by subst hG; rfl, fun σ' H' s' I' => hig _ (I'.pin _ (List.mem_append_right _ (List.mem_singleton.mpr rfl))).1, ⟨_, _, I5⟩, Array.getElem?_push_size .., ?_, back⟩
    · have : (s4.gens.push (.fresh cst)).size - 1 = s4.gens.size := by simp
      show Heap.IsGen (h'.push go) _ ((s4.gens.push (.fresh cst)).size - 1)
      rw [this]
      exact hig _ hga
    · refine ⟨rfl, ?_⟩
      subst hcode'
      subst hG
      exact seg_gstart (G := gex X AG s4 H3 (gEnv X scope s4.heap.objs.size code) fp) (J := J) (fp := fp) (tn := tn) T (i := 0) st3 (seg_gloop (G := gex X AG s4 H3 (gEnv X scope s4.heap.objs.size code) fp) (J := J) (fp := fp) (tn := tn) (g := g) (tt := tt) (te := te) (vs := own.map (·.2)) W hc (fun _ _ z => z) hco T pg pt pe hAG stat turn m0 (m0 + 1) 0 _ _ H3 (Nat.lt_succ_self _) w0
        (inv_gens I5 rfl rfl (bare_set I5.bare rfl)) st3 fun b hb => (f3 b hb).1.1)
  cases hf : codeAmong gpos ps.toList with
  | none =>
    refine wpAny_genexprCodeX hcode (cd.code hPs htr) (cd.tab hPs) hf fun c' h' tk hx hge hlt hco' _ htab' _ => ?_
    obtain ⟨o1, vs, f1, tf, fl, tg, inF, tx, tt, op, _, _, _, _, _, _, _, _, _, htr', _⟩ := hco'
    exact cont _ h' tk _ hx (Nat.le_trans hge (Nat.le_of_lt hlt)) htab'.2 ⟨_, rfl⟩ htr'
  | some cv =>
    refine wpAny_genexprCode_hit hcode (cd.code hPs htr) hf ?_
    exact cont cv s2.heap s2.toks ps (Heap.ExtBut.refl _ _) (Nat.le_refl _) hPs ⟨#[], by simp⟩ htr
theorem pe_allG (hr : Room (k + 1) X.A) (hc : X.calm = true) (hN : X.N.Nodup) (hgl : Gl X "all") (hm : X.mg "all" = none) (TB : GxR.TabB X.base X.mg c P) (hcode : X.env.code = .ref c) (hi : PI X tg iter wi) (ok : BlkOk X.N X.env.scope scope own)
    (hco : scope.isCoroutine = false) (nocell : ∀ y ∈ scope.names, y.2 ≠ .cell) (hdot : scope.names.lookup (".0" : Str) = some NameKind.local)
    (hg : ∀ (A' : Around) (s : Shared) (H : Hp) (C : Addr) (code : Value) (fp : List Addr), Room k A' → PG (gex X A' s H (gEnv X scope C code) fp) tg g)
    (ht : ∀ (A' : Around) (s : Shared) (H : Hp) (C : Addr) (code : Value) (fp : List Addr), Room k A' → PTs (gex X A' s H (gEnv X scope C code) fp) ifs tt)
    (he : ∀ (A' : Around) (s : Shared) (H : Hp) (C : Addr) (code : Value) (fp : List Addr), Room k A' → PE (gex X A' s H (gEnv X scope C code) fp) elt te)
    (hs : ∀ v, genFold iter X.env v = pure v)
    (he1 : starEach [.GeneratorExp elt [⟨tg, iter, ifs, 0⟩] scope gpos] X.env = (false, eval (.GeneratorExp elt [⟨tg, iter, ifs, 0⟩] scope gpos) X.env) :: starEach [] X.env := by rfl) :
    PE X (.Call (.Name "all" p) [.GeneratorExp elt [⟨tg, iter, ifs, 0⟩] scope gpos] [] pos) (tAA P wi g tt te (own.map (·.2)) true) := by
  refine ⟨fun pins s σ H Q I h => ?_⟩
  refine wpAny_Call_Name_kw (ld_blt I hgl hm (by rfl) ?_)
  refine PyProof.Rows.callWith_builtin1 ?_ he1 (by rfl)
  rw [he1]
  show wpAny _ _ (spliced ((false, eval (.GeneratorExp elt [⟨tg, iter, ifs, 0⟩] scope gpos) X.env) :: backTo pos (starEach [] X.env))) _ _ s
  refine Calls.spliced_cons (gen_make hr hc hN TB hcode hi ok hco nocell hdot hg ht he hs I h fun a n s5 hig hG => ?_)
  refine Calls.spliced_nil ?_
  refine call_function_tree F.kind_all F.plain_all F.entry_all (F.args_all1 _) ?_
  unfold Builtin.«all»
  refine wpAny_bind (m := oneArg "all" _) (wpAny_pure ?_)
  refine wpAny_bind (wpAny_pyIter_gen hig ?_)
  exact wpAny_pure ⟨plainId_quiet F.plain_all_loop _, all_gloop hr.hd (by have := hr.dp; omega) (fun r H' s' I' q => ⟨.bl r, H', I', rfl, q⟩) n s5 hG⟩
theorem pe_anyG (hr : Room (k + 1) X.A) (hc : X.calm = true) (hN : X.N.Nodup) (hgl : Gl X "any") (hm : X.mg "any" = none) (TB : GxR.TabB X.base X.mg c P) (hcode : X.env.code = .ref c) (hi : PI X tg iter wi) (ok : BlkOk X.N X.env.scope scope own)
    (hco : scope.isCoroutine = false) (nocell : ∀ y ∈ scope.names, y.2 ≠ .cell) (hdot : scope.names.lookup (".0" : Str) = some NameKind.local)
    (hg : ∀ (A' : Around) (s : Shared) (H : Hp) (C : Addr) (code : Value) (fp : List Addr), Room k A' → PG (gex X A' s H (gEnv X scope C code) fp) tg g)
    (ht : ∀ (A' : Around) (s : Shared) (H : Hp) (C : Addr) (code : Value) (fp : List Addr), Room k A' → PTs (gex X A' s H (gEnv X scope C code) fp) ifs tt)
    (he : ∀ (A' : Around) (s : Shared) (H : Hp) (C : Addr) (code : Value) (fp : List Addr), Room k A' → PE (gex X A' s H (gEnv X scope C code) fp) elt te)
    (hs : ∀ v, genFold iter X.env v = pure v)
    (he1 : starEach [.GeneratorExp elt [⟨tg, iter, ifs, 0⟩] scope gpos] X.env = (false, eval (.GeneratorExp elt [⟨tg, iter, ifs, 0⟩] scope gpos) X.env) :: starEach [] X.env := by rfl) :
    PE X (.Call (.Name "any" p) [.GeneratorExp elt [⟨tg, iter, ifs, 0⟩] scope gpos] [] pos) (tAA P wi g tt te (own.map (·.2)) false) := by
  refine ⟨fun pins s σ H Q I h => ?_⟩
  refine wpAny_Call_Name_kw (ld_blt I hgl hm (by rfl) ?_)
  refine PyProof.Rows.callWith_builtin1 ?_ he1 (by rfl)
  rw [he1]
  show wpAny _ _ (spliced ((false, eval (.GeneratorExp elt [⟨tg, iter, ifs, 0⟩] scope gpos) X.env) :: backTo pos (starEach [] X.env))) _ _ s
  refine Calls.spliced_cons (gen_make hr hc hN TB hcode hi ok hco nocell hdot hg ht he hs I h fun a n s5 hig hG => ?_)
  refine Calls.spliced_nil ?_
  refine call_function_tree F.kind_any F.plain_any F.entry_any (F.args_any1 _) ?_
  unfold Builtin.«any»
  refine wpAny_bind (m := oneArg "any" _) (wpAny_pure ?_)
  refine wpAny_bind (wpAny_pyIter_gen hig ?_)
  exact wpAny_pure ⟨plainId_quiet F.plain_any_loop _, any_gloop hr.hd (by have := hr.dp; omega) (fun r H' s' I' q => ⟨.bl r, H', I', rfl, q⟩) n s5 hG⟩
end

/-! ### the reading -/
def boolR (y : D) (f : Bool → R D) : R D := match y with
  | .bool r => f r
  | _ => .no
@[simp] theorem boolR_bool (r : Bool) (f : Bool → R D) : boolR (.bool r) f = f r := rfl
noncomputable def aaL (w : Bool) (t : Tg) (c : Tx) (g : Ex) (o : Option Nat) (all : List D) (env : Envd) : List D → Sto → R D
  | [], S => guardR o all S (.ok (.bool w) S)
  | d :: ds, S => guardR o all S (optR (t d env) fun env1 => (c env1 S).calm.bind fun b S1 =>
      if b = true then (g env1 S1).calm.bind fun y S2 => boolR y fun r => if r = w then aaL w t c g o all env ds S2 else .ok (.bool r) S2 else aaL w t c g o all env ds S1)
noncomputable def aaE (w : Bool) (gi : Ix) (t : Tg) (c : Tx) (g : Ex) (vs : List Nat) : Ex := fun env S => (gi env S).bind fun p S1 => aaL w t c g p.2 p.1 (wipeE env vs) p.1 S1
section
variable {K : PySem.W.Frag} {H H2 : Hp} {ρ : Rho} {P : Addr} {S : Sto}
theorem stp_tab (t : GxR.Tabbed P H H2) (h : TabG H P) (n : P ∉ ρ.c) : Stp ρ H ρ H2 where
  pre := ⟨[], by simp⟩
  hid := ⟨[], rfl, fun _ h => nomatch h⟩
  new := fun _ h => .inl h
  keep := fun a o e _ => by
    by_cases z : a = P
    · subst z
      obtain ⟨ps, e', _⟩ := h
      obtain ⟨ps2, e2, _⟩ := t.1
      rw [e'] at e; cases e
      exact ⟨_, e2, fun z => (z ps rfl).elim⟩
    · exact ⟨o, (t.2 a z).trans e, fun _ => rfl⟩
  tab := fun Q _ hq => by
    by_cases z : Q = P
    · subst z; exact t.1
    · obtain ⟨ps, e, q⟩ := hq
      exact ⟨ps, (t.2 Q z).trans e, q⟩
theorem StoOk.tab (so : StoOk K H ρ S) (t : GxR.Tabbed P H H2) (h : TabG H P) (n : P ∉ ρ.c) : StoOk K H2 ρ S := by
  refine ⟨so.len, so.nd, fun i c e => ?_, fun a m => ?_⟩
  · obtain ⟨a, q, r⟩ := so.cell i c e
    refine ⟨a, q, r.step (stp_tab t h n) (t.2 a fun z => n ?_)⟩
    obtain ⟨hi, e2⟩ := List.getElem?_eq_some_iff.mp q
    rw [← z, ← e2]; exact List.getElem_mem hi
  · obtain ⟨k, xs, e⟩ := so.hd a m
    refine ⟨k, xs, (t.2 a fun z => ?_).trans e⟩
    obtain ⟨ps, e', _⟩ := h
    rw [z, e'] at e; cases e
end
section
variable {X : Cx} {ts : List Addr} {W : WX} {c P : Addr} {elt tg iter : Expr} {ifs : List Expr} {scope : Scope} {own : List (Str × Nat)} {pos gpos p : Pos} {k : Nat} {w : Bool} {gi : Ix} {t : Tg} {cc : Tx} {g : Ex} {L vs : List Nat}
theorem aa_reading (hP : P ∈ ts) (hL : ∀ i ∈ L, i ∈ vs) : ∀ σ H Q, tE X.K X.mg ts W (aaE w gi t cc g vs) σ H Q →
    tAA P (tI X.K X.mg ts W gi) (tG X.K ts L t) (tT X.K X.mg ts W0 cc) (tE X.K X.mg ts W0 g) vs w σ H Q := by
  intro σ H Q ⟨ρ, env, S, m, q⟩
  refine ⟨ρ, env, S, m, ?_⟩
  unfold aaE at q
  cases ei : gi env S with
  | no => rw [ei] at q; exact q
  | er e S' => rw [ei] at q; exact q
  | ok p S1 =>
    rw [ei] at q
    obtain ⟨ds, o⟩ := p
    intro ρ1 H1 J st1 so1 g1 src
    have m1 := m.step st1 so1
    refine ⟨(m1.tab P hP).1, fun H2 htb => ?_⟩
    have stT := stp_tab htb (m1.tab P hP).1 (m1.tab P hP).2
    have soT := so1.tab htb (m1.tab P hP).1 (m1.tab P hP).2
    have mT := m1.step stT soT
    have q : Post X.K X.mg W σ ρ1 H1 (Rp X.K) (aaL w t cc g o ds (wipeE env vs) ds S1) Q := Post.from q st1
    have envN : EnvOk X.K H2 ρ1 (wipeE env vs) (L2.wipe σ vs) := wipe_env mT.env vs
    refine ⟨fun i n H => n = ds.length - i ∧ i ≤ ds.length ∧ ∃ ρ S, Stp ρ1 H2 ρ H ∧ StoOk X.K H ρ S ∧ Post X.K X.mg W σ ρ H (Rp X.K) (aaL w t cc g o ds (wipeE env vs) (ds.drop i) S) Q,
      ⟨ds.length, by simp, Nat.zero_le _, ρ1, S1, .refl, soT, by rw [List.drop_zero]; exact Post.from q stT⟩, ?_⟩
    rintro i n H3 ⟨rfl, hi2, ρ2, S2, st2, so2, q2⟩
    by_cases hlt : i < ds.length
    · have ed : ds.drop i = ds[i] :: ds.drop (i + 1) := List.drop_eq_getElem_cons hlt
      rw [ed] at q2
      have nn : aaL w t cc g o ds (wipeE env vs) (ds[i] :: ds.drop (i + 1)) S2 ≠ .no := fun z => by rw [z] at q2; exact q2
      obtain ⟨hgd, eg⟩ := guardR_ok (show guardR o ds S2 (optR (t ds[i] (wipeE env vs)) fun env1 => (cc env1 S2).calm.bind fun b S1 =>
        if b = true then (g env1 S1).calm.bind fun y S2 => boolR y fun r => if r = w then aaL w t cc g o ds (wipeE env vs) (ds.drop (i + 1)) S2 else .ok (.bool r) S2 else aaL w t cc g o ds (wipeE env vs) (ds.drop (i + 1)) S1) ≠ .no from nn)
      rw [show aaL w t cc g o ds (wipeE env vs) (ds[i] :: ds.drop (i + 1)) S2 = guardR o ds S2 (optR (t ds[i] (wipeE env vs)) fun env1 => (cc env1 S2).calm.bind fun b S1 =>
        if b = true then (g env1 S1).calm.bind fun y S2 => boolR y fun r => if r = w then aaL w t cc g o ds (wipeE env vs) (ds.drop (i + 1)) S2 else .ok (.bool r) S2 else aaL w t cc g o ds (wipeE env vs) (ds.drop (i + 1)) S1) from rfl, eg] at q2
      have st12 := stT.trans st2
      refine .inr ⟨src.goes i ρ2 H3 S2 hlt st12 so2 hgd, fun H => i + 1 ≤ ds.length ∧ ∃ ρ S, Stp ρ1 H2 ρ H ∧ StoOk X.K H ρ S ∧ Post X.K X.mg W σ ρ H (Rp X.K) (aaL w t cc g o ds (wipeE env vs) (ds.drop (i + 1)) S) Q,
        fun H' h => ⟨ds.length - (i + 1), by omega, rfl, h⟩, fun x H4 y => ?_⟩
      obtain ⟨d, e3, st3, so3, r3⟩ := src.yields i ρ2 H3 S2 x H4 hlt st12 so2 hgd y
      rw [List.getElem?_eq_getElem hlt] at e3
      cases e3
      refine ⟨ρ2, wipeE env vs, S2, ds[i], ⟨(envN.step st2).step st3, so3, tab_step mT.tab (st2.trans st3)⟩, r3, ?_⟩
      cases et : t ds[i] (wipeE env vs) with
      | none => rw [et] at q2; exact q2.elim
      | some env3 =>
        rw [et] at q2
        intro σ4 H5 st4 m4 a4
        refine ⟨wipe_agr hL a4, ρ2, env3, S2, m4, ?_⟩
        have s14 := st2.trans (st3.trans st4)
        have q3 := Post.from q2 (st3.trans st4)
        rw [optR_some] at q3
        cases ec : cc env3 S2 with
        | no => rw [ec] at q3; exact q3.elim
        | er e S5 => rw [ec] at q3; exact q3.elim
        | ok b S5 =>
          rw [ec] at q3
          intro b' ρ5 H6 st5 so5 eb
          subst eb
          have q4 := Post.from q3 st5
          cases b' with
          | false => exact ⟨hlt, ρ5, S5, s14.trans st5, so5, q4⟩
          | true =>
            have q4 : Post X.K X.mg W σ ρ5 H6 (Rp X.K) ((g env3 S5).calm.bind fun y S2 => boolR y fun r => if r = w then aaL w t cc g o ds (wipeE env vs) (ds.drop (i + 1)) S2 else .ok (.bool r) S2) Q := q4
            refine ⟨ρ5, env3, S5, m4.step st5 so5, ?_⟩
            cases eg : g env3 S5 with
            | no => rw [eg] at q4; exact q4.elim
            | er e S6 => rw [eg] at q4; exact q4.elim
            | ok y S6 =>
              rw [eg] at q4
              intro yv ρ6 H7 st6 so6 ry
              have q5 : Post X.K X.mg W σ ρ6 H7 (Rp X.K) (boolR y fun r => if r = w then aaL w t cc g o ds (wipeE env vs) (ds.drop (i + 1)) S6 else .ok (.bool r) S6) Q := Post.from q4 st6
              cases y <;> first | exact q5.elim | skip
              rename_i r
              cases ry
              have q5 : Post X.K X.mg W σ ρ6 H7 (Rp X.K) (if r = w then aaL w t cc g o ds (wipeE env vs) (ds.drop (i + 1)) S6 else .ok (.bool r) S6) Q := q5
              refine ⟨r, rfl, ?_⟩
              by_cases hr : r = w
              · rw [if_pos hr] at q5
                exact .inl ⟨hr, hlt, ρ6, S6, (s14.trans st5).trans st6, so6, q5⟩
              · rw [if_neg hr] at q5
                exact .inr ⟨hr, Post.done q5 so6 (.bl r)⟩
    · have hie : i = ds.length := by omega
      subst hie
      rw [List.drop_length] at q2
      have nn : aaL w t cc g o ds (wipeE env vs) [] S2 ≠ .no := fun z => by rw [z] at q2; exact q2
      obtain ⟨hgd, eg⟩ := guardR_ok (show guardR o ds S2 (.ok (PyData.bool w) S2) ≠ .no from nn)
      rw [show aaL w t cc g o ds (wipeE env vs) [] S2 = guardR o ds S2 (.ok (PyData.bool w) S2) from rfl, eg] at q2
      exact .inl ⟨src.stops ρ2 H3 S2 (stT.trans st2) so2 hgd, Post.done q2 so2 (.bl w)⟩
theorem je_all (hr : Room (k + 1) X.A) (hc : X.calm = true) (hN : X.N.Nodup) (hgl : Gl X "all") (hm : X.mg "all" = none) (TB : GxR.TabB X.base X.mg c P) (hP : P ∈ ts) (hcode : X.env.code = .ref c) (hi : JI X ts W tg iter gi) (ok : BlkOk X.N X.env.scope scope own)
    (hco : scope.isCoroutine = false) (nocell : (scope.names.all fun y => y.2 != .cell) = true) (hdot : scope.names.lookup (".0" : Str) = some NameKind.local) (hL : ∀ i ∈ L, i ∈ own.map (·.2))
    (hg : ∀ (A' : Around) (s : Shared) (H : Hp) (C : Addr) (code : Value) (fp : List Addr), Room k A' → JG (gex X A' s H (gEnv X scope C code) fp) ts L tg t)
    (ht : ∀ (A' : Around) (s : Shared) (H : Hp) (C : Addr) (code : Value) (fp : List Addr), Room k A' → JTs (gex X A' s H (gEnv X scope C code) fp) ts W0 ifs cc)
    (he : ∀ (A' : Around) (s : Shared) (H : Hp) (C : Addr) (code : Value) (fp : List Addr), Room k A' → JE (gex X A' s H (gEnv X scope C code) fp) ts W0 elt g)
    (hs : ∀ v, genFold iter X.env v = pure v := by intro _; rfl)
    (he1 : starEach [.GeneratorExp elt [⟨tg, iter, ifs, 0⟩] scope gpos] X.env = (false, eval (.GeneratorExp elt [⟨tg, iter, ifs, 0⟩] scope gpos) X.env) :: starEach [] X.env := by rfl) :
    JE X ts W (.Call (.Name "all" p) [.GeneratorExp elt [⟨tg, iter, ifs, 0⟩] scope gpos] [] pos) (aaE true gi t cc g (own.map (·.2))) :=
  je_of (pe_allG hr hc hN hgl hm TB hcode hi ok hco (fun y hy e => by
    have := List.all_eq_true.mp nocell y hy
    rw [e] at this; cases this) hdot hg ht he hs he1) (aa_reading hP hL)
theorem je_any (hr : Room (k + 1) X.A) (hc : X.calm = true) (hN : X.N.Nodup) (hgl : Gl X "any") (hm : X.mg "any" = none) (TB : GxR.TabB X.base X.mg c P) (hP : P ∈ ts) (hcode : X.env.code = .ref c) (hi : JI X ts W tg iter gi) (ok : BlkOk X.N X.env.scope scope own)
    (hco : scope.isCoroutine = false) (nocell : (scope.names.all fun y => y.2 != .cell) = true) (hdot : scope.names.lookup (".0" : Str) = some NameKind.local) (hL : ∀ i ∈ L, i ∈ own.map (·.2))
    (hg : ∀ (A' : Around) (s : Shared) (H : Hp) (C : Addr) (code : Value) (fp : List Addr), Room k A' → JG (gex X A' s H (gEnv X scope C code) fp) ts L tg t)
    (ht : ∀ (A' : Around) (s : Shared) (H : Hp) (C : Addr) (code : Value) (fp : List Addr), Room k A' → JTs (gex X A' s H (gEnv X scope C code) fp) ts W0 ifs cc)
    (he : ∀ (A' : Around) (s : Shared) (H : Hp) (C : Addr) (code : Value) (fp : List Addr), Room k A' → JE (gex X A' s H (gEnv X scope C code) fp) ts W0 elt g)
    (hs : ∀ v, genFold iter X.env v = pure v := by intro _; rfl)
    (he1 : starEach [.GeneratorExp elt [⟨tg, iter, ifs, 0⟩] scope gpos] X.env = (false, eval (.GeneratorExp elt [⟨tg, iter, ifs, 0⟩] scope gpos) X.env) :: starEach [] X.env := by rfl) :
    JE X ts W (.Call (.Name "any" p) [.GeneratorExp elt [⟨tg, iter, ifs, 0⟩] scope gpos] [] pos) (aaE false gi t cc g (own.map (·.2))) :=
  je_of (pe_anyG hr hc hN hgl hm TB hcode hi ok hco (fun y hy e => by
    have := List.all_eq_true.mp nocell y hy
    rw [e] at this; cases this) hdot hg ht he hs he1) (aa_reading hP hL)
end
end Cor

/-! Core12: cells written, methods, dicts' keys. -/
namespace Cor
open PySem PySem.Spec PyProof.Rows L2

/-- nothing is promised -/
def noB : Blk := fun _ _ => .no
theorem js_no {X : Cx} {ts : List Addr} {W : WX} {st : Stmt} : JS X ts W st noB := ⟨fun pins s σ H D I ⟨_, _, _, _, q⟩ => q.elim⟩
def noE : Ex := fun _ _ => .no
theorem je_no {X : Cx} {ts : List Addr} {W : WX} {e : Expr} : JE X ts W e noE := ⟨fun pins s σ H Q I ⟨_, _, _, _, q⟩ => q.elim⟩

/-! ### a tuple or a list taken apart -/
def unpG (n : Nat) (gs : Tgs) : Tg := fun d env => match d with
  | .tuple ds => if ds.length = n then gs ds env else none
  | .list ds => if ds.length = n then gs ds env else none
  | _ => none
theorem jg_unp {X : Cx} {ts : List Addr} {pos : Pos} {es : List Expr} {gs : Tgs} {L : List Nat} {k n : Nat} (hc : X.calm = true) (h : JGs X ts L es gs) (hn : (assignEach es X.env).length = n := by rfl) (hst : (assignEach es X.env).findIdx? (·.1) = none := by rfl) : JG X ts L (.Tuple es k pos) (unpG n gs) :=
  ⟨fun pins s σ H v u Q I r ⟨ρ, env, S, d, m, rp, q⟩ => by
    cases d <;> first | exact q.elim | skip
    · rename_i ds
      cases rp with
      | lst hT rr =>
        have q : (match (if ds.length = n then gs ds env else none) with | some env' => ∀ σ' H', Stp ρ H ρ H' → Sim X.K ts ρ env' S σ' H' → Agr L σ σ' → Q σ' H' | none => False) := q
        by_cases hl : ds.length = n
        · rw [if_pos hl] at q
          exact (pg_unl hc h hn hst).run pins s σ H _ u Q I r ⟨_, _, rfl, hT.sq, by rw [rr.length]; exact hl, ρ, env, S, ds, m, rr, q⟩
        · rw [if_neg hl] at q; exact q.elim
    · rename_i ds
      cases rp with
      | tup hT rr =>
        have q : (match (if ds.length = n then gs ds env else none) with | some env' => ∀ σ' H', Stp ρ H ρ H' → Sim X.K ts ρ env' S σ' H' → Agr L σ σ' → Q σ' H' | none => False) := q
        by_cases hl : ds.length = n
        · rw [if_pos hl] at q
          exact (pg_tup hc h hn hst).run pins s σ H _ u Q I r ⟨_, _, rfl, hT.sq, by rw [rr.length]; exact hl, ρ, env, S, ds, m, rr, q⟩
        · rw [if_neg hl] at q; exact q.elim⟩

/-! ### list cells -/
def lstOf (S : Sto) (d : D) : Option (Nat × List D) := match refOf d with
  | some n => match S[n]? with
    | some (.lst ds) => some (n, ds)
    | _ => none
  | none => none
@[simp] theorem lstOf_rf {S : Sto} {n : Nat} {ds : List D} (h : S[n]? = some (.lst ds)) : lstOf S (rf n) = some (n, ds) := by
  unfold lstOf
  rw [refOf_rf]
  simp only [h]
section
variable {K : PySem.W.Frag} {H : Hp} {ρ : Rho} {S : Sto}
theorem lstOf_ok {v : V} {d : D} {n : Nat} {ds : List D} (o : StoOk K H ρ S) (r : Rp K H ρ v d) (e : lstOf S d = some (n, ds)) : S[n]? = some (.lst ds) ∧ ∃ a xs, v = .ref a ∧ ρ.c[n]? = some a ∧ H a = some (.lst xs) ∧ RpL K H ρ xs ds := by
  unfold lstOf at e
  cases en : refOf d with
  | none => rw [en] at e; cases e
  | some k =>
    simp only [en] at e
    cases ec : S[k]? with
    | none => rw [ec] at e; cases e
    | some c =>
      rw [ec] at e
      cases c <;> first | (cases e; done) | skip
      cases e
      cases d <;> first | (cases en; done) | skip
      obtain ⟨a, rfl, q, xs, h1, h2⟩ := r.cellAt o en ec
      exact ⟨ec, a, xs, rfl, q, h1, h2⟩
/-- a list cell rewritten -/
theorem StoOk.lset {n : Nat} {a : Addr} {xs : List V} {ds : List D} (so : StoOk K H ρ S) (e : ρ.c[n]? = some a) (r : RpL K H ρ xs ds) : Stp ρ H ρ (upd H a (.lst xs)) ∧ StoOk K (upd H a (.lst xs)) ρ (S.set n (.lst ds)) := by
  have hm : a ∈ ρ.c := by
    obtain ⟨hn, ea⟩ := List.getElem?_eq_some_iff.mp e
    rw [← ea]; exact List.getElem_mem hn
  exact ⟨stp_write hm, so.write e ⟨xs, upd_same, r.step (stp_write hm)⟩⟩
end

/-- a method that rewrites a list cell: the result, the new items -/
def rLM (X : Cx) (f : List D → List D → Option (D × List D)) : V → List V → Hp → VK → Prop := fun x vs H Q =>
  ∃ ρ S n a xs ds es dv ds', x = .ref a ∧ StoOk X.K H ρ S ∧ ρ.c[n]? = some a ∧ H a = some (.lst xs) ∧ RpL X.K H ρ xs ds ∧ RpL X.K H ρ vs es ∧ f ds es = some (dv, ds') ∧ ∀ v H', Stp ρ H ρ H' → StoOk X.K H' ρ (S.set n (.lst ds')) → Rp X.K H' ρ v dv → Q v H'
def appD (ds : List D) (es : List D) : Option (D × List D) := match es with
  | [e] => if ds.length < sizeLine then some (.none, ds ++ [e]) else none
  | _ => none
def popD (ds : List D) (es : List D) : Option (D × List D) := match es with
  | [] => match ds[ds.length - 1]? with
    | some d => some (d, ds.dropLast)
    | none => none
  | _ => none
theorem RpL.dropLast {K : PySem.W.Frag} {H : Hp} {ρ : Rho} {xs : List V} {ds : List D} (h : RpL K H ρ xs ds) : RpL K H ρ xs.dropLast ds.dropLast := by
  rw [List.dropLast_eq_take, List.dropLast_eq_take, h.length]
  exact h.take _
section
variable {X : Cx}
theorem m_append : MtR X "list.append" (rLM X appD) := by
  intro pins s σ H x vs v us Q I rx rv h
  obtain ⟨ρ, S, n, a, xs, ds, es, dv, ds', rfl, so, hn, hH, rr, re, e, q⟩ := h
  match es, e with
  | [], e => cases e
  | _ :: _ :: _, e => cases e
  | [y], e =>
    cases re with
    | cons hy t =>
      cases t
      unfold appD at e
      by_cases z : ds.length < sizeLine
      · simp only [if_pos z] at e
        cases e
        obtain ⟨k1, k2⟩ := so.lset hn (rr.append (.cons hy .nil))
        exact mt_append pins s σ H _ _ v us Q I rx rv ⟨a, xs, _, rfl, rfl, hH, by rw [rr.length]; exact z, q _ _ k1 k2 .non⟩
      · simp only [if_neg z] at e; cases e
theorem m_pop : MtR X "list.pop" (rLM X popD) := by
  intro pins s σ H x vs v us Q I rx rv h
  obtain ⟨ρ, S, n, a, xs, ds, es, dv, ds', rfl, so, hn, hH, rr, re, e, q⟩ := h
  match es, e with
  | _ :: _, e => cases e
  | [], e =>
    cases re
    unfold popD at e
    simp only at e
    cases ed : ds[ds.length - 1]? with
    | none => rw [ed] at e; cases e
    | some d =>
      rw [ed] at e
      cases e
      obtain ⟨y, hy, ry⟩ := rr.get ed
      obtain ⟨k1, k2⟩ := so.lset hn rr.dropLast
      exact mt_pop pins s σ H _ _ v us Q I rx rv ⟨a, xs, y, rfl, rfl, hH, by rw [rr.length]; exact hy, q _ _ k1 k2 (ry.step k1)⟩
end
/-- o.m(..) on a list cell -/
def methE (f : List D → List D → Option (D × List D)) (go : Ex) (gs : Exs) : Ex := fun env S => (go env S).bind fun x S1 => optR (lstOf S1 x) fun _ => (gs env S1).bind fun es S2 => optR (lstOf S2 x) fun p => optR (f p.2 es) fun q => .ok q.1 (S2.set p.1 (.lst q.2))
section
variable {X : Cx} {ts : List Addr} {W : WX} {apos cpos : Pos} {o e : Expr} {es : List Expr} {go : Ex} {gs : Exs} {name : Str} {id : String} {f : List D → List D → Option (D × List D)}
theorem meth_post {σ : L2.St} {ρ : Rho} {H : Hp} {x : V} {dx : D} {S : Sto} {Q : VK} {vs : List V} {ds : List D} (so : StoOk X.K H ρ S) (rx : Rp X.K H ρ x dx) (rs : RpL X.K H ρ vs ds)
    (p : Post X.K X.mg W σ ρ H (Rp X.K) (optR (lstOf S dx) fun p => optR (f p.2 ds) fun q => .ok q.1 (S.set p.1 (.lst q.2))) Q) : rLM X f x vs H Q := by
  cases el : lstOf S dx with
  | none => rw [el] at p; exact p.elim
  | some q =>
    obtain ⟨n, xs0⟩ := q
    rw [el] at p
    obtain ⟨h1, a, xs, rfl, q2, q3, q4⟩ := lstOf_ok so rx el
    cases ef : f xs0 ds with
    | none =>
      have p : Post X.K X.mg W σ ρ H (Rp X.K) (optR (f xs0 ds) fun q => .ok q.1 (S.set n (.lst q.2))) Q := p
      rw [ef] at p; exact p.elim
    | some r =>
      have p : Post X.K X.mg W σ ρ H (Rp X.K) (optR (f xs0 ds) fun q => .ok q.1 (S.set n (.lst q.2))) Q := p
      rw [ef] at p
      exact ⟨ρ, S, n, a, xs, xs0, ds, r.1, r.2, rfl, so, q2, q3, q4, rs, ef, fun v H' st so' rv => p v ρ H' st so' rv⟩
theorem tyV_lst {ρ : Rho} {H : Hp} {x : V} {dx : D} {S : Sto} {p : Nat × List D} (so : StoOk X.K H ρ S) (rx : Rp X.K H ρ x dx) (e : lstOf S dx = some p) : tyV X.K "list" x H := by
  obtain ⟨_, a, xs, rfl, _, h, _⟩ := lstOf_ok so rx (show lstOf S dx = some (p.1, p.2) from e)
  exact .inl ⟨rfl, xs, SqL.of h⟩
theorem je_meth (slot : Slot "list" name id) (hty : typeOf (.builtin id) = pure (.type "method_descriptor")) (hm : MtR X id (rLM X f)) (ho : JE X ts W o go) (ha : JX X ts W (e :: es) gs)
    (hbase : attributeBase o name X.env (eval o X.env) = eval o X.env := by rfl)
    (hfew : ((backTo cpos (starEach (e :: es) X.env)).all (fun x => !x.1) && (backToKw cpos (keywordEach [] X.env)).all (fun x => x.1.isSome)
      && decide ((e :: es).length + ([] : List Keyword).length + (if ([] : List Keyword).isEmpty then 0 else 1) < 30)) = true := by rfl)
    (hline : (apos.endLine == cpos.line) = true := by rfl) (hs : starEach (e :: es) X.env = (false, eval e X.env) :: starEach es X.env := by rfl) (hplain : (backTo cpos (starEach es X.env)).any (·.1) = false := by rfl) :
    JE X ts W (.Call (.Attribute o name apos) (e :: es) [] cpos) (methE f go gs) :=
  je_of (pe_bm F.plainAttrs_list slot hty hm ho ha hbase hfew hline hs hplain) fun σ H Q ⟨ρ, env, S, m, p⟩ => ⟨ρ, env, S, m, Post.next (f := fun x S1 => optR (lstOf S1 x) fun _ => (gs env S1).bind fun es S2 => optR (lstOf S2 x) fun p => optR (f p.2 es) fun q => .ok q.1 (S2.set p.1 (.lst q.2))) p fun x ρ1 H1 dx S1 _ st so rx p1 => by
    cases el : lstOf S1 dx with
    | none => rw [el] at p1; exact p1.elim
    | some q =>
      rw [el] at p1
      refine ⟨tyV_lst so rx el, ρ1, env, S1, m.step st so, Post.next (f := fun es S2 => optR (lstOf S2 dx) fun p => optR (f p.2 es) fun q => .ok q.1 (S2.set p.1 (.lst q.2))) p1 fun xs ρ2 H2 ds S2 _ st2 so2 rs p2 => meth_post so2 (rx.step st2) rs p2⟩⟩
theorem je_meth0 (slot : Slot "list" name id) (hty : typeOf (.builtin id) = pure (.type "method_descriptor")) (hm : MtR X id (rLM X f)) (ho : JE X ts W o go)
    (hbase : attributeBase o name X.env (eval o X.env) = eval o X.env := by rfl) (hline : (apos.endLine == cpos.line) = true := by rfl) : JE X ts W (.Call (.Attribute o name apos) [] [] cpos) (methE f go nilX) :=
  je_of (pe_bm0 F.plainAttrs_list slot hty hm ho hbase hline) fun σ H Q ⟨ρ, env, S, m, p⟩ => ⟨ρ, env, S, m, Post.next (f := fun x S1 => optR (lstOf S1 x) fun _ => (nilX env S1).bind fun es S2 => optR (lstOf S2 x) fun p => optR (f p.2 es) fun q => .ok q.1 (S2.set p.1 (.lst q.2))) p fun x ρ1 H1 dx S1 _ st so rx p1 => by
    cases el : lstOf S1 dx with
    | none => rw [el] at p1; exact p1.elim
    | some q =>
      rw [el] at p1
      have p1 : Post X.K X.mg W σ ρ1 H1 (Rp X.K) (optR (lstOf S1 dx) fun p => optR (f p.2 []) fun q => .ok q.1 (S1.set p.1 (.lst q.2))) Q := p1
      exact ⟨tyV_lst so rx el, meth_post so rx .nil p1⟩⟩
end

/-! ### {} -/
def newE (c : Cell) : Ex := fun _ S => .ok (rf S.length) (S ++ [c])
section
variable {X : Cx} {ts : List Addr} {W : WX} {pos : Pos}
theorem je_newK : JE X ts W (.Dict [] [] pos) (newE (.dK [])) := je_of pe_dnewK fun σ H Q ⟨ρ, env, S, m, p⟩ => fun q hq =>
  p _ (ρ.add q) _ (stp_cell hq) (m.sto.new_cell (c := .dK []) hq ⟨[], upd_same, rfl, .nil⟩) (.rf (by show (ρ.c ++ [q])[_]? = _; rw [← m.sto.len, List.getElem?_append_right (Nat.le_refl _)]; simp))
theorem je_newT : JE X ts W (.Dict [] [] pos) (newE (.dT [])) := je_of pe_dnewT fun σ H Q ⟨ρ, env, S, m, p⟩ => fun q hq =>
  p _ (ρ.add q) _ (stp_cell hq) (m.sto.new_cell (c := .dT []) hq ⟨[], upd_same, rfl, .nil⟩) (.rf (by show (ρ.c ++ [q])[_]? = _; rw [← m.sto.len, List.getElem?_append_right (Nat.le_refl _)]; simp))
end

/-! ### o[i] = v -/
def putL {κ : Type} [DecidableEq κ] (kvs : List (κ × D)) (k : κ) (v : D) : List (κ × D) :=
  if (kvs.any fun kv => decide (kv.1 = k)) = true then kvs.map (fun kv => if kv.1 = k then (kv.1, v) else kv) else kvs ++ [(k, v)]
section
variable {K : PySem.W.Frag} {H : Hp} {ρ : Rho} {κ : Type} [DecidableEq κ]
theorem any_keys (k : κ) : ∀ {ys : List (κ × V)} {kvs : List (κ × D)}, ys.map (·.1) = kvs.map (·.1) → (ys.any fun kv => decide (kv.1 = k)) = kvs.any fun kv => decide (kv.1 = k)
  | [], [], _ => rfl
  | y :: ys, q :: kvs, h => by
    rw [List.map_cons, List.map_cons] at h
    injection h with h1 h2
    rw [List.any_cons, List.any_cons, any_keys k h2, h1]
theorem put_keys {v : V} {d : D} (rv : Rp K H ρ v d) (k : κ) : ∀ {ys : List (κ × V)} {kvs : List (κ × D)}, ys.map (·.1) = kvs.map (·.1) → RpL K H ρ (ys.map (·.2)) (kvs.map (·.2)) →
    (ys.map fun kv => if kv.1 = k then (kv.1, v) else kv).map (·.1) = (kvs.map fun kv => if kv.1 = k then (kv.1, d) else kv).map (·.1) ∧
      RpL K H ρ ((ys.map fun kv => if kv.1 = k then (kv.1, v) else kv).map (·.2)) ((kvs.map fun kv => if kv.1 = k then (kv.1, d) else kv).map (·.2))
  | [], [], _, _ => ⟨rfl, .nil⟩
  | y :: ys, q :: kvs, h, r => by
    rw [List.map_cons, List.map_cons] at h
    injection h with h1 h2
    cases r with
    | cons r0 r1 =>
      obtain ⟨i1, i2⟩ := put_keys rv k h2 r1
      by_cases z : y.1 = k
      · have z' : q.1 = k := by rw [← h1]; exact z
        refine ⟨?_, ?_⟩
        · rw [List.map_cons, List.map_cons, List.map_cons, List.map_cons, i1, if_pos z, if_pos z', h1]
        · rw [List.map_cons, List.map_cons, List.map_cons, List.map_cons, if_pos z, if_pos z']
          exact .cons rv i2
      · have z' : ¬ q.1 = k := by rw [← h1]; exact z
        refine ⟨?_, ?_⟩
        · rw [List.map_cons, List.map_cons, List.map_cons, List.map_cons, i1, if_neg z, if_neg z', h1]
        · rw [List.map_cons, List.map_cons, List.map_cons, List.map_cons, if_neg z, if_neg z']
          exact .cons r0 i2
theorem put_ok {v : V} {d : D} (rv : Rp K H ρ v d) (k : κ) {ys : List (κ × V)} {kvs : List (κ × D)} (h : ys.map (·.1) = kvs.map (·.1)) (r : RpL K H ρ (ys.map (·.2)) (kvs.map (·.2))) :
    (putK ys k v).map (·.1) = (putL kvs k d).map (·.1) ∧ RpL K H ρ ((putK ys k v).map (·.2)) ((putL kvs k d).map (·.2)) := by
  unfold putK putL
  rw [any_keys k h]
  split
  · exact put_keys rv k h r
  · rw [List.map_append, List.map_append, List.map_append, List.map_append, h]
    exact ⟨rfl, r.append (.cons rv .nil)⟩
end
/-- a cell behind c[i] = v -/
def putC (c : Cell) (i v : D) : Option Cell := match c with
  | .lst ds => match i with
    | .int k => (ixN ds.length k).map fun j => .lst (ds.set j v)
    | _ => none
  | .dK kvs => if kvs.length < sizeLine then (keyD i).map fun k => .dK (putL kvs k v) else none
  | .dT kvs => match i with
    | .tuple ks => if kvs.length < sizeLine then (keysD ks).map fun k => .dT (putL kvs k v) else none
    | _ => none
def putD (S : Sto) (o i v : D) : Option Sto := match refOf o with
  | some n => match S[n]? with
    | some c => (putC c i v).map fun c' => S.set n c'
    | none => none
  | none => none
def putB (gv go gi : Ex) : Blk := fun env S => (gv env S).to env fun v S1 => (go env S1).to env fun o S2 => (gi env S2).to env fun i S3 => match putD S3 o i v with
  | some S4 => .nx env S4
  | none => .no
/-- the store's step, by values -/
def rPut (X : Cx) : TSet := fun o i v H Q => ∃ ρ S do_ di dv S', StoOk X.K H ρ S ∧ Rp X.K H ρ o do_ ∧ Rp X.K H ρ i di ∧ Rp X.K H ρ v dv ∧ putD S do_ di dv = some S' ∧ ∀ H', Stp ρ H ρ H' → StoOk X.K H' ρ S' → Q H'
section
variable {X : Cx}
theorem p_put (hu : X.A.units + 1 < cLine) : PSet X (rPut X) := by
  intro pins s σ H o i v ov iv u Q I ro ri rv h
  obtain ⟨ρ, S, do_, di, dv, S', so, po, pi, pv, e, q⟩ := h
  unfold putD at e
  cases en : refOf do_ with
  | none => rw [en] at e; cases e
  | some n =>
    simp only [en] at e
    cases ec : S[n]? with
    | none => rw [ec] at e; cases e
    | some c =>
      simp only [ec] at e
      cases do_ <;> first | (cases en; done) | skip
      obtain ⟨a, rfl, qa, hc⟩ := po.cellAt so en ec
      have hm : a ∈ ρ.c := by
        obtain ⟨hn, ea⟩ := List.getElem?_eq_some_iff.mp qa
        rw [← ea]; exact List.getElem_mem hn
      cases ep : putC c di dv with
      | none => rw [ep] at e; cases e
      | some c' =>
        rw [ep] at e
        cases e
        cases c with
        | lst ds =>
          obtain ⟨xs, h1, h2⟩ := hc
          cases di <;> first | (cases ep; done) | skip
          rename_i k
          cases pi
          have ep : ((ixN ds.length k).map fun j => Cell.lst (ds.set j dv)) = some c' := ep
          cases ej : ixN ds.length k with
          | none => rw [ej] at ep; cases ep
          | some j =>
            rw [ej] at ep
            cases ep
            obtain ⟨k1, k2⟩ := so.lset qa (h2.set pv j)
            exact set_list pins s σ H _ _ _ ov iv u Q I ro ri rv ⟨a, xs, k, j, rfl, rfl, h1, by rw [h2.length]; exact ej, q _ k1 k2⟩
        | dK kvs =>
          obtain ⟨ys, h1, h2, h3⟩ := hc
          have ep : (if kvs.length < sizeLine then (keyD di).map fun k => Cell.dK (putL kvs k dv) else none) = some c' := ep
          by_cases z : kvs.length < sizeLine
          · rw [if_pos z] at ep
            cases ek : keyD di with
            | none => rw [ek] at ep; cases ep
            | some k =>
              rw [ek] at ep
              cases ep
              have ev := keyD_ok pi ek
              subst ev
              have hl : ys.length = kvs.length := by have := congrArg List.length h2; simpa using this
              have st := stp_write (H := H) (o := .dK (putK ys k v)) hm
              obtain ⟨p1, p2⟩ := put_ok (pv.step st) k h2 (h3.step st)
              exact set_dict hu pins s σ H _ _ _ ov iv u Q I ro ri rv ⟨a, _, rfl, DPut.k h1 (by rw [hl]; exact z), q _ st (so.write qa ⟨_, upd_same, p1, p2⟩)⟩
          · rw [if_neg z] at ep; cases ep
        | dT kvs =>
          obtain ⟨ys, h1, h2, h3⟩ := hc
          cases di <;> first | (cases ep; done) | skip
          rename_i ks
          have ep : (if kvs.length < sizeLine then (keysD ks).map fun k => Cell.dT (putL kvs k dv) else none) = some c' := ep
          by_cases z : kvs.length < sizeLine
          · rw [if_pos z] at ep
            cases ek : keysD ks with
            | none => rw [ek] at ep; cases ep
            | some k =>
              rw [ek] at ep
              cases ep
              cases pi with
              | tup hT rk =>
                have ev := keysD_ok rk ek
                subst ev
                have hl : ys.length = kvs.length := by have := congrArg List.length h2; simpa using this
                have st := stp_write (H := H) (o := .dT (putK ys k v)) hm
                obtain ⟨p1, p2⟩ := put_ok (pv.step st) k h2 (h3.step st)
                exact set_dict hu pins s σ H _ _ _ ov iv u Q I ro ri rv ⟨a, _, rfl, DPut.t h1 hT.1 (by rw [hl]; exact z), q _ st (so.write qa ⟨_, upd_same, p1, p2⟩)⟩
          · rw [if_neg z] at ep; cases ep
theorem js_put {ts : List Addr} {W : WX} {pos spos : Pos} {o i e : Expr} {gv go gi : Ex} {k : Nat} (hr : Room k X.A) (hv : JE X ts W e gv) (ho : JE X ts W o go) (hi : JE X ts W i gi)
    (ha : ∀ v, assign (.Subscript o i spos) X.env v = (do
      let ov ← holding [v] (eval o X.env)
      let iv ← holding [v, ov] (eval i X.env)
      standAt spos
      holding [v, ov, iv] (setItem ov iv v)
      release [v, ov, iv] []) := by intro _; rfl)
    (hs : swapsWithSole [.Subscript o i spos] e pos.line X.env = pure false := by rfl) (hw : swappedStores [.Subscript o i spos] e X.env = pure none := by rfl)
    (h1 : (assignEach [.Subscript o i spos] X.env).map (·.2) = [assign (.Subscript o i spos) X.env] := by rfl) : JS X ts W (.Assign [.Subscript o i spos] e pos) (putB gv go gi) :=
  js_of (ps_asg hv (pg_sub ho hi (p_put (by have := hr.un; omega)) ha) hs hw h1) fun D σ H ⟨ρ, env, S, m, q⟩ => ⟨ρ, env, S, m, PostB.val (f := fun v S1 => (go env S1).to env fun o S2 => (gi env S2).to env fun i S3 => match putD S3 o i v with | some S4 => .nx env S4 | none => .no) m q fun v ρ1 H1 dv S1 _ st so rv p1 =>
    ⟨ρ1, env, S1, m.step st so, PostB.val (f := fun o S2 => (gi env S2).to env fun i S3 => match putD S3 o i dv with | some S4 => .nx env S4 | none => .no) (m.step st so) p1 fun ov ρ2 H2 do_ S2 _ st2 so2 ro p2 =>
      ⟨ρ2, env, S2, (m.step st so).step st2 so2, PostB.val (f := fun i S3 => match putD S3 do_ i dv with | some S4 => .nx env S4 | none => .no) ((m.step st so).step st2 so2) p2 fun iv ρ3 H3 di S3 _ st3 so3 ri p3 => by
        cases ep : putD S3 do_ di dv with
        | none => rw [ep] at p3; exact p3.elim
        | some S4 =>
          rw [ep] at p3
          exact ⟨ρ3, S3, do_, di, dv, S4, so3, ro.step st3, ri, (rv.step st2).step st3, ep, fun H' st4 so4 => p3 ρ3 σ H' st4 ((((m.step st so).step st2 so2).step st3 so3).step st4 so4)⟩⟩⟩⟩
end
end Cor

/-! Core13: sorted(d.keys()). -/
namespace Cor
open PySem PySem.Spec PyProof.Rows L2 PySem.Calls

theorem vals_of_get : ∀ {xs : List V} {us : List Value}, xs.length = us.length → (∀ (j : Nat) (u : Value), us[j]? = some u → ∃ x, xs[j]? = some x ∧ RelV x u) → Vals xs us
  | [], [], _, _ => .nil
  | x :: xs, u :: us, hl, h => .cons (by obtain ⟨y, e, r⟩ := h 0 u rfl; cases e; exact r) (vals_of_get (by simpa using hl) fun j v e => by
    obtain ⟨y, e1, r⟩ := h (j + 1) v (by simpa using e)
    exact ⟨y, by simpa using e1, r⟩)
section
variable {X : Cx} {pins : List (Addr × Obj)} {σ : L2.St} {H : Hp} {s : Shared} {ρ : Rho} {k : Nat}
theorem sorted_core {E : Value → Shared → Prop} {Q : Value → Shared → Prop} {r d : Addr} {P : Nat → Value → Prop} {OK : Heap → Prop} {xs : List V} {ds : List D} (I : L2.Inv X pins σ H s) (hr : Room k X.A) (rr : RpL X.K H ρ xs ds) (so : SortOk ds) (hlen : ds.length ≤ sizeLine)
    (K : PySem.W.KdlSrc X.prog X.w "dict_keys" r d xs.length P OK) (hok : OK s.heap) (hP : ∀ j v, P j v → ∃ x, xs[j]? = some x ∧ RelV x v)
    (hQ : ∀ (ys : List V) (D : Addr) (s' : Shared), RpL X.K H ρ ys (sortL ds) → H D = none → L2.Inv X pins σ (upd H D (.lst ys)) s' → Q (.ref D) s') : wpAny (model X.prog X.w) X.A (call (.builtin "sorted") [.ref r]) Q E s := by
  refine call_function_entry kind_sorted plain_sorted entry_sorted (args_sorted1 _) ?_
  unfold Builtin.«sorted»
  refine wpAny_bind (m := checkCount "sorted" 1 1 _) (wpAny_pure ?_)
  refine wpAny_bind (PySem.W.kdu_collect (A := X.A.in1) K hr.hd hok (by rw [rr.length]; exact hlen) fun h' tk acc hk hacc => ?_)
  have hl : acc.toList.length = xs.length := by rw [Array.length_toList]; exact hacc.1
  refine wpAny_bind (wpAny_newList ?_ (by rw [hl, rr.length]; exact hlen))
  have I1 : L2.Inv X pins σ H { s with heap := h', toks := tk } := I.kept (t' := tk) hk
  have rv : Vals xs acc.toList := vals_of_get hl.symm fun j u e => hP j u (hacc.2 j u (by rw [← Array.getElem?_toList]; exact e))
  obtain ⟨f1, al, sr⟩ := so
  have es2 : (xs.zip ds).map (fun p : V × D => p.2) = ds := zip_snd rr
  have mem2 : ∀ b ∈ xs.zip ds, b.2 ∈ ds := fun b m => (List.of_mem_zip m).2
  have hz2 := rr.length
  have ho : (h'.push { cls := .type "list", data := .seq acc.toList.toArray }).get? h'.objs.size = some (seqObj "list" acc.toList.toArray 0) := Heap.get?_push_size _ rfl
  refine wpAny_bind (wpAny_holding (PySem.W.list_sort_data (A := X.A.in1) (s := { s with heap := h'.push { cls := .type "list", data := .seq acc.toList.toArray }, toks := tk }) (enc := fun p : V × D => p.2) (bs := xs.zip ds) (R := fun (u : Value) (p : V × D) => RelV p.1 u ∧ Rp X.K H ρ p.1 p.2) ho (paired_zip rr rv)
    ?_ (by rw [es2]; exact al) (by rw [es2]; exact sr) (by rw [List.length_zip]; omega) (fun b m => ?_) fun out h1 h2 => ?_))
  · have q := each_reads I1 rr rv fun d m => (f1 d m).1
    have go : ∀ {us : List Value} {ps : List (V × D)}, PySem.W.EachIs (fun (u : Value) (p : V × D) => ∃ as, Reads h' u p.2 as) us ps → PySem.W.EachIs (fun (v : Value) (b : V × D) => ∃ as, Reads (h'.push { cls := .type "list", data := .seq acc.toList.toArray }) v b.2 as ∧ h'.objs.size ∉ as) us ps := by
      intro us ps z
      induction z with
      | nil => exact .nil
      | cons z t ih =>
        obtain ⟨as, z⟩ := z
        refine .cons ⟨as, Reads.keeps (fun b o e => Heap.get?_push_of_some _ e) z, fun hm => ?_⟩ ih
        obtain ⟨o, e⟩ := PyProof.On.reads_mem_get z _ hm
        exact absurd (Heap.lt_size e) (Nat.lt_irrefl _)
    exact go q
  · have := (f1 b.2 (mem2 b m)).2
    have hu := hr.un
    show X.A.units + 1 + 1 + b.2.depth < cLine
    omega
  · obtain ⟨k1, k2⟩ := each_back h2
    obtain ⟨ep, he'⟩ := sortedHeap_at (out := out.toArray) ho
    have hlen' : (((xs.zip ds).mergeSort (PySem.W.dataLe false fun p : V × D => p.2)).map (·.1)).length ≤ sizeLine := by
      rw [List.length_map, List.length_mergeSort, List.length_zip]; omega
    have em : ((xs.zip ds).mergeSort (PySem.W.dataLe false fun p : V × D => p.2)).map (·.2) = sortL ds := by
      unfold sortL
      have q := List.map_mergeSort (r := PySem.W.dataLe false fun p : V × D => p.2) (s := PySem.W.dataLe false fun d : D => d) (f := fun p : V × D => p.2) (l := xs.zip ds) (fun a _ b _ => rfl)
      rw [es2] at q
      exact q
    rw [em] at k2
    refine wpAny_pure ⟨_, rfl, hQ _ _ _ k2 (I1.hok.fresh (Nat.le_refl _)) ?_⟩
    exact I1.laid (t' := tk) (fun b u q => (sortedHeap_old (Nat.ne_of_lt (Heap.lt_size q)) (by rw [Heap.size_push]; exact Nat.lt_succ_of_lt (Heap.lt_size q))).trans (Heap.get?_push_of_some _ q)) (Nat.le_refl _) ⟨hlen', out, ep, k1, he'⟩
end

/-- a key as data -/
def kD : Key → D
  | .inl i => .int i
  | .inr x => .str x
theorem rp_kV {K : PySem.W.Frag} {H : Hp} {ρ : Rho} : ∀ k : Key, Rp K H ρ (kV k) (kD k)
  | .inl i => .int i
  | .inr x => .str x
theorem rpl_kV {K : PySem.W.Frag} {H : Hp} {ρ : Rho} : ∀ ks : List Key, RpL K H ρ (ks.map kV) (ks.map kD)
  | [] => .nil
  | k :: ks => .cons (rp_kV k) (rpl_kV ks)
/-- a dict's keys, from the first put -/
def cKeys : Cell → Option (List D)
  | .dK kvs => some (kvs.map fun q => kD q.1)
  | .dT kvs => some (kvs.map fun q => .tuple (q.1.map kD))
  | .lst _ => none
open Classical in
noncomputable def sortG (ds : List D) : Option (List D) := if SortOk ds ∧ ds.length ≤ sizeLine then some (sortL ds) else none
theorem sortG_some {ds es : List D} (h : sortG ds = some es) : SortOk ds ∧ ds.length ≤ sizeLine ∧ es = sortL ds := by
  unfold sortG at h
  split at h
  · rename_i z; exact ⟨z.1, z.2, (Option.some.inj h).symm⟩
  · cases h
theorem sortG_of {ds : List D} (h : SortOk ds) (hl : ds.length ≤ sizeLine) : sortG ds = some (sortL ds) := by
  unfold sortG
  rw [if_pos ⟨h, hl⟩]
noncomputable def skeysL (S : Sto) (x : D) : Option (List D) := match cellD S x with
  | some c => (cKeys c).bind sortG
  | none => none
noncomputable def skeysF (g : Ex) : Exs := fun env S => (g env S).bind fun x S1 => optR (skeysL S1 x) fun ds => .ok ds S1
def RawD (h : Heap) (d : Addr) (es : Array DictEntry) (ep : Nat) : Prop := ∃ o, h.get? d = some o ∧ o.ExactDict ∧ o.data = .dict es ep
theorem RawD.typeIs {s : Shared} {d : Addr} {es : Array DictEntry} {ep : Nat} (x : RawD s.heap d es ep) : s.TypeIs (.ref d) "dict" := let ⟨o, ho, hc, _⟩ := x; ⟨o, ho, hc.1⟩
theorem meetsKeysRaw {prog : Program} {w : World} {d : Addr} {es : Array DictEntry} {ep : Nat} (hd : (d == sysModules) = false) :
    MeetsIn prog w (Builtin.«dict.keys» ⟨[.ref d], []⟩) (fun _ R s => RawD s.heap d es ep ∧
      R (.ok (.ret (.ref s.heap.objs.size))) { s with heap := s.heap.push { cls := .type "dict_keys", data := .fields #[.ref d] } }) :=
  .of_wp fun A R s ⟨hm, h⟩ => by
    unfold Builtin.«dict.keys»
    refine wpAny_bind ?_
    unfold Builtin.Dict.noArgs
    refine wpAny_bind (wpAny_notOrdered_dict hm.typeIs ?_)
    show wpAny _ _ (pure d) _ _ s
    refine wpAny_pure ?_
    show wpAny _ _ (Builtin.Dict.showsAll d >>= _) _ _ s
    unfold Builtin.Dict.showsAll
    rw [if_neg (by rw [hd]; exact Bool.false_ne_true)]
    refine wpAny_bind (wpAny_pure ?_)
    exact wpAny_bind (wpAny_newObj_type (wpAny_pure ⟨_, rfl, h⟩))
section
variable {X : Cx} {ts : List Addr} {W : WX} {o : Expr} {go : Ex} {apos cpos pos p1 : Pos} {k : Nat}
/-- by values -/
def tSk (X : Cx) (to : TE) : TE := fun σ H Q => to σ H fun x H1 => ∃ ρ S dx ds, StoOk X.K H1 ρ S ∧ Rp X.K H1 ρ x dx ∧ skeysL S dx = some ds ∧ ∀ ys D, RpL X.K H1 ρ ys ds → H1 D = none → Q (.ref D) (upd H1 D (.lst ys))
theorem paired_len {α β : Type} {R : α → β → Prop} {xs : List α} {ys : List β} (h : Paired R xs ys) : xs.length = ys.length := Paired.length h
theorem kt_rows {K : PySem.W.Frag} {H : Hp} {ρ : Rho} {S : Sto} (so : StoOk K H ρ S) : ∀ {ys : List (List Key × V)} {xs : List (List Key × Addr × Value)} {kvs : List (List Key × D)}, KT H ys xs → ys.map (·.1) = kvs.map (·.1) →
    RpL K H ρ (xs.map fun x => V.ref x.2.1) (kvs.map fun q => PyData.tuple (q.1.map kD))
  | [], [], [], .nil, _ => .nil
  | y :: ys, x :: xs, q :: kvs, .cons h t, e => by
    rw [List.map_cons, List.map_cons] at e
    injection e with e1 e2
    rw [List.map_cons, List.map_cons]
    refine .cons (.tup ⟨by rw [← e1]; exact h.2.1, fun z => ?_⟩ (rpl_kV _)) (kt_rows so t e2)
    have hq := h.2.1
    rcases z with z | z
    · obtain ⟨n, hn, ea⟩ := List.getElem_of_mem z
      have hn' : n < S.length := by rw [← so.len]; exact hn
      obtain ⟨b, e1', c⟩ := so.cell n S[n] (List.getElem?_eq_getElem hn')
      rw [List.getElem?_eq_getElem hn, ea] at e1'
      cases e1'
      cases hc : S[n] with
      | lst ds => rw [hc] at c; obtain ⟨zs, h1, _⟩ := c; rw [hq] at h1; cases h1
      | dK ds => rw [hc] at c; obtain ⟨zs, h1, _⟩ := c; rw [hq] at h1; cases h1
      | dT ds => rw [hc] at c; obtain ⟨zs, h1, _⟩ := c; rw [hq] at h1; cases h1
    · obtain ⟨_, zs, h1⟩ := so.hd _ z
      rw [hq] at h1; cases h1
theorem kv_rows {K : PySem.W.Frag} {H : Hp} {ρ : Rho} : ∀ (ks : List Key), RpL K H ρ (ks.map kV) (ks.map kD) := rpl_kV
theorem pe_skeys (hr : Room k X.A) {to : TE} (hg : Gl X "sorted") (hm : X.mg "sorted" = none) (ho : PE X o to) (hbase : attributeBase o "keys" X.env (eval o X.env) = eval o X.env := by rfl) (hline : (apos.endLine == cpos.line) = true := by rfl)
    (he1 : starEach [.Call (.Attribute o "keys" apos) [] [] cpos] X.env = (false, eval (.Call (.Attribute o "keys" apos) [] [] cpos) X.env) :: starEach [] X.env := by rfl) :
    PE X (.Call (.Name "sorted" p1) [.Call (.Attribute o "keys" apos) [] [] cpos] [] pos) (tSk X to) := by
  refine ⟨fun pins s σ H Q I h => ?_⟩
  refine wpAny_Call_Name_kw (ld_blt I hg hm (by rfl) ?_)
  refine PyProof.Rows.callWith_builtin1 ?_ he1 (by rfl)
  rw [he1]
  show wpAny _ _ (spliced ((false, eval (.Call (.Attribute o "keys" apos) [] [] cpos) X.env) :: backTo pos (starEach [] X.env))) _ _ s
  refine Calls.spliced_cons ?_
  refine wpAny_Call_method (T := "dict") (id := "dict.keys") hbase rfl hline F.plainAttrs_dict F.slot_dict_keys F.type_dict_keys (thn (ho.run pins s σ H _ I h) fun u s1 ⟨x, H1, I1, rx, ρ, S, dx, ds, so, px, e, q⟩ => ?_)
  unfold skeysL at e
  cases ec : cellD S dx with
  | none => rw [ec] at e; cases e
  | some c =>
    rw [ec] at e
    have e : (cKeys c).bind sortG = some ds := e
    unfold cellD at ec
    cases en : refOf dx with
    | none => rw [en] at ec; cases ec
    | some n =>
      simp only [en] at ec
      cases dx <;> first | (cases en; done) | skip
      obtain ⟨a, rfl, qa, hc⟩ := px.cellAt so en ec
      obtain rfl : u = Value.ref a := rx
      cases c with
      | lst ds => cases e
      | dK kvs =>
        have e : sortG (kvs.map fun q => kD q.1) = some ds := e
        obtain ⟨ok1, ok2, rfl⟩ := sortG_some e
        obtain ⟨ys, h1, h2, h3⟩ := hc
        obtain ⟨hz, hs, vs, kv, hdo⟩ := dk_of I1.hok h1
        obtain ⟨o', es, ep, g1, g2, g3, g4, g5, g6⟩ := _root_.id hdo
        have hm' : s1.heap.DictAt (mixKind X.prog X.w) a vs ep := ⟨o', es, g1, g2, g3, g4, g5, g6⟩
        refine ⟨hdo.typeIs, hdo.mapOf.noDict, ?_⟩
        show wpAny _ _ (callWith cpos (.builtin "dict.keys") [.ref a] [] []) _ X.xe s1
        refine method_meetsIn F.slot_dict_keys F.entry_dict_keys rfl (PySem.evalArgs_none ⟨rfl, hdo.typeIs, F.args_dict_keys_1 _, _, PySem.W.kdl_meets_keys (mixKind X.prog X.w) a hs, ⟨vs, hdo⟩, ?_⟩)
        refine Calls.spliced_nil ?_
        have I2 : L2.Inv X pins σ H1 { s1 with heap := s1.heap.push { cls := .type "dict_keys", data := .fields #[.ref a] } } := I1.kept (t' := s1.toks) fun b ob q => Heap.get?_push_of_some _ q
        have hk : ys.map (·.1) = vs.map (·.1) := KV.keys kv
        have hkk : kvs.map (·.1) = vs.map (·.1) := h2.symm.trans hk
        have em : (kvs.map fun q => kD q.1) = ((vs.map (·.1)).map kD) := by rw [← hkk, List.map_map]; rfl
        have hlen : vs.length = (((vs.map (·.1)).map kV)).length := by simp
        refine sorted_core (ρ := ρ) (d := a) (r := s1.heap.objs.size) (xs := (vs.map (·.1)).map kV) (ds := kvs.map fun q => kD q.1) (P := fun i v => ∃ k x, vs[i]? = some (k, x) ∧ (mixKind X.prog X.w).is k v = true) (OK := fun h => PySem.W.KdlKeysView h s1.heap.objs.size a ∧ h.DictAt (mixKind X.prog X.w) a vs ep) I2 hr (by rw [em]; exact rpl_kV _) ok1 ok2 (by rw [← hlen]; exact PySem.W.kdl_keys (knd := mixKind X.prog X.w) (kvs := vs) (ep := ep)) ⟨⟨_, Heap.get?_push_size _ rfl, rfl, rfl⟩, hm'.push _⟩ (fun j v hj => ?_) fun zs D s' rz hD I3 => ⟨.ref D, _, I3, rfl, q zs D rz hD⟩
        obtain ⟨kk, x, h5, h6⟩ := hj
        refine ⟨kV kk, by rw [List.getElem?_map, List.getElem?_map, h5]; rfl, ?_⟩
        cases kk with
        | inl i => exact Value.isInt_shape h6
        | inr y => exact Value.isStrOf_shape h6
      | dT kvs =>
        have e : sortG (kvs.map fun q => PyData.tuple (q.1.map kD)) = some ds := e
        obtain ⟨ok1, ok2, rfl⟩ := sortG_some e
        obtain ⟨ys, h1, h2, h3⟩ := hc
        obtain ⟨hz, hs, xs, kt, hdo⟩ := dt_of I1.hok h1
        obtain ⟨o', es, ep, g1, g2, g3, g4, g5, g6⟩ := _root_.id hdo
        have hm' : RawD s1.heap a es ep := ⟨o', g1, g2, g3⟩
        refine ⟨hm'.typeIs, dictOfH_noDict hdo, ?_⟩
        show wpAny _ _ (callWith cpos (.builtin "dict.keys") [.ref a] [] []) _ X.xe s1
        refine method_meetsIn F.slot_dict_keys F.entry_dict_keys rfl (PySem.evalArgs_none ⟨rfl, hm'.typeIs, F.args_dict_keys_1 _, _, meetsKeysRaw (es := es) (ep := ep) hs, hm', ?_⟩)
        refine Calls.spliced_nil ?_
        have I2 : L2.Inv X pins σ H1 { s1 with heap := s1.heap.push { cls := .type "dict_keys", data := .fields #[.ref a] } } := I1.kept (t' := s1.toks) fun b ob q => Heap.get?_push_of_some _ q
        have hes : es.size = (xs.map fun x => V.ref x.2.1).length := by rw [List.length_map, ← Array.length_toList, g4, List.length_map]
        refine sorted_core (ρ := ρ) (d := a) (r := s1.heap.objs.size) (xs := xs.map fun x => V.ref x.2.1) (ds := kvs.map fun q => PyData.tuple (q.1.map kD)) (P := fun i v => ∃ hi : i < es.size, v = es[i].key) (OK := fun h => PySem.W.KdlKeysView h s1.heap.objs.size a ∧ Heap.DictRaw h a es ep) I2 hr (kt_rows so kt h2) ok1 ok2 (by rw [← hes]; exact PySem.KdlSrc.rawKeys (es := es) (ep := ep)) ⟨⟨_, Heap.get?_push_size _ rfl, rfl, rfl⟩, o', Heap.get?_push_of_some _ g1, g2, g3⟩ (fun j v hj => ?_) fun zs D s' rz hD I3 => ⟨.ref D, _, I3, rfl, q zs D rz hD⟩
        obtain ⟨hi, rfl⟩ := hj
        have h7 : es.toList[j]? = some es[j] := by rw [Array.getElem?_toList]; exact Array.getElem?_eq_getElem hi
        rw [g4, List.getElem?_map] at h7
        cases hx : xs[j]? with
        | none => rw [hx] at h7; cases h7
        | some x =>
          rw [hx] at h7
          have h8 : entryOfKey (tupleKind (mixKind X.prog X.w)) x = es[j] := Option.some.inj h7
          exact ⟨V.ref x.2.1, by rw [List.getElem?_map, hx]; rfl, by rw [← h8]; rfl⟩
theorem jf_skeys (hr : Room k X.A) (hg : Gl X "sorted") (hm : X.mg "sorted" = none) (ho : JE X ts W o go) (hbase : attributeBase o "keys" X.env (eval o X.env) = eval o X.env := by rfl) (hline : (apos.endLine == cpos.line) = true := by rfl)
    (he1 : starEach [.Call (.Attribute o "keys" apos) [] [] cpos] X.env = (false, eval (.Call (.Attribute o "keys" apos) [] [] cpos) X.env) :: starEach [] X.env := by rfl) :
    JF X ts W (.Call (.Name "sorted" p1) [.Call (.Attribute o "keys" apos) [] [] cpos] [] pos) (skeysF go) :=
  jf_of (pe_skeys hr hg hm ho hbase hline he1) fun σ H Q ⟨ρ, env, S, m, p⟩ => ⟨ρ, env, S, m, PostF.next (f := fun x S1 => optR (skeysL S1 x) fun ds => .ok ds S1) p fun x ρ1 H1 dx S1 _ st so rx p1 => by
    cases es : skeysL S1 dx with
    | none => rw [es] at p1; exact p1.elim
    | some ds =>
      rw [es] at p1
      exact ⟨ρ1, S1, dx, ds, so, rx, es, fun ys D ry hD => p1 ys ρ1 H1 D .refl so ry hD⟩⟩
end
end Cor

/-! Core14: a def's frame. -/
namespace Cor
open PySem PySem.Spec PyProof.Rows L2

mutual
/-- all references are below k -/
def lowD (k : Nat) : D → Bool
  | .list ds => lowL k ds
  | .tuple ds => lowL k ds
  | .dict kvs => match refOf (.dict kvs) with
    | some n => decide (n < k)
    | none => false
  | _ => true
def lowL (k : Nat) : List D → Bool
  | [] => true
  | d :: ds => lowD k d && lowL k ds
end
mutual
/-- the references by h -/
def frzW (h : Nat → Option D) : D → Option D
  | .list ds => (frzWs h ds).map .list
  | .tuple ds => (frzWs h ds).map .tuple
  | .dict kvs => match refOf (.dict kvs) with
    | some n => h n
    | none => none
  | .none => some .none
  | .bool b => some (.bool b)
  | .int i => some (.int i)
  | .str x => some (.str x)
def frzWs (h : Nat → Option D) : List D → Option (List D)
  | [] => some []
  | d :: ds => match frzW h d, frzWs h ds with
    | some d', some ds' => some (d' :: ds')
    | _, _ => none
end
def cellF (k : Nat) (S : Sto) : Nat → Nat → Option D
  | 0, n => if n < k then some (rf n) else none
  | f + 1, n => if n < k then some (rf n) else match S[n]? with
    | some (.lst ds) => (frzWs (cellF k S f) ds).map .list
    | _ => none
/-- lists made since become values -/
def frzD (k : Nat) (S : Sto) (d : D) : Option D := frzW (cellF k S 6) d
mutual
theorem frzW_flat {h : Nat → Option D} : ∀ d : D, flat d = true → frzW h d = some d
  | .none, _ => rfl
  | .bool _, _ => rfl
  | .int _, _ => rfl
  | .str _, _ => rfl
  | .list ds, f => by show (frzWs h ds).map _ = _; rw [frzWs_flat ds (by simpa [flat] using f)]; rfl
  | .tuple ds, f => by show (frzWs h ds).map _ = _; rw [frzWs_flat ds (by simpa [flat] using f)]; rfl
  | .dict kvs, f => by simp [flat] at f
theorem frzWs_flat {h : Nat → Option D} : ∀ ds : List D, flatL ds = true → frzWs h ds = some ds
  | [], _ => rfl
  | d :: ds, f => by
    simp only [flatL, Bool.and_eq_true] at f
    show (match frzW h d, frzWs h ds with | some d', some ds' => some (d' :: ds') | _, _ => none) = _
    rw [frzW_flat d f.1, frzWs_flat ds f.2]
end
theorem frzD_flat {k : Nat} {S : Sto} {d : D} (f : flat d = true) : frzD k S d = some d := frzW_flat d f
/-- a list made since, its items plain -/
theorem frzD_new {S T : Sto} {ds : List D} (f : flatL ds = true) (k n : Nat) (hk : ¬ n < k) (h : T[n]? = some (.lst ds)) : frzD k T (rf n) = some (.list ds) := by
  show (match refOf (rf n) with | some n => cellF k T 6 n | none => none) = _
  rw [refOf_rf]
  show (if n < k then some (rf n) else match T[n]? with | some (.lst ds) => (frzWs (cellF k T 5) ds).map .list | _ => none) = _
  rw [if_neg hk, h]
  show (frzWs (cellF k T 5) ds).map _ = _
  rw [frzWs_flat ds f]
  rfl
def frzFs (k : Nat) (S : Sto) : List (Str × D) → Option (List (Str × D))
  | [] => some []
  | p :: r => match frzD k S p.2, frzFs k S r with
    | some d, some r' => some ((p.1, d) :: r')
    | _, _ => none
open Classical in
noncomputable def fin (S S' : Sto) (d : D) : R D := if S'.take S.length = S then (match frzD S.length S' d with
  | some d' => .ok d' S
  | none => .ok d S') else .ok d S'
open Classical in
noncomputable def finE (S S' : Sto) (e : Exn) : R D := if S'.take S.length = S then (match frzFs S.length S' e.fld with
  | some fl => .er ⟨e.cls, fl⟩ S
  | none => .er e S') else .er e S'
theorem fin_ok {S S' : Sto} {d d' : D} (h : S'.take S.length = S) (e : frzD S.length S' d = some d') : fin S S' d = .ok d' S := by
  unfold fin
  rw [if_pos h, e]
theorem fin_flat {S S' : Sto} {d : D} (h : S'.take S.length = S) (f : flat d = true) : fin S S' d = .ok d S := fin_ok h (frzD_flat f)
theorem finE_ok {S S' : Sto} {c : Str} {fl : List (Str × D)} (h : S'.take S.length = S) (e : frzFs S.length S' fl = some fl) : finE S S' ⟨c, fl⟩ = .er ⟨c, fl⟩ S := by
  unfold finE
  rw [if_pos h]
  show (match frzFs S.length S' fl with | some fl => R.er ⟨c, fl⟩ S | none => .er _ S') = _
  rw [e]
/-- a def's run -/
noncomputable def callB (n ar : Nat) (b : Blk) : List D → Sto → R D := fun ds S => if ds.length = ar then (match b (ds.map some ++ List.replicate (n - ar) none) S with
  | .nx _ S' => fin S S' .none
  | .rt d S' => fin S S' d
  | .er e _ S' => finE S S' e
  | _ => .no) else .no

section
variable {K : PySem.W.Frag} {H H' : Hp} {ρ ρ' : Rho} {S S' : Sto}
mutual
theorem Rp.low_ (so : StoOk K H ρ S) : ∀ (d : D) (v : V), Rp K H ρ v d → lowD S.length d = true
  | .none, _, _ => rfl
  | .bool _, _, _ => rfl
  | .int _, _, _ => rfl
  | .str _, _, _ => rfl
  | .list ds, _, h => by cases h with | lst h r => exact RpL.low_ so ds _ r
  | .tuple ds, _, h => by cases h with | tup h r => exact RpL.low_ so ds _ r
  | .dict kvs, _, h => by
    cases h with
    | rf h =>
      rename_i n
      have : n < S.length := by rw [← so.len]; exact (List.getElem?_eq_some_iff.mp h).1
      show decide (_ < _) = true
      simpa using this
theorem RpL.low_ (so : StoOk K H ρ S) : ∀ (ds : List D) (vs : List V), RpL K H ρ vs ds → lowL S.length ds = true
  | [], _, _ => rfl
  | d :: ds, _, h => by
    cases h with
    | cons h t =>
      simp only [lowL, Bool.and_eq_true]
      exact ⟨Rp.low_ so d _ h, RpL.low_ so ds _ t⟩
end
/-- the cells made since are forgotten -/
structure Cut (ρ ρ' : Rho) (k : Nat) : Prop where
  pre : ∃ t, ρ'.c = ρ.c ++ t
  hid : ∀ a ∈ ρ.h, a ∈ ρ'.h
  len : ρ.c.length = k
theorem Cut.out {k : Nat} (c : Cut ρ ρ' k) {a : Addr} (n : a ∉ ρ') : a ∉ ρ := fun z => by
  obtain ⟨t, e⟩ := c.pre
  rcases z with z | z
  · exact n (.inl (by rw [e]; exact List.mem_append_left _ z))
  · exact n (.inr (c.hid a z))
theorem Cut.at {k n : Nat} {a : Addr} (c : Cut ρ ρ' k) (h : ρ'.c[n]? = some a) (hn : n < k) : ρ.c[n]? = some a := by
  obtain ⟨t, e⟩ := c.pre
  rw [e, List.getElem?_append_left (by rw [c.len]; exact hn)] at h
  exact h
mutual
theorem Rp.cutl_ {k : Nat} (c : Cut ρ ρ' k) : ∀ (d : D) (v : V), Rp K H ρ' v d → lowD k d = true → Rp K H ρ v d
  | .none, _, h, _ => by cases h; exact .non
  | .bool b, _, h, _ => by cases h; exact .bl b
  | .int i, _, h, _ => by cases h; exact .int i
  | .str x, _, h, _ => by cases h; exact .str x
  | .list ds, _, h, l => by cases h with | lst h r => exact .lst ⟨h.1, c.out h.2⟩ (RpL.cutl_ c ds _ r l)
  | .tuple ds, _, h, l => by cases h with | tup h r => exact .tup ⟨h.1, c.out h.2⟩ (RpL.cutl_ c ds _ r l)
  | .dict kvs, _, h, l => by
    cases h with
    | rf h =>
      have l : decide ((Int.ofNat _).toNat < k) = true := l
      exact .rf (c.at h (by simpa using l))
theorem RpL.cutl_ {k : Nat} (c : Cut ρ ρ' k) : ∀ (ds : List D) (vs : List V), RpL K H ρ' vs ds → lowL k ds = true → RpL K H ρ vs ds
  | [], _, h, _ => by cases h; exact .nil
  | d :: ds, _, h, l => by
    cases h with
    | cons h t =>
      simp only [lowL, Bool.and_eq_true] at l
      exact .cons (Rp.cutl_ c d _ h l.1) (RpL.cutl_ c ds _ t l.2)
end
mutual
theorem Rp.frz_ {k : Nat} (c : Cut ρ ρ' k) {h : Nat → Option D} (hh : ∀ (n : Nat) (a : Addr) (d' : D), ρ'.c[n]? = some a → h n = some d' → Rp K H ρ (.ref a) d') : ∀ (d : D) (v : V) (d' : D), Rp K H ρ' v d → frzW h d = some d' → Rp K H ρ v d'
  | .none, _, _, r, e => by cases r; cases e; exact .non
  | .bool b, _, _, r, e => by cases r; cases e; exact .bl b
  | .int i, _, _, r, e => by cases r; cases e; exact .int i
  | .str x, _, _, r, e => by cases r; cases e; exact .str x
  | .list ds, _, _, r, e => by
    cases r with
    | lst hl rr =>
      have e : (frzWs h ds).map PyData.list = some _ := e
      cases es : frzWs h ds with
      | none => rw [es] at e; cases e
      | some ds' => rw [es] at e; cases e; exact .lst ⟨hl.1, c.out hl.2⟩ (RpL.frz_ c hh ds _ _ rr es)
  | .tuple ds, _, _, r, e => by
    cases r with
    | tup hl rr =>
      have e : (frzWs h ds).map PyData.tuple = some _ := e
      cases es : frzWs h ds with
      | none => rw [es] at e; cases e
      | some ds' => rw [es] at e; cases e; exact .tup ⟨hl.1, c.out hl.2⟩ (RpL.frz_ c hh ds _ _ rr es)
  | .dict kvs, _, _, r, e => by
    cases r with
    | rf q => exact hh _ _ _ (by simpa using q) e
theorem RpL.frz_ {k : Nat} (c : Cut ρ ρ' k) {h : Nat → Option D} (hh : ∀ (n : Nat) (a : Addr) (d' : D), ρ'.c[n]? = some a → h n = some d' → Rp K H ρ (.ref a) d') : ∀ (ds : List D) (vs : List V) (ds' : List D), RpL K H ρ' vs ds → frzWs h ds = some ds' → RpL K H ρ vs ds'
  | [], _, _, r, e => by cases r; cases e; exact .nil
  | d :: ds, _, _, r, e => by
    cases r with
    | cons r t =>
      have e : (match frzW h d, frzWs h ds with | some d', some ds' => some (d' :: ds') | _, _ => none) = some _ := e
      cases e1 : frzW h d with
      | none => rw [e1] at e; cases e
      | some d1 =>
        cases e2 : frzWs h ds with
        | none => rw [e1, e2] at e; cases e
        | some ds1 =>
          rw [e1, e2] at e
          cases e
          exact .cons (Rp.frz_ c hh d _ _ r e1) (RpL.frz_ c hh ds _ _ t e2)
end
theorem cellF_ok {k : Nat} (so : StoOk K H ρ' S) (c : Cut ρ ρ' k) : ∀ (f n : Nat) (a : Addr) (d' : D), ρ'.c[n]? = some a → cellF k S f n = some d' → Rp K H ρ (.ref a) d'
  | 0, n, a, d', h, e => by
    unfold cellF at e
    split at e
    · rename_i hn; cases e; exact .rf (c.at h hn)
    · cases e
  | f + 1, n, a, d', h, e => by
    have e : (if n < k then some (rf n) else match S[n]? with | some (.lst ds) => (frzWs (cellF k S f) ds).map PyData.list | _ => none) = some d' := e
    split at e
    · rename_i hn; cases e; exact .rf (c.at h hn)
    · rename_i hn
      cases ec : S[n]? with
      | none => rw [ec] at e; cases e
      | some cc =>
        rw [ec] at e
        cases cc <;> first | (cases e; done) | skip
        rename_i ds
        have e : (frzWs (cellF k S f) ds).map PyData.list = some d' := e
        cases es : frzWs (cellF k S f) ds with
        | none => rw [es] at e; cases e
        | some ds' =>
          rw [es] at e
          cases e
          obtain ⟨b, e1, xs, h1, h2⟩ := so.cell n _ ec
          rw [h] at e1; cases e1
          refine .lst ⟨.inl h1, fun z => ?_⟩ (RpL.frz_ c (cellF_ok so c f) ds _ _ h2 es)
          rcases z with z | z
          · obtain ⟨t, et⟩ := c.pre
            obtain ⟨m, hm, ea⟩ := List.getElem_of_mem z
            obtain ⟨hi, eb⟩ := List.getElem?_eq_some_iff.mp h
            have hm' : m < ρ'.c.length := by rw [et, List.length_append]; omega
            have : ρ'.c[m] = a := by
              have : ρ'.c[m]? = some a := by rw [et, List.getElem?_append_left hm, List.getElem?_eq_getElem hm, ea]
              exact (List.getElem?_eq_some_iff.mp this).2
            have q := (List.getElem_inj so.nd).mp (this.trans eb.symm)
            have := c.len
            omega
          · exact (so.hd a (c.hid a z)).1 (by
              obtain ⟨hi, eb⟩ := List.getElem?_eq_some_iff.mp h
              rw [← eb]; exact List.getElem_mem hi)
theorem stp_cut (s : Stp ρ H ρ' H') : Stp ρ H ρ H' := ⟨⟨[], by simp⟩, ⟨[], rfl, fun _ h => nomatch h⟩, fun _ h => .inl h, s.keep, s.tab⟩
theorem cut_of (s : Stp ρ H ρ' H') (so : StoOk K H ρ S) : Cut ρ ρ' S.length :=
  ⟨s.pre, fun a h => by obtain ⟨t, e, _⟩ := s.hid; rw [e]; exact List.mem_append_right _ h, so.len⟩
theorem sto_cut (s : Stp ρ H ρ' H') (so : StoOk K H ρ S) (so' : StoOk K H' ρ' S') (h : S'.take S.length = S) : StoOk K H' ρ S := by
  have c := cut_of s so
  refine ⟨so.len, so.nd, fun n cc e => ?_, fun a m => ?_⟩
  · obtain ⟨a, ea, hc⟩ := so.cell n cc e
    have hn : n < S.length := (List.getElem?_eq_some_iff.mp e).1
    have e' : S'[n]? = some cc := by
      rw [← h, List.getElem?_take_of_lt hn] at e
      exact e
    obtain ⟨b, eb, hb⟩ := so'.cell n cc e'
    rw [s.at ea] at eb
    cases eb
    refine ⟨a, ea, ?_⟩
    cases cc with
    | lst ds =>
      obtain ⟨xs, h1, h2⟩ := hc
      obtain ⟨ys, k1, k2⟩ := hb
      exact ⟨ys, k1, RpL.cutl_ c _ _ k2 (RpL.low_ so _ _ h2)⟩
    | dK ds =>
      obtain ⟨xs, h1, h2, h3⟩ := hc
      obtain ⟨ys, k1, k2, k3⟩ := hb
      exact ⟨ys, k1, k2, RpL.cutl_ c _ _ k3 (RpL.low_ so _ _ h3)⟩
    | dT ds =>
      obtain ⟨xs, h1, h2, h3⟩ := hc
      obtain ⟨ys, k1, k2, k3⟩ := hb
      exact ⟨ys, k1, k2, RpL.cutl_ c _ _ k3 (RpL.low_ so _ _ h3)⟩
  · obtain ⟨k1, k2⟩ := so'.hd a (c.hid a m)
    refine ⟨fun z => k1 ?_, k2⟩
    obtain ⟨t, e⟩ := s.pre
    rw [e]; exact List.mem_append_left _ z
theorem frzFs_ok (c : Cut ρ ρ' S.length) (so : StoOk K H ρ' S') : ∀ {fl fl' : List (Str × D)} {vs : List V}, RpL K H ρ' vs (fl.map (·.2)) → frzFs S.length S' fl = some fl' → fl'.map (·.1) = fl.map (·.1) ∧ RpL K H ρ vs (fl'.map (·.2))
  | [], _, _, r, e => by cases r; cases e; exact ⟨rfl, .nil⟩
  | p :: fl, _, _, r, e => by
    rw [List.map_cons] at r
    cases r with
    | cons r t =>
      have e : (match frzD S.length S' p.2, frzFs S.length S' fl with | some d, some r' => some ((p.1, d) :: r') | _, _ => none) = some _ := e
      cases e1 : frzD S.length S' p.2 with
      | none => rw [e1] at e; cases e
      | some d =>
        cases e2 : frzFs S.length S' fl with
        | none => rw [e1, e2] at e; cases e
        | some r' =>
          rw [e1, e2] at e
          cases e
          obtain ⟨i1, i2⟩ := frzFs_ok c so t e2
          exact ⟨by rw [List.map_cons, List.map_cons, i1], .cons (Rp.frz_ c (cellF_ok so c 6) _ _ _ r e1) i2⟩
end
end Cor

/-! Core15: a def keeps its promise; the law's end. -/
namespace Cor
open PySem PySem.Spec PyProof.Rows L2

section
variable {K : PySem.W.Frag} {mg : Str → Option Value} {H : Hp} {ρ : Rho} {S : Sto} {ts : List Addr}
theorem start_env {N : List Str} : ∀ {vs : List V} {ds : List D}, RpL K H ρ vs ds → ∀ n : Nat, EnvOk K H ρ (ds.map some ++ List.replicate n none) (vs.map some ++ List.replicate n none)
  | _, _, .nil, n => ⟨by simp, fun i d e => by
    simp only [List.map_nil, List.nil_append, List.getElem?_replicate] at e
    split at e <;> cases e⟩
  | _, _, .cons (v := v) (d := d) h t, n => by
    have ih := start_env (N := N) t n
    refine ⟨by have := ih.1; simp at this ⊢; omega, fun i d' e => ?_⟩
    cases i with
    | zero =>
      cases e
      exact ⟨v, rfl, h⟩
    | succ i =>
      obtain ⟨w, q, r⟩ := ih.2 i d' (by simpa using e)
      exact ⟨w, by simpa using q, r⟩
/-- what the frame's end gives -/
theorem fin_post {S' : Sto} {d : D} {E : XK} {Q : VK} {ρ' : Rho} {H' : Hp} {v : V} (so : StoOk K H ρ S) (p : Post K mg (fun c o _ H' => E c o H') [] ρ H (Rp K) (fin S S' d) Q) (st : Stp ρ H ρ' H') (so' : StoOk K H' ρ' S') (r : Rp K H' ρ' v d) : Q v H' := by
  by_cases z : S'.take S.length = S
  · cases e : frzD S.length S' d with
    | none =>
      unfold fin at p
      rw [if_pos z, e] at p
      exact p v ρ' H' st so' r
    | some d' =>
      rw [fin_ok z e] at p
      exact p v ρ H' (stp_cut st) (sto_cut st so so' z) (Rp.frz_ (cut_of st so) (cellF_ok so' (cut_of st so) 6) _ _ _ r e)
  · unfold fin at p
    rw [if_neg z] at p
    exact p v ρ' H' st so' r
theorem finE_post {S' : Sto} {e : Exn} {E : XK} {Q : VK} {ρ' : Rho} {H' : Hp} {c : Value} {o : Option Addr} (so : StoOk K H ρ S) (p : Post K mg (fun c o _ H' => E c o H') [] ρ H (Rp K) (finE S S' e) Q) (st : Stp ρ H ρ' H') (so' : StoOk K H' ρ' S') (r : ExnOk K mg H' ρ' e c o) : E c o H' := by
  by_cases z : S'.take S.length = S
  · cases ef : frzFs S.length S' e.fld with
    | none =>
      unfold finE at p
      rw [if_pos z, ef] at p
      exact p ρ' H' c o st so' r
    | some fl =>
      unfold finE at p
      rw [if_pos z, ef] at p
      refine p ρ H' c o (stp_cut st) (sto_cut st so so' z) ⟨r.1, ?_⟩
      have r2 := r.2
      cases hf : e.fld with
      | nil =>
        rw [hf] at ef
        cases ef
        trivial
      | cons f fs =>
        rw [hf] at r2 ef
        obtain ⟨a, xs, e1, e2, e3, e4, e5⟩ := r2
        obtain ⟨i1, i2⟩ := frzFs_ok (cut_of st so) so' e5 ef
        cases fl with
        | nil => simp at i1
        | cons g gs => exact ⟨a, xs, e1, (cut_of st so).out e2, e3, e4.trans i1.symm, i2⟩
  · unfold finE at p
    rw [if_neg z] at p
    exact p ρ' H' c o st so' r
end
/-- THE RULE: a def by its body -/
theorem fnk_of {P : Program} {w : World} {K : PySem.W.Frag} {mg : Str → Option Value} {base : Heap} {ts : List Addr} {k : Nat} {C : Clls} {x : Str} {id : Nat} {st : Stmt} {f : Addr} {fd : FuncData} {N ps : List Str} {b : Blk}
    (F : Fun K x x st f fd) (S : FnScope N ps (defScope st)) (hC : ∀ ds S, C id ds S = callB N.length ps.length b ds S)
    (hbody : ∀ (cdv : Value) (A : Around) (outer : List Env) (s : Shared) (H : Hp) (E : XK), fd.code = cdv → Room k (A.deeper (envOfC x (defScope st) s.heap.objs.size f cdv)) →
      JB (cxOf (L2.CX P w) P w K mg base N x (defScope st) f cdv A outer s H E) ts (fun c o _ H => E c o H) (defBody st) b) : FnOk P w K mg base (L2.CX P w) (k + 1) f fd ps (spC K mg ts C id ps.length) := by
  obtain ⟨oc, od, kV, doc, pm, an, cdv, ct, osl, rfl, lk, hcd⟩ := F.ex
  refine fn_of lk hcd S (fun _ _ _ _ h => h.1) fun A outer s H vs Q E hr hsp => ⟨_, hbody cdv A outer s H E rfl hr, ?_⟩
  obtain ⟨hl, ρ, ds, S0, so, rl, tb, p⟩ := hsp
  have hpl : ps.length ≤ N.length := by have := congrArg List.length S.pre; rw [List.length_take] at this; omega
  have hd : ds.length = ps.length := rl.length.symm.trans hl
  rw [hC] at p
  have e : L2.start N vs = vs.map some ++ List.replicate (N.length - ps.length) none := by unfold L2.start; rw [hl]
  refine ⟨ρ, ds.map some ++ List.replicate (N.length - ps.length) none, S0, ⟨by rw [e]; exact start_env (N := N) rl _, so, tb⟩, ?_⟩
  unfold callB at p
  rw [if_pos hd] at p
  cases eb : b (ds.map some ++ List.replicate (N.length - ps.length) none) S0 with
  | nx env S' => rw [eb] at p; exact fun ρ' σ' H' st m => fin_post so p st m.sto .non
  | rt d S' => rw [eb] at p; exact fun v ρ' H' st so' r => fin_post so p st so' r
  | er e' env S' => rw [eb] at p; exact fun ρ' σ' H' c o st m r => finE_post so p st m.sto r
  | bk env S' => rw [eb] at p; exact p.elim
  | ct env S' => rw [eb] at p; exact p.elim
  | no => rw [eb] at p; exact p.elim
theorem cal_of {P : Program} {w : World} {K : PySem.W.Frag} {mg : Str → Option Value} {base : Heap} {ts : List Addr} {k : Nat} {C : Clls} {x : Str} {id : Nat} {st : Stmt} {f : Addr} {fd : FuncData} {N ps : List Str} {b : Blk}
    (F : Fun K x x st f fd) (S : FnScope N ps (defScope st)) (hm : mg x = some (.ref f)) (hb : Binds K fd ps []) (hC : ∀ ds S, C id ds S = callB N.length ps.length b ds S)
    (hbody : ∀ (cdv : Value) (A : Around) (outer : List Env) (s : Shared) (H : Hp) (E : XK), fd.code = cdv → Room k (A.deeper (envOfC x (defScope st) s.heap.objs.size f cdv)) →
      JB (cxOf (L2.CX P w) P w K mg base N x (defScope st) f cdv A outer s H E) ts (fun c o _ H => E c o H) (defBody st) b) : Cal P w K mg base ts (k + 1) C x id ps.length :=
  ⟨f, fd, ps, hm, F.kp, hb, fnk_of F S hC hbody⟩
end Cor

/-! Core16: small things for the derivations; the law's end. -/
namespace Cor
open PySem PySem.Spec PyProof.Rows L2

def visB (sc : Scope) (x : Str) : Bool := match sc.names.lookup x with
  | some .local => true
  | some .cell => true
  | some .free => true
  | _ => false
theorem vis_of {sc : Scope} {x : Str} (h : visB sc x = true) : Vis sc x := by
  unfold visB at h
  unfold Vis
  split at h <;> first | (rename_i e; rw [e]; simp; done) | cases h
theorem loc_of {sc : Scope} {x : Str} (h : sc.names.lookup x = some .local) : L2.Loc sc x := .inl h
def locB (sc : Scope) (x : Str) : Bool := match sc.names.lookup x with
  | some .local => true
  | some .cell => true
  | _ => false
theorem loc_or {sc : Scope} {x : Str} (h : locB sc x = true) : L2.Loc sc x := by
  unfold locB at h
  unfold L2.Loc
  split at h <;> first | (rename_i e; rw [e]; simp; done) | cases h
theorem cell_of {sc : Scope} {x : Str} (h : sc.names.lookup x = some .cell) : L2.Loc sc x := .inr h

theorem jb_no {X : Cx} {ts : List Addr} {W : WX} {st : List Stmt} : JB X ts W st noB := ⟨fun pins s σ H D I ⟨_, _, _, _, q⟩ => q.elim⟩
/-! ### a slice of any sequence, a list's as a value -/
def slV (S : Sto) (x : D) (lo hi : Option Int) : Option D := match x with
  | .tuple ds => some (.tuple (cutD ds lo hi))
  | .list ds => some (.list (cutD ds lo hi))
  | .str z => if z.length ≤ sizeLine then some (.str (cutS z lo hi)) else none
  | .dict kvs => match lstOf S (.dict kvs) with
    | some p => some (.list (cutD p.2 lo hi))
    | none => none
  | _ => none
def slA (a : Ex) (lo hi : Px) : Ex := fun env S => (a env S).bind fun x S1 => (lo env S1).bind fun l S2 => (hi env S2).bind fun u S3 => lift (slV S3 x l u) S3
section
variable {X : Cx} {ts : List Addr} {W : WX} {pos p2 : Pos} {a : Expr} {lo hi : Option Expr} {ga : Ex} {gl gu : Px}
theorem je_slA (ha : JE X ts W a ga) (hl : JP X ts W lo gl) (hu : JP X ts W hi gu) : JE X ts W (.Subscript a (.Slice lo hi none p2) pos) (slA ga gl gu) :=
  je_of (pe_slice ((sl_tupA.or sl_str).or sl_list) ha hl hu) fun σ H Q ⟨ρ, env, S, m, p⟩ => ⟨ρ, env, S, m, Post.next (f := fun x S1 => (gl env S1).bind fun l S2 => (gu env S2).bind fun u S3 => lift (slV S3 x l u) S3) p fun x ρ1 H1 dx S1 er1 st so rx p1 =>
    ⟨ρ1, env, S1, m.step st so, Post.next (f := fun l S2 => (gu env S2).bind fun u S3 => lift (slV S3 dx l u) S3) p1 fun l ρ2 H2 l' S2 _ st2 so2 el p2 => by
      subst el
      exact ⟨ρ2, env, S2, (m.step st so).step st2 so2, Post.next (f := fun u S3 => lift (slV S3 dx l u) S3) p2 fun u ρ3 H3 u' S3 _ st3 so3 eu p3 => by
        subst eu
        replace rx := (rx.step st2).step st3
        cases dx <;> first | exact p3.elim | skip
        · rename_i z
          cases rx
          by_cases hz : z.length ≤ sizeLine
          · have p3 : Post X.K X.mg W σ ρ3 H3 (Rp X.K) (lift (if z.length ≤ sizeLine then some (PyData.str (cutS z l u)) else none) S3) Q := p3
            rw [if_pos hz] at p3
            exact .inl (.inr ⟨z, rfl, hz, Post.done p3 so3 (.str _)⟩)
          · have p3 : Post X.K X.mg W σ ρ3 H3 (Rp X.K) (lift (if z.length ≤ sizeLine then some (PyData.str (cutS z l u)) else none) S3) Q := p3
            rw [if_neg hz] at p3; exact p3.elim
        · rename_i ds
          cases rx with
          | lst h r =>
            refine .inr ⟨_, _, rfl, h.sq, fun q hq => ?_⟩
            exact p3 _ ρ3 _ (stp_new hq) (so3.new_obj hq) (.lst ⟨.inl upd_same, so3.new hq⟩ ((cutD_ok r l u).step (stp_new hq)))
        · rename_i ds
          cases rx with
          | tup h r =>
            rename_i a' xs
            refine .inl (.inl ⟨a', xs, rfl, h.sq, fun e => ?_, fun _ q hq => ?_⟩)
            · have ec : cutD ds l u = ds := by
                unfold cutD
                rw [← r.length, e.1, e.2, r.length]
                simp
              have p3 : Post X.K X.mg W σ ρ3 H3 (Rp X.K) (.ok (PyData.tuple (cutD ds l u)) S3) Q := p3
              rw [ec] at p3
              exact Post.done p3 so3 (.tup h r)
            · exact p3 _ ρ3 _ (stp_new hq) (so3.new_obj hq) (.tup ⟨upd_same, so3.new hq⟩ ((cutD_ok r l u).step (stp_new hq)))
        · rename_i kvs
          have p3 : Post X.K X.mg W σ ρ3 H3 (Rp X.K) (lift (match lstOf S3 (.dict kvs) with | some p => some (PyData.list (cutD p.2 l u)) | none => none) S3) Q := p3
          cases el : lstOf S3 (.dict kvs) with
          | none => rw [el] at p3; exact p3.elim
          | some q =>
            obtain ⟨n, ds⟩ := q
            rw [el] at p3
            obtain ⟨_, a', xs, rfl, _, h1, h2⟩ := lstOf_ok so3 rx el
            exact .inr ⟨_, _, rfl, SqL.of h1, fun q hq => p3 _ ρ3 _ (stp_new hq) (so3.new_obj hq) (.lst ⟨.inl upd_same, so3.new hq⟩ ((cutD_ok h2 l u).step (stp_new hq)))⟩⟩⟩⟩
end

/-! ### contexts -/
section
variable {P : Program} {w : World} {K : PySem.W.Frag} {mg : Str → Option Value} {base : Heap} {N : List Str} {qual : Str} {scope : Scope} {f : Addr} {cd : Value} {A : Around} {outer : List Env} {s : Shared} {H : Hp} {E : XK}
theorem takes_cx : Takes (cxOf (L2.CX P w) P w K mg base N qual scope f cd A outer s H E) (fun c o _ H => E c o H) := takes_of rfl rfl rfl rfl
theorem owns_cx : PassesOwn (model P w) (cxOf (L2.CX P w) P w K mg base N qual scope f cd A outer s H E).A (cxOf (L2.CX P w) P w K mg base N qual scope f cd A outer s H E).env (cxOf (L2.CX P w) P w K mg base N qual scope f cd A outer s H E).xe := passes_of rfl
theorem takes_w0 {X : Cx} : Takes X W0 := fun _ _ ⟨_, _, _, _, _, _, _, _, _, _, _, _, _, _, _, _, w⟩ => w.elim
end
/-- all the defs of a table keep their promise -/
def AllCal (P : Program) (w : World) (K : PySem.W.Frag) (mg : Str → Option Value) (base : Heap) (ts : List Addr) (k : Nat) (tab : List (Str × Nat)) (C : Clls) : Prop :=
  ∀ (id : Nat) (x : Str) (ar : Nat), tab[id]? = some (x, ar) → Cal P w K mg base ts k C x id ar
/-- a def's facts -/
def DefF (K : PySem.W.Frag) (mg : Str → Option Value) (st : Stmt) (x : Str) (ps : List Str) (f : Addr) (fd : FuncData) : Prop := Fun K x x st f fd ∧ mg x = some (.ref f) ∧ Binds K fd ps []
theorem cal_zero {P : Program} {w : World} {K : PySem.W.Frag} {mg : Str → Option Value} {base : Heap} {ts : List Addr} {st : Stmt} {x : Str} {id : Nat} {ps : List Str} {f : Addr} {fd : FuncData} (F : DefF K mg st x ps f fd) : Cal P w K mg base ts 0 (fun _ _ _ => .no) x id ps.length :=
  ⟨f, fd, ps, F.2.1, F.1.kp, F.2.2, ⟨fun _ _ _ _ h => h.1, fun _ _ _ _ _ _ _ _ _ _ _ _ _ h => by obtain ⟨_, _, _, _, _, _, _, p⟩ := h; exact p.elim⟩⟩
theorem def_fact {K : PySem.W.Frag} {mg : Str → Option Value} {h : Heap} {st : Stmt} {x : Str} {ps : List Str} {f : Addr} {oc : Value} {od an : Option Addr} {osl : Array (Option Value)} {kV doc pm cdv ct : Value} (KX : K.In h) (G : h.Ns mainGlobals mg)
    (a : PySem.W.nsIn K mainGlobals x = some (some (.ref f))) (l : K.lookup f = some ⟨oc, od, .func (PySem.W.fnOf x x (defArgs st) (defBody st) (defScope st) .none kV doc pm an cdv ct), osl⟩) (c : PySem.W.codeIn K cdv x = true) (k : PySem.W.keepIn K (.ref f) = true)
    (b : ∀ (kV doc pm : Value) (an : Option Addr) (cdv ct : Value) (us : List Value), us.length = ps.length → bindArgs (PySem.W.fnOf x x (defArgs st) (defBody st) (defScope st) .none kV doc pm an cdv ct) ⟨us, []⟩ = pure (ps.zip us)) :
    DefF K mg st x ps f (PySem.W.fnOf x x (defArgs st) (defBody st) (defScope st) .none kV doc pm an cdv ct) :=
  ⟨fun_mk l c k, PySem.W.mg_of KX G a, (fun_mk l c k).binds b⟩

/-! ### the end -/
def noLists (K : PySem.W.Frag) : Bool := K.all fun p => p.2.cls != .type "list"
theorem sql_rd {K : PySem.W.Frag} {H : Hp} {a : Addr} {xs : List V} (nl : noLists K = true) (h : SqL K H a xs) : Rd H a (.lst xs) := by
  rcases h with h | ⟨o, its, n, e, c, _⟩
  · exact h
  · have h2 := List.all_eq_true.mp nl (a, o) (PySem.W.mem_of_lookupK e)
    rw [c] at h2
    simp at h2
theorem script_rpl {K : PySem.W.Frag} {H : Hp} {ρ : Rho} : ∀ ns : List Int, RpL K H ρ (ns.map V.int) (ns.map PyData.int)
  | [] => .nil
  | n :: ns => .cons (.int n) (script_rpl ns)
/-- the law's promise from what C tells -/
theorem law_sp {P : Program} {w : World} {K : PySem.W.Frag} {mg : Str → Option Value} {C : Clls} {id : Nat} {cs : List (Addr × Addr)} {H : Hp} {a : Addr} {ns : List Int} (nl : noLists K = true) (hH : ∀ p ∈ cs, H p.2 = some (.tbl #[])) (hS : SqL K H a (ns.map V.int))
    (hC : C id [.list (ns.map .int)] [] = .ok (.bool true) []) : spC K mg (cs.map (·.2)) C id 1 [.ref a] H (fun v _ => v = .bl true) fun _ _ _ => False := by
  refine ⟨rfl, ⟨[], []⟩, [.list (ns.map .int)], [], ⟨rfl, .nil, (fun n c e => nomatch e), (fun a m => nomatch m)⟩, .cons (.lst ⟨sql_rd nl hS, fun z => by rcases z with z | z <;> cases z⟩ (script_rpl ns)) .nil, fun P hP => ?_, ?_⟩
  · obtain ⟨p, hp, e⟩ := List.mem_map.mp hP
    rw [← e]
    exact ⟨⟨#[], hH p hp, trivial⟩, fun z => nomatch z⟩
  · rw [hC]
    intro v ρ' H' _ _ r
    cases r
    rfl
theorem cx_false {P : Program} {w : World} {H : Hp} {s : Shared} {e : Value} {s' : Shared} (h : L2.CX P w [] H s (fun _ _ _ => False) e s') : False := by
  obtain ⟨_, _, _, _, _, _, _, _, _, _, _, _, z⟩ := h
  exact z
/-- the walk's end, all that the head knows -/
theorem walk_all {l : PySem.W.OpenLaw} {n k : Nat} {q : Program} {loose : List Str} {XP : (Str → Option Value) → Heap → Prop} {YP : World → Heap → Prop} {d : DefRec} {K : Params → PySem.W.Frag} {x : Str}
    (hn : l.most = some n) (hn2 : n ≤ sizeLine) (hdf : d.params.defaults = []) (hr : Room k callerA) (hY : ∀ (w : World) (h : Heap), YP w h → (K w.params).In h)
    (F : ∀ (w : World) (s₀ : Shared) (mg mb : Str → Option Value) (fa : Addr) (h : Heap), (K w.params).In h → PySem.W.Ground q loose [] XP w s₀ mg mb h → mg d.name = some (.ref fa) → LamX.LawAtS l w (K w.params) (L2.CX l.prog w) k n x mg fa h) :
    PySem.W.WalkO q loose XP YP l.row.toRowW d [] (fun f vs => PySem.call f vs) := by
  refine Att.attach_callB hn hdf fun w s₀ s₁ mg mb fa o pm cd doc a vs ns G Y ho hd hcd hmg hobj hints hlen hbits hg => ?_
  have KX := hY w _ Y
  obtain ⟨fd, cs, sp, hT, nT, C, hb, hsp, hF⟩ := F w s₀ mg mb fa _ KX G hmg
  exact LamX.law_callTs KX G.T.g G.T.b G.T.builtins G.T.nolimit hg hT nT C G.T.bmain hobj hints (Nat.le_trans hlen hn2) hr hF hb (fun H hH hS => hsp H a ns hlen hbits hH hS) fun H e s' z => cx_false z
theorem law_at {l : PySem.W.OpenLaw} {w : World} {K : PySem.W.Frag} {mg : Str → Option Value} {fa : Addr} {h : Heap} {n k : Nat} {C : Clls} {id : Nat} {fd : FuncData} {x : Str} (cs : List (Addr × Addr)) (nl : noLists K = true)
    (hT : ∀ p ∈ cs, PySem.W.CodeHd h p.1 p.2 ∧ h.get? p.2 = some (PySem.W.tabObj #[])) (nT : ∀ p ∈ cs, K.lookup p.2 = none) (hb : ∀ (s : Shared) (u : Value), BindsTo s fd ⟨[u], []⟩ [(x, u)])
    (hF : ∀ base : Heap, K.In base → base.Ns mainGlobals mg → (∀ p ∈ cs, LamX.TabB base mg p.1 p.2) → FnOk l.prog w K mg base (L2.CX l.prog w) k fa fd [x] (spC K mg (cs.map (·.2)) C id 1))
    (hC : ∀ ns : List Int, ns.length ≤ n → (∀ z ∈ ns, Builtin.Int.intBits z ≤ 1048576) → C id [.list (ns.map .int)] [] = .ok (.bool true) []) : LamX.LawAtS l w K (L2.CX l.prog w) k n x mg fa h :=
  ⟨fd, cs, spC K mg (cs.map (·.2)) C id 1, fun p hp => (hT p hp).2, nT, fun p hp => (hT p hp).1, hb, fun H a ns h1 h2 h3 h4 => law_sp (P := l.prog) (w := w) nl h3 h4 (hC ns h1 h2), hF⟩
end Cor

/-! Core17: blocks run by simp. -/
namespace Cor
open PySem PySem.Spec PyProof.Rows L2

@[simp] theorem flat_none : flat .none = true := id rfl
@[simp] theorem flat_bool (b : Bool) : flat (.bool b) = true := id rfl
@[simp] theorem flat_int (i : Int) : flat (.int i) = true := id rfl
@[simp] theorem flat_str (x : Str) : flat (.str x) = true := id rfl
@[simp] theorem flat_list (ds : List D) : flat (.list ds) = flatL ds := id rfl
@[simp] theorem flat_tuple (ds : List D) : flat (.tuple ds) = flatL ds := id rfl
@[simp] theorem flat_dict (kvs : List (D × D)) : flat (.dict kvs) = false := id rfl
@[simp] theorem flatL_nil : flatL [] = true := id rfl
@[simp] theorem flatL_cons (d : D) (ds : List D) : flatL (d :: ds) = (flat d && flatL ds) := id rfl
theorem flatL_iff : ∀ {ds : List D}, flatL ds = true ↔ ∀ d ∈ ds, flat d = true
  | [] => by simp
  | d :: ds => by simp [flatL_iff (ds := ds)]
theorem flatL_append : ∀ (a b : List D), flatL (a ++ b) = (flatL a && flatL b)
  | [], b => by simp
  | d :: a, b => by simp [flatL_append a b, Bool.and_assoc]
@[simp] theorem fin_self {S : Sto} {d : D} (f : flat d = true) : fin S S d = .ok d S := fin_flat (by simp) f
@[simp] theorem fin_more {S T : Sto} {d : D} (f : flat d = true) : fin S (S ++ T) d = .ok d S := fin_flat (by simp) f
/-- a list made in the frame is handed out -/
theorem fin_list {S T : Sto} {ds : List D} {n : Nat} (hn : S.length ≤ n) (h : (S ++ T)[n]? = some (.lst ds)) (f : flatL ds = true) : fin S (S ++ T) (rf n) = .ok (.list ds) S := fin_ok (by simp) (frzD_new (S := S) f _ _ (by omega) h)

/-! ### the words -/
noncomputable def endB (S : Sto) : Fl → R D
  | .nx _ S' => fin S S' .none
  | .rt d S' => fin S S' d
  | .er e _ S' => finE S S' e
  | _ => .no
@[simp] theorem endB_nx {S S' : Sto} {env : Envd} : endB S (.nx env S') = fin S S' .none := rfl
@[simp] theorem endB_rt {S S' : Sto} {d : D} : endB S (.rt d S') = fin S S' d := rfl
@[simp] theorem endB_er {S S' : Sto} {env : Envd} {e : Exn} : endB S (.er e env S') = finE S S' e := rfl
theorem callB_eq {n ar : Nat} {b : Blk} {ds : List D} {S : Sto} (h : ds.length = ar) : callB n ar b ds S = endB S (b (ds.map some ++ List.replicate (n - ar) none) S) := by
  unfold callB
  rw [if_pos h]
  cases b (ds.map some ++ List.replicate (n - ar) none) S <;> rfl
def gotE (o : Option (Option D)) (S : Sto) : R D := match o with
  | some (some d) => .ok d S
  | _ => .no
@[simp] theorem gotE_some (d : D) (S : Sto) : gotE (some (some d)) S = .ok d S := rfl
@[simp] theorem var_eq (i : Nat) (env : Envd) (S : Sto) : var i env S = gotE env[i]? S := rfl
@[simp] theorem lit_eq (d : D) (env : Envd) (S : Sto) : lit d env S = .ok d S := rfl
def thenB {α : Type} (o : Option Bool) (a b : R α) : R α := match o with
  | some true => a
  | some false => b
  | none => .no
@[simp] theorem thenB_t {α : Type} (a b : R α) : thenB (some true) a b = a := rfl
@[simp] theorem thenB_f {α : Type} (a b : R α) : thenB (some false) a b = b := rfl
theorem thenB_if {α : Type} (c : Bool) (a b : R α) : thenB (some c) a b = if c = true then a else b := by cases c <;> rfl
@[simp] theorem andE_eq (a b : Ex) (env : Envd) (S : Sto) : andE a b env S = (a env S).bind fun d S1 => thenB (tv S1 d) (b env S1) (.ok d S1) := rfl
@[simp] theorem orE_eq (a b : Ex) (env : Envd) (S : Sto) : orE a b env S = (a env S).bind fun d S1 => thenB (tv S1 d) (.ok d S1) (b env S1) := rfl
@[simp] theorem notE_eq (a : Ex) (env : Envd) (S : Sto) : notE a env S = (a env S).bind fun d S1 => lift ((tv S1 d).map fun b => PyData.bool (!b)) S1 := rfl
@[simp] theorem tru_eq (a : Ex) (env : Envd) (S : Sto) : tru a env S = (a env S).bind fun d S1 => lift (tv S1 d) S1 := rfl
@[simp] theorem andT_eq (a b : Tx) (env : Envd) (S : Sto) : andT a b env S = (a env S).bind fun c S1 => if c = true then b env S1 else .ok false S1 := rfl
@[simp] theorem orT_eq (a b : Tx) (env : Envd) (S : Sto) : orT a b env S = (a env S).bind fun c S1 => if c = true then .ok true S1 else b env S1 := rfl
@[simp] theorem notT_eq (a : Tx) (env : Envd) (S : Sto) : notT a env S = (a env S).bind fun c S1 => .ok (!c) S1 := rfl
@[simp] theorem iteE_eq (c : Tx) (a b : Ex) (env : Envd) (S : Sto) : iteE c a b env S = (c env S).bind fun k S1 => if k = true then a env S1 else b env S1 := rfl
@[simp] theorem bin_eq (f : Sto → D → D → Option D) (a b : Ex) (env : Envd) (S : Sto) : bin f a b env S = (a env S).bind fun x S1 => (b env S1).bind fun y S2 => lift (f S2 x y) S2 := rfl
@[simp] theorem un_eq (f : Sto → D → Option D) (a : Ex) (env : Envd) (S : Sto) : un f a env S = (a env S).bind fun x S1 => lift (f S1 x) S1 := rfl
@[simp] theorem cmp_eq (f : Sto → D → D → Option Bool) (a b : Ex) (env : Envd) (S : Sto) : cmp f a b env S = (a env S).bind fun x S1 => (b env S1).bind fun y S2 => lift ((f S2 x y).map PyData.bool) S2 := rfl
@[simp] theorem cmpT_eq (f : Sto → D → D → Option Bool) (a b : Ex) (env : Envd) (S : Sto) : cmpT f a b env S = (a env S).bind fun x S1 => (b env S1).bind fun y S2 => lift (f S2 x y) S2 := rfl
@[simp] theorem chn_eq (f f' : Sto → D → D → Option Bool) (a b c : Ex) (env : Envd) (S : Sto) : chn f f' a b c env S = (a env S).bind fun x S1 => (b env S1).bind fun y S2 => thenB (f S2 x y) ((c env S2).bind fun z S3 => lift ((f' S3 y z).map PyData.bool) S3) (.ok (PyData.bool false) S2) := rfl
@[simp] theorem chnT_eq (f f' : Sto → D → D → Option Bool) (a b c : Ex) (env : Envd) (S : Sto) : chnT f f' a b c env S = (a env S).bind fun x S1 => (b env S1).bind fun y S2 => thenB (f S2 x y) ((c env S2).bind fun z S3 => lift (f' S3 y z) S3) (.ok false S2) := rfl
@[simp] theorem nilX_eq (env : Envd) (S : Sto) : nilX env S = .ok [] S := rfl
@[simp] theorem consX_eq (g : Ex) (gs : Exs) (env : Envd) (S : Sto) : consX g gs env S = (g env S).bind fun d S1 => (gs env S1).bind fun ds S2 => .ok (d :: ds) S2 := rfl
@[simp] theorem tupE_eq (gs : Exs) (env : Envd) (S : Sto) : tupE gs env S = (gs env S).bind fun ds S1 => if ds.length ≤ sizeLine then .ok (.tuple ds) S1 else .no := rfl
@[simp] theorem lstF_eq (gs : Exs) (env : Envd) (S : Sto) : lstF gs env S = (gs env S).bind fun ds S1 => if ds.length ≤ sizeLine then .ok ds S1 else .no := rfl
@[simp] theorem frz_eq (g : Exs) (env : Envd) (S : Sto) : frz g env S = (g env S).bind fun ds S1 => .ok (.list ds) S1 := rfl
@[simp] theorem cel_eq (g : Exs) (env : Envd) (S : Sto) : cel g env S = (g env S).bind fun ds S1 => .ok (rf S1.length) (S1 ++ [.lst ds]) := rfl
@[simp] theorem callE_eq (C : Clls) (id : Nat) (gs : Exs) (env : Envd) (S : Sto) : callE C id gs env S = (gs env S).bind fun ds S1 => C id ds S1 := rfl
@[simp] theorem bltE_eq (f : Sto → List D → Option D) (gs : Exs) (env : Envd) (S : Sto) : bltE f gs env S = (gs env S).bind fun ds S1 => lift (f S1 ds) S1 := rfl
@[simp] theorem bltF_eq (f : Sto → List D → Option (List D)) (gs : Exs) (env : Envd) (S : Sto) : bltF f gs env S = (gs env S).bind fun ds S1 => lift (f S1 ds) S1 := rfl
@[simp] theorem isiE_eq (a : Ex) (ts : List Ty) (env : Envd) (S : Sto) : isiE a ts env S = (a env S).bind fun d S1 => lift ((kindD S1 d).map fun k => .bool (ts.any (isK k))) S1 := rfl
@[simp] theorem slA_eq (a : Ex) (lo hi : Px) (env : Envd) (S : Sto) : slA a lo hi env S = (a env S).bind fun x S1 => (lo env S1).bind fun l S2 => (hi env S2).bind fun u S3 => lift (slV S3 x l u) S3 := rfl
@[simp] theorem noP_eq (env : Envd) (S : Sto) : noP env S = .ok none S := rfl
def intP (d : D) (S : Sto) : R (Option Int) := match d with
  | .int i => .ok (some i) S
  | _ => .no
@[simp] theorem intP_int (i : Int) (S : Sto) : intP (.int i) S = .ok (some i) S := rfl
@[simp] theorem someP_eq (g : Ex) (env : Envd) (S : Sto) : someP g env S = (g env S).bind intP := rfl
@[simp] theorem newE_eq (c : Cell) (env : Envd) (S : Sto) : newE c env S = .ok (rf S.length) (S ++ [c]) := rfl
@[simp] theorem methE_eq (f : List D → List D → Option (D × List D)) (go : Ex) (gs : Exs) (env : Envd) (S : Sto) : methE f go gs env S = (go env S).bind fun x S1 => optR (lstOf S1 x) fun _ => (gs env S1).bind fun es S2 => optR (lstOf S2 x) fun p => optR (f p.2 es) fun q => .ok q.1 (S2.set p.1 (.lst q.2)) := rfl
-- statements
@[simp] theorem skipB_eq (env : Envd) (S : Sto) : skipB env S = .nx env S := rfl
@[simp] theorem brkB_eq (env : Envd) (S : Sto) : brkB env S = .bk env S := rfl
@[simp] theorem ctB_eq (env : Envd) (S : Sto) : ctB env S = .ct env S := rfl
@[simp] theorem seqB_eq (a b : Blk) (env : Envd) (S : Sto) : seqB a b env S = (a env S).seq b := rfl
@[simp] theorem expB_eq (g : Ex) (env : Envd) (S : Sto) : expB g env S = (g env S).to env fun _ S1 => .nx env S1 := rfl
@[simp] theorem retB_eq (g : Ex) (env : Envd) (S : Sto) : retB g env S = (g env S).to env fun d S1 => .rt d S1 := rfl
@[simp] theorem retN_eq (env : Envd) (S : Sto) : retN env S = .rt .none S := rfl
@[simp] theorem ifB_eq (c : Tx) (a b : Blk) (env : Envd) (S : Sto) : ifB c a b env S = (c env S).to env fun k S1 => if k = true then a env S1 else b env S1 := rfl
@[simp] theorem asgB_eq (g : Ex) (t : Tg) (env : Envd) (S : Sto) : asgB g t env S = (g env S).to env fun d S1 => tgF (t d env) S1 := rfl
@[simp] theorem tgF_none (S : Sto) : tgF none S = .no := rfl
@[simp] theorem setN_eq (i : Nat) (d : D) (env : Envd) : setN i d env = some (env.set i (some d)) := rfl
def stoF (o : Option Sto) (env : Envd) : Fl := match o with
  | some S => .nx env S
  | none => .no
@[simp] theorem stoF_some (S : Sto) (env : Envd) : stoF (some S) env = .nx env S := rfl
@[simp] theorem putB_eq (gv go gi : Ex) (env : Envd) (S : Sto) : putB gv go gi env S = (gv env S).to env fun v S1 => (go env S1).to env fun o S2 => (gi env S2).to env fun i S3 => stoF (putD S3 o i v) env := rfl
def augF (o : Option D) (i : Nat) (env : Envd) (S : Sto) : Fl := match o with
  | some z => .nx (env.set i (some z)) S
  | none => .no
@[simp] theorem augF_some (z : D) (i : Nat) (env : Envd) (S : Sto) : augF (some z) i env S = .nx (env.set i (some z)) S := rfl
theorem augB_eq {i : Nat} {f : Sto → D → D → Option D} {g : Ex} {env : Envd} {S : Sto} {d : D} (h : env[i]? = some (some d)) : augB i f g env S = (g env S).to env fun y S1 => augF (f S1 d y) i env S1 := by
  unfold augB
  rw [h]
  rfl
@[simp] theorem forB_eq (it : Ix) (t : Tg) (b : Blk) (env : Envd) (S : Sto) : forB it t b env S = (it env S).to env fun p S1 => forL t b p.2 p.1 p.1 env S1 := rfl
theorem forL_nil (t : Tg) (b : Blk) (all : List D) (env : Envd) (S : Sto) : forL t b none all [] env S = .nx env S := by
  show guardF none all S (.nx env S) = _
  rw [guardF_none]
theorem forL_cons (t : Tg) (b : Blk) (all : List D) (d : D) (ds : List D) (env : Envd) (S : Sto) : forL t b none all (d :: ds) env S = (tgF (t d env) S).seq fun env1 S1 => (b env1 S1).turn (forL t b none all ds) := by
  show guardF none all S _ = _
  rw [guardF_none]
@[simp] theorem valI_eq (g : Ex) (env : Envd) (S : Sto) : valI g env S = (g env S).bind fun d S1 => lift (itemsD S1 d) S1 := rfl
def rngR (d : D) (S : Sto) : R Items := match d with
  | .int j => if -(2 ^ 62) ≤ j ∧ j < 2 ^ 62 then .ok (rangeL 0 j, none) S else .no
  | _ => .no
theorem rngR_int {j : Int} {S : Sto} (h1 : -(2 ^ 62) ≤ j) (h2 : j < 2 ^ 62) : rngR (.int j) S = .ok (rangeL 0 j, none) S := if_pos ⟨h1, h2⟩
@[simp] theorem rng1_eq (g : Ex) (env : Envd) (S : Sto) : rng1 g env S = (g env S).bind rngR := rfl
@[simp] theorem rng2_eq (a b : Ex) (env : Envd) (S : Sto) : rng2 a b env S = (a env S).bind fun x S1 => (b env S1).bind fun y S2 => lift (rngD x y) S2 := rfl
theorem rangeL_nat (n : Nat) : rangeL 0 (n : Int) = (List.range n).map fun (i : Nat) => PyData.int (i : Int) := by
  unfold rangeL
  simp
@[simp] theorem compF_eq (gi : Ix) (t : Tg) (c : Tx) (g : Ex) (vs : List Nat) (env : Envd) (S : Sto) : compF gi t c g vs env S = (gi env S).bind fun p S1 => if p.1.length ≤ sizeLine then compL t c g p.2 p.1 (wipeE env vs) p.1 S1 else .no := rfl
@[simp] theorem aaE_eq (w : Bool) (gi : Ix) (t : Tg) (c : Tx) (g : Ex) (vs : List Nat) (env : Envd) (S : Sto) : aaE w gi t c g vs env S = (gi env S).bind fun p S1 => aaL w t c g p.2 p.1 (wipeE env vs) p.1 S1 := rfl
@[simp] theorem yesT_eq (env : Envd) (S : Sto) : yesT env S = .ok true S := rfl
@[simp] theorem wipeE_nil (env : Envd) : wipeE env [] = env := rfl
@[simp] theorem wipeE_cons (env : Envd) (i : Nat) (r : List Nat) : wipeE env (i :: r) = (wipeE env r).set i none := rfl
/-- a comprehension whose items and tests are plain -/
theorem compL_map {t : Tg} {c : Tx} {g : Ex} {all : List D} {env : Envd} {S : Sto} (h : D → D) : ∀ (ds : List D), (∀ d ∈ ds, ∃ env1, t d env = some env1 ∧ c env1 S = .ok true S ∧ g env1 S = .ok (h d) S) → compL t c g none all env ds S = .ok (ds.map h) S
  | [], _ => by show guardR none all S _ = _; rw [guardR_none]; rfl
  | d :: ds, hd => by
    obtain ⟨env1, e1, e2, e3⟩ := hd d (List.mem_cons_self ..)
    have ih := compL_map (all := all) h ds fun x m => hd x (List.mem_cons_of_mem _ m)
    show guardR none all S _ = _
    rw [guardR_none, e1, optR_some, e2, calm_ok, R.bind_ok, if_pos rfl, e3, calm_ok, R.bind_ok, ih]
    rfl
theorem compL_filter {t : Tg} {c : Tx} {g : Ex} {all : List D} {env : Envd} {S : Sto} (p : D → Bool) (h : D → D) : ∀ (ds : List D), (∀ d ∈ ds, ∃ env1, t d env = some env1 ∧ c env1 S = .ok (p d) S ∧ (p d = true → g env1 S = .ok (h d) S)) → compL t c g none all env ds S = .ok ((ds.filter p).map h) S
  | [], _ => by show guardR none all S _ = _; rw [guardR_none]; rfl
  | d :: ds, hd => by
    obtain ⟨env1, e1, e2, e3⟩ := hd d (List.mem_cons_self ..)
    have ih := compL_filter (all := all) p h ds fun x m => hd x (List.mem_cons_of_mem _ m)
    show guardR none all S _ = _
    rw [guardR_none, e1, optR_some, e2, calm_ok, R.bind_ok]
    cases ep : p d with
    | true =>
      rw [if_pos rfl, e3 ep, calm_ok, R.bind_ok, ih, List.filter_cons_of_pos ep]
      rfl
    | false => rw [if_neg (by decide), ih, List.filter_cons_of_neg (by rw [ep]; decide)]
theorem aaL_all {t : Tg} {c : Tx} {g : Ex} {all : List D} {env : Envd} {S : Sto} (p : D → Bool) : ∀ (ds : List D), (∀ d ∈ ds, ∃ env1, t d env = some env1 ∧ c env1 S = .ok true S ∧ g env1 S = .ok (.bool (p d)) S) → aaL true t c g none all env ds S = .ok (.bool (ds.all p)) S
  | [], _ => by show guardR none all S _ = _; rw [guardR_none]; rfl
  | d :: ds, hd => by
    obtain ⟨env1, e1, e2, e3⟩ := hd d (List.mem_cons_self ..)
    have ih := aaL_all (all := all) p ds fun x m => hd x (List.mem_cons_of_mem _ m)
    show guardR none all S _ = _
    rw [guardR_none, e1, optR_some, e2, calm_ok, R.bind_ok, if_pos rfl, e3, calm_ok, R.bind_ok, boolR_bool, ih]
    cases ep : p d with
    | true => rw [if_pos rfl]; simp [ep]
    | false => rw [if_neg (by decide)]; simp [ep]
theorem aaL_any {t : Tg} {c : Tx} {g : Ex} {all : List D} {env : Envd} {S : Sto} (p : D → Bool) : ∀ (ds : List D), (∀ d ∈ ds, ∃ env1, t d env = some env1 ∧ c env1 S = .ok true S ∧ g env1 S = .ok (.bool (p d)) S) → aaL false t c g none all env ds S = .ok (.bool (ds.any p)) S
  | [], _ => by show guardR none all S _ = _; rw [guardR_none]; rfl
  | d :: ds, hd => by
    obtain ⟨env1, e1, e2, e3⟩ := hd d (List.mem_cons_self ..)
    have ih := aaL_any (all := all) p ds fun x m => hd x (List.mem_cons_of_mem _ m)
    show guardR none all S _ = _
    rw [guardR_none, e1, optR_some, e2, calm_ok, R.bind_ok, if_pos rfl, e3, calm_ok, R.bind_ok, boolR_bool, ih]
    cases ep : p d with
    | false => rw [if_pos rfl]; simp [ep]
    | true => rw [if_neg (by decide)]; simp [ep]

/-! ### values -/
@[simp] theorem tv_none (S : Sto) : tv S .none = some false := rfl
@[simp] theorem tv_bool (S : Sto) (b : Bool) : tv S (.bool b) = some b := rfl
@[simp] theorem tv_int (S : Sto) (i : Int) : tv S (.int i) = some (i != 0) := rfl
@[simp] theorem tv_list (S : Sto) (ds : List D) : tv S (.list ds) = some (!ds.isEmpty) := rfl
@[simp] theorem tv_tuple (S : Sto) (ds : List D) : tv S (.tuple ds) = some (!ds.isEmpty) := rfl
theorem der_flat {S : Sto} : ∀ {d : D}, flat d = true → der S d = some d
  | .none, _ => rfl
  | .bool _, _ => rfl
  | .int _, _ => rfl
  | .str _, _ => rfl
  | .list _, _ => rfl
  | .tuple _, _ => rfl
  | .dict _, h => by cases h
@[simp] theorem der_none (S : Sto) : der S .none = some .none := rfl
@[simp] theorem der_bool (S : Sto) (b : Bool) : der S (.bool b) = some (.bool b) := rfl
@[simp] theorem der_int (S : Sto) (i : Int) : der S (.int i) = some (.int i) := rfl
@[simp] theorem der_str (S : Sto) (x : Str) : der S (.str x) = some (.str x) := rfl
@[simp] theorem der_list (S : Sto) (ds : List D) : der S (.list ds) = some (.list ds) := rfl
@[simp] theorem der_tuple (S : Sto) (ds : List D) : der S (.tuple ds) = some (.tuple ds) := rfl
def knd : D → Kd
  | .none => .non
  | .bool _ => .bl
  | .int _ => .int
  | .str _ => .str
  | .list _ => .lst
  | .tuple _ => .tup
  | .dict _ => .dct
theorem kindD_flat {S : Sto} : ∀ {d : D}, flat d = true → kindD S d = some (knd d)
  | .none, _ => rfl
  | .bool _, _ => rfl
  | .int _, _ => rfl
  | .str _, _ => rfl
  | .list _, _ => rfl
  | .tuple _, _ => rfl
  | .dict _, h => by cases h
-- ints compared
theorem alike_int (i j : Int) : PySem.W.alike (.int i) (.int j) = true := rfl
theorem lt_int (i j : Int) : PySem.W.dataLt (.int i) (.int j) = decide (i < j) := PySem.W.dataLt_int i j
@[simp] theorem okD_int (i : Int) : okD (.int i) = true := rfl
@[simp] theorem ltB_int (S : Sto) (i j : Int) : ltB S (.int i) (.int j) = some (decide (i < j)) := by
  show (if (okD (.int i) && okD (.int j) && PySem.W.alike (.int i) (.int j) && true) = true then some (PySem.W.dataLt (.int i) (.int j)) else none) = _
  rw [lt_int]
  exact if_pos rfl
@[simp] theorem gtB_int (S : Sto) (i j : Int) : gtB S (.int i) (.int j) = some (decide (j < i)) := by
  show (if (okD (.int i) && okD (.int j) && PySem.W.alike (.int i) (.int j) && true) = true then some (PySem.W.dataLt (.int j) (.int i)) else none) = _
  rw [lt_int]
  exact if_pos rfl
@[simp] theorem leB_int (S : Sto) (i j : Int) : leB S (.int i) (.int j) = some (decide (i ≤ j)) := by
  unfold leB
  rw [gtB_int]
  show some (!decide (j < i)) = _
  congr 1
  by_cases h : i ≤ j
  · rw [decide_eq_true h, decide_eq_false (by omega)]; rfl
  · rw [decide_eq_false h, decide_eq_true (by omega)]; rfl
@[simp] theorem geB_int (S : Sto) (i j : Int) : geB S (.int i) (.int j) = some (decide (j ≤ i)) := by
  unfold geB
  rw [ltB_int]
  show some (!decide (i < j)) = _
  congr 1
  by_cases h : j ≤ i
  · rw [decide_eq_true h, decide_eq_false (by omega)]; rfl
  · rw [decide_eq_false h, decide_eq_true (by omega)]; rfl
theorem eqv_int (i j : Int) : PyData.eqv (.int i) (.int j) = decide (i = j) := by first | rfl | simp [PyData.eqv] | (unfold PyData.eqv; rfl)
@[simp] theorem eqB_int (S : Sto) (i j : Int) : eqB S (.int i) (.int j) = some (decide (i = j)) := by
  show (if (okD (.int i) && okD (.int j)) = true then some (PyData.eqv (.int i) (.int j)) else none) = _
  rw [eqv_int]
  exact if_pos rfl
@[simp] theorem neB_int (S : Sto) (i j : Int) : neB S (.int i) (.int j) = some (!decide (i = j)) := by unfold neB; rw [eqB_int]; rfl
@[simp] theorem addD_int (S : Sto) (i j : Int) : addD S (.int i) (.int j) = some (.int (i + j)) := rfl
@[simp] theorem addI_int (S : Sto) (i j : Int) : addI S (.int i) (.int j) = some (.int (i + j)) := rfl
@[simp] theorem subD_int (S : Sto) (i j : Int) : subD S (.int i) (.int j) = some (.int (i - j)) := rfl
@[simp] theorem negD_int (S : Sto) (i : Int) : negD S (.int i) = some (.int (-i)) := rfl
theorem modD_int {S : Sto} {i j : Int} (h : 0 < j) : modD S (.int i) (.int j) = some (.int (i % j)) := if_pos h
theorem fdivD_int {S : Sto} {i j : Int} (h : 0 < j) (h2 : j < 1073741824) : fdivD S (.int i) (.int j) = some (.int (i / j)) := if_pos ⟨h, h2⟩
theorem mulD_int {S : Sto} {i j : Int} (h : MulFits i j) : mulD S (.int i) (.int j) = some (.int (i * j)) := if_pos h

/-! ### places -/
theorem atI_nat' (ds : List D) (k : Nat) : L2.atI ds (k : Int) = ds[k]? := by
  cases h : ds[k]? with
  | some d => exact L2.atI_nat h
  | none =>
    have hk : ds.length ≤ k := List.getElem?_eq_none_iff.mp h
    unfold L2.atI L2.ixN
    simp
    omega
@[simp] theorem idxD_list (S : Sto) (ds : List D) (i : Int) : idxD S (.list ds) (.int i) = L2.atI ds i := rfl
@[simp] theorem idxD_tuple (S : Sto) (ds : List D) (i : Int) : idxD S (.tuple ds) (.int i) = L2.atI ds i := rfl
@[simp] theorem atI_0 (ds : List D) : L2.atI ds 0 = ds[0]? := atI_nat' ds 0
@[simp] theorem atI_1 (ds : List D) : L2.atI ds 1 = ds[1]? := atI_nat' ds 1
@[simp] theorem atI_2 (ds : List D) : L2.atI ds 2 = ds[2]? := atI_nat' ds 2
@[simp] theorem itemsD_list (S : Sto) (ds : List D) : itemsD S (.list ds) = some (ds, none) := rfl
@[simp] theorem itemsD_tuple (S : Sto) (ds : List D) : itemsD S (.tuple ds) = some (ds, none) := rfl
@[simp] theorem seqD_list (S : Sto) (ds : List D) : seqD S (.list ds) = some (true, ds) := rfl
@[simp] theorem seqD_tuple (S : Sto) (ds : List D) : seqD S (.tuple ds) = some (false, ds) := rfl
@[simp] theorem tupleD_1 (S : Sto) (d : D) : tupleD S [d] = (seqD S d).map fun p => .tuple p.2 := rfl
@[simp] theorem lenD_list (S : Sto) (ds : List D) : lenD S [.list ds] = some (.int ds.length) := rfl
@[simp] theorem lenD_tuple (S : Sto) (ds : List D) : lenD S [.tuple ds] = some (.int ds.length) := rfl
@[simp] theorem intD_int (S : Sto) (i : Int) : intD S [.int i] = some (.int i) := rfl
/-- a tuple's or a list's items -/
def items : D → Option (List D)
  | .list ds => some ds
  | .tuple ds => some ds
  | _ => none
mutual
/-- plain, and not long -/
def good : D → Bool
  | .list ds => decide (ds.length ≤ 1000) && goodL ds
  | .tuple ds => decide (ds.length ≤ 1000) && goodL ds
  | .dict _ => false
  | _ => true
def goodL : List D → Bool
  | [] => true
  | d :: ds => good d && goodL ds
end
mutual
def dep : D → Nat
  | .list ds => depL ds + 1
  | .tuple ds => depL ds + 1
  | _ => 0
def depL : List D → Nat
  | [] => 0
  | d :: ds => max (dep d) (depL ds)
end
@[simp] theorem good_none : good .none = true := id rfl
@[simp] theorem good_bool (b : Bool) : good (.bool b) = true := id rfl
@[simp] theorem good_int (i : Int) : good (.int i) = true := id rfl
@[simp] theorem good_str (x : Str) : good (.str x) = true := id rfl
@[simp] theorem good_list (ds : List D) : good (.list ds) = (decide (ds.length ≤ 1000) && goodL ds) := id rfl
@[simp] theorem good_tuple (ds : List D) : good (.tuple ds) = (decide (ds.length ≤ 1000) && goodL ds) := id rfl
@[simp] theorem good_dict (kvs : List (D × D)) : good (.dict kvs) = false := id rfl
@[simp] theorem goodL_nil : goodL [] = true := id rfl
@[simp] theorem goodL_cons (d : D) (ds : List D) : goodL (d :: ds) = (good d && goodL ds) := id rfl
theorem goodL_mem : ∀ {ds : List D}, goodL ds = true → ∀ d ∈ ds, good d = true
  | d :: ds, h, x, m => by
    simp at h
    rcases List.mem_cons.mp m with e | m
    · rw [e]; exact h.1
    · exact goodL_mem h.2 x m
theorem goodL_of : ∀ {ds : List D}, (∀ d ∈ ds, good d = true) → goodL ds = true
  | [], _ => by simp
  | d :: ds, h => by simp [h d (List.mem_cons_self ..), goodL_of fun x m => h x (List.mem_cons_of_mem _ m)]
mutual
theorem good_flat : ∀ d : D, good d = true → flat d = true
  | .none, _ => by simp
  | .bool _, _ => by simp
  | .int _, _ => by simp
  | .str _, _ => by simp
  | .list ds, h => by simp at h; simp; exact goodL_flat ds h.2
  | .tuple ds, h => by simp at h; simp; exact goodL_flat ds h.2
  | .dict _, h => by simp at h
theorem goodL_flat : ∀ ds : List D, goodL ds = true → flatL ds = true
  | [], _ => by simp
  | d :: ds, h => by simp at h; simp; exact ⟨good_flat d h.1, goodL_flat ds h.2⟩
end
theorem depL_mem : ∀ {ds : List D} {n : Nat}, depL ds ≤ n → ∀ d ∈ ds, dep d ≤ n
  | d :: ds, n, h, x, m => by
    have h : max (dep d) (depL ds) ≤ n := h
    rcases List.mem_cons.mp m with e | m
    · rw [e]; omega
    · exact depL_mem (by omega) x m
theorem len_size {n : Nat} (h : n ≤ 1000) : n ≤ sizeLine := Nat.le_trans h (by rw [sizeLine_eq]; decide)
/-- the loop's name behind it -/
def lastSet (i : Nat) (env : Envd) (ds : List D) : Envd := match ds.getLast? with
  | some d => env.set i (some d)
  | none => env
theorem lastSet_wipe (i : Nat) (env : Envd) (ds : List D) : (lastSet i env ds).set i none = env.set i none := by
  unfold lastSet
  cases ds.getLast? with
  | none => rfl
  | some d => rw [List.set_set]
theorem lastSet_ne {i j : Nat} (env : Envd) (ds : List D) (h : i ≠ j) : (lastSet i env ds)[j]? = env[j]? := by
  unfold lastSet
  cases ds.getLast? with
  | none => rfl
  | some d => rw [List.getElem?_set_ne h]
/-- a loop that only looks: on while p holds, else out with v -/
theorem forL_check {i : Nat} {b : Blk} {all : List D} {S : Sto} {v : D} (p : D → Bool) : ∀ (ds : List D) (env : Envd), (∀ d ∈ ds, ∀ r : Option D, b ((env.set i r).set i (some d)) S = if p d = true then .nx (env.set i (some d)) S else .rt v S) →
    forL (setN i) b none all ds env S = if ds.all p = true then .nx (lastSet i env ds) S else .rt v S
  | [], env, _ => by rw [forL_nil]; rfl
  | d :: ds, env, h => by
    rw [forL_cons, setN_eq, tgF_some, Fl.seq_nx]
    have h1 := h d (List.mem_cons_self ..) none
    rw [List.set_set] at h1
    rw [h1]
    cases ep : p d with
    | false => rw [if_neg (by decide), turn_rt, List.all_cons, ep, Bool.false_and, if_neg (by decide)]
    | true =>
      rw [if_pos rfl, turn_nx, List.all_cons, ep, Bool.true_and]
      have ih := forL_check (i := i) (b := b) (S := S) (v := v) (all := all) p ds (env.set i (some d)) fun x m r => by
        have := h x (List.mem_cons_of_mem _ m) r
        simp only [List.set_set] at this ⊢
        exact this
      rw [ih]
      unfold lastSet
      cases hl : ds.getLast? with
      | none =>
        have : ds = [] := List.getLast?_eq_none_iff.mp hl
        subst this
        rfl
      | some z =>
        have : (d :: ds).getLast? = some z := by rw [List.getLast?_cons, hl]; rfl
        rw [this]
        simp only [List.set_set]

/-! ### a cell made in the frame -/
@[simp] theorem lstOf_last (S : Sto) (ds : List D) : lstOf (S ++ [.lst ds]) (rf S.length) = some (S.length, ds) := lstOf_rf (by simp)
@[simp] theorem set_last {α : Type} (S : List α) (c c' : α) : (S ++ [c]).set S.length c' = S ++ [c'] := by simp
theorem appD_ok {ds : List D} {e : D} (h : ds.length ≤ 1000) : appD ds [e] = some (.none, ds ++ [e]) := by
  unfold appD
  have : ds.length < sizeLine := by rw [sizeLine_eq]; omega
  simp [this]
theorem fin_last {S : Sto} {ds : List D} (f : flatL ds = true) : fin S (S ++ [.lst ds]) (rf S.length) = .ok (.list ds) S := fin_list (Nat.le_refl _) (by simp) f
/-- a loop by an invariant -/
theorem forL_inv {t : Tg} {b : Blk} {all : List D} (I : Nat → Envd → Sto → Prop) : ∀ (ds : List D) (i : Nat) (env : Envd) (S : Sto), I i env S →
    (∀ (j : Nat) (d : D) (env : Envd) (S : Sto), ds[j]? = some d → I (i + j) env S → ∃ env1 env2 S2, t d env = some env1 ∧ (b env1 S = .nx env2 S2 ∨ b env1 S = .ct env2 S2) ∧ I (i + j + 1) env2 S2) →
    ∃ env' S', forL t b none all ds env S = .nx env' S' ∧ I (i + ds.length) env' S'
  | [], i, env, S, h, _ => ⟨env, S, forL_nil .., h⟩
  | d :: ds, i, env, S, h, hs => by
    obtain ⟨env1, env2, S2, e1, e2, h2⟩ := hs 0 d env S rfl h
    have ih := forL_inv (t := t) (b := b) (all := all) I ds (i + 1) env2 S2 h2 fun j x env S e hj => by
      have := hs (j + 1) x env S (by simpa using e) (by rw [show i + (j + 1) = i + 1 + j by omega]; exact hj)
      rw [show i + (j + 1) = i + 1 + j by omega] at this
      exact this
    obtain ⟨env', S', e3, h3⟩ := ih
    refine ⟨env', S', ?_, by rw [List.length_cons, show i + (ds.length + 1) = i + 1 + ds.length by omega]; exact h3⟩
    rw [forL_cons, e1, tgF_some, Fl.seq_nx]
    rcases e2 with e2 | e2
    · rw [e2, turn_nx, e3]
    · rw [e2, turn_ct, e3]
theorem eqv_bool (a b : Bool) : PyData.eqv (.bool a) (.bool b) = decide (a = b) := by cases a <;> cases b <;> rfl
@[simp] theorem eqB_bool (S : Sto) (a b : Bool) : eqB S (.bool a) (.bool b) = some (decide (a = b)) := by
  show (if (okD (.bool a) && okD (.bool b)) = true then some (PyData.eqv (.bool a) (.bool b)) else none) = _
  rw [eqv_bool]
  exact if_pos (by cases a <;> cases b <;> rfl)
@[simp] theorem neB_bool (S : Sto) (a b : Bool) : neB S (.bool a) (.bool b) = some (!decide (a = b)) := by unfold neB; rw [eqB_bool]; rfl
@[simp] theorem isB_none (S : Sto) (x : D) : isB S x .none = some (isNon x) := rfl
@[simp] theorem isB_bool (S : Sto) (a b : Bool) : isB S (.bool a) (.bool b) = some (decide (a = b)) := rfl
@[simp] theorem isnB_bool (S : Sto) (a b : Bool) : isnB S (.bool a) (.bool b) = some (!decide (a = b)) := rfl
theorem powD_ok {S : Sto} {i j : Int} (h0 : 0 ≤ j) (h1 : j ≤ 1000000) (h2 : i.natAbs < 2 ^ 64) : powD S (.int i) (.int j) = some (.int (i ^ j.toNat)) := if_pos ⟨h0, h1, h2⟩
theorem fits_of {i j : Int} {a b : Nat} (hi : i.natAbs < 2 ^ a) (hj : j.natAbs < 2 ^ b) (h : a + b < 100000000) : MulFits i j := by
  have lo : ∀ {x k : Nat}, x < 2 ^ k → x.log2 ≤ k := fun {x k} hx => by
    by_cases z : x = 0
    · subst z; simp
    · exact Nat.le_of_lt ((Nat.log2_lt z).mpr hx)
  have := lo hi
  have := lo hj
  unfold MulFits
  omega

/-! ### step by step -/
theorem endB_seq {a b : Blk} {env env1 : Envd} {S0 S S1 : Sto} (h : a env S = .nx env1 S1) : endB S0 (seqB a b env S) = endB S0 (b env1 S1) := by
  rw [seqB_eq, h, Fl.seq_nx]
theorem seq_nx {a b : Blk} {env env1 : Envd} {S S1 : Sto} (h : a env S = .nx env1 S1) : seqB a b env S = b env1 S1 := by
  rw [seqB_eq, h, Fl.seq_nx]
theorem forB_nx {it : Ix} {t : Tg} {b : Blk} {env env2 : Envd} {S S1 S2 : Sto} {ds : List D} (hi : it env S = .ok (ds, none) S1) (h : forL t b none ds ds env S1 = .nx env2 S2) : forB it t b env S = .nx env2 S2 := by
  rw [forB_eq, hi, R.to_ok]
  exact h
theorem forB_fl {it : Ix} {t : Tg} {b : Blk} {env : Envd} {S S1 : Sto} {ds : List D} {r : Fl} (hi : it env S = .ok (ds, none) S1) (h : forL t b none ds ds env S1 = r) : forB it t b env S = r := by
  rw [forB_eq, hi, R.to_ok]
  exact h
theorem rng_nat {g : Ex} {env : Envd} {S : Sto} {m : Nat} (hm : m ≤ 1000000) (h : g env S = .ok (.int (m : Int)) S) : rng1 g env S = .ok ((List.range m).map fun (i : Nat) => PyData.int (i : Int), none) S := by
  rw [rng1_eq, h, R.bind_ok, rngR_int (by omega) (by omega), rangeL_nat]
end Cor

/-! Core18: enumerate. -/
namespace Cor
open PySem PySem.Spec PyProof.Rows L2
open Sem (wp)
set_option maxHeartbeats 1000000 in
theorem meets_enum1 {v : Value} {o : Obj} {H : Heap → Prop} (B : Begins v o H) :
    Meets (Builtin.«enumerate.__new__» ⟨[.type "enumerate", v], []⟩) (fun _ R s => H s.heap ∧
      R (.ok (.ret (.ref (s.heap.push o).objs.size))) { s with heap := (s.heap.push o).push { cls := .type "enumerate", data := .fields #[.none, .bool false, .ref s.heap.objs.size, rawInt 0, .none, .none] } }) :=
  .of_wp fun prog w A R s h => by
    obtain ⟨hp, g, d, tk, os⟩ := s; obtain ⟨h1, h⟩ := h
    have hsub := sub_enumerate
    have q1 : ∀ {A' : Around} {E : Value → Shared → Prop} {Q : Value → Shared → Prop}, Q (.ref hp.objs.size) ⟨hp.push o, g, d, tk, os⟩ → wpAny (model prog w) A' (pyIter v) Q E ⟨hp, g, d, tk, os⟩ :=
      fun q => B.iter prog w _ _ ⟨hp, g, d, tk, os⟩ _ h1 q
    wp_walk using q1
    refine wpAny_stack_any fun st => wpAny_pure ?_
    split
    · rename_i c _ _ _ _ _
      cases (c == Value.type "enumerate")
      · wp_walk using q1
        exact ⟨_, rfl, h⟩
      · wp_walk using q1
        exact ⟨_, rfl, h⟩
    · wp_walk using q1
      exact ⟨_, rfl, h⟩
theorem enum1 {prog : Program} {w : World} {A : Around} {E : Value → Shared → Prop} {s : Shared} {v : Value} {o : Obj} {H : Heap → Prop} {Q : Value → Shared → Prop} (B : Begins v o H) (h1 : H s.heap)
    (h : ∀ h', IsEnum h' (s.heap.objs.size + 1) s.heap.objs.size 0 .none → h'.get? s.heap.objs.size = some o → h'.objs.size = s.heap.objs.size + 2 →
      (∀ b o, s.heap.get? b = some o → h'.get? b = some o) → Q (.ref (s.heap.objs.size + 1)) { s with heap := h' }) :
    wpAny (model prog w) A (call (.type "enumerate") [v]) Q E s := by
  refine callType_new F.called_enumerate (by decide) (F.typeCall_enumerate_1 _) (F.newCall_enumerate_1 _) (fun obj => F.args_object_init_2 obj _) F.entry_enumerate_new
    (meets_enum1 B) ⟨h1, ?_⟩
  have hz : (s.heap.push o).objs.size = s.heap.objs.size + 1 := Heap.size_push ..
  show _ ∧ _
  rw [hz]
  have he : IsEnum ((s.heap.push o).push { cls := .type "enumerate", data := .fields #[.none, .bool false, .ref s.heap.objs.size, rawInt 0, .none, .none] }) (s.heap.objs.size + 1) s.heap.objs.size 0 .none := by
    have := Heap.get?_push_size (s.heap.push o) (o := { cls := .type "enumerate", data := .fields #[.none, .bool false, .ref s.heap.objs.size, rawInt 0, .none, .none] }) rfl
    rw [hz] at this; exact this
  refine ⟨⟨_, he, rfl⟩, h _ he (Heap.get?_push_of_some _ (Heap.get?_push_size _ B.free)) (by rw [Heap.size_push, hz]) fun b o x => Heap.get?_push_of_some _ (Heap.get?_push_of_some _ x)⟩
theorem enum_endT {prog : Program} {w : World} {A : Around} {E : Value → Shared → Prop} {s : Shared} {e it a : Addr} {j : Nat} {i : Int} {old : Value} {items : Array Value} {Q : Option Value → Shared → Prop} (hh : A.handled = none)
    (he : IsEnum s.heap e it i old) (hit : s.heap.IsTupleIter it a j) (hp : s.heap.IsTuple a items) (hx : items[j]? = none)
    (hQ : ∀ h', Heap.ExtBut it s.heap h' → Q none { s with heap := h' }) : wpAny (model prog w) A (pyNext (.ref e)) Q E s := by
  have hT : s.TypeIs (.ref e) "enumerate" := ⟨_, he, rfl⟩
  unfold pyNext
  refine wpAny_bind (wpAny_attempt (wpAny_callSpecial?_slot (name := Str.ofString "__next__") hT F.slot_enumerate_next
    (wpAny_call_entry F.slot_enumerate_next hT F.entry_enumerate_next ?_ (F.args_enumerate_next_1 _))))
  show wpAny _ _ (field (.ref e) 2 >>= _) _ _ _
  refine wpAny_bind (wpAny_field he rfl (x := .ref it) rfl ?_)
  refine wpAny_bind (wpAny_nextOf_tuple_end hh hit hp hx fun h' x he' hx' => ?_)
  obtain ⟨o, ho, hc⟩ := hx'
  refine wpAny_bind (wpAny_isInstance (T := "StopIteration") (b := true) ⟨o, ho, hc⟩ isSubtype_stop ?_)
  exact wpAny_pure (hQ _ he')
/-- the tuple at a, each item in a new pair -/
def IteT (K : PySem.W.Frag) (a : Addr) : It :=
  ⟨fun i H => ∃ (xs : List V) (x : V), SqT K H a xs ∧ xs[i]? = some x, fun i H v H' => ∃ T x, v = .ref T ∧ H T = none ∧ H' = upd H T (.tup [.int (i : Nat), x]) ∧ ∀ xs, SqT K H a xs → xs[i]? = some x, fun i H => ∃ xs : List V, SqT K H a xs ∧ xs.length ≤ i⟩
theorem turn_enumT {P : Program} {w : World} {K : PySem.W.Frag} {elts : List Expr} {kk : Nat} {tpos : Pos} (a e it : Addr) :
    Turn P w K (.Tuple elts kk tpos) (IteT K a) [e, it] e (fun i h => (∃ old, IsEnum h e it ((i : Nat) : Int) old) ∧ h.IsTupleIter it a i ∧ e ≠ it ∧ a ≠ it ∧ e ≠ a) where
  mem := by simp
  obj := fun i h st b hb => by
    obtain ⟨⟨old, he⟩, ⟨o, ho, hc, hd⟩, _⟩ := st
    have e' : b = e ∨ b = it := by simpa using hb
    rcases e' with z | z
    · rw [z]; exact ⟨_, he, fun v q => nomatch q⟩
    · rw [z]; exact ⟨o, ho, fun v q => by rw [hd] at q; cases q⟩
  keep := fun i h h' st k => let ⟨⟨old, he⟩, hi, hne⟩ := st; ⟨⟨old, k e (by simp) _ he⟩, hi.at fun o q => k it (by simp) o q, hne⟩
  item := by
    intro X hP hw hK hc i pins s σ H E I hf st hg
    subst hP hw hK
    obtain ⟨⟨old, he⟩, hit, hne, hai, hea⟩ := st
    obtain ⟨xs, x, hq, hx⟩ := hg
    obtain ⟨its, rv, p, hz⟩ := I.tuple hq
    obtain ⟨u, hu, ru⟩ := rv.get hx
    have hel : e < s.heap.objs.size := Heap.lt_size he
    have hil : it < s.heap.objs.size := by obtain ⟨_, q, _⟩ := hit; exact Heap.lt_size q
    have hlt : i < its.toArray.size := by
      have := (List.getElem?_eq_some_iff.mp hu).1
      simpa using this
    have D := Draws.tuple (prog := X.prog) (w := X.w) (A := X.A.in1) (I.ok.hd hc) it a hai its.toArray
    have W := GoesN.enumFrom (elts := elts) (x1 := kk) (pos := tpos) 0 D e hne (by simp; exact ⟨hne, hea⟩) (by simp)
    refine wpAny_mono (W.goes i s (fun v s2 => ∃ x H', Inv X pins σ H' s2 ∧ RelV x v ∧ (IteT X.K a).yld i H x H' ∧ ((∃ old, IsEnum s2.heap e it (((i + 1) : Nat) : Int) old) ∧ s2.heap.IsTupleIter it a (i + 1) ∧ e ≠ it ∧ a ≠ it ∧ e ≠ a) ∧ ∀ b ∈ [e, it], H' b = none) E hlt ⟨⟨old, by rw [Int.zero_add]; exact he⟩, hit, p⟩ fun v h' tk ⟨T, t, y, ev, hT, hy, hTT⟩ st' hk htk => ?_) (fun _ _ q => q) fun _ _ q => q
    subst ev
    have hy : its.toArray[i]? = some y := hy
    have ey : y = u := by
      have : its[i]? = some y := by simpa using hy
      rw [hu] at this
      exact (Option.some.inj this).symm
    subst ey
    obtain ⟨⟨old', he'⟩, hit', hp'⟩ := st'
    rw [Int.zero_add] at he' hTT
    have hTn : H T = none := I.hok.fresh hT
    have new : ObjOk X.prog X.w (upd H T (.tup [.int (i : Nat), x])) h' T (.tup [.int (i : Nat), x]) :=
      ⟨by show 2 ≤ sizeLine; decide, [.int i t, y], .cons ⟨_, rfl⟩ (.cons ru .nil), hTT⟩
    have I1 : Inv X pins σ (upd H T (.tup [.int (i : Nat), x])) { s with heap := h', toks := tk } :=
      I.turnedNew (ch := [e, it]) (fun b ob hb q => hk b ob (by simpa using hb) q) hf hT new
    refine ⟨.ref T, _, I1, rfl, ⟨_, x, rfl, hTn, rfl, fun ys hy2 => by rw [I.tuple_inj hy2 hq]; exact hx⟩, ⟨⟨old', he'⟩, hit', hne, hai, hea⟩, fun b hb => ?_⟩
    have hb' : b < s.heap.objs.size := by
      have e' : b = e ∨ b = it := by simpa using hb
      rcases e' with z | z
      · rw [z]; exact hel
      · rw [z]; exact hil
    rw [upd_ne (Nat.ne_of_lt (Nat.lt_of_lt_of_le hb' hT))]
    exact (hf b hb).1
  done := by
    intro X hP hw hK hc i pins s σ H E I hf st hg
    subst hP hw hK
    obtain ⟨⟨old, he⟩, hit, hne, hai, hea⟩ := st
    obtain ⟨xs, hq, hx⟩ := hg
    obtain ⟨its, rv, p, hz⟩ := I.tuple hq
    obtain ⟨f0, f1, f2, f3, f4, f5⟩ := hf it (by simp)
    have hl := rv.length
    exact enum_endT (I.ok.hd hc) he hit p (by simp; omega) fun h' eb => ⟨rfl, I.turned (t' := s.toks) (fun b o hb q => eb b o hb q) f0 f1 f3 f4 f5⟩
  self := fun A i s Q E st h => let ⟨⟨_, he⟩, _⟩ := st; wpAny_pyIter_enum he h
/-- enumerate of a list or a tuple, whichever it is -/
theorem pi_enumA {X : Cx} {e : Expr} {ta : TA} {p pos tpos : Pos} {elts : List Expr} {kk : Nat} (hg : Gl X "enumerate") (hm : X.mg "enumerate" = none) (ha : PA X [e] ta) (hs : starEach [e] X.env = [(false, eval e X.env)] := by rfl) :
    PI X (.Tuple elts kk tpos) (.Call (.Name "enumerate" p) [e] [] pos) (fun σ H R => ta σ H fun vs H1 => (∃ a xs, vs = [.ref a] ∧ SqL X.K H1 a xs ∧ R (Ite X.K a) H1) ∨ ∃ a xs, vs = [.ref a] ∧ SqT X.K H1 a xs ∧ R (IteT X.K a) H1) := by
  refine ⟨fun pins s σ H R I h => ?_⟩
  refine Call_ (ld_blt I hg hm boot_enumerate (PyProof.Rows.callWith_type1 (thn (ha.run pos pins s σ H _ I h) fun us s1 ⟨vs, H1, I1, r1, q1⟩ => ?_) hs rfl))
  rcases q1 with ⟨a, xs, ex, hq, q⟩ | ⟨a, xs, ex, hq, q⟩
  · subst ex
    cases r1 with
    | cons r rr =>
      cases rr
      cases r
      obtain ⟨its, rv, p', hz⟩ := I1.list hq
      refine call_enumerate_list p'.isList fun h' he hit hsz hk => wpAny_pyIter_enum he ?_
      have I2 : Inv X pins σ H1 { s1 with heap := h' } := I1.kept (t' := s1.toks) hk
      refine ⟨s1.heap.objs.size + 1, [s1.heap.objs.size + 1, s1.heap.objs.size], _, _, H1, rfl, I2, turn_enum a (s1.heap.objs.size + 1) s1.heap.objs.size, ⟨⟨.none, he⟩, hit, Nat.succ_ne_self _⟩, fun b hb => ?_, q⟩
      have e' : b = s1.heap.objs.size + 1 ∨ b = s1.heap.objs.size := by simpa using hb
      have hle : s1.heap.objs.size ≤ b := by
        rcases e' with z | z
        · rw [z]; exact Nat.le_add_right _ _
        · rw [z]; exact Nat.le_refl _
      exact I1.fpOk hle (I1.hok.fresh hle)
  · subst ex
    cases r1 with
    | cons r rr =>
      cases rr
      cases r
      obtain ⟨its, rv, p', hz⟩ := I1.tuple hq
      have hp : s1.heap.IsTuple a its.toArray := p'
      have hal : a < s1.heap.objs.size := by obtain ⟨o, ho, _⟩ := hp; exact Heap.lt_size ho
      refine enum1 (begins_tuple a its.toArray) hp fun h' he hit hsz hk => wpAny_pyIter_enum he ?_
      have I2 : Inv X pins σ H1 { s1 with heap := h' } := I1.kept (t' := s1.toks) hk
      refine ⟨s1.heap.objs.size + 1, [s1.heap.objs.size + 1, s1.heap.objs.size], _, _, H1, rfl, I2, turn_enumT a (s1.heap.objs.size + 1) s1.heap.objs.size, ⟨⟨.none, he⟩, ⟨_, hit, rfl, rfl⟩, Nat.succ_ne_self _, Nat.ne_of_lt hal, Nat.ne_of_gt (Nat.lt_succ_of_lt hal)⟩, fun b hb => ?_, q⟩
      have e' : b = s1.heap.objs.size + 1 ∨ b = s1.heap.objs.size := by simpa using hb
      have hle : s1.heap.objs.size ≤ b := by
        rcases e' with z | z
        · rw [z]; exact Nat.le_add_right _ _
        · rw [z]; exact Nat.le_refl _
      exact I1.fpOk hle (I1.hok.fresh hle)
def enuL (i : Nat) : List D → List D
  | [] => []
  | d :: ds => .tuple [.int (i : Int), d] :: enuL (i + 1) ds
theorem enuL_get : ∀ (ds : List D) (i j : Nat), (enuL i ds)[j]? = (ds[j]?).map fun d => PyData.tuple [.int ((i + j : Nat) : Int), d]
  | [], i, j => by simp [enuL]
  | d :: ds, i, 0 => rfl
  | d :: ds, i, j + 1 => by
    show (enuL (i + 1) ds)[j]? = (ds[j]?).map _
    rw [enuL_get ds (i + 1) j, show i + 1 + j = i + (j + 1) by omega]
theorem enuL_len : ∀ (ds : List D) (i : Nat), (enuL i ds).length = ds.length
  | [], _ => rfl
  | d :: ds, i => by show (enuL (i + 1) ds).length + 1 = ds.length + 1; rw [enuL_len ds (i + 1)]
/-- a pair made on the way -/
theorem enu_pair {K : PySem.W.Frag} {H : Hp} {ρ : Rho} {S : Sto} {xs : List V} {ds : List D} {i T : Nat} {x : V} (so : StoOk K H ρ S) (r : RpL K H ρ xs ds) (hi : i < ds.length) (hx : xs[i]? = some x) (hT : H T = none) :
    ∃ d, (enuL 0 ds)[i]? = some d ∧ Stp ρ H ρ (upd H T (.tup [.int (i : Nat), x])) ∧ StoOk K (upd H T (.tup [.int (i : Nat), x])) ρ S ∧ Rp K (upd H T (.tup [.int (i : Nat), x])) ρ (.ref T) d := by
  obtain ⟨d, ed, rd⟩ := r.get' hx
  refine ⟨.tuple [.int (i : Int), d], by rw [enuL_get, ed, Nat.zero_add]; rfl, stp_new hT, so.new_obj hT, .tup ⟨upd_same, so.new hT⟩ (.cons (.int _) (.cons (rd.step (stp_new hT)) .nil))⟩
theorem src_enumL {K : PySem.W.Frag} {ρ1 : Rho} {H1 : Hp} {a : Addr} {xs : List V} {ds : List D} (h : LstAt H1 ρ1 a xs) (r : RpL K H1 ρ1 xs ds) : Src K ρ1 H1 none (enuL 0 ds) (Ite K a) := by
  have at_ : ∀ {ρ : Rho} {H : Hp}, Stp ρ1 H1 ρ H → SqL K H a xs := fun st => .inl (st.rd h.1 h.2 (fun _ q => nomatch q)).1
  exact {
    goes := fun i ρ H S hi st so _ => by
      rw [enuL_len] at hi
      exact ⟨xs, xs[i]'(by rw [r.length]; exact hi), at_ st, List.getElem?_eq_getElem _⟩
    stops := fun ρ H S st so _ => ⟨xs, at_ st, by rw [enuL_len, r.length]; exact Nat.le_refl _⟩
    yields := fun i ρ H S x H' hi st so _ y => by
      rw [enuL_len] at hi
      obtain ⟨T, x, rfl, hT, rfl, hx⟩ := y
      exact enu_pair so (r.step st) hi (hx xs (at_ st)) hT }
theorem src_enumT {K : PySem.W.Frag} {ρ1 : Rho} {H1 : Hp} {a : Addr} {xs : List V} {ds : List D} (h : TupAt H1 ρ1 a xs) (r : RpL K H1 ρ1 xs ds) : Src K ρ1 H1 none (enuL 0 ds) (IteT K a) := by
  have at_ : ∀ {ρ : Rho} {H : Hp}, Stp ρ1 H1 ρ H → SqT K H a xs := fun st => SqT.of (st.stay h.1 h.2 (fun _ q => nomatch q))
  exact {
    goes := fun i ρ H S hi st so _ => by
      rw [enuL_len] at hi
      exact ⟨xs, xs[i]'(by rw [r.length]; exact hi), at_ st, List.getElem?_eq_getElem _⟩
    stops := fun ρ H S st so _ => ⟨xs, at_ st, by rw [enuL_len, r.length]; exact Nat.le_refl _⟩
    yields := fun i ρ H S x H' hi st so _ y => by
      rw [enuL_len] at hi
      obtain ⟨T, x, rfl, hT, rfl, hx⟩ := y
      exact enu_pair so (r.step st) hi (hx xs (at_ st)) hT }
def enuD : D → Option Items
  | .list ds => some (enuL 0 ds, none)
  | .tuple ds => some (enuL 0 ds, none)
  | _ => none
def enuI (g : Ex) : Ix := fun env S => (g env S).bind fun d S1 => lift (enuD d) S1
theorem ji_enu {X : Cx} {ts : List Addr} {W : WX} {elts : List Expr} {kk : Nat} {tpos p pos : Pos} {e : Expr} {g : Ex} (hg : Gl X "enumerate") (hm : X.mg "enumerate" = none) (he : JE X ts W e g) (h1 : starEach [e] X.env = (false, eval e X.env) :: starEach [] X.env := by rfl) :
    JI X ts W (.Tuple elts kk tpos) (.Call (.Name "enumerate" p) [e] [] pos) (enuI g) :=
  ji_of (pi_enumA hg hm (pa_cons he pa_nil h1) h1) fun σ H R ⟨ρ, env, S, m, q⟩ => ⟨ρ, env, S, m, tI_next (f := fun d S1 => lift (enuD d) S1) q fun x ρ1 H1 d S1 er1 st so rx p1 => by
    cases d <;> first | exact p1.elim | skip
    · cases rx with
      | lst h r => exact .inl ⟨_, _, rfl, h.sq, p1 ρ1 H1 _ .refl so trivial (src_enumL h r)⟩
    · cases rx with
      | tup h r => exact .inr ⟨_, _, rfl, h.sq, p1 ρ1 H1 _ .refl so trivial (src_enumT h r)⟩⟩
end Cor

/-! Core19: min, max of a list or a tuple. -/
namespace Cor
open PySem PySem.Spec PyProof.Rows L2
open Sem (wp)
section
variable {prog : Program} {w : World} {A : Around} {E : Value → Shared → Prop} {s : Shared} {l : Addr} {vs : Array Value} {x : D} {xs : List D} {as : List Addr} {Q : Value → Shared → Prop}
theorem minL_at (hh : A.handled = none) (hl : s.heap.IsList l vs) (hr : ReadsAll s.heap vs.toList (x :: xs) as) (ha : PySem.W.AlikeAll (x :: xs)) (hu : A.units + 1 + PyData.depthAll (x :: xs) < cLine)
    (h : ∀ (i : Nat) v h' tk, vs[i]? = some v → (x :: xs).getD i .none = PySem.W.minD x xs → (∀ b o, s.heap.get? b = some o → h'.get? b = some o) → Q v { s with heap := h', toks := tk }) :
    wpAny (model prog w) A (call (.builtin "min") [.ref l]) Q E s := by
  have hn : vs.size = xs.length + 1 := PySem.W.readsAll_len hr
  refine call_min_walkH (PySem.W.iter_listW (A := A.in1) hh hl fun s₂ e W st hfp hw hk => ?_)
  refine ⟨_, _, _, _, _, _, _, s.heap, _, rfl, W, st, hfp, by omega, hw, hk, PySem.W.cmpIn_lt (A := A.in1) hr ha (by show A.units + 1 + _ < _; exact hu), fun v s' hP m => ?_⟩
  obtain ⟨h', tk, rfl, hk'⟩ := PySem.W.moved_old e rfl m
  have e1 : vs.size - 1 = xs.length := by omega
  have e2 := (PySem.W.argBest_fold PySem.W.dataLt PyData.none x xs xs.length (Nat.le_refl _)).2
  rw [List.take_length] at e2
  rw [e1] at hP
  exact h _ v h' tk hP e2 hk'
theorem minT_at (hh : A.handled = none) (hl : s.heap.IsTuple l vs) (hr : ReadsAll s.heap vs.toList (x :: xs) as) (ha : PySem.W.AlikeAll (x :: xs)) (hu : A.units + 1 + PyData.depthAll (x :: xs) < cLine)
    (h : ∀ (i : Nat) v h' tk, vs[i]? = some v → (x :: xs).getD i .none = PySem.W.minD x xs → (∀ b o, s.heap.get? b = some o → h'.get? b = some o) → Q v { s with heap := h', toks := tk }) :
    wpAny (model prog w) A (call (.builtin "min") [.ref l]) Q E s := by
  have hn : vs.size = xs.length + 1 := PySem.W.readsAll_len hr
  refine call_min_walkH (PySem.W.iter_tupleW (A := A.in1) hh hl fun s₂ e W st hfp hw hk => ?_)
  refine ⟨_, _, _, _, _, _, _, s.heap, _, rfl, W, st, hfp, by omega, hw, hk, PySem.W.cmpIn_lt (A := A.in1) hr ha (by show A.units + 1 + _ < _; exact hu), fun v s' hP m => ?_⟩
  obtain ⟨h', tk, rfl, hk'⟩ := PySem.W.moved_old e rfl m
  have e1 : vs.size - 1 = xs.length := by omega
  have e2 := (PySem.W.argBest_fold PySem.W.dataLt PyData.none x xs xs.length (Nat.le_refl _)).2
  rw [List.take_length] at e2
  rw [e1] at hP
  exact h _ v h' tk hP e2 hk'
theorem maxL_at (hh : A.handled = none) (hl : s.heap.IsList l vs) (hr : ReadsAll s.heap vs.toList (x :: xs) as) (ha : PySem.W.AlikeAll (x :: xs)) (hu : A.units + 1 + PyData.depthAll (x :: xs) < cLine)
    (h : ∀ (i : Nat) v h' tk, vs[i]? = some v → (x :: xs).getD i .none = PySem.W.maxD x xs → (∀ b o, s.heap.get? b = some o → h'.get? b = some o) → Q v { s with heap := h', toks := tk }) :
    wpAny (model prog w) A (call (.builtin "max") [.ref l]) Q E s := by
  have hn : vs.size = xs.length + 1 := PySem.W.readsAll_len hr
  refine call_max_walkH (PySem.W.iter_listW (A := A.in1) hh hl fun s₂ e W st hfp hw hk => ?_)
  refine ⟨_, _, _, _, _, _, _, s.heap, _, rfl, W, st, hfp, by omega, hw, hk, PySem.W.cmpIn_gt (A := A.in1) hr ha (by show A.units + 1 + _ < _; exact hu), fun v s' hP m => ?_⟩
  obtain ⟨h', tk, rfl, hk'⟩ := PySem.W.moved_old e rfl m
  have e1 : vs.size - 1 = xs.length := by omega
  have e2 := (PySem.W.argBest_fold (fun a b => PySem.W.dataLt b a) PyData.none x xs xs.length (Nat.le_refl _)).2
  rw [List.take_length] at e2
  rw [e1] at hP
  exact h _ v h' tk hP e2 hk'
theorem maxT_at (hh : A.handled = none) (hl : s.heap.IsTuple l vs) (hr : ReadsAll s.heap vs.toList (x :: xs) as) (ha : PySem.W.AlikeAll (x :: xs)) (hu : A.units + 1 + PyData.depthAll (x :: xs) < cLine)
    (h : ∀ (i : Nat) v h' tk, vs[i]? = some v → (x :: xs).getD i .none = PySem.W.maxD x xs → (∀ b o, s.heap.get? b = some o → h'.get? b = some o) → Q v { s with heap := h', toks := tk }) :
    wpAny (model prog w) A (call (.builtin "max") [.ref l]) Q E s := by
  have hn : vs.size = xs.length + 1 := PySem.W.readsAll_len hr
  refine call_max_walkH (PySem.W.iter_tupleW (A := A.in1) hh hl fun s₂ e W st hfp hw hk => ?_)
  refine ⟨_, _, _, _, _, _, _, s.heap, _, rfl, W, st, hfp, by omega, hw, hk, PySem.W.cmpIn_gt (A := A.in1) hr ha (by show A.units + 1 + _ < _; exact hu), fun v s' hP m => ?_⟩
  obtain ⟨h', tk, rfl, hk'⟩ := PySem.W.moved_old e rfl m
  have e1 : vs.size - 1 = xs.length := by omega
  have e2 := (PySem.W.argBest_fold (fun a b => PySem.W.dataLt b a) PyData.none x xs xs.length (Nat.le_refl _)).2
  rw [List.take_length] at e2
  rw [e1] at hP
  exact h _ v h' tk hP e2 hk'
end

def noneD : D → Bool
  | .none => true
  | _ => false
def mmOk (ds : List D) : Bool := ds.all (fun x => flat x && ds.all (fun y => PySem.W.alike x y) && !noneD x) && decide (PyData.depthAll ds ≤ 64)
theorem mmOk_some {ds : List D} (h : mmOk ds = true) : (∀ d ∈ ds, flat d = true) ∧ PySem.W.AlikeAll ds ∧ PyData.depthAll ds ≤ 64 := by
  unfold mmOk at h
  rw [Bool.and_eq_true, List.all_eq_true, decide_eq_true_eq] at h
  refine ⟨fun d m => ?_, ⟨fun x m y m2 => ?_, fun x m e => ?_⟩, h.2⟩
  · have := h.1 d m
    simp only [Bool.and_eq_true] at this
    exact this.1.1
  · have := h.1 x m
    simp only [Bool.and_eq_true, List.all_eq_true] at this
    exact this.1.2 y m2
  · have := h.1 x m
    rw [e] at this
    simp [noneD] at this
theorem reads_all {X : Cx} {pins : List (Addr × Obj)} {s : Shared} {σ : L2.St} {H : Hp} {ρ : Rho} (I : L2.Inv X pins σ H s) : ∀ {xs : List V} {ds : List D} {us : List Value}, RpL X.K H ρ xs ds → Vals xs us → (∀ d ∈ ds, flat d = true) → ∃ as, ReadsAll s.heap us ds as
  | [], [], _, .nil, .nil, _ => ⟨[], .nil⟩
  | x :: xs, d :: ds, u :: us, .cons h t, .cons r rr, f => by
    obtain ⟨as, ha⟩ := Dp.reads I d x u (h.dp (f d (List.mem_cons_self ..))) r
    obtain ⟨bs, hb⟩ := reads_all I t rr fun d m => f d (List.mem_cons_of_mem _ m)
    exact ⟨as ++ bs, .cons ha hb⟩
/-- min and max of a list or a tuple -/
def mmD (f : D → List D → D) (S : Sto) : List D → Option D
  | [x] => match der S x with
    | some (.list (d :: ds)) => if mmOk (d :: ds) = true then some (f d ds) else none
    | some (.tuple (d :: ds)) => if mmOk (d :: ds) = true then some (f d ds) else none
    | _ => none
  | _ => none
theorem der_tup {K : PySem.W.Frag} {H : Hp} {ρ : Rho} {S : Sto} {v : V} {d : D} {ds : List D} (r : Rp K H ρ v d) (e : der S d = some (.tuple ds)) : ∃ a xs, v = .ref a ∧ SqT K H a xs ∧ RpL K H ρ xs ds := by
  cases d <;> first | (cases e; done) | skip
  · cases e
    cases r with
    | tup h r => exact ⟨_, _, rfl, h.sq, r⟩
  · rename_i kvs
    have e : (match refOf (.dict kvs) with
      | some n => match S[n]? with
        | some (.lst ds) => some (PyData.list ds)
        | _ => none
      | none => none) = some (PyData.tuple ds) := e
    cases en : refOf (.dict kvs) with
    | none => rw [en] at e; cases e
    | some n =>
      rw [en] at e
      replace e : (match S[n]? with
        | some (.lst ds) => some (PyData.list ds)
        | _ => none) = some (PyData.tuple ds) := e
      cases es : S[n]? with
      | none => rw [es] at e; cases e
      | some c => rw [es] at e; cases c <;> cases e
theorem c_min {X : Cx} {k : Nat} (hc : X.calm = true) (hr : Room k X.A) : CallR X (.builtin "min") (rC X (mmD PySem.W.minD)) := by
  intro pins s σ H vs us Q I r h
  obtain ⟨ρ, ds, S, d, so, px, e, q⟩ := h
  match ds, e with
  | [], e => cases e
  | _ :: _ :: _, e => cases e
  | [x], e =>
    replace px := rpl1 px
    obtain ⟨v, rfl, px⟩ := px
    have e : (match der S x with
      | some (.list (d :: ds)) => if mmOk (d :: ds) = true then some (PySem.W.minD d ds) else none
      | some (.tuple (d :: ds)) => if mmOk (d :: ds) = true then some (PySem.W.minD d ds) else none
      | _ => none) = some d := e
    have fin : ∀ {xs : List V} {its : List Value} {d0 : D} {ds : List D} {i : Nat} {v : Value} {h' : Heap} {tk : Tok}, RpL X.K H ρ xs (d0 :: ds) → Vals xs its → its.toArray[i]? = some v → (d0 :: ds).getD i .none = PySem.W.minD d0 ds → PySem.W.minD d0 ds = d → (∀ b o, s.heap.get? b = some o → h'.get? b = some o) →
        ∃ y H', L2.Inv X pins σ H' { s with heap := h', toks := tk } ∧ RelV y v ∧ Q y H' := fun {xs its d0 ds i v h' tk} rr rv hi hg hd hk => by
      have hi : its[i]? = some v := by simpa using hi
      have hl := (List.getElem?_eq_some_iff.mp hi).1
      have l1 := rv.length
      have hx : xs[i]? = some (xs[i]'(by omega)) := List.getElem?_eq_getElem _
      obtain ⟨d1, e1, r1⟩ := rr.get' hx
      obtain ⟨u, e2, r2⟩ := rv.get hx
      rw [hi] at e2
      cases e2
      have e3 : d1 = d := by
        rw [← hd, ← hg, List.getD_eq_getElem?_getD, e1]; rfl
      subst e3
      exact ⟨_, H, I.kept (t' := tk) hk, r2, q _ H .refl so r1⟩
    cases ed : der S x with
    | none => rw [ed] at e; cases e
    | some d' =>
      rw [ed] at e
      cases d' <;> first | (cases e; done) | skip
      · rename_i ds
        cases ds with
        | nil => cases e
        | cons d0 ds =>
          have e : (if mmOk (d0 :: ds) = true then some (PySem.W.minD d0 ds) else none) = some d := e
          obtain ⟨hm, e⟩ := ifsome e
          obtain ⟨m1, m2, m3⟩ := mmOk_some hm
          obtain ⟨a, xs, rfl, h1, rr⟩ := der_seq so px ed
          obtain ⟨its, rv, hl, hz⟩ := I.list h1
          obtain ⟨as, hra⟩ := reads_all I rr rv m1
          rw [Vals.ref1 r]
          exact minL_at (vs := its.toArray) (I.ok.hd hc) hl.isList (by simpa using hra) m2 (by have := room65 hr; omega) fun i v h' tk hi hg hk => fin rr rv hi hg e hk
      · rename_i ds
        cases ds with
        | nil => cases e
        | cons d0 ds =>
          have e : (if mmOk (d0 :: ds) = true then some (PySem.W.minD d0 ds) else none) = some d := e
          obtain ⟨hm, e⟩ := ifsome e
          obtain ⟨m1, m2, m3⟩ := mmOk_some hm
          obtain ⟨a, xs, rfl, h1, rr⟩ := der_tup px ed
          obtain ⟨its, rv, hl, hz⟩ := I.tuple h1
          obtain ⟨as, hra⟩ := reads_all I rr rv m1
          rw [Vals.ref1 r]
          exact minT_at (vs := its.toArray) (I.ok.hd hc) hl (by simpa using hra) m2 (by have := room65 hr; omega) fun i v h' tk hi hg hk => fin rr rv hi hg e hk
theorem c_max {X : Cx} {k : Nat} (hc : X.calm = true) (hr : Room k X.A) : CallR X (.builtin "max") (rC X (mmD PySem.W.maxD)) := by
  intro pins s σ H vs us Q I r h
  obtain ⟨ρ, ds, S, d, so, px, e, q⟩ := h
  match ds, e with
  | [], e => cases e
  | _ :: _ :: _, e => cases e
  | [x], e =>
    replace px := rpl1 px
    obtain ⟨v, rfl, px⟩ := px
    have e : (match der S x with
      | some (.list (d :: ds)) => if mmOk (d :: ds) = true then some (PySem.W.maxD d ds) else none
      | some (.tuple (d :: ds)) => if mmOk (d :: ds) = true then some (PySem.W.maxD d ds) else none
      | _ => none) = some d := e
    have fin : ∀ {xs : List V} {its : List Value} {d0 : D} {ds : List D} {i : Nat} {v : Value} {h' : Heap} {tk : Tok}, RpL X.K H ρ xs (d0 :: ds) → Vals xs its → its.toArray[i]? = some v → (d0 :: ds).getD i .none = PySem.W.maxD d0 ds → PySem.W.maxD d0 ds = d → (∀ b o, s.heap.get? b = some o → h'.get? b = some o) →
        ∃ y H', L2.Inv X pins σ H' { s with heap := h', toks := tk } ∧ RelV y v ∧ Q y H' := fun {xs its d0 ds i v h' tk} rr rv hi hg hd hk => by
      have hi : its[i]? = some v := by simpa using hi
      have hl := (List.getElem?_eq_some_iff.mp hi).1
      have l1 := rv.length
      have hx : xs[i]? = some (xs[i]'(by omega)) := List.getElem?_eq_getElem _
      obtain ⟨d1, e1, r1⟩ := rr.get' hx
      obtain ⟨u, e2, r2⟩ := rv.get hx
      rw [hi] at e2
      cases e2
      have e3 : d1 = d := by
        rw [← hd, ← hg, List.getD_eq_getElem?_getD, e1]; rfl
      subst e3
      exact ⟨_, H, I.kept (t' := tk) hk, r2, q _ H .refl so r1⟩
    cases ed : der S x with
    | none => rw [ed] at e; cases e
    | some d' =>
      rw [ed] at e
      cases d' <;> first | (cases e; done) | skip
      · rename_i ds
        cases ds with
        | nil => cases e
        | cons d0 ds =>
          have e : (if mmOk (d0 :: ds) = true then some (PySem.W.maxD d0 ds) else none) = some d := e
          obtain ⟨hm, e⟩ := ifsome e
          obtain ⟨m1, m2, m3⟩ := mmOk_some hm
          obtain ⟨a, xs, rfl, h1, rr⟩ := der_seq so px ed
          obtain ⟨its, rv, hl, hz⟩ := I.list h1
          obtain ⟨as, hra⟩ := reads_all I rr rv m1
          rw [Vals.ref1 r]
          exact maxL_at (vs := its.toArray) (I.ok.hd hc) hl.isList (by simpa using hra) m2 (by have := room65 hr; omega) fun i v h' tk hi hg hk => fin rr rv hi hg e hk
      · rename_i ds
        cases ds with
        | nil => cases e
        | cons d0 ds =>
          have e : (if mmOk (d0 :: ds) = true then some (PySem.W.maxD d0 ds) else none) = some d := e
          obtain ⟨hm, e⟩ := ifsome e
          obtain ⟨m1, m2, m3⟩ := mmOk_some hm
          obtain ⟨a, xs, rfl, h1, rr⟩ := der_tup px ed
          obtain ⟨its, rv, hl, hz⟩ := I.tuple h1
          obtain ⟨as, hra⟩ := reads_all I rr rv m1
          rw [Vals.ref1 r]
          exact maxT_at (vs := its.toArray) (I.ok.hd hc) hl (by simpa using hra) m2 (by have := room65 hr; omega) fun i v h' tk hi hg hk => fin rr rv hi hg e hk
end Cor

/-! Core20: a list times an int; min, max of two ints. -/
namespace Cor
open PySem PySem.Spec PyProof.Rows L2
def rRepR : R2 := fun x y H Q => ∃ l k xs, x = .ref l ∧ y = .int k ∧ Rd H l (.lst xs) ∧ -(2 ^ 63) ≤ k ∧ k < 2 ^ 63 ∧ xs.length * k.toNat ≤ sizeLine ∧
  ∀ p, H p = none → Q (.ref p) (upd H p (.lst (List.replicate k.toNat xs).flatten))
theorem op_repR {X : Cx} : OpR X (binaryOp .Mult) rRepR := by
  intro pins s σ H x y v u Q I rx ry h
  obtain ⟨l, k, xs, rfl, rfl, hH, h1, h2, hz, q⟩ := h
  cases rx
  obtain ⟨t, rfl⟩ := ry
  obtain ⟨z, its, n, r, e⟩ := hH.ok I.hok
  have hl : xs.length = its.length := r.length
  have hlen : its.toArray.size * k.toNat ≤ sizeLine := by rw [List.size_toArray, ← hl]; exact hz
  have hcap : ¬ its.toArray.size * k.toNat > (2 ^ 63 - 1) / 8 := by
    have : (sizeLine : Nat) ≤ (2 ^ 63 - 1) / 8 := by decide
    omega
  have hfit : ¬ (!Builtin.List.listFitsIndex k) = true := by
    rw [fitsIndex_both h1 h2]
    exact Bool.false_ne_true
  have hlong : ¬ Builtin.List.listTooLong (its.toArray.size * k.toNat) = true := by
    rw [notLongL hlen]
    exact Bool.false_ne_true
  have hnew : List.foldl (fun x1 x2 => x1 ++ x2) #[] (List.replicate (if its.toArray.isEmpty = true then 0 else k.toNat) its.toArray) = (List.replicate k.toNat its).flatten.toArray := by
    have f0 : ∀ m : Nat, List.foldl (fun x1 x2 => x1 ++ x2) #[] (List.replicate m its.toArray) = (List.replicate m its).flatten.toArray := fun m => by
      have := foldl_rep its m []
      rw [List.nil_append] at this
      exact this
    rw [f0]
    cases its with
    | nil => simp
    | cons a r' => rw [if_neg (by simp)]
  refine wpAny_binaryOp_repeat_ref (T := "list") (U := "int") (by decide) ⟨_, e, rfl⟩ (fun s' => typeIs_int s' k t) noFill_list_mul F.fills_int_mul F.slot_int_rmul repeat_list F.slot_int_index.lookup
    (call_meets F.slot_int_rmul (typeIs_int s k t) F.entry_int_rmul (F.args_int_rmul_2 _ _) (int___rmul___int_list k t l its.toArray n)
      ⟨e, rfl, ⟨_, e, rfl⟩, call_meets F.slot_list_mul ⟨_, e, rfl⟩ F.entry_list_mul (F.args_list_mul_2 _ _) (AutoListH.list___mul___list_int_3 l its.toArray n k t hfit hcap hlong) ⟨e, ?_⟩⟩)
  rw [hnew]
  exact ⟨.ref _, _, I.lnew (t' := s.toks) (r.rep k.toNat) (by rw [PyProof.Rows.lm_len_rep_flat, Nat.mul_comm]; exact hz), rfl, q _ I.fresh⟩
def repL (x y : D) (S : Sto) : R (List D) := match x, y with
  | .list ds, .int k => if -(2 ^ 63) ≤ k ∧ k < 2 ^ 63 ∧ ds.length * k.toNat ≤ sizeLine then .ok (List.replicate k.toNat ds).flatten S else .no
  | _, _ => .no
/-- a list times an int -/
def repF (a b : Ex) : Exs := fun env S => (a env S).bind fun x S1 => (b env S1).bind fun y S2 => repL x y S2
theorem jf_rep {X : Cx} {ts : List Addr} {W : WX} {a b : Expr} {ga gb : Ex} {pos : Pos} (ha : JE X ts W a ga) (hb : JE X ts W b gb) : JF X ts W (.BinOp a .Mult b pos) (repF ga gb) :=
  jf_of (pe_op op_repR ha hb) fun σ H Q ⟨ρ, env, S, m, p⟩ => ⟨ρ, env, S, m, PostF.next (f := fun x S1 => (gb env S1).bind fun y S2 => repL x y S2) p fun x ρ1 H1 dx S1 e1 st so rx p1 =>
    ⟨ρ1, env, S1, m.step st so, PostF.next (f := fun y S2 => repL dx y S2) p1 fun y ρ2 H2 dy S2 e2 st2 so2 ry p2 => by
      replace rx := rx.step st2
      cases dx <;> first | exact p2.elim | skip
      rename_i ds
      cases dy <;> first | exact p2.elim | skip
      rename_i k
      have p2 : PostF X.K X.mg W σ ρ2 H2 (if -(2 ^ 63) ≤ k ∧ k < 2 ^ 63 ∧ ds.length * k.toNat ≤ sizeLine then .ok (List.replicate k.toNat ds).flatten S2 else .no) Q := p2
      cases ry
      cases rx with
      | lst h r =>
        by_cases z : -(2 ^ 63) ≤ k ∧ k < 2 ^ 63 ∧ ds.length * k.toNat ≤ sizeLine
        · rw [if_pos z] at p2
          exact ⟨_, k, _, rfl, rfl, h.1, z.1, z.2.1, by rw [r.length]; exact z.2.2, p2.done so2 (r.repl _)⟩
        · rw [if_neg z] at p2; exact p2.elim⟩⟩
theorem repL_ok {S : Sto} {ds : List D} {k : Int} (h0 : 0 ≤ k) (h1 : k ≤ 1000) (h2 : ds.length ≤ 1000) : repL (.list ds) (.int k) S = .ok (List.replicate k.toNat ds).flatten S := by
  have h3 : k.toNat ≤ 1000 := by omega
  have a1 : ds.length * k.toNat ≤ 1000 * 1000 := Nat.mul_le_mul h2 h3
  exact if_pos ⟨by omega, by omega, by rw [sizeLine_eq]; omega⟩
/-- min, max of two ints -/
def max2D (_ : Sto) : List D → Option D
  | [.int i, .int j] => some (.int (if j > i then j else i))
  | _ => none
def min2D (_ : Sto) : List D → Option D
  | [.int i, .int j] => some (.int (if j < i then j else i))
  | _ => none
theorem c_max2 {X : Cx} (hc : X.calm = true) : CallR X (.builtin "max") (rC X max2D) := by
  intro pins s σ H vs us Q I r h
  obtain ⟨ρ, ds, S, d, so, px, e, q⟩ := h
  match ds, e with
  | [.int i, .int j], e =>
    cases e
    cases px with
    | cons p1 px =>
      cases px with
      | cons p2 px =>
        cases px
        cases p1
        cases p2
        exact call_max2 hc pins s σ H _ us Q I r ⟨i, j, rfl, q _ H .refl so (.int _)⟩
theorem c_min2 {X : Cx} (hc : X.calm = true) : CallR X (.builtin "min") (rC X min2D) := by
  intro pins s σ H vs us Q I r h
  obtain ⟨ρ, ds, S, d, so, px, e, q⟩ := h
  match ds, e with
  | [.int i, .int j], e =>
    cases e
    cases px with
    | cons p1 px =>
      cases px with
      | cons p2 px =>
        cases px
        cases p1
        cases p2
        exact call_min2 hc pins s σ H _ us Q I r ⟨i, j, rfl, q _ H .refl so (.int _)⟩
/-! ### while -/
def whileN : Nat := 1000000
theorem whileL_inv {c : Tx} {b : Blk} (I : Nat → Envd → Sto → Prop)
    (step : ∀ k env S, I k env S → ∃ t, c env S = .ok t S ∧ (t = true → ∃ k' env' S', k' < k ∧ (b env S = .nx env' S' ∨ b env S = .ct env' S') ∧ I k' env' S')) :
    ∀ (n k : Nat) (env : Envd) (S : Sto), k < n → I k env S → ∃ k' env' S', whileL c b n env S = .nx env' S' ∧ I k' env' S' ∧ c env' S' = .ok false S'
  | 0, k, env, S, h, _ => absurd h (Nat.not_lt_zero _)
  | n + 1, k, env, S, h, hi => by
    obtain ⟨t, e, ht⟩ := step k env S hi
    have e0 : whileL c b (n + 1) env S = (c env S).to env fun k S1 => if k = true then (b env S1).turn (whileL c b n) else .nx env S1 := rfl
    cases t with
    | false =>
      refine ⟨k, env, S, ?_, hi, e⟩
      rw [e0, e, R.to_ok]
      rfl
    | true =>
      obtain ⟨k', env', S', hk, hb, hi'⟩ := ht rfl
      obtain ⟨k2, env2, S2, e2, h2, h3⟩ := whileL_inv I step n k' env' S' (by omega) hi'
      refine ⟨k2, env2, S2, ?_, h2, h3⟩
      rw [e0, e, R.to_ok, if_pos rfl]
      rcases hb with hb | hb
      · rw [hb, turn_nx, e2]
      · rw [hb, turn_ct, e2]
theorem whileB_inv {c : Tx} {b : Blk} (I : Nat → Envd → Sto → Prop)
    (step : ∀ k env S, I k env S → ∃ t, c env S = .ok t S ∧ (t = true → ∃ k' env' S', k' < k ∧ (b env S = .nx env' S' ∨ b env S = .ct env' S') ∧ I k' env' S'))
    {k : Nat} {env : Envd} {S : Sto} (h : k ≤ 1000) (hi : I k env S) : ∃ k' env' S', whileB whileN c b env S = .nx env' S' ∧ I k' env' S' ∧ c env' S' = .ok false S' :=
  whileL_inv I step whileN k env S (Nat.lt_of_le_of_lt h (by unfold whileN; decide)) hi
end Cor

/-! Core21: a list's cell, read and written. -/
namespace Cor
open PySem PySem.Spec PyProof.Rows L2
theorem cellD_rf (S : Sto) (n : Nat) : cellD S (rf n) = S[n]? := by
  unfold cellD
  rw [refOf_rf]
section
variable {S : Sto} {n : Nat} {ds : List D}
theorem idx_cell {i : Int} (h : S[n]? = some (.lst ds)) : idxD S (rf n) (.int i) = L2.atI ds i := by
  show (cellD S (rf n)).bind (cellAt (.int i)) = _
  rw [cellD_rf, h]
  rfl
theorem ixN_nat' {m k : Nat} (h : k < m) : L2.ixN m (k : Int) = some k := by
  unfold L2.ixN
  simp
  omega
theorem put_cell {k : Nat} {v : D} (h : S[n]? = some (.lst ds)) (hk : k < ds.length) : putD S (rf n) (.int (k : Int)) v = some (S.set n (.lst (ds.set k v))) := by
  unfold putD
  rw [refOf_rf]
  simp only [h]
  show ((L2.ixN ds.length (k : Int)).map fun j => Cell.lst (ds.set j v)).map _ = _
  rw [ixN_nat' hk]
  rfl
theorem len_cell (h : S[n]? = some (.lst ds)) : lenD S [rf n] = some (.int ds.length) := by
  show (match cellD S (rf n) with
    | some (.lst ds) => some (PyData.int ds.length)
    | some (.dK ks) => some (.int ks.length)
    | _ => none) = _
  rw [cellD_rf, h]
theorem items_cell (h : S[n]? = some (.lst ds)) : itemsD S (rf n) = some (ds, some n) := by
  show (cellD S (rf n)).bind (cellItems (refOf (rf n))) = _
  rw [cellD_rf, h, refOf_rf]
  rfl
theorem seq_cell (h : S[n]? = some (.lst ds)) : der S (rf n) = some (.list ds) := by
  show (match refOf (rf n) with
    | some n => match S[n]? with
      | some (.lst ds) => some (PyData.list ds)
      | _ => none
    | none => none) = _
  rw [refOf_rf]
  simp only [h]
theorem sl_cell {lo hi : Option Int} (h : S[n]? = some (.lst ds)) : slV S (rf n) lo hi = some (.list (Cor.cutD ds lo hi)) := by
  show (match lstOf S (rf n) with
    | some p => some (PyData.list (Cor.cutD p.2 lo hi))
    | none => none) = _
  rw [lstOf_rf h]
end
end Cor

/-! T1: typed readings of blocks. -/
namespace Cor
open PySem PySem.Spec PyProof.Rows L2

/-! ### values without references -/
inductive Val where
  | none
  | bool (b : Bool)
  | int (i : Int)
  | str (s : Str)
  | list (xs : List Val)
  | tuple (xs : List Val)
mutual
def Val.d : Val → D
  | .none => .none
  | .bool b => .bool b
  | .int i => .int i
  | .str s => .str s
  | .list xs => .list (Val.ds xs)
  | .tuple xs => .tuple (Val.ds xs)
def Val.ds : List Val → List D
  | [] => []
  | x :: xs => x.d :: Val.ds xs
end
theorem ds_map : ∀ xs : List Val, Val.ds xs = xs.map Val.d
  | [] => rfl
  | x :: xs => by rw [Val.ds, ds_map xs, List.map_cons]
theorem ds_len (xs : List Val) : (Val.ds xs).length = xs.length := by rw [ds_map, List.length_map]
mutual
theorem flat_d : ∀ v : Val, flat v.d = true
  | .none => rfl
  | .bool _ => rfl
  | .int _ => rfl
  | .str _ => rfl
  | .list xs => flatL_ds xs
  | .tuple xs => flatL_ds xs
theorem flatL_ds : ∀ xs : List Val, flatL (Val.ds xs) = true
  | [] => rfl
  | x :: xs => by rw [Val.ds, flatL_cons, flat_d x, flatL_ds xs]; rfl
end
theorem flatL_map (xs : List Val) : flatL (xs.map Val.d) = true := by rw [← ds_map]; exact flatL_ds xs
theorem der_d (S : Sto) (v : Val) : der S v.d = some v.d := der_flat (flat_d v)

/-! ### typed results -/
inductive M (α : Type) where
  | ok (a : α)
  | er (e : Exn)
  | no
namespace M
variable {α β γ : Type}
def bind (m : M α) (f : α → M β) : M β := match m with
  | ok a => f a
  | er e => er e
  | no => no
@[simp] theorem ok_bind (a : α) (f : α → M β) : (ok a).bind f = f a := Eq.trans (Eq.refl (f a)) (Eq.refl (f a))
@[simp] theorem er_bind (e : Exn) (f : α → M β) : (er e : M α).bind f = er e := Eq.trans (Eq.refl (er e)) (Eq.refl (er e))
@[simp] theorem no_bind (f : α → M β) : (no : M α).bind f = no := rfl
def lt (a : α) (f : α → M β) : M β := f a
@[simp] theorem lt_eq (a : α) (f : α → M β) : lt a f = f a := Eq.trans (Eq.refl (f a)) (Eq.refl (f a))
def calm (m : M α) : M α := match m with
  | er _ => no
  | x => x
@[simp] theorem calm_ok (a : α) : (ok a).calm = ok a := Eq.trans (Eq.refl (ok a)) (Eq.refl (ok a))
theorem bind_ok {m : M α} {f : α → M β} {a : α} (h : m = ok a) : m.bind f = f a := by rw [h]; rfl
theorem bind_assoc (m : M α) (f : α → M β) (g : β → M γ) : (m.bind f).bind g = m.bind fun a => (f a).bind g := by cases m <;> rfl
end M
/-- what goes wrong bears plain data -/
def flatX (e : Exn) : Prop := ∀ p ∈ e.fld, flat p.2 = true
/-- r is what m says -/
def RG {α β : Type} (r : R β) (S : Sto) (m : M α) (e : α → β) : Prop := match m with
  | .ok a => r = .ok (e a) S
  | .er x => r = .er x S ∧ flatX x
  | .no => True
abbrev RE {α : Type} (r : R D) (S : Sto) (m : M α) (e : α → Val) : Prop := RG r S m fun a => (e a).d
section
variable {α β γ δ : Type} {r : R β} {S : Sto}
theorem rg_ok {a : α} {e : α → β} (h : r = .ok (e a) S) : RG r S (.ok a) e := h
theorem rg_no {e : α → β} : RG r S (.no : M α) e := trivial
/-- a part first -/
theorem rbind {g : R γ} {ma : M α} {ea : α → γ} {k : α → M δ} {e : δ → β} (hg : RG g S ma ea) (he : ∀ x, g = .er x S → r = .er x S) (hk : ∀ t, g = .ok (ea t) S → RG r S (k t) e) : RG r S (ma.bind k) e := by
  cases ma with
  | ok a => exact hk a hg
  | er x => exact ⟨he x hg.1, hg.2⟩
  | no => trivial
theorem rif {c : Bool} {ma mb : M α} {e : α → β} (ha : c = true → RG r S ma e) (hb : c = false → RG r S mb e) : RG r S (if c = true then ma else mb) e := by
  cases c with
  | true => exact ha rfl
  | false => exact hb rfl
theorem rg_lift {o : Option α} {f : Option β} {e : α → β} (h : f = o.map e) : RG (lift f S) S (match o with | some a => M.ok a | none => .no) e := by
  rw [h]
  cases o with
  | none => trivial
  | some a => rfl
end

/-! ### frames -/
def lk (i : Nat) : List (Nat × Option D) → Option D
  | [] => none
  | p :: r => bif Nat.beq i p.1 then p.2 else lk i r
theorem lk_cons_eq {i : Nat} {d : Option D} {L : List (Nat × Option D)} : lk i ((i, d) :: L) = d := by
  show (bif Nat.beq i i then d else lk i L) = d
  rw [Nat.beq_refl]; rfl
theorem lk_cons_ne {i j : Nat} {d : Option D} {L : List (Nat × Option D)} (h : i ≠ j) : lk i ((j, d) :: L) = lk i L := by
  show (bif Nat.beq i j then d else lk i L) = _
  have : Nat.beq i j = false := by
    cases e : Nat.beq i j with
    | false => rfl
    | true => exact absurd (Nat.eq_of_beq_eq_true e) h
  rw [this]; rfl
def Has (n : Nat) (env : Envd) (L : List (Nat × Option D)) : Prop := env.length = n ∧ ∀ i d, lk i L = some d → env[i]? = some (some d)
def Keep (S0 : Sto) (W : List Nat) (S : Sto) : Prop := S0.length ≤ S.length ∧ ∀ j, j < S0.length → j ∉ W → S[j]? = S0[j]?
structure Fr (S0 : Sto) (W : List Nat) (n : Nat) (env : Envd) (S : Sto) (L : List (Nat × Option D)) (C : List (Nat × Cell)) : Prop where
  has : Has n env L
  cell : ∀ p ∈ C, S[p.1]? = some p.2
  nd : (C.map (·.1)).Nodup
  own : ∀ p ∈ C, S0.length ≤ p.1 ∨ p.1 ∈ W
  kp : Keep S0 W S
section
variable {S0 S : Sto} {W : List Nat} {n : Nat} {env : Envd} {L L' : List (Nat × Option D)} {C C' : List (Nat × Cell)} {i k : Nat} {d : D} {c c' : Cell}
theorem Fr.at (h : Fr S0 W n env S L C) (e : lk i L = some d) : var i env S = .ok d S := by
  rw [var_eq, h.has.2 i d e]; rfl
theorem Fr.get (h : Fr S0 W n env S L C) (e : lk i L = some d) : env[i]? = some (some d) := h.has.2 i d e
theorem Has.set (h : Has n env L) (hi : Nat.blt i n = true) : Has n (env.set i (some d)) ((i, some d) :: L) := by
  have hi : i < n := Nat.le_of_ble_eq_true hi
  refine ⟨by simp [h.1], fun j d' e => ?_⟩
  by_cases hj : j = i
  · subst hj
    rw [lk_cons_eq] at e
    cases e
    rw [List.getElem?_set_self (by rw [h.1]; exact hi)]
  · rw [lk_cons_ne hj] at e
    rw [List.getElem?_set_ne (Ne.symm hj)]
    exact h.2 j d' e
theorem Has.wipe (h : Has n env L) : Has n (env.set i none) ((i, none) :: L) := by
  refine ⟨by simp [h.1], fun j d' e => ?_⟩
  by_cases hj : j = i
  · subst hj
    rw [lk_cons_eq] at e
    cases e
  · rw [lk_cons_ne hj] at e
    rw [List.getElem?_set_ne (Ne.symm hj)]
    exact h.2 j d' e
theorem Has.nil (h : Has n env L) : Has n env [] := ⟨h.1, fun _ _ e => nomatch e⟩
theorem Has.cons (e : env[i]? = some (some d)) (h : Has n env L) : Has n env ((i, some d) :: L) := by
  refine ⟨h.1, fun j d' q => ?_⟩
  by_cases hj : j = i
  · subst hj
    rw [lk_cons_eq] at q
    cases q
    exact e
  · rw [lk_cons_ne hj] at q
    exact h.2 j d' q
theorem Fr.set (h : Fr S0 W n env S L C) (hi : Nat.blt i n = true) : Fr S0 W n (env.set i (some d)) S ((i, some d) :: L) C := ⟨h.has.set hi, h.cell, h.nd, h.own, h.kp⟩
theorem Fr.wipe (h : Fr S0 W n env S L C) : Fr S0 W n (env.set i none) S ((i, none) :: L) C := ⟨h.has.wipe, h.cell, h.nd, h.own, h.kp⟩
theorem Fr.re (h : Fr S0 W n env S L C) (hh : Has n env L') : Fr S0 W n env S L' C := ⟨hh, h.cell, h.nd, h.own, h.kp⟩
theorem Fr.nilL (h : Fr S0 W n env S L C) : Has n env [] := h.has.nil
def pickC (ps : List Nat) (C : List (Nat × Cell)) : List (Nat × Cell) := match ps with
  | [] => []
  | p :: r => match C[p]? with
    | some c => c :: pickC r C
    | none => pickC r C
theorem pickC_mem : ∀ {ps : List Nat} {C : List (Nat × Cell)} {x : Nat × Cell}, x ∈ pickC ps C → ∃ p ∈ ps, C[p]? = some x
  | [], _, _, h => nomatch h
  | p :: r, C, x, h => by
    unfold pickC at h
    cases e : C[p]? with
    | none =>
      rw [e] at h
      obtain ⟨q, m, z⟩ := pickC_mem h
      exact ⟨q, List.mem_cons_of_mem _ m, z⟩
    | some c =>
      rw [e] at h
      rcases List.mem_cons.mp h with h | h
      · subst h; exact ⟨p, List.mem_cons_self .., e⟩
      · obtain ⟨q, m, z⟩ := pickC_mem h
        exact ⟨q, List.mem_cons_of_mem _ m, z⟩
theorem pickC_nd : ∀ {ps : List Nat} {C : List (Nat × Cell)}, ps.Nodup → (C.map (·.1)).Nodup → ((pickC ps C).map (·.1)).Nodup
  | [], _, _, _ => List.nodup_nil
  | p :: r, C, h, hc => by
    rw [List.nodup_cons] at h
    unfold pickC
    have ih := pickC_nd (C := C) h.2 hc
    cases e : C[p]? with
    | none => exact ih
    | some c =>
      show (c.1 :: (pickC r C).map (·.1)).Nodup
      rw [List.nodup_cons]
      refine ⟨fun m => h.1 ?_, ih⟩
      obtain ⟨x, mx, ex⟩ := List.mem_map.mp m
      obtain ⟨q, mq, eq⟩ := pickC_mem mx
      obtain ⟨hp, ep⟩ := List.getElem?_eq_some_iff.mp e
      obtain ⟨hq, eq⟩ := List.getElem?_eq_some_iff.mp eq
      have hl : ∀ {i : Nat}, i < C.length → i < (C.map (·.1)).length := fun h => by rw [List.length_map]; exact h
      have : (C.map (·.1))[p]'(hl hp) = (C.map (·.1))[q]'(hl hq) := by
        rw [List.getElem_map, List.getElem_map, ep, eq, ex]
      rw [(List.getElem_inj hc).mp this]
      exact mq
theorem Fr.pick (h : Fr S0 W n env S L C) (ps : List Nat) (hp : ps.Nodup := by decide) : Fr S0 W n env S L (pickC ps C) :=
  ⟨h.has, fun p m => by obtain ⟨q, _, e⟩ := pickC_mem m; exact h.cell p (List.mem_of_getElem? e), pickC_nd hp h.nd, fun p m => by obtain ⟨q, _, e⟩ := pickC_mem m; exact h.own p (List.mem_of_getElem? e), h.kp⟩
theorem Fr.lt (h : Fr S0 W n env S L C) {p : Nat × Cell} (m : p ∈ C) : p.1 < S.length := (List.getElem?_eq_some_iff.mp (h.cell p m)).1
theorem Fr.new (h : Fr S0 W n env S L C) : Fr S0 W n env (S ++ [c]) L (C ++ [(S.length, c)]) := by
  refine ⟨h.has, fun p m => ?_, ?_, fun p m => ?_, by have := h.kp.1; simp; omega, fun j hj hw => ?_⟩
  · rcases List.mem_append.mp m with m | m
    · rw [List.getElem?_append_left (h.lt m)]; exact h.cell p m
    · rw [List.mem_singleton.mp m]; simp
  · rw [List.map_append, List.nodup_append]
    refine ⟨h.nd, by simp, fun a ha b hb z => ?_⟩
    obtain ⟨p, mp, rfl⟩ := List.mem_map.mp ha
    simp at hb
    have := h.lt mp
    omega
  · rcases List.mem_append.mp m with m | m
    · exact h.own p m
    · rw [List.mem_singleton.mp m]; exact .inl h.kp.1
  · rw [List.getElem?_append_left (Nat.lt_of_lt_of_le hj h.kp.1)]
    exact h.kp.2 j hj hw
theorem Fr.write (h : Fr S0 W n env S L C) (p : Nat) (hp : C[p]? = some (k, c)) : Fr S0 W n env (S.set k c') L (C.set p (k, c')) := by
  have hm : (k, c) ∈ C := List.mem_of_getElem? hp
  obtain ⟨hl, ep⟩ := List.getElem?_eq_some_iff.mp hp
  have hk : k < S.length := h.lt hm
  have em : (C.set p (k, c')).map (·.1) = C.map (·.1) := by
    rw [List.map_set]
    apply List.ext_getElem?
    intro j
    by_cases z : p = j
    · subst z
      rw [List.getElem?_set_self (by rw [List.length_map]; exact hl), List.getElem?_map, hp]; rfl
    · rw [List.getElem?_set_ne z]
  have nn : ∀ q ∈ C.set p (k, c'), (q = (k, c')) ∨ (q ∈ C ∧ q.1 ≠ k) := fun q m => by
    obtain ⟨j, hj⟩ := List.getElem?_of_mem m
    by_cases z : p = j
    · subst z
      rw [List.getElem?_set_self hl] at hj
      cases hj; exact .inl rfl
    · rw [List.getElem?_set_ne z] at hj
      refine .inr ⟨List.mem_of_getElem? hj, fun e => z ?_⟩
      obtain ⟨hj1, ej⟩ := List.getElem?_eq_some_iff.mp hj
      have hl' : ∀ {i : Nat}, i < C.length → i < (C.map (·.1)).length := fun h => by rw [List.length_map]; exact h
      refine (List.getElem_inj (h₀ := hl' hl) (h₁ := hl' hj1) h.nd).mp ?_
      rw [List.getElem_map, List.getElem_map, ep, ej, e]
  refine ⟨h.has, fun q m => ?_, by rw [em]; exact h.nd, fun q m => ?_, by rw [List.length_set]; exact h.kp.1, fun j hj hw => ?_⟩
  · rcases nn q m with rfl | ⟨m, ne⟩
    · show (S.set k c')[k]? = some c'
      rw [List.getElem?_set_self hk]
    · rw [List.getElem?_set_ne (Ne.symm ne)]; exact h.cell q m
  · rcases nn q m with rfl | ⟨m, ne⟩
    · exact h.own (k, c) hm
    · exact h.own q m
  · rw [List.getElem?_set_ne ?_]
    · exact h.kp.2 j hj hw
    · intro z
      rcases h.own _ hm with o | o
      · have o : S0.length ≤ k := o; omega
      · exact hw (z ▸ o)
theorem Fr.cellAt (h : Fr S0 W n env S L C) (p : Nat) (hp : C[p]? = some (k, c)) : S[k]? = some c := h.cell _ (List.mem_of_getElem? hp)
end

/-! ### blocks -/
inductive Ctl (σ ρ : Type) where
  | nx (s : σ)
  | bk (s : σ)
  | rt (v : ρ)
def Ref {α : Type} (S0 : Sto) (W : List Nat) (r : Fl) (m : M α) (Q : α → Fl → Prop) : Prop := match m with
  | .ok a => Q a r
  | .er x => (∃ env S, r = .er x env S ∧ Keep S0 W S) ∧ flatX x
  | .no => True
section
variable {α β γ σ ρ : Type} {S0 S S1 : Sto} {W : List Nat} {n : Nat} {env env1 : Envd} {L : List (Nat × Option D)} {C : List (Nat × Cell)} {r : Fl} {K : Blk} {Q : α → Fl → Prop}
theorem ref_no : Ref S0 W r (.no : M α) Q := trivial
theorem sbind {g : R γ} {ma : M β} {ea : β → γ} {k : β → M α} (h : Fr S0 W n env S L C) (hg : RG g S ma ea) (he : ∀ x, g = .er x S → r = .er x env S) (hk : ∀ t, g = .ok (ea t) S → Ref S0 W r (k t) Q) : Ref S0 W r (ma.bind k) Q := by
  cases ma with
  | ok a => exact hk a hg
  | er x => exact ⟨⟨env, S, he x hg.1, h.kp⟩, hg.2⟩
  | no => trivial
theorem sval {ma : M β} {k : β → M α} (hk : ∀ t, ma = .ok t → Ref S0 W r (k t) Q) (hx : ∀ x, ma ≠ .er x) : Ref S0 W r (ma.bind k) Q := by
  cases ma with
  | ok a => exact hk a rfl
  | er x => exact absurd rfl (hx x)
  | no => trivial
theorem slet {P : β → Prop} {k : β → M α} (a : β) (h : P a) (hk : ∀ x, P x → Ref S0 W r (k x) Q) : Ref S0 W r (M.lt a k) Q := hk a h
theorem sseq {a b : Blk} {m : M α} (h : Ref S0 W ((a env S).seq fun e s => (b e s).seq K) m Q) : Ref S0 W ((seqB a b env S).seq K) m Q := by
  have e : (seqB a b env S).seq K = (a env S).seq fun e s => (b e s).seq K := by
    rw [seqB_eq]
    cases a env S <;> rfl
  rw [e]; exact h
theorem slast {a : Blk} {m : M α} (h : Ref S0 W ((a env S).seq skipB) m Q) : Ref S0 W (a env S) m Q := by
  have e : (a env S).seq skipB = a env S := by cases a env S <;> rfl
  rw [e] at h; exact h
theorem sskip {m : M α} (h : Ref S0 W (K env S) m Q) : Ref S0 W ((skipB env S).seq K) m Q := h
theorem sasg {g : Ex} {t : Tg} {d : D} {m : M α} (hg : g env S = .ok d S1) (ht : t d env = some env1) (hk : Ref S0 W (K env1 S1) m Q) : Ref S0 W ((asgB g t env S).seq K) m Q := by
  rw [asgB_eq, hg, R.to_ok, ht, tgF_some, Fl.seq_nx]; exact hk
theorem asg_er {g : Ex} {t : Tg} {x : Exn} (hg : g env S = .er x S1) : (asgB g t env S).seq K = .er x env S1 := by
  rw [asgB_eq, hg, R.to_er]; rfl
theorem saug {g : Ex} {i : Nat} {f : Sto → D → D → Option D} {d0 d z : D} {m : M α} (h : Fr S0 W n env S L C) (e : lk i L = some d0) (hg : g env S = .ok d S) (hf : f S d0 d = some z) (hk : Ref S0 W (K (env.set i (some z)) S) m Q) : Ref S0 W ((augB i f g env S).seq K) m Q := by
  rw [augB_eq (h.get e), hg, R.to_ok, hf, augF_some, Fl.seq_nx]; exact hk
theorem aug_er {g : Ex} {i : Nat} {f : Sto → D → D → Option D} {d0 : D} {x : Exn} (h : Fr S0 W n env S L C) (e : lk i L = some d0) (hg : g env S = .er x S1) : (augB i f g env S).seq K = .er x env S1 := by
  rw [augB_eq (h.get e), hg, R.to_er]; rfl
theorem sexp {g : Ex} {d : D} {m : M α} (hg : g env S = .ok d S1) (hk : Ref S0 W (K env S1) m Q) : Ref S0 W ((expB g env S).seq K) m Q := by
  rw [expB_eq, hg, R.to_ok, Fl.seq_nx]; exact hk
theorem exp_er {g : Ex} {x : Exn} (hg : g env S = .er x S1) : (expB g env S).seq K = .er x env S1 := by
  rw [expB_eq, hg, R.to_er]; rfl
theorem sret {g : Ex} {d : D} {m : M α} (hg : g env S = .ok d S1) (hk : Ref S0 W (.rt d S1) m Q) : Ref S0 W ((retB g env S).seq K) m Q := by
  rw [retB_eq, hg, R.to_ok, Fl.seq_rt]; exact hk
theorem ret_er {g : Ex} {x : Exn} (hg : g env S = .er x S1) : (retB g env S).seq K = .er x env S1 := by
  rw [retB_eq, hg, R.to_er]; rfl
theorem sretN {m : M α} (hk : Ref S0 W (.rt .none S) m Q) : Ref S0 W ((retN env S).seq K) m Q := hk
theorem sbrk {m : M α} (hk : Ref S0 W (.bk env S) m Q) : Ref S0 W ((brkB env S).seq K) m Q := hk
theorem sct {m : M α} (hk : Ref S0 W (.ct env S) m Q) : Ref S0 W ((ctB env S).seq K) m Q := hk
/-- both ways to the end -/
theorem sif {c : Tx} {a b : Blk} {x : Bool} {ma mb : M α} (hc : c env S = .ok x S) (ha : x = true → Ref S0 W ((a env S).seq K) ma Q) (hb : x = false → Ref S0 W ((b env S).seq K) mb Q) : Ref S0 W ((ifB c a b env S).seq K) (if x = true then ma else mb) Q := by
  rw [ifB_eq, hc, R.to_ok]
  cases x with
  | true => exact ha rfl
  | false => exact hb rfl
theorem if_er {c : Tx} {a b : Blk} {x : Exn} (hc : c env S = .er x S1) : (ifB c a b env S).seq K = .er x env S1 := by
  rw [ifB_eq, hc, R.to_er]; rfl
/-! ends -/
def QN (P : σ → Envd → Sto → Prop) (s : σ) (r : Fl) : Prop := ∃ env S, r = .nx env S ∧ P s env S
def QL (P : σ → Envd → Sto → Prop) (s : σ) (r : Fl) : Prop := ∃ env S, (r = .nx env S ∨ r = .ct env S) ∧ P s env S
def QB (P : σ → Envd → Sto → Prop) (QF : ρ → Fl → Prop) (c : Ctl σ ρ) (r : Fl) : Prop := match c with
  | .nx s => ∃ env S, (r = .nx env S ∨ r = .ct env S) ∧ P s env S
  | .bk s => ∃ env S, r = .bk env S ∧ P s env S
  | .rt v => (∃ d S, r = .rt d S) ∧ QF v r
def QE (P : σ → Envd → Sto → Prop) (QF : ρ → Fl → Prop) (c : σ ⊕ ρ) (r : Fl) : Prop := match c with
  | .inl s => ∃ env S, r = .nx env S ∧ P s env S
  | .inr v => (∃ d S, r = .rt d S) ∧ QF v r
theorem endN {P : σ → Envd → Sto → Prop} {s : σ} (h : P s env S) : Ref S0 W (skipB env S) (.ok s) (QN P) := ⟨env, S, rfl, h⟩
theorem endL {P : σ → Envd → Sto → Prop} {s : σ} (h : P s env S) : Ref S0 W (skipB env S) (.ok s) (QL P) := ⟨env, S, .inl rfl, h⟩
theorem endLc {P : σ → Envd → Sto → Prop} {s : σ} (h : P s env S) : Ref S0 W (.ct env S) (.ok s) (QL P) := ⟨env, S, .inr rfl, h⟩
theorem endB' {P : σ → Envd → Sto → Prop} {QF : ρ → Fl → Prop} {s : σ} (h : P s env S) : Ref S0 W (skipB env S) (.ok (.nx s)) (QB P QF) := ⟨env, S, .inl rfl, h⟩
theorem endBc {P : σ → Envd → Sto → Prop} {QF : ρ → Fl → Prop} {s : σ} (h : P s env S) : Ref S0 W (.ct env S) (.ok (.nx s)) (QB P QF) := ⟨env, S, .inr rfl, h⟩
theorem endBb {P : σ → Envd → Sto → Prop} {QF : ρ → Fl → Prop} {s : σ} (h : P s env S) : Ref S0 W (.bk env S) (.ok (.bk s)) (QB P QF) := ⟨env, S, rfl, h⟩
theorem endBr {P : σ → Envd → Sto → Prop} {QF : ρ → Fl → Prop} {v : ρ} {d : D} (h : QF v (.rt d S)) : Ref S0 W (.rt d S) (.ok (.rt v)) (QB P QF) := ⟨⟨d, S, rfl⟩, h⟩
/-- both ways meet -/
theorem sjoin {c : Tx} {a b : Blk} {x : Bool} {ma mb : M σ} {k : σ → M α} (P : σ → Envd → Sto → Prop) (hc : c env S = .ok x S) (ha : x = true → Ref S0 W ((a env S).seq skipB) ma (QN P)) (hb : x = false → Ref S0 W ((b env S).seq skipB) mb (QN P)) (hk : ∀ s env S, P s env S → Ref S0 W (K env S) (k s) Q) :
    Ref S0 W ((ifB c a b env S).seq K) ((if x = true then ma else mb).bind k) Q := by
  have key : ∀ (f : Blk) (m : M σ), Ref S0 W ((f env S).seq skipB) m (QN P) → Ref S0 W ((f env S).seq K) (m.bind k) Q := fun f m h => by
    have e : (f env S).seq skipB = f env S := by cases f env S <;> rfl
    rw [e] at h
    cases m with
    | ok s =>
      obtain ⟨env', S', e, hp⟩ := h
      rw [e]
      exact hk s env' S' hp
    | er x =>
      obtain ⟨⟨env', S', e, hp⟩, hx⟩ := h
      rw [e]
      exact ⟨⟨env', S', rfl, hp⟩, hx⟩
    | no => trivial
  rw [ifB_eq, hc, R.to_ok]
  cases x with
  | true => exact key a ma (ha rfl)
  | false => exact key b mb (hb rfl)
end

/-! ### loops -/
def foldM {α σ : Type} (f : α → σ → M σ) : List α → σ → M σ
  | [], s => .ok s
  | x :: xs, s => (f x s).bind fun s => foldM f xs s
def forM {α σ ρ : Type} (f : α → σ → M (Ctl σ ρ)) : List α → σ → M (σ ⊕ ρ)
  | [], s => .ok (.inl s)
  | x :: xs, s => (f x s).bind fun c => match c with
    | .nx s => forM f xs s
    | .bk s => .ok (.inl s)
    | .rt v => .ok (.inr v)
def loopM {σ : Type} (c : σ → M Bool) (f : σ → M σ) : Nat → σ → M σ
  | 0, _ => .no
  | n + 1, s => (c s).bind fun b => if b = true then (f s).bind fun s => loopM c f n s else .ok s
def whileM {σ ρ : Type} (c : σ → M Bool) (f : σ → M (Ctl σ ρ)) : Nat → σ → M (σ ⊕ ρ)
  | 0, _ => .no
  | n + 1, s => (c s).bind fun b => if b = true then (f s).bind fun q => match q with
    | .nx s => whileM c f n s
    | .bk s => .ok (.inl s)
    | .rt v => .ok (.inr v)
    else .ok (.inl s)
section
variable {α β γ σ ρ : Type} {S0 S S1 : Sto} {W : List Nat} {n : Nat} {env env1 : Envd} {L : List (Nat × Option D)} {C : List (Nat × Cell)} {r : Fl} {K : Blk} {Q : α → Fl → Prop}
theorem guardF_is {o : Option Nat} {ds : List D} {r : Fl} (h : Cor.guard o ds S) : guardF o ds S r = r := by
  unfold guardF
  rw [if_pos h]
theorem guardR_is {o : Option Nat} {ds : List D} {r : R α} (h : Cor.guard o ds S) : guardR o ds S r = r := by
  unfold guardR
  rw [if_pos h]
theorem ref_fold {t : Tg} {b : Blk} {o : Option Nat} {all : List D} {f : β → σ → M σ} (ea : β → D) (P : σ → Envd → Sto → Prop) (hg : ∀ s env S, P s env S → Cor.guard o all S)
    (hb : ∀ x s env S, P s env S → ∃ env1, t (ea x) env = some env1 ∧ Ref S0 W ((b env1 S).seq skipB) (f x s) (QL P)) :
    ∀ (xs : List β) (s : σ) (env : Envd) (S : Sto), P s env S → Ref S0 W (forL t b o all (xs.map ea) env S) (foldM f xs s) (QN P)
  | [], s, env, S, h => by
    show Ref S0 W (guardF o all S (.nx env S)) (.ok s) (QN P)
    rw [guardF_is (hg s env S h)]
    exact ⟨env, S, rfl, h⟩
  | x :: xs, s, env, S, h => by
    obtain ⟨env1, e1, h1⟩ := hb x s env S h
    show Ref S0 W (guardF o all S ((tgF (t (ea x) env) S).seq fun env1 S1 => (b env1 S1).turn (forL t b o all (xs.map ea)))) _ _
    rw [guardF_is (hg s env S h), e1, tgF_some, Fl.seq_nx]
    have h1 := slast h1
    show Ref S0 W _ ((f x s).bind fun s => foldM f xs s) _
    cases hm : f x s with
    | ok s1 =>
      rw [hm] at h1
      obtain ⟨env2, S2, e2, hp⟩ := h1
      have ih := ref_fold ea P hg hb xs s1 env2 S2 hp
      rcases e2 with e2 | e2
      · rw [e2, turn_nx]; exact ih
      · rw [e2, turn_ct]; exact ih
    | er x =>
      rw [hm] at h1
      obtain ⟨⟨env2, S2, e2, hp⟩, hx⟩ := h1
      rw [e2]
      exact ⟨⟨env2, S2, rfl, hp⟩, hx⟩
    | no => trivial
theorem ref_for {t : Tg} {b : Blk} {o : Option Nat} {all : List D} {f : β → σ → M (Ctl σ ρ)} (ea : β → D) (P : σ → Envd → Sto → Prop) (QF : ρ → Fl → Prop) (hg : ∀ s env S, P s env S → Cor.guard o all S)
    (hb : ∀ x s env S, P s env S → ∃ env1, t (ea x) env = some env1 ∧ Ref S0 W ((b env1 S).seq skipB) (f x s) (QB P QF)) :
    ∀ (xs : List β) (s : σ) (env : Envd) (S : Sto), P s env S → Ref S0 W (forL t b o all (xs.map ea) env S) (forM f xs s) (QE P QF)
  | [], s, env, S, h => by
    show Ref S0 W (guardF o all S (.nx env S)) (.ok (.inl s)) (QE P QF)
    rw [guardF_is (hg s env S h)]
    exact ⟨env, S, rfl, h⟩
  | x :: xs, s, env, S, h => by
    obtain ⟨env1, e1, h1⟩ := hb x s env S h
    show Ref S0 W (guardF o all S ((tgF (t (ea x) env) S).seq fun env1 S1 => (b env1 S1).turn (forL t b o all (xs.map ea)))) _ _
    rw [guardF_is (hg s env S h), e1, tgF_some, Fl.seq_nx]
    have h1 := slast h1
    show Ref S0 W _ ((f x s).bind fun c => match c with
      | .nx s => forM f xs s
      | .bk s => .ok (.inl s)
      | .rt v => .ok (.inr v)) _
    cases hm : f x s with
    | ok c =>
      rw [hm] at h1
      cases c with
      | nx s1 =>
        obtain ⟨env2, S2, e2, hp⟩ := h1
        have ih := ref_for ea P QF hg hb xs s1 env2 S2 hp
        rcases e2 with e2 | e2
        · rw [e2, turn_nx]; exact ih
        · rw [e2, turn_ct]; exact ih
      | bk s1 =>
        obtain ⟨env2, S2, e2, hp⟩ := h1
        rw [e2]
        exact ⟨env2, S2, rfl, hp⟩
      | rt v =>
        obtain ⟨⟨d, S2, e2⟩, hp⟩ := h1
        rw [e2] at hp ⊢
        exact ⟨⟨d, S2, rfl⟩, hp⟩
    | er x =>
      rw [hm] at h1
      obtain ⟨⟨env2, S2, e2, hp⟩, hx⟩ := h1
      rw [e2]
      exact ⟨⟨env2, S2, rfl, hp⟩, hx⟩
    | no => trivial
/-- behind a part that goes on -/
theorem snext {r : Fl} {m : M σ} {k : σ → M α} {P : σ → Envd → Sto → Prop} (h : Ref S0 W r m (QN P)) (hk : ∀ s env S, P s env S → Ref S0 W (K env S) (k s) Q) : Ref S0 W (r.seq K) (m.bind k) Q := by
  cases m with
  | ok s =>
    obtain ⟨env', S', e, hp⟩ := h
    rw [e]
    exact hk s env' S' hp
  | er x =>
    obtain ⟨⟨env', S', e, hp⟩, hx⟩ := h
    rw [e]
    exact ⟨⟨env', S', rfl, hp⟩, hx⟩
  | no => trivial
theorem snextE {r : Fl} {m : M (σ ⊕ ρ)} {k : σ → M α} {kr : ρ → M α} {P : σ → Envd → Sto → Prop} {QF : ρ → Fl → Prop} (h : Ref S0 W r m (QE P QF)) (hk : ∀ s env S, P s env S → Ref S0 W (K env S) (k s) Q) (hr : ∀ v d S, QF v (.rt d S) → Ref S0 W (.rt d S) (kr v) Q) :
    Ref S0 W (r.seq K) (m.bind fun c => match c with | .inl s => k s | .inr v => kr v) Q := by
  cases m with
  | ok c =>
    cases c with
    | inl s =>
      obtain ⟨env', S', e, hp⟩ := h
      rw [e]
      exact hk s env' S' hp
    | inr v =>
      obtain ⟨⟨d, S', e⟩, hp⟩ := h
      rw [e] at hp ⊢
      exact hr v d S' hp
  | er x =>
    obtain ⟨⟨env', S', e, hp⟩, hx⟩ := h
    rw [e]
    exact ⟨⟨env', S', rfl, hp⟩, hx⟩
  | no => trivial
theorem sfor {it : Ix} {t : Tg} {b : Blk} {ds : List D} {o : Option Nat} {m : M α} (hi : it env S = .ok (ds, o) S) (h : Ref S0 W ((forL t b o ds ds env S).seq K) m Q) : Ref S0 W ((forB it t b env S).seq K) m Q := by
  rw [forB_eq, hi, R.to_ok]; exact h
theorem for_er {it : Ix} {t : Tg} {b : Blk} {x : Exn} (hi : it env S = .er x S1) : (forB it t b env S).seq K = .er x env S1 := by
  rw [forB_eq, hi, R.to_er]; rfl
theorem ref_loop {c : Tx} {b : Blk} {g : σ → M Bool} {f : σ → M σ} (P : σ → Envd → Sto → Prop) (hk : ∀ s env S, P s env S → Keep S0 W S)
    (hc : ∀ s env S, P s env S → RG (c env S) S (g s) id)
    (hb : ∀ s env S, P s env S → g s = .ok true → Ref S0 W ((b env S).seq skipB) (f s) (QL P)) :
    ∀ (n : Nat) (s : σ) (env : Envd) (S : Sto), P s env S → Ref S0 W (whileL c b n env S) (loopM g f n s) (QN P)
  | 0, _, _, _, _ => trivial
  | n + 1, s, env, S, h => by
    have h0 := hc s env S h
    show Ref S0 W ((c env S).to env fun k S1 => if k = true then (b env S1).turn (whileL c b n) else .nx env S1) ((g s).bind fun b => if b = true then (f s).bind fun s => loopM g f n s else .ok s) _
    cases hg : g s with
    | no => trivial
    | er x =>
      rw [hg] at h0
      obtain ⟨e, hx⟩ := h0
      rw [e, R.to_er]
      exact ⟨⟨env, S, rfl, hk s env S h⟩, hx⟩
    | ok k =>
      rw [hg] at h0
      have h0 : c env S = .ok k S := h0
      rw [h0, R.to_ok]
      cases k with
      | false => exact ⟨env, S, rfl, h⟩
      | true =>
        show Ref S0 W ((b env S).turn (whileL c b n)) ((f s).bind fun s => loopM g f n s) _
        have h1 := slast (hb s env S h hg)
        cases hm : f s with
        | ok s1 =>
          rw [hm] at h1
          obtain ⟨env2, S2, e2, hp⟩ := h1
          have ih := ref_loop P hk hc hb n s1 env2 S2 hp
          rcases e2 with e2 | e2
          · rw [e2, turn_nx]; exact ih
          · rw [e2, turn_ct]; exact ih
        | er x =>
          rw [hm] at h1
          obtain ⟨⟨env2, S2, e2, hp⟩, hx⟩ := h1
          rw [e2]
          exact ⟨⟨env2, S2, rfl, hp⟩, hx⟩
        | no => trivial
theorem ref_while {c : Tx} {b : Blk} {g : σ → M Bool} {f : σ → M (Ctl σ ρ)} (P : σ → Envd → Sto → Prop) (QF : ρ → Fl → Prop) (hk : ∀ s env S, P s env S → Keep S0 W S)
    (hc : ∀ s env S, P s env S → RG (c env S) S (g s) id)
    (hb : ∀ s env S, P s env S → g s = .ok true → Ref S0 W ((b env S).seq skipB) (f s) (QB P QF)) :
    ∀ (n : Nat) (s : σ) (env : Envd) (S : Sto), P s env S → Ref S0 W (whileL c b n env S) (whileM g f n s) (QE P QF)
  | 0, _, _, _, _ => trivial
  | n + 1, s, env, S, h => by
    have h0 := hc s env S h
    show Ref S0 W ((c env S).to env fun k S1 => if k = true then (b env S1).turn (whileL c b n) else .nx env S1) ((g s).bind fun b => if b = true then (f s).bind fun q => (match q with
    | .nx s => whileM g f n s
    | .bk s => .ok (.inl s)
    | .rt v => .ok (.inr v)) else .ok (.inl s)) _
    cases hg : g s with
    | no => trivial
    | er x =>
      rw [hg] at h0
      obtain ⟨e, hx⟩ := h0
      rw [e, R.to_er]
      exact ⟨⟨env, S, rfl, hk s env S h⟩, hx⟩
    | ok k =>
      rw [hg] at h0
      have h0 : c env S = .ok k S := h0
      rw [h0, R.to_ok]
      cases k with
      | false => exact ⟨env, S, rfl, h⟩
      | true =>
        show Ref S0 W ((b env S).turn (whileL c b n)) ((f s).bind fun q => (match q with
    | .nx s => whileM g f n s
    | .bk s => .ok (.inl s)
    | .rt v => .ok (.inr v))) _
        have h1 := slast (hb s env S h hg)
        cases hm : f s with
        | ok q =>
          rw [hm] at h1
          cases q with
          | nx s1 =>
            obtain ⟨env2, S2, e2, hp⟩ := h1
            have ih := ref_while P QF hk hc hb n s1 env2 S2 hp
            rcases e2 with e2 | e2
            · rw [e2, turn_nx]; exact ih
            · rw [e2, turn_ct]; exact ih
          | bk s1 =>
            obtain ⟨env2, S2, e2, hp⟩ := h1
            rw [e2]
            exact ⟨env2, S2, rfl, hp⟩
          | rt v =>
            obtain ⟨⟨d, S2, e2⟩, hp⟩ := h1
            rw [e2] at hp ⊢
            exact ⟨⟨d, S2, rfl⟩, hp⟩
        | er x =>
          rw [hm] at h1
          obtain ⟨⟨env2, S2, e2, hp⟩, hx⟩ := h1
          rw [e2]
          exact ⟨⟨env2, S2, rfl, hp⟩, hx⟩
        | no => trivial
end
end Cor

/-! T2: typed values as data; expressions. -/
namespace Cor
open PySem PySem.Spec PyProof.Rows L2

/-! ### typed values -/
section
variable {α β γ δ ε ζ : Type}
def vN (_ : Unit) : Val := .none
def vV (v : Val) : Val := v
def vO (e : α → Val) : Option α → Val
  | none => .none
  | some a => e a
def vL (e : α → Val) (xs : List α) : Val := .list (xs.map e)
def vT (e : α → Val) (xs : List α) : Val := .tuple (xs.map e)
def v1 (e1 : α → Val) (p : α) : Val := .tuple [e1 p]
def v2 (e1 : α → Val) (e2 : β → Val) (p : α × β) : Val := .tuple [e1 p.1, e2 p.2]
def v3 (e1 : α → Val) (e2 : β → Val) (e3 : γ → Val) (p : α × β × γ) : Val := .tuple [e1 p.1, e2 p.2.1, e3 p.2.2]
def v4 (e1 : α → Val) (e2 : β → Val) (e3 : γ → Val) (e4 : δ → Val) (p : α × β × γ × δ) : Val := .tuple [e1 p.1, e2 p.2.1, e3 p.2.2.1, e4 p.2.2.2]
def v5 (e1 : α → Val) (e2 : β → Val) (e3 : γ → Val) (e4 : δ → Val) (e5 : ε → Val) (p : α × β × γ × δ × ε) : Val := .tuple [e1 p.1, e2 p.2.1, e3 p.2.2.1, e4 p.2.2.2.1, e5 p.2.2.2.2]
def v6 (e1 : α → Val) (e2 : β → Val) (e3 : γ → Val) (e4 : δ → Val) (e5 : ε → Val) (e6 : ζ → Val) (p : α × β × γ × δ × ε × ζ) : Val := .tuple [e1 p.1, e2 p.2.1, e3 p.2.2.1, e4 p.2.2.2.1, e5 p.2.2.2.2.1, e6 p.2.2.2.2.2]
/-- the items as data -/
def dL (e : α → Val) (xs : List α) : List D := xs.map fun a => (e a).d
theorem vL_d (e : α → Val) (xs : List α) : (vL e xs).d = .list (dL e xs) := by
  show PyData.list (Val.ds (xs.map e)) = _
  rw [ds_map, List.map_map]; rfl
theorem vT_d (e : α → Val) (xs : List α) : (vT e xs).d = .tuple (dL e xs) := by
  show PyData.tuple (Val.ds (xs.map e)) = _
  rw [ds_map, List.map_map]; rfl
theorem dL_len (e : α → Val) (xs : List α) : (dL e xs).length = xs.length := by unfold dL; rw [List.length_map]
theorem dL_flat (e : α → Val) (xs : List α) : flatL (dL e xs) = true := by
  rw [show dL e xs = (xs.map e).map Val.d by rw [List.map_map]; rfl]; exact flatL_map _
theorem atI_map (f : α → β) (xs : List α) (i : Int) : L2.atI (xs.map f) i = (L2.atI xs i).map f := by
  unfold L2.atI
  rw [List.length_map]
  cases L2.ixN xs.length i with
  | none => rfl
  | some j => simp

/-! ### one like the other -/
structure EQ [DecidableEq α] (e : α → Val) (n : Nat) : Prop where
  dep : ∀ x, (e x).d.depth ≤ n
  eq : ∀ x y, PyData.eqv (e x).d (e y).d = decide (x = y)
theorem EQ.int : EQ Val.int 0 := ⟨fun _ => by simp [Val.d, PyData.depth], fun x y => eqv_int x y⟩
theorem EQ.bool : EQ Val.bool 0 := ⟨fun _ => by simp [Val.d, PyData.depth], fun x y => eqv_bool x y⟩
theorem EQ.str : EQ Val.str 0 := ⟨fun _ => by simp [Val.d, PyData.depth], fun x y => by
  show PyData.eqv (.str x) (.str y) = _
  simp only [PyData.eqv]
  by_cases h : x = y
  · rw [decide_eq_true h]; exact beq_iff_eq.mpr h
  · rw [decide_eq_false h]; exact beq_eq_false_iff_ne.mpr h⟩
theorem EQ.le [DecidableEq α] {e : α → Val} {n m : Nat} (h : EQ e n) (hl : n ≤ m) : EQ e m := ⟨fun x => Nat.le_trans (h.dep x) hl, h.eq⟩
theorem dep_all [DecidableEq α] {e : α → Val} {n : Nat} (h : EQ e n) : ∀ xs : List α, PyData.depthAll (dL e xs) ≤ n
  | [] => by simp [dL, PyData.depthAll]
  | x :: xs => by
    have h1 := h.dep x
    have h2 := dep_all h xs
    show PyData.depthAll ((e x).d :: dL e xs) ≤ n
    simp only [PyData.depthAll]
    omega
theorem eqv_dL [DecidableEq α] {e : α → Val} {n : Nat} (h : EQ e n) : ∀ xs ys : List α, PyData.eqvAll (dL e xs) (dL e ys) = decide (xs = ys)
  | [], [] => by simp [dL, PyData.eqvAll]
  | [], y :: ys => by simp [dL, PyData.eqvAll]
  | x :: xs, [] => by simp [dL, PyData.eqvAll]
  | x :: xs, y :: ys => by
    show PyData.eqvAll ((e x).d :: dL e xs) ((e y).d :: dL e ys) = _
    rw [PyData.eqvAll, h.eq, eqv_dL h xs ys]
    by_cases h1 : x = y <;> by_cases h2 : xs = ys <;> simp [h1, h2]
theorem EQ.vL [DecidableEq α] {e : α → Val} {n : Nat} (h : EQ e n) : EQ (vL e) (n + 1) :=
  ⟨fun x => by rw [vL_d]; simp only [PyData.depth]; have := dep_all h x; omega, fun x y => by rw [vL_d, vL_d]; simp only [PyData.eqv]; exact eqv_dL h x y⟩
theorem EQ.vT [DecidableEq α] {e : α → Val} {n : Nat} (h : EQ e n) : EQ (vT e) (n + 1) :=
  ⟨fun x => by rw [vT_d]; simp only [PyData.depth]; have := dep_all h x; omega, fun x y => by rw [vT_d, vT_d]; simp only [PyData.eqv]; exact eqv_dL h x y⟩
def NN (e : α → Val) : Prop := ∀ x, ∀ y : Val, isNon (e x).d = false ∧ PyData.eqv (e x).d .none = false ∧ PyData.eqv .none (e x).d = false
theorem NN.int : NN Val.int := fun _ _ => ⟨rfl, rfl, rfl⟩
theorem NN.str : NN Val.str := fun _ _ => ⟨rfl, rfl, rfl⟩
theorem NN.bool : NN Val.bool := fun _ _ => ⟨rfl, rfl, rfl⟩
theorem NN.vL {e : α → Val} : NN (vL e) := fun _ _ => ⟨rfl, rfl, rfl⟩
theorem NN.vT {e : α → Val} : NN (vT e) := fun _ _ => ⟨rfl, rfl, rfl⟩
theorem NN.v1 {e1 : α → Val} : NN (v1 e1) := fun _ _ => ⟨rfl, rfl, rfl⟩
theorem NN.v2 {e1 : α → Val} {e2 : β → Val} : NN (v2 e1 e2) := fun _ _ => ⟨rfl, rfl, rfl⟩
theorem NN.v3 {e1 : α → Val} {e2 : β → Val} {e3 : γ → Val} : NN (v3 e1 e2 e3) := fun _ _ => ⟨rfl, rfl, rfl⟩
theorem NN.v4 {e1 : α → Val} {e2 : β → Val} {e3 : γ → Val} {e4 : δ → Val} : NN (v4 e1 e2 e3 e4) := fun _ _ => ⟨rfl, rfl, rfl⟩
theorem NN.v5 {e1 : α → Val} {e2 : β → Val} {e3 : γ → Val} {e4 : δ → Val} {e5 : ε → Val} : NN (v5 e1 e2 e3 e4 e5) := fun _ _ => ⟨rfl, rfl, rfl⟩
theorem NN.v6 {e1 : α → Val} {e2 : β → Val} {e3 : γ → Val} {e4 : δ → Val} {e5 : ε → Val} {e6 : ζ → Val} : NN (v6 e1 e2 e3 e4 e5 e6) := fun _ _ => ⟨rfl, rfl, rfl⟩
theorem EQ.vO [DecidableEq α] {e : α → Val} {n : Nat} (h : EQ e n) (nn : NN e) : EQ (vO e) n :=
  ⟨fun x => by
    cases x with
    | none => show (PyData.none).depth ≤ n; simp [PyData.depth]
    | some a => exact h.dep a, fun x y => by
    cases x with
    | none => cases y with
      | none => rfl
      | some b => show PyData.eqv .none (e b).d = _; rw [(nn b .none).2.2]; simp
    | some a => cases y with
      | none => show PyData.eqv (e a).d .none = _; rw [(nn a .none).2.1]; simp
      | some b => show PyData.eqv (e a).d (e b).d = _; rw [h.eq]; simp⟩
section
variable [DecidableEq α] [DecidableEq β] [DecidableEq γ] [DecidableEq δ] [DecidableEq ε] [DecidableEq ζ] {e1 : α → Val} {e2 : β → Val} {e3 : γ → Val} {e4 : δ → Val} {e5 : ε → Val} {e6 : ζ → Val} {n : Nat}
theorem EQ.v1 (h1 : EQ e1 n) : EQ (v1 e1) (n + 1) :=
  ⟨fun x => by have a := h1.dep x; show PyData.depth (.tuple [(e1 x).d]) ≤ _; simp only [PyData.depth, PyData.depthAll]; omega,
   fun x y => by show PyData.eqv (.tuple [(e1 x).d]) (.tuple [(e1 y).d]) = _; simp only [PyData.eqv, PyData.eqvAll, h1.eq, Bool.and_true]⟩
theorem EQ.v2 (h1 : EQ e1 n) (h2 : EQ e2 n) : EQ (v2 e1 e2) (n + 1) :=
  ⟨fun x => by have a := h1.dep x.1; have b := h2.dep x.2; show PyData.depth (.tuple [(e1 x.1).d, (e2 x.2).d]) ≤ _; simp only [PyData.depth, PyData.depthAll]; omega,
   fun x y => by
    show PyData.eqv (.tuple [(e1 x.1).d, (e2 x.2).d]) (.tuple [(e1 y.1).d, (e2 y.2).d]) = _
    simp only [PyData.eqv, PyData.eqvAll, h1.eq, h2.eq, Bool.and_true]
    rw [← Bool.decide_and]; exact decide_eq_decide.mpr Prod.ext_iff.symm⟩
theorem EQ.v3 (h1 : EQ e1 n) (h2 : EQ e2 n) (h3 : EQ e3 n) : EQ (v3 e1 e2 e3) (n + 1) :=
  ⟨fun x => by have a := h1.dep x.1; have b := h2.dep x.2.1; have c := h3.dep x.2.2; show PyData.depth (.tuple [(e1 x.1).d, (e2 x.2.1).d, (e3 x.2.2).d]) ≤ _; simp only [PyData.depth, PyData.depthAll]; omega,
   fun x y => by
    show PyData.eqv (.tuple [(e1 x.1).d, (e2 x.2.1).d, (e3 x.2.2).d]) (.tuple [(e1 y.1).d, (e2 y.2.1).d, (e3 y.2.2).d]) = _
    simp only [PyData.eqv, PyData.eqvAll, h1.eq, h2.eq, h3.eq, Bool.and_true]
    rw [← Bool.decide_and, ← Bool.decide_and]; exact decide_eq_decide.mpr (by rw [Prod.ext_iff, Prod.ext_iff])⟩
theorem EQ.v4 (h1 : EQ e1 n) (h2 : EQ e2 n) (h3 : EQ e3 n) (h4 : EQ e4 n) : EQ (v4 e1 e2 e3 e4) (n + 1) :=
  ⟨fun x => by have a := h1.dep x.1; have b := h2.dep x.2.1; have c := h3.dep x.2.2.1; have d := h4.dep x.2.2.2; show PyData.depth (.tuple [(e1 x.1).d, (e2 x.2.1).d, (e3 x.2.2.1).d, (e4 x.2.2.2).d]) ≤ _; simp only [PyData.depth, PyData.depthAll]; omega,
   fun x y => by
    show PyData.eqv (.tuple [(e1 x.1).d, (e2 x.2.1).d, (e3 x.2.2.1).d, (e4 x.2.2.2).d]) (.tuple [(e1 y.1).d, (e2 y.2.1).d, (e3 y.2.2.1).d, (e4 y.2.2.2).d]) = _
    simp only [PyData.eqv, PyData.eqvAll, h1.eq, h2.eq, h3.eq, h4.eq, Bool.and_true]
    rw [← Bool.decide_and, ← Bool.decide_and, ← Bool.decide_and]; exact decide_eq_decide.mpr (by rw [Prod.ext_iff, Prod.ext_iff, Prod.ext_iff])⟩
theorem EQ.v5 (h1 : EQ e1 n) (h2 : EQ e2 n) (h3 : EQ e3 n) (h4 : EQ e4 n) (h5 : EQ e5 n) : EQ (v5 e1 e2 e3 e4 e5) (n + 1) :=
  ⟨fun x => by have a := h1.dep x.1; have b := h2.dep x.2.1; have c := h3.dep x.2.2.1; have d := h4.dep x.2.2.2.1; have e := h5.dep x.2.2.2.2; show PyData.depth (.tuple [(e1 x.1).d, (e2 x.2.1).d, (e3 x.2.2.1).d, (e4 x.2.2.2.1).d, (e5 x.2.2.2.2).d]) ≤ _; simp only [PyData.depth, PyData.depthAll]; omega,
   fun x y => by
    show PyData.eqv (.tuple [(e1 x.1).d, (e2 x.2.1).d, (e3 x.2.2.1).d, (e4 x.2.2.2.1).d, (e5 x.2.2.2.2).d]) (.tuple [(e1 y.1).d, (e2 y.2.1).d, (e3 y.2.2.1).d, (e4 y.2.2.2.1).d, (e5 y.2.2.2.2).d]) = _
    simp only [PyData.eqv, PyData.eqvAll, h1.eq, h2.eq, h3.eq, h4.eq, h5.eq, Bool.and_true]
    rw [← Bool.decide_and, ← Bool.decide_and, ← Bool.decide_and, ← Bool.decide_and]; exact decide_eq_decide.mpr (by rw [Prod.ext_iff, Prod.ext_iff, Prod.ext_iff, Prod.ext_iff])⟩
theorem EQ.v6 (h1 : EQ e1 n) (h2 : EQ e2 n) (h3 : EQ e3 n) (h4 : EQ e4 n) (h5 : EQ e5 n) (h6 : EQ e6 n) : EQ (v6 e1 e2 e3 e4 e5 e6) (n + 1) :=
  ⟨fun x => by have a := h1.dep x.1; have b := h2.dep x.2.1; have c := h3.dep x.2.2.1; have d := h4.dep x.2.2.2.1; have e := h5.dep x.2.2.2.2.1; have f := h6.dep x.2.2.2.2.2; show PyData.depth (.tuple [(e1 x.1).d, (e2 x.2.1).d, (e3 x.2.2.1).d, (e4 x.2.2.2.1).d, (e5 x.2.2.2.2.1).d, (e6 x.2.2.2.2.2).d]) ≤ _; simp only [PyData.depth, PyData.depthAll]; omega,
   fun x y => by
    show PyData.eqv (.tuple [(e1 x.1).d, (e2 x.2.1).d, (e3 x.2.2.1).d, (e4 x.2.2.2.1).d, (e5 x.2.2.2.2.1).d, (e6 x.2.2.2.2.2).d]) (.tuple [(e1 y.1).d, (e2 y.2.1).d, (e3 y.2.2.1).d, (e4 y.2.2.2.1).d, (e5 y.2.2.2.2.1).d, (e6 y.2.2.2.2.2).d]) = _
    simp only [PyData.eqv, PyData.eqvAll, h1.eq, h2.eq, h3.eq, h4.eq, h5.eq, h6.eq, Bool.and_true]
    rw [← Bool.decide_and, ← Bool.decide_and, ← Bool.decide_and, ← Bool.decide_and, ← Bool.decide_and]; exact decide_eq_decide.mpr (by rw [Prod.ext_iff, Prod.ext_iff, Prod.ext_iff, Prod.ext_iff, Prod.ext_iff])⟩
end

/-! ### one ahead of the other -/
structure ORD (e : α → Val) (lt : α → α → Bool) (n : Nat) : Prop where
  dep : ∀ x, (e x).d.depth ≤ n
  ali : ∀ x y, PySem.W.alike (e x).d (e y).d = true
  nn : ∀ x, (match (e x).d with | .none => false | _ => true) = true
  lt : ∀ x y, PySem.W.dataLt (e x).d (e y).d = lt x y
def ltI (a b : Int) : Bool := decide (a < b)
def ltS (a b : Str) : Bool := decide (a.cps.toList < b.cps.toList)
def lt2 [DecidableEq α] (la : α → α → Bool) (lb : β → β → Bool) (x y : α × β) : Bool := if x.1 = y.1 then lb x.2 y.2 else la x.1 y.1
def ltT [DecidableEq α] (la : α → α → Bool) : List α → List α → Bool
  | [], [] => false
  | [], _ :: _ => true
  | _ :: _, [] => false
  | x :: xs, y :: ys => if x = y then ltT la xs ys else la x y
theorem ORD.int : ORD Val.int ltI 0 := ⟨fun _ => by simp [Val.d, PyData.depth], fun _ _ => rfl, fun _ => rfl, fun x y => PySem.W.dataLt_int x y⟩
theorem ORD.str : ORD Val.str ltS 0 := ⟨fun _ => by simp [Val.d, PyData.depth], fun _ _ => rfl, fun _ => rfl, fun x y => PySem.W.dataLt_str x y⟩
theorem lt_cons {x y : D} {xs ys : List D} (h : PySem.W.alike x y = true) : PySem.W.dataLt (.tuple (x :: xs)) (.tuple (y :: ys)) = if PyData.eqv x y = true then PySem.W.dataLt (.tuple xs) (.tuple ys) else PySem.W.dataLt x y := by
  rw [PySem.W.dataLt_tuple, PySem.W.dataLt_tuple, PySem.W.dataLt_cons h]
theorem lt_one {x y : D} (h : PySem.W.alike x y = true) (hs : PyData.eqv x y = true → PySem.W.dataLt x y = false) : PySem.W.dataLt (.tuple [x]) (.tuple [y]) = PySem.W.dataLt x y := by
  rw [lt_cons h]
  cases e : PyData.eqv x y with
  | true => rw [if_pos rfl, PySem.W.dataLt_self, hs e]
  | false => rw [if_neg (by decide)]
theorem ORD.self [DecidableEq α] {e : α → Val} {lt : α → α → Bool} {n m : Nat} (q : EQ e m) (h : ORD e lt n) {x y : α} (he : PyData.eqv (e x).d (e y).d = true) : PySem.W.dataLt (e x).d (e y).d = false := by
  rw [q.eq] at he
  rw [of_decide_eq_true he, PySem.W.dataLt_self]
theorem ORD.v1 [DecidableEq α] {e1 : α → Val} {l1 : α → α → Bool} {n : Nat} (q1 : EQ e1 n) (h1 : ORD e1 l1 n) : ORD (v1 e1) l1 (n + 1) :=
  ⟨q1.v1.dep, fun x y => by show (PySem.W.alike (e1 x).d (e1 y).d && true) = true; rw [h1.ali]; rfl, fun _ => rfl, fun x y => by
    show PySem.W.dataLt (.tuple [(e1 x).d]) (.tuple [(e1 y).d]) = _
    rw [lt_one (h1.ali _ _) (h1.self q1), h1.lt]⟩
theorem ORD.v2 [DecidableEq α] [DecidableEq β] {e1 : α → Val} {e2 : β → Val} {l1 : α → α → Bool} {l2 : β → β → Bool} {n : Nat} (q1 : EQ e1 n) (q2 : EQ e2 n) (h1 : ORD e1 l1 n) (h2 : ORD e2 l2 n) : ORD (v2 e1 e2) (lt2 l1 l2) (n + 1) :=
  ⟨(q1.v2 q2).dep, fun x y => by show (PySem.W.alike (e1 x.1).d (e1 y.1).d && (PySem.W.alike (e2 x.2).d (e2 y.2).d && true)) = true; rw [h1.ali, h2.ali]; rfl, fun _ => rfl, fun x y => by
    show PySem.W.dataLt (.tuple [(e1 x.1).d, (e2 x.2).d]) (.tuple [(e1 y.1).d, (e2 y.2).d]) = _
    rw [lt_cons (h1.ali _ _), lt_one (h2.ali _ _) (h2.self q2), h1.lt, h2.lt, q1.eq]
    unfold lt2
    by_cases h : x.1 = y.1 <;> simp [h]⟩
theorem ORD.v3 [DecidableEq α] [DecidableEq β] [DecidableEq γ] {e1 : α → Val} {e2 : β → Val} {e3 : γ → Val} {l1 : α → α → Bool} {l2 : β → β → Bool} {l3 : γ → γ → Bool} {n : Nat} (q1 : EQ e1 n) (q2 : EQ e2 n) (q3 : EQ e3 n) (h1 : ORD e1 l1 n) (h2 : ORD e2 l2 n) (h3 : ORD e3 l3 n) : ORD (v3 e1 e2 e3) (lt2 l1 (lt2 l2 l3)) (n + 1) :=
  ⟨(q1.v3 q2 q3).dep, fun x y => by show (PySem.W.alike (e1 x.1).d (e1 y.1).d && (PySem.W.alike (e2 x.2.1).d (e2 y.2.1).d && (PySem.W.alike (e3 x.2.2).d (e3 y.2.2).d && true))) = true; rw [h1.ali, h2.ali, h3.ali]; rfl, fun _ => rfl, fun x y => by
    show PySem.W.dataLt (.tuple [(e1 x.1).d, (e2 x.2.1).d, (e3 x.2.2).d]) (.tuple [(e1 y.1).d, (e2 y.2.1).d, (e3 y.2.2).d]) = _
    rw [lt_cons (h1.ali _ _), lt_cons (h2.ali _ _), lt_one (h3.ali _ _) (h3.self q3), h1.lt, h2.lt, h3.lt, q1.eq, q2.eq]
    unfold lt2
    by_cases h : x.1 = y.1 <;> by_cases h' : x.2.1 = y.2.1 <;> simp [h, h']⟩
theorem ali_dL {e : α → Val} {lt : α → α → Bool} {n : Nat} (h : ORD e lt n) : ∀ xs ys : List α, PySem.W.alikeAll (dL e xs) (dL e ys) = true
  | [], _ => by simp [dL, PySem.W.alikeAll]
  | _ :: _, [] => by simp [dL, PySem.W.alikeAll]
  | x :: xs, y :: ys => by
    show PySem.W.alikeAll ((e x).d :: dL e xs) ((e y).d :: dL e ys) = true
    rw [PySem.W.alikeAll, h.ali, ali_dL h xs ys]; rfl
theorem lt_dL [DecidableEq α] {e : α → Val} {lt : α → α → Bool} {n m : Nat} (q : EQ e m) (h : ORD e lt n) : ∀ xs ys : List α, PySem.W.dataLt (.tuple (dL e xs)) (.tuple (dL e ys)) = ltT lt xs ys
  | [], [] => PySem.W.dataLt_self _
  | [], y :: ys => by
    rw [PySem.W.dataLt_tuple]
    show PyProof.Rows.lexLt itemOrd (PySem.W.keyToksAll []) (PySem.W.keyToksAll ((e y).d :: dL e ys)) = true
    rw [PySem.W.keyToksAll, PySem.W.keyToksAll]
    rfl
  | x :: xs, [] => by
    rw [PySem.W.dataLt_tuple]
    show PyProof.Rows.lexLt itemOrd (PySem.W.keyToksAll ((e x).d :: dL e xs)) (PySem.W.keyToksAll []) = false
    rw [PySem.W.keyToksAll, PySem.W.keyToksAll]
    rfl
  | x :: xs, y :: ys => by
    show PySem.W.dataLt (.tuple ((e x).d :: dL e xs)) (.tuple ((e y).d :: dL e ys)) = if x = y then ltT lt xs ys else lt x y
    rw [lt_cons (h.ali _ _), q.eq, h.lt, lt_dL q h xs ys]
    by_cases hx : x = y <;> simp [hx]
theorem ORD.vT [DecidableEq α] {e : α → Val} {lt : α → α → Bool} {n : Nat} (q : EQ e n) (h : ORD e lt n) : ORD (vT e) (ltT lt) (n + 1) :=
  ⟨q.vT.dep, fun x y => by rw [vT_d, vT_d]; exact ali_dL h x y, fun _ => rfl, fun x y => by rw [vT_d, vT_d]; exact lt_dL q h x y⟩
end

/-! ### expressions -/
section
variable {α β γ δ : Type} {S : Sto} {env : Envd} {a b c : Ex} {x y z d : D} {C : Clls} {fid : Nat}
theorem p_bin {f : Sto → D → D → Option D} (ha : a env S = .ok x S) (hb : b env S = .ok y S) (hf : f S x y = some z) : bin f a b env S = .ok z S := by rw [bin_eq, ha, R.bind_ok, hb, R.bind_ok, hf, lift_some]
theorem m_bin {f : Sto → D → D → Option D} {m : M α} {e : α → D} (ha : a env S = .ok x S) (hb : b env S = .ok y S) (hf : RG (lift (f S x y) S) S m e) : RG (bin f a b env S) S m e := by rw [bin_eq, ha, R.bind_ok, hb, R.bind_ok]; exact hf
theorem bin_e1 {f : Sto → D → D → Option D} {w : Exn} (ha : a env S = .er w S) : bin f a b env S = .er w S := by rw [bin_eq, ha]; rfl
theorem bin_e2 {f : Sto → D → D → Option D} {w : Exn} (ha : a env S = .ok x S) (hb : b env S = .er w S) : bin f a b env S = .er w S := by rw [bin_eq, ha, R.bind_ok, hb]; rfl
theorem p_cmp {f : Sto → D → D → Option Bool} {r : Bool} (ha : a env S = .ok x S) (hb : b env S = .ok y S) (hf : f S x y = some r) : cmp f a b env S = .ok (Val.bool r).d S := by rw [cmp_eq, ha, R.bind_ok, hb, R.bind_ok, hf]; rfl
theorem m_cmp {f : Sto → D → D → Option Bool} {m : M Bool} (ha : a env S = .ok x S) (hb : b env S = .ok y S) (hf : RG (lift (f S x y) S) S m id) : RE (cmp f a b env S) S m Val.bool := by
  rw [cmp_eq, ha, R.bind_ok, hb, R.bind_ok]
  cases e : f S x y with
  | none =>
    rw [e] at hf
    cases m with
    | ok r => cases hf
    | er _ => exact nomatch hf.1
    | no => trivial
  | some r =>
    rw [e] at hf
    cases m with
    | ok r' => cases hf; rfl
    | er _ => exact nomatch hf.1
    | no => trivial
theorem cmp_e1 {f : Sto → D → D → Option Bool} {w : Exn} (ha : a env S = .er w S) : cmp f a b env S = .er w S := by rw [cmp_eq, ha]; rfl
theorem cmp_e2 {f : Sto → D → D → Option Bool} {w : Exn} (ha : a env S = .ok x S) (hb : b env S = .er w S) : cmp f a b env S = .er w S := by rw [cmp_eq, ha, R.bind_ok, hb]; rfl
theorem p_cmpT {f : Sto → D → D → Option Bool} {r : Bool} (ha : a env S = .ok x S) (hb : b env S = .ok y S) (hf : f S x y = some r) : cmpT f a b env S = .ok r S := by rw [cmpT_eq, ha, R.bind_ok, hb, R.bind_ok, hf]; rfl
theorem m_cmpT {f : Sto → D → D → Option Bool} {m : M α} {e : α → Bool} (ha : a env S = .ok x S) (hb : b env S = .ok y S) (hf : RG (lift (f S x y) S) S m e) : RG (cmpT f a b env S) S m e := by rw [cmpT_eq, ha, R.bind_ok, hb, R.bind_ok]; exact hf
theorem cmpT_e1 {f : Sto → D → D → Option Bool} {w : Exn} (ha : a env S = .er w S) : cmpT f a b env S = .er w S := by rw [cmpT_eq, ha]; rfl
theorem cmpT_e2 {f : Sto → D → D → Option Bool} {w : Exn} (ha : a env S = .ok x S) (hb : b env S = .er w S) : cmpT f a b env S = .er w S := by rw [cmpT_eq, ha, R.bind_ok, hb]; rfl
theorem p_chn {f g : Sto → D → D → Option Bool} {p q : Bool} (ha : a env S = .ok x S) (hb : b env S = .ok y S) (hc : c env S = .ok z S) (hf : f S x y = some p) (hg : g S y z = some q) : chn f g a b c env S = .ok (Val.bool (p && q)).d S := by
  rw [chn_eq, ha, R.bind_ok, hb, R.bind_ok, hf]
  cases p with
  | true => rw [thenB_t, hc, R.bind_ok, hg]; rfl
  | false => rfl
theorem chn_e1 {f g : Sto → D → D → Option Bool} {w : Exn} (ha : a env S = .er w S) : chn f g a b c env S = .er w S := by rw [chn_eq, ha]; rfl
theorem chn_e2 {f g : Sto → D → D → Option Bool} {w : Exn} (ha : a env S = .ok x S) (hb : b env S = .er w S) : chn f g a b c env S = .er w S := by rw [chn_eq, ha, R.bind_ok, hb]; rfl
theorem p_chnT {f g : Sto → D → D → Option Bool} {p q : Bool} (ha : a env S = .ok x S) (hb : b env S = .ok y S) (hc : c env S = .ok z S) (hf : f S x y = some p) (hg : g S y z = some q) : chnT f g a b c env S = .ok (p && q) S := by
  rw [chnT_eq, ha, R.bind_ok, hb, R.bind_ok, hf]
  cases p with
  | true => rw [thenB_t, hc, R.bind_ok, hg]; rfl
  | false => rfl
theorem chnT_e1 {f g : Sto → D → D → Option Bool} {w : Exn} (ha : a env S = .er w S) : chnT f g a b c env S = .er w S := by rw [chnT_eq, ha]; rfl
theorem chnT_e2 {f g : Sto → D → D → Option Bool} {w : Exn} (ha : a env S = .ok x S) (hb : b env S = .er w S) : chnT f g a b c env S = .er w S := by rw [chnT_eq, ha, R.bind_ok, hb]; rfl
theorem p_un {f : Sto → D → Option D} (ha : a env S = .ok x S) (hf : f S x = some z) : un f a env S = .ok z S := by rw [un_eq, ha, R.bind_ok, hf]; rfl
theorem un_e {f : Sto → D → Option D} {w : Exn} (ha : a env S = .er w S) : un f a env S = .er w S := by rw [un_eq, ha]; rfl
theorem p_tru {r : Bool} (ha : a env S = .ok x S) (h : tv S x = some r) : tru a env S = .ok r S := by rw [tru_eq, ha, R.bind_ok, h]; rfl
theorem tru_e {w : Exn} (ha : a env S = .er w S) : tru a env S = .er w S := by rw [tru_eq, ha]; rfl
variable {s t : Tx} {p q : Bool}
theorem p_andT (hs : s env S = .ok p S) (ht : t env S = .ok q S) : andT s t env S = .ok (p && q) S := by
  rw [andT_eq, hs, R.bind_ok]
  cases p with
  | true => exact ht
  | false => rfl
theorem p_orT (hs : s env S = .ok p S) (ht : t env S = .ok q S) : orT s t env S = .ok (p || q) S := by
  rw [orT_eq, hs, R.bind_ok]
  cases p with
  | true => rfl
  | false => exact ht
theorem m_andT {m : M Bool} (hs : s env S = .ok p S) (ht : RG (t env S) S m id) : RG (andT s t env S) S (if p = true then m else .ok false) id := by
  rw [andT_eq, hs, R.bind_ok]
  cases p with
  | true => exact ht
  | false => exact rfl
theorem m_orT {m : M Bool} (hs : s env S = .ok p S) (ht : RG (t env S) S m id) : RG (orT s t env S) S (if p = true then .ok true else m) id := by
  rw [orT_eq, hs, R.bind_ok]
  cases p with
  | true => exact rfl
  | false => exact ht
theorem andT_e {w : Exn} (hs : s env S = .er w S) : andT s t env S = .er w S := by rw [andT_eq, hs]; rfl
theorem orT_e {w : Exn} (hs : s env S = .er w S) : orT s t env S = .er w S := by rw [orT_eq, hs]; rfl
theorem p_notT (hs : s env S = .ok p S) : notT s env S = .ok (!p) S := by rw [notT_eq, hs]; rfl
theorem notT_e {w : Exn} (hs : s env S = .er w S) : notT s env S = .er w S := by rw [notT_eq, hs]; rfl
theorem p_andE (ha : a env S = .ok (Val.bool p).d S) (hb : b env S = .ok (Val.bool q).d S) : andE a b env S = .ok (Val.bool (p && q)).d S := by
  rw [andE_eq, ha, R.bind_ok]
  cases p with
  | true => show thenB (some true) _ _ = _; rw [thenB_t, hb]; rfl
  | false => rfl
theorem p_orE (ha : a env S = .ok (Val.bool p).d S) (hb : b env S = .ok (Val.bool q).d S) : orE a b env S = .ok (Val.bool (p || q)).d S := by
  rw [orE_eq, ha, R.bind_ok]
  cases p with
  | true => rfl
  | false => show thenB (some false) _ _ = _; rw [thenB_f, hb]; rfl
theorem m_andE {m : M Bool} (ha : a env S = .ok (Val.bool p).d S) (hb : RE (b env S) S m Val.bool) : RE (andE a b env S) S (if p = true then m else .ok false) Val.bool := by
  rw [andE_eq, ha, R.bind_ok]
  cases p with
  | true => exact hb
  | false => exact rfl
theorem m_orE {m : M Bool} (ha : a env S = .ok (Val.bool p).d S) (hb : RE (b env S) S m Val.bool) : RE (orE a b env S) S (if p = true then .ok true else m) Val.bool := by
  rw [orE_eq, ha, R.bind_ok]
  cases p with
  | true => exact rfl
  | false => exact hb
theorem andE_e {w : Exn} (ha : a env S = .er w S) : andE a b env S = .er w S := by rw [andE_eq, ha]; rfl
theorem orE_e {w : Exn} (ha : a env S = .er w S) : orE a b env S = .er w S := by rw [orE_eq, ha]; rfl
theorem p_notE {r : Bool} (ha : a env S = .ok x S) (h : tv S x = some r) : notE a env S = .ok (Val.bool (!r)).d S := by rw [notE_eq, ha, R.bind_ok, h]; rfl
theorem notE_e {w : Exn} (ha : a env S = .er w S) : notE a env S = .er w S := by rw [notE_eq, ha]; rfl
theorem p_ite {e : α → Val} {u v : α} (hs : s env S = .ok p S) (ha : a env S = .ok (e u).d S) (hb : b env S = .ok (e v).d S) : iteE s a b env S = .ok (e (if p = true then u else v)).d S := by
  rw [iteE_eq, hs, R.bind_ok]
  cases p with
  | true => exact ha
  | false => exact hb
theorem m_ite {e : α → D} {m n : M α} (hs : s env S = .ok p S) (ha : RG (a env S) S m e) (hb : RG (b env S) S n e) : RG (iteE s a b env S) S (if p = true then m else n) e := by
  rw [iteE_eq, hs, R.bind_ok]
  cases p with
  | true => exact ha
  | false => exact hb
theorem ite_e {w : Exn} (hs : s env S = .er w S) : iteE s a b env S = .er w S := by rw [iteE_eq, hs]; rfl
variable {g : Ex} {gs : Exs} {ds es : List D}
theorem p_nil : nilX env S = .ok [] S := rfl
theorem p_cons (h : g env S = .ok d S) (hs : gs env S = .ok ds S) : consX g gs env S = .ok (d :: ds) S := by rw [consX_eq, h, R.bind_ok, hs]; rfl
theorem cons_e1 {w : Exn} (h : g env S = .er w S) : consX g gs env S = .er w S := by rw [consX_eq, h]; rfl
theorem cons_e2 {w : Exn} (h : g env S = .ok d S) (hs : gs env S = .er w S) : consX g gs env S = .er w S := by rw [consX_eq, h, R.bind_ok, hs]; rfl
theorem p_tup (h : gs env S = .ok ds S) (hl : Nat.ble ds.length 1000 = true) : tupE gs env S = .ok (.tuple ds) S := by
  rw [tupE_eq, h, R.bind_ok, if_pos (len_size (Nat.le_of_ble_eq_true hl))]
theorem tup_e {w : Exn} (h : gs env S = .er w S) : tupE gs env S = .er w S := by rw [tupE_eq, h]; rfl
theorem p_lst (h : gs env S = .ok ds S) (hl : Nat.ble ds.length 1000 = true) : lstF gs env S = .ok ds S := by
  rw [lstF_eq, h, R.bind_ok, if_pos (len_size (Nat.le_of_ble_eq_true hl))]
theorem lst_e {w : Exn} (h : gs env S = .er w S) : lstF gs env S = .er w S := by rw [lstF_eq, h]; rfl
theorem p_frz (h : gs env S = .ok ds S) : frz gs env S = .ok (.list ds) S := by rw [frz_eq, h]; rfl
theorem m_frz {m : M α} {e : α → List D} (h : RG (gs env S) S m e) : RG (frz gs env S) S m fun a => .list (e a) := by
  cases m with
  | ok v => rw [frz_eq, show gs env S = .ok (e v) S from h]; rfl
  | er x => exact ⟨by rw [frz_eq, h.1]; rfl, h.2⟩
  | no => trivial
theorem frz_e {w : Exn} (h : gs env S = .er w S) : frz gs env S = .er w S := by rw [frz_eq, h]; rfl
theorem m_call {m : M α} {e : α → D} (h : gs env S = .ok ds S) (hc : RG (C fid ds S) S m e) : RG (callE C fid gs env S) S m e := by rw [callE_eq, h, R.bind_ok]; exact hc
theorem call_e {w : Exn} (h : gs env S = .er w S) : callE C fid gs env S = .er w S := by rw [callE_eq, h]; rfl
theorem p_blt {f : Sto → List D → Option D} (h : gs env S = .ok ds S) (hf : f S ds = some d) : bltE f gs env S = .ok d S := by rw [bltE_eq, h, R.bind_ok, hf]; rfl
theorem m_blt {f : Sto → List D → Option D} {m : M α} {e : α → D} (h : gs env S = .ok ds S) (hf : RG (lift (f S ds) S) S m e) : RG (bltE f gs env S) S m e := by rw [bltE_eq, h, R.bind_ok]; exact hf
theorem blt_e {f : Sto → List D → Option D} {w : Exn} (h : gs env S = .er w S) : bltE f gs env S = .er w S := by rw [bltE_eq, h]; rfl
theorem p_bltF {f : Sto → List D → Option (List D)} (h : gs env S = .ok ds S) (hf : f S ds = some es) : bltF f gs env S = .ok es S := by rw [bltF_eq, h, R.bind_ok, hf]; rfl
theorem m_bltF {f : Sto → List D → Option (List D)} {m : M α} {e : α → List D} (h : gs env S = .ok ds S) (hf : RG (lift (f S ds) S) S m e) : RG (bltF f gs env S) S m e := by rw [bltF_eq, h, R.bind_ok]; exact hf
theorem bltF_e {f : Sto → List D → Option (List D)} {w : Exn} (h : gs env S = .er w S) : bltF f gs env S = .er w S := by rw [bltF_eq, h]; rfl
theorem p_isi {ts : List Ty} {k : Kd} (h : g env S = .ok d S) (hk : kindD S d = some k) : isiE g ts env S = .ok (Val.bool (ts.any (isK k))).d S := by rw [isiE_eq, h, R.bind_ok, hk]; rfl
theorem isi_e {ts : List Ty} {w : Exn} (h : g env S = .er w S) : isiE g ts env S = .er w S := by rw [isiE_eq, h]; rfl
theorem p_noP : noP env S = .ok none S := rfl
theorem p_someP {i : Int} (h : g env S = .ok (Val.int i).d S) : someP g env S = .ok (some i) S := by rw [someP_eq, h]; rfl
variable {l u : Px} {lo hi : Option Int}
theorem p_slA (h : g env S = .ok x S) (hl : l env S = .ok lo S) (hu : u env S = .ok hi S) (hs : slV S x lo hi = some z) : slA g l u env S = .ok z S := by rw [slA_eq, h, R.bind_ok, hl, R.bind_ok, hu, R.bind_ok, hs]; rfl
theorem m_slA {m : M α} {e : α → D} (h : g env S = .ok x S) (hl : l env S = .ok lo S) (hu : u env S = .ok hi S) (hs : RG (lift (slV S x lo hi) S) S m e) : RG (slA g l u env S) S m e := by rw [slA_eq, h, R.bind_ok, hl, R.bind_ok, hu, R.bind_ok]; exact hs
theorem sl_e1 {w : Exn} (h : g env S = .er w S) : slA g l u env S = .er w S := by rw [slA_eq, h]; rfl
theorem sl_e2 {w : Exn} (h : g env S = .ok x S) (hl : l env S = .er w S) : slA g l u env S = .er w S := by rw [slA_eq, h, R.bind_ok, hl]; rfl
theorem sl_e3 {w : Exn} (h : g env S = .ok x S) (hl : l env S = .ok lo S) (hu : u env S = .er w S) : slA g l u env S = .er w S := by rw [slA_eq, h, R.bind_ok, hl, R.bind_ok, hu]; rfl
theorem someP_e {w : Exn} (h : g env S = .er w S) : someP g env S = .er w S := by rw [someP_eq, h]; rfl
-- walked things
variable {it : Items}
theorem p_valI (h : g env S = .ok d S) (hi : itemsD S d = some it) : valI g env S = .ok it S := by rw [valI_eq, h, R.bind_ok, hi]; rfl
theorem valI_e {w : Exn} (h : g env S = .er w S) : valI g env S = .er w S := by rw [valI_eq, h]; rfl
theorem p_enuI (h : g env S = .ok d S) (hi : enuD d = some it) : enuI g env S = .ok it S := by unfold enuI; rw [h, R.bind_ok, hi]; rfl
theorem enuI_e {w : Exn} (h : g env S = .er w S) : enuI g env S = .er w S := by unfold enuI; rw [h]; rfl
theorem rng1_e {w : Exn} (h : g env S = .er w S) : rng1 g env S = .er w S := by rw [rng1_eq, h]; rfl
theorem rng2_e1 {w : Exn} (ha : a env S = .er w S) : rng2 a b env S = .er w S := by rw [rng2_eq, ha]; rfl
theorem rng2_e2 {w : Exn} (ha : a env S = .ok x S) (hb : b env S = .er w S) : rng2 a b env S = .er w S := by rw [rng2_eq, ha, R.bind_ok, hb]; rfl
/-- the numbers of a range -/
def rangeI (lo hi : Int) : List Int := (List.range (hi - lo).toNat).map fun i => lo + (i : Nat)
theorem rangeI_d (lo hi : Int) : rangeL lo hi = dL Val.int (rangeI lo hi) := by
  unfold rangeL dL rangeI
  rw [List.map_map]; rfl
theorem big62 : (2 : Int) ^ 62 = 4611686018427387904 := by decide +kernel
@[irreducible] def rngM1 (j : Int) : M (List Int) := if -4611686018427387904 ≤ j ∧ j < 4611686018427387904 then .ok (rangeI 0 j) else .no
@[irreducible] def rngM2 (i j : Int) : M (List Int) := if (-4611686018427387904 ≤ i ∧ i < 4611686018427387904) ∧ (-4611686018427387904 ≤ j ∧ j < 4611686018427387904) then .ok (rangeI i j) else .no
theorem m_rng1 {j : Int} (h : g env S = .ok (Val.int j).d S) : RG (rng1 g env S) S (rngM1 j) fun xs => ((dL Val.int xs, none) : Items) := by
  rw [rng1_eq, h, R.bind_ok]
  unfold rngM1
  by_cases z : -4611686018427387904 ≤ j ∧ j < 4611686018427387904
  · rw [if_pos z]
    show rngR (.int j) S = _
    rw [rngR_int (by rw [big62]; exact z.1) (by rw [big62]; exact z.2), rangeI_d]
  · rw [if_neg z]; trivial
theorem p_rng1 {j : Int} (h : g env S = .ok (Val.int j).d S) (hj : Int.natAbs j ≤ 1000000) : rng1 g env S = .ok (dL Val.int (rangeI 0 j), none) S := by
  rw [rng1_eq, h, R.bind_ok]
  show rngR (.int j) S = _
  rw [rngR_int (by omega) (by omega), rangeI_d]
theorem m_rng2 {i j : Int} (ha : a env S = .ok (Val.int i).d S) (hb : b env S = .ok (Val.int j).d S) : RG (rng2 a b env S) S (rngM2 i j) fun xs => ((dL Val.int xs, none) : Items) := by
  rw [rng2_eq, ha, R.bind_ok, hb, R.bind_ok]
  unfold rngM2
  by_cases z : (-4611686018427387904 ≤ i ∧ i < 4611686018427387904) ∧ (-4611686018427387904 ≤ j ∧ j < 4611686018427387904)
  · rw [if_pos z]
    show lift (rngD (.int i) (.int j)) S = _
    unfold rngD
    have z' : (-(2 ^ 62) ≤ i ∧ i < 2 ^ 62) ∧ (-(2 ^ 62) ≤ j ∧ j < 2 ^ 62) := by rw [big62]; exact z
    simp only [if_pos z']
    rw [rangeI_d]; rfl
  · rw [if_neg z]; trivial
end

/-! ### comprehensions -/
@[irreducible] def sizeM (n : Nat) : M Unit := if n ≤ sizeLine then .ok () else .no
def compM {α β : Type} (c : α → M Bool) (g : α → M β) : List α → M (List β)
  | [] => .ok []
  | x :: xs => (c x).calm.bind fun b => if b = true then (g x).calm.bind fun y => (compM c g xs).bind fun ys => .ok (y :: ys) else compM c g xs
def mapM' {α β : Type} (g : α → M β) : List α → M (List β)
  | [] => .ok []
  | x :: xs => (g x).calm.bind fun y => (mapM' g xs).bind fun ys => .ok (y :: ys)
def allM {α : Type} (w : Bool) (c : α → M Bool) (g : α → M Bool) : List α → M Bool
  | [] => .ok w
  | x :: xs => (c x).calm.bind fun b => if b = true then (g x).calm.bind fun y => if y = w then allM w c g xs else .ok y else allM w c g xs
section
variable {α β γ δ : Type} {S : Sto} {env : Envd} {t : Tg} {c : Tx} {g : Ex} {o : Option Nat} {all : List D}
theorem comp_m {ea : α → D} {mc : α → M Bool} {mg : α → M β} {e : β → D} (hg : Cor.guard o all S) (h : ∀ x, ∃ env1, t (ea x) env = some env1 ∧ RG (c env1 S) S (mc x) id ∧ RG (g env1 S) S (mg x) e) :
    ∀ xs : List α, RG (compL t c g o all env (xs.map ea) S) S (compM mc mg xs) fun ys => ys.map e
  | [] => by show RG (guardR o all S (.ok [] S)) S (.ok []) _; rw [guardR_is hg]; rfl
  | x :: xs => by
    obtain ⟨env1, e1, h1, h2⟩ := h x
    have ih := comp_m hg h xs
    show RG (guardR o all S (optR (t (ea x) env) fun env1 => (c env1 S).calm.bind fun b S1 => if b = true then (g env1 S1).calm.bind fun y S2 => (compL t c g o all env (xs.map ea) S2).bind fun ys S3 => .ok (y :: ys) S3 else compL t c g o all env (xs.map ea) S1)) S ((mc x).calm.bind fun b => if b = true then (mg x).calm.bind fun y => (compM mc mg xs).bind fun ys => .ok (y :: ys) else compM mc mg xs) _
    rw [guardR_is hg, e1, optR_some]
    cases hm : mc x with
    | no => trivial
    | er w => trivial
    | ok b =>
      rw [hm] at h1
      have h1 : c env1 S = .ok b S := h1
      rw [h1, calm_ok, R.bind_ok]
      cases b with
      | false => exact ih
      | true =>
        show RG ((g env1 S).calm.bind fun y S2 => (compL t c g o all env (xs.map ea) S2).bind fun ys S3 => .ok (y :: ys) S3) S ((mg x).calm.bind fun y => (compM mc mg xs).bind fun ys => .ok (y :: ys)) _
        cases hy : mg x with
        | no => trivial
        | er w => trivial
        | ok y =>
          rw [hy] at h2
          have h2 : g env1 S = .ok (e y) S := h2
          rw [h2, calm_ok, R.bind_ok]
          show RG _ S ((compM mc mg xs).bind fun ys => .ok (y :: ys)) _
          cases hr : compM mc mg xs with
          | no => trivial
          | er w =>
            rw [hr] at ih
            exact ⟨by rw [ih.1]; rfl, ih.2⟩
          | ok ys =>
            rw [hr] at ih
            have ih : compL t c g o all env (xs.map ea) S = .ok (ys.map e) S := ih
            rw [ih]; rfl
theorem comp_p {ea : α → D} {pc : α → Bool} {pg : α → β} {e : β → D} (hg : Cor.guard o all S) (h : ∀ x, ∃ env1, t (ea x) env = some env1 ∧ c env1 S = .ok (pc x) S ∧ g env1 S = .ok (e (pg x)) S) :
    ∀ xs : List α, compL t c g o all env (xs.map ea) S = .ok (((xs.filter pc).map pg).map e) S
  | [] => by show guardR o all S (.ok [] S) = _; rw [guardR_is hg]; rfl
  | x :: xs => by
    obtain ⟨env1, e1, h1, h2⟩ := h x
    have ih := comp_p hg h xs
    show guardR o all S (optR (t (ea x) env) fun env1 => (c env1 S).calm.bind fun b S1 => if b = true then (g env1 S1).calm.bind fun y S2 => (compL t c g o all env (xs.map ea) S2).bind fun ys S3 => .ok (y :: ys) S3 else compL t c g o all env (xs.map ea) S1) = _
    rw [guardR_is hg, e1, optR_some, h1, calm_ok, R.bind_ok]
    cases hp : pc x with
    | false => rw [List.filter_cons_of_neg (by rw [hp]; decide), ← ih]; rfl
    | true => rw [if_pos rfl, h2, calm_ok, R.bind_ok, ih, List.filter_cons_of_pos hp]; rfl
theorem map_m {ea : α → D} {mg : α → M β} {e : β → D} (hg : Cor.guard o all S) (h : ∀ x, ∃ env1, t (ea x) env = some env1 ∧ RG (g env1 S) S (mg x) e) :
    ∀ xs : List α, RG (compL t yesT g o all env (xs.map ea) S) S (mapM' mg xs) fun ys => ys.map e
  | [] => by show RG (guardR o all S (.ok [] S)) S (.ok []) _; rw [guardR_is hg]; rfl
  | x :: xs => by
    obtain ⟨env1, e1, h2⟩ := h x
    have ih := map_m hg h xs
    show RG (guardR o all S (optR (t (ea x) env) fun env1 => (g env1 S).calm.bind fun y S2 => (compL t yesT g o all env (xs.map ea) S2).bind fun ys S3 => .ok (y :: ys) S3)) S ((mg x).calm.bind fun y => (mapM' mg xs).bind fun ys => .ok (y :: ys)) _
    rw [guardR_is hg, e1, optR_some]
    cases hy : mg x with
    | no => trivial
    | er w => trivial
    | ok y =>
      rw [hy] at h2
      have h2 : g env1 S = .ok (e y) S := h2
      rw [h2, calm_ok, R.bind_ok]
      show RG _ S ((mapM' mg xs).bind fun ys => .ok (y :: ys)) _
      cases hr : mapM' mg xs with
      | no => trivial
      | er w =>
        rw [hr] at ih
        exact ⟨by rw [ih.1]; rfl, ih.2⟩
      | ok ys =>
        rw [hr] at ih
        have ih : compL t yesT g o all env (xs.map ea) S = .ok (ys.map e) S := ih
        rw [ih]; rfl
theorem map_p {ea : α → D} {pg : α → β} {e : β → D} (hg : Cor.guard o all S) (h : ∀ x, ∃ env1, t (ea x) env = some env1 ∧ g env1 S = .ok (e (pg x)) S) :
    ∀ xs : List α, compL t yesT g o all env (xs.map ea) S = .ok ((xs.map pg).map e) S
  | [] => by show guardR o all S (.ok [] S) = _; rw [guardR_is hg]; rfl
  | x :: xs => by
    obtain ⟨env1, e1, h2⟩ := h x
    have ih := map_p hg h xs
    show guardR o all S (optR (t (ea x) env) fun env1 => (g env1 S).calm.bind fun y S2 => (compL t yesT g o all env (xs.map ea) S2).bind fun ys S3 => .ok (y :: ys) S3) = _
    rw [guardR_is hg, e1, optR_some, h2, calm_ok, R.bind_ok, ih]
    rfl
/-- the whole comprehension -/
theorem compF_m {gi : Ix} {vs : List Nat} {m : M β} {e : β → List D} {ds : List D} {k : Nat} (hi : gi env S = .ok (ds, o) S) (hk : ds.length = k) (h : RG (compL t c g o ds (wipeE env vs) ds S) S m e) : RG (compF gi t c g vs env S) S ((sizeM k).bind fun _ => m) e := by
  rw [compF_eq, hi, R.bind_ok]
  unfold sizeM
  by_cases z : ds.length ≤ sizeLine
  · show RG (if ds.length ≤ sizeLine then _ else _) _ _ _
    rw [if_pos z, if_pos (by rw [← hk]; exact z)]; exact h
  · show RG (if ds.length ≤ sizeLine then _ else _) _ _ _
    rw [if_neg z, if_neg (by rw [← hk]; exact z)]; trivial
theorem compF_e {gi : Ix} {vs : List Nat} {w : Exn} (hi : gi env S = .er w S) : compF gi t c g vs env S = .er w S := by rw [compF_eq, hi]; rfl
theorem all_m {ea : α → D} {mc mg : α → M Bool} {w : Bool} (hg : Cor.guard o all S) (h : ∀ x, ∃ env1, t (ea x) env = some env1 ∧ RG (c env1 S) S (mc x) id ∧ RE (g env1 S) S (mg x) Val.bool) :
    ∀ xs : List α, RE (aaL w t c g o all env (xs.map ea) S) S (allM w mc mg xs) Val.bool
  | [] => by show RG (guardR o all S (.ok (PyData.bool w) S)) S (.ok w) _; rw [guardR_is hg]; rfl
  | x :: xs => by
    obtain ⟨env1, e1, h1, h2⟩ := h x
    have ih := all_m (w := w) hg h xs
    show RG (guardR o all S (optR (t (ea x) env) fun env1 => (c env1 S).calm.bind fun b S1 => if b = true then (g env1 S1).calm.bind fun y S2 => boolR y fun r => if r = w then aaL w t c g o all env (xs.map ea) S2 else .ok (PyData.bool r) S2 else aaL w t c g o all env (xs.map ea) S1)) S ((mc x).calm.bind fun b => if b = true then (mg x).calm.bind fun y => if y = w then allM w mc mg xs else .ok y else allM w mc mg xs) _
    rw [guardR_is hg, e1, optR_some]
    cases hm : mc x with
    | no => trivial
    | er w => trivial
    | ok b =>
      rw [hm] at h1
      have h1 : c env1 S = .ok b S := h1
      rw [h1, calm_ok, R.bind_ok]
      cases b with
      | false => exact ih
      | true =>
        show RG ((g env1 S).calm.bind fun y S2 => boolR y fun r => if r = w then aaL w t c g o all env (xs.map ea) S2 else .ok (PyData.bool r) S2) S ((mg x).calm.bind fun y => if y = w then allM w mc mg xs else .ok y) _
        cases hy : mg x with
        | no => trivial
        | er w => trivial
        | ok y =>
          rw [hy] at h2
          have h2 : g env1 S = .ok (.bool y) S := h2
          rw [h2, calm_ok, R.bind_ok, boolR_bool]
          show RG _ S (if y = w then allM w mc mg xs else .ok y) _
          by_cases z : y = w
          · rw [if_pos z, if_pos z]; exact ih
          · rw [if_neg z, if_neg z]; rfl
theorem all_p {ea : α → D} {pc pg : α → Bool} (hg : Cor.guard o all S) (h : ∀ x, ∃ env1, t (ea x) env = some env1 ∧ c env1 S = .ok (pc x) S ∧ g env1 S = .ok (Val.bool (pg x)).d S) :
    ∀ xs : List α, aaL true t c g o all env (xs.map ea) S = .ok (Val.bool (xs.all fun x => !pc x || pg x)).d S
  | [] => by show guardR o all S (.ok (PyData.bool true) S) = _; rw [guardR_is hg]; rfl
  | x :: xs => by
    obtain ⟨env1, e1, h1, h2⟩ := h x
    have ih := all_p hg h xs
    show guardR o all S (optR (t (ea x) env) fun env1 => (c env1 S).calm.bind fun b S1 => if b = true then (g env1 S1).calm.bind fun y S2 => boolR y fun r => if r = true then aaL true t c g o all env (xs.map ea) S2 else .ok (PyData.bool r) S2 else aaL true t c g o all env (xs.map ea) S1) = _
    rw [guardR_is hg, e1, optR_some, h1, calm_ok, R.bind_ok, List.all_cons]
    cases hp : pc x with
    | false => rw [if_neg (by decide), ih]; rfl
    | true =>
      rw [if_pos rfl, h2, calm_ok, R.bind_ok]
      show boolR (.bool (pg x)) _ = _
      rw [boolR_bool]
      cases hq : pg x with
      | true => rw [if_pos rfl, ih]; rfl
      | false => rfl
theorem any_p {ea : α → D} {pc pg : α → Bool} (hg : Cor.guard o all S) (h : ∀ x, ∃ env1, t (ea x) env = some env1 ∧ c env1 S = .ok (pc x) S ∧ g env1 S = .ok (Val.bool (pg x)).d S) :
    ∀ xs : List α, aaL false t c g o all env (xs.map ea) S = .ok (Val.bool (xs.any fun x => pc x && pg x)).d S
  | [] => by show guardR o all S (.ok (PyData.bool false) S) = _; rw [guardR_is hg]; rfl
  | x :: xs => by
    obtain ⟨env1, e1, h1, h2⟩ := h x
    have ih := any_p hg h xs
    show guardR o all S (optR (t (ea x) env) fun env1 => (c env1 S).calm.bind fun b S1 => if b = true then (g env1 S1).calm.bind fun y S2 => boolR y fun r => if r = false then aaL false t c g o all env (xs.map ea) S2 else .ok (PyData.bool r) S2 else aaL false t c g o all env (xs.map ea) S1) = _
    rw [guardR_is hg, e1, optR_some, h1, calm_ok, R.bind_ok, List.any_cons]
    cases hp : pc x with
    | false => rw [if_neg (by decide), ih]; rfl
    | true =>
      rw [if_pos rfl, h2, calm_ok, R.bind_ok]
      show boolR (.bool (pg x)) _ = _
      rw [boolR_bool]
      cases hq : pg x with
      | false => rw [if_pos rfl, ih]; rfl
      | true => rfl
theorem aa_m {gi : Ix} {vs : List Nat} {m : M β} {e : β → D} {ds : List D} {w : Bool} (hi : gi env S = .ok (ds, o) S) (h : RG (aaL w t c g o ds (wipeE env vs) ds S) S m e) : RG (aaE w gi t c g vs env S) S m e := by
  rw [aaE_eq, hi, R.bind_ok]; exact h
theorem aa_p {gi : Ix} {vs : List Nat} {ds : List D} {w : Bool} {d : D} (hi : gi env S = .ok (ds, o) S) (h : aaL w t c g o ds (wipeE env vs) ds S = .ok d S) : aaE w gi t c g vs env S = .ok d S := by
  rw [aaE_eq, hi, R.bind_ok]; exact h
theorem aa_e {gi : Ix} {vs : List Nat} {w : Bool} {x : Exn} (hi : gi env S = .er x S) : aaE w gi t c g vs env S = .er x S := by rw [aaE_eq, hi]; rfl
end
end Cor

/-! T3: typed operations. -/
namespace Cor
open PySem PySem.Spec PyProof.Rows L2

section
variable {α β γ δ κ : Type} {S : Sto} {e : α → Val} {n k : Nat}

/-! ### numbers -/
@[irreducible] def mulM (i j : Int) : M Int := if MulFits i j then .ok (i * j) else .no
@[irreducible] def modM (i j : Int) : M Int := if 0 < j then .ok (i % j) else .no
@[irreducible] def fdivM (i j : Int) : M Int := if 0 < j ∧ j < 1073741824 then .ok (i / j) else .no
@[irreducible] def powM (i j : Int) : M Int := if 0 ≤ j ∧ j ≤ 1000000 ∧ i.natAbs < 2 ^ 64 then .ok (i ^ j.toNat) else .no
@[irreducible] def shlM (i j : Int) : M Int := if 0 ≤ j ∧ j ≤ 1000000 ∧ i.natAbs < 2 ^ 64 then .ok (i * 2 ^ j.toNat) else .no
theorem rg_ite {β : Type} {c : Prop} [Decidable c] {o : D} {v : β} {f : β → D} (h : f v = o) : RG (lift (if c then some o else none) S) S (if c then M.ok v else .no) f := by
  by_cases z : c
  · rw [if_pos z, if_pos z]; show R.ok o S = .ok (f v) S; rw [h]
  · rw [if_neg z, if_neg z]; trivial
theorem m_mul {i j : Int} : RE (lift (mulD S (Val.int i).d (Val.int j).d) S) S (mulM i j) Val.int := by unfold mulM; exact rg_ite rfl
theorem m_mod {i j : Int} : RE (lift (modD S (Val.int i).d (Val.int j).d) S) S (modM i j) Val.int := by unfold modM; exact rg_ite rfl
theorem m_fdiv {i j : Int} : RE (lift (fdivD S (Val.int i).d (Val.int j).d) S) S (fdivM i j) Val.int := by unfold fdivM; exact rg_ite rfl
theorem m_pow {i j : Int} : RE (lift (powD S (Val.int i).d (Val.int j).d) S) S (powM i j) Val.int := by unfold powM; exact rg_ite rfl
theorem m_shl {i j : Int} : RE (lift (shlD S (Val.int i).d (Val.int j).d) S) S (shlM i j) Val.int := by unfold shlM; exact rg_ite rfl
theorem f_add {i j : Int} : addD S (Val.int i).d (Val.int j).d = some (Val.int (i + j)).d := rfl
theorem f_addI {i j : Int} : addI S (Val.int i).d (Val.int j).d = some (Val.int (i + j)).d := rfl
theorem f_sub {i j : Int} : subD S (Val.int i).d (Val.int j).d = some (Val.int (i - j)).d := rfl
theorem f_neg {i : Int} : negD S (Val.int i).d = some (Val.int (-i)).d := rfl
theorem f_xor {i j : Int} : xorD S (Val.int i).d (Val.int j).d = some (Val.int (Builtin.bitXor i j)).d := rfl
theorem f_mod {i j : Int} (h : 0 < j) : modD S (Val.int i).d (Val.int j).d = some (Val.int (i % j)).d := modD_int h
theorem f_fdiv {i j : Int} (h : 0 < j) (h2 : j < 1073741824) : fdivD S (Val.int i).d (Val.int j).d = some (Val.int (i / j)).d := fdivD_int h h2
theorem f_ltI {i j : Int} : ltB S (Val.int i).d (Val.int j).d = some (decide (i < j)) := ltB_int S i j
theorem f_gtI {i j : Int} : gtB S (Val.int i).d (Val.int j).d = some (decide (j < i)) := gtB_int S i j
theorem f_leI {i j : Int} : leB S (Val.int i).d (Val.int j).d = some (decide (i ≤ j)) := leB_int S i j
theorem f_geI {i j : Int} : geB S (Val.int i).d (Val.int j).d = some (decide (j ≤ i)) := geB_int S i j
theorem f_int {i : Int} : intD S [(Val.int i).d] = some (Val.int i).d := rfl
theorem f_min2 {i j : Int} : min2D S [(Val.int i).d, (Val.int j).d] = some (Val.int (min i j)).d := by
  show some (PyData.int (if j < i then j else i)) = some (PyData.int (min i j))
  rw [show (if j < i then j else i) = min i j by split <;> omega]
theorem f_max2 {i j : Int} : max2D S [(Val.int i).d, (Val.int j).d] = some (Val.int (max i j)).d := by
  show some (PyData.int (if j > i then j else i)) = some (PyData.int (max i j))
  rw [show (if j > i then j else i) = max i j by split <;> omega]

/-! ### like, ahead -/
theorem okD_of [DecidableEq α] (h : EQ e n) (hn : Nat.ble n 64 = true) (x : α) : okD (e x).d = true := by
  unfold okD
  rw [flat_d, decide_eq_true (Nat.le_trans (h.dep x) (Nat.le_of_ble_eq_true hn))]; rfl
theorem f_eq [DecidableEq α] {x y : α} (h : EQ e n) (hn : Nat.ble n 64 = true := by rfl) : eqB S (e x).d (e y).d = some (decide (x = y)) := by
  unfold eqB
  rw [der_d, der_d]
  show (if (okD (e x).d && okD (e y).d) = true then some (PyData.eqv (e x).d (e y).d) else none) = _
  rw [okD_of h hn x, okD_of h hn y, h.eq]; rfl
theorem f_ne [DecidableEq α] {x y : α} (h : EQ e n) (hn : Nat.ble n 64 = true := by rfl) : neB S (e x).d (e y).d = some (!decide (x = y)) := by
  unfold neB
  rw [f_eq h hn]; rfl
theorem f_lt {lt : α → α → Bool} {x y : α} (h : ORD e lt n) (hn : Nat.ble n 64 = true := by rfl) : ltB S (e x).d (e y).d = some (lt x y) := by
  have ok : ∀ x, okD (e x).d = true := fun x => by
    unfold okD
    rw [flat_d, decide_eq_true (Nat.le_trans (h.dep x) (Nat.le_of_ble_eq_true hn))]; rfl
  unfold ltB
  rw [der_d, der_d]
  show (if (okD (e x).d && okD (e y).d && PySem.W.alike (e x).d (e y).d && _) = true then some (PySem.W.dataLt (e x).d (e y).d) else none) = _
  rw [ok x, ok y, h.ali, h.lt]
  have q := h.nn x
  revert q
  cases (e x).d <;> intro q <;> first | rfl | cases q
theorem f_gt {lt : α → α → Bool} {x y : α} (h : ORD e lt n) (hn : Nat.ble n 64 = true := by rfl) : gtB S (e x).d (e y).d = some (lt y x) := by
  have ok : ∀ x, okD (e x).d = true := fun x => by
    unfold okD
    rw [flat_d, decide_eq_true (Nat.le_trans (h.dep x) (Nat.le_of_ble_eq_true hn))]; rfl
  unfold gtB
  rw [der_d, der_d]
  show (if (okD (e x).d && okD (e y).d && PySem.W.alike (e x).d (e y).d && _) = true then some (PySem.W.dataLt (e y).d (e x).d) else none) = _
  rw [ok x, ok y, h.ali, h.lt]
  have q := h.nn x
  revert q
  cases (e x).d <;> intro q <;> first | rfl | cases q
theorem f_le {lt : α → α → Bool} {x y : α} (h : ORD e lt n) (hn : Nat.ble n 64 = true := by rfl) : leB S (e x).d (e y).d = some (!lt y x) := by
  unfold leB
  rw [f_gt h hn]; rfl
theorem f_ge {lt : α → α → Bool} {x y : α} (h : ORD e lt n) (hn : Nat.ble n 64 = true := by rfl) : geB S (e x).d (e y).d = some (!lt x y) := by
  unfold geB
  rw [f_lt h hn]; rfl
theorem any_dL [DecidableEq α] (h : EQ e n) (x : α) : ∀ xs : List α, (dL e xs).any (fun z => PyData.eqv z (e x).d) = decide (x ∈ xs)
  | [] => by simp [dL]
  | y :: ys => by
    show (PyData.eqv (e y).d (e x).d || (dL e ys).any _) = _
    rw [h.eq, any_dL h x ys, ← Bool.decide_or]
    exact decide_eq_decide.mpr (by rw [List.mem_cons]; exact or_congr ⟨Eq.symm, Eq.symm⟩ Iff.rfl)
theorem in_dL [DecidableEq α] {x : α} {xs : List α} (h : EQ e n) (hn : Nat.ble n 64 = true) : inSeq (e x).d (dL e xs) = some (decide (x ∈ xs)) := by
  unfold inSeq
  rw [okD_of h hn, dL_flat, any_dL h]; rfl
theorem f_inT [DecidableEq α] {x : α} {xs : List α} (h : EQ e n) (hn : Nat.ble n 64 = true := by rfl) : inB S (e x).d (vT e xs).d = some (decide (x ∈ xs)) := by rw [vT_d]; exact in_dL h hn
theorem f_inL [DecidableEq α] {x : α} {xs : List α} (h : EQ e n) (hn : Nat.ble n 64 = true := by rfl) : inB S (e x).d (vL e xs).d = some (decide (x ∈ xs)) := by rw [vL_d]; exact in_dL h hn
theorem f_inC [DecidableEq α] {x : α} {xs : List α} (h : EQ e n) (hc : S[k]? = some (.lst (dL e xs))) (hn : Nat.ble n 64 = true := by rfl) : inB S (e x).d (rf k) = some (decide (x ∈ xs)) := by
  show (match cellD S (rf k) with | some (.lst ys) => inSeq (e x).d ys | some c => (getD c (e x).d).map (fun o : Option D => o.isSome) | none => none) = _
  rw [cellD_rf, hc]; exact in_dL h hn
theorem f_nin {x y : D} {b : Bool} (h : inB S x y = some b) : ninB S x y = some (!b) := by unfold ninB; rw [h]; rfl
theorem f_isO {o : Option α} (nn : NN e) : isB S (vO e o).d .none = some o.isNone := by
  show some (isNon (vO e o).d) = _
  cases o with
  | none => rfl
  | some a => show some (isNon (e a).d) = _; rw [(nn a .none).1]; rfl
theorem f_isn {x y : D} {b : Bool} (h : isB S x y = some b) : isnB S x y = some (!b) := by unfold isnB; rw [h]; rfl
theorem f_isB {a b : Bool} : isB S (Val.bool a).d (Val.bool b).d = some (decide (a = b)) := rfl
def Val.isNone : Val → Bool
  | .none => true
  | _ => false
theorem f_isV {v : Val} : isB S v.d .none = some v.isNone := by cases v <;> rfl
/-- v is True, v is False -/
def isBV (v : Val) (b : Bool) : M Bool := match v with
  | .bool a => .ok (decide (a = b))
  | _ => .no
theorem m_isBV {v : Val} {b : Bool} : RG (lift (isB S v.d (Val.bool b).d) S) S (isBV v b) id := by cases v <;> first | trivial | rfl
def Val.kd : Val → Kd
  | .none => .non
  | .bool _ => .bl
  | .int _ => .int
  | .str _ => .str
  | .list _ => .lst
  | .tuple _ => .tup
theorem kind_d (v : Val) : kindD S v.d = some v.kd := by cases v <;> rfl
@[irreducible] def eqVM (x y : Val) : M Bool := if okD x.d && okD y.d then .ok (PyData.eqv x.d y.d) else .no
theorem m_eqV {x y : Val} : RG (lift (eqB S x.d y.d) S) S (eqVM x y) id := by
  unfold eqB eqVM
  rw [der_d, der_d]
  show RG (lift (if (okD x.d && okD y.d) = true then _ else none) S) S _ _
  by_cases z : (okD x.d && okD y.d) = true
  · rw [if_pos z, if_pos z]; rfl
  · rw [if_neg z, if_neg z]; trivial
theorem m_neV {x y : Val} : RG (lift (neB S x.d y.d) S) S ((eqVM x y).bind fun b => .ok (!b)) id := by
  unfold neB eqB eqVM
  rw [der_d, der_d]
  show RG (lift ((if (okD x.d && okD y.d) = true then _ else none).map _) S) S _ _
  by_cases z : (okD x.d && okD y.d) = true
  · rw [if_pos z, if_pos z]; rfl
  · rw [if_neg z, if_neg z]; trivial
@[irreducible] def ltVM (x y : Val) : M Bool := match ltB [] x.d y.d with
  | some b => .ok b
  | none => .no
theorem ltB_d {x y : Val} : ltB S x.d y.d = ltB [] x.d y.d := by unfold ltB; rw [der_d, der_d, der_d, der_d]
theorem gtB_d {x y : Val} : gtB S x.d y.d = gtB [] x.d y.d := by unfold gtB; rw [der_d, der_d, der_d, der_d]
theorem m_ltV {x y : Val} : RG (lift (ltB S x.d y.d) S) S (ltVM x y) id := by
  rw [ltB_d]; unfold ltVM
  cases ltB [] x.d y.d with
  | none => trivial
  | some b => rfl
theorem m_geV {x y : Val} : RG (lift (geB S x.d y.d) S) S ((ltVM x y).bind fun b => .ok (!b)) id := by
  unfold geB; rw [ltB_d]; unfold ltVM
  cases ltB [] x.d y.d with
  | none => trivial
  | some b => rfl
@[irreducible] def gtVM (x y : Val) : M Bool := match gtB [] x.d y.d with
  | some b => .ok b
  | none => .no
theorem m_gtV {x y : Val} : RG (lift (gtB S x.d y.d) S) S (gtVM x y) id := by
  rw [gtB_d]; unfold gtVM
  cases gtB [] x.d y.d with
  | none => trivial
  | some b => rfl
theorem m_leV {x y : Val} : RG (lift (leB S x.d y.d) S) S ((gtVM x y).bind fun b => .ok (!b)) id := by
  unfold leB; rw [gtB_d]; unfold gtVM
  cases gtB [] x.d y.d with
  | none => trivial
  | some b => rfl
/-- a value of a kind -/
structure DEC (e : α → Val) (f : Val → Option α) : Prop where
  ok : ∀ v a, f v = some a → v = e a
def asM (f : Val → Option α) (v : Val) : M α := match f v with
  | some a => .ok a
  | none => .no
theorem m_as {f : Val → Option α} (h : DEC e f) {v : Val} {r : R D} (hr : r = .ok v.d S) : RE r S (asM f v) e := by
  unfold asM
  cases q : f v with
  | none => trivial
  | some a => rw [h.ok v a q] at hr; exact hr
def unO (o : Option α) : M α := match o with
  | some a => .ok a
  | none => .no
theorem m_unO {o : Option α} {r : R D} (hr : r = .ok (vO e o).d S) : RE r S (unO o) e := by
  cases o with
  | none => trivial
  | some a => exact hr
def asI : Val → Option Int
  | .int i => some i
  | _ => none
theorem DEC.int : DEC Val.int asI := ⟨fun v a h => by cases v <;> cases h; rfl⟩
def asB : Val → Option Bool
  | .bool i => some i
  | _ => none
theorem DEC.bool : DEC Val.bool asB := ⟨fun v a h => by cases v <;> cases h; rfl⟩
def asS : Val → Option Str
  | .str i => some i
  | _ => none
theorem DEC.str : DEC Val.str asS := ⟨fun v a h => by cases v <;> cases h; rfl⟩
def asO (f : Val → Option α) : Val → Option (Option α)
  | .none => some none
  | v => (f v).map some
theorem DEC.vO {f : Val → Option α} (h : DEC e f) : DEC (vO e) (asO f) := ⟨fun v a q => by
  cases v
  case none => cases q; rfl
  all_goals
    unfold asO at q
    simp only [Option.map_eq_some_iff] at q
    obtain ⟨b, hb, rfl⟩ := q
    exact h.ok _ b hb⟩
def asAll (f : Val → Option α) : List Val → Option (List α)
  | [] => some []
  | v :: vs => (f v).bind fun a => (asAll f vs).map fun as => a :: as
theorem asAll_ok {f : Val → Option α} (h : DEC e f) : ∀ (vs : List Val) (as : List α), asAll f vs = some as → vs = as.map e
  | [], as, q => by cases q; rfl
  | v :: vs, as, q => by
    unfold asAll at q
    simp only [Option.bind_eq_some_iff, Option.map_eq_some_iff] at q
    obtain ⟨a, ha, bs, hb, rfl⟩ := q
    rw [h.ok v a ha, asAll_ok h vs bs hb]; rfl
def asT (f : Val → Option α) : Val → Option (List α)
  | .tuple vs => asAll f vs
  | _ => none
theorem DEC.vT {f : Val → Option α} (h : DEC e f) : DEC (vT e) (asT f) := ⟨fun v a q => by
  cases v <;> first | (cases q; done) | skip
  rw [asAll_ok h _ _ q]; rfl⟩
def asL (f : Val → Option α) : Val → Option (List α)
  | .list vs => asAll f vs
  | _ => none
theorem DEC.vL {f : Val → Option α} (h : DEC e f) : DEC (vL e) (asL f) := ⟨fun v a q => by
  cases v <;> first | (cases q; done) | skip
  rw [asAll_ok h _ _ q]; rfl⟩
def as2 (f : Val → Option α) (g : Val → Option β) : Val → Option (α × β)
  | .tuple [x, y] => (f x).bind fun a => (g y).map fun b => (a, b)
  | _ => none
theorem DEC.v2 {e' : β → Val} {f : Val → Option α} {g : Val → Option β} (h : DEC e f) (h' : DEC e' g) : DEC (v2 e e') (as2 f g) := ⟨fun v a q => by
  unfold as2 at q
  split at q
  · simp only [Option.bind_eq_some_iff, Option.map_eq_some_iff] at q
    obtain ⟨x, hx, y, hy, rfl⟩ := q
    rw [h.ok _ x hx, h'.ok _ y hy]; rfl
  · cases q⟩
def as3 (f : Val → Option α) (g : Val → Option β) (k : Val → Option γ) : Val → Option (α × β × γ)
  | .tuple [x, y, z] => (f x).bind fun a => (g y).bind fun b => (k z).map fun c => (a, b, c)
  | _ => none
theorem DEC.v3 {e' : β → Val} {e'' : γ → Val} {f : Val → Option α} {g : Val → Option β} {k : Val → Option γ} (h : DEC e f) (h' : DEC e' g) (h'' : DEC e'' k) : DEC (v3 e e' e'') (as3 f g k) := ⟨fun v a q => by
  unfold as3 at q
  split at q
  · simp only [Option.bind_eq_some_iff, Option.map_eq_some_iff] at q
    obtain ⟨x, hx, y, hy, z, hz, rfl⟩ := q
    rw [h.ok _ x hx, h'.ok _ y hy, h''.ok _ z hz]; rfl
  · cases q⟩

/-! ### sequences -/
def Val.len? : Val → Option Nat
  | .list xs => Option.some xs.length
  | .tuple xs => Option.some xs.length
  | .str x => if x.length ≤ sizeLine then Option.some x.length else Option.none
  | _ => Option.none
def lenV (v : Val) : M Int := match v.len? with
  | some m => .ok m
  | none => .no
theorem m_lenV {v : Val} : RE (lift (lenD S [v.d]) S) S (lenV v) Val.int := by
  cases v with
  | list xs => show R.ok (PyData.int ((Val.ds xs).length : Int)) S = _; rw [ds_len]; rfl
  | tuple xs => show R.ok (PyData.int ((Val.ds xs).length : Int)) S = _; rw [ds_len]; rfl
  | str x =>
    show RG (lift (if x.length ≤ sizeLine then some (PyData.int x.length) else none) S) S (match (if x.length ≤ sizeLine then Option.some x.length else Option.none) with | some m => .ok (m : Int) | none => .no) _
    by_cases z : x.length ≤ sizeLine
    · rw [if_pos z, if_pos z]; rfl
    · rw [if_neg z, if_neg z]; trivial
  | _ => trivial
theorem f_lenT {xs : List α} : lenD S [(vT e xs).d] = some (Val.int xs.length).d := by rw [vT_d, lenD_tuple, dL_len]; rfl
theorem f_lenL {xs : List α} : lenD S [(vL e xs).d] = some (Val.int xs.length).d := by rw [vL_d, lenD_list, dL_len]; rfl
theorem f_lenC {xs : List α} (h : S[k]? = some (.lst (dL e xs))) : lenD S [rf k] = some (Val.int xs.length).d := by rw [len_cell h, dL_len]; rfl
def atM (xs : List α) (i : Int) : M α := match L2.atI xs i with
  | some a => .ok a
  | none => .no
theorem m_atI {xs : List α} {i : Int} : RE (lift (L2.atI (dL e xs) i) S) S (atM xs i) e := by
  unfold atM dL
  rw [atI_map]
  cases L2.atI xs i with
  | none => trivial
  | some a => rfl
theorem m_idxT {xs : List α} {i : Int} : RE (lift (idxD S (vT e xs).d (Val.int i).d) S) S (atM xs i) e := by rw [vT_d]; exact m_atI
theorem m_idxL {xs : List α} {i : Int} : RE (lift (idxD S (vL e xs).d (Val.int i).d) S) S (atM xs i) e := by rw [vL_d]; exact m_atI
theorem m_idxC {xs : List α} {i : Int} (h : S[k]? = some (.lst (dL e xs))) : RE (lift (idxD S (rf k) (Val.int i).d) S) S (atM xs i) e := by
  rw [show idxD S (rf k) (Val.int i).d = L2.atI (dL e xs) i from idx_cell h]; exact m_atI
theorem f_at {ds : List D} {d : D} (j : Nat) (h : ds[j]? = some d) : idxD S (.tuple ds) (.int (j : Nat)) = some d := by
  rw [idxD_tuple, atI_nat', h]
theorem f_atN {ds : List D} {d : D} (j : Nat) (hj : j < ds.length) (h : ds[ds.length - (j + 1)]? = some d) : idxD S (.tuple ds) (.int (-((j + 1 : Nat) : Int))) = some d := by
  rw [idxD_tuple]
  unfold L2.atI L2.ixN
  rw [if_neg (by omega), if_pos (by omega)]
  show ds[(-((j + 1 : Nat) : Int) + ds.length).toNat]? = _
  rw [show (-((j + 1 : Nat) : Int) + ds.length).toNat = ds.length - (j + 1) by omega, h]
def Val.items? : Val → Option (List Val)
  | .list xs => Option.some xs
  | .tuple xs => Option.some xs
  | _ => Option.none
def idxV (v : Val) (i : Int) : M Val := match v.items? with
  | some xs => atM xs i
  | none => .no
theorem dL_id (xs : List Val) : dL vV xs = Val.ds xs := by rw [ds_map]; rfl
theorem m_idxV {v : Val} {i : Int} : RE (lift (idxD S v.d (Val.int i).d) S) S (idxV v i) vV := by
  cases v with
  | list xs => show RE (lift (L2.atI (Val.ds xs) i) S) S (atM xs i) vV; rw [← dL_id]; exact m_atI
  | tuple xs => show RE (lift (L2.atI (Val.ds xs) i) S) S (atM xs i) vV; rw [← dL_id]; exact m_atI
  | _ => trivial
/-- from lo to hi -/
def cutT (xs : List α) (lo hi : Option Int) : List α := (xs.drop (HT.sIx xs.length 0 lo)).take (HT.sIx xs.length xs.length hi - HT.sIx xs.length 0 lo)
theorem cut_dL {xs : List α} {lo hi : Option Int} : Cor.cutD (dL e xs) lo hi = dL e (cutT xs lo hi) := by
  unfold Cor.cutD cutT
  rw [dL_len]
  unfold dL
  rw [← List.map_drop, ← List.map_take]
theorem f_slT {xs : List α} {lo hi : Option Int} : slV S (vT e xs).d lo hi = some (vT e (cutT xs lo hi)).d := by
  rw [vT_d, vT_d]; show some (PyData.tuple (Cor.cutD _ _ _)) = _; rw [cut_dL]
theorem f_slL {xs : List α} {lo hi : Option Int} : slV S (vL e xs).d lo hi = some (vL e (cutT xs lo hi)).d := by
  rw [vL_d, vL_d]; show some (PyData.list (Cor.cutD _ _ _)) = _; rw [cut_dL]
theorem f_slC {xs : List α} {lo hi : Option Int} (h : S[k]? = some (.lst (dL e xs))) : slV S (rf k) lo hi = some (vL e (cutT xs lo hi)).d := by
  rw [sl_cell h, vL_d, cut_dL]
theorem f_tupT {xs : List α} : tupleD S [(vT e xs).d] = some (vT e xs).d := by rw [vT_d]; rfl
theorem f_tupL {xs : List α} : tupleD S [(vL e xs).d] = some (vT e xs).d := by rw [vT_d, vL_d]; rfl
theorem f_tupD {ds : List D} : tupleD S [.list ds] = some (.tuple ds) := rfl
theorem f_tupC {xs : List α} (h : S[k]? = some (.lst (dL e xs))) : tupleD S [rf k] = some (vT e xs).d := by
  show (seqD S (rf k)).map _ = _
  unfold seqD
  rw [seq_cell h, vT_d]; rfl
theorem f_lstT {xs : List α} : listD S [(vT e xs).d] = some (dL e xs) := by rw [vT_d]; rfl
theorem f_lstL {xs : List α} : listD S [(vL e xs).d] = some (dL e xs) := by rw [vL_d]; rfl
theorem f_lstC {xs : List α} (h : S[k]? = some (.lst (dL e xs))) : listD S [rf k] = some (dL e xs) := by
  show (seqD S (rf k)).map _ = _
  unfold seqD
  rw [seq_cell h]; rfl
theorem f_itT {xs : List α} : itemsD S (vT e xs).d = some (dL e xs, none) := by rw [vT_d]; rfl
theorem f_itL {xs : List α} : itemsD S (vL e xs).d = some (dL e xs, none) := by rw [vL_d]; rfl
theorem f_itD {ds : List D} : itemsD S (.list ds) = some (ds, none) := rfl
theorem f_itC {xs : List α} (h : S[k]? = some (.lst (dL e xs))) : itemsD S (rf k) = some (dL e xs, some k) := items_cell h
def itemsV (v : Val) : M (List Val) := match v.items? with
  | some xs => .ok xs
  | none => .no
theorem m_itV {v : Val} : RG (lift (itemsD S v.d) S) S (itemsV v) fun xs => ((dL vV xs, none) : Items) := by
  cases v with
  | list xs => show R.ok (Val.ds xs, none) S = _; rw [← dL_id]
  | tuple xs => show R.ok (Val.ds xs, none) S = _; rw [← dL_id]
  | _ => trivial
def enumI (i : Nat) : List α → List (Int × α)
  | [] => []
  | x :: xs => ((i : Int), x) :: enumI (i + 1) xs
theorem enu_dL : ∀ (xs : List α) (i : Nat), enuL i (dL e xs) = dL (v2 Val.int e) (enumI i xs)
  | [], _ => rfl
  | x :: xs, i => by
    show PyData.tuple [.int (i : Int), (e x).d] :: enuL (i + 1) (dL e xs) = PyData.tuple [.int (i : Int), (e x).d] :: dL (v2 Val.int e) (enumI (i + 1) xs)
    rw [enu_dL xs (i + 1)]
theorem f_enT {xs : List α} : enuD (vT e xs).d = some (dL (v2 Val.int e) (enumI 0 xs), none) := by rw [vT_d, ← enu_dL]; rfl
theorem f_enL {xs : List α} : enuD (vL e xs).d = some (dL (v2 Val.int e) (enumI 0 xs), none) := by rw [vL_d, ← enu_dL]; rfl
theorem f_tvT {xs : List α} : tv S (vT e xs).d = some (!xs.isEmpty) := by rw [vT_d, tv_tuple]; cases xs <;> rfl
theorem f_tvL {xs : List α} : tv S (vL e xs).d = some (!xs.isEmpty) := by rw [vL_d, tv_list]; cases xs <;> rfl
theorem f_tvC {xs : List α} (h : S[k]? = some (.lst (dL e xs))) : tv S (rf k) = some (!xs.isEmpty) := by
  unfold tv
  simp only [refOf_rf, h]
  cases xs <;> rfl
/-- one behind the other -/
@[irreducible] def catM (xs ys : List α) : M (List α) := if xs.length + ys.length ≤ sizeLine then .ok (xs ++ ys) else .no
theorem m_catT {xs ys : List α} : RE (lift (addD S (vT e xs).d (vT e ys).d) S) S (catM xs ys) (vT e) := by
  rw [vT_d, vT_d]
  show RG (lift (if (dL e xs).length + (dL e ys).length ≤ sizeLine then some (PyData.tuple (dL e xs ++ dL e ys)) else none) S) S _ _
  rw [dL_len, dL_len]
  unfold catM
  exact rg_ite (by rw [vT_d]; unfold dL; rw [List.map_append])
/-- so often -/
@[irreducible] def repM (xs : List α) (i : Int) : M (List α) := if -9223372036854775808 ≤ i ∧ i < 9223372036854775808 ∧ xs.length * i.toNat ≤ sizeLine then .ok (List.replicate i.toNat xs).flatten else .no

/-! ### order -/
structure SRT (e : α → Val) : Prop where
  ok : (∀ x, ∃ a r, (e x).d = .tuple (a :: r)) ∨ ∀ x, (e x).d ≠ .none ∧ ∀ xs, (e x).d ≠ .tuple xs
theorem SRT.int : SRT Val.int := ⟨.inr fun _ => ⟨(fun h => nomatch h), (fun _ h => nomatch h)⟩⟩
theorem SRT.str : SRT Val.str := ⟨.inr fun _ => ⟨(fun h => nomatch h), (fun _ h => nomatch h)⟩⟩
theorem SRT.v1 {e1 : α → Val} : SRT (v1 e1) := ⟨.inl fun _ => ⟨_, _, rfl⟩⟩
theorem SRT.v2 {e1 : α → Val} {e2 : β → Val} : SRT (v2 e1 e2) := ⟨.inl fun _ => ⟨_, _, rfl⟩⟩
theorem SRT.v3 {e1 : α → Val} {e2 : β → Val} {e3 : γ → Val} : SRT (v3 e1 e2 e3) := ⟨.inl fun _ => ⟨_, _, rfl⟩⟩
theorem SRT.v4 {e1 : α → Val} {e2 : β → Val} {e3 : γ → Val} {e4 : δ → Val} : SRT (v4 e1 e2 e3 e4) := ⟨.inl fun _ => ⟨_, _, rfl⟩⟩
def sortT (lt : α → α → Bool) (xs : List α) : List α := xs.mergeSort fun a b => !lt b a
theorem sortOk_dL {lt : α → α → Bool} (h : ORD e lt n) (s : SRT e) (hn : Nat.ble n 64 = true) (xs : List α) : SortOk (dL e xs) := by
  refine ⟨fun d hd => ?_, fun d hd d' hd' => ?_, ?_⟩
  · obtain ⟨x, _, rfl⟩ := List.mem_map.mp hd
    exact ⟨flat_d _, Nat.le_trans (h.dep x) (Nat.le_of_ble_eq_true hn)⟩
  · obtain ⟨x, _, rfl⟩ := List.mem_map.mp hd
    obtain ⟨y, _, rfl⟩ := List.mem_map.mp hd'
    exact h.ali x y
  · rcases s.ok with s | s
    · refine .inl fun d hd => ?_
      obtain ⟨x, _, rfl⟩ := List.mem_map.mp hd
      exact s x
    · refine .inr fun d hd => ?_
      obtain ⟨x, _, rfl⟩ := List.mem_map.mp hd
      exact s x
theorem sort_dL {lt : α → α → Bool} (h : ORD e lt n) (xs : List α) : sortL (dL e xs) = dL e (sortT lt xs) := by
  unfold sortL sortT dL
  refine (List.map_mergeSort (f := fun a => (e a).d) fun a _ b _ => ?_).symm
  rw [PySem.W.dataLe_eq]
  show (!lt b a) = (!PySem.W.dataLt (e b).d (e a).d)
  rw [h.lt]
theorem f_sortL {lt : α → α → Bool} {xs : List α} (h : ORD e lt n) (s : SRT e) (hn : Nat.ble n 64 = true := by rfl) : sortedD S [(vL e xs).d] = some (dL e (sortT lt xs)) := by
  unfold sortedD
  rw [vL_d]
  show sortedL (.list (dL e xs)) = _
  rw [sortedL_of (sortOk_dL h s hn xs), sort_dL h]
theorem f_sortC {lt : α → α → Bool} {xs : List α} (hc : S[k]? = some (.lst (dL e xs))) (h : ORD e lt n) (s : SRT e) (hn : Nat.ble n 64 = true := by rfl) : sortedD S [rf k] = some (dL e (sortT lt xs)) := by
  show (der S (rf k)).bind sortedL = _
  rw [seq_cell hc]
  show sortedL (.list (dL e xs)) = _
  rw [sortedL_of (sortOk_dL h s hn xs), sort_dL h]
def leastM (lt : α → α → Bool) (xs : List α) : M α := match xs with
  | [] => .no
  | x :: r => .ok (r.foldl (fun a y => if lt y a = true then y else a) x)
def mostM (lt : α → α → Bool) (xs : List α) : M α := match xs with
  | [] => .no
  | x :: r => .ok (r.foldl (fun a y => if lt a y = true then y else a) x)
theorem foldl_dL (f : α → α → α) (g : D → D → D) (h : ∀ a b, g (e a).d (e b).d = (e (f a b)).d) : ∀ (xs : List α) (a : α), (dL e xs).foldl g (e a).d = (e (xs.foldl f a)).d
  | [], _ => rfl
  | x :: xs, a => by
    show (dL e xs).foldl g (g (e a).d (e x).d) = _
    rw [h, foldl_dL f g h xs]; rfl
theorem mmOk_dL {lt : α → α → Bool} (h : ORD e lt n) (hn : Nat.ble n 64 = true) (xs : List α) : mmOk (dL e xs) = true := by
  unfold mmOk
  rw [Bool.and_eq_true]
  refine ⟨List.all_eq_true.mpr fun d hd => ?_, decide_eq_true ?_⟩
  · obtain ⟨x, _, rfl⟩ := List.mem_map.mp hd
    rw [flat_d, Bool.true_and, Bool.and_eq_true]
    refine ⟨List.all_eq_true.mpr fun d' hd' => ?_, ?_⟩
    · obtain ⟨y, _, rfl⟩ := List.mem_map.mp hd'
      exact h.ali x y
    · have := h.nn x
      cases q : (e x).d <;> first | rfl | (rw [q] at this; cases this)
  · refine Nat.le_trans ?_ (Nat.le_of_ble_eq_true hn)
    induction xs with
    | nil => simp [dL, PyData.depthAll]
    | cons x xs ih =>
      show PyData.depthAll ((e x).d :: dL e xs) ≤ n
      simp only [PyData.depthAll]
      have := h.dep x
      omega
theorem m_least {lt : α → α → Bool} {xs : List α} (h : ORD e lt n) (hn : Nat.ble n 64 = true) : RE (lift (match dL e xs with | d :: ds => if mmOk (d :: ds) = true then some (PySem.W.minD d ds) else none | _ => none) S) S (leastM lt xs) e := by
  cases xs with
  | nil => trivial
  | cons x r =>
    show RE (lift (if mmOk (dL e (x :: r)) = true then some (PySem.W.minD (e x).d (dL e r)) else none) S) S (.ok _) e
    rw [if_pos (mmOk_dL h hn _)]
    unfold PySem.W.minD
    rw [foldl_dL (fun a y => if lt y a = true then y else a) _ (fun a b => by rw [h.lt]; split <;> rfl)]
    rfl
theorem m_most {lt : α → α → Bool} {xs : List α} (h : ORD e lt n) (hn : Nat.ble n 64 = true) : RE (lift (match dL e xs with | d :: ds => if mmOk (d :: ds) = true then some (PySem.W.maxD d ds) else none | _ => none) S) S (mostM lt xs) e := by
  cases xs with
  | nil => trivial
  | cons x r =>
    show RE (lift (if mmOk (dL e (x :: r)) = true then some (PySem.W.maxD (e x).d (dL e r)) else none) S) S (.ok _) e
    rw [if_pos (mmOk_dL h hn _)]
    unfold PySem.W.maxD
    rw [foldl_dL (fun a y => if lt a y = true then y else a) _ (fun a b => by rw [h.lt]; split <;> rfl)]
    rfl
theorem mm_list (f : D → List D → D) (ds : List D) : mmD f S [.list ds] = (match ds with | d :: ds => if mmOk (d :: ds) = true then some (f d ds) else none | _ => none) := by
  cases ds <;> rfl
theorem mm_tuple (f : D → List D → D) (ds : List D) : mmD f S [.tuple ds] = (match ds with | d :: ds => if mmOk (d :: ds) = true then some (f d ds) else none | _ => none) := by
  cases ds <;> rfl
theorem m_minL {lt : α → α → Bool} {xs : List α} (h : ORD e lt n) (hn : Nat.ble n 64 = true := by rfl) : RE (lift (mmD PySem.W.minD S [(vL e xs).d]) S) S (leastM lt xs) e := by rw [vL_d, mm_list]; exact m_least h hn
theorem m_minT {lt : α → α → Bool} {xs : List α} (h : ORD e lt n) (hn : Nat.ble n 64 = true := by rfl) : RE (lift (mmD PySem.W.minD S [(vT e xs).d]) S) S (leastM lt xs) e := by rw [vT_d, mm_tuple]; exact m_least h hn
theorem m_maxL {lt : α → α → Bool} {xs : List α} (h : ORD e lt n) (hn : Nat.ble n 64 = true := by rfl) : RE (lift (mmD PySem.W.maxD S [(vL e xs).d]) S) S (mostM lt xs) e := by rw [vL_d, mm_list]; exact m_most h hn
theorem m_maxT {lt : α → α → Bool} {xs : List α} (h : ORD e lt n) (hn : Nat.ble n 64 = true := by rfl) : RE (lift (mmD PySem.W.maxD S [(vT e xs).d]) S) S (mostM lt xs) e := by rw [vT_d, mm_tuple]; exact m_most h hn
theorem m_minC {lt : α → α → Bool} {xs : List α} (hc : S[k]? = some (.lst (dL e xs))) (h : ORD e lt n) (hn : Nat.ble n 64 = true := by rfl) : RE (lift (mmD PySem.W.minD S [rf k]) S) S (leastM lt xs) e := by
  rw [show mmD PySem.W.minD S [rf k] = (match dL e xs with | d :: ds => if mmOk (d :: ds) = true then some (PySem.W.minD d ds) else none | _ => none) by rw [← mm_list (S := S)]; show (match der S (rf k) with | some (.list (d :: ds)) => _ | some (.tuple (d :: ds)) => _ | _ => _) = _; rw [seq_cell hc]; rfl]
  exact m_least h hn
theorem m_maxC {lt : α → α → Bool} {xs : List α} (hc : S[k]? = some (.lst (dL e xs))) (h : ORD e lt n) (hn : Nat.ble n 64 = true := by rfl) : RE (lift (mmD PySem.W.maxD S [rf k]) S) S (mostM lt xs) e := by
  rw [show mmD PySem.W.maxD S [rf k] = (match dL e xs with | d :: ds => if mmOk (d :: ds) = true then some (PySem.W.maxD d ds) else none | _ => none) by rw [← mm_list (S := S)]; show (match der S (rf k) with | some (.list (d :: ds)) => _ | some (.tuple (d :: ds)) => _ | _ => _) = _; rw [seq_cell hc]; rfl]
  exact m_most h hn
end

/-! ### cells changed -/
section
variable {α β σ : Type} {S0 S : Sto} {W : List Nat} {n k i : Nat} {env : Envd} {L : List (Nat × Option D)} {C : List (Nat × Cell)} {K : Blk} {Q : β → Fl → Prop} {e : α → Val} {xs : List α} {g go : Ex} {d : D}
@[irreducible] def appM (xs : List α) (x : α) : M (List α) := if xs.length < sizeLine then .ok (xs ++ [x]) else .no
/-- name.append(e) -/
theorem sapp {x : α} {f : List α → M β} {p : Nat} (h : Fr S0 W n env S L C) (hp : C[p]? = some (k, .lst (dL e xs))) (ho : go env S = .ok (rf k) S) (hg : g env S = .ok (e x).d S)
    (hk : ∀ ys, Fr S0 W n env (S.set k (.lst (dL e ys))) L (C.set p (k, .lst (dL e ys))) → Ref S0 W (K env (S.set k (.lst (dL e ys)))) (f ys) Q) :
    Ref S0 W ((expB (methE appD go (consX g nilX)) env S).seq K) ((appM xs x).bind f) Q := by
  have hc := h.cellAt p hp
  have hl : lstOf S (rf k) = some (k, dL e xs) := lstOf_rf hc
  unfold appM
  by_cases z : xs.length < sizeLine
  · rw [if_pos z]
    have ha : appD (dL e xs) [(e x).d] = some (.none, dL e (xs ++ [x])) := by
      show (if (dL e xs).length < sizeLine then some (PyData.none, dL e xs ++ [(e x).d]) else none) = _
      rw [dL_len, if_pos z]
      unfold dL
      rw [List.map_append]; rfl
    have q : methE appD go (consX g nilX) env S = .ok .none (S.set k (.lst (dL e (xs ++ [x])))) := by
      rw [methE_eq, ho, R.bind_ok, hl, optR_some, consX_eq, hg, R.bind_ok, nilX_eq, R.bind_ok, R.bind_ok, hl, optR_some, ha, optR_some]
    exact sexp q (hk _ (h.write p hp))
  · rw [if_neg z]; trivial
theorem app_er {w : Exn} (ho : go env S = .ok (rf k) S) (hc : S[k]? = some (.lst (dL e xs))) (hg : g env S = .er w S) : (expB (methE appD go (consX g nilX)) env S).seq K = .er w env S := by
  refine exp_er ?_
  rw [methE_eq, ho, R.bind_ok, lstOf_rf hc, optR_some, consX_eq, hg]; rfl
def popM (xs : List α) : M (α × List α) := match xs[xs.length - 1]? with
  | some a => .ok (a, xs.dropLast)
  | none => .no
/-- target = name.pop() -/
theorem spop {f : α × List α → M β} {p : Nat} {t : Tg} (h : Fr S0 W n env S L C) (hp : C[p]? = some (k, .lst (dL e xs))) (ho : go env S = .ok (rf k) S)
    (hk : ∀ x ys, Fr S0 W n env (S.set k (.lst (dL e ys))) L (C.set p (k, .lst (dL e ys))) → Ref S0 W ((tgF (t (e x).d env) (S.set k (.lst (dL e ys)))).seq K) (f (x, ys)) Q) :
    Ref S0 W ((asgB (methE popD go nilX) t env S).seq K) ((popM xs).bind f) Q := by
  have hc := h.cellAt p hp
  have hl : lstOf S (rf k) = some (k, dL e xs) := lstOf_rf hc
  unfold popM
  cases q : xs[xs.length - 1]? with
  | none => trivial
  | some a =>
    have hd : popD (dL e xs) [] = some ((e a).d, dL e xs.dropLast) := by
      unfold popD
      show (match (dL e xs)[(dL e xs).length - 1]? with | some d => some (d, (dL e xs).dropLast) | none => none) = _
      rw [dL_len]
      unfold dL
      rw [List.getElem?_map, q, List.map_dropLast]; rfl
    have q : methE popD go nilX env S = .ok (e a).d (S.set k (.lst (dL e xs.dropLast))) := by
      rw [methE_eq, ho, R.bind_ok, hl, optR_some, nilX_eq, R.bind_ok, hl, optR_some, hd, optR_some]
    rw [asgB_eq, q, R.to_ok]
    exact hk a _ (h.write p hp)
/-- name.pop() alone -/
theorem spop0 {f : α × List α → M β} {p : Nat} (h : Fr S0 W n env S L C) (hp : C[p]? = some (k, .lst (dL e xs))) (ho : go env S = .ok (rf k) S)
    (hk : ∀ x ys, Fr S0 W n env (S.set k (.lst (dL e ys))) L (C.set p (k, .lst (dL e ys))) → Ref S0 W (K env (S.set k (.lst (dL e ys)))) (f (x, ys)) Q) :
    Ref S0 W ((expB (methE popD go nilX) env S).seq K) ((popM xs).bind f) Q := by
  have hc := h.cellAt p hp
  have hl : lstOf S (rf k) = some (k, dL e xs) := lstOf_rf hc
  unfold popM
  cases q : xs[xs.length - 1]? with
  | none => trivial
  | some a =>
    have hd : popD (dL e xs) [] = some ((e a).d, dL e xs.dropLast) := by
      unfold popD
      show (match (dL e xs)[(dL e xs).length - 1]? with | some d => some (d, (dL e xs).dropLast) | none => none) = _
      rw [dL_len]
      unfold dL
      rw [List.getElem?_map, q, List.map_dropLast]; rfl
    have q : methE popD go nilX env S = .ok (e a).d (S.set k (.lst (dL e xs.dropLast))) := by
      rw [methE_eq, ho, R.bind_ok, hl, optR_some, nilX_eq, R.bind_ok, hl, optR_some, hd, optR_some]
    exact sexp q (hk a _ (h.write p hp))
@[irreducible] def setM (xs : List α) (i : Int) (x : α) : M (List α) := match L2.ixN xs.length i with
  | some j => .ok (xs.set j x)
  | none => .no
/-- name[i] = v on a list -/
theorem sput {x : α} {j : Int} {f : List α → M β} {p : Nat} {gi : Ex} (h : Fr S0 W n env S L C) (hp : C[p]? = some (k, .lst (dL e xs))) (hv : g env S = .ok (e x).d S) (ho : go env S = .ok (rf k) S) (hi : gi env S = .ok (Val.int j).d S)
    (hk : ∀ ys, Fr S0 W n env (S.set k (.lst (dL e ys))) L (C.set p (k, .lst (dL e ys))) → Ref S0 W (K env (S.set k (.lst (dL e ys)))) (f ys) Q) :
    Ref S0 W ((putB g go gi env S).seq K) ((setM xs j x).bind f) Q := by
  have hc := h.cellAt p hp
  unfold setM
  cases q : L2.ixN xs.length j with
  | none => trivial
  | some m =>
    have hd : putD S (rf k) (Val.int j).d (e x).d = some (S.set k (.lst (dL e (xs.set m x)))) := by
      unfold putD
      rw [refOf_rf]
      simp only [hc]
      show ((L2.ixN (dL e xs).length j).map fun j => Cell.lst ((dL e xs).set j (e x).d)).map _ = _
      rw [dL_len, q]
      unfold dL
      rw [List.map_set]; rfl
    rw [putB_eq, hv, R.to_ok, ho, R.to_ok, hi, R.to_ok, hd, stoF_some, Fl.seq_nx]
    exact hk _ (h.write p hp)
theorem put_e1 {w : Exn} {gi : Ex} (hv : g env S = .er w S) : (putB g go gi env S).seq K = .er w env S := by rw [putB_eq, hv]; rfl
theorem put_e3 {w : Exn} {gi : Ex} {d' : D} (hv : g env S = .ok d S) (ho : go env S = .ok d' S) (hi : gi env S = .er w S) : (putB g go gi env S).seq K = .er w env S := by rw [putB_eq, hv, R.to_ok, ho, R.to_ok, hi]; rfl
/-- target = a fresh list, a cell -/
theorem scel {gs : Exs} {ds : List D} {t : Tg} {env1 : Envd} {m : M β} (hg : gs env S = .ok ds S) (ht : t (rf S.length) env = some env1) (h : Fr S0 W n env S L C)
    (hk : ∀ k, k = S.length → Fr S0 W n env (S ++ [.lst ds]) L (C ++ [(k, .lst ds)]) → Ref S0 W (K env1 (S ++ [.lst ds])) m Q) : Ref S0 W ((asgB (cel gs) t env S).seq K) m Q :=
  sasg (show cel gs env S = .ok (rf S.length) (S ++ [.lst ds]) by rw [cel_eq, hg]; rfl) ht (hk _ rfl h.new)
theorem cel_e {gs : Exs} {w : Exn} (hg : gs env S = .er w S) : cel gs env S = .er w S := by rw [cel_eq, hg]; rfl
/-- target = {}, a cell -/
theorem snew {c : Cell} {t : Tg} {env1 : Envd} {m : M β} (ht : t (rf S.length) env = some env1) (h : Fr S0 W n env S L C)
    (hk : ∀ k, k = S.length → Fr S0 W n env (S ++ [c]) L (C ++ [(k, c)]) → Ref S0 W (K env1 (S ++ [c])) m Q) : Ref S0 W ((asgB (newE c) t env S).seq K) m Q :=
  sasg (show newE c env S = .ok (rf S.length) (S ++ [c]) from rfl) ht (hk _ rfl h.new)
end

/-! ### dicts -/
section
variable {α β κ : Type} [DecidableEq κ] {S0 S : Sto} {W : List Nat} {n k i : Nat} {env : Envd} {L : List (Nat × Option D)} {C : List (Nat × Cell)} {K : Blk} {Q : β → Fl → Prop} {e : α → Val} {xs : List (κ × α)} {g go gi : Ex}
structure KYK (e : κ → Val) (ek : κ → Key) : Prop where
  key : ∀ x, keyD (e x).d = some (ek x)
  inj : ∀ x y, ek x = ek y → x = y
  back : ∀ x, kD (ek x) = (e x).d
structure KYT (e : κ → Val) (ek : κ → List Key) : Prop where
  key : ∀ x, ∃ ds, (e x).d = .tuple ds ∧ keysD ds = some (ek x)
  inj : ∀ x y, ek x = ek y → x = y
  back : ∀ x, PyData.tuple ((ek x).map kD) = (e x).d
def kI (i : Int) : Key := .inl i
def kS (x : Str) : Key := .inr x
theorem KYK.int : KYK Val.int kI := ⟨fun _ => rfl, fun _ _ h => by cases h; rfl, fun _ => rfl⟩
theorem KYK.str : KYK Val.str kS := ⟨fun _ => rfl, fun _ _ h => by cases h; rfl, fun _ => rfl⟩
def k2 {α β : Type} (f : α → Key) (g : β → Key) (p : α × β) : List Key := [f p.1, g p.2]
def k3 {α β γ : Type} (f : α → Key) (g : β → Key) (h : γ → Key) (p : α × β × γ) : List Key := [f p.1, g p.2.1, h p.2.2]
theorem keysD_cons {d : D} {ds : List D} {k : Key} {ks : List Key} (h : keyD d = some k) (h' : keysD ds = some ks) : keysD (d :: ds) = some (k :: ks) := by
  unfold keysD
  rw [h, h']
theorem KYT.v2 {α β : Type} [DecidableEq α] [DecidableEq β] {e1 : α → Val} {e2 : β → Val} {f : α → Key} {g : β → Key} (h1 : KYK e1 f) (h2 : KYK e2 g) : KYT (v2 e1 e2) (k2 f g) :=
  ⟨fun x => ⟨_, rfl, keysD_cons (h1.key _) (keysD_cons (h2.key _) rfl)⟩, fun x y h => by
    unfold k2 at h
    injection h with a b
    injection b with b _
    exact Prod.ext (h1.inj _ _ a) (h2.inj _ _ b), fun x => by
    show PyData.tuple [kD (f x.1), kD (g x.2)] = .tuple [(e1 x.1).d, (e2 x.2).d]
    rw [h1.back, h2.back]⟩
theorem KYT.v3 {α β γ : Type} [DecidableEq α] [DecidableEq β] [DecidableEq γ] {e1 : α → Val} {e2 : β → Val} {e3 : γ → Val} {f : α → Key} {g : β → Key} {h : γ → Key} (h1 : KYK e1 f) (h2 : KYK e2 g) (h3 : KYK e3 h) : KYT (v3 e1 e2 e3) (k3 f g h) :=
  ⟨fun x => ⟨_, rfl, keysD_cons (h1.key _) (keysD_cons (h2.key _) (keysD_cons (h3.key _) rfl))⟩, fun x y q => by
    unfold k3 at q
    injection q with a b
    injection b with b c
    injection c with c _
    exact Prod.ext (h1.inj _ _ a) (Prod.ext (h2.inj _ _ b) (h3.inj _ _ c)), fun x => by
    show PyData.tuple [kD (f x.1), kD (g x.2.1), kD (h x.2.2)] = .tuple [(e1 x.1).d, (e2 x.2.1).d, (e3 x.2.2).d]
    rw [h1.back, h2.back, h3.back]⟩
/-- the entries as data -/
def dM {κ' : Type} (ek : κ → κ') (e : α → Val) (xs : List (κ × α)) : List (κ' × D) := xs.map fun p => (ek p.1, (e p.2).d)
def dhas (xs : List (κ × α)) (x : κ) : Bool := xs.any fun p => decide (p.1 = x)
def dget? (xs : List (κ × α)) (x : κ) : Option α := (xs.find? fun p => decide (p.1 = x)).map (·.2)
def dgetM (xs : List (κ × α)) (x : κ) : M α := match dget? xs x with
  | some a => .ok a
  | none => .no
def dput (xs : List (κ × α)) (x : κ) (v : α) : List (κ × α) := if dhas xs x = true then xs.map (fun p => if p.1 = x then (p.1, v) else p) else xs ++ [(x, v)]
@[irreducible] def dputM (xs : List (κ × α)) (x : κ) (v : α) : M (List (κ × α)) := if xs.length < sizeLine then .ok (dput xs x v) else .no
theorem valD_dM {κ' : Type} [DecidableEq κ'] {ek : κ → κ'} (inj : ∀ x y, ek x = ek y → x = y) (x : κ) : ∀ xs : List (κ × α), valD (dM ek e xs) (ek x) = (dget? xs x).map fun a => (e a).d
  | [] => rfl
  | p :: xs => by
    have ih := valD_dM inj x xs
    unfold valD dget? at ih ⊢
    show (List.find? _ ((ek p.1, (e p.2).d) :: dM ek e xs)).map _ = _
    by_cases h : p.1 = x
    · rw [List.find?_cons_of_pos (by simp [h]), List.find?_cons_of_pos (by simp [h])]; rfl
    · have h' : ek p.1 ≠ ek x := fun z => h (inj _ _ z)
      rw [List.find?_cons_of_neg (by simp [h']), List.find?_cons_of_neg (by simp [h])]; exact ih
theorem putL_dM {κ' : Type} [DecidableEq κ'] {ek : κ → κ'} (inj : ∀ x y, ek x = ek y → x = y) (xs : List (κ × α)) (x : κ) (v : α) : putL (dM ek e xs) (ek x) (e v).d = dM ek e (dput xs x v) := by
  have ha : ((dM ek e xs).any fun kv => decide (kv.1 = ek x)) = dhas xs x := by
    unfold dM dhas
    rw [List.any_map]
    congr 1
    funext p
    exact decide_eq_decide.mpr ⟨fun h => inj _ _ h, fun h => by show ek p.1 = ek x; rw [h]⟩
  unfold putL dput
  rw [ha]
  by_cases h : dhas xs x = true
  · rw [if_pos h, if_pos h]
    unfold dM
    rw [List.map_map, List.map_map]
    apply List.map_congr_left
    intro p _
    show (if ek p.1 = ek x then (ek p.1, (e v).d) else (ek p.1, (e p.2).d)) = (ek (if p.1 = x then (p.1, v) else p).1, (e (if p.1 = x then (p.1, v) else p).2).d)
    by_cases q : p.1 = x
    · rw [if_pos (by rw [q]), if_pos q]
    · rw [if_neg (fun z => q (inj _ _ z)), if_neg q]
  · rw [if_neg h, if_neg h]
    unfold dM
    rw [List.map_append]; rfl
variable {ev : κ → Val} {ekK : κ → Key} {ekT : κ → List Key} {x : κ}
theorem m_dgetK (h : KYK ev ekK) (hc : S[k]? = some (.dK (dM ekK e xs))) : RE (lift (idxD S (rf k) (ev x).d) S) S (dgetM xs x) e := by
  have : idxD S (rf k) (ev x).d = (dget? xs x).map fun a => (e a).d := by
    show (cellD S (rf k)).bind (cellAt (ev x).d) = _
    rw [cellD_rf, hc]
    show (getD (.dK (dM ekK e xs)) (ev x).d).bind _ = _
    unfold getD
    rw [h.key]
    show valD (dM ekK e xs) (ekK x) = _
    exact valD_dM h.inj x xs
  rw [this]
  unfold dgetM
  cases dget? xs x with
  | none => trivial
  | some a => rfl
theorem getD_dT (h : KYT ev ekT) : getD (.dT (dM ekT e xs)) (ev x).d = some ((dget? xs x).map fun a => (e a).d) := by
  obtain ⟨ds, e1, e2⟩ := h.key x
  rw [e1]
  unfold getD
  show (match keysD ds with | some q => some (valD (dM ekT e xs) q) | none => none) = _
  rw [e2]
  show some (valD (dM ekT e xs) (ekT x)) = _
  rw [valD_dM h.inj x xs]
theorem m_dgetT (h : KYT ev ekT) (hc : S[k]? = some (.dT (dM ekT e xs))) : RE (lift (idxD S (rf k) (ev x).d) S) S (dgetM xs x) e := by
  have : idxD S (rf k) (ev x).d = (dget? xs x).map fun a => (e a).d := by
    show (cellD S (rf k)).bind (cellAt (ev x).d) = _
    rw [cellD_rf, hc]
    show (getD (.dT (dM ekT e xs)) (ev x).d).bind _ = _
    rw [getD_dT h]; rfl
  rw [this]
  unfold dgetM
  cases dget? xs x with
  | none => trivial
  | some a => rfl
theorem dhas_get (xs : List (κ × α)) (x : κ) : ((dget? xs x).map fun a => (e a).d).isSome = dhas xs x := by
  unfold dget? dhas
  rw [Option.isSome_map, Option.isSome_map]
  induction xs with
  | nil => rfl
  | cons p xs ih =>
    by_cases h : p.1 = x
    · rw [List.find?_cons_of_pos (by simp [h]), List.any_cons]; simp [h]
    · rw [List.find?_cons_of_neg (by simp [h]), List.any_cons]; simp [h] at ih ⊢; exact ih
theorem f_inK (h : KYK ev ekK) (hc : S[k]? = some (.dK (dM ekK e xs))) : inB S (ev x).d (rf k) = some (dhas xs x) := by
  show (match cellD S (rf k) with | some (.lst ys) => inSeq (ev x).d ys | some c => (getD c (ev x).d).map (fun o : Option D => o.isSome) | none => none) = _
  rw [cellD_rf, hc]
  show (getD (.dK (dM ekK e xs)) (ev x).d).map (fun o : Option D => o.isSome) = _
  unfold getD
  rw [h.key]
  show some (valD (dM ekK e xs) (ekK x)).isSome = _
  rw [valD_dM h.inj x xs, dhas_get]
theorem f_inDT (h : KYT ev ekT) (hc : S[k]? = some (.dT (dM ekT e xs))) : inB S (ev x).d (rf k) = some (dhas xs x) := by
  show (match cellD S (rf k) with | some (.lst ys) => inSeq (ev x).d ys | some c => (getD c (ev x).d).map (fun o : Option D => o.isSome) | none => none) = _
  rw [cellD_rf, hc]
  show (getD (.dT (dM ekT e xs)) (ev x).d).map (fun o : Option D => o.isSome) = _
  rw [getD_dT h]
  show some ((dget? xs x).map fun a => (e a).d).isSome = _
  rw [dhas_get]
/-- name[key] = v -/
theorem sdputK {v : α} {f : List (κ × α) → M β} {p : Nat} (hK : KYK ev ekK) (h : Fr S0 W n env S L C) (hp : C[p]? = some (k, .dK (dM ekK e xs))) (hv : g env S = .ok (e v).d S) (ho : go env S = .ok (rf k) S) (hi : gi env S = .ok (ev x).d S)
    (hk : ∀ ys, Fr S0 W n env (S.set k (.dK (dM ekK e ys))) L (C.set p (k, .dK (dM ekK e ys))) → Ref S0 W (K env (S.set k (.dK (dM ekK e ys)))) (f ys) Q) :
    Ref S0 W ((putB g go gi env S).seq K) ((dputM xs x v).bind f) Q := by
  have hc := h.cellAt p hp
  unfold dputM
  by_cases z : xs.length < sizeLine
  · rw [if_pos z]
    have hd : putD S (rf k) (ev x).d (e v).d = some (S.set k (.dK (dM ekK e (dput xs x v)))) := by
      unfold putD
      rw [refOf_rf]
      simp only [hc]
      show (if (dM ekK e xs).length < sizeLine then (keyD (ev x).d).map fun k => Cell.dK (putL (dM ekK e xs) k (e v).d) else none).map _ = _
      rw [if_pos (by unfold dM; rw [List.length_map]; exact z), hK.key]
      show some (S.set k (.dK (putL (dM ekK e xs) (ekK x) (e v).d))) = _
      rw [putL_dM hK.inj]
    rw [putB_eq, hv, R.to_ok, ho, R.to_ok, hi, R.to_ok, hd, stoF_some, Fl.seq_nx]
    exact hk _ (h.write p hp)
  · rw [if_neg z]; trivial
theorem sdputT {v : α} {f : List (κ × α) → M β} {p : Nat} (hK : KYT ev ekT) (h : Fr S0 W n env S L C) (hp : C[p]? = some (k, .dT (dM ekT e xs))) (hv : g env S = .ok (e v).d S) (ho : go env S = .ok (rf k) S) (hi : gi env S = .ok (ev x).d S)
    (hk : ∀ ys, Fr S0 W n env (S.set k (.dT (dM ekT e ys))) L (C.set p (k, .dT (dM ekT e ys))) → Ref S0 W (K env (S.set k (.dT (dM ekT e ys)))) (f ys) Q) :
    Ref S0 W ((putB g go gi env S).seq K) ((dputM xs x v).bind f) Q := by
  have hc := h.cellAt p hp
  unfold dputM
  by_cases z : xs.length < sizeLine
  · rw [if_pos z]
    have hd : putD S (rf k) (ev x).d (e v).d = some (S.set k (.dT (dM ekT e (dput xs x v)))) := by
      obtain ⟨ds, e1, e2⟩ := hK.key x
      unfold putD
      rw [refOf_rf, e1]
      simp only [hc]
      show (if (dM ekT e xs).length < sizeLine then (keysD ds).map fun k => Cell.dT (putL (dM ekT e xs) k (e v).d) else none).map _ = _
      rw [if_pos (by unfold dM; rw [List.length_map]; exact z), e2]
      show some (S.set k (.dT (putL (dM ekT e xs) (ekT x) (e v).d))) = _
      rw [putL_dM hK.inj]
    rw [putB_eq, hv, R.to_ok, ho, R.to_ok, hi, R.to_ok, hd, stoF_some, Fl.seq_nx]
    exact hk _ (h.write p hp)
  · rw [if_neg z]; trivial
def dkeys (xs : List (κ × α)) : List κ := xs.map (·.1)
theorem m_skeys {lt : κ → κ → Bool} (hc : cKeys (S.getD k (.lst [])) = some (dL ev (dkeys xs))) (hs : (S[k]?).isSome = true) (ho : go env S = .ok (rf k) S) (h : ORD ev lt n) (s : SRT ev) (hn : Nat.ble n 64 = true) :
    RG (skeysF go env S) S ((sizeM xs.length).bind fun _ => .ok (sortT lt (dkeys xs))) (dL ev) := by
  obtain ⟨c, hc'⟩ := Option.isSome_iff_exists.mp hs
  have e0 : S.getD k (.lst []) = c := by rw [List.getD_eq_getElem?_getD, hc']; rfl
  rw [e0] at hc
  unfold skeysF
  rw [ho, R.bind_ok]
  unfold skeysL
  rw [cellD_rf, hc']
  show RG (optR ((cKeys c).bind sortG) fun ds => .ok ds S) S _ _
  rw [hc]
  show RG (optR (sortG (dL ev (dkeys xs))) fun ds => .ok ds S) S _ _
  unfold sizeM
  by_cases z : xs.length ≤ sizeLine
  · rw [if_pos z, sortG_of (sortOk_dL h s hn _) (by rw [dL_len]; unfold dkeys; rw [List.length_map]; exact z), sort_dL h]; rfl
  · rw [if_neg z]; trivial
theorem m_skeysK {lt : κ → κ → Bool} (hK : KYK ev ekK) (hc : S[k]? = some (.dK (dM ekK e xs))) (ho : go env S = .ok (rf k) S) (h : ORD ev lt n) (s : SRT ev) (hn : Nat.ble n 64 = true := by rfl) :
    RG (skeysF go env S) S ((sizeM xs.length).bind fun _ => .ok (sortT lt (dkeys xs))) (dL ev) := by
  refine m_skeys ?_ (by rw [hc]; rfl) ho h s hn
  rw [List.getD_eq_getElem?_getD, hc]
  show some ((dM ekK e xs).map fun q => kD q.1) = _
  unfold dM dL dkeys
  rw [List.map_map, List.map_map]
  congr 1
  apply List.map_congr_left
  intro p _
  exact hK.back p.1
theorem m_skeysT {lt : κ → κ → Bool} (hK : KYT ev ekT) (hc : S[k]? = some (.dT (dM ekT e xs))) (ho : go env S = .ok (rf k) S) (h : ORD ev lt n) (s : SRT ev) (hn : Nat.ble n 64 = true := by rfl) :
    RG (skeysF go env S) S ((sizeM xs.length).bind fun _ => .ok (sortT lt (dkeys xs))) (dL ev) := by
  refine m_skeys ?_ (by rw [hc]; rfl) ho h s hn
  rw [List.getD_eq_getElem?_getD, hc]
  show some ((dM ekT e xs).map fun q => PyData.tuple (q.1.map kD)) = _
  unfold dM dL dkeys
  rw [List.map_map, List.map_map]
  congr 1
  apply List.map_congr_left
  intro p _
  exact hK.back p.1
theorem skeys_e {w : Exn} (ho : go env S = .er w S) : skeysF go env S = .er w S := by unfold skeysF; rw [ho]; rfl
end
end Cor

/-! T4: defs typed. -/
namespace Cor
open PySem PySem.Spec PyProof.Rows L2
section
variable {α β γ σ ρ : Type} {S0 S S1 : Sto} {W : List Nat} {n k k' i : Nat} {env env1 : Envd} {L : List (Nat × Option D)} {C : List (Nat × Cell)} {r : Fl} {K b : Blk} {Q : α → Fl → Prop} {c c' : Cell}
theorem Has.start (hl : env.length = n) : Has n env [] := ⟨hl, fun _ _ e => nomatch e⟩
theorem Keep.refl : Keep S0 W S0 := ⟨Nat.le_refl _, fun _ _ _ => rfl⟩
theorem Fr.start (hl : env.length = n) : Fr S [] n env S [] [] := ⟨.start hl, fun _ h => (nomatch h), List.nodup_nil, fun _ h => (nomatch h), .refl⟩
theorem Fr.start1 (hl : env.length = n) (hc : S[k]? = some c) : Fr S [k] n env S [] [(k, c)] :=
  ⟨.start hl, fun p h => by rw [List.mem_singleton.mp h]; exact hc, by simp, fun p h => by rw [List.mem_singleton.mp h]; exact .inr (List.mem_singleton_self _), .refl⟩
theorem Fr.start2 (hl : env.length = n) (hc : S[k]? = some c) (hc' : S[k']? = some c') (hne : k ≠ k') : Fr S [k, k'] n env S [] [(k, c), (k', c')] :=
  ⟨.start hl, fun p h => by
    rcases List.mem_cons.mp h with h | h
    · rw [h]; exact hc
    · rw [List.mem_singleton.mp h]; exact hc', by simp [hne], fun p h => by
    rcases List.mem_cons.mp h with h | h
    · rw [h]; exact .inr (List.mem_cons_self ..)
    · rw [List.mem_singleton.mp h]; exact .inr (List.mem_cons_of_mem _ (List.mem_singleton_self _)), .refl⟩
theorem take_keep (h : Keep S0 [] S) : S.take S0.length = S0 := by
  apply List.ext_getElem?
  intro j
  by_cases hj : j < S0.length
  · rw [List.getElem?_take_of_lt hj]
    exact h.2 j hj (fun z => nomatch z)
  · rw [List.getElem?_eq_none (by rw [List.length_take]; omega), List.getElem?_eq_none (by omega)]
theorem keep_same (h : Keep S0 W S) (hw : ∀ j ∈ W, S[j]? = S0[j]?) : Keep S0 [] S := ⟨h.1, fun j hj _ => by
  by_cases z : j ∈ W
  · exact hw j z
  · exact h.2 j hj z⟩
theorem frzFs_flat {k : Nat} : ∀ {fl : List (Str × D)}, (∀ p ∈ fl, flat p.2 = true) → frzFs k S fl = some fl
  | [], _ => rfl
  | p :: fl, h => by
    unfold frzFs
    rw [frzD_flat (h p (List.mem_cons_self ..)), frzFs_flat (fl := fl) fun q m => h q (List.mem_cons_of_mem _ m)]
/-! ### values handed out -/
def QR (S0 : Sto) (e : α → Val) (v : α) (r : Fl) : Prop := endB S0 r = .ok (e v).d S0
theorem fn_of {b : Blk} {m : M α} {e : α → Val} {x : R D} (hr : x = endB S0 (b env S0)) (h : Ref S0 [] (b env S0) m (QR S0 e)) : RE x S0 m e := by
  rw [hr]
  cases m with
  | ok a => exact h
  | er w =>
    obtain ⟨⟨env', S', e1, hk⟩, hx⟩ := h
    refine ⟨?_, hx⟩
    rw [e1, endB_er]
    exact finE_ok (take_keep hk) (frzFs_flat hx)
  | no => trivial
theorem retV (h : Fr S0 [] n env S L C) (v : Val) : endB S0 (.rt v.d S) = .ok v.d S0 := by
  rw [endB_rt]; exact fin_flat (take_keep h.kp) (flat_d v)
theorem retU (h : Fr S0 [] n env S L C) : endB S0 (.nx env S) = .ok PyData.none S0 := by
  rw [endB_nx]; exact fin_flat (take_keep h.kp) rfl
theorem retC {e : α → Val} {xs : List α} (h : Fr S0 [] n env S L C) (p : Nat) (hp : C[p]? = some (k, .lst (dL e xs))) : endB S0 (.rt (rf k) S) = .ok (vL e xs).d S0 := by
  rw [endB_rt, vL_d]
  have hk : S0.length ≤ k := by
    rcases h.own _ (List.mem_of_getElem? hp) with o | o
    · exact o
    · exact nomatch o
  exact fin_ok (take_keep h.kp) (frzD_new (S := S) (dL_flat e xs) _ _ (by omega) (h.cellAt p hp))
/-- what is looked at stays -/
def QS (S0 : Sto) (e : α → Val) (W : List Nat) (v : α) (r : Fl) : Prop := endB S0 r = .ok (e v).d S0
theorem fn_of' {b : Blk} {m : M α} {e : α → Val} {x : R D} {W : List Nat} (hr : x = endB S0 (b env S0)) (h : Ref S0 W (b env S0) m (QR S0 e)) (hx : ∀ w, m ≠ .er w) : RE x S0 m e := by
  rw [hr]
  cases m with
  | ok a => exact h
  | er w => exact absurd rfl (hx w)
  | no => trivial
theorem same1 (h : Fr S0 [k] n env S L C) (p : Nat) (hp : C[p]? = some (k, c)) (hc : S0[k]? = some c) : Fr S0 [] n env S L [] :=
  ⟨h.has, fun _ m => (nomatch m), List.nodup_nil, fun _ m => (nomatch m), keep_same h.kp fun j m => by rw [List.mem_singleton.mp m, h.cellAt p hp, hc]⟩
theorem same2 (h : Fr S0 [k, k'] n env S L C) (p p' : Nat) (hp : C[p]? = some (k, c)) (hp' : C[p']? = some (k', c')) (hc : S0[k]? = some c) (hc' : S0[k']? = some c') : Fr S0 [] n env S L [] :=
  ⟨h.has, fun _ m => (nomatch m), List.nodup_nil, fun _ m => (nomatch m), keep_same h.kp fun j m => by
    rcases List.mem_cons.mp m with m | m
    · rw [m, h.cellAt p hp, hc]
    · rw [List.mem_singleton.mp m, h.cellAt p' hp', hc']⟩
/-- a frame whose looked-at cells are as they were, with a cell made since -/
theorem retCs {e : α → Val} {xs : List α} (h : Fr S0 W n env S L C) (h' : Fr S0 [] n env S L []) (hW : ∀ j ∈ W, j < S0.length) (hn : k ∉ W) (p : Nat) (hp : C[p]? = some (k, .lst (dL e xs))) : endB S0 (.rt (rf k) S) = .ok (vL e xs).d S0 := by
  rw [endB_rt, vL_d]
  have hk : S0.length ≤ k := by
    rcases h.own _ (List.mem_of_getElem? hp) with o | o
    · exact o
    · exact absurd o hn
  exact fin_ok (take_keep h'.kp) (frzD_new (S := S) (dL_flat e xs) _ _ (by omega) (h.cellAt p hp))

/-! ### cells changed by a call -/
def RM (S : Sto) (W : List Nat) (r : R D) (m : M α) (e : α → Val) (post : α → Sto → Prop) : Prop := match m with
  | .ok a => ∃ S', r = .ok (e a).d S' ∧ Keep S W S' ∧ post a S'
  | .er x => (∃ S', r = .er x S' ∧ Keep S W S') ∧ flatX x
  | .no => True
def QM (S0 : Sto) (W : List Nat) (e : α → Val) (post : α → Sto → Prop) (v : α) (r : Fl) : Prop := ∃ S', endB S0 r = .ok (e v).d S' ∧ Keep S0 W S' ∧ post v S'
theorem fin_two {d : D} (h : Keep S0 W S) (f : flat d = true) : ∃ S', fin S0 S d = .ok d S' ∧ Keep S0 W S' ∧ ∀ j, j < S0.length → S'[j]? = S[j]? := by
  by_cases z : S.take S0.length = S0
  · refine ⟨S0, fin_flat z f, .refl, fun j hj => ?_⟩
    conv => lhs; rw [← z]
    rw [List.getElem?_take_of_lt hj]
  · refine ⟨S, ?_, h, fun j hj => rfl⟩
    unfold fin
    rw [if_neg z]
theorem retM (h : Fr S0 W n env S L C) (v : Val) : ∃ S', endB S0 (.rt v.d S) = .ok v.d S' ∧ Keep S0 W S' ∧ ∀ j, j < S0.length → S'[j]? = S[j]? := fin_two h.kp (flat_d v)
theorem retMU (h : Fr S0 W n env S L C) : ∃ S', endB S0 (.nx env S) = .ok PyData.none S' ∧ Keep S0 W S' ∧ ∀ j, j < S0.length → S'[j]? = S[j]? := fin_two h.kp rfl
theorem fn_ofM {b : Blk} {m : M α} {e : α → Val} {x : R D} {post : α → Sto → Prop} (hr : x = endB S0 (b env S0)) (h : Ref S0 W (b env S0) m (QM S0 W e post)) : RM S0 W x m e post := by
  rw [hr]
  cases m with
  | ok a => exact h
  | er w =>
    obtain ⟨⟨env', S', e1, hk⟩, hx⟩ := h
    refine ⟨?_, hx⟩
    rw [e1, endB_er]
    by_cases z : S'.take S0.length = S0
    · exact ⟨S0, finE_ok z (frzFs_flat hx), .refl⟩
    · refine ⟨S', ?_, hk⟩
      unfold finE
      rw [if_neg z]
  | no => trivial
theorem retM1 {e : α → Val} {v : α} {post : α → Sto → Prop} (h : Fr S0 [k] n env S L C) (p : Nat) (hp : C[p]? = some (k, c)) (hk : k < S0.length) (hpost : ∀ S', S'[k]? = some c → post v S') : QM S0 [k] e post v (.rt (e v).d S) := by
  obtain ⟨S', e1, h1, h2⟩ := retM h (e v)
  exact ⟨S', e1, h1, hpost S' ((h2 k hk).trans (h.cellAt p hp))⟩
theorem retM1U {e : α → Val} {v : α} {post : α → Sto → Prop} (h : Fr S0 [k] n env S L C) (p : Nat) (hp : C[p]? = some (k, c)) (hk : k < S0.length) (he : (e v).d = .none) (hpost : ∀ S', S'[k]? = some c → post v S') : QM S0 [k] e post v (.nx env S) := by
  obtain ⟨S', e1, h1, h2⟩ := retMU h
  exact ⟨S', by rw [he]; exact e1, h1, hpost S' ((h2 k hk).trans (h.cellAt p hp))⟩
theorem retM2 {e : α → Val} {v : α} {post : α → Sto → Prop} (h : Fr S0 [k, k'] n env S L C) (p p' : Nat) (hp : C[p]? = some (k, c)) (hp' : C[p']? = some (k', c')) (hk : k < S0.length) (hk' : k' < S0.length) (hpost : ∀ S', S'[k]? = some c → S'[k']? = some c' → post v S') : QM S0 [k, k'] e post v (.rt (e v).d S) := by
  obtain ⟨S', e1, h1, h2⟩ := retM h (e v)
  exact ⟨S', e1, h1, hpost S' ((h2 k hk).trans (h.cellAt p hp)) ((h2 k' hk').trans (h.cellAt p' hp'))⟩
theorem retM2U {e : α → Val} {v : α} {post : α → Sto → Prop} (h : Fr S0 [k, k'] n env S L C) (p p' : Nat) (hp : C[p]? = some (k, c)) (hp' : C[p']? = some (k', c')) (hk : k < S0.length) (hk' : k' < S0.length) (he : (e v).d = .none) (hpost : ∀ S', S'[k]? = some c → S'[k']? = some c' → post v S') : QM S0 [k, k'] e post v (.nx env S) := by
  obtain ⟨S', e1, h1, h2⟩ := retMU h
  exact ⟨S', by rw [he]; exact e1, h1, hpost S' ((h2 k hk).trans (h.cellAt p hp)) ((h2 k' hk').trans (h.cellAt p' hp'))⟩
theorem lt_some {o : Option Cell} (h : S[k]? = some c) : k < S.length := (List.getElem?_eq_some_iff.mp h).1
theorem lt_of_some (h : S[k]? = some c) : k < S.length := (List.getElem?_eq_some_iff.mp h).1
/-- behind a call that changes one cell -/
theorem Fr.called (h : Fr S0 W n env S L C) (p : Nat) (hp : C[p]? = some (k, c)) (hk : Keep S [k] S1) (hc : S1[k]? = some c') : Fr S0 W n env S1 L (C.set p (k, c')) := by
  have hw := h.write p hp (c' := c')
  have hkl : k < S.length := lt_of_some (h.cellAt p hp)
  refine ⟨hw.has, fun q m => ?_, hw.nd, hw.own, ⟨Nat.le_trans h.kp.1 hk.1, fun j hj hW => ?_⟩⟩
  · have e := hw.cell q m
    by_cases z : q.1 = k
    · rw [z] at e ⊢
      rw [List.getElem?_set_self hkl] at e
      rw [hc, ← e]
    · rw [List.getElem?_set_ne (Ne.symm z)] at e
      have hq : q.1 < S.length := lt_of_some e
      rw [hk.2 q.1 hq (by simp [z]), e]
  · have e := hw.kp.2 j hj hW
    by_cases z : j = k
    · subst z
      rcases h.own _ (List.mem_of_getElem? hp) with o | o
      · have o : S0.length ≤ j := o; omega
      · exact absurd o hW
    · rw [hk.2 j (Nat.lt_of_lt_of_le hj h.kp.1) (by simp [z])]
      rw [List.getElem?_set_ne (Ne.symm z)] at e
      exact e
theorem Keep.trans {S2 : Sto} (h : Keep S0 W S) (h' : Keep S W S2) : Keep S0 W S2 := ⟨Nat.le_trans h.1 h'.1, fun j hj hw => (h'.2 j (Nat.lt_of_lt_of_le hj h.1) hw).trans (h.2 j hj hw)⟩
theorem Fr.called2 (h : Fr S0 W n env S L C) (p p' : Nat) (hp : C[p]? = some (k, c)) (hp' : C[p']? = some (k', c')) (hne : k ≠ k') {d d' : Cell} (hk : Keep S [k, k'] S1) (hc : S1[k]? = some d) (hc' : S1[k']? = some d') : Fr S0 W n env S1 L ((C.set p (k, d)).set p' (k', d')) := by
  have hkl : k < S.length := lt_of_some (h.cellAt p hp)
  have hkl' : k' < S.length := lt_of_some (h.cellAt p' hp')
  have h1 : Fr S0 W n env (S.set k d) L (C.set p (k, d)) := h.write p hp
  have hpp : p ≠ p' := fun z => by subst z; rw [hp] at hp'; cases hp'; exact hne rfl
  have hp1 : (C.set p (k, d))[p']? = some (k', c') := by rw [List.getElem?_set_ne hpp]; exact hp'
  refine h1.called p' hp1 ⟨by rw [List.length_set]; exact hk.1, fun j hj hj' => ?_⟩ hc'
  rw [List.length_set] at hj
  by_cases z : j = k
  · subst z; rw [List.getElem?_set_self hj, hc]
  · rw [List.getElem?_set_ne (Ne.symm z)]
    refine hk.2 j hj fun m => ?_
    rcases List.mem_cons.mp m with m | m
    · exact z m
    · exact hj' m
/-! a call's answer -/
theorem scall {g : Ex} {ma : M β} {ea : β → Val} {post : β → Sto → Prop} {WW : List Nat} {f : β → M α} (h : Fr S0 W n env S L C) (hW : ∀ j ∈ WW, S0.length ≤ j ∨ j ∈ W) (hc : RM S WW (g env S) ma ea post) (he : ∀ x S', g env S = .er x S' → r = .er x env S')
    (hk : ∀ v S', g env S = .ok (ea v).d S' → Keep S WW S' → post v S' → Ref S0 W r (f v) Q) : Ref S0 W r (ma.bind f) Q := by
  cases ma with
  | ok a =>
    obtain ⟨S', e, k1, k2⟩ := hc
    exact hk a S' e k1 k2
  | er x =>
    obtain ⟨⟨S', e, k1⟩, hx⟩ := hc
    refine ⟨⟨env, S', he x S' e, ⟨Nat.le_trans h.kp.1 k1.1, fun j hj hw => ?_⟩⟩, hx⟩
    rw [k1.2 j (Nat.lt_of_lt_of_le hj h.kp.1) (fun m => by
      rcases hW j m with o | o
      · omega
      · exact hw o), h.kp.2 j hj hw]
  | no => trivial
theorem own1 (h : Fr S0 W n env S L C) (p : Nat) (hp : C[p]? = some (k, c)) : ∀ j ∈ [k], S0.length ≤ j ∨ j ∈ W := fun j m => by
  rw [List.mem_singleton.mp m]; exact h.own _ (List.mem_of_getElem? hp)
theorem own2 (h : Fr S0 W n env S L C) (p p' : Nat) (hp : C[p]? = some (k, c)) (hp' : C[p']? = some (k', c')) : ∀ j ∈ [k, k'], S0.length ≤ j ∨ j ∈ W := fun j m => by
  rcases List.mem_cons.mp m with m | m
  · rw [m]; exact h.own _ (List.mem_of_getElem? hp)
  · rw [List.mem_singleton.mp m]; exact h.own _ (List.mem_of_getElem? hp')
theorem apart (h : Fr S0 W n env S L C) (p p' : Nat) (hp : C[p]? = some (k, c)) (hp' : C[p']? = some (k', c')) (hne : Nat.beq p p' = false) : k ≠ k' := fun z => by
  obtain ⟨h1, e1⟩ := List.getElem?_eq_some_iff.mp hp
  obtain ⟨h2, e2⟩ := List.getElem?_eq_some_iff.mp hp'
  have hl : ∀ {i : Nat}, i < C.length → i < (C.map (·.1)).length := fun h => by rw [List.length_map]; exact h
  have : p = p' := (List.getElem_inj (h₀ := hl h1) (h₁ := hl h2) h.nd).mp (by rw [List.getElem_map, List.getElem_map, e1, e2]; exact z)
  rw [this, Nat.beq_refl] at hne
  cases hne
theorem sif' {c : Tx} {a b : Blk} {x : Bool} {ma mb : M α} (hc : c env S = .ok x S1) (ha : x = true → Ref S0 W ((a env S1).seq K) ma Q) (hb : x = false → Ref S0 W ((b env S1).seq K) mb Q) : Ref S0 W ((ifB c a b env S).seq K) (if x = true then ma else mb) Q := by
  rw [ifB_eq, hc, R.to_ok]
  cases x with
  | true => exact ha rfl
  | false => exact hb rfl
theorem p_tru' {g : Ex} {d : D} {x : Bool} (ha : g env S = .ok d S1) (h : tv S1 d = some x) : tru g env S = .ok x S1 := by rw [tru_eq, ha, R.bind_ok, h]; rfl
theorem p_notT' {s : Tx} {p : Bool} (hs : s env S = .ok p S1) : notT s env S = .ok (!p) S1 := by rw [notT_eq, hs]; rfl
theorem tru_e' {g : Ex} {w : Exn} (ha : g env S = .er w S1) : tru g env S = .er w S1 := by rw [tru_eq, ha]; rfl
theorem notT_e' {s : Tx} {w : Exn} (ha : s env S = .er w S1) : notT s env S = .er w S1 := by rw [notT_eq, ha]; rfl
theorem m_callM {C : Clls} {fid : Nat} {gs : Exs} {ds : List D} {m : M α} {e : α → Val} {post : α → Sto → Prop} {WW : List Nat} (h : gs env S = .ok ds S) (hc : RM S WW (C fid ds S) m e post) : RM S WW (callE C fid gs env S) m e post := by rw [callE_eq, h, R.bind_ok]; exact hc
/-! ### loops over typed items -/
theorem lfold {t : Tg} {b : Blk} {o : Option Nat} {all : List D} {f : β → σ → M σ} (e : β → Val) (P : σ → Envd → Sto → Prop) (hg : ∀ s env S, P s env S → Cor.guard o all S)
    (hb : ∀ x s env S, P s env S → ∃ env1, t (e x).d env = some env1 ∧ Ref S0 W ((b env1 S).seq skipB) (f x s) (QL P)) (xs : List β) (s : σ) (h : P s env S) : Ref S0 W (forL t b o all (dL e xs) env S) (foldM f xs s) (QN P) :=
  ref_fold (fun a => (e a).d) P hg hb xs s env S h
theorem lfor {t : Tg} {b : Blk} {o : Option Nat} {all : List D} {f : β → σ → M (Ctl σ ρ)} (e : β → Val) (P : σ → Envd → Sto → Prop) (QF : ρ → Fl → Prop) (hg : ∀ s env S, P s env S → Cor.guard o all S)
    (hb : ∀ x s env S, P s env S → ∃ env1, t (e x).d env = some env1 ∧ Ref S0 W ((b env1 S).seq skipB) (f x s) (QB P QF)) (xs : List β) (s : σ) (h : P s env S) : Ref S0 W (forL t b o all (dL e xs) env S) (forM f xs s) (QE P QF) :=
  ref_for (fun a => (e a).d) P QF hg hb xs s env S h
theorem lwhile {c : Tx} {b : Blk} {g : σ → M Bool} {f : σ → M (Ctl σ ρ)} (P : σ → Envd → Sto → Prop) (QF : ρ → Fl → Prop) (hk : ∀ s env S, P s env S → Keep S0 W S)
    (hc : ∀ s env S, P s env S → RG (c env S) S (g s) fun b => b)
    (hb : ∀ s env S, P s env S → g s = .ok true → Ref S0 W ((b env S).seq skipB) (f s) (QB P QF)) (s : σ) (h : P s env S) : Ref S0 W (whileB whileN c b env S) (whileM g f whileN s) (QE P QF) :=
  ref_while P QF hk hc hb whileN s env S h
theorem lloop {c : Tx} {b : Blk} {g : σ → M Bool} {f : σ → M σ} (P : σ → Envd → Sto → Prop) (hk : ∀ s env S, P s env S → Keep S0 W S)
    (hc : ∀ s env S, P s env S → RG (c env S) S (g s) fun b => b)
    (hb : ∀ s env S, P s env S → g s = .ok true → Ref S0 W ((b env S).seq skipB) (f s) (QL P)) (s : σ) (h : P s env S) : Ref S0 W (whileB whileN c b env S) (loopM g f whileN s) (QN P) :=
  ref_loop P hk hc hb whileN s env S h
/-! unpacking -/
def un2 (xs : List α) : M (α × α) := match xs with
  | [a, b] => .ok (a, b)
  | _ => .no
def un3 (xs : List α) : M (α × α × α) := match xs with
  | [a, b, c] => .ok (a, b, c)
  | _ => .no
def un4 (xs : List α) : M (α × α × α × α) := match xs with
  | [a, b, c, d] => .ok (a, b, c, d)
  | _ => .no
def un6 (xs : List α) : M (α × α × α × α × α × α) := match xs with
  | [a, b, c, d, e, f] => .ok (a, b, c, d, e, f)
  | _ => .no
def vals (v : Val) : List Val := match v.items? with
  | some xs => xs
  | none => []
theorem m_un2 {e : α → Val} {xs : List α} {t : Tg} {m : M β} {f : α × α → M γ} {Q : γ → Fl → Prop} (hk : ∀ p : α × α, (xs = [p.1, p.2]) → Ref S0 W r (f p) Q) : Ref S0 W r ((un2 xs).bind f) Q := by
  match xs, hk with
  | [a, b], hk => exact hk (a, b) rfl
  | [], _ => trivial
  | [_], _ => trivial
  | _ :: _ :: _ :: _, _ => trivial
theorem m_un3 {xs : List α} {f : α × α × α → M γ} {Q : γ → Fl → Prop} (hk : ∀ p : α × α × α, (xs = [p.1, p.2.1, p.2.2]) → Ref S0 W r (f p) Q) : Ref S0 W r ((un3 xs).bind f) Q := by
  match xs, hk with
  | [a, b, c], hk => exact hk (a, b, c) rfl
  | [], _ => trivial
  | [_], _ => trivial
  | [_, _], _ => trivial
  | _ :: _ :: _ :: _ :: _, _ => trivial
theorem m_un4 {xs : List α} {f : α × α × α × α → M γ} {Q : γ → Fl → Prop} (hk : ∀ p : α × α × α × α, (xs = [p.1, p.2.1, p.2.2.1, p.2.2.2]) → Ref S0 W r (f p) Q) : Ref S0 W r ((un4 xs).bind f) Q := by
  match xs, hk with
  | [a, b, c, d], hk => exact hk (a, b, c, d) rfl
  | [], _ => trivial
  | [_], _ => trivial
  | [_, _], _ => trivial
  | [_, _, _], _ => trivial
  | _ :: _ :: _ :: _ :: _ :: _, _ => trivial
theorem m_un6 {xs : List α} {f : α × α × α × α × α × α → M γ} {Q : γ → Fl → Prop} (hk : ∀ p : α × α × α × α × α × α, (xs = [p.1, p.2.1, p.2.2.1, p.2.2.2.1, p.2.2.2.2.1, p.2.2.2.2.2]) → Ref S0 W r (f p) Q) : Ref S0 W r ((un6 xs).bind f) Q := by
  match xs, hk with
  | [a, b, c, d, e, g], hk => exact hk (a, b, c, d, e, g) rfl
  | [], _ => trivial
  | [_], _ => trivial
  | [_, _], _ => trivial
  | [_, _, _], _ => trivial
  | [_, _, _, _], _ => trivial
  | [_, _, _, _, _], _ => trivial
  | _ :: _ :: _ :: _ :: _ :: _ :: _ :: _, _ => trivial
theorem unp_V {v : Val} {xs : List Val} {m : Nat} {gs : Tgs} (h : vals v = xs) (hm : xs.length = m) (h0 : Nat.blt 0 m = true) : unpG m gs v.d env = gs (Val.ds xs) env := by
  subst h
  cases v with
  | list ys => show (if (Val.ds ys).length = m then _ else _) = _; rw [ds_len, if_pos (show ys.length = m from hm)]; rfl
  | tuple ys => show (if (Val.ds ys).length = m then _ else _) = _; rw [ds_len, if_pos (show ys.length = m from hm)]; rfl
  | _ => (have hm : 0 = m := hm; subst hm; cases h0)
theorem unp_T {e : α → Val} {xs : List α} {m : Nat} {gs : Tgs} (hm : xs.length = m) : unpG m gs (vT e xs).d env = gs (dL e xs) env := by
  rw [vT_d]; show (if (dL e xs).length = m then _ else _) = _; rw [dL_len, if_pos hm]
theorem unp_L {e : α → Val} {xs : List α} {m : Nat} {gs : Tgs} (hm : xs.length = m) : unpG m gs (vL e xs).d env = gs (dL e xs) env := by
  rw [vL_d]; show (if (dL e xs).length = m then _ else _) = _; rw [dL_len, if_pos hm]
end
end Cor

/-! T5: more typed readings. -/
namespace Cor
open PySem PySem.Spec PyProof.Rows L2
section
variable {α β γ δ ε ζ κ : Type} {S : Sto} {env : Envd} {e : α → Val} {e' : β → Val} {n m k : Nat} {gs : Exs} {g : Ex}
theorem ORD.le {lt : α → α → Bool} (h : ORD e lt n) (hl : n ≤ m) : ORD e lt m := ⟨fun x => Nat.le_trans (h.dep x) hl, h.ali, h.nn, h.lt⟩
theorem p_frzL {ys : List α} (h : gs env S = .ok (dL e ys) S) : frz gs env S = .ok (vL e ys).d S := by rw [vL_d]; exact p_frz h
theorem m_frzL {mm : M (List α)} (h : RG (gs env S) S mm (dL e)) : RE (frz gs env S) S mm (vL e) := by
  have q := m_frz h
  cases mm with
  | ok a => show _ = R.ok (vL e a).d S; rw [vL_d]; exact q
  | er x => exact q
  | no => trivial
theorem f_isF {x : α} (nn : NN e) : isB S (e x).d .none = some false := by
  show some (isNon (e x).d) = _
  rw [(nn x .none).1]
theorem all_p0 {ea : α → D} {t : Tg} {g : Ex} {o : Option Nat} {all : List D} {pg : α → Bool} (hg : Cor.guard o all S) (h : ∀ x, ∃ env1, t (ea x) env = some env1 ∧ g env1 S = .ok (Val.bool (pg x)).d S) (xs : List α) :
    aaL true t yesT g o all env (xs.map ea) S = .ok (Val.bool (xs.all pg)).d S := by
  have q := all_p (pc := fun _ => true) (pg := pg) (c := yesT) hg (fun x => by obtain ⟨env1, a, b⟩ := h x; exact ⟨env1, a, rfl, b⟩) xs
  rw [q]
  congr 4
theorem any_p0 {ea : α → D} {t : Tg} {g : Ex} {o : Option Nat} {all : List D} {pg : α → Bool} (hg : Cor.guard o all S) (h : ∀ x, ∃ env1, t (ea x) env = some env1 ∧ g env1 S = .ok (Val.bool (pg x)).d S) (xs : List α) :
    aaL false t yesT g o all env (xs.map ea) S = .ok (Val.bool (xs.any pg)).d S := by
  have q := any_p (pc := fun _ => true) (pg := pg) (c := yesT) hg (fun x => by obtain ⟨env1, a, b⟩ := h x; exact ⟨env1, a, rfl, b⟩) xs
  rw [q]
  congr 4
def all0M {α : Type} (w : Bool) (g : α → M Bool) : List α → M Bool
  | [] => .ok w
  | x :: xs => (g x).calm.bind fun y => if y = w then all0M w g xs else .ok y
theorem all0_eq (w : Bool) (g : α → M Bool) : ∀ xs : List α, allM w (fun _ => .ok true) g xs = all0M w g xs
  | [] => rfl
  | x :: xs => by
    have ih := all0_eq w g xs
    unfold allM all0M
    rw [ih]; rfl
theorem all_m0 {ea : α → D} {t : Tg} {g : Ex} {o : Option Nat} {all : List D} {mg : α → M Bool} {w : Bool} (hg : Cor.guard o all S) (h : ∀ x, ∃ env1, t (ea x) env = some env1 ∧ RE (g env1 S) S (mg x) Val.bool) (xs : List α) :
    RE (aaL w t yesT g o all env (xs.map ea) S) S (all0M w mg xs) Val.bool := by
  rw [← all0_eq]
  exact all_m (c := yesT) hg (fun x => by obtain ⟨env1, a, b⟩ := h x; exact ⟨env1, a, rfl, b⟩) xs
theorem m_rep {xs : List α} {i : Int} {a b : Ex} (ha : a env S = .ok (vL e xs).d S) (hb : b env S = .ok (Val.int i).d S) : RG (repF a b env S) S (repM xs i) (dL e) := by
  unfold repF
  rw [ha, R.bind_ok, hb, R.bind_ok, vL_d]
  show RG (repL (.list (dL e xs)) (.int i) S) S _ _
  unfold repL repM
  simp only [dL_len]
  have big63 : (2 : Int) ^ 63 = 9223372036854775808 := by decide +kernel
  by_cases z : -9223372036854775808 ≤ i ∧ i < 9223372036854775808 ∧ xs.length * i.toNat ≤ sizeLine
  · rw [if_pos (show -(2 ^ 63) ≤ i ∧ i < 2 ^ 63 ∧ xs.length * i.toNat ≤ sizeLine by rw [big63]; exact z), if_pos z]
    show _ = R.ok (dL e (List.replicate i.toNat xs).flatten) S
    unfold dL
    rw [List.map_flatten, List.map_replicate]
  · rw [if_neg (show ¬ (-(2 ^ 63) ≤ i ∧ i < 2 ^ 63 ∧ xs.length * i.toNat ≤ sizeLine) by rw [big63]; exact z), if_neg z]; trivial
theorem rep_e1 {a b : Ex} {w : Exn} (ha : a env S = .er w S) : repF a b env S = .er w S := by unfold repF; rw [ha]; rfl
theorem rep_e2 {a b : Ex} {w : Exn} {d : D} (ha : a env S = .ok d S) (hb : b env S = .er w S) : repF a b env S = .er w S := by unfold repF; rw [ha, R.bind_ok, hb]; rfl
theorem f_tvO {o : Option α} (h : ∀ a, tv S (e a).d = some true) : tv S (vO e o).d = some o.isSome := by
  cases o with
  | none => rfl
  | some a => exact h a
theorem EQ.unit : EQ vN 0 := ⟨fun _ => by simp [vN, Val.d, PyData.depth], fun _ _ => rfl⟩
theorem getC {n' : Nat} {S0 : Sto} {W : List Nat} {L : List (Nat × Option D)} {C : List (Nat × Cell)} {c : Cell} (h : Fr S0 W n' env S L C) (p : Nat) (hp : C[p]? = some (k, c)) : S[k]? = some c := h.cellAt p hp
theorem m_valIV {d : D} {mm : M α} {ee : α → Items} (h : g env S = .ok d S) (hi : RG (lift (itemsD S d) S) S mm ee) : RG (valI g env S) S mm ee := by rw [valI_eq, h, R.bind_ok]; exact hi
def tupV (v : Val) : M Val := match v.items? with
  | some xs => .ok (.tuple xs)
  | none => .no
theorem m_tupV {v : Val} : RE (lift (tupleD S [v.d]) S) S (tupV v) vV := by cases v <;> first | trivial | rfl
theorem f_lenK [DecidableEq κ] {ek : κ → Key} {xs : List (κ × α)} (h : S[k]? = some (.dK (dM ek e xs))) : lenD S [rf k] = some (Val.int xs.length).d := by
  show (match cellD S (rf k) with
    | some (.lst ds) => some (PyData.int ds.length)
    | some (.dK ks) => some (.int ks.length)
    | _ => none) = _
  rw [cellD_rf, h]
  show some (PyData.int ((dM ek e xs).length : Int)) = _
  unfold dM
  rw [List.length_map]; rfl
end
section
variable {α β : Type} {S0 S : Sto} {W : List Nat} {n k k' i : Nat} {env env1 : Envd} {L : List (Nat × Option D)} {C : List (Nat × Cell)} {K : Blk} {Q : α → Fl → Prop} {c c' : Cell} {m : M α}
theorem Fr.begin (hl : env.length = n) (hh : Has n env L) : Fr S [] n env S L [] := (Fr.start hl).re hh
theorem Fr.begin1 (hl : env.length = n) (hc : S[k]? = some c) (hh : Has n env L) : Fr S [k] n env S L [(k, c)] := (Fr.start1 hl hc).re hh
theorem Fr.begin2 (hl : env.length = n) (hc : S[k]? = some c) (hc' : S[k']? = some c') (hne : k ≠ k') (hh : Has n env L) : Fr S [k, k'] n env S L [(k, c), (k', c')] := (Fr.start2 hl hc hc' hne).re hh
def _root_.Cor.M.fin {α σ ρ : Type} (m : M (σ ⊕ ρ)) (k : σ → M α) (kr : ρ → M α) : M α := m.bind fun c => match c with | .inl s => k s | .inr v => kr v
@[simp] theorem _root_.Cor.M.fin_inl {α σ ρ : Type} (s : σ) (k : σ → M α) (kr : ρ → M α) : (M.ok (.inl s)).fin k kr = k s := Eq.trans (Eq.refl (k s)) (Eq.refl (k s))
@[simp] theorem _root_.Cor.M.fin_inr {α σ ρ : Type} (v : ρ) (k : σ → M α) (kr : ρ → M α) : (M.ok (.inr v)).fin k kr = kr v := Eq.trans (Eq.refl (kr v)) (Eq.refl (kr v))
theorem snextF {σ ρ : Type} {r : Fl} {m : M (σ ⊕ ρ)} {k : σ → M α} {kr : ρ → M α} {P : σ → Envd → Sto → Prop} {QF : ρ → Fl → Prop} (h : Ref S0 W r m (QE P QF)) (hk : ∀ s env S, P s env S → Ref S0 W (K env S) (k s) Q) (hr : ∀ v d S, QF v (.rt d S) → Ref S0 W (.rt d S) (kr v) Q) :
    Ref S0 W (r.seq K) (m.fin k kr) Q := snextE h hk hr
theorem gnone {ds : List D} : Cor.guard none ds S := trivial
theorem okQ {r : Fl} {v : α} (h : Q v r) : Ref S0 W r (.ok v) Q := h
theorem okR {e : α → Val} {v : α} {d : D} (h : endB S0 (.rt d S) = .ok (e v).d S0) : Ref S0 W (.rt d S) (.ok v) (QR S0 e) := h
theorem okU {e : α → Val} {v : α} (h : endB S0 (.nx env S) = .ok PyData.none S0) (he : (e v).d = .none) : Ref S0 W (skipB env S) (.ok v) (QR S0 e) := by
  show endB S0 (.nx env S) = .ok (e v).d S0
  rw [he]; exact h
theorem okQM {v : α} (h : Q v (.nx env S)) : Ref S0 W (skipB env S) (.ok v) Q := h
theorem fn_of2 {r : Fl} {e : α → Val} (h : Ref S0 [] r m (QR S0 e)) : RE (endB S0 r) S0 m e := fn_of (b := fun _ _ => r) (env := []) rfl h
theorem fn_ofM2 {r : Fl} {e : α → Val} {post : α → Sto → Prop} (h : Ref S0 W r m (QM S0 W e post)) : RM S0 W (endB S0 r) m e post := fn_ofM (b := fun _ _ => r) (env := []) rfl h
theorem f_powL {i j z : Int} (h : powD [] (.int i) (.int j) = some (.int z)) : powD S (Val.int i).d (Val.int j).d = some (Val.int z).d := h
theorem tgnx {o : Option Envd} (ht : o = some env1) (hk : Ref S0 W (K env1 S) m Q) : Ref S0 W ((tgF o S).seq K) m Q := by rw [ht]; exact hk
theorem scelk {gs : Exs} {ds : List D} (hg : gs env S = .ok ds S) (h : Fr S0 W n env S L C) (hk : ∀ k S', Fr S0 W n env S' L (C ++ [(k, .lst ds)]) → Ref S0 W (K (env.set i (some (rf k))) S') m Q) : Ref S0 W ((asgB (cel gs) (setN i) env S).seq K) m Q :=
  scel hg rfl h fun k e hf => by subst e; exact hk _ _ hf
theorem snewk (h : Fr S0 W n env S L C) (hk : ∀ k S', Fr S0 W n env S' L (C ++ [(k, c)]) → Ref S0 W (K (env.set i (some (rf k))) S') m Q) : Ref S0 W ((asgB (newE c) (setN i) env S).seq K) m Q :=
  snew rfl h fun k e hf => by subst e; exact hk _ _ hf
theorem roC (h : Fr S0 W n env S L C) (hc : S0[k]? = some c) (hn : k ∉ W) : S[k]? = some c := (h.kp.2 k (lt_of_some hc) hn).trans hc
theorem nin1 (h : k ≠ k') : k ∉ [k'] := fun m => h (List.mem_singleton.mp m)
theorem apartR (h : Fr S0 W n env S L C) (p : Nat) (hp : C[p]? = some (k, c)) (hc : S0[k']? = some c') (hn : k' ∉ W) : k ≠ k' := fun z => by
  subst z
  rcases h.own _ (List.mem_of_getElem? hp) with o | o
  · have := lt_of_some hc
    have o : S0.length ≤ k := o
    omega
  · exact hn o
end
end Cor

/-! Ma: what the typed words give within bounds. -/
namespace Cor
open PySem PySem.Spec PyProof.Rows L2
section
variable {α β γ σ ρ κ : Type}
theorem sizeLine_big {n : Nat} (h : n ≤ 1000000) : n ≤ sizeLine := Nat.le_trans h (by rw [sizeLine_eq]; decide)
theorem sizeLine_lt {n : Nat} (h : n ≤ 1000000) : n < sizeLine := Nat.lt_of_le_of_lt h (by rw [sizeLine_eq]; decide)
@[simp] theorem M.bind_pure (m : M α) : (m.bind fun a => .ok a) = m := by cases m <;> rfl
@[simp] theorem M.bind_bind (m : M α) (f : α → M β) (g : β → M γ) : (m.bind f).bind g = m.bind fun a => (f a).bind g := M.bind_assoc m f g
theorem M.ite_bind (c : Prop) [Decidable c] (a b : M α) (f : α → M β) : (if c then a else b).bind f = if c then a.bind f else b.bind f := by split <;> rfl
theorem sizeM_ok {n : Nat} (h : n ≤ 1000000) : sizeM n = .ok () := by unfold sizeM; rw [if_pos (sizeLine_big h)]
theorem appM_ok {xs : List α} {x : α} (h : xs.length ≤ 1000000) : appM xs x = .ok (xs ++ [x]) := by unfold appM; rw [if_pos (sizeLine_lt h)]
theorem catM_ok {xs ys : List α} (h : xs.length + ys.length ≤ 1000000) : catM xs ys = .ok (xs ++ ys) := by unfold catM; rw [if_pos (sizeLine_big h)]
theorem dputM_ok [DecidableEq κ] {xs : List (κ × α)} {k : κ} {v : α} (h : xs.length ≤ 1000000) : dputM xs k v = .ok (dput xs k v) := by unfold dputM; rw [if_pos (sizeLine_lt h)]
theorem atM_some {xs : List α} {i : Int} {k : Nat} {a : α} (hi : i = (k : Int)) (h : xs[k]? = some a) : atM xs i = .ok a := by
  subst hi
  unfold atM
  rw [show L2.atI xs (k : Int) = some a from L2.atI_nat h]
theorem atM_nat {xs : List α} {i : Int} (h0 : 0 ≤ i) (h : i.toNat < xs.length) : atM xs i = .ok xs[i.toNat] := atM_some (k := i.toNat) (by omega) (List.getElem?_eq_getElem h)
theorem atM_lt {xs : List α} {k : Nat} (h : k < xs.length) : atM xs (k : Int) = .ok xs[k] := atM_some rfl (List.getElem?_eq_getElem h)
theorem atM_last {xs : List α} {a : α} (h : xs.getLast? = some a) : atM xs (-1) = .ok a := by
  have hn : xs ≠ [] := by intro e; subst e; cases h
  have hl : 0 < xs.length := List.length_pos_iff.mpr hn
  unfold atM L2.atI L2.ixN
  rw [if_neg (by decide), if_pos (by omega)]
  show (match xs[((-1 : Int) + xs.length).toNat]? with | some a => M.ok a | none => .no) = _
  rw [show ((-1 : Int) + xs.length).toNat = xs.length - 1 by omega]
  rw [List.getLast?_eq_getElem?] at h
  rw [h]
theorem setM_nat {xs : List α} {i : Int} {x : α} (h0 : 0 ≤ i) (h : i.toNat < xs.length) : setM xs i x = .ok (xs.set i.toNat x) := by
  unfold setM L2.ixN
  rw [if_pos h0, if_pos (by omega)]
theorem setM_lt {xs : List α} {k : Nat} {x : α} (h : k < xs.length) : setM xs (k : Int) x = .ok (xs.set k x) := by
  rw [setM_nat (by omega) (by simpa using h)]; rfl
/-- the first n numbers -/
def upto (n : Nat) : List Int := (List.range n).map fun (i : Nat) => (i : Int)
theorem rangeI_nat (n : Nat) : rangeI 0 (n : Int) = upto n := by
  unfold rangeI upto
  rw [show ((n : Int) - 0).toNat = n by omega]
  apply List.map_congr_left
  intro i _
  omega
theorem upto_mem {n : Nat} {i : Int} : i ∈ upto n ↔ 0 ≤ i ∧ i < n := by
  unfold upto
  rw [List.mem_map]
  constructor
  · rintro ⟨k, hk, rfl⟩
    have := List.mem_range.mp hk
    omega
  · rintro ⟨h1, h2⟩
    exact ⟨i.toNat, List.mem_range.mpr (by omega), by omega⟩
@[simp] theorem upto_len (n : Nat) : (upto n).length = n := by unfold upto; simp
theorem upto_get {n k : Nat} (h : k < n) : (upto n)[k]? = some (k : Int) := by unfold upto; rw [List.getElem?_map, List.getElem?_range h]; rfl
theorem rngM1_nat {j : Int} {n : Nat} (hj : j = (n : Int)) (h : n ≤ 1000000) : rngM1 j = .ok (upto n) := by
  subst hj
  unfold rngM1
  rw [if_pos (by omega), rangeI_nat]
theorem rngM1_int {j : Int} (h0 : 0 ≤ j) (h : j ≤ 1000000) : rngM1 j = .ok (upto j.toNat) := rngM1_nat (by omega) (by omega)
theorem rngM1_neg {j : Int} (h0 : j ≤ 0) (h : -1000000 ≤ j) : rngM1 j = .ok [] := by
  unfold rngM1
  rw [if_pos (by omega)]
  unfold rangeI
  rw [show (j - 0).toNat = 0 by omega]; rfl
theorem rngM2_int {i j : Int} (h1 : -1000000 ≤ i ∧ i ≤ 1000000) (h2 : -1000000 ≤ j ∧ j ≤ 1000000) : rngM2 i j = .ok (rangeI i j) := by
  unfold rngM2
  rw [if_pos (by omega)]
theorem repM_one {x : α} {i : Int} (h0 : 0 ≤ i) (h : i ≤ 1000000) : repM [x] i = .ok (List.replicate i.toNat x) := by
  unfold repM
  have hs : 1 * i.toNat ≤ sizeLine := sizeLine_big (by omega)
  rw [if_pos ⟨by omega, by omega, hs⟩]
  congr 1
  induction i.toNat with
  | zero => rfl
  | succ n ih => rw [List.replicate_succ, List.flatten_cons, ih, List.replicate_succ]; rfl
theorem mulM_ok {i j : Int} (hi : i.natAbs < 2 ^ 1000) (hj : j.natAbs < 2 ^ 1000) : mulM i j = .ok (i * j) := by
  unfold mulM
  rw [if_pos (fits_of hi hj (by decide))]
theorem fdivM_ok {i j : Int} (h : 0 < j) (h2 : j < 1073741824) : fdivM i j = .ok (i / j) := by unfold fdivM; rw [if_pos ⟨h, h2⟩]
theorem modM_ok {i j : Int} (h : 0 < j) : modM i j = .ok (i % j) := by unfold modM; rw [if_pos h]
theorem unO_some (a : α) : unO (some a) = .ok a := rfl
theorem unO_none : unO (none : Option α) = .no := rfl
/-! loops -/
theorem foldM_cons (f : α → σ → M σ) (x : α) (xs : List α) (s : σ) : foldM f (x :: xs) s = (f x s).bind fun s => foldM f xs s := rfl
@[simp] theorem foldM_nil (f : α → σ → M σ) (s : σ) : foldM f [] s = .ok s := Eq.trans (Eq.refl (M.ok s)) (Eq.refl (M.ok s))
theorem foldM_ok {f : α → σ → M σ} (g : σ → α → σ) (I : σ → Prop) : ∀ (xs : List α) (s : σ), I s → (∀ x ∈ xs, ∀ s, I s → f x s = .ok (g s x) ∧ I (g s x)) → foldM f xs s = .ok (xs.foldl g s) ∧ I (xs.foldl g s)
  | [], s, hs, _ => ⟨rfl, hs⟩
  | x :: xs, s, hs, h => by
    obtain ⟨e, h1⟩ := h x (List.mem_cons_self ..) s hs
    rw [foldM_cons, e, M.ok_bind, List.foldl_cons]
    exact foldM_ok g I xs _ h1 fun y m => h y (List.mem_cons_of_mem _ m)
/-- by an invariant over what is done -/
theorem foldM_inv {f : α → σ → M σ} (I : List α → σ → Prop) (xs : List α) (s : σ) (h0 : I [] s) (h : ∀ ds x rs s, xs = ds ++ x :: rs → I ds s → ∃ s', f x s = .ok s' ∧ I (ds ++ [x]) s') : ∃ s', foldM f xs s = .ok s' ∧ I xs s' := by
  have key : ∀ (rs ds : List α) (s : σ), xs = ds ++ rs → I ds s → ∃ s', foldM f rs s = .ok s' ∧ I xs s' := by
    intro rs
    induction rs with
    | nil => intro ds s e hi; rw [List.append_nil] at e; subst e; exact ⟨s, rfl, hi⟩
    | cons x rs ih =>
      intro ds s e hi
      obtain ⟨s1, e1, h1⟩ := h ds x rs s e hi
      obtain ⟨s2, e2, h2⟩ := ih (ds ++ [x]) s1 (by rw [e]; simp) h1
      exact ⟨s2, by rw [foldM_cons, e1, M.ok_bind, e2], h2⟩
  exact key xs [] s rfl h0
theorem forM_cons (f : α → σ → M (Ctl σ ρ)) (x : α) (xs : List α) (s : σ) : forM f (x :: xs) s = (f x s).bind fun c => match c with
    | .nx s => forM f xs s
    | .bk s => .ok (.inl s)
    | .rt v => .ok (.inr v) := rfl
@[simp] theorem forM_nil (f : α → σ → M (Ctl σ ρ)) (s : σ) : forM f [] s = .ok (.inl s) := Eq.trans (Eq.refl (M.ok (Sum.inl s : σ ⊕ ρ))) (Eq.refl _)
/-- a loop that only checks -/
theorem forM_check {f : α → Unit → M (Ctl Unit ρ)} (p : α → Bool) (v : ρ) : ∀ xs : List α, (∀ x ∈ xs, f x () = .ok (if p x = true then .nx () else .rt v)) → forM f xs () = .ok (if xs.all p = true then .inl () else .inr v)
  | [], _ => rfl
  | x :: xs, h => by
    rw [forM_cons, h x (List.mem_cons_self ..), M.ok_bind, List.all_cons]
    cases hp : p x with
    | false => rfl
    | true => exact forM_check p v xs fun y m => h y (List.mem_cons_of_mem _ m)
theorem forM_inv {f : α → σ → M (Ctl σ ρ)} (I : List α → σ → Prop) (xs : List α) (s : σ) (h0 : I [] s) (h : ∀ ds x rs s, xs = ds ++ x :: rs → I ds s → ∃ s', f x s = .ok (.nx s') ∧ I (ds ++ [x]) s') : ∃ s', forM f xs s = .ok (.inl s') ∧ I xs s' := by
  have key : ∀ (rs ds : List α) (s : σ), xs = ds ++ rs → I ds s → ∃ s', forM f rs s = .ok (.inl s') ∧ I xs s' := by
    intro rs
    induction rs with
    | nil => intro ds s e hi; rw [List.append_nil] at e; subst e; exact ⟨s, rfl, hi⟩
    | cons x rs ih =>
      intro ds s e hi
      obtain ⟨s1, e1, h1⟩ := h ds x rs s e hi
      obtain ⟨s2, e2, h2⟩ := ih (ds ++ [x]) s1 (by rw [e]; simp) h1
      exact ⟨s2, by rw [forM_cons, e1, M.ok_bind, ← e2], h2⟩
  exact key xs [] s rfl h0
/-- a loop that passes: nothing goes out -/
theorem forM_pass {f : α → Unit → M (Ctl Unit ρ)} : ∀ xs : List α, (∀ x ∈ xs, f x () = .ok (.nx ())) → forM f xs () = .ok (.inl ())
  | [], _ => rfl
  | x :: xs, h => by
    rw [forM_cons, h x (List.mem_cons_self ..), M.ok_bind]
    exact forM_pass xs fun y m => h y (List.mem_cons_of_mem _ m)
theorem mapM_ok {g : α → M β} (h : α → β) : ∀ xs : List α, (∀ x ∈ xs, g x = .ok (h x)) → mapM' g xs = .ok (xs.map h)
  | [], _ => rfl
  | x :: xs, hx => by
    show (g x).calm.bind _ = _
    rw [hx x (List.mem_cons_self ..), M.calm_ok, M.ok_bind, mapM_ok h xs fun y m => hx y (List.mem_cons_of_mem _ m)]; rfl
theorem compM_ok {c : α → M Bool} {g : α → M β} (p : α → Bool) (h : α → β) : ∀ xs : List α, (∀ x ∈ xs, c x = .ok (p x)) → (∀ x ∈ xs, p x = true → g x = .ok (h x)) → compM c g xs = .ok ((xs.filter p).map h)
  | [], _, _ => rfl
  | x :: xs, hc, hg => by
    have ih := compM_ok p h xs (fun y m => hc y (List.mem_cons_of_mem _ m)) (fun y m => hg y (List.mem_cons_of_mem _ m))
    show (c x).calm.bind _ = _
    rw [hc x (List.mem_cons_self ..), M.calm_ok, M.ok_bind]
    cases hp : p x with
    | false => rw [if_neg (by decide), ih, List.filter_cons_of_neg (by rw [hp]; decide)]
    | true => rw [if_pos rfl, hg x (List.mem_cons_self ..) hp, M.calm_ok, M.ok_bind, ih, List.filter_cons_of_pos hp]; rfl
theorem all_ok {g : α → M Bool} (p : α → Bool) : ∀ xs : List α, (∀ x ∈ xs, g x = .ok (p x)) → all0M true g xs = .ok (xs.all p)
  | [], _ => rfl
  | x :: xs, hx => by
    show (g x).calm.bind _ = _
    rw [hx x (List.mem_cons_self ..), M.calm_ok, M.ok_bind, List.all_cons]
    cases hp : p x with
    | false => rfl
    | true => rw [if_pos rfl, all_ok p xs fun y m => hx y (List.mem_cons_of_mem _ m)]; rfl
theorem any_ok {g : α → M Bool} (p : α → Bool) : ∀ xs : List α, (∀ x ∈ xs, g x = .ok (p x)) → all0M false g xs = .ok (xs.any p)
  | [], _ => rfl
  | x :: xs, hx => by
    show (g x).calm.bind _ = _
    rw [hx x (List.mem_cons_self ..), M.calm_ok, M.ok_bind, List.any_cons]
    cases hp : p x with
    | true => rfl
    | false => rw [if_pos rfl, any_ok p xs fun y m => hx y (List.mem_cons_of_mem _ m)]; rfl
/-- a while by a measure -/
theorem loopM_inv {c : σ → M Bool} {f : σ → M σ} (I : σ → Prop) (mu : σ → Nat) (hc : ∀ s, I s → ∃ b, c s = .ok b) (hf : ∀ s, I s → c s = .ok true → ∃ s', f s = .ok s' ∧ I s' ∧ mu s' < mu s) :
    ∀ (n : Nat) (s : σ), mu s < n → I s → ∃ s', loopM c f n s = .ok s' ∧ I s' ∧ c s' = .ok false
  | 0, _, h, _ => absurd h (Nat.not_lt_zero _)
  | n + 1, s, h, hi => by
    obtain ⟨b, eb⟩ := hc s hi
    show ∃ s', ((c s).bind fun b => if b = true then (f s).bind fun s => loopM c f n s else .ok s) = .ok s' ∧ _
    rw [eb, M.ok_bind]
    cases b with
    | false => exact ⟨s, rfl, hi, eb⟩
    | true =>
      obtain ⟨s1, e1, h1, h2⟩ := hf s hi eb
      rw [if_pos rfl, e1, M.ok_bind]
      exact loopM_inv I mu hc hf n s1 (by omega) h1
theorem whileN_ge {n : Nat} (h : n < 1000000) : n < whileN := h
/-! dicts -/
theorem dget_dput [DecidableEq κ] (xs : List (κ × α)) (k j : κ) (v : α) : dget? (dput xs k v) j = if k = j then some v else dget? xs j := by
  unfold dput
  by_cases h : dhas xs k = true
  · rw [if_pos h]
    unfold dhas at h
    unfold dget?
    induction xs with
    | nil => simp at h
    | cons p xs ih =>
      rw [List.map_cons]
      by_cases hp : p.1 = k
      · rw [if_pos hp]
        by_cases hj : k = j
        · subst hj; rw [List.find?_cons_of_pos (by simpa using hp), if_pos rfl]; rfl
        · rw [List.find?_cons_of_neg (by simp [hp, hj]), List.find?_cons_of_neg (by simp [hp, hj]), if_neg hj]
          congr 1
          by_cases hx : (xs.any fun p => decide (p.1 = k)) = true
          · have := ih hx
            rw [if_neg hj] at this
            clear ih h
            induction xs with
            | nil => rfl
            | cons q xs ihq =>
              rw [List.map_cons]
              by_cases hq : q.1 = k
              · rw [if_pos hq, List.find?_cons_of_neg (by simp [hq, hj]), List.find?_cons_of_neg (by simp [hq, hj])]
                by_cases hx2 : (xs.any fun p => decide (p.1 = k)) = true
                · refine ihq hx2 ?_
                  rw [List.map_cons, if_pos hq, List.find?_cons_of_neg (by simp [hq, hj]), List.find?_cons_of_neg (by simp [hq, hj])] at this
                  exact this
                · congr 1
                  conv => rhs; rw [← List.map_id xs]
                  apply List.map_congr_left
                  intro r hr
                  rw [if_neg (fun z => hx2 (List.any_eq_true.mpr ⟨r, hr, by simpa using z⟩))]; rfl
              · rw [if_neg hq]
                by_cases hqj : q.1 = j
                · rw [List.find?_cons_of_pos (by simpa using hqj), List.find?_cons_of_pos (by simpa using hqj)]
                · rw [List.find?_cons_of_neg (by simpa using hqj), List.find?_cons_of_neg (by simpa using hqj)]
                  refine ihq (by simpa [hq] using hx) ?_
                  rw [List.map_cons, if_neg hq, List.find?_cons_of_neg (by simpa using hqj), List.find?_cons_of_neg (by simpa using hqj)] at this
                  exact this
          · congr 1
            conv => rhs; rw [← List.map_id xs]
            apply List.map_congr_left
            intro r hr
            rw [if_neg (fun z => hx (List.any_eq_true.mpr ⟨r, hr, by simpa using z⟩))]; rfl
      · rw [if_neg hp]
        by_cases hj : p.1 = j
        · rw [List.find?_cons_of_pos (by simpa using hj), List.find?_cons_of_pos (by simpa using hj), if_neg (fun z => hp (by rw [z, hj]))]
        · rw [List.find?_cons_of_neg (by simpa using hj), List.find?_cons_of_neg (by simpa using hj)]
          exact ih (by simpa [hp] using h)
  · rw [if_neg h]
    unfold dhas at h
    unfold dget?
    rw [List.find?_append]
    by_cases hj : k = j
    · subst hj
      rw [List.find?_eq_none.mpr (fun p hp => by
        simp only [decide_eq_true_eq]
        exact fun z => h (List.any_eq_true.mpr ⟨p, hp, by simpa using z⟩)), if_pos rfl]
      simp
    · rw [if_neg hj]
      cases hf : List.find? (fun p => decide (p.1 = j)) xs with
      | some q => rfl
      | none => simp [hj]
theorem dkeys_dput [DecidableEq κ] (xs : List (κ × α)) (k : κ) (v : α) : dkeys (dput xs k v) = if k ∈ dkeys xs then dkeys xs else dkeys xs ++ [k] := by
  have hh : dhas xs k = true ↔ k ∈ dkeys xs := by
    unfold dhas dkeys
    rw [List.any_eq_true, List.mem_map]
    constructor
    · rintro ⟨p, hp, e⟩; exact ⟨p, hp, by simpa using e⟩
    · rintro ⟨p, hp, e⟩; exact ⟨p, hp, by simpa using e⟩
  unfold dput
  by_cases h : dhas xs k = true
  · rw [if_pos h, if_pos (hh.mp h)]
    unfold dkeys
    rw [List.map_map]
    apply List.map_congr_left
    intro p _
    show (if p.1 = k then (p.1, v) else p).1 = p.1
    split <;> rfl
  · rw [if_neg h, if_neg (fun z => h (hh.mpr z))]
    unfold dkeys
    rw [List.map_append]; rfl
theorem dget_mem [DecidableEq κ] {xs : List (κ × α)} {k : κ} (h : k ∈ dkeys xs) : ∃ v, dget? xs k = some v ∧ (k, v) ∈ xs := by
  unfold dkeys at h
  obtain ⟨p, hp, rfl⟩ := List.mem_map.mp h
  unfold dget?
  cases e : List.find? (fun q => decide (q.1 = p.1)) xs with
  | none => exact absurd (decide_eq_true rfl) (List.find?_eq_none.mp e p hp)
  | some q =>
    have h1 := List.find?_some e
    have h2 := List.mem_of_find?_eq_some e
    simp only [decide_eq_true_eq] at h1
    exact ⟨q.2, rfl, by rw [← h1]; exact h2⟩
theorem dgetM_some [DecidableEq κ] {xs : List (κ × α)} {k : κ} {v : α} (h : dget? xs k = some v) : dgetM xs k = .ok v := by unfold dgetM; rw [h]
theorem dhas_iff [DecidableEq κ] {xs : List (κ × α)} {k : κ} : dhas xs k = true ↔ k ∈ dkeys xs := by
  unfold dhas dkeys
  rw [List.any_eq_true, List.mem_map]
  constructor
  · rintro ⟨p, hp, e⟩; exact ⟨p, hp, by simpa using e⟩
  · rintro ⟨p, hp, e⟩; exact ⟨p, hp, by simpa using e⟩
end
/-! plain values compared -/
section
theorem okD_d {v : Val} (h : v.d.depth ≤ 64) : okD v.d = true := by unfold okD; rw [flat_d, decide_eq_true h]; rfl
@[simp] theorem ltVM_int (a b : Int) : ltVM (.int a) (.int b) = .ok (decide (a < b)) := by
  unfold ltVM
  rw [show ltB [] (Val.int a).d (Val.int b).d = some (decide (a < b)) from ltB_int [] a b]
@[simp] theorem eqVM_int (a b : Int) : eqVM (.int a) (.int b) = .ok (decide (a = b)) := by
  unfold eqVM
  rw [if_pos (show (okD (Val.int a).d && okD (Val.int b).d) = true from rfl)]
  show M.ok (PyData.eqv (.int a) (.int b)) = _
  rw [eqv_int]
theorem eqVM_of {α : Type} [DecidableEq α] {e : α → Val} {n : Nat} (h : EQ e n) (hn : n ≤ 64) (x y : α) : eqVM (e x) (e y) = .ok (decide (x = y)) := by
  unfold eqVM
  rw [okD_d (Nat.le_trans (h.dep x) hn), okD_d (Nat.le_trans (h.dep y) hn), h.eq]; rfl
theorem ltVM_of {α : Type} {e : α → Val} {lt : α → α → Bool} {n : Nat} (h : ORD e lt n) (hn : n ≤ 64) (x y : α) : ltVM (e x) (e y) = .ok (lt x y) := by
  unfold ltVM
  rw [f_lt h (Nat.ble_eq_true_of_le hn)]
end
end Cor

namespace K03
open PySem PySem.Spec PyProof.Rows L2 Cor
def tab : List (Str × Nat) := [("is_int", 1), ("is_between", 3), ("is_sequence", 1), ("is_row", 2), ("frozen", 1), ("is_ascending", 1), ("is_number_set", 3), ("need", 2), ("is_size", 1), ("is_vouchings", 2), ("is_web", 1), ("need_web", 2), ("is_account", 2), ("need_account", 3), ("vouched_by", 2), ("vouches_for", 2), ("reached_of", 1), ("follow", 3), ("reached", 1), ("distances_to", 2), ("way_to", 2), ("_law_power", 2), ("_law_cell", 2), ("_law_numbers", 3), ("_law_same", 2), ("_law_listed", 1), ("_law_size", 1), ("_law_web", 1), ("_law_far", 1), ("_law_back", 2), ("_law_way", 2), ("law", 1)]
abbrev n_is_int : List Str := ["value"]
noncomputable def b_is_int (C : Clls) : Blk :=
    (retB (andE (isiE (var 0) [.int]) (notE (isiE (var 0) [.bool]))))
abbrev n_is_between : List Str := ["value", "low", "high"]
noncomputable def b_is_between (C : Clls) : Blk :=
    (retB (andE (callE C 0 (consX (var 0) nilX)) (chn leB leB (var 1) (var 0) (var 2))))
abbrev n_is_sequence : List Str := ["value"]
noncomputable def b_is_sequence (C : Clls) : Blk :=
    (retB (isiE (var 0) [.tuple, .list]))
abbrev n_is_row : List Str := ["value", "many"]
noncomputable def b_is_row (C : Clls) : Blk :=
    (retB (andE (callE C 2 (consX (var 0) nilX)) (cmp eqB (bltE lenD (consX (var 0) nilX)) (var 1))))
abbrev n_frozen : List Str := ["value", "part"]
noncomputable def b_frozen (C : Clls) : Blk :=
    (seqB (ifB (tru (callE C 2 (consX (var 0) nilX))) (retB (bltE tupleD (consX (frz (compF (valI (var 0)) (setN 1) yesT (callE C 4 (consX (var 1) nilX)) [1])) nilX))) skipB)
    (retB (var 0)))
abbrev n_is_ascending : List Str := ["values", "i"]
noncomputable def b_is_ascending (C : Clls) : Blk :=
    (retB (aaE true (rng1 (bin subD (bltE lenD (consX (var 0) nilX)) (lit (.int 1)))) (setN 1) yesT (cmp ltB (bin idxD (var 0) (var 1)) (bin idxD (var 0) (bin addD (var 1) (lit (.int 1))))) [1]))
abbrev n_is_number_set : List Str := ["value", "low", "high", "part"]
noncomputable def b_is_number_set (C : Clls) : Blk :=
    (seqB (ifB (orT (notT (tru (callE C 2 (consX (var 0) nilX)))) (notT (tru (aaE true (valI (var 0)) (setN 3) yesT (callE C 1 (consX (var 3) (consX (var 1) (consX (var 2) nilX)))) [3])))) (retB (lit (.bool false))) skipB)
    (retB (callE C 5 (consX (var 0) nilX))))
abbrev n_need : List Str := ["test", "at"]
noncomputable def b_need (C : Clls) : Blk :=
    (ifB (notT (tru (var 0))) noB skipB)
abbrev n_is_size : List Str := ["value"]
noncomputable def b_is_size (C : Clls) : Blk :=
    (retB (callE C 1 (consX (var 0) (consX (lit (.int 1)) (consX (lit (.int (1000))) nilX)))))
abbrev n_is_vouchings : List Str := ["value", "many", "row"]
noncomputable def b_is_vouchings (C : Clls) : Blk :=
    (seqB (ifB (orT (notT (tru (callE C 2 (consX (var 0) nilX)))) (cmpT gtB (bltE lenD (consX (var 0) nilX)) (lit (.int (60))))) (retB (lit (.bool false))) skipB)
    (seqB (forB (valI (var 0)) (setN 2) (seqB (ifB (orT (notT (tru (callE C 3 (consX (var 2) (consX (lit (.int 3)) nilX))))) (orT (notT (tru (callE C 1 (consX (bin idxD (var 2) (lit (.int 0))) (consX (lit (.int 0)) (consX (bin subD (var 1) (lit (.int 1))) nilX)))))) (notT (tru (callE C 1 (consX (bin idxD (var 2) (lit (.int 1))) (consX (lit (.int 0)) (consX (bin subD (var 1) (lit (.int 1))) nilX)))))))) (retB (lit (.bool false))) skipB)
    (ifB (orT (cmpT eqB (bin idxD (var 2) (lit (.int 0))) (bin idxD (var 2) (lit (.int 1)))) (notT (tru (callE C 8 (consX (bin idxD (var 2) (lit (.int 2))) nilX))))) (retB (lit (.bool false))) skipB)))
    (retB (callE C 5 (consX (frz (compF (valI (var 0)) (setN 2) yesT (tupE (consX (bin idxD (var 2) (lit (.int 0))) (consX (bin idxD (var 2) (lit (.int 1))) nilX))) [2])) nilX)))))
abbrev n_is_web : List Str := ["value", "many", "capacities", "founders", "vouchings", "capacity"]
noncomputable def b_is_web (C : Clls) : Blk :=
    (seqB (ifB (notT (tru (callE C 3 (consX (var 0) (consX (lit (.int 3)) nilX))))) (retB (lit (.bool false))) skipB)
    (seqB (asgB (var 0) (unpG 3 (consG (setN 2) (consG (setN 3) (consG (setN 4) nilG)))))
    (seqB (ifB (orT (notT (tru (callE C 2 (consX (var 2) nilX)))) (notT (chnT leB leB (lit (.int 1)) (bltE lenD (consX (var 2) nilX)) (lit (.int (14)))))) (retB (lit (.bool false))) skipB)
    (seqB (ifB (notT (tru (aaE true (valI (var 2)) (setN 5) yesT (callE C 8 (consX (var 5) nilX)) [5]))) (retB (lit (.bool false))) skipB)
    (seqB (asgB (bltE lenD (consX (var 2) nilX)) (setN 1))
    (seqB (ifB (orT (notT (tru (callE C 6 (consX (var 3) (consX (lit (.int 0)) (consX (bin subD (var 1) (lit (.int 1))) nilX)))))) (notT (chnT leB leB (lit (.int 1)) (bltE lenD (consX (var 3) nilX)) (lit (.int (3)))))) (retB (lit (.bool false))) skipB)
    (retB (callE C 9 (consX (var 4) (consX (var 1) nilX))))))))))
abbrev n_need_web : List Str := ["value", "at"]
noncomputable def b_need_web (C : Clls) : Blk :=
    (seqB (expB (callE C 7 (consX (callE C 10 (consX (var 0) nilX)) (consX (var 1) nilX))))
    (retB (callE C 4 (consX (var 0) nilX))))
abbrev n_is_account : List Str := ["web", "value"]
noncomputable def b_is_account (C : Clls) : Blk :=
    (retB (callE C 1 (consX (var 1) (consX (lit (.int 0)) (consX (bin subD (bltE lenD (consX (bin idxD (var 0) (lit (.int 0))) nilX)) (lit (.int 1))) nilX)))))
abbrev n_need_account : List Str := ["web", "value", "at"]
noncomputable def b_need_account (C : Clls) : Blk :=
    (seqB (expB (callE C 7 (consX (callE C 12 (consX (var 0) (consX (var 1) nilX))) (consX (var 2) nilX))))
    (retB (var 1)))
abbrev n_vouched_by : List Str := ["web", "account", "i", "row"]
noncomputable def b_vouched_by (C : Clls) : Blk :=
    (seqB (asgB (callE C 11 (consX (var 0) (consX (lit (.int 1)) nilX))) (setN 0))
    (seqB (expB (callE C 13 (consX (var 0) (consX (var 1) (consX (lit (.int 2)) nilX)))))
    (retB (bltE tupleD (consX (frz (compF (enuI (bin idxD (var 0) (lit (.int 2)))) (unpG 2 (consG (setN 2) (consG (setN 3) nilG))) (cmpT eqB (bin idxD (var 3) (lit (.int 1))) (var 1)) (var 2) [2, 3])) nilX)))))
abbrev n_vouches_for : List Str := ["web", "account", "i", "row"]
noncomputable def b_vouches_for (C : Clls) : Blk :=
    (seqB (asgB (callE C 11 (consX (var 0) (consX (lit (.int 1)) nilX))) (setN 0))
    (seqB (expB (callE C 13 (consX (var 0) (consX (var 1) (consX (lit (.int 2)) nilX)))))
    (retB (bltE tupleD (consX (frz (compF (enuI (bin idxD (var 0) (lit (.int 2)))) (unpG 2 (consG (setN 2) (consG (setN 3) nilG))) (cmpT eqB (bin idxD (var 3) (lit (.int 0))) (var 1)) (var 2) [2, 3])) nilX)))))
abbrev n_reached_of : List Str := ["web", "found", "account"]
noncomputable def b_reached_of (C : Clls) : Blk :=
    (seqB (asgB (cel (bltF listD (consX (bin idxD (var 0) (lit (.int 1))) nilX))) (setN 1))
    (seqB (forB (valI (slA (var 1) noP noP)) (setN 2) (expB (callE C 17 (consX (var 0) (consX (var 2) (consX (var 1) nilX))))))
    (retB (bltE tupleD (consX (frz (bltF sortedD (consX (var 1) nilX))) nilX)))))
abbrev n_follow : List Str := ["web", "account", "found", "waiting", "here", "who", "whom", "_"]
noncomputable def b_follow (C : Clls) : Blk :=
    (seqB (asgB (cel (lstF (consX (var 1) nilX))) (setN 3))
    (whileB whileN (tru (var 3)) (seqB (asgB (methE popD (var 3) nilX) (setN 4))
    (forB (valI (bin idxD (var 0) (lit (.int 2)))) (unpG 3 (consG (setN 5) (consG (setN 6) (consG (setN 7) nilG)))) (ifB (andT (cmpT eqB (var 5) (var 4)) (cmpT ninB (var 6) (var 2))) (seqB (expB (methE appD (var 2) (consX (var 6) nilX)))
    (expB (methE appD (var 3) (consX (var 6) nilX)))) skipB)))))
abbrev n_reached : List Str := ["web"]
noncomputable def b_reached (C : Clls) : Blk :=
    (retB (callE C 16 (consX (callE C 11 (consX (var 0) (consX (lit (.int 1)) nilX))) nilX)))
abbrev n_distances_to : List Str := ["web", "account", "far", "layer", "steps", "behind", "_", "who", "whom"]
noncomputable def b_distances_to (C : Clls) : Blk :=
    (seqB (asgB (cel (compF (valI (bin idxD (var 0) (lit (.int 0)))) (setN 6) yesT (lit .none) [6])) (setN 2))
    (seqB (putB (lit (.int 0)) (var 2) (var 1))
    (seqB (asgB (cel (lstF (consX (var 1) nilX))) (setN 3))
    (seqB (asgB (lit (.int 0)) (setN 4))
    (seqB (whileB whileN (tru (var 3)) (seqB (augB 4 addI (lit (.int 1)))
    (seqB (asgB (cel (lstF nilX)) (setN 5))
    (seqB (forB (valI (bin idxD (var 0) (lit (.int 2)))) (unpG 3 (consG (setN 7) (consG (setN 8) (consG (setN 6) nilG)))) (ifB (andT (cmpT inB (var 8) (var 3)) (cmpT isB (bin idxD (var 2) (var 7)) (lit .none))) (seqB (putB (var 4) (var 2) (var 7))
    (expB (methE appD (var 5) (consX (var 7) nilX)))) skipB))
    (asgB (var 5) (setN 3))))))
    (retB (var 2)))))))
abbrev n_way_to : List Str := ["web", "account", "far", "starts", "way", "left", "here", "founder", "who", "whom", "_"]
noncomputable def b_way_to (C : Clls) : Blk :=
    (seqB (asgB (callE C 11 (consX (var 0) (consX (lit (.int 1)) nilX))) (setN 0))
    (seqB (expB (callE C 13 (consX (var 0) (consX (var 1) (consX (lit (.int 2)) nilX)))))
    (seqB (asgB (callE C 19 (consX (var 0) (consX (var 1) nilX))) (setN 2))
    (seqB (asgB (frz (compF (valI (bin idxD (var 0) (lit (.int 1)))) (setN 7) (cmpT isnB (bin idxD (var 2) (var 7)) (lit .none)) (tupE (consX (bin idxD (var 2) (var 7)) (consX (var 7) nilX))) [7])) (setN 3))
    (seqB (ifB (notT (tru (var 3))) (retB (lit .none)) skipB)
    (seqB (asgB (bltE (mmD PySem.W.minD) (consX (var 3) nilX)) (unpG 2 (consG (setN 5) (consG (setN 6) nilG))))
    (seqB (asgB (cel (lstF (consX (var 6) nilX))) (setN 4))
    (seqB (whileB whileN (cmpT gtB (var 5) (lit (.int 0))) (seqB (augB 5 subD (lit (.int 1)))
    (seqB (asgB (bltE (mmD PySem.W.minD) (consX (frz (compF (valI (bin idxD (var 0) (lit (.int 2)))) (unpG 3 (consG (setN 8) (consG (setN 9) (consG (setN 10) nilG)))) (andT (cmpT eqB (var 8) (var 6)) (cmpT eqB (bin idxD (var 2) (var 9)) (var 5))) (var 9) [8, 9, 10])) nilX)) (setN 6))
    (expB (methE appD (var 4) (consX (var 6) nilX))))))
    (retB (bltE tupleD (consX (var 4) nilX)))))))))))
abbrev n__law_power : List Str := ["base", "many", "result", "k"]
noncomputable def b__law_power (C : Clls) : Blk :=
    (seqB (asgB (lit (.int 1)) (setN 2))
    (seqB (forB (rng1 (var 1)) (setN 3) (asgB (bin mulD (var 2) (var 0)) (setN 2)))
    (retB (var 2))))
abbrev n__law_cell : List Str := ["script", "place"]
noncomputable def b__law_cell (C : Clls) : Blk :=
    (seqB (ifB (cmpT ltB (var 1) (bltE lenD (consX (var 0) nilX))) (retB (bltE intD (consX (bin idxD (var 0) (var 1)) nilX))) skipB)
    (retB (lit (.int 0))))
abbrev n__law_numbers : List Str := ["script", "place", "many", "cell", "numbers", "rest", "k", "twice"]
noncomputable def b__law_numbers (C : Clls) : Blk :=
    (seqB (asgB (callE C 22 (consX (var 0) (consX (var 1) nilX))) (setN 3))
    (seqB (asgB (cel (lstF nilX)) (setN 4))
    (seqB (asgB (var 3) (setN 5))
    (seqB (forB (rng1 (var 2)) (setN 6) (ifB (cmpT geB (var 3) (bin powD (lit (.int 10)) (lit (.int 18)))) (seqB (expB (methE appD (var 4) (consX (bin modD (bltE intD (consX (var 5) nilX)) (bin powD (lit (.int 10)) (lit (.int 9)))) nilX)))
    (asgB (bin fdivD (var 5) (bin powD (lit (.int 10)) (lit (.int 9)))) (setN 5))) (seqB (asgB (bin modD (bltE intD (consX (bin addD (bin addD (bin mulD (var 3) (lit (.int 48271))) (bin mulD (bin addD (var 6) (lit (.int 1))) (lit (.int 69621)))) (var 1)) nilX)) (lit (.int 2147483647))) (setN 7))
    (expB (methE appD (var 4) (consX (bin modD (bin modD (bltE intD (consX (bin addD (bin mulD (var 7) (lit (.int 16807))) (bin mulD (bin addD (var 6) (lit (.int 3))) (lit (.int 40692)))) nilX)) (lit (.int 2147483399))) (bin powD (lit (.int 10)) (lit (.int 9)))) nilX))))))
    (retB (var 4))))))
abbrev n__law_same : List Str := ["one", "other", "k"]
noncomputable def b__law_same (C : Clls) : Blk :=
    (seqB (ifB (orT (tru (isiE (var 1) [.tuple])) (tru (isiE (var 0) [.tuple]))) (seqB (ifB (orT (notT (tru (isiE (var 0) [.tuple]))) (orT (notT (tru (isiE (var 1) [.tuple]))) (cmpT neB (bltE lenD (consX (var 0) nilX)) (bltE lenD (consX (var 1) nilX))))) (retB (lit (.bool false))) skipB)
    (seqB (forB (rng1 (bltE lenD (consX (var 1) nilX))) (setN 2) (ifB (notT (tru (callE C 24 (consX (bin idxD (var 0) (var 2)) (consX (bin idxD (var 1) (var 2)) nilX))))) (retB (lit (.bool false))) skipB))
    (retB (lit (.bool true))))) skipB)
    (seqB (ifB (orT (cmpT isB (var 0) (lit .none)) (cmpT isB (var 1) (lit .none))) (retB (andE (cmp isB (var 0) (lit .none)) (cmp isB (var 1) (lit .none)))) skipB)
    (seqB (ifB (orT (cmpT neB (isiE (var 0) [.bool]) (isiE (var 1) [.bool])) (cmpT neB (isiE (var 0) [.str]) (isiE (var 1) [.str]))) (retB (lit (.bool false))) skipB)
    (retB (andE (isiE (var 0) [.int, .str]) (andE (isiE (var 1) [.int, .str]) (cmp eqB (var 0) (var 1))))))))
abbrev n__law_listed : List Str := ["value", "part"]
noncomputable def b__law_listed (C : Clls) : Blk :=
    (seqB (ifB (tru (isiE (var 0) [.tuple])) (retB (frz (compF (valI (var 0)) (setN 1) yesT (callE C 25 (consX (var 1) nilX)) [1]))) skipB)
    (retB (var 0)))
abbrev n__law_size : List Str := ["number"]
noncomputable def b__law_size (C : Clls) : Blk :=
    (seqB (ifB (cmpT eqB (bin modD (bltE intD (consX (var 0) nilX)) (lit (.int 4))) (lit (.int 0))) (retB (bin addD (lit (.int 1)) (bin modD (bltE intD (consX (bin fdivD (var 0) (lit (.int 4))) nilX)) (lit (.int 1000))))) skipB)
    (retB (bin addD (lit (.int 1)) (bin modD (bltE intD (consX (bin fdivD (var 0) (lit (.int 4))) nilX)) (lit (.int 9))))))
abbrev n__law_web : List Str := ["numbers", "many", "capacities", "flags", "founders", "widths", "vouchings", "k", "number", "who", "whom", "pair"]
noncomputable def b__law_web (C : Clls) : Blk :=
    (seqB (asgB (bin addD (lit (.int 1)) (bin modD (bltE intD (consX (bin idxD (var 0) (lit (.int 0))) nilX)) (lit (.int 6)))) (setN 1))
    (seqB (asgB (bltE tupleD (consX (frz (compF (rng1 (var 1)) (setN 7) yesT (callE C 26 (consX (bin idxD (var 0) (bin addD (lit (.int 1)) (var 7))) nilX)) [7])) nilX)) (setN 2))
    (seqB (asgB (frz (compF (rng1 (var 1)) (setN 7) (cmpT eqB (bin modD (bltE intD (consX (bin fdivD (bin idxD (var 0) (lit (.int 0))) (bin mulD (lit (.int 6)) (callE C 21 (consX (lit (.int 2)) (consX (var 7) nilX))))) nilX)) (lit (.int 2))) (lit (.int 1))) (var 7) [7])) (setN 3))
    (seqB (asgB (bltE tupleD (consX (slA (var 3) noP (someP (lit (.int 3)))) nilX)) (setN 4))
    (seqB (ifB (cmpT eqB (var 4) (tupE nilX)) (asgB (tupE (consX (bin modD (bltE intD (consX (bin fdivD (bin idxD (var 0) (lit (.int 0))) (lit (.int 400))) nilX)) (var 1)) nilX)) (setN 4)) skipB)
    (seqB (asgB (newE (.dT [])) (setN 5))
    (seqB (ifB (cmpT gtB (var 1) (lit (.int 1))) (forB (rng1 (bin modD (bltE intD (consX (bin idxD (var 0) (lit (.int 7))) nilX)) (lit (.int 12)))) (setN 7) (seqB (asgB (bin idxD (var 0) (bin addD (lit (.int 8)) (var 7))) (setN 8))
    (seqB (asgB (bin modD (bltE intD (consX (var 8) nilX)) (var 1)) (setN 9))
    (seqB (asgB (bin modD (bin addD (bin addD (var 9) (lit (.int 1))) (bin modD (bltE intD (consX (bin fdivD (var 8) (lit (.int 6))) nilX)) (bin subD (var 1) (lit (.int 1))))) (var 1)) (setN 10))
    (putB (callE C 26 (consX (bin fdivD (var 8) (lit (.int 36))) nilX)) (var 5) (tupE (consX (var 9) (consX (var 10) nilX)))))))) skipB)
    (seqB (asgB (frz (compF (valI (frz (skeysF (var 5)))) (setN 11) yesT (tupE (consX (bin idxD (var 11) (lit (.int 0))) (consX (bin idxD (var 11) (lit (.int 1))) (consX (bin idxD (var 5) (var 11)) nilX)))) [11])) (setN 6))
    (retB (tupE (consX (var 2) (consX (var 4) (consX (bltE tupleD (consX (var 6) nilX)) nilX)))))))))))))
abbrev n__law_far : List Str := ["web", "far", "k", "turn", "who", "whom", "width"]
noncomputable def b__law_far (C : Clls) : Blk :=
    (seqB (asgB (cel (repF (frz (lstF (consX (lit .none) nilX))) (bltE lenD (consX (bin idxD (var 0) (lit (.int 0))) nilX)))) (setN 1))
    (seqB (forB (valI (bin idxD (var 0) (lit (.int 1)))) (setN 2) (putB (lit (.int 0)) (var 1) (var 2)))
    (seqB (forB (rng1 (bltE lenD (consX (bin idxD (var 0) (lit (.int 0))) nilX))) (setN 3) (forB (valI (bin idxD (var 0) (lit (.int 2)))) (unpG 3 (consG (setN 4) (consG (setN 5) (consG (setN 6) nilG)))) (ifB (andT (cmpT isnB (bin idxD (var 1) (var 4)) (lit .none)) (andT (cmpT eqB (bin idxD (var 1) (var 4)) (var 3)) (cmpT isB (bin idxD (var 1) (var 5)) (lit .none)))) (putB (bin addD (var 3) (lit (.int 1))) (var 1) (var 5)) skipB)))
    (retB (var 1)))))
abbrev n__law_back : List Str := ["web", "account", "far", "turn", "who", "whom", "width"]
noncomputable def b__law_back (C : Clls) : Blk :=
    (seqB (asgB (cel (repF (frz (lstF (consX (lit .none) nilX))) (bltE lenD (consX (bin idxD (var 0) (lit (.int 0))) nilX)))) (setN 2))
    (seqB (putB (lit (.int 0)) (var 2) (var 1))
    (seqB (forB (rng1 (bltE lenD (consX (bin idxD (var 0) (lit (.int 0))) nilX))) (setN 3) (forB (valI (bin idxD (var 0) (lit (.int 2)))) (unpG 3 (consG (setN 4) (consG (setN 5) (consG (setN 6) nilG)))) (ifB (andT (cmpT isnB (bin idxD (var 2) (var 5)) (lit .none)) (andT (cmpT eqB (bin idxD (var 2) (var 5)) (var 3)) (cmpT isB (bin idxD (var 2) (var 4)) (lit .none)))) (putB (bin addD (var 3) (lit (.int 1))) (var 2) (var 4)) skipB)))
    (retB (var 2)))))
abbrev n__law_way : List Str := ["web", "account", "far", "back", "many", "now", "way", "turn", "left", "k", "who", "whom", "width"]
noncomputable def b__law_way (C : Clls) : Blk :=
    (seqB (asgB (callE C 28 (consX (var 0) nilX)) (setN 2))
    (seqB (ifB (cmpT isB (bin idxD (var 2) (var 1)) (lit .none)) (retB (lit .none)) skipB)
    (seqB (asgB (callE C 29 (consX (var 0) (consX (var 1) nilX))) (setN 3))
    (seqB (asgB (bin idxD (var 2) (var 1)) (setN 4))
    (seqB (asgB (bltE (mmD PySem.W.minD) (consX (frz (compF (valI (bin idxD (var 0) (lit (.int 1)))) (setN 9) (andT (cmpT isnB (bin idxD (var 3) (var 9)) (lit .none)) (cmpT eqB (bin idxD (var 3) (var 9)) (var 4))) (var 9) [9])) nilX)) (setN 5))
    (seqB (asgB (cel (lstF (consX (var 5) nilX))) (setN 6))
    (seqB (forB (rng1 (var 4)) (setN 7) (seqB (asgB (bin subD (bin subD (var 4) (var 7)) (lit (.int 1))) (setN 8))
    (seqB (asgB (bltE (mmD PySem.W.minD) (consX (frz (compF (valI (bin idxD (var 0) (lit (.int 2)))) (unpG 3 (consG (setN 10) (consG (setN 11) (consG (setN 12) nilG)))) (andT (cmpT eqB (var 10) (var 5)) (andT (cmpT isnB (bin idxD (var 3) (var 11)) (lit .none)) (cmpT eqB (bin idxD (var 3) (var 11)) (var 8)))) (var 11) [10, 11, 12])) nilX)) (setN 5))
    (expB (methE appD (var 6) (consX (var 5) nilX))))))
    (retB (bltE tupleD (consX (var 6) nilX))))))))))
abbrev n_law : List Str := ["script", "web", "far", "there", "k", "by", "of", "j"]
noncomputable def b_law (C : Clls) : Blk :=
    (seqB (asgB (callE C 27 (consX (callE C 23 (consX (var 0) (consX (lit (.int 0)) (consX (lit (.int 20)) nilX)))) nilX)) (setN 1))
    (seqB (asgB (callE C 28 (consX (var 1) nilX)) (setN 2))
    (seqB (asgB (bltE tupleD (consX (frz (compF (rng1 (bltE lenD (consX (bin idxD (var 1) (lit (.int 0))) nilX))) (setN 4) (cmpT isnB (bin idxD (var 2) (var 4)) (lit .none)) (var 4) [4])) nilX)) (setN 3))
    (seqB (ifB (orT (notT (tru (callE C 24 (consX (callE C 18 (consX (var 1) nilX)) (consX (var 3) nilX))))) (notT (tru (callE C 24 (consX (callE C 18 (consX (callE C 25 (consX (var 1) nilX)) nilX)) (consX (var 3) nilX)))))) (retB (lit (.bool false))) skipB)
    (seqB (forB (rng1 (bltE lenD (consX (bin idxD (var 1) (lit (.int 0))) nilX))) (setN 4) (seqB (asgB (bltE tupleD (consX (frz (compF (rng1 (bltE lenD (consX (bin idxD (var 1) (lit (.int 2))) nilX))) (setN 7) (cmpT eqB (bin idxD (bin idxD (bin idxD (var 1) (lit (.int 2))) (var 7)) (lit (.int 1))) (var 4)) (var 7) [7])) nilX)) (setN 5))
    (seqB (asgB (bltE tupleD (consX (frz (compF (rng1 (bltE lenD (consX (bin idxD (var 1) (lit (.int 2))) nilX))) (setN 7) (cmpT eqB (bin idxD (bin idxD (bin idxD (var 1) (lit (.int 2))) (var 7)) (lit (.int 0))) (var 4)) (var 7) [7])) nilX)) (setN 6))
    (seqB (ifB (orT (notT (tru (callE C 24 (consX (callE C 14 (consX (var 1) (consX (var 4) nilX))) (consX (var 5) nilX))))) (notT (tru (callE C 24 (consX (callE C 15 (consX (var 1) (consX (var 4) nilX))) (consX (var 6) nilX)))))) (retB (lit (.bool false))) skipB)
    (ifB (notT (tru (callE C 24 (consX (callE C 20 (consX (var 1) (consX (var 4) nilX))) (consX (callE C 30 (consX (var 1) (consX (var 4) nilX))) nilX))))) (retB (lit (.bool false))) skipB)))))
    (retB (callE C 24 (consX (callE C 18 (consX (var 1) nilX)) (consX (var 3) nilX)))))))))
/-- the defs, called n deep -/
noncomputable def Cn : Nat → Clls
  | 0 => fun _ _ _ => .no
  | n + 1 => fun id ds S => match id with
    | 0 => callB (n_is_int).length 1 (b_is_int (Cn n)) ds S
    | 1 => callB (n_is_between).length 3 (b_is_between (Cn n)) ds S
    | 2 => callB (n_is_sequence).length 1 (b_is_sequence (Cn n)) ds S
    | 3 => callB (n_is_row).length 2 (b_is_row (Cn n)) ds S
    | 4 => callB (n_frozen).length 1 (b_frozen (Cn n)) ds S
    | 5 => callB (n_is_ascending).length 1 (b_is_ascending (Cn n)) ds S
    | 6 => callB (n_is_number_set).length 3 (b_is_number_set (Cn n)) ds S
    | 7 => callB (n_need).length 2 (b_need (Cn n)) ds S
    | 8 => callB (n_is_size).length 1 (b_is_size (Cn n)) ds S
    | 9 => callB (n_is_vouchings).length 2 (b_is_vouchings (Cn n)) ds S
    | 10 => callB (n_is_web).length 1 (b_is_web (Cn n)) ds S
    | 11 => callB (n_need_web).length 2 (b_need_web (Cn n)) ds S
    | 12 => callB (n_is_account).length 2 (b_is_account (Cn n)) ds S
    | 13 => callB (n_need_account).length 3 (b_need_account (Cn n)) ds S
    | 14 => callB (n_vouched_by).length 2 (b_vouched_by (Cn n)) ds S
    | 15 => callB (n_vouches_for).length 2 (b_vouches_for (Cn n)) ds S
    | 16 => callB (n_reached_of).length 1 (b_reached_of (Cn n)) ds S
    | 17 => callB (n_follow).length 3 (b_follow (Cn n)) ds S
    | 18 => callB (n_reached).length 1 (b_reached (Cn n)) ds S
    | 19 => callB (n_distances_to).length 2 (b_distances_to (Cn n)) ds S
    | 20 => callB (n_way_to).length 2 (b_way_to (Cn n)) ds S
    | 21 => callB (n__law_power).length 2 (b__law_power (Cn n)) ds S
    | 22 => callB (n__law_cell).length 2 (b__law_cell (Cn n)) ds S
    | 23 => callB (n__law_numbers).length 3 (b__law_numbers (Cn n)) ds S
    | 24 => callB (n__law_same).length 2 (b__law_same (Cn n)) ds S
    | 25 => callB (n__law_listed).length 1 (b__law_listed (Cn n)) ds S
    | 26 => callB (n__law_size).length 1 (b__law_size (Cn n)) ds S
    | 27 => callB (n__law_web).length 1 (b__law_web (Cn n)) ds S
    | 28 => callB (n__law_far).length 1 (b__law_far (Cn n)) ds S
    | 29 => callB (n__law_back).length 2 (b__law_back (Cn n)) ds S
    | 30 => callB (n__law_way).length 2 (b__law_way (Cn n)) ds S
    | 31 => callB (n_law).length 1 (b_law (Cn n)) ds S
    | _ => .no
theorem run_is_int (n : Nat) (x0 : D) (S : Sto) : Cn (n + 1) 0 [x0] S = endB S (b_is_int (Cn n) [some x0] S) :=
  callB_eq (n := (n_is_int).length) (ar := 1) (b := b_is_int (Cn n)) (ds := [x0]) rfl
theorem run_is_between (n : Nat) (x0 x1 x2 : D) (S : Sto) : Cn (n + 1) 1 [x0, x1, x2] S = endB S (b_is_between (Cn n) [some x0, some x1, some x2] S) :=
  callB_eq (n := (n_is_between).length) (ar := 3) (b := b_is_between (Cn n)) (ds := [x0, x1, x2]) rfl
theorem run_is_sequence (n : Nat) (x0 : D) (S : Sto) : Cn (n + 1) 2 [x0] S = endB S (b_is_sequence (Cn n) [some x0] S) :=
  callB_eq (n := (n_is_sequence).length) (ar := 1) (b := b_is_sequence (Cn n)) (ds := [x0]) rfl
theorem run_is_row (n : Nat) (x0 x1 : D) (S : Sto) : Cn (n + 1) 3 [x0, x1] S = endB S (b_is_row (Cn n) [some x0, some x1] S) :=
  callB_eq (n := (n_is_row).length) (ar := 2) (b := b_is_row (Cn n)) (ds := [x0, x1]) rfl
theorem run_frozen (n : Nat) (x0 : D) (S : Sto) : Cn (n + 1) 4 [x0] S = endB S (b_frozen (Cn n) [some x0, none] S) :=
  callB_eq (n := (n_frozen).length) (ar := 1) (b := b_frozen (Cn n)) (ds := [x0]) rfl
theorem run_is_ascending (n : Nat) (x0 : D) (S : Sto) : Cn (n + 1) 5 [x0] S = endB S (b_is_ascending (Cn n) [some x0, none] S) :=
  callB_eq (n := (n_is_ascending).length) (ar := 1) (b := b_is_ascending (Cn n)) (ds := [x0]) rfl
theorem run_is_number_set (n : Nat) (x0 x1 x2 : D) (S : Sto) : Cn (n + 1) 6 [x0, x1, x2] S = endB S (b_is_number_set (Cn n) [some x0, some x1, some x2, none] S) :=
  callB_eq (n := (n_is_number_set).length) (ar := 3) (b := b_is_number_set (Cn n)) (ds := [x0, x1, x2]) rfl
theorem run_need (n : Nat) (x0 x1 : D) (S : Sto) : Cn (n + 1) 7 [x0, x1] S = endB S (b_need (Cn n) [some x0, some x1] S) :=
  callB_eq (n := (n_need).length) (ar := 2) (b := b_need (Cn n)) (ds := [x0, x1]) rfl
theorem run_is_size (n : Nat) (x0 : D) (S : Sto) : Cn (n + 1) 8 [x0] S = endB S (b_is_size (Cn n) [some x0] S) :=
  callB_eq (n := (n_is_size).length) (ar := 1) (b := b_is_size (Cn n)) (ds := [x0]) rfl
theorem run_is_vouchings (n : Nat) (x0 x1 : D) (S : Sto) : Cn (n + 1) 9 [x0, x1] S = endB S (b_is_vouchings (Cn n) [some x0, some x1, none] S) :=
  callB_eq (n := (n_is_vouchings).length) (ar := 2) (b := b_is_vouchings (Cn n)) (ds := [x0, x1]) rfl
theorem run_is_web (n : Nat) (x0 : D) (S : Sto) : Cn (n + 1) 10 [x0] S = endB S (b_is_web (Cn n) [some x0, none, none, none, none, none] S) :=
  callB_eq (n := (n_is_web).length) (ar := 1) (b := b_is_web (Cn n)) (ds := [x0]) rfl
theorem run_need_web (n : Nat) (x0 x1 : D) (S : Sto) : Cn (n + 1) 11 [x0, x1] S = endB S (b_need_web (Cn n) [some x0, some x1] S) :=
  callB_eq (n := (n_need_web).length) (ar := 2) (b := b_need_web (Cn n)) (ds := [x0, x1]) rfl
theorem run_is_account (n : Nat) (x0 x1 : D) (S : Sto) : Cn (n + 1) 12 [x0, x1] S = endB S (b_is_account (Cn n) [some x0, some x1] S) :=
  callB_eq (n := (n_is_account).length) (ar := 2) (b := b_is_account (Cn n)) (ds := [x0, x1]) rfl
theorem run_need_account (n : Nat) (x0 x1 x2 : D) (S : Sto) : Cn (n + 1) 13 [x0, x1, x2] S = endB S (b_need_account (Cn n) [some x0, some x1, some x2] S) :=
  callB_eq (n := (n_need_account).length) (ar := 3) (b := b_need_account (Cn n)) (ds := [x0, x1, x2]) rfl
theorem run_vouched_by (n : Nat) (x0 x1 : D) (S : Sto) : Cn (n + 1) 14 [x0, x1] S = endB S (b_vouched_by (Cn n) [some x0, some x1, none, none] S) :=
  callB_eq (n := (n_vouched_by).length) (ar := 2) (b := b_vouched_by (Cn n)) (ds := [x0, x1]) rfl
theorem run_vouches_for (n : Nat) (x0 x1 : D) (S : Sto) : Cn (n + 1) 15 [x0, x1] S = endB S (b_vouches_for (Cn n) [some x0, some x1, none, none] S) :=
  callB_eq (n := (n_vouches_for).length) (ar := 2) (b := b_vouches_for (Cn n)) (ds := [x0, x1]) rfl
theorem run_reached_of (n : Nat) (x0 : D) (S : Sto) : Cn (n + 1) 16 [x0] S = endB S (b_reached_of (Cn n) [some x0, none, none] S) :=
  callB_eq (n := (n_reached_of).length) (ar := 1) (b := b_reached_of (Cn n)) (ds := [x0]) rfl
theorem run_follow (n : Nat) (x0 x1 x2 : D) (S : Sto) : Cn (n + 1) 17 [x0, x1, x2] S = endB S (b_follow (Cn n) [some x0, some x1, some x2, none, none, none, none, none] S) :=
  callB_eq (n := (n_follow).length) (ar := 3) (b := b_follow (Cn n)) (ds := [x0, x1, x2]) rfl
theorem run_reached (n : Nat) (x0 : D) (S : Sto) : Cn (n + 1) 18 [x0] S = endB S (b_reached (Cn n) [some x0] S) :=
  callB_eq (n := (n_reached).length) (ar := 1) (b := b_reached (Cn n)) (ds := [x0]) rfl
theorem run_distances_to (n : Nat) (x0 x1 : D) (S : Sto) : Cn (n + 1) 19 [x0, x1] S = endB S (b_distances_to (Cn n) [some x0, some x1, none, none, none, none, none, none, none] S) :=
  callB_eq (n := (n_distances_to).length) (ar := 2) (b := b_distances_to (Cn n)) (ds := [x0, x1]) rfl
theorem run_way_to (n : Nat) (x0 x1 : D) (S : Sto) : Cn (n + 1) 20 [x0, x1] S = endB S (b_way_to (Cn n) [some x0, some x1, none, none, none, none, none, none, none, none, none] S) :=
  callB_eq (n := (n_way_to).length) (ar := 2) (b := b_way_to (Cn n)) (ds := [x0, x1]) rfl
theorem run__law_power (n : Nat) (x0 x1 : D) (S : Sto) : Cn (n + 1) 21 [x0, x1] S = endB S (b__law_power (Cn n) [some x0, some x1, none, none] S) :=
  callB_eq (n := (n__law_power).length) (ar := 2) (b := b__law_power (Cn n)) (ds := [x0, x1]) rfl
theorem run__law_cell (n : Nat) (x0 x1 : D) (S : Sto) : Cn (n + 1) 22 [x0, x1] S = endB S (b__law_cell (Cn n) [some x0, some x1] S) :=
  callB_eq (n := (n__law_cell).length) (ar := 2) (b := b__law_cell (Cn n)) (ds := [x0, x1]) rfl
theorem run__law_numbers (n : Nat) (x0 x1 x2 : D) (S : Sto) : Cn (n + 1) 23 [x0, x1, x2] S = endB S (b__law_numbers (Cn n) [some x0, some x1, some x2, none, none, none, none, none] S) :=
  callB_eq (n := (n__law_numbers).length) (ar := 3) (b := b__law_numbers (Cn n)) (ds := [x0, x1, x2]) rfl
theorem run__law_same (n : Nat) (x0 x1 : D) (S : Sto) : Cn (n + 1) 24 [x0, x1] S = endB S (b__law_same (Cn n) [some x0, some x1, none] S) :=
  callB_eq (n := (n__law_same).length) (ar := 2) (b := b__law_same (Cn n)) (ds := [x0, x1]) rfl
theorem run__law_listed (n : Nat) (x0 : D) (S : Sto) : Cn (n + 1) 25 [x0] S = endB S (b__law_listed (Cn n) [some x0, none] S) :=
  callB_eq (n := (n__law_listed).length) (ar := 1) (b := b__law_listed (Cn n)) (ds := [x0]) rfl
theorem run__law_size (n : Nat) (x0 : D) (S : Sto) : Cn (n + 1) 26 [x0] S = endB S (b__law_size (Cn n) [some x0] S) :=
  callB_eq (n := (n__law_size).length) (ar := 1) (b := b__law_size (Cn n)) (ds := [x0]) rfl
theorem run__law_web (n : Nat) (x0 : D) (S : Sto) : Cn (n + 1) 27 [x0] S = endB S (b__law_web (Cn n) [some x0, none, none, none, none, none, none, none, none, none, none, none] S) :=
  callB_eq (n := (n__law_web).length) (ar := 1) (b := b__law_web (Cn n)) (ds := [x0]) rfl
theorem run__law_far (n : Nat) (x0 : D) (S : Sto) : Cn (n + 1) 28 [x0] S = endB S (b__law_far (Cn n) [some x0, none, none, none, none, none, none] S) :=
  callB_eq (n := (n__law_far).length) (ar := 1) (b := b__law_far (Cn n)) (ds := [x0]) rfl
theorem run__law_back (n : Nat) (x0 x1 : D) (S : Sto) : Cn (n + 1) 29 [x0, x1] S = endB S (b__law_back (Cn n) [some x0, some x1, none, none, none, none, none] S) :=
  callB_eq (n := (n__law_back).length) (ar := 2) (b := b__law_back (Cn n)) (ds := [x0, x1]) rfl
theorem run__law_way (n : Nat) (x0 x1 : D) (S : Sto) : Cn (n + 1) 30 [x0, x1] S = endB S (b__law_way (Cn n) [some x0, some x1, none, none, none, none, none, none, none, none, none, none, none] S) :=
  callB_eq (n := (n__law_way).length) (ar := 2) (b := b__law_way (Cn n)) (ds := [x0, x1]) rfl
theorem run_law (n : Nat) (x0 : D) (S : Sto) : Cn (n + 1) 31 [x0] S = endB S (b_law (Cn n) [some x0, none, none, none, none, none, none, none] S) :=
  callB_eq (n := (n_law).length) (ar := 1) (b := b_law (Cn n)) (ds := [x0]) rfl
end K03

namespace Py
open PySem PySem.Spec PyProof.Rows L2 Cor
@[irreducible] def f__law_back (web_0 : ((List Int) × (List Int) × (List (Int × Int × Int)))) (account_0 : Int) : M ((List (Option Int))) :=
  (repM ([(none : Option Int)]) (web_0.1.length : Int)).bind fun r_0 => M.lt r_0 fun far_0 => (setM far_0 account_0 (some (0 : Int))).bind fun ys_0 => (rngM1 (web_0.1.length : Int)).bind fun rg_0 => (foldM (fun x_0 s_0 => (foldM (fun x_1 s_1 => (atM s_1 x_1.2.1).bind fun g_0 => (if (!g_0.isNone) = true then ((atM s_1 x_1.2.1).bind fun g_1 => (if (decide (g_1 = (some x_0))) = true then ((atM s_1 x_1.1).bind fun g_2 => .ok g_2.isNone) else .ok false).bind fun b_0 => .ok b_0) else .ok false).bind fun b_1 => (if b_1 = true then ((setM s_1 x_1.1 (some (x_0 + (1 : Int)))).bind fun ys_1 => .ok ys_1) else .ok s_1).bind fun s_2 => .ok s_2) web_0.2.2 s_0).bind fun s_3 => .ok s_3) rg_0 ys_0).bind fun s_4 => .ok s_4
@[irreducible] def f__law_cell (script_0 : (List Int)) (place_0 : Int) : M (Int) :=
  if (decide (place_0 < (script_0.length : Int))) = true then ((atM script_0 place_0).bind fun g_0 => .ok g_0) else .ok (0 : Int)
@[irreducible] def f__law_far (web_0 : ((List Int) × (List Int) × (List (Int × Int × Int)))) : M ((List (Option Int))) :=
  (repM ([(none : Option Int)]) (web_0.1.length : Int)).bind fun r_0 => M.lt r_0 fun far_0 => (foldM (fun x_0 s_0 => (setM s_0 x_0 (some (0 : Int))).bind fun ys_0 => .ok ys_0) web_0.2.1 far_0).bind fun s_1 => (rngM1 (web_0.1.length : Int)).bind fun rg_0 => (foldM (fun x_1 s_2 => (foldM (fun x_2 s_3 => (atM s_3 x_2.1).bind fun g_0 => (if (!g_0.isNone) = true then ((atM s_3 x_2.1).bind fun g_1 => (if (decide (g_1 = (some x_1))) = true then ((atM s_3 x_2.2.1).bind fun g_2 => .ok g_2.isNone) else .ok false).bind fun b_0 => .ok b_0) else .ok false).bind fun b_1 => (if b_1 = true then ((setM s_3 x_2.2.1 (some (x_1 + (1 : Int)))).bind fun ys_1 => .ok ys_1) else .ok s_3).bind fun s_4 => .ok s_4) web_0.2.2 s_2).bind fun s_5 => .ok s_5) rg_0 s_1).bind fun s_6 => .ok s_6
def f__law_listed : Nat → Val → M (Val)
  | 0, _ => .no
  | fu + 1, value_0 => if ([Ty.tuple].any (isK (Val.kd value_0))) = true then ((itemsV value_0).bind fun it_0 => ((sizeM it_0.length).bind fun _ => mapM' (fun x_0 => (f__law_listed fu x_0).bind fun v_0 => .ok v_0) it_0).bind fun l_0 => .ok ((vL vV) l_0)) else .ok value_0
@[irreducible] def f__law_numbers (script_0 : (List Int)) (place_0 : Int) (many_0 : Int) : M ((List Int)) :=
  (f__law_cell script_0 place_0).bind fun v_0 => M.lt ([] : List Int) fun numbers_0 => (rngM1 many_0).bind fun rg_0 => (foldM (fun x_0 s_0 => (if (decide ((1000000000000000000 : Int) ≤ v_0)) = true then ((appM s_0.1 (s_0.2 % (1000000000 : Int))).bind fun ys_0 => M.lt (s_0.2 / (1000000000 : Int)) fun rest_0 => .ok (ys_0, rest_0)) else (mulM v_0 (48271 : Int)).bind fun n_0 => (mulM (x_0 + (1 : Int)) (69621 : Int)).bind fun n_1 => M.lt (((n_0 + n_1) + place_0) % (2147483647 : Int)) fun twice_0 => (mulM twice_0 (16807 : Int)).bind fun n_2 => (mulM (x_0 + (3 : Int)) (40692 : Int)).bind fun n_3 => (appM s_0.1 (((n_2 + n_3) % (2147483399 : Int)) % (1000000000 : Int))).bind fun ys_1 => .ok (ys_1, s_0.2)).bind fun s_1 => .ok (s_1.1, s_1.2)) rg_0 (numbers_0, v_0)).bind fun s_2 => .ok s_2.1
@[irreducible] def f__law_power (base_0 : Int) (many_0 : Int) : M (Int) :=
  M.lt (1 : Int) fun result_0 => (rngM1 many_0).bind fun rg_0 => (foldM (fun x_0 s_0 => (mulM s_0 base_0).bind fun n_0 => .ok n_0) rg_0 result_0).bind fun s_1 => .ok s_1
def f__law_same : Nat → Val → Val → M (Bool)
  | 0, _, _ => .no
  | fu + 1, one_0, other_0 => if (([Ty.tuple].any (isK (Val.kd other_0))) || ([Ty.tuple].any (isK (Val.kd one_0)))) = true then ((if (!([Ty.tuple].any (isK (Val.kd one_0)))) = true then .ok true else (if (!([Ty.tuple].any (isK (Val.kd other_0)))) = true then .ok true else (lenV one_0).bind fun n_0 => (lenV other_0).bind fun n_1 => .ok (!decide (n_0 = n_1))).bind fun b_0 => .ok b_0).bind fun b_1 => if b_1 = true then (.ok false) else (lenV other_0).bind fun n_2 => (rngM1 n_2).bind fun rg_0 => (forM (fun x_0 s_0 => (idxV one_0 x_0).bind fun g_0 => (idxV other_0 x_0).bind fun g_1 => (f__law_same fu g_0 g_1).bind fun v_0 => if (!v_0) = true then (.ok (.rt false)) else .ok (.nx ())) rg_0 ()).fin (fun s_1 => .ok true) (fun w_0 => .ok w_0)) else if ((Val.isNone one_0) || (Val.isNone other_0)) = true then (.ok ((Val.isNone one_0) && (Val.isNone other_0))) else if ((!decide (([Ty.bool].any (isK (Val.kd one_0))) = ([Ty.bool].any (isK (Val.kd other_0))))) || (!decide (([Ty.str].any (isK (Val.kd one_0))) = ([Ty.str].any (isK (Val.kd other_0)))))) = true then (.ok false) else (if ([Ty.int, Ty.str].any (isK (Val.kd one_0))) = true then ((if ([Ty.int, Ty.str].any (isK (Val.kd other_0))) = true then ((eqVM one_0 other_0).bind fun q_0 => .ok q_0) else .ok false).bind fun b_2 => .ok b_2) else .ok false).bind fun b_3 => .ok b_3
@[irreducible] def f__law_size (number_0 : Int) : M (Int) :=
  if (decide ((number_0 % (4 : Int)) = (0 : Int))) = true then (.ok ((1 : Int) + ((number_0 / (4 : Int)) % (1000 : Int)))) else .ok ((1 : Int) + ((number_0 / (4 : Int)) % (9 : Int)))
@[irreducible] def f__law_way (web_0 : ((List Int) × (List Int) × (List (Int × Int × Int)))) (account_0 : Int) : M ((Option (List Int))) :=
  (f__law_far web_0).bind fun v_0 => (atM v_0 account_0).bind fun g_0 => if g_0.isNone = true then (.ok (none : Option (List Int))) else (f__law_back web_0 account_0).bind fun v_1 => (atM v_0 account_0).bind fun g_1 => ((sizeM web_0.2.1.length).bind fun _ => compM (fun x_0 => (atM v_1 x_0).bind fun g_2 => (if (!g_2.isNone) = true then ((atM v_1 x_0).bind fun g_3 => .ok (decide (g_3 = g_1))) else .ok false).bind fun b_0 => .ok b_0) (fun x_0 => .ok x_0) web_0.2.1).bind fun l_0 => (leastM ltI l_0).bind fun n_0 => M.lt ([n_0]) fun way_0 => (unO g_1).bind fun u_0 => (rngM1 u_0).bind fun rg_0 => (foldM (fun x_1 s_0 => (unO g_1).bind fun u_1 => M.lt ((u_1 - x_1) - (1 : Int)) fun left_0 => ((sizeM web_0.2.2.length).bind fun _ => compM (fun x_2 => (if (decide (x_2.1 = s_0.1)) = true then ((atM v_1 x_2.2.1).bind fun g_4 => (if (!g_4.isNone) = true then ((atM v_1 x_2.2.1).bind fun g_5 => .ok (decide (g_5 = (some left_0)))) else .ok false).bind fun b_1 => .ok b_1) else .ok false).bind fun b_2 => .ok b_2) (fun x_2 => .ok x_2.2.1) web_0.2.2).bind fun l_1 => (leastM ltI l_1).bind fun n_1 => (appM s_0.2 n_1).bind fun ys_0 => .ok (n_1, ys_0)) rg_0 (n_0, way_0)).bind fun s_1 => .ok (some s_1.2)
@[irreducible] def f__law_web (numbers_0 : (List Int)) : M ((List Int) × (List Int) × (List (Int × Int × Int))) :=
  (atM numbers_0 (0 : Int)).bind fun g_0 => M.lt ((1 : Int) + (g_0 % (6 : Int))) fun many_0 => (rngM1 many_0).bind fun rg_0 => ((sizeM rg_0.length).bind fun _ => mapM' (fun x_0 => (atM numbers_0 ((1 : Int) + x_0)).bind fun g_1 => (f__law_size g_1).bind fun v_0 => .ok v_0) rg_0).bind fun l_0 => (rngM1 many_0).bind fun rg_1 => ((sizeM rg_1.length).bind fun _ => compM (fun x_1 => (atM numbers_0 (0 : Int)).bind fun g_2 => (f__law_power (2 : Int) x_1).bind fun v_1 => (mulM (6 : Int) v_1).bind fun n_0 => (fdivM g_2 n_0).bind fun n_1 => .ok (decide ((n_1 % (2 : Int)) = (1 : Int)))) (fun x_1 => .ok x_1) rg_1).bind fun l_1 => M.lt (cutT l_1 none (some (3 : Int))) fun founders_0 => (if (decide (founders_0 = ([] : List Int))) = true then ((atM numbers_0 (0 : Int)).bind fun g_3 => (modM (g_3 / (400 : Int)) many_0).bind fun n_2 => M.lt ([n_2]) fun founders_1 => .ok founders_1) else .ok founders_0).bind fun s_0 => (if (decide ((1 : Int) < many_0)) = true then ((atM numbers_0 (7 : Int)).bind fun g_4 => (rngM1 (g_4 % (12 : Int))).bind fun rg_2 => (foldM (fun x_2 s_1 => (atM numbers_0 ((8 : Int) + x_2)).bind fun g_5 => (modM g_5 many_0).bind fun n_3 => (modM (g_5 / (6 : Int)) (many_0 - (1 : Int))).bind fun n_4 => (modM ((n_3 + (1 : Int)) + n_4) many_0).bind fun n_5 => (f__law_size (g_5 / (36 : Int))).bind fun v_2 => (dputM s_1 (n_3, n_5) v_2).bind fun ys_0 => .ok ys_0) rg_2 ([] : List ((Int × Int) × Int))).bind fun s_2 => .ok s_2) else .ok ([] : List ((Int × Int) × Int))).bind fun s_3 => ((sizeM s_3.length).bind fun _ => .ok (sortT (lt2 ltI ltI) (dkeys s_3))).bind fun r_0 => ((sizeM r_0.length).bind fun _ => mapM' (fun x_3 => (dgetM s_3 x_3).bind fun g_6 => .ok (x_3.1, x_3.2, g_6)) r_0).bind fun l_2 => .ok (l_0, s_0, l_2)
@[irreducible] def f_distances_to (web_0 : ((List Int) × (List Int) × (List (Int × Int × Int)))) (account_0 : Int) : M ((List (Option Int))) :=
  ((sizeM web_0.1.length).bind fun _ => .ok (web_0.1.map fun x_0 => (none : Option Int))).bind fun l_0 => M.lt l_0 fun far_0 => (setM far_0 account_0 (some (0 : Int))).bind fun ys_0 => M.lt ([account_0]) fun layer_0 => M.lt (0 : Int) fun steps_0 => (loopM (fun s_0 => .ok (!s_0.2.1.isEmpty)) (fun s_1 => M.lt (s_1.2.2 + (1 : Int)) fun steps_1 => M.lt ([] : List Int) fun behind_0 => (foldM (fun x_1 s_2 => (if (decide (x_1.2.1 ∈ s_1.2.1)) = true then ((atM s_2.1 x_1.1).bind fun g_0 => .ok g_0.isNone) else .ok false).bind fun b_0 => (if b_0 = true then ((setM s_2.1 x_1.1 (some steps_1)).bind fun ys_1 => (appM s_2.2 x_1.1).bind fun ys_2 => .ok (ys_1, ys_2)) else .ok (s_2.1, s_2.2)).bind fun s_3 => .ok (s_3.1, s_3.2)) web_0.2.2 (s_1.1, behind_0)).bind fun s_4 => .ok (s_4.1, s_4.2, steps_1)) whileN (ys_0, layer_0, steps_0)).bind fun s_5 => .ok s_5.1
@[irreducible] def f_follow (web_0 : ((List Int) × (List Int) × (List (Int × Int × Int)))) (account_0 : Int) (found_0 : (List Int)) : M (Unit × (List Int)) :=
  M.lt ([account_0]) fun waiting_0 => (loopM (fun s_0 => .ok (!s_0.2.isEmpty)) (fun s_1 => (popM s_1.2).bind fun q_0 => (foldM (fun x_1 s_2 => (if ((decide (x_1.1 = q_0.1)) && (!decide (x_1.2.1 ∈ s_2.1))) = true then ((appM s_2.1 x_1.2.1).bind fun ys_1 => (appM s_2.2 x_1.2.1).bind fun ys_2 => .ok (ys_1, ys_2)) else .ok (s_2.1, s_2.2)).bind fun s_3 => .ok (s_3.1, s_3.2)) web_0.2.2 (s_1.1, q_0.2)).bind fun s_4 => .ok (s_4.1, s_4.2)) whileN (found_0, waiting_0)).bind fun s_5 => .ok ((), s_5.1)
@[irreducible] def f_is_sequence (value_0 : Val) : M (Bool) :=
  .ok ([Ty.tuple, Ty.list].any (isK (Val.kd value_0)))
def f_frozen : Nat → Val → M (Val)
  | 0, _ => .no
  | fu + 1, value_0 => (f_is_sequence value_0).bind fun v_0 => if v_0 = true then ((itemsV value_0).bind fun it_0 => ((sizeM it_0.length).bind fun _ => mapM' (fun x_0 => (f_frozen fu x_0).bind fun v_1 => .ok v_1) it_0).bind fun l_0 => .ok ((vT vV) l_0)) else .ok value_0
@[irreducible] def f_is_int (value_0 : Val) : M (Bool) :=
  .ok (([Ty.int].any (isK (Val.kd value_0))) && (!([Ty.bool].any (isK (Val.kd value_0)))))
@[irreducible] def f_is_between (value_0 : Val) (low_0 : Int) (high_0 : Int) : M (Bool) :=
  (f_is_int value_0).bind fun v_0 => (if v_0 = true then ((asM asI value_0).bind fun c_0 => .ok ((decide (low_0 ≤ c_0)) && (decide (c_0 ≤ high_0)))) else .ok false).bind fun b_0 => .ok b_0
@[irreducible] def f_is_account (web_0 : ((List Int) × (List Int) × (List (Int × Int × Int)))) (value_0 : Val) : M (Bool) :=
  (f_is_between value_0 (0 : Int) ((web_0.1.length : Int) - (1 : Int))).bind fun v_0 => .ok v_0
@[irreducible] def f_is_ascending (values_0 : Val) : M (Bool) :=
  (lenV values_0).bind fun n_0 => (rngM1 (n_0 - (1 : Int))).bind fun rg_0 => (all0M true (fun x_0 => (idxV values_0 x_0).bind fun g_0 => (idxV values_0 (x_0 + (1 : Int))).bind fun g_1 => (ltVM g_0 g_1).bind fun q_0 => .ok q_0) rg_0).bind fun a_0 => .ok a_0
@[irreducible] def f_is_number_set (value_0 : Val) (low_0 : Int) (high_0 : Int) : M (Bool) :=
  (f_is_sequence value_0).bind fun v_0 => (if (!v_0) = true then .ok true else (itemsV value_0).bind fun it_0 => (all0M true (fun x_0 => (f_is_between x_0 low_0 high_0).bind fun v_1 => .ok v_1) it_0).bind fun a_0 => .ok (!a_0)).bind fun b_0 => if b_0 = true then (.ok false) else (f_is_ascending value_0).bind fun v_2 => .ok v_2
@[irreducible] def f_is_row (value_0 : Val) (many_0 : Int) : M (Bool) :=
  (f_is_sequence value_0).bind fun v_0 => (if v_0 = true then ((lenV value_0).bind fun n_0 => .ok (decide (n_0 = many_0))) else .ok false).bind fun b_0 => .ok b_0
@[irreducible] def f_is_size (value_0 : Val) : M (Bool) :=
  (f_is_between value_0 (1 : Int) (1000 : Int)).bind fun v_0 => .ok v_0
@[irreducible] def f_is_vouchings (value_0 : Val) (many_0 : Int) : M (Bool) :=
  (f_is_sequence value_0).bind fun v_0 => (if (!v_0) = true then .ok true else (lenV value_0).bind fun n_0 => .ok (decide ((60 : Int) < n_0))).bind fun b_0 => if b_0 = true then (.ok false) else (itemsV value_0).bind fun it_0 => (forM (fun x_0 s_0 => (f_is_row x_0 (3 : Int)).bind fun v_1 => (if (!v_1) = true then .ok true else (idxV x_0 (0 : Int)).bind fun g_0 => (f_is_between g_0 (0 : Int) (many_0 - (1 : Int))).bind fun v_2 => (if (!v_2) = true then .ok true else (idxV x_0 (1 : Int)).bind fun g_1 => (f_is_between g_1 (0 : Int) (many_0 - (1 : Int))).bind fun v_3 => .ok (!v_3)).bind fun b_1 => .ok b_1).bind fun b_2 => if b_2 = true then (.ok (.rt false)) else (idxV x_0 (0 : Int)).bind fun g_2 => (idxV x_0 (1 : Int)).bind fun g_3 => (eqVM g_2 g_3).bind fun q_0 => (if q_0 = true then .ok true else (idxV x_0 (2 : Int)).bind fun g_4 => (f_is_size g_4).bind fun v_4 => .ok (!v_4)).bind fun b_3 => if b_3 = true then (.ok (.rt false)) else .ok (.nx ())) it_0 ()).fin (fun s_1 => (itemsV value_0).bind fun it_1 => ((sizeM it_1.length).bind fun _ => mapM' (fun x_1 => (idxV x_1 (0 : Int)).bind fun g_5 => (idxV x_1 (1 : Int)).bind fun g_6 => .ok (g_5, g_6)) it_1).bind fun l_0 => (f_is_ascending ((vL (v2 vV vV)) l_0)).bind fun v_5 => .ok v_5) (fun w_0 => .ok w_0)
@[irreducible] def f_is_web (value_0 : Val) : M (Bool) :=
  (f_is_row value_0 (3 : Int)).bind fun v_0 => if (!v_0) = true then (.ok false) else (un3 (vals value_0)).bind fun p_0 => (f_is_sequence p_0.1).bind fun v_1 => (if (!v_1) = true then .ok true else (lenV p_0.1).bind fun n_0 => .ok (!((decide ((1 : Int) ≤ n_0)) && (decide (n_0 ≤ (14 : Int)))))).bind fun b_0 => if b_0 = true then (.ok false) else (itemsV p_0.1).bind fun it_0 => (all0M true (fun x_0 => (f_is_size x_0).bind fun v_2 => .ok v_2) it_0).bind fun a_0 => if (!a_0) = true then (.ok false) else (lenV p_0.1).bind fun n_1 => (f_is_number_set p_0.2.1 (0 : Int) (n_1 - (1 : Int))).bind fun v_3 => (if (!v_3) = true then .ok true else (lenV p_0.2.1).bind fun n_2 => .ok (!((decide ((1 : Int) ≤ n_2)) && (decide (n_2 ≤ (3 : Int)))))).bind fun b_1 => if b_1 = true then (.ok false) else (f_is_vouchings p_0.2.2 n_1).bind fun v_4 => .ok v_4
@[irreducible] def f_need (test_0 : Bool) (at0_0 : Int) : M (Unit) :=
  if (!test_0) = true then .no else .ok ()
@[irreducible] def f_need_web (value_0 : Val) (at0_0 : Int) : M ((List Int) × (List Int) × (List (Int × Int × Int))) :=
  (f_is_web value_0).bind fun v_0 => (f_need v_0 at0_0).bind fun v_1 => (f_frozen 12 value_0).bind fun v_2 => (asM (as3 (asT asI) (asT asI) (asT (as3 asI asI asI))) v_2).bind fun c_0 => .ok c_0
@[irreducible] def f_reached_of (web_0 : ((List Int) × (List Int) × (List (Int × Int × Int)))) : M ((List Int)) :=
  M.lt web_0.2.1 fun found_0 => (foldM (fun x_0 s_0 => (f_follow web_0 x_0 s_0).bind fun q_0 => .ok q_0.2) (cutT found_0 none none) found_0).bind fun s_1 => .ok (sortT ltI s_1)
@[irreducible] def f_reached (web_0 : Val) : M ((List Int)) :=
  (f_need_web web_0 (1 : Int)).bind fun v_0 => (f_reached_of v_0).bind fun v_1 => .ok v_1
@[irreducible] def f_need_account (web_0 : ((List Int) × (List Int) × (List (Int × Int × Int)))) (value_0 : Val) (at0_0 : Int) : M (Int) :=
  (f_is_account web_0 value_0).bind fun v_0 => (f_need v_0 at0_0).bind fun v_1 => (asM asI value_0).bind fun c_0 => .ok c_0
@[irreducible] def f_vouched_by (web_0 : Val) (account_0 : Val) : M ((List Int)) :=
  (f_need_web web_0 (1 : Int)).bind fun v_0 => (f_need_account v_0 account_0 (2 : Int)).bind fun v_1 => ((sizeM (enumI 0 v_0.2.2).length).bind fun _ => compM (fun x_0 => (eqVM (Val.int x_0.2.2.1) account_0).bind fun q_0 => .ok q_0) (fun x_0 => .ok x_0.1) (enumI 0 v_0.2.2)).bind fun l_0 => .ok l_0
@[irreducible] def f_vouches_for (web_0 : Val) (account_0 : Val) : M ((List Int)) :=
  (f_need_web web_0 (1 : Int)).bind fun v_0 => (f_need_account v_0 account_0 (2 : Int)).bind fun v_1 => ((sizeM (enumI 0 v_0.2.2).length).bind fun _ => compM (fun x_0 => (eqVM (Val.int x_0.2.1) account_0).bind fun q_0 => .ok q_0) (fun x_0 => .ok x_0.1) (enumI 0 v_0.2.2)).bind fun l_0 => .ok l_0
@[irreducible] def f_way_to (web_0 : Val) (account_0 : Val) : M ((Option (List Int))) :=
  (f_need_web web_0 (1 : Int)).bind fun v_0 => (f_need_account v_0 account_0 (2 : Int)).bind fun v_1 => (asM asI account_0).bind fun c_0 => (f_distances_to v_0 c_0).bind fun v_2 => ((sizeM v_0.2.1.length).bind fun _ => compM (fun x_0 => (atM v_2 x_0).bind fun g_0 => .ok (!g_0.isNone)) (fun x_0 => (atM v_2 x_0).bind fun g_1 => (unO g_1).bind fun u_0 => .ok (u_0, x_0)) v_0.2.1).bind fun l_0 => if (!(!l_0.isEmpty)) = true then (.ok (none : Option (List Int))) else (leastM (lt2 ltI ltI) l_0).bind fun n_0 => M.lt ([n_0.2]) fun way_0 => (loopM (fun s_0 => .ok (decide ((0 : Int) < s_0.2.1))) (fun s_1 => M.lt (s_1.2.1 - (1 : Int)) fun left_0 => ((sizeM v_0.2.2.length).bind fun _ => compM (fun x_1 => (if (decide (x_1.1 = s_1.2.2)) = true then ((atM v_2 x_1.2.1).bind fun g_2 => .ok (decide (g_2 = (some left_0)))) else .ok false).bind fun b_0 => .ok b_0) (fun x_1 => .ok x_1.2.1) v_0.2.2).bind fun l_1 => (leastM ltI l_1).bind fun n_1 => (appM s_1.1 n_1).bind fun ys_0 => .ok (ys_0, left_0, n_1)) whileN (way_0, n_0.1, n_0.2)).bind fun s_2 => .ok (some s_2.1)
@[irreducible] def f_law (script_0 : (List Int)) : M (Bool) :=
  (f__law_numbers script_0 (0 : Int) (20 : Int)).bind fun v_0 => (f__law_web v_0).bind fun v_1 => (f__law_far v_1).bind fun v_2 => (rngM1 (v_1.1.length : Int)).bind fun rg_0 => ((sizeM rg_0.length).bind fun _ => compM (fun x_0 => (atM v_2 x_0).bind fun g_0 => .ok (!g_0.isNone)) (fun x_0 => .ok x_0) rg_0).bind fun l_0 => (f_reached ((v3 (vT Val.int) (vT Val.int) (vT (v3 Val.int Val.int Val.int))) v_1)).bind fun v_3 => (f__law_same 12 ((vT Val.int) v_3) ((vT Val.int) l_0)).bind fun v_4 => (if (!v_4) = true then .ok true else (f__law_listed 12 ((v3 (vT Val.int) (vT Val.int) (vT (v3 Val.int Val.int Val.int))) v_1)).bind fun v_5 => (f_reached v_5).bind fun v_6 => (f__law_same 12 ((vT Val.int) v_6) ((vT Val.int) l_0)).bind fun v_7 => .ok (!v_7)).bind fun b_0 => if b_0 = true then (.ok false) else (rngM1 (v_1.1.length : Int)).bind fun rg_1 => (forM (fun x_1 s_0 => (rngM1 (v_1.2.2.length : Int)).bind fun rg_2 => ((sizeM rg_2.length).bind fun _ => compM (fun x_2 => (atM v_1.2.2 x_2).bind fun g_1 => .ok (decide (g_1.2.1 = x_1))) (fun x_2 => .ok x_2) rg_2).bind fun l_1 => (rngM1 (v_1.2.2.length : Int)).bind fun rg_3 => ((sizeM rg_3.length).bind fun _ => compM (fun x_3 => (atM v_1.2.2 x_3).bind fun g_2 => .ok (decide (g_2.1 = x_1))) (fun x_3 => .ok x_3) rg_3).bind fun l_2 => (f_vouched_by ((v3 (vT Val.int) (vT Val.int) (vT (v3 Val.int Val.int Val.int))) v_1) (Val.int x_1)).bind fun v_8 => (f__law_same 12 ((vT Val.int) v_8) ((vT Val.int) l_1)).bind fun v_9 => (if (!v_9) = true then .ok true else (f_vouches_for ((v3 (vT Val.int) (vT Val.int) (vT (v3 Val.int Val.int Val.int))) v_1) (Val.int x_1)).bind fun v_10 => (f__law_same 12 ((vT Val.int) v_10) ((vT Val.int) l_2)).bind fun v_11 => .ok (!v_11)).bind fun b_1 => if b_1 = true then (.ok (.rt false)) else (f_way_to ((v3 (vT Val.int) (vT Val.int) (vT (v3 Val.int Val.int Val.int))) v_1) (Val.int x_1)).bind fun v_12 => (f__law_way v_1 x_1).bind fun v_13 => (f__law_same 12 ((vO (vT Val.int)) v_12) ((vO (vT Val.int)) v_13)).bind fun v_14 => if (!v_14) = true then (.ok (.rt false)) else .ok (.nx ())) rg_1 ()).fin (fun s_1 => (f_reached ((v3 (vT Val.int) (vT Val.int) (vT (v3 Val.int Val.int Val.int))) v_1)).bind fun v_15 => (f__law_same 12 ((vT Val.int) v_15) ((vT Val.int) l_0)).bind fun v_16 => .ok v_16) (fun w_0 => .ok w_0)
end Py

namespace K03
open PySem PySem.Spec PyProof.Rows L2 Cor Py
theorem t__law_back (m : Nat) (hm : 1 ≤ m) (S0 : Sto) (web_0 : ((List Int) × (List Int) × (List (Int × Int × Int)))) (account_0 : Int)  :
    RE (Cn m 29 [((v3 (vT Val.int) (vT Val.int) (vT (v3 Val.int Val.int Val.int))) web_0).d, (Val.int account_0).d] S0) S0 (f__law_back web_0 account_0) (vL (vO Val.int)) := by
  cases m with
  | zero => exact absurd hm (by omega)
  | succ m =>
  have h0 : Fr S0 [] 7 [some ((v3 (vT Val.int) (vT Val.int) (vT (v3 Val.int Val.int Val.int))) web_0).d, some (Val.int account_0).d, none, none, none, none, none] S0 [(0, some ((v3 (vT Val.int) (vT Val.int) (vT (v3 Val.int Val.int Val.int))) web_0).d), (1, some (Val.int account_0).d)] [] := Fr.begin rfl (.cons (i := 0) rfl (.cons (i := 1) rfl (.start rfl)))
  have hr := (run__law_back m (((v3 (vT Val.int) (vT Val.int) (vT (v3 Val.int Val.int Val.int))) web_0).d) ((Val.int account_0).d) S0)
  rw [hr]
  refine fn_of2 ?_
  unfold b__law_back f__law_back
  exact (slast (sseq (sbind h0 (m_rep (e := (vO Val.int)) (p_frzL (p_lst (p_cons rfl p_nil) rfl)) (p_blt (p_cons (p_bin (h0.at (i := 0) rfl) rfl (f_at (ds := [((vT Val.int) web_0.1).d, ((vT Val.int) web_0.2.1).d, ((vT (v3 Val.int Val.int Val.int)) web_0.2.2).d]) 0 rfl)) p_nil) f_lenT)) (fun ex he => (asg_er (cel_e he))) (fun r_0 h_r_0 => (slet (P := fun (far_0 : (List (Option Int))) => _ = R.ok (dL (vO Val.int) far_0) _) r_0 h_r_0 (fun far_0 h_far_0 => (scelk h_far_0 h0 (i := 2) (fun k0_0 _ h1 => have h2 := Fr.set (i := 2) (d := rf k0_0) h1 rfl; (sseq (sput (e := (vO Val.int)) h2 (p := 0) rfl rfl (h2.at (i := 2) rfl) (h2.at (i := 1) rfl) (fun ys_0 h3 => (sseq (sbind h3 (m_rng1 (p_blt (p_cons (p_bin (h3.at (i := 0) rfl) rfl (f_at (ds := [((vT Val.int) web_0.1).d, ((vT Val.int) web_0.2.1).d, ((vT (v3 Val.int Val.int Val.int)) web_0.2.2).d]) 0 rfl)) p_nil) f_lenT)) (fun ex he => (for_er he)) (fun rg_0 h_rg_0 => (sfor h_rg_0 (snext (lfold Val.int (fun (s : (List (Option Int))) env S => Fr S0 [] 7 env S [(0, some ((v3 (vT Val.int) (vT Val.int) (vT (v3 Val.int Val.int Val.int))) web_0).d), (1, some (Val.int account_0).d), (2, some (rf k0_0))] [(k0_0, .lst (dL (vO Val.int) s))]) (fun _ _ _ _ => gnone) (fun x_0 s_0 env S h4 => ⟨_, rfl, have h5 := (Fr.set (i := 3) (d := (Val.int x_0).d) h4 rfl); (sfor (p_valI (p_bin (h5.at (i := 0) rfl) rfl (f_at (ds := [((vT Val.int) web_0.1).d, ((vT Val.int) web_0.2.1).d, ((vT (v3 Val.int Val.int Val.int)) web_0.2.2).d]) 2 rfl)) f_itT) (snext (lfold (v3 Val.int Val.int Val.int) (fun (s : (List (Option Int))) env S => Fr S0 [] 7 env S [(0, some ((v3 (vT Val.int) (vT Val.int) (vT (v3 Val.int Val.int Val.int))) web_0).d), (1, some (Val.int account_0).d), (2, some (rf k0_0)), (3, some (Val.int x_0).d)] [(k0_0, .lst (dL (vO Val.int) s))]) (fun _ _ _ _ => gnone) (fun x_1 s_1 env S h6 => ⟨_, rfl, have h7 := (Fr.set (i := 6) (d := (Val.int x_1.2.2).d) (Fr.set (i := 5) (d := (Val.int x_1.2.1).d) (Fr.set (i := 4) (d := (Val.int x_1.1).d) h6 rfl) rfl) rfl); (sbind h7 (m_bin (h7.at (i := 2) rfl) (h7.at (i := 5) rfl) (m_idxC (getC h7 0 rfl))) (fun ex he => (if_er (andT_e (cmpT_e1 he)))) (fun g_0 h_g_0 => (sbind h7 (m_andT (p_cmpT h_g_0 rfl (f_isn (f_isO NN.int))) (rbind (m_bin (h7.at (i := 2) rfl) (h7.at (i := 5) rfl) (m_idxC (getC h7 0 rfl))) (fun ex he => (andT_e (cmpT_e1 he))) (fun g_1 h_g_1 => (rbind (m_andT (p_cmpT h_g_1 (h7.at (i := 3) rfl) (f_eq (e := (vO Val.int)) (x := g_1) (y := (some x_0)) ((EQ.int).vO NN.int))) (rbind (m_bin (h7.at (i := 2) rfl) (h7.at (i := 4) rfl) (m_idxC (getC h7 0 rfl))) (fun ex he => (cmpT_e1 he)) (fun g_2 h_g_2 => (rg_ok (p_cmpT h_g_2 rfl (f_isO NN.int)))))) (fun ex he => he) (fun b_0 h_b_0 => (rg_ok h_b_0)))))) (fun ex he => (if_er he)) (fun b_1 h_b_1 => (sjoin (fun (s : (List (Option Int))) env S => Fr S0 [] 7 env S [(0, some ((v3 (vT Val.int) (vT Val.int) (vT (v3 Val.int Val.int Val.int))) web_0).d), (1, some (Val.int account_0).d), (2, some (rf k0_0)), (3, some (Val.int x_0).d), (4, some (Val.int x_1.1).d), (5, some (Val.int x_1.2.1).d)] [(k0_0, .lst (dL (vO Val.int) s))]) h_b_1 (fun _ => (sput (e := (vO Val.int)) h7 (p := 0) rfl (p_bin (h7.at (i := 3) rfl) rfl f_add) (h7.at (i := 2) rfl) (h7.at (i := 4) rfl) (fun ys_1 h8 => (endN (P := (fun (s : (List (Option Int))) env S => Fr S0 [] 7 env S [(0, some ((v3 (vT Val.int) (vT Val.int) (vT (v3 Val.int Val.int Val.int))) web_0).d), (1, some (Val.int account_0).d), (2, some (rf k0_0)), (3, some (Val.int x_0).d), (4, some (Val.int x_1.1).d), (5, some (Val.int x_1.2.1).d)] [(k0_0, .lst (dL (vO Val.int) s))])) (s := ys_1) ((h8.re (.cons (i := 0) (h8.get rfl) (.cons (i := 1) (h8.get rfl) (.cons (i := 2) (h8.get rfl) (.cons (i := 3) (h8.get rfl) (.cons (i := 4) (h8.get rfl) (.cons (i := 5) (h8.get rfl) (h8.nilL)))))))).pick [0]))))) (fun _ => (sskip (endN (P := (fun (s : (List (Option Int))) env S => Fr S0 [] 7 env S [(0, some ((v3 (vT Val.int) (vT Val.int) (vT (v3 Val.int Val.int Val.int))) web_0).d), (1, some (Val.int account_0).d), (2, some (rf k0_0)), (3, some (Val.int x_0).d), (4, some (Val.int x_1.1).d), (5, some (Val.int x_1.2.1).d)] [(k0_0, .lst (dL (vO Val.int) s))])) (s := s_1) ((h7.re (.cons (i := 0) (h7.get rfl) (.cons (i := 1) (h7.get rfl) (.cons (i := 2) (h7.get rfl) (.cons (i := 3) (h7.get rfl) (.cons (i := 4) (h7.get rfl) (.cons (i := 5) (h7.get rfl) (h7.nilL)))))))).pick [0])))) (fun s_2 env S h9 => (endL (P := (fun (s : (List (Option Int))) env S => Fr S0 [] 7 env S [(0, some ((v3 (vT Val.int) (vT Val.int) (vT (v3 Val.int Val.int Val.int))) web_0).d), (1, some (Val.int account_0).d), (2, some (rf k0_0)), (3, some (Val.int x_0).d)] [(k0_0, .lst (dL (vO Val.int) s))])) (s := s_2) ((h9.re (.cons (i := 0) (h9.get rfl) (.cons (i := 1) (h9.get rfl) (.cons (i := 2) (h9.get rfl) (.cons (i := 3) (h9.get rfl) (h9.nilL)))))).pick [0]))))))))⟩) web_0.2.2 s_0 ((h5.re (.cons (i := 0) (h5.get rfl) (.cons (i := 1) (h5.get rfl) (.cons (i := 2) (h5.get rfl) (.cons (i := 3) (h5.get rfl) (h5.nilL)))))).pick [0])) (fun s_3 env S h10 => (endL (P := (fun (s : (List (Option Int))) env S => Fr S0 [] 7 env S [(0, some ((v3 (vT Val.int) (vT Val.int) (vT (v3 Val.int Val.int Val.int))) web_0).d), (1, some (Val.int account_0).d), (2, some (rf k0_0))] [(k0_0, .lst (dL (vO Val.int) s))])) (s := s_3) ((h10.re (.cons (i := 0) (h10.get rfl) (.cons (i := 1) (h10.get rfl) (.cons (i := 2) (h10.get rfl) (h10.nilL))))).pick [0])))))⟩) rg_0 ys_0 ((h3.re (.cons (i := 0) (h3.get rfl) (.cons (i := 1) (h3.get rfl) (.cons (i := 2) (h3.get rfl) (h3.nilL))))).pick [0])) (fun s_4 env S h11 => (sret (h11.at (i := 2) rfl) (okR (e := (vL (vO Val.int))) (v := s_4) (retC h11 0 rfl))))))))))))))))))))
theorem t__law_cell (m : Nat) (hm : 1 ≤ m) (S0 : Sto) (script_0 : (List Int)) (place_0 : Int)  :
    RE (Cn m 22 [((vL Val.int) script_0).d, (Val.int place_0).d] S0) S0 (f__law_cell script_0 place_0) Val.int := by
  cases m with
  | zero => exact absurd hm (by omega)
  | succ m =>
  have h0 : Fr S0 [] 2 [some ((vL Val.int) script_0).d, some (Val.int place_0).d] S0 [(0, some ((vL Val.int) script_0).d), (1, some (Val.int place_0).d)] [] := Fr.begin rfl (.cons (i := 0) rfl (.cons (i := 1) rfl (.start rfl)))
  have hr := (run__law_cell m (((vL Val.int) script_0).d) ((Val.int place_0).d) S0)
  rw [hr]
  refine fn_of2 ?_
  unfold b__law_cell f__law_cell
  exact (slast (sseq (sif (p_cmpT (h0.at (i := 1) rfl) (p_blt (p_cons (h0.at (i := 0) rfl) p_nil) f_lenL) f_ltI) (fun _ => (sbind h0 (m_bin (h0.at (i := 0) rfl) (h0.at (i := 1) rfl) m_idxL) (fun ex he => (ret_er (blt_e (cons_e1 he)))) (fun g_0 h_g_0 => (sret (p_blt (p_cons h_g_0 p_nil) f_int) (okR (e := Val.int) (v := g_0) (retV h0 (Val.int g_0))))))) (fun _ => (sskip (sret rfl (okR (e := Val.int) (v := (0 : Int)) (retV h0 (Val.int (0 : Int))))))))))
theorem t__law_far (m : Nat) (hm : 1 ≤ m) (S0 : Sto) (web_0 : ((List Int) × (List Int) × (List (Int × Int × Int))))  :
    RE (Cn m 28 [((v3 (vT Val.int) (vT Val.int) (vT (v3 Val.int Val.int Val.int))) web_0).d] S0) S0 (f__law_far web_0) (vL (vO Val.int)) := by
  cases m with
  | zero => exact absurd hm (by omega)
  | succ m =>
  have h0 : Fr S0 [] 7 [some ((v3 (vT Val.int) (vT Val.int) (vT (v3 Val.int Val.int Val.int))) web_0).d, none, none, none, none, none, none] S0 [(0, some ((v3 (vT Val.int) (vT Val.int) (vT (v3 Val.int Val.int Val.int))) web_0).d)] [] := Fr.begin rfl (.cons (i := 0) rfl (.start rfl))
  have hr := (run__law_far m (((v3 (vT Val.int) (vT Val.int) (vT (v3 Val.int Val.int Val.int))) web_0).d) S0)
  rw [hr]
  refine fn_of2 ?_
  unfold b__law_far f__law_far
  exact (slast (sseq (sbind h0 (m_rep (e := (vO Val.int)) (p_frzL (p_lst (p_cons rfl p_nil) rfl)) (p_blt (p_cons (p_bin (h0.at (i := 0) rfl) rfl (f_at (ds := [((vT Val.int) web_0.1).d, ((vT Val.int) web_0.2.1).d, ((vT (v3 Val.int Val.int Val.int)) web_0.2.2).d]) 0 rfl)) p_nil) f_lenT)) (fun ex he => (asg_er (cel_e he))) (fun r_0 h_r_0 => (slet (P := fun (far_0 : (List (Option Int))) => _ = R.ok (dL (vO Val.int) far_0) _) r_0 h_r_0 (fun far_0 h_far_0 => (scelk h_far_0 h0 (i := 1) (fun k0_0 _ h1 => have h2 := Fr.set (i := 1) (d := rf k0_0) h1 rfl; (sseq (sfor (p_valI (p_bin (h2.at (i := 0) rfl) rfl (f_at (ds := [((vT Val.int) web_0.1).d, ((vT Val.int) web_0.2.1).d, ((vT (v3 Val.int Val.int Val.int)) web_0.2.2).d]) 1 rfl)) f_itT) (snext (lfold Val.int (fun (s : (List (Option Int))) env S => Fr S0 [] 7 env S [(0, some ((v3 (vT Val.int) (vT Val.int) (vT (v3 Val.int Val.int Val.int))) web_0).d), (1, some (rf k0_0))] [(k0_0, .lst (dL (vO Val.int) s))]) (fun _ _ _ _ => gnone) (fun x_0 s_0 env S h3 => ⟨_, rfl, have h4 := (Fr.set (i := 2) (d := (Val.int x_0).d) h3 rfl); (sput (e := (vO Val.int)) h4 (p := 0) rfl rfl (h4.at (i := 1) rfl) (h4.at (i := 2) rfl) (fun ys_0 h5 => (endL (P := (fun (s : (List (Option Int))) env S => Fr S0 [] 7 env S [(0, some ((v3 (vT Val.int) (vT Val.int) (vT (v3 Val.int Val.int Val.int))) web_0).d), (1, some (rf k0_0))] [(k0_0, .lst (dL (vO Val.int) s))])) (s := ys_0) ((h5.re (.cons (i := 0) (h5.get rfl) (.cons (i := 1) (h5.get rfl) (h5.nilL)))).pick [0]))))⟩) web_0.2.1 far_0 ((h2.re (.cons (i := 0) (h2.get rfl) (.cons (i := 1) (h2.get rfl) (h2.nilL)))).pick [0])) (fun s_1 env S h6 => (sseq (sbind h6 (m_rng1 (p_blt (p_cons (p_bin (h6.at (i := 0) rfl) rfl (f_at (ds := [((vT Val.int) web_0.1).d, ((vT Val.int) web_0.2.1).d, ((vT (v3 Val.int Val.int Val.int)) web_0.2.2).d]) 0 rfl)) p_nil) f_lenT)) (fun ex he => (for_er he)) (fun rg_0 h_rg_0 => (sfor h_rg_0 (snext (lfold Val.int (fun (s : (List (Option Int))) env S => Fr S0 [] 7 env S [(0, some ((v3 (vT Val.int) (vT Val.int) (vT (v3 Val.int Val.int Val.int))) web_0).d), (1, some (rf k0_0))] [(k0_0, .lst (dL (vO Val.int) s))]) (fun _ _ _ _ => gnone) (fun x_1 s_2 env S h7 => ⟨_, rfl, have h8 := (Fr.set (i := 3) (d := (Val.int x_1).d) h7 rfl); (sfor (p_valI (p_bin (h8.at (i := 0) rfl) rfl (f_at (ds := [((vT Val.int) web_0.1).d, ((vT Val.int) web_0.2.1).d, ((vT (v3 Val.int Val.int Val.int)) web_0.2.2).d]) 2 rfl)) f_itT) (snext (lfold (v3 Val.int Val.int Val.int) (fun (s : (List (Option Int))) env S => Fr S0 [] 7 env S [(0, some ((v3 (vT Val.int) (vT Val.int) (vT (v3 Val.int Val.int Val.int))) web_0).d), (1, some (rf k0_0)), (3, some (Val.int x_1).d)] [(k0_0, .lst (dL (vO Val.int) s))]) (fun _ _ _ _ => gnone) (fun x_2 s_3 env S h9 => ⟨_, rfl, have h10 := (Fr.set (i := 6) (d := (Val.int x_2.2.2).d) (Fr.set (i := 5) (d := (Val.int x_2.2.1).d) (Fr.set (i := 4) (d := (Val.int x_2.1).d) h9 rfl) rfl) rfl); (sbind h10 (m_bin (h10.at (i := 1) rfl) (h10.at (i := 4) rfl) (m_idxC (getC h10 0 rfl))) (fun ex he => (if_er (andT_e (cmpT_e1 he)))) (fun g_0 h_g_0 => (sbind h10 (m_andT (p_cmpT h_g_0 rfl (f_isn (f_isO NN.int))) (rbind (m_bin (h10.at (i := 1) rfl) (h10.at (i := 4) rfl) (m_idxC (getC h10 0 rfl))) (fun ex he => (andT_e (cmpT_e1 he))) (fun g_1 h_g_1 => (rbind (m_andT (p_cmpT h_g_1 (h10.at (i := 3) rfl) (f_eq (e := (vO Val.int)) (x := g_1) (y := (some x_1)) ((EQ.int).vO NN.int))) (rbind (m_bin (h10.at (i := 1) rfl) (h10.at (i := 5) rfl) (m_idxC (getC h10 0 rfl))) (fun ex he => (cmpT_e1 he)) (fun g_2 h_g_2 => (rg_ok (p_cmpT h_g_2 rfl (f_isO NN.int)))))) (fun ex he => he) (fun b_0 h_b_0 => (rg_ok h_b_0)))))) (fun ex he => (if_er he)) (fun b_1 h_b_1 => (sjoin (fun (s : (List (Option Int))) env S => Fr S0 [] 7 env S [(0, some ((v3 (vT Val.int) (vT Val.int) (vT (v3 Val.int Val.int Val.int))) web_0).d), (1, some (rf k0_0)), (3, some (Val.int x_1).d), (4, some (Val.int x_2.1).d), (5, some (Val.int x_2.2.1).d)] [(k0_0, .lst (dL (vO Val.int) s))]) h_b_1 (fun _ => (sput (e := (vO Val.int)) h10 (p := 0) rfl (p_bin (h10.at (i := 3) rfl) rfl f_add) (h10.at (i := 1) rfl) (h10.at (i := 5) rfl) (fun ys_1 h11 => (endN (P := (fun (s : (List (Option Int))) env S => Fr S0 [] 7 env S [(0, some ((v3 (vT Val.int) (vT Val.int) (vT (v3 Val.int Val.int Val.int))) web_0).d), (1, some (rf k0_0)), (3, some (Val.int x_1).d), (4, some (Val.int x_2.1).d), (5, some (Val.int x_2.2.1).d)] [(k0_0, .lst (dL (vO Val.int) s))])) (s := ys_1) ((h11.re (.cons (i := 0) (h11.get rfl) (.cons (i := 1) (h11.get rfl) (.cons (i := 3) (h11.get rfl) (.cons (i := 4) (h11.get rfl) (.cons (i := 5) (h11.get rfl) (h11.nilL))))))).pick [0]))))) (fun _ => (sskip (endN (P := (fun (s : (List (Option Int))) env S => Fr S0 [] 7 env S [(0, some ((v3 (vT Val.int) (vT Val.int) (vT (v3 Val.int Val.int Val.int))) web_0).d), (1, some (rf k0_0)), (3, some (Val.int x_1).d), (4, some (Val.int x_2.1).d), (5, some (Val.int x_2.2.1).d)] [(k0_0, .lst (dL (vO Val.int) s))])) (s := s_3) ((h10.re (.cons (i := 0) (h10.get rfl) (.cons (i := 1) (h10.get rfl) (.cons (i := 3) (h10.get rfl) (.cons (i := 4) (h10.get rfl) (.cons (i := 5) (h10.get rfl) (h10.nilL))))))).pick [0])))) (fun s_4 env S h12 => (endL (P := (fun (s : (List (Option Int))) env S => Fr S0 [] 7 env S [(0, some ((v3 (vT Val.int) (vT Val.int) (vT (v3 Val.int Val.int Val.int))) web_0).d), (1, some (rf k0_0)), (3, some (Val.int x_1).d)] [(k0_0, .lst (dL (vO Val.int) s))])) (s := s_4) ((h12.re (.cons (i := 0) (h12.get rfl) (.cons (i := 1) (h12.get rfl) (.cons (i := 3) (h12.get rfl) (h12.nilL))))).pick [0]))))))))⟩) web_0.2.2 s_2 ((h8.re (.cons (i := 0) (h8.get rfl) (.cons (i := 1) (h8.get rfl) (.cons (i := 3) (h8.get rfl) (h8.nilL))))).pick [0])) (fun s_5 env S h13 => (endL (P := (fun (s : (List (Option Int))) env S => Fr S0 [] 7 env S [(0, some ((v3 (vT Val.int) (vT Val.int) (vT (v3 Val.int Val.int Val.int))) web_0).d), (1, some (rf k0_0))] [(k0_0, .lst (dL (vO Val.int) s))])) (s := s_5) ((h13.re (.cons (i := 0) (h13.get rfl) (.cons (i := 1) (h13.get rfl) (h13.nilL)))).pick [0])))))⟩) rg_0 s_1 ((h6.re (.cons (i := 0) (h6.get rfl) (.cons (i := 1) (h6.get rfl) (h6.nilL)))).pick [0])) (fun s_6 env S h14 => (sret (h14.at (i := 1) rfl) (okR (e := (vL (vO Val.int))) (v := s_6) (retC h14 0 rfl)))))))))))))))))))))
theorem t__law_listed : ∀ (fu m : Nat) (hm : fu + 0 ≤ m) (S0 : Sto) (value_0 : Val),
    RE (Cn m 25 [(vV value_0).d] S0) S0 (f__law_listed fu value_0) vV := by
  intro fu
  induction fu with
  | zero => intros; trivial
  | succ fu ih =>
  intro m hm S0 value_0
  cases m with
  | zero => exact absurd hm (by omega)
  | succ m =>
  have h0 : Fr S0 [] 2 [some (vV value_0).d, none] S0 [(0, some (vV value_0).d)] [] := Fr.begin rfl (.cons (i := 0) rfl (.start rfl))
  have hr := (run__law_listed m ((vV value_0).d) S0)
  rw [hr]
  refine fn_of2 ?_
  unfold b__law_listed
  show Ref _ _ _ (if ([Ty.tuple].any (isK (Val.kd value_0))) = true then ((itemsV value_0).bind fun it_0 => ((sizeM it_0.length).bind fun _ => mapM' (fun x_0 => (f__law_listed fu x_0).bind fun v_0 => .ok v_0) it_0).bind fun l_0 => .ok ((vL vV) l_0)) else .ok value_0) _
  exact (slast (sseq (sif (p_tru (p_isi (h0.at (i := 0) rfl) (kind_d _)) rfl) (fun _ => (sbind h0 (m_valIV (h0.at (i := 0) rfl) m_itV) (fun ex he => (ret_er (frz_e (compF_e he)))) (fun it_0 h_it_0 => (sbind h0 (compF_m (e := dL vV) h_it_0 (dL_len _ _) (map_m (ea := (fun a => (vV a).d)) (e := (fun a => (vV a).d)) (mg := fun x_0 => (f__law_listed fu x_0).bind fun v_0 => .ok v_0) gnone (fun x_0 => have h1 := (Fr.set (i := 1) (d := (vV x_0).d) (Fr.wipe (i := 1) h0) rfl); ⟨_, rfl, (rbind (m_call (p_cons (h1.at (i := 1) rfl) p_nil) (ih m (by omega) _ _ )) (fun ex he => he) (fun v_0 h_v_0 => (rg_ok h_v_0)))⟩) it_0)) (fun ex he => (ret_er (frz_e he))) (fun l_0 h_l_0 => (sret (p_frzL h_l_0) (okR (e := vV) (v := ((vL vV) l_0)) (retV h0 (vV ((vL vV) l_0)))))))))) (fun _ => (sskip (sret (h0.at (i := 0) rfl) (okR (e := vV) (v := value_0) (retV h0 (vV value_0)))))))))
theorem t__law_numbers (m : Nat) (hm : 2 ≤ m) (S0 : Sto) (script_0 : (List Int)) (place_0 : Int) (many_0 : Int)  :
    RE (Cn m 23 [((vL Val.int) script_0).d, (Val.int place_0).d, (Val.int many_0).d] S0) S0 (f__law_numbers script_0 place_0 many_0) (vL Val.int) := by
  cases m with
  | zero => exact absurd hm (by omega)
  | succ m =>
  have h0 : Fr S0 [] 8 [some ((vL Val.int) script_0).d, some (Val.int place_0).d, some (Val.int many_0).d, none, none, none, none, none] S0 [(0, some ((vL Val.int) script_0).d), (1, some (Val.int place_0).d), (2, some (Val.int many_0).d)] [] := Fr.begin rfl (.cons (i := 0) rfl (.cons (i := 1) rfl (.cons (i := 2) rfl (.start rfl))))
  have hr := (run__law_numbers m (((vL Val.int) script_0).d) ((Val.int place_0).d) ((Val.int many_0).d) S0)
  rw [hr]
  refine fn_of2 ?_
  unfold b__law_numbers f__law_numbers
  exact (slast (sseq (sbind h0 (m_call (p_cons (h0.at (i := 0) rfl) (p_cons (h0.at (i := 1) rfl) p_nil)) (t__law_cell m (by omega) _ _ _ )) (fun ex he => (asg_er he)) (fun v_0 h_v_0 => (sasg h_v_0 rfl (have h1 := Fr.set (i := 3) (d := (Val.int v_0).d) h0 rfl; (sseq (slet (P := fun (numbers_0 : (List Int)) => _ = R.ok (dL Val.int numbers_0) _) ([] : List Int) (p_lst p_nil rfl) (fun numbers_0 h_numbers_0 => (scelk h_numbers_0 h1 (i := 4) (fun k0_0 _ h2 => have h3 := Fr.set (i := 4) (d := rf k0_0) h2 rfl; (sseq (sasg (h3.at (i := 3) rfl) rfl (have h4 := Fr.set (i := 5) (d := (Val.int v_0).d) h3 rfl; (sseq (sbind h4 (m_rng1 (h4.at (i := 2) rfl)) (fun ex he => (for_er he)) (fun rg_0 h_rg_0 => (sfor h_rg_0 (snext (lfold Val.int (fun (s : (List Int) × Int) env S => Fr S0 [] 8 env S [(0, some ((vL Val.int) script_0).d), (1, some (Val.int place_0).d), (2, some (Val.int many_0).d), (3, some (Val.int v_0).d), (4, some (rf k0_0)), (5, some (Val.int s.2).d)] [(k0_0, .lst (dL Val.int s.1))]) (fun _ _ _ _ => gnone) (fun x_0 s_0 env S h5 => ⟨_, rfl, have h6 := (Fr.set (i := 6) (d := (Val.int x_0).d) h5 rfl); (sjoin (fun (s : (List Int) × Int) env S => Fr S0 [] 8 env S [(0, some ((vL Val.int) script_0).d), (1, some (Val.int place_0).d), (2, some (Val.int many_0).d), (3, some (Val.int v_0).d), (4, some (rf k0_0)), (5, some (Val.int s.2).d), (6, some (Val.int x_0).d)] [(k0_0, .lst (dL Val.int s.1))]) (p_cmpT (h6.at (i := 3) rfl) (p_bin rfl rfl (f_powL (i := 10) (j := 18) (z := 1000000000000000000) rfl)) f_geI) (fun _ => (sseq (sapp (e := Val.int) h6 (p := 0) rfl (h6.at (i := 4) rfl) (p_bin (p_blt (p_cons (h6.at (i := 5) rfl) p_nil) f_int) (p_bin rfl rfl (f_powL (i := 10) (j := 9) (z := 1000000000) rfl)) (f_mod (by decide))) (fun ys_0 h7 => (slet (P := fun (rest_0 : Int) => _ = R.ok (Val.int rest_0).d _) (s_0.2 / (1000000000 : Int)) (p_bin (h7.at (i := 5) rfl) (p_bin rfl rfl (f_powL (i := 10) (j := 9) (z := 1000000000) rfl)) (f_fdiv (by decide) (by decide))) (fun rest_0 h_rest_0 => (sasg h_rest_0 rfl (have h8 := Fr.set (i := 5) (d := (Val.int rest_0).d) h7 rfl; (endN (P := (fun (s : (List Int) × Int) env S => Fr S0 [] 8 env S [(0, some ((vL Val.int) script_0).d), (1, some (Val.int place_0).d), (2, some (Val.int many_0).d), (3, some (Val.int v_0).d), (4, some (rf k0_0)), (5, some (Val.int s.2).d), (6, some (Val.int x_0).d)] [(k0_0, .lst (dL Val.int s.1))])) (s := (ys_0, rest_0)) ((h8.re (.cons (i := 0) (h8.get rfl) (.cons (i := 1) (h8.get rfl) (.cons (i := 2) (h8.get rfl) (.cons (i := 3) (h8.get rfl) (.cons (i := 4) (h8.get rfl) (.cons (i := 5) (h8.get rfl) (.cons (i := 6) (h8.get rfl) (h8.nilL))))))))).pick [0])))))))))) (fun _ => (sseq (sbind h6 (m_bin (h6.at (i := 3) rfl) rfl m_mul) (fun ex he => (asg_er (bin_e1 (blt_e (cons_e1 (bin_e1 (bin_e1 he))))))) (fun n_0 h_n_0 => (sbind h6 (m_bin (p_bin (h6.at (i := 6) rfl) rfl f_add) rfl m_mul) (fun ex he => (asg_er (bin_e1 (blt_e (cons_e1 (bin_e1 (bin_e2 h_n_0 he))))))) (fun n_1 h_n_1 => (slet (P := fun (twice_0 : Int) => _ = R.ok (Val.int twice_0).d _) (((n_0 + n_1) + place_0) % (2147483647 : Int)) (p_bin (p_blt (p_cons (p_bin (p_bin h_n_0 h_n_1 f_add) (h6.at (i := 1) rfl) f_add) p_nil) f_int) rfl (f_mod (by decide))) (fun twice_0 h_twice_0 => (sasg h_twice_0 rfl (have h9 := Fr.set (i := 7) (d := (Val.int twice_0).d) h6 rfl; (sbind h9 (m_bin (h9.at (i := 7) rfl) rfl m_mul) (fun ex he => (app_er (h9.at (i := 4) rfl) (getC h9 0 rfl) (bin_e1 (bin_e1 (blt_e (cons_e1 (bin_e1 he))))))) (fun n_2 h_n_2 => (sbind h9 (m_bin (p_bin (h9.at (i := 6) rfl) rfl f_add) rfl m_mul) (fun ex he => (app_er (h9.at (i := 4) rfl) (getC h9 0 rfl) (bin_e1 (bin_e1 (blt_e (cons_e1 (bin_e2 h_n_2 he))))))) (fun n_3 h_n_3 => (sapp (e := Val.int) h9 (p := 0) rfl (h9.at (i := 4) rfl) (p_bin (p_bin (p_blt (p_cons (p_bin h_n_2 h_n_3 f_add) p_nil) f_int) rfl (f_mod (by decide))) (p_bin rfl rfl (f_powL (i := 10) (j := 9) (z := 1000000000) rfl)) (f_mod (by decide))) (fun ys_1 h10 => (endN (P := (fun (s : (List Int) × Int) env S => Fr S0 [] 8 env S [(0, some ((vL Val.int) script_0).d), (1, some (Val.int place_0).d), (2, some (Val.int many_0).d), (3, some (Val.int v_0).d), (4, some (rf k0_0)), (5, some (Val.int s.2).d), (6, some (Val.int x_0).d)] [(k0_0, .lst (dL Val.int s.1))])) (s := (ys_1, s_0.2)) ((h10.re (.cons (i := 0) (h10.get rfl) (.cons (i := 1) (h10.get rfl) (.cons (i := 2) (h10.get rfl) (.cons (i := 3) (h10.get rfl) (.cons (i := 4) (h10.get rfl) (.cons (i := 5) (h10.get rfl) (.cons (i := 6) (h10.get rfl) (h10.nilL))))))))).pick [0])))))))))))))))))) (fun s_1 env S h11 => (endL (P := (fun (s : (List Int) × Int) env S => Fr S0 [] 8 env S [(0, some ((vL Val.int) script_0).d), (1, some (Val.int place_0).d), (2, some (Val.int many_0).d), (3, some (Val.int v_0).d), (4, some (rf k0_0)), (5, some (Val.int s.2).d)] [(k0_0, .lst (dL Val.int s.1))])) (s := (s_1.1, s_1.2)) ((h11.re (.cons (i := 0) (h11.get rfl) (.cons (i := 1) (h11.get rfl) (.cons (i := 2) (h11.get rfl) (.cons (i := 3) (h11.get rfl) (.cons (i := 4) (h11.get rfl) (.cons (i := 5) (h11.get rfl) (h11.nilL)))))))).pick [0]))))⟩) rg_0 (numbers_0, v_0) ((h4.re (.cons (i := 0) (h4.get rfl) (.cons (i := 1) (h4.get rfl) (.cons (i := 2) (h4.get rfl) (.cons (i := 3) (h4.get rfl) (.cons (i := 4) (h4.get rfl) (.cons (i := 5) (h4.get rfl) (h4.nilL)))))))).pick [0])) (fun s_2 env S h12 => (sret (h12.at (i := 4) rfl) (okR (e := (vL Val.int)) (v := s_2.1) (retC h12 0 rfl)))))))))))))))))))))))
theorem t__law_power (m : Nat) (hm : 1 ≤ m) (S0 : Sto) (base_0 : Int) (many_0 : Int)  :
    RE (Cn m 21 [(Val.int base_0).d, (Val.int many_0).d] S0) S0 (f__law_power base_0 many_0) Val.int := by
  cases m with
  | zero => exact absurd hm (by omega)
  | succ m =>
  have h0 : Fr S0 [] 4 [some (Val.int base_0).d, some (Val.int many_0).d, none, none] S0 [(0, some (Val.int base_0).d), (1, some (Val.int many_0).d)] [] := Fr.begin rfl (.cons (i := 0) rfl (.cons (i := 1) rfl (.start rfl)))
  have hr := (run__law_power m ((Val.int base_0).d) ((Val.int many_0).d) S0)
  rw [hr]
  refine fn_of2 ?_
  unfold b__law_power f__law_power
  exact (slast (sseq (slet (P := fun (result_0 : Int) => _ = R.ok (Val.int result_0).d _) (1 : Int) rfl (fun result_0 h_result_0 => (sasg h_result_0 rfl (have h1 := Fr.set (i := 2) (d := (Val.int result_0).d) h0 rfl; (sseq (sbind h1 (m_rng1 (h1.at (i := 1) rfl)) (fun ex he => (for_er he)) (fun rg_0 h_rg_0 => (sfor h_rg_0 (snext (lfold Val.int (fun (s : Int) env S => Fr S0 [] 4 env S [(0, some (Val.int base_0).d), (1, some (Val.int many_0).d), (2, some (Val.int s).d)] []) (fun _ _ _ _ => gnone) (fun x_0 s_0 env S h2 => ⟨_, rfl, have h3 := (Fr.set (i := 3) (d := (Val.int x_0).d) h2 rfl); (sbind h3 (m_bin (h3.at (i := 2) rfl) (h3.at (i := 0) rfl) m_mul) (fun ex he => (asg_er he)) (fun n_0 h_n_0 => (sasg h_n_0 rfl (have h4 := Fr.set (i := 2) (d := (Val.int n_0).d) h3 rfl; (endL (P := (fun (s : Int) env S => Fr S0 [] 4 env S [(0, some (Val.int base_0).d), (1, some (Val.int many_0).d), (2, some (Val.int s).d)] [])) (s := n_0) ((h4.re (.cons (i := 0) (h4.get rfl) (.cons (i := 1) (h4.get rfl) (.cons (i := 2) (h4.get rfl) (h4.nilL))))).pick []))))))⟩) rg_0 result_0 ((h1.re (.cons (i := 0) (h1.get rfl) (.cons (i := 1) (h1.get rfl) (.cons (i := 2) (h1.get rfl) (h1.nilL))))).pick [])) (fun s_1 env S h5 => (sret (h5.at (i := 2) rfl) (okR (e := Val.int) (v := s_1) (retV h5 (Val.int s_1))))))))))))))))
theorem t__law_same : ∀ (fu m : Nat) (hm : fu + 0 ≤ m) (S0 : Sto) (one_0 : Val) (other_0 : Val),
    RE (Cn m 24 [(vV one_0).d, (vV other_0).d] S0) S0 (f__law_same fu one_0 other_0) Val.bool := by
  intro fu
  induction fu with
  | zero => intros; trivial
  | succ fu ih =>
  intro m hm S0 one_0 other_0
  cases m with
  | zero => exact absurd hm (by omega)
  | succ m =>
  have h0 : Fr S0 [] 3 [some (vV one_0).d, some (vV other_0).d, none] S0 [(0, some (vV one_0).d), (1, some (vV other_0).d)] [] := Fr.begin rfl (.cons (i := 0) rfl (.cons (i := 1) rfl (.start rfl)))
  have hr := (run__law_same m ((vV one_0).d) ((vV other_0).d) S0)
  rw [hr]
  refine fn_of2 ?_
  unfold b__law_same
  show Ref _ _ _ (if (([Ty.tuple].any (isK (Val.kd other_0))) || ([Ty.tuple].any (isK (Val.kd one_0)))) = true then ((if (!([Ty.tuple].any (isK (Val.kd one_0)))) = true then .ok true else (if (!([Ty.tuple].any (isK (Val.kd other_0)))) = true then .ok true else (lenV one_0).bind fun n_0 => (lenV other_0).bind fun n_1 => .ok (!decide (n_0 = n_1))).bind fun b_0 => .ok b_0).bind fun b_1 => if b_1 = true then (.ok false) else (lenV other_0).bind fun n_2 => (rngM1 n_2).bind fun rg_0 => (forM (fun x_0 s_0 => (idxV one_0 x_0).bind fun g_0 => (idxV other_0 x_0).bind fun g_1 => (f__law_same fu g_0 g_1).bind fun v_0 => if (!v_0) = true then (.ok (.rt false)) else .ok (.nx ())) rg_0 ()).fin (fun s_1 => .ok true) (fun w_0 => .ok w_0)) else if ((Val.isNone one_0) || (Val.isNone other_0)) = true then (.ok ((Val.isNone one_0) && (Val.isNone other_0))) else if ((!decide (([Ty.bool].any (isK (Val.kd one_0))) = ([Ty.bool].any (isK (Val.kd other_0))))) || (!decide (([Ty.str].any (isK (Val.kd one_0))) = ([Ty.str].any (isK (Val.kd other_0)))))) = true then (.ok false) else (if ([Ty.int, Ty.str].any (isK (Val.kd one_0))) = true then ((if ([Ty.int, Ty.str].any (isK (Val.kd other_0))) = true then ((eqVM one_0 other_0).bind fun q_0 => .ok q_0) else .ok false).bind fun b_2 => .ok b_2) else .ok false).bind fun b_3 => .ok b_3) _
  exact (slast (sseq (sif (p_orT (p_tru (p_isi (h0.at (i := 1) rfl) (kind_d _)) rfl) (p_tru (p_isi (h0.at (i := 0) rfl) (kind_d _)) rfl)) (fun _ => (sseq (sbind h0 (m_orT (p_notT (p_tru (p_isi (h0.at (i := 0) rfl) (kind_d _)) rfl)) (rbind (m_orT (p_notT (p_tru (p_isi (h0.at (i := 1) rfl) (kind_d _)) rfl)) (rbind (m_blt (p_cons (h0.at (i := 0) rfl) p_nil) m_lenV) (fun ex he => (cmpT_e1 he)) (fun n_0 h_n_0 => (rbind (m_blt (p_cons (h0.at (i := 1) rfl) p_nil) m_lenV) (fun ex he => (cmpT_e2 h_n_0 he)) (fun n_1 h_n_1 => (rg_ok (p_cmpT h_n_0 h_n_1 (f_ne (e := Val.int) (x := n_0) (y := n_1) EQ.int)))))))) (fun ex he => he) (fun b_0 h_b_0 => (rg_ok h_b_0)))) (fun ex he => (if_er he)) (fun b_1 h_b_1 => (sif h_b_1 (fun _ => (sret rfl (okR (e := Val.bool) (v := false) (retV h0 (Val.bool false))))) (fun _ => (sskip (sseq (sbind h0 (m_blt (p_cons (h0.at (i := 1) rfl) p_nil) m_lenV) (fun ex he => (for_er (rng1_e he))) (fun n_2 h_n_2 => (sbind h0 (m_rng1 h_n_2) (fun ex he => (for_er he)) (fun rg_0 h_rg_0 => (sfor h_rg_0 (snextF (kr := fun w_0 => .ok w_0) (lfor Val.int (fun (s : Unit) env S => Fr S0 [] 3 env S [(0, some (vV one_0).d), (1, some (vV other_0).d)] []) (QR S0 Val.bool) (fun _ _ _ _ => gnone) (fun x_0 s_0 env S h1 => ⟨_, rfl, have h2 := (Fr.set (i := 2) (d := (Val.int x_0).d) h1 rfl); (sbind h2 (m_bin (h2.at (i := 0) rfl) (h2.at (i := 2) rfl) m_idxV) (fun ex he => (if_er (notT_e (tru_e (call_e (cons_e1 he)))))) (fun g_0 h_g_0 => (sbind h2 (m_bin (h2.at (i := 1) rfl) (h2.at (i := 2) rfl) m_idxV) (fun ex he => (if_er (notT_e (tru_e (call_e (cons_e2 h_g_0 (cons_e1 he))))))) (fun g_1 h_g_1 => (sbind h2 (m_call (p_cons h_g_0 (p_cons h_g_1 p_nil)) (ih m (by omega) _ _ _ )) (fun ex he => (if_er (notT_e (tru_e he)))) (fun v_0 h_v_0 => (sif (p_notT (p_tru h_v_0 rfl)) (fun _ => (sret rfl (endBr (P := (fun (s : Unit) env S => Fr S0 [] 3 env S [(0, some (vV one_0).d), (1, some (vV other_0).d)] [])) (QF := (QR S0 Val.bool)) (retV h2 (Val.bool false))))) (fun _ => (sskip (endB' (P := (fun (s : Unit) env S => Fr S0 [] 3 env S [(0, some (vV one_0).d), (1, some (vV other_0).d)] [])) (QF := (QR S0 Val.bool)) (s := ()) ((h2.re (.cons (i := 0) (h2.get rfl) (.cons (i := 1) (h2.get rfl) (h2.nilL)))).pick [])))))))))))⟩) rg_0 () ((h0.re (.cons (i := 0) (h0.get rfl) (.cons (i := 1) (h0.get rfl) (h0.nilL)))).pick [])) (fun s_1 env S h3 => (sret rfl (okR (e := Val.bool) (v := true) (retV h3 (Val.bool true))))) (fun w_0 d S hq => okQ hq))))))))))))))) (fun _ => (sskip (sseq (sif (p_orT (p_cmpT (h0.at (i := 0) rfl) rfl f_isV) (p_cmpT (h0.at (i := 1) rfl) rfl f_isV)) (fun _ => (sret (p_andE (p_cmp (h0.at (i := 0) rfl) rfl f_isV) (p_cmp (h0.at (i := 1) rfl) rfl f_isV)) (okR (e := Val.bool) (v := ((Val.isNone one_0) && (Val.isNone other_0))) (retV h0 (Val.bool ((Val.isNone one_0) && (Val.isNone other_0))))))) (fun _ => (sskip (sseq (sif (p_orT (p_cmpT (p_isi (h0.at (i := 0) rfl) (kind_d _)) (p_isi (h0.at (i := 1) rfl) (kind_d _)) (f_ne (e := Val.bool) (x := ([Ty.bool].any (isK (Val.kd one_0)))) (y := ([Ty.bool].any (isK (Val.kd other_0)))) EQ.bool)) (p_cmpT (p_isi (h0.at (i := 0) rfl) (kind_d _)) (p_isi (h0.at (i := 1) rfl) (kind_d _)) (f_ne (e := Val.bool) (x := ([Ty.str].any (isK (Val.kd one_0)))) (y := ([Ty.str].any (isK (Val.kd other_0)))) EQ.bool))) (fun _ => (sret rfl (okR (e := Val.bool) (v := false) (retV h0 (Val.bool false))))) (fun _ => (sskip (sbind h0 (m_andE (p_isi (h0.at (i := 0) rfl) (kind_d _)) (rbind (m_andE (p_isi (h0.at (i := 1) rfl) (kind_d _)) (rbind (m_cmp (h0.at (i := 0) rfl) (h0.at (i := 1) rfl) m_eqV) (fun ex he => he) (fun q_0 h_q_0 => (rg_ok h_q_0)))) (fun ex he => he) (fun b_2 h_b_2 => (rg_ok h_b_2)))) (fun ex he => (ret_er he)) (fun b_3 h_b_3 => (sret h_b_3 (okR (e := Val.bool) (v := b_3) (retV h0 (Val.bool b_3)))))))))))))))))))
theorem t__law_size (m : Nat) (hm : 1 ≤ m) (S0 : Sto) (number_0 : Int)  :
    RE (Cn m 26 [(Val.int number_0).d] S0) S0 (f__law_size number_0) Val.int := by
  cases m with
  | zero => exact absurd hm (by omega)
  | succ m =>
  have h0 : Fr S0 [] 1 [some (Val.int number_0).d] S0 [(0, some (Val.int number_0).d)] [] := Fr.begin rfl (.cons (i := 0) rfl (.start rfl))
  have hr := (run__law_size m ((Val.int number_0).d) S0)
  rw [hr]
  refine fn_of2 ?_
  unfold b__law_size f__law_size
  exact (slast (sseq (sif (p_cmpT (p_bin (p_blt (p_cons (h0.at (i := 0) rfl) p_nil) f_int) rfl (f_mod (by decide))) rfl (f_eq (e := Val.int) (x := (number_0 % (4 : Int))) (y := (0 : Int)) EQ.int)) (fun _ => (sret (p_bin rfl (p_bin (p_blt (p_cons (p_bin (h0.at (i := 0) rfl) rfl (f_fdiv (by decide) (by decide))) p_nil) f_int) rfl (f_mod (by decide))) f_add) (okR (e := Val.int) (v := ((1 : Int) + ((number_0 / (4 : Int)) % (1000 : Int)))) (retV h0 (Val.int ((1 : Int) + ((number_0 / (4 : Int)) % (1000 : Int)))))))) (fun _ => (sskip (sret (p_bin rfl (p_bin (p_blt (p_cons (p_bin (h0.at (i := 0) rfl) rfl (f_fdiv (by decide) (by decide))) p_nil) f_int) rfl (f_mod (by decide))) f_add) (okR (e := Val.int) (v := ((1 : Int) + ((number_0 / (4 : Int)) % (9 : Int)))) (retV h0 (Val.int ((1 : Int) + ((number_0 / (4 : Int)) % (9 : Int))))))))))))
theorem t__law_way (m : Nat) (hm : 2 ≤ m) (S0 : Sto) (web_0 : ((List Int) × (List Int) × (List (Int × Int × Int)))) (account_0 : Int)  :
    RE (Cn m 30 [((v3 (vT Val.int) (vT Val.int) (vT (v3 Val.int Val.int Val.int))) web_0).d, (Val.int account_0).d] S0) S0 (f__law_way web_0 account_0) (vO (vT Val.int)) := by
  cases m with
  | zero => exact absurd hm (by omega)
  | succ m =>
  have h0 : Fr S0 [] 13 [some ((v3 (vT Val.int) (vT Val.int) (vT (v3 Val.int Val.int Val.int))) web_0).d, some (Val.int account_0).d, none, none, none, none, none, none, none, none, none, none, none] S0 [(0, some ((v3 (vT Val.int) (vT Val.int) (vT (v3 Val.int Val.int Val.int))) web_0).d), (1, some (Val.int account_0).d)] [] := Fr.begin rfl (.cons (i := 0) rfl (.cons (i := 1) rfl (.start rfl)))
  have hr := (run__law_way m (((v3 (vT Val.int) (vT Val.int) (vT (v3 Val.int Val.int Val.int))) web_0).d) ((Val.int account_0).d) S0)
  rw [hr]
  refine fn_of2 ?_
  unfold b__law_way f__law_way
  exact (slast (sseq (sbind h0 (m_call (p_cons (h0.at (i := 0) rfl) p_nil) (t__law_far m (by omega) _ _ )) (fun ex he => (asg_er he)) (fun v_0 h_v_0 => (sasg h_v_0 rfl (have h1 := Fr.set (i := 2) (d := ((vL (vO Val.int)) v_0).d) h0 rfl; (sseq (sbind h1 (m_bin (h1.at (i := 2) rfl) (h1.at (i := 1) rfl) m_idxL) (fun ex he => (if_er (cmpT_e1 he))) (fun g_0 h_g_0 => (sif (p_cmpT h_g_0 rfl (f_isO NN.int)) (fun _ => (sret rfl (okR (e := (vO (vT Val.int))) (v := (none : Option (List Int))) (retV h1 ((vO (vT Val.int)) (none : Option (List Int))))))) (fun _ => (sskip (sseq (sbind h1 (m_call (p_cons (h1.at (i := 0) rfl) (p_cons (h1.at (i := 1) rfl) p_nil)) (t__law_back m (by omega) _ _ _ )) (fun ex he => (asg_er he)) (fun v_1 h_v_1 => (sasg h_v_1 rfl (have h2 := Fr.set (i := 3) (d := ((vL (vO Val.int)) v_1).d) h1 rfl; (sseq (sbind h2 (m_bin (h2.at (i := 2) rfl) (h2.at (i := 1) rfl) m_idxL) (fun ex he => (asg_er he)) (fun g_1 h_g_1 => (sasg h_g_1 rfl (have h3 := Fr.set (i := 4) (d := ((vO Val.int) g_1).d) h2 rfl; (sseq (sbind h3 (compF_m (e := dL Val.int) (p_valI (p_bin (h3.at (i := 0) rfl) rfl (f_at (ds := [((vT Val.int) web_0.1).d, ((vT Val.int) web_0.2.1).d, ((vT (v3 Val.int Val.int Val.int)) web_0.2.2).d]) 1 rfl)) f_itT) (dL_len _ _) (comp_m (ea := (fun a => (Val.int a).d)) (e := (fun a => (Val.int a).d)) (mc := fun x_0 => (atM v_1 x_0).bind fun g_2 => (if (!g_2.isNone) = true then ((atM v_1 x_0).bind fun g_3 => .ok (decide (g_3 = g_1))) else .ok false).bind fun b_0 => .ok b_0) (mg := fun x_0 => .ok x_0) gnone (fun x_0 => have h4 := (Fr.set (i := 9) (d := (Val.int x_0).d) (Fr.wipe (i := 9) h3) rfl); ⟨_, rfl, (rbind (m_bin (h4.at (i := 3) rfl) (h4.at (i := 9) rfl) m_idxL) (fun ex he => (andT_e (cmpT_e1 he))) (fun g_2 h_g_2 => (rbind (m_andT (p_cmpT h_g_2 rfl (f_isn (f_isO NN.int))) (rbind (m_bin (h4.at (i := 3) rfl) (h4.at (i := 9) rfl) m_idxL) (fun ex he => (cmpT_e1 he)) (fun g_3 h_g_3 => (rg_ok (p_cmpT h_g_3 (h4.at (i := 4) rfl) (f_eq (e := (vO Val.int)) (x := g_3) (y := g_1) ((EQ.int).vO NN.int))))))) (fun ex he => he) (fun b_0 h_b_0 => (rg_ok h_b_0))))), (rg_ok (h4.at (i := 9) rfl))⟩) web_0.2.1)) (fun ex he => (asg_er (blt_e (cons_e1 (frz_e he))))) (fun l_0 h_l_0 => (sbind h3 (m_blt (p_cons (p_frzL h_l_0) p_nil) (m_minL ORD.int)) (fun ex he => (asg_er he)) (fun n_0 h_n_0 => (sasg h_n_0 rfl (have h5 := Fr.set (i := 5) (d := (Val.int n_0).d) h3 rfl; (sseq (slet (P := fun (way_0 : (List Int)) => _ = R.ok (dL Val.int way_0) _) ([n_0]) (p_lst (p_cons (h5.at (i := 5) rfl) p_nil) rfl) (fun way_0 h_way_0 => (scelk h_way_0 h5 (i := 6) (fun k0_0 _ h6 => have h7 := Fr.set (i := 6) (d := rf k0_0) h6 rfl; (sseq (sbind h7 (m_unO (h7.at (i := 4) rfl)) (fun ex he => (for_er (rng1_e he))) (fun u_0 h_u_0 => (sbind h7 (m_rng1 h_u_0) (fun ex he => (for_er he)) (fun rg_0 h_rg_0 => (sfor h_rg_0 (snext (lfold Val.int (fun (s : Int × (List Int)) env S => Fr S0 [] 13 env S [(0, some ((v3 (vT Val.int) (vT Val.int) (vT (v3 Val.int Val.int Val.int))) web_0).d), (1, some (Val.int account_0).d), (2, some ((vL (vO Val.int)) v_0).d), (3, some ((vL (vO Val.int)) v_1).d), (4, some ((vO Val.int) g_1).d), (5, some (Val.int s.1).d), (6, some (rf k0_0))] [(k0_0, .lst (dL Val.int s.2))]) (fun _ _ _ _ => gnone) (fun x_1 s_0 env S h8 => ⟨_, rfl, have h9 := (Fr.set (i := 7) (d := (Val.int x_1).d) h8 rfl); (sseq (sbind h9 (m_unO (h9.at (i := 4) rfl)) (fun ex he => (asg_er (bin_e1 (bin_e1 he)))) (fun u_1 h_u_1 => (slet (P := fun (left_0 : Int) => _ = R.ok (Val.int left_0).d _) ((u_1 - x_1) - (1 : Int)) (p_bin (p_bin h_u_1 (h9.at (i := 7) rfl) f_sub) rfl f_sub) (fun left_0 h_left_0 => (sasg h_left_0 rfl (have h10 := Fr.set (i := 8) (d := (Val.int left_0).d) h9 rfl; (sseq (sbind h10 (compF_m (e := dL Val.int) (p_valI (p_bin (h10.at (i := 0) rfl) rfl (f_at (ds := [((vT Val.int) web_0.1).d, ((vT Val.int) web_0.2.1).d, ((vT (v3 Val.int Val.int Val.int)) web_0.2.2).d]) 2 rfl)) f_itT) (dL_len _ _) (comp_m (ea := (fun a => ((v3 Val.int Val.int Val.int) a).d)) (e := (fun a => (Val.int a).d)) (mc := fun x_2 => (if (decide (x_2.1 = s_0.1)) = true then ((atM v_1 x_2.2.1).bind fun g_4 => (if (!g_4.isNone) = true then ((atM v_1 x_2.2.1).bind fun g_5 => .ok (decide (g_5 = (some left_0)))) else .ok false).bind fun b_1 => .ok b_1) else .ok false).bind fun b_2 => .ok b_2) (mg := fun x_2 => .ok x_2.2.1) gnone (fun x_2 => have h11 := (Fr.set (i := 12) (d := (Val.int x_2.2.2).d) (Fr.set (i := 11) (d := (Val.int x_2.2.1).d) (Fr.set (i := 10) (d := (Val.int x_2.1).d) (Fr.wipe (i := 10) (Fr.wipe (i := 11) (Fr.wipe (i := 12) h10))) rfl) rfl) rfl); ⟨_, rfl, (rbind (m_andT (p_cmpT (h11.at (i := 10) rfl) (h11.at (i := 5) rfl) (f_eq (e := Val.int) (x := x_2.1) (y := s_0.1) EQ.int)) (rbind (m_bin (h11.at (i := 3) rfl) (h11.at (i := 11) rfl) m_idxL) (fun ex he => (andT_e (cmpT_e1 he))) (fun g_4 h_g_4 => (rbind (m_andT (p_cmpT h_g_4 rfl (f_isn (f_isO NN.int))) (rbind (m_bin (h11.at (i := 3) rfl) (h11.at (i := 11) rfl) m_idxL) (fun ex he => (cmpT_e1 he)) (fun g_5 h_g_5 => (rg_ok (p_cmpT h_g_5 (h11.at (i := 8) rfl) (f_eq (e := (vO Val.int)) (x := g_5) (y := (some left_0)) ((EQ.int).vO NN.int))))))) (fun ex he => he) (fun b_1 h_b_1 => (rg_ok h_b_1)))))) (fun ex he => he) (fun b_2 h_b_2 => (rg_ok h_b_2))), (rg_ok (h11.at (i := 11) rfl))⟩) web_0.2.2)) (fun ex he => (asg_er (blt_e (cons_e1 (frz_e he))))) (fun l_1 h_l_1 => (sbind h10 (m_blt (p_cons (p_frzL h_l_1) p_nil) (m_minL ORD.int)) (fun ex he => (asg_er he)) (fun n_1 h_n_1 => (sasg h_n_1 rfl (have h12 := Fr.set (i := 5) (d := (Val.int n_1).d) h10 rfl; (sapp (e := Val.int) h12 (p := 0) rfl (h12.at (i := 6) rfl) (h12.at (i := 5) rfl) (fun ys_0 h13 => (endL (P := (fun (s : Int × (List Int)) env S => Fr S0 [] 13 env S [(0, some ((v3 (vT Val.int) (vT Val.int) (vT (v3 Val.int Val.int Val.int))) web_0).d), (1, some (Val.int account_0).d), (2, some ((vL (vO Val.int)) v_0).d), (3, some ((vL (vO Val.int)) v_1).d), (4, some ((vO Val.int) g_1).d), (5, some (Val.int s.1).d), (6, some (rf k0_0))] [(k0_0, .lst (dL Val.int s.2))])) (s := (n_1, ys_0)) ((h13.re (.cons (i := 0) (h13.get rfl) (.cons (i := 1) (h13.get rfl) (.cons (i := 2) (h13.get rfl) (.cons (i := 3) (h13.get rfl) (.cons (i := 4) (h13.get rfl) (.cons (i := 5) (h13.get rfl) (.cons (i := 6) (h13.get rfl) (h13.nilL))))))))).pick [0]))))))))))))))))))⟩) rg_0 (n_0, way_0) ((h7.re (.cons (i := 0) (h7.get rfl) (.cons (i := 1) (h7.get rfl) (.cons (i := 2) (h7.get rfl) (.cons (i := 3) (h7.get rfl) (.cons (i := 4) (h7.get rfl) (.cons (i := 5) (h7.get rfl) (.cons (i := 6) (h7.get rfl) (h7.nilL))))))))).pick [0])) (fun s_1 env S h14 => (sret (p_blt (p_cons (h14.at (i := 6) rfl) p_nil) (f_tupC (getC h14 0 rfl))) (okR (e := (vO (vT Val.int))) (v := (some s_1.2)) (retV h14 ((vO (vT Val.int)) (some s_1.2)))))))))))))))))))))))))))))))))))))))))))))))
theorem t__law_web (m : Nat) (hm : 2 ≤ m) (S0 : Sto) (numbers_0 : (List Int))  :
    RE (Cn m 27 [((vL Val.int) numbers_0).d] S0) S0 (f__law_web numbers_0) (v3 (vT Val.int) (vT Val.int) (vT (v3 Val.int Val.int Val.int))) := by
  cases m with
  | zero => exact absurd hm (by omega)
  | succ m =>
  have h0 : Fr S0 [] 12 [some ((vL Val.int) numbers_0).d, none, none, none, none, none, none, none, none, none, none, none] S0 [(0, some ((vL Val.int) numbers_0).d)] [] := Fr.begin rfl (.cons (i := 0) rfl (.start rfl))
  have hr := (run__law_web m (((vL Val.int) numbers_0).d) S0)
  rw [hr]
  refine fn_of2 ?_
  unfold b__law_web f__law_web
  exact (slast (sseq (sbind h0 (m_bin (h0.at (i := 0) rfl) rfl m_idxL) (fun ex he => (asg_er (bin_e2 rfl (bin_e1 (blt_e (cons_e1 he)))))) (fun g_0 h_g_0 => (slet (P := fun (many_0 : Int) => _ = R.ok (Val.int many_0).d _) ((1 : Int) + (g_0 % (6 : Int))) (p_bin rfl (p_bin (p_blt (p_cons h_g_0 p_nil) f_int) rfl (f_mod (by decide))) f_add) (fun many_0 h_many_0 => (sasg h_many_0 rfl (have h1 := Fr.set (i := 1) (d := (Val.int many_0).d) h0 rfl; (sseq (sbind h1 (m_rng1 (h1.at (i := 1) rfl)) (fun ex he => (asg_er (blt_e (cons_e1 (frz_e (compF_e he)))))) (fun rg_0 h_rg_0 => (sbind h1 (compF_m (e := dL Val.int) h_rg_0 (dL_len _ _) (map_m (ea := (fun a => (Val.int a).d)) (e := (fun a => (Val.int a).d)) (mg := fun x_0 => (atM numbers_0 ((1 : Int) + x_0)).bind fun g_1 => (f__law_size g_1).bind fun v_0 => .ok v_0) gnone (fun x_0 => have h2 := (Fr.set (i := 7) (d := (Val.int x_0).d) (Fr.wipe (i := 7) h1) rfl); ⟨_, rfl, (rbind (m_bin (h2.at (i := 0) rfl) (p_bin rfl (h2.at (i := 7) rfl) f_add) m_idxL) (fun ex he => (call_e (cons_e1 he))) (fun g_1 h_g_1 => (rbind (m_call (p_cons h_g_1 p_nil) (t__law_size m (by omega) _ _ )) (fun ex he => he) (fun v_0 h_v_0 => (rg_ok h_v_0)))))⟩) rg_0)) (fun ex he => (asg_er (blt_e (cons_e1 (frz_e he))))) (fun l_0 h_l_0 => (sasg (p_blt (p_cons (p_frzL h_l_0) p_nil) f_tupL) rfl (have h3 := Fr.set (i := 2) (d := ((vT Val.int) l_0).d) h1 rfl; (sseq (sbind h3 (m_rng1 (h3.at (i := 1) rfl)) (fun ex he => (asg_er (frz_e (compF_e he)))) (fun rg_1 h_rg_1 => (sbind h3 (compF_m (e := dL Val.int) h_rg_1 (dL_len _ _) (comp_m (ea := (fun a => (Val.int a).d)) (e := (fun a => (Val.int a).d)) (mc := fun x_1 => (atM numbers_0 (0 : Int)).bind fun g_2 => (f__law_power (2 : Int) x_1).bind fun v_1 => (mulM (6 : Int) v_1).bind fun n_0 => (fdivM g_2 n_0).bind fun n_1 => .ok (decide ((n_1 % (2 : Int)) = (1 : Int)))) (mg := fun x_1 => .ok x_1) gnone (fun x_1 => have h4 := (Fr.set (i := 7) (d := (Val.int x_1).d) (Fr.wipe (i := 7) h3) rfl); ⟨_, rfl, (rbind (m_bin (h4.at (i := 0) rfl) rfl m_idxL) (fun ex he => (cmpT_e1 (bin_e1 (blt_e (cons_e1 (bin_e1 he)))))) (fun g_2 h_g_2 => (rbind (m_call (p_cons rfl (p_cons (h4.at (i := 7) rfl) p_nil)) (t__law_power m (by omega) _ _ _ )) (fun ex he => (cmpT_e1 (bin_e1 (blt_e (cons_e1 (bin_e2 h_g_2 (bin_e2 rfl he))))))) (fun v_1 h_v_1 => (rbind (m_bin rfl h_v_1 m_mul) (fun ex he => (cmpT_e1 (bin_e1 (blt_e (cons_e1 (bin_e2 h_g_2 he)))))) (fun n_0 h_n_0 => (rbind (m_bin h_g_2 h_n_0 m_fdiv) (fun ex he => (cmpT_e1 (bin_e1 (blt_e (cons_e1 he))))) (fun n_1 h_n_1 => (rg_ok (p_cmpT (p_bin (p_blt (p_cons h_n_1 p_nil) f_int) rfl (f_mod (by decide))) rfl (f_eq (e := Val.int) (x := (n_1 % (2 : Int))) (y := (1 : Int)) EQ.int))))))))))), (rg_ok (h4.at (i := 7) rfl))⟩) rg_1)) (fun ex he => (asg_er (frz_e he))) (fun l_1 h_l_1 => (sasg (p_frzL h_l_1) rfl (have h5 := Fr.set (i := 3) (d := ((vL Val.int) l_1).d) h3 rfl; (sseq (slet (P := fun (founders_0 : (List Int)) => _ = R.ok ((vT Val.int) founders_0).d _) (cutT l_1 none (some (3 : Int))) (p_blt (p_cons (p_slA (h5.at (i := 3) rfl) p_noP (p_someP rfl) f_slL) p_nil) f_tupL) (fun founders_0 h_founders_0 => (sasg h_founders_0 rfl (have h6 := Fr.set (i := 4) (d := ((vT Val.int) founders_0).d) h5 rfl; (sseq (sjoin (fun (s : (List Int)) env S => Fr S0 [] 12 env S [(0, some ((vL Val.int) numbers_0).d), (1, some (Val.int many_0).d), (2, some ((vT Val.int) l_0).d), (3, some ((vL Val.int) l_1).d), (4, some ((vT Val.int) s).d)] []) (p_cmpT (h6.at (i := 4) rfl) (p_tup p_nil rfl) (f_eq (e := (vT Val.int)) (x := founders_0) (y := ([] : List Int)) (EQ.int).vT)) (fun _ => (sbind h6 (m_bin (h6.at (i := 0) rfl) rfl m_idxL) (fun ex he => (asg_er (tup_e (cons_e1 (bin_e1 (blt_e (cons_e1 (bin_e1 he)))))))) (fun g_3 h_g_3 => (sbind h6 (m_bin (p_blt (p_cons (p_bin h_g_3 rfl (f_fdiv (by decide) (by decide))) p_nil) f_int) (h6.at (i := 1) rfl) m_mod) (fun ex he => (asg_er (tup_e (cons_e1 he)))) (fun n_2 h_n_2 => (slet (P := fun (founders_1 : (List Int)) => _ = R.ok ((vT Val.int) founders_1).d _) ([n_2]) (p_tup (p_cons h_n_2 p_nil) rfl) (fun founders_1 h_founders_1 => (sasg h_founders_1 rfl (have h7 := Fr.set (i := 4) (d := ((vT Val.int) founders_1).d) h6 rfl; (endN (P := (fun (s : (List Int)) env S => Fr S0 [] 12 env S [(0, some ((vL Val.int) numbers_0).d), (1, some (Val.int many_0).d), (2, some ((vT Val.int) l_0).d), (3, some ((vL Val.int) l_1).d), (4, some ((vT Val.int) s).d)] [])) (s := founders_1) ((h7.re (.cons (i := 0) (h7.get rfl) (.cons (i := 1) (h7.get rfl) (.cons (i := 2) (h7.get rfl) (.cons (i := 3) (h7.get rfl) (.cons (i := 4) (h7.get rfl) (h7.nilL))))))).pick []))))))))))) (fun _ => (sskip (endN (P := (fun (s : (List Int)) env S => Fr S0 [] 12 env S [(0, some ((vL Val.int) numbers_0).d), (1, some (Val.int many_0).d), (2, some ((vT Val.int) l_0).d), (3, some ((vL Val.int) l_1).d), (4, some ((vT Val.int) s).d)] [])) (s := founders_0) ((h6.re (.cons (i := 0) (h6.get rfl) (.cons (i := 1) (h6.get rfl) (.cons (i := 2) (h6.get rfl) (.cons (i := 3) (h6.get rfl) (.cons (i := 4) (h6.get rfl) (h6.nilL))))))).pick [])))) (fun s_0 env S h8 => (sseq (snewk (c := .dT (dM (k2 kI kI) Val.int ([] : List ((Int × Int) × Int)))) h8 (i := 5) (fun k0_0 _ h9 => have h10 := Fr.set (i := 5) (d := rf k0_0) h9 rfl; (sseq (sjoin (fun (s : (List ((Int × Int) × Int))) env S => Fr S0 [] 12 env S [(0, some ((vL Val.int) numbers_0).d), (1, some (Val.int many_0).d), (2, some ((vT Val.int) l_0).d), (3, some ((vL Val.int) l_1).d), (4, some ((vT Val.int) s_0).d), (5, some (rf k0_0))] [(k0_0, .dT (dM (k2 kI kI) Val.int s))]) (p_cmpT (h10.at (i := 1) rfl) rfl f_gtI) (fun _ => (sbind h10 (m_bin (h10.at (i := 0) rfl) rfl m_idxL) (fun ex he => (for_er (rng1_e (bin_e1 (blt_e (cons_e1 he)))))) (fun g_4 h_g_4 => (sbind h10 (m_rng1 (p_bin (p_blt (p_cons h_g_4 p_nil) f_int) rfl (f_mod (by decide)))) (fun ex he => (for_er he)) (fun rg_2 h_rg_2 => (sfor h_rg_2 (snext (lfold Val.int (fun (s : (List ((Int × Int) × Int))) env S => Fr S0 [] 12 env S [(0, some ((vL Val.int) numbers_0).d), (1, some (Val.int many_0).d), (2, some ((vT Val.int) l_0).d), (3, some ((vL Val.int) l_1).d), (4, some ((vT Val.int) s_0).d), (5, some (rf k0_0))] [(k0_0, .dT (dM (k2 kI kI) Val.int s))]) (fun _ _ _ _ => gnone) (fun x_2 s_1 env S h11 => ⟨_, rfl, have h12 := (Fr.set (i := 7) (d := (Val.int x_2).d) h11 rfl); (sseq (sbind h12 (m_bin (h12.at (i := 0) rfl) (p_bin rfl (h12.at (i := 7) rfl) f_add) m_idxL) (fun ex he => (asg_er he)) (fun g_5 h_g_5 => (sasg h_g_5 rfl (have h13 := Fr.set (i := 8) (d := (Val.int g_5).d) h12 rfl; (sseq (sbind h13 (m_bin (p_blt (p_cons (h13.at (i := 8) rfl) p_nil) f_int) (h13.at (i := 1) rfl) m_mod) (fun ex he => (asg_er he)) (fun n_3 h_n_3 => (sasg h_n_3 rfl (have h14 := Fr.set (i := 9) (d := (Val.int n_3).d) h13 rfl; (sseq (sbind h14 (m_bin (p_blt (p_cons (p_bin (h14.at (i := 8) rfl) rfl (f_fdiv (by decide) (by decide))) p_nil) f_int) (p_bin (h14.at (i := 1) rfl) rfl f_sub) m_mod) (fun ex he => (asg_er (bin_e1 (bin_e2 (p_bin (h14.at (i := 9) rfl) rfl f_add) he)))) (fun n_4 h_n_4 => (sbind h14 (m_bin (p_bin (p_bin (h14.at (i := 9) rfl) rfl f_add) h_n_4 f_add) (h14.at (i := 1) rfl) m_mod) (fun ex he => (asg_er he)) (fun n_5 h_n_5 => (sasg h_n_5 rfl (have h15 := Fr.set (i := 10) (d := (Val.int n_5).d) h14 rfl; (sbind h15 (m_call (p_cons (p_bin (h15.at (i := 8) rfl) rfl (f_fdiv (by decide) (by decide))) p_nil) (t__law_size m (by omega) _ _ )) (fun ex he => (put_e1 he)) (fun v_2 h_v_2 => (sdputT (e := Val.int) (KYT.v2 KYK.int KYK.int) h15 (p := 0) rfl h_v_2 (h15.at (i := 5) rfl) (p_tup (p_cons (h15.at (i := 9) rfl) (p_cons (h15.at (i := 10) rfl) p_nil)) rfl) (fun ys_0 h16 => (endL (P := (fun (s : (List ((Int × Int) × Int))) env S => Fr S0 [] 12 env S [(0, some ((vL Val.int) numbers_0).d), (1, some (Val.int many_0).d), (2, some ((vT Val.int) l_0).d), (3, some ((vL Val.int) l_1).d), (4, some ((vT Val.int) s_0).d), (5, some (rf k0_0))] [(k0_0, .dT (dM (k2 kI kI) Val.int s))])) (s := ys_0) ((h16.re (.cons (i := 0) (h16.get rfl) (.cons (i := 1) (h16.get rfl) (.cons (i := 2) (h16.get rfl) (.cons (i := 3) (h16.get rfl) (.cons (i := 4) (h16.get rfl) (.cons (i := 5) (h16.get rfl) (h16.nilL)))))))).pick [0])))))))))))))))))))))))⟩) rg_2 ([] : List ((Int × Int) × Int)) ((h10.re (.cons (i := 0) (h10.get rfl) (.cons (i := 1) (h10.get rfl) (.cons (i := 2) (h10.get rfl) (.cons (i := 3) (h10.get rfl) (.cons (i := 4) (h10.get rfl) (.cons (i := 5) (h10.get rfl) (h10.nilL)))))))).pick [0])) (fun s_2 env S h17 => (endN (P := (fun (s : (List ((Int × Int) × Int))) env S => Fr S0 [] 12 env S [(0, some ((vL Val.int) numbers_0).d), (1, some (Val.int many_0).d), (2, some ((vT Val.int) l_0).d), (3, some ((vL Val.int) l_1).d), (4, some ((vT Val.int) s_0).d), (5, some (rf k0_0))] [(k0_0, .dT (dM (k2 kI kI) Val.int s))])) (s := s_2) ((h17.re (.cons (i := 0) (h17.get rfl) (.cons (i := 1) (h17.get rfl) (.cons (i := 2) (h17.get rfl) (.cons (i := 3) (h17.get rfl) (.cons (i := 4) (h17.get rfl) (.cons (i := 5) (h17.get rfl) (h17.nilL)))))))).pick [0])))))))))) (fun _ => (sskip (endN (P := (fun (s : (List ((Int × Int) × Int))) env S => Fr S0 [] 12 env S [(0, some ((vL Val.int) numbers_0).d), (1, some (Val.int many_0).d), (2, some ((vT Val.int) l_0).d), (3, some ((vL Val.int) l_1).d), (4, some ((vT Val.int) s_0).d), (5, some (rf k0_0))] [(k0_0, .dT (dM (k2 kI kI) Val.int s))])) (s := ([] : List ((Int × Int) × Int))) ((h10.re (.cons (i := 0) (h10.get rfl) (.cons (i := 1) (h10.get rfl) (.cons (i := 2) (h10.get rfl) (.cons (i := 3) (h10.get rfl) (.cons (i := 4) (h10.get rfl) (.cons (i := 5) (h10.get rfl) (h10.nilL)))))))).pick [0])))) (fun s_3 env S h18 => (sseq (sbind h18 (m_skeysT (KYT.v2 KYK.int KYK.int) (getC h18 0 rfl) (h18.at (i := 5) rfl) (ORD.v2 (n := 0) EQ.int EQ.int ORD.int ORD.int) SRT.v2) (fun ex he => (asg_er (frz_e (compF_e (valI_e (frz_e he)))))) (fun r_0 h_r_0 => (sbind h18 (compF_m (e := dL (v3 Val.int Val.int Val.int)) (p_valI (p_frzL h_r_0) f_itL) (dL_len _ _) (map_m (ea := (fun a => ((v2 Val.int Val.int) a).d)) (e := (fun a => ((v3 Val.int Val.int Val.int) a).d)) (mg := fun x_3 => (dgetM s_3 x_3).bind fun g_6 => .ok (x_3.1, x_3.2, g_6)) gnone (fun x_3 => have h19 := (Fr.set (i := 11) (d := ((v2 Val.int Val.int) x_3).d) (Fr.wipe (i := 11) h18) rfl); ⟨_, rfl, (rbind (m_bin (h19.at (i := 5) rfl) (h19.at (i := 11) rfl) (m_dgetT (KYT.v2 KYK.int KYK.int) (getC h19 0 rfl))) (fun ex he => (tup_e (cons_e2 (p_bin (h19.at (i := 11) rfl) rfl (f_at (ds := [(Val.int x_3.1).d, (Val.int x_3.2).d]) 0 rfl)) (cons_e2 (p_bin (h19.at (i := 11) rfl) rfl (f_at (ds := [(Val.int x_3.1).d, (Val.int x_3.2).d]) 1 rfl)) (cons_e1 he))))) (fun g_6 h_g_6 => (rg_ok (p_tup (p_cons (p_bin (h19.at (i := 11) rfl) rfl (f_at (ds := [(Val.int x_3.1).d, (Val.int x_3.2).d]) 0 rfl)) (p_cons (p_bin (h19.at (i := 11) rfl) rfl (f_at (ds := [(Val.int x_3.1).d, (Val.int x_3.2).d]) 1 rfl)) (p_cons h_g_6 p_nil))) rfl))))⟩) r_0)) (fun ex he => (asg_er (frz_e he))) (fun l_2 h_l_2 => (sasg (p_frzL h_l_2) rfl (have h20 := Fr.set (i := 6) (d := ((vL (v3 Val.int Val.int Val.int)) l_2).d) h18 rfl; (sret (p_tup (p_cons (h20.at (i := 2) rfl) (p_cons (h20.at (i := 4) rfl) (p_cons (p_blt (p_cons (h20.at (i := 6) rfl) p_nil) f_tupL) p_nil))) rfl) (okR (e := (v3 (vT Val.int) (vT Val.int) (vT (v3 Val.int Val.int Val.int)))) (v := (l_0, s_0, l_2)) (retV h20 ((v3 (vT Val.int) (vT Val.int) (vT (v3 Val.int Val.int Val.int))) (l_0, s_0, l_2))))))))))))))))))))))))))))))))))))))))))))))))
theorem t_distances_to (m : Nat) (hm : 1 ≤ m) (S0 : Sto) (web_0 : ((List Int) × (List Int) × (List (Int × Int × Int)))) (account_0 : Int)  :
    RE (Cn m 19 [((v3 (vT Val.int) (vT Val.int) (vT (v3 Val.int Val.int Val.int))) web_0).d, (Val.int account_0).d] S0) S0 (f_distances_to web_0 account_0) (vL (vO Val.int)) := by
  cases m with
  | zero => exact absurd hm (by omega)
  | succ m =>
  have h0 : Fr S0 [] 9 [some ((v3 (vT Val.int) (vT Val.int) (vT (v3 Val.int Val.int Val.int))) web_0).d, some (Val.int account_0).d, none, none, none, none, none, none, none] S0 [(0, some ((v3 (vT Val.int) (vT Val.int) (vT (v3 Val.int Val.int Val.int))) web_0).d), (1, some (Val.int account_0).d)] [] := Fr.begin rfl (.cons (i := 0) rfl (.cons (i := 1) rfl (.start rfl)))
  have hr := (run_distances_to m (((v3 (vT Val.int) (vT Val.int) (vT (v3 Val.int Val.int Val.int))) web_0).d) ((Val.int account_0).d) S0)
  rw [hr]
  refine fn_of2 ?_
  unfold b_distances_to f_distances_to
  exact (slast (sseq (sbind h0 (compF_m (e := dL (vO Val.int)) (p_valI (p_bin (h0.at (i := 0) rfl) rfl (f_at (ds := [((vT Val.int) web_0.1).d, ((vT Val.int) web_0.2.1).d, ((vT (v3 Val.int Val.int Val.int)) web_0.2.2).d]) 0 rfl)) f_itT) (dL_len _ _) (rg_ok (map_p (ea := (fun a => (Val.int a).d)) (e := (fun a => ((vO Val.int) a).d)) (pg := fun x_0 => (none : Option Int)) gnone (fun x_0 => have h1 := (Fr.set (i := 6) (d := (Val.int x_0).d) (Fr.wipe (i := 6) h0) rfl); ⟨_, rfl, rfl⟩) web_0.1))) (fun ex he => (asg_er (cel_e he))) (fun l_0 h_l_0 => (slet (P := fun (far_0 : (List (Option Int))) => _ = R.ok (dL (vO Val.int) far_0) _) l_0 h_l_0 (fun far_0 h_far_0 => (scelk h_far_0 h0 (i := 2) (fun k0_0 _ h2 => have h3 := Fr.set (i := 2) (d := rf k0_0) h2 rfl; (sseq (sput (e := (vO Val.int)) h3 (p := 0) rfl rfl (h3.at (i := 2) rfl) (h3.at (i := 1) rfl) (fun ys_0 h4 => (sseq (slet (P := fun (layer_0 : (List Int)) => _ = R.ok (dL Val.int layer_0) _) ([account_0]) (p_lst (p_cons (h4.at (i := 1) rfl) p_nil) rfl) (fun layer_0 h_layer_0 => (scelk h_layer_0 h4 (i := 3) (fun k0_1 _ h5 => have h6 := Fr.set (i := 3) (d := rf k0_1) h5 rfl; (sseq (slet (P := fun (steps_0 : Int) => _ = R.ok (Val.int steps_0).d _) (0 : Int) rfl (fun steps_0 h_steps_0 => (sasg h_steps_0 rfl (have h7 := Fr.set (i := 4) (d := (Val.int steps_0).d) h6 rfl; (sseq (snext (lloop (fun (s : (List (Option Int)) × (List Int) × Int) env S => ∃ kk_0 : Nat, Fr S0 [] 9 env S [(0, some ((v3 (vT Val.int) (vT Val.int) (vT (v3 Val.int Val.int Val.int))) web_0).d), (1, some (Val.int account_0).d), (2, some (rf k0_0)), (3, some (rf kk_0)), (4, some (Val.int s.2.2).d)] [(k0_0, .lst (dL (vO Val.int) s.1)), (kk_0, .lst (dL Val.int s.2.1))]) (fun s env S h10 => (h10.elim fun k0_3 h11 => (h11.kp))) (fun s_0 env S h8 => (h8.elim fun k0_2 h9 => (rg_ok (p_tru (h9.at (i := 3) rfl) (f_tvC (getC h9 1 rfl)))))) (fun s_1 env S h12 _ => (h12.elim fun k0_4 h13 => (sseq (slet (P := fun (steps_1 : Int) => steps_1 = (s_1.2.2 + (1 : Int))) (s_1.2.2 + (1 : Int)) rfl (fun steps_1 e_steps_1 => (saug (z := (Val.int steps_1).d) h13 rfl rfl (by rw [e_steps_1]; exact f_addI) (have h14 := Fr.set (i := 4) (d := (Val.int steps_1).d) h13 rfl; (sseq (slet (P := fun (behind_0 : (List Int)) => _ = R.ok (dL Val.int behind_0) _) ([] : List Int) (p_lst p_nil rfl) (fun behind_0 h_behind_0 => (scelk h_behind_0 h14 (i := 5) (fun k0_5 _ h15 => have h16 := Fr.set (i := 5) (d := rf k0_5) h15 rfl; (sseq (sfor (p_valI (p_bin (h16.at (i := 0) rfl) rfl (f_at (ds := [((vT Val.int) web_0.1).d, ((vT Val.int) web_0.2.1).d, ((vT (v3 Val.int Val.int Val.int)) web_0.2.2).d]) 2 rfl)) f_itT) (snext (lfold (v3 Val.int Val.int Val.int) (fun (s : (List (Option Int)) × (List Int)) env S => Fr S0 [] 9 env S [(0, some ((v3 (vT Val.int) (vT Val.int) (vT (v3 Val.int Val.int Val.int))) web_0).d), (1, some (Val.int account_0).d), (2, some (rf k0_0)), (3, some (rf k0_4)), (4, some (Val.int steps_1).d), (5, some (rf k0_5))] [(k0_0, .lst (dL (vO Val.int) s.1)), (k0_4, .lst (dL Val.int s_1.2.1)), (k0_5, .lst (dL Val.int s.2))]) (fun _ _ _ _ => gnone) (fun x_1 s_2 env S h17 => ⟨_, rfl, have h18 := (Fr.set (i := 6) (d := (Val.int x_1.2.2).d) (Fr.set (i := 8) (d := (Val.int x_1.2.1).d) (Fr.set (i := 7) (d := (Val.int x_1.1).d) h17 rfl) rfl) rfl); (sbind h18 (m_andT (p_cmpT (h18.at (i := 8) rfl) (h18.at (i := 3) rfl) (f_inC (x := x_1.2.1) EQ.int (getC h18 1 rfl))) (rbind (m_bin (h18.at (i := 2) rfl) (h18.at (i := 7) rfl) (m_idxC (getC h18 0 rfl))) (fun ex he => (cmpT_e1 he)) (fun g_0 h_g_0 => (rg_ok (p_cmpT h_g_0 rfl (f_isO NN.int)))))) (fun ex he => (if_er he)) (fun b_0 h_b_0 => (sjoin (fun (s : (List (Option Int)) × (List Int)) env S => Fr S0 [] 9 env S [(0, some ((v3 (vT Val.int) (vT Val.int) (vT (v3 Val.int Val.int Val.int))) web_0).d), (1, some (Val.int account_0).d), (2, some (rf k0_0)), (3, some (rf k0_4)), (4, some (Val.int steps_1).d), (5, some (rf k0_5)), (7, some (Val.int x_1.1).d), (8, some (Val.int x_1.2.1).d)] [(k0_0, .lst (dL (vO Val.int) s.1)), (k0_4, .lst (dL Val.int s_1.2.1)), (k0_5, .lst (dL Val.int s.2))]) h_b_0 (fun _ => (sseq (sput (e := (vO Val.int)) h18 (p := 0) rfl (h18.at (i := 4) rfl) (h18.at (i := 2) rfl) (h18.at (i := 7) rfl) (fun ys_1 h19 => (sapp (e := Val.int) h19 (p := 2) rfl (h19.at (i := 5) rfl) (h19.at (i := 7) rfl) (fun ys_2 h20 => (endN (P := (fun (s : (List (Option Int)) × (List Int)) env S => Fr S0 [] 9 env S [(0, some ((v3 (vT Val.int) (vT Val.int) (vT (v3 Val.int Val.int Val.int))) web_0).d), (1, some (Val.int account_0).d), (2, some (rf k0_0)), (3, some (rf k0_4)), (4, some (Val.int steps_1).d), (5, some (rf k0_5)), (7, some (Val.int x_1.1).d), (8, some (Val.int x_1.2.1).d)] [(k0_0, .lst (dL (vO Val.int) s.1)), (k0_4, .lst (dL Val.int s_1.2.1)), (k0_5, .lst (dL Val.int s.2))])) (s := (ys_1, ys_2)) ((h20.re (.cons (i := 0) (h20.get rfl) (.cons (i := 1) (h20.get rfl) (.cons (i := 2) (h20.get rfl) (.cons (i := 3) (h20.get rfl) (.cons (i := 4) (h20.get rfl) (.cons (i := 5) (h20.get rfl) (.cons (i := 7) (h20.get rfl) (.cons (i := 8) (h20.get rfl) (h20.nilL)))))))))).pick [0, 1, 2])))))))) (fun _ => (sskip (endN (P := (fun (s : (List (Option Int)) × (List Int)) env S => Fr S0 [] 9 env S [(0, some ((v3 (vT Val.int) (vT Val.int) (vT (v3 Val.int Val.int Val.int))) web_0).d), (1, some (Val.int account_0).d), (2, some (rf k0_0)), (3, some (rf k0_4)), (4, some (Val.int steps_1).d), (5, some (rf k0_5)), (7, some (Val.int x_1.1).d), (8, some (Val.int x_1.2.1).d)] [(k0_0, .lst (dL (vO Val.int) s.1)), (k0_4, .lst (dL Val.int s_1.2.1)), (k0_5, .lst (dL Val.int s.2))])) (s := (s_2.1, s_2.2)) ((h18.re (.cons (i := 0) (h18.get rfl) (.cons (i := 1) (h18.get rfl) (.cons (i := 2) (h18.get rfl) (.cons (i := 3) (h18.get rfl) (.cons (i := 4) (h18.get rfl) (.cons (i := 5) (h18.get rfl) (.cons (i := 7) (h18.get rfl) (.cons (i := 8) (h18.get rfl) (h18.nilL)))))))))).pick [0, 1, 2])))) (fun s_3 env S h21 => (endL (P := (fun (s : (List (Option Int)) × (List Int)) env S => Fr S0 [] 9 env S [(0, some ((v3 (vT Val.int) (vT Val.int) (vT (v3 Val.int Val.int Val.int))) web_0).d), (1, some (Val.int account_0).d), (2, some (rf k0_0)), (3, some (rf k0_4)), (4, some (Val.int steps_1).d), (5, some (rf k0_5))] [(k0_0, .lst (dL (vO Val.int) s.1)), (k0_4, .lst (dL Val.int s_1.2.1)), (k0_5, .lst (dL Val.int s.2))])) (s := (s_3.1, s_3.2)) ((h21.re (.cons (i := 0) (h21.get rfl) (.cons (i := 1) (h21.get rfl) (.cons (i := 2) (h21.get rfl) (.cons (i := 3) (h21.get rfl) (.cons (i := 4) (h21.get rfl) (.cons (i := 5) (h21.get rfl) (h21.nilL)))))))).pick [0, 1, 2]))))))⟩) web_0.2.2 (s_1.1, behind_0) ((h16.re (.cons (i := 0) (h16.get rfl) (.cons (i := 1) (h16.get rfl) (.cons (i := 2) (h16.get rfl) (.cons (i := 3) (h16.get rfl) (.cons (i := 4) (h16.get rfl) (.cons (i := 5) (h16.get rfl) (h16.nilL)))))))).pick [0, 1, 2])) (fun s_4 env S h22 => (sasg (h22.at (i := 5) rfl) rfl (have h23 := Fr.set (i := 3) (d := rf k0_5) h22 rfl; (endL (P := (fun (s : (List (Option Int)) × (List Int) × Int) env S => ∃ kk_0 : Nat, Fr S0 [] 9 env S [(0, some ((v3 (vT Val.int) (vT Val.int) (vT (v3 Val.int Val.int Val.int))) web_0).d), (1, some (Val.int account_0).d), (2, some (rf k0_0)), (3, some (rf kk_0)), (4, some (Val.int s.2.2).d)] [(k0_0, .lst (dL (vO Val.int) s.1)), (kk_0, .lst (dL Val.int s.2.1))])) (s := (s_4.1, s_4.2, steps_1)) ⟨k0_5, ((h23.re (.cons (i := 0) (h23.get rfl) (.cons (i := 1) (h23.get rfl) (.cons (i := 2) (h23.get rfl) (.cons (i := 3) (h23.get rfl) (.cons (i := 4) (h23.get rfl) (h23.nilL))))))).pick [0, 2])⟩))))))))))))))))))) (ys_0, layer_0, steps_0) ⟨k0_1, ((h7.re (.cons (i := 0) (h7.get rfl) (.cons (i := 1) (h7.get rfl) (.cons (i := 2) (h7.get rfl) (.cons (i := 3) (h7.get rfl) (.cons (i := 4) (h7.get rfl) (h7.nilL))))))).pick [0, 1])⟩) (fun s_5 env S h24 => (h24.elim fun k0_6 h25 => (sret (h25.at (i := 2) rfl) (okR (e := (vL (vO Val.int))) (v := s_5.1) (retC h25 0 rfl))))))))))))))))))))))))))))
theorem t_follow_vvc (m : Nat) (hm : 1 ≤ m) (S0 : Sto) (web_0 : ((List Int) × (List Int) × (List (Int × Int × Int)))) (account_0 : Int) (found_0 : (List Int)) (k_p2 : Nat) (hc0 : S0[k_p2]? = some (.lst (dL Val.int found_0))) :
    RM S0 [k_p2] (Cn m 17 [((v3 (vT Val.int) (vT Val.int) (vT (v3 Val.int Val.int Val.int))) web_0).d, (Val.int account_0).d, rf k_p2] S0) (f_follow web_0 account_0 found_0) (fun q : Unit × (List Int) => vN q.1) (fun (q : Unit × (List Int)) (S' : Sto) => S'[k_p2]? = some (.lst (dL Val.int q.2))) := by
  cases m with
  | zero => exact absurd hm (by omega)
  | succ m =>
  have h0 : Fr S0 [k_p2] 8 [some ((v3 (vT Val.int) (vT Val.int) (vT (v3 Val.int Val.int Val.int))) web_0).d, some (Val.int account_0).d, some (rf k_p2), none, none, none, none, none] S0 [(0, some ((v3 (vT Val.int) (vT Val.int) (vT (v3 Val.int Val.int Val.int))) web_0).d), (1, some (Val.int account_0).d), (2, some (rf k_p2))] [(k_p2, .lst (dL Val.int found_0))] := Fr.begin1 rfl hc0 (.cons (i := 0) rfl (.cons (i := 1) rfl (.cons (i := 2) rfl (.start rfl))))
  have hr := (run_follow m (((v3 (vT Val.int) (vT Val.int) (vT (v3 Val.int Val.int Val.int))) web_0).d) ((Val.int account_0).d) (rf k_p2) S0)
  rw [hr]
  refine fn_ofM2 ?_
  unfold b_follow f_follow
  exact (slast (sseq (slet (P := fun (waiting_0 : (List Int)) => _ = R.ok (dL Val.int waiting_0) _) ([account_0]) (p_lst (p_cons (h0.at (i := 1) rfl) p_nil) rfl) (fun waiting_0 h_waiting_0 => (scelk h_waiting_0 h0 (i := 3) (fun k0_0 _ h1 => have h2 := Fr.set (i := 3) (d := rf k0_0) h1 rfl; (snext (lloop (fun (s : (List Int) × (List Int)) env S => Fr S0 [k_p2] 8 env S [(0, some ((v3 (vT Val.int) (vT Val.int) (vT (v3 Val.int Val.int Val.int))) web_0).d), (1, some (Val.int account_0).d), (2, some (rf k_p2)), (3, some (rf k0_0))] [(k_p2, .lst (dL Val.int s.1)), (k0_0, .lst (dL Val.int s.2))]) (fun s env S h4 => (h4.kp)) (fun s_0 env S h3 => (rg_ok (p_tru (h3.at (i := 3) rfl) (f_tvC (getC h3 1 rfl))))) (fun s_1 env S h5 _ => (sseq (spop (e := Val.int) h5 (p := 1) rfl (h5.at (i := 3) rfl) (fun x_0 ys_0 h6 => have h7 := (Fr.set (i := 4) (d := (Val.int x_0).d) h6 rfl); (tgnx rfl (sfor (p_valI (p_bin (h7.at (i := 0) rfl) rfl (f_at (ds := [((vT Val.int) web_0.1).d, ((vT Val.int) web_0.2.1).d, ((vT (v3 Val.int Val.int Val.int)) web_0.2.2).d]) 2 rfl)) f_itT) (snext (lfold (v3 Val.int Val.int Val.int) (fun (s : (List Int) × (List Int)) env S => Fr S0 [k_p2] 8 env S [(0, some ((v3 (vT Val.int) (vT Val.int) (vT (v3 Val.int Val.int Val.int))) web_0).d), (1, some (Val.int account_0).d), (2, some (rf k_p2)), (3, some (rf k0_0)), (4, some (Val.int x_0).d)] [(k_p2, .lst (dL Val.int s.1)), (k0_0, .lst (dL Val.int s.2))]) (fun _ _ _ _ => gnone) (fun x_1 s_2 env S h8 => ⟨_, rfl, have h9 := (Fr.set (i := 7) (d := (Val.int x_1.2.2).d) (Fr.set (i := 6) (d := (Val.int x_1.2.1).d) (Fr.set (i := 5) (d := (Val.int x_1.1).d) h8 rfl) rfl) rfl); (sjoin (fun (s : (List Int) × (List Int)) env S => Fr S0 [k_p2] 8 env S [(0, some ((v3 (vT Val.int) (vT Val.int) (vT (v3 Val.int Val.int Val.int))) web_0).d), (1, some (Val.int account_0).d), (2, some (rf k_p2)), (3, some (rf k0_0)), (4, some (Val.int x_0).d), (5, some (Val.int x_1.1).d), (6, some (Val.int x_1.2.1).d)] [(k_p2, .lst (dL Val.int s.1)), (k0_0, .lst (dL Val.int s.2))]) (p_andT (p_cmpT (h9.at (i := 5) rfl) (h9.at (i := 4) rfl) (f_eq (e := Val.int) (x := x_1.1) (y := x_0) EQ.int)) (p_cmpT (h9.at (i := 6) rfl) (h9.at (i := 2) rfl) (f_nin (f_inC (x := x_1.2.1) EQ.int (getC h9 0 rfl))))) (fun _ => (sseq (sapp (e := Val.int) h9 (p := 0) rfl (h9.at (i := 2) rfl) (h9.at (i := 6) rfl) (fun ys_1 h10 => (sapp (e := Val.int) h10 (p := 1) rfl (h10.at (i := 3) rfl) (h10.at (i := 6) rfl) (fun ys_2 h11 => (endN (P := (fun (s : (List Int) × (List Int)) env S => Fr S0 [k_p2] 8 env S [(0, some ((v3 (vT Val.int) (vT Val.int) (vT (v3 Val.int Val.int Val.int))) web_0).d), (1, some (Val.int account_0).d), (2, some (rf k_p2)), (3, some (rf k0_0)), (4, some (Val.int x_0).d), (5, some (Val.int x_1.1).d), (6, some (Val.int x_1.2.1).d)] [(k_p2, .lst (dL Val.int s.1)), (k0_0, .lst (dL Val.int s.2))])) (s := (ys_1, ys_2)) ((h11.re (.cons (i := 0) (h11.get rfl) (.cons (i := 1) (h11.get rfl) (.cons (i := 2) (h11.get rfl) (.cons (i := 3) (h11.get rfl) (.cons (i := 4) (h11.get rfl) (.cons (i := 5) (h11.get rfl) (.cons (i := 6) (h11.get rfl) (h11.nilL))))))))).pick [0, 1])))))))) (fun _ => (sskip (endN (P := (fun (s : (List Int) × (List Int)) env S => Fr S0 [k_p2] 8 env S [(0, some ((v3 (vT Val.int) (vT Val.int) (vT (v3 Val.int Val.int Val.int))) web_0).d), (1, some (Val.int account_0).d), (2, some (rf k_p2)), (3, some (rf k0_0)), (4, some (Val.int x_0).d), (5, some (Val.int x_1.1).d), (6, some (Val.int x_1.2.1).d)] [(k_p2, .lst (dL Val.int s.1)), (k0_0, .lst (dL Val.int s.2))])) (s := (s_2.1, s_2.2)) ((h9.re (.cons (i := 0) (h9.get rfl) (.cons (i := 1) (h9.get rfl) (.cons (i := 2) (h9.get rfl) (.cons (i := 3) (h9.get rfl) (.cons (i := 4) (h9.get rfl) (.cons (i := 5) (h9.get rfl) (.cons (i := 6) (h9.get rfl) (h9.nilL))))))))).pick [0, 1])))) (fun s_3 env S h12 => (endL (P := (fun (s : (List Int) × (List Int)) env S => Fr S0 [k_p2] 8 env S [(0, some ((v3 (vT Val.int) (vT Val.int) (vT (v3 Val.int Val.int Val.int))) web_0).d), (1, some (Val.int account_0).d), (2, some (rf k_p2)), (3, some (rf k0_0)), (4, some (Val.int x_0).d)] [(k_p2, .lst (dL Val.int s.1)), (k0_0, .lst (dL Val.int s.2))])) (s := (s_3.1, s_3.2)) ((h12.re (.cons (i := 0) (h12.get rfl) (.cons (i := 1) (h12.get rfl) (.cons (i := 2) (h12.get rfl) (.cons (i := 3) (h12.get rfl) (.cons (i := 4) (h12.get rfl) (h12.nilL))))))).pick [0, 1]))))⟩) web_0.2.2 (s_1.1, ys_0) ((h7.re (.cons (i := 0) (h7.get rfl) (.cons (i := 1) (h7.get rfl) (.cons (i := 2) (h7.get rfl) (.cons (i := 3) (h7.get rfl) (.cons (i := 4) (h7.get rfl) (h7.nilL))))))).pick [0, 1])) (fun s_4 env S h13 => (endL (P := (fun (s : (List Int) × (List Int)) env S => Fr S0 [k_p2] 8 env S [(0, some ((v3 (vT Val.int) (vT Val.int) (vT (v3 Val.int Val.int Val.int))) web_0).d), (1, some (Val.int account_0).d), (2, some (rf k_p2)), (3, some (rf k0_0))] [(k_p2, .lst (dL Val.int s.1)), (k0_0, .lst (dL Val.int s.2))])) (s := (s_4.1, s_4.2)) ((h13.re (.cons (i := 0) (h13.get rfl) (.cons (i := 1) (h13.get rfl) (.cons (i := 2) (h13.get rfl) (.cons (i := 3) (h13.get rfl) (h13.nilL)))))).pick [0, 1])))))))))) (found_0, waiting_0) ((h2.re (.cons (i := 0) (h2.get rfl) (.cons (i := 1) (h2.get rfl) (.cons (i := 2) (h2.get rfl) (.cons (i := 3) (h2.get rfl) (h2.nilL)))))).pick [0, 1])) (fun s_5 env S h14 => (okQM (retM1U (v := ((), s_5.1)) (e := (fun q : Unit × (List Int) => vN q.1)) h14 0 rfl (lt_of_some hc0) rfl (fun _ hq => hq)))))))))))
theorem t_is_sequence (m : Nat) (hm : 1 ≤ m) (S0 : Sto) (value_0 : Val)  :
    RE (Cn m 2 [(vV value_0).d] S0) S0 (f_is_sequence value_0) Val.bool := by
  cases m with
  | zero => exact absurd hm (by omega)
  | succ m =>
  have h0 : Fr S0 [] 1 [some (vV value_0).d] S0 [(0, some (vV value_0).d)] [] := Fr.begin rfl (.cons (i := 0) rfl (.start rfl))
  have hr := (run_is_sequence m ((vV value_0).d) S0)
  rw [hr]
  refine fn_of2 ?_
  unfold b_is_sequence f_is_sequence
  exact (slast (sret (p_isi (h0.at (i := 0) rfl) (kind_d _)) (okR (e := Val.bool) (v := ([Ty.tuple, Ty.list].any (isK (Val.kd value_0)))) (retV h0 (Val.bool ([Ty.tuple, Ty.list].any (isK (Val.kd value_0))))))))
theorem t_frozen : ∀ (fu m : Nat) (hm : fu + 1 ≤ m) (S0 : Sto) (value_0 : Val),
    RE (Cn m 4 [(vV value_0).d] S0) S0 (f_frozen fu value_0) vV := by
  intro fu
  induction fu with
  | zero => intros; trivial
  | succ fu ih =>
  intro m hm S0 value_0
  cases m with
  | zero => exact absurd hm (by omega)
  | succ m =>
  have h0 : Fr S0 [] 2 [some (vV value_0).d, none] S0 [(0, some (vV value_0).d)] [] := Fr.begin rfl (.cons (i := 0) rfl (.start rfl))
  have hr := (run_frozen m ((vV value_0).d) S0)
  rw [hr]
  refine fn_of2 ?_
  unfold b_frozen
  show Ref _ _ _ ((f_is_sequence value_0).bind fun v_0 => if v_0 = true then ((itemsV value_0).bind fun it_0 => ((sizeM it_0.length).bind fun _ => mapM' (fun x_0 => (f_frozen fu x_0).bind fun v_1 => .ok v_1) it_0).bind fun l_0 => .ok ((vT vV) l_0)) else .ok value_0) _
  exact (slast (sseq (sbind h0 (m_call (p_cons (h0.at (i := 0) rfl) p_nil) (t_is_sequence m (by omega) _ _ )) (fun ex he => (if_er (tru_e he))) (fun v_0 h_v_0 => (sif (p_tru h_v_0 rfl) (fun _ => (sbind h0 (m_valIV (h0.at (i := 0) rfl) m_itV) (fun ex he => (ret_er (blt_e (cons_e1 (frz_e (compF_e he)))))) (fun it_0 h_it_0 => (sbind h0 (compF_m (e := dL vV) h_it_0 (dL_len _ _) (map_m (ea := (fun a => (vV a).d)) (e := (fun a => (vV a).d)) (mg := fun x_0 => (f_frozen fu x_0).bind fun v_1 => .ok v_1) gnone (fun x_0 => have h1 := (Fr.set (i := 1) (d := (vV x_0).d) (Fr.wipe (i := 1) h0) rfl); ⟨_, rfl, (rbind (m_call (p_cons (h1.at (i := 1) rfl) p_nil) (ih m (by omega) _ _ )) (fun ex he => he) (fun v_1 h_v_1 => (rg_ok h_v_1)))⟩) it_0)) (fun ex he => (ret_er (blt_e (cons_e1 (frz_e he))))) (fun l_0 h_l_0 => (sret (p_blt (p_cons (p_frzL h_l_0) p_nil) f_tupL) (okR (e := vV) (v := ((vT vV) l_0)) (retV h0 (vV ((vT vV) l_0)))))))))) (fun _ => (sskip (sret (h0.at (i := 0) rfl) (okR (e := vV) (v := value_0) (retV h0 (vV value_0)))))))))))
theorem t_is_int (m : Nat) (hm : 1 ≤ m) (S0 : Sto) (value_0 : Val)  :
    RE (Cn m 0 [(vV value_0).d] S0) S0 (f_is_int value_0) Val.bool := by
  cases m with
  | zero => exact absurd hm (by omega)
  | succ m =>
  have h0 : Fr S0 [] 1 [some (vV value_0).d] S0 [(0, some (vV value_0).d)] [] := Fr.begin rfl (.cons (i := 0) rfl (.start rfl))
  have hr := (run_is_int m ((vV value_0).d) S0)
  rw [hr]
  refine fn_of2 ?_
  unfold b_is_int f_is_int
  exact (slast (sret (p_andE (p_isi (h0.at (i := 0) rfl) (kind_d _)) (p_notE (p_isi (h0.at (i := 0) rfl) (kind_d _)) rfl)) (okR (e := Val.bool) (v := (([Ty.int].any (isK (Val.kd value_0))) && (!([Ty.bool].any (isK (Val.kd value_0)))))) (retV h0 (Val.bool (([Ty.int].any (isK (Val.kd value_0))) && (!([Ty.bool].any (isK (Val.kd value_0))))))))))
theorem t_is_between (m : Nat) (hm : 2 ≤ m) (S0 : Sto) (value_0 : Val) (low_0 : Int) (high_0 : Int)  :
    RE (Cn m 1 [(vV value_0).d, (Val.int low_0).d, (Val.int high_0).d] S0) S0 (f_is_between value_0 low_0 high_0) Val.bool := by
  cases m with
  | zero => exact absurd hm (by omega)
  | succ m =>
  have h0 : Fr S0 [] 3 [some (vV value_0).d, some (Val.int low_0).d, some (Val.int high_0).d] S0 [(0, some (vV value_0).d), (1, some (Val.int low_0).d), (2, some (Val.int high_0).d)] [] := Fr.begin rfl (.cons (i := 0) rfl (.cons (i := 1) rfl (.cons (i := 2) rfl (.start rfl))))
  have hr := (run_is_between m ((vV value_0).d) ((Val.int low_0).d) ((Val.int high_0).d) S0)
  rw [hr]
  refine fn_of2 ?_
  unfold b_is_between f_is_between
  exact (slast (sbind h0 (m_call (p_cons (h0.at (i := 0) rfl) p_nil) (t_is_int m (by omega) _ _ )) (fun ex he => (ret_er (andE_e he))) (fun v_0 h_v_0 => (sbind h0 (m_andE h_v_0 (rbind (m_as DEC.int (h0.at (i := 0) rfl)) (fun ex he => (chn_e2 (h0.at (i := 1) rfl) he)) (fun c_0 h_c_0 => (rg_ok (p_chn (h0.at (i := 1) rfl) h_c_0 (h0.at (i := 2) rfl) f_leI f_leI))))) (fun ex he => (ret_er he)) (fun b_0 h_b_0 => (sret h_b_0 (okR (e := Val.bool) (v := b_0) (retV h0 (Val.bool b_0)))))))))
theorem t_is_account (m : Nat) (hm : 3 ≤ m) (S0 : Sto) (web_0 : ((List Int) × (List Int) × (List (Int × Int × Int)))) (value_0 : Val)  :
    RE (Cn m 12 [((v3 (vT Val.int) (vT Val.int) (vT (v3 Val.int Val.int Val.int))) web_0).d, (vV value_0).d] S0) S0 (f_is_account web_0 value_0) Val.bool := by
  cases m with
  | zero => exact absurd hm (by omega)
  | succ m =>
  have h0 : Fr S0 [] 2 [some ((v3 (vT Val.int) (vT Val.int) (vT (v3 Val.int Val.int Val.int))) web_0).d, some (vV value_0).d] S0 [(0, some ((v3 (vT Val.int) (vT Val.int) (vT (v3 Val.int Val.int Val.int))) web_0).d), (1, some (vV value_0).d)] [] := Fr.begin rfl (.cons (i := 0) rfl (.cons (i := 1) rfl (.start rfl)))
  have hr := (run_is_account m (((v3 (vT Val.int) (vT Val.int) (vT (v3 Val.int Val.int Val.int))) web_0).d) ((vV value_0).d) S0)
  rw [hr]
  refine fn_of2 ?_
  unfold b_is_account f_is_account
  exact (slast (sbind h0 (m_call (p_cons (h0.at (i := 1) rfl) (p_cons rfl (p_cons (p_bin (p_blt (p_cons (p_bin (h0.at (i := 0) rfl) rfl (f_at (ds := [((vT Val.int) web_0.1).d, ((vT Val.int) web_0.2.1).d, ((vT (v3 Val.int Val.int Val.int)) web_0.2.2).d]) 0 rfl)) p_nil) f_lenT) rfl f_sub) p_nil))) (t_is_between m (by omega) _ _ _ _ )) (fun ex he => (ret_er he)) (fun v_0 h_v_0 => (sret h_v_0 (okR (e := Val.bool) (v := v_0) (retV h0 (Val.bool v_0)))))))
theorem t_is_ascending (m : Nat) (hm : 1 ≤ m) (S0 : Sto) (values_0 : Val)  :
    RE (Cn m 5 [(vV values_0).d] S0) S0 (f_is_ascending values_0) Val.bool := by
  cases m with
  | zero => exact absurd hm (by omega)
  | succ m =>
  have h0 : Fr S0 [] 2 [some (vV values_0).d, none] S0 [(0, some (vV values_0).d)] [] := Fr.begin rfl (.cons (i := 0) rfl (.start rfl))
  have hr := (run_is_ascending m ((vV values_0).d) S0)
  rw [hr]
  refine fn_of2 ?_
  unfold b_is_ascending f_is_ascending
  exact (slast (sbind h0 (m_blt (p_cons (h0.at (i := 0) rfl) p_nil) m_lenV) (fun ex he => (ret_er (aa_e (rng1_e (bin_e1 he))))) (fun n_0 h_n_0 => (sbind h0 (m_rng1 (p_bin h_n_0 rfl f_sub)) (fun ex he => (ret_er (aa_e he))) (fun rg_0 h_rg_0 => (sbind h0 (aa_m h_rg_0 (all_m0 (ea := (fun a => (Val.int a).d)) (mg := fun x_0 => (idxV values_0 x_0).bind fun g_0 => (idxV values_0 (x_0 + (1 : Int))).bind fun g_1 => (ltVM g_0 g_1).bind fun q_0 => .ok q_0) gnone (fun x_0 => have h1 := (Fr.set (i := 1) (d := (Val.int x_0).d) (Fr.wipe (i := 1) h0) rfl); ⟨_, rfl, (rbind (m_bin (h1.at (i := 0) rfl) (h1.at (i := 1) rfl) m_idxV) (fun ex he => (cmp_e1 he)) (fun g_0 h_g_0 => (rbind (m_bin (h1.at (i := 0) rfl) (p_bin (h1.at (i := 1) rfl) rfl f_add) m_idxV) (fun ex he => (cmp_e2 h_g_0 he)) (fun g_1 h_g_1 => (rbind (m_cmp h_g_0 h_g_1 m_ltV) (fun ex he => he) (fun q_0 h_q_0 => (rg_ok h_q_0)))))))⟩) rg_0)) (fun ex he => (ret_er he)) (fun a_0 h_a_0 => (sret h_a_0 (okR (e := Val.bool) (v := a_0) (retV h0 (Val.bool a_0)))))))))))
theorem t_is_number_set (m : Nat) (hm : 3 ≤ m) (S0 : Sto) (value_0 : Val) (low_0 : Int) (high_0 : Int)  :
    RE (Cn m 6 [(vV value_0).d, (Val.int low_0).d, (Val.int high_0).d] S0) S0 (f_is_number_set value_0 low_0 high_0) Val.bool := by
  cases m with
  | zero => exact absurd hm (by omega)
  | succ m =>
  have h0 : Fr S0 [] 4 [some (vV value_0).d, some (Val.int low_0).d, some (Val.int high_0).d, none] S0 [(0, some (vV value_0).d), (1, some (Val.int low_0).d), (2, some (Val.int high_0).d)] [] := Fr.begin rfl (.cons (i := 0) rfl (.cons (i := 1) rfl (.cons (i := 2) rfl (.start rfl))))
  have hr := (run_is_number_set m ((vV value_0).d) ((Val.int low_0).d) ((Val.int high_0).d) S0)
  rw [hr]
  refine fn_of2 ?_
  unfold b_is_number_set f_is_number_set
  exact (slast (sseq (sbind h0 (m_call (p_cons (h0.at (i := 0) rfl) p_nil) (t_is_sequence m (by omega) _ _ )) (fun ex he => (if_er (orT_e (notT_e (tru_e he))))) (fun v_0 h_v_0 => (sbind h0 (m_orT (p_notT (p_tru h_v_0 rfl)) (rbind (m_valIV (h0.at (i := 0) rfl) m_itV) (fun ex he => (notT_e (tru_e (aa_e he)))) (fun it_0 h_it_0 => (rbind (aa_m h_it_0 (all_m0 (ea := (fun a => (vV a).d)) (mg := fun x_0 => (f_is_between x_0 low_0 high_0).bind fun v_1 => .ok v_1) gnone (fun x_0 => have h1 := (Fr.set (i := 3) (d := (vV x_0).d) (Fr.wipe (i := 3) h0) rfl); ⟨_, rfl, (rbind (m_call (p_cons (h1.at (i := 3) rfl) (p_cons (h1.at (i := 1) rfl) (p_cons (h1.at (i := 2) rfl) p_nil))) (t_is_between m (by omega) _ _ _ _ )) (fun ex he => he) (fun v_1 h_v_1 => (rg_ok h_v_1)))⟩) it_0)) (fun ex he => (notT_e (tru_e he))) (fun a_0 h_a_0 => (rg_ok (p_notT (p_tru h_a_0 rfl)))))))) (fun ex he => (if_er he)) (fun b_0 h_b_0 => (sif h_b_0 (fun _ => (sret rfl (okR (e := Val.bool) (v := false) (retV h0 (Val.bool false))))) (fun _ => (sskip (sbind h0 (m_call (p_cons (h0.at (i := 0) rfl) p_nil) (t_is_ascending m (by omega) _ _ )) (fun ex he => (ret_er he)) (fun v_2 h_v_2 => (sret h_v_2 (okR (e := Val.bool) (v := v_2) (retV h0 (Val.bool v_2)))))))))))))))
theorem t_is_row (m : Nat) (hm : 2 ≤ m) (S0 : Sto) (value_0 : Val) (many_0 : Int)  :
    RE (Cn m 3 [(vV value_0).d, (Val.int many_0).d] S0) S0 (f_is_row value_0 many_0) Val.bool := by
  cases m with
  | zero => exact absurd hm (by omega)
  | succ m =>
  have h0 : Fr S0 [] 2 [some (vV value_0).d, some (Val.int many_0).d] S0 [(0, some (vV value_0).d), (1, some (Val.int many_0).d)] [] := Fr.begin rfl (.cons (i := 0) rfl (.cons (i := 1) rfl (.start rfl)))
  have hr := (run_is_row m ((vV value_0).d) ((Val.int many_0).d) S0)
  rw [hr]
  refine fn_of2 ?_
  unfold b_is_row f_is_row
  exact (slast (sbind h0 (m_call (p_cons (h0.at (i := 0) rfl) p_nil) (t_is_sequence m (by omega) _ _ )) (fun ex he => (ret_er (andE_e he))) (fun v_0 h_v_0 => (sbind h0 (m_andE h_v_0 (rbind (m_blt (p_cons (h0.at (i := 0) rfl) p_nil) m_lenV) (fun ex he => (cmp_e1 he)) (fun n_0 h_n_0 => (rg_ok (p_cmp h_n_0 (h0.at (i := 1) rfl) (f_eq (e := Val.int) (x := n_0) (y := many_0) EQ.int)))))) (fun ex he => (ret_er he)) (fun b_0 h_b_0 => (sret h_b_0 (okR (e := Val.bool) (v := b_0) (retV h0 (Val.bool b_0)))))))))
theorem t_is_size (m : Nat) (hm : 3 ≤ m) (S0 : Sto) (value_0 : Val)  :
    RE (Cn m 8 [(vV value_0).d] S0) S0 (f_is_size value_0) Val.bool := by
  cases m with
  | zero => exact absurd hm (by omega)
  | succ m =>
  have h0 : Fr S0 [] 1 [some (vV value_0).d] S0 [(0, some (vV value_0).d)] [] := Fr.begin rfl (.cons (i := 0) rfl (.start rfl))
  have hr := (run_is_size m ((vV value_0).d) S0)
  rw [hr]
  refine fn_of2 ?_
  unfold b_is_size f_is_size
  exact (slast (sbind h0 (m_call (p_cons (h0.at (i := 0) rfl) (p_cons rfl (p_cons rfl p_nil))) (t_is_between m (by omega) _ _ _ _ )) (fun ex he => (ret_er he)) (fun v_0 h_v_0 => (sret h_v_0 (okR (e := Val.bool) (v := v_0) (retV h0 (Val.bool v_0)))))))
theorem t_is_vouchings (m : Nat) (hm : 4 ≤ m) (S0 : Sto) (value_0 : Val) (many_0 : Int)  :
    RE (Cn m 9 [(vV value_0).d, (Val.int many_0).d] S0) S0 (f_is_vouchings value_0 many_0) Val.bool := by
  cases m with
  | zero => exact absurd hm (by omega)
  | succ m =>
  have h0 : Fr S0 [] 3 [some (vV value_0).d, some (Val.int many_0).d, none] S0 [(0, some (vV value_0).d), (1, some (Val.int many_0).d)] [] := Fr.begin rfl (.cons (i := 0) rfl (.cons (i := 1) rfl (.start rfl)))
  have hr := (run_is_vouchings m ((vV value_0).d) ((Val.int many_0).d) S0)
  rw [hr]
  refine fn_of2 ?_
  unfold b_is_vouchings f_is_vouchings
  exact (slast (sseq (sbind h0 (m_call (p_cons (h0.at (i := 0) rfl) p_nil) (t_is_sequence m (by omega) _ _ )) (fun ex he => (if_er (orT_e (notT_e (tru_e he))))) (fun v_0 h_v_0 => (sbind h0 (m_orT (p_notT (p_tru h_v_0 rfl)) (rbind (m_blt (p_cons (h0.at (i := 0) rfl) p_nil) m_lenV) (fun ex he => (cmpT_e1 he)) (fun n_0 h_n_0 => (rg_ok (p_cmpT h_n_0 rfl f_gtI))))) (fun ex he => (if_er he)) (fun b_0 h_b_0 => (sif h_b_0 (fun _ => (sret rfl (okR (e := Val.bool) (v := false) (retV h0 (Val.bool false))))) (fun _ => (sskip (sseq (sbind h0 (m_valIV (h0.at (i := 0) rfl) m_itV) (fun ex he => (for_er he)) (fun it_0 h_it_0 => (sfor h_it_0 (snextF (kr := fun w_0 => .ok w_0) (lfor vV (fun (s : Unit) env S => Fr S0 [] 3 env S [(0, some (vV value_0).d), (1, some (Val.int many_0).d)] []) (QR S0 Val.bool) (fun _ _ _ _ => gnone) (fun x_0 s_0 env S h1 => ⟨_, rfl, have h2 := (Fr.set (i := 2) (d := (vV x_0).d) h1 rfl); (sseq (sbind h2 (m_call (p_cons (h2.at (i := 2) rfl) (p_cons rfl p_nil)) (t_is_row m (by omega) _ _ _ )) (fun ex he => (if_er (orT_e (notT_e (tru_e he))))) (fun v_1 h_v_1 => (sbind h2 (m_orT (p_notT (p_tru h_v_1 rfl)) (rbind (m_bin (h2.at (i := 2) rfl) rfl m_idxV) (fun ex he => (orT_e (notT_e (tru_e (call_e (cons_e1 he)))))) (fun g_0 h_g_0 => (rbind (m_call (p_cons h_g_0 (p_cons rfl (p_cons (p_bin (h2.at (i := 1) rfl) rfl f_sub) p_nil))) (t_is_between m (by omega) _ _ _ _ )) (fun ex he => (orT_e (notT_e (tru_e he)))) (fun v_2 h_v_2 => (rbind (m_orT (p_notT (p_tru h_v_2 rfl)) (rbind (m_bin (h2.at (i := 2) rfl) rfl m_idxV) (fun ex he => (notT_e (tru_e (call_e (cons_e1 he))))) (fun g_1 h_g_1 => (rbind (m_call (p_cons h_g_1 (p_cons rfl (p_cons (p_bin (h2.at (i := 1) rfl) rfl f_sub) p_nil))) (t_is_between m (by omega) _ _ _ _ )) (fun ex he => (notT_e (tru_e he))) (fun v_3 h_v_3 => (rg_ok (p_notT (p_tru h_v_3 rfl)))))))) (fun ex he => he) (fun b_1 h_b_1 => (rg_ok h_b_1)))))))) (fun ex he => (if_er he)) (fun b_2 h_b_2 => (sif h_b_2 (fun _ => (sret rfl (endBr (P := (fun (s : Unit) env S => Fr S0 [] 3 env S [(0, some (vV value_0).d), (1, some (Val.int many_0).d)] [])) (QF := (QR S0 Val.bool)) (retV h2 (Val.bool false))))) (fun _ => (sskip (sbind h2 (m_bin (h2.at (i := 2) rfl) rfl m_idxV) (fun ex he => (if_er (orT_e (cmpT_e1 he)))) (fun g_2 h_g_2 => (sbind h2 (m_bin (h2.at (i := 2) rfl) rfl m_idxV) (fun ex he => (if_er (orT_e (cmpT_e2 h_g_2 he)))) (fun g_3 h_g_3 => (sbind h2 (m_cmpT h_g_2 h_g_3 m_eqV) (fun ex he => (if_er (orT_e he))) (fun q_0 h_q_0 => (sbind h2 (m_orT h_q_0 (rbind (m_bin (h2.at (i := 2) rfl) rfl m_idxV) (fun ex he => (notT_e (tru_e (call_e (cons_e1 he))))) (fun g_4 h_g_4 => (rbind (m_call (p_cons h_g_4 p_nil) (t_is_size m (by omega) _ _ )) (fun ex he => (notT_e (tru_e he))) (fun v_4 h_v_4 => (rg_ok (p_notT (p_tru h_v_4 rfl)))))))) (fun ex he => (if_er he)) (fun b_3 h_b_3 => (sif h_b_3 (fun _ => (sret rfl (endBr (P := (fun (s : Unit) env S => Fr S0 [] 3 env S [(0, some (vV value_0).d), (1, some (Val.int many_0).d)] [])) (QF := (QR S0 Val.bool)) (retV h2 (Val.bool false))))) (fun _ => (sskip (endB' (P := (fun (s : Unit) env S => Fr S0 [] 3 env S [(0, some (vV value_0).d), (1, some (Val.int many_0).d)] [])) (QF := (QR S0 Val.bool)) (s := ()) ((h2.re (.cons (i := 0) (h2.get rfl) (.cons (i := 1) (h2.get rfl) (h2.nilL)))).pick [])))))))))))))))))))))⟩) it_0 () ((h0.re (.cons (i := 0) (h0.get rfl) (.cons (i := 1) (h0.get rfl) (h0.nilL)))).pick [])) (fun s_1 env S h3 => (sbind h3 (m_valIV (h3.at (i := 0) rfl) m_itV) (fun ex he => (ret_er (call_e (cons_e1 (frz_e (compF_e he)))))) (fun it_1 h_it_1 => (sbind h3 (compF_m (e := dL (v2 vV vV)) h_it_1 (dL_len _ _) (map_m (ea := (fun a => (vV a).d)) (e := (fun a => ((v2 vV vV) a).d)) (mg := fun x_1 => (idxV x_1 (0 : Int)).bind fun g_5 => (idxV x_1 (1 : Int)).bind fun g_6 => .ok (g_5, g_6)) gnone (fun x_1 => have h4 := (Fr.set (i := 2) (d := (vV x_1).d) (Fr.wipe (i := 2) h3) rfl); ⟨_, rfl, (rbind (m_bin (h4.at (i := 2) rfl) rfl m_idxV) (fun ex he => (tup_e (cons_e1 he))) (fun g_5 h_g_5 => (rbind (m_bin (h4.at (i := 2) rfl) rfl m_idxV) (fun ex he => (tup_e (cons_e2 h_g_5 (cons_e1 he)))) (fun g_6 h_g_6 => (rg_ok (p_tup (p_cons h_g_5 (p_cons h_g_6 p_nil)) rfl))))))⟩) it_1)) (fun ex he => (ret_er (call_e (cons_e1 (frz_e he))))) (fun l_0 h_l_0 => (sbind h3 (m_call (p_cons (p_frzL h_l_0) p_nil) (t_is_ascending m (by omega) _ _ )) (fun ex he => (ret_er he)) (fun v_5 h_v_5 => (sret h_v_5 (okR (e := Val.bool) (v := v_5) (retV h3 (Val.bool v_5))))))))))) (fun w_0 d S hq => okQ hq)))))))))))))))
theorem t_is_web (m : Nat) (hm : 5 ≤ m) (S0 : Sto) (value_0 : Val)  :
    RE (Cn m 10 [(vV value_0).d] S0) S0 (f_is_web value_0) Val.bool := by
  cases m with
  | zero => exact absurd hm (by omega)
  | succ m =>
  have h0 : Fr S0 [] 6 [some (vV value_0).d, none, none, none, none, none] S0 [(0, some (vV value_0).d)] [] := Fr.begin rfl (.cons (i := 0) rfl (.start rfl))
  have hr := (run_is_web m ((vV value_0).d) S0)
  rw [hr]
  refine fn_of2 ?_
  unfold b_is_web f_is_web
  exact (slast (sseq (sbind h0 (m_call (p_cons (h0.at (i := 0) rfl) (p_cons rfl p_nil)) (t_is_row m (by omega) _ _ _ )) (fun ex he => (if_er (notT_e (tru_e he)))) (fun v_0 h_v_0 => (sif (p_notT (p_tru h_v_0 rfl)) (fun _ => (sret rfl (okR (e := Val.bool) (v := false) (retV h0 (Val.bool false))))) (fun _ => (sskip (sseq (m_un3 (fun p_0 e_p_0 => (sasg (h0.at (i := 0) rfl) (unp_V e_p_0 rfl rfl) (have h1 := (Fr.set (i := 4) (d := (vV p_0.2.2).d) (Fr.set (i := 3) (d := (vV p_0.2.1).d) (Fr.set (i := 2) (d := (vV p_0.1).d) h0 rfl) rfl) rfl); (sseq (sbind h1 (m_call (p_cons (h1.at (i := 2) rfl) p_nil) (t_is_sequence m (by omega) _ _ )) (fun ex he => (if_er (orT_e (notT_e (tru_e he))))) (fun v_1 h_v_1 => (sbind h1 (m_orT (p_notT (p_tru h_v_1 rfl)) (rbind (m_blt (p_cons (h1.at (i := 2) rfl) p_nil) m_lenV) (fun ex he => (notT_e (chnT_e2 rfl he))) (fun n_0 h_n_0 => (rg_ok (p_notT (p_chnT rfl h_n_0 rfl f_leI f_leI)))))) (fun ex he => (if_er he)) (fun b_0 h_b_0 => (sif h_b_0 (fun _ => (sret rfl (okR (e := Val.bool) (v := false) (retV h1 (Val.bool false))))) (fun _ => (sskip (sseq (sbind h1 (m_valIV (h1.at (i := 2) rfl) m_itV) (fun ex he => (if_er (notT_e (tru_e (aa_e he))))) (fun it_0 h_it_0 => (sbind h1 (aa_m h_it_0 (all_m0 (ea := (fun a => (vV a).d)) (mg := fun x_0 => (f_is_size x_0).bind fun v_2 => .ok v_2) gnone (fun x_0 => have h2 := (Fr.set (i := 5) (d := (vV x_0).d) (Fr.wipe (i := 5) h1) rfl); ⟨_, rfl, (rbind (m_call (p_cons (h2.at (i := 5) rfl) p_nil) (t_is_size m (by omega) _ _ )) (fun ex he => he) (fun v_2 h_v_2 => (rg_ok h_v_2)))⟩) it_0)) (fun ex he => (if_er (notT_e (tru_e he)))) (fun a_0 h_a_0 => (sif (p_notT (p_tru h_a_0 rfl)) (fun _ => (sret rfl (okR (e := Val.bool) (v := false) (retV h1 (Val.bool false))))) (fun _ => (sskip (sseq (sbind h1 (m_blt (p_cons (h1.at (i := 2) rfl) p_nil) m_lenV) (fun ex he => (asg_er he)) (fun n_1 h_n_1 => (sasg h_n_1 rfl (have h3 := Fr.set (i := 1) (d := (Val.int n_1).d) h1 rfl; (sseq (sbind h3 (m_call (p_cons (h3.at (i := 3) rfl) (p_cons rfl (p_cons (p_bin (h3.at (i := 1) rfl) rfl f_sub) p_nil))) (t_is_number_set m (by omega) _ _ _ _ )) (fun ex he => (if_er (orT_e (notT_e (tru_e he))))) (fun v_3 h_v_3 => (sbind h3 (m_orT (p_notT (p_tru h_v_3 rfl)) (rbind (m_blt (p_cons (h3.at (i := 3) rfl) p_nil) m_lenV) (fun ex he => (notT_e (chnT_e2 rfl he))) (fun n_2 h_n_2 => (rg_ok (p_notT (p_chnT rfl h_n_2 rfl f_leI f_leI)))))) (fun ex he => (if_er he)) (fun b_1 h_b_1 => (sif h_b_1 (fun _ => (sret rfl (okR (e := Val.bool) (v := false) (retV h3 (Val.bool false))))) (fun _ => (sskip (sbind h3 (m_call (p_cons (h3.at (i := 4) rfl) (p_cons (h3.at (i := 1) rfl) p_nil)) (t_is_vouchings m (by omega) _ _ _ )) (fun ex he => (ret_er he)) (fun v_4 h_v_4 => (sret h_v_4 (okR (e := Val.bool) (v := v_4) (retV h3 (Val.bool v_4)))))))))))))))))))))))))))))))))))))))))))))))
theorem t_need (m : Nat) (hm : 1 ≤ m) (S0 : Sto) (test_0 : Bool) (at0_0 : Int)  :
    RE (Cn m 7 [(Val.bool test_0).d, (Val.int at0_0).d] S0) S0 (f_need test_0 at0_0) vN := by
  cases m with
  | zero => exact absurd hm (by omega)
  | succ m =>
  have h0 : Fr S0 [] 2 [some (Val.bool test_0).d, some (Val.int at0_0).d] S0 [(0, some (Val.bool test_0).d), (1, some (Val.int at0_0).d)] [] := Fr.begin rfl (.cons (i := 0) rfl (.cons (i := 1) rfl (.start rfl)))
  have hr := (run_need m ((Val.bool test_0).d) ((Val.int at0_0).d) S0)
  rw [hr]
  refine fn_of2 ?_
  unfold b_need f_need
  exact (slast (sif (p_notT (p_tru (h0.at (i := 0) rfl) rfl)) (fun _ => ref_no) (fun _ => (sskip (okU (e := vN) (retU h0) rfl)))))
theorem t_need_web (m : Nat) (hm : 14 ≤ m) (S0 : Sto) (value_0 : Val) (at0_0 : Int)  :
    RE (Cn m 11 [(vV value_0).d, (Val.int at0_0).d] S0) S0 (f_need_web value_0 at0_0) (v3 (vT Val.int) (vT Val.int) (vT (v3 Val.int Val.int Val.int))) := by
  cases m with
  | zero => exact absurd hm (by omega)
  | succ m =>
  have h0 : Fr S0 [] 2 [some (vV value_0).d, some (Val.int at0_0).d] S0 [(0, some (vV value_0).d), (1, some (Val.int at0_0).d)] [] := Fr.begin rfl (.cons (i := 0) rfl (.cons (i := 1) rfl (.start rfl)))
  have hr := (run_need_web m ((vV value_0).d) ((Val.int at0_0).d) S0)
  rw [hr]
  refine fn_of2 ?_
  unfold b_need_web f_need_web
  exact (slast (sseq (sbind h0 (m_call (p_cons (h0.at (i := 0) rfl) p_nil) (t_is_web m (by omega) _ _ )) (fun ex he => (exp_er (call_e (cons_e1 he)))) (fun v_0 h_v_0 => (sbind h0 (m_call (p_cons h_v_0 (p_cons (h0.at (i := 1) rfl) p_nil)) (t_need m (by omega) _ _ _ )) (fun ex he => (exp_er he)) (fun v_1 h_v_1 => (sexp h_v_1 (sbind h0 (m_call (p_cons (h0.at (i := 0) rfl) p_nil) (t_frozen 12 m (by omega) _ _ )) (fun ex he => (ret_er he)) (fun v_2 h_v_2 => (sbind h0 (m_as (DEC.v3 (DEC.vT DEC.int) (DEC.vT DEC.int) (DEC.vT (DEC.v3 DEC.int DEC.int DEC.int))) h_v_2) (fun ex he => (ret_er he)) (fun c_0 h_c_0 => (sret h_c_0 (okR (e := (v3 (vT Val.int) (vT Val.int) (vT (v3 Val.int Val.int Val.int)))) (v := c_0) (retV h0 ((v3 (vT Val.int) (vT Val.int) (vT (v3 Val.int Val.int Val.int))) c_0)))))))))))))))
theorem t_reached_of (m : Nat) (hm : 2 ≤ m) (S0 : Sto) (web_0 : ((List Int) × (List Int) × (List (Int × Int × Int))))  :
    RE (Cn m 16 [((v3 (vT Val.int) (vT Val.int) (vT (v3 Val.int Val.int Val.int))) web_0).d] S0) S0 (f_reached_of web_0) (vT Val.int) := by
  cases m with
  | zero => exact absurd hm (by omega)
  | succ m =>
  have h0 : Fr S0 [] 3 [some ((v3 (vT Val.int) (vT Val.int) (vT (v3 Val.int Val.int Val.int))) web_0).d, none, none] S0 [(0, some ((v3 (vT Val.int) (vT Val.int) (vT (v3 Val.int Val.int Val.int))) web_0).d)] [] := Fr.begin rfl (.cons (i := 0) rfl (.start rfl))
  have hr := (run_reached_of m (((v3 (vT Val.int) (vT Val.int) (vT (v3 Val.int Val.int Val.int))) web_0).d) S0)
  rw [hr]
  refine fn_of2 ?_
  unfold b_reached_of f_reached_of
  exact (slast (sseq (slet (P := fun (found_0 : (List Int)) => _ = R.ok (dL Val.int found_0) _) web_0.2.1 (p_bltF (p_cons (p_bin (h0.at (i := 0) rfl) rfl (f_at (ds := [((vT Val.int) web_0.1).d, ((vT Val.int) web_0.2.1).d, ((vT (v3 Val.int Val.int Val.int)) web_0.2.2).d]) 1 rfl)) p_nil) f_lstT) (fun found_0 h_found_0 => (scelk h_found_0 h0 (i := 1) (fun k0_0 _ h1 => have h2 := Fr.set (i := 1) (d := rf k0_0) h1 rfl; (sseq (sfor (p_valI (p_slA (h2.at (i := 1) rfl) p_noP p_noP (f_slC (getC h2 0 rfl))) f_itL) (snext (lfold Val.int (fun (s : (List Int)) env S => Fr S0 [] 3 env S [(0, some ((v3 (vT Val.int) (vT Val.int) (vT (v3 Val.int Val.int Val.int))) web_0).d), (1, some (rf k0_0))] [(k0_0, .lst (dL Val.int s))]) (fun _ _ _ _ => gnone) (fun x_0 s_0 env S h3 => ⟨_, rfl, have h4 := (Fr.set (i := 2) (d := (Val.int x_0).d) h3 rfl); (scall h4 (own1 h4 0 rfl) (m_callM (p_cons (h4.at (i := 0) rfl) (p_cons (h4.at (i := 2) rfl) (p_cons (h4.at (i := 1) rfl) p_nil))) (t_follow_vvc m (by omega) _ _ _ _ _ (getC h4 0 rfl))) (fun ex S' he => (exp_er he)) (fun q_0 S_q_0 hv_q_0 hk_q_0 hp_q_0 => (sexp hv_q_0 (have h5 := (Fr.called h4 0 rfl hk_q_0 hp_q_0); (endL (P := (fun (s : (List Int)) env S => Fr S0 [] 3 env S [(0, some ((v3 (vT Val.int) (vT Val.int) (vT (v3 Val.int Val.int Val.int))) web_0).d), (1, some (rf k0_0))] [(k0_0, .lst (dL Val.int s))])) (s := q_0.2) ((h5.re (.cons (i := 0) (h5.get rfl) (.cons (i := 1) (h5.get rfl) (h5.nilL)))).pick [0]))))))⟩) (cutT found_0 none none) found_0 ((h2.re (.cons (i := 0) (h2.get rfl) (.cons (i := 1) (h2.get rfl) (h2.nilL)))).pick [0])) (fun s_1 env S h6 => (sret (p_blt (p_cons (p_frzL (p_bltF (p_cons (h6.at (i := 1) rfl) p_nil) (f_sortC (getC h6 0 rfl) ORD.int SRT.int))) p_nil) f_tupL) (okR (e := (vT Val.int)) (v := (sortT ltI s_1)) (retV h6 ((vT Val.int) (sortT ltI s_1)))))))))))))))
theorem t_reached (m : Nat) (hm : 15 ≤ m) (S0 : Sto) (web_0 : Val)  :
    RE (Cn m 18 [(vV web_0).d] S0) S0 (f_reached web_0) (vT Val.int) := by
  cases m with
  | zero => exact absurd hm (by omega)
  | succ m =>
  have h0 : Fr S0 [] 1 [some (vV web_0).d] S0 [(0, some (vV web_0).d)] [] := Fr.begin rfl (.cons (i := 0) rfl (.start rfl))
  have hr := (run_reached m ((vV web_0).d) S0)
  rw [hr]
  refine fn_of2 ?_
  unfold b_reached f_reached
  exact (slast (sbind h0 (m_call (p_cons (h0.at (i := 0) rfl) (p_cons rfl p_nil)) (t_need_web m (by omega) _ _ _ )) (fun ex he => (ret_er (call_e (cons_e1 he)))) (fun v_0 h_v_0 => (sbind h0 (m_call (p_cons h_v_0 p_nil) (t_reached_of m (by omega) _ _ )) (fun ex he => (ret_er he)) (fun v_1 h_v_1 => (sret h_v_1 (okR (e := (vT Val.int)) (v := v_1) (retV h0 ((vT Val.int) v_1)))))))))
theorem t_need_account (m : Nat) (hm : 4 ≤ m) (S0 : Sto) (web_0 : ((List Int) × (List Int) × (List (Int × Int × Int)))) (value_0 : Val) (at0_0 : Int)  :
    RE (Cn m 13 [((v3 (vT Val.int) (vT Val.int) (vT (v3 Val.int Val.int Val.int))) web_0).d, (vV value_0).d, (Val.int at0_0).d] S0) S0 (f_need_account web_0 value_0 at0_0) Val.int := by
  cases m with
  | zero => exact absurd hm (by omega)
  | succ m =>
  have h0 : Fr S0 [] 3 [some ((v3 (vT Val.int) (vT Val.int) (vT (v3 Val.int Val.int Val.int))) web_0).d, some (vV value_0).d, some (Val.int at0_0).d] S0 [(0, some ((v3 (vT Val.int) (vT Val.int) (vT (v3 Val.int Val.int Val.int))) web_0).d), (1, some (vV value_0).d), (2, some (Val.int at0_0).d)] [] := Fr.begin rfl (.cons (i := 0) rfl (.cons (i := 1) rfl (.cons (i := 2) rfl (.start rfl))))
  have hr := (run_need_account m (((v3 (vT Val.int) (vT Val.int) (vT (v3 Val.int Val.int Val.int))) web_0).d) ((vV value_0).d) ((Val.int at0_0).d) S0)
  rw [hr]
  refine fn_of2 ?_
  unfold b_need_account f_need_account
  exact (slast (sseq (sbind h0 (m_call (p_cons (h0.at (i := 0) rfl) (p_cons (h0.at (i := 1) rfl) p_nil)) (t_is_account m (by omega) _ _ _ )) (fun ex he => (exp_er (call_e (cons_e1 he)))) (fun v_0 h_v_0 => (sbind h0 (m_call (p_cons h_v_0 (p_cons (h0.at (i := 2) rfl) p_nil)) (t_need m (by omega) _ _ _ )) (fun ex he => (exp_er he)) (fun v_1 h_v_1 => (sexp h_v_1 (sbind h0 (m_as DEC.int (h0.at (i := 1) rfl)) (fun ex he => (ret_er he)) (fun c_0 h_c_0 => (sret h_c_0 (okR (e := Val.int) (v := c_0) (retV h0 (Val.int c_0)))))))))))))
theorem t_vouched_by (m : Nat) (hm : 15 ≤ m) (S0 : Sto) (web_0 : Val) (account_0 : Val)  :
    RE (Cn m 14 [(vV web_0).d, (vV account_0).d] S0) S0 (f_vouched_by web_0 account_0) (vT Val.int) := by
  cases m with
  | zero => exact absurd hm (by omega)
  | succ m =>
  have h0 : Fr S0 [] 4 [some (vV web_0).d, some (vV account_0).d, none, none] S0 [(0, some (vV web_0).d), (1, some (vV account_0).d)] [] := Fr.begin rfl (.cons (i := 0) rfl (.cons (i := 1) rfl (.start rfl)))
  have hr := (run_vouched_by m ((vV web_0).d) ((vV account_0).d) S0)
  rw [hr]
  refine fn_of2 ?_
  unfold b_vouched_by f_vouched_by
  exact (slast (sseq (sbind h0 (m_call (p_cons (h0.at (i := 0) rfl) (p_cons rfl p_nil)) (t_need_web m (by omega) _ _ _ )) (fun ex he => (asg_er he)) (fun v_0 h_v_0 => (sasg h_v_0 rfl (have h1 := Fr.set (i := 0) (d := ((v3 (vT Val.int) (vT Val.int) (vT (v3 Val.int Val.int Val.int))) v_0).d) h0 rfl; (sseq (sbind h1 (m_call (p_cons (h1.at (i := 0) rfl) (p_cons (h1.at (i := 1) rfl) (p_cons rfl p_nil))) (t_need_account m (by omega) _ _ _ _ )) (fun ex he => (exp_er he)) (fun v_1 h_v_1 => (sexp h_v_1 (sbind h1 (compF_m (e := dL Val.int) (p_enuI (p_bin (h1.at (i := 0) rfl) rfl (f_at (ds := [((vT Val.int) v_0.1).d, ((vT Val.int) v_0.2.1).d, ((vT (v3 Val.int Val.int Val.int)) v_0.2.2).d]) 2 rfl)) f_enT) (dL_len _ _) (comp_m (ea := (fun a => ((v2 Val.int (v3 Val.int Val.int Val.int)) a).d)) (e := (fun a => (Val.int a).d)) (mc := fun x_0 => (eqVM (Val.int x_0.2.2.1) account_0).bind fun q_0 => .ok q_0) (mg := fun x_0 => .ok x_0.1) gnone (fun x_0 => have h2 := (Fr.set (i := 3) (d := ((v3 Val.int Val.int Val.int) x_0.2).d) (Fr.set (i := 2) (d := (Val.int x_0.1).d) (Fr.wipe (i := 2) (Fr.wipe (i := 3) h1)) rfl) rfl); ⟨_, rfl, (rbind (m_cmpT (p_bin (h2.at (i := 3) rfl) rfl (f_at (ds := [(Val.int x_0.2.1).d, (Val.int x_0.2.2.1).d, (Val.int x_0.2.2.2).d]) 1 rfl)) (h2.at (i := 1) rfl) m_eqV) (fun ex he => he) (fun q_0 h_q_0 => (rg_ok h_q_0))), (rg_ok (h2.at (i := 2) rfl))⟩) (enumI 0 v_0.2.2))) (fun ex he => (ret_er (blt_e (cons_e1 (frz_e he))))) (fun l_0 h_l_0 => (sret (p_blt (p_cons (p_frzL h_l_0) p_nil) f_tupL) (okR (e := (vT Val.int)) (v := l_0) (retV h1 ((vT Val.int) l_0))))))))))))))))
theorem t_vouches_for (m : Nat) (hm : 15 ≤ m) (S0 : Sto) (web_0 : Val) (account_0 : Val)  :
    RE (Cn m 15 [(vV web_0).d, (vV account_0).d] S0) S0 (f_vouches_for web_0 account_0) (vT Val.int) := by
  cases m with
  | zero => exact absurd hm (by omega)
  | succ m =>
  have h0 : Fr S0 [] 4 [some (vV web_0).d, some (vV account_0).d, none, none] S0 [(0, some (vV web_0).d), (1, some (vV account_0).d)] [] := Fr.begin rfl (.cons (i := 0) rfl (.cons (i := 1) rfl (.start rfl)))
  have hr := (run_vouches_for m ((vV web_0).d) ((vV account_0).d) S0)
  rw [hr]
  refine fn_of2 ?_
  unfold b_vouches_for f_vouches_for
  exact (slast (sseq (sbind h0 (m_call (p_cons (h0.at (i := 0) rfl) (p_cons rfl p_nil)) (t_need_web m (by omega) _ _ _ )) (fun ex he => (asg_er he)) (fun v_0 h_v_0 => (sasg h_v_0 rfl (have h1 := Fr.set (i := 0) (d := ((v3 (vT Val.int) (vT Val.int) (vT (v3 Val.int Val.int Val.int))) v_0).d) h0 rfl; (sseq (sbind h1 (m_call (p_cons (h1.at (i := 0) rfl) (p_cons (h1.at (i := 1) rfl) (p_cons rfl p_nil))) (t_need_account m (by omega) _ _ _ _ )) (fun ex he => (exp_er he)) (fun v_1 h_v_1 => (sexp h_v_1 (sbind h1 (compF_m (e := dL Val.int) (p_enuI (p_bin (h1.at (i := 0) rfl) rfl (f_at (ds := [((vT Val.int) v_0.1).d, ((vT Val.int) v_0.2.1).d, ((vT (v3 Val.int Val.int Val.int)) v_0.2.2).d]) 2 rfl)) f_enT) (dL_len _ _) (comp_m (ea := (fun a => ((v2 Val.int (v3 Val.int Val.int Val.int)) a).d)) (e := (fun a => (Val.int a).d)) (mc := fun x_0 => (eqVM (Val.int x_0.2.1) account_0).bind fun q_0 => .ok q_0) (mg := fun x_0 => .ok x_0.1) gnone (fun x_0 => have h2 := (Fr.set (i := 3) (d := ((v3 Val.int Val.int Val.int) x_0.2).d) (Fr.set (i := 2) (d := (Val.int x_0.1).d) (Fr.wipe (i := 2) (Fr.wipe (i := 3) h1)) rfl) rfl); ⟨_, rfl, (rbind (m_cmpT (p_bin (h2.at (i := 3) rfl) rfl (f_at (ds := [(Val.int x_0.2.1).d, (Val.int x_0.2.2.1).d, (Val.int x_0.2.2.2).d]) 0 rfl)) (h2.at (i := 1) rfl) m_eqV) (fun ex he => he) (fun q_0 h_q_0 => (rg_ok h_q_0))), (rg_ok (h2.at (i := 2) rfl))⟩) (enumI 0 v_0.2.2))) (fun ex he => (ret_er (blt_e (cons_e1 (frz_e he))))) (fun l_0 h_l_0 => (sret (p_blt (p_cons (p_frzL h_l_0) p_nil) f_tupL) (okR (e := (vT Val.int)) (v := l_0) (retV h1 ((vT Val.int) l_0))))))))))))))))
theorem t_way_to (m : Nat) (hm : 15 ≤ m) (S0 : Sto) (web_0 : Val) (account_0 : Val)  :
    RE (Cn m 20 [(vV web_0).d, (vV account_0).d] S0) S0 (f_way_to web_0 account_0) (vO (vT Val.int)) := by
  cases m with
  | zero => exact absurd hm (by omega)
  | succ m =>
  have h0 : Fr S0 [] 11 [some (vV web_0).d, some (vV account_0).d, none, none, none, none, none, none, none, none, none] S0 [(0, some (vV web_0).d), (1, some (vV account_0).d)] [] := Fr.begin rfl (.cons (i := 0) rfl (.cons (i := 1) rfl (.start rfl)))
  have hr := (run_way_to m ((vV web_0).d) ((vV account_0).d) S0)
  rw [hr]
  refine fn_of2 ?_
  unfold b_way_to f_way_to
  exact (slast (sseq (sbind h0 (m_call (p_cons (h0.at (i := 0) rfl) (p_cons rfl p_nil)) (t_need_web m (by omega) _ _ _ )) (fun ex he => (asg_er he)) (fun v_0 h_v_0 => (sasg h_v_0 rfl (have h1 := Fr.set (i := 0) (d := ((v3 (vT Val.int) (vT Val.int) (vT (v3 Val.int Val.int Val.int))) v_0).d) h0 rfl; (sseq (sbind h1 (m_call (p_cons (h1.at (i := 0) rfl) (p_cons (h1.at (i := 1) rfl) (p_cons rfl p_nil))) (t_need_account m (by omega) _ _ _ _ )) (fun ex he => (exp_er he)) (fun v_1 h_v_1 => (sexp h_v_1 (sseq (sbind h1 (m_as DEC.int (h1.at (i := 1) rfl)) (fun ex he => (asg_er (call_e (cons_e2 (h1.at (i := 0) rfl) (cons_e1 he))))) (fun c_0 h_c_0 => (sbind h1 (m_call (p_cons (h1.at (i := 0) rfl) (p_cons h_c_0 p_nil)) (t_distances_to m (by omega) _ _ _ )) (fun ex he => (asg_er he)) (fun v_2 h_v_2 => (sasg h_v_2 rfl (have h2 := Fr.set (i := 2) (d := ((vL (vO Val.int)) v_2).d) h1 rfl; (sseq (sbind h2 (compF_m (e := dL (v2 Val.int Val.int)) (p_valI (p_bin (h2.at (i := 0) rfl) rfl (f_at (ds := [((vT Val.int) v_0.1).d, ((vT Val.int) v_0.2.1).d, ((vT (v3 Val.int Val.int Val.int)) v_0.2.2).d]) 1 rfl)) f_itT) (dL_len _ _) (comp_m (ea := (fun a => (Val.int a).d)) (e := (fun a => ((v2 Val.int Val.int) a).d)) (mc := fun x_0 => (atM v_2 x_0).bind fun g_0 => .ok (!g_0.isNone)) (mg := fun x_0 => (atM v_2 x_0).bind fun g_1 => (unO g_1).bind fun u_0 => .ok (u_0, x_0)) gnone (fun x_0 => have h3 := (Fr.set (i := 7) (d := (Val.int x_0).d) (Fr.wipe (i := 7) h2) rfl); ⟨_, rfl, (rbind (m_bin (h3.at (i := 2) rfl) (h3.at (i := 7) rfl) m_idxL) (fun ex he => (cmpT_e1 he)) (fun g_0 h_g_0 => (rg_ok (p_cmpT h_g_0 rfl (f_isn (f_isO NN.int)))))), (rbind (m_bin (h3.at (i := 2) rfl) (h3.at (i := 7) rfl) m_idxL) (fun ex he => (tup_e (cons_e1 he))) (fun g_1 h_g_1 => (rbind (m_unO h_g_1) (fun ex he => (tup_e (cons_e1 he))) (fun u_0 h_u_0 => (rg_ok (p_tup (p_cons h_u_0 (p_cons (h3.at (i := 7) rfl) p_nil)) rfl))))))⟩) v_0.2.1)) (fun ex he => (asg_er (frz_e he))) (fun l_0 h_l_0 => (sasg (p_frzL h_l_0) rfl (have h4 := Fr.set (i := 3) (d := ((vL (v2 Val.int Val.int)) l_0).d) h2 rfl; (sseq (sif (p_notT (p_tru (h4.at (i := 3) rfl) f_tvL)) (fun _ => (sret rfl (okR (e := (vO (vT Val.int))) (v := (none : Option (List Int))) (retV h4 ((vO (vT Val.int)) (none : Option (List Int))))))) (fun _ => (sskip (sseq (sbind h4 (m_blt (p_cons (h4.at (i := 3) rfl) p_nil) (m_minL (ORD.v2 (n := 0) EQ.int EQ.int ORD.int ORD.int))) (fun ex he => (asg_er he)) (fun n_0 h_n_0 => (sasg h_n_0 rfl (have h5 := (Fr.set (i := 6) (d := (Val.int n_0.2).d) (Fr.set (i := 5) (d := (Val.int n_0.1).d) h4 rfl) rfl); (sseq (slet (P := fun (way_0 : (List Int)) => _ = R.ok (dL Val.int way_0) _) ([n_0.2]) (p_lst (p_cons (h5.at (i := 6) rfl) p_nil) rfl) (fun way_0 h_way_0 => (scelk h_way_0 h5 (i := 4) (fun k0_0 _ h6 => have h7 := Fr.set (i := 4) (d := rf k0_0) h6 rfl; (sseq (snext (lloop (fun (s : (List Int) × Int × Int) env S => Fr S0 [] 11 env S [(0, some ((v3 (vT Val.int) (vT Val.int) (vT (v3 Val.int Val.int Val.int))) v_0).d), (1, some (vV account_0).d), (2, some ((vL (vO Val.int)) v_2).d), (3, some ((vL (v2 Val.int Val.int)) l_0).d), (4, some (rf k0_0)), (5, some (Val.int s.2.1).d), (6, some (Val.int s.2.2).d)] [(k0_0, .lst (dL Val.int s.1))]) (fun s env S h9 => (h9.kp)) (fun s_0 env S h8 => (rg_ok (p_cmpT (h8.at (i := 5) rfl) rfl f_gtI))) (fun s_1 env S h10 _ => (sseq (slet (P := fun (left_0 : Int) => left_0 = (s_1.2.1 - (1 : Int))) (s_1.2.1 - (1 : Int)) rfl (fun left_0 e_left_0 => (saug (z := (Val.int left_0).d) h10 rfl rfl (by rw [e_left_0]; exact f_sub) (have h11 := Fr.set (i := 5) (d := (Val.int left_0).d) h10 rfl; (sseq (sbind h11 (compF_m (e := dL Val.int) (p_valI (p_bin (h11.at (i := 0) rfl) rfl (f_at (ds := [((vT Val.int) v_0.1).d, ((vT Val.int) v_0.2.1).d, ((vT (v3 Val.int Val.int Val.int)) v_0.2.2).d]) 2 rfl)) f_itT) (dL_len _ _) (comp_m (ea := (fun a => ((v3 Val.int Val.int Val.int) a).d)) (e := (fun a => (Val.int a).d)) (mc := fun x_1 => (if (decide (x_1.1 = s_1.2.2)) = true then ((atM v_2 x_1.2.1).bind fun g_2 => .ok (decide (g_2 = (some left_0)))) else .ok false).bind fun b_0 => .ok b_0) (mg := fun x_1 => .ok x_1.2.1) gnone (fun x_1 => have h12 := (Fr.set (i := 10) (d := (Val.int x_1.2.2).d) (Fr.set (i := 9) (d := (Val.int x_1.2.1).d) (Fr.set (i := 8) (d := (Val.int x_1.1).d) (Fr.wipe (i := 8) (Fr.wipe (i := 9) (Fr.wipe (i := 10) h11))) rfl) rfl) rfl); ⟨_, rfl, (rbind (m_andT (p_cmpT (h12.at (i := 8) rfl) (h12.at (i := 6) rfl) (f_eq (e := Val.int) (x := x_1.1) (y := s_1.2.2) EQ.int)) (rbind (m_bin (h12.at (i := 2) rfl) (h12.at (i := 9) rfl) m_idxL) (fun ex he => (cmpT_e1 he)) (fun g_2 h_g_2 => (rg_ok (p_cmpT h_g_2 (h12.at (i := 5) rfl) (f_eq (e := (vO Val.int)) (x := g_2) (y := (some left_0)) ((EQ.int).vO NN.int))))))) (fun ex he => he) (fun b_0 h_b_0 => (rg_ok h_b_0))), (rg_ok (h12.at (i := 9) rfl))⟩) v_0.2.2)) (fun ex he => (asg_er (blt_e (cons_e1 (frz_e he))))) (fun l_1 h_l_1 => (sbind h11 (m_blt (p_cons (p_frzL h_l_1) p_nil) (m_minL ORD.int)) (fun ex he => (asg_er he)) (fun n_1 h_n_1 => (sasg h_n_1 rfl (have h13 := Fr.set (i := 6) (d := (Val.int n_1).d) h11 rfl; (sapp (e := Val.int) h13 (p := 0) rfl (h13.at (i := 4) rfl) (h13.at (i := 6) rfl) (fun ys_0 h14 => (endL (P := (fun (s : (List Int) × Int × Int) env S => Fr S0 [] 11 env S [(0, some ((v3 (vT Val.int) (vT Val.int) (vT (v3 Val.int Val.int Val.int))) v_0).d), (1, some (vV account_0).d), (2, some ((vL (vO Val.int)) v_2).d), (3, some ((vL (v2 Val.int Val.int)) l_0).d), (4, some (rf k0_0)), (5, some (Val.int s.2.1).d), (6, some (Val.int s.2.2).d)] [(k0_0, .lst (dL Val.int s.1))])) (s := (ys_0, left_0, n_1)) ((h14.re (.cons (i := 0) (h14.get rfl) (.cons (i := 1) (h14.get rfl) (.cons (i := 2) (h14.get rfl) (.cons (i := 3) (h14.get rfl) (.cons (i := 4) (h14.get rfl) (.cons (i := 5) (h14.get rfl) (.cons (i := 6) (h14.get rfl) (h14.nilL))))))))).pick [0]))))))))))))))))) (way_0, n_0.1, n_0.2) ((h7.re (.cons (i := 0) (h7.get rfl) (.cons (i := 1) (h7.get rfl) (.cons (i := 2) (h7.get rfl) (.cons (i := 3) (h7.get rfl) (.cons (i := 4) (h7.get rfl) (.cons (i := 5) (h7.get rfl) (.cons (i := 6) (h7.get rfl) (h7.nilL))))))))).pick [0])) (fun s_2 env S h15 => (sret (p_blt (p_cons (h15.at (i := 4) rfl) p_nil) (f_tupC (getC h15 0 rfl))) (okR (e := (vO (vT Val.int))) (v := (some s_2.1)) (retV h15 ((vO (vT Val.int)) (some s_2.1))))))))))))))))))))))))))))))))))))))))))))
theorem t_law (m : Nat) (hm : 16 ≤ m) (S0 : Sto) (script_0 : (List Int))  :
    RE (Cn m 31 [((vL Val.int) script_0).d] S0) S0 (f_law script_0) Val.bool := by
  cases m with
  | zero => exact absurd hm (by omega)
  | succ m =>
  have h0 : Fr S0 [] 8 [some ((vL Val.int) script_0).d, none, none, none, none, none, none, none] S0 [(0, some ((vL Val.int) script_0).d)] [] := Fr.begin rfl (.cons (i := 0) rfl (.start rfl))
  have hr := (run_law m (((vL Val.int) script_0).d) S0)
  rw [hr]
  refine fn_of2 ?_
  unfold b_law f_law
  exact (slast (sseq (sbind h0 (m_call (p_cons (h0.at (i := 0) rfl) (p_cons rfl (p_cons rfl p_nil))) (t__law_numbers m (by omega) _ _ _ _ )) (fun ex he => (asg_er (call_e (cons_e1 he)))) (fun v_0 h_v_0 => (sbind h0 (m_call (p_cons h_v_0 p_nil) (t__law_web m (by omega) _ _ )) (fun ex he => (asg_er he)) (fun v_1 h_v_1 => (sasg h_v_1 rfl (have h1 := Fr.set (i := 1) (d := ((v3 (vT Val.int) (vT Val.int) (vT (v3 Val.int Val.int Val.int))) v_1).d) h0 rfl; (sseq (sbind h1 (m_call (p_cons (h1.at (i := 1) rfl) p_nil) (t__law_far m (by omega) _ _ )) (fun ex he => (asg_er he)) (fun v_2 h_v_2 => (sasg h_v_2 rfl (have h2 := Fr.set (i := 2) (d := ((vL (vO Val.int)) v_2).d) h1 rfl; (sseq (sbind h2 (m_rng1 (p_blt (p_cons (p_bin (h2.at (i := 1) rfl) rfl (f_at (ds := [((vT Val.int) v_1.1).d, ((vT Val.int) v_1.2.1).d, ((vT (v3 Val.int Val.int Val.int)) v_1.2.2).d]) 0 rfl)) p_nil) f_lenT)) (fun ex he => (asg_er (blt_e (cons_e1 (frz_e (compF_e he)))))) (fun rg_0 h_rg_0 => (sbind h2 (compF_m (e := dL Val.int) h_rg_0 (dL_len _ _) (comp_m (ea := (fun a => (Val.int a).d)) (e := (fun a => (Val.int a).d)) (mc := fun x_0 => (atM v_2 x_0).bind fun g_0 => .ok (!g_0.isNone)) (mg := fun x_0 => .ok x_0) gnone (fun x_0 => have h3 := (Fr.set (i := 4) (d := (Val.int x_0).d) (Fr.wipe (i := 4) h2) rfl); ⟨_, rfl, (rbind (m_bin (h3.at (i := 2) rfl) (h3.at (i := 4) rfl) m_idxL) (fun ex he => (cmpT_e1 he)) (fun g_0 h_g_0 => (rg_ok (p_cmpT h_g_0 rfl (f_isn (f_isO NN.int)))))), (rg_ok (h3.at (i := 4) rfl))⟩) rg_0)) (fun ex he => (asg_er (blt_e (cons_e1 (frz_e he))))) (fun l_0 h_l_0 => (sasg (p_blt (p_cons (p_frzL h_l_0) p_nil) f_tupL) rfl (have h4 := Fr.set (i := 3) (d := ((vT Val.int) l_0).d) h2 rfl; (sseq (sbind h4 (m_call (p_cons (h4.at (i := 1) rfl) p_nil) (t_reached m (by omega) _ _ )) (fun ex he => (if_er (orT_e (notT_e (tru_e (call_e (cons_e1 he))))))) (fun v_3 h_v_3 => (sbind h4 (m_call (p_cons h_v_3 (p_cons (h4.at (i := 3) rfl) p_nil)) (t__law_same 12 m (by omega) _ _ _ )) (fun ex he => (if_er (orT_e (notT_e (tru_e he))))) (fun v_4 h_v_4 => (sbind h4 (m_orT (p_notT (p_tru h_v_4 rfl)) (rbind (m_call (p_cons (h4.at (i := 1) rfl) p_nil) (t__law_listed 12 m (by omega) _ _ )) (fun ex he => (notT_e (tru_e (call_e (cons_e1 (call_e (cons_e1 he))))))) (fun v_5 h_v_5 => (rbind (m_call (p_cons h_v_5 p_nil) (t_reached m (by omega) _ _ )) (fun ex he => (notT_e (tru_e (call_e (cons_e1 he))))) (fun v_6 h_v_6 => (rbind (m_call (p_cons h_v_6 (p_cons (h4.at (i := 3) rfl) p_nil)) (t__law_same 12 m (by omega) _ _ _ )) (fun ex he => (notT_e (tru_e he))) (fun v_7 h_v_7 => (rg_ok (p_notT (p_tru h_v_7 rfl)))))))))) (fun ex he => (if_er he)) (fun b_0 h_b_0 => (sif h_b_0 (fun _ => (sret rfl (okR (e := Val.bool) (v := false) (retV h4 (Val.bool false))))) (fun _ => (sskip (sseq (sbind h4 (m_rng1 (p_blt (p_cons (p_bin (h4.at (i := 1) rfl) rfl (f_at (ds := [((vT Val.int) v_1.1).d, ((vT Val.int) v_1.2.1).d, ((vT (v3 Val.int Val.int Val.int)) v_1.2.2).d]) 0 rfl)) p_nil) f_lenT)) (fun ex he => (for_er he)) (fun rg_1 h_rg_1 => (sfor h_rg_1 (snextF (kr := fun w_0 => .ok w_0) (lfor Val.int (fun (s : Unit) env S => Fr S0 [] 8 env S [(0, some ((vL Val.int) script_0).d), (1, some ((v3 (vT Val.int) (vT Val.int) (vT (v3 Val.int Val.int Val.int))) v_1).d), (2, some ((vL (vO Val.int)) v_2).d), (3, some ((vT Val.int) l_0).d)] []) (QR S0 Val.bool) (fun _ _ _ _ => gnone) (fun x_1 s_0 env S h5 => ⟨_, rfl, have h6 := (Fr.set (i := 4) (d := (Val.int x_1).d) h5 rfl); (sseq (sbind h6 (m_rng1 (p_blt (p_cons (p_bin (h6.at (i := 1) rfl) rfl (f_at (ds := [((vT Val.int) v_1.1).d, ((vT Val.int) v_1.2.1).d, ((vT (v3 Val.int Val.int Val.int)) v_1.2.2).d]) 2 rfl)) p_nil) f_lenT)) (fun ex he => (asg_er (blt_e (cons_e1 (frz_e (compF_e he)))))) (fun rg_2 h_rg_2 => (sbind h6 (compF_m (e := dL Val.int) h_rg_2 (dL_len _ _) (comp_m (ea := (fun a => (Val.int a).d)) (e := (fun a => (Val.int a).d)) (mc := fun x_2 => (atM v_1.2.2 x_2).bind fun g_1 => .ok (decide (g_1.2.1 = x_1))) (mg := fun x_2 => .ok x_2) gnone (fun x_2 => have h7 := (Fr.set (i := 7) (d := (Val.int x_2).d) (Fr.wipe (i := 7) h6) rfl); ⟨_, rfl, (rbind (m_bin (p_bin (h7.at (i := 1) rfl) rfl (f_at (ds := [((vT Val.int) v_1.1).d, ((vT Val.int) v_1.2.1).d, ((vT (v3 Val.int Val.int Val.int)) v_1.2.2).d]) 2 rfl)) (h7.at (i := 7) rfl) m_idxT) (fun ex he => (cmpT_e1 (bin_e1 he))) (fun g_1 h_g_1 => (rg_ok (p_cmpT (p_bin h_g_1 rfl (f_at (ds := [(Val.int g_1.1).d, (Val.int g_1.2.1).d, (Val.int g_1.2.2).d]) 1 rfl)) (h7.at (i := 4) rfl) (f_eq (e := Val.int) (x := g_1.2.1) (y := x_1) EQ.int))))), (rg_ok (h7.at (i := 7) rfl))⟩) rg_2)) (fun ex he => (asg_er (blt_e (cons_e1 (frz_e he))))) (fun l_1 h_l_1 => (sasg (p_blt (p_cons (p_frzL h_l_1) p_nil) f_tupL) rfl (have h8 := Fr.set (i := 5) (d := ((vT Val.int) l_1).d) h6 rfl; (sseq (sbind h8 (m_rng1 (p_blt (p_cons (p_bin (h8.at (i := 1) rfl) rfl (f_at (ds := [((vT Val.int) v_1.1).d, ((vT Val.int) v_1.2.1).d, ((vT (v3 Val.int Val.int Val.int)) v_1.2.2).d]) 2 rfl)) p_nil) f_lenT)) (fun ex he => (asg_er (blt_e (cons_e1 (frz_e (compF_e he)))))) (fun rg_3 h_rg_3 => (sbind h8 (compF_m (e := dL Val.int) h_rg_3 (dL_len _ _) (comp_m (ea := (fun a => (Val.int a).d)) (e := (fun a => (Val.int a).d)) (mc := fun x_3 => (atM v_1.2.2 x_3).bind fun g_2 => .ok (decide (g_2.1 = x_1))) (mg := fun x_3 => .ok x_3) gnone (fun x_3 => have h9 := (Fr.set (i := 7) (d := (Val.int x_3).d) (Fr.wipe (i := 7) h8) rfl); ⟨_, rfl, (rbind (m_bin (p_bin (h9.at (i := 1) rfl) rfl (f_at (ds := [((vT Val.int) v_1.1).d, ((vT Val.int) v_1.2.1).d, ((vT (v3 Val.int Val.int Val.int)) v_1.2.2).d]) 2 rfl)) (h9.at (i := 7) rfl) m_idxT) (fun ex he => (cmpT_e1 (bin_e1 he))) (fun g_2 h_g_2 => (rg_ok (p_cmpT (p_bin h_g_2 rfl (f_at (ds := [(Val.int g_2.1).d, (Val.int g_2.2.1).d, (Val.int g_2.2.2).d]) 0 rfl)) (h9.at (i := 4) rfl) (f_eq (e := Val.int) (x := g_2.1) (y := x_1) EQ.int))))), (rg_ok (h9.at (i := 7) rfl))⟩) rg_3)) (fun ex he => (asg_er (blt_e (cons_e1 (frz_e he))))) (fun l_2 h_l_2 => (sasg (p_blt (p_cons (p_frzL h_l_2) p_nil) f_tupL) rfl (have h10 := Fr.set (i := 6) (d := ((vT Val.int) l_2).d) h8 rfl; (sseq (sbind h10 (m_call (p_cons (h10.at (i := 1) rfl) (p_cons (h10.at (i := 4) rfl) p_nil)) (t_vouched_by m (by omega) _ _ _ )) (fun ex he => (if_er (orT_e (notT_e (tru_e (call_e (cons_e1 he))))))) (fun v_8 h_v_8 => (sbind h10 (m_call (p_cons h_v_8 (p_cons (h10.at (i := 5) rfl) p_nil)) (t__law_same 12 m (by omega) _ _ _ )) (fun ex he => (if_er (orT_e (notT_e (tru_e he))))) (fun v_9 h_v_9 => (sbind h10 (m_orT (p_notT (p_tru h_v_9 rfl)) (rbind (m_call (p_cons (h10.at (i := 1) rfl) (p_cons (h10.at (i := 4) rfl) p_nil)) (t_vouches_for m (by omega) _ _ _ )) (fun ex he => (notT_e (tru_e (call_e (cons_e1 he))))) (fun v_10 h_v_10 => (rbind (m_call (p_cons h_v_10 (p_cons (h10.at (i := 6) rfl) p_nil)) (t__law_same 12 m (by omega) _ _ _ )) (fun ex he => (notT_e (tru_e he))) (fun v_11 h_v_11 => (rg_ok (p_notT (p_tru h_v_11 rfl)))))))) (fun ex he => (if_er he)) (fun b_1 h_b_1 => (sif h_b_1 (fun _ => (sret rfl (endBr (P := (fun (s : Unit) env S => Fr S0 [] 8 env S [(0, some ((vL Val.int) script_0).d), (1, some ((v3 (vT Val.int) (vT Val.int) (vT (v3 Val.int Val.int Val.int))) v_1).d), (2, some ((vL (vO Val.int)) v_2).d), (3, some ((vT Val.int) l_0).d)] [])) (QF := (QR S0 Val.bool)) (retV h10 (Val.bool false))))) (fun _ => (sskip (sbind h10 (m_call (p_cons (h10.at (i := 1) rfl) (p_cons (h10.at (i := 4) rfl) p_nil)) (t_way_to m (by omega) _ _ _ )) (fun ex he => (if_er (notT_e (tru_e (call_e (cons_e1 he)))))) (fun v_12 h_v_12 => (sbind h10 (m_call (p_cons (h10.at (i := 1) rfl) (p_cons (h10.at (i := 4) rfl) p_nil)) (t__law_way m (by omega) _ _ _ )) (fun ex he => (if_er (notT_e (tru_e (call_e (cons_e2 h_v_12 (cons_e1 he))))))) (fun v_13 h_v_13 => (sbind h10 (m_call (p_cons h_v_12 (p_cons h_v_13 p_nil)) (t__law_same 12 m (by omega) _ _ _ )) (fun ex he => (if_er (notT_e (tru_e he)))) (fun v_14 h_v_14 => (sif (p_notT (p_tru h_v_14 rfl)) (fun _ => (sret rfl (endBr (P := (fun (s : Unit) env S => Fr S0 [] 8 env S [(0, some ((vL Val.int) script_0).d), (1, some ((v3 (vT Val.int) (vT Val.int) (vT (v3 Val.int Val.int Val.int))) v_1).d), (2, some ((vL (vO Val.int)) v_2).d), (3, some ((vT Val.int) l_0).d)] [])) (QF := (QR S0 Val.bool)) (retV h10 (Val.bool false))))) (fun _ => (sskip (endB' (P := (fun (s : Unit) env S => Fr S0 [] 8 env S [(0, some ((vL Val.int) script_0).d), (1, some ((v3 (vT Val.int) (vT Val.int) (vT (v3 Val.int Val.int Val.int))) v_1).d), (2, some ((vL (vO Val.int)) v_2).d), (3, some ((vT Val.int) l_0).d)] [])) (QF := (QR S0 Val.bool)) (s := ()) ((h10.re (.cons (i := 0) (h10.get rfl) (.cons (i := 1) (h10.get rfl) (.cons (i := 2) (h10.get rfl) (.cons (i := 3) (h10.get rfl) (h10.nilL)))))).pick [])))))))))))))))))))))))))))))))))))⟩) rg_1 () ((h4.re (.cons (i := 0) (h4.get rfl) (.cons (i := 1) (h4.get rfl) (.cons (i := 2) (h4.get rfl) (.cons (i := 3) (h4.get rfl) (h4.nilL)))))).pick [])) (fun s_1 env S h11 => (sbind h11 (m_call (p_cons (h11.at (i := 1) rfl) p_nil) (t_reached m (by omega) _ _ )) (fun ex he => (ret_er (call_e (cons_e1 he)))) (fun v_15 h_v_15 => (sbind h11 (m_call (p_cons h_v_15 (p_cons (h11.at (i := 3) rfl) p_nil)) (t__law_same 12 m (by omega) _ _ _ )) (fun ex he => (ret_er he)) (fun v_16 h_v_16 => (sret h_v_16 (okR (e := Val.bool) (v := v_16) (retV h11 (Val.bool v_16))))))))) (fun w_0 d S hq => okQ hq))))))))))))))))))))))))))))))))))))
end K03

/-! MV: plain values, their forms. -/
namespace Py
open PySem PySem.Spec PyProof.Rows L2 Cor

/-! ### values: sizes, tuples for lists -/
mutual
def bnd : Val → Bool
  | .list xs => decide (xs.length ≤ 1000000) && bnds xs
  | .tuple xs => decide (xs.length ≤ 1000000) && bnds xs
  | _ => true
def bnds : List Val → Bool
  | [] => true
  | x :: xs => bnd x && bnds xs
end
mutual
def vdep : Val → Nat
  | .list xs => vdeps xs + 1
  | .tuple xs => vdeps xs + 1
  | _ => 0
def vdeps : List Val → Nat
  | [] => 0
  | x :: xs => max (vdep x) (vdeps xs)
end
mutual
def frz : Val → Val
  | .list xs => .tuple (frzs xs)
  | .tuple xs => .tuple (frzs xs)
  | .none => .none
  | .bool b => .bool b
  | .int i => .int i
  | .str s => .str s
def frzs : List Val → List Val
  | [] => []
  | x :: xs => frz x :: frzs xs
end
mutual
def lsd : Val → Val
  | .tuple xs => .list (lsds xs)
  | .list xs => .list xs
  | .none => .none
  | .bool b => .bool b
  | .int i => .int i
  | .str s => .str s
def lsds : List Val → List Val
  | [] => []
  | x :: xs => lsd x :: lsds xs
end
theorem frzs_map : ∀ xs, frzs xs = xs.map frz
  | [] => rfl
  | x :: xs => by rw [frzs, frzs_map xs, List.map_cons]
theorem lsds_map : ∀ xs, lsds xs = xs.map lsd
  | [] => rfl
  | x :: xs => by rw [lsds, lsds_map xs, List.map_cons]
theorem bnds_mem : ∀ {xs : List Val}, bnds xs = true → ∀ x ∈ xs, bnd x = true
  | y :: xs, h, x, m => by
    rw [bnds, Bool.and_eq_true] at h
    rcases List.mem_cons.mp m with e | m
    · rw [e]; exact h.1
    · exact bnds_mem h.2 x m
theorem bnds_of : ∀ {xs : List Val}, (∀ x ∈ xs, bnd x = true) → bnds xs = true
  | [], _ => rfl
  | y :: xs, h => by rw [bnds, h y (List.mem_cons_self ..), bnds_of fun x m => h x (List.mem_cons_of_mem _ m)]; rfl
theorem vdeps_mem : ∀ {xs : List Val} {n : Nat}, vdeps xs ≤ n → ∀ x ∈ xs, vdep x ≤ n
  | y :: xs, n, h, x, m => by
    rw [vdeps] at h
    rcases List.mem_cons.mp m with e | m
    · rw [e]; omega
    · exact vdeps_mem (by omega) x m
theorem vdeps_of : ∀ {xs : List Val} {n : Nat}, (∀ x ∈ xs, vdep x ≤ n) → vdeps xs ≤ n
  | [], _, _ => Nat.zero_le _
  | y :: xs, n, h => by
    rw [vdeps]
    have h1 := h y (List.mem_cons_self ..)
    have h2 := vdeps_of (xs := xs) fun x m => h x (List.mem_cons_of_mem _ m)
    omega
theorem items_bnd {v : Val} {xs : List Val} (h : v.items? = some xs) (b : bnd v = true) : xs.length ≤ 1000000 ∧ ∀ x ∈ xs, bnd x = true := by
  cases v <;> first | (cases h; done) | skip
  all_goals
    cases h
    rw [bnd, Bool.and_eq_true] at b
    exact ⟨of_decide_eq_true b.1, bnds_mem b.2⟩
theorem items_dep {v : Val} {xs : List Val} {n : Nat} (h : v.items? = some xs) (b : vdep v ≤ n + 1) : ∀ x ∈ xs, vdep x ≤ n := by
  cases v <;> first | (cases h; done) | skip
  all_goals
    cases h
    rw [vdep] at b
    exact vdeps_mem (by omega)
theorem frz_items {v : Val} {xs : List Val} (h : v.items? = some xs) : frz v = .tuple (xs.map frz) := by
  cases v <;> first | (cases h; done) | skip
  all_goals
    cases h
    rw [frz, frzs_map]
theorem lenV_items {v : Val} {xs : List Val} (h : v.items? = some xs) : lenV v = .ok (xs.length : Int) := by
  cases v <;> first | (cases h; done) | skip
  all_goals
    cases h
    rfl
theorem idxV_items {v : Val} {xs : List Val} (h : v.items? = some xs) (i : Int) : idxV v i = atM xs i := by unfold idxV; rw [h]
theorem itemsV_items {v : Val} {xs : List Val} (h : v.items? = some xs) : itemsV v = .ok xs := by unfold itemsV; rw [h]
theorem vals_items {v : Val} {xs : List Val} (h : v.items? = some xs) : vals v = xs := by unfold vals; rw [h]

/-! ### the checks of values.py -/
def betw (v : Val) (lo hi : Int) : Bool := match v with
  | .int i => decide (lo ≤ i) && decide (i ≤ hi)
  | _ => false
theorem isI_eq (v : Val) : f_is_int v = .ok (match v with | .int _ => true | _ => false) := by
  unfold f_is_int
  cases v <;> rfl
theorem betw_eq (v : Val) (lo hi : Int) : f_is_between v lo hi = .ok (betw v lo hi) := by
  unfold f_is_between
  rw [isI_eq]
  cases v <;> rfl
theorem isSeq_eq (v : Val) : f_is_sequence v = .ok v.items?.isSome := by
  unfold f_is_sequence
  cases v <;> rfl
def isRowB (v : Val) (n : Int) : Bool := match v.items? with
  | some xs => decide ((xs.length : Int) = n)
  | none => false
theorem isRow_eq (v : Val) (n : Int) : f_is_row v n = .ok (isRowB v n) := by
  unfold f_is_row isRowB
  rw [isSeq_eq, M.ok_bind]
  cases h : v.items? with
  | none => rfl
  | some xs =>
    rw [if_pos (show (some xs).isSome = true from rfl), lenV_items h]; rfl
theorem frozen_eq : ∀ (n : Nat) (v : Val), bnd v = true → vdep v ≤ n → f_frozen (n + 1) v = .ok (frz v)
  | n, v, b, d => by
    unfold f_frozen
    rw [isSeq_eq, M.ok_bind]
    cases h : v.items? with
    | none =>
      rw [if_neg (by decide)]
      cases v <;> first | (cases h; done) | rfl
    | some xs =>
      obtain ⟨hl, hb⟩ := items_bnd h b
      rw [if_pos (show (some xs).isSome = true from rfl), itemsV_items h, M.ok_bind, sizeM_ok hl, M.ok_bind, frz_items h]
      have hd : ∀ x ∈ xs, f_frozen n x = .ok (frz x) := fun x m => by
        cases n with
        | zero =>
          cases v <;> first | (cases h; done) | skip
          all_goals
            cases h
            rw [vdep] at d
            omega
        | succ n => exact frozen_eq n x (hb x m) (items_dep h d x m)
      rw [mapM_ok frz xs (fun x m => by rw [M.bind_pure]; exact hd x m)]
      show M.ok (Val.tuple ((xs.map frz).map vV)) = _
      rw [show (xs.map frz).map vV = xs.map frz from List.map_id _]
/-- each ahead of the next -/
def ascB {α : Type} (lt : α → α → Bool) : List α → Bool
  | x :: y :: r => lt x y && ascB lt (y :: r)
  | _ => true
theorem asc_upto {α : Type} (lt : α → α → Bool) : ∀ ys : List α, ((List.range (ys.length - 1)).all fun i => match ys[i]?, ys[i + 1]? with | some a, some b => lt a b | _, _ => true) = ascB lt ys
  | [] => rfl
  | [_] => rfl
  | x :: y :: r => by
    have ih := asc_upto lt (y :: r)
    show ((List.range (r.length + 1)).all _) = (lt x y && ascB lt (y :: r))
    rw [← ih, List.range_succ_eq_map, List.all_cons, List.all_map]
    rfl
theorem asc_eq {α : Type} {e : α → Val} {lt : α → α → Bool} {n : Nat} (h : ORD e lt n) (hn : n ≤ 64) {v : Val} {ys : List α} (hv : v.items? = some (ys.map e)) (hl : ys.length ≤ 1000000) : f_is_ascending v = .ok (ascB lt ys) := by
  unfold f_is_ascending
  rw [lenV_items hv, M.ok_bind, List.length_map]
  have hr : rngM1 ((ys.length : Int) - 1) = .ok (upto (ys.length - 1)) := by
    by_cases z : ys.length = 0
    · rw [rngM1_neg (by omega) (by omega), z]; rfl
    · exact rngM1_nat (by omega) (by omega)
  rw [hr, M.ok_bind, M.bind_pure]
  rw [all_ok (fun i => match ys[i.toNat]?, ys[i.toNat + 1]? with | some a, some b => lt a b | _, _ => true) _ (fun i hi => ?_)]
  · rw [← asc_upto]
    unfold upto
    rw [List.all_map]
    rfl
  · obtain ⟨h1, h2⟩ := upto_mem.mp hi
    have l1 : i.toNat < ys.length := by omega
    have l2 : i.toNat + 1 < ys.length := by omega
    rw [idxV_items hv, atM_some (k := i.toNat) (a := e ys[i.toNat]) (by omega) (by rw [List.getElem?_map, List.getElem?_eq_getElem l1]; rfl), M.ok_bind]
    rw [idxV_items hv, atM_some (k := i.toNat + 1) (a := e ys[i.toNat + 1]) (by omega) (by rw [List.getElem?_map, List.getElem?_eq_getElem l2]; rfl), M.ok_bind, M.bind_pure]
    rw [ltVM_of h hn, List.getElem?_eq_getElem l1, List.getElem?_eq_getElem l2]
/-- whole numbers from lo to hi -/
def nums? (lo hi : Int) : List Val → Option (List Int)
  | [] => some []
  | v :: vs => match v with
    | .int i => if lo ≤ i ∧ i ≤ hi then (nums? lo hi vs).map (i :: ·) else none
    | _ => none
theorem nums_all (lo hi : Int) : ∀ vs, vs.all (fun v => betw v lo hi) = (nums? lo hi vs).isSome
  | [] => rfl
  | v :: vs => by
    rw [List.all_cons, nums_all lo hi vs]
    cases v <;> try rfl
    rename_i i
    show ((decide (lo ≤ i) && decide (i ≤ hi)) && _) = (if lo ≤ i ∧ i ≤ hi then (nums? lo hi vs).map (i :: ·) else none).isSome
    by_cases z : lo ≤ i ∧ i ≤ hi
    · rw [if_pos z, decide_eq_true z.1, decide_eq_true z.2, Option.isSome_map]; rfl
    · rw [if_neg z, ← Bool.decide_and, decide_eq_false z]; rfl
theorem nums_map {lo hi : Int} : ∀ {vs : List Val} {ns : List Int}, nums? lo hi vs = some ns → vs = ns.map Val.int ∧ ∀ n ∈ ns, lo ≤ n ∧ n ≤ hi
  | [], ns, h => by cases h; exact ⟨rfl, fun _ m => nomatch m⟩
  | v :: vs, ns, h => by
    cases v <;> first | (cases h; done) | skip
    rename_i i
    have h : (if lo ≤ i ∧ i ≤ hi then (nums? lo hi vs).map (i :: ·) else none) = some ns := h
    by_cases z : lo ≤ i ∧ i ≤ hi
    · rw [if_pos z, Option.map_eq_some_iff] at h
      obtain ⟨ms, h1, rfl⟩ := h
      obtain ⟨a, b⟩ := nums_map h1
      refine ⟨by rw [a]; rfl, fun n m => ?_⟩
      rcases List.mem_cons.mp m with e | m
      · rw [e]; exact z
      · exact b n m
    · rw [if_neg z] at h; cases h
theorem nums_of {lo hi : Int} : ∀ {ns : List Int}, (∀ n ∈ ns, lo ≤ n ∧ n ≤ hi) → nums? lo hi (ns.map Val.int) = some ns
  | [], _ => rfl
  | n :: ns, h => by
    show (if lo ≤ n ∧ n ≤ hi then (nums? lo hi (ns.map Val.int)).map (n :: ·) else none) = _
    rw [if_pos (h n (List.mem_cons_self ..)), nums_of fun m hm => h m (List.mem_cons_of_mem _ hm)]; rfl
def filt {α : Type} (o : Option α) (p : α → Bool) : Option α := match o with
  | some a => if p a = true then some a else none
  | none => none
theorem filt_isSome {α : Type} (a : α) (p : α → Bool) : (filt (some a) p).isSome = p a := by
  unfold filt
  cases h : p a with
  | true => simp [h]
  | false => simp [h]
theorem filt_some {α : Type} {o : Option α} {p : α → Bool} {a : α} (h : filt o p = some a) : o = some a ∧ p a = true := by
  unfold filt at h
  cases o with
  | none => cases h
  | some b =>
    by_cases z : p b = true
    · simp only [if_pos z] at h; cases h; exact ⟨rfl, z⟩
    · simp only [if_neg z] at h; cases h
def numSet? (v : Val) (lo hi : Int) : Option (List Int) := match v.items? with
  | some xs => filt (nums? lo hi xs) (ascB ltI)
  | none => none
theorem numSet_eq (v : Val) (lo hi : Int) (b : bnd v = true) : f_is_number_set v lo hi = .ok (numSet? v lo hi).isSome := by
  unfold f_is_number_set numSet?
  rw [isSeq_eq, M.ok_bind]
  cases h : v.items? with
  | none => rfl
  | some xs =>
    show _ = M.ok (filt (nums? lo hi xs) (ascB ltI)).isSome
    rw [if_neg (by simp), itemsV_items h, M.ok_bind, all_ok (fun x => betw x lo hi) xs (fun x m => by rw [M.bind_pure]; exact betw_eq x lo hi), nums_all, M.ok_bind, M.ok_bind]
    cases hn : nums? lo hi xs with
    | none => rfl
    | some ns =>
      obtain ⟨e, _⟩ := nums_map hn
      rw [if_neg (by simp), M.bind_pure, asc_eq ORD.int (by decide) (by rw [h, e]) (by have := (items_bnd h b).1; rw [e, List.length_map] at this; exact this)]
      rw [filt_isSome]
theorem need_true (n : Int) : f_need true n = .ok () := by unfold f_need; rfl
end Py

/-! MW: webs. -/
namespace Py
open PySem PySem.Spec PyProof.Rows L2 Cor
abbrev Row := Int × Int × Int
abbrev Web := List Int × List Int × List Row
abbrev eRow : Row → Val := v3 Val.int Val.int Val.int
abbrev eWeb : Web → Val := v3 (vT Val.int) (vT Val.int) (vT eRow)
/-- a vouching of a web of so many accounts -/
def RowIn (many : Int) (r : Row) : Prop := (0 ≤ r.1 ∧ r.1 ≤ many - 1) ∧ (0 ≤ r.2.1 ∧ r.2.1 ≤ many - 1) ∧ r.1 ≠ r.2.1 ∧ 1 ≤ r.2.2 ∧ r.2.2 ≤ 1000
instance (many : Int) (r : Row) : Decidable (RowIn many r) := by unfold RowIn; infer_instance
def row3? (many : Int) : List Val → Option Row
  | [a, b, c] => (asI a).bind fun i => (asI b).bind fun j => (asI c).bind fun k => if RowIn many (i, j, k) then some (i, j, k) else none
  | _ => none
def row? (many : Int) (v : Val) : Option Row := match v.items? with
  | some xs => row3? many xs
  | none => none
def rows? (many : Int) : List Val → Option (List Row)
  | [] => some []
  | v :: vs => match row? many v, rows? many vs with
    | some r, some rs => some (r :: rs)
    | _, _ => none
def ltP : Int × Int → Int × Int → Bool := lt2 ltI ltI
def rowsAsc (rs : List Row) : Bool := ascB ltP (rs.map fun r => (r.1, r.2.1))
def vouch? (v : Val) (many : Int) : Option (List Row) := match v.items? with
  | some xs => if xs.length ≤ 60 then filt (rows? many xs) rowsAsc else none
  | none => none
def web3? (c f w : Val) : Option Web := match c.items? with
  | some cs => if 1 ≤ cs.length ∧ cs.length ≤ 14 then (nums? 1 1000 cs).bind fun ns => (numSet? f 0 ((cs.length : Int) - 1)).bind fun fs =>
      if 1 ≤ fs.length ∧ fs.length ≤ 3 then (vouch? w cs.length).map fun rs => (ns, fs, rs) else none
    else none
  | none => none
def web? (v : Val) : Option Web := match v.items? with
  | some xs => match xs with
    | [c, f, w] => web3? c f w
    | _ => none
  | none => none
theorem asI_some {v : Val} {i : Int} (h : asI v = some i) : v = .int i := by cases v <;> cases h; rfl
theorem row_some {many : Int} {v : Val} {r : Row} (h : row? many v = some r) : RowIn many r ∧ v.items? = some [.int r.1, .int r.2.1, .int r.2.2] := by
  unfold row? at h
  cases e : v.items? with
  | none => rw [e] at h; cases h
  | some xs =>
    rw [e] at h
    match xs, h, e with
    | [a, b, c], h, e =>
      have h : ((asI a).bind fun i => (asI b).bind fun j => (asI c).bind fun k => if RowIn many (i, j, k) then some (i, j, k) else none) = some r := h
      simp only [Option.bind_eq_some_iff] at h
      obtain ⟨i, hi, j, hj, k, hk, h⟩ := h
      by_cases z : RowIn many (i, j, k)
      · rw [if_pos z] at h
        cases h
        rw [asI_some hi, asI_some hj, asI_some hk]
        exact ⟨z, rfl⟩
      · rw [if_neg z] at h; cases h
    | [], h, _ => cases h
    | [_], h, _ => cases h
    | [_, _], h, _ => cases h
    | _ :: _ :: _ :: _ :: _, h, _ => cases h
theorem isSize_eq (v : Val) : f_is_size v = .ok (betw v 1 1000) := by unfold f_is_size; rw [betw_eq]; rfl
theorem betw_int {v : Val} {lo hi : Int} (h : betw v lo hi = true) : ∃ i, v = .int i ∧ lo ≤ i ∧ i ≤ hi := by
  cases v <;> first | (cases h; done) | skip
  rename_i i
  have h : (decide (lo ≤ i) && decide (i ≤ hi)) = true := h
  simp at h
  exact ⟨i, rfl, h⟩
theorem betw_of {i lo hi : Int} (h : lo ≤ i ∧ i ≤ hi) : betw (.int i) lo hi = true := by
  show (decide (lo ≤ i) && decide (i ≤ hi)) = true
  rw [decide_eq_true h.1, decide_eq_true h.2]; rfl
/-- one row's check -/
theorem rowBody_eq (many : Int) (v : Val) :
    ((f_is_row v (3 : Int)).bind fun v_1 => (if (!v_1) = true then .ok true else (idxV v (0 : Int)).bind fun g_0 => (f_is_between g_0 (0 : Int) (many - (1 : Int))).bind fun v_2 => (if (!v_2) = true then .ok true else (idxV v (1 : Int)).bind fun g_1 => (f_is_between g_1 (0 : Int) (many - (1 : Int))).bind fun v_3 => .ok (!v_3)).bind fun b_1 => .ok b_1).bind fun b_2 => if b_2 = true then (.ok (.rt false)) else (idxV v (0 : Int)).bind fun g_2 => (idxV v (1 : Int)).bind fun g_3 => (eqVM g_2 g_3).bind fun q_0 => (if q_0 = true then .ok true else (idxV v (2 : Int)).bind fun g_4 => (f_is_size g_4).bind fun v_4 => .ok (!v_4)).bind fun b_3 => if b_3 = true then (.ok (.rt false)) else .ok (.nx ()) : M (Ctl Unit Bool)) =
    .ok (if (row? many v).isSome = true then .nx () else .rt false) := by
  rw [isRow_eq, M.ok_bind]
  unfold isRowB row?
  cases h : v.items? with
  | none => rfl
  | some xs =>
    show _ = M.ok (if (row3? many xs).isSome = true then Ctl.nx () else .rt false)
    by_cases hl : (xs.length : Int) = 3
    · match xs, hl, h with
      | [a, b, c], hl, h =>
        have i0 : idxV v 0 = .ok a := by rw [idxV_items h]; exact atM_some (k := 0) rfl rfl
        have i1 : idxV v 1 = .ok b := by rw [idxV_items h]; exact atM_some (k := 1) rfl rfl
        have i2 : idxV v 2 = .ok c := by rw [idxV_items h]; exact atM_some (k := 2) rfl rfl
        show _ = M.ok (if ((asI a).bind fun i => (asI b).bind fun j => (asI c).bind fun k => if RowIn many (i, j, k) then some (i, j, k) else none).isSome = true then Ctl.nx () else .rt false)
        simp only [i0, i1, i2, betw_eq, isSize_eq, M.ok_bind, M.bind_pure, List.length_cons, List.length_nil]
        have no : (¬ ∃ i j k : Int, a = .int i ∧ b = .int j ∧ c = .int k ∧ RowIn many (i, j, k)) → ((asI a).bind fun i => (asI b).bind fun j => (asI c).bind fun k => if RowIn many (i, j, k) then some (i, j, k) else none).isSome = false := fun q => by
          cases ha : asI a with
          | none => rfl
          | some i =>
            cases hb : asI b with
            | none => rfl
            | some j =>
              cases hc : asI c with
              | none => rfl
              | some k =>
                show (if RowIn many (i, j, k) then some (i, j, k) else none).isSome = false
                rw [if_neg (fun r => q ⟨i, j, k, asI_some ha, asI_some hb, asI_some hc, r⟩)]; rfl
        cases ha : betw a 0 (many - 1) with
        | false =>
          rw [no fun ⟨i, j, k, e, _, _, r⟩ => by rw [e, betw_of r.1] at ha; cases ha]
          rfl
        | true =>
          obtain ⟨i, rfl, hi⟩ := betw_int ha
          cases hb : betw b 0 (many - 1) with
          | false =>
            rw [no fun ⟨i, j, k, _, e, _, r⟩ => by rw [e, betw_of r.2.1] at hb; cases hb]
            rfl
          | true =>
            obtain ⟨j, rfl, hj⟩ := betw_int hb
            simp only [eqVM_int, M.ok_bind]
            by_cases hij : i = j
            · rw [no fun ⟨i', j', k, e1, e2, _, r⟩ => by cases e1; cases e2; exact r.2.2.1 hij, decide_eq_true hij]
              rfl
            · rw [decide_eq_false hij]
              cases hc : betw c 1 1000 with
              | false =>
                rw [no fun ⟨i, j, k, _, _, e, r⟩ => by rw [e, betw_of r.2.2.2] at hc; cases hc]
                rfl
              | true =>
                obtain ⟨k, rfl, hk⟩ := betw_int hc
                show _ = M.ok (if (if RowIn many (i, j, k) then some (i, j, k) else none).isSome = true then Ctl.nx () else .rt false)
                rw [if_pos (show RowIn many (i, j, k) from ⟨hi, hj, hij, hk⟩)]
                rfl
    · have e : (decide ((xs.length : Int) = 3)) = false := decide_eq_false hl
      have e2 : row3? many xs = none := by
        match xs, hl with
        | [], _ => rfl
        | [_], _ => rfl
        | [_, _], _ => rfl
        | [_, _, _], hl => exact absurd rfl hl
        | _ :: _ :: _ :: _ :: _, _ => rfl
      simp only [e]
      rw [e2]
      rfl
theorem rows_all (many : Int) : ∀ xs : List Val, xs.all (fun v => (row? many v).isSome) = (rows? many xs).isSome
  | [] => rfl
  | v :: xs => by
    rw [List.all_cons, rows_all many xs]
    show ((row? many v).isSome && (rows? many xs).isSome) = (match row? many v, rows? many xs with | some r, some rs => some (r :: rs) | _, _ => none).isSome
    cases row? many v <;> cases rows? many xs <;> rfl
theorem rows_some {many : Int} : ∀ {xs : List Val} {rs : List Row}, rows? many xs = some rs → (∀ r ∈ rs, RowIn many r) ∧ xs.map frz = rs.map eRow ∧ xs.length = rs.length ∧ ∀ (k : Nat) (v : Val), xs[k]? = some v → ∃ r, rs[k]? = some r ∧ v.items? = some [.int r.1, .int r.2.1, .int r.2.2]
  | [], rs, h => by cases h; exact ⟨fun _ m => (nomatch m), rfl, rfl, fun k v e => by simp at e⟩
  | v :: xs, rs, h => by
    unfold rows? at h
    cases h1 : row? many v with
    | none => rw [h1] at h; cases h
    | some r =>
      cases h2 : rows? many xs with
      | none => rw [h1, h2] at h; cases h
      | some qs =>
        rw [h1, h2] at h
        cases h
        obtain ⟨a, b⟩ := row_some h1
        obtain ⟨c, d, e, f⟩ := rows_some h2
        refine ⟨fun x m => ?_, ?_, by rw [List.length_cons, List.length_cons, e], fun k w hk => ?_⟩
        · rcases List.mem_cons.mp m with z | m
          · rw [z]; exact a
          · exact c x m
        · rw [List.map_cons, List.map_cons, d, frz_items b]; rfl
        · cases k with
          | zero => cases hk; exact ⟨r, rfl, b⟩
          | succ k => exact f k w (by simpa using hk)
theorem pairs_of {many : Int} : ∀ {xs : List Val} {rs : List Row}, rows? many xs = some rs → mapM' (fun x_1 => (idxV x_1 (0 : Int)).bind fun g_5 => (idxV x_1 (1 : Int)).bind fun g_6 => .ok (g_5, g_6)) xs = .ok (rs.map fun r => (Val.int r.1, Val.int r.2.1))
  | [], rs, h => by cases h; rfl
  | v :: xs, rs, h => by
    unfold rows? at h
    cases h1 : row? many v with
    | none => rw [h1] at h; cases h
    | some r =>
      cases h2 : rows? many xs with
      | none => rw [h1, h2] at h; cases h
      | some qs =>
        rw [h1, h2] at h
        cases h
        obtain ⟨_, b⟩ := row_some h1
        have i0 : idxV v 0 = .ok (.int r.1) := by rw [idxV_items b]; exact atM_some (k := 0) rfl rfl
        have i1 : idxV v 1 = .ok (.int r.2.1) := by rw [idxV_items b]; exact atM_some (k := 1) rfl rfl
        show (M.calm ((idxV v (0 : Int)).bind fun g_5 => (idxV v (1 : Int)).bind fun g_6 => .ok (g_5, g_6))).bind _ = _
        rw [i0, M.ok_bind, i1, M.ok_bind, M.calm_ok, M.ok_bind, pairs_of h2]; rfl
theorem vouch_eq (v : Val) (many : Int) (b : bnd v = true) : f_is_vouchings v many = .ok (vouch? v many).isSome := by
  unfold f_is_vouchings vouch?
  rw [isSeq_eq, M.ok_bind]
  cases h : v.items? with
  | none => rfl
  | some xs =>
    obtain ⟨hl, hb⟩ := items_bnd h b
    rw [if_neg (by simp), lenV_items h, M.ok_bind, M.ok_bind]
    by_cases h60 : xs.length ≤ 60
    · have e : (decide ((60 : Int) < (xs.length : Int))) = false := decide_eq_false (by omega)
      show (if decide ((60 : Int) < (xs.length : Int)) = true then _ else _) = M.ok (if xs.length ≤ 60 then filt (rows? many xs) rowsAsc else none).isSome
      rw [e, if_neg (by decide), if_pos h60, itemsV_items h, M.ok_bind]
      rw [forM_check (fun v => (row? many v).isSome) false xs (fun x _ => rowBody_eq many x), rows_all]
      cases hr : rows? many xs with
      | none => rfl
      | some rs =>
        show _ = M.ok (filt (some rs) rowsAsc).isSome
        rw [if_pos (show (some rs).isSome = true from rfl), M.fin_inl, M.ok_bind, sizeM_ok hl, M.ok_bind, pairs_of hr, M.ok_bind, M.bind_pure, filt_isSome]
        have hrl : rs.length = xs.length := (rows_some hr).2.2.1.symm
        refine asc_eq (e := v2 Val.int Val.int) (ys := rs.map fun r => (r.1, r.2.1)) (ORD.v2 EQ.int EQ.int ORD.int ORD.int) (by decide) ?_ (by rw [List.length_map]; omega)
        show some ((rs.map fun r => (Val.int r.1, Val.int r.2.1)).map (v2 vV vV)) = _
        rw [List.map_map, List.map_map]; rfl
    · have e : (decide ((60 : Int) < (xs.length : Int))) = true := decide_eq_true (by omega)
      show (if decide ((60 : Int) < (xs.length : Int)) = true then _ else _) = M.ok (if xs.length ≤ 60 then filt (rows? many xs) rowsAsc else none).isSome
      rw [e, if_pos rfl, if_neg h60]; rfl
theorem un3_items {v : Val} {a b c : Val} (h : v.items? = some [a, b, c]) : un3 (vals v) = .ok (a, b, c) := by rw [vals_items h]; rfl
theorem bnd_mem {v : Val} {xs : List Val} (h : v.items? = some xs) (b : bnd v = true) {x : Val} (m : x ∈ xs) : bnd x = true := (items_bnd h b).2 x m
theorem numSet_items {v : Val} {lo hi : Int} {fs : List Int} (h : numSet? v lo hi = some fs) : v.items? = some (fs.map Val.int) ∧ (∀ n ∈ fs, lo ≤ n ∧ n ≤ hi) ∧ ascB ltI fs = true := by
  unfold numSet? at h
  cases hi' : v.items? with
  | none => rw [hi'] at h; cases h
  | some xs =>
    rw [hi'] at h
    obtain ⟨h1, h2⟩ := filt_some h
    obtain ⟨h3, h4⟩ := nums_map h1
    exact ⟨by rw [h3], h4, h2⟩
theorem isWeb_eq (v : Val) (b : bnd v = true) : f_is_web v = .ok (web? v).isSome := by
  unfold f_is_web web?
  rw [isRow_eq, M.ok_bind]
  unfold isRowB
  cases h : v.items? with
  | none => rfl
  | some xs =>
    by_cases hl : (xs.length : Int) = 3
    · match xs, hl, h with
      | [c, f, w], _, h =>
        show (if (!decide (((3 : Nat) : Int) = 3)) = true then _ else _) = M.ok (web3? c f w).isSome
        rw [if_neg (by decide), un3_items h, M.ok_bind, isSeq_eq, M.ok_bind]
        have bc := bnd_mem h b (x := c) (by simp)
        have bf := bnd_mem h b (x := f) (by simp)
        have bw := bnd_mem h b (x := w) (by simp)
        unfold web3?
        show (if (!c.items?.isSome) = true then M.ok true else _).bind _ = _
        cases hc : c.items? with
        | none => rfl
        | some cs =>
          rw [if_neg (by simp), lenV_items hc, M.ok_bind, M.ok_bind]
          show _ = M.ok (if 1 ≤ cs.length ∧ cs.length ≤ 14 then (nums? 1 1000 cs).bind fun ns => (numSet? f 0 ((cs.length : Int) - 1)).bind fun fs =>
            if 1 ≤ fs.length ∧ fs.length ≤ 3 then (vouch? w cs.length).map fun rs => (ns, fs, rs) else none
            else none).isSome
          by_cases z : 1 ≤ cs.length ∧ cs.length ≤ 14
          · have e1 : (decide ((1 : Int) ≤ (cs.length : Int)) && decide ((cs.length : Int) ≤ 14)) = true := by
              rw [decide_eq_true (by omega), decide_eq_true (by omega)]; rfl
            rw [if_pos z, e1, if_neg (by decide), itemsV_items hc, M.ok_bind, all_ok (fun v => betw v 1 1000) cs (fun x _ => by rw [M.bind_pure]; exact isSize_eq x), nums_all, M.ok_bind]
            cases hn : nums? 1 1000 cs with
            | none => rfl
            | some ns =>
              rw [if_neg (by simp), M.ok_bind, numSet_eq f 0 _ bf, M.ok_bind]
              show _ = M.ok ((numSet? f 0 ((cs.length : Int) - 1)).bind fun fs =>
                if 1 ≤ fs.length ∧ fs.length ≤ 3 then (vouch? w cs.length).map fun rs => (ns, fs, rs) else none).isSome
              cases hf : numSet? f 0 ((cs.length : Int) - 1) with
              | none => rfl
              | some fs =>
                have hfi := (numSet_items hf).1
                rw [if_neg (by simp), lenV_items hfi, M.ok_bind, M.ok_bind, List.length_map]
                show _ = M.ok (if 1 ≤ fs.length ∧ fs.length ≤ 3 then (vouch? w cs.length).map fun rs => (ns, fs, rs) else none).isSome
                by_cases y : 1 ≤ fs.length ∧ fs.length ≤ 3
                · have e2 : (decide ((1 : Int) ≤ (fs.length : Int)) && decide ((fs.length : Int) ≤ 3)) = true := by
                    rw [decide_eq_true (by omega), decide_eq_true (by omega)]; rfl
                  rw [e2, if_neg (by decide), if_pos y, M.bind_pure, vouch_eq w _ bw, Option.isSome_map]
                · have e2 : (decide ((1 : Int) ≤ (fs.length : Int)) && decide ((fs.length : Int) ≤ 3)) = false := by
                    rw [← Bool.decide_and]; exact decide_eq_false (fun q => y ⟨by omega, by omega⟩)
                  rw [e2, if_pos (by decide), if_neg y]; rfl
          · have e1 : (decide ((1 : Int) ≤ (cs.length : Int)) && decide ((cs.length : Int) ≤ 14)) = false := by
              rw [← Bool.decide_and]; exact decide_eq_false (fun q => z ⟨by omega, by omega⟩)
            rw [e1, if_pos (by decide), if_neg z]; rfl
    · have e : (decide ((xs.length : Int) = 3)) = false := decide_eq_false hl
      show (if (!decide ((xs.length : Int) = 3)) = true then _ else _) = _
      rw [e, if_pos (by decide)]
      match xs, hl with
      | [], _ => rfl
      | [_], _ => rfl
      | [_, _], _ => rfl
      | [_, _, _], hl => exact absurd rfl hl
      | _ :: _ :: _ :: _ :: _, _ => rfl
/-- what a web is -/
structure WOk (w : Web) : Prop where
  c1 : 1 ≤ w.1.length
  c14 : w.1.length ≤ 14
  cz : ∀ n ∈ w.1, 1 ≤ n ∧ n ≤ 1000
  f1 : 1 ≤ w.2.1.length
  f3 : w.2.1.length ≤ 3
  fz : ∀ n ∈ w.2.1, 0 ≤ n ∧ n ≤ (w.1.length : Int) - 1
  fa : ascB ltI w.2.1 = true
  v60 : w.2.2.length ≤ 60
  vz : ∀ r ∈ w.2.2, RowIn w.1.length r
  va : rowsAsc w.2.2 = true
theorem web_some {v : Val} {w : Web} (h : web? v = some w) : WOk w ∧ frz v = eWeb w := by
  unfold web? at h
  cases hv : v.items? with
  | none => rw [hv] at h; cases h
  | some xs =>
    rw [hv] at h
    match xs, h, hv with
    | [], h, _ => cases h
    | [_], h, _ => cases h
    | [_, _], h, _ => cases h
    | _ :: _ :: _ :: _ :: _, h, _ => cases h
    | [c, f, x], h, hv =>
      have h : web3? c f x = some w := h
      unfold web3? at h
      cases hc : c.items? with
      | none => rw [hc] at h; cases h
      | some cs =>
        rw [hc] at h
        have h : (if 1 ≤ cs.length ∧ cs.length ≤ 14 then (nums? 1 1000 cs).bind fun ns => (numSet? f 0 ((cs.length : Int) - 1)).bind fun fs =>
          if 1 ≤ fs.length ∧ fs.length ≤ 3 then (vouch? x cs.length).map fun rs => (ns, fs, rs) else none
          else none) = some w := h
        by_cases z : 1 ≤ cs.length ∧ cs.length ≤ 14
        · rw [if_pos z] at h
          simp only [Option.bind_eq_some_iff] at h
          obtain ⟨ns, hn, fs, hf, h⟩ := h
          by_cases y : 1 ≤ fs.length ∧ fs.length ≤ 3
          · rw [if_pos y, Option.map_eq_some_iff] at h
            obtain ⟨rs, hr, rfl⟩ := h
            obtain ⟨n1, n2⟩ := nums_map hn
            obtain ⟨f1, f2, f3⟩ := numSet_items hf
            have nl : ns.length = cs.length := by rw [n1, List.length_map]
            unfold vouch? at hr
            cases hx : x.items? with
            | none => rw [hx] at hr; cases hr
            | some xs =>
              rw [hx] at hr
              have hr : (if xs.length ≤ 60 then filt (rows? cs.length xs) rowsAsc else none) = some rs := hr
              by_cases q : xs.length ≤ 60
              · rw [if_pos q] at hr
                obtain ⟨r1, r2⟩ := filt_some hr
                obtain ⟨r3, r4, r5, _⟩ := rows_some r1
                refine ⟨⟨by show 1 ≤ ns.length; omega, by show ns.length ≤ 14; omega, n2, y.1, y.2, fun n m => by rw [nl]; exact f2 n m, f3, by show rs.length ≤ 60; omega, fun r m => by rw [nl]; exact r3 r m, r2⟩, ?_⟩
                rw [frz_items hv]
                show Val.tuple [frz c, frz f, frz x] = Val.tuple [vT Val.int ns, vT Val.int fs, vT eRow rs]
                have ints0 : ∀ ns : List Int, (ns.map Val.int).map frz = ns.map Val.int := fun ns => by rw [List.map_map]; rfl
                rw [frz_items hc, frz_items f1, frz_items hx, r4, n1, ints0, ints0]; rfl
              · rw [if_neg q] at hr; cases hr
          · rw [if_neg y] at h; cases h
        · rw [if_neg z] at h; cases h
theorem rows_of {many : Int} (g : Row → Val) (hg : ∀ r, (g r).items? = some [.int r.1, .int r.2.1, .int r.2.2]) : ∀ {rs : List Row}, (∀ r ∈ rs, RowIn many r) → rows? many (rs.map g) = some rs
  | [], _ => rfl
  | r :: rs, h => by
    rw [List.map_cons]
    unfold rows?
    have e : row? many (g r) = some r := by
      unfold row?
      rw [hg]
      show (if RowIn many (r.1, r.2.1, r.2.2) then some (r.1, r.2.1, r.2.2) else none) = _
      rw [if_pos (h r (List.mem_cons_self ..))]
    rw [e, rows_of g hg fun x m => h x (List.mem_cons_of_mem _ m)]
/-- a web as tuples or lists -/
theorem web_of' {w : Web} (h : WOk w) {v c f x : Val} {g : Row → Val} (hv : v.items? = some [c, f, x]) (hc : c.items? = some (w.1.map .int)) (hf : f.items? = some (w.2.1.map .int)) (hx : x.items? = some (w.2.2.map g)) (hg : ∀ r, (g r).items? = some [.int r.1, .int r.2.1, .int r.2.2]) : web? v = some w := by
  unfold web?
  rw [hv]
  show web3? c f x = _
  unfold web3?
  rw [hc]
  show (if 1 ≤ (w.1.map Val.int).length ∧ (w.1.map Val.int).length ≤ 14 then _ else none) = _
  rw [List.length_map, if_pos ⟨h.c1, h.c14⟩, nums_of h.cz]
  have e1 : numSet? f 0 ((w.1.length : Int) - 1) = some w.2.1 := by
    unfold numSet?
    rw [hf]
    show filt (nums? 0 _ (w.2.1.map Val.int)) _ = _
    rw [nums_of h.fz]
    show (if ascB ltI w.2.1 = true then some w.2.1 else none) = _
    rw [if_pos h.fa]
  have e2 : vouch? x w.1.length = some w.2.2 := by
    unfold vouch?
    rw [hx]
    show (if (w.2.2.map g).length ≤ 60 then filt (rows? _ (w.2.2.map g)) rowsAsc else none) = _
    rw [List.length_map, if_pos h.v60, rows_of g hg h.vz]
    show (if rowsAsc w.2.2 = true then some w.2.2 else none) = _
    rw [if_pos h.va]
  rw [Option.bind_some, e1, Option.bind_some, if_pos ⟨h.f1, h.f3⟩, e2]; rfl
theorem web_enc {w : Web} (h : WOk w) : web? (eWeb w) = some w := web_of' h (g := eRow) rfl rfl rfl rfl fun _ => rfl
theorem lsd_ints (ns : List Int) : lsds (ns.map Val.int) = ns.map Val.int := by rw [lsds_map, List.map_map]; rfl
def lRow (r : Row) : Val := .list [.int r.1, .int r.2.1, .int r.2.2]
theorem web_lsd {w : Web} (h : WOk w) : web? (lsd (eWeb w)) = some w := by
  refine web_of' h (c := .list (lsds (w.1.map .int))) (f := .list (lsds (w.2.1.map .int))) (x := .list (lsds (w.2.2.map eRow))) (g := lRow) rfl (by rw [lsd_ints]; rfl) (by rw [lsd_ints]; rfl) ?_ fun _ => rfl
  show some (lsds (w.2.2.map eRow)) = _
  rw [lsds_map, List.map_map]; rfl
theorem bnd_ints {ns : List Int} (h : ns.length ≤ 1000000) : bnd (.tuple (ns.map .int)) = true := by
  rw [bnd, List.length_map, decide_eq_true h, bnds_of fun x m => ?_]
  · rfl
  · obtain ⟨i, _, rfl⟩ := List.mem_map.mp m; rfl
theorem bnd_web {w : Web} (h : WOk w) : bnd (eWeb w) = true ∧ bnd (lsd (eWeb w)) = true := by
  have c14 := h.c14
  have f3 := h.f3
  have v60 := h.v60
  have hr : bnds (w.2.2.map eRow) = true := bnds_of fun x m => by obtain ⟨r, _, rfl⟩ := List.mem_map.mp m; rfl
  have hr2 : bnds (lsds (w.2.2.map eRow)) = true := by
    rw [lsds_map, List.map_map]
    exact bnds_of fun x m => by obtain ⟨r, _, rfl⟩ := List.mem_map.mp m; rfl
  have hi : ∀ ns : List Int, bnds (ns.map Val.int) = true := fun ns => bnds_of fun x m => by obtain ⟨r, _, rfl⟩ := List.mem_map.mp m; rfl
  constructor
  · show (decide ((3 : Nat) ≤ 1000000) && ((decide ((w.1.map Val.int).length ≤ 1000000) && bnds (w.1.map Val.int)) && ((decide ((w.2.1.map Val.int).length ≤ 1000000) && bnds (w.2.1.map Val.int)) && ((decide ((w.2.2.map eRow).length ≤ 1000000) && bnds (w.2.2.map eRow)) && true)))) = true
    rw [hi, hi, hr, List.length_map, List.length_map, List.length_map, decide_eq_true (show w.1.length ≤ 1000000 by omega), decide_eq_true (show w.2.1.length ≤ 1000000 by omega), decide_eq_true (show w.2.2.length ≤ 1000000 by omega)]; rfl
  · show (decide ((3 : Nat) ≤ 1000000) && ((decide ((lsds (w.1.map Val.int)).length ≤ 1000000) && bnds (lsds (w.1.map Val.int))) && ((decide ((lsds (w.2.1.map Val.int)).length ≤ 1000000) && bnds (lsds (w.2.1.map Val.int))) && ((decide ((lsds (w.2.2.map eRow)).length ≤ 1000000) && bnds (lsds (w.2.2.map eRow))) && true)))) = true
    rw [hr2, lsd_ints, lsd_ints, hi, hi, lsds_map, List.length_map, List.length_map, List.length_map, List.length_map, decide_eq_true (show w.1.length ≤ 1000000 by omega), decide_eq_true (show w.2.1.length ≤ 1000000 by omega), decide_eq_true (show w.2.2.length ≤ 1000000 by omega)]; rfl
theorem vdep_web (w : Web) : vdep (eWeb w) ≤ 3 ∧ vdep (lsd (eWeb w)) ≤ 3 := by
  have hi : ∀ ns : List Int, vdeps (ns.map Val.int) ≤ 0 := fun ns => vdeps_of fun x m => by obtain ⟨r, _, rfl⟩ := List.mem_map.mp m; exact Nat.le_refl _
  have hr : vdeps (w.2.2.map eRow) ≤ 1 := vdeps_of fun x m => by obtain ⟨r, _, rfl⟩ := List.mem_map.mp m; exact Nat.le_refl _
  have hr2 : vdeps (lsds (w.2.2.map eRow)) ≤ 1 := by
    rw [lsds_map, List.map_map]
    exact vdeps_of fun x m => by obtain ⟨r, _, rfl⟩ := List.mem_map.mp m; exact Nat.le_refl _
  have h1 := hi w.1
  have h2 := hi w.2.1
  constructor
  · show max (vdeps (w.1.map Val.int) + 1) (max (vdeps (w.2.1.map Val.int) + 1) (max (vdeps (w.2.2.map eRow) + 1) 0)) + 1 ≤ 3
    omega
  · show max (vdeps (lsds (w.1.map Val.int)) + 1) (max (vdeps (lsds (w.2.1.map Val.int)) + 1) (max (vdeps (lsds (w.2.2.map eRow)) + 1) 0)) + 1 ≤ 3
    rw [lsd_ints, lsd_ints]
    omega
theorem asAll_int (ns : List Int) : asAll asI (ns.map Val.int) = some ns := by
  induction ns with
  | nil => rfl
  | cons n ns ih => rw [List.map_cons, asAll, ih]; rfl
theorem asAll_rows (rs : List Row) : asAll (as3 asI asI asI) (rs.map eRow) = some rs := by
  induction rs with
  | nil => rfl
  | cons n ns ih => rw [List.map_cons, asAll, ih]; rfl
theorem as_web (w : Web) : asM (as3 (asT asI) (asT asI) (asT (as3 asI asI asI))) (eWeb w) = .ok w := by
  have e : as3 (asT asI) (asT asI) (asT (as3 asI asI asI)) (eWeb w) = some w := by
    show ((asAll asI (w.1.map Val.int)).bind fun a => (asAll asI (w.2.1.map Val.int)).bind fun b => (asAll (as3 asI asI asI) (w.2.2.map eRow)).map fun c => (a, b, c)) = some w
    rw [asAll_int, asAll_int, asAll_rows]; rfl
  unfold asM
  rw [e]
theorem needWeb_ok {v : Val} {w : Web} (b : bnd v = true) (d : vdep v ≤ 11) (h : web? v = some w) (at0 : Int) : f_need_web v at0 = .ok w := by
  unfold f_need_web
  rw [isWeb_eq v b, M.ok_bind, h]
  show (f_need true at0).bind _ = _
  rw [need_true, M.ok_bind, frozen_eq 11 v b d, M.ok_bind, (web_some h).2, as_web]; rfl
theorem needWeb_enc {w : Web} (h : WOk w) (at0 : Int) : f_need_web (eWeb w) at0 = .ok w := needWeb_ok (bnd_web h).1 (Nat.le_trans (vdep_web w).1 (by decide)) (web_enc h) at0
theorem needWeb_lsd {w : Web} (h : WOk w) (at0 : Int) : f_need_web (lsd (eWeb w)) at0 = .ok w := needWeb_ok (bnd_web h).2 (Nat.le_trans (vdep_web w).2 (by decide)) (web_lsd h) at0
end Py

/-! MLs: the laws' own _law_same and _law_listed. -/
namespace Py
open PySem PySem.Spec PyProof.Rows L2 Cor
mutual
/-- no list within -/
def tup : Val → Bool
  | .list _ => false
  | .tuple xs => tups xs
  | _ => true
def tups : List Val → Bool
  | [] => true
  | x :: xs => tup x && tups xs
end
theorem tups_mem : ∀ {xs : List Val}, tups xs = true → ∀ x ∈ xs, tup x = true
  | y :: xs, h, x, m => by
    rw [tups, Bool.and_eq_true] at h
    rcases List.mem_cons.mp m with e | m
    · rw [e]; exact h.1
    · exact tups_mem h.2 x m
theorem tups_of : ∀ {xs : List Val}, (∀ x ∈ xs, tup x = true) → tups xs = true
  | [], _ => rfl
  | y :: xs, h => by rw [tups, h y (List.mem_cons_self ..), tups_of fun x m => h x (List.mem_cons_of_mem _ m)]; rfl
theorem eqVM_self {v : Val} (h : v.d.depth ≤ 64) (he : PyData.eqv v.d v.d = true) : eqVM v v = .ok true := by
  unfold eqVM
  rw [okD_d h, he]; rfl
/-- like itself -/
theorem same_tuple {n : Nat} {xs : List Val} (hl : xs.length ≤ 1000000) (hd : ∀ x ∈ xs, f__law_same n x x = .ok true) : f__law_same (n + 1) (.tuple xs) (.tuple xs) = .ok true := by
  unfold f__law_same
  have hlen : lenV (.tuple xs) = .ok (xs.length : Int) := rfl
  have hk : ([Ty.tuple].any (isK (Val.kd (.tuple xs)))) = true := rfl
  have hi : ∀ i : Int, idxV (.tuple xs) i = atM xs i := fun i => rfl
  generalize Val.tuple xs = v at hlen hk hi
  rw [hk]
  simp only [hlen, M.ok_bind, decide_true, Bool.not_true, Bool.or_self, if_true, Bool.false_eq_true, if_false]
  rw [rngM1_nat rfl hl, M.ok_bind]
  rw [forM_pass _ fun i hm => ?_]
  · rfl
  · obtain ⟨h1, h2⟩ := upto_mem.mp hm
    have l1 : i.toNat < xs.length := by omega
    rw [hi, atM_nat h1 l1, M.ok_bind, M.ok_bind, hd _ (List.getElem_mem l1), M.ok_bind]; rfl
theorem same_atom {n : Nat} {v : Val} (h : ([Ty.tuple].any (isK (Val.kd v))) = false) (h2 : v.isNone = true ∨ (([Ty.int, Ty.str].any (isK (Val.kd v))) = true ∧ eqVM v v = .ok true)) : f__law_same (n + 1) v v = .ok true := by
  unfold f__law_same
  rw [h]
  simp only [Bool.or_self, Bool.false_eq_true, if_false, decide_true, Bool.not_true]
  rcases h2 with h2 | ⟨h2, h3⟩
  · rw [h2]; rfl
  · rw [h2, h3]
    cases v.isNone <;> rfl
theorem same_refl (n : Nat) : ∀ v : Val, bnd v = true → tup v = true → vdep v ≤ n → f__law_same (n + 1) v v = .ok true := by
  induction n using Nat.strongRecOn with
  | ind n ih =>
    intro v b t d
    cases v with
    | none => exact same_atom rfl (.inl rfl)
    | bool x => exact same_atom rfl (.inr ⟨rfl, eqVM_self (by show (0 : Nat) ≤ 64; decide) (by cases x <;> rfl)⟩)
    | int x => exact same_atom rfl (.inr ⟨rfl, eqVM_self (by show (0 : Nat) ≤ 64; decide) (by show PyData.eqv (.int x) (.int x) = true; rw [eqv_int]; exact decide_eq_true rfl)⟩)
    | str x => exact same_atom rfl (.inr ⟨rfl, eqVM_self (by show (0 : Nat) ≤ 64; decide) (by show PyData.eqv (.str x) (.str x) = true; simp [PyData.eqv])⟩)
    | list xs => cases t
    | tuple xs =>
      obtain ⟨hl, hb⟩ := items_bnd (v := .tuple xs) rfl b
      have ht := tups_mem t
      have d1 : vdeps xs + 1 ≤ n := d
      refine same_tuple hl fun x m => ?_
      obtain ⟨k, rfl⟩ : ∃ k, n = k + 1 := ⟨n - 1, by omega⟩
      exact ih k (by omega) x (hb x m) (ht x m) (vdeps_mem (show vdeps xs ≤ k by omega) x m)
theorem listed_eq (n : Nat) : ∀ v : Val, bnd v = true → vdep v ≤ n → f__law_listed (n + 1) v = .ok (lsd v) := by
  induction n using Nat.strongRecOn with
  | ind n ih =>
    intro v b d
    unfold f__law_listed
    cases v with
    | tuple xs =>
      obtain ⟨hl, hb⟩ := items_bnd (v := .tuple xs) rfl b
      have d1 : vdeps xs + 1 ≤ n := d
      have hd : ∀ x ∈ xs, f__law_listed n x = .ok (lsd x) := fun x m => by
        obtain ⟨k, rfl⟩ : ∃ k, n = k + 1 := ⟨n - 1, by omega⟩
        exact ih k (by omega) x (hb x m) (vdeps_mem (show vdeps xs ≤ k by omega) x m)
      rw [if_pos (show ([Ty.tuple].any (isK (Val.kd (.tuple xs)))) = true from rfl), itemsV_items (v := .tuple xs) rfl, M.ok_bind, sizeM_ok hl, M.ok_bind]
      rw [mapM_ok lsd xs (fun x m => by rw [M.bind_pure]; exact hd x m), lsd, lsds_map]
      show M.ok (Val.list ((xs.map lsd).map vV)) = _
      rw [show (xs.map lsd).map vV = xs.map lsd from List.map_id _]
    | _ => rfl
end Py

/-! MLn: the laws' numbers and webs (k01 to k19). -/
namespace Py
open PySem PySem.Spec PyProof.Rows L2 Cor
theorem bits_lt {z : Int} {b : Nat} (h : Builtin.Int.intBits z ≤ b) : z.natAbs < 2 ^ (b + 1) := by
  by_cases e : z.natAbs = 0
  · rw [e]; exact Nat.pow_pos (by decide)
  · have hz : z ≠ 0 := fun q => e (by rw [q]; rfl)
    have : Builtin.Int.intBits z = z.natAbs.log2 + 1 := by unfold Builtin.Int.intBits; simp [hz]
    exact (Nat.log2_lt e).mp (by omega)
theorem mulM_fit {i j : Int} {a b : Nat} (hi : i.natAbs < 2 ^ a) (hj : j.natAbs < 2 ^ b) (h : a + b < 100000000) : mulM i j = .ok (i * j) := by
  unfold mulM
  rw [if_pos (fits_of hi hj h)]
def BitsOk (ns : List Int) : Prop := ∀ z ∈ ns, Builtin.Int.intBits z ≤ 1048576
theorem cell_ok (ns : List Int) (hb : BitsOk ns) (k : Nat) : ∃ z : Int, f__law_cell ns (k : Int) = .ok z ∧ z.natAbs < 2 ^ 1048577 := by
  unfold f__law_cell
  by_cases h : k < ns.length
  · rw [if_pos (by rw [decide_eq_true (show (k : Int) < (ns.length : Int) by omega)]), atM_lt h]
    exact ⟨_, rfl, bits_lt (hb _ (List.getElem_mem h))⟩
  · rw [if_neg (by rw [decide_eq_false (show ¬ (k : Int) < (ns.length : Int) by omega)]; decide)]
    exact ⟨0, rfl, Nat.pow_pos (by decide)⟩
/-- so many numbers of nine figures -/
def NumsOk (out : List Int) (m : Nat) : Prop := out.length = m ∧ ∀ x ∈ out, 0 ≤ x ∧ x < 1000000000
theorem numbers_ok (ns : List Int) (hb : BitsOk ns) (k m : Nat) (hk : k ≤ 1000) (hm : m ≤ 1000) : ∃ out, f__law_numbers ns (k : Int) (m : Int) = .ok out ∧ NumsOk out m := by
  unfold f__law_numbers
  obtain ⟨z, e1, hz⟩ := cell_ok ns hb k
  rw [e1, M.ok_bind, M.lt_eq, rngM1_nat rfl (by omega), M.ok_bind]
  have key := foldM_inv (f := fun (x_0 : Int) (s_0 : List Int × Int) => (if (decide ((1000000000000000000 : Int) ≤ z)) = true then ((appM s_0.1 (s_0.2 % (1000000000 : Int))).bind fun ys_0 => M.lt (s_0.2 / (1000000000 : Int)) fun rest_0 => .ok (ys_0, rest_0)) else (mulM z (48271 : Int)).bind fun n_0 => (mulM (x_0 + (1 : Int)) (69621 : Int)).bind fun n_1 => M.lt (((n_0 + n_1) + (k : Int)) % (2147483647 : Int)) fun twice_0 => (mulM twice_0 (16807 : Int)).bind fun n_2 => (mulM (x_0 + (3 : Int)) (40692 : Int)).bind fun n_3 => (appM s_0.1 (((n_2 + n_3) % (2147483399 : Int)) % (1000000000 : Int))).bind fun ys_1 => .ok (ys_1, s_0.2)).bind fun s_1 => .ok (s_1.1, s_1.2))
    (fun ds s => NumsOk s.1 ds.length) (upto m) (([] : List Int), z) ⟨rfl, fun _ h => nomatch h⟩ (fun ds x rs s hx hi => by
      have hxm : x ∈ upto m := by rw [hx]; simp
      obtain ⟨x0, x1⟩ := upto_mem.mp hxm
      have hl : ds.length ≤ 1000 := by
        have := congrArg List.length hx
        rw [upto_len, List.length_append] at this
        omega
      have app : ∀ y : Int, appM s.1 y = .ok (s.1 ++ [y]) := fun y => appM_ok (by rw [hi.1]; omega)
      have step : ∀ y : Int, 0 ≤ y → y < 1000000000 → NumsOk (s.1 ++ [y]) (ds ++ [x]).length := fun y h0 h1 => ⟨by rw [List.length_append, List.length_append, hi.1]; rfl, fun w hw => by
        rcases List.mem_append.mp hw with h | h
        · exact hi.2 w h
        · rw [List.mem_singleton.mp h]; exact ⟨h0, h1⟩⟩
      by_cases hc : (1000000000000000000 : Int) ≤ z
      · refine ⟨(s.1 ++ [s.2 % 1000000000], s.2 / 1000000000), ?_, step _ (Int.emod_nonneg _ (by decide)) (Int.emod_lt_of_pos _ (by decide))⟩
        show M.bind (ite (decide ((1000000000000000000 : Int) ≤ z) = true) _ _) _ = _
        rw [decide_eq_true hc, if_pos rfl, app, M.ok_bind, M.lt_eq, M.ok_bind]
      · have tw0 : ∀ a : Int, 0 ≤ a % 2147483647 := fun a => Int.emod_nonneg _ (by decide)
        have tw1 : ∀ a : Int, a % 2147483647 < 2147483647 := fun a => Int.emod_lt_of_pos _ (by decide)
        refine ⟨(s.1 ++ [((z * 48271 + (x + 1) * 69621 + (k : Int)) % 2147483647 * 16807 + (x + 3) * 40692) % 2147483399 % 1000000000], s.2), ?_, step _ (Int.emod_nonneg _ (by decide)) (Int.emod_lt_of_pos _ (by decide))⟩
        show M.bind (ite (decide ((1000000000000000000 : Int) ≤ z) = true) _ _) _ = _
        rw [decide_eq_false hc, if_neg (by decide), mulM_fit (b := 20) hz (by decide) (by decide), M.ok_bind, mulM_fit (a := 20) (b := 20) (by omega) (by decide) (by decide), M.ok_bind, M.lt_eq]
        generalize htw : (z * 48271 + (x + 1) * 69621 + (k : Int)) % 2147483647 = tw
        have t0 : 0 ≤ tw := by rw [← htw]; exact tw0 _
        have t1 : tw < 2147483647 := by rw [← htw]; exact tw1 _
        rw [mulM_fit (a := 31) (b := 20) (by omega) (by decide) (by decide), M.ok_bind, mulM_fit (a := 20) (b := 20) (by omega) (by decide) (by decide), M.ok_bind, app, M.ok_bind, M.ok_bind])
  obtain ⟨s', e2, h2⟩ := key
  rw [upto_len] at h2
  refine ⟨s'.1, ?_, h2⟩
  rw [e2, M.ok_bind]
theorem size_ok (n : Int) : ∃ s, f__law_size n = .ok s ∧ 1 ≤ s ∧ s ≤ 1000 := by
  unfold f__law_size
  by_cases h : n % 4 = 0
  · rw [if_pos (decide_eq_true h)]
    have a : 0 ≤ n / 4 % 1000 := Int.emod_nonneg _ (by decide)
    have b : n / 4 % 1000 < 1000 := Int.emod_lt_of_pos _ (by decide)
    exact ⟨_, rfl, by omega, by omega⟩
  · rw [if_neg (by rw [decide_eq_false h]; decide)]
    have a : 0 ≤ n / 4 % 9 := Int.emod_nonneg _ (by decide)
    have b : n / 4 % 9 < 9 := Int.emod_lt_of_pos _ (by decide)
    exact ⟨_, rfl, by omega, by omega⟩
theorem power_ok (m : Nat) (hm : m ≤ 100) : f__law_power 2 (m : Int) = .ok (2 ^ m) := by
  unfold f__law_power
  rw [M.lt_eq, rngM1_nat rfl (by omega), M.ok_bind]
  obtain ⟨s', e, h⟩ := foldM_inv (f := fun (x_0 : Int) (s_0 : Int) => (mulM s_0 2).bind fun n_0 => .ok n_0) (fun ds s => ds.length ≤ m ∧ s = 2 ^ ds.length) (upto m) 1 ⟨Nat.zero_le _, rfl⟩ (fun ds x rs s hx hi => by
    have hl : ds.length < m := by
      have := congrArg List.length hx
      rw [upto_len, List.length_append, List.length_cons] at this
      omega
    refine ⟨s * 2, ?_, by rw [List.length_append]; exact hl, by rw [List.length_append, hi.2]; exact (Int.pow_succ 2 ds.length).symm⟩
    show (mulM s 2).bind _ = _
    rw [mulM_fit (a := 101) (b := 2) (by rw [hi.2, Int.natAbs_pow]; exact Nat.pow_lt_pow_right (by decide) (by omega)) (by decide) (by decide), M.ok_bind])
  rw [e, M.ok_bind, h.2, upto_len]
theorem pow_bound {m : Nat} (h : m ≤ 5) : (0 : Int) < 2 ^ m ∧ (2 : Int) ^ m ≤ 32 := by
  match m, h with
  | 0, _ => decide
  | 1, _ => decide
  | 2, _ => decide
  | 3, _ => decide
  | 4, _ => decide
  | 5, _ => decide
theorem ascB_pairwise {α : Type} {lt : α → α → Bool} : ∀ {xs : List α}, xs.Pairwise (fun a b => lt a b = true) → ascB lt xs = true
  | [], _ => rfl
  | [_], _ => rfl
  | x :: y :: r, h => by
    rw [List.pairwise_cons] at h
    show (lt x y && ascB lt (y :: r)) = true
    rw [h.1 y (List.mem_cons_self ..), ascB_pairwise h.2]; rfl
theorem pairwise_ascB {α : Type} {lt : α → α → Bool} (tr : ∀ a b c, lt a b = true → lt b c = true → lt a c = true) : ∀ {xs : List α}, ascB lt xs = true → xs.Pairwise (fun a b => lt a b = true)
  | [], _ => .nil
  | [x], _ => by simp
  | x :: y :: r, h => by
    have h : (lt x y && ascB lt (y :: r)) = true := h
    rw [Bool.and_eq_true] at h
    have ih := pairwise_ascB tr h.2
    rw [List.pairwise_cons]
    refine ⟨fun z m => ?_, ih⟩
    rcases List.mem_cons.mp m with e | m
    · rw [e]; exact h.1
    · exact tr _ _ _ h.1 ((List.pairwise_cons.mp ih).1 z m)
theorem ltI_iff {a b : Int} : ltI a b = true ↔ a < b := by unfold ltI; exact decide_eq_true_iff
theorem ltI_tr (a b c : Int) (h1 : ltI a b = true) (h2 : ltI b c = true) : ltI a c = true := by rw [ltI_iff] at *; omega
theorem ltP_iff {a b : Int × Int} : ltP a b = true ↔ a.1 < b.1 ∨ (a.1 = b.1 ∧ a.2 < b.2) := by
  unfold ltP lt2
  by_cases h : a.1 = b.1
  · rw [if_pos h, ltI_iff]; omega
  · rw [if_neg h, ltI_iff]; omega
theorem ltP_tr (a b c : Int × Int) (h1 : ltP a b = true) (h2 : ltP b c = true) : ltP a c = true := by rw [ltP_iff] at *; omega
theorem upto_pairwise (n : Nat) : (upto n).Pairwise (fun a b => ltI a b = true) := by
  unfold upto
  rw [List.pairwise_map]
  exact List.pairwise_lt_range.imp fun h => by rw [ltI_iff]; omega
theorem cut_take {α : Type} (xs : List α) (k : Nat) : cutT xs none (some (k : Int)) = xs.take k := by
  unfold cutT
  rw [HT.sIx_none, HT.sIx_nat, List.drop_zero, Nat.sub_zero]
  by_cases h : k ≤ xs.length
  · rw [Nat.min_eq_left h]
  · rw [Nat.min_eq_right (by omega), List.take_length, List.take_of_length_le (by omega)]
theorem cut_all {α : Type} (xs : List α) : cutT xs none none = xs := by
  unfold cutT
  rw [HT.sIx_none, HT.sIx_none, List.drop_zero, Nat.sub_zero, List.take_length]
theorem ltP_tot (a b : Int × Int) : (!ltP b a || !ltP a b) = true := by
  cases h1 : ltP b a <;> cases h2 : ltP a b <;> simp
  have := ltP_tr _ _ _ h1 h2
  rw [ltP_iff] at this
  omega
/-- sorted and no two alike: each ahead of the next -/
theorem sort_asc {ks : List (Int × Int)} (h : ks.Nodup) : ascB ltP (sortT ltP ks) = true := by
  refine ascB_pairwise ?_
  unfold sortT
  have hp := List.pairwise_mergeSort (le := fun a b => !ltP b a) (fun a b c h1 h2 => by
    simp only [Bool.not_eq_true'] at *
    cases q : ltP c a with
    | false => rfl
    | true =>
      rw [← Bool.not_eq_true] at h1 h2
      rw [ltP_iff] at h1 h2 q
      omega) (fun a b => ltP_tot a b) ks
  have hn : (ks.mergeSort fun a b => !ltP b a).Nodup := (List.mergeSort_perm ks _).nodup_iff.mpr h
  refine (hp.and hn).imp fun {a b} h => ?_
  obtain ⟨h1, h2⟩ := h
  simp only [Bool.not_eq_true'] at h1
  rw [← Bool.not_eq_true, ltP_iff] at h1
  rw [ltP_iff]
  have : ¬ (a.1 = b.1 ∧ a.2 = b.2) := fun z => h2 (Prod.ext z.1 z.2)
  omega
theorem whom_ne {who r m : Int} (h0 : 0 ≤ who) (h1 : who < m) (r0 : 0 ≤ r) (r1 : r < m - 1) : (who + 1 + r) % m ≠ who ∧ 0 ≤ (who + 1 + r) % m ∧ (who + 1 + r) % m < m := by
  have a : 0 ≤ (who + 1 + r) % m := Int.emod_nonneg _ (by omega)
  have b : (who + 1 + r) % m < m := Int.emod_lt_of_pos _ (by omega)
  refine ⟨?_, a, b⟩
  by_cases h : who + 1 + r < m
  · rw [Int.emod_eq_of_lt (by omega) h]; omega
  · have : (who + 1 + r) % m = who + 1 + r - m := by
      rw [← Int.sub_emod_right, Int.emod_eq_of_lt (by omega) (by omega)]
    omega
/-- the widths that are laid -/
structure Wid (many : Int) (n : Nat) (ws : List ((Int × Int) × Int)) : Prop where
  nd : (dkeys ws).Nodup
  len : ws.length ≤ n
  ok : ∀ p ∈ ws, RowIn many (p.1.1, p.1.2, p.2)
theorem wid_put {many : Int} {n : Nat} {ws : List ((Int × Int) × Int)} (h : Wid many n ws) {a b w : Int} (hr : RowIn many (a, b, w)) : Wid many (n + 1) (dput ws (a, b) w) := by
  refine ⟨?_, ?_, fun p hp => ?_⟩
  · rw [dkeys_dput]
    by_cases z : (a, b) ∈ dkeys ws
    · rw [if_pos z]; exact h.nd
    · rw [if_neg z, List.nodup_append]
      exact ⟨h.nd, by simp, fun x hx y hy e => z (by rw [List.mem_singleton] at hy; rw [← hy, ← e]; exact hx)⟩
  · have e := congrArg List.length (dkeys_dput ws (a, b) w)
    have l1 : (dkeys (dput ws (a, b) w)).length = (dput ws (a, b) w).length := by unfold dkeys; rw [List.length_map]
    have l2 : (dkeys ws).length = ws.length := by unfold dkeys; rw [List.length_map]
    have := h.len
    rw [l1] at e
    rw [e]
    split
    · omega
    · rw [List.length_append]; simp; omega
  · unfold dput at hp
    by_cases z : dhas ws (a, b) = true
    · rw [if_pos z] at hp
      obtain ⟨q, hq, rfl⟩ := List.mem_map.mp hp
      by_cases y : q.1 = (a, b)
      · rw [if_pos y]
        show RowIn many (q.1.1, q.1.2, w)
        rw [y]; exact hr
      · rw [if_neg y]; exact h.ok q hq
    · rw [if_neg z] at hp
      rcases List.mem_append.mp hp with hp | hp
      · exact h.ok p hp
      · rw [List.mem_singleton.mp hp]; exact hr
/-- the web of k01 -/
def WSm (w : Web) : Prop := WOk w ∧ w.1.length ≤ 6 ∧ w.2.2.length ≤ 11
theorem lawWeb_ok {ns : List Int} (h : NumsOk ns 20) : ∃ w, f__law_web ns = .ok w ∧ WSm w := by
  obtain ⟨hl, hz⟩ := h
  have at' : ∀ (k : Nat) (hk : k < 20), ∃ x, atM ns (k : Int) = .ok x ∧ 0 ≤ x ∧ x < 1000000000 := fun k hk => ⟨ns[k]'(by omega), atM_lt (by omega), hz _ (List.getElem_mem _)⟩
  unfold f__law_web
  obtain ⟨g0, e0, z0⟩ := at' 0 (by decide)
  obtain ⟨g7, e7, z7⟩ := at' 7 (by decide)
  have e0 : atM ns 0 = .ok g0 := e0
  have e7 : atM ns 7 = .ok g7 := e7
  rw [e0, M.ok_bind, M.lt_eq]
  have m0 : 0 ≤ g0 % 6 := Int.emod_nonneg _ (by decide)
  have m1 : g0 % 6 < 6 := Int.emod_lt_of_pos _ (by decide)
  obtain ⟨m, hm⟩ : ∃ m : Nat, 1 + g0 % 6 = (m : Int) := ⟨(1 + g0 % 6).toNat, by omega⟩
  rw [hm]
  have hm1 : 1 ≤ m := by omega
  have hm6 : m ≤ 6 := by omega
  rw [rngM1_nat rfl (by omega), M.ok_bind, upto_len, sizeM_ok (by omega), M.ok_bind]
  -- capacities
  have hcap : ∀ x ∈ upto m, ∃ s, ((atM ns ((1 : Int) + x)).bind fun g_1 => (f__law_size g_1).bind fun v_0 => .ok v_0) = .ok s ∧ 1 ≤ s ∧ s ≤ 1000 := fun x hx => by
    obtain ⟨x0, x1⟩ := upto_mem.mp hx
    obtain ⟨y, ey, _⟩ := at' (1 + x.toNat) (by omega)
    rw [show ((1 : Int) + x) = ((1 + x.toNat : Nat) : Int) by omega, ey, M.ok_bind]
    obtain ⟨s, es, h⟩ := size_ok y
    exact ⟨s, by rw [es]; rfl, h⟩
  have hcap2 : ∃ cs : List Int, mapM' (fun x_0 => (atM ns ((1 : Int) + x_0)).bind fun g_1 => (f__law_size g_1).bind fun v_0 => .ok v_0) (upto m) = .ok cs ∧ cs.length = m ∧ ∀ c ∈ cs, 1 ≤ c ∧ c ≤ 1000 := by
    have gen : ∀ xs : List Int, (∀ x ∈ xs, ∃ s, ((atM ns ((1 : Int) + x)).bind fun g_1 => (f__law_size g_1).bind fun v_0 => .ok v_0) = .ok s ∧ 1 ≤ s ∧ s ≤ 1000) → ∃ cs : List Int, mapM' (fun x_0 => (atM ns ((1 : Int) + x_0)).bind fun g_1 => (f__law_size g_1).bind fun v_0 => .ok v_0) xs = .ok cs ∧ cs.length = xs.length ∧ ∀ c ∈ cs, 1 ≤ c ∧ c ≤ 1000 := by
      intro xs
      induction xs with
      | nil => exact fun _ => ⟨[], rfl, rfl, fun _ h => nomatch h⟩
      | cons x xs ih =>
        intro hx
        obtain ⟨s, es, hs⟩ := hx x (List.mem_cons_self ..)
        obtain ⟨cs, ec, hc, hc2⟩ := ih fun y m => hx y (List.mem_cons_of_mem _ m)
        refine ⟨s :: cs, ?_, by rw [List.length_cons, List.length_cons, hc], fun c mc => ?_⟩
        · show (M.calm ((atM ns ((1 : Int) + x)).bind fun g_1 => (f__law_size g_1).bind fun v_0 => .ok v_0)).bind _ = _
          rw [es, M.calm_ok, M.ok_bind, ec]; rfl
        · rcases List.mem_cons.mp mc with e | mc
          · rw [e]; exact hs
          · exact hc2 c mc
    obtain ⟨cs, a, b, c⟩ := gen (upto m) hcap
    exact ⟨cs, a, by rw [b, upto_len], c⟩
  obtain ⟨cs, ecs, lcs, hcs⟩ := hcap2
  rw [ecs, M.ok_bind, M.ok_bind]
  -- founders
  have hfl : compM (fun x_1 => (M.ok g0).bind fun g_2 => (f__law_power (2 : Int) x_1).bind fun v_1 => (mulM (6 : Int) v_1).bind fun n_0 => (fdivM g_2 n_0).bind fun n_1 => .ok (decide ((n_1 % (2 : Int)) = (1 : Int)))) (fun x_1 => .ok x_1) (upto m) = .ok ((upto m).filter fun x => decide (g0 / (6 * 2 ^ x.toNat) % 2 = 1)) := by
    rw [compM_ok (fun x => decide (g0 / (6 * 2 ^ x.toNat) % 2 = 1)) (fun x => x) (upto m) (fun x hx => ?_) (fun _ _ _ => rfl)]
    · rw [List.map_id']
    · obtain ⟨x0, x1⟩ := upto_mem.mp hx
      have hx5 : x.toNat ≤ 5 := by omega
      obtain ⟨p0, p1⟩ := pow_bound hx5
      rw [M.ok_bind]
      rw [show f__law_power 2 x = .ok (2 ^ x.toNat) by
        have := power_ok x.toNat (by omega)
        rw [show ((x.toNat : Nat) : Int) = x by omega] at this
        exact this]
      rw [M.ok_bind, mulM_fit (a := 3) (b := 6) (by decide) (by omega) (by decide), M.ok_bind, fdivM_ok (by omega) (by omega), M.ok_bind]
  rw [hfl, upto_len, sizeM_ok (by omega), M.ok_bind, M.ok_bind, M.lt_eq, show (some (3 : Int)) = some ((3 : Nat) : Int) from rfl, cut_take]
  generalize hfs : ((upto m).filter fun x => decide (g0 / (6 * 2 ^ x.toNat) % 2 = 1)).take 3 = flags
  have fin : ∀ f ∈ flags, 0 ≤ f ∧ f ≤ (m : Int) - 1 := fun f hf => by
    rw [← hfs] at hf
    have := upto_mem.mp (List.mem_filter.mp (List.mem_of_mem_take hf)).1
    omega
  have fas : ascB ltI flags = true := by
    rw [← hfs]
    exact ascB_pairwise (((upto_pairwise m).filter _).sublist (List.take_sublist 3 _))
  have fl3 : flags.length ≤ 3 := by rw [← hfs, List.length_take]; omega
  have hfo : ∃ fo : List Int, (if (decide (flags = ([] : List Int))) = true then ((M.ok g0).bind fun g_3 => (modM (g_3 / (400 : Int)) (m : Int)).bind fun n_2 => M.lt ([n_2]) fun founders_1 => .ok founders_1) else .ok flags) = .ok fo ∧ 1 ≤ fo.length ∧ fo.length ≤ 3 ∧ (∀ f ∈ fo, 0 ≤ f ∧ f ≤ (m : Int) - 1) ∧ ascB ltI fo = true := by
    by_cases z : flags = []
    · rw [if_pos (decide_eq_true z), M.ok_bind, modM_ok (by omega), M.ok_bind, M.lt_eq]
      refine ⟨_, rfl, by simp, by simp, fun f hf => ?_, rfl⟩
      rw [List.mem_singleton.mp hf]
      have a : 0 ≤ g0 / 400 % (m : Int) := Int.emod_nonneg _ (by omega)
      have b : g0 / 400 % (m : Int) < m := Int.emod_lt_of_pos _ (by omega)
      omega
    · rw [if_neg (by rw [decide_eq_false z]; decide)]
      exact ⟨flags, rfl, List.length_pos_iff.mpr z, fl3, fin, fas⟩
  obtain ⟨fo, efo, fo1, fo3, foz, foa⟩ := hfo
  rw [efo, M.ok_bind]
  -- widths
  have hws : ∃ ws, (if (decide ((1 : Int) < (m : Int))) = true then ((atM ns (7 : Int)).bind fun g_4 => (rngM1 (g_4 % (12 : Int))).bind fun rg_2 => (foldM (fun x_2 s_1 => (atM ns ((8 : Int) + x_2)).bind fun g_5 => (modM g_5 (m : Int)).bind fun n_3 => (modM (g_5 / (6 : Int)) ((m : Int) - (1 : Int))).bind fun n_4 => (modM ((n_3 + (1 : Int)) + n_4) (m : Int)).bind fun n_5 => (f__law_size (g_5 / (36 : Int))).bind fun v_2 => (dputM s_1 (n_3, n_5) v_2).bind fun ys_0 => .ok ys_0) rg_2 ([] : List ((Int × Int) × Int))).bind fun s_2 => .ok s_2) else .ok ([] : List ((Int × Int) × Int))) = .ok ws ∧ Wid m 11 ws := by
    by_cases z : 1 < m
    · rw [if_pos (decide_eq_true (show (1 : Int) < (m : Int) by omega)), e7, M.ok_bind]
      have q0 : 0 ≤ g7 % 12 := Int.emod_nonneg _ (by decide)
      have q1 : g7 % 12 < 12 := Int.emod_lt_of_pos _ (by decide)
      obtain ⟨k, hk⟩ : ∃ k : Nat, g7 % 12 = (k : Int) := ⟨(g7 % 12).toNat, by omega⟩
      rw [hk, rngM1_nat rfl (by omega), M.ok_bind]
      obtain ⟨s', es, hs⟩ := foldM_inv (f := fun x_2 s_1 => (atM ns ((8 : Int) + x_2)).bind fun g_5 => (modM g_5 (m : Int)).bind fun n_3 => (modM (g_5 / (6 : Int)) ((m : Int) - (1 : Int))).bind fun n_4 => (modM ((n_3 + (1 : Int)) + n_4) (m : Int)).bind fun n_5 => (f__law_size (g_5 / (36 : Int))).bind fun v_2 => (dputM s_1 (n_3, n_5) v_2).bind fun ys_0 => .ok ys_0)
        (fun ds s => Wid m ds.length s) (upto k) ([] : List ((Int × Int) × Int)) ⟨List.nodup_nil, Nat.le_refl _, fun _ h => nomatch h⟩ (fun ds x rs s hx hi => by
          have hxm : x ∈ upto k := by rw [hx]; simp
          obtain ⟨x0, x1⟩ := upto_mem.mp hxm
          have hdl : ds.length ≤ 11 := by
            have := congrArg List.length hx
            rw [upto_len, List.length_append, List.length_cons] at this
            omega
          obtain ⟨y, ey, _⟩ := at' (8 + x.toNat) (by omega)
          have ey : atM ns (8 + x) = .ok y := by
            rw [show ((8 : Int) + x) = ((8 + x.toNat : Nat) : Int) by omega]; exact ey
          have a0 : 0 ≤ y % (m : Int) := Int.emod_nonneg _ (by omega)
          have a1 : y % (m : Int) < m := Int.emod_lt_of_pos _ (by omega)
          have b0 : 0 ≤ y / 6 % ((m : Int) - 1) := Int.emod_nonneg _ (by omega)
          have b1 : y / 6 % ((m : Int) - 1) < (m : Int) - 1 := Int.emod_lt_of_pos _ (by omega)
          obtain ⟨c1, c2, c3⟩ := whom_ne a0 a1 b0 b1
          obtain ⟨sz, esz, s1, s2⟩ := size_ok (y / 36)
          refine ⟨dput s (y % m, (y % m + 1 + y / 6 % (m - 1)) % m) sz, ?_, ?_⟩
          · show (atM ns (8 + x)).bind _ = _
            rw [ey, M.ok_bind, modM_ok (by omega), M.ok_bind, modM_ok (by omega), M.ok_bind, modM_ok (by omega), M.ok_bind, esz, M.ok_bind, dputM_ok (by have := hi.len; omega), M.ok_bind]
          · rw [List.length_append]
            exact wid_put hi ⟨⟨a0, by show y % (m : Int) ≤ m - 1; omega⟩, ⟨c2, by show (y % (m : Int) + 1 + y / 6 % ((m : Int) - 1)) % m ≤ m - 1; omega⟩, Ne.symm c1, s1, s2⟩)
      rw [upto_len] at hs
      refine ⟨s', by rw [es]; rfl, hs.nd, by have := hs.len; omega, hs.ok⟩
    · rw [if_neg (by rw [decide_eq_false (show ¬ (1 : Int) < (m : Int) by omega)]; decide)]
      exact ⟨[], rfl, List.nodup_nil, Nat.zero_le _, fun _ h => nomatch h⟩
  obtain ⟨ws, ews, hw⟩ := hws
  rw [ews, M.ok_bind]
  have hwl := hw.len
  rw [sizeM_ok (by omega), M.ok_bind, M.ok_bind]
  have hkl : (sortT (lt2 ltI ltI) (dkeys ws)).length = ws.length := by
    unfold sortT
    rw [List.length_mergeSort]
    unfold dkeys
    rw [List.length_map]
  rw [hkl, sizeM_ok (by omega), M.ok_bind]
  have hmem : ∀ x ∈ sortT (lt2 ltI ltI) (dkeys ws), ∃ v, dget? ws x = some v ∧ RowIn m (x.1, x.2, v) := fun x hx => by
    unfold sortT at hx
    rw [List.mem_mergeSort] at hx
    obtain ⟨v, h1, h2⟩ := dget_mem hx
    exact ⟨v, h1, hw.ok _ h2⟩
  rw [mapM_ok (fun x => (x.1, x.2, (dget? ws x).getD 0)) _ (fun x hx => by
    obtain ⟨v, h1, _⟩ := hmem x hx
    rw [dgetM_some h1, M.ok_bind, h1]; rfl), M.ok_bind]
  refine ⟨_, rfl, ⟨?_, ?_, ?_, ?_, ?_, ?_, ?_, ?_, ?_, ?_⟩, ?_, ?_⟩
  · show 1 ≤ cs.length; omega
  · show cs.length ≤ 14; omega
  · exact hcs
  · exact fo1
  · exact fo3
  · intro f hf; show 0 ≤ f ∧ f ≤ (cs.length : Int) - 1; rw [lcs]; exact foz f hf
  · exact foa
  · show (List.map _ _).length ≤ 60; rw [List.length_map, hkl]; omega
  · intro r hr
    obtain ⟨x, hx, rfl⟩ := List.mem_map.mp hr
    obtain ⟨v, h1, h2⟩ := hmem x hx
    show RowIn (cs.length : Int) (x.1, x.2, (dget? ws x).getD 0)
    rw [h1, lcs]; exact h2
  · unfold rowsAsc
    rw [List.map_map]
    show ascB ltP (List.map (fun x : Int × Int => (x.1, x.2)) _) = true
    rw [List.map_id'']
    · exact sort_asc hw.nd
    · intro x; rfl
  · show cs.length ≤ 6; omega
  · show (List.map _ _).length ≤ 11; rw [List.length_map, hkl]; exact hwl
end Py

/-! MG: walks in a graph, rounds. -/
namespace Py
open PySem PySem.Spec PyProof.Rows L2 Cor
/-! ### walks and rounds, no program in sight -/
/-- no more pigeons than holes -/
theorem holes : ∀ (m n : Nat) (f : Nat → Nat), (∀ i, i < n → f i < m) → (∀ i j, i < n → j < n → f i = f j → i = j) → n ≤ m
  | 0, n, f, h, _ => by
    cases n with
    | zero => exact Nat.le_refl _
    | succ n => exact absurd (h 0 (Nat.zero_lt_succ _)) (Nat.not_lt_zero _)
  | m + 1, 0, _, _, _ => Nat.zero_le _
  | m + 1, n + 1, f, h, inj => by
    refine Nat.succ_le_succ (holes m n (fun i => if f i = m then f n else f i) (fun i hi => ?_) fun i j hi hj e => ?_)
    · show (if f i = m then f n else f i) < m
      have h1 := h i (by omega)
      have h2 := h n (by omega)
      by_cases z : f i = m
      · rw [if_pos z]
        have : f n ≠ m := fun q => by
          have := inj i n (by omega) (by omega) (by rw [z, q])
          omega
        omega
      · rw [if_neg z]; omega
    · have e : (if f i = m then f n else f i) = (if f j = m then f n else f j) := e
      by_cases zi : f i = m <;> by_cases zj : f j = m
      · exact inj i j (by omega) (by omega) (by rw [zi, zj])
      · rw [if_pos zi, if_neg zj] at e
        have := inj n j (by omega) (by omega) e
        omega
      · rw [if_neg zi, if_pos zj] at e
        have := inj i n (by omega) (by omega) e
        omega
      · rw [if_neg zi, if_neg zj] at e
        exact inj i j (by omega) (by omega) e
section
variable (es : List (Nat × Nat)) (src : Nat → Prop)
/-- a walk of d edges from a source -/
def Walk : Nat → Nat → Prop
  | 0, x => src x
  | d + 1, x => ∃ e ∈ es, e.2 = x ∧ Walk d e.1
def Dist (d x : Nat) : Prop := Walk es src d x ∧ ∀ k, k < d → ¬ Walk es src k x
variable {es src}
theorem Dist.inj {d k x : Nat} (h : Dist es src d x) (h2 : Dist es src k x) : d = k := by
  by_cases a : d < k
  · exact absurd h.1 (h2.2 d a)
  · by_cases b : k < d
    · exact absurd h2.1 (h.2 k b)
    · omega
theorem Dist.pred {d x : Nat} (h : Dist es src (d + 1) x) : ∃ e ∈ es, e.2 = x ∧ Dist es src d e.1 := by
  obtain ⟨e, m, e2, w⟩ := h.1
  refine ⟨e, m, e2, w, fun k hk wk => ?_⟩
  exact h.2 (k + 1) (by omega) ⟨e, m, e2, wk⟩
theorem Dist.level {d x : Nat} (h : Dist es src d x) : ∀ i, i ≤ d → ∃ y, Dist es src i y := by
  induction d generalizing x with
  | zero => exact fun i hi => ⟨x, by have : i = 0 := by omega
                                     rw [this]; exact h⟩
  | succ d ih =>
    intro i hi
    by_cases z : i = d + 1
    · exact ⟨x, by rw [z]; exact h⟩
    · obtain ⟨e, _, _, w⟩ := h.pred
      exact ih w i (by omega)
theorem walk_dist {d x : Nat} (h : Walk es src d x) : ∃ k, k ≤ d ∧ Dist es src k x := by
  induction d using Nat.strongRecOn with
  | ind d ih =>
    by_cases z : ∃ k, k < d ∧ Walk es src k x
    · obtain ⟨k, hk, w⟩ := z
      obtain ⟨j, hj, w⟩ := ih k hk w
      exact ⟨j, by omega, w⟩
    · exact ⟨d, Nat.le_refl _, h, fun k hk w => z ⟨k, hk, w⟩⟩
theorem walk_lt {m : Nat} (he : ∀ e ∈ es, e.2 < m) (hs : ∀ x, src x → x < m) {d x : Nat} (h : Walk es src d x) : x < m := by
  cases d with
  | zero => exact hs x h
  | succ d => obtain ⟨e, m, rfl, _⟩ := h; exact he e m
open Classical in
theorem dist_lt {m : Nat} (he : ∀ e ∈ es, e.2 < m) (hs : ∀ x, src x → x < m) {d x : Nat} (h : Dist es src d x) : d < m := by
  refine holes m (d + 1) (fun i => if q : ∃ y, Dist es src i y then q.choose else 0) (fun i hi => ?_) fun i j hi hj e => ?_
  · have q := h.level i (by omega)
    show (if q : ∃ y, Dist es src i y then q.choose else 0) < m
    rw [dif_pos q]
    exact walk_lt he hs q.choose_spec.1
  · have qi := h.level i (by omega)
    have qj := h.level j (by omega)
    have e : (if q : ∃ y, Dist es src i y then q.choose else 0) = (if q : ∃ y, Dist es src j y then q.choose else 0) := e
    rw [dif_pos qi, dif_pos qj] at e
    have h1 := qi.choose_spec
    have h2 := qj.choose_spec
    rw [e] at h1
    exact h1.inj h2
/-! ### rounds -/
def stepE (t : Int) (far : List (Option Int)) (e : Nat × Nat) : List (Option Int) := if far[e.1]? = some (some t) ∧ far[e.2]? = some none then far.set e.2 (some (t + 1)) else far
def roundE (es : List (Nat × Nat)) (t : Int) (far : List (Option Int)) : List (Option Int) := es.foldl (stepE t) far
theorem step_len (t : Int) (far : List (Option Int)) (e : Nat × Nat) : (stepE t far e).length = far.length := by
  unfold stepE
  split
  · rw [List.length_set]
  · rfl
theorem round_len (t : Int) : ∀ (es : List (Nat × Nat)) (far : List (Option Int)), (roundE es t far).length = far.length
  | [], _ => rfl
  | e :: es, far => by
    show (roundE es t (stepE t far e)).length = _
    rw [round_len t es, step_len]
theorem step_some {t : Int} {far : List (Option Int)} {e : Nat × Nat} {x : Nat} {d : Int} (h : far[x]? = some (some d)) : (stepE t far e)[x]? = some (some d) := by
  unfold stepE
  split
  · rename_i q
    rw [List.getElem?_set_ne (fun z => by rw [z, h] at q; cases q.2), h]
  · exact h
theorem step_at {t : Int} {far : List (Option Int)} {e : Nat × Nat} {x : Nat} : (stepE t far e)[x]? = some (some t) ↔ far[x]? = some (some t) := by
  constructor
  · unfold stepE
    split
    · rename_i q
      intro h
      by_cases z : e.2 = x
      · subst z
        rw [List.getElem?_set_self (List.getElem?_eq_some_iff.mp q.2).1] at h
        have := Option.some.inj (Option.some.inj h)
        omega
      · rw [List.getElem?_set_ne z] at h
        exact h
    · exact fun h => h
  · exact step_some
theorem round_some {t : Int} : ∀ {es : List (Nat × Nat)} {far : List (Option Int)} {x : Nat} {d : Int}, far[x]? = some (some d) → (roundE es t far)[x]? = some (some d)
  | [], _, _, _, h => h
  | e :: es, far, x, d, h => round_some (es := es) (step_some h)
theorem round_none {t : Int} : ∀ {es : List (Nat × Nat)} {far : List (Option Int)} {x : Nat}, far[x]? = some none → (roundE es t far)[x]? = if ∃ e ∈ es, e.2 = x ∧ far[e.1]? = some (some t) then some (some (t + 1)) else some none
  | [], _, _, h => by
    rw [if_neg (fun ⟨e, m, _⟩ => nomatch m)]
    exact h
  | e :: es, far, x, h => by
    show (roundE es t (stepE t far e))[x]? = _
    by_cases z : far[e.1]? = some (some t) ∧ e.2 = x
    · have hx : (stepE t far e)[x]? = some (some (t + 1)) := by
        unfold stepE
        rw [if_pos ⟨z.1, by rw [z.2]; exact h⟩, z.2, List.getElem?_set_self (List.getElem?_eq_some_iff.mp h).1]
      rw [round_some hx, if_pos ⟨e, List.mem_cons_self .., z.2, z.1⟩]
    · have hx : (stepE t far e)[x]? = some none := by
        unfold stepE
        split
        · rename_i q
          rw [List.getElem?_set_ne (fun y => z ⟨q.1, y⟩), h]
        · exact h
      rw [round_none (es := es) hx]
      have iff : (∃ e' ∈ es, e'.2 = x ∧ (stepE t far e)[e'.1]? = some (some t)) ↔ ∃ e' ∈ e :: es, e'.2 = x ∧ far[e'.1]? = some (some t) := by
        constructor
        · rintro ⟨e', m, h1, h2⟩
          exact ⟨e', List.mem_cons_of_mem _ m, h1, step_at.mp h2⟩
        · rintro ⟨e', m, h1, h2⟩
          rcases List.mem_cons.mp m with q | m
          · exact absurd ⟨by rw [← q]; exact h2, by rw [← q]; exact h1⟩ z
          · exact ⟨e', m, h1, step_at.mpr h2⟩
      by_cases y : ∃ e' ∈ e :: es, e'.2 = x ∧ far[e'.1]? = some (some t)
      · rw [if_pos y, if_pos (iff.mpr y)]
      · rw [if_neg y, if_neg fun q => y (iff.mp q)]

/-- after t rounds -/
def FarOk (es : List (Nat × Nat)) (src : Nat → Prop) (m t : Nat) (far : List (Option Int)) : Prop := far.length = m ∧ ∀ x, x < m → ∀ d : Int, far[x]? = some (some d) ↔ ∃ k : Nat, d = k ∧ k ≤ t ∧ Dist es src k x
/-- all that is reached -/
def Full (es : List (Nat × Nat)) (src : Nat → Prop) (m : Nat) (far : List (Option Int)) : Prop := far.length = m ∧ ∀ x, x < m → ∀ d : Int, far[x]? = some (some d) ↔ ∃ k : Nat, d = k ∧ Dist es src k x
theorem FarOk.none {m t : Nat} {far : List (Option Int)} (h : FarOk es src m t far) {x : Nat} (hx : x < m) (hf : far[x]? = some none) : ∀ k, k ≤ t → ¬ Dist es src k x := fun k hk q => by
  have := (h.2 x hx k).mpr ⟨k, rfl, hk, q⟩
  rw [hf] at this
  cases this
theorem far_round {m t : Nat} {far : List (Option Int)} (he : ∀ e ∈ es, e.1 < m) (h : FarOk es src m t far) : FarOk es src m (t + 1) (roundE es t far) := by
  refine ⟨by rw [round_len]; exact h.1, fun x hx d => ?_⟩
  cases hf : far[x]? with
  | none => exact absurd (List.getElem?_eq_none_iff.mp hf) (by rw [h.1]; omega)
  | some o =>
    cases o with
    | some k =>
      rw [round_some hf]
      obtain ⟨k', rfl, a, b⟩ := (h.2 x hx k).mp hf
      constructor
      · intro e
        have e := Option.some.inj (Option.some.inj e)
        subst e
        exact ⟨k', rfl, by omega, b⟩
      · rintro ⟨j, rfl, _, q⟩
        rw [b.inj q]
    | none =>
      rw [round_none hf]
      have no := h.none hx hf
      by_cases z : ∃ e ∈ es, e.2 = x ∧ far[e.1]? = some (some (t : Int))
      · rw [if_pos z]
        obtain ⟨e, m1, e2, e1⟩ := z
        obtain ⟨t', et, _, w⟩ := (h.2 e.1 (he e m1) t).mp e1
        have : t' = t := by omega
        subst this
        have wx : Walk es src (t' + 1) x := ⟨e, m1, e2, w.1⟩
        have dx : Dist es src (t' + 1) x := by
          obtain ⟨k, hk, q⟩ := walk_dist wx
          by_cases y : k ≤ t'
          · exact absurd q (no k y)
          · have : k = t' + 1 := by omega
            rw [this] at q; exact q
        constructor
        · intro e
          have e := Option.some.inj (Option.some.inj e)
          subst e
          exact ⟨t' + 1, by omega, Nat.le_refl _, dx⟩
        · rintro ⟨j, rfl, _, q⟩
          rw [← dx.inj q]; rfl
      · rw [if_neg z]
        constructor
        · intro e; cases e
        · rintro ⟨k, rfl, hd, q⟩
          by_cases y : k ≤ t
          · exact absurd q (no k y)
          · have : k = t + 1 := by omega
            subst this
            obtain ⟨e, m1, e2, w⟩ := q.pred
            exact absurd ⟨e, m1, e2, (h.2 e.1 (he e m1) t).mpr ⟨t, rfl, Nat.le_refl _, w⟩⟩ z
theorem FarOk.full {m t : Nat} {far : List (Option Int)} (h : FarOk es src m t far) (hd : ∀ k x, Dist es src k x → k ≤ t) : Full es src m far := ⟨h.1, fun x hx d => by
  rw [h.2 x hx d]
  exact ⟨fun ⟨k, a, _, c⟩ => ⟨k, a, c⟩, fun ⟨k, a, c⟩ => ⟨k, a, hd k x c, c⟩⟩⟩
/-- two of the same are one -/
theorem Full.same {m : Nat} {f g : List (Option Int)} (h1 : Full es src m f) (h2 : Full es src m g) : f = g := by
  apply List.ext_getElem?
  intro x
  by_cases hx : x < m
  · cases hf : f[x]? with
    | none => exact absurd (List.getElem?_eq_none_iff.mp hf) (by rw [h1.1]; omega)
    | some o =>
      cases hg : g[x]? with
      | none => exact absurd (List.getElem?_eq_none_iff.mp hg) (by rw [h2.1]; omega)
      | some q =>
        cases o with
        | some d =>
          have := (h2.2 x hx d).mpr ((h1.2 x hx d).mp hf)
          rw [hg] at this
          exact this.symm
        | none =>
          cases q with
          | none => rfl
          | some d =>
            have := (h1.2 x hx d).mpr ((h2.2 x hx d).mp hg)
            rw [hf] at this
            exact this
  · rw [List.getElem?_eq_none_iff.mpr (by rw [h1.1]; omega), List.getElem?_eq_none_iff.mpr (by rw [h2.1]; omega)]
end
/-- the same walk the other way -/
theorem walk_app {es : List (Nat × Nat)} {s : Nat → Prop} {x y : Nat} : ∀ {d k : Nat}, Walk es s d x → Walk es (· = x) k y → Walk es s (d + k) y
  | d, 0, h, h2 => by have h2 : y = x := h2; rw [h2]; exact h
  | d, k + 1, h, h2 => by
    obtain ⟨e, m, e2, w⟩ := h2
    exact ⟨e, m, e2, walk_app h w⟩
theorem walk_src {es : List (Nat × Nat)} {s : Nat → Prop} {y : Nat} : ∀ {d : Nat}, Walk es s d y → ∃ f, s f ∧ Walk es (· = f) d y
  | 0, h => by have h : s y := h; exact ⟨y, h, (rfl : y = y)⟩
  | d + 1, ⟨e, m, e2, w⟩ => by
    obtain ⟨f, hf, w⟩ := walk_src w
    exact ⟨f, hf, e, m, e2, w⟩
theorem walk_rev {es rs : List (Nat × Nat)} (h : ∀ a b, (a, b) ∈ es → (b, a) ∈ rs) {f y : Nat} : ∀ {d : Nat}, Walk es (· = f) d y → Walk rs (· = y) d f
  | 0, w => by have w : y = f := w; exact w.symm
  | d + 1, ⟨e, m, e2, w⟩ => by
    have h1 : Walk rs (· = y) 1 e.1 := ⟨(e.2, e.1), h e.1 e.2 m, rfl, e2⟩
    have := walk_app h1 (walk_rev h w)
    rw [Nat.add_comm] at this
    exact this
end Py

/-! MK3: ways and who vouches. -/
namespace Py
open PySem PySem.Spec PyProof.Rows L2 Cor
def fwd (w : Web) : List (Nat × Nat) := w.2.2.map fun r => (r.1.toNat, r.2.1.toNat)
def bwd (w : Web) : List (Nat × Nat) := w.2.2.map fun r => (r.2.1.toNat, r.1.toNat)
def isF (w : Web) (x : Nat) : Prop := (x : Int) ∈ w.2.1
theorem row_lt {w : Web} (h : WOk w) {r : Row} (m : r ∈ w.2.2) : 0 ≤ r.1 ∧ r.1.toNat < w.1.length ∧ 0 ≤ r.2.1 ∧ r.2.1.toNat < w.1.length := by
  have q := h.vz r m
  have a := q.1
  have b := q.2.1
  omega
theorem fwd_lt {w : Web} (h : WOk w) : ∀ e ∈ fwd w, e.1 < w.1.length ∧ e.2 < w.1.length := fun e m => by
  obtain ⟨r, mr, rfl⟩ := List.mem_map.mp m
  have := row_lt h mr
  exact ⟨this.2.1, this.2.2.2⟩
theorem bwd_lt {w : Web} (h : WOk w) : ∀ e ∈ bwd w, e.1 < w.1.length ∧ e.2 < w.1.length := fun e m => by
  obtain ⟨r, mr, rfl⟩ := List.mem_map.mp m
  have := row_lt h mr
  exact ⟨this.2.2.2, this.2.1⟩
theorem fwd_bwd (w : Web) : ∀ a b, (a, b) ∈ fwd w → (b, a) ∈ bwd w := fun a b m => by
  obtain ⟨r, mr, e⟩ := List.mem_map.mp m
  cases e
  exact List.mem_map.mpr ⟨r, mr, rfl⟩
theorem bwd_fwd (w : Web) : ∀ a b, (a, b) ∈ bwd w → (b, a) ∈ fwd w := fun a b m => by
  obtain ⟨r, mr, e⟩ := List.mem_map.mp m
  cases e
  exact List.mem_map.mpr ⟨r, mr, rfl⟩
theorem isF_lt {w : Web} (h : WOk w) {x : Nat} (hx : isF w x) : x < w.1.length := by
  have := h.fz _ hx
  omega
/-! ### the law's rounds -/
theorem farBody {s : List (Option Int)} {a b t : Int} (a0 : 0 ≤ a) (al : a.toNat < s.length) (b0 : 0 ≤ b) (bl : b.toNat < s.length) :
    ((atM s a).bind fun g_0 => (if (!g_0.isNone) = true then ((atM s a).bind fun g_1 => (if (decide (g_1 = (some t))) = true then ((atM s b).bind fun g_2 => .ok g_2.isNone) else .ok false).bind fun b_0 => .ok b_0) else .ok false).bind fun b_1 => (if b_1 = true then ((setM s b (some (t + (1 : Int)))).bind fun ys_1 => .ok ys_1) else .ok s).bind fun s_2 => .ok s_2) = .ok (stepE t s (a.toNat, b.toNat)) := by
  rw [atM_nat a0 al, M.ok_bind, M.ok_bind, atM_nat b0 bl, setM_nat b0 bl, M.ok_bind, M.ok_bind]
  unfold stepE
  rw [List.getElem?_eq_getElem al, List.getElem?_eq_getElem bl]
  generalize s[a.toNat] = oa
  generalize s[b.toNat] = ob
  cases oa with
  | none => rw [if_neg (by simp), if_neg (by simp), M.ok_bind, if_neg (by decide)]; rfl
  | some k =>
    by_cases hk : k = t
    · subst hk
      cases ob with
      | none => simp
      | some j => simp
    · simp [hk]
theorem farRows {rows : List Row} {fa fb : Row → Int} {m : Nat} (ha : ∀ r ∈ rows, 0 ≤ fa r ∧ (fa r).toNat < m) (hb : ∀ r ∈ rows, 0 ≤ fb r ∧ (fb r).toNat < m) {s : List (Option Int)} (hs : s.length = m) (t : Int) :
    foldM (fun x s => (atM s (fa x)).bind fun g_0 => (if (!g_0.isNone) = true then ((atM s (fa x)).bind fun g_1 => (if (decide (g_1 = (some t))) = true then ((atM s (fb x)).bind fun g_2 => .ok g_2.isNone) else .ok false).bind fun b_0 => .ok b_0) else .ok false).bind fun b_1 => (if b_1 = true then ((setM s (fb x) (some (t + (1 : Int)))).bind fun ys_1 => .ok ys_1) else .ok s).bind fun s_2 => .ok s_2) rows s = .ok (roundE (rows.map fun r => ((fa r).toNat, (fb r).toNat)) t s) := by
  have := (foldM_ok (f := fun x s => (atM s (fa x)).bind fun g_0 => (if (!g_0.isNone) = true then ((atM s (fa x)).bind fun g_1 => (if (decide (g_1 = (some t))) = true then ((atM s (fb x)).bind fun g_2 => .ok g_2.isNone) else .ok false).bind fun b_0 => .ok b_0) else .ok false).bind fun b_1 => (if b_1 = true then ((setM s (fb x) (some (t + (1 : Int)))).bind fun ys_1 => .ok ys_1) else .ok s).bind fun s_2 => .ok s_2)
    (fun s r => stepE t s ((fa r).toNat, (fb r).toNat)) (fun s => s.length = m) rows s hs fun x mx s hs => ⟨farBody (ha x mx).1 (by rw [hs]; exact (ha x mx).2) (hb x mx).1 (by rw [hs]; exact (hb x mx).2), by rw [step_len]; exact hs⟩).1
  rw [this]
  unfold roundE
  rw [List.foldl_map]
theorem farTurns {rows : List Row} {fa fb : Row → Int} {m : Nat} {src : Nat → Prop} (hm : m ≤ 1000) (ha : ∀ r ∈ rows, 0 ≤ fa r ∧ (fa r).toNat < m) (hb : ∀ r ∈ rows, 0 ≤ fb r ∧ (fb r).toNat < m) (hsrc : ∀ x, src x → x < m)
    {s : List (Option Int)} (hs : FarOk (rows.map fun r => ((fa r).toNat, (fb r).toNat)) src m 0 s) :
    ∃ far, foldM (fun (x_1 : Int) s_2 => (foldM (fun x s => (atM s (fa x)).bind fun g_0 => (if (!g_0.isNone) = true then ((atM s (fa x)).bind fun g_1 => (if (decide (g_1 = (some x_1))) = true then ((atM s (fb x)).bind fun g_2 => .ok g_2.isNone) else .ok false).bind fun b_0 => .ok b_0) else .ok false).bind fun b_1 => (if b_1 = true then ((setM s (fb x) (some (x_1 + (1 : Int)))).bind fun ys_1 => .ok ys_1) else .ok s).bind fun s_2 => .ok s_2) rows s_2).bind fun s_5 => .ok s_5) (upto m) s = .ok far ∧ Full (rows.map fun r => ((fa r).toNat, (fb r).toNat)) src m far := by
  obtain ⟨far, e, h⟩ := foldM_inv (f := fun (x_1 : Int) s_2 => (foldM (fun x s => (atM s (fa x)).bind fun g_0 => (if (!g_0.isNone) = true then ((atM s (fa x)).bind fun g_1 => (if (decide (g_1 = (some x_1))) = true then ((atM s (fb x)).bind fun g_2 => .ok g_2.isNone) else .ok false).bind fun b_0 => .ok b_0) else .ok false).bind fun b_1 => (if b_1 = true then ((setM s (fb x) (some (x_1 + (1 : Int)))).bind fun ys_1 => .ok ys_1) else .ok s).bind fun s_2 => .ok s_2) rows s_2).bind fun s_5 => .ok s_5)
    (fun ds s => FarOk (rows.map fun r => ((fa r).toNat, (fb r).toNat)) src m ds.length s) (upto m) s hs (fun ds x rs s hx hi => by
      have hxe : x = (ds.length : Int) := by
        have h1 : (upto m)[ds.length]? = some x := by rw [hx]; simp
        have hl : ds.length < m := by
          have := congrArg List.length hx
          rw [upto_len, List.length_append, List.length_cons] at this
          omega
        rw [upto_get hl] at h1
        exact (Option.some.inj h1).symm
      subst hxe
      refine ⟨roundE (rows.map fun r => ((fa r).toNat, (fb r).toNat)) (ds.length : Int) s, ?_, ?_⟩
      · show (foldM _ rows s).bind _ = _
        rw [farRows ha hb hi.1]; rfl
      · rw [List.length_append]
        exact far_round (fun e me => by obtain ⟨r, mr, rfl⟩ := List.mem_map.mp me; exact (ha r mr).2) hi)
  rw [upto_len] at h
  refine ⟨far, e, h.full fun k x d => ?_⟩
  exact Nat.le_of_lt (dist_lt (fun e me => by obtain ⟨r, mr, rfl⟩ := List.mem_map.mp me; exact (hb r mr).2) hsrc d)
theorem far0_get {fs : List Int} {m : Nat} (hf : ∀ f ∈ fs, 0 ≤ f ∧ f ≤ (m : Int) - 1) {s : List (Option Int)} (hs : s.length = m) :
    ∃ far, foldM (fun x_0 s_0 => (setM s_0 x_0 (some (0 : Int))).bind fun ys_0 => .ok ys_0) fs s = .ok far ∧ far.length = m ∧ ∀ x : Nat, x < m → far[x]? = if (x : Int) ∈ fs then some (some 0) else s[x]? := by
  obtain ⟨far, e, h1, h2⟩ := foldM_inv (f := fun x_0 s_0 => (setM s_0 x_0 (some (0 : Int))).bind fun ys_0 => .ok ys_0) (fun ds s1 => s1.length = m ∧ ∀ x : Nat, x < m → s1[x]? = if (x : Int) ∈ ds then some (some 0) else s[x]?) fs s ⟨hs, fun x _ => by simp⟩ (fun ds f rs s1 hx hi => by
    have fm : f ∈ fs := by rw [hx]; simp
    obtain ⟨f0, f1⟩ := hf f fm
    refine ⟨s1.set f.toNat (some 0), ?_, by rw [List.length_set]; exact hi.1, fun x hxm => ?_⟩
    · show (setM s1 f (some 0)).bind _ = _
      rw [setM_nat f0 (by rw [hi.1]; omega)]; rfl
    · by_cases z : f.toNat = x
      · subst z
        rw [List.getElem?_set_self (by rw [hi.1]; exact hxm), if_pos (by rw [show ((f.toNat : Nat) : Int) = f by omega]; simp)]
      · rw [List.getElem?_set_ne z, hi.2 x hxm]
        have : (x : Int) ∈ ds ++ [f] ↔ (x : Int) ∈ ds := by
          rw [List.mem_append, List.mem_singleton]
          exact ⟨fun q => q.elim id fun q => absurd q (by omega), .inl⟩
        by_cases y : (x : Int) ∈ ds
        · rw [if_pos y, if_pos (this.mpr y)]
        · rw [if_neg y, if_neg fun q => y (this.mp q)])
  exact ⟨far, e, h1, h2⟩
theorem farStart {es : List (Nat × Nat)} {src : Nat → Prop} {m : Nat} {far : List (Option Int)} (hl : far.length = m) (h : ∀ x : Nat, x < m → (src x ∧ far[x]? = some (some 0)) ∨ (¬ src x ∧ far[x]? = some none)) : FarOk es src m 0 far := ⟨hl, fun x hx d => by
  rcases h x hx with ⟨a, b⟩ | ⟨a, b⟩
  · rw [b]
    constructor
    · intro e
      have e := Option.some.inj (Option.some.inj e)
      exact ⟨0, by omega, Nat.le_refl _, a, fun k hk => absurd hk (Nat.not_lt_zero _)⟩
    · rintro ⟨k, rfl, hk, _⟩
      have : k = 0 := by omega
      subst this; rfl
  · rw [b]
    constructor
    · intro e; cases e
    · rintro ⟨k, rfl, hk, q⟩
      have : k = 0 := by omega
      subst this
      exact absurd q.1 a⟩
theorem lawFar_ok {w : Web} (h : WOk w) : ∃ far, f__law_far w = .ok far ∧ Full (fwd w) (isF w) w.1.length far := by
  have c14 := h.c14
  unfold f__law_far
  rw [repM_one (by omega) (by omega), M.ok_bind, M.lt_eq]
  obtain ⟨f0, e0, l0, h0⟩ := far0_get (m := w.1.length) h.fz (s := List.replicate ((w.1.length : Int)).toNat none) (by simp)
  rw [e0, M.ok_bind, rngM1_nat rfl (by omega), M.ok_bind]
  obtain ⟨far, e, hf⟩ := farTurns (fa := fun r => r.1) (fb := fun r => r.2.1) (src := isF w) (m := w.1.length) (by omega) (fun r m => by have := row_lt h m; exact ⟨this.1, this.2.1⟩) (fun r m => by have := row_lt h m; exact ⟨this.2.2.1, this.2.2.2⟩) (fun x hx => isF_lt h hx) (s := f0)
    (farStart l0 fun x hx => by
      rw [h0 x hx]
      by_cases z : (x : Int) ∈ w.2.1
      · exact .inl ⟨z, if_pos z⟩
      · refine .inr ⟨z, ?_⟩
        rw [if_neg z, List.getElem?_replicate]
        simp [hx])
  rw [e]
  exact ⟨far, rfl, hf⟩
theorem lawBack_ok {w : Web} (h : WOk w) {a : Nat} (ha : a < w.1.length) : ∃ far, f__law_back w (a : Int) = .ok far ∧ Full (bwd w) (· = a) w.1.length far := by
  have c14 := h.c14
  unfold f__law_back
  rw [repM_one (by omega) (by omega), M.ok_bind, M.lt_eq, setM_nat (by omega) (by simpa using ha), M.ok_bind, rngM1_nat rfl (by omega), M.ok_bind]
  obtain ⟨far, e, hf⟩ := farTurns (fa := fun r => r.2.1) (fb := fun r => r.1) (src := (· = a)) (m := w.1.length) (by omega) (fun r m => by have := row_lt h m; exact ⟨this.2.2.1, this.2.2.2⟩) (fun r m => by have := row_lt h m; exact ⟨this.1, this.2.1⟩) (fun x hx => by rw [hx]; exact ha)
    (s := (List.replicate ((w.1.length : Int)).toNat (none : Option Int)).set ((a : Int)).toNat (some 0))
    (farStart (by simp) fun x hx => by
      by_cases z : x = a
      · subst z
        refine .inl ⟨rfl, ?_⟩
        rw [show ((x : Int)).toNat = x by omega, List.getElem?_set_self (by simpa using hx)]
      · refine .inr ⟨z, ?_⟩
        rw [show ((a : Int)).toNat = a by omega, List.getElem?_set_ne (Ne.symm z), List.getElem?_replicate]
        simp [hx])
  rw [e]
  exact ⟨far, rfl, hf⟩
/-! ### distances_to -/
theorem distBody {s : List (Option Int)} {layer behind : List Int} {who whom steps : Int} (w0 : 0 ≤ who) (wl : who.toNat < s.length) (hb : behind.length ≤ 1000) :
    ((if (decide (whom ∈ layer)) = true then ((atM s who).bind fun g_0 => .ok g_0.isNone) else .ok false).bind fun b_0 => (if b_0 = true then ((setM s who (some steps)).bind fun ys_1 => (appM behind who).bind fun ys_2 => .ok (ys_1, ys_2)) else .ok (s, behind)).bind fun s_3 => .ok (s_3.1, s_3.2)) =
      .ok (if whom ∈ layer ∧ s[who.toNat]? = some none then (s.set who.toNat (some steps), behind ++ [who]) else (s, behind)) := by
  rw [atM_nat w0 wl, M.ok_bind, setM_nat w0 wl, M.ok_bind, appM_ok (by omega), M.ok_bind, List.getElem?_eq_getElem wl]
  by_cases hl : whom ∈ layer
  · rw [if_pos (decide_eq_true hl), M.ok_bind]
    cases s[who.toNat] with
    | none => simp [hl]
    | some k => simp [hl]
  · rw [if_neg (by rw [decide_eq_false hl]; decide), M.ok_bind, if_neg (by decide)]
    simp [hl]
/-- what a round over the rows leaves: as the round, and behind has the new ones -/
theorem distRows {w : Web} (h : WOk w) {far : List (Option Int)} {layer : List Int} {t : Nat} (hf : far.length = w.1.length) (hl : ∀ x : Nat, x < w.1.length → ((x : Int) ∈ layer ↔ far[x]? = some (some (t : Int)))) :
    ∃ s', foldM (fun (x_1 : Row) (s_2 : List (Option Int) × List Int) => (if (decide (x_1.2.1 ∈ layer)) = true then ((atM s_2.1 x_1.1).bind fun g_0 => .ok g_0.isNone) else .ok false).bind fun b_0 => (if b_0 = true then ((setM s_2.1 x_1.1 (some ((t : Int) + 1))).bind fun ys_1 => (appM s_2.2 x_1.1).bind fun ys_2 => .ok (ys_1, ys_2)) else .ok (s_2.1, s_2.2)).bind fun s_3 => .ok (s_3.1, s_3.2)) w.2.2 (far, []) = .ok s' ∧
      s'.1 = roundE (bwd w) t far ∧ ∀ x : Int, x ∈ s'.2 ↔ 0 ≤ x ∧ far[x.toNat]? = some none ∧ s'.1[x.toNat]? = some (some ((t : Int) + 1)) := by
  have v60 := h.v60
  obtain ⟨s', e, h1, _, h3, _, _⟩ := foldM_inv (f := fun (x_1 : Row) (s_2 : List (Option Int) × List Int) => (if (decide (x_1.2.1 ∈ layer)) = true then ((atM s_2.1 x_1.1).bind fun g_0 => .ok g_0.isNone) else .ok false).bind fun b_0 => (if b_0 = true then ((setM s_2.1 x_1.1 (some ((t : Int) + 1))).bind fun ys_1 => (appM s_2.2 x_1.1).bind fun ys_2 => .ok (ys_1, ys_2)) else .ok (s_2.1, s_2.2)).bind fun s_3 => .ok (s_3.1, s_3.2))
    (fun ds s => s.1 = roundE (ds.map fun r => (r.2.1.toNat, r.1.toNat)) t far ∧ s.2.length ≤ ds.length ∧ (∀ x : Int, x ∈ s.2 ↔ 0 ≤ x ∧ far[x.toNat]? = some none ∧ s.1[x.toNat]? = some (some ((t : Int) + 1))) ∧ s.1.length = w.1.length ∧ ∀ x : Nat, s.1[x]? = some (some (t : Int)) ↔ far[x]? = some (some (t : Int)))
    w.2.2 (far, []) ⟨rfl, Nat.le_refl _, fun x => ⟨fun q => (nomatch q), fun ⟨_, a, b⟩ => by rw [a] at b; cases b⟩, hf, fun _ => Iff.rfl⟩ (fun ds r rs s hx hi => by
      obtain ⟨i1, i2, i3, i4, i5⟩ := hi
      have mr : r ∈ w.2.2 := by rw [hx]; simp
      obtain ⟨r0, r1, r2, r3⟩ := row_lt h mr
      have hdl : ds.length ≤ 60 := by
        have := congrArg List.length hx
        rw [List.length_append] at this
        omega
      refine ⟨_, distBody (s := s.1) (behind := s.2) r0 (by rw [i4]; exact r1) (by omega), ?_⟩
      have hst : stepE t s.1 (r.2.1.toNat, r.1.toNat) = if r.2.1 ∈ layer ∧ s.1[r.1.toNat]? = some none then s.1.set r.1.toNat (some ((t : Int) + 1)) else s.1 := by
        unfold stepE
        have q : (r.2.1 ∈ layer) ↔ s.1[r.2.1.toNat]? = some (some (t : Int)) := by
          have := hl r.2.1.toNat r3
          rw [show ((r.2.1.toNat : Nat) : Int) = r.2.1 by omega] at this
          rw [this, i5]
        by_cases z : r.2.1 ∈ layer ∧ s.1[r.1.toNat]? = some none
        · rw [if_pos z, if_pos ⟨q.mp z.1, z.2⟩]
        · rw [if_neg z, if_neg fun y => z ⟨q.mpr y.1, y.2⟩]
      have hr : roundE ((ds ++ [r]).map fun r => (r.2.1.toNat, r.1.toNat)) t far = stepE t s.1 (r.2.1.toNat, r.1.toNat) := by
        rw [List.map_append, i1]
        unfold roundE
        rw [List.foldl_append]; rfl
      by_cases z : r.2.1 ∈ layer ∧ s.1[r.1.toNat]? = some none
      · rw [if_pos z] at hst ⊢
        have rl : r.1.toNat < s.1.length := by rw [i4]; exact r1
        have fn : far[r.1.toNat]? = some none := by
          have hfx : r.1.toNat < far.length := by rw [hf]; exact r1
          cases hq : far[r.1.toNat]? with
          | none => rw [List.getElem?_eq_none_iff] at hq; omega
          | some o =>
            cases o with
            | none => rfl
            | some d =>
              have := round_some (t := (t : Int)) (es := ds.map fun r => (r.2.1.toNat, r.1.toNat)) hq
              rw [← i1, z.2] at this
              cases this
        refine ⟨by rw [hr, hst], by rw [List.length_append, List.length_append]; simp; omega, fun x => ?_, by rw [List.length_set]; exact i4, fun x => ?_⟩
        · show x ∈ s.2 ++ [r.1] ↔ 0 ≤ x ∧ far[x.toNat]? = some none ∧ (s.1.set r.1.toNat (some ((t : Int) + 1)))[x.toNat]? = some (some ((t : Int) + 1))
          rw [List.mem_append, List.mem_singleton, i3]
          by_cases y : r.1.toNat = x.toNat
          · rw [← y, List.getElem?_set_self rl]
            constructor
            · rintro (⟨a, b, c⟩ | rfl)
              · exact ⟨a, b, rfl⟩
              · exact ⟨r0, fn, rfl⟩
            · rintro ⟨a, b, c⟩
              exact .inr (by omega)
          · rw [List.getElem?_set_ne y]
            constructor
            · rintro (q | rfl)
              · exact q
              · exact absurd rfl y
            · exact fun q => .inl q
        · show (s.1.set r.1.toNat (some ((t : Int) + 1)))[x]? = _ ↔ _
          rw [← i5]
          by_cases y : r.1.toNat = x
          · subst y
            rw [List.getElem?_set_self rl, z.2]
            constructor
            · intro q
              have := Option.some.inj (Option.some.inj q)
              omega
            · intro q; cases q
          · rw [List.getElem?_set_ne y]
      · rw [if_neg z] at hst ⊢
        exact ⟨by rw [hr, hst], by rw [List.length_append]; show s.2.length ≤ _; omega, i3, i4, i5⟩)
  exact ⟨s', e, h1, h3⟩
theorem dist_ok {w : Web} (h : WOk w) {a : Nat} (ha : a < w.1.length) : ∃ far, f_distances_to w (a : Int) = .ok far ∧ Full (bwd w) (· = a) w.1.length far := by
  have c14 := h.c14
  unfold f_distances_to
  rw [sizeM_ok (by omega), M.ok_bind, M.ok_bind, M.lt_eq]
  rw [setM_nat (by omega) (by simpa using ha), M.ok_bind, M.lt_eq, M.lt_eq]
  have he1 : ∀ e ∈ bwd w, e.1 < w.1.length := fun e m => (bwd_lt h e m).1
  have he2 : ∀ e ∈ bwd w, e.2 < w.1.length := fun e m => (bwd_lt h e m).2
  have hsrc : ∀ x, x = a → x < w.1.length := fun x hx => by rw [hx]; exact ha
  obtain ⟨s', e, ⟨t, hI⟩, hc⟩ := loopM_inv (c := fun (s_0 : List (Option Int) × List Int × Int) => M.ok (!s_0.2.1.isEmpty))
    (f := fun (s_1 : List (Option Int) × List Int × Int) => M.lt (s_1.2.2 + (1 : Int)) fun steps_1 => M.lt ([] : List Int) fun behind_0 => (foldM (fun (x_1 : Row) (s_2 : List (Option Int) × List Int) => (if (decide (x_1.2.1 ∈ s_1.2.1)) = true then ((atM s_2.1 x_1.1).bind fun g_0 => .ok g_0.isNone) else .ok false).bind fun b_0 => (if b_0 = true then ((setM s_2.1 x_1.1 (some steps_1)).bind fun ys_1 => (appM s_2.2 x_1.1).bind fun ys_2 => .ok (ys_1, ys_2)) else .ok (s_2.1, s_2.2)).bind fun s_3 => .ok (s_3.1, s_3.2)) w.2.2 (s_1.1, behind_0)).bind fun s_4 => .ok (s_4.1, s_4.2, steps_1))
    (fun s => ∃ t : Nat, s.2.2 = (t : Int) ∧ FarOk (bwd w) (· = a) w.1.length t s.1 ∧ t ≤ w.1.length ∧ (∀ x ∈ s.2.1, 0 ≤ x ∧ x.toNat < w.1.length) ∧ ∀ x : Nat, x < w.1.length → ((x : Int) ∈ s.2.1 ↔ s.1[x]? = some (some (t : Int))))
    (fun s => w.1.length + 1 - s.2.2.toNat) (fun s _ => ⟨_, rfl⟩) (fun s hs hc => by
      obtain ⟨t, e1, h1, h2, h3, h4⟩ := hs
      obtain ⟨far, layer, steps⟩ := s
      have e1 : steps = (t : Int) := e1
      subst e1
      have hne : layer ≠ [] := fun z => by
        have hc : M.ok (!layer.isEmpty) = M.ok true := hc
        rw [z] at hc; cases hc
      obtain ⟨x, hx⟩ := List.exists_mem_of_ne_nil layer hne
      have hxl := h3 x hx
      have hx4 := (h4 x.toNat hxl.2).mp (by rw [show ((x.toNat : Nat) : Int) = x by omega]; exact hx)
      obtain ⟨k, ek, _, dk⟩ := (h1.2 x.toNat hxl.2 t).mp hx4
      have hk : k = t := by omega
      subst hk
      have htl := dist_lt he2 hsrc dk
      obtain ⟨s', es, q1, q2⟩ := distRows h (far := far) (layer := layer) (t := k) h1.1 h4
      have hnew : FarOk (bwd w) (· = a) w.1.length (k + 1) s'.1 := by rw [q1]; exact far_round he1 h1
      refine ⟨(s'.1, s'.2, (k : Int) + 1), ?_, ⟨k + 1, by show (k : Int) + 1 = _; omega, hnew, htl, fun y hy => ?_, fun y hy => ?_⟩, ?_⟩
      · show M.lt ((k : Int) + 1) _ = _
        rw [M.lt_eq, M.lt_eq]
        show (foldM _ w.2.2 (far, [])).bind _ = _
        rw [es]; rfl
      · have hy : y ∈ s'.2 := hy
        obtain ⟨y0, y1, _⟩ := (q2 y).mp hy
        refine ⟨y0, ?_⟩
        have := (List.getElem?_eq_some_iff.mp y1).1
        rw [h1.1] at this; exact this
      · show ((y : Int) ∈ s'.2 ↔ s'.1[y]? = some (some (((k + 1 : Nat)) : Int)))
        rw [q2, show (((k + 1 : Nat)) : Int) = (k : Int) + 1 by omega]
        rw [show ((y : Int)).toNat = y by omega]
        constructor
        · exact fun q => q.2.2
        · intro q
          refine ⟨by omega, ?_, q⟩
          have hyf : y < far.length := by rw [h1.1]; exact hy
          cases hq : far[y]? with
          | none => rw [List.getElem?_eq_none_iff] at hq; omega
          | some o =>
            cases o with
            | none => rfl
            | some d =>
              have h5 := (h1.2 y hy d).mp hq
              have h6 := round_some (t := (k : Int)) (es := bwd w) hq
              rw [← q1, q] at h6
              have := Option.some.inj (Option.some.inj h6)
              obtain ⟨j, ej, hj, _⟩ := h5
              omega
      · show w.1.length + 1 - ((k : Int) + 1).toNat < w.1.length + 1 - ((k : Int)).toNat
        omega)
    whileN ((List.map (fun x_0 => (none : Option Int)) w.1).set ((a : Int)).toNat (some 0), [(a : Int)], 0) (Nat.lt_of_le_of_lt (by show w.1.length + 1 - ((0 : Int)).toNat ≤ 100; omega) (whileN_ge (by decide)))
    ⟨0, rfl, farStart (by simp) (fun x hx => by
      by_cases z : x = a
      · subst z
        refine .inl ⟨rfl, ?_⟩
        rw [show ((x : Int)).toNat = x by omega, List.getElem?_set_self (by simpa using hx)]
      · refine .inr ⟨z, ?_⟩
        rw [show ((a : Int)).toNat = a by omega, List.getElem?_set_ne (Ne.symm z), List.getElem?_map, List.getElem?_eq_getElem hx]; rfl), Nat.zero_le _, fun x hx => by
      have hx : x ∈ [(a : Int)] := hx
      rw [List.mem_singleton.mp hx]
      omega, fun x hx => by
      show (x : Int) ∈ [(a : Int)] ↔ ((List.map (fun x_0 => (none : Option Int)) w.1).set ((a : Int)).toNat (some 0))[x]? = some (some ((0 : Nat) : Int))
      rw [List.mem_singleton, show ((a : Int)).toNat = a by omega]
      by_cases z : a = x
      · subst z
        rw [List.getElem?_set_self (by simpa using hx)]
        exact ⟨fun _ => rfl, fun _ => rfl⟩
      · rw [List.getElem?_set_ne z, List.getElem?_map, List.getElem?_eq_getElem hx]
        constructor
        · intro q; omega
        · intro q; cases q⟩
  rw [e, M.ok_bind]
  refine ⟨s'.1, rfl, ?_⟩
  obtain ⟨_, h1, h2, h3, h4⟩ := hI
  have hemp : s'.2.1 = [] := by
    have hc : M.ok (!s'.2.1.isEmpty) = M.ok false := hc
    cases hq : s'.2.1 with
    | nil => rfl
    | cons x xs => rw [hq] at hc; cases hc
  refine h1.full fun k x d => ?_
  by_cases z : k ≤ t
  · exact z
  · obtain ⟨y, dy⟩ := d.level t (by omega)
    have hy : y < w.1.length := walk_lt he2 hsrc dy.1
    have := (h1.2 y hy t).mpr ⟨t, rfl, Nat.le_refl _, dy⟩
    rw [← h4 y hy, hemp] at this
    cases this
end Py

/-! MK3b: reached. -/
namespace Py
open PySem PySem.Spec PyProof.Rows L2 Cor
def Reach (w : Web) (x : Nat) : Prop := ∃ d, Walk (fwd w) (isF w) d x
/-- found and waiting, between two pops -/
structure Fol (w : Web) (pend : List Int) (fw : List Int × List Int) : Prop where
  nd : fw.1.Nodup
  ndw : fw.2.Nodup
  inR : ∀ x ∈ fw.1, 0 ≤ x ∧ x.toNat < w.1.length ∧ Reach w x.toNat
  sub : ∀ x ∈ fw.2, x ∈ fw.1
  clo : ∀ x ∈ fw.1, x ∈ fw.2 ∨ x ∈ pend ∨ ∀ r ∈ w.2.2, r.1 = x → r.2.1 ∈ fw.1
theorem reach_lt {w : Web} (h : WOk w) {x : Nat} (r : Reach w x) : x < w.1.length := by
  obtain ⟨d, r⟩ := r
  exact walk_lt (fun e m => (fwd_lt h e m).2) (fun y hy => isF_lt h hy) r
theorem nodup_le {m : Nat} {xs : List Int} (hn : xs.Nodup) (h : ∀ x ∈ xs, 0 ≤ x ∧ x.toNat < m) : xs.length ≤ m := by
  refine holes m xs.length (fun i => if q : i < xs.length then (xs[i]).toNat else 0) (fun i hi => ?_) fun i j hi hj e => ?_
  · show (if q : i < xs.length then (xs[i]).toNat else 0) < m
    rw [dif_pos hi]
    exact (h _ (List.getElem_mem hi)).2
  · have e : (if q : i < xs.length then (xs[i]).toNat else 0) = (if q : j < xs.length then (xs[j]).toNat else 0) := e
    rw [dif_pos hi, dif_pos hj] at e
    have h1 := (h _ (List.getElem_mem hi)).1
    have h2 := (h _ (List.getElem_mem hj)).1
    exact (List.getElem_inj hn).mp (by omega)
/-- one pop's rows -/
theorem folRows {w : Web} (h : WOk w) {pend : List Int} {here : Int} {fw : List Int × List Int} (nd : fw.1.Nodup) (ndw : fw.2.Nodup) (inR : ∀ x ∈ fw.1, 0 ≤ x ∧ x.toNat < w.1.length ∧ Reach w x.toNat) (sub : ∀ x ∈ fw.2, x ∈ fw.1) (hh : here ∈ fw.1) :
    ∃ s', foldM (fun (x_1 : Row) (s_2 : List Int × List Int) => (if ((decide (x_1.1 = here)) && (!decide (x_1.2.1 ∈ s_2.1))) = true then ((appM s_2.1 x_1.2.1).bind fun ys_1 => (appM s_2.2 x_1.2.1).bind fun ys_2 => .ok (ys_1, ys_2)) else .ok (s_2.1, s_2.2)).bind fun s_3 => .ok (s_3.1, s_3.2)) w.2.2 fw = .ok s' ∧
      (s'.1.Nodup ∧ s'.2.Nodup) ∧ (∀ x ∈ s'.1, 0 ≤ x ∧ x.toNat < w.1.length ∧ Reach w x.toNat) ∧ (∀ x ∈ s'.2, x ∈ s'.1) ∧ (∀ x ∈ fw.1, x ∈ s'.1) ∧ (∀ x ∈ fw.2, x ∈ s'.2) ∧ (∀ r ∈ w.2.2, r.1 = here → r.2.1 ∈ s'.1) ∧ (∀ x ∈ s'.1, x ∈ fw.1 ∨ x ∈ s'.2) ∧ s'.1.length + fw.2.length = fw.1.length + s'.2.length := by
  have v60 := h.v60
  have c14 := h.c14
  have f14 : fw.1.length ≤ 14 := Nat.le_trans (nodup_le (m := w.1.length) nd fun x m => ⟨(inR x m).1, (inR x m).2.1⟩) c14
  obtain ⟨s', e, a1, a2, a3, a4, a5, a6, a7, a8, _⟩ := foldM_inv (f := fun (x_1 : Row) (s_2 : List Int × List Int) => (if ((decide (x_1.1 = here)) && (!decide (x_1.2.1 ∈ s_2.1))) = true then ((appM s_2.1 x_1.2.1).bind fun ys_1 => (appM s_2.2 x_1.2.1).bind fun ys_2 => .ok (ys_1, ys_2)) else .ok (s_2.1, s_2.2)).bind fun s_3 => .ok (s_3.1, s_3.2))
    (fun ds s' => (s'.1.Nodup ∧ s'.2.Nodup) ∧ (∀ x ∈ s'.1, 0 ≤ x ∧ x.toNat < w.1.length ∧ Reach w x.toNat) ∧ (∀ x ∈ s'.2, x ∈ s'.1) ∧ (∀ x ∈ fw.1, x ∈ s'.1) ∧ (∀ x ∈ fw.2, x ∈ s'.2) ∧ (∀ r ∈ ds, r.1 = here → r.2.1 ∈ s'.1) ∧ (∀ x ∈ s'.1, x ∈ fw.1 ∨ x ∈ s'.2) ∧ s'.1.length + fw.2.length = fw.1.length + s'.2.length ∧ s'.1.length ≤ fw.1.length + ds.length)
    w.2.2 fw ⟨⟨nd, ndw⟩, inR, sub, fun x m => m, fun x m => m, fun r m => (nomatch m), fun x m => .inl m, rfl, Nat.le_refl _⟩ (fun ds r rs s hx hi => by
      obtain ⟨b1, b2, b3, b4, b5, b6, b7, b8, b9⟩ := hi
      have mr : r ∈ w.2.2 := by rw [hx]; simp
      obtain ⟨r0, r1, r2, r3⟩ := row_lt h mr
      have hdl : ds.length ≤ 60 := by
        have := congrArg List.length hx
        rw [List.length_append] at this
        omega
      by_cases z : r.1 = here ∧ r.2.1 ∉ s.1
      · have c2 : s.2.length ≤ 1000000 := by
          have := nodup_le (m := w.1.length) b1.2 fun x m => ⟨(b2 x (b3 x m)).1, (b2 x (b3 x m)).2.1⟩
          omega
        refine ⟨(s.1 ++ [r.2.1], s.2 ++ [r.2.1]), ?_, ?_, fun x hx2 => ?_, fun x hx2 => ?_, fun x m => List.mem_append_left _ (b4 x m), fun x m => List.mem_append_left _ (b5 x m), fun q mq e => ?_, fun x hx2 => ?_, ?_, ?_⟩
        · show M.bind (ite _ _ _) _ = _
          rw [decide_eq_true z.1, decide_eq_false z.2, if_pos (show (true && !false) = true from rfl), appM_ok (by omega), M.ok_bind, appM_ok c2, M.ok_bind, M.ok_bind]
        · constructor
          · show (s.1 ++ [r.2.1]).Nodup
            rw [List.nodup_append]
            refine ⟨b1.1, by simp, fun a ha b hb z2 => z.2 ?_⟩
            rw [List.mem_singleton] at hb
            rw [← hb, ← z2]; exact ha
          · show (s.2 ++ [r.2.1]).Nodup
            rw [List.nodup_append]
            refine ⟨b1.2, by simp, fun a ha b hb z2 => z.2 ?_⟩
            rw [List.mem_singleton] at hb
            rw [← hb, ← z2]; exact b3 _ ha
        · rcases List.mem_append.mp hx2 with q | q
          · exact b2 x q
          · rw [List.mem_singleton.mp q]
            refine ⟨r2, r3, ?_⟩
            obtain ⟨d, wd⟩ := (b2 here (b4 here hh)).2.2
            exact ⟨d + 1, (r.1.toNat, r.2.1.toNat), List.mem_map.mpr ⟨r, mr, rfl⟩, rfl, by show Walk _ _ d r.1.toNat; rw [z.1]; exact wd⟩
        · rcases List.mem_append.mp hx2 with q | q
          · exact List.mem_append_left _ (b3 x q)
          · exact List.mem_append_right _ q
        · rcases List.mem_append.mp mq with mq | mq
          · exact List.mem_append_left _ (b6 q mq e)
          · rw [List.mem_singleton.mp mq]
            exact List.mem_append_right _ (List.mem_singleton_self _)
        · rcases List.mem_append.mp hx2 with q | q
          · rcases b7 x q with q | q
            · exact .inl q
            · exact .inr (List.mem_append_left _ q)
          · exact .inr (List.mem_append_right _ q)
        · show (s.1 ++ [r.2.1]).length + _ = _ + (s.2 ++ [r.2.1]).length
          rw [List.length_append, List.length_append]; simp; omega
        · show (s.1 ++ [r.2.1]).length ≤ _
          rw [List.length_append, List.length_append]; simp; omega
      · refine ⟨s, ?_, b1, b2, b3, b4, b5, fun q mq e => ?_, b7, b8, by rw [List.length_append]; omega⟩
        · show M.bind (ite _ _ _) _ = _
          have : ¬ ((decide (r.1 = here)) && (!decide (r.2.1 ∈ s.1))) = true := fun q => z (by simpa using q)
          rw [if_neg this, M.ok_bind]
        · rcases List.mem_append.mp mq with mq | mq
          · exact b6 q mq e
          · rw [List.mem_singleton] at mq
            subst mq
            by_cases y : q.2.1 ∈ s.1
            · exact y
            · exact absurd ⟨e, y⟩ z)
  exact ⟨s', e, a1, a2, a3, a4, a5, a6, a7, a8⟩
theorem pop_some {α : Type} {xs : List α} (h : xs ≠ []) : ∃ a, popM xs = .ok (a, xs.dropLast) ∧ a ∈ xs ∧ xs = xs.dropLast ++ [a] := by
  have hl : 0 < xs.length := List.length_pos_iff.mpr h
  refine ⟨xs.getLast h, ?_, List.getLast_mem h, (List.dropLast_concat_getLast h).symm⟩
  unfold popM
  rw [List.getElem?_eq_getElem (by omega), ← List.getLast_eq_getElem h]
theorem follow_ok {w : Web} (h : WOk w) {a : Int} {pend : List Int} {F : List Int} (hF : Fol w (a :: pend) (F, [])) (ha : a ∈ F) : ∃ F', f_follow w a F = .ok ((), F') ∧ Fol w pend (F', []) ∧ ∀ x ∈ F, x ∈ F' := by
  unfold f_follow
  rw [M.lt_eq]
  have c14 := h.c14
  obtain ⟨s', e, ⟨hI, hs⟩, hc⟩ := loopM_inv (c := fun (s_0 : List Int × List Int) => M.ok (!s_0.2.isEmpty))
    (f := fun (s_1 : List Int × List Int) => (popM s_1.2).bind fun q_0 => (foldM (fun (x_1 : Row) (s_2 : List Int × List Int) => (if ((decide (x_1.1 = q_0.1)) && (!decide (x_1.2.1 ∈ s_2.1))) = true then ((appM s_2.1 x_1.2.1).bind fun ys_1 => (appM s_2.2 x_1.2.1).bind fun ys_2 => .ok (ys_1, ys_2)) else .ok (s_2.1, s_2.2)).bind fun s_3 => .ok (s_3.1, s_3.2)) w.2.2 (s_1.1, q_0.2)).bind fun s_4 => .ok (s_4.1, s_4.2))
    (fun s => Fol w pend s ∧ ∀ x ∈ F, x ∈ s.1) (fun s => s.2.length + (w.1.length - s.1.length)) (fun s _ => ⟨_, rfl⟩) (fun s hs hc => by
      obtain ⟨⟨nd, ndw, inR, sub, clo⟩, hsub⟩ := hs
      have hne : s.2 ≠ [] := fun z => by
        have hc : M.ok (!s.2.isEmpty) = M.ok true := hc
        rw [z] at hc; cases hc
      obtain ⟨x, e1, mx, ex⟩ := pop_some hne
      obtain ⟨t, e2, a1, a2, a3, a4, a5, a6, a7, a8⟩ := folRows h (pend := pend) (here := x) (fw := (s.1, s.2.dropLast)) nd (ndw.sublist (List.dropLast_sublist _)) inR (fun y m => sub y (by rw [ex]; exact List.mem_append_left _ m)) (sub x mx)
      refine ⟨t, ?_, ⟨⟨a1.1, a1.2, a2, a3, fun y my => ?_⟩, fun y my => a4 y (hsub y my)⟩, ?_⟩
      · rw [e1, M.ok_bind]
        show M.bind (foldM _ w.2.2 (s.1, s.2.dropLast)) _ = _
        rw [e2, M.ok_bind]
      · rcases a7 y my with q | q
        · rcases clo y q with p | p | p
          · rw [ex] at p
            rcases List.mem_append.mp p with p | p
            · exact .inl (a5 y p)
            · rw [List.mem_singleton.mp p]
              exact .inr (.inr a6)
          · exact .inr (.inl p)
          · exact .inr (.inr fun r mr er => a4 _ (p r mr er))
        · exact .inl q
      · have hlen : s.2.length = s.2.dropLast.length + 1 := by
          have := congrArg List.length ex
          rw [List.length_append] at this
          exact this
        have h1 : t.1.length ≤ w.1.length := nodup_le a1.1 fun y m => ⟨(a2 y m).1, (a2 y m).2.1⟩
        have h2 : s.1.length ≤ w.1.length := nodup_le nd fun y m => ⟨(inR y m).1, (inR y m).2.1⟩
        have a8 : t.1.length + s.2.dropLast.length = s.1.length + t.2.length := a8
        omega)
    whileN (F, [a]) (Nat.lt_of_le_of_lt (by show 1 + (w.1.length - F.length) ≤ 100; omega) (whileN_ge (by decide)))
    ⟨⟨hF.nd, by simp, hF.inR, fun x m => by rw [List.mem_singleton.mp m]; exact ha, fun x m => by
      rcases hF.clo x m with q | q | q
      · cases q
      · rcases List.mem_cons.mp q with q | q
        · rw [q]; exact .inl (List.mem_singleton_self _)
        · exact .inr (.inl q)
      · exact .inr (.inr q)⟩, fun x m => m⟩
  have hemp : s'.2 = [] := by
    have hc : M.ok (!s'.2.isEmpty) = M.ok false := hc
    cases hq : s'.2 with
    | nil => rfl
    | cons x xs => rw [hq] at hc; cases hc
  rw [e, M.ok_bind]
  refine ⟨s'.1, rfl, ?_, hs⟩
  obtain ⟨F', W'⟩ := s'
  have hemp : W' = [] := hemp
  subst hemp
  exact hI
theorem asc_ext : ∀ {xs ys : List Int}, xs.Pairwise (fun a b => a < b) → ys.Pairwise (fun a b => a < b) → (∀ x, x ∈ xs ↔ x ∈ ys) → xs = ys
  | [], [], _, _, _ => rfl
  | [], y :: ys, _, _, h => nomatch (h y).mpr (List.mem_cons_self ..)
  | x :: xs, [], _, _, h => nomatch (h x).mp (List.mem_cons_self ..)
  | x :: xs, y :: ys, hx, hy, h => by
    rw [List.pairwise_cons] at hx hy
    have e : x = y := by
      rcases List.mem_cons.mp ((h x).mp (List.mem_cons_self ..)) with q | q
      · exact q
      · rcases List.mem_cons.mp ((h y).mpr (List.mem_cons_self ..)) with p | p
        · exact p.symm
        · have a := hy.1 x q
          have b := hx.1 y p
          omega
    subst e
    rw [asc_ext hx.2 hy.2 fun z => ?_]
    constructor
    · intro m
      rcases List.mem_cons.mp ((h z).mp (List.mem_cons_of_mem _ m)) with q | q
      · have := hx.1 z m; omega
      · exact q
    · intro m
      rcases List.mem_cons.mp ((h z).mpr (List.mem_cons_of_mem _ m)) with q | q
      · have := hy.1 z m; omega
      · exact q
theorem sortI_asc {xs : List Int} (h : xs.Nodup) : (sortT ltI xs).Pairwise (fun a b => a < b) := by
  unfold sortT
  have hp := List.pairwise_mergeSort (le := fun a b => !ltI b a) (fun a b c h1 h2 => by
    simp only [Bool.not_eq_true', ← Bool.not_eq_true, ltI_iff] at *
    omega) (fun a b => by
    cases h1 : ltI b a <;> cases h2 : ltI a b <;> simp
    rw [ltI_iff] at h1 h2
    omega) xs
  have hn : (xs.mergeSort fun a b => !ltI b a).Nodup := (List.mergeSort_perm xs _).nodup_iff.mpr h
  refine (hp.and hn).imp fun {a b} h => ?_
  obtain ⟨h1, h2⟩ := h
  simp only [Bool.not_eq_true', ← Bool.not_eq_true, ltI_iff] at h1
  have : a ≠ b := h2
  omega
theorem asc_lt {xs : List Int} (h : ascB ltI xs = true) : xs.Pairwise (fun a b => a < b) := (pairwise_ascB ltI_tr h).imp fun {a b} q => ltI_iff.mp q
theorem reached_ok {w : Web} (h : WOk w) {far : List (Option Int)} (hf : Full (fwd w) (isF w) w.1.length far) : f_reached_of w = .ok ((upto w.1.length).filter fun x => match far[x.toNat]? with | some (some _) => true | _ => false) := by
  unfold f_reached_of
  rw [M.lt_eq, cut_all]
  have hnd : w.2.1.Nodup := (asc_lt h.fa).imp fun {a b} q => by omega
  have gen : ∀ (ps : List Int) (F : List Int), Fol w ps (F, []) → (∀ x ∈ ps, x ∈ F) → ∃ F', foldM (fun x_0 s_0 => (f_follow w x_0 s_0).bind fun q_0 => .ok q_0.2) ps F = .ok F' ∧ Fol w [] (F', []) ∧ ∀ x ∈ F, x ∈ F' := by
    intro ps
    induction ps with
    | nil => exact fun F hF _ => ⟨F, rfl, hF, fun x m => m⟩
    | cons p ps ih =>
      intro F hF hp
      obtain ⟨F1, e1, h1, h2⟩ := follow_ok h hF (hp p (List.mem_cons_self ..))
      obtain ⟨F2, e2, h3, h4⟩ := ih F1 h1 fun x m => h2 x (hp x (List.mem_cons_of_mem _ m))
      refine ⟨F2, ?_, h3, fun x m => h4 x (h2 x m)⟩
      rw [foldM_cons, e1, M.ok_bind, M.ok_bind, e2]
  obtain ⟨F, e, hF, hs⟩ := gen w.2.1 w.2.1 ⟨hnd, List.nodup_nil, fun x m => by
    have q := h.fz x m
    have fx : isF w x.toNat := by
      show ((x.toNat : Nat) : Int) ∈ w.2.1
      rw [show ((x.toNat : Nat) : Int) = x by omega]; exact m
    exact ⟨q.1, isF_lt h fx, 0, fx⟩, fun x m => (nomatch m), fun x m => Or.inr (Or.inl m)⟩ fun x m => m
  rw [e, M.ok_bind]
  congr 1
  have hm : ∀ x : Int, x ∈ F ↔ 0 ≤ x ∧ x.toNat < w.1.length ∧ Reach w x.toNat := by
    intro x
    constructor
    · exact hF.inR x
    · rintro ⟨x0, xl, d, hw⟩
      have key : ∀ (d y : Nat), Walk (fwd w) (isF w) d y → (y : Int) ∈ F := by
        intro d
        induction d with
        | zero => exact fun y hy => hs _ hy
        | succ d ih =>
          rintro y ⟨e, me, e2, hw⟩
          obtain ⟨r, mr, rfl⟩ := List.mem_map.mp me
          have r1 := ih _ hw
          obtain ⟨q0, q1, q2, q3⟩ := row_lt h mr
          rcases hF.clo _ r1 with q | q | q
          · cases q
          · cases q
          · have := q r mr (by show r.1 = ((r.1.toNat : Nat) : Int); omega)
            have e2 : r.2.1.toNat = y := e2
            rw [← e2, show ((r.2.1.toNat : Nat) : Int) = r.2.1 by omega]; exact this
      have := key d _ hw
      rw [show ((x.toNat : Nat) : Int) = x by omega] at this
      exact this
  refine asc_ext (sortI_asc hF.nd) ((upto_pairwise _).filter _ |>.imp fun {a b} q => ltI_iff.mp q) fun x => ?_
  unfold sortT
  rw [List.mem_mergeSort, hm, List.mem_filter, upto_mem]
  constructor
  · rintro ⟨x0, xl, d, hw⟩
    obtain ⟨k, _, dk⟩ := walk_dist hw
    have := (hf.2 x.toNat xl k).mpr ⟨k, rfl, dk⟩
    exact ⟨⟨x0, by omega⟩, by rw [this]⟩
  · rintro ⟨⟨x0, x1⟩, q⟩
    have xl : x.toNat < w.1.length := by omega
    refine ⟨x0, xl, ?_⟩
    cases hq : far[x.toNat]? with
    | none => rw [hq] at q; cases q
    | some o =>
      cases o with
      | none => rw [hq] at q; cases q
      | some d =>
        obtain ⟨k, _, dk⟩ := (hf.2 x.toNat xl d).mp hq
        exact ⟨k, dk.1⟩
end Py

/-! MK3c: ways. -/
namespace Py
open PySem PySem.Spec PyProof.Rows L2 Cor
/-! ### the least -/
theorem least_ok {α : Type} {lt : α → α → Bool} (tr : ∀ a b c, lt b a = false → lt c b = false → lt c a = false) (as : ∀ a b, lt a b = true → lt b a = false) (ir : ∀ a, lt a a = false) {xs : List α} (h : xs ≠ []) : ∃ v, leastM lt xs = .ok v ∧ v ∈ xs ∧ ∀ y ∈ xs, lt y v = false := by
  match xs, h with
  | x :: r, _ =>
    have gen : ∀ (r : List α) (x : α), (r.foldl (fun a y => if lt y a = true then y else a) x = x ∨ r.foldl (fun a y => if lt y a = true then y else a) x ∈ r) ∧ lt x (r.foldl (fun a y => if lt y a = true then y else a) x) = false ∧ ∀ y ∈ r, lt y (r.foldl (fun a y => if lt y a = true then y else a) x) = false := by
      intro r
      induction r with
      | nil => exact fun x => ⟨.inl rfl, ir x, fun _ m => nomatch m⟩
      | cons z r ih =>
        intro x
        rw [List.foldl_cons]
        obtain ⟨a, b, c⟩ := ih (if lt z x = true then z else x)
        generalize hv : r.foldl (fun a y => if lt y a = true then y else a) (if lt z x = true then z else x) = v at a b c
        by_cases q : lt z x = true
        · rw [if_pos q] at a b
          refine ⟨.inr (a.elim (fun e => by rw [e]; exact List.mem_cons_self ..) fun m => List.mem_cons_of_mem _ m), tr _ _ _ b (as _ _ q), fun y my => ?_⟩
          rcases List.mem_cons.mp my with e | my
          · rw [e]; exact b
          · exact c y my
        · rw [if_neg q] at a b
          refine ⟨a.elim .inl fun m => .inr (List.mem_cons_of_mem _ m), b, fun y my => ?_⟩
          rcases List.mem_cons.mp my with e | my
          · rw [e]
            exact tr _ _ _ b (by simpa using q)
          · exact c y my
    obtain ⟨a, b, c⟩ := gen r x
    refine ⟨_, rfl, a.elim (fun e => by rw [e]; exact List.mem_cons_self ..) fun m => List.mem_cons_of_mem _ m, fun y my => ?_⟩
    rcases List.mem_cons.mp my with e | my
    · rw [e]; exact b
    · exact c y my
theorem leastI_ok {xs : List Int} (h : xs ≠ []) : ∃ v, leastM ltI xs = .ok v ∧ v ∈ xs ∧ ∀ y ∈ xs, v ≤ y := by
  obtain ⟨v, a, b, c⟩ := least_ok (lt := ltI) (fun a b c h1 h2 => by rw [← Bool.not_eq_true, ltI_iff] at *; omega) (fun a b h => by rw [ltI_iff] at h; rw [← Bool.not_eq_true, ltI_iff]; omega) (fun a => by rw [← Bool.not_eq_true, ltI_iff]; omega) h
  refine ⟨v, a, b, fun y m => ?_⟩
  have := c y m
  rw [← Bool.not_eq_true, ltI_iff] at this
  omega
theorem leastP_ok {xs : List (Int × Int)} (h : xs ≠ []) : ∃ v, leastM (lt2 ltI ltI) xs = .ok v ∧ v ∈ xs ∧ ∀ y ∈ xs, v.1 < y.1 ∨ (v.1 = y.1 ∧ v.2 ≤ y.2) := by
  obtain ⟨v, a, b, c⟩ := least_ok (lt := ltP) (fun a b c h1 h2 => by rw [← Bool.not_eq_true, ltP_iff] at *; omega) (fun a b h => by rw [ltP_iff] at h; rw [← Bool.not_eq_true, ltP_iff]; omega) (fun a => by rw [← Bool.not_eq_true, ltP_iff]; omega) h
  refine ⟨v, a, b, fun y m => ?_⟩
  have := c y m
  rw [← Bool.not_eq_true, ltP_iff] at this
  omega
/-! ### steps of a way -/
def isAt (far : List (Option Int)) (x d : Int) : Bool := match far[x.toNat]? with
  | some (some k) => decide (k = d)
  | _ => false
def nexts (w : Web) (far : List (Option Int)) (here left : Int) : List Int := (w.2.2.filter fun r => decide (r.1 = here) && isAt far r.2.1 left).map fun r => r.2.1
noncomputable def leastI (xs : List Int) : Int := match leastM ltI xs with
  | .ok v => v
  | _ => 0
noncomputable def wayFrom (w : Web) (far : List (Option Int)) : Nat → Int → List Int
  | 0, _ => []
  | n + 1, h => leastI (nexts w far h n) :: wayFrom w far n (leastI (nexts w far h n))
theorem isAt_iff {far : List (Option Int)} {x d : Int} : isAt far x d = true ↔ far[x.toNat]? = some (some d) := by
  unfold isAt
  cases far[x.toNat]? with
  | none => simp
  | some o => cases o <;> simp
theorem nexts_ok {w : Web} (h : WOk w) {a : Nat} {far : List (Option Int)} (hf : Full (bwd w) (· = a) w.1.length far) {here : Int} {n : Nat} (h0 : 0 ≤ here) (hl : here.toNat < w.1.length) (hd : isAt far here ((n + 1 : Nat) : Int) = true) :
    leastM ltI (nexts w far here n) = .ok (leastI (nexts w far here n)) ∧ 0 ≤ leastI (nexts w far here n) ∧ (leastI (nexts w far here n)).toNat < w.1.length ∧ isAt far (leastI (nexts w far here n)) n = true := by
  obtain ⟨k, ek, dk⟩ := (hf.2 here.toNat hl _).mp (isAt_iff.mp hd)
  have : k = n + 1 := by omega
  subst this
  obtain ⟨e, me, e2, dn⟩ := dk.pred
  obtain ⟨r, mr, rfl⟩ := List.mem_map.mp me
  obtain ⟨r0, r1, r2, r3⟩ := row_lt h mr
  have hr : r.1 = here := by
    have e2 : r.1.toNat = here.toNat := e2
    omega
  have hm : r.2.1 ∈ nexts w far here n := List.mem_map.mpr ⟨r, List.mem_filter.mpr ⟨mr, by
    rw [decide_eq_true hr, Bool.true_and, isAt_iff]
    exact (hf.2 r.2.1.toNat r3 n).mpr ⟨n, rfl, dn⟩⟩, rfl⟩
  obtain ⟨v, e, m, _⟩ := leastI_ok (List.ne_nil_of_mem hm)
  have hv : leastI (nexts w far here n) = v := by unfold leastI; rw [e]
  rw [hv]
  obtain ⟨q, mq, rfl⟩ := List.mem_map.mp m
  obtain ⟨mq1, mq2⟩ := List.mem_filter.mp mq
  obtain ⟨q0, q1, q2, q3⟩ := row_lt h mq1
  rw [Bool.and_eq_true] at mq2
  exact ⟨e, q2, q3, mq2.2⟩
theorem at_far {far : List (Option Int)} {m : Nat} (hl : far.length = m) {x : Int} (h0 : 0 ≤ x) (hx : x.toNat < m) : ∃ o, atM far x = .ok o ∧ far[x.toNat]? = some o := ⟨far[x.toNat]'(by omega), atM_nat h0 (by omega), List.getElem?_eq_getElem _⟩
/-- the program's steps -/
theorem nextM {w : Web} (h : WOk w) {far : List (Option Int)} (hl : far.length = w.1.length) (here left : Int) :
    ((sizeM w.2.2.length).bind fun _ => compM (fun (x_1 : Row) => (if (decide (x_1.1 = here)) = true then ((atM far x_1.2.1).bind fun g_2 => .ok (decide (g_2 = (some left)))) else .ok false).bind fun b_0 => .ok b_0) (fun x_1 => .ok x_1.2.1) w.2.2) = .ok (nexts w far here left) := by
  have v60 := h.v60
  rw [sizeM_ok (by omega), M.ok_bind]
  refine compM_ok (fun r => decide (r.1 = here) && isAt far r.2.1 left) (fun r => r.2.1) w.2.2 (fun r mr => ?_) (fun _ _ _ => rfl)
  · obtain ⟨r0, r1, r2, r3⟩ := row_lt h mr
    obtain ⟨o, e1, e2⟩ := at_far hl r2 r3
    by_cases z : r.1 = here
    · rw [if_pos (decide_eq_true z), e1, M.ok_bind, M.ok_bind, decide_eq_true z, Bool.true_and]
      unfold isAt
      rw [e2]
      cases o <;> simp
    · rw [if_neg (by rw [decide_eq_false z]; decide), M.ok_bind, decide_eq_false z]; rfl
/-- the law's steps -/
theorem nextL {w : Web} (h : WOk w) {far : List (Option Int)} (hl : far.length = w.1.length) (here left : Int) :
    ((sizeM w.2.2.length).bind fun _ => compM (fun (x_2 : Row) => (if (decide (x_2.1 = here)) = true then ((atM far x_2.2.1).bind fun g_4 => (if (!g_4.isNone) = true then ((atM far x_2.2.1).bind fun g_5 => .ok (decide (g_5 = (some left)))) else .ok false).bind fun b_1 => .ok b_1) else .ok false).bind fun b_2 => .ok b_2) (fun x_2 => .ok x_2.2.1) w.2.2) = .ok (nexts w far here left) := by
  have v60 := h.v60
  rw [sizeM_ok (by omega), M.ok_bind]
  refine compM_ok (fun r => decide (r.1 = here) && isAt far r.2.1 left) (fun r => r.2.1) w.2.2 (fun r mr => ?_) (fun _ _ _ => rfl)
  · obtain ⟨r0, r1, r2, r3⟩ := row_lt h mr
    obtain ⟨o, e1, e2⟩ := at_far hl r2 r3
    by_cases z : r.1 = here
    · rw [if_pos (decide_eq_true z), e1, M.ok_bind, M.ok_bind, decide_eq_true z, Bool.true_and]
      unfold isAt
      rw [e2]
      cases o <;> simp
    · rw [if_neg (by rw [decide_eq_false z]; decide), M.ok_bind, decide_eq_false z]; rfl
theorem loop_way {w : Web} (h : WOk w) {a : Nat} {far : List (Option Int)} (hf : Full (bwd w) (· = a) w.1.length far) : ∀ (n fuel : Nat) (way : List Int) (here : Int), n < fuel → way.length + n ≤ 1000 → 0 ≤ here → here.toNat < w.1.length → isAt far here (n : Int) = true →
    ∃ last, loopM (fun (s_0 : List Int × Int × Int) => M.ok (decide ((0 : Int) < s_0.2.1))) (fun s_1 => M.lt (s_1.2.1 - (1 : Int)) fun left_0 => ((sizeM w.2.2.length).bind fun _ => compM (fun (x_1 : Row) => (if (decide (x_1.1 = s_1.2.2)) = true then ((atM far x_1.2.1).bind fun g_2 => .ok (decide (g_2 = (some left_0)))) else .ok false).bind fun b_0 => .ok b_0) (fun x_1 => .ok x_1.2.1) w.2.2).bind fun l_1 => (leastM ltI l_1).bind fun n_1 => (appM s_1.1 n_1).bind fun ys_0 => .ok (ys_0, left_0, n_1)) fuel (way, (n : Int), here) = .ok (way ++ wayFrom w far n here, 0, last)
  | n, 0, _, _, hn, _, _, _, _ => absurd hn (Nat.not_lt_zero _)
  | 0, fuel + 1, way, here, _, _, _, _, _ => ⟨here, by
    show ((M.ok (decide ((0 : Int) < ((0 : Nat) : Int)))).bind fun b => if b = true then _ else M.ok (way, ((0 : Nat) : Int), here)) = _
    rw [M.ok_bind, if_neg (by decide)]
    unfold wayFrom
    rw [List.append_nil]; rfl⟩
  | n + 1, fuel + 1, way, here, hn, hw, h0, hl, hd => by
    obtain ⟨e1, b0, b1, b2⟩ := nexts_ok h hf h0 hl hd
    obtain ⟨last, e2⟩ := loop_way h hf n fuel (way ++ [leastI (nexts w far here n)]) (leastI (nexts w far here n)) (by omega) (by rw [List.length_append]; simp; omega) b0 b1 b2
    refine ⟨last, ?_⟩
    show ((M.ok (decide ((0 : Int) < ((n + 1 : Nat) : Int)))).bind fun b => if b = true then _ else M.ok (way, ((n + 1 : Nat) : Int), here)) = _
    rw [M.ok_bind, decide_eq_true (show (0 : Int) < ((n + 1 : Nat) : Int) by omega), if_pos rfl]
    show M.bind (M.lt _ _) _ = _
    rw [M.lt_eq]
    show M.bind (M.bind (M.bind _ _) _) _ = _
    rw [nextM h hf.1 here, M.ok_bind, show (((n + 1 : Nat) : Int) - 1) = (n : Int) by omega, e1, M.ok_bind, appM_ok (show way.length ≤ 1000000 by omega), M.ok_bind, M.ok_bind, e2, List.append_assoc]; rfl
theorem upto_drop {m t : Nat} (h : t < m) : (upto m).drop t = (t : Int) :: (upto m).drop (t + 1) := by
  have hl : t < (upto m).length := by rw [upto_len]; exact h
  rw [List.drop_eq_getElem_cons hl]
  congr 1
  have := upto_get h
  rw [List.getElem?_eq_getElem hl] at this
  exact Option.some.inj this
theorem fold_way {w : Web} (h : WOk w) {a : Nat} {far : List (Option Int)} (hf : Full (bwd w) (· = a) w.1.length far) (many : Nat) : ∀ (k t : Nat) (way : List Int) (here : Int), t + k = many → way.length + k ≤ 1000 → 0 ≤ here → here.toNat < w.1.length → isAt far here (k : Int) = true →
    ∃ last, foldM (fun (x_1 : Int) (s_0 : Int × List Int) => (unO (some (many : Int))).bind fun u_1 => M.lt ((u_1 - x_1) - (1 : Int)) fun left_0 => ((sizeM w.2.2.length).bind fun _ => compM (fun (x_2 : Row) => (if (decide (x_2.1 = s_0.1)) = true then ((atM far x_2.2.1).bind fun g_4 => (if (!g_4.isNone) = true then ((atM far x_2.2.1).bind fun g_5 => .ok (decide (g_5 = (some left_0)))) else .ok false).bind fun b_1 => .ok b_1) else .ok false).bind fun b_2 => .ok b_2) (fun x_2 => .ok x_2.2.1) w.2.2).bind fun l_1 => (leastM ltI l_1).bind fun n_1 => (appM s_0.2 n_1).bind fun ys_0 => .ok (n_1, ys_0)) ((upto many).drop t) (here, way) = .ok (last, way ++ wayFrom w far k here)
  | 0, t, way, here, ht, _, _, _, _ => ⟨here, by
    rw [List.drop_eq_nil_of_le (by rw [upto_len]; omega), foldM_nil]
    unfold wayFrom
    rw [List.append_nil]⟩
  | k + 1, t, way, here, ht, hw, h0, hl, hd => by
    obtain ⟨e1, b0, b1, b2⟩ := nexts_ok h hf h0 hl hd
    obtain ⟨last, e2⟩ := fold_way h hf many k (t + 1) (way ++ [leastI (nexts w far here k)]) (leastI (nexts w far here k)) (by omega) (by rw [List.length_append]; simp; omega) b0 b1 b2
    refine ⟨last, ?_⟩
    rw [unO_some] at e2
    rw [upto_drop (by omega), foldM_cons, unO_some, M.ok_bind, M.lt_eq]
    show M.bind (M.bind (M.bind _ _) _) _ = _
    rw [nextL h hf.1 here, M.ok_bind, show ((many : Int) - (t : Int) - 1) = (k : Int) by omega, e1, M.ok_bind, appM_ok (show way.length ≤ 1000000 by omega), M.ok_bind, M.ok_bind, e2, List.append_assoc]; rfl
theorem needAccount_ok {w : Web} (x : Nat) (hx : x < w.1.length) (at0 : Int) : f_need_account w (.int (x : Int)) at0 = .ok (x : Int) := by
  unfold f_need_account f_is_account
  rw [betw_eq, betw_of ⟨by omega, by omega⟩, M.ok_bind, M.ok_bind, need_true, M.ok_bind]; rfl
/-- the founders at a distance -/
theorem dist_both {w : Web} (h : WOk w) {a : Nat} {back : List (Option Int)} (hb : Full (bwd w) (· = a) w.1.length back) {d : Nat} (hd : Dist (fwd w) (isF w) d a) :
    (∃ f ∈ w.2.1, isAt back f d = true) ∧ ∀ f ∈ w.2.1, ∀ k : Int, back[f.toNat]? = some (some k) → (d : Int) ≤ k := by
  have key : ∀ f : Nat, isF w f → ∀ k, Dist (bwd w) (· = a) k f → d ≤ k := fun f hf k dk => by
    have w1 := walk_rev (bwd_fwd w) dk.1
    have w2 : Walk (fwd w) (isF w) k a := by
      have := walk_app (es := fwd w) (s := isF w) (x := f) (d := 0) (k := k) hf w1
      rwa [Nat.zero_add] at this
    by_cases z : d ≤ k
    · exact z
    · exact absurd w2 (hd.2 k (by omega))
  have fIn : ∀ f ∈ w.2.1, isF w f.toNat ∧ 0 ≤ f := fun f m => by
    have := h.fz f m
    refine ⟨?_, this.1⟩
    show ((f.toNat : Nat) : Int) ∈ w.2.1
    rw [show ((f.toNat : Nat) : Int) = f by omega]; exact m
  constructor
  · obtain ⟨f, hf, wf⟩ := walk_src hd.1
    have w1 : Walk (bwd w) (· = a) d f := walk_rev (fwd_bwd w) wf
    obtain ⟨k, hk, dk⟩ := walk_dist w1
    have := key f hf k dk
    have : k = d := by omega
    subst this
    refine ⟨(f : Int), hf, ?_⟩
    rw [isAt_iff, show ((f : Int)).toNat = f by omega]
    exact (hb.2 f (isF_lt h hf) k).mpr ⟨k, rfl, dk⟩
  · intro f m k hk
    obtain ⟨f1, f2⟩ := fIn f m
    obtain ⟨j, rfl, dj⟩ := (hb.2 f.toNat (isF_lt h f1) k).mp hk
    have := key f.toNat f1 j dj
    omega
theorem way_ok {w : Web} (h : WOk w) {a : Nat} (ha : a < w.1.length) : ∃ o : Option (List Int), f_way_to (eWeb w) (.int (a : Int)) = .ok o ∧ f__law_way w (a : Int) = .ok o ∧ ∀ xs, o = some xs → xs.length ≤ 1000 := by
  have c14 := h.c14
  have f3 := h.f3
  obtain ⟨far, ef, hf⟩ := lawFar_ok h
  obtain ⟨back, eb, hb⟩ := lawBack_ok h ha
  obtain ⟨back', ed, hb'⟩ := dist_ok h ha
  have := hb.same hb'
  subst this
  unfold f_way_to f__law_way
  rw [needWeb_enc h, M.ok_bind, needAccount_ok a ha, M.ok_bind, show asM asI (.int (a : Int)) = .ok (a : Int) from rfl, M.ok_bind, ed, M.ok_bind, ef, M.ok_bind, eb]
  obtain ⟨oa, e1, e2⟩ := at_far (x := (a : Int)) hf.1 (by omega) (by simpa using ha)
  rw [show ((a : Int)).toNat = a by omega] at e2
  have fIn : ∀ f ∈ w.2.1, 0 ≤ f ∧ f.toNat < w.1.length := fun f m => by have := h.fz f m; omega
  -- the program's starts
  let isS : Int → Bool := fun f => match back[f.toNat]? with | some (some _) => true | _ => false
  let valS : Int → Int := fun f => match back[f.toNat]? with | some (some k) => k | _ => 0
  have hst : compM (fun x_0 => (atM back x_0).bind fun g_0 => .ok (!g_0.isNone)) (fun x_0 => (atM back x_0).bind fun g_1 => (unO g_1).bind fun u_0 => .ok (u_0, x_0)) w.2.1 = .ok ((w.2.1.filter isS).map fun f => (valS f, f)) :=
    compM_ok isS (fun f => (valS f, f)) w.2.1 (fun f m => by
      obtain ⟨o, q1, q2⟩ := at_far hb.1 (fIn f m).1 (fIn f m).2
      rw [q1, M.ok_bind]
      show _ = M.ok (match back[f.toNat]? with | some (some _) => true | _ => false)
      rw [q2]
      cases o <;> rfl) (fun f m hp => by
      obtain ⟨o, q1, q2⟩ := at_far hb.1 (fIn f m).1 (fIn f m).2
      have hp : (match back[f.toNat]? with | some (some _) => true | _ => false) = true := hp
      rw [q1, M.ok_bind]
      show _ = M.ok ((match back[f.toNat]? with | some (some k) => k | _ => 0), f)
      rw [q2] at hp ⊢
      cases o with
      | none => cases hp
      | some k => rfl)
  rw [sizeM_ok (by omega), M.ok_bind, hst, M.ok_bind, e1, M.ok_bind]
  cases oa with
  | none =>
    have hno : w.2.1.filter isS = [] := by
      rw [List.filter_eq_nil_iff]
      intro f m hs
      have hs : (match back[f.toNat]? with | some (some _) => true | _ => false) = true := hs
      cases hq : back[f.toNat]? with
      | none => rw [hq] at hs; cases hs
      | some o =>
        cases o with
        | none => rw [hq] at hs; cases hs
        | some k =>
          obtain ⟨j, _, dj⟩ := (hb.2 f.toNat (fIn f m).2 k).mp hq
          have w1 := walk_rev (bwd_fwd w) dj.1
          have hff : isF w f.toNat := by
            show ((f.toNat : Nat) : Int) ∈ w.2.1
            rw [show ((f.toNat : Nat) : Int) = f by have := (fIn f m).1; omega]; exact m
          have w2 : Walk (fwd w) (isF w) (0 + j) a := walk_app (es := fwd w) (s := isF w) (x := f.toNat) (d := 0) (k := j) hff w1
          obtain ⟨i, _, di⟩ := walk_dist w2
          have := (hf.2 a ha i).mpr ⟨i, rfl, di⟩
          rw [e2] at this
          cases this
    refine ⟨none, ?_, ?_, fun xs e => nomatch e⟩
    · rw [hno]; rfl
    · rfl
  | some d0 =>
    obtain ⟨d, rfl, hd⟩ := (hf.2 a ha d0).mp e2
    obtain ⟨⟨f0, mf0, hf0⟩, hmin⟩ := dist_both h hb hd
    have hdl : d < w.1.length := dist_lt (fun e m => (fwd_lt h e m).2) (fun y hy => isF_lt h hy) hd
    have isS_of : ∀ f, isAt back f d = true → isS f = true ∧ valS f = (d : Int) := fun f q => by
      rw [isAt_iff] at q
      constructor
      · show (match back[f.toNat]? with | some (some _) => true | _ => false) = true
        rw [q]
      · show (match back[f.toNat]? with | some (some k) => k | _ => 0) = (d : Int)
        rw [q]
    have hne : (w.2.1.filter isS).map (fun f => (valS f, f)) ≠ [] := by
      have m : ((d : Int), f0) ∈ (w.2.1.filter isS).map fun f => (valS f, f) := List.mem_map.mpr ⟨f0, List.mem_filter.mpr ⟨mf0, (isS_of f0 hf0).1⟩, by rw [(isS_of f0 hf0).2]⟩
      exact List.ne_nil_of_mem m
    obtain ⟨v, ev, mv, hv⟩ := leastP_ok hne
    obtain ⟨fv, mfv, rfl⟩ := List.mem_map.mp mv
    obtain ⟨mfv1, mfv2⟩ := List.mem_filter.mp mfv
    have hvf := hv ((d : Int), f0) (List.mem_map.mpr ⟨f0, List.mem_filter.mpr ⟨mf0, (isS_of f0 hf0).1⟩, by rw [(isS_of f0 hf0).2]⟩)
    have hbk : back[fv.toNat]? = some (some (valS fv)) := by
      have q : (match back[fv.toNat]? with | some (some _) => true | _ => false) = true := mfv2
      show back[fv.toNat]? = some (some (match back[fv.toNat]? with | some (some k) => k | _ => 0))
      cases hq : back[fv.toNat]? with
      | none => rw [hq] at q; cases q
      | some o =>
        cases o with
        | none => rw [hq] at q; cases q
        | some k => rfl
    have hvd : valS fv = (d : Int) := by
      have := hmin fv mfv1 _ hbk
      have hvf : valS fv < (d : Int) ∨ (valS fv = (d : Int) ∧ fv ≤ f0) := hvf
      omega
    have hat : isAt back fv d = true := by rw [isAt_iff, hbk, hvd]
    -- the law's start
    have hls : ((M.ok ()).bind fun _ => compM (fun x_0 => (atM back x_0).bind fun g_2 => (if (!g_2.isNone) = true then ((atM back x_0).bind fun g_3 => .ok (decide (g_3 = (some (d : Int))))) else .ok false).bind fun b_0 => .ok b_0) (fun x_0 => .ok x_0) w.2.1) = .ok (w.2.1.filter fun f => isAt back f d) := by
      rw [M.ok_bind, compM_ok (fun f => isAt back f d) (fun f => f) w.2.1 (fun f m => by
        obtain ⟨o, q1, q2⟩ := at_far hb.1 (fIn f m).1 (fIn f m).2
        rw [q1, M.ok_bind, M.ok_bind]
        unfold isAt
        rw [q2]
        cases o <;> simp) (fun _ _ _ => rfl), List.map_id']
    obtain ⟨u, eu, mu, hu⟩ := leastI_ok (List.ne_nil_of_mem (List.mem_filter.mpr ⟨mf0, hf0⟩) : (w.2.1.filter fun f => isAt back f d) ≠ [])
    have huv : u = fv := by
      obtain ⟨mu1, mu2⟩ := List.mem_filter.mp mu
      have a1 := hu fv (List.mem_filter.mpr ⟨mfv1, hat⟩)
      have a2 := hv ((d : Int), u) (List.mem_map.mpr ⟨u, List.mem_filter.mpr ⟨mu1, (isS_of u mu2).1⟩, by rw [(isS_of u mu2).2]⟩)
      have a2 : valS fv < (d : Int) ∨ (valS fv = (d : Int) ∧ fv ≤ u) := a2
      omega
    subst huv
    obtain ⟨l1, p1⟩ := loop_way h hb d whileN [u] u (Nat.lt_of_lt_of_le hdl (Nat.le_trans c14 (by unfold whileN; decide))) (by simp; omega) (fIn u mfv1).1 (fIn u mfv1).2 hat
    obtain ⟨l2, p2⟩ := fold_way h hb d d 0 [u] u (by omega) (by simp; omega) (fIn u mfv1).1 (fIn u mfv1).2 hat
    have hwl : ∀ (n : Nat) (x : Int), (wayFrom w back n x).length = n := by
      intro n
      induction n with
      | zero => exact fun _ => rfl
      | succ n ih => intro x; unfold wayFrom; rw [List.length_cons, ih]
    refine ⟨some ([u] ++ wayFrom w back d u), ?_, ?_, fun xs e => ?_⟩
    · rw [if_neg (by
        cases hq : (w.2.1.filter isS).map (fun f => (valS f, f)) with
        | nil => exact absurd hq hne
        | cons x xs => simp), ev, M.ok_bind, M.lt_eq]
      show (loopM _ _ whileN ([u], valS u, u)).bind _ = _
      rw [hvd, p1, M.ok_bind]
    · rw [if_neg (by simp), M.ok_bind, M.ok_bind, hls, M.ok_bind, eu, M.ok_bind, M.lt_eq, unO_some, M.ok_bind, rngM1_nat rfl (by omega), M.ok_bind]
      rw [List.drop_zero, unO_some] at p2
      rw [p2, M.ok_bind]
    · cases e
      rw [List.length_append, hwl]; simp; omega
/-! ### places -/
def placesP (p : Row → Bool) : Nat → List Row → List Int
  | _, [] => []
  | i, r :: vs => if p r = true then (i : Int) :: placesP p (i + 1) vs else placesP p (i + 1) vs
theorem places_enu (p : Row → Bool) : ∀ (vs : List Row) (i : Nat), ((enumI i vs).filter fun q => p q.2).map (fun q => q.1) = placesP p i vs
  | [], _ => rfl
  | r :: vs, i => by
    have ih := places_enu p vs (i + 1)
    show ((((i : Int), r) :: enumI (i + 1) vs).filter fun q => p q.2).map _ = if p r = true then (i : Int) :: placesP p (i + 1) vs else placesP p (i + 1) vs
    by_cases h : p r = true
    · rw [List.filter_cons_of_pos (by exact h), if_pos h, List.map_cons, ih]
    · rw [List.filter_cons_of_neg (by exact h), if_neg h, ih]
theorem places_rng (p : Row → Bool) (ys : List Row) : ∀ (xs : List Row) (i : Nat), ys.drop i = xs → ((List.range' i xs.length).filter fun j => match ys[j]? with | some r => p r | none => false).map (fun (j : Nat) => (j : Int)) = placesP p i xs
  | [], _, _ => rfl
  | x :: xs, i, h => by
    have hi : ys[i]? = some x := by
      have := congrArg (fun l => l[0]?) h
      rw [List.getElem?_drop] at this
      simpa using this
    have ih := places_rng p ys xs (i + 1) (by rw [← List.drop_drop, h]; rfl)
    rw [List.length_cons, List.range'_succ]
    show _ = if p x = true then (i : Int) :: placesP p (i + 1) xs else placesP p (i + 1) xs
    by_cases q : p x = true
    · rw [List.filter_cons_of_pos (by rw [hi]; exact q), if_pos q, List.map_cons, ih]
    · rw [List.filter_cons_of_neg (by rw [hi]; exact q), if_neg q, ih]
theorem places_law (p : Row → Bool) (ys : List Row) : ((upto ys.length).filter fun x => match ys[x.toNat]? with | some r => p r | none => false) = placesP p 0 ys := by
  rw [← places_rng p ys ys 0 rfl, ← List.range_eq_range']
  unfold upto
  rw [List.filter_map]
  congr 1
theorem enumI_len {α : Type} : ∀ (xs : List α) (i : Nat), (enumI i xs).length = xs.length
  | [], _ => rfl
  | x :: xs, i => by show (enumI (i + 1) xs).length + 1 = _; rw [enumI_len xs]; rfl
theorem places_len (p : Row → Bool) : ∀ (xs : List Row) (i : Nat), (placesP p i xs).length ≤ xs.length
  | [], _ => Nat.le_refl _
  | x :: xs, i => by
    have := places_len p xs (i + 1)
    show (if p x = true then (i : Int) :: placesP p (i + 1) xs else placesP p (i + 1) xs).length ≤ xs.length + 1
    split
    · rw [List.length_cons]; omega
    · omega
theorem vouchedBy_ok {w : Web} (h : WOk w) {a : Nat} (ha : a < w.1.length) : f_vouched_by (eWeb w) (.int (a : Int)) = .ok (placesP (fun r => decide (r.2.1 = (a : Int))) 0 w.2.2) := by
  have v60 := h.v60
  unfold f_vouched_by
  rw [needWeb_enc h, M.ok_bind, needAccount_ok a ha, M.ok_bind, enumI_len, sizeM_ok (by omega), M.ok_bind]
  rw [compM_ok (g := fun (q : Int × Row) => .ok q.1) (fun (q : Int × Row) => decide (q.2.2.1 = (a : Int))) (fun q => q.1) _ (fun q _ => by rw [eqVM_int]; rfl) (fun _ _ _ => rfl), M.ok_bind, places_enu (fun r => decide (r.2.1 = (a : Int)))]
theorem vouchesFor_ok {w : Web} (h : WOk w) {a : Nat} (ha : a < w.1.length) : f_vouches_for (eWeb w) (.int (a : Int)) = .ok (placesP (fun r => decide (r.1 = (a : Int))) 0 w.2.2) := by
  have v60 := h.v60
  unfold f_vouches_for
  rw [needWeb_enc h, M.ok_bind, needAccount_ok a ha, M.ok_bind, enumI_len, sizeM_ok (by omega), M.ok_bind]
  rw [compM_ok (g := fun (q : Int × Row) => .ok q.1) (fun (q : Int × Row) => decide (q.2.1 = (a : Int))) (fun q => q.1) _ (fun q _ => by rw [eqVM_int]; rfl) (fun _ _ _ => rfl), M.ok_bind, places_enu (fun r => decide (r.1 = (a : Int)))]
theorem lawPlaces {ys : List Row} (hl : ys.length ≤ 1000) (p : Row → Bool) : ((sizeM (upto ys.length).length).bind fun _ => compM (fun x_2 => (atM ys x_2).bind fun g_1 => .ok (p g_1)) (fun x_2 => .ok x_2) (upto ys.length)) = .ok (placesP p 0 ys) := by
  rw [upto_len, sizeM_ok (by omega), M.ok_bind, compM_ok (fun x => match ys[x.toNat]? with | some r => p r | none => false) (fun x => x) _ (fun x m => by
    obtain ⟨x0, x1⟩ := upto_mem.mp m
    have xl : x.toNat < ys.length := by omega
    rw [atM_nat x0 xl, M.ok_bind, List.getElem?_eq_getElem xl]) (fun _ _ _ => rfl), List.map_id', places_law]
/-! ### same, of lists of numbers -/
theorem sameT (xs : List Int) (h : xs.length ≤ 1000000) : f__law_same 12 (vT Val.int xs) (vT Val.int xs) = .ok true :=
  same_refl 11 _ (bnd_ints h) (tups_of fun x m => by obtain ⟨i, _, rfl⟩ := List.mem_map.mp m; rfl) (by
    show vdeps (xs.map Val.int) + 1 ≤ 11
    have : vdeps (xs.map Val.int) ≤ 0 := vdeps_of fun x m => by obtain ⟨i, _, rfl⟩ := List.mem_map.mp m; exact Nat.le_refl _
    omega)
theorem plain (ns : List Int) (hl : ns.length ≤ 63) (hb : BitsOk ns) : f_law ns = .ok true := by
  unfold f_law
  obtain ⟨out, en, hn⟩ := numbers_ok ns hb 0 20 (by decide) (by decide)
  obtain ⟨w, ew, hw, w6, w11⟩ := lawWeb_ok hn
  have en : f__law_numbers ns 0 20 = .ok out := en
  have c14 := hw.c14
  have v60 := hw.v60
  obtain ⟨far, ef, hf⟩ := lawFar_ok hw
  have hr := reached_ok hw hf
  generalize hL : ((upto w.1.length).filter fun x => match far[x.toNat]? with | some (some _) => true | _ => false) = L at hr
  have hLl : L.length ≤ 1000000 := by
    rw [← hL]
    have := List.length_filter_le (fun x : Int => match far[x.toNat]? with | some (some _) => true | _ => false) (upto w.1.length)
    rw [upto_len] at this
    omega
  have hthere : compM (fun x_0 => (atM far x_0).bind fun g_0 => .ok (!g_0.isNone)) (fun x_0 => .ok x_0) (upto w.1.length) = .ok L := by
    rw [compM_ok (fun x => match far[x.toNat]? with | some (some _) => true | _ => false) (fun x => x) _ (fun x m => by
      obtain ⟨x0, x1⟩ := upto_mem.mp m
      obtain ⟨o, q1, q2⟩ := at_far hf.1 x0 (by omega)
      rw [q1, M.ok_bind, q2]
      cases o <;> rfl) (fun _ _ _ => rfl), List.map_id', hL]
  have r1 : f_reached (eWeb w) = .ok L := by unfold f_reached; rw [needWeb_enc hw, M.ok_bind, hr, M.ok_bind]
  have r2 : f_reached (lsd (eWeb w)) = .ok L := by unfold f_reached; rw [needWeb_lsd hw, M.ok_bind, hr, M.ok_bind]
  have s1 := sameT L hLl
  rw [en, M.ok_bind, ew, M.ok_bind, ef, M.ok_bind, rngM1_nat rfl (by omega), M.ok_bind, upto_len, sizeM_ok (by omega), M.ok_bind, hthere, M.ok_bind, r1, M.ok_bind, s1, M.ok_bind]
  rw [if_neg (by decide), listed_eq 11 _ (bnd_web hw).1 (Nat.le_trans (vdep_web w).1 (by decide)), M.ok_bind, r2, M.ok_bind, s1, M.ok_bind, M.ok_bind, if_neg (by decide)]
  rw [M.ok_bind, forM_pass _ fun x m => ?_]
  · rw [M.fin_inl, M.ok_bind, s1, M.ok_bind]
  · obtain ⟨x0, x1⟩ := upto_mem.mp m
    obtain ⟨a, rfl⟩ : ∃ a : Nat, x = (a : Int) := ⟨x.toNat, by omega⟩
    have ha : a < w.1.length := by omega
    obtain ⟨o, p1, p2, p3⟩ := way_ok hw ha
    have k1 := lawPlaces (ys := w.2.2) (by omega) (fun r => decide (r.2.1 = (a : Int)))
    have k2 := lawPlaces (ys := w.2.2) (by omega) (fun r => decide (r.1 = (a : Int)))
    have l1 := places_len (fun r => decide (r.2.1 = (a : Int))) w.2.2 0
    have l2 := places_len (fun r => decide (r.1 = (a : Int))) w.2.2 0
    have s3 : f__law_same 12 (vO (vT Val.int) o) (vO (vT Val.int) o) = .ok true := by
      cases o with
      | none => exact same_refl 11 .none rfl rfl (Nat.zero_le _)
      | some xs => exact sameT xs (by have := p3 xs rfl; omega)
    rw [rngM1_nat rfl (by omega), M.ok_bind, k1, M.ok_bind, M.ok_bind, k2, M.ok_bind, vouchedBy_ok hw ha, M.ok_bind, sameT _ (by omega), M.ok_bind, if_neg (by decide), vouchesFor_ok hw ha, M.ok_bind, sameT _ (by omega), M.ok_bind, M.ok_bind, if_neg (by decide), p1, M.ok_bind, p2, M.ok_bind, s3, M.ok_bind, if_neg (by decide)]
end Py

namespace K03
open PySem PySem.Spec PyProof.Rows L2 Cor
theorem plain (ns : List Int) (hl : ns.length ≤ 63) (hb : ∀ z ∈ ns, Builtin.Int.intBits z ≤ 1048576) : Cn 21 31 [.list (ns.map .int)] [] = .ok (.bool true) [] := by
  have h := t_law 21 (by decide) [] ns
  rw [Py.plain ns hl hb, vL_d] at h
  exact h
end K03

namespace K03
open PySem PySem.Spec PyProof.Rows L2 Cor
def topS (i : Nat) : Stmt := PySem.Challenge.pw_standsdespite_k03_ways_and_who_vouches.main.body.getD i (.Pass ⟨0, 0, 0, 0⟩)
abbrev s_is_int : Stmt := topS 4
theorem sc_is_int : FnScope n_is_int ["value"] (defScope s_is_int) := ⟨rfl, rfl, rfl, by decide +kernel, rfl, by decide +kernel, by decide +kernel⟩
abbrev s_is_between : Stmt := topS 5
theorem sc_is_between : FnScope n_is_between ["value", "low", "high"] (defScope s_is_between) := ⟨rfl, rfl, rfl, by decide +kernel, rfl, by decide +kernel, by decide +kernel⟩
abbrev s_is_sequence : Stmt := topS 6
theorem sc_is_sequence : FnScope n_is_sequence ["value"] (defScope s_is_sequence) := ⟨rfl, rfl, rfl, by decide +kernel, rfl, by decide +kernel, by decide +kernel⟩
abbrev s_is_row : Stmt := topS 7
theorem sc_is_row : FnScope n_is_row ["value", "many"] (defScope s_is_row) := ⟨rfl, rfl, rfl, by decide +kernel, rfl, by decide +kernel, by decide +kernel⟩
abbrev s_frozen : Stmt := topS 8
theorem sc_frozen : FnScope n_frozen ["value"] (defScope s_frozen) := ⟨rfl, rfl, rfl, by decide +kernel, rfl, by decide +kernel, by decide +kernel⟩
abbrev s_is_ascending : Stmt := topS 9
theorem sc_is_ascending : FnScope n_is_ascending ["values"] (defScope s_is_ascending) := ⟨rfl, rfl, rfl, by decide +kernel, rfl, by decide +kernel, by decide +kernel⟩
abbrev s_is_number_set : Stmt := topS 10
theorem sc_is_number_set : FnScope n_is_number_set ["value", "low", "high"] (defScope s_is_number_set) := ⟨rfl, rfl, rfl, by decide +kernel, rfl, by decide +kernel, by decide +kernel⟩
abbrev s_need : Stmt := topS 11
theorem sc_need : FnScope n_need ["test", "at"] (defScope s_need) := ⟨rfl, rfl, rfl, by decide +kernel, rfl, by decide +kernel, by decide +kernel⟩
abbrev s_is_size : Stmt := topS 17
theorem sc_is_size : FnScope n_is_size ["value"] (defScope s_is_size) := ⟨rfl, rfl, rfl, by decide +kernel, rfl, by decide +kernel, by decide +kernel⟩
abbrev s_is_vouchings : Stmt := topS 18
theorem sc_is_vouchings : FnScope n_is_vouchings ["value", "many"] (defScope s_is_vouchings) := ⟨rfl, rfl, rfl, by decide +kernel, rfl, by decide +kernel, by decide +kernel⟩
abbrev s_is_web : Stmt := topS 19
theorem sc_is_web : FnScope n_is_web ["value"] (defScope s_is_web) := ⟨rfl, rfl, rfl, by decide +kernel, rfl, by decide +kernel, by decide +kernel⟩
abbrev s_need_web : Stmt := topS 20
theorem sc_need_web : FnScope n_need_web ["value", "at"] (defScope s_need_web) := ⟨rfl, rfl, rfl, by decide +kernel, rfl, by decide +kernel, by decide +kernel⟩
abbrev s_is_account : Stmt := topS 21
theorem sc_is_account : FnScope n_is_account ["web", "value"] (defScope s_is_account) := ⟨rfl, rfl, rfl, by decide +kernel, rfl, by decide +kernel, by decide +kernel⟩
abbrev s_need_account : Stmt := topS 22
theorem sc_need_account : FnScope n_need_account ["web", "value", "at"] (defScope s_need_account) := ⟨rfl, rfl, rfl, by decide +kernel, rfl, by decide +kernel, by decide +kernel⟩
abbrev s_vouched_by : Stmt := topS 23
theorem sc_vouched_by : FnScope n_vouched_by ["web", "account"] (defScope s_vouched_by) := ⟨rfl, rfl, rfl, by decide +kernel, rfl, by decide +kernel, by decide +kernel⟩
abbrev s_vouches_for : Stmt := topS 24
theorem sc_vouches_for : FnScope n_vouches_for ["web", "account"] (defScope s_vouches_for) := ⟨rfl, rfl, rfl, by decide +kernel, rfl, by decide +kernel, by decide +kernel⟩
abbrev s_reached_of : Stmt := topS 25
theorem sc_reached_of : FnScope n_reached_of ["web"] (defScope s_reached_of) := ⟨rfl, rfl, rfl, by decide +kernel, rfl, by decide +kernel, by decide +kernel⟩
abbrev s_follow : Stmt := topS 26
theorem sc_follow : FnScope n_follow ["web", "account", "found"] (defScope s_follow) := ⟨rfl, rfl, rfl, by decide +kernel, rfl, by decide +kernel, by decide +kernel⟩
abbrev s_reached : Stmt := topS 27
theorem sc_reached : FnScope n_reached ["web"] (defScope s_reached) := ⟨rfl, rfl, rfl, by decide +kernel, rfl, by decide +kernel, by decide +kernel⟩
abbrev s_distances_to : Stmt := topS 28
theorem sc_distances_to : FnScope n_distances_to ["web", "account"] (defScope s_distances_to) := ⟨rfl, rfl, rfl, by decide +kernel, rfl, by decide +kernel, by decide +kernel⟩
abbrev s_way_to : Stmt := topS 29
theorem sc_way_to : FnScope n_way_to ["web", "account"] (defScope s_way_to) := ⟨rfl, rfl, rfl, by decide +kernel, rfl, by decide +kernel, by decide +kernel⟩
abbrev s__law_power : Stmt := topS 31
theorem sc__law_power : FnScope n__law_power ["base", "many"] (defScope s__law_power) := ⟨rfl, rfl, rfl, by decide +kernel, rfl, by decide +kernel, by decide +kernel⟩
abbrev s__law_cell : Stmt := topS 32
theorem sc__law_cell : FnScope n__law_cell ["script", "place"] (defScope s__law_cell) := ⟨rfl, rfl, rfl, by decide +kernel, rfl, by decide +kernel, by decide +kernel⟩
abbrev s__law_numbers : Stmt := topS 33
theorem sc__law_numbers : FnScope n__law_numbers ["script", "place", "many"] (defScope s__law_numbers) := ⟨rfl, rfl, rfl, by decide +kernel, rfl, by decide +kernel, by decide +kernel⟩
abbrev s__law_same : Stmt := topS 34
theorem sc__law_same : FnScope n__law_same ["one", "other"] (defScope s__law_same) := ⟨rfl, rfl, rfl, by decide +kernel, rfl, by decide +kernel, by decide +kernel⟩
abbrev s__law_listed : Stmt := topS 35
theorem sc__law_listed : FnScope n__law_listed ["value"] (defScope s__law_listed) := ⟨rfl, rfl, rfl, by decide +kernel, rfl, by decide +kernel, by decide +kernel⟩
abbrev s__law_size : Stmt := topS 36
theorem sc__law_size : FnScope n__law_size ["number"] (defScope s__law_size) := ⟨rfl, rfl, rfl, by decide +kernel, rfl, by decide +kernel, by decide +kernel⟩
abbrev s__law_web : Stmt := topS 37
theorem sc__law_web : FnScope n__law_web ["numbers"] (defScope s__law_web) := ⟨rfl, rfl, rfl, by decide +kernel, rfl, by decide +kernel, by decide +kernel⟩
abbrev s__law_far : Stmt := topS 39
theorem sc__law_far : FnScope n__law_far ["web"] (defScope s__law_far) := ⟨rfl, rfl, rfl, by decide +kernel, rfl, by decide +kernel, by decide +kernel⟩
abbrev s__law_back : Stmt := topS 40
theorem sc__law_back : FnScope n__law_back ["web", "account"] (defScope s__law_back) := ⟨rfl, rfl, rfl, by decide +kernel, rfl, by decide +kernel, by decide +kernel⟩
abbrev s__law_way : Stmt := topS 41
theorem sc__law_way : FnScope n__law_way ["web", "account"] (defScope s__law_way) := ⟨rfl, rfl, rfl, by decide +kernel, rfl, by decide +kernel, by decide +kernel⟩
abbrev s_law : Stmt := topS 42
theorem sc_law : FnScope n_law ["script"] (defScope s_law) := ⟨rfl, rfl, rfl, by decide +kernel, rfl, by decide +kernel, by decide +kernel⟩
/-- what is not the text's own -/
structure NB (mg : Str → Option Value) : Prop where
  all : mg "all" = none
  bool : mg "bool" = none
  enumerate : mg "enumerate" = none
  int : mg "int" = none
  isinstance : mg "isinstance" = none
  len : mg "len" = none
  list : mg "list" = none
  min : mg "min" = none
  range : mg "range" = none
  sorted : mg "sorted" = none
  str : mg "str" = none
  tuple : mg "tuple" = none
structure GC (mg : Str → Option Value) : Prop where
  MOST_ACCOUNTS : ∃ t, mg "MOST_ACCOUNTS" = some (.int (14) t)
  MOST_FOUNDERS : ∃ t, mg "MOST_FOUNDERS" = some (.int (3) t)
  MOST_VOUCHINGS : ∃ t, mg "MOST_VOUCHINGS" = some (.int (60) t)
  WIDEST : ∃ t, mg "WIDEST" = some (.int (1000) t)
section
variable {P : Program} {w : World} {K : PySem.W.Frag} {mg : Str → Option Value} {base : Heap} {ts : List Addr} {k : Nat} {C : Clls} {f : Addr} {cdv : Value} {A : Around} {outer : List Env} {s : Shared} {H : Hp} {E : XK}
set_option maxHeartbeats 4000000 in
theorem j_is_int (nb : NB mg) (gc : GC mg) (hcal : AllCal P w K mg base ts k tab C) (hr1 : Room (k + 1) (A.deeper (envOfC "is_int" (defScope s_is_int) s.heap.objs.size f cdv))) :
    JB (cxOf (L2.CX P w) P w K mg base n_is_int "is_int" (defScope s_is_int) f cdv A outer s H E) ts (fun c o _ H => E c o H) (defBody s_is_int) (b_is_int C) := by
  have h0 := hr1.mono (Nat.le_succ k)
  have hN := (sc_is_int).nd
  exact (jb_one (js_ret (je_and (je_isi1 (t1 := .int) (by rfl) nb.isinstance (je_var rfl (vis_of rfl)) (by rfl) nb.int (by rfl)) (je_one (je_not (je_isi1 (t1 := .bool) (by rfl) nb.isinstance (je_var rfl (vis_of rfl)) (by rfl) nb.bool (by rfl)))))))
set_option maxHeartbeats 4000000 in
theorem j_is_between (nb : NB mg) (gc : GC mg) (hcal : AllCal P w K mg base ts k tab C) (hr1 : Room (k + 1) (A.deeper (envOfC "is_between" (defScope s_is_between) s.heap.objs.size f cdv))) :
    JB (cxOf (L2.CX P w) P w K mg base n_is_between "is_between" (defScope s_is_between) f cdv A outer s H E) ts (fun c o _ H => E c o H) (defBody s_is_between) (b_is_between C) := by
  have h0 := hr1.mono (Nat.le_succ k)
  have hN := (sc_is_between).nd
  exact (jb_one (js_ret (je_and (je_call (hcal 0 _ _ rfl) takes_cx h0 (by rfl) (jx_cons (je_var rfl (vis_of rfl)) jx_nil)) (je_one (je_chn (o_le h0) (o_le h0) (je_var rfl (vis_of rfl)) (je_var rfl (vis_of rfl)) (je_var rfl (vis_of rfl)))))))
set_option maxHeartbeats 4000000 in
theorem j_is_sequence (nb : NB mg) (gc : GC mg) (hcal : AllCal P w K mg base ts k tab C) (hr1 : Room (k + 1) (A.deeper (envOfC "is_sequence" (defScope s_is_sequence) s.heap.objs.size f cdv))) :
    JB (cxOf (L2.CX P w) P w K mg base n_is_sequence "is_sequence" (defScope s_is_sequence) f cdv A outer s H E) ts (fun c o _ H => E c o H) (defBody s_is_sequence) (b_is_sequence C) := by
  have h0 := hr1.mono (Nat.le_succ k)
  have hN := (sc_is_sequence).nd
  exact (jb_one (js_ret (je_isi2 (t1 := .tuple) (t2 := .list) (by rfl) nb.isinstance (je_var rfl (vis_of rfl)) (by rfl) nb.tuple (by rfl) (by rfl) nb.list (by rfl))))
set_option maxHeartbeats 4000000 in
theorem j_is_row (nb : NB mg) (gc : GC mg) (hcal : AllCal P w K mg base ts k tab C) (hr1 : Room (k + 1) (A.deeper (envOfC "is_row" (defScope s_is_row) s.heap.objs.size f cdv))) :
    JB (cxOf (L2.CX P w) P w K mg base n_is_row "is_row" (defScope s_is_row) f cdv A outer s H E) ts (fun c o _ H => E c o H) (defBody s_is_row) (b_is_row C) := by
  have h0 := hr1.mono (Nat.le_succ k)
  have hN := (sc_is_row).nd
  exact (jb_one (js_ret (je_and (je_call (hcal 2 _ _ rfl) takes_cx h0 (by rfl) (jx_cons (je_var rfl (vis_of rfl)) jx_nil)) (je_one (je_cmp (o_eq h0) (je_blt c_len (by rfl) nb.len (by rfl) (jx_cons (je_var rfl (vis_of rfl)) jx_nil)) (je_var rfl (vis_of rfl)))))))
set_option maxHeartbeats 4000000 in
theorem j_frozen (nb : NB mg) (gc : GC mg) (hcal : AllCal P w K mg base ts k tab C) (hr1 : Room (k + 1) (A.deeper (envOfC "frozen" (defScope s_frozen) s.heap.objs.size f cdv))) :
    JB (cxOf (L2.CX P w) P w K mg base n_frozen "frozen" (defScope s_frozen) f cdv A outer s H E) ts (fun c o _ H => E c o H) (defBody s_frozen) (b_frozen C) := by
  have h0 := hr1.mono (Nat.le_succ k)
  have hN := (sc_frozen).nd
  exact (jb_cons (js_if (jt_tru (je_call (hcal 2 _ _ rfl) takes_cx h0 (by rfl) (jx_cons (je_var rfl (vis_of rfl)) jx_nil))) (jb_one (js_ret (je_bltT c_tuple (by rfl) nb.tuple (by rfl) (jx_cons (je_frz (jf_lc (own := [("part", 1)]) rfl hN (ji_val (je_var rfl (vis_of rfl))) (blkOk_by (N := n_frozen) (sc := defScope s_frozen) (by decide +kernel)) (by decide) (fun _ _ _ _ _ => (jg_name hN rfl (loc_or rfl))) (fun _ _ _ _ _ => jts_nil) (fun _ _ _ _ _ => (je_call (hcal 4 _ _ rfl) takes_w0 h0 (by rfl) (jx_cons (je_var rfl (vis_of rfl)) jx_nil))))) jx_nil)))) jb_nil)
    (jb_one (js_ret (je_var rfl (vis_of rfl)))))
set_option maxHeartbeats 4000000 in
theorem j_is_ascending (nb : NB mg) (gc : GC mg) (hcal : AllCal P w K mg base ts k tab C) {c Pt : Addr} (TB : GxR.TabB base mg c Pt) (hP : Pt ∈ ts) (hcd : cdv = .ref c) (hr1 : Room (k + 1) (A.deeper (envOfC "is_ascending" (defScope s_is_ascending) s.heap.objs.size f cdv))) :
    JB (cxOf (L2.CX P w) P w K mg base n_is_ascending "is_ascending" (defScope s_is_ascending) f cdv A outer s H E) ts (fun c o _ H => E c o H) (defBody s_is_ascending) (b_is_ascending C) := by
  have h0 := hr1.mono (Nat.le_succ k)
  have hN := (sc_is_ascending).nd
  exact (jb_one (js_ret (je_all (own := [("i", 1)]) hr1 rfl hN (by rfl) nb.all TB hP hcd (ji_rng1 (by rfl) nb.range (je_bin o_sub (je_blt c_len (by rfl) nb.len (by rfl) (jx_cons (je_var rfl (vis_of rfl)) jx_nil)) je_int)) (blkOk_by (N := n_is_ascending) (sc := defScope s_is_ascending) (by decide +kernel)) rfl (by decide +kernel) rfl (by decide) (fun _ _ _ _ _ _ hr' => (jg_name hN rfl (loc_or rfl))) (fun _ _ _ _ _ _ hr' => jts_nil) (fun _ _ _ _ _ _ hr' => (je_cmp (o_lt hr') (je_idx hr' (je_var rfl (vis_of rfl)) (je_var rfl (vis_of rfl))) (je_idx hr' (je_var rfl (vis_of rfl)) (je_bin o_add (je_var rfl (vis_of rfl)) je_int)))))))
set_option maxHeartbeats 4000000 in
theorem j_is_number_set (nb : NB mg) (gc : GC mg) (hcal : AllCal P w K mg base ts k tab C) {c Pt : Addr} (TB : GxR.TabB base mg c Pt) (hP : Pt ∈ ts) (hcd : cdv = .ref c) (hr1 : Room (k + 1) (A.deeper (envOfC "is_number_set" (defScope s_is_number_set) s.heap.objs.size f cdv))) :
    JB (cxOf (L2.CX P w) P w K mg base n_is_number_set "is_number_set" (defScope s_is_number_set) f cdv A outer s H E) ts (fun c o _ H => E c o H) (defBody s_is_number_set) (b_is_number_set C) := by
  have h0 := hr1.mono (Nat.le_succ k)
  have hN := (sc_is_number_set).nd
  exact (jb_cons (js_if (jt_w (jw_or (jt_not (jt_tru (je_call (hcal 2 _ _ rfl) takes_cx h0 (by rfl) (jx_cons (je_var rfl (vis_of rfl)) jx_nil)))) (jw_or1 (jt_not (jt_tru (je_all (own := [("part", 3)]) hr1 rfl hN (by rfl) nb.all TB hP hcd (ji_val (je_var rfl (vis_of rfl))) (blkOk_by (N := n_is_number_set) (sc := defScope s_is_number_set) (by decide +kernel)) rfl (by decide +kernel) rfl (by decide) (fun _ _ _ _ _ _ hr' => (jg_name hN rfl (loc_or rfl))) (fun _ _ _ _ _ _ hr' => jts_nil) (fun _ _ _ _ _ _ hr' => (je_call (hcal 1 _ _ rfl) takes_w0 hr' (by rfl) (jx_cons (je_var rfl (vis_of rfl)) (jx_cons (je_var rfl (vis_of rfl)) (jx_cons (je_var rfl (vis_of rfl)) jx_nil))))))))))) (jb_one (js_ret je_bl)) jb_nil)
    (jb_one (js_ret (je_call (hcal 5 _ _ rfl) takes_cx h0 (by rfl) (jx_cons (je_var rfl (vis_of rfl)) jx_nil)))))
set_option maxHeartbeats 4000000 in
theorem j_need (nb : NB mg) (gc : GC mg) (hcal : AllCal P w K mg base ts k tab C) (hr1 : Room (k + 1) (A.deeper (envOfC "need" (defScope s_need) s.heap.objs.size f cdv))) :
    JB (cxOf (L2.CX P w) P w K mg base n_need "need" (defScope s_need) f cdv A outer s H E) ts (fun c o _ H => E c o H) (defBody s_need) (b_need C) := by
  have h0 := hr1.mono (Nat.le_succ k)
  have hN := (sc_need).nd
  exact (jb_one (js_if (jt_not (jt_tru (je_var rfl (vis_of rfl)))) (jb_one js_no) jb_nil))
set_option maxHeartbeats 4000000 in
theorem j_is_size (nb : NB mg) (gc : GC mg) (hcal : AllCal P w K mg base ts k tab C) (hr1 : Room (k + 1) (A.deeper (envOfC "is_size" (defScope s_is_size) s.heap.objs.size f cdv))) :
    JB (cxOf (L2.CX P w) P w K mg base n_is_size "is_size" (defScope s_is_size) f cdv A outer s H E) ts (fun c o _ H => E c o H) (defBody s_is_size) (b_is_size C) := by
  have h0 := hr1.mono (Nat.le_succ k)
  have hN := (sc_is_size).nd
  exact (jb_one (js_ret (je_call (hcal 1 _ _ rfl) takes_cx h0 (by rfl) (jx_cons (je_var rfl (vis_of rfl)) (jx_cons je_int (jx_cons (je_gint (by rfl) gc.WIDEST) jx_nil))))))
set_option maxHeartbeats 4000000 in
theorem j_is_vouchings (nb : NB mg) (gc : GC mg) (hcal : AllCal P w K mg base ts k tab C) (hr1 : Room (k + 1) (A.deeper (envOfC "is_vouchings" (defScope s_is_vouchings) s.heap.objs.size f cdv))) :
    JB (cxOf (L2.CX P w) P w K mg base n_is_vouchings "is_vouchings" (defScope s_is_vouchings) f cdv A outer s H E) ts (fun c o _ H => E c o H) (defBody s_is_vouchings) (b_is_vouchings C) := by
  have h0 := hr1.mono (Nat.le_succ k)
  have hN := (sc_is_vouchings).nd
  exact (jb_cons (js_if (jt_w (jw_or (jt_not (jt_tru (je_call (hcal 2 _ _ rfl) takes_cx h0 (by rfl) (jx_cons (je_var rfl (vis_of rfl)) jx_nil)))) (jw_or1 (jt_cmp (o_gt h0) (je_blt c_len (by rfl) nb.len (by rfl) (jx_cons (je_var rfl (vis_of rfl)) jx_nil)) (je_gint (by rfl) gc.MOST_VOUCHINGS))))) (jb_one (js_ret je_bl)) jb_nil)
    (jb_cons (js_for owns_cx rfl (ji_val (je_var rfl (vis_of rfl))) (jg_name hN rfl (loc_or rfl)) (jb_cons (js_if (jt_w (jw_or (jt_not (jt_tru (je_call (hcal 3 _ _ rfl) takes_cx h0 (by rfl) (jx_cons (je_var rfl (vis_of rfl)) (jx_cons je_int jx_nil))))) (jw_or (jt_not (jt_tru (je_call (hcal 1 _ _ rfl) takes_cx h0 (by rfl) (jx_cons (je_idx h0 (je_var rfl (vis_of rfl)) je_int) (jx_cons je_int (jx_cons (je_bin o_sub (je_var rfl (vis_of rfl)) je_int) jx_nil)))))) (jw_or1 (jt_not (jt_tru (je_call (hcal 1 _ _ rfl) takes_cx h0 (by rfl) (jx_cons (je_idx h0 (je_var rfl (vis_of rfl)) je_int) (jx_cons je_int (jx_cons (je_bin o_sub (je_var rfl (vis_of rfl)) je_int) jx_nil)))))))))) (jb_one (js_ret je_bl)) jb_nil)
    (jb_one (js_if (jt_w (jw_or (jt_cmp (o_eq h0) (je_idx h0 (je_var rfl (vis_of rfl)) je_int) (je_idx h0 (je_var rfl (vis_of rfl)) je_int)) (jw_or1 (jt_not (jt_tru (je_call (hcal 8 _ _ rfl) takes_cx h0 (by rfl) (jx_cons (je_idx h0 (je_var rfl (vis_of rfl)) je_int) jx_nil))))))) (jb_one (js_ret je_bl)) jb_nil))))
    (jb_one (js_ret (je_call (hcal 5 _ _ rfl) takes_cx h0 (by rfl) (jx_cons (je_frz (jf_lc (own := [("row", 2)]) rfl hN (ji_val (je_var rfl (vis_of rfl))) (blkOk_by (N := n_is_vouchings) (sc := defScope s_is_vouchings) (by decide +kernel)) (by decide) (fun _ _ _ _ _ => (jg_name hN rfl (loc_or rfl))) (fun _ _ _ _ _ => jts_nil) (fun _ _ _ _ _ => (je_tup (jx_cons (je_idx h0 (je_var rfl (vis_of rfl)) je_int) (jx_cons (je_idx h0 (je_var rfl (vis_of rfl)) je_int) jx_nil)))))) jx_nil))))))
set_option maxHeartbeats 4000000 in
theorem j_is_web (nb : NB mg) (gc : GC mg) (hcal : AllCal P w K mg base ts k tab C) {c Pt : Addr} (TB : GxR.TabB base mg c Pt) (hP : Pt ∈ ts) (hcd : cdv = .ref c) (hr1 : Room (k + 1) (A.deeper (envOfC "is_web" (defScope s_is_web) s.heap.objs.size f cdv))) :
    JB (cxOf (L2.CX P w) P w K mg base n_is_web "is_web" (defScope s_is_web) f cdv A outer s H E) ts (fun c o _ H => E c o H) (defBody s_is_web) (b_is_web C) := by
  have h0 := hr1.mono (Nat.le_succ k)
  have hN := (sc_is_web).nd
  exact (jb_cons (js_if (jt_not (jt_tru (je_call (hcal 3 _ _ rfl) takes_cx h0 (by rfl) (jx_cons (je_var rfl (vis_of rfl)) (jx_cons je_int jx_nil))))) (jb_one (js_ret je_bl)) jb_nil)
    (jb_cons (js_asg (je_var rfl (vis_of rfl)) (jg_unp rfl (jgs_cons (jg_name hN rfl (loc_or rfl)) (jgs_cons (jg_name hN rfl (loc_or rfl)) (jgs_cons (jg_name hN rfl (loc_or rfl)) jgs_nil)))))
    (jb_cons (js_if (jt_w (jw_or (jt_not (jt_tru (je_call (hcal 2 _ _ rfl) takes_cx h0 (by rfl) (jx_cons (je_var rfl (vis_of rfl)) jx_nil)))) (jw_or1 (jt_not (jt_chn (o_le h0) (o_le h0) je_int (je_blt c_len (by rfl) nb.len (by rfl) (jx_cons (je_var rfl (vis_of rfl)) jx_nil)) (je_gint (by rfl) gc.MOST_ACCOUNTS)))))) (jb_one (js_ret je_bl)) jb_nil)
    (jb_cons (js_if (jt_not (jt_tru (je_all (own := [("capacity", 5)]) hr1 rfl hN (by rfl) nb.all TB hP hcd (ji_val (je_var rfl (vis_of rfl))) (blkOk_by (N := n_is_web) (sc := defScope s_is_web) (by decide +kernel)) rfl (by decide +kernel) rfl (by decide) (fun _ _ _ _ _ _ hr' => (jg_name hN rfl (loc_or rfl))) (fun _ _ _ _ _ _ hr' => jts_nil) (fun _ _ _ _ _ _ hr' => (je_call (hcal 8 _ _ rfl) takes_w0 hr' (by rfl) (jx_cons (je_var rfl (vis_of rfl)) jx_nil)))))) (jb_one (js_ret je_bl)) jb_nil)
    (jb_cons (js_set hN rfl (loc_or rfl) (je_blt c_len (by rfl) nb.len (by rfl) (jx_cons (je_var rfl (vis_of rfl)) jx_nil)))
    (jb_cons (js_if (jt_w (jw_or (jt_not (jt_tru (je_call (hcal 6 _ _ rfl) takes_cx h0 (by rfl) (jx_cons (je_var rfl (vis_of rfl)) (jx_cons je_int (jx_cons (je_bin o_sub (je_var rfl (vis_of rfl)) je_int) jx_nil)))))) (jw_or1 (jt_not (jt_chn (o_le h0) (o_le h0) je_int (je_blt c_len (by rfl) nb.len (by rfl) (jx_cons (je_var rfl (vis_of rfl)) jx_nil)) (je_gint (by rfl) gc.MOST_FOUNDERS)))))) (jb_one (js_ret je_bl)) jb_nil)
    (jb_one (js_ret (je_call (hcal 9 _ _ rfl) takes_cx h0 (by rfl) (jx_cons (je_var rfl (vis_of rfl)) (jx_cons (je_var rfl (vis_of rfl)) jx_nil)))))))))))
set_option maxHeartbeats 4000000 in
theorem j_need_web (nb : NB mg) (gc : GC mg) (hcal : AllCal P w K mg base ts k tab C) (hr1 : Room (k + 1) (A.deeper (envOfC "need_web" (defScope s_need_web) s.heap.objs.size f cdv))) :
    JB (cxOf (L2.CX P w) P w K mg base n_need_web "need_web" (defScope s_need_web) f cdv A outer s H E) ts (fun c o _ H => E c o H) (defBody s_need_web) (b_need_web C) := by
  have h0 := hr1.mono (Nat.le_succ k)
  have hN := (sc_need_web).nd
  exact (jb_cons (js_exp (je_call (hcal 7 _ _ rfl) takes_cx h0 (by rfl) (jx_cons (je_call (hcal 10 _ _ rfl) takes_cx h0 (by rfl) (jx_cons (je_var rfl (vis_of rfl)) jx_nil)) (jx_cons (je_var rfl (vis_of rfl)) jx_nil))))
    (jb_one (js_ret (je_call (hcal 4 _ _ rfl) takes_cx h0 (by rfl) (jx_cons (je_var rfl (vis_of rfl)) jx_nil)))))
set_option maxHeartbeats 4000000 in
theorem j_is_account (nb : NB mg) (gc : GC mg) (hcal : AllCal P w K mg base ts k tab C) (hr1 : Room (k + 1) (A.deeper (envOfC "is_account" (defScope s_is_account) s.heap.objs.size f cdv))) :
    JB (cxOf (L2.CX P w) P w K mg base n_is_account "is_account" (defScope s_is_account) f cdv A outer s H E) ts (fun c o _ H => E c o H) (defBody s_is_account) (b_is_account C) := by
  have h0 := hr1.mono (Nat.le_succ k)
  have hN := (sc_is_account).nd
  exact (jb_one (js_ret (je_call (hcal 1 _ _ rfl) takes_cx h0 (by rfl) (jx_cons (je_var rfl (vis_of rfl)) (jx_cons je_int (jx_cons (je_bin o_sub (je_blt c_len (by rfl) nb.len (by rfl) (jx_cons (je_idx h0 (je_var rfl (vis_of rfl)) je_int) jx_nil)) je_int) jx_nil))))))
set_option maxHeartbeats 4000000 in
theorem j_need_account (nb : NB mg) (gc : GC mg) (hcal : AllCal P w K mg base ts k tab C) (hr1 : Room (k + 1) (A.deeper (envOfC "need_account" (defScope s_need_account) s.heap.objs.size f cdv))) :
    JB (cxOf (L2.CX P w) P w K mg base n_need_account "need_account" (defScope s_need_account) f cdv A outer s H E) ts (fun c o _ H => E c o H) (defBody s_need_account) (b_need_account C) := by
  have h0 := hr1.mono (Nat.le_succ k)
  have hN := (sc_need_account).nd
  exact (jb_cons (js_exp (je_call (hcal 7 _ _ rfl) takes_cx h0 (by rfl) (jx_cons (je_call (hcal 12 _ _ rfl) takes_cx h0 (by rfl) (jx_cons (je_var rfl (vis_of rfl)) (jx_cons (je_var rfl (vis_of rfl)) jx_nil))) (jx_cons (je_var rfl (vis_of rfl)) jx_nil))))
    (jb_one (js_ret (je_var rfl (vis_of rfl)))))
set_option maxHeartbeats 4000000 in
theorem j_vouched_by (nb : NB mg) (gc : GC mg) (hcal : AllCal P w K mg base ts k tab C) (hr1 : Room (k + 1) (A.deeper (envOfC "vouched_by" (defScope s_vouched_by) s.heap.objs.size f cdv))) :
    JB (cxOf (L2.CX P w) P w K mg base n_vouched_by "vouched_by" (defScope s_vouched_by) f cdv A outer s H E) ts (fun c o _ H => E c o H) (defBody s_vouched_by) (b_vouched_by C) := by
  have h0 := hr1.mono (Nat.le_succ k)
  have hN := (sc_vouched_by).nd
  exact (jb_cons (js_set hN rfl (loc_or rfl) (je_call (hcal 11 _ _ rfl) takes_cx h0 (by rfl) (jx_cons (je_var rfl (vis_of rfl)) (jx_cons je_int jx_nil))))
    (jb_cons (js_exp (je_call (hcal 13 _ _ rfl) takes_cx h0 (by rfl) (jx_cons (je_var rfl (vis_of rfl)) (jx_cons (je_var rfl (vis_of rfl)) (jx_cons je_int jx_nil)))))
    (jb_one (js_ret (je_bltT c_tuple (by rfl) nb.tuple (by rfl) (jx_cons (je_frz (jf_lc (own := [("i", 2), ("row", 3)]) rfl hN (ji_enu (by rfl) nb.enumerate (je_idx h0 (je_var rfl (vis_of rfl)) je_int)) (blkOk_by (N := n_vouched_by) (sc := defScope s_vouched_by) (by decide +kernel)) (by decide) (fun _ _ _ _ _ => (jg_unp rfl (jgs_cons (jg_name hN rfl (loc_or rfl)) (jgs_cons (jg_name hN rfl (loc_or rfl)) jgs_nil)))) (fun _ _ _ _ _ => (jts_one (jt_cmp (o_eq h0) (je_idx h0 (je_var rfl (vis_of rfl)) je_int) (je_var rfl (vis_of rfl))))) (fun _ _ _ _ _ => (je_var rfl (vis_of rfl))))) jx_nil))))))
set_option maxHeartbeats 4000000 in
theorem j_vouches_for (nb : NB mg) (gc : GC mg) (hcal : AllCal P w K mg base ts k tab C) (hr1 : Room (k + 1) (A.deeper (envOfC "vouches_for" (defScope s_vouches_for) s.heap.objs.size f cdv))) :
    JB (cxOf (L2.CX P w) P w K mg base n_vouches_for "vouches_for" (defScope s_vouches_for) f cdv A outer s H E) ts (fun c o _ H => E c o H) (defBody s_vouches_for) (b_vouches_for C) := by
  have h0 := hr1.mono (Nat.le_succ k)
  have hN := (sc_vouches_for).nd
  exact (jb_cons (js_set hN rfl (loc_or rfl) (je_call (hcal 11 _ _ rfl) takes_cx h0 (by rfl) (jx_cons (je_var rfl (vis_of rfl)) (jx_cons je_int jx_nil))))
    (jb_cons (js_exp (je_call (hcal 13 _ _ rfl) takes_cx h0 (by rfl) (jx_cons (je_var rfl (vis_of rfl)) (jx_cons (je_var rfl (vis_of rfl)) (jx_cons je_int jx_nil)))))
    (jb_one (js_ret (je_bltT c_tuple (by rfl) nb.tuple (by rfl) (jx_cons (je_frz (jf_lc (own := [("i", 2), ("row", 3)]) rfl hN (ji_enu (by rfl) nb.enumerate (je_idx h0 (je_var rfl (vis_of rfl)) je_int)) (blkOk_by (N := n_vouches_for) (sc := defScope s_vouches_for) (by decide +kernel)) (by decide) (fun _ _ _ _ _ => (jg_unp rfl (jgs_cons (jg_name hN rfl (loc_or rfl)) (jgs_cons (jg_name hN rfl (loc_or rfl)) jgs_nil)))) (fun _ _ _ _ _ => (jts_one (jt_cmp (o_eq h0) (je_idx h0 (je_var rfl (vis_of rfl)) je_int) (je_var rfl (vis_of rfl))))) (fun _ _ _ _ _ => (je_var rfl (vis_of rfl))))) jx_nil))))))
set_option maxHeartbeats 4000000 in
theorem j_reached_of (nb : NB mg) (gc : GC mg) (hcal : AllCal P w K mg base ts k tab C) (hr1 : Room (k + 1) (A.deeper (envOfC "reached_of" (defScope s_reached_of) s.heap.objs.size f cdv))) :
    JB (cxOf (L2.CX P w) P w K mg base n_reached_of "reached_of" (defScope s_reached_of) f cdv A outer s H E) ts (fun c o _ H => E c o H) (defBody s_reached_of) (b_reached_of C) := by
  have h0 := hr1.mono (Nat.le_succ k)
  have hN := (sc_reached_of).nd
  exact (jb_cons (js_set hN rfl (loc_or rfl) (je_cel (jf_bltT c_list (by rfl) nb.list (by rfl) (jx_cons (je_idx h0 (je_var rfl (vis_of rfl)) je_int) jx_nil))))
    (jb_cons (js_for owns_cx rfl (ji_val (je_slA (je_var rfl (vis_of rfl)) jp_none jp_none)) (jg_name hN rfl (loc_or rfl)) (jb_one (js_exp (je_call (hcal 17 _ _ rfl) takes_cx h0 (by rfl) (jx_cons (je_var rfl (vis_of rfl)) (jx_cons (je_var rfl (vis_of rfl)) (jx_cons (je_var rfl (vis_of rfl)) jx_nil)))))))
    (jb_one (js_ret (je_bltT c_tuple (by rfl) nb.tuple (by rfl) (jx_cons (je_frz (jf_blt (c_sorted h0) (by rfl) nb.sorted (by rfl) (jx_cons (je_var rfl (vis_of rfl)) jx_nil))) jx_nil))))))
set_option maxHeartbeats 4000000 in
theorem j_follow (nb : NB mg) (gc : GC mg) (hcal : AllCal P w K mg base ts k tab C) (hr1 : Room (k + 1) (A.deeper (envOfC "follow" (defScope s_follow) s.heap.objs.size f cdv))) :
    JB (cxOf (L2.CX P w) P w K mg base n_follow "follow" (defScope s_follow) f cdv A outer s H E) ts (fun c o _ H => E c o H) (defBody s_follow) (b_follow C) := by
  have h0 := hr1.mono (Nat.le_succ k)
  have hN := (sc_follow).nd
  exact (jb_cons (js_set hN rfl (loc_or rfl) (je_cel (jf_lst (jx_cons (je_var rfl (vis_of rfl)) jx_nil))))
    (jb_one (js_while owns_cx (jt_tru (je_var rfl (vis_of rfl))) (jb_cons (js_set hN rfl (loc_or rfl) (je_meth0 F.slot_list_pop F.type_list_pop m_pop (je_var rfl (vis_of rfl))))
    (jb_one (js_for owns_cx rfl (ji_val (je_idx h0 (je_var rfl (vis_of rfl)) je_int)) (jg_unp rfl (jgs_cons (jg_name hN rfl (loc_or rfl)) (jgs_cons (jg_name hN rfl (loc_or rfl)) (jgs_cons (jg_name hN rfl (loc_or rfl)) jgs_nil)))) (jb_one (js_if (jt_w (jw_and (jt_cmp (o_eq h0) (je_var rfl (vis_of rfl)) (je_var rfl (vis_of rfl))) (jw_and1 (jt_cmp (o_nin h0) (je_var rfl (vis_of rfl)) (je_var rfl (vis_of rfl)))))) (jb_cons (js_exp (je_meth F.slot_list_append F.type_list_append m_append (je_var rfl (vis_of rfl)) (jx_cons (je_var rfl (vis_of rfl)) jx_nil)))
    (jb_one (js_exp (je_meth F.slot_list_append F.type_list_append m_append (je_var rfl (vis_of rfl)) (jx_cons (je_var rfl (vis_of rfl)) jx_nil))))) jb_nil))))))))
set_option maxHeartbeats 4000000 in
theorem j_reached (nb : NB mg) (gc : GC mg) (hcal : AllCal P w K mg base ts k tab C) (hr1 : Room (k + 1) (A.deeper (envOfC "reached" (defScope s_reached) s.heap.objs.size f cdv))) :
    JB (cxOf (L2.CX P w) P w K mg base n_reached "reached" (defScope s_reached) f cdv A outer s H E) ts (fun c o _ H => E c o H) (defBody s_reached) (b_reached C) := by
  have h0 := hr1.mono (Nat.le_succ k)
  have hN := (sc_reached).nd
  exact (jb_one (js_ret (je_call (hcal 16 _ _ rfl) takes_cx h0 (by rfl) (jx_cons (je_call (hcal 11 _ _ rfl) takes_cx h0 (by rfl) (jx_cons (je_var rfl (vis_of rfl)) (jx_cons je_int jx_nil))) jx_nil))))
set_option maxHeartbeats 4000000 in
theorem j_distances_to (nb : NB mg) (gc : GC mg) (hcal : AllCal P w K mg base ts k tab C) (hr1 : Room (k + 1) (A.deeper (envOfC "distances_to" (defScope s_distances_to) s.heap.objs.size f cdv))) :
    JB (cxOf (L2.CX P w) P w K mg base n_distances_to "distances_to" (defScope s_distances_to) f cdv A outer s H E) ts (fun c o _ H => E c o H) (defBody s_distances_to) (b_distances_to C) := by
  have h0 := hr1.mono (Nat.le_succ k)
  have hN := (sc_distances_to).nd
  exact (jb_cons (js_setLc (own := [("_", 6)]) cel_reading rfl hN rfl rfl (sw_true rfl rfl rfl (by decide +kernel)) (ji_val (je_idx h0 (je_var rfl (vis_of rfl)) je_int)) (blkOk_by (N := n_distances_to) (sc := defScope s_distances_to) (by decide +kernel)) (by decide) (fun _ _ _ _ _ => (jg_name hN rfl (loc_or rfl))) (fun _ _ _ _ _ => jts_nil) (fun _ _ _ _ _ => je_non))
    (jb_cons (js_put h0 je_int (je_var rfl (vis_of rfl)) (je_var rfl (vis_of rfl)))
    (jb_cons (js_set hN rfl (loc_or rfl) (je_cel (jf_lst (jx_cons (je_var rfl (vis_of rfl)) jx_nil))))
    (jb_cons (js_set hN rfl (loc_or rfl) je_int)
    (jb_cons (js_while owns_cx (jt_tru (je_var rfl (vis_of rfl))) (jb_cons (js_aug hN rfl (loc_or rfl) je_int p_add)
    (jb_cons (js_set hN rfl (loc_or rfl) (je_cel (jf_lst jx_nil)))
    (jb_cons (js_for owns_cx rfl (ji_val (je_idx h0 (je_var rfl (vis_of rfl)) je_int)) (jg_unp rfl (jgs_cons (jg_name hN rfl (loc_or rfl)) (jgs_cons (jg_name hN rfl (loc_or rfl)) (jgs_cons (jg_name hN rfl (loc_or rfl)) jgs_nil)))) (jb_one (js_if (jt_w (jw_and (jt_cmp (o_in h0) (je_var rfl (vis_of rfl)) (je_var rfl (vis_of rfl))) (jw_and1 (jt_cmp o_is (je_idx h0 (je_var rfl (vis_of rfl)) (je_var rfl (vis_of rfl))) je_non)))) (jb_cons (js_put h0 (je_var rfl (vis_of rfl)) (je_var rfl (vis_of rfl)) (je_var rfl (vis_of rfl)))
    (jb_one (js_exp (je_meth F.slot_list_append F.type_list_append m_append (je_var rfl (vis_of rfl)) (jx_cons (je_var rfl (vis_of rfl)) jx_nil))))) jb_nil)))
    (jb_one (js_set hN rfl (loc_or rfl) (je_var rfl (vis_of rfl))))))))
    (jb_one (js_ret (je_var rfl (vis_of rfl)))))))))
set_option maxHeartbeats 4000000 in
theorem j_way_to (nb : NB mg) (gc : GC mg) (hcal : AllCal P w K mg base ts k tab C) (hr1 : Room (k + 1) (A.deeper (envOfC "way_to" (defScope s_way_to) s.heap.objs.size f cdv))) :
    JB (cxOf (L2.CX P w) P w K mg base n_way_to "way_to" (defScope s_way_to) f cdv A outer s H E) ts (fun c o _ H => E c o H) (defBody s_way_to) (b_way_to C) := by
  have h0 := hr1.mono (Nat.le_succ k)
  have hN := (sc_way_to).nd
  exact (jb_cons (js_set hN rfl (loc_or rfl) (je_call (hcal 11 _ _ rfl) takes_cx h0 (by rfl) (jx_cons (je_var rfl (vis_of rfl)) (jx_cons je_int jx_nil))))
    (jb_cons (js_exp (je_call (hcal 13 _ _ rfl) takes_cx h0 (by rfl) (jx_cons (je_var rfl (vis_of rfl)) (jx_cons (je_var rfl (vis_of rfl)) (jx_cons je_int jx_nil)))))
    (jb_cons (js_set hN rfl (loc_or rfl) (je_call (hcal 19 _ _ rfl) takes_cx h0 (by rfl) (jx_cons (je_var rfl (vis_of rfl)) (jx_cons (je_var rfl (vis_of rfl)) jx_nil))))
    (jb_cons (js_setLc (own := [("founder", 7)]) frz_reading rfl hN rfl rfl (sw_true rfl rfl rfl (by decide +kernel)) (ji_val (je_idx h0 (je_var rfl (vis_of rfl)) je_int)) (blkOk_by (N := n_way_to) (sc := defScope s_way_to) (by decide +kernel)) (by decide) (fun _ _ _ _ _ => (jg_name hN rfl (loc_or rfl))) (fun _ _ _ _ _ => (jts_one (jt_cmp o_isn (je_idx h0 (je_var rfl (vis_of rfl)) (je_var rfl (vis_of rfl))) je_non))) (fun _ _ _ _ _ => (je_tup (jx_cons (je_idx h0 (je_var rfl (vis_of rfl)) (je_var rfl (vis_of rfl))) (jx_cons (je_var rfl (vis_of rfl)) jx_nil)))))
    (jb_cons (js_if (jt_not (jt_tru (je_var rfl (vis_of rfl)))) (jb_one (js_ret je_non)) jb_nil)
    (jb_cons (js_asg (je_blt (c_min rfl h0) (by rfl) nb.min (by rfl) (jx_cons (je_var rfl (vis_of rfl)) jx_nil)) (jg_unp rfl (jgs_cons (jg_name hN rfl (loc_or rfl)) (jgs_cons (jg_name hN rfl (loc_or rfl)) jgs_nil))))
    (jb_cons (js_set hN rfl (loc_or rfl) (je_cel (jf_lst (jx_cons (je_var rfl (vis_of rfl)) jx_nil))))
    (jb_cons (js_while owns_cx (jt_cmp (o_gt h0) (je_var rfl (vis_of rfl)) je_int) (jb_cons (js_aug hN rfl (loc_or rfl) je_int p_sub)
    (jb_cons (js_set hN rfl (loc_or rfl) (je_blt (c_min rfl h0) (by rfl) nb.min (by rfl) (jx_cons (je_frz (jf_lc (own := [("who", 8), ("whom", 9), ("_", 10)]) rfl hN (ji_val (je_idx h0 (je_var rfl (vis_of rfl)) je_int)) (blkOk_by (N := n_way_to) (sc := defScope s_way_to) (by decide +kernel)) (by decide) (fun _ _ _ _ _ => (jg_unp rfl (jgs_cons (jg_name hN rfl (loc_or rfl)) (jgs_cons (jg_name hN rfl (loc_or rfl)) (jgs_cons (jg_name hN rfl (loc_or rfl)) jgs_nil))))) (fun _ _ _ _ _ => (jts_one (jt_w (jw_and (jt_cmp (o_eq h0) (je_var rfl (vis_of rfl)) (je_var rfl (vis_of rfl))) (jw_and1 (jt_cmp (o_eq h0) (je_idx h0 (je_var rfl (vis_of rfl)) (je_var rfl (vis_of rfl))) (je_var rfl (vis_of rfl)))))))) (fun _ _ _ _ _ => (je_var rfl (vis_of rfl))))) jx_nil)))
    (jb_one (js_exp (je_meth F.slot_list_append F.type_list_append m_append (je_var rfl (vis_of rfl)) (jx_cons (je_var rfl (vis_of rfl)) jx_nil)))))))
    (jb_one (js_ret (je_bltT c_tuple (by rfl) nb.tuple (by rfl) (jx_cons (je_var rfl (vis_of rfl)) jx_nil))))))))))))
set_option maxHeartbeats 4000000 in
theorem j__law_power (nb : NB mg) (gc : GC mg) (hcal : AllCal P w K mg base ts k tab C) (hr1 : Room (k + 1) (A.deeper (envOfC "_law_power" (defScope s__law_power) s.heap.objs.size f cdv))) :
    JB (cxOf (L2.CX P w) P w K mg base n__law_power "_law_power" (defScope s__law_power) f cdv A outer s H E) ts (fun c o _ H => E c o H) (defBody s__law_power) (b__law_power C) := by
  have h0 := hr1.mono (Nat.le_succ k)
  have hN := (sc__law_power).nd
  exact (jb_cons (js_set hN rfl (loc_or rfl) je_int)
    (jb_cons (js_for owns_cx rfl (ji_rng1 (by rfl) nb.range (je_var rfl (vis_of rfl))) (jg_name hN rfl (loc_or rfl)) (jb_one (js_set hN rfl (loc_or rfl) (je_bin o_mul (je_var rfl (vis_of rfl)) (je_var rfl (vis_of rfl))))))
    (jb_one (js_ret (je_var rfl (vis_of rfl))))))
set_option maxHeartbeats 4000000 in
theorem j__law_cell (nb : NB mg) (gc : GC mg) (hcal : AllCal P w K mg base ts k tab C) (hr1 : Room (k + 1) (A.deeper (envOfC "_law_cell" (defScope s__law_cell) s.heap.objs.size f cdv))) :
    JB (cxOf (L2.CX P w) P w K mg base n__law_cell "_law_cell" (defScope s__law_cell) f cdv A outer s H E) ts (fun c o _ H => E c o H) (defBody s__law_cell) (b__law_cell C) := by
  have h0 := hr1.mono (Nat.le_succ k)
  have hN := (sc__law_cell).nd
  exact (jb_cons (js_if (jt_cmp (o_lt h0) (je_var rfl (vis_of rfl)) (je_blt c_len (by rfl) nb.len (by rfl) (jx_cons (je_var rfl (vis_of rfl)) jx_nil))) (jb_one (js_ret (je_bltT c_int (by rfl) nb.int (by rfl) (jx_cons (je_idx h0 (je_var rfl (vis_of rfl)) (je_var rfl (vis_of rfl))) jx_nil)))) jb_nil)
    (jb_one (js_ret je_int)))
set_option maxHeartbeats 4000000 in
theorem j__law_numbers (nb : NB mg) (gc : GC mg) (hcal : AllCal P w K mg base ts k tab C) (hr1 : Room (k + 1) (A.deeper (envOfC "_law_numbers" (defScope s__law_numbers) s.heap.objs.size f cdv))) :
    JB (cxOf (L2.CX P w) P w K mg base n__law_numbers "_law_numbers" (defScope s__law_numbers) f cdv A outer s H E) ts (fun c o _ H => E c o H) (defBody s__law_numbers) (b__law_numbers C) := by
  have h0 := hr1.mono (Nat.le_succ k)
  have hN := (sc__law_numbers).nd
  exact (jb_cons (js_set hN rfl (loc_or rfl) (je_call (hcal 22 _ _ rfl) takes_cx h0 (by rfl) (jx_cons (je_var rfl (vis_of rfl)) (jx_cons (je_var rfl (vis_of rfl)) jx_nil))))
    (jb_cons (js_set hN rfl (loc_or rfl) (je_cel (jf_lst jx_nil)))
    (jb_cons (js_set hN rfl (loc_or rfl) (je_var rfl (vis_of rfl)))
    (jb_cons (js_for owns_cx rfl (ji_rng1 (by rfl) nb.range (je_var rfl (vis_of rfl))) (jg_name hN rfl (loc_or rfl)) (jb_one (js_if (jt_cmp (o_ge h0) (je_var rfl (vis_of rfl)) (je_bin o_pow je_int je_int)) (jb_cons (js_exp (je_meth F.slot_list_append F.type_list_append m_append (je_var rfl (vis_of rfl)) (jx_cons (je_bin o_mod (je_bltT c_int (by rfl) nb.int (by rfl) (jx_cons (je_var rfl (vis_of rfl)) jx_nil)) (je_bin o_pow je_int je_int)) jx_nil)))
    (jb_one (js_set hN rfl (loc_or rfl) (je_bin o_fdiv (je_var rfl (vis_of rfl)) (je_bin o_pow je_int je_int))))) (jb_cons (js_set hN rfl (loc_or rfl) (je_bin o_mod (je_bltT c_int (by rfl) nb.int (by rfl) (jx_cons (je_bin o_add (je_bin o_add (je_bin o_mul (je_var rfl (vis_of rfl)) je_int) (je_bin o_mul (je_bin o_add (je_var rfl (vis_of rfl)) je_int) je_int)) (je_var rfl (vis_of rfl))) jx_nil)) je_int))
    (jb_one (js_exp (je_meth F.slot_list_append F.type_list_append m_append (je_var rfl (vis_of rfl)) (jx_cons (je_bin o_mod (je_bin o_mod (je_bltT c_int (by rfl) nb.int (by rfl) (jx_cons (je_bin o_add (je_bin o_mul (je_var rfl (vis_of rfl)) je_int) (je_bin o_mul (je_bin o_add (je_var rfl (vis_of rfl)) je_int) je_int)) jx_nil)) je_int) (je_bin o_pow je_int je_int)) jx_nil))))))))
    (jb_one (js_ret (je_var rfl (vis_of rfl))))))))
set_option maxHeartbeats 4000000 in
theorem j__law_same (nb : NB mg) (gc : GC mg) (hcal : AllCal P w K mg base ts k tab C) (hr1 : Room (k + 1) (A.deeper (envOfC "_law_same" (defScope s__law_same) s.heap.objs.size f cdv))) :
    JB (cxOf (L2.CX P w) P w K mg base n__law_same "_law_same" (defScope s__law_same) f cdv A outer s H E) ts (fun c o _ H => E c o H) (defBody s__law_same) (b__law_same C) := by
  have h0 := hr1.mono (Nat.le_succ k)
  have hN := (sc__law_same).nd
  exact (jb_cons (js_if (jt_w (jw_or (jt_tru (je_isi1 (t1 := .tuple) (by rfl) nb.isinstance (je_var rfl (vis_of rfl)) (by rfl) nb.tuple (by rfl))) (jw_or1 (jt_tru (je_isi1 (t1 := .tuple) (by rfl) nb.isinstance (je_var rfl (vis_of rfl)) (by rfl) nb.tuple (by rfl)))))) (jb_cons (js_if (jt_w (jw_or (jt_not (jt_tru (je_isi1 (t1 := .tuple) (by rfl) nb.isinstance (je_var rfl (vis_of rfl)) (by rfl) nb.tuple (by rfl)))) (jw_or (jt_not (jt_tru (je_isi1 (t1 := .tuple) (by rfl) nb.isinstance (je_var rfl (vis_of rfl)) (by rfl) nb.tuple (by rfl)))) (jw_or1 (jt_cmp (o_ne h0) (je_blt c_len (by rfl) nb.len (by rfl) (jx_cons (je_var rfl (vis_of rfl)) jx_nil)) (je_blt c_len (by rfl) nb.len (by rfl) (jx_cons (je_var rfl (vis_of rfl)) jx_nil))))))) (jb_one (js_ret je_bl)) jb_nil)
    (jb_cons (js_for owns_cx rfl (ji_rng1 (by rfl) nb.range (je_blt c_len (by rfl) nb.len (by rfl) (jx_cons (je_var rfl (vis_of rfl)) jx_nil))) (jg_name hN rfl (loc_or rfl)) (jb_one (js_if (jt_not (jt_tru (je_call (hcal 24 _ _ rfl) takes_cx h0 (by rfl) (jx_cons (je_idx h0 (je_var rfl (vis_of rfl)) (je_var rfl (vis_of rfl))) (jx_cons (je_idx h0 (je_var rfl (vis_of rfl)) (je_var rfl (vis_of rfl))) jx_nil))))) (jb_one (js_ret je_bl)) jb_nil)))
    (jb_one (js_ret je_bl)))) jb_nil)
    (jb_cons (js_if (jt_w (jw_or (jt_cmp o_is (je_var rfl (vis_of rfl)) je_non) (jw_or1 (jt_cmp o_is (je_var rfl (vis_of rfl)) je_non)))) (jb_one (js_ret (je_and (je_cmp o_is (je_var rfl (vis_of rfl)) je_non) (je_one (je_cmp o_is (je_var rfl (vis_of rfl)) je_non))))) jb_nil)
    (jb_cons (js_if (jt_w (jw_or (jt_cmp (o_ne h0) (je_isi1 (t1 := .bool) (by rfl) nb.isinstance (je_var rfl (vis_of rfl)) (by rfl) nb.bool (by rfl)) (je_isi1 (t1 := .bool) (by rfl) nb.isinstance (je_var rfl (vis_of rfl)) (by rfl) nb.bool (by rfl))) (jw_or1 (jt_cmp (o_ne h0) (je_isi1 (t1 := .str) (by rfl) nb.isinstance (je_var rfl (vis_of rfl)) (by rfl) nb.str (by rfl)) (je_isi1 (t1 := .str) (by rfl) nb.isinstance (je_var rfl (vis_of rfl)) (by rfl) nb.str (by rfl)))))) (jb_one (js_ret je_bl)) jb_nil)
    (jb_one (js_ret (je_and (je_isi2 (t1 := .int) (t2 := .str) (by rfl) nb.isinstance (je_var rfl (vis_of rfl)) (by rfl) nb.int (by rfl) (by rfl) nb.str (by rfl)) (je_and (je_isi2 (t1 := .int) (t2 := .str) (by rfl) nb.isinstance (je_var rfl (vis_of rfl)) (by rfl) nb.int (by rfl) (by rfl) nb.str (by rfl)) (je_one (je_cmp (o_eq h0) (je_var rfl (vis_of rfl)) (je_var rfl (vis_of rfl)))))))))))
set_option maxHeartbeats 4000000 in
theorem j__law_listed (nb : NB mg) (gc : GC mg) (hcal : AllCal P w K mg base ts k tab C) (hr1 : Room (k + 1) (A.deeper (envOfC "_law_listed" (defScope s__law_listed) s.heap.objs.size f cdv))) :
    JB (cxOf (L2.CX P w) P w K mg base n__law_listed "_law_listed" (defScope s__law_listed) f cdv A outer s H E) ts (fun c o _ H => E c o H) (defBody s__law_listed) (b__law_listed C) := by
  have h0 := hr1.mono (Nat.le_succ k)
  have hN := (sc__law_listed).nd
  exact (jb_cons (js_if (jt_tru (je_isi1 (t1 := .tuple) (by rfl) nb.isinstance (je_var rfl (vis_of rfl)) (by rfl) nb.tuple (by rfl))) (jb_one (js_ret (je_frz (jf_lc (own := [("part", 1)]) rfl hN (ji_val (je_var rfl (vis_of rfl))) (blkOk_by (N := n__law_listed) (sc := defScope s__law_listed) (by decide +kernel)) (by decide) (fun _ _ _ _ _ => (jg_name hN rfl (loc_or rfl))) (fun _ _ _ _ _ => jts_nil) (fun _ _ _ _ _ => (je_call (hcal 25 _ _ rfl) takes_w0 h0 (by rfl) (jx_cons (je_var rfl (vis_of rfl)) jx_nil))))))) jb_nil)
    (jb_one (js_ret (je_var rfl (vis_of rfl)))))
set_option maxHeartbeats 4000000 in
theorem j__law_size (nb : NB mg) (gc : GC mg) (hcal : AllCal P w K mg base ts k tab C) (hr1 : Room (k + 1) (A.deeper (envOfC "_law_size" (defScope s__law_size) s.heap.objs.size f cdv))) :
    JB (cxOf (L2.CX P w) P w K mg base n__law_size "_law_size" (defScope s__law_size) f cdv A outer s H E) ts (fun c o _ H => E c o H) (defBody s__law_size) (b__law_size C) := by
  have h0 := hr1.mono (Nat.le_succ k)
  have hN := (sc__law_size).nd
  exact (jb_cons (js_if (jt_cmp (o_eq h0) (je_bin o_mod (je_bltT c_int (by rfl) nb.int (by rfl) (jx_cons (je_var rfl (vis_of rfl)) jx_nil)) je_int) je_int) (jb_one (js_ret (je_bin o_add je_int (je_bin o_mod (je_bltT c_int (by rfl) nb.int (by rfl) (jx_cons (je_bin o_fdiv (je_var rfl (vis_of rfl)) je_int) jx_nil)) je_int)))) jb_nil)
    (jb_one (js_ret (je_bin o_add je_int (je_bin o_mod (je_bltT c_int (by rfl) nb.int (by rfl) (jx_cons (je_bin o_fdiv (je_var rfl (vis_of rfl)) je_int) jx_nil)) je_int)))))
set_option maxHeartbeats 4000000 in
theorem j__law_web (nb : NB mg) (gc : GC mg) (hcal : AllCal P w K mg base ts k tab C) (hr1 : Room (k + 1) (A.deeper (envOfC "_law_web" (defScope s__law_web) s.heap.objs.size f cdv))) :
    JB (cxOf (L2.CX P w) P w K mg base n__law_web "_law_web" (defScope s__law_web) f cdv A outer s H E) ts (fun c o _ H => E c o H) (defBody s__law_web) (b__law_web C) := by
  have h0 := hr1.mono (Nat.le_succ k)
  have hN := (sc__law_web).nd
  exact (jb_cons (js_set hN rfl (loc_or rfl) (je_bin o_add je_int (je_bin o_mod (je_bltT c_int (by rfl) nb.int (by rfl) (jx_cons (je_idx h0 (je_var rfl (vis_of rfl)) je_int) jx_nil)) je_int)))
    (jb_cons (js_set hN rfl (loc_or rfl) (je_bltT c_tuple (by rfl) nb.tuple (by rfl) (jx_cons (je_frz (jf_lc (own := [("k", 7)]) rfl hN (ji_rng1 (by rfl) nb.range (je_var rfl (vis_of rfl))) (blkOk_by (N := n__law_web) (sc := defScope s__law_web) (by decide +kernel)) (by decide) (fun _ _ _ _ _ => (jg_name hN rfl (loc_or rfl))) (fun _ _ _ _ _ => jts_nil) (fun _ _ _ _ _ => (je_call (hcal 26 _ _ rfl) takes_w0 h0 (by rfl) (jx_cons (je_idx h0 (je_var rfl (vis_of rfl)) (je_bin o_add je_int (je_var rfl (vis_of rfl)))) jx_nil))))) jx_nil)))
    (jb_cons (js_setLc (own := [("k", 7)]) frz_reading rfl hN rfl rfl (sw_true rfl rfl rfl (by decide +kernel)) (ji_rng1 (by rfl) nb.range (je_var rfl (vis_of rfl))) (blkOk_by (N := n__law_web) (sc := defScope s__law_web) (by decide +kernel)) (by decide) (fun _ _ _ _ _ => (jg_name hN rfl (loc_or rfl))) (fun _ _ _ _ _ => (jts_one (jt_cmp (o_eq h0) (je_bin o_mod (je_bltT c_int (by rfl) nb.int (by rfl) (jx_cons (je_bin o_fdiv (je_idx h0 (je_var rfl (vis_of rfl)) je_int) (je_bin o_mul je_int (je_call (hcal 21 _ _ rfl) takes_w0 h0 (by rfl) (jx_cons je_int (jx_cons (je_var rfl (vis_of rfl)) jx_nil))))) jx_nil)) je_int) je_int))) (fun _ _ _ _ _ => (je_var rfl (vis_of rfl))))
    (jb_cons (js_set hN rfl (loc_or rfl) (je_bltT c_tuple (by rfl) nb.tuple (by rfl) (jx_cons (je_slA (je_var rfl (vis_of rfl)) jp_none (jp_some je_int)) jx_nil)))
    (jb_cons (js_if (jt_cmp (o_eq h0) (je_var rfl (vis_of rfl)) (je_tup jx_nil)) (jb_one (js_set hN rfl (loc_or rfl) (je_tup (jx_cons (je_bin o_mod (je_bltT c_int (by rfl) nb.int (by rfl) (jx_cons (je_bin o_fdiv (je_idx h0 (je_var rfl (vis_of rfl)) je_int) je_int) jx_nil)) (je_var rfl (vis_of rfl))) jx_nil)))) jb_nil)
    (jb_cons (js_set hN rfl (loc_or rfl) je_newT)
    (jb_cons (js_if (jt_cmp (o_gt h0) (je_var rfl (vis_of rfl)) je_int) (jb_one (js_for owns_cx rfl (ji_rng1 (by rfl) nb.range (je_bin o_mod (je_bltT c_int (by rfl) nb.int (by rfl) (jx_cons (je_idx h0 (je_var rfl (vis_of rfl)) je_int) jx_nil)) je_int)) (jg_name hN rfl (loc_or rfl)) (jb_cons (js_set hN rfl (loc_or rfl) (je_idx h0 (je_var rfl (vis_of rfl)) (je_bin o_add je_int (je_var rfl (vis_of rfl)))))
    (jb_cons (js_set hN rfl (loc_or rfl) (je_bin o_mod (je_bltT c_int (by rfl) nb.int (by rfl) (jx_cons (je_var rfl (vis_of rfl)) jx_nil)) (je_var rfl (vis_of rfl))))
    (jb_cons (js_set hN rfl (loc_or rfl) (je_bin o_mod (je_bin o_add (je_bin o_add (je_var rfl (vis_of rfl)) je_int) (je_bin o_mod (je_bltT c_int (by rfl) nb.int (by rfl) (jx_cons (je_bin o_fdiv (je_var rfl (vis_of rfl)) je_int) jx_nil)) (je_bin o_sub (je_var rfl (vis_of rfl)) je_int))) (je_var rfl (vis_of rfl))))
    (jb_one (js_put h0 (je_call (hcal 26 _ _ rfl) takes_cx h0 (by rfl) (jx_cons (je_bin o_fdiv (je_var rfl (vis_of rfl)) je_int) jx_nil)) (je_var rfl (vis_of rfl)) (je_tup (jx_cons (je_var rfl (vis_of rfl)) (jx_cons (je_var rfl (vis_of rfl)) jx_nil)))))))))) jb_nil)
    (jb_cons (js_setLc (own := [("pair", 11)]) frz_reading rfl hN rfl rfl (sw_true rfl rfl rfl (by decide +kernel)) (ji_val (je_frz (jf_skeys h0 (by rfl) nb.sorted (je_var rfl (vis_of rfl))))) (blkOk_by (N := n__law_web) (sc := defScope s__law_web) (by decide +kernel)) (by decide) (fun _ _ _ _ _ => (jg_name hN rfl (loc_or rfl))) (fun _ _ _ _ _ => jts_nil) (fun _ _ _ _ _ => (je_tup (jx_cons (je_idx h0 (je_var rfl (vis_of rfl)) je_int) (jx_cons (je_idx h0 (je_var rfl (vis_of rfl)) je_int) (jx_cons (je_idx h0 (je_var rfl (vis_of rfl)) (je_var rfl (vis_of rfl))) jx_nil))))))
    (jb_one (js_ret (je_tup (jx_cons (je_var rfl (vis_of rfl)) (jx_cons (je_var rfl (vis_of rfl)) (jx_cons (je_bltT c_tuple (by rfl) nb.tuple (by rfl) (jx_cons (je_var rfl (vis_of rfl)) jx_nil)) jx_nil))))))))))))))
set_option maxHeartbeats 4000000 in
theorem j__law_far (nb : NB mg) (gc : GC mg) (hcal : AllCal P w K mg base ts k tab C) (hr1 : Room (k + 1) (A.deeper (envOfC "_law_far" (defScope s__law_far) s.heap.objs.size f cdv))) :
    JB (cxOf (L2.CX P w) P w K mg base n__law_far "_law_far" (defScope s__law_far) f cdv A outer s H E) ts (fun c o _ H => E c o H) (defBody s__law_far) (b__law_far C) := by
  have h0 := hr1.mono (Nat.le_succ k)
  have hN := (sc__law_far).nd
  exact (jb_cons (js_set hN rfl (loc_or rfl) (je_cel (jf_rep (je_frz (jf_lst (jx_cons je_non jx_nil))) (je_blt c_len (by rfl) nb.len (by rfl) (jx_cons (je_idx h0 (je_var rfl (vis_of rfl)) je_int) jx_nil)))))
    (jb_cons (js_for owns_cx rfl (ji_val (je_idx h0 (je_var rfl (vis_of rfl)) je_int)) (jg_name hN rfl (loc_or rfl)) (jb_one (js_put h0 je_int (je_var rfl (vis_of rfl)) (je_var rfl (vis_of rfl)))))
    (jb_cons (js_for owns_cx rfl (ji_rng1 (by rfl) nb.range (je_blt c_len (by rfl) nb.len (by rfl) (jx_cons (je_idx h0 (je_var rfl (vis_of rfl)) je_int) jx_nil))) (jg_name hN rfl (loc_or rfl)) (jb_one (js_for owns_cx rfl (ji_val (je_idx h0 (je_var rfl (vis_of rfl)) je_int)) (jg_unp rfl (jgs_cons (jg_name hN rfl (loc_or rfl)) (jgs_cons (jg_name hN rfl (loc_or rfl)) (jgs_cons (jg_name hN rfl (loc_or rfl)) jgs_nil)))) (jb_one (js_if (jt_w (jw_and (jt_cmp o_isn (je_idx h0 (je_var rfl (vis_of rfl)) (je_var rfl (vis_of rfl))) je_non) (jw_and (jt_cmp (o_eq h0) (je_idx h0 (je_var rfl (vis_of rfl)) (je_var rfl (vis_of rfl))) (je_var rfl (vis_of rfl))) (jw_and1 (jt_cmp o_is (je_idx h0 (je_var rfl (vis_of rfl)) (je_var rfl (vis_of rfl))) je_non))))) (jb_one (js_put h0 (je_bin o_add (je_var rfl (vis_of rfl)) je_int) (je_var rfl (vis_of rfl)) (je_var rfl (vis_of rfl)))) jb_nil)))))
    (jb_one (js_ret (je_var rfl (vis_of rfl)))))))
set_option maxHeartbeats 4000000 in
theorem j__law_back (nb : NB mg) (gc : GC mg) (hcal : AllCal P w K mg base ts k tab C) (hr1 : Room (k + 1) (A.deeper (envOfC "_law_back" (defScope s__law_back) s.heap.objs.size f cdv))) :
    JB (cxOf (L2.CX P w) P w K mg base n__law_back "_law_back" (defScope s__law_back) f cdv A outer s H E) ts (fun c o _ H => E c o H) (defBody s__law_back) (b__law_back C) := by
  have h0 := hr1.mono (Nat.le_succ k)
  have hN := (sc__law_back).nd
  exact (jb_cons (js_set hN rfl (loc_or rfl) (je_cel (jf_rep (je_frz (jf_lst (jx_cons je_non jx_nil))) (je_blt c_len (by rfl) nb.len (by rfl) (jx_cons (je_idx h0 (je_var rfl (vis_of rfl)) je_int) jx_nil)))))
    (jb_cons (js_put h0 je_int (je_var rfl (vis_of rfl)) (je_var rfl (vis_of rfl)))
    (jb_cons (js_for owns_cx rfl (ji_rng1 (by rfl) nb.range (je_blt c_len (by rfl) nb.len (by rfl) (jx_cons (je_idx h0 (je_var rfl (vis_of rfl)) je_int) jx_nil))) (jg_name hN rfl (loc_or rfl)) (jb_one (js_for owns_cx rfl (ji_val (je_idx h0 (je_var rfl (vis_of rfl)) je_int)) (jg_unp rfl (jgs_cons (jg_name hN rfl (loc_or rfl)) (jgs_cons (jg_name hN rfl (loc_or rfl)) (jgs_cons (jg_name hN rfl (loc_or rfl)) jgs_nil)))) (jb_one (js_if (jt_w (jw_and (jt_cmp o_isn (je_idx h0 (je_var rfl (vis_of rfl)) (je_var rfl (vis_of rfl))) je_non) (jw_and (jt_cmp (o_eq h0) (je_idx h0 (je_var rfl (vis_of rfl)) (je_var rfl (vis_of rfl))) (je_var rfl (vis_of rfl))) (jw_and1 (jt_cmp o_is (je_idx h0 (je_var rfl (vis_of rfl)) (je_var rfl (vis_of rfl))) je_non))))) (jb_one (js_put h0 (je_bin o_add (je_var rfl (vis_of rfl)) je_int) (je_var rfl (vis_of rfl)) (je_var rfl (vis_of rfl)))) jb_nil)))))
    (jb_one (js_ret (je_var rfl (vis_of rfl)))))))
set_option maxHeartbeats 4000000 in
theorem j__law_way (nb : NB mg) (gc : GC mg) (hcal : AllCal P w K mg base ts k tab C) (hr1 : Room (k + 1) (A.deeper (envOfC "_law_way" (defScope s__law_way) s.heap.objs.size f cdv))) :
    JB (cxOf (L2.CX P w) P w K mg base n__law_way "_law_way" (defScope s__law_way) f cdv A outer s H E) ts (fun c o _ H => E c o H) (defBody s__law_way) (b__law_way C) := by
  have h0 := hr1.mono (Nat.le_succ k)
  have hN := (sc__law_way).nd
  exact (jb_cons (js_set hN rfl (loc_or rfl) (je_call (hcal 28 _ _ rfl) takes_cx h0 (by rfl) (jx_cons (je_var rfl (vis_of rfl)) jx_nil)))
    (jb_cons (js_if (jt_cmp o_is (je_idx h0 (je_var rfl (vis_of rfl)) (je_var rfl (vis_of rfl))) je_non) (jb_one (js_ret je_non)) jb_nil)
    (jb_cons (js_set hN rfl (loc_or rfl) (je_call (hcal 29 _ _ rfl) takes_cx h0 (by rfl) (jx_cons (je_var rfl (vis_of rfl)) (jx_cons (je_var rfl (vis_of rfl)) jx_nil))))
    (jb_cons (js_set hN rfl (loc_or rfl) (je_idx h0 (je_var rfl (vis_of rfl)) (je_var rfl (vis_of rfl))))
    (jb_cons (js_set hN rfl (loc_or rfl) (je_blt (c_min rfl h0) (by rfl) nb.min (by rfl) (jx_cons (je_frz (jf_lc (own := [("k", 9)]) rfl hN (ji_val (je_idx h0 (je_var rfl (vis_of rfl)) je_int)) (blkOk_by (N := n__law_way) (sc := defScope s__law_way) (by decide +kernel)) (by decide) (fun _ _ _ _ _ => (jg_name hN rfl (loc_or rfl))) (fun _ _ _ _ _ => (jts_one (jt_w (jw_and (jt_cmp o_isn (je_idx h0 (je_var rfl (vis_of rfl)) (je_var rfl (vis_of rfl))) je_non) (jw_and1 (jt_cmp (o_eq h0) (je_idx h0 (je_var rfl (vis_of rfl)) (je_var rfl (vis_of rfl))) (je_var rfl (vis_of rfl)))))))) (fun _ _ _ _ _ => (je_var rfl (vis_of rfl))))) jx_nil)))
    (jb_cons (js_set hN rfl (loc_or rfl) (je_cel (jf_lst (jx_cons (je_var rfl (vis_of rfl)) jx_nil))))
    (jb_cons (js_for owns_cx rfl (ji_rng1 (by rfl) nb.range (je_var rfl (vis_of rfl))) (jg_name hN rfl (loc_or rfl)) (jb_cons (js_set hN rfl (loc_or rfl) (je_bin o_sub (je_bin o_sub (je_var rfl (vis_of rfl)) (je_var rfl (vis_of rfl))) je_int))
    (jb_cons (js_set hN rfl (loc_or rfl) (je_blt (c_min rfl h0) (by rfl) nb.min (by rfl) (jx_cons (je_frz (jf_lc (own := [("who", 10), ("whom", 11), ("width", 12)]) rfl hN (ji_val (je_idx h0 (je_var rfl (vis_of rfl)) je_int)) (blkOk_by (N := n__law_way) (sc := defScope s__law_way) (by decide +kernel)) (by decide) (fun _ _ _ _ _ => (jg_unp rfl (jgs_cons (jg_name hN rfl (loc_or rfl)) (jgs_cons (jg_name hN rfl (loc_or rfl)) (jgs_cons (jg_name hN rfl (loc_or rfl)) jgs_nil))))) (fun _ _ _ _ _ => (jts_one (jt_w (jw_and (jt_cmp (o_eq h0) (je_var rfl (vis_of rfl)) (je_var rfl (vis_of rfl))) (jw_and (jt_cmp o_isn (je_idx h0 (je_var rfl (vis_of rfl)) (je_var rfl (vis_of rfl))) je_non) (jw_and1 (jt_cmp (o_eq h0) (je_idx h0 (je_var rfl (vis_of rfl)) (je_var rfl (vis_of rfl))) (je_var rfl (vis_of rfl))))))))) (fun _ _ _ _ _ => (je_var rfl (vis_of rfl))))) jx_nil)))
    (jb_one (js_exp (je_meth F.slot_list_append F.type_list_append m_append (je_var rfl (vis_of rfl)) (jx_cons (je_var rfl (vis_of rfl)) jx_nil)))))))
    (jb_one (js_ret (je_bltT c_tuple (by rfl) nb.tuple (by rfl) (jx_cons (je_var rfl (vis_of rfl)) jx_nil)))))))))))
set_option maxHeartbeats 4000000 in
theorem j_law (nb : NB mg) (gc : GC mg) (hcal : AllCal P w K mg base ts k tab C) (hr1 : Room (k + 1) (A.deeper (envOfC "law" (defScope s_law) s.heap.objs.size f cdv))) :
    JB (cxOf (L2.CX P w) P w K mg base n_law "law" (defScope s_law) f cdv A outer s H E) ts (fun c o _ H => E c o H) (defBody s_law) (b_law C) := by
  have h0 := hr1.mono (Nat.le_succ k)
  have hN := (sc_law).nd
  exact (jb_cons (js_set hN rfl (loc_or rfl) (je_call (hcal 27 _ _ rfl) takes_cx h0 (by rfl) (jx_cons (je_call (hcal 23 _ _ rfl) takes_cx h0 (by rfl) (jx_cons (je_var rfl (vis_of rfl)) (jx_cons je_int (jx_cons je_int jx_nil)))) jx_nil)))
    (jb_cons (js_set hN rfl (loc_or rfl) (je_call (hcal 28 _ _ rfl) takes_cx h0 (by rfl) (jx_cons (je_var rfl (vis_of rfl)) jx_nil)))
    (jb_cons (js_set hN rfl (loc_or rfl) (je_bltT c_tuple (by rfl) nb.tuple (by rfl) (jx_cons (je_frz (jf_lc (own := [("k", 4)]) rfl hN (ji_rng1 (by rfl) nb.range (je_blt c_len (by rfl) nb.len (by rfl) (jx_cons (je_idx h0 (je_var rfl (vis_of rfl)) je_int) jx_nil))) (blkOk_by (N := n_law) (sc := defScope s_law) (by decide +kernel)) (by decide) (fun _ _ _ _ _ => (jg_name hN rfl (loc_or rfl))) (fun _ _ _ _ _ => (jts_one (jt_cmp o_isn (je_idx h0 (je_var rfl (vis_of rfl)) (je_var rfl (vis_of rfl))) je_non))) (fun _ _ _ _ _ => (je_var rfl (vis_of rfl))))) jx_nil)))
    (jb_cons (js_if (jt_w (jw_or (jt_not (jt_tru (je_call (hcal 24 _ _ rfl) takes_cx h0 (by rfl) (jx_cons (je_call (hcal 18 _ _ rfl) takes_cx h0 (by rfl) (jx_cons (je_var rfl (vis_of rfl)) jx_nil)) (jx_cons (je_var rfl (vis_of rfl)) jx_nil))))) (jw_or1 (jt_not (jt_tru (je_call (hcal 24 _ _ rfl) takes_cx h0 (by rfl) (jx_cons (je_call (hcal 18 _ _ rfl) takes_cx h0 (by rfl) (jx_cons (je_call (hcal 25 _ _ rfl) takes_cx h0 (by rfl) (jx_cons (je_var rfl (vis_of rfl)) jx_nil)) jx_nil)) (jx_cons (je_var rfl (vis_of rfl)) jx_nil)))))))) (jb_one (js_ret je_bl)) jb_nil)
    (jb_cons (js_for owns_cx rfl (ji_rng1 (by rfl) nb.range (je_blt c_len (by rfl) nb.len (by rfl) (jx_cons (je_idx h0 (je_var rfl (vis_of rfl)) je_int) jx_nil))) (jg_name hN rfl (loc_or rfl)) (jb_cons (js_set hN rfl (loc_or rfl) (je_bltT c_tuple (by rfl) nb.tuple (by rfl) (jx_cons (je_frz (jf_lc (own := [("j", 7)]) rfl hN (ji_rng1 (by rfl) nb.range (je_blt c_len (by rfl) nb.len (by rfl) (jx_cons (je_idx h0 (je_var rfl (vis_of rfl)) je_int) jx_nil))) (blkOk_by (N := n_law) (sc := defScope s_law) (by decide +kernel)) (by decide) (fun _ _ _ _ _ => (jg_name hN rfl (loc_or rfl))) (fun _ _ _ _ _ => (jts_one (jt_cmp (o_eq h0) (je_idx h0 (je_idx h0 (je_idx h0 (je_var rfl (vis_of rfl)) je_int) (je_var rfl (vis_of rfl))) je_int) (je_var rfl (vis_of rfl))))) (fun _ _ _ _ _ => (je_var rfl (vis_of rfl))))) jx_nil)))
    (jb_cons (js_set hN rfl (loc_or rfl) (je_bltT c_tuple (by rfl) nb.tuple (by rfl) (jx_cons (je_frz (jf_lc (own := [("j", 7)]) rfl hN (ji_rng1 (by rfl) nb.range (je_blt c_len (by rfl) nb.len (by rfl) (jx_cons (je_idx h0 (je_var rfl (vis_of rfl)) je_int) jx_nil))) (blkOk_by (N := n_law) (sc := defScope s_law) (by decide +kernel)) (by decide) (fun _ _ _ _ _ => (jg_name hN rfl (loc_or rfl))) (fun _ _ _ _ _ => (jts_one (jt_cmp (o_eq h0) (je_idx h0 (je_idx h0 (je_idx h0 (je_var rfl (vis_of rfl)) je_int) (je_var rfl (vis_of rfl))) je_int) (je_var rfl (vis_of rfl))))) (fun _ _ _ _ _ => (je_var rfl (vis_of rfl))))) jx_nil)))
    (jb_cons (js_if (jt_w (jw_or (jt_not (jt_tru (je_call (hcal 24 _ _ rfl) takes_cx h0 (by rfl) (jx_cons (je_call (hcal 14 _ _ rfl) takes_cx h0 (by rfl) (jx_cons (je_var rfl (vis_of rfl)) (jx_cons (je_var rfl (vis_of rfl)) jx_nil))) (jx_cons (je_var rfl (vis_of rfl)) jx_nil))))) (jw_or1 (jt_not (jt_tru (je_call (hcal 24 _ _ rfl) takes_cx h0 (by rfl) (jx_cons (je_call (hcal 15 _ _ rfl) takes_cx h0 (by rfl) (jx_cons (je_var rfl (vis_of rfl)) (jx_cons (je_var rfl (vis_of rfl)) jx_nil))) (jx_cons (je_var rfl (vis_of rfl)) jx_nil)))))))) (jb_one (js_ret je_bl)) jb_nil)
    (jb_one (js_if (jt_not (jt_tru (je_call (hcal 24 _ _ rfl) takes_cx h0 (by rfl) (jx_cons (je_call (hcal 20 _ _ rfl) takes_cx h0 (by rfl) (jx_cons (je_var rfl (vis_of rfl)) (jx_cons (je_var rfl (vis_of rfl)) jx_nil))) (jx_cons (je_call (hcal 30 _ _ rfl) takes_cx h0 (by rfl) (jx_cons (je_var rfl (vis_of rfl)) (jx_cons (je_var rfl (vis_of rfl)) jx_nil))) jx_nil))))) (jb_one (js_ret je_bl)) jb_nil))))))
    (jb_one (js_ret (je_call (hcal 24 _ _ rfl) takes_cx h0 (by rfl) (jx_cons (je_call (hcal 18 _ _ rfl) takes_cx h0 (by rfl) (jx_cons (je_var rfl (vis_of rfl)) jx_nil)) (jx_cons (je_var rfl (vis_of rfl)) jx_nil))))))))))
end
section
variable {P : Program} {w : World} {K : PySem.W.Frag} {mg : Str → Option Value} {base : Heap} {ts : List Addr}
theorem all_cal (nb : NB mg) (gc : GC mg) {f_is_int : Addr} {fd_is_int : FuncData} (F_is_int : DefF K mg s_is_int "is_int" ["value"] f_is_int fd_is_int)
    {f_is_between : Addr} {fd_is_between : FuncData} (F_is_between : DefF K mg s_is_between "is_between" ["value", "low", "high"] f_is_between fd_is_between)
    {f_is_sequence : Addr} {fd_is_sequence : FuncData} (F_is_sequence : DefF K mg s_is_sequence "is_sequence" ["value"] f_is_sequence fd_is_sequence)
    {f_is_row : Addr} {fd_is_row : FuncData} (F_is_row : DefF K mg s_is_row "is_row" ["value", "many"] f_is_row fd_is_row)
    {f_frozen : Addr} {fd_frozen : FuncData} (F_frozen : DefF K mg s_frozen "frozen" ["value"] f_frozen fd_frozen)
    {f_is_ascending : Addr} {fd_is_ascending : FuncData} (F_is_ascending : DefF K mg s_is_ascending "is_ascending" ["values"] f_is_ascending fd_is_ascending)
    {f_is_number_set : Addr} {fd_is_number_set : FuncData} (F_is_number_set : DefF K mg s_is_number_set "is_number_set" ["value", "low", "high"] f_is_number_set fd_is_number_set)
    {f_need : Addr} {fd_need : FuncData} (F_need : DefF K mg s_need "need" ["test", "at"] f_need fd_need)
    {f_is_size : Addr} {fd_is_size : FuncData} (F_is_size : DefF K mg s_is_size "is_size" ["value"] f_is_size fd_is_size)
    {f_is_vouchings : Addr} {fd_is_vouchings : FuncData} (F_is_vouchings : DefF K mg s_is_vouchings "is_vouchings" ["value", "many"] f_is_vouchings fd_is_vouchings)
    {f_is_web : Addr} {fd_is_web : FuncData} (F_is_web : DefF K mg s_is_web "is_web" ["value"] f_is_web fd_is_web)
    {f_need_web : Addr} {fd_need_web : FuncData} (F_need_web : DefF K mg s_need_web "need_web" ["value", "at"] f_need_web fd_need_web)
    {f_is_account : Addr} {fd_is_account : FuncData} (F_is_account : DefF K mg s_is_account "is_account" ["web", "value"] f_is_account fd_is_account)
    {f_need_account : Addr} {fd_need_account : FuncData} (F_need_account : DefF K mg s_need_account "need_account" ["web", "value", "at"] f_need_account fd_need_account)
    {f_vouched_by : Addr} {fd_vouched_by : FuncData} (F_vouched_by : DefF K mg s_vouched_by "vouched_by" ["web", "account"] f_vouched_by fd_vouched_by)
    {f_vouches_for : Addr} {fd_vouches_for : FuncData} (F_vouches_for : DefF K mg s_vouches_for "vouches_for" ["web", "account"] f_vouches_for fd_vouches_for)
    {f_reached_of : Addr} {fd_reached_of : FuncData} (F_reached_of : DefF K mg s_reached_of "reached_of" ["web"] f_reached_of fd_reached_of)
    {f_follow : Addr} {fd_follow : FuncData} (F_follow : DefF K mg s_follow "follow" ["web", "account", "found"] f_follow fd_follow)
    {f_reached : Addr} {fd_reached : FuncData} (F_reached : DefF K mg s_reached "reached" ["web"] f_reached fd_reached)
    {f_distances_to : Addr} {fd_distances_to : FuncData} (F_distances_to : DefF K mg s_distances_to "distances_to" ["web", "account"] f_distances_to fd_distances_to)
    {f_way_to : Addr} {fd_way_to : FuncData} (F_way_to : DefF K mg s_way_to "way_to" ["web", "account"] f_way_to fd_way_to)
    {f__law_power : Addr} {fd__law_power : FuncData} (F__law_power : DefF K mg s__law_power "_law_power" ["base", "many"] f__law_power fd__law_power)
    {f__law_cell : Addr} {fd__law_cell : FuncData} (F__law_cell : DefF K mg s__law_cell "_law_cell" ["script", "place"] f__law_cell fd__law_cell)
    {f__law_numbers : Addr} {fd__law_numbers : FuncData} (F__law_numbers : DefF K mg s__law_numbers "_law_numbers" ["script", "place", "many"] f__law_numbers fd__law_numbers)
    {f__law_same : Addr} {fd__law_same : FuncData} (F__law_same : DefF K mg s__law_same "_law_same" ["one", "other"] f__law_same fd__law_same)
    {f__law_listed : Addr} {fd__law_listed : FuncData} (F__law_listed : DefF K mg s__law_listed "_law_listed" ["value"] f__law_listed fd__law_listed)
    {f__law_size : Addr} {fd__law_size : FuncData} (F__law_size : DefF K mg s__law_size "_law_size" ["number"] f__law_size fd__law_size)
    {f__law_web : Addr} {fd__law_web : FuncData} (F__law_web : DefF K mg s__law_web "_law_web" ["numbers"] f__law_web fd__law_web)
    {f__law_far : Addr} {fd__law_far : FuncData} (F__law_far : DefF K mg s__law_far "_law_far" ["web"] f__law_far fd__law_far)
    {f__law_back : Addr} {fd__law_back : FuncData} (F__law_back : DefF K mg s__law_back "_law_back" ["web", "account"] f__law_back fd__law_back)
    {f__law_way : Addr} {fd__law_way : FuncData} (F__law_way : DefF K mg s__law_way "_law_way" ["web", "account"] f__law_way fd__law_way)
    {f_law : Addr} {fd_law : FuncData} (F_law : DefF K mg s_law "law" ["script"] f_law fd_law)
    {c_is_ascending P_is_ascending : Addr} (T_is_ascending : GxR.TabB base mg c_is_ascending P_is_ascending) (I_is_ascending : P_is_ascending ∈ ts) (D_is_ascending : fd_is_ascending.code = .ref c_is_ascending)
    {c_is_number_set P_is_number_set : Addr} (T_is_number_set : GxR.TabB base mg c_is_number_set P_is_number_set) (I_is_number_set : P_is_number_set ∈ ts) (D_is_number_set : fd_is_number_set.code = .ref c_is_number_set)
    {c_is_web P_is_web : Addr} (T_is_web : GxR.TabB base mg c_is_web P_is_web) (I_is_web : P_is_web ∈ ts) (D_is_web : fd_is_web.code = .ref c_is_web) : ∀ n, AllCal P w K mg base ts (2 * n) tab (Cn n)
  | 0, id, x, ar, e => by
    match id, e with
    | 0, e => have e : some (("is_int" : Str), 1) = some (x, ar) := e; cases e; exact cal_zero F_is_int
    | 1, e => have e : some (("is_between" : Str), 3) = some (x, ar) := e; cases e; exact cal_zero F_is_between
    | 2, e => have e : some (("is_sequence" : Str), 1) = some (x, ar) := e; cases e; exact cal_zero F_is_sequence
    | 3, e => have e : some (("is_row" : Str), 2) = some (x, ar) := e; cases e; exact cal_zero F_is_row
    | 4, e => have e : some (("frozen" : Str), 1) = some (x, ar) := e; cases e; exact cal_zero F_frozen
    | 5, e => have e : some (("is_ascending" : Str), 1) = some (x, ar) := e; cases e; exact cal_zero F_is_ascending
    | 6, e => have e : some (("is_number_set" : Str), 3) = some (x, ar) := e; cases e; exact cal_zero F_is_number_set
    | 7, e => have e : some (("need" : Str), 2) = some (x, ar) := e; cases e; exact cal_zero F_need
    | 8, e => have e : some (("is_size" : Str), 1) = some (x, ar) := e; cases e; exact cal_zero F_is_size
    | 9, e => have e : some (("is_vouchings" : Str), 2) = some (x, ar) := e; cases e; exact cal_zero F_is_vouchings
    | 10, e => have e : some (("is_web" : Str), 1) = some (x, ar) := e; cases e; exact cal_zero F_is_web
    | 11, e => have e : some (("need_web" : Str), 2) = some (x, ar) := e; cases e; exact cal_zero F_need_web
    | 12, e => have e : some (("is_account" : Str), 2) = some (x, ar) := e; cases e; exact cal_zero F_is_account
    | 13, e => have e : some (("need_account" : Str), 3) = some (x, ar) := e; cases e; exact cal_zero F_need_account
    | 14, e => have e : some (("vouched_by" : Str), 2) = some (x, ar) := e; cases e; exact cal_zero F_vouched_by
    | 15, e => have e : some (("vouches_for" : Str), 2) = some (x, ar) := e; cases e; exact cal_zero F_vouches_for
    | 16, e => have e : some (("reached_of" : Str), 1) = some (x, ar) := e; cases e; exact cal_zero F_reached_of
    | 17, e => have e : some (("follow" : Str), 3) = some (x, ar) := e; cases e; exact cal_zero F_follow
    | 18, e => have e : some (("reached" : Str), 1) = some (x, ar) := e; cases e; exact cal_zero F_reached
    | 19, e => have e : some (("distances_to" : Str), 2) = some (x, ar) := e; cases e; exact cal_zero F_distances_to
    | 20, e => have e : some (("way_to" : Str), 2) = some (x, ar) := e; cases e; exact cal_zero F_way_to
    | 21, e => have e : some (("_law_power" : Str), 2) = some (x, ar) := e; cases e; exact cal_zero F__law_power
    | 22, e => have e : some (("_law_cell" : Str), 2) = some (x, ar) := e; cases e; exact cal_zero F__law_cell
    | 23, e => have e : some (("_law_numbers" : Str), 3) = some (x, ar) := e; cases e; exact cal_zero F__law_numbers
    | 24, e => have e : some (("_law_same" : Str), 2) = some (x, ar) := e; cases e; exact cal_zero F__law_same
    | 25, e => have e : some (("_law_listed" : Str), 1) = some (x, ar) := e; cases e; exact cal_zero F__law_listed
    | 26, e => have e : some (("_law_size" : Str), 1) = some (x, ar) := e; cases e; exact cal_zero F__law_size
    | 27, e => have e : some (("_law_web" : Str), 1) = some (x, ar) := e; cases e; exact cal_zero F__law_web
    | 28, e => have e : some (("_law_far" : Str), 1) = some (x, ar) := e; cases e; exact cal_zero F__law_far
    | 29, e => have e : some (("_law_back" : Str), 2) = some (x, ar) := e; cases e; exact cal_zero F__law_back
    | 30, e => have e : some (("_law_way" : Str), 2) = some (x, ar) := e; cases e; exact cal_zero F__law_way
    | 31, e => have e : some (("law" : Str), 1) = some (x, ar) := e; cases e; exact cal_zero F_law
    | m + 32, e => have e : (none : Option (Str × Nat)) = some (x, ar) := e; cases e
  | n + 1, id, x, ar, e => by
    have ih := all_cal nb gc F_is_int F_is_between F_is_sequence F_is_row F_frozen F_is_ascending F_is_number_set F_need F_is_size F_is_vouchings F_is_web F_need_web F_is_account F_need_account F_vouched_by F_vouches_for F_reached_of F_follow F_reached F_distances_to F_way_to F__law_power F__law_cell F__law_numbers F__law_same F__law_listed F__law_size F__law_web F__law_far F__law_back F__law_way F_law T_is_ascending I_is_ascending D_is_ascending T_is_number_set I_is_number_set D_is_number_set T_is_web I_is_web D_is_web n
    match id, e with
    | 0, e => have e : some (("is_int" : Str), 1) = some (x, ar) := e; cases e; exact cal_of (b := b_is_int (Cn n)) F_is_int.1 sc_is_int F_is_int.2.1 F_is_int.2.2 (fun _ _ => rfl) (fun cdv A outer s H E e hr => j_is_int nb gc ih hr)
    | 1, e => have e : some (("is_between" : Str), 3) = some (x, ar) := e; cases e; exact cal_of (b := b_is_between (Cn n)) F_is_between.1 sc_is_between F_is_between.2.1 F_is_between.2.2 (fun _ _ => rfl) (fun cdv A outer s H E e hr => j_is_between nb gc ih hr)
    | 2, e => have e : some (("is_sequence" : Str), 1) = some (x, ar) := e; cases e; exact cal_of (b := b_is_sequence (Cn n)) F_is_sequence.1 sc_is_sequence F_is_sequence.2.1 F_is_sequence.2.2 (fun _ _ => rfl) (fun cdv A outer s H E e hr => j_is_sequence nb gc ih hr)
    | 3, e => have e : some (("is_row" : Str), 2) = some (x, ar) := e; cases e; exact cal_of (b := b_is_row (Cn n)) F_is_row.1 sc_is_row F_is_row.2.1 F_is_row.2.2 (fun _ _ => rfl) (fun cdv A outer s H E e hr => j_is_row nb gc ih hr)
    | 4, e => have e : some (("frozen" : Str), 1) = some (x, ar) := e; cases e; exact cal_of (b := b_frozen (Cn n)) F_frozen.1 sc_frozen F_frozen.2.1 F_frozen.2.2 (fun _ _ => rfl) (fun cdv A outer s H E e hr => j_frozen nb gc ih hr)
    | 5, e => have e : some (("is_ascending" : Str), 1) = some (x, ar) := e; cases e; exact cal_of (b := b_is_ascending (Cn n)) F_is_ascending.1 sc_is_ascending F_is_ascending.2.1 F_is_ascending.2.2 (fun _ _ => rfl) (fun cdv A outer s H E e hr => j_is_ascending nb gc ih T_is_ascending I_is_ascending (e.symm.trans D_is_ascending) hr)
    | 6, e => have e : some (("is_number_set" : Str), 3) = some (x, ar) := e; cases e; exact cal_of (b := b_is_number_set (Cn n)) F_is_number_set.1 sc_is_number_set F_is_number_set.2.1 F_is_number_set.2.2 (fun _ _ => rfl) (fun cdv A outer s H E e hr => j_is_number_set nb gc ih T_is_number_set I_is_number_set (e.symm.trans D_is_number_set) hr)
    | 7, e => have e : some (("need" : Str), 2) = some (x, ar) := e; cases e; exact cal_of (b := b_need (Cn n)) F_need.1 sc_need F_need.2.1 F_need.2.2 (fun _ _ => rfl) (fun cdv A outer s H E e hr => j_need nb gc ih hr)
    | 8, e => have e : some (("is_size" : Str), 1) = some (x, ar) := e; cases e; exact cal_of (b := b_is_size (Cn n)) F_is_size.1 sc_is_size F_is_size.2.1 F_is_size.2.2 (fun _ _ => rfl) (fun cdv A outer s H E e hr => j_is_size nb gc ih hr)
    | 9, e => have e : some (("is_vouchings" : Str), 2) = some (x, ar) := e; cases e; exact cal_of (b := b_is_vouchings (Cn n)) F_is_vouchings.1 sc_is_vouchings F_is_vouchings.2.1 F_is_vouchings.2.2 (fun _ _ => rfl) (fun cdv A outer s H E e hr => j_is_vouchings nb gc ih hr)
    | 10, e => have e : some (("is_web" : Str), 1) = some (x, ar) := e; cases e; exact cal_of (b := b_is_web (Cn n)) F_is_web.1 sc_is_web F_is_web.2.1 F_is_web.2.2 (fun _ _ => rfl) (fun cdv A outer s H E e hr => j_is_web nb gc ih T_is_web I_is_web (e.symm.trans D_is_web) hr)
    | 11, e => have e : some (("need_web" : Str), 2) = some (x, ar) := e; cases e; exact cal_of (b := b_need_web (Cn n)) F_need_web.1 sc_need_web F_need_web.2.1 F_need_web.2.2 (fun _ _ => rfl) (fun cdv A outer s H E e hr => j_need_web nb gc ih hr)
    | 12, e => have e : some (("is_account" : Str), 2) = some (x, ar) := e; cases e; exact cal_of (b := b_is_account (Cn n)) F_is_account.1 sc_is_account F_is_account.2.1 F_is_account.2.2 (fun _ _ => rfl) (fun cdv A outer s H E e hr => j_is_account nb gc ih hr)
    | 13, e => have e : some (("need_account" : Str), 3) = some (x, ar) := e; cases e; exact cal_of (b := b_need_account (Cn n)) F_need_account.1 sc_need_account F_need_account.2.1 F_need_account.2.2 (fun _ _ => rfl) (fun cdv A outer s H E e hr => j_need_account nb gc ih hr)
    | 14, e => have e : some (("vouched_by" : Str), 2) = some (x, ar) := e; cases e; exact cal_of (b := b_vouched_by (Cn n)) F_vouched_by.1 sc_vouched_by F_vouched_by.2.1 F_vouched_by.2.2 (fun _ _ => rfl) (fun cdv A outer s H E e hr => j_vouched_by nb gc ih hr)
    | 15, e => have e : some (("vouches_for" : Str), 2) = some (x, ar) := e; cases e; exact cal_of (b := b_vouches_for (Cn n)) F_vouches_for.1 sc_vouches_for F_vouches_for.2.1 F_vouches_for.2.2 (fun _ _ => rfl) (fun cdv A outer s H E e hr => j_vouches_for nb gc ih hr)
    | 16, e => have e : some (("reached_of" : Str), 1) = some (x, ar) := e; cases e; exact cal_of (b := b_reached_of (Cn n)) F_reached_of.1 sc_reached_of F_reached_of.2.1 F_reached_of.2.2 (fun _ _ => rfl) (fun cdv A outer s H E e hr => j_reached_of nb gc ih hr)
    | 17, e => have e : some (("follow" : Str), 3) = some (x, ar) := e; cases e; exact cal_of (b := b_follow (Cn n)) F_follow.1 sc_follow F_follow.2.1 F_follow.2.2 (fun _ _ => rfl) (fun cdv A outer s H E e hr => j_follow nb gc ih hr)
    | 18, e => have e : some (("reached" : Str), 1) = some (x, ar) := e; cases e; exact cal_of (b := b_reached (Cn n)) F_reached.1 sc_reached F_reached.2.1 F_reached.2.2 (fun _ _ => rfl) (fun cdv A outer s H E e hr => j_reached nb gc ih hr)
    | 19, e => have e : some (("distances_to" : Str), 2) = some (x, ar) := e; cases e; exact cal_of (b := b_distances_to (Cn n)) F_distances_to.1 sc_distances_to F_distances_to.2.1 F_distances_to.2.2 (fun _ _ => rfl) (fun cdv A outer s H E e hr => j_distances_to nb gc ih hr)
    | 20, e => have e : some (("way_to" : Str), 2) = some (x, ar) := e; cases e; exact cal_of (b := b_way_to (Cn n)) F_way_to.1 sc_way_to F_way_to.2.1 F_way_to.2.2 (fun _ _ => rfl) (fun cdv A outer s H E e hr => j_way_to nb gc ih hr)
    | 21, e => have e : some (("_law_power" : Str), 2) = some (x, ar) := e; cases e; exact cal_of (b := b__law_power (Cn n)) F__law_power.1 sc__law_power F__law_power.2.1 F__law_power.2.2 (fun _ _ => rfl) (fun cdv A outer s H E e hr => j__law_power nb gc ih hr)
    | 22, e => have e : some (("_law_cell" : Str), 2) = some (x, ar) := e; cases e; exact cal_of (b := b__law_cell (Cn n)) F__law_cell.1 sc__law_cell F__law_cell.2.1 F__law_cell.2.2 (fun _ _ => rfl) (fun cdv A outer s H E e hr => j__law_cell nb gc ih hr)
    | 23, e => have e : some (("_law_numbers" : Str), 3) = some (x, ar) := e; cases e; exact cal_of (b := b__law_numbers (Cn n)) F__law_numbers.1 sc__law_numbers F__law_numbers.2.1 F__law_numbers.2.2 (fun _ _ => rfl) (fun cdv A outer s H E e hr => j__law_numbers nb gc ih hr)
    | 24, e => have e : some (("_law_same" : Str), 2) = some (x, ar) := e; cases e; exact cal_of (b := b__law_same (Cn n)) F__law_same.1 sc__law_same F__law_same.2.1 F__law_same.2.2 (fun _ _ => rfl) (fun cdv A outer s H E e hr => j__law_same nb gc ih hr)
    | 25, e => have e : some (("_law_listed" : Str), 1) = some (x, ar) := e; cases e; exact cal_of (b := b__law_listed (Cn n)) F__law_listed.1 sc__law_listed F__law_listed.2.1 F__law_listed.2.2 (fun _ _ => rfl) (fun cdv A outer s H E e hr => j__law_listed nb gc ih hr)
    | 26, e => have e : some (("_law_size" : Str), 1) = some (x, ar) := e; cases e; exact cal_of (b := b__law_size (Cn n)) F__law_size.1 sc__law_size F__law_size.2.1 F__law_size.2.2 (fun _ _ => rfl) (fun cdv A outer s H E e hr => j__law_size nb gc ih hr)
    | 27, e => have e : some (("_law_web" : Str), 1) = some (x, ar) := e; cases e; exact cal_of (b := b__law_web (Cn n)) F__law_web.1 sc__law_web F__law_web.2.1 F__law_web.2.2 (fun _ _ => rfl) (fun cdv A outer s H E e hr => j__law_web nb gc ih hr)
    | 28, e => have e : some (("_law_far" : Str), 1) = some (x, ar) := e; cases e; exact cal_of (b := b__law_far (Cn n)) F__law_far.1 sc__law_far F__law_far.2.1 F__law_far.2.2 (fun _ _ => rfl) (fun cdv A outer s H E e hr => j__law_far nb gc ih hr)
    | 29, e => have e : some (("_law_back" : Str), 2) = some (x, ar) := e; cases e; exact cal_of (b := b__law_back (Cn n)) F__law_back.1 sc__law_back F__law_back.2.1 F__law_back.2.2 (fun _ _ => rfl) (fun cdv A outer s H E e hr => j__law_back nb gc ih hr)
    | 30, e => have e : some (("_law_way" : Str), 2) = some (x, ar) := e; cases e; exact cal_of (b := b__law_way (Cn n)) F__law_way.1 sc__law_way F__law_way.2.1 F__law_way.2.2 (fun _ _ => rfl) (fun cdv A outer s H E e hr => j__law_way nb gc ih hr)
    | 31, e => have e : some (("law" : Str), 1) = some (x, ar) := e; cases e; exact cal_of (b := b_law (Cn n)) F_law.1 sc_law F_law.2.1 F_law.2.2 (fun _ _ => rfl) (fun cdv A outer s H E e hr => j_law nb gc ih hr)
    | m + 32, e => have e : (none : Option (Str × Nat)) = some (x, ar) := e; cases e
theorem law_fn (nb : NB mg) (gc : GC mg) {f_is_int : Addr} {fd_is_int : FuncData} (F_is_int : DefF K mg s_is_int "is_int" ["value"] f_is_int fd_is_int)
    {f_is_between : Addr} {fd_is_between : FuncData} (F_is_between : DefF K mg s_is_between "is_between" ["value", "low", "high"] f_is_between fd_is_between)
    {f_is_sequence : Addr} {fd_is_sequence : FuncData} (F_is_sequence : DefF K mg s_is_sequence "is_sequence" ["value"] f_is_sequence fd_is_sequence)
    {f_is_row : Addr} {fd_is_row : FuncData} (F_is_row : DefF K mg s_is_row "is_row" ["value", "many"] f_is_row fd_is_row)
    {f_frozen : Addr} {fd_frozen : FuncData} (F_frozen : DefF K mg s_frozen "frozen" ["value"] f_frozen fd_frozen)
    {f_is_ascending : Addr} {fd_is_ascending : FuncData} (F_is_ascending : DefF K mg s_is_ascending "is_ascending" ["values"] f_is_ascending fd_is_ascending)
    {f_is_number_set : Addr} {fd_is_number_set : FuncData} (F_is_number_set : DefF K mg s_is_number_set "is_number_set" ["value", "low", "high"] f_is_number_set fd_is_number_set)
    {f_need : Addr} {fd_need : FuncData} (F_need : DefF K mg s_need "need" ["test", "at"] f_need fd_need)
    {f_is_size : Addr} {fd_is_size : FuncData} (F_is_size : DefF K mg s_is_size "is_size" ["value"] f_is_size fd_is_size)
    {f_is_vouchings : Addr} {fd_is_vouchings : FuncData} (F_is_vouchings : DefF K mg s_is_vouchings "is_vouchings" ["value", "many"] f_is_vouchings fd_is_vouchings)
    {f_is_web : Addr} {fd_is_web : FuncData} (F_is_web : DefF K mg s_is_web "is_web" ["value"] f_is_web fd_is_web)
    {f_need_web : Addr} {fd_need_web : FuncData} (F_need_web : DefF K mg s_need_web "need_web" ["value", "at"] f_need_web fd_need_web)
    {f_is_account : Addr} {fd_is_account : FuncData} (F_is_account : DefF K mg s_is_account "is_account" ["web", "value"] f_is_account fd_is_account)
    {f_need_account : Addr} {fd_need_account : FuncData} (F_need_account : DefF K mg s_need_account "need_account" ["web", "value", "at"] f_need_account fd_need_account)
    {f_vouched_by : Addr} {fd_vouched_by : FuncData} (F_vouched_by : DefF K mg s_vouched_by "vouched_by" ["web", "account"] f_vouched_by fd_vouched_by)
    {f_vouches_for : Addr} {fd_vouches_for : FuncData} (F_vouches_for : DefF K mg s_vouches_for "vouches_for" ["web", "account"] f_vouches_for fd_vouches_for)
    {f_reached_of : Addr} {fd_reached_of : FuncData} (F_reached_of : DefF K mg s_reached_of "reached_of" ["web"] f_reached_of fd_reached_of)
    {f_follow : Addr} {fd_follow : FuncData} (F_follow : DefF K mg s_follow "follow" ["web", "account", "found"] f_follow fd_follow)
    {f_reached : Addr} {fd_reached : FuncData} (F_reached : DefF K mg s_reached "reached" ["web"] f_reached fd_reached)
    {f_distances_to : Addr} {fd_distances_to : FuncData} (F_distances_to : DefF K mg s_distances_to "distances_to" ["web", "account"] f_distances_to fd_distances_to)
    {f_way_to : Addr} {fd_way_to : FuncData} (F_way_to : DefF K mg s_way_to "way_to" ["web", "account"] f_way_to fd_way_to)
    {f__law_power : Addr} {fd__law_power : FuncData} (F__law_power : DefF K mg s__law_power "_law_power" ["base", "many"] f__law_power fd__law_power)
    {f__law_cell : Addr} {fd__law_cell : FuncData} (F__law_cell : DefF K mg s__law_cell "_law_cell" ["script", "place"] f__law_cell fd__law_cell)
    {f__law_numbers : Addr} {fd__law_numbers : FuncData} (F__law_numbers : DefF K mg s__law_numbers "_law_numbers" ["script", "place", "many"] f__law_numbers fd__law_numbers)
    {f__law_same : Addr} {fd__law_same : FuncData} (F__law_same : DefF K mg s__law_same "_law_same" ["one", "other"] f__law_same fd__law_same)
    {f__law_listed : Addr} {fd__law_listed : FuncData} (F__law_listed : DefF K mg s__law_listed "_law_listed" ["value"] f__law_listed fd__law_listed)
    {f__law_size : Addr} {fd__law_size : FuncData} (F__law_size : DefF K mg s__law_size "_law_size" ["number"] f__law_size fd__law_size)
    {f__law_web : Addr} {fd__law_web : FuncData} (F__law_web : DefF K mg s__law_web "_law_web" ["numbers"] f__law_web fd__law_web)
    {f__law_far : Addr} {fd__law_far : FuncData} (F__law_far : DefF K mg s__law_far "_law_far" ["web"] f__law_far fd__law_far)
    {f__law_back : Addr} {fd__law_back : FuncData} (F__law_back : DefF K mg s__law_back "_law_back" ["web", "account"] f__law_back fd__law_back)
    {f__law_way : Addr} {fd__law_way : FuncData} (F__law_way : DefF K mg s__law_way "_law_way" ["web", "account"] f__law_way fd__law_way)
    {f_law : Addr} {fd_law : FuncData} (F_law : DefF K mg s_law "law" ["script"] f_law fd_law)
    {c_is_ascending P_is_ascending : Addr} (T_is_ascending : GxR.TabB base mg c_is_ascending P_is_ascending) (I_is_ascending : P_is_ascending ∈ ts) (D_is_ascending : fd_is_ascending.code = .ref c_is_ascending)
    {c_is_number_set P_is_number_set : Addr} (T_is_number_set : GxR.TabB base mg c_is_number_set P_is_number_set) (I_is_number_set : P_is_number_set ∈ ts) (D_is_number_set : fd_is_number_set.code = .ref c_is_number_set)
    {c_is_web P_is_web : Addr} (T_is_web : GxR.TabB base mg c_is_web P_is_web) (I_is_web : P_is_web ∈ ts) (D_is_web : fd_is_web.code = .ref c_is_web) (n : Nat) : FnOk P w K mg base (L2.CX P w) (2 * (n + 1)) f_law fd_law ["script"] (spC K mg ts (Cn (n + 1)) 31 1) := by
  have ih := all_cal (P := P) (w := w) nb gc F_is_int F_is_between F_is_sequence F_is_row F_frozen F_is_ascending F_is_number_set F_need F_is_size F_is_vouchings F_is_web F_need_web F_is_account F_need_account F_vouched_by F_vouches_for F_reached_of F_follow F_reached F_distances_to F_way_to F__law_power F__law_cell F__law_numbers F__law_same F__law_listed F__law_size F__law_web F__law_far F__law_back F__law_way F_law T_is_ascending I_is_ascending D_is_ascending T_is_number_set I_is_number_set D_is_number_set T_is_web I_is_web D_is_web n
  exact fnk_of (b := b_law (Cn n)) F_law.1 sc_law (fun _ _ => rfl) (fun cdv A outer s H E e hr => j_law nb gc ih hr)
end
theorem fin {l : PySem.W.OpenLaw} {q : Program} {loose : List Str} {XP : (Str → Option Value) → Heap → Prop} {w : World} {s₀ : Shared} {mg mb : Str → Option Value} {fa : Addr} {h : Heap} {K : PySem.W.Frag} (KX : K.In h) (G : PySem.W.Ground q loose [] XP w s₀ mg mb h) (hmg : mg "law" = some (.ref fa)) (nl : noLists K = true)
    (plain : ∀ ns : List Int, ns.length ≤ 63 → (∀ z ∈ ns, Builtin.Int.intBits z ≤ 1048576) → Cn 21 31 [.list (ns.map .int)] [] = .ok (.bool true) [])
    {f_is_int : Addr} {oc_is_int kV_is_int dc_is_int pm_is_int cd_is_int ct_is_int : Value} {od_is_int an_is_int : Option Addr} {sl_is_int : Array (Option Value)} (a_is_int : PySem.W.nsIn K mainGlobals "is_int" = some (some (.ref f_is_int))) (l_is_int : K.lookup f_is_int = some ⟨oc_is_int, od_is_int, .func (PySem.W.fnOf "is_int" "is_int" (defArgs s_is_int) (defBody s_is_int) (defScope s_is_int) .none kV_is_int dc_is_int pm_is_int an_is_int cd_is_int ct_is_int), sl_is_int⟩) (e_is_int : PySem.W.codeIn K cd_is_int "is_int" = true) (k_is_int : PySem.W.keepIn K (.ref f_is_int) = true)
    {f_is_between : Addr} {oc_is_between kV_is_between dc_is_between pm_is_between cd_is_between ct_is_between : Value} {od_is_between an_is_between : Option Addr} {sl_is_between : Array (Option Value)} (a_is_between : PySem.W.nsIn K mainGlobals "is_between" = some (some (.ref f_is_between))) (l_is_between : K.lookup f_is_between = some ⟨oc_is_between, od_is_between, .func (PySem.W.fnOf "is_between" "is_between" (defArgs s_is_between) (defBody s_is_between) (defScope s_is_between) .none kV_is_between dc_is_between pm_is_between an_is_between cd_is_between ct_is_between), sl_is_between⟩) (e_is_between : PySem.W.codeIn K cd_is_between "is_between" = true) (k_is_between : PySem.W.keepIn K (.ref f_is_between) = true)
    {f_is_sequence : Addr} {oc_is_sequence kV_is_sequence dc_is_sequence pm_is_sequence cd_is_sequence ct_is_sequence : Value} {od_is_sequence an_is_sequence : Option Addr} {sl_is_sequence : Array (Option Value)} (a_is_sequence : PySem.W.nsIn K mainGlobals "is_sequence" = some (some (.ref f_is_sequence))) (l_is_sequence : K.lookup f_is_sequence = some ⟨oc_is_sequence, od_is_sequence, .func (PySem.W.fnOf "is_sequence" "is_sequence" (defArgs s_is_sequence) (defBody s_is_sequence) (defScope s_is_sequence) .none kV_is_sequence dc_is_sequence pm_is_sequence an_is_sequence cd_is_sequence ct_is_sequence), sl_is_sequence⟩) (e_is_sequence : PySem.W.codeIn K cd_is_sequence "is_sequence" = true) (k_is_sequence : PySem.W.keepIn K (.ref f_is_sequence) = true)
    {f_is_row : Addr} {oc_is_row kV_is_row dc_is_row pm_is_row cd_is_row ct_is_row : Value} {od_is_row an_is_row : Option Addr} {sl_is_row : Array (Option Value)} (a_is_row : PySem.W.nsIn K mainGlobals "is_row" = some (some (.ref f_is_row))) (l_is_row : K.lookup f_is_row = some ⟨oc_is_row, od_is_row, .func (PySem.W.fnOf "is_row" "is_row" (defArgs s_is_row) (defBody s_is_row) (defScope s_is_row) .none kV_is_row dc_is_row pm_is_row an_is_row cd_is_row ct_is_row), sl_is_row⟩) (e_is_row : PySem.W.codeIn K cd_is_row "is_row" = true) (k_is_row : PySem.W.keepIn K (.ref f_is_row) = true)
    {f_frozen : Addr} {oc_frozen kV_frozen dc_frozen pm_frozen cd_frozen ct_frozen : Value} {od_frozen an_frozen : Option Addr} {sl_frozen : Array (Option Value)} (a_frozen : PySem.W.nsIn K mainGlobals "frozen" = some (some (.ref f_frozen))) (l_frozen : K.lookup f_frozen = some ⟨oc_frozen, od_frozen, .func (PySem.W.fnOf "frozen" "frozen" (defArgs s_frozen) (defBody s_frozen) (defScope s_frozen) .none kV_frozen dc_frozen pm_frozen an_frozen cd_frozen ct_frozen), sl_frozen⟩) (e_frozen : PySem.W.codeIn K cd_frozen "frozen" = true) (k_frozen : PySem.W.keepIn K (.ref f_frozen) = true)
    {f_is_ascending : Addr} {oc_is_ascending kV_is_ascending dc_is_ascending pm_is_ascending cd_is_ascending ct_is_ascending : Value} {od_is_ascending an_is_ascending : Option Addr} {sl_is_ascending : Array (Option Value)} (a_is_ascending : PySem.W.nsIn K mainGlobals "is_ascending" = some (some (.ref f_is_ascending))) (l_is_ascending : K.lookup f_is_ascending = some ⟨oc_is_ascending, od_is_ascending, .func (PySem.W.fnOf "is_ascending" "is_ascending" (defArgs s_is_ascending) (defBody s_is_ascending) (defScope s_is_ascending) .none kV_is_ascending dc_is_ascending pm_is_ascending an_is_ascending cd_is_ascending ct_is_ascending), sl_is_ascending⟩) (e_is_ascending : PySem.W.codeIn K cd_is_ascending "is_ascending" = true) (k_is_ascending : PySem.W.keepIn K (.ref f_is_ascending) = true)
    {f_is_number_set : Addr} {oc_is_number_set kV_is_number_set dc_is_number_set pm_is_number_set cd_is_number_set ct_is_number_set : Value} {od_is_number_set an_is_number_set : Option Addr} {sl_is_number_set : Array (Option Value)} (a_is_number_set : PySem.W.nsIn K mainGlobals "is_number_set" = some (some (.ref f_is_number_set))) (l_is_number_set : K.lookup f_is_number_set = some ⟨oc_is_number_set, od_is_number_set, .func (PySem.W.fnOf "is_number_set" "is_number_set" (defArgs s_is_number_set) (defBody s_is_number_set) (defScope s_is_number_set) .none kV_is_number_set dc_is_number_set pm_is_number_set an_is_number_set cd_is_number_set ct_is_number_set), sl_is_number_set⟩) (e_is_number_set : PySem.W.codeIn K cd_is_number_set "is_number_set" = true) (k_is_number_set : PySem.W.keepIn K (.ref f_is_number_set) = true)
    {f_need : Addr} {oc_need kV_need dc_need pm_need cd_need ct_need : Value} {od_need an_need : Option Addr} {sl_need : Array (Option Value)} (a_need : PySem.W.nsIn K mainGlobals "need" = some (some (.ref f_need))) (l_need : K.lookup f_need = some ⟨oc_need, od_need, .func (PySem.W.fnOf "need" "need" (defArgs s_need) (defBody s_need) (defScope s_need) .none kV_need dc_need pm_need an_need cd_need ct_need), sl_need⟩) (e_need : PySem.W.codeIn K cd_need "need" = true) (k_need : PySem.W.keepIn K (.ref f_need) = true)
    {f_is_size : Addr} {oc_is_size kV_is_size dc_is_size pm_is_size cd_is_size ct_is_size : Value} {od_is_size an_is_size : Option Addr} {sl_is_size : Array (Option Value)} (a_is_size : PySem.W.nsIn K mainGlobals "is_size" = some (some (.ref f_is_size))) (l_is_size : K.lookup f_is_size = some ⟨oc_is_size, od_is_size, .func (PySem.W.fnOf "is_size" "is_size" (defArgs s_is_size) (defBody s_is_size) (defScope s_is_size) .none kV_is_size dc_is_size pm_is_size an_is_size cd_is_size ct_is_size), sl_is_size⟩) (e_is_size : PySem.W.codeIn K cd_is_size "is_size" = true) (k_is_size : PySem.W.keepIn K (.ref f_is_size) = true)
    {f_is_vouchings : Addr} {oc_is_vouchings kV_is_vouchings dc_is_vouchings pm_is_vouchings cd_is_vouchings ct_is_vouchings : Value} {od_is_vouchings an_is_vouchings : Option Addr} {sl_is_vouchings : Array (Option Value)} (a_is_vouchings : PySem.W.nsIn K mainGlobals "is_vouchings" = some (some (.ref f_is_vouchings))) (l_is_vouchings : K.lookup f_is_vouchings = some ⟨oc_is_vouchings, od_is_vouchings, .func (PySem.W.fnOf "is_vouchings" "is_vouchings" (defArgs s_is_vouchings) (defBody s_is_vouchings) (defScope s_is_vouchings) .none kV_is_vouchings dc_is_vouchings pm_is_vouchings an_is_vouchings cd_is_vouchings ct_is_vouchings), sl_is_vouchings⟩) (e_is_vouchings : PySem.W.codeIn K cd_is_vouchings "is_vouchings" = true) (k_is_vouchings : PySem.W.keepIn K (.ref f_is_vouchings) = true)
    {f_is_web : Addr} {oc_is_web kV_is_web dc_is_web pm_is_web cd_is_web ct_is_web : Value} {od_is_web an_is_web : Option Addr} {sl_is_web : Array (Option Value)} (a_is_web : PySem.W.nsIn K mainGlobals "is_web" = some (some (.ref f_is_web))) (l_is_web : K.lookup f_is_web = some ⟨oc_is_web, od_is_web, .func (PySem.W.fnOf "is_web" "is_web" (defArgs s_is_web) (defBody s_is_web) (defScope s_is_web) .none kV_is_web dc_is_web pm_is_web an_is_web cd_is_web ct_is_web), sl_is_web⟩) (e_is_web : PySem.W.codeIn K cd_is_web "is_web" = true) (k_is_web : PySem.W.keepIn K (.ref f_is_web) = true)
    {f_need_web : Addr} {oc_need_web kV_need_web dc_need_web pm_need_web cd_need_web ct_need_web : Value} {od_need_web an_need_web : Option Addr} {sl_need_web : Array (Option Value)} (a_need_web : PySem.W.nsIn K mainGlobals "need_web" = some (some (.ref f_need_web))) (l_need_web : K.lookup f_need_web = some ⟨oc_need_web, od_need_web, .func (PySem.W.fnOf "need_web" "need_web" (defArgs s_need_web) (defBody s_need_web) (defScope s_need_web) .none kV_need_web dc_need_web pm_need_web an_need_web cd_need_web ct_need_web), sl_need_web⟩) (e_need_web : PySem.W.codeIn K cd_need_web "need_web" = true) (k_need_web : PySem.W.keepIn K (.ref f_need_web) = true)
    {f_is_account : Addr} {oc_is_account kV_is_account dc_is_account pm_is_account cd_is_account ct_is_account : Value} {od_is_account an_is_account : Option Addr} {sl_is_account : Array (Option Value)} (a_is_account : PySem.W.nsIn K mainGlobals "is_account" = some (some (.ref f_is_account))) (l_is_account : K.lookup f_is_account = some ⟨oc_is_account, od_is_account, .func (PySem.W.fnOf "is_account" "is_account" (defArgs s_is_account) (defBody s_is_account) (defScope s_is_account) .none kV_is_account dc_is_account pm_is_account an_is_account cd_is_account ct_is_account), sl_is_account⟩) (e_is_account : PySem.W.codeIn K cd_is_account "is_account" = true) (k_is_account : PySem.W.keepIn K (.ref f_is_account) = true)
    {f_need_account : Addr} {oc_need_account kV_need_account dc_need_account pm_need_account cd_need_account ct_need_account : Value} {od_need_account an_need_account : Option Addr} {sl_need_account : Array (Option Value)} (a_need_account : PySem.W.nsIn K mainGlobals "need_account" = some (some (.ref f_need_account))) (l_need_account : K.lookup f_need_account = some ⟨oc_need_account, od_need_account, .func (PySem.W.fnOf "need_account" "need_account" (defArgs s_need_account) (defBody s_need_account) (defScope s_need_account) .none kV_need_account dc_need_account pm_need_account an_need_account cd_need_account ct_need_account), sl_need_account⟩) (e_need_account : PySem.W.codeIn K cd_need_account "need_account" = true) (k_need_account : PySem.W.keepIn K (.ref f_need_account) = true)
    {f_vouched_by : Addr} {oc_vouched_by kV_vouched_by dc_vouched_by pm_vouched_by cd_vouched_by ct_vouched_by : Value} {od_vouched_by an_vouched_by : Option Addr} {sl_vouched_by : Array (Option Value)} (a_vouched_by : PySem.W.nsIn K mainGlobals "vouched_by" = some (some (.ref f_vouched_by))) (l_vouched_by : K.lookup f_vouched_by = some ⟨oc_vouched_by, od_vouched_by, .func (PySem.W.fnOf "vouched_by" "vouched_by" (defArgs s_vouched_by) (defBody s_vouched_by) (defScope s_vouched_by) .none kV_vouched_by dc_vouched_by pm_vouched_by an_vouched_by cd_vouched_by ct_vouched_by), sl_vouched_by⟩) (e_vouched_by : PySem.W.codeIn K cd_vouched_by "vouched_by" = true) (k_vouched_by : PySem.W.keepIn K (.ref f_vouched_by) = true)
    {f_vouches_for : Addr} {oc_vouches_for kV_vouches_for dc_vouches_for pm_vouches_for cd_vouches_for ct_vouches_for : Value} {od_vouches_for an_vouches_for : Option Addr} {sl_vouches_for : Array (Option Value)} (a_vouches_for : PySem.W.nsIn K mainGlobals "vouches_for" = some (some (.ref f_vouches_for))) (l_vouches_for : K.lookup f_vouches_for = some ⟨oc_vouches_for, od_vouches_for, .func (PySem.W.fnOf "vouches_for" "vouches_for" (defArgs s_vouches_for) (defBody s_vouches_for) (defScope s_vouches_for) .none kV_vouches_for dc_vouches_for pm_vouches_for an_vouches_for cd_vouches_for ct_vouches_for), sl_vouches_for⟩) (e_vouches_for : PySem.W.codeIn K cd_vouches_for "vouches_for" = true) (k_vouches_for : PySem.W.keepIn K (.ref f_vouches_for) = true)
    {f_reached_of : Addr} {oc_reached_of kV_reached_of dc_reached_of pm_reached_of cd_reached_of ct_reached_of : Value} {od_reached_of an_reached_of : Option Addr} {sl_reached_of : Array (Option Value)} (a_reached_of : PySem.W.nsIn K mainGlobals "reached_of" = some (some (.ref f_reached_of))) (l_reached_of : K.lookup f_reached_of = some ⟨oc_reached_of, od_reached_of, .func (PySem.W.fnOf "reached_of" "reached_of" (defArgs s_reached_of) (defBody s_reached_of) (defScope s_reached_of) .none kV_reached_of dc_reached_of pm_reached_of an_reached_of cd_reached_of ct_reached_of), sl_reached_of⟩) (e_reached_of : PySem.W.codeIn K cd_reached_of "reached_of" = true) (k_reached_of : PySem.W.keepIn K (.ref f_reached_of) = true)
    {f_follow : Addr} {oc_follow kV_follow dc_follow pm_follow cd_follow ct_follow : Value} {od_follow an_follow : Option Addr} {sl_follow : Array (Option Value)} (a_follow : PySem.W.nsIn K mainGlobals "follow" = some (some (.ref f_follow))) (l_follow : K.lookup f_follow = some ⟨oc_follow, od_follow, .func (PySem.W.fnOf "follow" "follow" (defArgs s_follow) (defBody s_follow) (defScope s_follow) .none kV_follow dc_follow pm_follow an_follow cd_follow ct_follow), sl_follow⟩) (e_follow : PySem.W.codeIn K cd_follow "follow" = true) (k_follow : PySem.W.keepIn K (.ref f_follow) = true)
    {f_reached : Addr} {oc_reached kV_reached dc_reached pm_reached cd_reached ct_reached : Value} {od_reached an_reached : Option Addr} {sl_reached : Array (Option Value)} (a_reached : PySem.W.nsIn K mainGlobals "reached" = some (some (.ref f_reached))) (l_reached : K.lookup f_reached = some ⟨oc_reached, od_reached, .func (PySem.W.fnOf "reached" "reached" (defArgs s_reached) (defBody s_reached) (defScope s_reached) .none kV_reached dc_reached pm_reached an_reached cd_reached ct_reached), sl_reached⟩) (e_reached : PySem.W.codeIn K cd_reached "reached" = true) (k_reached : PySem.W.keepIn K (.ref f_reached) = true)
    {f_distances_to : Addr} {oc_distances_to kV_distances_to dc_distances_to pm_distances_to cd_distances_to ct_distances_to : Value} {od_distances_to an_distances_to : Option Addr} {sl_distances_to : Array (Option Value)} (a_distances_to : PySem.W.nsIn K mainGlobals "distances_to" = some (some (.ref f_distances_to))) (l_distances_to : K.lookup f_distances_to = some ⟨oc_distances_to, od_distances_to, .func (PySem.W.fnOf "distances_to" "distances_to" (defArgs s_distances_to) (defBody s_distances_to) (defScope s_distances_to) .none kV_distances_to dc_distances_to pm_distances_to an_distances_to cd_distances_to ct_distances_to), sl_distances_to⟩) (e_distances_to : PySem.W.codeIn K cd_distances_to "distances_to" = true) (k_distances_to : PySem.W.keepIn K (.ref f_distances_to) = true)
    {f_way_to : Addr} {oc_way_to kV_way_to dc_way_to pm_way_to cd_way_to ct_way_to : Value} {od_way_to an_way_to : Option Addr} {sl_way_to : Array (Option Value)} (a_way_to : PySem.W.nsIn K mainGlobals "way_to" = some (some (.ref f_way_to))) (l_way_to : K.lookup f_way_to = some ⟨oc_way_to, od_way_to, .func (PySem.W.fnOf "way_to" "way_to" (defArgs s_way_to) (defBody s_way_to) (defScope s_way_to) .none kV_way_to dc_way_to pm_way_to an_way_to cd_way_to ct_way_to), sl_way_to⟩) (e_way_to : PySem.W.codeIn K cd_way_to "way_to" = true) (k_way_to : PySem.W.keepIn K (.ref f_way_to) = true)
    {f__law_power : Addr} {oc__law_power kV__law_power dc__law_power pm__law_power cd__law_power ct__law_power : Value} {od__law_power an__law_power : Option Addr} {sl__law_power : Array (Option Value)} (a__law_power : PySem.W.nsIn K mainGlobals "_law_power" = some (some (.ref f__law_power))) (l__law_power : K.lookup f__law_power = some ⟨oc__law_power, od__law_power, .func (PySem.W.fnOf "_law_power" "_law_power" (defArgs s__law_power) (defBody s__law_power) (defScope s__law_power) .none kV__law_power dc__law_power pm__law_power an__law_power cd__law_power ct__law_power), sl__law_power⟩) (e__law_power : PySem.W.codeIn K cd__law_power "_law_power" = true) (k__law_power : PySem.W.keepIn K (.ref f__law_power) = true)
    {f__law_cell : Addr} {oc__law_cell kV__law_cell dc__law_cell pm__law_cell cd__law_cell ct__law_cell : Value} {od__law_cell an__law_cell : Option Addr} {sl__law_cell : Array (Option Value)} (a__law_cell : PySem.W.nsIn K mainGlobals "_law_cell" = some (some (.ref f__law_cell))) (l__law_cell : K.lookup f__law_cell = some ⟨oc__law_cell, od__law_cell, .func (PySem.W.fnOf "_law_cell" "_law_cell" (defArgs s__law_cell) (defBody s__law_cell) (defScope s__law_cell) .none kV__law_cell dc__law_cell pm__law_cell an__law_cell cd__law_cell ct__law_cell), sl__law_cell⟩) (e__law_cell : PySem.W.codeIn K cd__law_cell "_law_cell" = true) (k__law_cell : PySem.W.keepIn K (.ref f__law_cell) = true)
    {f__law_numbers : Addr} {oc__law_numbers kV__law_numbers dc__law_numbers pm__law_numbers cd__law_numbers ct__law_numbers : Value} {od__law_numbers an__law_numbers : Option Addr} {sl__law_numbers : Array (Option Value)} (a__law_numbers : PySem.W.nsIn K mainGlobals "_law_numbers" = some (some (.ref f__law_numbers))) (l__law_numbers : K.lookup f__law_numbers = some ⟨oc__law_numbers, od__law_numbers, .func (PySem.W.fnOf "_law_numbers" "_law_numbers" (defArgs s__law_numbers) (defBody s__law_numbers) (defScope s__law_numbers) .none kV__law_numbers dc__law_numbers pm__law_numbers an__law_numbers cd__law_numbers ct__law_numbers), sl__law_numbers⟩) (e__law_numbers : PySem.W.codeIn K cd__law_numbers "_law_numbers" = true) (k__law_numbers : PySem.W.keepIn K (.ref f__law_numbers) = true)
    {f__law_same : Addr} {oc__law_same kV__law_same dc__law_same pm__law_same cd__law_same ct__law_same : Value} {od__law_same an__law_same : Option Addr} {sl__law_same : Array (Option Value)} (a__law_same : PySem.W.nsIn K mainGlobals "_law_same" = some (some (.ref f__law_same))) (l__law_same : K.lookup f__law_same = some ⟨oc__law_same, od__law_same, .func (PySem.W.fnOf "_law_same" "_law_same" (defArgs s__law_same) (defBody s__law_same) (defScope s__law_same) .none kV__law_same dc__law_same pm__law_same an__law_same cd__law_same ct__law_same), sl__law_same⟩) (e__law_same : PySem.W.codeIn K cd__law_same "_law_same" = true) (k__law_same : PySem.W.keepIn K (.ref f__law_same) = true)
    {f__law_listed : Addr} {oc__law_listed kV__law_listed dc__law_listed pm__law_listed cd__law_listed ct__law_listed : Value} {od__law_listed an__law_listed : Option Addr} {sl__law_listed : Array (Option Value)} (a__law_listed : PySem.W.nsIn K mainGlobals "_law_listed" = some (some (.ref f__law_listed))) (l__law_listed : K.lookup f__law_listed = some ⟨oc__law_listed, od__law_listed, .func (PySem.W.fnOf "_law_listed" "_law_listed" (defArgs s__law_listed) (defBody s__law_listed) (defScope s__law_listed) .none kV__law_listed dc__law_listed pm__law_listed an__law_listed cd__law_listed ct__law_listed), sl__law_listed⟩) (e__law_listed : PySem.W.codeIn K cd__law_listed "_law_listed" = true) (k__law_listed : PySem.W.keepIn K (.ref f__law_listed) = true)
    {f__law_size : Addr} {oc__law_size kV__law_size dc__law_size pm__law_size cd__law_size ct__law_size : Value} {od__law_size an__law_size : Option Addr} {sl__law_size : Array (Option Value)} (a__law_size : PySem.W.nsIn K mainGlobals "_law_size" = some (some (.ref f__law_size))) (l__law_size : K.lookup f__law_size = some ⟨oc__law_size, od__law_size, .func (PySem.W.fnOf "_law_size" "_law_size" (defArgs s__law_size) (defBody s__law_size) (defScope s__law_size) .none kV__law_size dc__law_size pm__law_size an__law_size cd__law_size ct__law_size), sl__law_size⟩) (e__law_size : PySem.W.codeIn K cd__law_size "_law_size" = true) (k__law_size : PySem.W.keepIn K (.ref f__law_size) = true)
    {f__law_web : Addr} {oc__law_web kV__law_web dc__law_web pm__law_web cd__law_web ct__law_web : Value} {od__law_web an__law_web : Option Addr} {sl__law_web : Array (Option Value)} (a__law_web : PySem.W.nsIn K mainGlobals "_law_web" = some (some (.ref f__law_web))) (l__law_web : K.lookup f__law_web = some ⟨oc__law_web, od__law_web, .func (PySem.W.fnOf "_law_web" "_law_web" (defArgs s__law_web) (defBody s__law_web) (defScope s__law_web) .none kV__law_web dc__law_web pm__law_web an__law_web cd__law_web ct__law_web), sl__law_web⟩) (e__law_web : PySem.W.codeIn K cd__law_web "_law_web" = true) (k__law_web : PySem.W.keepIn K (.ref f__law_web) = true)
    {f__law_far : Addr} {oc__law_far kV__law_far dc__law_far pm__law_far cd__law_far ct__law_far : Value} {od__law_far an__law_far : Option Addr} {sl__law_far : Array (Option Value)} (a__law_far : PySem.W.nsIn K mainGlobals "_law_far" = some (some (.ref f__law_far))) (l__law_far : K.lookup f__law_far = some ⟨oc__law_far, od__law_far, .func (PySem.W.fnOf "_law_far" "_law_far" (defArgs s__law_far) (defBody s__law_far) (defScope s__law_far) .none kV__law_far dc__law_far pm__law_far an__law_far cd__law_far ct__law_far), sl__law_far⟩) (e__law_far : PySem.W.codeIn K cd__law_far "_law_far" = true) (k__law_far : PySem.W.keepIn K (.ref f__law_far) = true)
    {f__law_back : Addr} {oc__law_back kV__law_back dc__law_back pm__law_back cd__law_back ct__law_back : Value} {od__law_back an__law_back : Option Addr} {sl__law_back : Array (Option Value)} (a__law_back : PySem.W.nsIn K mainGlobals "_law_back" = some (some (.ref f__law_back))) (l__law_back : K.lookup f__law_back = some ⟨oc__law_back, od__law_back, .func (PySem.W.fnOf "_law_back" "_law_back" (defArgs s__law_back) (defBody s__law_back) (defScope s__law_back) .none kV__law_back dc__law_back pm__law_back an__law_back cd__law_back ct__law_back), sl__law_back⟩) (e__law_back : PySem.W.codeIn K cd__law_back "_law_back" = true) (k__law_back : PySem.W.keepIn K (.ref f__law_back) = true)
    {f__law_way : Addr} {oc__law_way kV__law_way dc__law_way pm__law_way cd__law_way ct__law_way : Value} {od__law_way an__law_way : Option Addr} {sl__law_way : Array (Option Value)} (a__law_way : PySem.W.nsIn K mainGlobals "_law_way" = some (some (.ref f__law_way))) (l__law_way : K.lookup f__law_way = some ⟨oc__law_way, od__law_way, .func (PySem.W.fnOf "_law_way" "_law_way" (defArgs s__law_way) (defBody s__law_way) (defScope s__law_way) .none kV__law_way dc__law_way pm__law_way an__law_way cd__law_way ct__law_way), sl__law_way⟩) (e__law_way : PySem.W.codeIn K cd__law_way "_law_way" = true) (k__law_way : PySem.W.keepIn K (.ref f__law_way) = true)
    {f_law : Addr} {oc_law kV_law dc_law pm_law cd_law ct_law : Value} {od_law an_law : Option Addr} {sl_law : Array (Option Value)} (a_law : PySem.W.nsIn K mainGlobals "law" = some (some (.ref f_law))) (l_law : K.lookup f_law = some ⟨oc_law, od_law, .func (PySem.W.fnOf "law" "law" (defArgs s_law) (defBody s_law) (defScope s_law) .none kV_law dc_law pm_law an_law cd_law ct_law), sl_law⟩) (e_law : PySem.W.codeIn K cd_law "law" = true) (k_law : PySem.W.keepIn K (.ref f_law) = true)
    {c_is_ascending P_is_ascending : Addr} {d_is_ascending : DefRec} (t_is_ascending : PySem.W.tabIn K "is_ascending" = some (c_is_ascending, P_is_ascending)) (n_is_ascending : K.lookup P_is_ascending = none) (r_is_ascending : (recsOf q).find? (fun e => e.name == ("is_ascending" : Str)) = some d_is_ascending)
    {c_is_number_set P_is_number_set : Addr} {d_is_number_set : DefRec} (t_is_number_set : PySem.W.tabIn K "is_number_set" = some (c_is_number_set, P_is_number_set)) (n_is_number_set : K.lookup P_is_number_set = none) (r_is_number_set : (recsOf q).find? (fun e => e.name == ("is_number_set" : Str)) = some d_is_number_set)
    {c_is_web P_is_web : Addr} {d_is_web : DefRec} (t_is_web : PySem.W.tabIn K "is_web" = some (c_is_web, P_is_web)) (n_is_web : K.lookup P_is_web = none) (r_is_web : (recsOf q).find? (fun e => e.name == ("is_web" : Str)) = some d_is_web)
    (z_all : PySem.W.nsIn K mainGlobals "all" = some none)
    (z_bool : PySem.W.nsIn K mainGlobals "bool" = some none)
    (z_enumerate : PySem.W.nsIn K mainGlobals "enumerate" = some none)
    (z_int : PySem.W.nsIn K mainGlobals "int" = some none)
    (z_isinstance : PySem.W.nsIn K mainGlobals "isinstance" = some none)
    (z_len : PySem.W.nsIn K mainGlobals "len" = some none)
    (z_list : PySem.W.nsIn K mainGlobals "list" = some none)
    (z_min : PySem.W.nsIn K mainGlobals "min" = some none)
    (z_range : PySem.W.nsIn K mainGlobals "range" = some none)
    (z_sorted : PySem.W.nsIn K mainGlobals "sorted" = some none)
    (z_str : PySem.W.nsIn K mainGlobals "str" = some none)
    (z_tuple : PySem.W.nsIn K mainGlobals "tuple" = some none)
    {y_MOST_ACCOUNTS : Tok} (g_MOST_ACCOUNTS : PySem.W.nsIn K mainGlobals "MOST_ACCOUNTS" = some (some (.int (14) y_MOST_ACCOUNTS)))
    {y_MOST_FOUNDERS : Tok} (g_MOST_FOUNDERS : PySem.W.nsIn K mainGlobals "MOST_FOUNDERS" = some (some (.int (3) y_MOST_FOUNDERS)))
    {y_MOST_VOUCHINGS : Tok} (g_MOST_VOUCHINGS : PySem.W.nsIn K mainGlobals "MOST_VOUCHINGS" = some (some (.int (60) y_MOST_VOUCHINGS)))
    {y_WIDEST : Tok} (g_WIDEST : PySem.W.nsIn K mainGlobals "WIDEST" = some (some (.int (1000) y_WIDEST))) :
    LamX.LawAtS l w K (L2.CX l.prog w) 42 63 "script" mg fa h := by
  have F_is_int := def_fact (st := s_is_int) (ps := ["value"]) KX G.T.g a_is_int l_is_int e_is_int k_is_int (fun _ _ _ _ _ _ us hl => match us, hl with | [_], _ => rfl)
  have F_is_between := def_fact (st := s_is_between) (ps := ["value", "low", "high"]) KX G.T.g a_is_between l_is_between e_is_between k_is_between (fun _ _ _ _ _ _ us hl => match us, hl with | [_, _, _], _ => rfl)
  have F_is_sequence := def_fact (st := s_is_sequence) (ps := ["value"]) KX G.T.g a_is_sequence l_is_sequence e_is_sequence k_is_sequence (fun _ _ _ _ _ _ us hl => match us, hl with | [_], _ => rfl)
  have F_is_row := def_fact (st := s_is_row) (ps := ["value", "many"]) KX G.T.g a_is_row l_is_row e_is_row k_is_row (fun _ _ _ _ _ _ us hl => match us, hl with | [_, _], _ => rfl)
  have F_frozen := def_fact (st := s_frozen) (ps := ["value"]) KX G.T.g a_frozen l_frozen e_frozen k_frozen (fun _ _ _ _ _ _ us hl => match us, hl with | [_], _ => rfl)
  have F_is_ascending := def_fact (st := s_is_ascending) (ps := ["values"]) KX G.T.g a_is_ascending l_is_ascending e_is_ascending k_is_ascending (fun _ _ _ _ _ _ us hl => match us, hl with | [_], _ => rfl)
  have F_is_number_set := def_fact (st := s_is_number_set) (ps := ["value", "low", "high"]) KX G.T.g a_is_number_set l_is_number_set e_is_number_set k_is_number_set (fun _ _ _ _ _ _ us hl => match us, hl with | [_, _, _], _ => rfl)
  have F_need := def_fact (st := s_need) (ps := ["test", "at"]) KX G.T.g a_need l_need e_need k_need (fun _ _ _ _ _ _ us hl => match us, hl with | [_, _], _ => rfl)
  have F_is_size := def_fact (st := s_is_size) (ps := ["value"]) KX G.T.g a_is_size l_is_size e_is_size k_is_size (fun _ _ _ _ _ _ us hl => match us, hl with | [_], _ => rfl)
  have F_is_vouchings := def_fact (st := s_is_vouchings) (ps := ["value", "many"]) KX G.T.g a_is_vouchings l_is_vouchings e_is_vouchings k_is_vouchings (fun _ _ _ _ _ _ us hl => match us, hl with | [_, _], _ => rfl)
  have F_is_web := def_fact (st := s_is_web) (ps := ["value"]) KX G.T.g a_is_web l_is_web e_is_web k_is_web (fun _ _ _ _ _ _ us hl => match us, hl with | [_], _ => rfl)
  have F_need_web := def_fact (st := s_need_web) (ps := ["value", "at"]) KX G.T.g a_need_web l_need_web e_need_web k_need_web (fun _ _ _ _ _ _ us hl => match us, hl with | [_, _], _ => rfl)
  have F_is_account := def_fact (st := s_is_account) (ps := ["web", "value"]) KX G.T.g a_is_account l_is_account e_is_account k_is_account (fun _ _ _ _ _ _ us hl => match us, hl with | [_, _], _ => rfl)
  have F_need_account := def_fact (st := s_need_account) (ps := ["web", "value", "at"]) KX G.T.g a_need_account l_need_account e_need_account k_need_account (fun _ _ _ _ _ _ us hl => match us, hl with | [_, _, _], _ => rfl)
  have F_vouched_by := def_fact (st := s_vouched_by) (ps := ["web", "account"]) KX G.T.g a_vouched_by l_vouched_by e_vouched_by k_vouched_by (fun _ _ _ _ _ _ us hl => match us, hl with | [_, _], _ => rfl)
  have F_vouches_for := def_fact (st := s_vouches_for) (ps := ["web", "account"]) KX G.T.g a_vouches_for l_vouches_for e_vouches_for k_vouches_for (fun _ _ _ _ _ _ us hl => match us, hl with | [_, _], _ => rfl)
  have F_reached_of := def_fact (st := s_reached_of) (ps := ["web"]) KX G.T.g a_reached_of l_reached_of e_reached_of k_reached_of (fun _ _ _ _ _ _ us hl => match us, hl with | [_], _ => rfl)
  have F_follow := def_fact (st := s_follow) (ps := ["web", "account", "found"]) KX G.T.g a_follow l_follow e_follow k_follow (fun _ _ _ _ _ _ us hl => match us, hl with | [_, _, _], _ => rfl)
  have F_reached := def_fact (st := s_reached) (ps := ["web"]) KX G.T.g a_reached l_reached e_reached k_reached (fun _ _ _ _ _ _ us hl => match us, hl with | [_], _ => rfl)
  have F_distances_to := def_fact (st := s_distances_to) (ps := ["web", "account"]) KX G.T.g a_distances_to l_distances_to e_distances_to k_distances_to (fun _ _ _ _ _ _ us hl => match us, hl with | [_, _], _ => rfl)
  have F_way_to := def_fact (st := s_way_to) (ps := ["web", "account"]) KX G.T.g a_way_to l_way_to e_way_to k_way_to (fun _ _ _ _ _ _ us hl => match us, hl with | [_, _], _ => rfl)
  have F__law_power := def_fact (st := s__law_power) (ps := ["base", "many"]) KX G.T.g a__law_power l__law_power e__law_power k__law_power (fun _ _ _ _ _ _ us hl => match us, hl with | [_, _], _ => rfl)
  have F__law_cell := def_fact (st := s__law_cell) (ps := ["script", "place"]) KX G.T.g a__law_cell l__law_cell e__law_cell k__law_cell (fun _ _ _ _ _ _ us hl => match us, hl with | [_, _], _ => rfl)
  have F__law_numbers := def_fact (st := s__law_numbers) (ps := ["script", "place", "many"]) KX G.T.g a__law_numbers l__law_numbers e__law_numbers k__law_numbers (fun _ _ _ _ _ _ us hl => match us, hl with | [_, _, _], _ => rfl)
  have F__law_same := def_fact (st := s__law_same) (ps := ["one", "other"]) KX G.T.g a__law_same l__law_same e__law_same k__law_same (fun _ _ _ _ _ _ us hl => match us, hl with | [_, _], _ => rfl)
  have F__law_listed := def_fact (st := s__law_listed) (ps := ["value"]) KX G.T.g a__law_listed l__law_listed e__law_listed k__law_listed (fun _ _ _ _ _ _ us hl => match us, hl with | [_], _ => rfl)
  have F__law_size := def_fact (st := s__law_size) (ps := ["number"]) KX G.T.g a__law_size l__law_size e__law_size k__law_size (fun _ _ _ _ _ _ us hl => match us, hl with | [_], _ => rfl)
  have F__law_web := def_fact (st := s__law_web) (ps := ["numbers"]) KX G.T.g a__law_web l__law_web e__law_web k__law_web (fun _ _ _ _ _ _ us hl => match us, hl with | [_], _ => rfl)
  have F__law_far := def_fact (st := s__law_far) (ps := ["web"]) KX G.T.g a__law_far l__law_far e__law_far k__law_far (fun _ _ _ _ _ _ us hl => match us, hl with | [_], _ => rfl)
  have F__law_back := def_fact (st := s__law_back) (ps := ["web", "account"]) KX G.T.g a__law_back l__law_back e__law_back k__law_back (fun _ _ _ _ _ _ us hl => match us, hl with | [_, _], _ => rfl)
  have F__law_way := def_fact (st := s__law_way) (ps := ["web", "account"]) KX G.T.g a__law_way l__law_way e__law_way k__law_way (fun _ _ _ _ _ _ us hl => match us, hl with | [_, _], _ => rfl)
  have F_law := def_fact (st := s_law) (ps := ["script"]) KX G.T.g a_law l_law e_law k_law (fun _ _ _ _ _ _ us hl => match us, hl with | [_], _ => rfl)
  have e := hmg.symm.trans (PySem.W.mg_of KX G.T.g a_law)
  cases e
  have nb : NB mg := ⟨PySem.W.mg_none_of KX G.T.g z_all, PySem.W.mg_none_of KX G.T.g z_bool, PySem.W.mg_none_of KX G.T.g z_enumerate, PySem.W.mg_none_of KX G.T.g z_int, PySem.W.mg_none_of KX G.T.g z_isinstance, PySem.W.mg_none_of KX G.T.g z_len, PySem.W.mg_none_of KX G.T.g z_list, PySem.W.mg_none_of KX G.T.g z_min, PySem.W.mg_none_of KX G.T.g z_range, PySem.W.mg_none_of KX G.T.g z_sorted, PySem.W.mg_none_of KX G.T.g z_str, PySem.W.mg_none_of KX G.T.g z_tuple⟩
  have gc : GC mg := ⟨⟨_, PySem.W.mg_of KX G.T.g g_MOST_ACCOUNTS⟩, ⟨_, PySem.W.mg_of KX G.T.g g_MOST_FOUNDERS⟩, ⟨_, PySem.W.mg_of KX G.T.g g_MOST_VOUCHINGS⟩, ⟨_, PySem.W.mg_of KX G.T.g g_WIDEST⟩⟩
  have H_is_ascending := PySem.W.tab_of G.T KX r_is_ascending t_is_ascending
  have D_is_ascending := PySem.W.law_code KX G.T.g t_is_ascending F_is_ascending.2.1 (KX _ _ l_is_ascending) rfl
  have H_is_number_set := PySem.W.tab_of G.T KX r_is_number_set t_is_number_set
  have D_is_number_set := PySem.W.law_code KX G.T.g t_is_number_set F_is_number_set.2.1 (KX _ _ l_is_number_set) rfl
  have H_is_web := PySem.W.tab_of G.T KX r_is_web t_is_web
  have D_is_web := PySem.W.law_code KX G.T.g t_is_web F_is_web.2.1 (KX _ _ l_is_web) rfl
  refine law_at (C := Cn 21) (id := 31) (fd := PySem.W.fnOf "law" "law" (defArgs s_law) (defBody s_law) (defScope s_law) .none kV_law dc_law pm_law an_law cd_law ct_law) [(c_is_ascending, P_is_ascending), (c_is_number_set, P_is_number_set), (c_is_web, P_is_web)] nl (fun p hp => ?_) (fun p hp => ?_) (fun s u => .of_eq rfl) (fun base _ _ TB => ?_) plain
  · simp only [List.mem_cons, List.not_mem_nil, or_false] at hp
    rcases hp with rfl | rfl | rfl
    · exact H_is_ascending
    · exact H_is_number_set
    · exact H_is_web
  · simp only [List.mem_cons, List.not_mem_nil, or_false] at hp
    rcases hp with rfl | rfl | rfl
    · exact n_is_ascending
    · exact n_is_number_set
    · exact n_is_web
  · have tb : ∀ {c P : Addr}, (c, P) ∈ [(c_is_ascending, P_is_ascending), (c_is_number_set, P_is_number_set), (c_is_web, P_is_web)] → GxR.TabB base mg c P := fun hp => ⟨(TB _ hp).code, (TB _ hp).bm, (TB _ hp).gP⟩
    exact law_fn nb gc F_is_int F_is_between F_is_sequence F_is_row F_frozen F_is_ascending F_is_number_set F_need F_is_size F_is_vouchings F_is_web F_need_web F_is_account F_need_account F_vouched_by F_vouches_for F_reached_of F_follow F_reached F_distances_to F_way_to F__law_power F__law_cell F__law_numbers F__law_same F__law_listed F__law_size F__law_web F__law_far F__law_back F__law_way F_law (tb (c := c_is_ascending) (P := P_is_ascending) (by simp)) (by simp) D_is_ascending (tb (c := c_is_number_set) (P := P_is_number_set) (by simp)) (by simp) D_is_number_set (tb (c := c_is_web) (P := P_is_web) (by simp)) (by simp) D_is_web 20
end K03

open PySem PySem.W PyProof.Rows
set_option maxHeartbeats 0 in
theorem PySem.Challenge.cw_standsdespite_k03_ways_and_who_vouches_holds : PySem.Challenge.rw_standsdespite_k03_ways_and_who_vouches.Holds := by
  w_on; o_law; k_head; (case hw => w_witness2)
  k_fill
  refine Cor.walk_all (l := PySem.Challenge.rw_standsdespite_k03_ways_and_who_vouches) (n := 63) (k := 42) (x := "script") rfl (by decide) rfl ⟨rfl, by decide, by decide⟩ (fun w h Y => PySem.W.kIn_of Y) ?F
  case F =>
    intro w s₀ mg mb fa h KX G hmg
    refine' K03.fin KX G hmg ?nl K03.plain ?a_is_int ?l_is_int ?e_is_int ?k_is_int ?a_is_between ?l_is_between ?e_is_between ?k_is_between ?a_is_sequence ?l_is_sequence ?e_is_sequence ?k_is_sequence ?a_is_row ?l_is_row ?e_is_row ?k_is_row ?a_frozen ?l_frozen ?e_frozen ?k_frozen ?a_is_ascending ?l_is_ascending ?e_is_ascending ?k_is_ascending ?a_is_number_set ?l_is_number_set ?e_is_number_set ?k_is_number_set ?a_need ?l_need ?e_need ?k_need ?a_is_size ?l_is_size ?e_is_size ?k_is_size ?a_is_vouchings ?l_is_vouchings ?e_is_vouchings ?k_is_vouchings ?a_is_web ?l_is_web ?e_is_web ?k_is_web ?a_need_web ?l_need_web ?e_need_web ?k_need_web ?a_is_account ?l_is_account ?e_is_account ?k_is_account ?a_need_account ?l_need_account ?e_need_account ?k_need_account ?a_vouched_by ?l_vouched_by ?e_vouched_by ?k_vouched_by ?a_vouches_for ?l_vouches_for ?e_vouches_for ?k_vouches_for ?a_reached_of ?l_reached_of ?e_reached_of ?k_reached_of ?a_follow ?l_follow ?e_follow ?k_follow ?a_reached ?l_reached ?e_reached ?k_reached ?a_distances_to ?l_distances_to ?e_distances_to ?k_distances_to ?a_way_to ?l_way_to ?e_way_to ?k_way_to ?a__law_power ?l__law_power ?e__law_power ?k__law_power ?a__law_cell ?l__law_cell ?e__law_cell ?k__law_cell ?a__law_numbers ?l__law_numbers ?e__law_numbers ?k__law_numbers ?a__law_same ?l__law_same ?e__law_same ?k__law_same ?a__law_listed ?l__law_listed ?e__law_listed ?k__law_listed ?a__law_size ?l__law_size ?e__law_size ?k__law_size ?a__law_web ?l__law_web ?e__law_web ?k__law_web ?a__law_far ?l__law_far ?e__law_far ?k__law_far ?a__law_back ?l__law_back ?e__law_back ?k__law_back ?a__law_way ?l__law_way ?e__law_way ?k__law_way ?a_law ?l_law ?e_law ?k_law ?t_is_ascending ?n_is_ascending ?r_is_ascending ?t_is_number_set ?n_is_number_set ?r_is_number_set ?t_is_web ?n_is_web ?r_is_web ?z_all ?z_bool ?z_enumerate ?z_int ?z_isinstance ?z_len ?z_list ?z_min ?z_range ?z_sorted ?z_str ?z_tuple ?g_MOST_ACCOUNTS ?g_MOST_FOUNDERS ?g_MOST_VOUCHINGS ?g_WIDEST
    (case nl => first | exact rfl | k_is)
    (case a_is_int => k_is)
    (case l_is_int => k_is)
    (case e_is_int => k_is)
    (case k_is_int => k_is)
    (case a_is_between => k_is)
    (case l_is_between => k_is)
    (case e_is_between => k_is)
    (case k_is_between => k_is)
    (case a_is_sequence => k_is)
    (case l_is_sequence => k_is)
    (case e_is_sequence => k_is)
    (case k_is_sequence => k_is)
    (case a_is_row => k_is)
    (case l_is_row => k_is)
    (case e_is_row => k_is)
    (case k_is_row => k_is)
    (case a_frozen => k_is)
    (case l_frozen => k_is)
    (case e_frozen => k_is)
    (case k_frozen => k_is)
    (case a_is_ascending => k_is)
    (case l_is_ascending => k_is)
    (case e_is_ascending => k_is)
    (case k_is_ascending => k_is)
    (case a_is_number_set => k_is)
    (case l_is_number_set => k_is)
    (case e_is_number_set => k_is)
    (case k_is_number_set => k_is)
    (case a_need => k_is)
    (case l_need => k_is)
    (case e_need => k_is)
    (case k_need => k_is)
    (case a_is_size => k_is)
    (case l_is_size => k_is)
    (case e_is_size => k_is)
    (case k_is_size => k_is)
    (case a_is_vouchings => k_is)
    (case l_is_vouchings => k_is)
    (case e_is_vouchings => k_is)
    (case k_is_vouchings => k_is)
    (case a_is_web => k_is)
    (case l_is_web => k_is)
    (case e_is_web => k_is)
    (case k_is_web => k_is)
    (case a_need_web => k_is)
    (case l_need_web => k_is)
    (case e_need_web => k_is)
    (case k_need_web => k_is)
    (case a_is_account => k_is)
    (case l_is_account => k_is)
    (case e_is_account => k_is)
    (case k_is_account => k_is)
    (case a_need_account => k_is)
    (case l_need_account => k_is)
    (case e_need_account => k_is)
    (case k_need_account => k_is)
    (case a_vouched_by => k_is)
    (case l_vouched_by => k_is)
    (case e_vouched_by => k_is)
    (case k_vouched_by => k_is)
    (case a_vouches_for => k_is)
    (case l_vouches_for => k_is)
    (case e_vouches_for => k_is)
    (case k_vouches_for => k_is)
    (case a_reached_of => k_is)
    (case l_reached_of => k_is)
    (case e_reached_of => k_is)
    (case k_reached_of => k_is)
    (case a_follow => k_is)
    (case l_follow => k_is)
    (case e_follow => k_is)
    (case k_follow => k_is)
    (case a_reached => k_is)
    (case l_reached => k_is)
    (case e_reached => k_is)
    (case k_reached => k_is)
    (case a_distances_to => k_is)
    (case l_distances_to => k_is)
    (case e_distances_to => k_is)
    (case k_distances_to => k_is)
    (case a_way_to => k_is)
    (case l_way_to => k_is)
    (case e_way_to => k_is)
    (case k_way_to => k_is)
    (case a__law_power => k_is)
    (case l__law_power => k_is)
    (case e__law_power => k_is)
    (case k__law_power => k_is)
    (case a__law_cell => k_is)
    (case l__law_cell => k_is)
    (case e__law_cell => k_is)
    (case k__law_cell => k_is)
    (case a__law_numbers => k_is)
    (case l__law_numbers => k_is)
    (case e__law_numbers => k_is)
    (case k__law_numbers => k_is)
    (case a__law_same => k_is)
    (case l__law_same => k_is)
    (case e__law_same => k_is)
    (case k__law_same => k_is)
    (case a__law_listed => k_is)
    (case l__law_listed => k_is)
    (case e__law_listed => k_is)
    (case k__law_listed => k_is)
    (case a__law_size => k_is)
    (case l__law_size => k_is)
    (case e__law_size => k_is)
    (case k__law_size => k_is)
    (case a__law_web => k_is)
    (case l__law_web => k_is)
    (case e__law_web => k_is)
    (case k__law_web => k_is)
    (case a__law_far => k_is)
    (case l__law_far => k_is)
    (case e__law_far => k_is)
    (case k__law_far => k_is)
    (case a__law_back => k_is)
    (case l__law_back => k_is)
    (case e__law_back => k_is)
    (case k__law_back => k_is)
    (case a__law_way => k_is)
    (case l__law_way => k_is)
    (case e__law_way => k_is)
    (case k__law_way => k_is)
    (case a_law => k_is)
    (case l_law => k_is)
    (case e_law => k_is)
    (case k_law => k_is)
    (case t_is_ascending => first | exact rfl | kernel_rfl | k_is)
    (case n_is_ascending => first | exact rfl | kernel_rfl | k_is)
    (case r_is_ascending => first | exact rfl | kernel_rfl | k_is)
    (case t_is_number_set => first | exact rfl | kernel_rfl | k_is)
    (case n_is_number_set => first | exact rfl | kernel_rfl | k_is)
    (case r_is_number_set => first | exact rfl | kernel_rfl | k_is)
    (case t_is_web => first | exact rfl | kernel_rfl | k_is)
    (case n_is_web => first | exact rfl | kernel_rfl | k_is)
    (case r_is_web => first | exact rfl | kernel_rfl | k_is)
    (case z_all => k_is)
    (case z_bool => k_is)
    (case z_enumerate => k_is)
    (case z_int => k_is)
    (case z_isinstance => k_is)
    (case z_len => k_is)
    (case z_list => k_is)
    (case z_min => k_is)
    (case z_range => k_is)
    (case z_sorted => k_is)
    (case z_str => k_is)
    (case z_tuple => k_is)
    (case g_MOST_ACCOUNTS => k_is)
    (case g_MOST_FOUNDERS => k_is)
    (case g_MOST_VOUCHINGS => k_is)
    (case g_WIDEST => k_is)
