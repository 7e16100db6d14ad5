import PyProof.Rows.All
import HandS.ForMost
import HandS.Exc
import HandS.TupAny
import HandS.IsInst
import HandS.Flow
import HandS.CallSlots
import KE.DataCmp
import HandS.Deep
import HandS.Style
import HandS.Steps
import HandS.TupMul
import HandS.WordsExc
import KE.SortData
import HandS.SortInts
import HandS.Walk
import HandS.AnyAll
import HandS.GenOver
import PyProof.GenQ
import HandS.NoneIn
import HandS.Small
import KE.KDictCopyH
import HandS.Iter
import HandS.DictTup
import KE.KDictSum
import PyProof.Transfer
import HandS.EndTab
import PySem.Challenge.RW_standsdespite_k01_webs_by_their_form
set_option Elab.async false
set_option linter.all false
set_option maxRecDepth 100000
/-! Core1: value trees over the abstract heap. -/
namespace Cor
open PySem PySem.Spec PyProof.Rows L2

abbrev D := PyData
/-- a reference to a cell of the store -/
abbrev rf (n : Nat) : D := .dict [(.int n, .none)]

/-- the addresses of the store's cells; of lists that are being made -/
structure Rho where
  c : List Addr
  h : List Addr
instance : Membership Addr Rho := ⟨fun ρ a => a ∈ ρ.c ∨ a ∈ ρ.h⟩
theorem Rho.mem {ρ : Rho} {a : Addr} : a ∈ ρ ↔ a ∈ ρ.c ∨ a ∈ ρ.h := Iff.rfl
theorem Rho.nc {ρ : Rho} {a : Addr} (h : a ∉ ρ) : a ∉ ρ.c := fun z => h (.inl z)
def Rho.add (ρ : Rho) (p : Addr) : Rho := ⟨ρ.c ++ [p], ρ.h⟩
def Rho.hide (ρ : Rho) (p : Addr) : Rho := ⟨ρ.c, p :: ρ.h⟩
/-- a tuple: tracked, no cell of the store -/
def TupAt (H : Hp) (ρ : Rho) (a : Addr) (xs : List V) : Prop := H a = some (.tup xs) ∧ a ∉ ρ
theorem TupAt.sq {K : PySem.W.Frag} {H : Hp} {ρ : Rho} {a : Addr} {xs : List V} (h : TupAt H ρ a xs) : SqT K H a xs := .inl (.inl h.1)
def LstAt (H : Hp) (ρ : Rho) (a : Addr) (xs : List V) : Prop := Rd H a (.lst xs) ∧ a ∉ ρ
theorem LstAt.sq {K : PySem.W.Frag} {H : Hp} {ρ : Rho} {a : Addr} {xs : List V} (h : LstAt H ρ a xs) : SqL K H a xs := .inl h.1

mutual
inductive Rp (K : PySem.W.Frag) (H : Hp) (ρ : Rho) : V → D → Prop
  | non : Rp K H ρ .non .none
  | bl (b : Bool) : Rp K H ρ (.bl b) (.bool b)
  | int (i : Int) : Rp K H ρ (.int i) (.int i)
  | str (x : Str) : Rp K H ρ (.str x) (.str x)
  | lst {a : Addr} {xs : List V} {ds : List D} : LstAt H ρ a xs → RpL K H ρ xs ds → Rp K H ρ (.ref a) (.list ds)
  | tup {a : Addr} {xs : List V} {ds : List D} : TupAt H ρ a xs → RpL K H ρ xs ds → Rp K H ρ (.ref a) (.tuple ds)
  | rf {a : Addr} {n : Nat} : ρ.c[n]? = some a → Rp K H ρ (.ref a) (rf n)
inductive RpL (K : PySem.W.Frag) (H : Hp) (ρ : Rho) : List V → List D → Prop
  | nil : RpL K H ρ [] []
  | cons {v : V} {vs : List V} {d : D} {ds : List D} : Rp K H ρ v d → RpL K H ρ vs ds → RpL K H ρ (v :: vs) (d :: ds)
end

/-- a code object's table stands at P -/
def TabG (H : Hp) (P : Addr) : Prop := ∃ ps : Array Value, H P = some (.tbl ps) ∧ TriplesOk ps.toList

/-- the heap goes on: cells may change, what is no cell stays (a table may grow), new cells were free -/
structure Stp (ρ : Rho) (H : Hp) (ρ' : Rho) (H' : Hp) : Prop where
  pre : ∃ t, ρ'.c = ρ.c ++ t
  hid : ∃ t, ρ'.h = t ++ ρ.h ∧ ∀ a ∈ t, a ∈ ρ.c ∨ H a = none
  new : ∀ a ∈ ρ'.c, a ∈ ρ.c ∨ H a = none
  keep : ∀ a o, H a = some o → a ∉ ρ.c → ∃ o', H' a = some o' ∧ ((∀ ps, o ≠ .tbl ps) → o' = o)
  tab : ∀ P, P ∉ ρ.c → TabG H P → TabG H' P

section
variable {K : PySem.W.Frag} {H H' H'' : Hp} {ρ ρ' ρ'' : Rho}
theorem Stp.refl : Stp ρ H ρ H := ⟨⟨[], by simp⟩, ⟨[], rfl, fun _ h => nomatch h⟩, fun _ h => .inl h, fun _ o h _ => ⟨o, h, fun _ => rfl⟩, fun _ _ h => h⟩
theorem Stp.outc (s : Stp ρ H ρ' H') {a : Addr} {o : HO} (h : H a = some o) (n : a ∉ ρ.c) : a ∉ ρ'.c := fun z => by
  rcases s.new a z with q | q
  · exact n q
  · rw [h] at q; cases q
theorem Stp.out (s : Stp ρ H ρ' H') {a : Addr} {o : HO} (h : H a = some o) (n : a ∉ ρ) : a ∉ ρ' := fun z => by
  rcases z with z | z
  · exact s.outc h (Rho.nc n) z
  · obtain ⟨t, e, ht⟩ := s.hid
    rw [e] at z
    rcases List.mem_append.mp z with z | z
    · rcases ht a z with q | q
      · exact n (.inl q)
      · rw [h] at q; cases q
    · exact n (.inr z)
theorem Stp.trans (s : Stp ρ H ρ' H') (t : Stp ρ' H' ρ'' H'') : Stp ρ H ρ'' H'' where
  pre := by
    obtain ⟨a, ea⟩ := s.pre
    obtain ⟨b, eb⟩ := t.pre
    exact ⟨a ++ b, by rw [eb, ea]; simp⟩
  hid := by
    obtain ⟨a, ea, ha⟩ := s.hid
    obtain ⟨b, eb, hb⟩ := t.hid
    refine ⟨b ++ a, by rw [eb, ea]; simp, fun x hx => ?_⟩
    rcases List.mem_append.mp hx with hx | hx
    · rcases hb x hx with q | q
      · exact s.new x q
      · by_cases m : x ∈ ρ.c
        · exact .inl m
        · right
          cases e : H x with
          | none => rfl
          | some o =>
            obtain ⟨o', e', _⟩ := s.keep x o e m
            rw [q] at e'; cases e'
    · exact ha x hx
  new := fun a h => by
    rcases t.new a h with q | q
    · exact s.new a q
    · by_cases m : a ∈ ρ.c
      · exact .inl m
      · right
        cases e : H a with
        | none => rfl
        | some o =>
          obtain ⟨o', e', _⟩ := s.keep a o e m
          rw [q] at e'; cases e'
  keep := fun a o h n => by
    obtain ⟨o', e, q⟩ := s.keep a o h n
    obtain ⟨o'', e', q'⟩ := t.keep a o' e (s.outc h n)
    exact ⟨o'', e', fun z => by rw [q' (by rw [q z]; exact z), q z]⟩
  tab := fun P n h => t.tab P (by obtain ⟨ps, e, _⟩ := h; exact s.outc e n) (s.tab P n h)
theorem Stp.stayc (s : Stp ρ H ρ' H') {a : Addr} {o : HO} (h : H a = some o) (n : a ∉ ρ.c) (z : ∀ ps, o ≠ .tbl ps) : H' a = some o := by
  obtain ⟨o', e, q⟩ := s.keep a o h n
  rw [e, q z]
theorem Stp.stay (s : Stp ρ H ρ' H') {a : Addr} {o : HO} (h : H a = some o) (n : a ∉ ρ) (z : ∀ ps, o ≠ .tbl ps) : H' a = some o := s.stayc h (Rho.nc n) z
theorem Stp.rd (s : Stp ρ H ρ' H') {a : Addr} {u : HO} (h : Rd H a u) (n : a ∉ ρ) (z : ∀ ps, u ≠ .tbl ps) : Rd H' a u ∧ a ∉ ρ' := by
  rcases h with h | ⟨o, h⟩
  · exact ⟨.inl (s.stay h n z), s.out h n⟩
  · exact ⟨.inr ⟨o, s.stay h n (fun _ q => nomatch q)⟩, s.out h n⟩
theorem Stp.at (s : Stp ρ H ρ' H') {n : Nat} {a : Addr} (h : ρ.c[n]? = some a) : ρ'.c[n]? = some a := by
  obtain ⟨t, e⟩ := s.pre
  obtain ⟨q, _⟩ := List.getElem?_eq_some_iff.mp h
  rw [e, List.getElem?_append_left q]; exact h
mutual
theorem Rp.step_ (s : Stp ρ H ρ' H') : ∀ (d : D) (v : V), Rp K H ρ v d → Rp K H' ρ' v d
  | .none, _, h => by cases h; exact .non
  | .bool b, _, h => by cases h; exact .bl b
  | .int i, _, h => by cases h; exact .int i
  | .str x, _, h => by cases h; exact .str x
  | .list ds, _, h => by
    cases h with
    | lst h r => exact .lst (s.rd h.1 h.2 (fun _ q => nomatch q)) (RpL.step_ s ds _ r)
  | .tuple ds, _, h => by
    cases h with
    | tup h r => exact .tup ⟨s.stay h.1 h.2 (fun _ z => nomatch z), s.out h.1 h.2⟩ (RpL.step_ s ds _ r)
  | .dict kvs, _, h => by
    cases h with
    | rf h => exact .rf (s.at h)
theorem RpL.step_ (s : Stp ρ H ρ' H') : ∀ (ds : List D) (vs : List V), RpL K H ρ vs ds → RpL K H' ρ' vs ds
  | [], _, h => by cases h; exact .nil
  | d :: ds, _, h => by
    cases h with
    | cons h t => exact .cons (Rp.step_ s d _ h) (RpL.step_ s ds _ t)
end
theorem Rp.step {v : V} {d : D} (s : Stp ρ H ρ' H') (h : Rp K H ρ v d) : Rp K H' ρ' v d := Rp.step_ s d v h
theorem RpL.step {vs : List V} {ds : List D} (s : Stp ρ H ρ' H') (h : RpL K H ρ vs ds) : RpL K H' ρ' vs ds := RpL.step_ s ds vs h
theorem RpL.length : ∀ {vs : List V} {ds : List D}, RpL K H ρ vs ds → vs.length = ds.length
  | _, _, .nil => rfl
  | _, _, .cons _ t => by simp [RpL.length t]
theorem RpL.get : ∀ {vs : List V} {ds : List D} {i : Nat} {d : D}, RpL K H ρ vs ds → ds[i]? = some d → ∃ v, vs[i]? = some v ∧ Rp K H ρ v d
  | _, _, _, _, .nil, e => by simp at e
  | _, _, 0, _, .cons h _, e => by simp at e; subst e; exact ⟨_, rfl, h⟩
  | _, _, i + 1, _, .cons _ t, e => by
    obtain ⟨v, q, r⟩ := RpL.get (i := i) t (by simpa using e)
    exact ⟨v, by simpa using q, r⟩
theorem RpL.get' : ∀ {vs : List V} {ds : List D} {i : Nat} {v : V}, RpL K H ρ vs ds → vs[i]? = some v → ∃ d, ds[i]? = some d ∧ Rp K H ρ v d
  | _, _, _, _, .nil, e => by simp at e
  | _, _, 0, _, .cons h _, e => by simp at e; subst e; exact ⟨_, rfl, h⟩
  | _, _, i + 1, _, .cons _ t, e => by
    obtain ⟨v, q, r⟩ := RpL.get' (i := i) t (by simpa using e)
    exact ⟨v, by simpa using q, r⟩
theorem RpL.append : ∀ {vs ws : List V} {ds es : List D}, RpL K H ρ vs ds → RpL K H ρ ws es → RpL K H ρ (vs ++ ws) (ds ++ es)
  | _, _, _, _, .nil, s => s
  | _, _, _, _, .cons h t, s => .cons h (RpL.append t s)
theorem RpL.take : ∀ {vs : List V} {ds : List D} (n : Nat), RpL K H ρ vs ds → RpL K H ρ (vs.take n) (ds.take n)
  | _, _, 0, _ => .nil
  | _, _, _ + 1, .nil => .nil
  | _, _, n + 1, .cons h t => .cons h (RpL.take n t)
theorem RpL.drop : ∀ {vs : List V} {ds : List D} (n : Nat), RpL K H ρ vs ds → RpL K H ρ (vs.drop n) (ds.drop n)
  | _, _, 0, r => r
  | _, _, _ + 1, .nil => .nil
  | _, _, n + 1, .cons _ t => RpL.drop n t
theorem RpL.set {v : V} {d : D} (h : Rp K H ρ v d) : ∀ {vs : List V} {ds : List D} (i : Nat), RpL K H ρ vs ds → RpL K H ρ (vs.set i v) (ds.set i d)
  | _, _, _, .nil => .nil
  | _, _, 0, .cons _ t => .cons h t
  | _, _, i + 1, .cons q t => .cons q (RpL.set h i t)
theorem RpL.reverse : ∀ {vs : List V} {ds : List D}, RpL K H ρ vs ds → RpL K H ρ vs.reverse ds.reverse
  | _, _, .nil => .nil
  | _, _, .cons h t => by rw [List.reverse_cons, List.reverse_cons]; exact (RpL.reverse t).append (.cons h .nil)
theorem RpL.eraseIdx : ∀ {vs : List V} {ds : List D} (i : Nat), RpL K H ρ vs ds → RpL K H ρ (vs.eraseIdx i) (ds.eraseIdx i)
  | _, _, _, .nil => .nil
  | _, _, 0, .cons _ t => t
  | _, _, i + 1, .cons q t => .cons q (RpL.eraseIdx i t)
end

/-! ### data without references -/
mutual
def flat : D → Bool
  | .list xs => flatL xs
  | .tuple xs => flatL xs
  | .dict _ => false
  | _ => true
def flatL : List D → Bool
  | [] => true
  | x :: xs => flat x && flatL xs
end
section
variable {K : PySem.W.Frag} {H : Hp} {ρ : Rho}
mutual
theorem Rp.dp_ : ∀ (d : D) (v : V), Rp K H ρ v d → flat d = true → Dp K H v d
  | .none, _, h, _ => by cases h; exact .non
  | .bool b, _, h, _ => by cases h; exact .bl b
  | .int i, _, h, _ => by cases h; exact .int i
  | .str x, _, h, _ => by cases h; exact .str x
  | .list ds, _, h, f => by
    cases h with
    | lst h r => exact .lst h.sq (RpL.dp_ ds _ r (by simpa [flat] using f))
  | .tuple ds, _, h, f => by
    cases h with
    | tup h r => exact .tup h.sq (RpL.dp_ ds _ r (by simpa [flat] using f))
  | .dict kvs, _, h, f => by simp [flat] at f
theorem RpL.dp_ : ∀ (ds : List D) (vs : List V), RpL K H ρ vs ds → flatL ds = true → DpAll K H vs ds
  | [], _, h, _ => by cases h; exact .nil
  | d :: ds, _, h, f => by
    cases h with
    | cons h t =>
      simp only [flatL, Bool.and_eq_true] at f
      exact .cons (Rp.dp_ d _ h f.1) (RpL.dp_ ds _ t f.2)
end
theorem Rp.dp {v : V} {d : D} (h : Rp K H ρ v d) (f : flat d = true) : Dp K H v d := Rp.dp_ d v h f
theorem RpL.dp {vs : List V} {ds : List D} (h : RpL K H ρ vs ds) (f : flatL ds = true) : DpAll K H vs ds := RpL.dp_ ds vs h f
end
end Cor

/-! Core2: the store, what an expression tells, the readings. -/
namespace Cor
open PySem PySem.Spec PyProof.Rows L2

/-- a cell of the store -/
inductive Cell where
  | lst (ds : List D)
  | dK (kvs : List (Key × D))
  | dT (kvs : List (List Key × D))
abbrev Sto := List Cell
/-- an exception: its class's name, what stands in its own dict -/
structure Exn where
  cls : Str
  fld : List (Str × D) := []
inductive R (α : Type) where
  | ok (a : α) (S : Sto)
  | er (e : Exn) (S : Sto)
  | no
def R.bind {α β : Type} (r : R α) (f : α → Sto → R β) : R β := match r with
  | .ok a S => f a S
  | .er e S => .er e S
  | .no => .no
@[simp] theorem R.bind_ok {α β : Type} (a : α) (S : Sto) (f : α → Sto → R β) : (R.ok a S).bind f = f a S := rfl
@[simp] theorem R.bind_er {α β : Type} (e : Exn) (S : Sto) (f : α → Sto → R β) : (R.er e S : R α).bind f = .er e S := rfl
@[simp] theorem R.bind_no {α β : Type} (f : α → Sto → R β) : (R.no : R α).bind f = .no := rfl

abbrev Envd := List (Option D)
abbrev Ex := Envd → Sto → R D
abbrev Exs := Envd → Sto → R (List D)
abbrev Tx := Envd → Sto → R Bool
inductive Fl where
  | nx (env : Envd) (S : Sto)
  | rt (d : D) (S : Sto)
  | bk (env : Envd) (S : Sto)
  | ct (env : Envd) (S : Sto)
  | er (e : Exn) (env : Envd) (S : Sto)
  | no
abbrev Blk := Envd → Sto → Fl
/-- a value met by a statement -/
def R.to {α : Type} (r : R α) (env : Envd) (f : α → Sto → Fl) : Fl := match r with
  | .ok a S => f a S
  | .er e S => .er e env S
  | .no => .no
@[simp] theorem R.to_ok {α : Type} (a : α) (S : Sto) (env : Envd) (f : α → Sto → Fl) : (R.ok a S).to env f = f a S := rfl
@[simp] theorem R.to_er {α : Type} (e : Exn) (S : Sto) (env : Envd) (f : α → Sto → Fl) : (R.er e S : R α).to env f = .er e env S := rfl
@[simp] theorem R.to_no {α : Type} (env : Envd) (f : α → Sto → Fl) : (R.no : R α).to env f = .no := rfl
def Fl.seq (r : Fl) (g : Blk) : Fl := match r with
  | .nx env S => g env S
  | x => x
@[simp] theorem Fl.seq_nx (env : Envd) (S : Sto) (g : Blk) : (Fl.nx env S).seq g = g env S := rfl
@[simp] theorem Fl.seq_rt (d : D) (S : Sto) (g : Blk) : (Fl.rt d S).seq g = .rt d S := rfl
@[simp] theorem Fl.seq_bk (env : Envd) (S : Sto) (g : Blk) : (Fl.bk env S).seq g = .bk env S := rfl
@[simp] theorem Fl.seq_ct (env : Envd) (S : Sto) (g : Blk) : (Fl.ct env S).seq g = .ct env S := rfl
@[simp] theorem Fl.seq_er (e : Exn) (env : Envd) (S : Sto) (g : Blk) : (Fl.er e env S).seq g = .er e env S := rfl
@[simp] theorem Fl.seq_no (g : Blk) : Fl.no.seq g = .no := rfl

/-! ### the store at the heap -/
def CellOk (K : PySem.W.Frag) (H : Hp) (ρ : Rho) (a : Addr) : Cell → Prop
  | .lst ds => ∃ xs, H a = some (.lst xs) ∧ RpL K H ρ xs ds
  | .dK kvs => ∃ ys, H a = some (.dK ys) ∧ ys.map (·.1) = kvs.map (·.1) ∧ RpL K H ρ (ys.map (·.2)) (kvs.map (·.2))
  | .dT kvs => ∃ ys, H a = some (.dT ys) ∧ ys.map (·.1) = kvs.map (·.1) ∧ RpL K H ρ (ys.map (·.2)) (kvs.map (·.2))
structure StoOk (K : PySem.W.Frag) (H : Hp) (ρ : Rho) (S : Sto) : Prop where
  len : ρ.c.length = S.length
  nd : ρ.c.Nodup
  cell : ∀ (n : Nat) (c : Cell), S[n]? = some c → ∃ a, ρ.c[n]? = some a ∧ CellOk K H ρ a c
  hd : ∀ a ∈ ρ.h, a ∉ ρ.c ∧ ∃ xs, H a = some (.lst xs)
def EnvOk (K : PySem.W.Frag) (H : Hp) (ρ : Rho) (env : Envd) (σ : L2.St) : Prop :=
  env.length = σ.length ∧ ∀ (i : Nat) (d : D), env[i]? = some (some d) → ∃ v, σ[i]? = some (some v) ∧ Rp K H ρ v d
structure Sim (K : PySem.W.Frag) (ts : List Addr) (ρ : Rho) (env : Envd) (S : Sto) (σ : L2.St) (H : Hp) : Prop where
  env : EnvOk K H ρ env σ
  sto : StoOk K H ρ S
  tab : ∀ P ∈ ts, TabG H P ∧ P ∉ ρ.c
/-- the exception's class and dict -/
def ExnOk (K : PySem.W.Frag) (mg : Str → Option Value) (H : Hp) (ρ : Rho) (e : Exn) (c : Value) (o : Option Addr) : Prop :=
  (∃ C, mg e.cls = some (.ref C) ∧ c = .ref C) ∧
    match e.fld with
    | [] => True
    | f :: fs => ∃ a xs, o = some a ∧ a ∉ ρ ∧ H a = some (.xd xs) ∧ xs.map (·.1) = (f :: fs).map (·.1) ∧ RpL K H ρ (xs.map (·.2)) ((f :: fs).map (·.2))

section
variable {K : PySem.W.Frag} {mg : Str → Option Value} {H H' H'' : Hp} {ρ ρ' ρ'' : Rho} {S S' : Sto} {env : Envd} {σ : L2.St} {ts : List Addr}
theorem CellOk.at {a : Addr} {c : Cell} (h : CellOk K H ρ a c) : ∃ o, H a = some o ∧ ∀ ps, o ≠ .tbl ps := by
  cases c with
  | lst ds => obtain ⟨xs, e, _⟩ := h; exact ⟨_, e, fun _ q => nomatch q⟩
  | dK ds => obtain ⟨xs, e, _⟩ := h; exact ⟨_, e, fun _ q => nomatch q⟩
  | dT ds => obtain ⟨xs, e, _⟩ := h; exact ⟨_, e, fun _ q => nomatch q⟩
theorem StoOk.there (h : StoOk K H ρ S) {a : Addr} (m : a ∈ ρ) : ∃ o, H a = some o := by
  rcases m with m | m
  · obtain ⟨n, hn, e⟩ := List.getElem_of_mem m
    have hn' : n < S.length := by rw [← h.len]; exact hn
    obtain ⟨b, e1, c⟩ := h.cell n S[n] (List.getElem?_eq_getElem hn')
    rw [List.getElem?_eq_getElem hn, e] at e1
    cases e1
    obtain ⟨o, q, _⟩ := c.at
    exact ⟨o, q⟩
  · obtain ⟨_, xs, e⟩ := h.hd a m
    exact ⟨_, e⟩
theorem StoOk.new (h : StoOk K H ρ S) {p : Addr} (n : H p = none) : p ∉ ρ := fun m => by
  obtain ⟨o, e⟩ := h.there m
  rw [n] at e; cases e
/-- a new object that is no cell -/
theorem stp_new {p : Addr} {o : HO} (n : H p = none) : Stp ρ H ρ (upd H p o) where
  pre := ⟨[], by simp⟩
  hid := ⟨[], rfl, fun _ h => nomatch h⟩
  new := fun _ h => .inl h
  keep := fun a u e _ => ⟨u, by rw [upd_ne (ne_of_none e n)]; exact e, fun _ => rfl⟩
  tab := fun P _ ⟨ps, e, t⟩ => ⟨ps, by rw [upd_ne (ne_of_none e n)]; exact e, t⟩
/-- a new object that becomes a cell -/
theorem stp_cell {p : Addr} {o : HO} (n : H p = none) : Stp ρ H (ρ.add p) (upd H p o) where
  pre := ⟨[p], rfl⟩
  hid := ⟨[], rfl, fun _ h => nomatch h⟩
  new := fun a h => by
    rcases List.mem_append.mp h with h | h
    · exact .inl h
    · rw [List.mem_singleton.mp h]; exact .inr n
  keep := fun a u e _ => ⟨u, by rw [upd_ne (ne_of_none e n)]; exact e, fun _ => rfl⟩
  tab := fun P _ ⟨ps, e, t⟩ => ⟨ps, by rw [upd_ne (ne_of_none e n)]; exact e, t⟩
theorem stp_write {a : Addr} {o : HO} (m : a ∈ ρ.c) : Stp ρ H ρ (upd H a o) where
  pre := ⟨[], by simp⟩
  hid := ⟨[], rfl, fun _ h => nomatch h⟩
  new := fun _ h => .inl h
  keep := fun b u e n => ⟨u, by rw [upd_ne (fun z => n (by rw [z]; exact m))]; exact e, fun _ => rfl⟩
  tab := fun P n ⟨ps, e, t⟩ => ⟨ps, by rw [upd_ne (fun z => n (by rw [z]; exact m))]; exact e, t⟩
theorem CellOk.step {a : Addr} {c : Cell} (h : CellOk K H ρ a c) (s : Stp ρ H ρ' H') (e : H' a = H a) : CellOk K H' ρ' a c := by
  cases c with
  | lst ds => obtain ⟨xs, q, r⟩ := h; exact ⟨xs, e.trans q, r.step s⟩
  | dK ds => obtain ⟨xs, q, k, r⟩ := h; exact ⟨xs, e.trans q, k, r.step s⟩
  | dT ds => obtain ⟨xs, q, k, r⟩ := h; exact ⟨xs, e.trans q, k, r.step s⟩
theorem StoOk.new_obj (h : StoOk K H ρ S) {p : Addr} {o : HO} (n : H p = none) : StoOk K (upd H p o) ρ S := by
  refine ⟨h.len, h.nd, fun i c e => ?_, fun a m => ?_⟩
  · obtain ⟨a, q, r⟩ := h.cell i c e
    obtain ⟨u, hu, _⟩ := r.at
    exact ⟨a, q, r.step (stp_new n) (upd_ne (ne_of_none hu n))⟩
  · obtain ⟨k, xs, e⟩ := h.hd a m
    exact ⟨k, xs, by rw [upd_ne (ne_of_none e n)]; exact e⟩
theorem StoOk.new_cell (h : StoOk K H ρ S) {p : Addr} {o : HO} {c : Cell} (n : H p = none) (hc : CellOk K (upd H p o) (ρ.add p) p c) : StoOk K (upd H p o) (ρ.add p) (S ++ [c]) := by
  have hnp : p ∉ ρ.c := Rho.nc (h.new n)
  refine ⟨by simp [Rho.add, h.len], ?_, fun i c' e => ?_, fun a m => ?_⟩
  · show (ρ.c ++ [p]).Nodup
    rw [List.nodup_append]
    exact ⟨h.nd, by simp, fun a m b m' z => hnp (by rw [List.mem_singleton] at m'; rw [← m', ← z]; exact m)⟩
  · by_cases hi : i < S.length
    · rw [List.getElem?_append_left hi] at e
      obtain ⟨a, q, r⟩ := h.cell i c' e
      obtain ⟨u, hu, _⟩ := r.at
      refine ⟨a, ?_, r.step (stp_cell n) (upd_ne (ne_of_none hu n))⟩
      show (ρ.c ++ [p])[i]? = _
      rw [List.getElem?_append_left (by rw [h.len]; exact hi)]; exact q
    · rw [List.getElem?_append_right (by omega)] at e
      have hj : i - S.length = 0 := by
        cases z : i - S.length with
        | zero => rfl
        | succ j => rw [z] at e; simp at e
      rw [hj] at e
      simp at e
      subst e
      refine ⟨p, ?_, hc⟩
      have : i = ρ.c.length := by rw [h.len]; omega
      show (ρ.c ++ [p])[i]? = _
      rw [this, List.getElem?_append_right (Nat.le_refl _)]; simp
  · obtain ⟨k, xs, e⟩ := h.hd a m
    have hne : a ≠ p := ne_of_none e n
    refine ⟨fun z => ?_, xs, by rw [upd_ne hne]; exact e⟩
    rcases List.mem_append.mp z with z | z
    · exact k z
    · exact hne (List.mem_singleton.mp z)
theorem StoOk.write (h : StoOk K H ρ S) {n : Nat} {a : Addr} {o : HO} {c : Cell} (e : ρ.c[n]? = some a) (hc : CellOk K (upd H a o) ρ a c) : StoOk K (upd H a o) ρ (S.set n c) := by
  obtain ⟨hn, ea⟩ := List.getElem?_eq_some_iff.mp e
  have hm : a ∈ ρ.c := by rw [← ea]; exact List.getElem_mem hn
  refine ⟨by simp [h.len], h.nd, fun i c' q => ?_, fun b m => ?_⟩
  · by_cases hi : i = n
    · subst hi
      have hl : i < S.length := by rw [← h.len]; exact hn
      rw [List.getElem?_set_self hl] at q
      cases q
      exact ⟨a, e, hc⟩
    · rw [List.getElem?_set_ne (Ne.symm hi)] at q
      obtain ⟨b, q1, r⟩ := h.cell i c' q
      refine ⟨b, q1, r.step (stp_write hm) (upd_ne fun z => hi ?_)⟩
      obtain ⟨hb, eb⟩ := List.getElem?_eq_some_iff.mp q1
      exact (List.getElem_inj h.nd).mp (by rw [eb, ea, z])
  · obtain ⟨k, xs, e'⟩ := h.hd b m
    exact ⟨k, xs, by rw [upd_ne (fun z => k (by rw [z]; exact hm))]; exact e'⟩
/-- a list is being made -/
theorem stp_hide {p : Addr} {o : HO} (n : H p = none) : Stp ρ H (ρ.hide p) (upd H p o) where
  pre := ⟨[], by simp [Rho.hide]⟩
  hid := ⟨[p], rfl, fun a h => by rw [List.mem_singleton.mp h]; exact .inr n⟩
  new := fun _ h => .inl h
  keep := fun a u e _ => ⟨u, by rw [upd_ne (ne_of_none e n)]; exact e, fun _ => rfl⟩
  tab := fun P _ ⟨ps, e, t⟩ => ⟨ps, by rw [upd_ne (ne_of_none e n)]; exact e, t⟩
theorem StoOk.hide (h : StoOk K H ρ S) {p : Addr} {xs : List V} (n : H p = none) : StoOk K (upd H p (.lst xs)) (ρ.hide p) S := by
  have hnp : p ∉ ρ.c := Rho.nc (h.new n)
  refine ⟨h.len, h.nd, fun i c e => ?_, fun a m => ?_⟩
  · obtain ⟨a, q, r⟩ := h.cell i c e
    obtain ⟨u, hu, _⟩ := r.at
    exact ⟨a, q, r.step (stp_hide n) (upd_ne (ne_of_none hu n))⟩
  · rcases List.mem_cons.mp m with m | m
    · rw [m]; exact ⟨hnp, xs, upd_same⟩
    · obtain ⟨k, ys, e⟩ := h.hd a m
      exact ⟨k, ys, by rw [upd_ne (ne_of_none e n)]; exact e⟩
theorem EnvOk.step (h : EnvOk K H ρ env σ) (s : Stp ρ H ρ' H') : EnvOk K H' ρ' env σ :=
  ⟨h.1, fun i d e => let ⟨v, q, r⟩ := h.2 i d e; ⟨v, q, r.step s⟩⟩
theorem tab_step (h : ∀ P ∈ ts, TabG H P ∧ P ∉ ρ.c) (s : Stp ρ H ρ' H') : ∀ P ∈ ts, TabG H' P ∧ P ∉ ρ'.c := fun P m => by
  obtain ⟨⟨ps, e, t⟩, n⟩ := h P m
  exact ⟨s.tab P n ⟨ps, e, t⟩, s.outc e n⟩
theorem Sim.step (h : Sim K ts ρ env S σ H) (s : Stp ρ H ρ' H') (o : StoOk K H' ρ' S') : Sim K ts ρ' env S' σ H' :=
  ⟨h.env.step s, o, tab_step h.tab s⟩
theorem EnvOk.set (h : EnvOk K H ρ env σ) {v : V} {d : D} (r : Rp K H ρ v d) (i : Nat) : EnvOk K H ρ (env.set i (some d)) (σ.set i (some v)) := by
  refine ⟨by simp [h.1], fun j d' e => ?_⟩
  by_cases hj : j = i
  · subst hj
    have hl : j < env.length := by
      have := (List.getElem?_eq_some_iff.mp e).1
      simpa using this
    rw [List.getElem?_set_self hl] at e
    cases e
    exact ⟨v, by rw [List.getElem?_set_self (by rw [← h.1]; exact hl)], r⟩
  · rw [List.getElem?_set_ne (Ne.symm hj)] at e
    obtain ⟨w, q, r'⟩ := h.2 j d' e
    exact ⟨w, by rw [List.getElem?_set_ne (Ne.symm hj)]; exact q, r'⟩
theorem ExnOk.step {e : Exn} {c : Value} {o : Option Addr} (h : ExnOk K mg H ρ e c o) (s : Stp ρ H ρ' H') : ExnOk K mg H' ρ' e c o := by
  refine ⟨h.1, ?_⟩
  have h2 := h.2
  cases hf : e.fld with
  | nil => trivial
  | cons f fs =>
    rw [hf] at h2
    obtain ⟨a, xs, e1, e2, e3, e4, e5⟩ := h2
    exact ⟨a, xs, e1, s.out e3 e2, s.stay e3 e2 (fun _ q => nomatch q), e4, e5.step s⟩
end

/-! ### what is wanted behind an expression -/
section
variable (K : PySem.W.Frag) (mg : Str → Option Value) (W : WX) (σ : L2.St) (ρ : Rho) (H : Hp)
def Post {α β : Type} (rel : Hp → Rho → β → α → Prop) (r : R α) (Q : β → Hp → Prop) : Prop :=
  match r with
  | .ok d S' => ∀ v ρ' H', Stp ρ H ρ' H' → StoOk K H' ρ' S' → rel H' ρ' v d → Q v H'
  | .er e S' => ∀ ρ' H' c o, Stp ρ H ρ' H' → StoOk K H' ρ' S' → ExnOk K mg H' ρ' e c o → W c o σ H'
  | .no => False
end
section
variable {K : PySem.W.Frag} {mg : Str → Option Value} {W : WX} {σ : L2.St} {ρ ρ' : Rho} {H H' : Hp} {α α' β β' : Type} {rel : Hp → Rho → β → α → Prop} {rel' : Hp → Rho → β' → α' → Prop}
theorem Post.from {r : R α} {Q : β → Hp → Prop} (h : Post K mg W σ ρ H rel r Q) (s : Stp ρ H ρ' H') : Post K mg W σ ρ' H' rel r Q := by
  cases r with
  | ok d S' => exact fun v ρ'' H'' t o r => h v ρ'' H'' (s.trans t) o r
  | er e S' => exact fun ρ'' H'' c o t so eo => h ρ'' H'' c o (s.trans t) so eo
  | no => exact h
/-- one thing after the other -/
theorem Post.next {r : R α} {f : α → Sto → R α'} {Q : β' → Hp → Prop} {Q1 : β → Hp → Prop} (h : Post K mg W σ ρ H rel' (r.bind f) Q)
    (k : ∀ v ρ' H' d S', r = .ok d S' → Stp ρ H ρ' H' → StoOk K H' ρ' S' → rel H' ρ' v d → Post K mg W σ ρ' H' rel' (f d S') Q → Q1 v H') : Post K mg W σ ρ H rel r Q1 := by
  cases r with
  | ok d S' => exact fun v ρ' H' s o r => k v ρ' H' d S' rfl s o r (Post.from h s)
  | er e S' => exact h
  | no => exact h
theorem Post.done {d : α} {S : Sto} {v : β} {Q : β → Hp → Prop} (h : Post K mg W σ ρ H rel (.ok d S) Q) (s : StoOk K H ρ S) (r : rel H ρ v d) : Q v H := h v ρ H .refl s r
end

def tE (K : PySem.W.Frag) (mg : Str → Option Value) (ts : List Addr) (W : WX) (g : Ex) : TE := fun σ H Q => ∃ ρ env S, Sim K ts ρ env S σ H ∧ Post K mg W σ ρ H (Rp K) (g env S) Q
def tX (K : PySem.W.Frag) (mg : Str → Option Value) (ts : List Addr) (W : WX) (g : Exs) : TA := fun σ H Q => ∃ ρ env S, Sim K ts ρ env S σ H ∧ Post K mg W σ ρ H (RpL K) (g env S) Q
def tT (K : PySem.W.Frag) (mg : Str → Option Value) (ts : List Addr) (W : WX) (g : Tx) : TT := fun σ H Q => ∃ ρ env S, Sim K ts ρ env S σ H ∧ Post K mg W σ ρ H (fun _ _ b b' => b = b') (g env S) Q
def PostB (K : PySem.W.Frag) (mg : Str → Option Value) (ts : List Addr) (W : WX) (ρ : Rho) (H : Hp) (r : Fl) (D : Ends) : Prop := match r with
  | .nx env' S' => ∀ ρ' σ' H', Stp ρ H ρ' H' → Sim K ts ρ' env' S' σ' H' → D.nx σ' H'
  | .rt d S' => ∀ v ρ' H', Stp ρ H ρ' H' → StoOk K H' ρ' S' → Rp K H' ρ' v d → D.rt v H'
  | .bk env' S' => ∀ ρ' σ' H', Stp ρ H ρ' H' → Sim K ts ρ' env' S' σ' H' → D.bk σ' H'
  | .ct env' S' => ∀ ρ' σ' H', Stp ρ H ρ' H' → Sim K ts ρ' env' S' σ' H' → D.ct σ' H'
  | .er e env' S' => ∀ ρ' σ' H' c o, Stp ρ H ρ' H' → Sim K ts ρ' env' S' σ' H' → ExnOk K mg H' ρ' e c o → W c o σ' H'
  | .no => False
def tS (K : PySem.W.Frag) (mg : Str → Option Value) (ts : List Addr) (W : WX) (g : Blk) : TS := fun D σ H => ∃ ρ env S, Sim K ts ρ env S σ H ∧ PostB K mg ts W ρ H (g env S) D
section
variable {K : PySem.W.Frag} {mg : Str → Option Value} {ts : List Addr} {W : WX} {ρ ρ' : Rho} {H H' : Hp} {r : Fl} {D : Ends}
theorem PostB.from (h : PostB K mg ts W ρ H r D) (s : Stp ρ H ρ' H') : PostB K mg ts W ρ' H' r D := by
  cases r with
  | nx env' S' => exact fun ρ'' σ'' H'' t m => h ρ'' σ'' H'' (s.trans t) m
  | rt d S' => exact fun v ρ'' H'' t o r => h v ρ'' H'' (s.trans t) o r
  | bk env' S' => exact fun ρ'' σ'' H'' t m => h ρ'' σ'' H'' (s.trans t) m
  | ct env' S' => exact fun ρ'' σ'' H'' t m => h ρ'' σ'' H'' (s.trans t) m
  | er e env' S' => exact fun ρ'' σ'' H'' c o t m x => h ρ'' σ'' H'' c o (s.trans t) m x
  | no => exact h
/-- a value met by a statement -/
theorem PostB.val {α β : Type} {rel : Hp → Rho → β → α → Prop} {x : R α} {env : Envd} {σ : L2.St} {f : α → Sto → Fl} {Q : β → Hp → Prop} {S : Sto} (m : Sim K ts ρ env S σ H) (h : PostB K mg ts W ρ H (x.to env f) D)
    (k : ∀ v ρ' H' d S', x = .ok d S' → Stp ρ H ρ' H' → StoOk K H' ρ' S' → rel H' ρ' v d → PostB K mg ts W ρ' H' (f d S') D → Q v H') : Post K mg W σ ρ H rel x Q := by
  cases x with
  | ok d S' => exact fun v ρ' H' s o r => k v ρ' H' d S' rfl s o r (PostB.from h s)
  | er e S' => exact fun ρ' H' c o s so eo => h ρ' σ H' c o s (m.step s so) eo
  | no => exact h
end
end Cor

/-! Core3: expressions. -/
namespace Cor
open PySem PySem.Spec PyProof.Rows L2

abbrev JE (X : Cx) (ts : List Addr) (W : WX) (e : Expr) (g : Ex) : Prop := PE X e (tE X.K X.mg ts W g)
abbrev JX (X : Cx) (ts : List Addr) (W : WX) (es : List Expr) (g : Exs) : Prop := PA X es (tX X.K X.mg ts W g)
abbrev JT (X : Cx) (ts : List Addr) (W : WX) (e : Expr) (g : Tx) : Prop := PT X e (tT X.K X.mg ts W g)

def lift {α : Type} (o : Option α) (S : Sto) : R α := match o with
  | some a => .ok a S
  | none => .no
@[simp] theorem lift_some {α : Type} (a : α) (S : Sto) : lift (some a) S = .ok a S := rfl
@[simp] theorem lift_none {α : Type} (S : Sto) : lift (none : Option α) S = .no := rfl

/-! ### names, constants -/
def var (i : Nat) : Ex := fun env S => match env[i]? with
  | some (some d) => .ok d S
  | _ => .no
def lit (d : D) : Ex := fun _ S => .ok d S
section
variable {X : Cx} {ts : List Addr} {W : WX} {pos : Pos}
theorem je_of {e : Expr} {t : TE} {g : Ex} (h : PE X e t) (k : ∀ σ H Q, tE X.K X.mg ts W g σ H Q → t σ H Q) : JE X ts W e g := ⟨fun pins s σ H Q I q => h.run pins s σ H Q I (k σ H Q q)⟩
theorem jt_of {e : Expr} {t : TT} {g : Tx} (h : PT X e t) (k : ∀ σ H Q, tT X.K X.mg ts W g σ H Q → t σ H Q) : JT X ts W e g := ⟨fun pins s σ H Q I q => h.run pins s σ H Q I (k σ H Q q)⟩
theorem je_var {i : Nat} {x : Str} (hN : X.N[i]? = some x) (hv : Vis X.env.scope x) (hd : (x == ("__debug__" : Str)) = false := by decide) (hcd : (x == ("__classdict__" : Str)) = false := by decide) : JE X ts W (.Name x pos) (var i) :=
  je_of (pe_var hN hv hd hcd) fun σ H Q ⟨ρ, env, S, m, p⟩ => by
    unfold var at p
    cases e : env[i]? with
    | none => rw [e] at p; exact p.elim
    | some o =>
      cases o with
      | none => rw [e] at p; exact p.elim
      | some d =>
        rw [e] at p
        obtain ⟨v, q, r⟩ := m.env.2 i d e
        exact ⟨v, q, p.done m.sto r⟩
theorem je_con {e : Expr} {v : V} {d : D} (h : PE X e (tC v)) (r : ∀ H ρ, Rp X.K H ρ v d) : JE X ts W e (lit d) :=
  je_of h fun σ H Q ⟨ρ, env, S, m, p⟩ => Post.done p m.sto (r H ρ)
theorem je_int {i : Int} {j : Nat} : JE X ts W (.Constant (.int i) j pos) (lit (.int i)) := je_con pe_int fun _ _ => .int i
theorem je_bl {b : Bool} {j : Nat} : JE X ts W (.Constant (.bool b) j pos) (lit (.bool b)) := je_con pe_bl fun _ _ => .bl b
theorem je_non {j : Nat} : JE X ts W (.Constant .none j pos) (lit .none) := je_con pe_non fun _ _ => .non
theorem je_str {x : Str} {j : Nat} : JE X ts W (.Constant (.str x) j pos) (lit (.str x)) := je_con pe_str fun _ _ => .str x
/-- a module's int -/
theorem je_gint {x : Str} {i : Int} (hg : Gl X x) (hm : ∃ t, X.mg x = some (.int i t)) (hd : (x == ("__debug__" : Str)) = false := by decide) : JE X ts W (.Name x pos) (lit (.int i)) := by
  obtain ⟨t, e⟩ := hm
  exact je_con (pe_glob hg e (v := .int i) ⟨t, rfl⟩ hd) fun _ _ => .int i
theorem je_gstr {x y : Str} (hg : Gl X x) (hm : ∃ t, X.mg x = some (.str y t)) (hd : (x == ("__debug__" : Str)) = false := by decide) : JE X ts W (.Name x pos) (lit (.str y)) := by
  obtain ⟨t, e⟩ := hm
  exact je_con (pe_glob hg e (v := .str y) ⟨t, rfl⟩ hd) fun _ _ => .str y
end

/-! ### truth -/
def refOf : D → Option Nat
  | .dict [(.int n, .none)] => some n.toNat
  | _ => none
@[simp] theorem refOf_rf (n : Nat) : refOf (rf n) = some n := rfl
/-- a list as data: a frozen one, or a cell's items -/
def der (S : Sto) : D → Option D
  | .dict kvs => match refOf (.dict kvs) with
    | some n => match S[n]? with
      | some (.lst ds) => some (.list ds)
      | _ => none
    | none => none
  | d => some d
def tv (S : Sto) : D → Option Bool
  | .none => some false
  | .bool b => some b
  | .int i => some (i != 0)
  | .str x => if x.length ≤ sizeLine then some ((x.length : Int) != 0) else none
  | .list ds => some (!ds.isEmpty)
  | .tuple ds => some (!ds.isEmpty)
  | .dict kvs => match refOf (.dict kvs) with
    | some n => match S[n]? with
      | some (.lst ds) => some (!ds.isEmpty)
      | some (.dK kvs) => some (!kvs.isEmpty)
      | _ => none
    | none => none
section
variable {K : PySem.W.Frag} {H : Hp} {ρ : Rho} {S : Sto}
theorem isE_map {α β : Type} : ∀ {xs : List α} {ys : List β}, xs.length = ys.length → xs.isEmpty = ys.isEmpty
  | [], [], _ => rfl
  | _ :: _, _ :: _, _ => rfl
  | [], _ :: _, h => by simp at h
  | _ :: _, [], h => by simp at h
theorem Rp.cell {v : V} {kvs : List (D × D)} {n : Nat} (o : StoOk K H ρ S) (r : Rp K H ρ v (.dict kvs)) (e : refOf (.dict kvs) = some n) : ∃ a, v = .ref a ∧ ρ.c[n]? = some a := by
  cases r with
  | rf h =>
    have e' : some _ = some n := e
    cases e'
    exact ⟨_, rfl, by simpa using h⟩
theorem Rp.cellAt {v : V} {kvs : List (D × D)} {n : Nat} {c : Cell} (o : StoOk K H ρ S) (r : Rp K H ρ v (.dict kvs)) (e : refOf (.dict kvs) = some n) (ec : S[n]? = some c) : ∃ a, v = .ref a ∧ ρ.c[n]? = some a ∧ CellOk K H ρ a c := by
  obtain ⟨a, rfl, q⟩ := r.cell o e
  obtain ⟨b, q', h⟩ := o.cell n c ec
  rw [q] at q'; cases q'
  exact ⟨a, rfl, q, h⟩
theorem tv_ok {v : V} {d : D} {b : Bool} (o : StoOk K H ρ S) (r : Rp K H ρ v d) (e : tv S d = some b) : TruV K v H b := by
  cases d with
  | none => cases r; exact (Option.some.inj e).symm
  | bool b => cases r; exact (Option.some.inj e).symm
  | int i => cases r; exact (Option.some.inj e).symm
  | str x =>
    cases r
    have e : (if x.length ≤ sizeLine then some ((x.length : Int) != 0) else none) = some b := e
    by_cases h : x.length ≤ sizeLine
    · rw [if_pos h] at e
      exact ⟨h, (Option.some.inj e).symm⟩
    · rw [if_neg h] at e; cases e
  | list ds =>
    cases r with
    | lst h r => exact .inl ⟨_, h.sq, by rw [← Option.some.inj e, isE_map r.length]⟩
  | tuple ds =>
    cases r with
    | tup h r => exact .inr (.inl ⟨_, h.sq, by rw [← Option.some.inj e, isE_map r.length]⟩)
  | dict kvs =>
    have e : (match refOf (.dict kvs) with
      | some n => match S[n]? with
        | some (.lst ds) => some (!ds.isEmpty)
        | some (.dK kvs) => some (!kvs.isEmpty)
        | _ => none
      | none => none) = some b := e
    cases en : refOf (.dict kvs) with
    | none => rw [en] at e; cases e
    | some n =>
      simp only [en] at e
      cases ec : S[n]? with
      | none => rw [ec] at e; cases e
      | some c =>
        rw [ec] at e
        obtain ⟨a, rfl, q, h⟩ := r.cellAt o en ec
        cases c with
        | lst ds =>
          obtain ⟨xs, h1, h2⟩ := h
          exact .inl ⟨xs, SqL.of h1, by rw [← Option.some.inj e, isE_map h2.length]⟩
        | dK ks =>
          obtain ⟨ys, h1, h2, h3⟩ := h
          have hl := h3.length
          simp only [List.length_map] at hl
          exact .inr (.inr ⟨ys, h1, by rw [← Option.some.inj e, isE_map hl]⟩)
        | dT ks => cases e
theorem der_ok {v : V} {d d' : D} (o : StoOk K H ρ S) (r : Rp K H ρ v d) (e : der S d = some d') (f : flat d' = true) : Dp K H v d' := by
  cases d with
  | dict kvs =>
    have e : (match refOf (.dict kvs) with
      | some n => match S[n]? with
        | some (.lst ds) => some (.list ds)
        | _ => none
      | none => none) = some d' := e
    cases en : refOf (.dict kvs) with
    | none => rw [en] at e; cases e
    | some n =>
      simp only [en] at e
      cases ec : S[n]? with
      | none => rw [ec] at e; cases e
      | some c =>
        rw [ec] at e
        obtain ⟨a, rfl, q, h⟩ := r.cellAt o en ec
        cases c with
        | lst ds =>
          obtain ⟨xs, h1, h2⟩ := h
          cases e
          exact .lst (SqL.of h1) (h2.dp (by simpa [flat] using f))
        | dK ks => cases e
        | dT ks => cases e
  | _ => cases e; exact r.dp f
end

/-- an expression's truth -/
def tru (g : Ex) : Tx := fun env S => (g env S).bind fun d S1 => lift (tv S1 d) S1
def andE (a b : Ex) : Ex := fun env S => (a env S).bind fun d S1 => match tv S1 d with
  | some true => b env S1
  | some false => .ok d S1
  | none => .no
def orE (a b : Ex) : Ex := fun env S => (a env S).bind fun d S1 => match tv S1 d with
  | some true => .ok d S1
  | some false => b env S1
  | none => .no
def notE (a : Ex) : Ex := fun env S => (a env S).bind fun d S1 => lift ((tv S1 d).map fun b => PyData.bool (!b)) S1
def andT (a b : Tx) : Tx := fun env S => (a env S).bind fun c S1 => if c = true then b env S1 else .ok false S1
def orT (a b : Tx) : Tx := fun env S => (a env S).bind fun c S1 => if c = true then .ok true S1 else b env S1
def notT (a : Tx) : Tx := fun env S => (a env S).bind fun c S1 => .ok (!c) S1
def iteE (c : Tx) (a b : Ex) : Ex := fun env S => (c env S).bind fun k S1 => if k = true then a env S1 else b env S1
section
variable {X : Cx} {ts : List Addr} {W : WX} {pos : Pos} {a b : Expr} {rest : List Expr} {ga gb : Ex} {ta tb : Tx}
theorem jt_tru (h : JE X ts W a ga) (he : ∀ whole, isTrue a X.env whole = (do let v ← whole; standAt a.pos; holding [v] (PySem.truthy v)) := by intro _; rfl) : JT X ts W a (tru ga) :=
  jt_of (pt_truth h he) fun σ H Q ⟨ρ, env, S, m, p⟩ => ⟨ρ, env, S, m, Post.next (f := fun d S1 => lift (tv S1 d) S1) p fun x ρ1 H1 d S1 _ st so rx p1 => by
    cases e : tv S1 d with
    | none => rw [e] at p1; exact p1.elim
    | some b => rw [e] at p1; exact ⟨b, tv_ok so rx e, p1.done so rfl⟩⟩
theorem je_one {op : BoolOp} (h : JE X ts W a ga) : JE X ts W (.BoolOp op [a] pos) ga := je_of (pe_one h) fun _ _ _ q => q
theorem je_and (ha : JE X ts W a ga) (hb : JE X ts W (.BoolOp .And (b :: rest) pos) gb) : JE X ts W (.BoolOp .And (a :: b :: rest) pos) (andE ga gb) :=
  je_of (pe_andT ha hb) fun σ H Q ⟨ρ, env, S, m, p⟩ => ⟨ρ, env, S, m, Post.next (f := fun d S1 => match tv S1 d with | some true => gb env S1 | some false => .ok d S1 | none => .no) p fun x ρ1 H1 d S1 _ st so rx p1 => by
    cases e : tv S1 d with
    | none => rw [e] at p1; exact p1.elim
    | some c =>
      rw [e] at p1
      cases c with
      | true => exact ⟨true, tv_ok so rx e, ρ1, env, S1, m.step st so, p1⟩
      | false => exact ⟨false, tv_ok so rx e, Post.done p1 so rx⟩⟩
theorem je_or (ha : JE X ts W a ga) (hb : JE X ts W (.BoolOp .Or (b :: rest) pos) gb) : JE X ts W (.BoolOp .Or (a :: b :: rest) pos) (orE ga gb) :=
  je_of (pe_orT ha hb) fun σ H Q ⟨ρ, env, S, m, p⟩ => ⟨ρ, env, S, m, Post.next (f := fun d S1 => match tv S1 d with | some true => .ok d S1 | some false => gb env S1 | none => .no) p fun x ρ1 H1 d S1 _ st so rx p1 => by
    cases e : tv S1 d with
    | none => rw [e] at p1; exact p1.elim
    | some c =>
      rw [e] at p1
      cases c with
      | true => exact ⟨true, tv_ok so rx e, Post.done p1 so rx⟩
      | false => exact ⟨false, tv_ok so rx e, ρ1, env, S1, m.step st so, p1⟩⟩
theorem je_not (ha : JE X ts W a ga) : JE X ts W (.UnaryOp .Not a pos) (notE ga) :=
  je_of (pe_notT ha) fun σ H Q ⟨ρ, env, S, m, p⟩ => ⟨ρ, env, S, m, Post.next (f := fun d S1 => lift ((tv S1 d).map fun b => PyData.bool (!b)) S1) p fun x ρ1 H1 d S1 _ st so rx p1 => by
    cases e : tv S1 d with
    | none => rw [e] at p1; exact p1.elim
    | some c => rw [e] at p1; exact ⟨c, tv_ok so rx e, Post.done p1 so (.bl _)⟩⟩
/-- and, or in a test -/
abbrev JW (X : Cx) (ts : List Addr) (W : WX) (e : Expr) (g : Tx) : Prop := PW X e (tT X.K X.mg ts W g)
theorem jw_of {e : Expr} {t : TT} {g : Tx} (h : PW X e t) (k : ∀ σ H Q, tT X.K X.mg ts W g σ H Q → t σ H Q) : JW X ts W e g := ⟨fun wh pins s σ H Q I q => h.run wh pins s σ H Q I (k σ H Q q)⟩
theorem jw_and1 (h : JT X ts W a ta) : JW X ts W (.BoolOp .And [a] pos) ta := jw_of (pw_and1 h) fun _ _ _ q => q
theorem jw_or1 (h : JT X ts W a ta) : JW X ts W (.BoolOp .Or [a] pos) ta := jw_of (pw_or1 h) fun _ _ _ q => q
theorem jw_and (ha : JT X ts W a ta) (hb : JW X ts W (.BoolOp .And (b :: rest) pos) tb) : JW X ts W (.BoolOp .And (a :: b :: rest) pos) (andT ta tb) :=
  jw_of (pw_and ha hb) fun σ H Q ⟨ρ, env, S, m, p⟩ => ⟨ρ, env, S, m, Post.next (f := fun c S1 => if c = true then tb env S1 else .ok false S1) p fun x ρ1 H1 c S1 _ st so rx p1 => by
    subst rx
    cases x with
    | true => exact ⟨ρ1, env, S1, m.step st so, p1⟩
    | false => exact Post.done p1 so rfl⟩
theorem jw_or (ha : JT X ts W a ta) (hb : JW X ts W (.BoolOp .Or (b :: rest) pos) tb) : JW X ts W (.BoolOp .Or (a :: b :: rest) pos) (orT ta tb) :=
  jw_of (pw_or ha hb) fun σ H Q ⟨ρ, env, S, m, p⟩ => ⟨ρ, env, S, m, Post.next (f := fun c S1 => if c = true then .ok true S1 else tb env S1) p fun x ρ1 H1 c S1 _ st so rx p1 => by
    subst rx
    cases x with
    | true => exact Post.done p1 so rfl
    | false => exact ⟨ρ1, env, S1, m.step st so, p1⟩⟩
theorem jt_w {e : Expr} (h : JW X ts W e ta) : JT X ts W e ta := h.pt
theorem jt_not (ha : JT X ts W a ta) : JT X ts W (.UnaryOp .Not a pos) (notT ta) :=
  jt_of (pt_not ha) fun σ H Q ⟨ρ, env, S, m, p⟩ => ⟨ρ, env, S, m, Post.next (f := fun c S1 => .ok (!c) S1) p fun x ρ1 H1 c S1 _ st so rx p1 => by
    subst rx; exact Post.done p1 so rfl⟩
theorem je_ite {c : Expr} {tc : Tx} (hc : JT X ts W c tc) (ha : JE X ts W a ga) (hb : JE X ts W b gb) : JE X ts W (.IfExp c a b pos) (iteE tc ga gb) :=
  je_of (pe_ifExp hc ha hb) fun σ H Q ⟨ρ, env, S, m, p⟩ => ⟨ρ, env, S, m, Post.next (f := fun k S1 => if k = true then ga env S1 else gb env S1) p fun x ρ1 H1 c S1 _ st so rx p1 => by
    subst rx
    cases x with
    | true => exact ⟨ρ1, env, S1, m.step st so, p1⟩
    | false => exact ⟨ρ1, env, S1, m.step st so, p1⟩⟩
end

/-! ### operators -/
def rD (X : Cx) (f : Sto → D → D → Option D) : R2 := fun x y H Q => ∃ ρ dx dy S d, StoOk X.K H ρ S ∧ Rp X.K H ρ x dx ∧ Rp X.K H ρ y dy ∧ f S dx dy = some d ∧ ∀ v H', Stp ρ H ρ H' → StoOk X.K H' ρ S → Rp X.K H' ρ v d → Q v H'
def rB (X : Cx) (f : Sto → D → D → Option Bool) : R2 := fun x y H Q => ∃ ρ dx dy S b, StoOk X.K H ρ S ∧ Rp X.K H ρ x dx ∧ Rp X.K H ρ y dy ∧ f S dx dy = some b ∧ Q (.bl b) H
def bin (f : Sto → D → D → Option D) (a b : Ex) : Ex := fun env S => (a env S).bind fun x S1 => (b env S1).bind fun y S2 => lift (f S2 x y) S2
def cmp (f : Sto → D → D → Option Bool) (a b : Ex) : Ex := bin (fun S x y => (f S x y).map PyData.bool) a b
def cmpT (f : Sto → D → D → Option Bool) (a b : Ex) : Tx := fun env S => (a env S).bind fun x S1 => (b env S1).bind fun y S2 => lift (f S2 x y) S2
def chn (f f' : Sto → D → D → Option Bool) (a b c : Ex) : Ex := fun env S => (a env S).bind fun x S1 => (b env S1).bind fun y S2 => match f S2 x y with
  | some true => (c env S2).bind fun z S3 => lift ((f' S3 y z).map PyData.bool) S3
  | some false => .ok (PyData.bool false) S2
  | none => .no
def chnT (f f' : Sto → D → D → Option Bool) (a b c : Ex) : Tx := fun env S => (a env S).bind fun x S1 => (b env S1).bind fun y S2 => match f S2 x y with
  | some true => (c env S2).bind fun z S3 => lift (f' S3 y z) S3
  | some false => .ok false S2
  | none => .no
section
variable {X : Cx} {ts : List Addr} {W : WX} {pos : Pos} {a b c : Expr} {ga gb gc : Ex}
theorem je_bin {op : Operator} {f : Sto → D → D → Option D} (ho : OpR X (binaryOp op) (rD X f)) (ha : JE X ts W a ga) (hb : JE X ts W b gb) : JE X ts W (.BinOp a op b pos) (bin f ga gb) :=
  je_of (pe_op ho ha hb) fun σ H Q ⟨ρ, env, S, m, p⟩ => ⟨ρ, env, S, m, Post.next (f := fun x S1 => (gb env S1).bind fun y S2 => lift (f S2 x y) S2) p fun x ρ1 H1 dx S1 _ st so rx p1 =>
    ⟨ρ1, env, S1, m.step st so, Post.next (f := fun y S2 => lift (f S2 dx y) S2) p1 fun y ρ2 H2 dy S2 _ st2 so2 ry p2 => by
      cases e : f S2 dx dy with
      | none => rw [e] at p2; exact p2.elim
      | some d => rw [e] at p2; exact ⟨ρ2, dx, dy, S2, d, so2, rx.step st2, ry, e, fun v H' st so r => p2 v ρ2 H' st so r⟩⟩⟩
theorem je_cmp {op : CmpOp} {f : Sto → D → D → Option Bool} (ho : OpR X (compareOp op) (rB X f)) (ha : JE X ts W a ga) (hb : JE X ts W b gb) (hm : behindInMarks op b = false := by rfl) : JE X ts W (.Compare a [op] [b] pos) (cmp f ga gb) :=
  je_of (pe_cmpR ho ha hb hm) fun σ H Q ⟨ρ, env, S, m, p⟩ => ⟨ρ, env, S, m, Post.next (f := fun x S1 => (gb env S1).bind fun y S2 => lift ((f S2 x y).map PyData.bool) S2) p fun x ρ1 H1 dx S1 _ st so rx p1 =>
    ⟨ρ1, env, S1, m.step st so, Post.next (f := fun y S2 => lift ((f S2 dx y).map PyData.bool) S2) p1 fun y ρ2 H2 dy S2 _ st2 so2 ry p2 => by
      cases e : f S2 dx dy with
      | none => rw [e] at p2; exact p2.elim
      | some d => rw [e] at p2; exact ⟨ρ2, dx, dy, S2, d, so2, rx.step st2, ry, e, Post.done p2 so2 (.bl _)⟩⟩⟩
theorem jt_cmp {op : CmpOp} {f : Sto → D → D → Option Bool} (ho : OpR X (compareOp op) (rB X f)) (ha : JE X ts W a ga) (hb : JE X ts W b gb) (hm : behindInMarks op b = false := by rfl) : JT X ts W (.Compare a [op] [b] pos) (cmpT f ga gb) :=
  jt_of (pt_cmpR ho ha hb hm) fun σ H Q ⟨ρ, env, S, m, p⟩ => ⟨ρ, env, S, m, Post.next (f := fun x S1 => (gb env S1).bind fun y S2 => lift (f S2 x y) S2) p fun x ρ1 H1 dx S1 _ st so rx p1 =>
    ⟨ρ1, env, S1, m.step st so, Post.next (f := fun y S2 => lift (f S2 dx y) S2) p1 fun y ρ2 H2 dy S2 _ st2 so2 ry p2 => by
      cases e : f S2 dx dy with
      | none => rw [e] at p2; exact p2.elim
      | some d => rw [e] at p2; exact ⟨ρ2, dx, dy, S2, d, so2, rx.step st2, ry, e, d, rfl, Post.done p2 so2 rfl⟩⟩⟩
theorem je_chn {op op' : CmpOp} {f f' : Sto → D → D → Option Bool} (ho : OpR X (compareOp op) (rB X f)) (ho' : OpR X (compareOp op') (rB X f')) (ha : JE X ts W a ga) (hb : JE X ts W b gb) (hc : JE X ts W c gc)
    (h1 : lastMarks [op, op'] [b, c] = false := by rfl) : JE X ts W (.Compare a [op, op'] [b, c] pos) (chn f f' ga gb gc) :=
  je_of (pe_chain ho ho' ha hb hc h1) fun σ H Q ⟨ρ, env, S, m, p⟩ => ⟨ρ, env, S, m, Post.next (f := fun x S1 => (gb env S1).bind fun y S2 => match f S2 x y with | some true => (gc env S2).bind fun z S3 => lift ((f' S3 y z).map PyData.bool) S3 | some false => .ok (PyData.bool false) S2 | none => .no) p fun x ρ1 H1 dx S1 _ st so rx p1 =>
    ⟨ρ1, env, S1, m.step st so, Post.next (f := fun y S2 => match f S2 dx y with | some true => (gc env S2).bind fun z S3 => lift ((f' S3 y z).map PyData.bool) S3 | some false => .ok (PyData.bool false) S2 | none => .no) p1 fun y ρ2 H2 dy S2 _ st2 so2 ry p2 => by
      cases e : f S2 dx dy with
      | none => rw [e] at p2; exact p2.elim
      | some d =>
        rw [e] at p2
        refine ⟨ρ2, dx, dy, S2, d, so2, rx.step st2, ry, e, d, rfl, ?_⟩
        cases d with
        | false => exact Post.done p2 so2 (.bl _)
        | true =>
          refine ⟨ρ2, env, S2, (m.step st so).step st2 so2, Post.next (f := fun z S3 => lift ((f' S3 dy z).map PyData.bool) S3) p2 fun z ρ3 H3 dz S3 _ st3 so3 rz p3 => ?_⟩
          cases e' : f' S3 dy dz with
          | none => rw [e'] at p3; exact p3.elim
          | some d' => rw [e'] at p3; exact ⟨ρ3, dy, dz, S3, d', so3, ry.step st3, rz, e', Post.done p3 so3 (.bl _)⟩⟩⟩
theorem jt_chn {op op' : CmpOp} {f f' : Sto → D → D → Option Bool} (ho : OpR X (compareOp op) (rB X f)) (ho' : OpR X (compareOp op') (rB X f')) (ha : JE X ts W a ga) (hb : JE X ts W b gb) (hc : JE X ts W c gc)
    (h1 : lastMarks [op, op'] [b, c] = false := by rfl) : JT X ts W (.Compare a [op, op'] [b, c] pos) (chnT f f' ga gb gc) :=
  jt_of (pt_chain ho ho' ha hb hc h1) fun σ H Q ⟨ρ, env, S, m, p⟩ => ⟨ρ, env, S, m, Post.next (f := fun x S1 => (gb env S1).bind fun y S2 => match f S2 x y with | some true => (gc env S2).bind fun z S3 => lift (f' S3 y z) S3 | some false => .ok false S2 | none => .no) p fun x ρ1 H1 dx S1 _ st so rx p1 =>
    ⟨ρ1, env, S1, m.step st so, Post.next (f := fun y S2 => match f S2 dx y with | some true => (gc env S2).bind fun z S3 => lift (f' S3 y z) S3 | some false => .ok false S2 | none => .no) p1 fun y ρ2 H2 dy S2 _ st2 so2 ry p2 => by
      cases e : f S2 dx dy with
      | none => rw [e] at p2; exact p2.elim
      | some d =>
        rw [e] at p2
        refine ⟨ρ2, dx, dy, S2, d, so2, rx.step st2, ry, e, d, rfl, ?_⟩
        cases d with
        | false => exact ⟨false, rfl, Post.done p2 so2 rfl⟩
        | true =>
          refine ⟨ρ2, env, S2, (m.step st so).step st2 so2, Post.next (f := fun z S3 => lift (f' S3 dy z) S3) p2 fun z ρ3 H3 dz S3 _ st3 so3 rz p3 => ?_⟩
          cases e' : f' S3 dy dz with
          | none => rw [e'] at p3; exact p3.elim
          | some d' => rw [e'] at p3; exact ⟨ρ3, dy, dz, S3, d', so3, ry.step st3, rz, e', d', rfl, Post.done p3 so3 rfl⟩⟩⟩
end
end Cor

/-! Core4: operators. -/
namespace Cor
open PySem PySem.Spec PyProof.Rows L2

/-! ### arithmetic -/
def addD (_ : Sto) : D → D → Option D
  | .int i, .int j => some (.int (i + j))
  | .str x, .str y => if x.length + y.length ≤ sizeLine then some (.str (x ++ y)) else none
  | .tuple xs, .tuple ys => if xs.length + ys.length ≤ sizeLine then some (.tuple (xs ++ ys)) else none
  | _, _ => none
def addI (_ : Sto) : D → D → Option D
  | .int i, .int j => some (.int (i + j))
  | _, _ => none
def subD (_ : Sto) : D → D → Option D
  | .int i, .int j => some (.int (i - j))
  | _, _ => none
/-- two factors of together less than a hundred million bits -/
def MulFits (i j : Int) : Prop := i.natAbs.log2 + j.natAbs.log2 < 100000000
instance (i j : Int) : Decidable (MulFits i j) := by unfold MulFits; infer_instance
theorem MulFits.ok {i j : Int} (h : MulFits i j) : IntMulOk i j := by
  have b : ∀ x : Int, Builtin.Int.intBits x ≤ x.natAbs.log2 + 1 := fun x => by
    unfold Builtin.Int.intBits
    split <;> omega
  have h1 := b i
  have h2 := b j
  have h3 : i.natAbs.log2 + j.natAbs.log2 < 100000000 := h
  have e : bitsLine = 134217728 := by decide
  unfold IntMulOk
  intro z
  rw [Bool.and_eq_true] at z
  have z2 := z.2
  unfold Builtin.Int.intTooBig at z2
  have z3 := of_decide_eq_true z2
  rw [e] at z3
  omega
def mulD (_ : Sto) : D → D → Option D
  | .int i, .int j => if MulFits i j then some (.int (i * j)) else none
  | .tuple xs, .int k => if xs ≠ [] ∧ 2 ≤ k ∧ k ≤ 1000 ∧ xs.length ≤ 1000 then some (.tuple (List.replicate k.toNat xs).flatten) else none
  | _, _ => none
def fdivD (_ : Sto) : D → D → Option D
  | .int i, .int j => if 0 < j ∧ j < 1073741824 then some (.int (i / j)) else none
  | _, _ => none
def modD (_ : Sto) : D → D → Option D
  | .int i, .int j => if 0 < j then some (.int (i % j)) else none
  | _, _ => none
def powD (_ : Sto) : D → D → Option D
  | .int i, .int j => if 0 ≤ j ∧ j ≤ 1000000 ∧ i.natAbs < 2 ^ 64 then some (.int (i ^ j.toNat)) else none
  | _, _ => none
def xorD (_ : Sto) : D → D → Option D
  | .int i, .int j => some (.int (Builtin.bitXor i j))
  | _, _ => none
def shlD (_ : Sto) : D → D → Option D
  | .int i, .int j => if 0 ≤ j ∧ j ≤ 1000000 ∧ i.natAbs < 2 ^ 64 then some (.int (i * 2 ^ j.toNat)) else none
  | _, _ => none
def negD (_ : Sto) : D → Option D
  | .int i => some (.int (-i))
  | _ => none
section
variable {X : Cx} {ts : List Addr} {W : WX} {k : Nat}
theorem RpL.repl {K : PySem.W.Frag} {H : Hp} {ρ : Rho} {xs : List V} {ds : List D} (r : RpL K H ρ xs ds) : ∀ n : Nat, RpL K H ρ (List.replicate n xs).flatten (List.replicate n ds).flatten
  | 0 => .nil
  | n + 1 => by rw [List.replicate_succ, List.replicate_succ, List.flatten_cons, List.flatten_cons]; exact r.append (RpL.repl r n)
theorem ifsome {α : Type} {c : Prop} [Decidable c] {x d : α} (h : (if c then some x else none) = some d) : c ∧ x = d := by
  by_cases z : c
  · rw [if_pos z] at h; exact ⟨z, Option.some.inj h⟩
  · rw [if_neg z] at h; cases h
theorem o_add : OpR X (binaryOp .Add) (rD X addD) := by
  intro pins s σ H x y v u Q I rx ry h
  obtain ⟨ρ, dx, dy, S, d, so, px, py, e, q⟩ := h
  cases dx <;> cases dy <;> first | (cases e; done) | skip
  · cases px; cases py; cases e
    exact op_add pins s σ H _ _ v u Q I rx ry ⟨_, _, rfl, rfl, q _ H .refl so (.int _)⟩
  · cases px; cases py
    obtain ⟨z, rfl⟩ := ifsome e
    exact op_add_str pins s σ H _ _ v u Q I rx ry ⟨_, _, rfl, rfl, z, q _ H .refl so (.str _)⟩
  · cases px with
    | tup h1 r1 =>
      cases py with
      | tup h2 r2 =>
        obtain ⟨z, rfl⟩ := ifsome e
        have l1 := r1.length
        have l2 := r2.length
        refine op_catA pins s σ H _ _ v u Q I rx ry ⟨_, _, _, _, rfl, rfl, h1.sq, h2.sq, by omega, fun e => ?_, fun _ e => ?_, fun _ _ p hp => ?_⟩
        · subst e; cases r1
          exact q _ H .refl so (.tup h2 r2)
        · subst e; cases r2
          exact q _ H .refl so (.tup h1 (by rw [List.append_nil]; exact r1))
        · exact q _ _ (stp_new hp) (so.new_obj hp) (.tup ⟨upd_same, so.new hp⟩ ((r1.append r2).step (stp_new hp)))
theorem o_sub : OpR X (binaryOp .Sub) (rD X subD) := by
  intro pins s σ H x y v u Q I rx ry h
  obtain ⟨ρ, dx, dy, S, d, so, px, py, e, q⟩ := h
  cases dx <;> cases dy <;> first | (cases e; done) | skip
  cases px; cases py; cases e
  exact op_sub pins s σ H _ _ v u Q I rx ry ⟨_, _, rfl, rfl, q _ H .refl so (.int _)⟩
theorem o_mul : OpR X (binaryOp .Mult) (rD X mulD) := by
  intro pins s σ H x y v u Q I rx ry h
  obtain ⟨ρ, dx, dy, S, d, so, px, py, e, q⟩ := h
  cases dx <;> cases dy <;> first | (cases e; done) | skip
  · cases px; cases py
    obtain ⟨z, rfl⟩ := ifsome e
    obtain ⟨t, rfl⟩ := rx
    obtain ⟨t', rfl⟩ := ry
    exact mul_int ⟨.int _, H, I.tok _, ⟨_, rfl⟩, q _ H .refl so (.int _)⟩ z.ok
  · cases py
    cases px with
    | tup h1 r1 =>
      obtain ⟨⟨z0, z1, z2, z3⟩, rfl⟩ := ifsome e
      have l1 := r1.length
      refine op_repT pins s σ H _ _ v u Q I rx ry ⟨_, _, _, rfl, rfl, h1.sq, fun e => z0 ?_, z1, z2, by omega, fun p hp => ?_⟩
      · subst e; cases r1; rfl
      · exact q _ _ (stp_new hp) (so.new_obj hp) (.tup ⟨upd_same, so.new hp⟩ ((r1.repl _).step (stp_new hp)))
theorem o_fdiv : OpR X (binaryOp .FloorDiv) (rD X fdivD) := by
  intro pins s σ H x y v u Q I rx ry h
  obtain ⟨ρ, dx, dy, S, d, so, px, py, e, q⟩ := h
  cases dx <;> cases dy <;> first | (cases e; done) | skip
  cases px; cases py
  obtain ⟨z, rfl⟩ := ifsome e
  exact op_fdiv pins s σ H _ _ v u Q I rx ry ⟨_, _, rfl, rfl, z, q _ H .refl so (.int _)⟩
theorem o_mod : OpR X (binaryOp .Mod) (rD X modD) := by
  intro pins s σ H x y v u Q I rx ry h
  obtain ⟨ρ, dx, dy, S, d, so, px, py, e, q⟩ := h
  cases dx <;> cases dy <;> first | (cases e; done) | skip
  cases px; cases py
  obtain ⟨z, rfl⟩ := ifsome e
  exact op_mod pins s σ H _ _ v u Q I rx ry ⟨_, _, rfl, rfl, z, q _ H .refl so (.int _)⟩
theorem o_pow : OpR X (binaryOp .Pow) (rD X powD) := by
  intro pins s σ H x y v u Q I rx ry h
  obtain ⟨ρ, dx, dy, S, d, so, px, py, e, q⟩ := h
  cases dx <;> cases dy <;> first | (cases e; done) | skip
  cases px; cases py
  obtain ⟨z, rfl⟩ := ifsome e
  exact op_pow pins s σ H _ _ v u Q I rx ry ⟨_, _, rfl, rfl, z, q _ H .refl so (.int _)⟩
theorem o_xor : OpR X (binaryOp .BitXor) (rD X xorD) := by
  intro pins s σ H x y v u Q I rx ry h
  obtain ⟨ρ, dx, dy, S, d, so, px, py, e, q⟩ := h
  cases dx <;> cases dy <;> first | (cases e; done) | skip
  cases px; cases py; cases e
  exact op_xor pins s σ H _ _ v u Q I rx ry ⟨_, _, rfl, rfl, q _ H .refl so (.int _)⟩
theorem o_shl : OpR X (binaryOp .LShift) (rD X shlD) := by
  intro pins s σ H x y v u Q I rx ry h
  obtain ⟨ρ, dx, dy, S, d, so, px, py, e, q⟩ := h
  cases dx <;> cases dy <;> first | (cases e; done) | skip
  cases px; cases py
  obtain ⟨z, rfl⟩ := ifsome e
  exact op_shl pins s σ H _ _ v u Q I rx ry ⟨_, _, rfl, rfl, z, q _ H .refl so (.int _)⟩
/-- a unary operator -/
def un (f : Sto → D → Option D) (a : Ex) : Ex := fun env S => (a env S).bind fun x S1 => lift (f S1 x) S1
theorem je_neg {a : Expr} {ga : Ex} {pos : Pos} (ha : JE X ts W a ga) : JE X ts W (.UnaryOp .USub a pos) (un negD ga) :=
  je_of (pe_un un_neg ha) fun σ H Q ⟨ρ, env, S, m, p⟩ => ⟨ρ, env, S, m, Post.next (f := fun x S1 => lift (negD S1 x) S1) p fun x ρ1 H1 dx S1 _ st so rx p1 => by
    cases dx <;> first | exact p1.elim | skip
    cases rx
    exact ⟨_, rfl, Post.done p1 so (.int _)⟩⟩
end

/-! ### comparisons -/
def okD (x : D) : Bool := flat x && SeqAt.shaped x
def eqB (S : Sto) (x y : D) : Option Bool := match der S x, der S y with
  | some a, some b => if okD a && okD b then some (PyData.eqv a b) else none
  | _, _ => none
def neB (S : Sto) (x y : D) : Option Bool := (eqB S x y).map (!·)
/-- < of alike data -/
def ltB (S : Sto) (x y : D) : Option Bool := match der S x, der S y with
  | some a, some b => if okD a && okD b && PySem.W.alike a b && (match a with | .none => false | _ => true) then some (PySem.W.dataLt a b) else none
  | _, _ => none
def gtB (S : Sto) (x y : D) : Option Bool := match der S x, der S y with
  | some a, some b => if okD a && okD b && PySem.W.alike a b && (match a with | .none => false | _ => true) then some (PySem.W.dataLt b a) else none
  | _, _ => none
def leB (S : Sto) (x y : D) : Option Bool := (gtB S x y).map (!·)
def geB (S : Sto) (x y : D) : Option Bool := (ltB S x y).map (!·)
def isNon : D → Bool
  | .none => true
  | _ => false
def isB (_ : Sto) (x y : D) : Option Bool := match y with
  | .none => some (isNon x)
  | .bool b => match x with
    | .bool a => some (decide (a = b))
    | _ => none
  | _ => none
def isnB (S : Sto) (x y : D) : Option Bool := (isB S x y).map (!·)
section
variable {K : PySem.W.Frag} {H : Hp} {ρ : Rho} {S : Sto}
theorem notnone {a : D} (h : (match a with | .none => false | _ => true) = true) : a ≠ .none := by
  intro e; subst e; cases h
theorem isnone {v : V} {d : D} (r : Rp K H ρ v d) : decide (v = .non) = isNon d := by
  cases d <;> cases r <;> rfl
end
section
variable {X : Cx} {ts : List Addr} {W : WX} {k : Nat}
theorem o_eq (hr : Room k X.A) : OpR X (compareOp .Eq) (rB X eqB) := by
  intro pins s σ H x y v u Q I rx ry h
  obtain ⟨ρ, dx, dy, S, b, so, px, py, e, q⟩ := h
  unfold eqB at e
  cases e1 : der S dx with
  | none => rw [e1] at e; cases e
  | some a =>
    cases e2 : der S dy with
    | none => rw [e1, e2] at e; cases e
    | some c =>
      rw [e1, e2] at e
      obtain ⟨z, rfl⟩ := ifsome e
      simp only [okD, Bool.and_eq_true] at z
      obtain ⟨as, r1⟩ := Dp.reads I a x v (der_ok so px e1 z.1.1) rx
      obtain ⟨bs, r2⟩ := Dp.reads I c y u (der_ok so py e2 z.2.1) ry
      exact eq_dataH r1 r2 z.1.2 z.2.2 hr.units ⟨.bl _, H, I, rfl, q⟩
theorem o_ne (hr : Room k X.A) : OpR X (compareOp .NotEq) (rB X neB) := by
  intro pins s σ H x y v u Q I rx ry h
  obtain ⟨ρ, dx, dy, S, b, so, px, py, e, q⟩ := h
  unfold neB at e
  cases eg : eqB S dx dy with
  | none => rw [eg] at e; cases e
  | some b' =>
    rw [eg] at e
    cases e
    unfold eqB at eg
    cases e1 : der S dx with
    | none => rw [e1] at eg; cases eg
    | some a =>
      cases e2 : der S dy with
      | none => rw [e1, e2] at eg; cases eg
      | some c =>
        rw [e1, e2] at eg
        obtain ⟨z, rfl⟩ := ifsome eg
        simp only [okD, Bool.and_eq_true] at z
        obtain ⟨as, r1⟩ := Dp.reads I a x v (der_ok so px e1 z.1.1) rx
        obtain ⟨bs, r2⟩ := Dp.reads I c y u (der_ok so py e2 z.2.1) ry
        exact ne_dataH r1 r2 z.1.2 z.2.2 hr.units ⟨.bl _, H, I, rfl, q⟩
theorem cmp_room {a b : D} (hr : Room k X.A) (h : SeqAt.shaped a = true) : X.A.units + min a.depth b.depth < cLine := SeqAt.room_of_shaped h hr.units
theorem ord_facts {c d : D} {r : Bool} {b : Bool} (e : (if okD c && okD d && PySem.W.alike c d && (match c with | .none => false | _ => true) then some r else none) = some b) :
    flat c = true ∧ SeqAt.shaped c = true ∧ flat d = true ∧ PySem.W.alike c d = true ∧ c ≠ .none ∧ r = b := by
  obtain ⟨z, rfl⟩ := ifsome e
  simp only [okD, Bool.and_eq_true] at z
  exact ⟨z.1.1.1.1, z.1.1.1.2, z.1.1.2.1, z.1.2, notnone z.2, rfl⟩
theorem o_lt (hr : Room k X.A) : OpR X (compareOp .Lt) (rB X ltB) := by
  intro pins s σ H x y v u Q I rx ry h
  obtain ⟨ρ, dx, dy, S, b, so, px, py, e, q⟩ := h
  unfold ltB at e
  cases e1 : der S dx with
  | none => rw [e1] at e; cases e
  | some a =>
    cases e2 : der S dy with
    | none => rw [e1, e2] at e; cases e
    | some c =>
      rw [e1, e2] at e
      obtain ⟨f1, s1, f2, al, nn, rfl⟩ := ord_facts e
      obtain ⟨as, r1⟩ := Dp.reads I a x v (der_ok so px e1 f1) rx
      obtain ⟨bs, r2⟩ := Dp.reads I c y u (der_ok so py e2 f2) ry
      exact PySem.W.lt_data r1 r2 al nn (cmp_room hr s1) ⟨.bl _, H, I, rfl, q⟩
theorem o_gt (hr : Room k X.A) : OpR X (compareOp .Gt) (rB X gtB) := by
  intro pins s σ H x y v u Q I rx ry h
  obtain ⟨ρ, dx, dy, S, b, so, px, py, e, q⟩ := h
  unfold gtB at e
  cases e1 : der S dx with
  | none => rw [e1] at e; cases e
  | some a =>
    cases e2 : der S dy with
    | none => rw [e1, e2] at e; cases e
    | some c =>
      rw [e1, e2] at e
      obtain ⟨f1, s1, f2, al, nn, rfl⟩ := ord_facts e
      obtain ⟨as, r1⟩ := Dp.reads I a x v (der_ok so px e1 f1) rx
      obtain ⟨bs, r2⟩ := Dp.reads I c y u (der_ok so py e2 f2) ry
      exact PySem.W.gt_data r1 r2 al nn (cmp_room hr s1) ⟨.bl _, H, I, rfl, q⟩
theorem o_le (hr : Room k X.A) : OpR X (compareOp .LtE) (rB X leB) := by
  intro pins s σ H x y v u Q I rx ry h
  obtain ⟨ρ, dx, dy, S, b, so, px, py, e, q⟩ := h
  unfold leB at e
  cases eg : gtB S dx dy with
  | none => rw [eg] at e; cases e
  | some b' =>
    rw [eg] at e
    cases e
    unfold gtB at eg
    cases e1 : der S dx with
    | none => rw [e1] at eg; cases eg
    | some a =>
      cases e2 : der S dy with
      | none => rw [e1, e2] at eg; cases eg
      | some c =>
        rw [e1, e2] at eg
        obtain ⟨f1, s1, f2, al, nn, rfl⟩ := ord_facts eg
        obtain ⟨as, r1⟩ := Dp.reads I a x v (der_ok so px e1 f1) rx
        obtain ⟨bs, r2⟩ := Dp.reads I c y u (der_ok so py e2 f2) ry
        exact PySem.W.le_data r1 r2 al nn (cmp_room hr s1) ⟨.bl _, H, I, rfl, q⟩
theorem o_ge (hr : Room k X.A) : OpR X (compareOp .GtE) (rB X geB) := by
  intro pins s σ H x y v u Q I rx ry h
  obtain ⟨ρ, dx, dy, S, b, so, px, py, e, q⟩ := h
  unfold geB at e
  cases eg : ltB S dx dy with
  | none => rw [eg] at e; cases e
  | some b' =>
    rw [eg] at e
    cases e
    unfold ltB at eg
    cases e1 : der S dx with
    | none => rw [e1] at eg; cases eg
    | some a =>
      cases e2 : der S dy with
      | none => rw [e1, e2] at eg; cases eg
      | some c =>
        rw [e1, e2] at eg
        obtain ⟨f1, s1, f2, al, nn, rfl⟩ := ord_facts eg
        obtain ⟨as, r1⟩ := Dp.reads I a x v (der_ok so px e1 f1) rx
        obtain ⟨bs, r2⟩ := Dp.reads I c y u (der_ok so py e2 f2) ry
        exact PySem.W.ge_data r1 r2 al nn (cmp_room hr s1) ⟨.bl _, H, I, rfl, q⟩
theorem o_is : OpR X (compareOp .Is) (rB X isB) := by
  intro pins s σ H x y v u Q I rx ry h
  obtain ⟨ρ, dx, dy, S, b, so, px, py, e, q⟩ := h
  cases dy <;> first | (cases e; done) | skip
  · cases py
    refine op_isN pins s σ H _ _ v u Q I rx ry ⟨rfl, ?_⟩
    rw [isnone px]
    cases e
    exact q
  · cases py
    cases dx <;> first | (cases e; done) | skip
    cases px; cases e
    exact op_isBl pins s σ H _ _ v u Q I rx ry ⟨_, _, rfl, rfl, q⟩
theorem o_isn : OpR X (compareOp .IsNot) (rB X isnB) := by
  intro pins s σ H x y v u Q I rx ry h
  obtain ⟨ρ, dx, dy, S, b, so, px, py, e, q⟩ := h
  cases dy <;> first | (cases e; done) | skip
  · cases py
    refine op_notN pins s σ H _ _ v u Q I rx ry ⟨rfl, ?_⟩
    rw [isnone px]
    cases e
    exact q
  · cases py
    cases dx <;> first | (cases e; done) | skip
    cases px; cases e
    exact op_notBl pins s σ H _ _ v u Q I rx ry ⟨_, _, rfl, rfl, q⟩
end
end Cor

/-! Core5: containers, displays, calls of one's own defs and of built-ins. -/
namespace Cor
open PySem PySem.Spec PyProof.Rows L2

/-! ### in -/
/-- a key of a dict as data -/
def keyD : D → Option Key
  | .int i => some (.inl i)
  | .str x => some (.inr x)
  | _ => none
def keysD : List D → Option (List Key)
  | [] => some []
  | d :: ds => match keyD d, keysD ds with
    | some k, some ks => some (k :: ks)
    | _, _ => none
def valD {κ : Type} [DecidableEq κ] (kvs : List (κ × D)) (k : κ) : Option D := (kvs.find? fun kv => decide (kv.1 = k)).map (·.2)
/-- what a dict's cell gives: some none where the key is not there -/
def getD (c : Cell) (k : D) : Option (Option D) := match c with
  | .dK kvs => match keyD k with
    | some q => some (valD kvs q)
    | none => none
  | .dT kvs => match k with
    | .tuple ks => match keysD ks with
      | some q => some (valD kvs q)
      | none => none
    | _ => none
  | .lst _ => none
/-- the dict that d is -/
def cellD (S : Sto) (d : D) : Option Cell := match refOf d with
  | some n => S[n]?
  | none => none
def inSeq (x : D) (ys : List D) : Option Bool := if okD x && okD (.list ys) then some (ys.any fun z => PyData.eqv z x) else none
def inB (S : Sto) (x y : D) : Option Bool := match y with
  | .list ys => inSeq x ys
  | .tuple ys => inSeq x ys
  | .str z => match x with
    | .str t => match t.cps.toList with
      | [c] => some (decide (c ∈ z.cps.toList))
      | _ => none
    | _ => none
  | .dict kvs => match cellD S (.dict kvs) with
    | some (.lst ys) => inSeq x ys
    | some c => (getD c x).map (·.isSome)
    | none => none
  | _ => none
def ninB (S : Sto) (x y : D) : Option Bool := (inB S x y).map (!·)
section
variable {K : PySem.W.Frag} {H : Hp} {ρ : Rho} {S : Sto}
theorem keyD_ok {v : V} {d : D} {k : Key} (r : Rp K H ρ v d) (e : keyD d = some k) : v = kV k := by
  cases d <;> first | (cases e; done) | skip
  · cases r; cases e; rfl
  · cases r; cases e; rfl
theorem keysD_ok : ∀ {ds : List D} {vs : List V} {ks : List Key}, RpL K H ρ vs ds → keysD ds = some ks → vs = ks.map kV
  | [], _, _, r, e => by cases r; cases e; rfl
  | d :: ds, _, ks, r, e => by
    cases r with
    | cons h t =>
      unfold keysD at e
      cases e1 : keyD d with
      | none => rw [e1] at e; cases e
      | some k =>
        cases e2 : keysD ds with
        | none => rw [e1, e2] at e; cases e
        | some r =>
          rw [e1, e2] at e
          cases e
          rw [List.map_cons, ← keyD_ok h e1, ← keysD_ok t e2]
theorem valD_ok {κ : Type} [DecidableEq κ] : ∀ {ys : List (κ × V)} {kvs : List (κ × D)} (k : κ), ys.map (·.1) = kvs.map (·.1) → RpL K H ρ (ys.map (·.2)) (kvs.map (·.2)) →
    (valV ys k = none ∧ valD kvs k = none) ∨ ∃ v d, valV ys k = some v ∧ valD kvs k = some d ∧ Rp K H ρ v d
  | [], [], k, _, _ => .inl ⟨rfl, rfl⟩
  | (a, v) :: ys, (b, d) :: kvs, k, e, r => by
    have e1 : a = b := (List.cons.inj e).1
    have e2 := (List.cons.inj e).2
    subst e1
    cases r with
    | cons h t =>
      by_cases z : a = k
      · exact .inr ⟨v, d, valV_pos (p := (a, v)) z, by unfold valD; rw [List.find?_cons_of_pos (by simpa using z)]; rfl, h⟩
      · rcases valD_ok k e2 t with ⟨q1, q2⟩ | ⟨v', d', q1, q2, q3⟩
        · exact .inl ⟨by rw [valV_neg (p := (a, v)) z]; exact q1, by unfold valD; rw [List.find?_cons_of_neg (by simpa using z)]; exact q2⟩
        · exact .inr ⟨v', d', by rw [valV_neg (p := (a, v)) z]; exact q1, by unfold valD; rw [List.find?_cons_of_neg (by simpa using z)]; exact q2, q3⟩
  | [], _ :: _, k, e, _ => by simp at e
  | _ :: _, [], k, e, _ => by simp at e
theorem dget_ok {a : Addr} {c : Cell} {v : V} {k : D} {o : Option D} (h : CellOk K H ρ a c) (r : Rp K H ρ v k) (e : getD c k = some o) :
    ∃ ov, DGet H a v ov ∧ ((ov = none ∧ o = none) ∨ ∃ x d, ov = some x ∧ o = some d ∧ Rp K H ρ x d) := by
  cases c with
  | lst ds => cases e
  | dK kvs =>
    obtain ⟨ys, e1, e2, e3⟩ := h
    unfold getD at e
    cases ek : keyD k with
    | none => rw [ek] at e; cases e
    | some q =>
      rw [ek] at e
      have e : some (valD kvs q) = some o := e
      cases e
      rw [keyD_ok r ek]
      refine ⟨valV ys q, .k e1, ?_⟩
      rcases valD_ok q e2 e3 with ⟨q1, q2⟩ | ⟨x, d, q1, q2, q3⟩
      · exact .inl ⟨q1, q2⟩
      · exact .inr ⟨x, d, q1, q2, q3⟩
  | dT kvs =>
    obtain ⟨ys, e1, e2, e3⟩ := h
    unfold getD at e
    cases k <;> first | (cases e; done) | skip
    rename_i ks
    cases r with
    | tup h1 h2 =>
      have e : (match keysD ks with | some q => some (valD kvs q) | none => none) = some o := e
      cases ek : keysD ks with
      | none => rw [ek] at e; cases e
      | some q =>
        rw [ek] at e
        cases e
        have hk := keysD_ok h2 ek
        subst hk
        refine ⟨valV ys q, .t e1 h1.1, ?_⟩
        rcases valD_ok q e2 e3 with ⟨q1, q2⟩ | ⟨x, d, q1, q2, q3⟩
        · exact .inl ⟨q1, q2⟩
        · exact .inr ⟨x, d, q1, q2, q3⟩
theorem cellD_ok {v : V} {d : D} {c : Cell} (o : StoOk K H ρ S) (r : Rp K H ρ v d) (e : cellD S d = some c) : ∃ n a, refOf d = some n ∧ v = .ref a ∧ ρ.c[n]? = some a ∧ S[n]? = some c ∧ CellOk K H ρ a c := by
  unfold cellD at e
  cases en : refOf d with
  | none => rw [en] at e; cases e
  | some n =>
    rw [en] at e
    have e : S[n]? = some c := e
    cases d <;> first | (cases en; done) | skip
    obtain ⟨a, rfl, q, h⟩ := r.cellAt o en e
    exact ⟨n, a, rfl, rfl, q, e, h⟩
end
section
variable {X : Cx} {k : Nat}
theorem room65 (hr : Room k X.A) : X.A.units + 65 < cLine := by have := hr.un; omega
theorem o_inBoth (hr : Room k X.A) : OpR X (compareOp .In) (rB X inB) ∧ OpR X (compareOp .NotIn) (rB X ninB) := by
  have seq : ∀ {pins : List (Addr × Obj)} {s : Shared} {σ : L2.St} {H : Hp} {x y : V} {v u : Value} {ρ : Rho} {dx : D} {ys : List D} {b : Bool} {Q : VK}, L2.Inv X pins σ H s → RelV x v → RelV y u → Rp X.K H ρ x dx →
      (flatL ys = true → Dp X.K H y (.list ys) ∨ Dp X.K H y (.tuple ys)) → inSeq dx ys = some b →
      (Q (.bl b) H → wpAny (model X.prog X.w) X.A (compareOp .In v u) (EP X pins σ Q) X.xe s) ∧ (Q (.bl (!b)) H → wpAny (model X.prog X.w) X.A (compareOp .NotIn v u) (EP X pins σ Q) X.xe s) := by
    intro pins s σ H x y v u ρ dx ys b Q I rx ry px py e
    obtain ⟨z, rfl⟩ := ifsome e
    simp only [okD, Bool.and_eq_true] at z
    obtain ⟨⟨f1, s1⟩, f2, s2⟩ := z
    have f2 : flatL ys = true := by simpa [flat] using f2
    obtain ⟨as, r1⟩ := Dp.reads I dx x v (px.dp f1) rx
    have hu : X.A.units + 1 + min (PyData.depthAll ys) dx.depth < cLine := room_in_shaped s1 (room65 hr)
    rcases py f2 with d | d
    · obtain ⟨bs, r2⟩ := Dp.reads I _ y u d ry
      exact ⟨fun q => SeqAt.in_list_reads r2 r1 (SeqAt.canLay_of_shaped s2) (SeqAt.canLay_of_shaped s1) hu ⟨.bl _, H, I, rfl, q⟩, fun q => SeqAt.notIn_list_reads r2 r1 (SeqAt.canLay_of_shaped s2) (SeqAt.canLay_of_shaped s1) hu ⟨.bl _, H, I, rfl, q⟩⟩
    · obtain ⟨bs, r2⟩ := Dp.reads I _ y u d ry
      exact ⟨fun q => SeqAt.in_tuple_reads r2 r1 (SeqAt.canLay_of_shaped s2) (SeqAt.canLay_of_shaped s1) hu ⟨.bl _, H, I, rfl, q⟩, fun q => SeqAt.notIn_tuple_reads r2 r1 (SeqAt.canLay_of_shaped s2) (SeqAt.canLay_of_shaped s1) hu ⟨.bl _, H, I, rfl, q⟩⟩
  have both : ∀ {pins : List (Addr × Obj)} {s : Shared} {σ : L2.St} {H : Hp} {x y : V} {v u : Value} {ρ : Rho} {S : Sto} {dx dy : D} {b : Bool} {Q : VK}, L2.Inv X pins σ H s → RelV x v → RelV y u → StoOk X.K H ρ S → Rp X.K H ρ x dx → Rp X.K H ρ y dy → inB S dx dy = some b →
      (Q (.bl b) H → wpAny (model X.prog X.w) X.A (compareOp .In v u) (EP X pins σ Q) X.xe s) ∧ (Q (.bl (!b)) H → wpAny (model X.prog X.w) X.A (compareOp .NotIn v u) (EP X pins σ Q) X.xe s) := by
    intro pins s σ H x y v u ρ S dx dy b Q I rx ry so px py e
    cases dy <;> first | (cases e; done) | skip
    · rename_i z
      cases py
      cases dx <;> first | (cases e; done) | skip
      rename_i t
      cases px
      have e : (match t.cps.toList with | [c] => some (decide (c ∈ z.cps.toList)) | _ => none) = some b := e
      match ht : t.cps.toList, e with
      | [c], e =>
        cases e
        have et : t = ⟨#[c]⟩ := by
          cases t with
          | mk a => simp only at ht; rw [← Array.toList_inj.mp (show a.toList = #[c].toList from ht)]
        subst et
        exact ⟨fun q => op_inS pins s σ H _ _ v u Q I rx ry ⟨c, z, rfl, rfl, q⟩, fun q => op_notInS pins s σ H _ _ v u Q I rx ry ⟨c, z, rfl, rfl, q⟩⟩
    · exact seq I rx ry px (fun f => .inl (py.dp (by simpa [flat] using f))) e
    · exact seq I rx ry px (fun f => .inr (py.dp (by simpa [flat] using f))) e
    · rename_i kvs
      have e : (match cellD S (.dict kvs) with | some (.lst ys) => inSeq dx ys | some c => (getD c dx).map (·.isSome) | none => none) = some b := e
      cases ec : cellD S (.dict kvs) with
      | none => rw [ec] at e; cases e
      | some c =>
        rw [ec] at e
        obtain ⟨n, a, _, rfl, q, hS, hc⟩ := cellD_ok so py ec
        have dct : ∀ {o : Option D}, getD c dx = some o → o.isSome = b → (Q (.bl b) H → wpAny (model X.prog X.w) X.A (compareOp .In v u) (EP X pins σ Q) X.xe s) ∧ (Q (.bl (!b)) H → wpAny (model X.prog X.w) X.A (compareOp .NotIn v u) (EP X pins σ Q) X.xe s) := by
          intro o eo eb
          obtain ⟨ov, g, h⟩ := dget_ok hc px eo
          have es : ov.isSome = b := by
            rcases h with ⟨rfl, rfl⟩ | ⟨x', d', rfl, rfl, _⟩ <;> exact eb
          cases ry
          have hu : X.A.units + 1 < cLine := by have := hr.un; omega
          exact ⟨fun q => d_in hu I g rx fun s3 I3 => ⟨.bl _, H, I3, rfl, by rw [es]; exact q⟩, fun q => d_notIn hu I g rx fun s3 I3 => ⟨.bl _, H, I3, rfl, by rw [es]; exact q⟩⟩
        cases c with
        | lst ys =>
          obtain ⟨xs, h1, h2⟩ := hc
          exact seq I rx ry px (fun f => .inl (.lst (SqL.of h1) (h2.dp f))) e
        | dK ks =>
          have e : (getD (.dK ks) dx).map (·.isSome) = some b := e
          cases eo : getD (.dK ks) dx with
          | none => rw [eo] at e; cases e
          | some o => rw [eo] at e; exact dct eo (Option.some.inj e)
        | dT ks =>
          have e : (getD (.dT ks) dx).map (·.isSome) = some b := e
          cases eo : getD (.dT ks) dx with
          | none => rw [eo] at e; cases e
          | some o => rw [eo] at e; exact dct eo (Option.some.inj e)
  constructor
  · intro pins s σ H x y v u Q I rx ry h
    obtain ⟨ρ, dx, dy, S, b, so, px, py, e, q⟩ := h
    exact (both I rx ry so px py e).1 q
  · intro pins s σ H x y v u Q I rx ry h
    obtain ⟨ρ, dx, dy, S, b, so, px, py, e, q⟩ := h
    unfold ninB at e
    cases ei : inB S dx dy with
    | none => rw [ei] at e; cases e
    | some b' =>
      rw [ei] at e
      cases e
      exact (both I rx ry so px py ei).2 q
theorem o_in (hr : Room k X.A) : OpR X (compareOp .In) (rB X inB) := (o_inBoth hr).1
theorem o_nin (hr : Room k X.A) : OpR X (compareOp .NotIn) (rB X ninB) := (o_inBoth hr).2
end

/-! ### a place -/
def intAt (xs : List D) : D → Option D
  | .int i => L2.atI xs i
  | _ => none
def strAt (z : Str) : D → Option D
  | .int i => if z.length ≤ sizeLine then (L2.atI z.cps.toList i).map fun c => .str ⟨#[c]⟩ else none
  | _ => none
def cellAt (y : D) : Cell → Option D
  | .lst xs => intAt xs y
  | c => (getD c y).bind fun o => o
def idxD (S : Sto) (x y : D) : Option D := match x with
  | .list xs => intAt xs y
  | .tuple xs => intAt xs y
  | .str z => strAt z y
  | .dict kvs => (cellD S (.dict kvs)).bind (cellAt y)
  | _ => none
section
variable {X : Cx} {ts : List Addr} {W : WX} {k : Nat} {pos : Pos} {a b : Expr} {ga gb : Ex}
theorem atI_ok {K : PySem.W.Frag} {H : Hp} {ρ : Rho} {xs : List V} {ds : List D} {i : Int} {d : D} (r : RpL K H ρ xs ds) (e : L2.atI ds i = some d) : ∃ v, L2.atI xs i = some v ∧ Rp K H ρ v d := by
  unfold L2.atI at e ⊢
  rw [r.length]
  cases ej : L2.ixN ds.length i with
  | none => rw [ej] at e; cases e
  | some j =>
    rw [ej] at e
    exact r.get e
theorem ix_dict (hu : X.A.units + 1 < cLine) : IxR X (fun x y H Q => ∃ a v, x = .ref a ∧ DGet H a y (some v) ∧ Q v H) := by
  intro value slice pins s σ H x y v u Q I rx ry h hs
  obtain ⟨a, w', rfl, g, q⟩ := h
  cases rx
  have hT := dict_typeIs I g
  unfold subscriptTail
  refine wpAny_bind ?_
  rw [getitemInPython_of_ne hT.not_modules]
  refine wpAny_bind (wpAny_specialOf hT PySem.F.slot_dict_getitem.lookup ?_)
  have fin : wpAny (model X.prog X.w) X.A (subscripted slice false (.ref a) u) (fun r s₃ => wpAny (model X.prog X.w) X.A (letTemporaryGo value (.ref a) r >>= fun _ => pure r) (EP X pins σ Q) X.xe s₃) X.xe s := by
    rw [hs]
    exact wpAny_operating (d_getItem hu I g ry fun w'' s3 I3 rw' => wpAny_bind (wpAny_letTemporaryGo (wpAny_pure ⟨w', H, I3, rw', q⟩)))
  first
    | exact wpAny_pure (wpAny_bind fin)
    | exact wpAny_bind (wpAny_pure (wpAny_bind fin))
    | exact wpAny_bind fin
theorem i_idx (hr : Room k X.A) : IxR X (rD X idxD) := by
  intro value slice pins s σ H x y v u Q I rx ry h hs
  obtain ⟨ρ, dx, dy, S, d, so, px, py, e, q⟩ := h
  cases dx <;> first | (cases e; done) | skip
  · rename_i z
    cases px
    cases dy <;> first | (cases e; done) | skip
    rename_i i
    cases py
    obtain ⟨hz, e⟩ := ifsome (show (if z.length ≤ sizeLine then some ((L2.atI z.cps.toList i).map fun c => PyData.str ⟨#[c]⟩) else none) = some (some d) by
      have e : (if z.length ≤ sizeLine then (L2.atI z.cps.toList i).map fun c => PyData.str ⟨#[c]⟩ else none) = some d := e
      by_cases hz : z.length ≤ sizeLine
      · rw [if_pos hz] at e ⊢; rw [e]
      · rw [if_neg hz] at e; cases e)
    cases ec : L2.atI z.cps.toList i with
    | none => rw [ec] at e; cases e
    | some c =>
      rw [ec] at e
      cases e
      exact ix_str value slice pins s σ H _ _ v u Q I rx ry ⟨z, i, c, rfl, rfl, hz, ec, q _ H .refl so (.str _)⟩ hs
  · rename_i ds
    cases dy <;> first | (cases e; done) | skip
    cases py
    cases px with
    | lst h r =>
      obtain ⟨w', ew, rw'⟩ := atI_ok r e
      exact ix_list value slice pins s σ H _ _ v u Q I rx ry ⟨_, _, _, w', rfl, rfl, h.sq, ew, q _ H .refl so rw'⟩ hs
  · rename_i ds
    cases dy <;> first | (cases e; done) | skip
    cases py
    cases px with
    | tup h r =>
      obtain ⟨w', ew, rw'⟩ := atI_ok r e
      exact ix_tup value slice pins s σ H _ _ v u Q I rx ry ⟨_, _, _, w', rfl, rfl, h.sq, ew, q _ H .refl so rw'⟩ hs
  · rename_i kvs
    have e : (cellD S (.dict kvs)).bind (cellAt dy) = some d := e
    cases ec : cellD S (.dict kvs) with
    | none => rw [ec] at e; cases e
    | some c =>
      rw [ec] at e
      obtain ⟨n, a, _, rfl, _, hS, hc⟩ := cellD_ok so px ec
      have hu : X.A.units + 1 < cLine := by have := hr.un; omega
      have dct : ∀ {dd : D}, getD c dy = some (some dd) → dd = d → wpAny (model X.prog X.w) X.A (subscriptTail value slice v u) (EP X pins σ Q) X.xe s := by
        intro dd eo ed
        subst ed
        obtain ⟨ov, g, h⟩ := dget_ok hc py eo
        rcases h with ⟨_, h⟩ | ⟨x', d', rfl, h, r'⟩
        · cases h
        · cases h
          exact ix_dict hu value slice pins s σ H _ _ v u Q I rx ry ⟨a, x', rfl, g, q _ H .refl so r'⟩ hs
      cases c with
      | lst xs =>
        have e : intAt xs dy = some d := e
        cases dy <;> first | (cases e; done) | skip
        cases py
        obtain ⟨ys, h1, h2⟩ := hc
        obtain ⟨w', ew, rw'⟩ := atI_ok h2 e
        exact ix_list value slice pins s σ H _ _ v u Q I rx ry ⟨_, _, _, w', rfl, rfl, SqL.of h1, ew, q _ H .refl so rw'⟩ hs
      | dK ks =>
        have e : (getD (.dK ks) dy).bind (fun o => o) = some d := e
        cases eo : getD (.dK ks) dy with
        | none => rw [eo] at e; cases e
        | some o =>
          rw [eo] at e
          cases o with
          | none => cases e
          | some dd => exact dct eo (Option.some.inj e)
      | dT ks =>
        have e : (getD (.dT ks) dy).bind (fun o => o) = some d := e
        cases eo : getD (.dT ks) dy with
        | none => rw [eo] at e; cases e
        | some o =>
          rw [eo] at e
          cases o with
          | none => cases e
          | some dd => exact dct eo (Option.some.inj e)
    theorem je_idx (hr : Room k X.A) (ha : JE X ts W a ga) (hb : JE X ts W b gb) (hs : PlainIx b := by exact fun _ _ => rfl) : JE X ts W (.Subscript a b pos) (bin idxD ga gb) :=
  je_of (pe_ix (i_idx hr) ha hb hs) fun σ H Q ⟨ρ, env, S, m, p⟩ => ⟨ρ, env, S, m, Post.next (f := fun x S1 => (gb env S1).bind fun y S2 => lift (idxD S2 x y) S2) p fun x ρ1 H1 dx S1 _ st so rx p1 =>
    ⟨ρ1, env, S1, m.step st so, Post.next (f := fun y S2 => lift (idxD S2 dx y) S2) p1 fun y ρ2 H2 dy S2 _ st2 so2 ry p2 => by
      cases e : idxD S2 dx dy with
      | none => rw [e] at p2; exact p2.elim
      | some d => rw [e] at p2; exact ⟨ρ2, dx, dy, S2, d, so2, rx.step st2, ry, e, fun v H' st so r => p2 v ρ2 H' st so r⟩⟩⟩
end
end Cor

/-! Core6: displays, slices, calls. -/
namespace Cor
open PySem PySem.Spec PyProof.Rows L2

theorem der_seq {K : PySem.W.Frag} {H : Hp} {ρ : Rho} {S : Sto} {v : V} {d : D} {ds : List D} (o : StoOk K H ρ S) (r : Rp K H ρ v d) (e : der S d = some (PyData.list ds)) : ∃ a xs, v = .ref a ∧ SqL K H a xs ∧ RpL K H ρ xs ds := by
  cases d with
  | dict kvs =>
    have e : (match refOf (.dict kvs) with
      | some n => match S[n]? with
        | some (.lst ds) => some (PyData.list ds)
        | _ => none
      | none => none) = some (PyData.list ds) := e
    cases en : refOf (.dict kvs) with
    | none => rw [en] at e; cases e
    | some n =>
      simp only [en] at e
      cases ec : S[n]? with
      | none => rw [ec] at e; cases e
      | some c =>
        rw [ec] at e
        obtain ⟨a, rfl, q, h⟩ := r.cellAt o en ec
        cases c with
        | lst ds =>
          obtain ⟨xs, h1, h2⟩ := h
          cases e
          exact ⟨a, xs, rfl, SqL.of h1, h2⟩
        | dK ks => cases e
        | dT ks => cases e
  | list ds =>
    cases e
    cases r with
    | lst h r => exact ⟨_, _, rfl, h.sq, r⟩
  | _ => cases e

/-! ### arguments, displays -/
def nilX : Exs := fun _ S => .ok [] S
def consX (g : Ex) (gs : Exs) : Exs := fun env S => (g env S).bind fun d S1 => (gs env S1).bind fun ds S2 => .ok (d :: ds) S2
def tupE (gs : Exs) : Ex := fun env S => (gs env S).bind fun ds S1 => if ds.length ≤ sizeLine then .ok (.tuple ds) S1 else .no
/-- what is wanted behind a fresh list: at H1 it is not there yet -/
def PostF (K : PySem.W.Frag) (mg : Str → Option Value) (W : WX) (σ : L2.St) (ρ : Rho) (H : Hp) (r : R (List D)) (Q : VK) : Prop :=
  match r with
  | .ok ds S' => ∀ xs ρ1 H1 p, Stp ρ H ρ1 H1 → StoOk K H1 ρ1 S' → RpL K H1 ρ1 xs ds → H1 p = none → Q (.ref p) (upd H1 p (.lst xs))
  | .er e S' => ∀ ρ' H' c o, Stp ρ H ρ' H' → StoOk K H' ρ' S' → ExnOk K mg H' ρ' e c o → W c o σ H'
  | .no => False
def tF (K : PySem.W.Frag) (mg : Str → Option Value) (ts : List Addr) (W : WX) (g : Exs) : TE := fun σ H Q => ∃ ρ env S, Sim K ts ρ env S σ H ∧ PostF K mg W σ ρ H (g env S) Q
/-- an expression that makes a list -/
abbrev JF (X : Cx) (ts : List Addr) (W : WX) (e : Expr) (g : Exs) : Prop := PE X e (tF X.K X.mg ts W g)
/-- never written: a value -/
def frz (g : Exs) : Ex := fun env S => (g env S).bind fun ds S1 => .ok (.list ds) S1
/-- a cell of the store -/
def cel (g : Exs) : Ex := fun env S => (g env S).bind fun ds S1 => .ok (rf S1.length) (S1 ++ [.lst ds])
section
variable {K : PySem.W.Frag} {mg : Str → Option Value} {W : WX} {σ : L2.St} {ρ ρ' : Rho} {H H' : Hp}
theorem PostF.from {r : R (List D)} {Q : VK} (h : PostF K mg W σ ρ H r Q) (s : Stp ρ H ρ' H') : PostF K mg W σ ρ' H' r Q := by
  cases r with
  | ok d S' => exact fun xs ρ1 H1 p t o r n => h xs ρ1 H1 p (s.trans t) o r n
  | er e S' => exact fun ρ'' H'' c o t so eo => h ρ'' H'' c o (s.trans t) so eo
  | no => exact h
theorem PostF.next {β' α' : Type} {rel : Hp → Rho → β' → α' → Prop} {r : R α'} {f : α' → Sto → R (List D)} {Q : VK} {Q1 : β' → Hp → Prop} (h : PostF K mg W σ ρ H (r.bind f) Q)
    (k : ∀ v ρ' H' d S', r = .ok d S' → Stp ρ H ρ' H' → StoOk K H' ρ' S' → rel H' ρ' v d → PostF K mg W σ ρ' H' (f d S') Q → Q1 v H') : Post K mg W σ ρ H rel r Q1 := by
  cases r with
  | ok d S' => exact fun v ρ' H' s o r => k v ρ' H' d S' rfl s o r (PostF.from h s)
  | er e S' => exact h
  | no => exact h
theorem PostF.done {ds : List D} {S : Sto} {Q : VK} {xs : List V} (h : PostF K mg W σ ρ H (.ok ds S) Q) (so : StoOk K H ρ S) (r : RpL K H ρ xs ds) : ∀ p, H p = none → Q (.ref p) (upd H p (.lst xs)) := fun p n => h xs ρ H p .refl so r n
/-- the fresh list is used as .. -/
theorem PostF.use {β' α' : Type} {rel : Hp → Rho → β' → α' → Prop} {r : R (List D)} {f : List D → Sto → R α'} {Q : β' → Hp → Prop} {Q1 : VK} (h : Post K mg W σ ρ H rel (r.bind f) Q)
    (k : ∀ ds S' xs ρ1 H1 p, r = .ok ds S' → Stp ρ H ρ1 H1 → StoOk K H1 ρ1 S' → RpL K H1 ρ1 xs ds → H1 p = none → Post K mg W σ ρ1 H1 rel (f ds S') Q → Q1 (.ref p) (upd H1 p (.lst xs))) : PostF K mg W σ ρ H r Q1 := by
  cases r with
  | ok ds S' => exact fun xs ρ1 H1 p t o r n => k ds S' xs ρ1 H1 p rfl t o r n (Post.from h t)
  | er e S' => exact h
  | no => exact h
end
section
variable {X : Cx} {ts : List Addr} {W : WX} {k : Nat} {pos : Pos} {a b e : Expr} {es : List Expr} {ga gb g : Ex} {gs : Exs}
theorem jx_of {t : TA} (h : PA X es t) (k : ∀ σ H Q, tX X.K X.mg ts W gs σ H Q → t σ H Q) : JX X ts W es gs := ⟨fun pos pins s σ H Q I q => h.run pos pins s σ H Q I (k σ H Q q)⟩
theorem jx_nil : JX X ts W [] nilX := jx_of pa_nil fun σ H Q ⟨ρ, env, S, m, p⟩ => Post.done (v := []) p m.sto .nil
theorem jx_cons (he : JE X ts W e g) (hs : JX X ts W es gs) (h1 : starEach (e :: es) X.env = (false, eval e X.env) :: starEach es X.env := by rfl) : JX X ts W (e :: es) (consX g gs) :=
  jx_of (pa_cons he hs h1) fun σ H Q ⟨ρ, env, S, m, p⟩ => ⟨ρ, env, S, m, Post.next (f := fun d S1 => (gs env S1).bind fun ds S2 => .ok (d :: ds) S2) p fun x ρ1 H1 d S1 _ st so rx p1 =>
    ⟨ρ1, env, S1, m.step st so, Post.next (f := fun ds S2 => .ok (d :: ds) S2) p1 fun xs ρ2 H2 ds S2 _ st2 so2 rxs p2 => Post.done (v := x :: xs) p2 so2 (.cons (rx.step st2) rxs)⟩⟩
theorem je_tup {x1 : Nat} (h : JX X ts W es gs) : JE X ts W (.Tuple es x1 pos) (tupE gs) :=
  je_of (pe_tup h) fun σ H Q ⟨ρ, env, S, m, p⟩ => ⟨ρ, env, S, m, Post.next (f := fun ds S1 => if ds.length ≤ sizeLine then .ok (PyData.tuple ds) S1 else .no) p fun xs ρ1 H1 ds S1 _ st so rx p1 => by
    by_cases z : ds.length ≤ sizeLine
    · rw [if_pos z] at p1
      exact ⟨by rw [rx.length]; exact z, fun q hq => p1 _ ρ1 _ (stp_new hq) (so.new_obj hq) (.tup ⟨upd_same, so.new hq⟩ (rx.step (stp_new hq)))⟩
    · rw [if_neg z] at p1; exact p1.elim⟩
theorem jf_of {e : Expr} {t : TE} {g : Exs} (h : PE X e t) (k : ∀ σ H Q, tF X.K X.mg ts W g σ H Q → t σ H Q) : JF X ts W e g := ⟨fun pins s σ H Q I q => h.run pins s σ H Q I (k σ H Q q)⟩
theorem je_frz (h : JF X ts W e gs) : JE X ts W e (frz gs) :=
  je_of h fun σ H Q ⟨ρ, env, S, m, p⟩ => ⟨ρ, env, S, m, PostF.use (f := fun ds S1 => .ok (PyData.list ds) S1) p fun ds S' xs ρ1 H1 q _ st so rx n p1 =>
    p1 _ ρ1 _ (stp_new n) (so.new_obj n) (.lst ⟨.inl upd_same, so.new n⟩ (rx.step (stp_new n)))⟩
theorem je_cel (h : JF X ts W e gs) : JE X ts W e (cel gs) :=
  je_of h fun σ H Q ⟨ρ, env, S, m, p⟩ => ⟨ρ, env, S, m, PostF.use (f := fun ds S1 => .ok (rf S1.length) (S1 ++ [.lst ds])) p fun ds S' xs ρ1 H1 q _ st so rx n p1 =>
    p1 _ (ρ1.add q) _ (stp_cell n) (so.new_cell (c := .lst ds) n ⟨xs, upd_same, rx.step (stp_cell n)⟩) (.rf (by show (ρ1.c ++ [q])[_]? = _; rw [← so.len, List.getElem?_append_right (Nat.le_refl _)]; simp))⟩
/-- a list display -/
def lstF (gs : Exs) : Exs := fun env S => (gs env S).bind fun ds S1 => if ds.length ≤ sizeLine then .ok ds S1 else .no
theorem jf_lst (h : JX X ts W es gs) : JF X ts W (.List es pos) (lstF gs) :=
  jf_of (pe_lst h) fun σ H Q ⟨ρ, env, S, m, p⟩ => ⟨ρ, env, S, m, PostF.next (f := fun (ds : List D) S1 => if ds.length ≤ sizeLine then .ok ds S1 else .no) p fun xs ρ1 H1 ds S1 _ st so rx p1 => by
    by_cases z : ds.length ≤ sizeLine
    · rw [if_pos z] at p1
      exact ⟨by rw [rx.length]; exact z, p1.done so rx⟩
    · rw [if_neg z] at p1; exact p1.elim⟩
end

/-! ### slices -/
def cutD (ds : List D) (lo hi : Option Int) : List D := (ds.drop (HT.sIx ds.length 0 lo)).take (HT.sIx ds.length ds.length hi - HT.sIx ds.length 0 lo)
abbrev Px := Envd → Sto → R (Option Int)
def noP : Px := fun _ S => .ok none S
def someP (g : Ex) : Px := fun env S => (g env S).bind fun d S1 => match d with
  | .int i => .ok (some i) S1
  | _ => .no
def slD (x : D) (lo hi : Option Int) : Option D := match x with
  | .tuple ds => some (.tuple (cutD ds lo hi))
  | .str z => if z.length ≤ sizeLine then some (.str (cutS z lo hi)) else none
  | _ => none
def slE (a : Ex) (lo hi : Px) : Ex := fun env S => (a env S).bind fun x S1 => (lo env S1).bind fun l S2 => (hi env S2).bind fun u S3 => lift (slD x l u) S3
/-- a list's slice -/
def slF (a : Ex) (lo hi : Px) : Exs := fun env S => (a env S).bind fun x S1 => (lo env S1).bind fun l S2 => (hi env S2).bind fun u S3 => match der S3 x with
  | some (.list ds) => .ok (cutD ds l u) S3
  | _ => .no
def tP (K : PySem.W.Frag) (mg : Str → Option Value) (ts : List Addr) (W : WX) (g : Px) : TO := fun σ H Q => ∃ ρ env S, Sim K ts ρ env S σ H ∧ Post K mg W σ ρ H (fun _ _ b b' => b = b') (g env S) Q
abbrev JP (X : Cx) (ts : List Addr) (W : WX) (e : Option Expr) (g : Px) : Prop := PO X e (tP X.K X.mg ts W g)
section
variable {X : Cx} {ts : List Addr} {W : WX} {k : Nat} {pos p2 : Pos} {a e : Expr} {lo hi : Option Expr} {ga g : Ex} {gl gu : Px}
theorem jp_none : JP X ts W none noP := ⟨fun pins s σ H Q I ⟨ρ, env, S, m, p⟩ => po_none.run pins s σ H Q I (Post.done (v := Option.none) p m.sto rfl)⟩
theorem jp_some (h : JE X ts W e g) : JP X ts W (some e) (someP g) := ⟨fun pins s σ H Q I ⟨ρ, env, S, m, p⟩ => (po_some h).run pins s σ H Q I
  ⟨ρ, env, S, m, Post.next (f := fun d S1 => match d with | .int i => .ok (some i) S1 | _ => .no) p fun x ρ1 H1 d S1 _ st so rx p1 => by
    cases d <;> first | exact p1.elim | skip
    cases rx
    exact ⟨_, rfl, Post.done p1 so rfl⟩⟩⟩
theorem cutD_ok {K : PySem.W.Frag} {H : Hp} {ρ : Rho} {xs : List V} {ds : List D} (r : RpL K H ρ xs ds) (lo hi : Option Int) : RpL K H ρ (cutV xs lo hi) (cutD ds lo hi) := by
  unfold cutV cutD
  rw [r.length]
  exact (r.drop _).take _
theorem je_sl (ha : JE X ts W a ga) (hl : JP X ts W lo gl) (hu : JP X ts W hi gu) : JE X ts W (.Subscript a (.Slice lo hi none p2) pos) (slE ga gl gu) :=
  je_of (pe_slice (sl_tupA.or sl_str) ha hl hu) fun σ H Q ⟨ρ, env, S, m, p⟩ => ⟨ρ, env, S, m, Post.next (f := fun x S1 => (gl env S1).bind fun l S2 => (gu env S2).bind fun u S3 => lift (slD x l u) S3) p fun x ρ1 H1 dx S1 er1 st so rx p1 =>
    ⟨ρ1, env, S1, m.step st so, Post.next (f := fun l S2 => (gu env S2).bind fun u S3 => lift (slD dx l u) S3) p1 fun l ρ2 H2 l' S2 _ st2 so2 el p2 => by
      subst el
      exact ⟨ρ2, env, S2, (m.step st so).step st2 so2, Post.next (f := fun u S3 => lift (slD dx l u) S3) p2 fun u ρ3 H3 u' S3 _ st3 so3 eu p3 => by
        subst eu
        cases dx <;> first | exact p3.elim | skip
        · rename_i z
          cases rx
          by_cases hz : z.length ≤ sizeLine
          · have p3 : Post X.K X.mg W σ ρ3 H3 (Rp X.K) (lift (if z.length ≤ sizeLine then some (PyData.str (cutS z l u)) else none) S3) Q := p3
            rw [if_pos hz] at p3
            exact .inr ⟨z, rfl, hz, Post.done p3 so3 (.str _)⟩
          · have p3 : Post X.K X.mg W σ ρ3 H3 (Rp X.K) (lift (if z.length ≤ sizeLine then some (PyData.str (cutS z l u)) else none) S3) Q := p3
            rw [if_neg hz] at p3; exact p3.elim
        · rename_i ds
          have rx := (rx.step st2).step st3
          cases rx with
          | tup h r =>
            rename_i a' xs
            refine .inl ⟨a', xs, rfl, h.sq, fun e => ?_, fun _ q hq => ?_⟩
            · have ec : cutD ds l u = ds := by
                unfold cutD
                rw [← r.length, e.1, e.2, r.length]
                simp
              have p3 : Post X.K X.mg W σ ρ3 H3 (Rp X.K) (.ok (PyData.tuple (cutD ds l u)) S3) Q := p3
              rw [ec] at p3
              exact Post.done p3 so3 (.tup h r)
            · exact p3 _ ρ3 _ (stp_new hq) (so3.new_obj hq) (.tup ⟨upd_same, so3.new hq⟩ ((cutD_ok r l u).step (stp_new hq)))⟩⟩⟩
theorem jf_sl (ha : JE X ts W a ga) (hl : JP X ts W lo gl) (hu : JP X ts W hi gu) : JF X ts W (.Subscript a (.Slice lo hi none p2) pos) (slF ga gl gu) :=
  jf_of (pe_slice sl_list ha hl hu) fun σ H Q ⟨ρ, env, S, m, p⟩ => ⟨ρ, env, S, m, PostF.next (f := fun x S1 => (gl env S1).bind fun l S2 => (gu env S2).bind fun u S3 => match der S3 x with | some (.list ds) => .ok (cutD ds l u) S3 | _ => .no) p fun x ρ1 H1 dx S1 er1 st so rx p1 =>
    ⟨ρ1, env, S1, m.step st so, PostF.next (f := fun l S2 => (gu env S2).bind fun u S3 => match der S3 dx with | some (.list ds) => .ok (cutD ds l u) S3 | _ => .no) p1 fun l ρ2 H2 l' S2 _ st2 so2 el p2 => by
      subst el
      exact ⟨ρ2, env, S2, (m.step st so).step st2 so2, PostF.next (f := fun u S3 => match der S3 dx with | some (.list ds) => .ok (cutD ds l u) S3 | _ => .no) p2 fun u ρ3 H3 u' S3 _ st3 so3 eu p3 => by
        subst eu
        cases ed : der S3 dx with
        | none => simp only [ed] at p3; exact p3.elim
        | some d' =>
          simp only [ed] at p3
          cases d' <;> first | exact p3.elim | skip
          obtain ⟨a', xs, rfl, h1, h2⟩ := der_seq so3 ((rx.step st2).step st3) ed
          exact ⟨_, _, rfl, h1, p3.done so3 (cutD_ok h2 l u)⟩⟩⟩⟩
end

/-! ### calls of one's own defs -/
abbrev Clls := Nat → List D → Sto → R D
def callE (C : Clls) (id : Nat) (gs : Exs) : Ex := fun env S => (gs env S).bind fun ds S1 => C id ds S1
/-- the promise of a def: what C tells -/
def spC (K : PySem.W.Frag) (mg : Str → Option Value) (ts : List Addr) (C : Clls) (id : Nat) (ar : Nat) : Sp := fun vs H Q E =>
  vs.length = ar ∧ ∃ ρ ds S, StoOk K H ρ S ∧ RpL K H ρ vs ds ∧ (∀ P ∈ ts, TabG H P ∧ P ∉ ρ.c) ∧ Post K mg (fun c o _ H' => E c o H') [] ρ H (Rp K) (C id ds S) Q
/-- the def of this name keeps it -/
def Cal (P : Program) (w : World) (K : PySem.W.Frag) (mg : Str → Option Value) (base : Heap) (ts : List Addr) (k : Nat) (C : Clls) (name : Str) (id ar : Nat) : Prop :=
  ∃ (f : Addr) (fd : FuncData) (ps : List Str), mg name = some (.ref f) ∧ PySem.W.keepIn K (.ref f) = true ∧ Binds K fd ps [] ∧ FnOk P w K mg base (L2.CX P w) k f fd ps (spC K mg ts C id ar)
section
variable {X : Cx} {ts : List Addr} {W : WX} {k : Nat} {pos p : Pos} {e : Expr} {es : List Expr} {gs : Exs} {C : Clls} {name : Str} {id ar : Nat}
theorem call_reading (hl : ∀ σ H Q, tX X.K X.mg ts W gs σ H Q → tX X.K X.mg ts W gs σ H fun vs H1 => vs.length = ar ∧ Q vs H1) : ∀ σ H Q, tE X.K X.mg ts W (callE C id gs) σ H Q → tCallSD (spC X.K X.mg ts C id ar) [] (WE W) (tX X.K X.mg ts W gs) σ H Q := by
  intro σ H Q ⟨ρ, env, S, m, p⟩
  have q : tX X.K X.mg ts W gs σ H fun vs H1 => ∃ ρ1 ds S1, StoOk X.K H1 ρ1 S1 ∧ RpL X.K H1 ρ1 vs ds ∧ (∀ P ∈ ts, TabG H1 P ∧ P ∉ ρ1.c) ∧ Post X.K X.mg (fun c o _ H' => W c o σ H') [] ρ1 H1 (Rp X.K) (C id ds S1) Q :=
    ⟨ρ, env, S, m, Post.next (f := fun ds S1 => C id ds S1) p fun vs ρ1 H1 ds S1 _ st so rx p1 => ⟨ρ1, ds, S1, so, rx, tab_step m.tab st, by
      cases er : C id ds S1 with
      | ok d S' => rw [er] at p1; exact p1
      | er e S' => rw [er] at p1; exact p1
      | no => rw [er] at p1; exact p1⟩⟩
  obtain ⟨ρ0, env0, S0, m0, p0⟩ := hl σ H _ q
  refine ⟨ρ0, env0, S0, m0, ?_⟩
  cases er : gs env0 S0 with
  | ok ds S' =>
    rw [er] at p0
    intro vs ρ1 H1 st so rx
    obtain ⟨hlen, ρ2, ds2, S2, so2, rx2, tb, pp⟩ := p0 vs ρ1 H1 st so rx
    show spC X.K X.mg ts C id ar (vs ++ []) H1 Q (WE W σ)
    rw [List.append_nil]
    exact ⟨hlen, ρ2, ds2, S2, so2, rx2, tb, pp⟩
  | er e S' => rw [er] at p0; exact p0
  | no => rw [er] at p0; exact p0
/-- how many arguments there are -/
class LenX (gs : Exs) (n : Nat) : Prop where
  len : ∀ env S ds S', gs env S = .ok ds S' → ds.length = n
instance : LenX nilX 0 := ⟨fun env S ds S' e => by cases e; rfl⟩
instance {g : Ex} {gs : Exs} {n : Nat} [h : LenX gs n] : LenX (consX g gs) (n + 1) := ⟨fun env S ds S' e => by
  unfold consX at e
  cases e1 : g env S with
  | ok d S1 =>
    rw [e1] at e
    have e : ((gs env S1).bind fun ds S2 => R.ok (d :: ds) S2) = .ok ds S' := e
    cases e2 : gs env S1 with
    | ok dr S2 =>
      rw [e2] at e
      cases e
      simp [h.len env S1 dr _ e2]
    | er x S2 => rw [e2] at e; cases e
    | no => rw [e2] at e; cases e
  | er x S1 => rw [e1] at e; cases e
  | no => rw [e1] at e; cases e⟩
theorem len_reading [h : LenX gs ar] : ∀ σ H Q, tX X.K X.mg ts W gs σ H Q → tX X.K X.mg ts W gs σ H fun vs H1 => vs.length = ar ∧ Q vs H1 := fun σ H Q ⟨ρ, env, S, m, p⟩ => ⟨ρ, env, S, m, by
  cases er : gs env S with
  | ok ds S' =>
    rw [er] at p
    exact fun vs ρ1 H1 st so rx => ⟨by rw [rx.length]; exact h.len env S ds S' er, p vs ρ1 H1 st so rx⟩
  | er e S' => rw [er] at p; exact p
  | no => rw [er] at p; exact p⟩
theorem je_call (cl : Cal X.prog X.w X.K X.mg X.base ts k C name id ar) (tk : Takes X W) (hr : Room k X.A) (hg : Gl X name) (ha : JX X ts W (e :: es) gs) [LenX gs ar]
    (hdb : (name == ("__debug__" : Str)) = false := by decide) (he : starEach (e :: es) X.env = (false, eval e X.env) :: starEach es X.env := by rfl) (hpl : (backTo pos (starEach es X.env)).any (·.1) = false := by rfl) :
    JE X ts W (.Call (.Name name p) (e :: es) [] pos) (callE C id gs) := by
  obtain ⟨f, fd, ps, hm, hk, hb, F⟩ := cl
  exact je_of (pe_callSD F hr hg hm hk hb .nil (fun σ => passAt tk σ) ha hdb he hpl) (call_reading len_reading)
end
end Cor

/-! Core7: built-in functions and types. -/
namespace Cor
open PySem PySem.Spec PyProof.Rows L2

def rC (X : Cx) (f : Sto → List D → Option D) : List V → Hp → VK → Prop := fun vs H Q => ∃ ρ ds S d, StoOk X.K H ρ S ∧ RpL X.K H ρ vs ds ∧ f S ds = some d ∧ ∀ v H', Stp ρ H ρ H' → StoOk X.K H' ρ S → Rp X.K H' ρ v d → Q v H'
def rCF (X : Cx) (f : Sto → List D → Option (List D)) : List V → Hp → VK → Prop := fun vs H Q => ∃ ρ ds S es, StoOk X.K H ρ S ∧ RpL X.K H ρ vs ds ∧ f S ds = some es ∧ ∀ xs H1 p, Stp ρ H ρ H1 → StoOk X.K H1 ρ S → RpL X.K H1 ρ xs es → H1 p = none → Q (.ref p) (upd H1 p (.lst xs))
def bltE (f : Sto → List D → Option D) (gs : Exs) : Ex := fun env S => (gs env S).bind fun ds S1 => lift (f S1 ds) S1
def bltF (f : Sto → List D → Option (List D)) (gs : Exs) : Exs := fun env S => (gs env S).bind fun ds S1 => lift (f S1 ds) S1
section
variable {X : Cx} {ts : List Addr} {W : WX} {k : Nat} {pos p : Pos} {e : Expr} {es : List Expr} {gs : Exs} {x : Str} {id T : String}
theorem blt_reading {f : Sto → List D → Option D} : ∀ σ H Q, tE X.K X.mg ts W (bltE f gs) σ H Q → tCB (rC X f) (tX X.K X.mg ts W gs) σ H Q := fun σ H Q ⟨ρ, env, S, m, p⟩ =>
  ⟨ρ, env, S, m, Post.next (f := fun ds S1 => lift (f S1 ds) S1) p fun vs ρ1 H1 ds S1 _ st so rx p1 => by
    cases e : f S1 ds with
    | none => rw [e] at p1; exact p1.elim
    | some d => rw [e] at p1; exact ⟨ρ1, ds, S1, d, so, rx, e, fun v H' st so r => p1 v ρ1 H' st so r⟩⟩
theorem bltF_reading {f : Sto → List D → Option (List D)} : ∀ σ H Q, tF X.K X.mg ts W (bltF f gs) σ H Q → tCB (rCF X f) (tX X.K X.mg ts W gs) σ H Q := fun σ H Q ⟨ρ, env, S, m, p⟩ =>
  ⟨ρ, env, S, m, PostF.next (f := fun ds S1 => lift (f S1 ds) S1) p fun vs ρ1 H1 ds S1 _ st so rx p1 => by
    cases e : f S1 ds with
    | none => rw [e] at p1; exact p1.elim
    | some d => rw [e] at p1; exact ⟨ρ1, ds, S1, d, so, rx, e, fun xs H1 p st so r n => p1 xs ρ1 H1 p st so r n⟩⟩
theorem je_blt {f : Sto → List D → Option D} (hc : CallR X (.builtin id) (rC X f)) (hg : Gl X x) (hm : X.mg x = none) (hv : bootBuiltins x = some (.builtin id)) (ha : JX X ts W (e :: es) gs) (hn : x ≠ "__name__" := by decide) (hdb : (x == ("__debug__" : Str)) = false := by decide)
    (he : starEach (e :: es) X.env = (false, eval e X.env) :: starEach es X.env := by rfl) (hpl : (backTo pos (starEach es X.env)).any (·.1) = false := by rfl) : JE X ts W (.Call (.Name x p) (e :: es) [] pos) (bltE f gs) :=
  je_of (pe_callB hc hg hm hv ha hn hdb he hpl) blt_reading
theorem je_bltT {f : Sto → List D → Option D} (hc : CallR X (.type T) (rC X f)) (hg : Gl X x) (hm : X.mg x = none) (hv : bootBuiltins x = some (.type T)) (ha : JX X ts W (e :: es) gs) (hn : x ≠ "__name__" := by decide) (hdb : (x == ("__debug__" : Str)) = false := by decide)
    (he : starEach (e :: es) X.env = (false, eval e X.env) :: starEach es X.env := by rfl) (hpl : (backTo pos (starEach es X.env)).any (·.1) = false := by rfl) : JE X ts W (.Call (.Name x p) (e :: es) [] pos) (bltE f gs) :=
  je_of (pe_callTy hc hg hm hv ha hn hdb he hpl) blt_reading
theorem jf_blt {f : Sto → List D → Option (List D)} (hc : CallR X (.builtin id) (rCF X f)) (hg : Gl X x) (hm : X.mg x = none) (hv : bootBuiltins x = some (.builtin id)) (ha : JX X ts W (e :: es) gs) (hn : x ≠ "__name__" := by decide) (hdb : (x == ("__debug__" : Str)) = false := by decide)
    (he : starEach (e :: es) X.env = (false, eval e X.env) :: starEach es X.env := by rfl) (hpl : (backTo pos (starEach es X.env)).any (·.1) = false := by rfl) : JF X ts W (.Call (.Name x p) (e :: es) [] pos) (bltF f gs) :=
  jf_of (pe_callB hc hg hm hv ha hn hdb he hpl) bltF_reading
theorem jf_bltT {f : Sto → List D → Option (List D)} (hc : CallR X (.type T) (rCF X f)) (hg : Gl X x) (hm : X.mg x = none) (hv : bootBuiltins x = some (.type T)) (ha : JX X ts W (e :: es) gs) (hn : x ≠ "__name__" := by decide) (hdb : (x == ("__debug__" : Str)) = false := by decide)
    (he : starEach (e :: es) X.env = (false, eval e X.env) :: starEach es X.env := by rfl) (hpl : (backTo pos (starEach es X.env)).any (·.1) = false := by rfl) : JF X ts W (.Call (.Name x p) (e :: es) [] pos) (bltF f gs) :=
  jf_of (pe_callTy hc hg hm hv ha hn hdb he hpl) bltF_reading
end

/-! ### the single ones -/
/-- a sequence's items, and whether it is a list -/
def seqD (S : Sto) (d : D) : Option (Bool × List D) := match der S d with
  | some (.list ds) => some (true, ds)
  | some (.tuple ds) => some (false, ds)
  | _ => none
theorem seqD_ok {K : PySem.W.Frag} {H : Hp} {ρ : Rho} {S : Sto} {v : V} {d : D} {b : Bool} {ds : List D} (o : StoOk K H ρ S) (r : Rp K H ρ v d) (e : seqD S d = some (b, ds)) :
    ∃ a xs, v = .ref a ∧ RpL K H ρ xs ds ∧ ((b = true ∧ SqL K H a xs) ∨ (b = false ∧ TupAt H ρ a xs ∧ d = .tuple ds)) := by
  unfold seqD at e
  cases ed : der S d with
  | none => rw [ed] at e; cases e
  | some d' =>
    rw [ed] at e
    cases d' <;> first | (cases e; done) | skip
    · cases e
      obtain ⟨a, xs, rfl, h1, h2⟩ := der_seq o r ed
      exact ⟨a, xs, rfl, h2, .inl ⟨rfl, h1⟩⟩
    · cases e
      have : d = .tuple ds := by
        cases d <;> first | (cases ed; rfl) | (cases ed; done) | skip
        rename_i kvs
        exfalso
        have ed : (match refOf (.dict kvs) with
          | some n => match S[n]? with
            | some (.lst ds) => some (PyData.list ds)
            | _ => none
          | none => none) = some (PyData.tuple ds) := ed
        cases en : refOf (.dict kvs) with
        | none => rw [en] at ed; cases ed
        | some n =>
          simp only [en] at ed
          cases ec : S[n]? with
          | none => rw [ec] at ed; cases ed
          | some c => rw [ec] at ed; cases c <;> cases ed
      subst this
      cases r with
      | tup h r => exact ⟨_, _, rfl, r, .inr ⟨rfl, h, rfl⟩⟩
def lenD (S : Sto) : List D → Option D
  | [.str x] => if x.length ≤ sizeLine then some (.int x.length) else none
  | [.dict kvs] => match cellD S (.dict kvs) with
    | some (.lst ds) => some (.int ds.length)
    | some (.dK ks) => some (.int ks.length)
    | _ => none
  | [.list ds] => some (.int ds.length)
  | [.tuple ds] => some (.int ds.length)
  | _ => none
def intD (_ : Sto) : List D → Option D
  | [.int i] => some (.int i)
  | [.bool b] => some (.int (if b then 1 else 0))
  | _ => none
def tupleD (S : Sto) : List D → Option D
  | [d] => (seqD S d).map fun p => .tuple p.2
  | _ => none
def listD (S : Sto) : List D → Option (List D)
  | [d] => (seqD S d).map fun p => p.2
  | _ => none
section
variable {X : Cx} {k : Nat}
theorem rpl1 {K : PySem.W.Frag} {H : Hp} {ρ : Rho} {vs : List V} {d : D} (r : RpL K H ρ vs [d]) : ∃ v, vs = [v] ∧ Rp K H ρ v d := by
  cases r with
  | cons h t => cases t; exact ⟨_, rfl, h⟩
theorem c_len : CallR X (.builtin "len") (rC X lenD) := by
  intro pins s σ H vs us Q I r h
  obtain ⟨ρ, ds, S, d, so, px, e, q⟩ := h
  match ds, e with
  | [], e => cases e
  | _ :: _ :: _, e =>
    rename_i a b l
    cases a <;> cases e
  | [x], e =>
    replace px := rpl1 px
    obtain ⟨v, rfl, px⟩ := px
    cases x <;> first | (cases e; done) | skip
    · rename_i x
      cases px
      obtain ⟨z, rfl⟩ := ifsome (show (if x.length ≤ sizeLine then some (PyData.int x.length) else none) = some d from e)
      exact call_len pins s σ H _ us Q I r ⟨V.str x, _, rfl, ⟨z, rfl⟩, q _ H .refl so (.int _)⟩
    · cases e
      cases px with
      | lst h rr => exact call_len pins s σ H _ us Q I r ⟨V.ref _, _, rfl, .inl ⟨_, h.sq, rr.length.symm⟩, q _ H .refl so (.int _)⟩
    · cases e
      cases px with
      | tup h rr => exact call_len pins s σ H _ us Q I r ⟨V.ref _, _, rfl, .inr ⟨_, h.sq, rr.length.symm⟩, q _ H .refl so (.int _)⟩
    · rename_i kvs
      have e : (match cellD S (.dict kvs) with | some (.lst ds) => some (PyData.int ds.length) | some (.dK ks) => some (PyData.int ks.length) | _ => none) = some d := e
      cases ec : cellD S (.dict kvs) with
      | none => rw [ec] at e; cases e
      | some c =>
        rw [ec] at e
        obtain ⟨n, a, _, rfl, _, hS, hc⟩ := cellD_ok so px ec
        cases c with
        | lst ds =>
          cases e
          obtain ⟨xs, h1, h2⟩ := hc
          exact call_len pins s σ H _ us Q I r ⟨V.ref _, _, rfl, .inl ⟨_, SqL.of h1, h2.length.symm⟩, q _ H .refl so (.int _)⟩
        | dK ks =>
          cases e
          obtain ⟨ys, h1, h2, h3⟩ := hc
          have hl := h3.length
          simp only [List.length_map] at hl
          exact call_lenD pins s σ H _ us Q I r ⟨_, _, rfl, h1, by rw [hl]; exact q _ H .refl so (.int _)⟩
        | dT ks => cases e
theorem c_int : CallR X (.type "int") (rC X intD) := by
  intro pins s σ H vs us Q I r h
  obtain ⟨ρ, ds, S, d, so, px, e, q⟩ := h
  match ds, e with
  | [], e => cases e
  | _ :: _ :: _, e =>
    rename_i a b l
    cases a <;> cases e
  | [x], e =>
    replace px := rpl1 px
    obtain ⟨v, rfl, px⟩ := px
    cases x <;> first | (cases e; done) | skip
    · cases px; cases e
      exact call_int1 pins s σ H _ us Q I r (.inr ⟨_, rfl, q _ H .refl so (.int _)⟩)
    · cases px; cases e
      exact call_int1 pins s σ H _ us Q I r (.inl ⟨_, rfl, q _ H .refl so (.int _)⟩)
theorem c_tuple : CallR X (.type "tuple") (rC X tupleD) := by
  intro pins s σ H vs us Q I r h
  obtain ⟨ρ, ds, S, d, so, px, e, q⟩ := h
  match ds, e with
  | [], e => cases e
  | _ :: _ :: _, e => cases e
  | [x], e =>
    replace px := rpl1 px
    obtain ⟨v, rfl, px⟩ := px
    have e : (seqD S x).map (fun p => PyData.tuple p.2) = some d := e
    cases es : seqD S x with
    | none => rw [es] at e; cases e
    | some p =>
      rw [es] at e
      cases e
      obtain ⟨b, ds⟩ := p
      obtain ⟨a, xs, rfl, rr, h⟩ := seqD_ok so px es
      refine call_tuple_of pins s σ H _ us Q I r ⟨a, xs, rfl, ?_⟩
      rcases h with ⟨_, h⟩ | ⟨_, h, _⟩
      · exact .inl ⟨h, fun l hl => q _ _ (stp_new hl) (so.new_obj hl) (.tup ⟨upd_same, so.new hl⟩ (rr.step (stp_new hl)))⟩
      · exact .inr ⟨h.sq, q _ H .refl so (.tup h rr)⟩
theorem c_list : CallR X (.type "list") (rCF X listD) := by
  intro pins s σ H vs us Q I r h
  obtain ⟨ρ, ds, S, d, so, px, e, q⟩ := h
  match ds, e with
  | [], e => cases e
  | _ :: _ :: _, e => cases e
  | [x], e =>
    replace px := rpl1 px
    obtain ⟨v, rfl, px⟩ := px
    have e : (seqD S x).map (fun p => p.2) = some d := e
    cases es : seqD S x with
    | none => rw [es] at e; cases e
    | some p =>
      rw [es] at e
      cases e
      obtain ⟨b, ds⟩ := p
      obtain ⟨a, xs, rfl, rr, h⟩ := seqD_ok so px es
      refine call_list_of pins s σ H _ us Q I r ⟨a, xs, rfl, ?_, fun l hl => q _ H l .refl so rr hl⟩
      rcases h with ⟨_, h⟩ | ⟨_, h, _⟩
      · exact .inl h
      · exact .inr h.sq
end

/-! ### sorted -/
/-- what sorted asks of the items -/
def SortOk (ds : List D) : Prop := (∀ d ∈ ds, flat d = true ∧ d.depth ≤ 64) ∧ PySem.W.AllAlike ds ∧ PySem.W.Sortable ds
def sortL (ds : List D) : List D := ds.mergeSort (PySem.W.dataLe false fun d => d)
open Classical in
noncomputable def sortedL : D → Option (List D)
  | .list ds => if SortOk ds then some (sortL ds) else none
  | _ => none
theorem sortedL_some {ds es : List D} (h : sortedL (.list ds) = some es) : SortOk ds ∧ sortL ds = es := by
  unfold sortedL at h
  by_cases z : SortOk ds
  · simp only [if_pos z] at h; exact ⟨z, Option.some.inj h⟩
  · simp only [if_neg z] at h; cases h
theorem sortedL_of {ds : List D} (h : SortOk ds) : sortedL (.list ds) = some (sortL ds) := by
  unfold sortedL
  simp only [if_pos h]
noncomputable def sortedD (S : Sto) : List D → Option (List D)
  | [d] => (der S d).bind sortedL
  | _ => none
section
variable {X : Cx} {k : Nat}
theorem paired_zip {K : PySem.W.Frag} {H : Hp} {ρ : Rho} : ∀ {xs : List V} {ds : List D} {us : List Value}, RpL K H ρ xs ds → Vals xs us → PySem.W.EachIs (fun (u : Value) (p : V × D) => RelV p.1 u ∧ Rp K H ρ p.1 p.2) us (xs.zip ds)
  | [], [], _, .nil, .nil => .nil
  | x :: xs, d :: ds, u :: us, .cons h t, .cons r rr => .cons ⟨r, h⟩ (paired_zip t rr)
theorem each_back {K : PySem.W.Frag} {H : Hp} {ρ : Rho} : ∀ {us : List Value} {ps : List (V × D)}, PySem.W.EachIs (fun (u : Value) (p : V × D) => RelV p.1 u ∧ Rp K H ρ p.1 p.2) us ps → Vals (ps.map (·.1)) us ∧ RpL K H ρ (ps.map (·.1)) (ps.map (·.2))
  | [], [], .nil => ⟨.nil, .nil⟩
  | u :: us, p :: ps, .cons h t => ⟨.cons h.1 (each_back t).1, .cons h.2 (each_back t).2⟩
theorem zip_snd {K : PySem.W.Frag} {H : Hp} {ρ : Rho} {xs : List V} {ds : List D} (r : RpL K H ρ xs ds) : (xs.zip ds).map (·.2) = ds := by
  rw [List.map_snd_zip]
  rw [r.length]; exact Nat.le_refl _
theorem each_reads {pins : List (Addr × Obj)} {s : Shared} {σ : L2.St} {H : Hp} {ρ : Rho} (I : L2.Inv X pins σ H s) : ∀ {xs : List V} {ds : List D} {us : List Value}, RpL X.K H ρ xs ds → Vals xs us → (∀ d ∈ ds, flat d = true) →
    PySem.W.EachIs (fun (u : Value) (p : V × D) => ∃ as, Reads s.heap u p.2 as) us (xs.zip ds)
  | [], [], _, .nil, .nil, _ => .nil
  | x :: xs, d :: ds, u :: us, .cons h t, .cons r rr, f => .cons (Dp.reads I d x u (h.dp (f d (List.mem_cons_self ..))) r) (each_reads I t rr fun d m => f d (List.mem_cons_of_mem _ m))
theorem c_sorted (hr : Room k X.A) : CallR X (.builtin "sorted") (rCF X sortedD) := by
  intro pins s σ H vs us Q I r h
  obtain ⟨ρ, ds, S, es, so, px, e, q⟩ := h
  match ds, e with
  | [], e => cases e
  | _ :: _ :: _, e => cases e
  | [x], e =>
    replace px := rpl1 px
    obtain ⟨v, rfl, px⟩ := px
    have e : (der S x).bind sortedL = some es := e
    cases ed : der S x with
    | none => rw [ed] at e; cases e
    | some d' =>
      rw [ed] at e
      cases d' <;> first | (cases e; done) | skip
      rename_i ds
      obtain ⟨⟨f1, al, sr⟩, rfl⟩ := sortedL_some e
      obtain ⟨a, xs, rfl, h1, rr⟩ := der_seq so px ed
      obtain ⟨its, rv, hl, hz⟩ := I.list h1
      rw [Vals.ref1 r]
      have hz2 := rr.length
      have es2 : (xs.zip ds).map (fun p : V × D => p.2) = ds := zip_snd rr
      have mem2 : ∀ b ∈ xs.zip ds, b.2 ∈ ds := fun b m => (List.of_mem_zip m).2
      refine PySem.W.sorted_data (enc := fun p : V × D => p.2) (bs := xs.zip ds) hl.isList (paired_zip rr rv) (each_reads I rr rv fun d m => (f1 d m).1) (by rw [es2]; exact al) (by rw [es2]; exact sr)
        (by rw [List.length_zip]; omega) (fun b m => ?_) fun out h1 h2 => ?_
      · have := (f1 b.2 (mem2 b m)).2
        have := hr.un
        omega
      · obtain ⟨k1, k2⟩ := each_back h2
        obtain ⟨ep, he'⟩ := PyProof.Rows.sortedAll_at s.heap its out.toArray
        have hlen : (((xs.zip ds).mergeSort (PySem.W.dataLe false fun p : V × D => p.2)).map (·.1)).length ≤ sizeLine := by
          rw [List.length_map, List.length_mergeSort, List.length_zip]; omega
        have em : ((xs.zip ds).mergeSort (PySem.W.dataLe false fun p : V × D => p.2)).map (·.2) = sortL ds := by
          unfold sortL
          have q := List.map_mergeSort (r := PySem.W.dataLe false fun p : V × D => p.2) (s := PySem.W.dataLe false fun d : D => d) (f := fun p : V × D => p.2) (l := xs.zip ds) (fun a _ b _ => rfl)
          rw [es2] at q
          exact q
        rw [em] at k2
        have hn : H (s.heap.objs.size + 1) = none := I.hok.fresh (Nat.le_succ _)
        exact ⟨.ref _, upd H (s.heap.objs.size + 1) (.lst (((xs.zip ds).mergeSort (PySem.W.dataLe false fun p : V × D => p.2)).map (·.1))), I.laid (t' := s.toks) (fun _ _ => PyProof.Rows.sortedAll_old) (Nat.le_succ _) ⟨hlen, out, ep, k1, he'⟩, rfl, q _ H _ .refl so k2 hn⟩
end
end Cor

/-! Core8: isinstance, targets, what is walked, statements, loops. -/
namespace Cor
open PySem PySem.Spec PyProof.Rows L2

/-! ### isinstance -/
inductive Kd where
  | non | bl | int | str | lst | tup | dct
  deriving DecidableEq
inductive Ty where
  | int | bool | str | tuple | list | dict
  deriving DecidableEq
def Kd.name : Kd → String
  | .non => "NoneType" | .bl => "bool" | .int => "int" | .str => "str" | .lst => "list" | .tup => "tuple" | .dct => "dict"
def Ty.name : Ty → String
  | .int => "int" | .bool => "bool" | .str => "str" | .tuple => "tuple" | .list => "list" | .dict => "dict"
def isK : Kd → Ty → Bool
  | .int, .int => true | .bl, .int => true | .bl, .bool => true | .str, .str => true | .tup, .tuple => true | .lst, .list => true | .dct, .dict => true
  | _, _ => false
def Cell.kd : Cell → Kd
  | .lst _ => .lst
  | .dK _ => .dct
  | .dT _ => .dct
def kindD (S : Sto) : D → Option Kd
  | .none => some .non
  | .bool _ => some .bl
  | .int _ => some .int
  | .str _ => some .str
  | .list _ => some .lst
  | .tuple _ => some .tup
  | .dict kvs => (cellD S (.dict kvs)).map Cell.kd
theorem kit_all (k : Kd) (t : Ty) : kitB k.name t.name = some (isK k t) := by
  cases k <;> cases t <;> decide +kernel
section
variable {X : Cx}
theorem kind_ty {H : Hp} {ρ : Rho} {S : Sto} {v : V} {d : D} {k : Kd} (o : StoOk X.K H ρ S) (r : Rp X.K H ρ v d) (e : kindD S d = some k) : TyX X.K H v (.type k.name) := by
  cases d with
  | none => cases r; cases e; exact .base .non
  | bool b => cases r; cases e; exact .base (.bl b)
  | int b => cases r; cases e; exact .base (.int b)
  | str b => cases r; cases e; exact .base (.str b)
  | list ds =>
    cases e
    cases r with
    | lst h r =>
      rcases h.1 with q | ⟨ob, q⟩
      · exact .base (.lst q)
      · exact .base (.frz q)
  | tuple ds =>
    cases e
    cases r with
    | tup h r => exact .base (.tup h.1)
  | dict kvs =>
    have e : (cellD S (.dict kvs)).map Cell.kd = some k := e
    cases ec : cellD S (.dict kvs) with
    | none => rw [ec] at e; cases e
    | some c =>
      rw [ec] at e
      obtain ⟨n, a, _, rfl, _, hS, hc⟩ := cellD_ok o r ec
      cases c with
      | lst ds => cases e; obtain ⟨xs, h1, _⟩ := hc; exact .base (.lst h1)
      | dK ds => cases e; obtain ⟨xs, h1, _⟩ := hc; exact .base (.dK h1)
      | dT ds => cases e; obtain ⟨xs, h1, _⟩ := hc; exact .base (.dT h1)
/-- isinstance(e, t1) or isinstance(e, (t1, t2)) -/
def isiE (a : Ex) (ts : List Ty) : Ex := fun env S => (a env S).bind fun d S1 => lift ((kindD S1 d).map fun k => .bool (ts.any (isK k))) S1
variable {ts : List Addr} {W : WX} {k : Nat} {pos p p1 p2 p3 : Pos} {e : Expr} {g : Ex} {x1 x2 : Str} {t1 t2 : Ty} {j : Nat}
theorem je_isi1 (hg : Gl X "isinstance") (hm : X.mg "isinstance" = none) (he : JE X ts W e g) (g1 : Gl X x1) (m1 : X.mg x1 = none) (v1 : bootBuiltins x1 = some (.type t1.name)) (n1 : x1 ≠ "__name__" := by decide) (d1 : (x1 == ("__debug__" : Str)) = false := by decide)
    (h1 : starEach [e, .Name x1 p1] X.env = (false, eval e X.env) :: starEach [.Name x1 p1] X.env := by rfl) : JE X ts W (.Call (.Name "isinstance" p) [e, .Name x1 p1] [] pos) (isiE g [t1]) := by
  have hT : PE X (.Name x1 p1) (tC (.ty t1.name)) := pe_bltn g1 m1 v1 rfl n1 d1
  refine je_of (pe_callB call_isi hg hm boot_isinstance (pa_cons he (pa_cons hT pa_nil)  h1) (by decide) (by decide) h1) fun σ H Q ⟨ρ, env, S, m, p⟩ => ⟨ρ, env, S, m, Post.next (f := fun d S1 => lift ((kindD S1 d).map fun k => PyData.bool ([t1].any (isK k))) S1) p fun x ρ1 H1 d S1 _ st so rx p1 => ?_⟩
  cases ek : kindD S1 d with
  | none => rw [ek] at p1; exact p1.elim
  | some kd =>
    rw [ek] at p1
    have p1 : Post X.K X.mg W σ ρ1 H1 (Rp X.K) (.ok (PyData.bool ([t1].any (isK kd))) S1) Q := p1
    rw [show [t1].any (isK kd) = isK kd t1 by simp] at p1
    exact ⟨x, _, _, _, _, rfl, .ty t1.name, kind_ty so rx ek, kit_ty (kit_all kd t1), Post.done p1 so (.bl _)⟩
theorem je_isi2 (hg : Gl X "isinstance") (hm : X.mg "isinstance" = none) (he : JE X ts W e g) (g1 : Gl X x1) (m1 : X.mg x1 = none) (v1 : bootBuiltins x1 = some (.type t1.name)) (g2 : Gl X x2) (m2 : X.mg x2 = none) (v2 : bootBuiltins x2 = some (.type t2.name))
    (n1 : x1 ≠ "__name__" := by decide) (d1 : (x1 == ("__debug__" : Str)) = false := by decide) (n2 : x2 ≠ "__name__" := by decide) (d2 : (x2 == ("__debug__" : Str)) = false := by decide)
    (h1 : starEach [e, .Tuple [.Name x1 p1, .Name x2 p2] j p3] X.env = (false, eval e X.env) :: starEach [.Tuple [.Name x1 p1, .Name x2 p2] j p3] X.env := by rfl) :
    JE X ts W (.Call (.Name "isinstance" p) [e, .Tuple [.Name x1 p1, .Name x2 p2] j p3] [] pos) (isiE g [t1, t2]) := by
  have hT1 : PE X (.Name x1 p1) (tC (.ty t1.name)) := pe_bltn g1 m1 v1 rfl n1 d1
  have hT2 : PE X (.Name x2 p2) (tC (.ty t2.name)) := pe_bltn g2 m2 v2 rfl n2 d2
  refine je_of (pe_callB call_isiT hg hm boot_isinstance (pa_cons he (pa_cons (pe_tup (pa_cons hT1 (pa_cons hT2 pa_nil))) pa_nil) h1) (by decide) (by decide) h1) fun σ H Q ⟨ρ, env, S, m, p⟩ => ⟨ρ, env, S, m, Post.next (f := fun d S1 => lift ((kindD S1 d).map fun k => PyData.bool ([t1, t2].any (isK k))) S1) p fun x ρ1 H1 d S1 _ st so rx p1 => ?_⟩
  cases ek : kindD S1 d with
  | none => rw [ek] at p1; exact p1.elim
  | some kd =>
    rw [ek] at p1
    refine ⟨by show 2 ≤ sizeLine; rw [sizeLine_eq]; decide, fun q hq => ?_⟩
    have tx := kind_ty (so.new_obj (o := .tup [.ty t1.name, .ty t2.name]) hq) (rx.step (stp_new hq)) ek
    refine ⟨x, q, [.ty t1.name, .ty t2.name], _, [.type t1.name, .type t2.name], [t1, t2].any (isK kd), rfl, upd_same, .cons (.ty _) (.cons (.ty _) .nil), tx, ?_, p1 _ ρ1 _ (stp_new hq) (so.new_obj hq) (.bl _)⟩
    have h1 := kit_ty (K := X.K) (kit_all kd t1)
    have h2 := kit_ty (K := X.K) (kit_all kd t2)
    refine kitAny_cons h1 (fun e1 => kitAny_cons h2 (fun e2 => ?_) fun e2 => ?_) fun e1 => ?_
    · simp only [List.any_cons, List.any_nil, e1, e2]
      rfl
    · simp only [List.any_cons, e2, Bool.true_or, Bool.or_true]
    · simp only [List.any_cons, e1, Bool.true_or]
end

/-! ### targets -/
abbrev Tg := D → Envd → Option Envd
/-- the same but at the slots L -/
def Agr (L : List Nat) (σ σ' : L2.St) : Prop := σ'.length = σ.length ∧ ∀ j : Nat, j ∉ L → σ'[j]? = σ[j]?
theorem Agr.refl {L : List Nat} {σ : L2.St} : Agr L σ σ := ⟨rfl, fun _ _ => rfl⟩
theorem Agr.trans {L L' : List Nat} {σ σ' σ'' : L2.St} (a : Agr L σ σ') (b : Agr L' σ' σ'') : Agr (L ++ L') σ σ'' :=
  ⟨b.1.trans a.1, fun j h => (b.2 j fun z => h (List.mem_append_right _ z)).trans (a.2 j fun z => h (List.mem_append_left _ z))⟩
def tG (K : PySem.W.Frag) (ts : List Addr) (L : List Nat) (g : Tg) : TG := fun v σ H Q => ∃ ρ env S d, Sim K ts ρ env S σ H ∧ Rp K H ρ v d ∧ match g d env with
  | some env' => ∀ σ' H', Stp ρ H ρ H' → Sim K ts ρ env' S σ' H' → Agr L σ σ' → Q σ' H'
  | none => False
abbrev JG (X : Cx) (ts : List Addr) (L : List Nat) (e : Expr) (g : Tg) : Prop := PG X e (tG X.K ts L g)
def setN (i : Nat) : Tg := fun d env => some (env.set i (some d))
abbrev Tgs := List D → Envd → Option Envd
def tGs (K : PySem.W.Frag) (ts : List Addr) (L : List Nat) (g : Tgs) : TGs := fun vs σ H Q => ∃ ρ env S ds, Sim K ts ρ env S σ H ∧ RpL K H ρ vs ds ∧ match g ds env with
  | some env' => ∀ σ' H', Stp ρ H ρ H' → Sim K ts ρ env' S σ' H' → Agr L σ σ' → Q σ' H'
  | none => False
abbrev JGs (X : Cx) (ts : List Addr) (L : List Nat) (es : List Expr) (g : Tgs) : Prop := PGs X es (tGs X.K ts L g)
def nilG : Tgs := fun ds env => match ds with
  | [] => some env
  | _ => none
def consG (g : Tg) (gs : Tgs) : Tgs := fun ds env => match ds with
  | d :: r => (g d env).bind (gs r)
  | [] => none
def tupG (n : Nat) (gs : Tgs) : Tg := fun d env => match d with
  | .tuple ds => if ds.length = n then gs ds env else none
  | _ => none
section
variable {X : Cx} {ts : List Addr} {pos : Pos} {e : Expr} {es : List Expr} {g : Tg} {gs : Tgs} {L L' : List Nat}
theorem jg_name {i : Nat} {x : Str} (hN : X.N.Nodup) (hi : X.N[i]? = some x) (hx : Loc X.env.scope x) (hf : X.fn x = true ∨ X.env.scope.names.lookup x = some .local := by first | exact .inl rfl | exact .inr rfl | assumption) : JG X ts [i] (.Name x pos) (setN i) :=
  ⟨fun pins s σ H v u Q I r ⟨ρ, env, S, d, m, rp, q⟩ => (pg_name hN hi hx hf).run pins s σ H v u Q I r (q _ H .refl ⟨m.env.set rp i, m.sto, m.tab⟩
    ⟨by simp, fun j hj => by rw [List.getElem?_set_ne (fun z => hj (by rw [z]; exact List.mem_singleton.mpr rfl))]⟩)⟩
theorem jgs_nil : JGs X ts [] [] nilG := ⟨fun pins s σ H vs us Q I r ⟨ρ, env, S, ds, m, rp, q⟩ => pgs_nil.run pins s σ H vs us Q I r (by
  cases ds with
  | nil => cases rp; exact ⟨rfl, q σ H .refl m .refl⟩
  | cons _ _ => exact q.elim)⟩
theorem jgs_cons (h1 : JG X ts L e g) (h2 : JGs X ts L' es gs) (hs : (assignEach (e :: es) X.env).map (·.2) = assign e X.env :: (assignEach es X.env).map (·.2) := by rfl) : JGs X ts (L ++ L') (e :: es) (consG g gs) :=
  ⟨fun pins s σ H vs us Q I r ⟨ρ, env, S, ds, m, rp, q⟩ => (pgs_cons h1 h2 hs).run pins s σ H vs us Q I r (by
    cases ds with
    | nil => exact q.elim
    | cons d dr =>
      cases rp with
      | cons h t =>
        refine ⟨_, _, rfl, ρ, env, S, d, m, h, ?_⟩
        cases e1 : g d env with
        | none =>
          have q : (match (g d env).bind (gs dr) with | some env' => _ | none => False) := q
          rw [e1] at q
          exact q.elim
        | some env1 =>
          intro σ1 H1 st m1 a1
          refine ⟨ρ, env1, S, dr, m1, t.step st, ?_⟩
          have q : (match (g d env).bind (gs dr) with | some env' => ∀ σ' H', Stp ρ H ρ H' → Sim X.K ts ρ env' S σ' H' → Agr (L ++ L') σ σ' → Q σ' H' | none => False) := q
          rw [e1] at q
          have q : (match gs dr env1 with | some env' => ∀ σ' H', Stp ρ H ρ H' → Sim X.K ts ρ env' S σ' H' → Agr (L ++ L') σ σ' → Q σ' H' | none => False) := q
          cases e2 : gs dr env1 with
          | none => rw [e2] at q; exact q.elim
          | some env2 => rw [e2] at q; exact fun σ2 H2 st2 m2 a2 => q σ2 H2 (st.trans st2) m2 (a1.trans a2))⟩
theorem jg_tup {k n : Nat} (hc : X.calm = true) (h : JGs X ts L es gs) (hn : (assignEach es X.env).length = n := by rfl) (hst : (assignEach es X.env).findIdx? (·.1) = none := by rfl) : JG X ts L (.Tuple es k pos) (tupG n gs) :=
  ⟨fun pins s σ H v u Q I r ⟨ρ, env, S, d, m, rp, q⟩ => (pg_tup hc h hn hst).run pins s σ H v u Q I r (by
    cases d <;> first | exact q.elim | skip
    rename_i ds
    cases rp with
    | tup hT rr =>
      have q : (match (if ds.length = n then gs ds env else none) with | some env' => ∀ σ' H', Stp ρ H ρ H' → Sim X.K ts ρ env' S σ' H' → Agr L σ σ' → Q σ' H' | none => False) := q
      by_cases hl : ds.length = n
      · rw [if_pos hl] at q
        exact ⟨_, _, rfl, hT.sq, by rw [rr.length]; exact hl, ρ, env, S, ds, m, rr, q⟩
      · rw [if_neg hl] at q; exact q.elim)⟩
end

/-! ### what is walked -/
abbrev Items := List D × Option Nat
/-- the walked cell is as it was -/
def guard (o : Option Nat) (ds : List D) (S : Sto) : Prop := match o with
  | none => True
  | some n => S[n]? = some (.lst ds)
structure Src (K : PySem.W.Frag) (ρ1 : Rho) (H1 : Hp) (o : Option Nat) (ds : List D) (J : It) : Prop where
  goes : ∀ i ρ H S, i < ds.length → Stp ρ1 H1 ρ H → StoOk K H ρ S → guard o ds S → J.go i H
  stops : ∀ ρ H S, Stp ρ1 H1 ρ H → StoOk K H ρ S → guard o ds S → J.stop ds.length H
  yields : ∀ i ρ H S x H', i < ds.length → Stp ρ1 H1 ρ H → StoOk K H ρ S → guard o ds S → J.yld i H x H' → ∃ d, ds[i]? = some d ∧ Stp ρ H ρ H' ∧ StoOk K H' ρ S ∧ Rp K H' ρ x d
abbrev Ix := Envd → Sto → R Items
def tI (K : PySem.W.Frag) (mg : Str → Option Value) (ts : List Addr) (W : WX) (g : Ix) : TI := fun σ H R => ∃ ρ env S, Sim K ts ρ env S σ H ∧ match g env S with
  | .ok p S' => ∀ ρ1 H1 J, Stp ρ H ρ1 H1 → StoOk K H1 ρ1 S' → guard p.2 p.1 S' → Src K ρ1 H1 p.2 p.1 J → R J H1
  | .er e S' => ∀ ρ' H' c o, Stp ρ H ρ' H' → StoOk K H' ρ' S' → ExnOk K mg H' ρ' e c o → W c o σ H'
  | .no => False
abbrev JI (X : Cx) (ts : List Addr) (W : WX) (tg iter : Expr) (g : Ix) : Prop := PI X tg iter (tI X.K X.mg ts W g)
/-- a sequence that is walked -/
def cellItems (n : Option Nat) : Cell → Option Items
  | .lst ds => some (ds, n)
  | _ => none
def itemsD (S : Sto) (d : D) : Option Items := match d with
  | .list ds => some (ds, none)
  | .tuple ds => some (ds, none)
  | .dict kvs => (cellD S (.dict kvs)).bind (cellItems (refOf (.dict kvs)))
  | _ => none
def valI (g : Ex) : Ix := fun env S => (g env S).bind fun d S1 => lift (itemsD S1 d) S1
def rangeL (lo hi : Int) : List D := (List.range (hi - lo).toNat).map fun i => .int (lo + (i : Nat))
def rng1 (g : Ex) : Ix := fun env S => (g env S).bind fun d S1 => match d with
  | .int j => if -(2 ^ 62) ≤ j ∧ j < 2 ^ 62 then .ok (rangeL 0 j, none) S1 else .no
  | _ => .no
def rngD : D → D → Option Items
  | .int i, .int j => if (-(2 ^ 62) ≤ i ∧ i < 2 ^ 62) ∧ (-(2 ^ 62) ≤ j ∧ j < 2 ^ 62) then some (rangeL i j, none) else none
  | _, _ => none
def rng2 (a b : Ex) : Ix := fun env S => (a env S).bind fun x S1 => (b env S1).bind fun y S2 => lift (rngD x y) S2
section
variable {X : Cx} {ts : List Addr} {W : WX} {tg : Expr} {pos p : Pos}
/-- a list or a tuple, whichever it is -/
theorem pi_seq {l : Expr} {tl : TE} (hl : PE X l tl) : PI X tg l (fun σ H R => tl σ H fun x H1 => (∃ a, x = .ref a ∧ (∃ xs, SqL X.K H1 a xs) ∧ R (Itl X.K a) H1) ∨ ∃ a, x = .ref a ∧ (∃ xs, SqT X.K H1 a xs) ∧ R (Itt X.K a) H1) := by
  refine ⟨fun pins s σ H R I h => ?_⟩
  refine thn (hl.run pins s σ H _ I h) fun v s1 ⟨x, H1, I1, r1, q1⟩ => ?_
  rcases q1 with ⟨a, e, ⟨xs, hq⟩, q⟩ | ⟨a, e, ⟨xs, hq⟩, q⟩
  · subst e
    cases r1
    obtain ⟨its, rv, p, hz⟩ := I1.list hq
    refine wpAny_pyIter_list p.isList ?_
    refine ⟨s1.heap.objs.size, [s1.heap.objs.size], _, _, H1, rfl, I1.kept (t' := s1.toks) fun b o e => Heap.get?_push_of_some _ e, turn_list a _, ⟨_, Heap.get?_push_size _ rfl, rfl, rfl⟩, fun b hb => ?_, q⟩
    have e : b = s1.heap.objs.size := by simpa using hb
    subst e
    exact I1.fpOk (Nat.le_refl _) (I1.hok.fresh (Nat.le_refl _))
  · subst e
    cases r1
    obtain ⟨its, rv, p, hz⟩ := I1.tuple hq
    refine wpAny_pyIter_tuple (show s1.heap.IsTuple a its.toArray from p) ?_
    refine ⟨s1.heap.objs.size, [s1.heap.objs.size], _, _, H1, rfl, I1.kept (t' := s1.toks) fun b o e => Heap.get?_push_of_some _ e, turn_tuple a _, ⟨_, Heap.get?_push_size _ rfl, rfl, rfl⟩, fun b hb => ?_, q⟩
    have e : b = s1.heap.objs.size := by simpa using hb
    subst e
    exact I1.fpOk (Nat.le_refl _) (I1.hok.fresh (Nat.le_refl _))
theorem ji_of {iter : Expr} {t : TI} {g : Ix} (h : PI X tg iter t) (k : ∀ σ H R, tI X.K X.mg ts W g σ H R → t σ H R) : JI X ts W tg iter g := ⟨fun pins s σ H R I q => h.run pins s σ H R I (k σ H R q)⟩
/-- a value met by what is walked -/
theorem tI_next {K : PySem.W.Frag} {mg : Str → Option Value} {W : WX} {σ : L2.St} {ρ : Rho} {H : Hp} {α β : Type} {rel : Hp → Rho → β → α → Prop} {r : R α} {f : α → Sto → R Items} {R' : It → Hp → Prop} {Q1 : β → Hp → Prop}
    (h : match r.bind f with
      | .ok p S' => ∀ ρ1 H1 J, Stp ρ H ρ1 H1 → StoOk K H1 ρ1 S' → guard p.2 p.1 S' → Src K ρ1 H1 p.2 p.1 J → R' J H1
      | .er e S' => ∀ ρ' H' c o, Stp ρ H ρ' H' → StoOk K H' ρ' S' → ExnOk K mg H' ρ' e c o → W c o σ H'
      | .no => False)
    (k : ∀ v ρ' H' d S', r = .ok d S' → Stp ρ H ρ' H' → StoOk K H' ρ' S' → rel H' ρ' v d → (match f d S' with
      | .ok p S' => ∀ ρ1 H1 J, Stp ρ' H' ρ1 H1 → StoOk K H1 ρ1 S' → guard p.2 p.1 S' → Src K ρ1 H1 p.2 p.1 J → R' J H1
      | .er e S' => ∀ ρ1 H1 c o, Stp ρ' H' ρ1 H1 → StoOk K H1 ρ1 S' → ExnOk K mg H1 ρ1 e c o → W c o σ H1
      | .no => False) → Q1 v H') : Post K mg W σ ρ H rel r Q1 := by
  cases r with
  | ok d S' =>
    intro v ρ' H' st so rx
    refine k v ρ' H' d S' rfl st so rx ?_
    have h : (match f d S' with
      | .ok p S' => ∀ ρ1 H1 J, Stp ρ H ρ1 H1 → StoOk K H1 ρ1 S' → guard p.2 p.1 S' → Src K ρ1 H1 p.2 p.1 J → R' J H1
      | .er e S' => ∀ ρ' H' c o, Stp ρ H ρ' H' → StoOk K H' ρ' S' → ExnOk K mg H' ρ' e c o → W c o σ H'
      | .no => False) := h
    cases er : f d S' with
    | ok p S2 => rw [er] at h; exact fun ρ1 H1 J s o g c => h ρ1 H1 J (st.trans s) o g c
    | er e S2 => rw [er] at h; exact fun ρ1 H1 c o s so eo => h ρ1 H1 c o (st.trans s) so eo
    | no => rw [er] at h; exact h
  | er e S' => exact h
  | no => exact h
theorem src_list {K : PySem.W.Frag} {ρ1 : Rho} {H1 : Hp} {a : Addr} {xs : List V} {ds : List D} (h : LstAt H1 ρ1 a xs) (r : RpL K H1 ρ1 xs ds) : Src K ρ1 H1 none ds (Itl K a) where
  goes := fun i ρ H S hi st so _ => walk_list.goes i H (by rw [r.length]; exact hi) (.inl (st.rd h.1 h.2 (fun _ q => nomatch q)).1)
  stops := fun ρ H S st so _ => by
    rw [← r.length]
    exact walk_list.stops H (.inl (st.rd h.1 h.2 (fun _ q => nomatch q)).1)
  yields := fun i ρ H S x H' hi st so _ y => by
    obtain ⟨rfl, e⟩ := walk_list.yields i H x H' (by rw [r.length]; exact hi) (.inl (st.rd h.1 h.2 (fun _ q => nomatch q)).1) y
    obtain ⟨d, ed, rd⟩ := (r.step st).get' e
    exact ⟨d, ed, .refl, so, rd⟩
theorem src_cell {K : PySem.W.Frag} {ρ1 : Rho} {H1 : Hp} {n : Nat} {a : Addr} {ds : List D} (h : ρ1.c[n]? = some a) : Src K ρ1 H1 (some n) ds (Itl K a) := by
  have at_ : ∀ {ρ : Rho} {H : Hp} {S : Sto}, Stp ρ1 H1 ρ H → StoOk K H ρ S → guard (some n) ds S → ∃ xs, SqL K H a xs ∧ RpL K H ρ xs ds := fun st so g => by
    obtain ⟨b, e, xs, h1, h2⟩ := so.cell n (.lst ds) g
    rw [st.at h] at e
    cases e
    exact ⟨xs, SqL.of h1, h2⟩
  exact {
    goes := fun i ρ H S hi st so g => by
      obtain ⟨xs, h1, h2⟩ := at_ st so g
      exact walk_list.goes i H (by rw [h2.length]; exact hi) h1
    stops := fun ρ H S st so g => by
      obtain ⟨xs, h1, h2⟩ := at_ st so g
      rw [← h2.length]
      exact walk_list.stops H h1
    yields := fun i ρ H S x H' hi st so g y => by
      obtain ⟨xs, h1, h2⟩ := at_ st so g
      obtain ⟨rfl, e⟩ := walk_list.yields i H x H' (by rw [h2.length]; exact hi) h1 y
      obtain ⟨d, ed, rd⟩ := h2.get' e
      exact ⟨d, ed, .refl, so, rd⟩ }
theorem src_tup {K : PySem.W.Frag} {ρ1 : Rho} {H1 : Hp} {a : Addr} {xs : List V} {ds : List D} (h : TupAt H1 ρ1 a xs) (r : RpL K H1 ρ1 xs ds) : Src K ρ1 H1 none ds (Itt K a) where
  goes := fun i ρ H S hi st so _ => walk_tup.goes i H (by rw [r.length]; exact hi) (SqT.of (st.stay h.1 h.2 (fun _ q => nomatch q)))
  stops := fun ρ H S st so _ => by
    rw [← r.length]
    exact walk_tup.stops H (SqT.of (st.stay h.1 h.2 (fun _ q => nomatch q)))
  yields := fun i ρ H S x H' hi st so _ y => by
    obtain ⟨rfl, e⟩ := walk_tup.yields i H x H' (by rw [r.length]; exact hi) (SqT.of (st.stay h.1 h.2 (fun _ q => nomatch q))) y
    obtain ⟨d, ed, rd⟩ := (r.step st).get' e
    exact ⟨d, ed, .refl, so, rd⟩
theorem src_range {K : PySem.W.Frag} {ρ1 : Rho} {H1 : Hp} {lo hi : Int} : Src K ρ1 H1 none (rangeL lo hi) (Itr lo (hi - lo).toNat) where
  goes := fun i ρ H S h st so _ => by
    have h : i < (rangeL lo hi).length := h
    unfold rangeL at h
    simp only [List.length_map, List.length_range] at h
    exact h
  stops := fun ρ H S st so _ => by
    unfold rangeL
    simp only [List.length_map, List.length_range]
    exact Nat.le_refl _
  yields := fun i ρ H S x H' h st so _ y => by
    obtain ⟨rfl, rfl⟩ := y
    unfold rangeL at h
    simp only [List.length_map, List.length_range] at h
    refine ⟨.int (lo + i), ?_, .refl, so, .int _⟩
    unfold rangeL
    simp [List.getElem?_range h]
theorem ji_val {l : Expr} {g : Ex} (hl : JE X ts W l g) : JI X ts W tg l (valI g) :=
  ji_of (pi_seq hl) fun σ H R ⟨ρ, env, S, m, q⟩ => ⟨ρ, env, S, m, tI_next (f := fun d S1 => lift (itemsD S1 d) S1) q fun x ρ1 H1 d S1 er1 st so rx p1 => by
    cases d <;> first | exact p1.elim | skip
    · cases rx with
      | lst h r => exact .inl ⟨_, rfl, ⟨_, h.sq⟩, p1 ρ1 H1 _ .refl so trivial (src_list h r)⟩
    · cases rx with
      | tup h r => exact .inr ⟨_, rfl, ⟨_, h.sq⟩, p1 ρ1 H1 _ .refl so trivial (src_tup h r)⟩
    · rename_i kvs
      cases ec : cellD S1 (.dict kvs) with
      | none =>
        have z : itemsD S1 (.dict kvs) = none := by show (cellD S1 (.dict kvs)).bind _ = none; rw [ec]; rfl
        simp only [z] at p1; exact p1.elim
      | some c =>
        obtain ⟨n, a, en, rfl, hn, hS, hc⟩ := cellD_ok so rx ec
        have z : itemsD S1 (.dict kvs) = cellItems (some n) c := by
          show (cellD S1 (.dict kvs)).bind (cellItems (refOf (.dict kvs))) = _
          rw [ec, en]; rfl
        cases c with
        | lst ds =>
          simp only [z, cellItems] at p1
          obtain ⟨xs, h1, h2⟩ := hc
          exact .inl ⟨a, rfl, ⟨xs, SqL.of h1⟩, p1 ρ1 H1 _ .refl so hS (src_cell hn)⟩
        | dK _ => simp only [z, cellItems] at p1; exact p1.elim
        | dT _ => simp only [z, cellItems] at p1; exact p1.elim⟩
theorem ji_rng1 {a : Expr} {g : Ex} (hg : Gl X "range") (hm : X.mg "range" = none) (ha : JE X ts W a g) (h1 : starEach [a] X.env = (false, eval a X.env) :: starEach [] X.env := by rfl) : JI X ts W tg (.Call (.Name "range" p) [a] [] pos) (rng1 g) :=
  ji_of (pi_range1 hg hm (pa_cons ha pa_nil h1) h1) fun σ H R ⟨ρ, env, S, m, q⟩ => ⟨ρ, env, S, m, tI_next (f := fun d S1 => match d with | .int j => if -(2 ^ 62) ≤ j ∧ j < 2 ^ 62 then .ok (rangeL 0 j, none) S1 else .no | _ => .no) q fun x ρ1 H1 d S1 er1 st so rx p1 => by
    cases d <;> first | exact p1.elim | skip
    rename_i j
    cases rx
    by_cases hj : -(2 ^ 62) ≤ j ∧ j < 2 ^ 62
    · simp only [if_pos hj] at p1
      refine ⟨j, rfl, hj.1, hj.2, ?_⟩
      have e := p1 ρ1 H1 _ .refl so trivial src_range
      simpa using e
    · simp only [if_neg hj] at p1⟩
theorem ji_rng2 {a b : Expr} {ga gb : Ex} (hg : Gl X "range") (hm : X.mg "range" = none) (ha : JE X ts W a ga) (hb : JE X ts W b gb) (h1 : starEach [a, b] X.env = (false, eval a X.env) :: starEach [b] X.env := by rfl) (h2 : starEach [b] X.env = (false, eval b X.env) :: starEach [] X.env := by rfl) :
    JI X ts W tg (.Call (.Name "range" p) [a, b] [] pos) (rng2 ga gb) :=
  ji_of (pi_range2 hg hm (pa_cons ha (pa_cons hb pa_nil h2) h1) (by rw [h1, h2]; rfl) h2) fun σ H R ⟨ρ, env, S, m, q⟩ => ⟨ρ, env, S, m, tI_next (f := fun x S1 => (gb env S1).bind fun y S2 => lift (rngD x y) S2) q fun x ρ1 H1 d S1 er1 st so rx p1 =>
    ⟨ρ1, env, S1, m.step st so, tI_next (f := fun y S2 => lift (rngD d y) S2) p1 fun y ρ2 H2 d2 S2 er2 st2 so2 ry p2 => by
      cases d <;> first | exact p2.elim | skip
      rename_i i
      cases d2 <;> first | exact p2.elim | skip
      rename_i j
      cases rx
      cases ry
      by_cases hj : (-(2 ^ 62) ≤ i ∧ i < 2 ^ 62) ∧ (-(2 ^ 62) ≤ j ∧ j < 2 ^ 62)
      · simp only [rngD, if_pos hj] at p2
        exact ⟨i, j, rfl, ⟨hj.1.1, hj.1.2, hj.2.1, hj.2.2⟩, p2 ρ2 H2 _ .refl so2 trivial src_range⟩
      · simp only [rngD, if_neg hj] at p2
        exact p2.elim⟩⟩
end
end Cor

/-! Core9: statements, loops, list comprehensions. -/
namespace Cor
open PySem PySem.Spec PyProof.Rows L2

abbrev JS (X : Cx) (ts : List Addr) (W : WX) (st : Stmt) (g : Blk) : Prop := PS X st (tS X.K X.mg ts W g)
abbrev JB (X : Cx) (ts : List Addr) (W : WX) (st : List Stmt) (g : Blk) : Prop := PSs X st (tS X.K X.mg ts W g)

def skipB : Blk := fun env S => .nx env S
def brkB : Blk := fun env S => .bk env S
def ctB : Blk := fun env S => .ct env S
def seqB (a b : Blk) : Blk := fun env S => (a env S).seq b
def expB (g : Ex) : Blk := fun env S => (g env S).to env fun _ S1 => .nx env S1
def retB (g : Ex) : Blk := fun env S => (g env S).to env fun d S1 => .rt d S1
def retN : Blk := fun _ S => .rt .none S
def ifB (c : Tx) (a b : Blk) : Blk := fun env S => (c env S).to env fun k S1 => if k = true then a env S1 else b env S1
def tgF (o : Option Envd) (S : Sto) : Fl := match o with
  | some env => .nx env S
  | none => .no
@[simp] theorem tgF_some (env : Envd) (S : Sto) : tgF (some env) S = .nx env S := rfl
def asgB (g : Ex) (t : Tg) : Blk := fun env S => (g env S).to env fun d S1 => tgF (t d env) S1
/-- name op= e -/
def augB (i : Nat) (f : Sto → D → D → Option D) (g : Ex) : Blk := fun env S => match env[i]? with
  | some (some d) => (g env S).to env fun y S1 => match f S1 d y with
    | some z => .nx (env.set i (some z)) S1
    | none => .no
  | _ => .no
open Classical in
noncomputable def guardF (o : Option Nat) (ds : List D) (S : Sto) (r : Fl) : Fl := if guard o ds S then r else .no
@[simp] theorem guardF_none (ds : List D) (S : Sto) (r : Fl) : guardF none ds S r = r := by unfold guardF; exact if_pos trivial
theorem guardF_some {n : Nat} {ds : List D} {S : Sto} (r : Fl) (h : S[n]? = some (.lst ds)) : guardF (some n) ds S r = r := by unfold guardF; exact if_pos h
theorem guardF_ok {o : Option Nat} {ds : List D} {S : Sto} {r : Fl} (h : guardF o ds S r ≠ .no) : guard o ds S ∧ guardF o ds S r = r := by
  unfold guardF at h ⊢
  by_cases z : guard o ds S
  · simp only [if_pos z] at h ⊢; exact ⟨z, trivial⟩
  · simp only [if_neg z] at h; exact (h rfl).elim
/-- a loop's turn -/
def Fl.turn (r : Fl) (again : Blk) : Fl := match r with
  | .nx env S => again env S
  | .ct env S => again env S
  | .bk env S => .nx env S
  | x => x
@[simp] theorem turn_nx (env : Envd) (S : Sto) (g : Blk) : (Fl.nx env S).turn g = g env S := rfl
@[simp] theorem turn_ct (env : Envd) (S : Sto) (g : Blk) : (Fl.ct env S).turn g = g env S := rfl
@[simp] theorem turn_bk (env : Envd) (S : Sto) (g : Blk) : (Fl.bk env S).turn g = .nx env S := rfl
@[simp] theorem turn_rt (d : D) (S : Sto) (g : Blk) : (Fl.rt d S).turn g = .rt d S := rfl
@[simp] theorem turn_er (e : Exn) (env : Envd) (S : Sto) (g : Blk) : (Fl.er e env S).turn g = .er e env S := rfl
@[simp] theorem turn_no (g : Blk) : (Fl.no).turn g = .no := rfl
noncomputable def forL (t : Tg) (b : Blk) (o : Option Nat) (all : List D) : List D → Blk
  | [], env, S => guardF o all S (.nx env S)
  | d :: ds, env, S => guardF o all S ((tgF (t d env) S).seq fun env1 S1 => (b env1 S1).turn (forL t b o all ds))
noncomputable def forB (it : Ix) (t : Tg) (b : Blk) : Blk := fun env S => (it env S).to env fun p S1 => forL t b p.2 p.1 p.1 env S1
def whileL (c : Tx) (b : Blk) : Nat → Blk
  | 0, _, _ => .no
  | n + 1, env, S => (c env S).to env fun k S1 => if k = true then (b env S1).turn (whileL c b n) else .nx env S1
def whileB (n : Nat) (c : Tx) (b : Blk) : Blk := whileL c b n

section
variable {X : Cx} {ts : List Addr} {W : WX} {pos : Pos} {st : Stmt} {rest : List Stmt} {e : Expr} {g : Ex} {a b : Blk}
theorem js_of {t : TS} {g : Blk} (h : PS X st t) (k : ∀ D σ H, tS X.K X.mg ts W g D σ H → t D σ H) : JS X ts W st g := ⟨fun pins s σ H D I q => h.run pins s σ H D I (k D σ H q)⟩
theorem jb_of {t : TS} {g : Blk} (h : PSs X rest t) (k : ∀ D σ H, tS X.K X.mg ts W g D σ H → t D σ H) : JB X ts W rest g := ⟨fun pins s σ H D I q => h.run pins s σ H D I (k D σ H q)⟩
theorem jb_nil : JB X ts W [] skipB := jb_of pss_nil fun D σ H ⟨ρ, env, S, m, q⟩ => q ρ σ H .refl m
theorem js_pass : JS X ts W (.Pass pos) skipB := js_of ps_pass fun D σ H ⟨ρ, env, S, m, q⟩ => q ρ σ H .refl m
theorem js_brk : JS X ts W (.Break pos) brkB := js_of ps_break fun D σ H ⟨ρ, env, S, m, q⟩ => q ρ σ H .refl m
theorem js_ct : JS X ts W (.Continue pos) ctB := js_of ps_continue fun D σ H ⟨ρ, env, S, m, q⟩ => q ρ σ H .refl m
theorem jb_one (h : JS X ts W st a) : JB X ts W [st] a := jb_of (pss_one h) fun _ _ _ q => q
theorem jb_cons (h : JS X ts W st a) (hr : JB X ts W rest b) : JB X ts W (st :: rest) (seqB a b) :=
  jb_of (pss_cons h hr) fun D σ H ⟨ρ, env, S, m, q⟩ => by
    refine ⟨ρ, env, S, m, ?_⟩
    unfold seqB at q
    cases er : a env S with
    | nx env1 S1 => rw [er] at q; exact fun ρ' σ' H' st' m' => ⟨ρ', env1, S1, m', PostB.from q st'⟩
    | rt d S1 => rw [er] at q; exact q
    | bk env1 S1 => rw [er] at q; exact q
    | ct env1 S1 => rw [er] at q; exact q
    | er e env1 S1 => rw [er] at q; exact q
    | no => rw [er] at q; exact q
theorem js_exp (h : JE X ts W e g) (hs : swapsWith e none pos.line X.env = pure false := by rfl) : JS X ts W (.Expr e pos) (expB g) :=
  js_of (ps_expr h hs) fun D σ H ⟨ρ, env, S, m, q⟩ => ⟨ρ, env, S, m, PostB.val (f := fun _ S1 => .nx env S1) m q fun v ρ' H' d S' _ st so r p => p ρ' σ H' .refl (m.step st so)⟩
theorem js_ret (h : JE X ts W e g) : JS X ts W (.Return (some e) pos) (retB g) :=
  js_of (ps_ret h) fun D σ H ⟨ρ, env, S, m, q⟩ => ⟨ρ, env, S, m, PostB.val (f := fun d S1 => .rt d S1) m q fun v ρ' H' d S' _ st so r p => p v ρ' H' .refl so r⟩
theorem js_retN : JS X ts W (.Return none pos) retN := js_of ps_retN fun D σ H ⟨ρ, env, S, m, q⟩ => q _ ρ H .refl m.sto .non
theorem js_if {c : Expr} {tc : Tx} {p q : List Stmt} (hc : JT X ts W c tc) (ha : JB X ts W p a) (hb : JB X ts W q b) : JS X ts W (.If c p q pos) (ifB tc a b) :=
  js_of (ps_if hc ha hb) fun D σ H ⟨ρ, env, S, m, q⟩ => ⟨ρ, env, S, m, PostB.val (f := fun k S1 => if k = true then a env S1 else b env S1) m q fun v ρ' H' d S' _ st so r p => by
    subst r
    cases v with
    | true => exact ⟨ρ', env, S', m.step st so, p⟩
    | false => exact ⟨ρ', env, S', m.step st so, p⟩⟩
theorem asg_reading {t : Tg} {L : List Nat} : ∀ D σ H, tS X.K X.mg ts W (asgB g t) D σ H → tAsg (tE X.K X.mg ts W g) (tG X.K ts L t) D σ H := fun D σ H ⟨ρ, env, S, m, q⟩ =>
  ⟨ρ, env, S, m, PostB.val (f := fun d S1 => tgF (t d env) S1) m q fun v ρ' H' d S' _ st so r p => by
    refine ⟨ρ', env, S', d, m.step st so, r, ?_⟩
    cases et : t d env with
    | none => rw [et] at p; exact p
    | some env' => rw [et] at p; exact fun σ' H'' st' m' _ => p ρ' σ' H'' st' m'⟩
theorem js_set {i : Nat} {x : Str} {pos' : Pos} (hN : X.N.Nodup) (hi : X.N[i]? = some x) (hx : Loc X.env.scope x) (he : JE X ts W e g) (hs : swapsWith e (some (.Name x pos')) pos.line X.env = pure false := by rfl) (hf : X.fn x = true ∨ X.env.scope.names.lookup x = some .local := by first | exact .inl rfl | exact .inr rfl | assumption) :
    JS X ts W (.Assign [.Name x pos'] e pos) (asgB g (setN i)) :=
  js_of (ps_set hN hi hx he hs hf) fun D σ H ⟨ρ, env, S, m, q⟩ => ⟨ρ, env, S, m, PostB.val (f := fun d S1 => tgF (setN i d env) S1) m q fun v ρ' H' d S' _ st so r p =>
    p ρ' _ H' .refl ⟨((m.step st so).env).set r i, so, (m.step st so).tab⟩⟩
theorem js_asg {tg : Expr} {t : Tg} {L : List Nat} (he : JE X ts W e g) (hg : JG X ts L tg t) (hs : swapsWithSole [tg] e pos.line X.env = pure false := by rfl) (hw : swappedStores [tg] e X.env = pure none := by rfl)
    (h1 : (assignEach [tg] X.env).map (·.2) = [assign tg X.env] := by rfl) : JS X ts W (.Assign [tg] e pos) (asgB g t) :=
  js_of (ps_asg he hg hs hw h1) asg_reading
/-- op=, by values -/
def rP (X : Cx) (f : Sto → D → D → Option D) : TIp := fun x y H Q => ∃ ρ dx dy S d, StoOk X.K H ρ S ∧ Rp X.K H ρ x dx ∧ Rp X.K H ρ y dy ∧ f S dx dy = some d ∧ ∀ v H', Stp ρ H ρ H' → StoOk X.K H' ρ S → Rp X.K H' ρ v d → Q v H'
theorem p_add : PIp X .Add (rP X addI) := by
  intro pins s σ H x y v u Q I rx ry h
  obtain ⟨ρ, dx, dy, S, d, so, px, py, e, q⟩ := h
  cases dx <;> cases dy <;> first | (cases e; done) | skip
  · cases px; cases py; cases e
    exact ip_add pins s σ H _ _ v u Q I rx ry ⟨_, _, rfl, rfl, q _ H .refl so (.int _)⟩
theorem p_sub : PIp X .Sub (rP X subD) := by
  intro pins s σ H x y v u Q I rx ry h
  obtain ⟨ρ, dx, dy, S, d, so, px, py, e, q⟩ := h
  cases dx <;> cases dy <;> first | (cases e; done) | skip
  cases px; cases py; cases e
  exact ip_sub pins s σ H _ _ v u Q I rx ry ⟨_, _, rfl, rfl, q _ H .refl so (.int _)⟩
theorem js_aug {i : Nat} {x : Str} {op : Operator} {f : Sto → D → D → Option D} {pos' : Pos} (hN : X.N.Nodup) (hi : X.N[i]? = some x) (hx : Loc X.env.scope x) (he : JE X ts W e g) (ho : PIp X op (rP X f)) (hf : X.fn x = true ∨ X.env.scope.names.lookup x = some .local := by first | exact .inl rfl | exact .inr rfl | assumption) :
    JS X ts W (.AugAssign (.Name x pos') op e pos) (augB i f g) :=
  js_of (ps_aug hN hi hx he ho hf) fun D σ H ⟨ρ, env, S, m, q⟩ => by
    unfold augB at q
    cases ei : env[i]? with
    | none => rw [ei] at q; exact q.elim
    | some o =>
      cases o with
      | none => rw [ei] at q; exact q.elim
      | some d =>
        rw [ei] at q
        obtain ⟨v, ev, rv⟩ := m.env.2 i d ei
        refine ⟨v, ev, ρ, env, S, m, PostB.val (f := fun y S1 => match f S1 d y with | some z => .nx (env.set i (some z)) S1 | none => .no) m q fun w ρ' H' y S' _ st so r p => ?_⟩
        cases ef : f S' d y with
        | none => rw [ef] at p; exact p.elim
        | some z =>
          rw [ef] at p
          refine ⟨ρ', d, y, S', z, so, rv.step st, r, ef, fun w' H'' st2 so2 r2 => ?_⟩
          have m2 := (m.step st so).step st2 so2
          exact p ρ' _ H'' st2 ⟨m2.env.set r2 i, so2, m2.tab⟩
theorem js_for {tg iter : Expr} {body : List Stmt} {gi : Ix} {t : Tg} {L : List Nat} {gb : Blk} (hp : PassesOwn (model X.prog X.w) X.A X.env X.xe) (hc : X.calm = true) (hi : JI X ts W tg iter gi) (hg : JG X ts L tg t) (hb : JB X ts W body gb)
    (hs : ∀ x, foldedSetIterable iter X.env x = pure x := by intro _; rfl) : JS X ts W (.For tg iter body [] pos) (forB gi t gb) :=
  js_of (ps_for hp hc hi hg hb hs) fun D σ H ⟨ρ, env, S, m, q⟩ => ⟨ρ, env, S, m, by
    unfold forB at q
    cases ei : gi env S with
    | no => rw [ei] at q; exact q
    | er e S' => rw [ei] at q; exact fun ρ' H' c o st so eo => q ρ' σ H' c o st (m.step st so) eo
    | ok p S' =>
      rw [ei] at q
      intro ρ1 H1 J st1 so1 g1 src
      have q : PostB X.K X.mg ts W ρ1 H1 (forL t gb p.2 p.1 p.1 env S') D := PostB.from q st1
      obtain ⟨ds, o⟩ := p
      refine ⟨fun i n σ H => n = ds.length - i ∧ i ≤ ds.length ∧ ∃ ρ env S, Stp ρ1 H1 ρ H ∧ Sim X.K ts ρ env S σ H ∧ PostB X.K X.mg ts W ρ H (forL t gb o ds (ds.drop i) env S) D,
        ⟨ds.length, by simp, Nat.zero_le _, ρ1, env, S', .refl, m.step st1 so1, by simpa using q⟩, ?_⟩
      rintro i n σ2 H2 ⟨rfl, hi2, ρ2, env2, S2, st2, m2, q2⟩
      by_cases hlt : i < ds.length
      · have ed : ds.drop i = ds[i] :: ds.drop (i + 1) := List.drop_eq_getElem_cons hlt
        rw [ed] at q2
        have nn : forL t gb o ds (ds[i] :: ds.drop (i + 1)) env2 S2 ≠ .no := fun z => by rw [z] at q2; exact q2
        obtain ⟨hgd, eg⟩ := guardF_ok (show guardF o ds S2 ((tgF (t ds[i] env2) S2).seq fun env1 S1 => (gb env1 S1).turn (forL t gb o ds (ds.drop (i + 1)))) ≠ .no from nn)
        have q2 : PostB X.K X.mg ts W ρ2 H2 (guardF o ds S2 ((tgF (t ds[i] env2) S2).seq fun env1 S1 => (gb env1 S1).turn (forL t gb o ds (ds.drop (i + 1))))) D := q2
        rw [eg] at q2
        refine .inr ⟨src.goes i ρ2 H2 S2 hlt st2 m2.sto hgd, fun σ H => i + 1 ≤ ds.length ∧ ∃ ρ env S, Stp ρ1 H1 ρ H ∧ Sim X.K ts ρ env S σ H ∧ PostB X.K X.mg ts W ρ H (forL t gb o ds (ds.drop (i + 1)) env S) D, fun σ' H' h => ⟨ds.length - (i + 1), by omega, rfl, h⟩, fun x H3 y => ?_⟩
        obtain ⟨d, e3, st3, so3, r3⟩ := src.yields i ρ2 H2 S2 x H3 hlt st2 m2.sto hgd y
        rw [List.getElem?_eq_getElem hlt] at e3
        cases e3
        refine ⟨ρ2, env2, S2, ds[i], m2.step st3 so3, r3, ?_⟩
        cases et : t ds[i] env2 with
        | none => rw [et] at q2; exact q2.elim
        | some env3 =>
          rw [et] at q2
          intro σ4 H4 st4 m4 _
          have q2 : PostB X.K X.mg ts W ρ2 H2 ((gb env3 S2).turn (forL t gb o ds (ds.drop (i + 1)))) D := q2
          refine ⟨ρ2, env3, S2, m4, ?_⟩
          have q4 := PostB.from q2 (st3.trans st4)
          have s14 : Stp ρ1 H1 ρ2 H4 := st2.trans (st3.trans st4)
          cases eb : gb env3 S2 with
          | nx e5 S5 => rw [eb] at q4; exact fun ρ5 σ5 H5 st5 m5 => ⟨hlt, ρ5, e5, S5, s14.trans st5, m5, PostB.from q4 st5⟩
          | ct e5 S5 => rw [eb] at q4; exact fun ρ5 σ5 H5 st5 m5 => ⟨hlt, ρ5, e5, S5, s14.trans st5, m5, PostB.from q4 st5⟩
          | bk e5 S5 => rw [eb] at q4; exact q4
          | rt d5 S5 => rw [eb] at q4; exact q4
          | er x5 e5 S5 => rw [eb] at q4; exact q4
          | no => rw [eb] at q4; exact q4
      · have hie : i = ds.length := by omega
        subst hie
        rw [List.drop_length] at q2
        have nn : forL t gb o ds [] env2 S2 ≠ .no := fun z => by rw [z] at q2; exact q2
        obtain ⟨hgd, eg⟩ := guardF_ok (show guardF o ds S2 (.nx env2 S2) ≠ .no from nn)
        have q2 : PostB X.K X.mg ts W ρ2 H2 (guardF o ds S2 (.nx env2 S2)) D := q2
        rw [eg] at q2
        exact .inl ⟨src.stops ρ2 H2 S2 st2 m2.sto hgd, q2 ρ2 σ2 H2 .refl m2⟩⟩
theorem js_while {c : Expr} {body : List Stmt} {tc : Tx} {gb : Blk} {n : Nat} (hp : PassesOwn (model X.prog X.w) X.A X.env X.xe) (hc : JT X ts W c tc) (hb : JB X ts W body gb) : JS X ts W (.While c body [] pos) (whileB n tc gb) :=
  js_of (ps_while hp hc hb) fun D σ H ⟨ρ, env, S, m, q⟩ => by
    refine ⟨fun n σ H => ∃ ρ env S, Sim X.K ts ρ env S σ H ∧ PostB X.K X.mg ts W ρ H (whileL tc gb n env S) D, ⟨n, ρ, env, S, m, q⟩, ?_⟩
    rintro n σ1 H1 ⟨ρ1, env1, S1, m1, q1⟩
    cases n with
    | zero => exact q1.elim
    | succ n =>
      refine ⟨ρ1, env1, S1, m1, PostB.val (f := fun k S1 => if k = true then (gb env1 S1).turn (whileL tc gb n) else .nx env1 S1) m1 q1 fun v ρ2 H2 k S2 _ st so r p => ?_⟩
      subst r
      cases v with
      | false => exact p ρ2 σ1 H2 .refl (m1.step st so)
      | true =>
        refine ⟨fun σ H => ∃ ρ env S, Sim X.K ts ρ env S σ H ∧ PostB X.K X.mg ts W ρ H (whileL tc gb n env S) D, fun σ' H' h => ⟨n, Nat.lt_succ_self n, h⟩, ρ2, env1, S2, m1.step st so, ?_⟩
        have p : PostB X.K X.mg ts W ρ2 H2 ((gb env1 S2).turn (whileL tc gb n)) D := p
        cases eb : gb env1 S2 with
        | nx e5 S5 => rw [eb] at p; exact fun ρ5 σ5 H5 st5 m5 => ⟨ρ5, e5, S5, m5, PostB.from p st5⟩
        | ct e5 S5 => rw [eb] at p; exact fun ρ5 σ5 H5 st5 m5 => ⟨ρ5, e5, S5, m5, PostB.from p st5⟩
        | bk e5 S5 => rw [eb] at p; exact p
        | rt d5 S5 => rw [eb] at p; exact p
        | er x5 e5 S5 => rw [eb] at p; exact p
        | no => rw [eb] at p; exact p
end
end Cor

/-! Core10: list comprehensions. -/
namespace Cor
open PySem PySem.Spec PyProof.Rows L2

/-! ### the heap without a list that was being made -/
/-- the heap without the object at D0 -/
def cutH (H : Hp) (D0 : Addr) : Hp := fun b => if b = D0 then none else H b
theorem cutH_ne {H : Hp} {D0 b : Addr} (h : b ≠ D0) : cutH H D0 b = H b := by unfold cutH; rw [if_neg h]
theorem cutH_at {H : Hp} {D0 : Addr} : cutH H D0 D0 = none := by unfold cutH; rw [if_pos rfl]
theorem cutH_upd {H : Hp} {D0 : Addr} {o : HO} (h : H D0 = some o) : upd (cutH H D0) D0 o = H := by
  funext b
  by_cases e : b = D0
  · subst e; rw [upd_same, h]
  · rw [upd_ne e, cutH_ne e]
section
variable {K : PySem.W.Frag} {H : Hp} {ρ : Rho} {D0 : Addr}
mutual
theorem Rp.cut_ {h : List Addr} (e : D0 ∈ ρ) (hs : ∀ a ∈ h, a ∈ ρ.h) : ∀ (d : D) (v : V), Rp K H ρ v d → Rp K (cutH H D0) ⟨ρ.c, h⟩ v d
  | .none, _, h => by cases h; exact .non
  | .bool b, _, h => by cases h; exact .bl b
  | .int i, _, h => by cases h; exact .int i
  | .str x, _, h => by cases h; exact .str x
  | .list ds, _, h => by
    cases h with
    | lst h r =>
      have hne : ∀ {a : Addr}, a ∉ ρ → a ≠ D0 := fun n z => n (by rw [z]; exact e)
      refine .lst ⟨?_, fun z => h.2 (z.imp id (hs _))⟩ (RpL.cut_ e hs ds _ r)
      rcases h.1 with q | ⟨o, q⟩
      · exact .inl ((cutH_ne (hne h.2)).trans q)
      · exact .inr ⟨o, (cutH_ne (hne h.2)).trans q⟩
  | .tuple ds, _, h => by
    cases h with
    | tup h r =>
      have hne : ∀ {a : Addr}, a ∉ ρ → a ≠ D0 := fun n z => n (by rw [z]; exact e)
      exact .tup ⟨(cutH_ne (hne h.2)).trans h.1, fun z => h.2 (z.imp id (hs _))⟩ (RpL.cut_ e hs ds _ r)
  | .dict kvs, _, h => by
    cases h with
    | rf h => exact .rf h
theorem RpL.cut_ {h : List Addr} (e : D0 ∈ ρ) (hs : ∀ a ∈ h, a ∈ ρ.h) : ∀ (ds : List D) (vs : List V), RpL K H ρ vs ds → RpL K (cutH H D0) ⟨ρ.c, h⟩ vs ds
  | [], _, h => by cases h; exact .nil
  | d :: ds, _, h => by
    cases h with
    | cons h t => exact .cons (Rp.cut_ e hs d _ h) (RpL.cut_ e hs ds _ t)
end
theorem CellOk.cut {a : Addr} {c : Cell} {h : List Addr} (e : D0 ∈ ρ) (hs : ∀ a ∈ h, a ∈ ρ.h) (hc : CellOk K H ρ a c) (n : a ≠ D0) : CellOk K (cutH H D0) ⟨ρ.c, h⟩ a c := by
  cases c with
  | lst ds => obtain ⟨xs, q, r⟩ := hc; exact ⟨xs, (cutH_ne n).trans q, RpL.cut_ e hs _ _ r⟩
  | dK ds => obtain ⟨xs, q, k, r⟩ := hc; exact ⟨xs, (cutH_ne n).trans q, k, RpL.cut_ e hs _ _ r⟩
  | dT ds => obtain ⟨xs, q, k, r⟩ := hc; exact ⟨xs, (cutH_ne n).trans q, k, RpL.cut_ e hs _ _ r⟩
theorem StoOk.cut {S : Sto} {h : List Addr} (e : D0 ∈ ρ.h) (hs : ∀ a ∈ h, a ∈ ρ.h) (hn : D0 ∉ h) (so : StoOk K H ρ S) : StoOk K (cutH H D0) ⟨ρ.c, h⟩ S := by
  have nD : D0 ∉ ρ.c := (so.hd D0 e).1
  refine ⟨so.len, so.nd, fun i c q => ?_, fun a m => ?_⟩
  · obtain ⟨a, ea, hc⟩ := so.cell i c q
    refine ⟨a, ea, hc.cut (.inr e) hs fun z => nD ?_⟩
    obtain ⟨hi, e2⟩ := List.getElem?_eq_some_iff.mp ea
    rw [← z, ← e2]; exact List.getElem_mem hi
  · obtain ⟨k, xs, q⟩ := so.hd a (hs a m)
    exact ⟨k, xs, (cutH_ne fun z => hn (by rw [← z]; exact m)).trans q⟩
mutual
theorem Rp.hupd_ {o : HO} (e : D0 ∈ ρ) : ∀ (d : D) (v : V), Rp K H ρ v d → Rp K (upd H D0 o) ρ v d
  | .none, _, h => by cases h; exact .non
  | .bool b, _, h => by cases h; exact .bl b
  | .int i, _, h => by cases h; exact .int i
  | .str x, _, h => by cases h; exact .str x
  | .list ds, _, h => by
    cases h with
    | lst h r =>
      have hne : ∀ {a : Addr}, a ∉ ρ → a ≠ D0 := fun n z => n (by rw [z]; exact e)
      refine .lst ⟨?_, h.2⟩ (RpL.hupd_ e ds _ r)
      rcases h.1 with q | ⟨o, q⟩
      · exact .inl (by rw [upd_ne (hne h.2)]; exact q)
      · exact .inr ⟨o, by rw [upd_ne (hne h.2)]; exact q⟩
  | .tuple ds, _, h => by
    cases h with
    | tup h r =>
      have hne : ∀ {a : Addr}, a ∉ ρ → a ≠ D0 := fun n z => n (by rw [z]; exact e)
      exact .tup ⟨by rw [upd_ne (hne h.2)]; exact h.1, h.2⟩ (RpL.hupd_ e ds _ r)
  | .dict kvs, _, h => by
    cases h with
    | rf h => exact .rf h
theorem RpL.hupd_ {o : HO} (e : D0 ∈ ρ) : ∀ (ds : List D) (vs : List V), RpL K H ρ vs ds → RpL K (upd H D0 o) ρ vs ds
  | [], _, h => by cases h; exact .nil
  | d :: ds, _, h => by
    cases h with
    | cons h t => exact .cons (Rp.hupd_ e d _ h) (RpL.hupd_ e ds _ t)
end
theorem StoOk.hupd {S : Sto} {ys : List V} (e : D0 ∈ ρ.h) (so : StoOk K H ρ S) : StoOk K (upd H D0 (.lst ys)) ρ S := by
  have nD : D0 ∉ ρ.c := (so.hd D0 e).1
  refine ⟨so.len, so.nd, fun i c q => ?_, fun a m => ?_⟩
  · obtain ⟨a, ea, hc⟩ := so.cell i c q
    have hne : a ≠ D0 := fun z => nD (by
      obtain ⟨hi, e2⟩ := List.getElem?_eq_some_iff.mp ea
      rw [← z, ← e2]; exact List.getElem_mem hi)
    refine ⟨a, ea, ?_⟩
    cases c with
    | lst ds => obtain ⟨xs, q, r⟩ := hc; exact ⟨xs, by rw [upd_ne hne]; exact q, RpL.hupd_ (.inr e) _ _ r⟩
    | dK ds => obtain ⟨xs, q, k, r⟩ := hc; exact ⟨xs, by rw [upd_ne hne]; exact q, k, RpL.hupd_ (.inr e) _ _ r⟩
    | dT ds => obtain ⟨xs, q, k, r⟩ := hc; exact ⟨xs, by rw [upd_ne hne]; exact q, k, RpL.hupd_ (.inr e) _ _ r⟩
  · obtain ⟨k, xs, q⟩ := so.hd a m
    by_cases z : a = D0
    · exact ⟨k, ys, by rw [z, upd_same]⟩
    · exact ⟨k, xs, by rw [upd_ne z]; exact q⟩
end

/-! ### the comprehension -/
def R.calm {α : Type} (r : R α) : R α := match r with
  | .er _ _ => .no
  | x => x
@[simp] theorem calm_ok {α : Type} (a : α) (S : Sto) : (R.ok a S).calm = .ok a S := rfl
@[simp] theorem calm_no {α : Type} : (R.no : R α).calm = .no := rfl
@[simp] theorem calm_er {α : Type} (e : Exn) (S : Sto) : (R.er e S : R α).calm = .no := rfl
def wipeE (env : Envd) : List Nat → Envd
  | [] => env
  | i :: r => (wipeE env r).set i none
open Classical in
noncomputable def guardR {α : Type} (o : Option Nat) (ds : List D) (S : Sto) (r : R α) : R α := if guard o ds S then r else .no
@[simp] theorem guardR_none {α : Type} (ds : List D) (S : Sto) (r : R α) : guardR none ds S r = r := by unfold guardR; exact if_pos trivial
theorem guardR_some {α : Type} {n : Nat} {ds : List D} {S : Sto} (r : R α) (h : S[n]? = some (.lst ds)) : guardR (some n) ds S r = r := by unfold guardR; exact if_pos h
theorem guardR_ok {α : Type} {o : Option Nat} {ds : List D} {S : Sto} {r : R α} (h : guardR o ds S r ≠ .no) : guard o ds S ∧ guardR o ds S r = r := by
  unfold guardR at h ⊢
  by_cases z : guard o ds S
  · simp only [if_pos z] at h ⊢; exact ⟨z, trivial⟩
  · simp only [if_neg z] at h; exact (h rfl).elim
def optR {α β : Type} (o : Option α) (f : α → R β) : R β := match o with
  | some a => f a
  | none => .no
@[simp] theorem optR_some {α β : Type} (a : α) (f : α → R β) : optR (some a) f = f a := rfl
@[simp] theorem optR_none {α β : Type} (f : α → R β) : optR none f = .no := rfl
noncomputable def compL (t : Tg) (c : Tx) (g : Ex) (o : Option Nat) (all : List D) (env : Envd) : List D → Sto → R (List D)
  | [], S => guardR o all S (.ok [] S)
  | d :: ds, S => guardR o all S (optR (t d env) fun env1 => (c env1 S).calm.bind fun b S1 =>
      if b = true then (g env1 S1).calm.bind fun y S2 => (compL t c g o all env ds S2).bind fun ys S3 => .ok (y :: ys) S3 else compL t c g o all env ds S1)
noncomputable def compF (gi : Ix) (t : Tg) (c : Tx) (g : Ex) (vs : List Nat) : Exs := fun env S => (gi env S).bind fun p S1 =>
  if p.1.length ≤ sizeLine then compL t c g p.2 p.1 (wipeE env vs) p.1 S1 else .no
def yesT : Tx := fun _ S => .ok true S
abbrev W0 : WX := fun _ _ _ _ => False
abbrev JTs (X : Cx) (ts : List Addr) (W : WX) (ifs : List Expr) (g : Tx) : Prop := PTs X ifs (tT X.K X.mg ts W g)
section
variable {X : Cx} {ts : List Addr} {W : WX}
theorem jts_nil : JTs X ts W [] yesT := ⟨fun pins s σ H Q I ⟨ρ, env, S, m, p⟩ => pts_nil.run pins s σ H Q I (Post.done (v := true) p m.sto rfl)⟩
theorem jts_one {c : Expr} {g : Tx} (h : JT X ts W c g) : JTs X ts W [c] g := pts_one h
theorem wipe_env {K : PySem.W.Frag} {H : Hp} {ρ : Rho} {env : Envd} {σ : L2.St} (h : EnvOk K H ρ env σ) : ∀ vs : List Nat, EnvOk K H ρ (wipeE env vs) (L2.wipe σ vs)
  | [] => h
  | i :: r => by
    have ih := wipe_env h r
    refine ⟨by simp [wipeE, L2.wipe, ih.1], fun j d e => ?_⟩
    by_cases hj : j = i
    · subst hj
      have hl : j < (wipeE env r).length := by
        have := (List.getElem?_eq_some_iff.mp e).1
        simpa [wipeE] using this
      unfold wipeE at e
      rw [List.getElem?_set_self hl] at e
      cases e
    · unfold wipeE at e
      rw [List.getElem?_set_ne (Ne.symm hj)] at e
      obtain ⟨v, q, rv⟩ := ih.2 j d e
      refine ⟨v, ?_, rv⟩
      show ((L2.wipe σ r).set i none)[j]? = _
      rw [List.getElem?_set_ne (Ne.symm hj)]; exact q
theorem wipe_agr {L vs : List Nat} {σ σ2 : L2.St} (hL : ∀ i ∈ L, i ∈ vs) (a : Agr L (L2.wipe σ vs) σ2) : L2.wipe σ2 vs = L2.wipe σ vs := by
  apply List.ext_getElem?
  intro j
  have wset : ∀ (vs : List Nat) (τ : L2.St), j ∈ vs → j < τ.length → (L2.wipe τ vs)[j]? = some none := by
    intro vs
    induction vs with
    | nil => intro τ h _; cases h
    | cons i r ih =>
      intro τ h hl
      show ((L2.wipe τ r).set i none)[j]? = _
      by_cases e : j = i
      · subst e
        rw [List.getElem?_set_self (by rw [L2.wipe_length]; exact hl)]
      · rw [List.getElem?_set_ne (Ne.symm e)]
        exact ih τ (by rcases List.mem_cons.mp h with z | z; exact absurd z e; exact z) hl
  have hlen : σ2.length = σ.length := by rw [a.1, L2.wipe_length]
  by_cases hj : j ∈ vs
  · by_cases hl : j < σ.length
    · rw [wset vs σ2 hj (by omega), wset vs σ hj hl]
    · rw [List.getElem?_eq_none (by rw [L2.wipe_length]; omega), List.getElem?_eq_none (by rw [L2.wipe_length]; omega)]
  · rw [L2.wipe_out hj, a.2 j (fun z => hj (hL j z))]
theorem ne_no {α : Type} {K : PySem.W.Frag} {mg : Str → Option Value} {σ : L2.St} {ρ : Rho} {H : Hp} {r : R (List D)} {Q : VK} (h : PostF K mg W σ ρ H r Q) : r ≠ .no := fun e => by subst e; exact h
/-- the reading of a comprehension -/
theorem lc_reading {gi : Ix} {t : Tg} {c : Tx} {g : Ex} {vs L : List Nat} (hL : ∀ i ∈ L, i ∈ vs) : ∀ σ H Q, tF X.K X.mg ts W (compF gi t c g vs) σ H Q →
    tLc (tI X.K X.mg ts W gi) (tG X.K ts L t) (tT X.K X.mg ts W0 c) (tE X.K X.mg ts W0 g) vs σ H Q := by
  intro σ H Q ⟨ρ, env, S, m, q⟩
  refine ⟨ρ, env, S, m, ?_⟩
  unfold compF at q
  cases ei : gi env S with
  | no => rw [ei] at q; exact q
  | er e S' => rw [ei] at q; exact q
  | ok p S1 =>
    rw [ei] at q
    obtain ⟨ds, o⟩ := p
    intro ρ1 H1 J st1 so1 g1 src D0 hD
    have q : PostF X.K X.mg W σ ρ1 H1 (if ds.length ≤ sizeLine then compL t c g o ds (wipeE env vs) ds S1 else .no) Q := PostF.from q st1
    by_cases hl : ds.length ≤ sizeLine
    case neg => rw [if_neg hl] at q; exact q.elim
    rw [if_pos hl] at q
    have hD1 : D0 ∉ ρ1 := so1.new hD
    have soN : StoOk X.K (upd H1 D0 (.lst [])) (ρ1.hide D0) S1 := so1.hide hD
    have m1 := m.step st1 so1
    have stN : Stp ρ1 H1 (ρ1.hide D0) (upd H1 D0 (.lst [])) := stp_hide hD
    have envN : EnvOk X.K H1 ρ1 (wipeE env vs) (L2.wipe σ vs) := wipe_env m1.env vs
    -- what is left to do at turn i
    refine ⟨fun i n H => n = ds.length - i ∧ i ≤ ds.length ∧ ∃ ρ S xs acc, Stp ρ1 H1 ρ H ∧ (D0 ∈ ρ.h ∧ ∀ a ∈ ρ1.h, a ∈ ρ.h) ∧ StoOk X.K H ρ S ∧ H D0 = some (.lst xs) ∧ RpL X.K H ρ xs acc ∧ xs.length ≤ i ∧
      PostF X.K X.mg W σ ρ1 H1 ((compL t c g o ds (wipeE env vs) (ds.drop i) S).bind fun ys S2 => .ok (acc ++ ys) S2) Q,
      ⟨ds.length, by simp, Nat.zero_le _, ρ1.hide D0, S1, [], [], stN, ⟨List.mem_cons_self .., fun a h => List.mem_cons_of_mem _ h⟩, soN, upd_same, .nil, Nat.le_refl _, ?_⟩, ?_⟩
    · rw [List.drop_zero]
      cases ec : compL t c g o ds (wipeE env vs) ds S1 with
      | ok ys S2 => rw [ec] at q; exact q
      | er e S2 => rw [ec] at q; exact q
      | no => rw [ec] at q; exact q
    rintro i n H2 ⟨rfl, hi2, ρ2, S2, xs, acc, st2, ⟨hid2, sub2⟩, so2, hD2, rx2, hx2, q2⟩
    by_cases hlt : i < ds.length
    · have ed : ds.drop i = ds[i] :: ds.drop (i + 1) := List.drop_eq_getElem_cons hlt
      rw [ed] at q2
      have nn : compL t c g o ds (wipeE env vs) (ds[i] :: ds.drop (i + 1)) S2 ≠ .no := fun z => by rw [z] at q2; exact q2
      obtain ⟨hgd, eg⟩ := guardR_ok (show guardR o ds S2 (optR (t ds[i] (wipeE env vs)) fun env1 => (c env1 S2).calm.bind fun b S1 =>
        if b = true then (g env1 S1).calm.bind fun y S2 => (compL t c g o ds (wipeE env vs) (ds.drop (i + 1)) S2).bind fun ys S3 => .ok (y :: ys) S3 else compL t c g o ds (wipeE env vs) (ds.drop (i + 1)) S1) ≠ .no from nn)
      rw [show compL t c g o ds (wipeE env vs) (ds[i] :: ds.drop (i + 1)) S2 = guardR o ds S2 (optR (t ds[i] (wipeE env vs)) fun env1 => (c env1 S2).calm.bind fun b S1 =>
        if b = true then (g env1 S1).calm.bind fun y S2 => (compL t c g o ds (wipeE env vs) (ds.drop (i + 1)) S2).bind fun ys S3 => .ok (y :: ys) S3 else compL t c g o ds (wipeE env vs) (ds.drop (i + 1)) S1) from rfl, eg] at q2
      refine .inr ⟨src.goes i ρ2 H2 S2 hlt st2 so2 hgd, fun H => i + 1 ≤ ds.length ∧ ∃ ρ S xs acc, Stp ρ1 H1 ρ H ∧ (D0 ∈ ρ.h ∧ ∀ a ∈ ρ1.h, a ∈ ρ.h) ∧ StoOk X.K H ρ S ∧ H D0 = some (.lst xs) ∧ RpL X.K H ρ xs acc ∧ xs.length ≤ i + 1 ∧
        PostF X.K X.mg W σ ρ1 H1 ((compL t c g o ds (wipeE env vs) (ds.drop (i + 1)) S).bind fun ys S2 => .ok (acc ++ ys) S2) Q, fun H' h => ⟨ds.length - (i + 1), by omega, rfl, h⟩, fun x H3 y => ?_⟩
      obtain ⟨d, e3, st3, so3, r3⟩ := src.yields i ρ2 H2 S2 x H3 hlt st2 so2 hgd y
      rw [List.getElem?_eq_getElem hlt] at e3
      cases e3
      refine ⟨ρ2, wipeE env vs, S2, ds[i], ⟨(envN.step st2).step st3, so3, tab_step m1.tab (st2.trans st3)⟩, r3, ?_⟩
      cases et : t ds[i] (wipeE env vs) with
      | none => rw [et] at q2; exact q2.elim
      | some env3 =>
        rw [et] at q2
        intro σ4 H4 st4 m4 a4
        have q2 : PostF X.K X.mg W σ ρ1 H1 (((c env3 S2).calm.bind fun b S1 =>
          if b = true then (g env3 S1).calm.bind fun y S2 => (compL t c g o ds (wipeE env vs) (ds.drop (i + 1)) S2).bind fun ys S3 => .ok (y :: ys) S3 else compL t c g o ds (wipeE env vs) (ds.drop (i + 1)) S1).bind fun ys S2 => .ok (acc ++ ys) S2) Q := q2
        refine ⟨wipe_agr hL a4, ρ2, env3, S2, m4, ?_⟩
        have s14 := st2.trans (st3.trans st4)
        have rx4 := rx2.step (st3.trans st4)
        have nD2 : D0 ∉ ρ2.c := (so2.hd D0 hid2).1
        have hD4 : H4 D0 = some (.lst xs) := (st3.trans st4).stayc hD2 nD2 (fun _ q => nomatch q)
        -- what stays of the hidden list
        have stays : ∀ {ρ' : Rho} {H' : Hp}, Stp ρ2 H4 ρ' H' → H' D0 = some (.lst xs) ∧ D0 ∈ ρ'.h ∧ ∀ a ∈ ρ1.h, a ∈ ρ'.h := fun st => by
          obtain ⟨tl, e, _⟩ := st.hid
          exact ⟨st.stayc hD4 nD2 (fun _ q => nomatch q), by rw [e]; exact List.mem_append_right _ hid2, fun a h => by rw [e]; exact List.mem_append_right _ (sub2 a h)⟩
        cases ec : c env3 S2 with
        | no => rw [ec] at q2; exact q2.elim
        | er e S5 => rw [ec] at q2; exact q2.elim
        | ok b S5 =>
          rw [ec] at q2
          intro b' ρ5 H5 st5 so5 eb
          subst eb
          have q2 : PostF X.K X.mg W σ ρ1 H1 ((if b' = true then (g env3 S5).calm.bind fun y S2 => (compL t c g o ds (wipeE env vs) (ds.drop (i + 1)) S2).bind fun ys S3 => .ok (y :: ys) S3 else compL t c g o ds (wipeE env vs) (ds.drop (i + 1)) S5).bind fun ys S2 => .ok (acc ++ ys) S2) Q := q2
          cases b' with
          | false =>
            obtain ⟨k1, k2, k3⟩ := stays st5
            exact ⟨hlt, ρ5, S5, xs, acc, s14.trans st5, ⟨k2, k3⟩, so5, k1, rx4.step st5, by omega, q2⟩
          | true =>
            have q2 : PostF X.K X.mg W σ ρ1 H1 (((g env3 S5).calm.bind fun y S2 => (compL t c g o ds (wipeE env vs) (ds.drop (i + 1)) S2).bind fun ys S3 => .ok (y :: ys) S3).bind fun ys S2 => .ok (acc ++ ys) S2) Q := q2
            refine ⟨ρ5, env3, S5, m4.step st5 so5, ?_⟩
            cases eg : g env3 S5 with
            | no => rw [eg] at q2; exact q2.elim
            | er e S6 => rw [eg] at q2; exact q2.elim
            | ok y S6 =>
              rw [eg] at q2
              intro yv ρ6 H6 st6 so6 ry
              have q2 : PostF X.K X.mg W σ ρ1 H1 (((compL t c g o ds (wipeE env vs) (ds.drop (i + 1)) S6).bind fun ys S3 => .ok (y :: ys) S3).bind fun ys S2 => .ok (acc ++ ys) S2) Q := q2
              obtain ⟨k1, k2, k3⟩ := stays (st5.trans st6)
              refine ⟨xs, k1, by omega, hlt, ρ6, S6, xs ++ [yv], acc ++ [y], ?_, ⟨k2, k3⟩, so6.hupd k2, upd_same, RpL.hupd_ (.inr k2) _ _ (((rx4.step st5).step st6).append (.cons ry .nil)), by simp; omega, ?_⟩
              · have s16 := s14.trans (st5.trans st6)
                exact ⟨s16.pre, s16.hid, s16.new, fun a u e n => by
                  obtain ⟨u', e', z⟩ := s16.keep a u e n
                  exact ⟨u', by rw [upd_ne (ne_of_none e hD)]; exact e', z⟩, fun P n h => by
                  obtain ⟨ps, e, tr⟩ := h
                  obtain ⟨ps', e', tr'⟩ := s16.tab P n ⟨ps, e, tr⟩
                  exact ⟨ps', by rw [upd_ne (ne_of_none e hD)]; exact e', tr'⟩⟩
              · cases er : compL t c g o ds (wipeE env vs) (ds.drop (i + 1)) S6 with
                | ok ys S7 =>
                  rw [er] at q2
                  show PostF X.K X.mg W σ ρ1 H1 (.ok ((acc ++ [y]) ++ ys) S7) Q
                  rw [List.append_assoc]
                  exact q2
                | er e S7 => rw [er] at q2; exact q2
                | no => rw [er] at q2; exact q2
    · have hie : i = ds.length := by omega
      subst hie
      rw [List.drop_length] at q2
      have nn : compL t c g o ds (wipeE env vs) [] S2 ≠ .no := fun z => by rw [z] at q2; exact q2
      obtain ⟨hgd, eg⟩ := guardR_ok (show guardR o ds S2 (.ok ([] : List D) S2) ≠ .no from nn)
      rw [show compL t c g o ds (wipeE env vs) [] S2 = guardR o ds S2 (.ok ([] : List D) S2) from rfl, eg] at q2
      refine .inl ⟨src.stops ρ2 H2 S2 st2 so2 hgd, ?_⟩
      have q2 : PostF X.K X.mg W σ ρ1 H1 (.ok (acc ++ []) S2) Q := q2
      rw [List.append_nil] at q2
      have hn : D0 ∉ ρ1.h := fun z => hD1 (.inr z)
      have fin := q2 xs ⟨ρ2.c, ρ1.h⟩ (cutH H2 D0) D0 ⟨st2.pre, ⟨[], rfl, fun _ h => nomatch h⟩, st2.new, fun a u e n => by
          obtain ⟨u', e', z⟩ := st2.keep a u e n
          exact ⟨u', (cutH_ne (ne_of_none e hD)).trans e', z⟩, fun P n h => by
          obtain ⟨ps, e, tr⟩ := h
          obtain ⟨ps', e', tr'⟩ := st2.tab P n ⟨ps, e, tr⟩
          exact ⟨ps', (cutH_ne (ne_of_none e hD)).trans e', tr'⟩⟩ (so2.cut hid2 sub2 hn) (RpL.cut_ (.inr hid2) sub2 _ _ rx2) cutH_at
      rw [cutH_upd hD2] at fin
      exact fin

theorem frz_reading {gs : Exs} : ∀ σ H Q, tE X.K X.mg ts W (frz gs) σ H Q → tF X.K X.mg ts W gs σ H Q := fun σ H Q ⟨ρ, env, S, m, p⟩ =>
  ⟨ρ, env, S, m, PostF.use (f := fun ds S1 => .ok (PyData.list ds) S1) p fun ds S' xs ρ1 H1 q _ st so rx n p1 =>
    p1 _ ρ1 _ (stp_new n) (so.new_obj n) (.lst ⟨.inl upd_same, so.new n⟩ (rx.step (stp_new n)))⟩
theorem cel_reading {gs : Exs} : ∀ σ H Q, tE X.K X.mg ts W (cel gs) σ H Q → tF X.K X.mg ts W gs σ H Q := fun σ H Q ⟨ρ, env, S, m, p⟩ =>
  ⟨ρ, env, S, m, PostF.use (f := fun ds S1 => .ok (rf S1.length) (S1 ++ [.lst ds])) p fun ds S' xs ρ1 H1 q _ st so rx n p1 =>
    p1 _ (ρ1.add q) _ (stp_cell n) (so.new_cell (c := .lst ds) n ⟨xs, upd_same, rx.step (stp_cell n)⟩) (.rf (by show (ρ1.c ++ [q])[_]? = _; rw [← so.len, List.getElem?_append_right (Nat.le_refl _)]; simp))⟩
section
variable {elt tg iter : Expr} {ifs : List Expr} {scope : Scope} {own : List (Str × Nat)} {L : List Nat} {pos : Pos} {gi : Ix} {t : Tg} {c : Tx} {g : Ex}
theorem jf_lc (hc : X.calm = true) (hN : X.N.Nodup) (hi : JI X ts W tg iter gi) (ok : BlkOk X.N X.env.scope scope own) (hL : ∀ i ∈ L, i ∈ own.map (·.2))
    (hg : ∀ (s : Shared) (H : Hp) (C : Addr) (cl : List (Str × Addr)) (fp : List Addr), JG (X.blk s H scope (compEnvC scope cl C X.env) fp) ts L tg t)
    (ht : ∀ (s : Shared) (H : Hp) (C : Addr) (cl : List (Str × Addr)) (fp : List Addr), JTs (X.blk s H scope (compEnvC scope cl C X.env) fp) ts W0 ifs c)
    (he : ∀ (s : Shared) (H : Hp) (C : Addr) (cl : List (Str × Addr)) (fp : List Addr), JE (X.blk s H scope (compEnvC scope cl C X.env) fp) ts W0 elt g)
    (hs : ∀ x, foldedSetIterable iter X.env x = pure x := by intro _; rfl) : JF X ts W (.ListComp elt [⟨tg, iter, ifs, 0⟩] scope pos) (compF gi t c g (own.map (·.2))) :=
  jf_of (pe_lc hc hN hi ok hg ht he hs) fun σ H Q q => lc_reading hL σ H Q q
theorem js_setLc {f : Exs → Ex} (hf : ∀ σ H Q, tE X.K X.mg ts W (f (compF gi t c g (own.map (·.2)))) σ H Q → tF X.K X.mg ts W (compF gi t c g (own.map (·.2))) σ H Q) {i : Nat} {y : Str} {py spos : Pos}
    (hc : X.calm = true) (hN : X.N.Nodup) (hy : X.N[i]? = some y) (hyl : X.env.scope.names.lookup y = some .local)
    (hsw : swapsWith (.ListComp elt [⟨tg, iter, ifs, 0⟩] scope pos) (some (.Name y py)) spos.line X.env = pure true) (hi : JI X ts W tg iter gi) (ok : BlkOk X.N X.env.scope scope own) (hL : ∀ i ∈ L, i ∈ own.map (·.2))
    (hg : ∀ (s : Shared) (H : Hp) (C : Addr) (cl : List (Str × Addr)) (fp : List Addr), JG (X.blk s H scope (compEnvC scope cl C X.env) fp) ts L tg t)
    (ht : ∀ (s : Shared) (H : Hp) (C : Addr) (cl : List (Str × Addr)) (fp : List Addr), JTs (X.blk s H scope (compEnvC scope cl C X.env) fp) ts W0 ifs c)
    (he : ∀ (s : Shared) (H : Hp) (C : Addr) (cl : List (Str × Addr)) (fp : List Addr), JE (X.blk s H scope (compEnvC scope cl C X.env) fp) ts W0 elt g)
    (hs : ∀ x, foldedSetIterable iter X.env x = pure x := by intro _; rfl) : JS X ts W (.Assign [.Name y py] (.ListComp elt [⟨tg, iter, ifs, 0⟩] scope pos) spos) (asgB (f (compF gi t c g (own.map (·.2)))) (setN i)) :=
  js_of (ps_setLc hc hN hy hyl hsw hi ok hg ht he hs) fun D σ H q => by
    have q2 : tE X.K X.mg ts W (f (compF gi t c g (own.map (·.2)))) σ H (fun x H1 => gName i x σ H1 D.nx) := by
      obtain ⟨ρ, env, S, m, q⟩ := q
      exact ⟨ρ, env, S, m, PostB.val (f := fun d S1 => tgF (setN i d env) S1) m q fun v ρ' H' d S' _ st so r p =>
        p ρ' _ H' .refl ⟨((m.step st so).env).set r i, so, (m.step st so).tab⟩⟩
    exact lc_reading hL σ H _ (hf σ H _ q2)
end
end
end Cor

/-! Core11: any, all of a generator expression. -/
namespace Cor
open PySem PySem.Spec PyProof.Rows L2 GenW

/-- the context of a generator expression's frame -/
abbrev gex (X : Cx) (A : Around) (s : Shared) (H : Hp) (genv : Env) (fp : List Addr) : Cx :=
  { X with A := A, s_0 := s, H_0 := H, env := genv, outer := X.stack, stack := genv :: X.stack, ex := fp, fn := fun _ => false, pn := [], xe := fun _ _ => False }
abbrev gEnv (X : Cx) (scope : Scope) (C : Addr) (code : Value) : Env := genEnv scope (cloFrom X.env.cells scope.names []) C code builtinsNs X.env
section
variable {X : Cx} {pins : List (Addr × Obj)} {σ : L2.St} {H : Hp} {s : Shared}
theorem gen_start {scope : Scope} {own : List (Str × Nat)} {fp : List Addr} {A' : Around} {code : Value} (I : Inv X pins σ H s) (ok : BlkOk X.N X.env.scope scope own) (hN : X.N.Nodup) (nocell : ∀ y ∈ scope.names, y.2 ≠ .cell)
    (hfp : ∀ b ∈ fp, FpOk X pins H b ∧ b < s.heap.objs.size) (hfr : A'.frames = some (gEnv X scope s.heap.objs.size code :: X.stack)) (hhd : A'.handled = none)
    {h' : Heap} {g' : Array GenState} {t' : Nat} {m : Str → Option Value} (hns : h'.Ns s.heap.objs.size m) (kp : ∀ b o, s.heap.get? b = some o → h'.get? b = some o) (hb : AllBare g') :
    Inv (gex X A' s H (gEnv X scope s.heap.objs.size code) fp) [] (wipe σ (own.map (·.2))) H { s with heap := h', gens := g', toks := t' } := by
  have hfree : ∀ y ∈ scope.names, y.2 = .free → ∃ c, X.env.cells.lookup y.1 = some c := fun y hy e => by
    rcases ok.free y hy e with k | k
    · exact I.ok.has _ (.inl k)
    · exact I.ok.has _ (.inr k)
  have cm : ∀ {y c}, (cloFrom X.env.cells scope.names []).lookup y = some c → X.env.cells.lookup y = some c ∧ c < s.heap.objs.size := fun {y c} hm => by
    rcases cloFrom_mem (PySem.mem_of_lookup hm) with hm | ⟨h1, rfl⟩
    · cases hm
    · obtain ⟨c, hc⟩ := hfree _ h1 rfl
      rw [hc]
      obtain ⟨w, z⟩ := I.cell _ _ hc
      exact ⟨rfl, z.lt⟩
  have look : ∀ {y}, scope.names.lookup y = some .free → ∃ c, (cloFrom X.env.cells scope.names []).lookup y = some c ∧ X.env.cells.lookup y = some c := fun {y} hl => by
    have hy : (y, NameKind.free) ∈ scope.names := PySem.mem_of_lookup hl
    obtain ⟨c', e'⟩ := mem_lookup (cloFrom_has (cells := X.env.cells) (acc := []) hy)
    exact ⟨c', e', (cm e').1⟩
  have okB : (gex X A' s H (gEnv X scope s.heap.objs.size code) fp).Ok := by
    refine ⟨I.ok.mod, ok.kind, I.ok.glob, rfl, Nat.le_refl _, fun y z c e1 e2 => I.ok.inj y z c (cm e1).1 (cm e2).1, fun y hy => ?_, fun y c z e => (by cases z), fun _ => hhd, hfr, .inr ⟨rfl, rfl⟩, fun b hb => ⟨Nat.ne_of_lt (hfp b hb).2, fun y c e => (hfp b hb).1.2.2.2.2.1 y c (cm e).1⟩,
      I.bs, Nat.le_trans I.ok.bsz I.sz, fun b o e hb => ?_, fun b hb z => ?_, I.stack, I.stkFree⟩
    · have hy : scope.names.lookup y = some .cell ∨ scope.names.lookup y = some .free := hy
      rcases hy with hy | hy
      · exact absurd rfl (nocell _ (PySem.mem_of_lookup hy))
      · obtain ⟨c, h1, _⟩ := look hy
        exact ⟨c, h1⟩
    · rcases (hfp b hb).1.2.2.2.1 with z | z
      · exact I.ok.noex b o e z
      · exact absurd (Nat.lt_of_lt_of_le (Heap.lt_size e) (Nat.le_trans I.ok.bsz z)) (Nat.lt_irrefl _)
    · rcases List.mem_cons.mp (I.stkSub b z) with z | z
      · exact (hfp b hb).1.2.1 z
      · exact (hfp b hb).1.2.2.1 z
  refine ⟨okB, rfl, hb, Un.kept kp, ⟨m, hns, fun i y av e1 e2 e3 => ?_⟩, fun y c e => ?_, I.hok.fresh (Nat.le_refl _), fun y c e => I.freeC y c (cm e).1, fun p hp => absurd (show p ∈ ([] : List (Addr × Obj)) ++ [] from hp) (by simp), I.hok.kept kp, by rw [wipe_length]; exact I.len⟩
  · obtain ⟨e2, hne⟩ := wipe_some e2
    have no : ¬ (scope.names.lookup y = some .local ∨ scope.names.lookup y = some .cell) := fun hh => by
      have : ∃ k, (k = NameKind.local ∨ k = .cell) ∧ scope.names.lookup y = some k := by
        rcases hh with h | h
        · exact ⟨_, .inl rfl, h⟩
        · exact ⟨_, .inr rfl, h⟩
      obtain ⟨k, hk, e⟩ := this
      rcases ok.own _ (PySem.mem_of_lookup e) hk with e' | e'
      · obtain ⟨p, hp, hpy⟩ := List.mem_map.mp e'
        have e3 := ok.ix p hp
        have : p.1 = y := hpy
        rw [this] at e3
        exact hne (List.mem_map.mpr ⟨p, hp, nodup_ix hN e3 e1⟩)
      · exact e' (List.mem_of_getElem? e1)
    have hfr : scope.names.lookup y = some .free := by
      have e3 : scope.names.lookup y = some .local ∨ scope.names.lookup y = some .cell ∨ scope.names.lookup y = some .free := e3
      rcases e3 with e3 | e3 | e3
      · exact absurd (.inl e3) no
      · exact absurd (.inr e3) no
      · exact e3
    obtain ⟨m, hn, hl⟩ := I.loc
    have hvis : Vis X.env.scope y := (ok.free _ (PySem.mem_of_lookup hfr) rfl).elim (fun k => .inr (.inl k)) (fun k => .inr (.inr k))
    obtain ⟨w, r, q⟩ := hl i y av e1 e2 hvis
    refine ⟨w, r, .inr ⟨.inr hfr, ?_⟩⟩
    obtain ⟨c, h1, h2⟩ := look hfr
    rcases q with ⟨k, _⟩ | ⟨_, c', e', z⟩
    · have k : X.env.scope.names.lookup y = some .local := k
      rcases ok.free _ (PySem.mem_of_lookup hfr) rfl with k' | k' <;> rw [show X.env.scope.names.lookup y = _ from k'] at k <;> cases k
    · rw [h2] at e'; cases e'
      exact ⟨c, h1, z.keeps kp⟩
  · obtain ⟨h1, _⟩ := cm (show (cloFrom X.env.cells scope.names []).lookup y = some c from e)
    obtain ⟨w, z⟩ := I.cell y c h1
    exact ⟨w, z.keeps kp⟩
theorem inv_gens {s' : Shared} (I : Inv X pins σ H s) (hh : s'.heap = s.heap) (ho : s'.os = s.os) (hb : AllBare s'.gens) : Inv X pins σ H s' := by
  obtain ⟨h, g, d, t, o⟩ := s'
  have hh : h = s.heap := hh
  have ho : o = s.os := ho
  subst hh ho
  exact ⟨I.ok, I.os, hb, I.base, I.loc, I.cell, I.free, I.freeC, I.pin, I.hok, I.len⟩
end

/-! ### the generator's own loop -/
def GRe (G : Cx) (pa : List (Addr × Obj)) (σw : L2.St) (Qe : Bool → Hp → Prop) (w : Bool) : GenEnd := fun _ _ r s1 => r = .ok .next ∧ ∃ H1, Inv G pa σw H1 s1 ∧ Qe w H1
def GYe (G : Cx) (pa : List (Addr × Obj)) (Qe : Bool → Hp → Prop) (w : Bool) : Protocol := fun _ _ v s kap =>
  ∃ r σ' H1, v = .bool r ∧ Inv G pa σ' H1 s ∧ ((r = w ∧ ∀ s'', s''.heap = s.heap → s''.os = s.os → AllBare s''.gens → kap (.send .none) s'') ∨ (r ≠ w ∧ Qe r H1))
theorem seg_gloop {G : Cx} {AW : Around} {elt tg iter : Expr} {ifs : List Expr} {scope : Scope} {gpos : Pos} {it : Addr} {J : It} {fp : List Addr} {tn : Nat → Heap → Prop} {g : TG} {tt : TT} {te : TE} {vs : List Nat} {σw : L2.St} {pa : List (Addr × Obj)} {w : Bool} {Qe : Bool → Hp → Prop} (W : Nat → Nat → Hp → Prop)
    (hc : G.calm = true) (hxe : ∀ e s, ¬ G.xe e s) (hco : G.env.scope.isCoroutine = false) (T : Turn G.prog G.w G.K tg J fp it tn) (pg : PG G tg g) (pt : PTs G ifs tt) (pe : PE G elt te)
    (hov : AW.over (.compLoop (.GeneratorExp elt [⟨tg, iter, ifs, 0⟩] scope gpos) 0 (.ref it) .none G.env) [] = G.A)
    (stat : ∀ σ' H' s', Inv G pa σ' H' s' → (∀ b ∈ fp, H' b = none) → ∀ b ∈ fp, FpOk G pa H' b)
    (turn : ∀ i m H, W i m H → (J.stop i H ∧ Qe w H) ∨ (J.go i H ∧ ∃ Nx : Hp → Prop, (∀ H', Nx H' → ∃ m', m' < m ∧ W (i + 1) m' H') ∧ ∀ x H', J.yld i H x H' → g x σw H' fun σ2 H2 => wipe σ2 vs = σw ∧ tt σ2 H2 fun b H3 =>
      if b = true then te σ2 H3 fun y H4 => ∃ r : Bool, y = .bl r ∧ ((r = w ∧ Nx H4) ∨ (r ≠ w ∧ Qe r H4)) else Nx H3)) :
    ∀ (m n i : Nat) (s₀ s : Shared) (H : Hp), m < n → W i m H → Inv G pa σw H s → tn i s.heap → (∀ b ∈ fp, H b = none) →
      Seg (model G.prog G.w) AW (GRe G pa σw Qe w) (GYe G pa Qe w) n s₀ (.compLoop (.GeneratorExp elt [⟨tg, iter, ifs, 0⟩] scope gpos) 0 (.ref it) .none G.env)
        ((model G.prog G.w).den (.compLoop (.GeneratorExp elt [⟨tg, iter, ifs, 0⟩] scope gpos) 0 (.ref it) .none G.env)) [] s := by
  intro m
  induction m using Nat.strongRecOn with
  | ind m ih =>
    intro n i s₀ s H hmn w0 I st nf
    show Seg _ AW _ _ n s₀ _ ((compTurn (.GeneratorExp elt [⟨tg, iter, ifs, 0⟩] scope gpos) 0 (.ref it) .none G.env).onRaise (leaving G.env)) [] s
    rw [compTurn_gen, Sem.onRaise_eq_wrap]
    refine seg_bind_wrap (wpAny_standAt ?_)
    refine seg_bind_wrap ?_
    rw [hov]
    rcases turn i m H w0 with ⟨stop, qq⟩ | ⟨go, Nx, hNx, step⟩
    · refine wpAny_mono (T.done G rfl rfl rfl hc i pa s σw H (fun _ _ => False) I (stat _ _ _ I nf) st stop) (fun r s6 h6 => ?_) fun _ _ z => z.elim
      obtain ⟨hr, I6⟩ := h6
      subst hr
      exact seg_end (.ok .next) ⟨rfl, H, I6, qq⟩
    · refine wpAny_mono (T.item G rfl rfl rfl hc i pa s σw H (fun _ _ => False) I (stat _ _ _ I nf) st go) (fun r s6 h6 => ?_) fun _ _ z => z.elim
      obtain ⟨u, hr, h6⟩ := h6
      subst hr
      refine seg_bind_wrap ?_
      rw [hov]
      refine wpAny_mono h6 (fun _ s7 h7 => ?_) fun _ _ z => z.elim
      obtain ⟨x, H7, I7, r7, y7, st7, n7⟩ := h7
      have I7' := I7.pinned (stat _ _ _ I7 n7) (T.obj _ _ st7)
      refine seg_bind_wrap ?_
      rw [hov]
      refine wpAny_mono (pg.run _ s7 _ H7 x u _ I7' r7 (step x H7 y7)) (fun _ s8 h8 => ?_) fun e s' z => (hxe e s' z).elim
      obtain ⟨σ8, H8, I8, hw8, q8⟩ := h8
      refine seg_bind_wrap ?_
      rw [hov]
      refine wpAny_mono (pt.run _ s8 σ8 H8 _ I8 q8) (fun b s9 h9 => ?_) fun e s' z => (hxe e s' z).elim
      obtain ⟨H9, I9, q9⟩ := h9
      have fin : ∀ {s' : Shared} {H' : Hp}, Inv G (pa ++ pinsAt fp s7.heap) σ8 H' s' → Inv G pa σw H' s' ∧ tn (i + 1) s'.heap ∧ ∀ b ∈ fp, H' b = none := fun {s' H'} I' => by
        have pin' : ∀ b ∈ fp, ∀ o, s7.heap.get? b = some o → s'.heap.get? b = some o ∧ H' b = none := fun b hb o e =>
          let z := I'.pin (b, o) (List.mem_append_right _ (List.mem_append_right _ (mem_pinsAt hb e)))
          ⟨z.1, z.2.1⟩
        refine ⟨(I'.unpinned (pins := pa)).weak (by rw [← hw8, wipe_length]) (fun j v e => ?_), T.keep _ _ _ st7 fun b hb o e => (pin' b hb o e).1, fun b hb => ?_⟩
        · rw [← hw8] at e
          exact (wipe_some e).1
        · obtain ⟨o, e, _⟩ := T.obj _ _ st7 b hb
          exact (pin' b hb o e).2
      cases b with
      | false =>
        simp only [Bool.false_eq_true, if_false] at q9 ⊢
        obtain ⟨m', hm, w'⟩ := hNx _ q9
        obtain ⟨k1, k2, k3⟩ := fin I9
        exact seg_again rfl (ih m' hm n (i + 1) s₀ s9 H9 (by omega) w' k1 k2 k3)
      | true =>
        simp only [if_true] at q9 ⊢
        have hy : ∀ v, yieldOut G.env v = yieldValue v := fun v => by simp only [yieldOut, hco, Bool.false_eq_true, if_false]
        simp only [hy]
        rw [Sem.bind_eq_wrap', Sem.bind_eq_wrap', Sem.wrap_wrap, Sem.wrap_wrap]
        refine seg_wrap ?_
        rw [hov]
        refine wpAny_mono (pe.run _ s9 σ8 H9 _ I9 q9) (fun z s10 h10 => ?_) fun e s' z => (hxe e s' z).elim
        obtain ⟨yv, H10, I10, r10, r, rfl, q10⟩ := h10
        have rz : z = .bool r := r10
        subst rz
        obtain ⟨k1, k2, k3⟩ := fin I10
        rcases q10 with ⟨hr, nx⟩ | ⟨hr, qq⟩
        · obtain ⟨m', hm, w'⟩ := hNx _ nx
          cases n with
          | zero => omega
          | succ n =>
            refine seg_at (seg_yield rfl rfl rfl ⟨r, σw, H10, rfl, k1, .inl ⟨hr, fun s'' hh ho hb => ?_⟩⟩)
            exact seg_again rfl (ih m' hm n (i + 1) s'' s'' H10 (by omega) w' (inv_gens k1 hh ho hb) (by rw [hh]; exact k2) k3)
        · cases n with
          | zero => omega
          | succ n => exact seg_at (seg_yield rfl rfl rfl ⟨r, σw, H10, rfl, k1, .inr ⟨hr, qq⟩⟩)

theorem seg_gstart {G : Cx} {AW : Around} {elt tg iter : Expr} {ifs : List Expr} {scope : Scope} {gpos : Pos} {it : Addr} {J : It} {fp : List Addr} {tn : Nat → Heap → Prop} {R : GenEnd} {Y : Protocol} {n i : Nat} {s₀ s : Shared}
    (T : Turn G.prog G.w G.K tg J fp it tn) (st : tn i s.heap)
    (loop : Seg (model G.prog G.w) AW R Y n s₀ (.compLoop (.GeneratorExp elt [⟨tg, iter, ifs, 0⟩] scope gpos) 0 (.ref it) .none G.env) ((model G.prog G.w).den (.compLoop (.GeneratorExp elt [⟨tg, iter, ifs, 0⟩] scope gpos) 0 (.ref it) .none G.env)) [] s) :
    Seg (model G.prog G.w) AW R Y n s₀ (.compStart (.GeneratorExp elt [⟨tg, iter, ifs, 0⟩] scope gpos) 0 (.ref it) .none G.env) ((model G.prog G.w).den (.compStart (.GeneratorExp elt [⟨tg, iter, ifs, 0⟩] scope gpos) 0 (.ref it) .none G.env)) [] s := by
  show Seg _ AW _ _ _ s₀ _ ((compStart (.GeneratorExp elt [⟨tg, iter, ifs, 0⟩] scope gpos) 0 (.ref it) .none G.env).onRaise (leaving G.env)) [] s
  unfold compStart
  rw [Sem.onRaise_eq_wrap]
  show Seg _ AW _ _ _ s₀ _ ((ask >>= _).wrap _ _ _ _) [] s
  refine seg_bind_wrap (wpAny_askSetting ?_)
  split
  · exact seg_again rfl loop
  · refine seg_bind_wrap (wpAny_rule ?_)
    first
      | exact seg_bind_wrap (wpAny_standAt (seg_bind_wrap (T.self _ i s _ _ st (seg_again rfl loop))))
      | (show Seg _ AW _ _ _ s₀ _ ((standAt iter.pos >>= _).wrap _ _ _ _) [] s; exact seg_bind_wrap (wpAny_standAt (seg_bind_wrap (T.self _ i s _ _ st (seg_again rfl loop)))))

/-! ### the consumer -/
/-- the generator at a, ready to be pulled -/
def GRdy (X : Cx) (pins : List (Addr × Obj)) (σ : L2.St) (w : Bool) (Qe : Bool → Hp → Prop) (n : Nat) (a : Addr) (s5 : Shared) : Prop :=
  ∃ (G : Cx) (pa : List (Addr × Obj)) (g : Nat) (gs : GenState) (σw : L2.St), G.prog = X.prog ∧ G.w = X.w ∧ (∀ σ' H' s', Inv G pa σ' H' s' → s'.heap.IsGen a g) ∧ (∃ σ' H', Inv G pa σ' H' s5) ∧ s5.gens[g]? = some gs ∧
    gs.Goes (model X.prog X.w) X.A.in1.in1 (GRe G pa σw Qe w) (GYe G pa Qe w) n (.send .none) (s5.setGen g .running) ∧ ∀ σ' H' s', Inv G pa σ' H' s' → Inv X pins σ H' s'
theorem bare_set {s : Shared} {g : Nat} {x : GenState} (h : AllBare s.gens) (hx : x.bare = true) : AllBare (s.setGen g x).gens := by
  have e : (s.setGen g x).gens = s.gens.setIfInBounds g x := rfl
  rw [e]
  intro y hy
  rcases Array.mem_or_eq_of_mem_setIfInBounds hy with q | q
  · exact h y q
  · rw [q]; exact hx
theorem pull {X : Cx} {pins : List (Addr × Obj)} {σ : L2.St} {w : Bool} {Qe : Bool → Hp → Prop} {n : Nat} {a : Addr} {s : Shared} {E : Value → Shared → Prop} {Q : Option Value → Shared → Prop} (hd : X.A.handled = none) (hr : X.A.depth < recursionLimit) (h : GRdy X pins σ w Qe n a s)
    (hN : ∀ H' s', Inv X pins σ H' s' → Qe w H' → Q none s') (hS : ∀ r H' s', Inv X pins σ H' s' → r ≠ w → Qe r H' → Q (some (.bool r)) s') (hG : ∀ m s', n = m + 1 → GRdy X pins σ w Qe m a s' → Q (some (.bool w)) s') :
    wpAny (model X.prog X.w) X.A.in1 (pyNext (.ref a)) Q E s := by
  obtain ⟨G, pa, g, gs, σw, ep, ew, ig, ⟨σ', H', I⟩, hgs, hgo, back⟩ := h
  have hlt : g + 1 ≤ s.gens.size := by
    rcases Nat.lt_or_ge g s.gens.size with h' | h'
    · exact h'
    · rw [Array.getElem?_eq_none h'] at hgs; cases hgs
  refine wpAny_gsz hlt ?_
  refine wpAny_pyNext_genexpQ (P := fun _ s₀ s1 => ∃ H1, Inv G pa σw H1 s1 ∧ Qe w H1) hd (back _ _ _ I).nolimit hr (ig _ _ _ I) hgs hgo (fun v s₁ gs' hb hv => ?_) fun s₁ hp h' hk => ?_
  · obtain ⟨r, σ1, H1, rfl, I1, q⟩ := hv
    intro hsz
    rcases q with ⟨rfl, hk⟩ | ⟨hr, qq⟩
    · cases n with
      | zero => exact (hk s₁ rfl rfl I1.bare).elim
      | succ m =>
        refine hG m _ rfl ⟨G, pa, g, gs', σw, ep, ew, ig, ⟨σ1, H1, inv_gens I1 rfl rfl (bare_set I1.bare hb)⟩, ?_, ?_, back⟩
        · have : g < s₁.gens.size := by
            have e : (s₁.setGen g gs').gens.size = s₁.gens.size := by simp [Shared.setGen]
            omega
          simp [Shared.setGen, this]
        · exact hk _ rfl rfl (bare_set (s := s₁.setGen g gs') (bare_set I1.bare hb) rfl)
    · exact hS r H1 _ (back _ _ _ (inv_gens I1 rfl rfl (bare_set I1.bare hb))) hr qq
  · obtain ⟨H1, I1, qq⟩ := hp
    intro _
    refine hN H1 _ ?_ qq
    have I2 := back _ _ _ (inv_gens (s' := s₁.setGen g .finished) I1 rfl rfl (bare_set I1.bare rfl))
    exact I2.kept (t' := (s₁.setGen g .finished).toks) hk
theorem all_gloop {X : Cx} {pins : List (Addr × Obj)} {σ : L2.St} {Qe : Bool → Hp → Prop} {a : Addr} {R : Result → Shared → Prop} (hd : X.A.handled = none) (hr : X.A.depth < recursionLimit) (hR : ∀ r H' s', Inv X pins σ H' s' → Qe r H' → R (.ok (.ret (.bool r))) s') :
    ∀ (n : Nat) (s : Shared), GRdy X pins σ true Qe n a s → codeAny (model X.prog X.w) X.A (.builtin "all.loop" ⟨[.ref a], []⟩) R s := by
  intro n
  induction n with
  | zero =>
    intro s h
    refine codeAny_builtin F.entry_all_loop ?_
    rw [Around.under_plainId F.plain_all_loop _]
    show wpAny _ X.A.in1 (pyNext (.ref a) >>= _) _ _ s
    refine wpAny_bind (pull hd hr h (fun H' s' I q => wpAny_bind (wpAny_rule (wpAny_pure (hR true H' s' I q)))) (fun r H' s' I hr q => ?_) fun m s' e => by omega)
    refine wpAny_bind (wpAny_holding (wpAny_truthy_bool ?_))
    refine wpAny_bind (wpAny_letGo ?_)
    cases r with
    | true => exact absurd rfl hr
    | false =>
      simp only [Bool.false_eq_true, if_false]
      exact wpAny_bind (wpAny_rule (wpAny_pure (hR false H' s' I q)))
  | succ n ih =>
    intro s h
    refine codeAny_builtin F.entry_all_loop ?_
    rw [Around.under_plainId F.plain_all_loop _]
    show wpAny _ X.A.in1 (pyNext (.ref a) >>= _) _ _ s
    refine wpAny_bind (pull hd hr h (fun H' s' I q => wpAny_bind (wpAny_rule (wpAny_pure (hR true H' s' I q)))) (fun r H' s' I hr q => ?_) fun m s' e hG => ?_)
    · refine wpAny_bind (wpAny_holding (wpAny_truthy_bool ?_))
      refine wpAny_bind (wpAny_letGo ?_)
      cases r with
      | true => exact absurd rfl hr
      | false =>
        simp only [Bool.false_eq_true, if_false]
        exact wpAny_bind (wpAny_rule (wpAny_pure (hR false H' s' I q)))
    · cases e
      refine wpAny_bind (wpAny_holding (wpAny_truthy_bool ?_))
      refine wpAny_bind (wpAny_letGo ?_)
      simp only [if_true]
      exact wpAny_pure ⟨plainId_quiet F.plain_all_loop _, ih _ hG⟩
theorem any_gloop {X : Cx} {pins : List (Addr × Obj)} {σ : L2.St} {Qe : Bool → Hp → Prop} {a : Addr} {R : Result → Shared → Prop} (hd : X.A.handled = none) (hr : X.A.depth < recursionLimit) (hR : ∀ r H' s', Inv X pins σ H' s' → Qe r H' → R (.ok (.ret (.bool r))) s') :
    ∀ (n : Nat) (s : Shared), GRdy X pins σ false Qe n a s → codeAny (model X.prog X.w) X.A (.builtin "any.loop" ⟨[.ref a], []⟩) R s := by
  intro n
  induction n with
  | zero =>
    intro s h
    refine codeAny_builtin F.entry_any_loop ?_
    rw [Around.under_plainId F.plain_any_loop _]
    show wpAny _ X.A.in1 (pyNext (.ref a) >>= _) _ _ s
    refine wpAny_bind (pull hd hr h (fun H' s' I q => wpAny_bind (wpAny_rule (wpAny_pure (hR false H' s' I q)))) (fun r H' s' I hr q => ?_) fun m s' e => by omega)
    refine wpAny_bind (wpAny_holding (wpAny_truthy_bool ?_))
    refine wpAny_bind (wpAny_letGo ?_)
    cases r with
    | false => exact absurd rfl hr
    | true =>
      simp only [if_true]
      exact wpAny_bind (wpAny_rule (wpAny_pure (hR true H' s' I q)))
  | succ n ih =>
    intro s h
    refine codeAny_builtin F.entry_any_loop ?_
    rw [Around.under_plainId F.plain_any_loop _]
    show wpAny _ X.A.in1 (pyNext (.ref a) >>= _) _ _ s
    refine wpAny_bind (pull hd hr h (fun H' s' I q => wpAny_bind (wpAny_rule (wpAny_pure (hR false H' s' I q)))) (fun r H' s' I hr q => ?_) fun m s' e hG => ?_)
    · refine wpAny_bind (wpAny_holding (wpAny_truthy_bool ?_))
      refine wpAny_bind (wpAny_letGo ?_)
      cases r with
      | false => exact absurd rfl hr
      | true =>
        simp only [if_true]
        exact wpAny_bind (wpAny_rule (wpAny_pure (hR true H' s' I q)))
    · cases e
      refine wpAny_bind (wpAny_holding (wpAny_truthy_bool ?_))
      refine wpAny_bind (wpAny_letGo ?_)
      simp only [Bool.false_eq_true, if_false]
      exact wpAny_pure ⟨plainId_quiet F.plain_any_loop _, ih _ hG⟩

/-! ### the expression -/
/-- the code's table at P may grow -/
def tAA (P : Addr) (wi : TI) (g : TG) (tt : TT) (te : TE) (vs : List Nat) (w : Bool) : TE := fun σ H Q => wi σ H fun J H1 => GxR.TabG H1 P ∧ ∀ H2, GxR.Tabbed P H1 H2 → ∃ W : Nat → Nat → Hp → Prop, (∃ m, W 0 m H2) ∧ ∀ i m H, W i m H →
  (J.stop i H ∧ Q (.bl w) H) ∨ (J.go i H ∧ ∃ Nx : Hp → Prop, (∀ H', Nx H' → ∃ m', m' < m ∧ W (i + 1) m' H') ∧ ∀ x H', J.yld i H x H' → g x (wipe σ vs) H' fun σ2 H2 => wipe σ2 vs = wipe σ vs ∧ tt σ2 H2 fun b H3 =>
    if b = true then te σ2 H3 fun y H4 => ∃ r : Bool, y = .bl r ∧ ((r = w ∧ Nx H4) ∨ (r ≠ w ∧ Q (.bl r) H4)) else Nx H3)
section
variable {X : Cx} {c P : Addr} {elt tg iter : Expr} {ifs : List Expr} {scope : Scope} {own : List (Str × Nat)} {pos gpos p : Pos} {wi : TI} {g : TG} {tt : TT} {te : TE} {k : Nat} {w : Bool}
theorem gen_make {pins : List (Addr × Obj)} {σ : L2.St} {H : Hp} {s : Shared} {Q : VK} {Q' : Value → Shared → Prop} (hr : Room (k + 1) X.A) (hc : X.calm = true) (hN : X.N.Nodup) (TB : GxR.TabB X.base X.mg c P) (hcode : X.env.code = .ref c) (hi : PI X tg iter wi) (ok : BlkOk X.N X.env.scope scope own)
    (hco : scope.isCoroutine = false) (nocell : ∀ y ∈ scope.names, y.2 ≠ .cell) (hdot : scope.names.lookup (".0" : Str) = some NameKind.local)
    (hg : ∀ (A' : Around) (s : Shared) (H : Hp) (C : Addr) (code : Value) (fp : List Addr), Room k A' → PG (gex X A' s H (gEnv X scope C code) fp) tg g)
    (ht : ∀ (A' : Around) (s : Shared) (H : Hp) (C : Addr) (code : Value) (fp : List Addr), Room k A' → PTs (gex X A' s H (gEnv X scope C code) fp) ifs tt)
    (he : ∀ (A' : Around) (s : Shared) (H : Hp) (C : Addr) (code : Value) (fp : List Addr), Room k A' → PE (gex X A' s H (gEnv X scope C code) fp) elt te)
    (hs : ∀ v, genFold iter X.env v = pure v) (I : Inv X pins σ H s) (h : tAA P wi g tt te (own.map (·.2)) w σ H Q)
    (hQ : ∀ a n s5, s5.heap.IsGen a (s5.gens.size - 1) → GRdy X pins σ w (fun b H => Q (.bl b) H) n a s5 → Q' (.ref a) s5) :
    wpAny (model X.prog X.w) X.A (eval (.GeneratorExp elt [⟨tg, iter, ifs, 0⟩] scope gpos) X.env) Q' X.xe s := by
  have hfree : ∀ y ∈ scope.names, y.2 = .free → ∃ c, X.env.cells.lookup y.1 = some c := fun y hy e => by
    rcases ok.free y hy e with k | k
    · exact I.ok.has _ (.inl k)
    · exact I.ok.has _ (.inr k)
  refine wpAny_GeneratorExp_make hco (closure_ok hfree) nocell hdot ok.kind (by have := hr.dp; omega) (thn (hi.run pins s σ H _ I h) fun xv s1 hx => thn hx fun itv s2 h2 => ?_) hs
  obtain ⟨it, fp, tn, J, H2, e, I2, T, st2, f2, ⟨ps, hP, htr⟩, q⟩ := h2
  subst e
  have hPs : s2.heap.get? P = some { cls := .none, data := .fields ps } := I2.hok P _ hP
  have hPlt : P < s2.heap.objs.size := Heap.lt_size hPs
  have cd : PySem.W.CodeHd s2.heap c P := TB.code.keeps fun b u e => I2.bk b u e
  have sz2 : ∀ b ∈ fp, b < s2.heap.objs.size := fun b hb => by
    obtain ⟨o, e, _⟩ := T.obj _ _ st2 b hb
    exact Heap.lt_size e
  refine ⟨I2.nolimit, ?_⟩
  have cont : ∀ (code : Value) (h3 : Heap) (tk : Nat) (ps' : Array Value), Heap.ExtBut P s2.heap h3 → s2.heap.objs.size ≤ h3.objs.size → h3.get? P = some { cls := .none, data := .fields ps' } → (∃ more, ps' = ps ++ more) → TriplesOk ps'.toList →
      wpAny (model X.prog X.w) X.A (builtinsFor X.env.globals X.env.builtins) (fun bi s₄ =>
        ∀ h', h'.Ns s₄.heap.objs.size (fun y => if y = ".0" then some (.ref it) else none) → Heap.SameBut s₄.heap.objs.size (s₄.heap.push { cls := .type "frame", data := .dict #[] }) h' →
          Q' (.ref h'.objs.size) { s₄ with
            gens := s₄.gens.push (.fresh (.compStart (.GeneratorExp elt [⟨tg, iter, ifs, 0⟩] scope gpos) 0 (.ref it) .none (genEnv scope (cloFrom X.env.cells scope.names []) s₄.heap.objs.size code bi X.env))),
            toks := s₄.toks + 1 + 1 + 1,
            heap := h'.push { cls := .type "generator", data := .fields #[.int s₄.gens.size 0, .str "<genexpr>" (s₄.toks + 1), .str (X.env.qual ++ "<genexpr>") (s₄.toks + 1 + 1)] } }) X.xe { s2 with heap := h3, toks := tk } := by
    intro code h3 tk ps' hx hsz hP3 hmore ht3
    obtain ⟨more, em⟩ := hmore
    have I3 : Inv X pins σ (upd H2 P (.tbl (ps ++ more))) { s2 with heap := h3, toks := tk } :=
      GxR.inv_tab (h' := h3) (g' := s2.gens) (d' := s2.drawn) (t' := tk) I2 hP (fun b u hb e => hx b u hb e) (by rw [← em]; exact hP3) I2.bare
    generalize hH3 : upd H2 P (.tbl (ps ++ more)) = H3 at I3
    have hq := q H3 (by rw [← hH3]; exact ⟨⟨ps ++ more, upd_same, by rw [← em]; exact ht3⟩, fun b hb => upd_ne hb⟩)
    obtain ⟨W, ⟨m0, w0⟩, turn⟩ := hq
    obtain ⟨bm, ob, e1, e2, e3, e4, e5, e6, e7, e8⟩ := TB.bm
    refine wpAny_builtinsFor (m := X.mg) (by rw [I2.ok.glob]; exact (I2.mod.glob.keeps I2.bk).extBut hx TB.gP) e1 e2 (hx _ _ e4 (I2.bk _ _ e5)) e6 e7 e8 ?_
    generalize hs4 : ({ s2 with heap := h3, toks := tk } : Shared) = s4 at I3 ⊢
    have h34 : s4.heap = h3 := by rw [← hs4]
    intro h' hn' hs'
    have hsz' : h'.objs.size = s4.heap.objs.size + 1 := by rw [hs'.1, Heap.size_push]
    have keep' : ∀ b o, s4.heap.get? b = some o → h'.get? b = some o := fun b o e => hs'.extBut b o (Nat.ne_of_lt (Heap.lt_size e)) (Heap.get?_push_of_some _ e)
    generalize hgo : ({ cls := .type "generator", data := .fields #[.int s4.gens.size 0, .str "<genexpr>" (s4.toks + 1), .str (X.env.qual ++ "<genexpr>") (s4.toks + 1 + 1)] } : Obj) = go
    have keep₅ : ∀ b o, s4.heap.get? b = some o → (h'.push go).get? b = some o := fun b o e => Heap.get?_push_of_some _ (keep' b o e)
    have f3 : ∀ b ∈ fp, FpOk X pins H3 b ∧ b < s4.heap.objs.size := fun b hb => by
      have hlt := sz2 b hb
      have hbP : b ≠ P := fun z => by
        have := (f2 b hb).1
        rw [z, hP] at this; cases this
      refine ⟨⟨?_, (f2 b hb).2⟩, by rw [h34]; exact Nat.lt_of_lt_of_le hlt hsz⟩
      rw [← hH3, upd_ne hbP]
      exact (f2 b hb).1
    have st3 : tn 0 (h'.push go) := T.keep _ _ _ st2 fun b hb o e => keep₅ b o (by
      rw [h34]
      exact hx b o (fun z => by
        have := (f2 b hb).1
        rw [z, hP] at this; cases this) e)
    generalize hcode' : (Code.compStart (.GeneratorExp elt [⟨tg, iter, ifs, 0⟩] scope gpos) 0 (.ref it) .none (genEnv scope (cloFrom X.env.cells scope.names []) s4.heap.objs.size code builtinsNs X.env)) = cst
    generalize hAG : X.A.in1.in1.over (.compLoop (.GeneratorExp elt [⟨tg, iter, ifs, 0⟩] scope gpos) 0 (.ref it) .none (gEnv X scope s4.heap.objs.size code)) [] = AG
    have hfr : AG.frames = some (gEnv X scope s4.heap.objs.size code :: X.stack) := by
      rw [← hAG]
      show pushEnvs [gEnv X scope s4.heap.objs.size code] (pushEnvs (envsOf []) X.A.frames) = _
      rw [I2.ok.frames]
      rfl
    have hhd : AG.handled = none := by rw [← hAG]; exact hr.hd
    have hrG : Room k AG := by
      have hd := hr.dp
      have hu := hr.un
      refine ⟨hhd, ?_, ?_⟩
      · have : AG.depth ≤ X.A.depth + 1 := by rw [← hAG]; exact Nat.le_of_eq rfl
        omega
      · have : AG.units ≤ X.A.units + 5 := by rw [← hAG]; exact Nat.le_of_eq rfl
        omega
    have bareP : AllBare (s4.gens.push (.fresh cst)) := I3.bare.push rfl
    have I4 := gen_start (A' := AG) (code := code) (h' := h'.push go) (g' := s4.gens.push (.fresh cst)) (t' := s4.toks + 1 + 1 + 1) I3 ok hN nocell f3 hfr hhd (hn'.push _) keep₅ bareP
    have pg := hg AG s4 H3 s4.heap.objs.size code fp hrG
    have pt := ht AG s4 H3 s4.heap.objs.size code fp hrG
    have pe := he AG s4 H3 s4.heap.objs.size code fp hrG
    have hga : (h'.push go).get? h'.objs.size = some go := Heap.get?_push_size _ (by rw [← hgo]; rfl)
    have hig : ∀ h : Heap, h.get? h'.objs.size = some go → h.IsGen h'.objs.size s4.gens.size := fun h e => ⟨go, _, _, e, by rw [← hgo], by rw [← hgo], by rw [← hgo]⟩
    have hge : s4.heap.objs.size ≤ h'.objs.size := by omega
    have naL : h'.objs.size ≠ X.env.locals := fun z => absurd (Nat.lt_of_lt_of_le I3.lt hge) (by rw [z]; exact Nat.lt_irrefl _)
    generalize hG : gex X AG s4 H3 (gEnv X scope s4.heap.objs.size code) fp = G at I4 pg pt pe
    have GL : G.env.locals = s4.heap.objs.size := by subst hG; rfl
    have I5 : Inv G [(h'.objs.size, go)] (wipe σ (own.map (·.2))) H3 { s4 with heap := h'.push go, gens := s4.gens.push (.fresh cst), toks := s4.toks + 1 + 1 + 1 } := I4.pins_of fun p hp => by
      rw [List.mem_singleton.mp hp]
      refine ⟨hga, I3.hok.fresh hge, ?_, ?_, fun v e => ?_⟩
      · rw [GL]
        show h'.objs.size ≠ s4.heap.objs.size
        omega
      · intro z
        have z : h'.objs.size ∈ frs X.stack := by subst hG; exact z
        rcases List.mem_cons.mp (I3.stkSub _ z) with z | z
        · exact naL z
        · exact I3.nofs hge z
      · rw [← hgo] at e; cases e
    have stat : ∀ (σ' : L2.St) (H' : Hp) (s' : Shared), Inv G [(h'.objs.size, go)] σ' H' s' → (∀ b ∈ fp, H' b = none) → ∀ b ∈ fp, FpOk G [(h'.objs.size, go)] H' b := fun σ' H' s' I' hn b hb => by
      have hb' : b ∈ G.ex := by subst hG; exact hb
      refine ⟨hn b hb, (I'.ok.exf b hb').1, I'.ok.exfs b hb', .inl hb', fun x c e => (I'.ok.exf b hb').2 x c e, fun p hp => ?_⟩
      have hp : p ∈ [(h'.objs.size, go)] := by subst hG; exact hp
      rw [List.mem_singleton.mp hp]
      intro z
      have := (f3 b hb).2
      rw [← z] at this
      have : h'.objs.size < s4.heap.objs.size := this
      omega
    have back : ∀ (σ' : L2.St) (H' : Hp) (s' : Shared), Inv G [(h'.objs.size, go)] σ' H' s' → Inv X pins σ H' s' := fun σ' H' s' I' => by
      subst hG
      exact I3.call' (ch := fp) I'.os I'.base I'.hok I'.bare fun b hb => ⟨(f3 b hb).1.2.2.2.1, (f3 b hb).1.2.1, (f3 b hb).1.2.2.2.2.1, (f3 b hb).1.2.2.2.2.2⟩
    refine hQ _ (m0 + 1) _ ?_ ⟨G, [(h'.objs.size, go)], s4.gens.size, .fresh cst, wipe σ (own.map (·.2)), by subst hG; rfl, by subst hG; rfl, fun σ' H' s' I' => hig _ (I'.pin _ (List.mem_append_right _ (List.mem_singleton.mpr rfl))).1, ⟨_, _, I5⟩, Array.getElem?_push_size .., ?_, back⟩
    · have : (s4.gens.push (.fresh cst)).size - 1 = s4.gens.size := by simp
      show Heap.IsGen (h'.push go) _ ((s4.gens.push (.fresh cst)).size - 1)
      rw [this]
      exact hig _ hga
    · refine ⟨rfl, ?_⟩
      subst hcode'
      subst hG
      exact seg_gstart (G := gex X AG s4 H3 (gEnv X scope s4.heap.objs.size code) fp) (J := J) (fp := fp) (tn := tn) T (i := 0) st3 (seg_gloop (G := gex X AG s4 H3 (gEnv X scope s4.heap.objs.size code) fp) (J := J) (fp := fp) (tn := tn) (g := g) (tt := tt) (te := te) (vs := own.map (·.2)) W hc (fun _ _ z => z) hco T pg pt pe hAG stat turn m0 (m0 + 1) 0 _ _ H3 (Nat.lt_succ_self _) w0
        (inv_gens I5 rfl rfl (bare_set I5.bare rfl)) st3 fun b hb => (f3 b hb).1.1)
  cases hf : codeAmong gpos ps.toList with
  | none =>
    refine wpAny_genexprCodeX hcode (cd.code hPs htr) (cd.tab hPs) hf fun c' h' tk hx hge hlt hco' _ htab' _ => ?_
    obtain ⟨o1, vs, f1, tf, fl, tg, inF, tx, tt, op, _, _, _, _, _, _, _, _, _, htr', _⟩ := hco'
    exact cont _ h' tk _ hx (Nat.le_trans hge (Nat.le_of_lt hlt)) htab'.2 ⟨_, rfl⟩ htr'
  | some cv =>
    refine wpAny_genexprCode_hit hcode (cd.code hPs htr) hf ?_
    exact cont cv s2.heap s2.toks ps (Heap.ExtBut.refl _ _) (Nat.le_refl _) hPs ⟨#[], by simp⟩ htr
theorem pe_allG (hr : Room (k + 1) X.A) (hc : X.calm = true) (hN : X.N.Nodup) (hgl : Gl X "all") (hm : X.mg "all" = none) (TB : GxR.TabB X.base X.mg c P) (hcode : X.env.code = .ref c) (hi : PI X tg iter wi) (ok : BlkOk X.N X.env.scope scope own)
    (hco : scope.isCoroutine = false) (nocell : ∀ y ∈ scope.names, y.2 ≠ .cell) (hdot : scope.names.lookup (".0" : Str) = some NameKind.local)
    (hg : ∀ (A' : Around) (s : Shared) (H : Hp) (C : Addr) (code : Value) (fp : List Addr), Room k A' → PG (gex X A' s H (gEnv X scope C code) fp) tg g)
    (ht : ∀ (A' : Around) (s : Shared) (H : Hp) (C : Addr) (code : Value) (fp : List Addr), Room k A' → PTs (gex X A' s H (gEnv X scope C code) fp) ifs tt)
    (he : ∀ (A' : Around) (s : Shared) (H : Hp) (C : Addr) (code : Value) (fp : List Addr), Room k A' → PE (gex X A' s H (gEnv X scope C code) fp) elt te)
    (hs : ∀ v, genFold iter X.env v = pure v)
    (he1 : starEach [.GeneratorExp elt [⟨tg, iter, ifs, 0⟩] scope gpos] X.env = (false, eval (.GeneratorExp elt [⟨tg, iter, ifs, 0⟩] scope gpos) X.env) :: starEach [] X.env := by rfl) :
    PE X (.Call (.Name "all" p) [.GeneratorExp elt [⟨tg, iter, ifs, 0⟩] scope gpos] [] pos) (tAA P wi g tt te (own.map (·.2)) true) := by
  refine ⟨fun pins s σ H Q I h => ?_⟩
  refine wpAny_Call_Name_kw (ld_blt I hgl hm (by rfl) ?_)
  refine PyProof.Rows.callWith_builtin1 ?_ he1 (by rfl)
  rw [he1]
  show wpAny _ _ (spliced ((false, eval (.GeneratorExp elt [⟨tg, iter, ifs, 0⟩] scope gpos) X.env) :: backTo pos (starEach [] X.env))) _ _ s
  refine Calls.spliced_cons (gen_make hr hc hN TB hcode hi ok hco nocell hdot hg ht he hs I h fun a n s5 hig hG => ?_)
  refine Calls.spliced_nil ?_
  refine call_function_tree F.kind_all F.plain_all F.entry_all (F.args_all1 _) ?_
  unfold Builtin.«all»
  refine wpAny_bind (m := oneArg "all" _) (wpAny_pure ?_)
  refine wpAny_bind (wpAny_pyIter_gen hig ?_)
  exact wpAny_pure ⟨plainId_quiet F.plain_all_loop _, all_gloop hr.hd (by have := hr.dp; omega) (fun r H' s' I' q => ⟨.bl r, H', I', rfl, q⟩) n s5 hG⟩
theorem pe_anyG (hr : Room (k + 1) X.A) (hc : X.calm = true) (hN : X.N.Nodup) (hgl : Gl X "any") (hm : X.mg "any" = none) (TB : GxR.TabB X.base X.mg c P) (hcode : X.env.code = .ref c) (hi : PI X tg iter wi) (ok : BlkOk X.N X.env.scope scope own)
    (hco : scope.isCoroutine = false) (nocell : ∀ y ∈ scope.names, y.2 ≠ .cell) (hdot : scope.names.lookup (".0" : Str) = some NameKind.local)
    (hg : ∀ (A' : Around) (s : Shared) (H : Hp) (C : Addr) (code : Value) (fp : List Addr), Room k A' → PG (gex X A' s H (gEnv X scope C code) fp) tg g)
    (ht : ∀ (A' : Around) (s : Shared) (H : Hp) (C : Addr) (code : Value) (fp : List Addr), Room k A' → PTs (gex X A' s H (gEnv X scope C code) fp) ifs tt)
    (he : ∀ (A' : Around) (s : Shared) (H : Hp) (C : Addr) (code : Value) (fp : List Addr), Room k A' → PE (gex X A' s H (gEnv X scope C code) fp) elt te)
    (hs : ∀ v, genFold iter X.env v = pure v)
    (he1 : starEach [.GeneratorExp elt [⟨tg, iter, ifs, 0⟩] scope gpos] X.env = (false, eval (.GeneratorExp elt [⟨tg, iter, ifs, 0⟩] scope gpos) X.env) :: starEach [] X.env := by rfl) :
    PE X (.Call (.Name "any" p) [.GeneratorExp elt [⟨tg, iter, ifs, 0⟩] scope gpos] [] pos) (tAA P wi g tt te (own.map (·.2)) false) := by
  refine ⟨fun pins s σ H Q I h => ?_⟩
  refine wpAny_Call_Name_kw (ld_blt I hgl hm (by rfl) ?_)
  refine PyProof.Rows.callWith_builtin1 ?_ he1 (by rfl)
  rw [he1]
  show wpAny _ _ (spliced ((false, eval (.GeneratorExp elt [⟨tg, iter, ifs, 0⟩] scope gpos) X.env) :: backTo pos (starEach [] X.env))) _ _ s
  refine Calls.spliced_cons (gen_make hr hc hN TB hcode hi ok hco nocell hdot hg ht he hs I h fun a n s5 hig hG => ?_)
  refine Calls.spliced_nil ?_
  refine call_function_tree F.kind_any F.plain_any F.entry_any (F.args_any1 _) ?_
  unfold Builtin.«any»
  refine wpAny_bind (m := oneArg "any" _) (wpAny_pure ?_)
  refine wpAny_bind (wpAny_pyIter_gen hig ?_)
  exact wpAny_pure ⟨plainId_quiet F.plain_any_loop _, any_gloop hr.hd (by have := hr.dp; omega) (fun r H' s' I' q => ⟨.bl r, H', I', rfl, q⟩) n s5 hG⟩
end

/-! ### the reading -/
def boolR (y : D) (f : Bool → R D) : R D := match y with
  | .bool r => f r
  | _ => .no
@[simp] theorem boolR_bool (r : Bool) (f : Bool → R D) : boolR (.bool r) f = f r := rfl
noncomputable def aaL (w : Bool) (t : Tg) (c : Tx) (g : Ex) (o : Option Nat) (all : List D) (env : Envd) : List D → Sto → R D
  | [], S => guardR o all S (.ok (.bool w) S)
  | d :: ds, S => guardR o all S (optR (t d env) fun env1 => (c env1 S).calm.bind fun b S1 =>
      if b = true then (g env1 S1).calm.bind fun y S2 => boolR y fun r => if r = w then aaL w t c g o all env ds S2 else .ok (.bool r) S2 else aaL w t c g o all env ds S1)
noncomputable def aaE (w : Bool) (gi : Ix) (t : Tg) (c : Tx) (g : Ex) (vs : List Nat) : Ex := fun env S => (gi env S).bind fun p S1 => aaL w t c g p.2 p.1 (wipeE env vs) p.1 S1
section
variable {K : PySem.W.Frag} {H H2 : Hp} {ρ : Rho} {P : Addr} {S : Sto}
theorem stp_tab (t : GxR.Tabbed P H H2) (h : TabG H P) (n : P ∉ ρ.c) : Stp ρ H ρ H2 where
  pre := ⟨[], by simp⟩
  hid := ⟨[], rfl, fun _ h => nomatch h⟩
  new := fun _ h => .inl h
  keep := fun a o e _ => by
    by_cases z : a = P
    · subst z
      obtain ⟨ps, e', _⟩ := h
      obtain ⟨ps2, e2, _⟩ := t.1
      rw [e'] at e; cases e
      exact ⟨_, e2, fun z => (z ps rfl).elim⟩
    · exact ⟨o, (t.2 a z).trans e, fun _ => rfl⟩
  tab := fun Q _ hq => by
    by_cases z : Q = P
    · subst z; exact t.1
    · obtain ⟨ps, e, q⟩ := hq
      exact ⟨ps, (t.2 Q z).trans e, q⟩
theorem StoOk.tab (so : StoOk K H ρ S) (t : GxR.Tabbed P H H2) (h : TabG H P) (n : P ∉ ρ.c) : StoOk K H2 ρ S := by
  refine ⟨so.len, so.nd, fun i c e => ?_, fun a m => ?_⟩
  · obtain ⟨a, q, r⟩ := so.cell i c e
    refine ⟨a, q, r.step (stp_tab t h n) (t.2 a fun z => n ?_)⟩
    obtain ⟨hi, e2⟩ := List.getElem?_eq_some_iff.mp q
    rw [← z, ← e2]; exact List.getElem_mem hi
  · obtain ⟨k, xs, e⟩ := so.hd a m
    refine ⟨k, xs, (t.2 a fun z => ?_).trans e⟩
    obtain ⟨ps, e', _⟩ := h
    rw [z, e'] at e; cases e
end
section
variable {X : Cx} {ts : List Addr} {W : WX} {c P : Addr} {elt tg iter : Expr} {ifs : List Expr} {scope : Scope} {own : List (Str × Nat)} {pos gpos p : Pos} {k : Nat} {w : Bool} {gi : Ix} {t : Tg} {cc : Tx} {g : Ex} {L vs : List Nat}
theorem aa_reading (hP : P ∈ ts) (hL : ∀ i ∈ L, i ∈ vs) : ∀ σ H Q, tE X.K X.mg ts W (aaE w gi t cc g vs) σ H Q →
    tAA P (tI X.K X.mg ts W gi) (tG X.K ts L t) (tT X.K X.mg ts W0 cc) (tE X.K X.mg ts W0 g) vs w σ H Q := by
  intro σ H Q ⟨ρ, env, S, m, q⟩
  refine ⟨ρ, env, S, m, ?_⟩
  unfold aaE at q
  cases ei : gi env S with
  | no => rw [ei] at q; exact q
  | er e S' => rw [ei] at q; exact q
  | ok p S1 =>
    rw [ei] at q
    obtain ⟨ds, o⟩ := p
    intro ρ1 H1 J st1 so1 g1 src
    have m1 := m.step st1 so1
    refine ⟨(m1.tab P hP).1, fun H2 htb => ?_⟩
    have stT := stp_tab htb (m1.tab P hP).1 (m1.tab P hP).2
    have soT := so1.tab htb (m1.tab P hP).1 (m1.tab P hP).2
    have mT := m1.step stT soT
    have q : Post X.K X.mg W σ ρ1 H1 (Rp X.K) (aaL w t cc g o ds (wipeE env vs) ds S1) Q := Post.from q st1
    have envN : EnvOk X.K H2 ρ1 (wipeE env vs) (L2.wipe σ vs) := wipe_env mT.env vs
    refine ⟨fun i n H => n = ds.length - i ∧ i ≤ ds.length ∧ ∃ ρ S, Stp ρ1 H2 ρ H ∧ StoOk X.K H ρ S ∧ Post X.K X.mg W σ ρ H (Rp X.K) (aaL w t cc g o ds (wipeE env vs) (ds.drop i) S) Q,
      ⟨ds.length, by simp, Nat.zero_le _, ρ1, S1, .refl, soT, by rw [List.drop_zero]; exact Post.from q stT⟩, ?_⟩
    rintro i n H3 ⟨rfl, hi2, ρ2, S2, st2, so2, q2⟩
    by_cases hlt : i < ds.length
    · have ed : ds.drop i = ds[i] :: ds.drop (i + 1) := List.drop_eq_getElem_cons hlt
      rw [ed] at q2
      have nn : aaL w t cc g o ds (wipeE env vs) (ds[i] :: ds.drop (i + 1)) S2 ≠ .no := fun z => by rw [z] at q2; exact q2
      obtain ⟨hgd, eg⟩ := guardR_ok (show guardR o ds S2 (optR (t ds[i] (wipeE env vs)) fun env1 => (cc env1 S2).calm.bind fun b S1 =>
        if b = true then (g env1 S1).calm.bind fun y S2 => boolR y fun r => if r = w then aaL w t cc g o ds (wipeE env vs) (ds.drop (i + 1)) S2 else .ok (.bool r) S2 else aaL w t cc g o ds (wipeE env vs) (ds.drop (i + 1)) S1) ≠ .no from nn)
      rw [show aaL w t cc g o ds (wipeE env vs) (ds[i] :: ds.drop (i + 1)) S2 = guardR o ds S2 (optR (t ds[i] (wipeE env vs)) fun env1 => (cc env1 S2).calm.bind fun b S1 =>
        if b = true then (g env1 S1).calm.bind fun y S2 => boolR y fun r => if r = w then aaL w t cc g o ds (wipeE env vs) (ds.drop (i + 1)) S2 else .ok (.bool r) S2 else aaL w t cc g o ds (wipeE env vs) (ds.drop (i + 1)) S1) from rfl, eg] at q2
      have st12 := stT.trans st2
      refine .inr ⟨src.goes i ρ2 H3 S2 hlt st12 so2 hgd, fun H => i + 1 ≤ ds.length ∧ ∃ ρ S, Stp ρ1 H2 ρ H ∧ StoOk X.K H ρ S ∧ Post X.K X.mg W σ ρ H (Rp X.K) (aaL w t cc g o ds (wipeE env vs) (ds.drop (i + 1)) S) Q,
        fun H' h => ⟨ds.length - (i + 1), by omega, rfl, h⟩, fun x H4 y => ?_⟩
      obtain ⟨d, e3, st3, so3, r3⟩ := src.yields i ρ2 H3 S2 x H4 hlt st12 so2 hgd y
      rw [List.getElem?_eq_getElem hlt] at e3
      cases e3
      refine ⟨ρ2, wipeE env vs, S2, ds[i], ⟨(envN.step st2).step st3, so3, tab_step mT.tab (st2.trans st3)⟩, r3, ?_⟩
      cases et : t ds[i] (wipeE env vs) with
      | none => rw [et] at q2; exact q2.elim
      | some env3 =>
        rw [et] at q2
        intro σ4 H5 st4 m4 a4
        refine ⟨wipe_agr hL a4, ρ2, env3, S2, m4, ?_⟩
        have s14 := st2.trans (st3.trans st4)
        have q3 := Post.from q2 (st3.trans st4)
        rw [optR_some] at q3
        cases ec : cc env3 S2 with
        | no => rw [ec] at q3; exact q3.elim
        | er e S5 => rw [ec] at q3; exact q3.elim
        | ok b S5 =>
          rw [ec] at q3
          intro b' ρ5 H6 st5 so5 eb
          subst eb
          have q4 := Post.from q3 st5
          cases b' with
          | false => exact ⟨hlt, ρ5, S5, s14.trans st5, so5, q4⟩
          | true =>
            have q4 : Post X.K X.mg W σ ρ5 H6 (Rp X.K) ((g env3 S5).calm.bind fun y S2 => boolR y fun r => if r = w then aaL w t cc g o ds (wipeE env vs) (ds.drop (i + 1)) S2 else .ok (.bool r) S2) Q := q4
            refine ⟨ρ5, env3, S5, m4.step st5 so5, ?_⟩
            cases eg : g env3 S5 with
            | no => rw [eg] at q4; exact q4.elim
            | er e S6 => rw [eg] at q4; exact q4.elim
            | ok y S6 =>
              rw [eg] at q4
              intro yv ρ6 H7 st6 so6 ry
              have q5 : Post X.K X.mg W σ ρ6 H7 (Rp X.K) (boolR y fun r => if r = w then aaL w t cc g o ds (wipeE env vs) (ds.drop (i + 1)) S6 else .ok (.bool r) S6) Q := Post.from q4 st6
              cases y <;> first | exact q5.elim | skip
              rename_i r
              cases ry
              have q5 : Post X.K X.mg W σ ρ6 H7 (Rp X.K) (if r = w then aaL w t cc g o ds (wipeE env vs) (ds.drop (i + 1)) S6 else .ok (.bool r) S6) Q := q5
              refine ⟨r, rfl, ?_⟩
              by_cases hr : r = w
              · rw [if_pos hr] at q5
                exact .inl ⟨hr, hlt, ρ6, S6, (s14.trans st5).trans st6, so6, q5⟩
              · rw [if_neg hr] at q5
                exact .inr ⟨hr, Post.done q5 so6 (.bl r)⟩
    · have hie : i = ds.length := by omega
      subst hie
      rw [List.drop_length] at q2
      have nn : aaL w t cc g o ds (wipeE env vs) [] S2 ≠ .no := fun z => by rw [z] at q2; exact q2
      obtain ⟨hgd, eg⟩ := guardR_ok (show guardR o ds S2 (.ok (PyData.bool w) S2) ≠ .no from nn)
      rw [show aaL w t cc g o ds (wipeE env vs) [] S2 = guardR o ds S2 (.ok (PyData.bool w) S2) from rfl, eg] at q2
      exact .inl ⟨src.stops ρ2 H3 S2 (stT.trans st2) so2 hgd, Post.done q2 so2 (.bl w)⟩
theorem je_all (hr : Room (k + 1) X.A) (hc : X.calm = true) (hN : X.N.Nodup) (hgl : Gl X "all") (hm : X.mg "all" = none) (TB : GxR.TabB X.base X.mg c P) (hP : P ∈ ts) (hcode : X.env.code = .ref c) (hi : JI X ts W tg iter gi) (ok : BlkOk X.N X.env.scope scope own)
    (hco : scope.isCoroutine = false) (nocell : (scope.names.all fun y => y.2 != .cell) = true) (hdot : scope.names.lookup (".0" : Str) = some NameKind.local) (hL : ∀ i ∈ L, i ∈ own.map (·.2))
    (hg : ∀ (A' : Around) (s : Shared) (H : Hp) (C : Addr) (code : Value) (fp : List Addr), Room k A' → JG (gex X A' s H (gEnv X scope C code) fp) ts L tg t)
    (ht : ∀ (A' : Around) (s : Shared) (H : Hp) (C : Addr) (code : Value) (fp : List Addr), Room k A' → JTs (gex X A' s H (gEnv X scope C code) fp) ts W0 ifs cc)
    (he : ∀ (A' : Around) (s : Shared) (H : Hp) (C : Addr) (code : Value) (fp : List Addr), Room k A' → JE (gex X A' s H (gEnv X scope C code) fp) ts W0 elt g)
    (hs : ∀ v, genFold iter X.env v = pure v := by intro _; rfl)
    (he1 : starEach [.GeneratorExp elt [⟨tg, iter, ifs, 0⟩] scope gpos] X.env = (false, eval (.GeneratorExp elt [⟨tg, iter, ifs, 0⟩] scope gpos) X.env) :: starEach [] X.env := by rfl) :
    JE X ts W (.Call (.Name "all" p) [.GeneratorExp elt [⟨tg, iter, ifs, 0⟩] scope gpos] [] pos) (aaE true gi t cc g (own.map (·.2))) :=
  je_of (pe_allG hr hc hN hgl hm TB hcode hi ok hco (fun y hy e => by
    have := List.all_eq_true.mp nocell y hy
    rw [e] at this; cases this) hdot hg ht he hs he1) (aa_reading hP hL)
theorem je_any (hr : Room (k + 1) X.A) (hc : X.calm = true) (hN : X.N.Nodup) (hgl : Gl X "any") (hm : X.mg "any" = none) (TB : GxR.TabB X.base X.mg c P) (hP : P ∈ ts) (hcode : X.env.code = .ref c) (hi : JI X ts W tg iter gi) (ok : BlkOk X.N X.env.scope scope own)
    (hco : scope.isCoroutine = false) (nocell : (scope.names.all fun y => y.2 != .cell) = true) (hdot : scope.names.lookup (".0" : Str) = some NameKind.local) (hL : ∀ i ∈ L, i ∈ own.map (·.2))
    (hg : ∀ (A' : Around) (s : Shared) (H : Hp) (C : Addr) (code : Value) (fp : List Addr), Room k A' → JG (gex X A' s H (gEnv X scope C code) fp) ts L tg t)
    (ht : ∀ (A' : Around) (s : Shared) (H : Hp) (C : Addr) (code : Value) (fp : List Addr), Room k A' → JTs (gex X A' s H (gEnv X scope C code) fp) ts W0 ifs cc)
    (he : ∀ (A' : Around) (s : Shared) (H : Hp) (C : Addr) (code : Value) (fp : List Addr), Room k A' → JE (gex X A' s H (gEnv X scope C code) fp) ts W0 elt g)
    (hs : ∀ v, genFold iter X.env v = pure v := by intro _; rfl)
    (he1 : starEach [.GeneratorExp elt [⟨tg, iter, ifs, 0⟩] scope gpos] X.env = (false, eval (.GeneratorExp elt [⟨tg, iter, ifs, 0⟩] scope gpos) X.env) :: starEach [] X.env := by rfl) :
    JE X ts W (.Call (.Name "any" p) [.GeneratorExp elt [⟨tg, iter, ifs, 0⟩] scope gpos] [] pos) (aaE false gi t cc g (own.map (·.2))) :=
  je_of (pe_anyG hr hc hN hgl hm TB hcode hi ok hco (fun y hy e => by
    have := List.all_eq_true.mp nocell y hy
    rw [e] at this; cases this) hdot hg ht he hs he1) (aa_reading hP hL)
end
end Cor

/-! Core12: cells written, methods, dicts' keys. -/
namespace Cor
open PySem PySem.Spec PyProof.Rows L2

/-- nothing is promised -/
def noB : Blk := fun _ _ => .no
theorem js_no {X : Cx} {ts : List Addr} {W : WX} {st : Stmt} : JS X ts W st noB := ⟨fun pins s σ H D I ⟨_, _, _, _, q⟩ => q.elim⟩
def noE : Ex := fun _ _ => .no
theorem je_no {X : Cx} {ts : List Addr} {W : WX} {e : Expr} : JE X ts W e noE := ⟨fun pins s σ H Q I ⟨_, _, _, _, q⟩ => q.elim⟩

/-! ### a tuple or a list taken apart -/
def unpG (n : Nat) (gs : Tgs) : Tg := fun d env => match d with
  | .tuple ds => if ds.length = n then gs ds env else none
  | .list ds => if ds.length = n then gs ds env else none
  | _ => none
theorem jg_unp {X : Cx} {ts : List Addr} {pos : Pos} {es : List Expr} {gs : Tgs} {L : List Nat} {k n : Nat} (hc : X.calm = true) (h : JGs X ts L es gs) (hn : (assignEach es X.env).length = n := by rfl) (hst : (assignEach es X.env).findIdx? (·.1) = none := by rfl) : JG X ts L (.Tuple es k pos) (unpG n gs) :=
  ⟨fun pins s σ H v u Q I r ⟨ρ, env, S, d, m, rp, q⟩ => by
    cases d <;> first | exact q.elim | skip
    · rename_i ds
      cases rp with
      | lst hT rr =>
        have q : (match (if ds.length = n then gs ds env else none) with | some env' => ∀ σ' H', Stp ρ H ρ H' → Sim X.K ts ρ env' S σ' H' → Agr L σ σ' → Q σ' H' | none => False) := q
        by_cases hl : ds.length = n
        · rw [if_pos hl] at q
          exact (pg_unl hc h hn hst).run pins s σ H _ u Q I r ⟨_, _, rfl, hT.sq, by rw [rr.length]; exact hl, ρ, env, S, ds, m, rr, q⟩
        · rw [if_neg hl] at q; exact q.elim
    · rename_i ds
      cases rp with
      | tup hT rr =>
        have q : (match (if ds.length = n then gs ds env else none) with | some env' => ∀ σ' H', Stp ρ H ρ H' → Sim X.K ts ρ env' S σ' H' → Agr L σ σ' → Q σ' H' | none => False) := q
        by_cases hl : ds.length = n
        · rw [if_pos hl] at q
          exact (pg_tup hc h hn hst).run pins s σ H _ u Q I r ⟨_, _, rfl, hT.sq, by rw [rr.length]; exact hl, ρ, env, S, ds, m, rr, q⟩
        · rw [if_neg hl] at q; exact q.elim⟩

/-! ### list cells -/
def lstOf (S : Sto) (d : D) : Option (Nat × List D) := match refOf d with
  | some n => match S[n]? with
    | some (.lst ds) => some (n, ds)
    | _ => none
  | none => none
@[simp] theorem lstOf_rf {S : Sto} {n : Nat} {ds : List D} (h : S[n]? = some (.lst ds)) : lstOf S (rf n) = some (n, ds) := by
  unfold lstOf
  rw [refOf_rf]
  simp only [h]
section
variable {K : PySem.W.Frag} {H : Hp} {ρ : Rho} {S : Sto}
theorem lstOf_ok {v : V} {d : D} {n : Nat} {ds : List D} (o : StoOk K H ρ S) (r : Rp K H ρ v d) (e : lstOf S d = some (n, ds)) : S[n]? = some (.lst ds) ∧ ∃ a xs, v = .ref a ∧ ρ.c[n]? = some a ∧ H a = some (.lst xs) ∧ RpL K H ρ xs ds := by
  unfold lstOf at e
  cases en : refOf d with
  | none => rw [en] at e; cases e
  | some k =>
    simp only [en] at e
    cases ec : S[k]? with
    | none => rw [ec] at e; cases e
    | some c =>
      rw [ec] at e
      cases c <;> first | (cases e; done) | skip
      cases e
      cases d <;> first | (cases en; done) | skip
      obtain ⟨a, rfl, q, xs, h1, h2⟩ := r.cellAt o en ec
      exact ⟨ec, a, xs, rfl, q, h1, h2⟩
/-- a list cell rewritten -/
theorem StoOk.lset {n : Nat} {a : Addr} {xs : List V} {ds : List D} (so : StoOk K H ρ S) (e : ρ.c[n]? = some a) (r : RpL K H ρ xs ds) : Stp ρ H ρ (upd H a (.lst xs)) ∧ StoOk K (upd H a (.lst xs)) ρ (S.set n (.lst ds)) := by
  have hm : a ∈ ρ.c := by
    obtain ⟨hn, ea⟩ := List.getElem?_eq_some_iff.mp e
    rw [← ea]; exact List.getElem_mem hn
  exact ⟨stp_write hm, so.write e ⟨xs, upd_same, r.step (stp_write hm)⟩⟩
end

/-- a method that rewrites a list cell: the result, the new items -/
def rLM (X : Cx) (f : List D → List D → Option (D × List D)) : V → List V → Hp → VK → Prop := fun x vs H Q =>
  ∃ ρ S n a xs ds es dv ds', x = .ref a ∧ StoOk X.K H ρ S ∧ ρ.c[n]? = some a ∧ H a = some (.lst xs) ∧ RpL X.K H ρ xs ds ∧ RpL X.K H ρ vs es ∧ f ds es = some (dv, ds') ∧ ∀ v H', Stp ρ H ρ H' → StoOk X.K H' ρ (S.set n (.lst ds')) → Rp X.K H' ρ v dv → Q v H'
def appD (ds : List D) (es : List D) : Option (D × List D) := match es with
  | [e] => if ds.length < sizeLine then some (.none, ds ++ [e]) else none
  | _ => none
def popD (ds : List D) (es : List D) : Option (D × List D) := match es with
  | [] => match ds[ds.length - 1]? with
    | some d => some (d, ds.dropLast)
    | none => none
  | _ => none
theorem RpL.dropLast {K : PySem.W.Frag} {H : Hp} {ρ : Rho} {xs : List V} {ds : List D} (h : RpL K H ρ xs ds) : RpL K H ρ xs.dropLast ds.dropLast := by
  rw [List.dropLast_eq_take, List.dropLast_eq_take, h.length]
  exact h.take _
section
variable {X : Cx}
theorem m_append : MtR X "list.append" (rLM X appD) := by
  intro pins s σ H x vs v us Q I rx rv h
  obtain ⟨ρ, S, n, a, xs, ds, es, dv, ds', rfl, so, hn, hH, rr, re, e, q⟩ := h
  match es, e with
  | [], e => cases e
  | _ :: _ :: _, e => cases e
  | [y], e =>
    cases re with
    | cons hy t =>
      cases t
      unfold appD at e
      by_cases z : ds.length < sizeLine
      · simp only [if_pos z] at e
        cases e
        obtain ⟨k1, k2⟩ := so.lset hn (rr.append (.cons hy .nil))
        exact mt_append pins s σ H _ _ v us Q I rx rv ⟨a, xs, _, rfl, rfl, hH, by rw [rr.length]; exact z, q _ _ k1 k2 .non⟩
      · simp only [if_neg z] at e; cases e
theorem m_pop : MtR X "list.pop" (rLM X popD) := by
  intro pins s σ H x vs v us Q I rx rv h
  obtain ⟨ρ, S, n, a, xs, ds, es, dv, ds', rfl, so, hn, hH, rr, re, e, q⟩ := h
  match es, e with
  | _ :: _, e => cases e
  | [], e =>
    cases re
    unfold popD at e
    simp only at e
    cases ed : ds[ds.length - 1]? with
    | none => rw [ed] at e; cases e
    | some d =>
      rw [ed] at e
      cases e
      obtain ⟨y, hy, ry⟩ := rr.get ed
      obtain ⟨k1, k2⟩ := so.lset hn rr.dropLast
      exact mt_pop pins s σ H _ _ v us Q I rx rv ⟨a, xs, y, rfl, rfl, hH, by rw [rr.length]; exact hy, q _ _ k1 k2 (ry.step k1)⟩
end
/-- o.m(..) on a list cell -/
def methE (f : List D → List D → Option (D × List D)) (go : Ex) (gs : Exs) : Ex := fun env S => (go env S).bind fun x S1 => optR (lstOf S1 x) fun _ => (gs env S1).bind fun es S2 => optR (lstOf S2 x) fun p => optR (f p.2 es) fun q => .ok q.1 (S2.set p.1 (.lst q.2))
section
variable {X : Cx} {ts : List Addr} {W : WX} {apos cpos : Pos} {o e : Expr} {es : List Expr} {go : Ex} {gs : Exs} {name : Str} {id : String} {f : List D → List D → Option (D × List D)}
theorem meth_post {σ : L2.St} {ρ : Rho} {H : Hp} {x : V} {dx : D} {S : Sto} {Q : VK} {vs : List V} {ds : List D} (so : StoOk X.K H ρ S) (rx : Rp X.K H ρ x dx) (rs : RpL X.K H ρ vs ds)
    (p : Post X.K X.mg W σ ρ H (Rp X.K) (optR (lstOf S dx) fun p => optR (f p.2 ds) fun q => .ok q.1 (S.set p.1 (.lst q.2))) Q) : rLM X f x vs H Q := by
  cases el : lstOf S dx with
  | none => rw [el] at p; exact p.elim
  | some q =>
    obtain ⟨n, xs0⟩ := q
    rw [el] at p
    obtain ⟨h1, a, xs, rfl, q2, q3, q4⟩ := lstOf_ok so rx el
    cases ef : f xs0 ds with
    | none =>
      have p : Post X.K X.mg W σ ρ H (Rp X.K) (optR (f xs0 ds) fun q => .ok q.1 (S.set n (.lst q.2))) Q := p
      rw [ef] at p; exact p.elim
    | some r =>
      have p : Post X.K X.mg W σ ρ H (Rp X.K) (optR (f xs0 ds) fun q => .ok q.1 (S.set n (.lst q.2))) Q := p
      rw [ef] at p
      exact ⟨ρ, S, n, a, xs, xs0, ds, r.1, r.2, rfl, so, q2, q3, q4, rs, ef, fun v H' st so' rv => p v ρ H' st so' rv⟩
theorem tyV_lst {ρ : Rho} {H : Hp} {x : V} {dx : D} {S : Sto} {p : Nat × List D} (so : StoOk X.K H ρ S) (rx : Rp X.K H ρ x dx) (e : lstOf S dx = some p) : tyV X.K "list" x H := by
  obtain ⟨_, a, xs, rfl, _, h, _⟩ := lstOf_ok so rx (show lstOf S dx = some (p.1, p.2) from e)
  exact .inl ⟨rfl, xs, SqL.of h⟩
theorem je_meth (slot : Slot "list" name id) (hty : typeOf (.builtin id) = pure (.type "method_descriptor")) (hm : MtR X id (rLM X f)) (ho : JE X ts W o go) (ha : JX X ts W (e :: es) gs)
    (hbase : attributeBase o name X.env (eval o X.env) = eval o X.env := by rfl)
    (hfew : ((backTo cpos (starEach (e :: es) X.env)).all (fun x => !x.1) && (backToKw cpos (keywordEach [] X.env)).all (fun x => x.1.isSome)
      && decide ((e :: es).length + ([] : List Keyword).length + (if ([] : List Keyword).isEmpty then 0 else 1) < 30)) = true := by rfl)
    (hline : (apos.endLine == cpos.line) = true := by rfl) (hs : starEach (e :: es) X.env = (false, eval e X.env) :: starEach es X.env := by rfl) (hplain : (backTo cpos (starEach es X.env)).any (·.1) = false := by rfl) :
    JE X ts W (.Call (.Attribute o name apos) (e :: es) [] cpos) (methE f go gs) :=
  je_of (pe_bm F.plainAttrs_list slot hty hm ho ha hbase hfew hline hs hplain) fun σ H Q ⟨ρ, env, S, m, p⟩ => ⟨ρ, env, S, m, Post.next (f := fun x S1 => optR (lstOf S1 x) fun _ => (gs env S1).bind fun es S2 => optR (lstOf S2 x) fun p => optR (f p.2 es) fun q => .ok q.1 (S2.set p.1 (.lst q.2))) p fun x ρ1 H1 dx S1 _ st so rx p1 => by
    cases el : lstOf S1 dx with
    | none => rw [el] at p1; exact p1.elim
    | some q =>
      rw [el] at p1
      refine ⟨tyV_lst so rx el, ρ1, env, S1, m.step st so, Post.next (f := fun es S2 => optR (lstOf S2 dx) fun p => optR (f p.2 es) fun q => .ok q.1 (S2.set p.1 (.lst q.2))) p1 fun xs ρ2 H2 ds S2 _ st2 so2 rs p2 => meth_post so2 (rx.step st2) rs p2⟩⟩
theorem je_meth0 (slot : Slot "list" name id) (hty : typeOf (.builtin id) = pure (.type "method_descriptor")) (hm : MtR X id (rLM X f)) (ho : JE X ts W o go)
    (hbase : attributeBase o name X.env (eval o X.env) = eval o X.env := by rfl) (hline : (apos.endLine == cpos.line) = true := by rfl) : JE X ts W (.Call (.Attribute o name apos) [] [] cpos) (methE f go nilX) :=
  je_of (pe_bm0 F.plainAttrs_list slot hty hm ho hbase hline) fun σ H Q ⟨ρ, env, S, m, p⟩ => ⟨ρ, env, S, m, Post.next (f := fun x S1 => optR (lstOf S1 x) fun _ => (nilX env S1).bind fun es S2 => optR (lstOf S2 x) fun p => optR (f p.2 es) fun q => .ok q.1 (S2.set p.1 (.lst q.2))) p fun x ρ1 H1 dx S1 _ st so rx p1 => by
    cases el : lstOf S1 dx with
    | none => rw [el] at p1; exact p1.elim
    | some q =>
      rw [el] at p1
      have p1 : Post X.K X.mg W σ ρ1 H1 (Rp X.K) (optR (lstOf S1 dx) fun p => optR (f p.2 []) fun q => .ok q.1 (S1.set p.1 (.lst q.2))) Q := p1
      exact ⟨tyV_lst so rx el, meth_post so rx .nil p1⟩⟩
end

/-! ### {} -/
def newE (c : Cell) : Ex := fun _ S => .ok (rf S.length) (S ++ [c])
section
variable {X : Cx} {ts : List Addr} {W : WX} {pos : Pos}
theorem je_newK : JE X ts W (.Dict [] [] pos) (newE (.dK [])) := je_of pe_dnewK fun σ H Q ⟨ρ, env, S, m, p⟩ => fun q hq =>
  p _ (ρ.add q) _ (stp_cell hq) (m.sto.new_cell (c := .dK []) hq ⟨[], upd_same, rfl, .nil⟩) (.rf (by show (ρ.c ++ [q])[_]? = _; rw [← m.sto.len, List.getElem?_append_right (Nat.le_refl _)]; simp))
theorem je_newT : JE X ts W (.Dict [] [] pos) (newE (.dT [])) := je_of pe_dnewT fun σ H Q ⟨ρ, env, S, m, p⟩ => fun q hq =>
  p _ (ρ.add q) _ (stp_cell hq) (m.sto.new_cell (c := .dT []) hq ⟨[], upd_same, rfl, .nil⟩) (.rf (by show (ρ.c ++ [q])[_]? = _; rw [← m.sto.len, List.getElem?_append_right (Nat.le_refl _)]; simp))
end

/-! ### o[i] = v -/
def putL {κ : Type} [DecidableEq κ] (kvs : List (κ × D)) (k : κ) (v : D) : List (κ × D) :=
  if (kvs.any fun kv => decide (kv.1 = k)) = true then kvs.map (fun kv => if kv.1 = k then (kv.1, v) else kv) else kvs ++ [(k, v)]
section
variable {K : PySem.W.Frag} {H : Hp} {ρ : Rho} {κ : Type} [DecidableEq κ]
theorem any_keys (k : κ) : ∀ {ys : List (κ × V)} {kvs : List (κ × D)}, ys.map (·.1) = kvs.map (·.1) → (ys.any fun kv => decide (kv.1 = k)) = kvs.any fun kv => decide (kv.1 = k)
  | [], [], _ => rfl
  | y :: ys, q :: kvs, h => by
    rw [List.map_cons, List.map_cons] at h
    injection h with h1 h2
    rw [List.any_cons, List.any_cons, any_keys k h2, h1]
theorem put_keys {v : V} {d : D} (rv : Rp K H ρ v d) (k : κ) : ∀ {ys : List (κ × V)} {kvs : List (κ × D)}, ys.map (·.1) = kvs.map (·.1) → RpL K H ρ (ys.map (·.2)) (kvs.map (·.2)) →
    (ys.map fun kv => if kv.1 = k then (kv.1, v) else kv).map (·.1) = (kvs.map fun kv => if kv.1 = k then (kv.1, d) else kv).map (·.1) ∧
      RpL K H ρ ((ys.map fun kv => if kv.1 = k then (kv.1, v) else kv).map (·.2)) ((kvs.map fun kv => if kv.1 = k then (kv.1, d) else kv).map (·.2))
  | [], [], _, _ => ⟨rfl, .nil⟩
  | y :: ys, q :: kvs, h, r => by
    rw [List.map_cons, List.map_cons] at h
    injection h with h1 h2
    cases r with
    | cons r0 r1 =>
      obtain ⟨i1, i2⟩ := put_keys rv k h2 r1
      by_cases z : y.1 = k
      · have z' : q.1 = k := by rw [← h1]; exact z
        refine ⟨?_, ?_⟩
        · rw [List.map_cons, List.map_cons, List.map_cons, List.map_cons, i1, if_pos z, if_pos z', h1]
        · rw [List.map_cons, List.map_cons, List.map_cons, List.map_cons, if_pos z, if_pos z']
          exact .cons rv i2
      · have z' : ¬ q.1 = k := by rw [← h1]; exact z
        refine ⟨?_, ?_⟩
        · rw [List.map_cons, List.map_cons, List.map_cons, List.map_cons, i1, if_neg z, if_neg z', h1]
        · rw [List.map_cons, List.map_cons, List.map_cons, List.map_cons, if_neg z, if_neg z']
          exact .cons r0 i2
theorem put_ok {v : V} {d : D} (rv : Rp K H ρ v d) (k : κ) {ys : List (κ × V)} {kvs : List (κ × D)} (h : ys.map (·.1) = kvs.map (·.1)) (r : RpL K H ρ (ys.map (·.2)) (kvs.map (·.2))) :
    (putK ys k v).map (·.1) = (putL kvs k d).map (·.1) ∧ RpL K H ρ ((putK ys k v).map (·.2)) ((putL kvs k d).map (·.2)) := by
  unfold putK putL
  rw [any_keys k h]
  split
  · exact put_keys rv k h r
  · rw [List.map_append, List.map_append, List.map_append, List.map_append, h]
    exact ⟨rfl, r.append (.cons rv .nil)⟩
end
/-- a cell behind c[i] = v -/
def putC (c : Cell) (i v : D) : Option Cell := match c with
  | .lst ds => match i with
    | .int k => (ixN ds.length k).map fun j => .lst (ds.set j v)
    | _ => none
  | .dK kvs => if kvs.length < sizeLine then (keyD i).map fun k => .dK (putL kvs k v) else none
  | .dT kvs => match i with
    | .tuple ks => if kvs.length < sizeLine then (keysD ks).map fun k => .dT (putL kvs k v) else none
    | _ => none
def putD (S : Sto) (o i v : D) : Option Sto := match refOf o with
  | some n => match S[n]? with
    | some c => (putC c i v).map fun c' => S.set n c'
    | none => none
  | none => none
def putB (gv go gi : Ex) : Blk := fun env S => (gv env S).to env fun v S1 => (go env S1).to env fun o S2 => (gi env S2).to env fun i S3 => match putD S3 o i v with
  | some S4 => .nx env S4
  | none => .no
/-- the store's step, by values -/
def rPut (X : Cx) : TSet := fun o i v H Q => ∃ ρ S do_ di dv S', StoOk X.K H ρ S ∧ Rp X.K H ρ o do_ ∧ Rp X.K H ρ i di ∧ Rp X.K H ρ v dv ∧ putD S do_ di dv = some S' ∧ ∀ H', Stp ρ H ρ H' → StoOk X.K H' ρ S' → Q H'
section
variable {X : Cx}
theorem p_put (hu : X.A.units + 1 < cLine) : PSet X (rPut X) := by
  intro pins s σ H o i v ov iv u Q I ro ri rv h
  obtain ⟨ρ, S, do_, di, dv, S', so, po, pi, pv, e, q⟩ := h
  unfold putD at e
  cases en : refOf do_ with
  | none => rw [en] at e; cases e
  | some n =>
    simp only [en] at e
    cases ec : S[n]? with
    | none => rw [ec] at e; cases e
    | some c =>
      simp only [ec] at e
      cases do_ <;> first | (cases en; done) | skip
      obtain ⟨a, rfl, qa, hc⟩ := po.cellAt so en ec
      have hm : a ∈ ρ.c := by
        obtain ⟨hn, ea⟩ := List.getElem?_eq_some_iff.mp qa
        rw [← ea]; exact List.getElem_mem hn
      cases ep : putC c di dv with
      | none => rw [ep] at e; cases e
      | some c' =>
        rw [ep] at e
        cases e
        cases c with
        | lst ds =>
          obtain ⟨xs, h1, h2⟩ := hc
          cases di <;> first | (cases ep; done) | skip
          rename_i k
          cases pi
          have ep : ((ixN ds.length k).map fun j => Cell.lst (ds.set j dv)) = some c' := ep
          cases ej : ixN ds.length k with
          | none => rw [ej] at ep; cases ep
          | some j =>
            rw [ej] at ep
            cases ep
            obtain ⟨k1, k2⟩ := so.lset qa (h2.set pv j)
            exact set_list pins s σ H _ _ _ ov iv u Q I ro ri rv ⟨a, xs, k, j, rfl, rfl, h1, by rw [h2.length]; exact ej, q _ k1 k2⟩
        | dK kvs =>
          obtain ⟨ys, h1, h2, h3⟩ := hc
          have ep : (if kvs.length < sizeLine then (keyD di).map fun k => Cell.dK (putL kvs k dv) else none) = some c' := ep
          by_cases z : kvs.length < sizeLine
          · rw [if_pos z] at ep
            cases ek : keyD di with
            | none => rw [ek] at ep; cases ep
            | some k =>
              rw [ek] at ep
              cases ep
              have ev := keyD_ok pi ek
              subst ev
              have hl : ys.length = kvs.length := by have := congrArg List.length h2; simpa using this
              have st := stp_write (H := H) (o := .dK (putK ys k v)) hm
              obtain ⟨p1, p2⟩ := put_ok (pv.step st) k h2 (h3.step st)
              exact set_dict hu pins s σ H _ _ _ ov iv u Q I ro ri rv ⟨a, _, rfl, DPut.k h1 (by rw [hl]; exact z), q _ st (so.write qa ⟨_, upd_same, p1, p2⟩)⟩
          · rw [if_neg z] at ep; cases ep
        | dT kvs =>
          obtain ⟨ys, h1, h2, h3⟩ := hc
          cases di <;> first | (cases ep; done) | skip
          rename_i ks
          have ep : (if kvs.length < sizeLine then (keysD ks).map fun k => Cell.dT (putL kvs k dv) else none) = some c' := ep
          by_cases z : kvs.length < sizeLine
          · rw [if_pos z] at ep
            cases ek : keysD ks with
            | none => rw [ek] at ep; cases ep
            | some k =>
              rw [ek] at ep
              cases ep
              cases pi with
              | tup hT rk =>
                have ev := keysD_ok rk ek
                subst ev
                have hl : ys.length = kvs.length := by have := congrArg List.length h2; simpa using this
                have st := stp_write (H := H) (o := .dT (putK ys k v)) hm
                obtain ⟨p1, p2⟩ := put_ok (pv.step st) k h2 (h3.step st)
                exact set_dict hu pins s σ H _ _ _ ov iv u Q I ro ri rv ⟨a, _, rfl, DPut.t h1 hT.1 (by rw [hl]; exact z), q _ st (so.write qa ⟨_, upd_same, p1, p2⟩)⟩
          · rw [if_neg z] at ep; cases ep
theorem js_put {ts : List Addr} {W : WX} {pos spos : Pos} {o i e : Expr} {gv go gi : Ex} {k : Nat} (hr : Room k X.A) (hv : JE X ts W e gv) (ho : JE X ts W o go) (hi : JE X ts W i gi)
    (ha : ∀ v, assign (.Subscript o i spos) X.env v = (do
      let ov ← holding [v] (eval o X.env)
      let iv ← holding [v, ov] (eval i X.env)
      standAt spos
      holding [v, ov, iv] (setItem ov iv v)
      release [v, ov, iv] []) := by intro _; rfl)
    (hs : swapsWithSole [.Subscript o i spos] e pos.line X.env = pure false := by rfl) (hw : swappedStores [.Subscript o i spos] e X.env = pure none := by rfl)
    (h1 : (assignEach [.Subscript o i spos] X.env).map (·.2) = [assign (.Subscript o i spos) X.env] := by rfl) : JS X ts W (.Assign [.Subscript o i spos] e pos) (putB gv go gi) :=
  js_of (ps_asg hv (pg_sub ho hi (p_put (by have := hr.un; omega)) ha) hs hw h1) fun D σ H ⟨ρ, env, S, m, q⟩ => ⟨ρ, env, S, m, PostB.val (f := fun v S1 => (go env S1).to env fun o S2 => (gi env S2).to env fun i S3 => match putD S3 o i v with | some S4 => .nx env S4 | none => .no) m q fun v ρ1 H1 dv S1 _ st so rv p1 =>
    ⟨ρ1, env, S1, m.step st so, PostB.val (f := fun o S2 => (gi env S2).to env fun i S3 => match putD S3 o i dv with | some S4 => .nx env S4 | none => .no) (m.step st so) p1 fun ov ρ2 H2 do_ S2 _ st2 so2 ro p2 =>
      ⟨ρ2, env, S2, (m.step st so).step st2 so2, PostB.val (f := fun i S3 => match putD S3 do_ i dv with | some S4 => .nx env S4 | none => .no) ((m.step st so).step st2 so2) p2 fun iv ρ3 H3 di S3 _ st3 so3 ri p3 => by
        cases ep : putD S3 do_ di dv with
        | none => rw [ep] at p3; exact p3.elim
        | some S4 =>
          rw [ep] at p3
          exact ⟨ρ3, S3, do_, di, dv, S4, so3, ro.step st3, ri, (rv.step st2).step st3, ep, fun H' st4 so4 => p3 ρ3 σ H' st4 ((((m.step st so).step st2 so2).step st3 so3).step st4 so4)⟩⟩⟩⟩
end
end Cor

/-! Core13: sorted(d.keys()). -/
namespace Cor
open PySem PySem.Spec PyProof.Rows L2 PySem.Calls

theorem vals_of_get : ∀ {xs : List V} {us : List Value}, xs.length = us.length → (∀ (j : Nat) (u : Value), us[j]? = some u → ∃ x, xs[j]? = some x ∧ RelV x u) → Vals xs us
  | [], [], _, _ => .nil
  | x :: xs, u :: us, hl, h => .cons (by obtain ⟨y, e, r⟩ := h 0 u rfl; cases e; exact r) (vals_of_get (by simpa using hl) fun j v e => by
    obtain ⟨y, e1, r⟩ := h (j + 1) v (by simpa using e)
    exact ⟨y, by simpa using e1, r⟩)
section
variable {X : Cx} {pins : List (Addr × Obj)} {σ : L2.St} {H : Hp} {s : Shared} {ρ : Rho} {k : Nat}
theorem sorted_core {E : Value → Shared → Prop} {Q : Value → Shared → Prop} {r d : Addr} {P : Nat → Value → Prop} {OK : Heap → Prop} {xs : List V} {ds : List D} (I : L2.Inv X pins σ H s) (hr : Room k X.A) (rr : RpL X.K H ρ xs ds) (so : SortOk ds) (hlen : ds.length ≤ sizeLine)
    (K : PySem.W.KdlSrc X.prog X.w "dict_keys" r d xs.length P OK) (hok : OK s.heap) (hP : ∀ j v, P j v → ∃ x, xs[j]? = some x ∧ RelV x v)
    (hQ : ∀ (ys : List V) (D : Addr) (s' : Shared), RpL X.K H ρ ys (sortL ds) → H D = none → L2.Inv X pins σ (upd H D (.lst ys)) s' → Q (.ref D) s') : wpAny (model X.prog X.w) X.A (call (.builtin "sorted") [.ref r]) Q E s := by
  refine call_function_entry kind_sorted plain_sorted entry_sorted (args_sorted1 _) ?_
  unfold Builtin.«sorted»
  refine wpAny_bind (m := checkCount "sorted" 1 1 _) (wpAny_pure ?_)
  refine wpAny_bind (PySem.W.kdu_collect (A := X.A.in1) K hr.hd hok (by rw [rr.length]; exact hlen) fun h' tk acc hk hacc => ?_)
  have hl : acc.toList.length = xs.length := by rw [Array.length_toList]; exact hacc.1
  refine wpAny_bind (wpAny_newList ?_ (by rw [hl, rr.length]; exact hlen))
  have I1 : L2.Inv X pins σ H { s with heap := h', toks := tk } := I.kept (t' := tk) hk
  have rv : Vals xs acc.toList := vals_of_get hl.symm fun j u e => hP j u (hacc.2 j u (by rw [← Array.getElem?_toList]; exact e))
  obtain ⟨f1, al, sr⟩ := so
  have es2 : (xs.zip ds).map (fun p : V × D => p.2) = ds := zip_snd rr
  have mem2 : ∀ b ∈ xs.zip ds, b.2 ∈ ds := fun b m => (List.of_mem_zip m).2
  have hz2 := rr.length
  have ho : (h'.push { cls := .type "list", data := .seq acc.toList.toArray }).get? h'.objs.size = some (seqObj "list" acc.toList.toArray 0) := Heap.get?_push_size _ rfl
  refine wpAny_bind (wpAny_holding (PySem.W.list_sort_data (A := X.A.in1) (s := { s with heap := h'.push { cls := .type "list", data := .seq acc.toList.toArray }, toks := tk }) (enc := fun p : V × D => p.2) (bs := xs.zip ds) (R := fun (u : Value) (p : V × D) => RelV p.1 u ∧ Rp X.K H ρ p.1 p.2) ho (paired_zip rr rv)
    ?_ (by rw [es2]; exact al) (by rw [es2]; exact sr) (by rw [List.length_zip]; omega) (fun b m => ?_) fun out h1 h2 => ?_))
  · have q := each_reads I1 rr rv fun d m => (f1 d m).1
    have go : ∀ {us : List Value} {ps : List (V × D)}, PySem.W.EachIs (fun (u : Value) (p : V × D) => ∃ as, Reads h' u p.2 as) us ps → PySem.W.EachIs (fun (v : Value) (b : V × D) => ∃ as, Reads (h'.push { cls := .type "list", data := .seq acc.toList.toArray }) v b.2 as ∧ h'.objs.size ∉ as) us ps := by
      intro us ps z
      induction z with
      | nil => exact .nil
      | cons z t ih =>
        obtain ⟨as, z⟩ := z
        refine .cons ⟨as, Reads.keeps (fun b o e => Heap.get?_push_of_some _ e) z, fun hm => ?_⟩ ih
        obtain ⟨o, e⟩ := PyProof.On.reads_mem_get z _ hm
        exact absurd (Heap.lt_size e) (Nat.lt_irrefl _)
    exact go q
  · have := (f1 b.2 (mem2 b m)).2
    have hu := hr.un
    show X.A.units + 1 + 1 + b.2.depth < cLine
    omega
  · obtain ⟨k1, k2⟩ := each_back h2
    obtain ⟨ep, he'⟩ := sortedHeap_at (out := out.toArray) ho
    have hlen' : (((xs.zip ds).mergeSort (PySem.W.dataLe false fun p : V × D => p.2)).map (·.1)).length ≤ sizeLine := by
      rw [List.length_map, List.length_mergeSort, List.length_zip]; omega
    have em : ((xs.zip ds).mergeSort (PySem.W.dataLe false fun p : V × D => p.2)).map (·.2) = sortL ds := by
      unfold sortL
      have q := List.map_mergeSort (r := PySem.W.dataLe false fun p : V × D => p.2) (s := PySem.W.dataLe false fun d : D => d) (f := fun p : V × D => p.2) (l := xs.zip ds) (fun a _ b _ => rfl)
      rw [es2] at q
      exact q
    rw [em] at k2
    refine wpAny_pure ⟨_, rfl, hQ _ _ _ k2 (I1.hok.fresh (Nat.le_refl _)) ?_⟩
    exact I1.laid (t' := tk) (fun b u q => (sortedHeap_old (Nat.ne_of_lt (Heap.lt_size q)) (by rw [Heap.size_push]; exact Nat.lt_succ_of_lt (Heap.lt_size q))).trans (Heap.get?_push_of_some _ q)) (Nat.le_refl _) ⟨hlen', out, ep, k1, he'⟩
end

/-- a key as data -/
def kD : Key → D
  | .inl i => .int i
  | .inr x => .str x
theorem rp_kV {K : PySem.W.Frag} {H : Hp} {ρ : Rho} : ∀ k : Key, Rp K H ρ (kV k) (kD k)
  | .inl i => .int i
  | .inr x => .str x
theorem rpl_kV {K : PySem.W.Frag} {H : Hp} {ρ : Rho} : ∀ ks : List Key, RpL K H ρ (ks.map kV) (ks.map kD)
  | [] => .nil
  | k :: ks => .cons (rp_kV k) (rpl_kV ks)
/-- a dict's keys, from the first put -/
def cKeys : Cell → Option (List D)
  | .dK kvs => some (kvs.map fun q => kD q.1)
  | .dT kvs => some (kvs.map fun q => .tuple (q.1.map kD))
  | .lst _ => none
open Classical in
noncomputable def sortG (ds : List D) : Option (List D) := if SortOk ds ∧ ds.length ≤ sizeLine then some (sortL ds) else none
theorem sortG_some {ds es : List D} (h : sortG ds = some es) : SortOk ds ∧ ds.length ≤ sizeLine ∧ es = sortL ds := by
  unfold sortG at h
  split at h
  · rename_i z; exact ⟨z.1, z.2, (Option.some.inj h).symm⟩
  · cases h
theorem sortG_of {ds : List D} (h : SortOk ds) (hl : ds.length ≤ sizeLine) : sortG ds = some (sortL ds) := by
  unfold sortG
  rw [if_pos ⟨h, hl⟩]
noncomputable def skeysL (S : Sto) (x : D) : Option (List D) := match cellD S x with
  | some c => (cKeys c).bind sortG
  | none => none
noncomputable def skeysF (g : Ex) : Exs := fun env S => (g env S).bind fun x S1 => optR (skeysL S1 x) fun ds => .ok ds S1
def RawD (h : Heap) (d : Addr) (es : Array DictEntry) (ep : Nat) : Prop := ∃ o, h.get? d = some o ∧ o.ExactDict ∧ o.data = .dict es ep
theorem RawD.typeIs {s : Shared} {d : Addr} {es : Array DictEntry} {ep : Nat} (x : RawD s.heap d es ep) : s.TypeIs (.ref d) "dict" := let ⟨o, ho, hc, _⟩ := x; ⟨o, ho, hc.1⟩
theorem meetsKeysRaw {prog : Program} {w : World} {d : Addr} {es : Array DictEntry} {ep : Nat} (hd : (d == sysModules) = false) :
    MeetsIn prog w (Builtin.«dict.keys» ⟨[.ref d], []⟩) (fun _ R s => RawD s.heap d es ep ∧
      R (.ok (.ret (.ref s.heap.objs.size))) { s with heap := s.heap.push { cls := .type "dict_keys", data := .fields #[.ref d] } }) :=
  .of_wp fun A R s ⟨hm, h⟩ => by
    unfold Builtin.«dict.keys»
    refine wpAny_bind ?_
    unfold Builtin.Dict.noArgs
    refine wpAny_bind (wpAny_notOrdered_dict hm.typeIs ?_)
    show wpAny _ _ (pure d) _ _ s
    refine wpAny_pure ?_
    show wpAny _ _ (Builtin.Dict.showsAll d >>= _) _ _ s
    unfold Builtin.Dict.showsAll
    rw [if_neg (by rw [hd]; exact Bool.false_ne_true)]
    refine wpAny_bind (wpAny_pure ?_)
    exact wpAny_bind (wpAny_newObj_type (wpAny_pure ⟨_, rfl, h⟩))
section
variable {X : Cx} {ts : List Addr} {W : WX} {o : Expr} {go : Ex} {apos cpos pos p1 : Pos} {k : Nat}
/-- by values -/
def tSk (X : Cx) (to : TE) : TE := fun σ H Q => to σ H fun x H1 => ∃ ρ S dx ds, StoOk X.K H1 ρ S ∧ Rp X.K H1 ρ x dx ∧ skeysL S dx = some ds ∧ ∀ ys D, RpL X.K H1 ρ ys ds → H1 D = none → Q (.ref D) (upd H1 D (.lst ys))
theorem paired_len {α β : Type} {R : α → β → Prop} {xs : List α} {ys : List β} (h : Paired R xs ys) : xs.length = ys.length := Paired.length h
theorem kt_rows {K : PySem.W.Frag} {H : Hp} {ρ : Rho} {S : Sto} (so : StoOk K H ρ S) : ∀ {ys : List (List Key × V)} {xs : List (List Key × Addr × Value)} {kvs : List (List Key × D)}, KT H ys xs → ys.map (·.1) = kvs.map (·.1) →
    RpL K H ρ (xs.map fun x => V.ref x.2.1) (kvs.map fun q => PyData.tuple (q.1.map kD))
  | [], [], [], .nil, _ => .nil
  | y :: ys, x :: xs, q :: kvs, .cons h t, e => by
    rw [List.map_cons, List.map_cons] at e
    injection e with e1 e2
    rw [List.map_cons, List.map_cons]
    refine .cons (.tup ⟨by rw [← e1]; exact h.2.1, fun z => ?_⟩ (rpl_kV _)) (kt_rows so t e2)
    have hq := h.2.1
    rcases z with z | z
    · obtain ⟨n, hn, ea⟩ := List.getElem_of_mem z
      have hn' : n < S.length := by rw [← so.len]; exact hn
      obtain ⟨b, e1', c⟩ := so.cell n S[n] (List.getElem?_eq_getElem hn')
      rw [List.getElem?_eq_getElem hn, ea] at e1'
      cases e1'
      cases hc : S[n] with
      | lst ds => rw [hc] at c; obtain ⟨zs, h1, _⟩ := c; rw [hq] at h1; cases h1
      | dK ds => rw [hc] at c; obtain ⟨zs, h1, _⟩ := c; rw [hq] at h1; cases h1
      | dT ds => rw [hc] at c; obtain ⟨zs, h1, _⟩ := c; rw [hq] at h1; cases h1
    · obtain ⟨_, zs, h1⟩ := so.hd _ z
      rw [hq] at h1; cases h1
theorem kv_rows {K : PySem.W.Frag} {H : Hp} {ρ : Rho} : ∀ (ks : List Key), RpL K H ρ (ks.map kV) (ks.map kD) := rpl_kV
theorem pe_skeys (hr : Room k X.A) {to : TE} (hg : Gl X "sorted") (hm : X.mg "sorted" = none) (ho : PE X o to) (hbase : attributeBase o "keys" X.env (eval o X.env) = eval o X.env := by rfl) (hline : (apos.endLine == cpos.line) = true := by rfl)
    (he1 : starEach [.Call (.Attribute o "keys" apos) [] [] cpos] X.env = (false, eval (.Call (.Attribute o "keys" apos) [] [] cpos) X.env) :: starEach [] X.env := by rfl) :
    PE X (.Call (.Name "sorted" p1) [.Call (.Attribute o "keys" apos) [] [] cpos] [] pos) (tSk X to) := by
  refine ⟨fun pins s σ H Q I h => ?_⟩
  refine wpAny_Call_Name_kw (ld_blt I hg hm (by rfl) ?_)
  refine PyProof.Rows.callWith_builtin1 ?_ he1 (by rfl)
  rw [he1]
  show wpAny _ _ (spliced ((false, eval (.Call (.Attribute o "keys" apos) [] [] cpos) X.env) :: backTo pos (starEach [] X.env))) _ _ s
  refine Calls.spliced_cons ?_
  refine wpAny_Call_method (T := "dict") (id := "dict.keys") hbase rfl hline F.plainAttrs_dict F.slot_dict_keys F.type_dict_keys (thn (ho.run pins s σ H _ I h) fun u s1 ⟨x, H1, I1, rx, ρ, S, dx, ds, so, px, e, q⟩ => ?_)
  unfold skeysL at e
  cases ec : cellD S dx with
  | none => rw [ec] at e; cases e
  | some c =>
    rw [ec] at e
    have e : (cKeys c).bind sortG = some ds := e
    unfold cellD at ec
    cases en : refOf dx with
    | none => rw [en] at ec; cases ec
    | some n =>
      simp only [en] at ec
      cases dx <;> first | (cases en; done) | skip
      obtain ⟨a, rfl, qa, hc⟩ := px.cellAt so en ec
      obtain rfl : u = Value.ref a := rx
      cases c with
      | lst ds => cases e
      | dK kvs =>
        have e : sortG (kvs.map fun q => kD q.1) = some ds := e
        obtain ⟨ok1, ok2, rfl⟩ := sortG_some e
        obtain ⟨ys, h1, h2, h3⟩ := hc
        obtain ⟨hz, hs, vs, kv, hdo⟩ := dk_of I1.hok h1
        obtain ⟨o', es, ep, g1, g2, g3, g4, g5, g6⟩ := _root_.id hdo
        have hm' : s1.heap.DictAt (mixKind X.prog X.w) a vs ep := ⟨o', es, g1, g2, g3, g4, g5, g6⟩
        refine ⟨hdo.typeIs, hdo.mapOf.noDict, ?_⟩
        show wpAny _ _ (callWith cpos (.builtin "dict.keys") [.ref a] [] []) _ X.xe s1
        refine method_meetsIn F.slot_dict_keys F.entry_dict_keys rfl (PySem.evalArgs_none ⟨rfl, hdo.typeIs, F.args_dict_keys_1 _, _, PySem.W.kdl_meets_keys (mixKind X.prog X.w) a hs, ⟨vs, hdo⟩, ?_⟩)
        refine Calls.spliced_nil ?_
        have I2 : L2.Inv X pins σ H1 { s1 with heap := s1.heap.push { cls := .type "dict_keys", data := .fields #[.ref a] } } := I1.kept (t' := s1.toks) fun b ob q => Heap.get?_push_of_some _ q
        have hk : ys.map (·.1) = vs.map (·.1) := KV.keys kv
        have hkk : kvs.map (·.1) = vs.map (·.1) := h2.symm.trans hk
        have em : (kvs.map fun q => kD q.1) = ((vs.map (·.1)).map kD) := by rw [← hkk, List.map_map]; rfl
        have hlen : vs.length = (((vs.map (·.1)).map kV)).length := by simp
        refine sorted_core (ρ := ρ) (d := a) (r := s1.heap.objs.size) (xs := (vs.map (·.1)).map kV) (ds := kvs.map fun q => kD q.1) (P := fun i v => ∃ k x, vs[i]? = some (k, x) ∧ (mixKind X.prog X.w).is k v = true) (OK := fun h => PySem.W.KdlKeysView h s1.heap.objs.size a ∧ h.DictAt (mixKind X.prog X.w) a vs ep) I2 hr (by rw [em]; exact rpl_kV _) ok1 ok2 (by rw [← hlen]; exact PySem.W.kdl_keys (knd := mixKind X.prog X.w) (kvs := vs) (ep := ep)) ⟨⟨_, Heap.get?_push_size _ rfl, rfl, rfl⟩, hm'.push _⟩ (fun j v hj => ?_) fun zs D s' rz hD I3 => ⟨.ref D, _, I3, rfl, q zs D rz hD⟩
        obtain ⟨kk, x, h5, h6⟩ := hj
        refine ⟨kV kk, by rw [List.getElem?_map, List.getElem?_map, h5]; rfl, ?_⟩
        cases kk with
        | inl i => exact Value.isInt_shape h6
        | inr y => exact Value.isStrOf_shape h6
      | dT kvs =>
        have e : sortG (kvs.map fun q => PyData.tuple (q.1.map kD)) = some ds := e
        obtain ⟨ok1, ok2, rfl⟩ := sortG_some e
        obtain ⟨ys, h1, h2, h3⟩ := hc
        obtain ⟨hz, hs, xs, kt, hdo⟩ := dt_of I1.hok h1
        obtain ⟨o', es, ep, g1, g2, g3, g4, g5, g6⟩ := _root_.id hdo
        have hm' : RawD s1.heap a es ep := ⟨o', g1, g2, g3⟩
        refine ⟨hm'.typeIs, dictOfH_noDict hdo, ?_⟩
        show wpAny _ _ (callWith cpos (.builtin "dict.keys") [.ref a] [] []) _ X.xe s1
        refine method_meetsIn F.slot_dict_keys F.entry_dict_keys rfl (PySem.evalArgs_none ⟨rfl, hm'.typeIs, F.args_dict_keys_1 _, _, meetsKeysRaw (es := es) (ep := ep) hs, hm', ?_⟩)
        refine Calls.spliced_nil ?_
        have I2 : L2.Inv X pins σ H1 { s1 with heap := s1.heap.push { cls := .type "dict_keys", data := .fields #[.ref a] } } := I1.kept (t' := s1.toks) fun b ob q => Heap.get?_push_of_some _ q
        have hes : es.size = (xs.map fun x => V.ref x.2.1).length := by rw [List.length_map, ← Array.length_toList, g4, List.length_map]
        refine sorted_core (ρ := ρ) (d := a) (r := s1.heap.objs.size) (xs := xs.map fun x => V.ref x.2.1) (ds := kvs.map fun q => PyData.tuple (q.1.map kD)) (P := fun i v => ∃ hi : i < es.size, v = es[i].key) (OK := fun h => PySem.W.KdlKeysView h s1.heap.objs.size a ∧ Heap.DictRaw h a es ep) I2 hr (kt_rows so kt h2) ok1 ok2 (by rw [← hes]; exact PySem.KdlSrc.rawKeys (es := es) (ep := ep)) ⟨⟨_, Heap.get?_push_size _ rfl, rfl, rfl⟩, o', Heap.get?_push_of_some _ g1, g2, g3⟩ (fun j v hj => ?_) fun zs D s' rz hD I3 => ⟨.ref D, _, I3, rfl, q zs D rz hD⟩
        obtain ⟨hi, rfl⟩ := hj
        have h7 : es.toList[j]? = some es[j] := by rw [Array.getElem?_toList]; exact Array.getElem?_eq_getElem hi
        rw [g4, List.getElem?_map] at h7
        cases hx : xs[j]? with
        | none => rw [hx] at h7; cases h7
        | some x =>
          rw [hx] at h7
          have h8 : entryOfKey (tupleKind (mixKind X.prog X.w)) x = es[j] := Option.some.inj h7
          exact ⟨V.ref x.2.1, by rw [List.getElem?_map, hx]; rfl, by rw [← h8]; rfl⟩
theorem jf_skeys (hr : Room k X.A) (hg : Gl X "sorted") (hm : X.mg "sorted" = none) (ho : JE X ts W o go) (hbase : attributeBase o "keys" X.env (eval o X.env) = eval o X.env := by rfl) (hline : (apos.endLine == cpos.line) = true := by rfl)
    (he1 : starEach [.Call (.Attribute o "keys" apos) [] [] cpos] X.env = (false, eval (.Call (.Attribute o "keys" apos) [] [] cpos) X.env) :: starEach [] X.env := by rfl) :
    JF X ts W (.Call (.Name "sorted" p1) [.Call (.Attribute o "keys" apos) [] [] cpos] [] pos) (skeysF go) :=
  jf_of (pe_skeys hr hg hm ho hbase hline he1) fun σ H Q ⟨ρ, env, S, m, p⟩ => ⟨ρ, env, S, m, PostF.next (f := fun x S1 => optR (skeysL S1 x) fun ds => .ok ds S1) p fun x ρ1 H1 dx S1 _ st so rx p1 => by
    cases es : skeysL S1 dx with
    | none => rw [es] at p1; exact p1.elim
    | some ds =>
      rw [es] at p1
      exact ⟨ρ1, S1, dx, ds, so, rx, es, fun ys D ry hD => p1 ys ρ1 H1 D .refl so ry hD⟩⟩
end
end Cor

/-! Core14: a def's frame. -/
namespace Cor
open PySem PySem.Spec PyProof.Rows L2

mutual
/-- all references are below k -/
def lowD (k : Nat) : D → Bool
  | .list ds => lowL k ds
  | .tuple ds => lowL k ds
  | .dict kvs => match refOf (.dict kvs) with
    | some n => decide (n < k)
    | none => false
  | _ => true
def lowL (k : Nat) : List D → Bool
  | [] => true
  | d :: ds => lowD k d && lowL k ds
end
mutual
/-- the references by h -/
def frzW (h : Nat → Option D) : D → Option D
  | .list ds => (frzWs h ds).map .list
  | .tuple ds => (frzWs h ds).map .tuple
  | .dict kvs => match refOf (.dict kvs) with
    | some n => h n
    | none => none
  | .none => some .none
  | .bool b => some (.bool b)
  | .int i => some (.int i)
  | .str x => some (.str x)
def frzWs (h : Nat → Option D) : List D → Option (List D)
  | [] => some []
  | d :: ds => match frzW h d, frzWs h ds with
    | some d', some ds' => some (d' :: ds')
    | _, _ => none
end
def cellF (k : Nat) (S : Sto) : Nat → Nat → Option D
  | 0, n => if n < k then some (rf n) else none
  | f + 1, n => if n < k then some (rf n) else match S[n]? with
    | some (.lst ds) => (frzWs (cellF k S f) ds).map .list
    | _ => none
/-- lists made since become values -/
def frzD (k : Nat) (S : Sto) (d : D) : Option D := frzW (cellF k S 6) d
mutual
theorem frzW_flat {h : Nat → Option D} : ∀ d : D, flat d = true → frzW h d = some d
  | .none, _ => rfl
  | .bool _, _ => rfl
  | .int _, _ => rfl
  | .str _, _ => rfl
  | .list ds, f => by show (frzWs h ds).map _ = _; rw [frzWs_flat ds (by simpa [flat] using f)]; rfl
  | .tuple ds, f => by show (frzWs h ds).map _ = _; rw [frzWs_flat ds (by simpa [flat] using f)]; rfl
  | .dict kvs, f => by simp [flat] at f
theorem frzWs_flat {h : Nat → Option D} : ∀ ds : List D, flatL ds = true → frzWs h ds = some ds
  | [], _ => rfl
  | d :: ds, f => by
    simp only [flatL, Bool.and_eq_true] at f
    show (match frzW h d, frzWs h ds with | some d', some ds' => some (d' :: ds') | _, _ => none) = _
    rw [frzW_flat d f.1, frzWs_flat ds f.2]
end
theorem frzD_flat {k : Nat} {S : Sto} {d : D} (f : flat d = true) : frzD k S d = some d := frzW_flat d f
/-- a list made since, its items plain -/
theorem frzD_new {S T : Sto} {ds : List D} (f : flatL ds = true) (k n : Nat) (hk : ¬ n < k) (h : T[n]? = some (.lst ds)) : frzD k T (rf n) = some (.list ds) := by
  show (match refOf (rf n) with | some n => cellF k T 6 n | none => none) = _
  rw [refOf_rf]
  show (if n < k then some (rf n) else match T[n]? with | some (.lst ds) => (frzWs (cellF k T 5) ds).map .list | _ => none) = _
  rw [if_neg hk, h]
  show (frzWs (cellF k T 5) ds).map _ = _
  rw [frzWs_flat ds f]
  rfl
def frzFs (k : Nat) (S : Sto) : List (Str × D) → Option (List (Str × D))
  | [] => some []
  | p :: r => match frzD k S p.2, frzFs k S r with
    | some d, some r' => some ((p.1, d) :: r')
    | _, _ => none
open Classical in
noncomputable def fin (S S' : Sto) (d : D) : R D := if S'.take S.length = S then (match frzD S.length S' d with
  | some d' => .ok d' S
  | none => .ok d S') else .ok d S'
open Classical in
noncomputable def finE (S S' : Sto) (e : Exn) : R D := if S'.take S.length = S then (match frzFs S.length S' e.fld with
  | some fl => .er ⟨e.cls, fl⟩ S
  | none => .er e S') else .er e S'
theorem fin_ok {S S' : Sto} {d d' : D} (h : S'.take S.length = S) (e : frzD S.length S' d = some d') : fin S S' d = .ok d' S := by
  unfold fin
  rw [if_pos h, e]
theorem fin_flat {S S' : Sto} {d : D} (h : S'.take S.length = S) (f : flat d = true) : fin S S' d = .ok d S := fin_ok h (frzD_flat f)
theorem finE_ok {S S' : Sto} {c : Str} {fl : List (Str × D)} (h : S'.take S.length = S) (e : frzFs S.length S' fl = some fl) : finE S S' ⟨c, fl⟩ = .er ⟨c, fl⟩ S := by
  unfold finE
  rw [if_pos h]
  show (match frzFs S.length S' fl with | some fl => R.er ⟨c, fl⟩ S | none => .er _ S') = _
  rw [e]
/-- a def's run -/
noncomputable def callB (n ar : Nat) (b : Blk) : List D → Sto → R D := fun ds S => if ds.length = ar then (match b (ds.map some ++ List.replicate (n - ar) none) S with
  | .nx _ S' => fin S S' .none
  | .rt d S' => fin S S' d
  | .er e _ S' => finE S S' e
  | _ => .no) else .no

section
variable {K : PySem.W.Frag} {H H' : Hp} {ρ ρ' : Rho} {S S' : Sto}
mutual
theorem Rp.low_ (so : StoOk K H ρ S) : ∀ (d : D) (v : V), Rp K H ρ v d → lowD S.length d = true
  | .none, _, _ => rfl
  | .bool _, _, _ => rfl
  | .int _, _, _ => rfl
  | .str _, _, _ => rfl
  | .list ds, _, h => by cases h with | lst h r => exact RpL.low_ so ds _ r
  | .tuple ds, _, h => by cases h with | tup h r => exact RpL.low_ so ds _ r
  | .dict kvs, _, h => by
    cases h with
    | rf h =>
      rename_i n
      have : n < S.length := by rw [← so.len]; exact (List.getElem?_eq_some_iff.mp h).1
      show decide (_ < _) = true
      simpa using this
theorem RpL.low_ (so : StoOk K H ρ S) : ∀ (ds : List D) (vs : List V), RpL K H ρ vs ds → lowL S.length ds = true
  | [], _, _ => rfl
  | d :: ds, _, h => by
    cases h with
    | cons h t =>
      simp only [lowL, Bool.and_eq_true]
      exact ⟨Rp.low_ so d _ h, RpL.low_ so ds _ t⟩
end
/-- the cells made since are forgotten -/
structure Cut (ρ ρ' : Rho) (k : Nat) : Prop where
  pre : ∃ t, ρ'.c = ρ.c ++ t
  hid : ∀ a ∈ ρ.h, a ∈ ρ'.h
  len : ρ.c.length = k
theorem Cut.out {k : Nat} (c : Cut ρ ρ' k) {a : Addr} (n : a ∉ ρ') : a ∉ ρ := fun z => by
  obtain ⟨t, e⟩ := c.pre
  rcases z with z | z
  · exact n (.inl (by rw [e]; exact List.mem_append_left _ z))
  · exact n (.inr (c.hid a z))
theorem Cut.at {k n : Nat} {a : Addr} (c : Cut ρ ρ' k) (h : ρ'.c[n]? = some a) (hn : n < k) : ρ.c[n]? = some a := by
  obtain ⟨t, e⟩ := c.pre
  rw [e, List.getElem?_append_left (by rw [c.len]; exact hn)] at h
  exact h
mutual
theorem Rp.cutl_ {k : Nat} (c : Cut ρ ρ' k) : ∀ (d : D) (v : V), Rp K H ρ' v d → lowD k d = true → Rp K H ρ v d
  | .none, _, h, _ => by cases h; exact .non
  | .bool b, _, h, _ => by cases h; exact .bl b
  | .int i, _, h, _ => by cases h; exact .int i
  | .str x, _, h, _ => by cases h; exact .str x
  | .list ds, _, h, l => by cases h with | lst h r => exact .lst ⟨h.1, c.out h.2⟩ (RpL.cutl_ c ds _ r l)
  | .tuple ds, _, h, l => by cases h with | tup h r => exact .tup ⟨h.1, c.out h.2⟩ (RpL.cutl_ c ds _ r l)
  | .dict kvs, _, h, l => by
    cases h with
    | rf h =>
      have l : decide ((Int.ofNat _).toNat < k) = true := l
      exact .rf (c.at h (by simpa using l))
theorem RpL.cutl_ {k : Nat} (c : Cut ρ ρ' k) : ∀ (ds : List D) (vs : List V), RpL K H ρ' vs ds → lowL k ds = true → RpL K H ρ vs ds
  | [], _, h, _ => by cases h; exact .nil
  | d :: ds, _, h, l => by
    cases h with
    | cons h t =>
      simp only [lowL, Bool.and_eq_true] at l
      exact .cons (Rp.cutl_ c d _ h l.1) (RpL.cutl_ c ds _ t l.2)
end
mutual
theorem Rp.frz_ {k : Nat} (c : Cut ρ ρ' k) {h : Nat → Option D} (hh : ∀ (n : Nat) (a : Addr) (d' : D), ρ'.c[n]? = some a → h n = some d' → Rp K H ρ (.ref a) d') : ∀ (d : D) (v : V) (d' : D), Rp K H ρ' v d → frzW h d = some d' → Rp K H ρ v d'
  | .none, _, _, r, e => by cases r; cases e; exact .non
  | .bool b, _, _, r, e => by cases r; cases e; exact .bl b
  | .int i, _, _, r, e => by cases r; cases e; exact .int i
  | .str x, _, _, r, e => by cases r; cases e; exact .str x
  | .list ds, _, _, r, e => by
    cases r with
    | lst hl rr =>
      have e : (frzWs h ds).map PyData.list = some _ := e
      cases es : frzWs h ds with
      | none => rw [es] at e; cases e
      | some ds' => rw [es] at e; cases e; exact .lst ⟨hl.1, c.out hl.2⟩ (RpL.frz_ c hh ds _ _ rr es)
  | .tuple ds, _, _, r, e => by
    cases r with
    | tup hl rr =>
      have e : (frzWs h ds).map PyData.tuple = some _ := e
      cases es : frzWs h ds with
      | none => rw [es] at e; cases e
      | some ds' => rw [es] at e; cases e; exact .tup ⟨hl.1, c.out hl.2⟩ (RpL.frz_ c hh ds _ _ rr es)
  | .dict kvs, _, _, r, e => by
    cases r with
    | rf q => exact hh _ _ _ (by simpa using q) e
theorem RpL.frz_ {k : Nat} (c : Cut ρ ρ' k) {h : Nat → Option D} (hh : ∀ (n : Nat) (a : Addr) (d' : D), ρ'.c[n]? = some a → h n = some d' → Rp K H ρ (.ref a) d') : ∀ (ds : List D) (vs : List V) (ds' : List D), RpL K H ρ' vs ds → frzWs h ds = some ds' → RpL K H ρ vs ds'
  | [], _, _, r, e => by cases r; cases e; exact .nil
  | d :: ds, _, _, r, e => by
    cases r with
    | cons r t =>
      have e : (match frzW h d, frzWs h ds with | some d', some ds' => some (d' :: ds') | _, _ => none) = some _ := e
      cases e1 : frzW h d with
      | none => rw [e1] at e; cases e
      | some d1 =>
        cases e2 : frzWs h ds with
        | none => rw [e1, e2] at e; cases e
        | some ds1 =>
          rw [e1, e2] at e
          cases e
          exact .cons (Rp.frz_ c hh d _ _ r e1) (RpL.frz_ c hh ds _ _ t e2)
end
theorem cellF_ok {k : Nat} (so : StoOk K H ρ' S) (c : Cut ρ ρ' k) : ∀ (f n : Nat) (a : Addr) (d' : D), ρ'.c[n]? = some a → cellF k S f n = some d' → Rp K H ρ (.ref a) d'
  | 0, n, a, d', h, e => by
    unfold cellF at e
    split at e
    · rename_i hn; cases e; exact .rf (c.at h hn)
    · cases e
  | f + 1, n, a, d', h, e => by
    have e : (if n < k then some (rf n) else match S[n]? with | some (.lst ds) => (frzWs (cellF k S f) ds).map PyData.list | _ => none) = some d' := e
    split at e
    · rename_i hn; cases e; exact .rf (c.at h hn)
    · rename_i hn
      cases ec : S[n]? with
      | none => rw [ec] at e; cases e
      | some cc =>
        rw [ec] at e
        cases cc <;> first | (cases e; done) | skip
        rename_i ds
        have e : (frzWs (cellF k S f) ds).map PyData.list = some d' := e
        cases es : frzWs (cellF k S f) ds with
        | none => rw [es] at e; cases e
        | some ds' =>
          rw [es] at e
          cases e
          obtain ⟨b, e1, xs, h1, h2⟩ := so.cell n _ ec
          rw [h] at e1; cases e1
          refine .lst ⟨.inl h1, fun z => ?_⟩ (RpL.frz_ c (cellF_ok so c f) ds _ _ h2 es)
          rcases z with z | z
          · obtain ⟨t, et⟩ := c.pre
            obtain ⟨m, hm, ea⟩ := List.getElem_of_mem z
            obtain ⟨hi, eb⟩ := List.getElem?_eq_some_iff.mp h
            have hm' : m < ρ'.c.length := by rw [et, List.length_append]; omega
            have : ρ'.c[m] = a := by
              have : ρ'.c[m]? = some a := by rw [et, List.getElem?_append_left hm, List.getElem?_eq_getElem hm, ea]
              exact (List.getElem?_eq_some_iff.mp this).2
            have q := (List.getElem_inj so.nd).mp (this.trans eb.symm)
            have := c.len
            omega
          · exact (so.hd a (c.hid a z)).1 (by
              obtain ⟨hi, eb⟩ := List.getElem?_eq_some_iff.mp h
              rw [← eb]; exact List.getElem_mem hi)
theorem stp_cut (s : Stp ρ H ρ' H') : Stp ρ H ρ H' := ⟨⟨[], by simp⟩, ⟨[], rfl, fun _ h => nomatch h⟩, fun _ h => .inl h, s.keep, s.tab⟩
theorem cut_of (s : Stp ρ H ρ' H') (so : StoOk K H ρ S) : Cut ρ ρ' S.length :=
  ⟨s.pre, fun a h => by obtain ⟨t, e, _⟩ := s.hid; rw [e]; exact List.mem_append_right _ h, so.len⟩
theorem sto_cut (s : Stp ρ H ρ' H') (so : StoOk K H ρ S) (so' : StoOk K H' ρ' S') (h : S'.take S.length = S) : StoOk K H' ρ S := by
  have c := cut_of s so
  refine ⟨so.len, so.nd, fun n cc e => ?_, fun a m => ?_⟩
  · obtain ⟨a, ea, hc⟩ := so.cell n cc e
    have hn : n < S.length := (List.getElem?_eq_some_iff.mp e).1
    have e' : S'[n]? = some cc := by
      rw [← h, List.getElem?_take_of_lt hn] at e
      exact e
    obtain ⟨b, eb, hb⟩ := so'.cell n cc e'
    rw [s.at ea] at eb
    cases eb
    refine ⟨a, ea, ?_⟩
    cases cc with
    | lst ds =>
      obtain ⟨xs, h1, h2⟩ := hc
      obtain ⟨ys, k1, k2⟩ := hb
      exact ⟨ys, k1, RpL.cutl_ c _ _ k2 (RpL.low_ so _ _ h2)⟩
    | dK ds =>
      obtain ⟨xs, h1, h2, h3⟩ := hc
      obtain ⟨ys, k1, k2, k3⟩ := hb
      exact ⟨ys, k1, k2, RpL.cutl_ c _ _ k3 (RpL.low_ so _ _ h3)⟩
    | dT ds =>
      obtain ⟨xs, h1, h2, h3⟩ := hc
      obtain ⟨ys, k1, k2, k3⟩ := hb
      exact ⟨ys, k1, k2, RpL.cutl_ c _ _ k3 (RpL.low_ so _ _ h3)⟩
  · obtain ⟨k1, k2⟩ := so'.hd a (c.hid a m)
    refine ⟨fun z => k1 ?_, k2⟩
    obtain ⟨t, e⟩ := s.pre
    rw [e]; exact List.mem_append_left _ z
theorem frzFs_ok (c : Cut ρ ρ' S.length) (so : StoOk K H ρ' S') : ∀ {fl fl' : List (Str × D)} {vs : List V}, RpL K H ρ' vs (fl.map (·.2)) → frzFs S.length S' fl = some fl' → fl'.map (·.1) = fl.map (·.1) ∧ RpL K H ρ vs (fl'.map (·.2))
  | [], _, _, r, e => by cases r; cases e; exact ⟨rfl, .nil⟩
  | p :: fl, _, _, r, e => by
    rw [List.map_cons] at r
    cases r with
    | cons r t =>
      have e : (match frzD S.length S' p.2, frzFs S.length S' fl with | some d, some r' => some ((p.1, d) :: r') | _, _ => none) = some _ := e
      cases e1 : frzD S.length S' p.2 with
      | none => rw [e1] at e; cases e
      | some d =>
        cases e2 : frzFs S.length S' fl with
        | none => rw [e1, e2] at e; cases e
        | some r' =>
          rw [e1, e2] at e
          cases e
          obtain ⟨i1, i2⟩ := frzFs_ok c so t e2
          exact ⟨by rw [List.map_cons, List.map_cons, i1], .cons (Rp.frz_ c (cellF_ok so c 6) _ _ _ r e1) i2⟩
end
end Cor

/-! Core15: a def keeps its promise; the law's end. -/
namespace Cor
open PySem PySem.Spec PyProof.Rows L2

section
variable {K : PySem.W.Frag} {mg : Str → Option Value} {H : Hp} {ρ : Rho} {S : Sto} {ts : List Addr}
theorem start_env {N : List Str} : ∀ {vs : List V} {ds : List D}, RpL K H ρ vs ds → ∀ n : Nat, EnvOk K H ρ (ds.map some ++ List.replicate n none) (vs.map some ++ List.replicate n none)
  | _, _, .nil, n => ⟨by simp, fun i d e => by
    simp only [List.map_nil, List.nil_append, List.getElem?_replicate] at e
    split at e <;> cases e⟩
  | _, _, .cons (v := v) (d := d) h t, n => by
    have ih := start_env (N := N) t n
    refine ⟨by have := ih.1; simp at this ⊢; omega, fun i d' e => ?_⟩
    cases i with
    | zero =>
      cases e
      exact ⟨v, rfl, h⟩
    | succ i =>
      obtain ⟨w, q, r⟩ := ih.2 i d' (by simpa using e)
      exact ⟨w, by simpa using q, r⟩
/-- what the frame's end gives -/
theorem fin_post {S' : Sto} {d : D} {E : XK} {Q : VK} {ρ' : Rho} {H' : Hp} {v : V} (so : StoOk K H ρ S) (p : Post K mg (fun c o _ H' => E c o H') [] ρ H (Rp K) (fin S S' d) Q) (st : Stp ρ H ρ' H') (so' : StoOk K H' ρ' S') (r : Rp K H' ρ' v d) : Q v H' := by
  by_cases z : S'.take S.length = S
  · cases e : frzD S.length S' d with
    | none =>
      unfold fin at p
      rw [if_pos z, e] at p
      exact p v ρ' H' st so' r
    | some d' =>
      rw [fin_ok z e] at p
      exact p v ρ H' (stp_cut st) (sto_cut st so so' z) (Rp.frz_ (cut_of st so) (cellF_ok so' (cut_of st so) 6) _ _ _ r e)
  · unfold fin at p
    rw [if_neg z] at p
    exact p v ρ' H' st so' r
theorem finE_post {S' : Sto} {e : Exn} {E : XK} {Q : VK} {ρ' : Rho} {H' : Hp} {c : Value} {o : Option Addr} (so : StoOk K H ρ S) (p : Post K mg (fun c o _ H' => E c o H') [] ρ H (Rp K) (finE S S' e) Q) (st : Stp ρ H ρ' H') (so' : StoOk K H' ρ' S') (r : ExnOk K mg H' ρ' e c o) : E c o H' := by
  by_cases z : S'.take S.length = S
  · cases ef : frzFs S.length S' e.fld with
    | none =>
      unfold finE at p
      rw [if_pos z, ef] at p
      exact p ρ' H' c o st so' r
    | some fl =>
      unfold finE at p
      rw [if_pos z, ef] at p
      refine p ρ H' c o (stp_cut st) (sto_cut st so so' z) ⟨r.1, ?_⟩
      have r2 := r.2
      cases hf : e.fld with
      | nil =>
        rw [hf] at ef
        cases ef
        trivial
      | cons f fs =>
        rw [hf] at r2 ef
        obtain ⟨a, xs, e1, e2, e3, e4, e5⟩ := r2
        obtain ⟨i1, i2⟩ := frzFs_ok (cut_of st so) so' e5 ef
        cases fl with
        | nil => simp at i1
        | cons g gs => exact ⟨a, xs, e1, (cut_of st so).out e2, e3, e4.trans i1.symm, i2⟩
  · unfold finE at p
    rw [if_neg z] at p
    exact p ρ' H' c o st so' r
end
/-- THE RULE: a def by its body -/
theorem fnk_of {P : Program} {w : World} {K : PySem.W.Frag} {mg : Str → Option Value} {base : Heap} {ts : List Addr} {k : Nat} {C : Clls} {x : Str} {id : Nat} {st : Stmt} {f : Addr} {fd : FuncData} {N ps : List Str} {b : Blk}
    (F : Fun K x x st f fd) (S : FnScope N ps (defScope st)) (hC : ∀ ds S, C id ds S = callB N.length ps.length b ds S)
    (hbody : ∀ (cdv : Value) (A : Around) (outer : List Env) (s : Shared) (H : Hp) (E : XK), fd.code = cdv → Room k (A.deeper (envOfC x (defScope st) s.heap.objs.size f cdv)) →
      JB (cxOf (L2.CX P w) P w K mg base N x (defScope st) f cdv A outer s H E) ts (fun c o _ H => E c o H) (defBody st) b) : FnOk P w K mg base (L2.CX P w) (k + 1) f fd ps (spC K mg ts C id ps.length) := by
  obtain ⟨oc, od, kV, doc, pm, an, cdv, ct, osl, rfl, lk, hcd⟩ := F.ex
  refine fn_of lk hcd S (fun _ _ _ _ h => h.1) fun A outer s H vs Q E hr hsp => ⟨_, hbody cdv A outer s H E rfl hr, ?_⟩
  obtain ⟨hl, ρ, ds, S0, so, rl, tb, p⟩ := hsp
  have hpl : ps.length ≤ N.length := by have := congrArg List.length S.pre; rw [List.length_take] at this; omega
  have hd : ds.length = ps.length := rl.length.symm.trans hl
  rw [hC] at p
  have e : L2.start N vs = vs.map some ++ List.replicate (N.length - ps.length) none := by unfold L2.start; rw [hl]
  refine ⟨ρ, ds.map some ++ List.replicate (N.length - ps.length) none, S0, ⟨by rw [e]; exact start_env (N := N) rl _, so, tb⟩, ?_⟩
  unfold callB at p
  rw [if_pos hd] at p
  cases eb : b (ds.map some ++ List.replicate (N.length - ps.length) none) S0 with
  | nx env S' => rw [eb] at p; exact fun ρ' σ' H' st m => fin_post so p st m.sto .non
  | rt d S' => rw [eb] at p; exact fun v ρ' H' st so' r => fin_post so p st so' r
  | er e' env S' => rw [eb] at p; exact fun ρ' σ' H' c o st m r => finE_post so p st m.sto r
  | bk env S' => rw [eb] at p; exact p.elim
  | ct env S' => rw [eb] at p; exact p.elim
  | no => rw [eb] at p; exact p.elim
theorem cal_of {P : Program} {w : World} {K : PySem.W.Frag} {mg : Str → Option Value} {base : Heap} {ts : List Addr} {k : Nat} {C : Clls} {x : Str} {id : Nat} {st : Stmt} {f : Addr} {fd : FuncData} {N ps : List Str} {b : Blk}
    (F : Fun K x x st f fd) (S : FnScope N ps (defScope st)) (hm : mg x = some (.ref f)) (hb : Binds K fd ps []) (hC : ∀ ds S, C id ds S = callB N.length ps.length b ds S)
    (hbody : ∀ (cdv : Value) (A : Around) (outer : List Env) (s : Shared) (H : Hp) (E : XK), fd.code = cdv → Room k (A.deeper (envOfC x (defScope st) s.heap.objs.size f cdv)) →
      JB (cxOf (L2.CX P w) P w K mg base N x (defScope st) f cdv A outer s H E) ts (fun c o _ H => E c o H) (defBody st) b) : Cal P w K mg base ts (k + 1) C x id ps.length :=
  ⟨f, fd, ps, hm, F.kp, hb, fnk_of F S hC hbody⟩
end Cor

/-! Core16: small things for the derivations; the law's end. -/
namespace Cor
open PySem PySem.Spec PyProof.Rows L2

def visB (sc : Scope) (x : Str) : Bool := match sc.names.lookup x with
  | some .local => true
  | some .cell => true
  | some .free => true
  | _ => false
theorem vis_of {sc : Scope} {x : Str} (h : visB sc x = true) : Vis sc x := by
  unfold visB at h
  unfold Vis
  split at h <;> first | (rename_i e; rw [e]; simp; done) | cases h
theorem loc_of {sc : Scope} {x : Str} (h : sc.names.lookup x = some .local) : L2.Loc sc x := .inl h
def locB (sc : Scope) (x : Str) : Bool := match sc.names.lookup x with
  | some .local => true
  | some .cell => true
  | _ => false
theorem loc_or {sc : Scope} {x : Str} (h : locB sc x = true) : L2.Loc sc x := by
  unfold locB at h
  unfold L2.Loc
  split at h <;> first | (rename_i e; rw [e]; simp; done) | cases h
theorem cell_of {sc : Scope} {x : Str} (h : sc.names.lookup x = some .cell) : L2.Loc sc x := .inr h

theorem jb_no {X : Cx} {ts : List Addr} {W : WX} {st : List Stmt} : JB X ts W st noB := ⟨fun pins s σ H D I ⟨_, _, _, _, q⟩ => q.elim⟩
/-! ### a slice of any sequence, a list's as a value -/
def slV (S : Sto) (x : D) (lo hi : Option Int) : Option D := match x with
  | .tuple ds => some (.tuple (cutD ds lo hi))
  | .list ds => some (.list (cutD ds lo hi))
  | .str z => if z.length ≤ sizeLine then some (.str (cutS z lo hi)) else none
  | .dict kvs => match lstOf S (.dict kvs) with
    | some p => some (.list (cutD p.2 lo hi))
    | none => none
  | _ => none
def slA (a : Ex) (lo hi : Px) : Ex := fun env S => (a env S).bind fun x S1 => (lo env S1).bind fun l S2 => (hi env S2).bind fun u S3 => lift (slV S3 x l u) S3
section
variable {X : Cx} {ts : List Addr} {W : WX} {pos p2 : Pos} {a : Expr} {lo hi : Option Expr} {ga : Ex} {gl gu : Px}
theorem je_slA (ha : JE X ts W a ga) (hl : JP X ts W lo gl) (hu : JP X ts W hi gu) : JE X ts W (.Subscript a (.Slice lo hi none p2) pos) (slA ga gl gu) :=
  je_of (pe_slice ((sl_tupA.or sl_str).or sl_list) ha hl hu) fun σ H Q ⟨ρ, env, S, m, p⟩ => ⟨ρ, env, S, m, Post.next (f := fun x S1 => (gl env S1).bind fun l S2 => (gu env S2).bind fun u S3 => lift (slV S3 x l u) S3) p fun x ρ1 H1 dx S1 er1 st so rx p1 =>
    ⟨ρ1, env, S1, m.step st so, Post.next (f := fun l S2 => (gu env S2).bind fun u S3 => lift (slV S3 dx l u) S3) p1 fun l ρ2 H2 l' S2 _ st2 so2 el p2 => by
      subst el
      exact ⟨ρ2, env, S2, (m.step st so).step st2 so2, Post.next (f := fun u S3 => lift (slV S3 dx l u) S3) p2 fun u ρ3 H3 u' S3 _ st3 so3 eu p3 => by
        subst eu
        replace rx := (rx.step st2).step st3
        cases dx <;> first | exact p3.elim | skip
        · rename_i z
          cases rx
          by_cases hz : z.length ≤ sizeLine
          · have p3 : Post X.K X.mg W σ ρ3 H3 (Rp X.K) (lift (if z.length ≤ sizeLine then some (PyData.str (cutS z l u)) else none) S3) Q := p3
            rw [if_pos hz] at p3
            exact .inl (.inr ⟨z, rfl, hz, Post.done p3 so3 (.str _)⟩)
          · have p3 : Post X.K X.mg W σ ρ3 H3 (Rp X.K) (lift (if z.length ≤ sizeLine then some (PyData.str (cutS z l u)) else none) S3) Q := p3
            rw [if_neg hz] at p3; exact p3.elim
        · rename_i ds
          cases rx with
          | lst h r =>
            refine .inr ⟨_, _, rfl, h.sq, fun q hq => ?_⟩
            exact p3 _ ρ3 _ (stp_new hq) (so3.new_obj hq) (.lst ⟨.inl upd_same, so3.new hq⟩ ((cutD_ok r l u).step (stp_new hq)))
        · rename_i ds
          cases rx with
          | tup h r =>
            rename_i a' xs
            refine .inl (.inl ⟨a', xs, rfl, h.sq, fun e => ?_, fun _ q hq => ?_⟩)
            · have ec : cutD ds l u = ds := by
                unfold cutD
                rw [← r.length, e.1, e.2, r.length]
                simp
              have p3 : Post X.K X.mg W σ ρ3 H3 (Rp X.K) (.ok (PyData.tuple (cutD ds l u)) S3) Q := p3
              rw [ec] at p3
              exact Post.done p3 so3 (.tup h r)
            · exact p3 _ ρ3 _ (stp_new hq) (so3.new_obj hq) (.tup ⟨upd_same, so3.new hq⟩ ((cutD_ok r l u).step (stp_new hq)))
        · rename_i kvs
          have p3 : Post X.K X.mg W σ ρ3 H3 (Rp X.K) (lift (match lstOf S3 (.dict kvs) with | some p => some (PyData.list (cutD p.2 l u)) | none => none) S3) Q := p3
          cases el : lstOf S3 (.dict kvs) with
          | none => rw [el] at p3; exact p3.elim
          | some q =>
            obtain ⟨n, ds⟩ := q
            rw [el] at p3
            obtain ⟨_, a', xs, rfl, _, h1, h2⟩ := lstOf_ok so3 rx el
            exact .inr ⟨_, _, rfl, SqL.of h1, fun q hq => p3 _ ρ3 _ (stp_new hq) (so3.new_obj hq) (.lst ⟨.inl upd_same, so3.new hq⟩ ((cutD_ok h2 l u).step (stp_new hq)))⟩⟩⟩⟩
end

/-! ### contexts -/
section
variable {P : Program} {w : World} {K : PySem.W.Frag} {mg : Str → Option Value} {base : Heap} {N : List Str} {qual : Str} {scope : Scope} {f : Addr} {cd : Value} {A : Around} {outer : List Env} {s : Shared} {H : Hp} {E : XK}
theorem takes_cx : Takes (cxOf (L2.CX P w) P w K mg base N qual scope f cd A outer s H E) (fun c o _ H => E c o H) := takes_of rfl rfl rfl rfl
theorem owns_cx : PassesOwn (model P w) (cxOf (L2.CX P w) P w K mg base N qual scope f cd A outer s H E).A (cxOf (L2.CX P w) P w K mg base N qual scope f cd A outer s H E).env (cxOf (L2.CX P w) P w K mg base N qual scope f cd A outer s H E).xe := passes_of rfl
theorem takes_w0 {X : Cx} : Takes X W0 := fun _ _ ⟨_, _, _, _, _, _, _, _, _, _, _, _, _, _, _, _, w⟩ => w.elim
end
/-- all the defs of a table keep their promise -/
def AllCal (P : Program) (w : World) (K : PySem.W.Frag) (mg : Str → Option Value) (base : Heap) (ts : List Addr) (k : Nat) (tab : List (Str × Nat)) (C : Clls) : Prop :=
  ∀ (id : Nat) (x : Str) (ar : Nat), tab[id]? = some (x, ar) → Cal P w K mg base ts k C x id ar
/-- a def's facts -/
def DefF (K : PySem.W.Frag) (mg : Str → Option Value) (st : Stmt) (x : Str) (ps : List Str) (f : Addr) (fd : FuncData) : Prop := Fun K x x st f fd ∧ mg x = some (.ref f) ∧ Binds K fd ps []
theorem cal_zero {P : Program} {w : World} {K : PySem.W.Frag} {mg : Str → Option Value} {base : Heap} {ts : List Addr} {st : Stmt} {x : Str} {id : Nat} {ps : List Str} {f : Addr} {fd : FuncData} (F : DefF K mg st x ps f fd) : Cal P w K mg base ts 0 (fun _ _ _ => .no) x id ps.length :=
  ⟨f, fd, ps, F.2.1, F.1.kp, F.2.2, ⟨fun _ _ _ _ h => h.1, fun _ _ _ _ _ _ _ _ _ _ _ _ _ h => by obtain ⟨_, _, _, _, _, _, _, p⟩ := h; exact p.elim⟩⟩
theorem def_fact {K : PySem.W.Frag} {mg : Str → Option Value} {h : Heap} {st : Stmt} {x : Str} {ps : List Str} {f : Addr} {oc : Value} {od an : Option Addr} {osl : Array (Option Value)} {kV doc pm cdv ct : Value} (KX : K.In h) (G : h.Ns mainGlobals mg)
    (a : PySem.W.nsIn K mainGlobals x = some (some (.ref f))) (l : K.lookup f = some ⟨oc, od, .func (PySem.W.fnOf x x (defArgs st) (defBody st) (defScope st) .none kV doc pm an cdv ct), osl⟩) (c : PySem.W.codeIn K cdv x = true) (k : PySem.W.keepIn K (.ref f) = true)
    (b : ∀ (kV doc pm : Value) (an : Option Addr) (cdv ct : Value) (us : List Value), us.length = ps.length → bindArgs (PySem.W.fnOf x x (defArgs st) (defBody st) (defScope st) .none kV doc pm an cdv ct) ⟨us, []⟩ = pure (ps.zip us)) :
    DefF K mg st x ps f (PySem.W.fnOf x x (defArgs st) (defBody st) (defScope st) .none kV doc pm an cdv ct) :=
  ⟨fun_mk l c k, PySem.W.mg_of KX G a, (fun_mk l c k).binds b⟩

/-! ### the end -/
def noLists (K : PySem.W.Frag) : Bool := K.all fun p => p.2.cls != .type "list"
theorem sql_rd {K : PySem.W.Frag} {H : Hp} {a : Addr} {xs : List V} (nl : noLists K = true) (h : SqL K H a xs) : Rd H a (.lst xs) := by
  rcases h with h | ⟨o, its, n, e, c, _⟩
  · exact h
  · have h2 := List.all_eq_true.mp nl (a, o) (PySem.W.mem_of_lookupK e)
    rw [c] at h2
    simp at h2
theorem script_rpl {K : PySem.W.Frag} {H : Hp} {ρ : Rho} : ∀ ns : List Int, RpL K H ρ (ns.map V.int) (ns.map PyData.int)
  | [] => .nil
  | n :: ns => .cons (.int n) (script_rpl ns)
/-- the law's promise from what C tells -/
theorem law_sp {P : Program} {w : World} {K : PySem.W.Frag} {mg : Str → Option Value} {C : Clls} {id : Nat} {cs : List (Addr × Addr)} {H : Hp} {a : Addr} {ns : List Int} (nl : noLists K = true) (hH : ∀ p ∈ cs, H p.2 = some (.tbl #[])) (hS : SqL K H a (ns.map V.int))
    (hC : C id [.list (ns.map .int)] [] = .ok (.bool true) []) : spC K mg (cs.map (·.2)) C id 1 [.ref a] H (fun v _ => v = .bl true) fun _ _ _ => False := by
  refine ⟨rfl, ⟨[], []⟩, [.list (ns.map .int)], [], ⟨rfl, .nil, (fun n c e => nomatch e), (fun a m => nomatch m)⟩, .cons (.lst ⟨sql_rd nl hS, fun z => by rcases z with z | z <;> cases z⟩ (script_rpl ns)) .nil, fun P hP => ?_, ?_⟩
  · obtain ⟨p, hp, e⟩ := List.mem_map.mp hP
    rw [← e]
    exact ⟨⟨#[], hH p hp, trivial⟩, fun z => nomatch z⟩
  · rw [hC]
    intro v ρ' H' _ _ r
    cases r
    rfl
theorem cx_false {P : Program} {w : World} {H : Hp} {s : Shared} {e : Value} {s' : Shared} (h : L2.CX P w [] H s (fun _ _ _ => False) e s') : False := by
  obtain ⟨_, _, _, _, _, _, _, _, _, _, _, _, z⟩ := h
  exact z
/-- the walk's end, all that the head knows -/
theorem walk_all {l : PySem.W.OpenLaw} {n k : Nat} {q : Program} {loose : List Str} {XP : (Str → Option Value) → Heap → Prop} {YP : World → Heap → Prop} {d : DefRec} {K : Params → PySem.W.Frag} {x : Str}
    (hn : l.most = some n) (hn2 : n ≤ sizeLine) (hdf : d.params.defaults = []) (hr : Room k callerA) (hY : ∀ (w : World) (h : Heap), YP w h → (K w.params).In h)
    (F : ∀ (w : World) (s₀ : Shared) (mg mb : Str → Option Value) (fa : Addr) (h : Heap), (K w.params).In h → PySem.W.Ground q loose [] XP w s₀ mg mb h → mg d.name = some (.ref fa) → LamX.LawAtS l w (K w.params) (L2.CX l.prog w) k n x mg fa h) :
    PySem.W.WalkO q loose XP YP l.row.toRowW d [] (fun f vs => PySem.call f vs) := by
  refine Att.attach_callB hn hdf fun w s₀ s₁ mg mb fa o pm cd doc a vs ns G Y ho hd hcd hmg hobj hints hlen hbits hg => ?_
  have KX := hY w _ Y
  obtain ⟨fd, cs, sp, hT, nT, C, hb, hsp, hF⟩ := F w s₀ mg mb fa _ KX G hmg
  exact LamX.law_callTs KX G.T.g G.T.b G.T.builtins G.T.nolimit hg hT nT C G.T.bmain hobj hints (Nat.le_trans hlen hn2) hr hF hb (fun H hH hS => hsp H a ns hlen hbits hH hS) fun H e s' z => cx_false z
theorem law_at {l : PySem.W.OpenLaw} {w : World} {K : PySem.W.Frag} {mg : Str → Option Value} {fa : Addr} {h : Heap} {n k : Nat} {C : Clls} {id : Nat} {fd : FuncData} {x : Str} (cs : List (Addr × Addr)) (nl : noLists K = true)
    (hT : ∀ p ∈ cs, PySem.W.CodeHd h p.1 p.2 ∧ h.get? p.2 = some (PySem.W.tabObj #[])) (nT : ∀ p ∈ cs, K.lookup p.2 = none) (hb : ∀ (s : Shared) (u : Value), BindsTo s fd ⟨[u], []⟩ [(x, u)])
    (hF : ∀ base : Heap, K.In base → base.Ns mainGlobals mg → (∀ p ∈ cs, LamX.TabB base mg p.1 p.2) → FnOk l.prog w K mg base (L2.CX l.prog w) k fa fd [x] (spC K mg (cs.map (·.2)) C id 1))
    (hC : ∀ ns : List Int, ns.length ≤ n → (∀ z ∈ ns, Builtin.Int.intBits z ≤ 1048576) → C id [.list (ns.map .int)] [] = .ok (.bool true) []) : LamX.LawAtS l w K (L2.CX l.prog w) k n x mg fa h :=
  ⟨fd, cs, spC K mg (cs.map (·.2)) C id 1, fun p hp => (hT p hp).2, nT, fun p hp => (hT p hp).1, hb, fun H a ns h1 h2 h3 h4 => law_sp (P := l.prog) (w := w) nl h3 h4 (hC ns h1 h2), hF⟩
end Cor

/-! Core17: blocks run by simp. -/
namespace Cor
open PySem PySem.Spec PyProof.Rows L2

@[simp] theorem flat_none : flat .none = true := id rfl
@[simp] theorem flat_bool (b : Bool) : flat (.bool b) = true := id rfl
@[simp] theorem flat_int (i : Int) : flat (.int i) = true := id rfl
@[simp] theorem flat_str (x : Str) : flat (.str x) = true := id rfl
@[simp] theorem flat_list (ds : List D) : flat (.list ds) = flatL ds := id rfl
@[simp] theorem flat_tuple (ds : List D) : flat (.tuple ds) = flatL ds := id rfl
@[simp] theorem flat_dict (kvs : List (D × D)) : flat (.dict kvs) = false := id rfl
@[simp] theorem flatL_nil : flatL [] = true := id rfl
@[simp] theorem flatL_cons (d : D) (ds : List D) : flatL (d :: ds) = (flat d && flatL ds) := id rfl
theorem flatL_iff : ∀ {ds : List D}, flatL ds = true ↔ ∀ d ∈ ds, flat d = true
  | [] => by simp
  | d :: ds => by simp [flatL_iff (ds := ds)]
theorem flatL_append : ∀ (a b : List D), flatL (a ++ b) = (flatL a && flatL b)
  | [], b => by simp
  | d :: a, b => by simp [flatL_append a b, Bool.and_assoc]
@[simp] theorem fin_self {S : Sto} {d : D} (f : flat d = true) : fin S S d = .ok d S := fin_flat (by simp) f
@[simp] theorem fin_more {S T : Sto} {d : D} (f : flat d = true) : fin S (S ++ T) d = .ok d S := fin_flat (by simp) f
/-- a list made in the frame is handed out -/
theorem fin_list {S T : Sto} {ds : List D} {n : Nat} (hn : S.length ≤ n) (h : (S ++ T)[n]? = some (.lst ds)) (f : flatL ds = true) : fin S (S ++ T) (rf n) = .ok (.list ds) S := fin_ok (by simp) (frzD_new (S := S) f _ _ (by omega) h)

/-! ### the words -/
noncomputable def endB (S : Sto) : Fl → R D
  | .nx _ S' => fin S S' .none
  | .rt d S' => fin S S' d
  | .er e _ S' => finE S S' e
  | _ => .no
@[simp] theorem endB_nx {S S' : Sto} {env : Envd} : endB S (.nx env S') = fin S S' .none := rfl
@[simp] theorem endB_rt {S S' : Sto} {d : D} : endB S (.rt d S') = fin S S' d := rfl
@[simp] theorem endB_er {S S' : Sto} {env : Envd} {e : Exn} : endB S (.er e env S') = finE S S' e := rfl
theorem callB_eq {n ar : Nat} {b : Blk} {ds : List D} {S : Sto} (h : ds.length = ar) : callB n ar b ds S = endB S (b (ds.map some ++ List.replicate (n - ar) none) S) := by
  unfold callB
  rw [if_pos h]
  cases b (ds.map some ++ List.replicate (n - ar) none) S <;> rfl
def gotE (o : Option (Option D)) (S : Sto) : R D := match o with
  | some (some d) => .ok d S
  | _ => .no
@[simp] theorem gotE_some (d : D) (S : Sto) : gotE (some (some d)) S = .ok d S := rfl
@[simp] theorem var_eq (i : Nat) (env : Envd) (S : Sto) : var i env S = gotE env[i]? S := rfl
@[simp] theorem lit_eq (d : D) (env : Envd) (S : Sto) : lit d env S = .ok d S := rfl
def thenB {α : Type} (o : Option Bool) (a b : R α) : R α := match o with
  | some true => a
  | some false => b
  | none => .no
@[simp] theorem thenB_t {α : Type} (a b : R α) : thenB (some true) a b = a := rfl
@[simp] theorem thenB_f {α : Type} (a b : R α) : thenB (some false) a b = b := rfl
theorem thenB_if {α : Type} (c : Bool) (a b : R α) : thenB (some c) a b = if c = true then a else b := by cases c <;> rfl
@[simp] theorem andE_eq (a b : Ex) (env : Envd) (S : Sto) : andE a b env S = (a env S).bind fun d S1 => thenB (tv S1 d) (b env S1) (.ok d S1) := rfl
@[simp] theorem orE_eq (a b : Ex) (env : Envd) (S : Sto) : orE a b env S = (a env S).bind fun d S1 => thenB (tv S1 d) (.ok d S1) (b env S1) := rfl
@[simp] theorem notE_eq (a : Ex) (env : Envd) (S : Sto) : notE a env S = (a env S).bind fun d S1 => lift ((tv S1 d).map fun b => PyData.bool (!b)) S1 := rfl
@[simp] theorem tru_eq (a : Ex) (env : Envd) (S : Sto) : tru a env S = (a env S).bind fun d S1 => lift (tv S1 d) S1 := rfl
@[simp] theorem andT_eq (a b : Tx) (env : Envd) (S : Sto) : andT a b env S = (a env S).bind fun c S1 => if c = true then b env S1 else .ok false S1 := rfl
@[simp] theorem orT_eq (a b : Tx) (env : Envd) (S : Sto) : orT a b env S = (a env S).bind fun c S1 => if c = true then .ok true S1 else b env S1 := rfl
@[simp] theorem notT_eq (a : Tx) (env : Envd) (S : Sto) : notT a env S = (a env S).bind fun c S1 => .ok (!c) S1 := rfl
@[simp] theorem iteE_eq (c : Tx) (a b : Ex) (env : Envd) (S : Sto) : iteE c a b env S = (c env S).bind fun k S1 => if k = true then a env S1 else b env S1 := rfl
@[simp] theorem bin_eq (f : Sto → D → D → Option D) (a b : Ex) (env : Envd) (S : Sto) : bin f a b env S = (a env S).bind fun x S1 => (b env S1).bind fun y S2 => lift (f S2 x y) S2 := rfl
@[simp] theorem un_eq (f : Sto → D → Option D) (a : Ex) (env : Envd) (S : Sto) : un f a env S = (a env S).bind fun x S1 => lift (f S1 x) S1 := rfl
@[simp] theorem cmp_eq (f : Sto → D → D → Option Bool) (a b : Ex) (env : Envd) (S : Sto) : cmp f a b env S = (a env S).bind fun x S1 => (b env S1).bind fun y S2 => lift ((f S2 x y).map PyData.bool) S2 := rfl
@[simp] theorem cmpT_eq (f : Sto → D → D → Option Bool) (a b : Ex) (env : Envd) (S : Sto) : cmpT f a b env S = (a env S).bind fun x S1 => (b env S1).bind fun y S2 => lift (f S2 x y) S2 := rfl
@[simp] theorem chn_eq (f f' : Sto → D → D → Option Bool) (a b c : Ex) (env : Envd) (S : Sto) : chn f f' a b c env S = (a env S).bind fun x S1 => (b env S1).bind fun y S2 => thenB (f S2 x y) ((c env S2).bind fun z S3 => lift ((f' S3 y z).map PyData.bool) S3) (.ok (PyData.bool false) S2) := rfl
@[simp] theorem chnT_eq (f f' : Sto → D → D → Option Bool) (a b c : Ex) (env : Envd) (S : Sto) : chnT f f' a b c env S = (a env S).bind fun x S1 => (b env S1).bind fun y S2 => thenB (f S2 x y) ((c env S2).bind fun z S3 => lift (f' S3 y z) S3) (.ok false S2) := rfl
@[simp] theorem nilX_eq (env : Envd) (S : Sto) : nilX env S = .ok [] S := rfl
@[simp] theorem consX_eq (g : Ex) (gs : Exs) (env : Envd) (S : Sto) : consX g gs env S = (g env S).bind fun d S1 => (gs env S1).bind fun ds S2 => .ok (d :: ds) S2 := rfl
@[simp] theorem tupE_eq (gs : Exs) (env : Envd) (S : Sto) : tupE gs env S = (gs env S).bind fun ds S1 => if ds.length ≤ sizeLine then .ok (.tuple ds) S1 else .no := rfl
@[simp] theorem lstF_eq (gs : Exs) (env : Envd) (S : Sto) : lstF gs env S = (gs env S).bind fun ds S1 => if ds.length ≤ sizeLine then .ok ds S1 else .no := rfl
@[simp] theorem frz_eq (g : Exs) (env : Envd) (S : Sto) : frz g env S = (g env S).bind fun ds S1 => .ok (.list ds) S1 := rfl
@[simp] theorem cel_eq (g : Exs) (env : Envd) (S : Sto) : cel g env S = (g env S).bind fun ds S1 => .ok (rf S1.length) (S1 ++ [.lst ds]) := rfl
@[simp] theorem callE_eq (C : Clls) (id : Nat) (gs : Exs) (env : Envd) (S : Sto) : callE C id gs env S = (gs env S).bind fun ds S1 => C id ds S1 := rfl
@[simp] theorem bltE_eq (f : Sto → List D → Option D) (gs : Exs) (env : Envd) (S : Sto) : bltE f gs env S = (gs env S).bind fun ds S1 => lift (f S1 ds) S1 := rfl
@[simp] theorem bltF_eq (f : Sto → List D → Option (List D)) (gs : Exs) (env : Envd) (S : Sto) : bltF f gs env S = (gs env S).bind fun ds S1 => lift (f S1 ds) S1 := rfl
@[simp] theorem isiE_eq (a : Ex) (ts : List Ty) (env : Envd) (S : Sto) : isiE a ts env S = (a env S).bind fun d S1 => lift ((kindD S1 d).map fun k => .bool (ts.any (isK k))) S1 := rfl
@[simp] theorem slA_eq (a : Ex) (lo hi : Px) (env : Envd) (S : Sto) : slA a lo hi env S = (a env S).bind fun x S1 => (lo env S1).bind fun l S2 => (hi env S2).bind fun u S3 => lift (slV S3 x l u) S3 := rfl
@[simp] theorem noP_eq (env : Envd) (S : Sto) : noP env S = .ok none S := rfl
def intP (d : D) (S : Sto) : R (Option Int) := match d with
  | .int i => .ok (some i) S
  | _ => .no
@[simp] theorem intP_int (i : Int) (S : Sto) : intP (.int i) S = .ok (some i) S := rfl
@[simp] theorem someP_eq (g : Ex) (env : Envd) (S : Sto) : someP g env S = (g env S).bind intP := rfl
@[simp] theorem newE_eq (c : Cell) (env : Envd) (S : Sto) : newE c env S = .ok (rf S.length) (S ++ [c]) := rfl
@[simp] theorem methE_eq (f : List D → List D → Option (D × List D)) (go : Ex) (gs : Exs) (env : Envd) (S : Sto) : methE f go gs env S = (go env S).bind fun x S1 => optR (lstOf S1 x) fun _ => (gs env S1).bind fun es S2 => optR (lstOf S2 x) fun p => optR (f p.2 es) fun q => .ok q.1 (S2.set p.1 (.lst q.2)) := rfl
-- statements
@[simp] theorem skipB_eq (env : Envd) (S : Sto) : skipB env S = .nx env S := rfl
@[simp] theorem brkB_eq (env : Envd) (S : Sto) : brkB env S = .bk env S := rfl
@[simp] theorem ctB_eq (env : Envd) (S : Sto) : ctB env S = .ct env S := rfl
@[simp] theorem seqB_eq (a b : Blk) (env : Envd) (S : Sto) : seqB a b env S = (a env S).seq b := rfl
@[simp] theorem expB_eq (g : Ex) (env : Envd) (S : Sto) : expB g env S = (g env S).to env fun _ S1 => .nx env S1 := rfl
@[simp] theorem retB_eq (g : Ex) (env : Envd) (S : Sto) : retB g env S = (g env S).to env fun d S1 => .rt d S1 := rfl
@[simp] theorem retN_eq (env : Envd) (S : Sto) : retN env S = .rt .none S := rfl
@[simp] theorem ifB_eq (c : Tx) (a b : Blk) (env : Envd) (S : Sto) : ifB c a b env S = (c env S).to env fun k S1 => if k = true then a env S1 else b env S1 := rfl
@[simp] theorem asgB_eq (g : Ex) (t : Tg) (env : Envd) (S : Sto) : asgB g t env S = (g env S).to env fun d S1 => tgF (t d env) S1 := rfl
@[simp] theorem tgF_none (S : Sto) : tgF none S = .no := rfl
@[simp] theorem setN_eq (i : Nat) (d : D) (env : Envd) : setN i d env = some (env.set i (some d)) := rfl
def stoF (o : Option Sto) (env : Envd) : Fl := match o with
  | some S => .nx env S
  | none => .no
@[simp] theorem stoF_some (S : Sto) (env : Envd) : stoF (some S) env = .nx env S := rfl
@[simp] theorem putB_eq (gv go gi : Ex) (env : Envd) (S : Sto) : putB gv go gi env S = (gv env S).to env fun v S1 => (go env S1).to env fun o S2 => (gi env S2).to env fun i S3 => stoF (putD S3 o i v) env := rfl
def augF (o : Option D) (i : Nat) (env : Envd) (S : Sto) : Fl := match o with
  | some z => .nx (env.set i (some z)) S
  | none => .no
@[simp] theorem augF_some (z : D) (i : Nat) (env : Envd) (S : Sto) : augF (some z) i env S = .nx (env.set i (some z)) S := rfl
theorem augB_eq {i : Nat} {f : Sto → D → D → Option D} {g : Ex} {env : Envd} {S : Sto} {d : D} (h : env[i]? = some (some d)) : augB i f g env S = (g env S).to env fun y S1 => augF (f S1 d y) i env S1 := by
  unfold augB
  rw [h]
  rfl
@[simp] theorem forB_eq (it : Ix) (t : Tg) (b : Blk) (env : Envd) (S : Sto) : forB it t b env S = (it env S).to env fun p S1 => forL t b p.2 p.1 p.1 env S1 := rfl
theorem forL_nil (t : Tg) (b : Blk) (all : List D) (env : Envd) (S : Sto) : forL t b none all [] env S = .nx env S := by
  show guardF none all S (.nx env S) = _
  rw [guardF_none]
theorem forL_cons (t : Tg) (b : Blk) (all : List D) (d : D) (ds : List D) (env : Envd) (S : Sto) : forL t b none all (d :: ds) env S = (tgF (t d env) S).seq fun env1 S1 => (b env1 S1).turn (forL t b none all ds) := by
  show guardF none all S _ = _
  rw [guardF_none]
@[simp] theorem valI_eq (g : Ex) (env : Envd) (S : Sto) : valI g env S = (g env S).bind fun d S1 => lift (itemsD S1 d) S1 := rfl
def rngR (d : D) (S : Sto) : R Items := match d with
  | .int j => if -(2 ^ 62) ≤ j ∧ j < 2 ^ 62 then .ok (rangeL 0 j, none) S else .no
  | _ => .no
theorem rngR_int {j : Int} {S : Sto} (h1 : -(2 ^ 62) ≤ j) (h2 : j < 2 ^ 62) : rngR (.int j) S = .ok (rangeL 0 j, none) S := if_pos ⟨h1, h2⟩
@[simp] theorem rng1_eq (g : Ex) (env : Envd) (S : Sto) : rng1 g env S = (g env S).bind rngR := rfl
@[simp] theorem rng2_eq (a b : Ex) (env : Envd) (S : Sto) : rng2 a b env S = (a env S).bind fun x S1 => (b env S1).bind fun y S2 => lift (rngD x y) S2 := rfl
theorem rangeL_nat (n : Nat) : rangeL 0 (n : Int) = (List.range n).map fun (i : Nat) => PyData.int (i : Int) := by
  unfold rangeL
  simp
@[simp] theorem compF_eq (gi : Ix) (t : Tg) (c : Tx) (g : Ex) (vs : List Nat) (env : Envd) (S : Sto) : compF gi t c g vs env S = (gi env S).bind fun p S1 => if p.1.length ≤ sizeLine then compL t c g p.2 p.1 (wipeE env vs) p.1 S1 else .no := rfl
@[simp] theorem aaE_eq (w : Bool) (gi : Ix) (t : Tg) (c : Tx) (g : Ex) (vs : List Nat) (env : Envd) (S : Sto) : aaE w gi t c g vs env S = (gi env S).bind fun p S1 => aaL w t c g p.2 p.1 (wipeE env vs) p.1 S1 := rfl
@[simp] theorem yesT_eq (env : Envd) (S : Sto) : yesT env S = .ok true S := rfl
@[simp] theorem wipeE_nil (env : Envd) : wipeE env [] = env := rfl
@[simp] theorem wipeE_cons (env : Envd) (i : Nat) (r : List Nat) : wipeE env (i :: r) = (wipeE env r).set i none := rfl
/-- a comprehension whose items and tests are plain -/
theorem compL_map {t : Tg} {c : Tx} {g : Ex} {all : List D} {env : Envd} {S : Sto} (h : D → D) : ∀ (ds : List D), (∀ d ∈ ds, ∃ env1, t d env = some env1 ∧ c env1 S = .ok true S ∧ g env1 S = .ok (h d) S) → compL t c g none all env ds S = .ok (ds.map h) S
  | [], _ => by show guardR none all S _ = _; rw [guardR_none]; rfl
  | d :: ds, hd => by
    obtain ⟨env1, e1, e2, e3⟩ := hd d (List.mem_cons_self ..)
    have ih := compL_map (all := all) h ds fun x m => hd x (List.mem_cons_of_mem _ m)
    show guardR none all S _ = _
    rw [guardR_none, e1, optR_some, e2, calm_ok, R.bind_ok, if_pos rfl, e3, calm_ok, R.bind_ok, ih]
    rfl
theorem compL_filter {t : Tg} {c : Tx} {g : Ex} {all : List D} {env : Envd} {S : Sto} (p : D → Bool) (h : D → D) : ∀ (ds : List D), (∀ d ∈ ds, ∃ env1, t d env = some env1 ∧ c env1 S = .ok (p d) S ∧ (p d = true → g env1 S = .ok (h d) S)) → compL t c g none all env ds S = .ok ((ds.filter p).map h) S
  | [], _ => by show guardR none all S _ = _; rw [guardR_none]; rfl
  | d :: ds, hd => by
    obtain ⟨env1, e1, e2, e3⟩ := hd d (List.mem_cons_self ..)
    have ih := compL_filter (all := all) p h ds fun x m => hd x (List.mem_cons_of_mem _ m)
    show guardR none all S _ = _
    rw [guardR_none, e1, optR_some, e2, calm_ok, R.bind_ok]
    cases ep : p d with
    | true =>
      rw [if_pos rfl, e3 ep, calm_ok, R.bind_ok, ih, List.filter_cons_of_pos ep]
      rfl
    | false => rw [if_neg (by decide), ih, List.filter_cons_of_neg (by rw [ep]; decide)]
theorem aaL_all {t : Tg} {c : Tx} {g : Ex} {all : List D} {env : Envd} {S : Sto} (p : D → Bool) : ∀ (ds : List D), (∀ d ∈ ds, ∃ env1, t d env = some env1 ∧ c env1 S = .ok true S ∧ g env1 S = .ok (.bool (p d)) S) → aaL true t c g none all env ds S = .ok (.bool (ds.all p)) S
  | [], _ => by show guardR none all S _ = _; rw [guardR_none]; rfl
  | d :: ds, hd => by
    obtain ⟨env1, e1, e2, e3⟩ := hd d (List.mem_cons_self ..)
    have ih := aaL_all (all := all) p ds fun x m => hd x (List.mem_cons_of_mem _ m)
    show guardR none all S _ = _
    rw [guardR_none, e1, optR_some, e2, calm_ok, R.bind_ok, if_pos rfl, e3, calm_ok, R.bind_ok, boolR_bool, ih]
    cases ep : p d with
    | true => rw [if_pos rfl]; simp [ep]
    | false => rw [if_neg (by decide)]; simp [ep]
theorem aaL_any {t : Tg} {c : Tx} {g : Ex} {all : List D} {env : Envd} {S : Sto} (p : D → Bool) : ∀ (ds : List D), (∀ d ∈ ds, ∃ env1, t d env = some env1 ∧ c env1 S = .ok true S ∧ g env1 S = .ok (.bool (p d)) S) → aaL false t c g none all env ds S = .ok (.bool (ds.any p)) S
  | [], _ => by show guardR none all S _ = _; rw [guardR_none]; rfl
  | d :: ds, hd => by
    obtain ⟨env1, e1, e2, e3⟩ := hd d (List.mem_cons_self ..)
    have ih := aaL_any (all := all) p ds fun x m => hd x (List.mem_cons_of_mem _ m)
    show guardR none all S _ = _
    rw [guardR_none, e1, optR_some, e2, calm_ok, R.bind_ok, if_pos rfl, e3, calm_ok, R.bind_ok, boolR_bool, ih]
    cases ep : p d with
    | false => rw [if_pos rfl]; simp [ep]
    | true => rw [if_neg (by decide)]; simp [ep]

/-! ### values -/
@[simp] theorem tv_none (S : Sto) : tv S .none = some false := rfl
@[simp] theorem tv_bool (S : Sto) (b : Bool) : tv S (.bool b) = some b := rfl
@[simp] theorem tv_int (S : Sto) (i : Int) : tv S (.int i) = some (i != 0) := rfl
@[simp] theorem tv_list (S : Sto) (ds : List D) : tv S (.list ds) = some (!ds.isEmpty) := rfl
@[simp] theorem tv_tuple (S : Sto) (ds : List D) : tv S (.tuple ds) = some (!ds.isEmpty) := rfl
theorem der_flat {S : Sto} : ∀ {d : D}, flat d = true → der S d = some d
  | .none, _ => rfl
  | .bool _, _ => rfl
  | .int _, _ => rfl
  | .str _, _ => rfl
  | .list _, _ => rfl
  | .tuple _, _ => rfl
  | .dict _, h => by cases h
@[simp] theorem der_none (S : Sto) : der S .none = some .none := rfl
@[simp] theorem der_bool (S : Sto) (b : Bool) : der S (.bool b) = some (.bool b) := rfl
@[simp] theorem der_int (S : Sto) (i : Int) : der S (.int i) = some (.int i) := rfl
@[simp] theorem der_str (S : Sto) (x : Str) : der S (.str x) = some (.str x) := rfl
@[simp] theorem der_list (S : Sto) (ds : List D) : der S (.list ds) = some (.list ds) := rfl
@[simp] theorem der_tuple (S : Sto) (ds : List D) : der S (.tuple ds) = some (.tuple ds) := rfl
def knd : D → Kd
  | .none => .non
  | .bool _ => .bl
  | .int _ => .int
  | .str _ => .str
  | .list _ => .lst
  | .tuple _ => .tup
  | .dict _ => .dct
theorem kindD_flat {S : Sto} : ∀ {d : D}, flat d = true → kindD S d = some (knd d)
  | .none, _ => rfl
  | .bool _, _ => rfl
  | .int _, _ => rfl
  | .str _, _ => rfl
  | .list _, _ => rfl
  | .tuple _, _ => rfl
  | .dict _, h => by cases h
-- ints compared
theorem alike_int (i j : Int) : PySem.W.alike (.int i) (.int j) = true := rfl
theorem lt_int (i j : Int) : PySem.W.dataLt (.int i) (.int j) = decide (i < j) := PySem.W.dataLt_int i j
@[simp] theorem okD_int (i : Int) : okD (.int i) = true := rfl
@[simp] theorem ltB_int (S : Sto) (i j : Int) : ltB S (.int i) (.int j) = some (decide (i < j)) := by
  show (if (okD (.int i) && okD (.int j) && PySem.W.alike (.int i) (.int j) && true) = true then some (PySem.W.dataLt (.int i) (.int j)) else none) = _
  rw [lt_int]
  exact if_pos rfl
@[simp] theorem gtB_int (S : Sto) (i j : Int) : gtB S (.int i) (.int j) = some (decide (j < i)) := by
  show (if (okD (.int i) && okD (.int j) && PySem.W.alike (.int i) (.int j) && true) = true then some (PySem.W.dataLt (.int j) (.int i)) else none) = _
  rw [lt_int]
  exact if_pos rfl
@[simp] theorem leB_int (S : Sto) (i j : Int) : leB S (.int i) (.int j) = some (decide (i ≤ j)) := by
  unfold leB
  rw [gtB_int]
  show some (!decide (j < i)) = _
  congr 1
  by_cases h : i ≤ j
  · rw [decide_eq_true h, decide_eq_false (by omega)]; rfl
  · rw [decide_eq_false h, decide_eq_true (by omega)]; rfl
@[simp] theorem geB_int (S : Sto) (i j : Int) : geB S (.int i) (.int j) = some (decide (j ≤ i)) := by
  unfold geB
  rw [ltB_int]
  show some (!decide (i < j)) = _
  congr 1
  by_cases h : j ≤ i
  · rw [decide_eq_true h, decide_eq_false (by omega)]; rfl
  · rw [decide_eq_false h, decide_eq_true (by omega)]; rfl
theorem eqv_int (i j : Int) : PyData.eqv (.int i) (.int j) = decide (i = j) := by first | rfl | simp [PyData.eqv] | (unfold PyData.eqv; rfl)
@[simp] theorem eqB_int (S : Sto) (i j : Int) : eqB S (.int i) (.int j) = some (decide (i = j)) := by
  show (if (okD (.int i) && okD (.int j)) = true then some (PyData.eqv (.int i) (.int j)) else none) = _
  rw [eqv_int]
  exact if_pos rfl
@[simp] theorem neB_int (S : Sto) (i j : Int) : neB S (.int i) (.int j) = some (!decide (i = j)) := by unfold neB; rw [eqB_int]; rfl
@[simp] theorem addD_int (S : Sto) (i j : Int) : addD S (.int i) (.int j) = some (.int (i + j)) := rfl
@[simp] theorem addI_int (S : Sto) (i j : Int) : addI S (.int i) (.int j) = some (.int (i + j)) := rfl
@[simp] theorem subD_int (S : Sto) (i j : Int) : subD S (.int i) (.int j) = some (.int (i - j)) := rfl
@[simp] theorem negD_int (S : Sto) (i : Int) : negD S (.int i) = some (.int (-i)) := rfl
theorem modD_int {S : Sto} {i j : Int} (h : 0 < j) : modD S (.int i) (.int j) = some (.int (i % j)) := if_pos h
theorem fdivD_int {S : Sto} {i j : Int} (h : 0 < j) (h2 : j < 1073741824) : fdivD S (.int i) (.int j) = some (.int (i / j)) := if_pos ⟨h, h2⟩
theorem mulD_int {S : Sto} {i j : Int} (h : MulFits i j) : mulD S (.int i) (.int j) = some (.int (i * j)) := if_pos h

/-! ### places -/
theorem atI_nat' (ds : List D) (k : Nat) : L2.atI ds (k : Int) = ds[k]? := by
  cases h : ds[k]? with
  | some d => exact L2.atI_nat h
  | none =>
    have hk : ds.length ≤ k := List.getElem?_eq_none_iff.mp h
    unfold L2.atI L2.ixN
    simp
    omega
@[simp] theorem idxD_list (S : Sto) (ds : List D) (i : Int) : idxD S (.list ds) (.int i) = L2.atI ds i := rfl
@[simp] theorem idxD_tuple (S : Sto) (ds : List D) (i : Int) : idxD S (.tuple ds) (.int i) = L2.atI ds i := rfl
@[simp] theorem atI_0 (ds : List D) : L2.atI ds 0 = ds[0]? := atI_nat' ds 0
@[simp] theorem atI_1 (ds : List D) : L2.atI ds 1 = ds[1]? := atI_nat' ds 1
@[simp] theorem atI_2 (ds : List D) : L2.atI ds 2 = ds[2]? := atI_nat' ds 2
@[simp] theorem itemsD_list (S : Sto) (ds : List D) : itemsD S (.list ds) = some (ds, none) := rfl
@[simp] theorem itemsD_tuple (S : Sto) (ds : List D) : itemsD S (.tuple ds) = some (ds, none) := rfl
@[simp] theorem seqD_list (S : Sto) (ds : List D) : seqD S (.list ds) = some (true, ds) := rfl
@[simp] theorem seqD_tuple (S : Sto) (ds : List D) : seqD S (.tuple ds) = some (false, ds) := rfl
@[simp] theorem tupleD_1 (S : Sto) (d : D) : tupleD S [d] = (seqD S d).map fun p => .tuple p.2 := rfl
@[simp] theorem lenD_list (S : Sto) (ds : List D) : lenD S [.list ds] = some (.int ds.length) := rfl
@[simp] theorem lenD_tuple (S : Sto) (ds : List D) : lenD S [.tuple ds] = some (.int ds.length) := rfl
@[simp] theorem intD_int (S : Sto) (i : Int) : intD S [.int i] = some (.int i) := rfl
/-- a tuple's or a list's items -/
def items : D → Option (List D)
  | .list ds => some ds
  | .tuple ds => some ds
  | _ => none
mutual
/-- plain, and not long -/
def good : D → Bool
  | .list ds => decide (ds.length ≤ 1000) && goodL ds
  | .tuple ds => decide (ds.length ≤ 1000) && goodL ds
  | .dict _ => false
  | _ => true
def goodL : List D → Bool
  | [] => true
  | d :: ds => good d && goodL ds
end
mutual
def dep : D → Nat
  | .list ds => depL ds + 1
  | .tuple ds => depL ds + 1
  | _ => 0
def depL : List D → Nat
  | [] => 0
  | d :: ds => max (dep d) (depL ds)
end
@[simp] theorem good_none : good .none = true := id rfl
@[simp] theorem good_bool (b : Bool) : good (.bool b) = true := id rfl
@[simp] theorem good_int (i : Int) : good (.int i) = true := id rfl
@[simp] theorem good_str (x : Str) : good (.str x) = true := id rfl
@[simp] theorem good_list (ds : List D) : good (.list ds) = (decide (ds.length ≤ 1000) && goodL ds) := id rfl
@[simp] theorem good_tuple (ds : List D) : good (.tuple ds) = (decide (ds.length ≤ 1000) && goodL ds) := id rfl
@[simp] theorem good_dict (kvs : List (D × D)) : good (.dict kvs) = false := id rfl
@[simp] theorem goodL_nil : goodL [] = true := id rfl
@[simp] theorem goodL_cons (d : D) (ds : List D) : goodL (d :: ds) = (good d && goodL ds) := id rfl
theorem goodL_mem : ∀ {ds : List D}, goodL ds = true → ∀ d ∈ ds, good d = true
  | d :: ds, h, x, m => by
    simp at h
    rcases List.mem_cons.mp m with e | m
    · rw [e]; exact h.1
    · exact goodL_mem h.2 x m
theorem goodL_of : ∀ {ds : List D}, (∀ d ∈ ds, good d = true) → goodL ds = true
  | [], _ => by simp
  | d :: ds, h => by simp [h d (List.mem_cons_self ..), goodL_of fun x m => h x (List.mem_cons_of_mem _ m)]
mutual
theorem good_flat : ∀ d : D, good d = true → flat d = true
  | .none, _ => by simp
  | .bool _, _ => by simp
  | .int _, _ => by simp
  | .str _, _ => by simp
  | .list ds, h => by simp at h; simp; exact goodL_flat ds h.2
  | .tuple ds, h => by simp at h; simp; exact goodL_flat ds h.2
  | .dict _, h => by simp at h
theorem goodL_flat : ∀ ds : List D, goodL ds = true → flatL ds = true
  | [], _ => by simp
  | d :: ds, h => by simp at h; simp; exact ⟨good_flat d h.1, goodL_flat ds h.2⟩
end
theorem depL_mem : ∀ {ds : List D} {n : Nat}, depL ds ≤ n → ∀ d ∈ ds, dep d ≤ n
  | d :: ds, n, h, x, m => by
    have h : max (dep d) (depL ds) ≤ n := h
    rcases List.mem_cons.mp m with e | m
    · rw [e]; omega
    · exact depL_mem (by omega) x m
theorem len_size {n : Nat} (h : n ≤ 1000) : n ≤ sizeLine := Nat.le_trans h (by rw [sizeLine_eq]; decide)
/-- the loop's name behind it -/
def lastSet (i : Nat) (env : Envd) (ds : List D) : Envd := match ds.getLast? with
  | some d => env.set i (some d)
  | none => env
theorem lastSet_wipe (i : Nat) (env : Envd) (ds : List D) : (lastSet i env ds).set i none = env.set i none := by
  unfold lastSet
  cases ds.getLast? with
  | none => rfl
  | some d => rw [List.set_set]
theorem lastSet_ne {i j : Nat} (env : Envd) (ds : List D) (h : i ≠ j) : (lastSet i env ds)[j]? = env[j]? := by
  unfold lastSet
  cases ds.getLast? with
  | none => rfl
  | some d => rw [List.getElem?_set_ne h]
/-- a loop that only looks: on while p holds, else out with v -/
theorem forL_check {i : Nat} {b : Blk} {all : List D} {S : Sto} {v : D} (p : D → Bool) : ∀ (ds : List D) (env : Envd), (∀ d ∈ ds, ∀ r : Option D, b ((env.set i r).set i (some d)) S = if p d = true then .nx (env.set i (some d)) S else .rt v S) →
    forL (setN i) b none all ds env S = if ds.all p = true then .nx (lastSet i env ds) S else .rt v S
  | [], env, _ => by rw [forL_nil]; rfl
  | d :: ds, env, h => by
    rw [forL_cons, setN_eq, tgF_some, Fl.seq_nx]
    have h1 := h d (List.mem_cons_self ..) none
    rw [List.set_set] at h1
    rw [h1]
    cases ep : p d with
    | false => rw [if_neg (by decide), turn_rt, List.all_cons, ep, Bool.false_and, if_neg (by decide)]
    | true =>
      rw [if_pos rfl, turn_nx, List.all_cons, ep, Bool.true_and]
      have ih := forL_check (i := i) (b := b) (S := S) (v := v) (all := all) p ds (env.set i (some d)) fun x m r => by
        have := h x (List.mem_cons_of_mem _ m) r
        simp only [List.set_set] at this ⊢
        exact this
      rw [ih]
      unfold lastSet
      cases hl : ds.getLast? with
      | none =>
        have : ds = [] := List.getLast?_eq_none_iff.mp hl
        subst this
        rfl
      | some z =>
        have : (d :: ds).getLast? = some z := by rw [List.getLast?_cons, hl]; rfl
        rw [this]
        simp only [List.set_set]

/-! ### a cell made in the frame -/
@[simp] theorem lstOf_last (S : Sto) (ds : List D) : lstOf (S ++ [.lst ds]) (rf S.length) = some (S.length, ds) := lstOf_rf (by simp)
@[simp] theorem set_last {α : Type} (S : List α) (c c' : α) : (S ++ [c]).set S.length c' = S ++ [c'] := by simp
theorem appD_ok {ds : List D} {e : D} (h : ds.length ≤ 1000) : appD ds [e] = some (.none, ds ++ [e]) := by
  unfold appD
  have : ds.length < sizeLine := by rw [sizeLine_eq]; omega
  simp [this]
theorem fin_last {S : Sto} {ds : List D} (f : flatL ds = true) : fin S (S ++ [.lst ds]) (rf S.length) = .ok (.list ds) S := fin_list (Nat.le_refl _) (by simp) f
/-- a loop by an invariant -/
theorem forL_inv {t : Tg} {b : Blk} {all : List D} (I : Nat → Envd → Sto → Prop) : ∀ (ds : List D) (i : Nat) (env : Envd) (S : Sto), I i env S →
    (∀ (j : Nat) (d : D) (env : Envd) (S : Sto), ds[j]? = some d → I (i + j) env S → ∃ env1 env2 S2, t d env = some env1 ∧ (b env1 S = .nx env2 S2 ∨ b env1 S = .ct env2 S2) ∧ I (i + j + 1) env2 S2) →
    ∃ env' S', forL t b none all ds env S = .nx env' S' ∧ I (i + ds.length) env' S'
  | [], i, env, S, h, _ => ⟨env, S, forL_nil .., h⟩
  | d :: ds, i, env, S, h, hs => by
    obtain ⟨env1, env2, S2, e1, e2, h2⟩ := hs 0 d env S rfl h
    have ih := forL_inv (t := t) (b := b) (all := all) I ds (i + 1) env2 S2 h2 fun j x env S e hj => by
      have := hs (j + 1) x env S (by simpa using e) (by rw [show i + (j + 1) = i + 1 + j by omega]; exact hj)
      rw [show i + (j + 1) = i + 1 + j by omega] at this
      exact this
    obtain ⟨env', S', e3, h3⟩ := ih
    refine ⟨env', S', ?_, by rw [List.length_cons, show i + (ds.length + 1) = i + 1 + ds.length by omega]; exact h3⟩
    rw [forL_cons, e1, tgF_some, Fl.seq_nx]
    rcases e2 with e2 | e2
    · rw [e2, turn_nx, e3]
    · rw [e2, turn_ct, e3]
theorem eqv_bool (a b : Bool) : PyData.eqv (.bool a) (.bool b) = decide (a = b) := by cases a <;> cases b <;> rfl
@[simp] theorem eqB_bool (S : Sto) (a b : Bool) : eqB S (.bool a) (.bool b) = some (decide (a = b)) := by
  show (if (okD (.bool a) && okD (.bool b)) = true then some (PyData.eqv (.bool a) (.bool b)) else none) = _
  rw [eqv_bool]
  exact if_pos (by cases a <;> cases b <;> rfl)
@[simp] theorem neB_bool (S : Sto) (a b : Bool) : neB S (.bool a) (.bool b) = some (!decide (a = b)) := by unfold neB; rw [eqB_bool]; rfl
@[simp] theorem isB_none (S : Sto) (x : D) : isB S x .none = some (isNon x) := rfl
@[simp] theorem isB_bool (S : Sto) (a b : Bool) : isB S (.bool a) (.bool b) = some (decide (a = b)) := rfl
@[simp] theorem isnB_bool (S : Sto) (a b : Bool) : isnB S (.bool a) (.bool b) = some (!decide (a = b)) := rfl
theorem powD_ok {S : Sto} {i j : Int} (h0 : 0 ≤ j) (h1 : j ≤ 1000000) (h2 : i.natAbs < 2 ^ 64) : powD S (.int i) (.int j) = some (.int (i ^ j.toNat)) := if_pos ⟨h0, h1, h2⟩
theorem fits_of {i j : Int} {a b : Nat} (hi : i.natAbs < 2 ^ a) (hj : j.natAbs < 2 ^ b) (h : a + b < 100000000) : MulFits i j := by
  have lo : ∀ {x k : Nat}, x < 2 ^ k → x.log2 ≤ k := fun {x k} hx => by
    by_cases z : x = 0
    · subst z; simp
    · exact Nat.le_of_lt ((Nat.log2_lt z).mpr hx)
  have := lo hi
  have := lo hj
  unfold MulFits
  omega

/-! ### step by step -/
theorem endB_seq {a b : Blk} {env env1 : Envd} {S0 S S1 : Sto} (h : a env S = .nx env1 S1) : endB S0 (seqB a b env S) = endB S0 (b env1 S1) := by
  rw [seqB_eq, h, Fl.seq_nx]
theorem seq_nx {a b : Blk} {env env1 : Envd} {S S1 : Sto} (h : a env S = .nx env1 S1) : seqB a b env S = b env1 S1 := by
  rw [seqB_eq, h, Fl.seq_nx]
theorem forB_nx {it : Ix} {t : Tg} {b : Blk} {env env2 : Envd} {S S1 S2 : Sto} {ds : List D} (hi : it env S = .ok (ds, none) S1) (h : forL t b none ds ds env S1 = .nx env2 S2) : forB it t b env S = .nx env2 S2 := by
  rw [forB_eq, hi, R.to_ok]
  exact h
theorem forB_fl {it : Ix} {t : Tg} {b : Blk} {env : Envd} {S S1 : Sto} {ds : List D} {r : Fl} (hi : it env S = .ok (ds, none) S1) (h : forL t b none ds ds env S1 = r) : forB it t b env S = r := by
  rw [forB_eq, hi, R.to_ok]
  exact h
theorem rng_nat {g : Ex} {env : Envd} {S : Sto} {m : Nat} (hm : m ≤ 1000000) (h : g env S = .ok (.int (m : Int)) S) : rng1 g env S = .ok ((List.range m).map fun (i : Nat) => PyData.int (i : Int), none) S := by
  rw [rng1_eq, h, R.bind_ok, rngR_int (by omega) (by omega), rangeL_nat]
end Cor

namespace K01
open PySem PySem.Spec PyProof.Rows L2 Cor
def tab : List (Str × Nat) := [("is_int", 1), ("is_between", 3), ("is_sequence", 1), ("is_row", 2), ("frozen", 1), ("is_ascending", 1), ("is_number_set", 3), ("need", 2), ("is_size", 1), ("is_vouchings", 2), ("is_web", 1), ("need_web", 2), ("web_of", 1), ("accounts", 1), ("_law_power", 2), ("_law_cell", 2), ("_law_numbers", 3), ("_law_same", 2), ("_law_listed", 1), ("_law_size", 1), ("_law_web", 1), ("_law_wrong", 2), ("law", 1)]
abbrev n_is_int : List Str := ["value"]
noncomputable def b_is_int (C : Clls) : Blk :=
    (retB (andE (isiE (var 0) [.int]) (notE (isiE (var 0) [.bool]))))
abbrev n_is_between : List Str := ["value", "low", "high"]
noncomputable def b_is_between (C : Clls) : Blk :=
    (retB (andE (callE C 0 (consX (var 0) nilX)) (chn leB leB (var 1) (var 0) (var 2))))
abbrev n_is_sequence : List Str := ["value"]
noncomputable def b_is_sequence (C : Clls) : Blk :=
    (retB (isiE (var 0) [.tuple, .list]))
abbrev n_is_row : List Str := ["value", "many"]
noncomputable def b_is_row (C : Clls) : Blk :=
    (retB (andE (callE C 2 (consX (var 0) nilX)) (cmp eqB (bltE lenD (consX (var 0) nilX)) (var 1))))
abbrev n_frozen : List Str := ["value", "part"]
noncomputable def b_frozen (C : Clls) : Blk :=
    (seqB (ifB (tru (callE C 2 (consX (var 0) nilX))) (retB (bltE tupleD (consX (frz (compF (valI (var 0)) (setN 1) yesT (callE C 4 (consX (var 1) nilX)) [1])) nilX))) skipB)
    (retB (var 0)))
abbrev n_is_ascending : List Str := ["values", "i"]
noncomputable def b_is_ascending (C : Clls) : Blk :=
    (retB (aaE true (rng1 (bin subD (bltE lenD (consX (var 0) nilX)) (lit (.int 1)))) (setN 1) yesT (cmp ltB (bin idxD (var 0) (var 1)) (bin idxD (var 0) (bin addD (var 1) (lit (.int 1))))) [1]))
abbrev n_is_number_set : List Str := ["value", "low", "high", "part"]
noncomputable def b_is_number_set (C : Clls) : Blk :=
    (seqB (ifB (orT (notT (tru (callE C 2 (consX (var 0) nilX)))) (notT (tru (aaE true (valI (var 0)) (setN 3) yesT (callE C 1 (consX (var 3) (consX (var 1) (consX (var 2) nilX)))) [3])))) (retB (lit (.bool false))) skipB)
    (retB (callE C 5 (consX (var 0) nilX))))
abbrev n_need : List Str := ["test", "at"]
noncomputable def b_need (C : Clls) : Blk :=
    (ifB (notT (tru (var 0))) noB skipB)
abbrev n_is_size : List Str := ["value"]
noncomputable def b_is_size (C : Clls) : Blk :=
    (retB (callE C 1 (consX (var 0) (consX (lit (.int 1)) (consX (lit (.int (1000))) nilX)))))
abbrev n_is_vouchings : List Str := ["value", "many", "row"]
noncomputable def b_is_vouchings (C : Clls) : Blk :=
    (seqB (ifB (orT (notT (tru (callE C 2 (consX (var 0) nilX)))) (cmpT gtB (bltE lenD (consX (var 0) nilX)) (lit (.int (60))))) (retB (lit (.bool false))) skipB)
    (seqB (forB (valI (var 0)) (setN 2) (seqB (ifB (orT (notT (tru (callE C 3 (consX (var 2) (consX (lit (.int 3)) nilX))))) (orT (notT (tru (callE C 1 (consX (bin idxD (var 2) (lit (.int 0))) (consX (lit (.int 0)) (consX (bin subD (var 1) (lit (.int 1))) nilX)))))) (notT (tru (callE C 1 (consX (bin idxD (var 2) (lit (.int 1))) (consX (lit (.int 0)) (consX (bin subD (var 1) (lit (.int 1))) nilX)))))))) (retB (lit (.bool false))) skipB)
    (ifB (orT (cmpT eqB (bin idxD (var 2) (lit (.int 0))) (bin idxD (var 2) (lit (.int 1)))) (notT (tru (callE C 8 (consX (bin idxD (var 2) (lit (.int 2))) nilX))))) (retB (lit (.bool false))) skipB)))
    (retB (callE C 5 (consX (frz (compF (valI (var 0)) (setN 2) yesT (tupE (consX (bin idxD (var 2) (lit (.int 0))) (consX (bin idxD (var 2) (lit (.int 1))) nilX))) [2])) nilX)))))
abbrev n_is_web : List Str := ["value", "many", "capacities", "founders", "vouchings", "capacity"]
noncomputable def b_is_web (C : Clls) : Blk :=
    (seqB (ifB (notT (tru (callE C 3 (consX (var 0) (consX (lit (.int 3)) nilX))))) (retB (lit (.bool false))) skipB)
    (seqB (asgB (var 0) (unpG 3 (consG (setN 2) (consG (setN 3) (consG (setN 4) nilG)))))
    (seqB (ifB (orT (notT (tru (callE C 2 (consX (var 2) nilX)))) (notT (chnT leB leB (lit (.int 1)) (bltE lenD (consX (var 2) nilX)) (lit (.int (14)))))) (retB (lit (.bool false))) skipB)
    (seqB (ifB (notT (tru (aaE true (valI (var 2)) (setN 5) yesT (callE C 8 (consX (var 5) nilX)) [5]))) (retB (lit (.bool false))) skipB)
    (seqB (asgB (bltE lenD (consX (var 2) nilX)) (setN 1))
    (seqB (ifB (orT (notT (tru (callE C 6 (consX (var 3) (consX (lit (.int 0)) (consX (bin subD (var 1) (lit (.int 1))) nilX)))))) (notT (chnT leB leB (lit (.int 1)) (bltE lenD (consX (var 3) nilX)) (lit (.int (3)))))) (retB (lit (.bool false))) skipB)
    (retB (callE C 9 (consX (var 4) (consX (var 1) nilX))))))))))
abbrev n_need_web : List Str := ["value", "at"]
noncomputable def b_need_web (C : Clls) : Blk :=
    (seqB (expB (callE C 7 (consX (callE C 10 (consX (var 0) nilX)) (consX (var 1) nilX))))
    (retB (callE C 4 (consX (var 0) nilX))))
abbrev n_web_of : List Str := ["web"]
noncomputable def b_web_of (C : Clls) : Blk :=
    (retB (callE C 11 (consX (var 0) (consX (lit (.int 1)) nilX))))
abbrev n_accounts : List Str := ["web"]
noncomputable def b_accounts (C : Clls) : Blk :=
    (retB (bltE lenD (consX (bin idxD (callE C 11 (consX (var 0) (consX (lit (.int 1)) nilX))) (lit (.int 0))) nilX)))
abbrev n__law_power : List Str := ["base", "many", "result", "k"]
noncomputable def b__law_power (C : Clls) : Blk :=
    (seqB (asgB (lit (.int 1)) (setN 2))
    (seqB (forB (rng1 (var 1)) (setN 3) (asgB (bin mulD (var 2) (var 0)) (setN 2)))
    (retB (var 2))))
abbrev n__law_cell : List Str := ["script", "place"]
noncomputable def b__law_cell (C : Clls) : Blk :=
    (seqB (ifB (cmpT ltB (var 1) (bltE lenD (consX (var 0) nilX))) (retB (bltE intD (consX (bin idxD (var 0) (var 1)) nilX))) skipB)
    (retB (lit (.int 0))))
abbrev n__law_numbers : List Str := ["script", "place", "many", "cell", "numbers", "rest", "k", "twice"]
noncomputable def b__law_numbers (C : Clls) : Blk :=
    (seqB (asgB (callE C 15 (consX (var 0) (consX (var 1) nilX))) (setN 3))
    (seqB (asgB (cel (lstF nilX)) (setN 4))
    (seqB (asgB (var 3) (setN 5))
    (seqB (forB (rng1 (var 2)) (setN 6) (ifB (cmpT geB (var 3) (bin powD (lit (.int 10)) (lit (.int 18)))) (seqB (expB (methE appD (var 4) (consX (bin modD (bltE intD (consX (var 5) nilX)) (bin powD (lit (.int 10)) (lit (.int 9)))) nilX)))
    (asgB (bin fdivD (var 5) (bin powD (lit (.int 10)) (lit (.int 9)))) (setN 5))) (seqB (asgB (bin modD (bltE intD (consX (bin addD (bin addD (bin mulD (var 3) (lit (.int 48271))) (bin mulD (bin addD (var 6) (lit (.int 1))) (lit (.int 69621)))) (var 1)) nilX)) (lit (.int 2147483647))) (setN 7))
    (expB (methE appD (var 4) (consX (bin modD (bin modD (bltE intD (consX (bin addD (bin mulD (var 7) (lit (.int 16807))) (bin mulD (bin addD (var 6) (lit (.int 3))) (lit (.int 40692)))) nilX)) (lit (.int 2147483399))) (bin powD (lit (.int 10)) (lit (.int 9)))) nilX))))))
    (retB (var 4))))))
abbrev n__law_same : List Str := ["one", "other", "k"]
noncomputable def b__law_same (C : Clls) : Blk :=
    (seqB (ifB (orT (tru (isiE (var 1) [.tuple])) (tru (isiE (var 0) [.tuple]))) (seqB (ifB (orT (notT (tru (isiE (var 0) [.tuple]))) (orT (notT (tru (isiE (var 1) [.tuple]))) (cmpT neB (bltE lenD (consX (var 0) nilX)) (bltE lenD (consX (var 1) nilX))))) (retB (lit (.bool false))) skipB)
    (seqB (forB (rng1 (bltE lenD (consX (var 1) nilX))) (setN 2) (ifB (notT (tru (callE C 17 (consX (bin idxD (var 0) (var 2)) (consX (bin idxD (var 1) (var 2)) nilX))))) (retB (lit (.bool false))) skipB))
    (retB (lit (.bool true))))) skipB)
    (seqB (ifB (orT (cmpT isB (var 0) (lit .none)) (cmpT isB (var 1) (lit .none))) (retB (andE (cmp isB (var 0) (lit .none)) (cmp isB (var 1) (lit .none)))) skipB)
    (seqB (ifB (orT (cmpT neB (isiE (var 0) [.bool]) (isiE (var 1) [.bool])) (cmpT neB (isiE (var 0) [.str]) (isiE (var 1) [.str]))) (retB (lit (.bool false))) skipB)
    (retB (andE (isiE (var 0) [.int, .str]) (andE (isiE (var 1) [.int, .str]) (cmp eqB (var 0) (var 1))))))))
abbrev n__law_listed : List Str := ["value", "part"]
noncomputable def b__law_listed (C : Clls) : Blk :=
    (seqB (ifB (tru (isiE (var 0) [.tuple])) (retB (frz (compF (valI (var 0)) (setN 1) yesT (callE C 18 (consX (var 1) nilX)) [1]))) skipB)
    (retB (var 0)))
abbrev n__law_size : List Str := ["number"]
noncomputable def b__law_size (C : Clls) : Blk :=
    (seqB (ifB (cmpT eqB (bin modD (bltE intD (consX (var 0) nilX)) (lit (.int 4))) (lit (.int 0))) (retB (bin addD (lit (.int 1)) (bin modD (bltE intD (consX (bin fdivD (var 0) (lit (.int 4))) nilX)) (lit (.int 1000))))) skipB)
    (retB (bin addD (lit (.int 1)) (bin modD (bltE intD (consX (bin fdivD (var 0) (lit (.int 4))) nilX)) (lit (.int 9))))))
abbrev n__law_web : List Str := ["numbers", "many", "capacities", "flags", "founders", "widths", "vouchings", "k", "number", "who", "whom", "pair"]
noncomputable def b__law_web (C : Clls) : Blk :=
    (seqB (asgB (bin addD (lit (.int 1)) (bin modD (bltE intD (consX (bin idxD (var 0) (lit (.int 0))) nilX)) (lit (.int 6)))) (setN 1))
    (seqB (asgB (bltE tupleD (consX (frz (compF (rng1 (var 1)) (setN 7) yesT (callE C 19 (consX (bin idxD (var 0) (bin addD (lit (.int 1)) (var 7))) nilX)) [7])) nilX)) (setN 2))
    (seqB (asgB (frz (compF (rng1 (var 1)) (setN 7) (cmpT eqB (bin modD (bltE intD (consX (bin fdivD (bin idxD (var 0) (lit (.int 0))) (bin mulD (lit (.int 6)) (callE C 14 (consX (lit (.int 2)) (consX (var 7) nilX))))) nilX)) (lit (.int 2))) (lit (.int 1))) (var 7) [7])) (setN 3))
    (seqB (asgB (bltE tupleD (consX (slA (var 3) noP (someP (lit (.int 3)))) nilX)) (setN 4))
    (seqB (ifB (cmpT eqB (var 4) (tupE nilX)) (asgB (tupE (consX (bin modD (bltE intD (consX (bin fdivD (bin idxD (var 0) (lit (.int 0))) (lit (.int 400))) nilX)) (var 1)) nilX)) (setN 4)) skipB)
    (seqB (asgB (newE (.dT [])) (setN 5))
    (seqB (ifB (cmpT gtB (var 1) (lit (.int 1))) (forB (rng1 (bin modD (bltE intD (consX (bin idxD (var 0) (lit (.int 7))) nilX)) (lit (.int 12)))) (setN 7) (seqB (asgB (bin idxD (var 0) (bin addD (lit (.int 8)) (var 7))) (setN 8))
    (seqB (asgB (bin modD (bltE intD (consX (var 8) nilX)) (var 1)) (setN 9))
    (seqB (asgB (bin modD (bin addD (bin addD (var 9) (lit (.int 1))) (bin modD (bltE intD (consX (bin fdivD (var 8) (lit (.int 6))) nilX)) (bin subD (var 1) (lit (.int 1))))) (var 1)) (setN 10))
    (putB (callE C 19 (consX (bin fdivD (var 8) (lit (.int 36))) nilX)) (var 5) (tupE (consX (var 9) (consX (var 10) nilX)))))))) skipB)
    (seqB (asgB (frz (compF (valI (frz (skeysF (var 5)))) (setN 11) yesT (tupE (consX (bin idxD (var 11) (lit (.int 0))) (consX (bin idxD (var 11) (lit (.int 1))) (consX (bin idxD (var 5) (var 11)) nilX)))) [11])) (setN 6))
    (retB (tupE (consX (var 2) (consX (var 4) (consX (bltE tupleD (consX (var 6) nilX)) nilX)))))))))))))
abbrev n__law_wrong : List Str := ["web", "number", "wrong", "capacities", "founders", "vouchings", "place", "bad", "who", "whom", "width", "k"]
noncomputable def b__law_wrong (C : Clls) : Blk :=
    (seqB (asgB (var 0) (unpG 3 (consG (setN 3) (consG (setN 4) (consG (setN 5) nilG)))))
    (seqB (asgB (cel (lstF (consX (tupE (consX (var 3) (consX (var 4) nilX))) (consX (tupE (consX (var 3) (consX (var 4) (consX (var 5) (consX (tupE nilX) nilX))))) (consX (lit .none) (consX (lit (.int 7)) (consX (lit (.str "web")) (consX (tupE (consX (tupE nilX) (consX (var 4) (consX (var 5) nilX)))) nilX)))))))) (setN 2))
    (seqB (expB (methE appD (var 2) (consX (tupE (consX (bin addD (tupE (consX (lit (.int 0)) nilX)) (slA (var 3) (someP (lit (.int 1))) noP)) (consX (var 4) (consX (var 5) nilX)))) nilX)))
    (seqB (expB (methE appD (var 2) (consX (tupE (consX (bin addD (tupE (consX (lit (.int 1001)) nilX)) (slA (var 3) (someP (lit (.int 1))) noP)) (consX (var 4) (consX (var 5) nilX)))) nilX)))
    (seqB (expB (methE appD (var 2) (consX (tupE (consX (bin addD (tupE (consX (lit (.bool true)) nilX)) (slA (var 3) (someP (lit (.int 1))) noP)) (consX (var 4) (consX (var 5) nilX)))) nilX)))
    (seqB (expB (methE appD (var 2) (consX (tupE (consX (bin addD (var 3) (bin mulD (tupE (consX (lit (.int 5)) nilX)) (bin subD (lit (.int 15)) (bltE lenD (consX (var 3) nilX))))) (consX (var 4) (consX (var 5) nilX)))) nilX)))
    (seqB (expB (methE appD (var 2) (consX (tupE (consX (var 3) (consX (tupE nilX) (consX (var 5) nilX)))) nilX)))
    (seqB (expB (methE appD (var 2) (consX (tupE (consX (var 3) (consX (tupE (consX (bin idxD (var 4) (lit (.int 0))) (consX (bin idxD (var 4) (lit (.int 0))) nilX))) (consX (var 5) nilX)))) nilX)))
    (seqB (expB (methE appD (var 2) (consX (tupE (consX (var 3) (consX (tupE (consX (bltE lenD (consX (var 3) nilX)) nilX)) (consX (var 5) nilX)))) nilX)))
    (seqB (expB (methE appD (var 2) (consX (tupE (consX (var 3) (consX (bin addD (tupE (consX (un negD (lit (.int 1))) nilX)) (slA (var 4) noP (someP (lit (.int 1))))) (consX (var 5) nilX)))) nilX)))
    (seqB (expB (methE appD (var 2) (consX (tupE (consX (var 3) (consX (tupE (consX (lit (.bool true)) nilX)) (consX (tupE nilX) nilX)))) nilX)))
    (seqB (expB (methE appD (var 2) (consX (tupE (consX (bin mulD (tupE (consX (lit (.int 5)) nilX)) (lit (.int 4))) (consX (tupE (consX (lit (.int 0)) (consX (lit (.int 1)) (consX (lit (.int 2)) (consX (lit (.int 3)) nilX))))) (consX (tupE nilX) nilX)))) nilX)))
    (seqB (expB (methE appD (var 2) (consX (tupE (consX (bin mulD (tupE (consX (lit (.int 5)) nilX)) (lit (.int 4))) (consX (tupE (consX (lit (.int 1)) (consX (lit (.int 0)) nilX))) (consX (tupE nilX) nilX)))) nilX)))
    (seqB (expB (methE appD (var 2) (consX (tupE (consX (bin mulD (tupE (consX (lit (.int 5)) nilX)) (lit (.int 14))) (consX (tupE (consX (lit (.int 0)) nilX)) (consX (bltE tupleD (consX (frz (bltF sortedD (consX (frz (compF (rng1 (lit (.int 61))) (setN 11) yesT (tupE (consX (bltE intD (consX (bin fdivD (var 11) (lit (.int 13))) nilX)) (consX (bin modD (bin addD (bin addD (bltE intD (consX (bin fdivD (var 11) (lit (.int 13))) nilX)) (lit (.int 1))) (bin modD (bltE intD (consX (var 11) nilX)) (lit (.int 13)))) (lit (.int 14))) (consX (lit (.int 2)) nilX)))) [11])) nilX))) nilX)) nilX)))) nilX)))
    (seqB (expB (methE appD (var 2) (consX (tupE (consX (var 3) (consX (var 4) (consX (tupE (consX (tupE (consX (lit (.int 0)) (consX (lit (.int 0)) (consX (lit (.int 3)) nilX)))) nilX)) nilX)))) nilX)))
    (seqB (expB (methE appD (var 2) (consX (tupE (consX (var 3) (consX (var 4) (consX (tupE (consX (tupE (consX (lit (.int 0)) (consX (bltE lenD (consX (var 3) nilX)) (consX (lit (.int 3)) nilX)))) nilX)) nilX)))) nilX)))
    (seqB (ifB (cmpT neB (var 5) (tupE nilX)) (seqB (asgB (bin modD (bltE intD (consX (var 1) nilX)) (bltE lenD (consX (var 5) nilX))) (setN 6))
    (seqB (asgB (bin idxD (var 5) (var 6)) (unpG 3 (consG (setN 8) (consG (setN 9) (consG (setN 10) nilG)))))
    (seqB (forB (valI (frz (lstF (consX (tupE (consX (var 8) (consX (var 9) nilX))) (consX (tupE (consX (var 8) (consX (var 9) (consX (lit (.int 0)) nilX)))) (consX (tupE (consX (var 8) (consX (var 9) (consX (lit (.int 1001)) nilX)))) (consX (tupE (consX (var 8) (consX (var 8) (consX (var 10) nilX)))) (consX (tupE (consX (var 8) (consX (var 9) (consX (lit (.bool true)) nilX)))) (consX (tupE (consX (var 8) (consX (var 9) (consX (var 10) (consX (lit (.int 1)) nilX))))) (consX (tupE (consX (un negD (lit (.int 1))) (consX (var 9) (consX (var 10) nilX)))) nilX)))))))))) (setN 7) (expB (methE appD (var 2) (consX (tupE (consX (var 3) (consX (var 4) (consX (bin addD (bin addD (slA (var 5) noP (someP (var 6))) (tupE (consX (var 7) nilX))) (slA (var 5) (someP (bin addD (var 6) (lit (.int 1)))) noP)) nilX)))) nilX))))
    (seqB (expB (methE appD (var 2) (consX (tupE (consX (var 3) (consX (var 4) (consX (bin addD (bin addD (slA (var 5) noP (someP (bin addD (var 6) (lit (.int 1))))) (tupE (consX (tupE (consX (var 8) (consX (var 9) (consX (var 10) nilX)))) nilX))) (slA (var 5) (someP (bin addD (var 6) (lit (.int 1)))) noP)) nilX)))) nilX)))
    (expB (methE appD (var 2) (consX (tupE (consX (var 3) (consX (var 4) (consX (bin addD (bin addD (slA (var 5) noP (someP (bin addD (var 6) (lit (.int 1))))) (tupE (consX (tupE (consX (var 8) (consX (var 9) (consX (bin addD (bin modD (bltE intD (consX (var 10) nilX)) (lit (.int 1000))) (lit (.int 1))) nilX)))) nilX))) (slA (var 5) (someP (bin addD (var 6) (lit (.int 1)))) noP)) nilX)))) nilX))))))) skipB)
    (seqB (ifB (cmpT gtB (bltE lenD (consX (var 5) nilX)) (lit (.int 1))) (expB (methE appD (var 2) (consX (tupE (consX (var 3) (consX (var 4) (consX (bin addD (slA (var 5) (someP (lit (.int 1))) noP) (slA (var 5) noP (someP (lit (.int 1))))) nilX)))) nilX))) skipB)
    (retB (var 2))))))))))))))))))))
abbrev n_law : List Str := ["script", "web", "handed", "value"]
noncomputable def b_law (C : Clls) : Blk :=
    (seqB (asgB (callE C 20 (consX (callE C 16 (consX (var 0) (consX (lit (.int 0)) (consX (lit (.int 20)) nilX)))) nilX)) (setN 1))
    (seqB (asgB (callE C 18 (consX (var 1) nilX)) (setN 2))
    (seqB (ifB (orT (cmpT isnB (callE C 10 (consX (var 1) nilX)) (lit (.bool true))) (cmpT isnB (callE C 10 (consX (var 2) nilX)) (lit (.bool true)))) (retB (lit (.bool false))) skipB)
    (seqB (ifB (orT (notT (tru (callE C 17 (consX (callE C 12 (consX (var 2) nilX)) (consX (var 1) nilX))))) (orT (notT (tru (callE C 17 (consX (callE C 12 (consX (var 1) nilX)) (consX (var 1) nilX))))) (cmpT neB (var 2) (callE C 18 (consX (var 1) nilX))))) (retB (lit (.bool false))) skipB)
    (seqB (ifB (orT (notT (tru (callE C 17 (consX (callE C 13 (consX (var 1) nilX)) (consX (bltE lenD (consX (bin idxD (var 1) (lit (.int 0))) nilX)) nilX))))) (notT (tru (callE C 17 (consX (callE C 13 (consX (var 2) nilX)) (consX (bltE lenD (consX (bin idxD (var 1) (lit (.int 0))) nilX)) nilX)))))) (retB (lit (.bool false))) skipB)
    (seqB (forB (valI (callE C 21 (consX (var 1) (consX (callE C 15 (consX (var 0) (consX (lit (.int 1)) nilX))) nilX)))) (setN 3) (ifB (orT (cmpT isnB (callE C 10 (consX (var 3) nilX)) (lit (.bool false))) (cmpT isnB (callE C 10 (consX (callE C 18 (consX (var 3) nilX)) nilX)) (lit (.bool false)))) (retB (lit (.bool false))) skipB))
    (retB (cmp isB (callE C 10 (consX (var 1) nilX)) (lit (.bool true))))))))))
/-- the defs, called n deep -/
noncomputable def Cn : Nat → Clls
  | 0 => fun _ _ _ => .no
  | n + 1 => fun id ds S => match id with
    | 0 => callB (n_is_int).length 1 (b_is_int (Cn n)) ds S
    | 1 => callB (n_is_between).length 3 (b_is_between (Cn n)) ds S
    | 2 => callB (n_is_sequence).length 1 (b_is_sequence (Cn n)) ds S
    | 3 => callB (n_is_row).length 2 (b_is_row (Cn n)) ds S
    | 4 => callB (n_frozen).length 1 (b_frozen (Cn n)) ds S
    | 5 => callB (n_is_ascending).length 1 (b_is_ascending (Cn n)) ds S
    | 6 => callB (n_is_number_set).length 3 (b_is_number_set (Cn n)) ds S
    | 7 => callB (n_need).length 2 (b_need (Cn n)) ds S
    | 8 => callB (n_is_size).length 1 (b_is_size (Cn n)) ds S
    | 9 => callB (n_is_vouchings).length 2 (b_is_vouchings (Cn n)) ds S
    | 10 => callB (n_is_web).length 1 (b_is_web (Cn n)) ds S
    | 11 => callB (n_need_web).length 2 (b_need_web (Cn n)) ds S
    | 12 => callB (n_web_of).length 1 (b_web_of (Cn n)) ds S
    | 13 => callB (n_accounts).length 1 (b_accounts (Cn n)) ds S
    | 14 => callB (n__law_power).length 2 (b__law_power (Cn n)) ds S
    | 15 => callB (n__law_cell).length 2 (b__law_cell (Cn n)) ds S
    | 16 => callB (n__law_numbers).length 3 (b__law_numbers (Cn n)) ds S
    | 17 => callB (n__law_same).length 2 (b__law_same (Cn n)) ds S
    | 18 => callB (n__law_listed).length 1 (b__law_listed (Cn n)) ds S
    | 19 => callB (n__law_size).length 1 (b__law_size (Cn n)) ds S
    | 20 => callB (n__law_web).length 1 (b__law_web (Cn n)) ds S
    | 21 => callB (n__law_wrong).length 2 (b__law_wrong (Cn n)) ds S
    | 22 => callB (n_law).length 1 (b_law (Cn n)) ds S
    | _ => .no
theorem run_is_int (n : Nat) (x0 : D) (S : Sto) : Cn (n + 1) 0 [x0] S = endB S (b_is_int (Cn n) [some x0] S) :=
  callB_eq (n := (n_is_int).length) (ar := 1) (b := b_is_int (Cn n)) (ds := [x0]) rfl
theorem run_is_between (n : Nat) (x0 x1 x2 : D) (S : Sto) : Cn (n + 1) 1 [x0, x1, x2] S = endB S (b_is_between (Cn n) [some x0, some x1, some x2] S) :=
  callB_eq (n := (n_is_between).length) (ar := 3) (b := b_is_between (Cn n)) (ds := [x0, x1, x2]) rfl
theorem run_is_sequence (n : Nat) (x0 : D) (S : Sto) : Cn (n + 1) 2 [x0] S = endB S (b_is_sequence (Cn n) [some x0] S) :=
  callB_eq (n := (n_is_sequence).length) (ar := 1) (b := b_is_sequence (Cn n)) (ds := [x0]) rfl
theorem run_is_row (n : Nat) (x0 x1 : D) (S : Sto) : Cn (n + 1) 3 [x0, x1] S = endB S (b_is_row (Cn n) [some x0, some x1] S) :=
  callB_eq (n := (n_is_row).length) (ar := 2) (b := b_is_row (Cn n)) (ds := [x0, x1]) rfl
theorem run_frozen (n : Nat) (x0 : D) (S : Sto) : Cn (n + 1) 4 [x0] S = endB S (b_frozen (Cn n) [some x0, none] S) :=
  callB_eq (n := (n_frozen).length) (ar := 1) (b := b_frozen (Cn n)) (ds := [x0]) rfl
theorem run_is_ascending (n : Nat) (x0 : D) (S : Sto) : Cn (n + 1) 5 [x0] S = endB S (b_is_ascending (Cn n) [some x0, none] S) :=
  callB_eq (n := (n_is_ascending).length) (ar := 1) (b := b_is_ascending (Cn n)) (ds := [x0]) rfl
theorem run_is_number_set (n : Nat) (x0 x1 x2 : D) (S : Sto) : Cn (n + 1) 6 [x0, x1, x2] S = endB S (b_is_number_set (Cn n) [some x0, some x1, some x2, none] S) :=
  callB_eq (n := (n_is_number_set).length) (ar := 3) (b := b_is_number_set (Cn n)) (ds := [x0, x1, x2]) rfl
theorem run_need (n : Nat) (x0 x1 : D) (S : Sto) : Cn (n + 1) 7 [x0, x1] S = endB S (b_need (Cn n) [some x0, some x1] S) :=
  callB_eq (n := (n_need).length) (ar := 2) (b := b_need (Cn n)) (ds := [x0, x1]) rfl
theorem run_is_size (n : Nat) (x0 : D) (S : Sto) : Cn (n + 1) 8 [x0] S = endB S (b_is_size (Cn n) [some x0] S) :=
  callB_eq (n := (n_is_size).length) (ar := 1) (b := b_is_size (Cn n)) (ds := [x0]) rfl
theorem run_is_vouchings (n : Nat) (x0 x1 : D) (S : Sto) : Cn (n + 1) 9 [x0, x1] S = endB S (b_is_vouchings (Cn n) [some x0, some x1, none] S) :=
  callB_eq (n := (n_is_vouchings).length) (ar := 2) (b := b_is_vouchings (Cn n)) (ds := [x0, x1]) rfl
theorem run_is_web (n : Nat) (x0 : D) (S : Sto) : Cn (n + 1) 10 [x0] S = endB S (b_is_web (Cn n) [some x0, none, none, none, none, none] S) :=
  callB_eq (n := (n_is_web).length) (ar := 1) (b := b_is_web (Cn n)) (ds := [x0]) rfl
theorem run_need_web (n : Nat) (x0 x1 : D) (S : Sto) : Cn (n + 1) 11 [x0, x1] S = endB S (b_need_web (Cn n) [some x0, some x1] S) :=
  callB_eq (n := (n_need_web).length) (ar := 2) (b := b_need_web (Cn n)) (ds := [x0, x1]) rfl
theorem run_web_of (n : Nat) (x0 : D) (S : Sto) : Cn (n + 1) 12 [x0] S = endB S (b_web_of (Cn n) [some x0] S) :=
  callB_eq (n := (n_web_of).length) (ar := 1) (b := b_web_of (Cn n)) (ds := [x0]) rfl
theorem run_accounts (n : Nat) (x0 : D) (S : Sto) : Cn (n + 1) 13 [x0] S = endB S (b_accounts (Cn n) [some x0] S) :=
  callB_eq (n := (n_accounts).length) (ar := 1) (b := b_accounts (Cn n)) (ds := [x0]) rfl
theorem run__law_power (n : Nat) (x0 x1 : D) (S : Sto) : Cn (n + 1) 14 [x0, x1] S = endB S (b__law_power (Cn n) [some x0, some x1, none, none] S) :=
  callB_eq (n := (n__law_power).length) (ar := 2) (b := b__law_power (Cn n)) (ds := [x0, x1]) rfl
theorem run__law_cell (n : Nat) (x0 x1 : D) (S : Sto) : Cn (n + 1) 15 [x0, x1] S = endB S (b__law_cell (Cn n) [some x0, some x1] S) :=
  callB_eq (n := (n__law_cell).length) (ar := 2) (b := b__law_cell (Cn n)) (ds := [x0, x1]) rfl
theorem run__law_numbers (n : Nat) (x0 x1 x2 : D) (S : Sto) : Cn (n + 1) 16 [x0, x1, x2] S = endB S (b__law_numbers (Cn n) [some x0, some x1, some x2, none, none, none, none, none] S) :=
  callB_eq (n := (n__law_numbers).length) (ar := 3) (b := b__law_numbers (Cn n)) (ds := [x0, x1, x2]) rfl
theorem run__law_same (n : Nat) (x0 x1 : D) (S : Sto) : Cn (n + 1) 17 [x0, x1] S = endB S (b__law_same (Cn n) [some x0, some x1, none] S) :=
  callB_eq (n := (n__law_same).length) (ar := 2) (b := b__law_same (Cn n)) (ds := [x0, x1]) rfl
theorem run__law_listed (n : Nat) (x0 : D) (S : Sto) : Cn (n + 1) 18 [x0] S = endB S (b__law_listed (Cn n) [some x0, none] S) :=
  callB_eq (n := (n__law_listed).length) (ar := 1) (b := b__law_listed (Cn n)) (ds := [x0]) rfl
theorem run__law_size (n : Nat) (x0 : D) (S : Sto) : Cn (n + 1) 19 [x0] S = endB S (b__law_size (Cn n) [some x0] S) :=
  callB_eq (n := (n__law_size).length) (ar := 1) (b := b__law_size (Cn n)) (ds := [x0]) rfl
theorem run__law_web (n : Nat) (x0 : D) (S : Sto) : Cn (n + 1) 20 [x0] S = endB S (b__law_web (Cn n) [some x0, none, none, none, none, none, none, none, none, none, none, none] S) :=
  callB_eq (n := (n__law_web).length) (ar := 1) (b := b__law_web (Cn n)) (ds := [x0]) rfl
theorem run__law_wrong (n : Nat) (x0 x1 : D) (S : Sto) : Cn (n + 1) 21 [x0, x1] S = endB S (b__law_wrong (Cn n) [some x0, some x1, none, none, none, none, none, none, none, none, none, none] S) :=
  callB_eq (n := (n__law_wrong).length) (ar := 2) (b := b__law_wrong (Cn n)) (ds := [x0, x1]) rfl
theorem run_law (n : Nat) (x0 : D) (S : Sto) : Cn (n + 1) 22 [x0] S = endB S (b_law (Cn n) [some x0, none, none, none] S) :=
  callB_eq (n := (n_law).length) (ar := 1) (b := b_law (Cn n)) (ds := [x0]) rfl
end K01

namespace K01
open PySem PySem.Spec PyProof.Rows L2 Cor
/-- an int, not a bool -/
def isI : D → Bool
  | .int _ => true
  | _ => false
theorem e_is_int (n : Nat) (S : Sto) (x : D) (f : flat x = true) : Cn (n + 1) 0 [x] S = .ok (.bool (isI x)) S := by
  rw [run_is_int]
  cases x <;> first | (simp at f; done) | simp [b_is_int, kindD, isK, isI]
def between (x : D) (lo hi : Int) : Bool := match x with
  | .int i => decide (lo ≤ i) && decide (i ≤ hi)
  | _ => false
theorem e_is_between (n : Nat) (S : Sto) (x : D) (lo hi : Int) (f : flat x = true) : Cn (n + 2) 1 [x, .int lo, .int hi] S = .ok (.bool (between x lo hi)) S := by
  rw [run_is_between]
  simp only [b_is_between]
  simp [e_is_int, f]
  cases x <;> first | (simp at f; done) | simp [isI, between]
  rename_i i
  by_cases h : lo ≤ i <;> simp [h]
theorem e_is_sequence (n : Nat) (S : Sto) (x : D) (f : flat x = true) : Cn (n + 1) 2 [x] S = .ok (.bool (items x).isSome) S := by
  rw [run_is_sequence]
  cases x <;> first | (simp at f; done) | simp [b_is_sequence, kindD, isK, items]
/-- a row of so many -/
def isRow (x : D) (n : Int) : Bool := match items x with
  | some ds => decide ((ds.length : Int) = n)
  | none => false
theorem e_is_row (n : Nat) (S : Sto) (x : D) (m : Int) (f : flat x = true) : Cn (n + 2) 3 [x, .int m] S = .ok (.bool (isRow x m)) S := by
  rw [run_is_row]
  simp only [b_is_row]
  simp [e_is_sequence, f]
  cases x <;> first | (simp at f; done) | simp [isRow, items]
mutual
/-- lists made tuples -/
def frozen : D → D
  | .list ds => .tuple (frozenL ds)
  | .tuple ds => .tuple (frozenL ds)
  | .none => .none
  | .bool b => .bool b
  | .int i => .int i
  | .str x => .str x
  | .dict k => .dict k
def frozenL : List D → List D
  | [] => []
  | d :: ds => frozen d :: frozenL ds
end
theorem frozenL_map : ∀ ds : List D, frozenL ds = ds.map frozen
  | [] => rfl
  | d :: ds => by rw [frozenL, frozenL_map ds, List.map_cons]
mutual
theorem frozen_flat : ∀ d : D, flat d = true → flat (frozen d) = true
  | .none, _ => by simp [frozen]
  | .bool _, _ => by simp [frozen]
  | .int _, _ => by simp [frozen]
  | .str _, _ => by simp [frozen]
  | .list ds, h => by simp at h; simp [frozen]; exact frozenL_flat ds h
  | .tuple ds, h => by simp at h; simp [frozen]; exact frozenL_flat ds h
  | .dict _, h => by simp at h
theorem frozenL_flat : ∀ ds : List D, flatL ds = true → flatL (frozenL ds) = true
  | [], _ => by simp [frozenL]
  | d :: ds, h => by simp at h; simp [frozenL]; exact ⟨frozen_flat d h.1, frozenL_flat ds h.2⟩
end
theorem e_frozen : ∀ (n : Nat) (S : Sto) (x : D), good x = true → dep x ≤ n → Cn (n + 2) 4 [x] S = .ok (frozen x) S
  | n, S, x, g, hd => by
    have f := good_flat x g
    have seq : ∀ ds : List D, good (.list ds) = true → depL ds + 1 ≤ n → (x = .list ds ∨ x = .tuple ds) → Cn (n + 2) 4 [x] S = .ok (.tuple (frozenL ds)) S := fun ds g2 h2 hx => by
      simp at g2
      have fl : flat (PyData.tuple (frozenL ds)) = true := by simp; exact frozenL_flat ds (goodL_flat ds g2.2)
      rw [run_frozen]
      have hi : items x = some ds := by rcases hx with rfl | rfl <;> rfl
      have hit : itemsD S x = some (ds, none) := by rcases hx with rfl | rfl <;> rfl
      obtain ⟨m, rfl⟩ : ∃ m, n = m + 1 := ⟨n - 1, by omega⟩
      simp only [b_frozen]
      simp [e_is_sequence, f, hi, hit, len_size g2.1]
      rw [compL_map frozen ds fun d md => ⟨[some x, some d], rfl, rfl, by
        simp
        exact e_frozen m S d (goodL_mem g2.2 d md) (depL_mem (n := m) (by omega) d md)⟩]
      rw [frozenL_map] at fl ⊢
      simp [fl]
    cases x with
    | list ds => exact seq ds g hd (.inl rfl)
    | tuple ds => exact seq ds (by simpa using g) hd (.inr rfl)
    | dict k => simp at f
    | _ =>
      rw [run_frozen]
      simp only [b_frozen]
      simp [e_is_sequence, items, frozen]
  termination_by n => n

/-- each less than the next -/
def ascD : List D → Bool
  | x :: y :: r => PySem.W.dataLt x y && ascD (y :: r)
  | _ => true
def stepLt (ds : List D) (i : Nat) : Bool := match ds[i]?, ds[i + 1]? with
  | some a, some b => PySem.W.dataLt a b
  | _, _ => true
theorem asc_range : ∀ ds : List D, (List.range (ds.length - 1)).all (stepLt ds) = ascD ds
  | [] => rfl
  | [_] => rfl
  | x :: y :: r => by
    have ih := asc_range (y :: r)
    show (List.range (r.length + 1)).all (stepLt (x :: y :: r)) = (PySem.W.dataLt x y && ascD (y :: r))
    rw [← ih, List.range_succ_eq_map, List.all_cons, List.all_map]
    rfl
theorem e_is_ascending (n : Nat) (S : Sto) (x : D) (ds : List D) (hi : items x = some ds) (hlen : ds.length ≤ 1000) (hlt : ∀ a ∈ ds, ∀ b ∈ ds, ltB S a b = some (PySem.W.dataLt a b)) : Cn (n + 1) 5 [x] S = .ok (.bool (ascD ds)) S := by
  rw [run_is_ascending]
  have hx : x = .list ds ∨ x = .tuple ds := by
    cases x <;> first | (cases hi; done) | skip
    · cases hi; exact .inl rfl
    · cases hi; exact .inr rfl
  have hl : lenD S [x] = some (.int ds.length) := by rcases hx with rfl | rfl <;> rfl
  have hat : ∀ i : Int, idxD S x (.int i) = L2.atI ds i := by rcases hx with rfl | rfl <;> (intro i; rfl)
  simp only [b_is_ascending]
  simp [hl]
  rw [rngR_int (by omega) (by omega)]
  simp
  rw [aaL_all (fun d => match d with | .int i => stepLt ds i.toNat | _ => true) _ (fun d md => ?_)]
  · have key : (rangeL 0 ((ds.length : Int) - 1)).all (fun d => match d with | .int i => stepLt ds i.toNat | _ => true) = ascD ds := by
      rw [← asc_range]
      unfold rangeL
      rw [List.all_map]
      have e : ((ds.length : Int) - 1 - 0).toNat = ds.length - 1 := by omega
      rw [e]
      have e2 : ((fun d : D => match d with | .int i => stepLt ds i.toNat | _ => true) ∘ fun i : Nat => PyData.int (0 + (i : Int))) = stepLt ds := by
        funext i
        simp
      rw [e2]
    rw [key]
    simp
  · unfold rangeL at md
    obtain ⟨i, hi2, rfl⟩ := List.mem_map.mp md
    have hi3 : i < ds.length - 1 := by
      have := List.mem_range.mp hi2
      omega
    refine ⟨_, rfl, rfl, ?_⟩
    have h1 : i < ds.length := by omega
    have h2 : i + 1 < ds.length := by omega
    have e1 : L2.atI ds (i : Int) = some ds[i] := by rw [atI_nat', List.getElem?_eq_getElem h1]
    have e2 : L2.atI ds ((i : Int) + 1) = some ds[i + 1] := by
      have : ((i : Int) + 1) = ((i + 1 : Nat) : Int) := by omega
      rw [this, atI_nat', List.getElem?_eq_getElem h2]
    simp [hat, e1, e2, hlt _ (List.getElem_mem h1) _ (List.getElem_mem h2)]
    simp [stepLt, List.getElem?_eq_getElem h1, List.getElem?_eq_getElem h2]
/-- strictly ascending ints from lo to hi -/
def numSet (x : D) (lo hi : Int) : Bool := match items x with
  | some ds => ds.all (fun d => between d lo hi) && ascD ds
  | none => false
theorem between_int {d : D} {lo hi : Int} (h : between d lo hi = true) : ∃ i, d = .int i ∧ lo ≤ i ∧ i ≤ hi := by
  cases d <;> first | (cases h; done) | skip
  simp [between] at h
  exact ⟨_, rfl, h⟩
theorem e_is_number_set (n : Nat) (S : Sto) (x : D) (lo hi : Int) (g : good x = true) : Cn (n + 3) 6 [x, .int lo, .int hi] S = .ok (.bool (numSet x lo hi)) S := by
  have f := good_flat x g
  rw [run_is_number_set]
  simp only [b_is_number_set]
  simp [e_is_sequence, f]
  cases hi2 : items x with
  | none => simp [numSet, hi2]
  | some ds =>
    have hx : x = .list ds ∨ x = .tuple ds := by
      cases x <;> first | (cases hi2; done) | skip
      · cases hi2; exact .inl rfl
      · cases hi2; exact .inr rfl
    have hit : itemsD S x = some (ds, none) := by rcases hx with rfl | rfl <;> rfl
    have gd : ds.length ≤ 1000 ∧ goodL ds = true := by rcases hx with rfl | rfl <;> simpa using g
    simp [hit]
    rw [aaL_all (fun d => between d lo hi) ds fun d md => ⟨[some x, some (.int lo), some (.int hi), some d], rfl, rfl, by
      simp
      exact e_is_between n S d lo hi (good_flat d (goodL_mem gd.2 d md))⟩]
    cases ha : ds.all (fun d => between d lo hi) with
    | false =>
      have e : numSet x lo hi = false := by unfold numSet; rw [hi2]; simp only [ha, Bool.false_and]
      rw [e]
      simp
    | true =>
      have e : numSet x lo hi = ascD ds := by unfold numSet; rw [hi2]; simp only [ha, Bool.true_and]
      have e2 := e_is_ascending (n + 1) S x ds hi2 gd.1 fun a ma b mb => by
        obtain ⟨i, rfl, _⟩ := between_int (List.all_eq_true.mp ha a ma)
        obtain ⟨j, rfl, _⟩ := between_int (List.all_eq_true.mp ha b mb)
        rw [ltB_int, PySem.W.dataLt_int]
      rw [e]
      simp [e2]
theorem e_need (n : Nat) (S : Sto) (a : D) : Cn (n + 1) 7 [.bool true, a] S = .ok .none S := by
  rw [run_need]
  simp [b_need]
theorem e_is_size (n : Nat) (S : Sto) (x : D) (f : flat x = true) : Cn (n + 3) 8 [x] S = .ok (.bool (between x 1 1000)) S := by
  rw [run_is_size]
  simp only [b_is_size]
  simp [e_is_between, f]

/-! ### webs -/
/-- a vouching: who, whom, how wide -/
def rowOk (many : Int) (x : D) : Bool := match items x with
  | some [a, b, c] => between a 0 (many - 1) && between b 0 (many - 1) && !PyData.eqv a b && between c 1 1000
  | _ => false
def pairOf (x : D) : D := match items x with
  | some (a :: b :: _) => .tuple [a, b]
  | _ => .none
def vouchOk (x : D) (many : Int) : Bool := match items x with
  | some ds => decide (ds.length ≤ 60) && ds.all (rowOk many) && ascD (ds.map pairOf)
  | none => false
theorem items_cases {x : D} {ds : List D} (h : items x = some ds) : x = .list ds ∨ x = .tuple ds := by
  cases x <;> first | (cases h; done) | skip
  · cases h; exact .inl rfl
  · cases h; exact .inr rfl
theorem good_items {x : D} {ds : List D} (g : good x = true) (h : items x = some ds) : ds.length ≤ 1000 ∧ goodL ds = true := by
  rcases items_cases h with rfl | rfl <;> simpa using g
theorem itemsD_of {S : Sto} {x : D} {ds : List D} (h : items x = some ds) : itemsD S x = some (ds, none) := by
  rcases items_cases h with rfl | rfl <;> rfl
theorem lenD_of {S : Sto} {x : D} {ds : List D} (h : items x = some ds) : lenD S [x] = some (.int ds.length) := by
  rcases items_cases h with rfl | rfl <;> rfl
theorem idxD_of {S : Sto} {x : D} {ds : List D} (h : items x = some ds) (i : Int) : idxD S x (.int i) = L2.atI ds i := by
  rcases items_cases h with rfl | rfl <;> rfl
theorem isRow_of {x : D} {ds : List D} {n : Int} (h : items x = some ds) : isRow x n = decide ((ds.length : Int) = n) := by unfold isRow; rw [h]
theorem pair_lt {S : Sto} {a b c d : Int} : ltB S (.tuple [.int a, .int b]) (.tuple [.int c, .int d]) = some (PySem.W.dataLt (.tuple [.int a, .int b]) (.tuple [.int c, .int d])) := rfl
theorem row_body (n : Nat) (S : Sto) (v : D) (many : Int) (x : D) (g : good x = true) (r : Option D) :
    (seqB (ifB (orT (notT (tru (callE (Cn (n + 3)) 3 (consX (var 2) (consX (lit (.int 3)) nilX))))) (orT (notT (tru (callE (Cn (n + 3)) 1 (consX (bin idxD (var 2) (lit (.int 0))) (consX (lit (.int 0)) (consX (bin subD (var 1) (lit (.int 1))) nilX)))))) (notT (tru (callE (Cn (n + 3)) 1 (consX (bin idxD (var 2) (lit (.int 1))) (consX (lit (.int 0)) (consX (bin subD (var 1) (lit (.int 1))) nilX)))))))) (retB (lit (.bool false))) skipB)
    (ifB (orT (cmpT eqB (bin idxD (var 2) (lit (.int 0))) (bin idxD (var 2) (lit (.int 1)))) (notT (tru (callE (Cn (n + 3)) 8 (consX (bin idxD (var 2) (lit (.int 2))) nilX))))) (retB (lit (.bool false))) skipB)) [some v, some (.int many), some x] S =
      if rowOk many x = true then .nx [some v, some (.int many), some x] S else .rt (.bool false) S := by
  have f := good_flat x g
  have er := e_is_row (n + 1) S x 3 f
  cases hi : items x with
  | none =>
    have e1 : isRow x 3 = false := by unfold isRow; rw [hi]
    have e2 : rowOk many x = false := by unfold rowOk; rw [hi]
    simp [er, e1, e2]
  | some ds =>
    have gd := good_items g hi
    by_cases hl : ds.length = 3
    · match ds, hl with
      | [a, b, c], _ =>
        have e1 : isRow x 3 = true := by rw [isRow_of hi]; rfl
        have e2 : rowOk many x = (between a 0 (many - 1) && between b 0 (many - 1) && !PyData.eqv a b && between c 1 1000) := by unfold rowOk; rw [hi]
        have gg := gd.2
        simp at gg
        have ea := e_is_between (n + 1) S a 0 (many - 1) (good_flat a gg.1)
        have eb := e_is_between (n + 1) S b 0 (many - 1) (good_flat b gg.2.1)
        have ec := e_is_size n S c (good_flat c gg.2.2)
        have i0 : idxD S x (.int 0) = some a := by rw [idxD_of hi]; rfl
        have i1 : idxD S x (.int 1) = some b := by rw [idxD_of hi]; rfl
        have i2 : idxD S x (.int 2) = some c := by rw [idxD_of hi]; rfl
        rw [e2]
        cases ha : between a 0 (many - 1) with
        | false => simp [er, e1, i0, ea, ha]
        | true =>
          cases hb : between b 0 (many - 1) with
          | false => simp [er, e1, i0, i1, ea, ha, eb, hb]
          | true =>
            obtain ⟨ia, rfl, _⟩ := between_int ha
            obtain ⟨ib, rfl, _⟩ := between_int hb
            rw [eqv_int]
            by_cases hab : ia = ib
            · simp [er, e1, i0, i1, ea, ha, eb, hb, hab]
            · cases hc : between c 1 1000 with
              | false => simp [er, e1, i0, i1, i2, ea, ha, eb, hb, hab, ec, hc]
              | true => simp [er, e1, i0, i1, i2, ea, ha, eb, hb, hab, ec, hc]
    · have e1 : isRow x 3 = false := by rw [isRow_of hi]; simp; omega
      have e2 : rowOk many x = false := by
        unfold rowOk
        rw [hi]
        match ds, hl with
        | [], _ => rfl
        | [_], _ => rfl
        | [_, _], _ => rfl
        | [_, _, _], hl => simp at hl
        | _ :: _ :: _ :: _ :: _, _ => rfl
      simp [er, e1, e2]

theorem row_pair {many : Int} {x : D} (h : rowOk many x = true) : ∃ a b c : Int, items x = some [.int a, .int b, .int c] ∧ 0 ≤ a ∧ a ≤ many - 1 ∧ 0 ≤ b ∧ b ≤ many - 1 ∧ a ≠ b ∧ 1 ≤ c ∧ c ≤ 1000 := by
  unfold rowOk at h
  cases hi : items x with
  | none => rw [hi] at h; cases h
  | some ds =>
    rw [hi] at h
    match ds, h with
    | [a, b, c], h =>
      have h : (between a 0 (many - 1) && between b 0 (many - 1) && !PyData.eqv a b && between c 1 1000) = true := h
      simp at h
      obtain ⟨⟨⟨h1, h2⟩, h3⟩, h4⟩ := h
      obtain ⟨ia, rfl, a1, a2⟩ := between_int h1
      obtain ⟨ib, rfl, b1, b2⟩ := between_int h2
      obtain ⟨ic, rfl, c1, c2⟩ := between_int h4
      rw [eqv_int] at h3
      exact ⟨ia, ib, ic, rfl, a1, a2, b1, b2, of_decide_eq_false h3, c1, c2⟩
    | [], h => cases h
    | [_], h => cases h
    | [_, _], h => cases h
    | _ :: _ :: _ :: _ :: _, h => cases h
theorem e_is_vouchings (n : Nat) (S : Sto) (x : D) (many : Int) (g : good x = true) : Cn (n + 4) 9 [x, .int many] S = .ok (.bool (vouchOk x many)) S := by
  have f := good_flat x g
  rw [run_is_vouchings]
  unfold b_is_vouchings
  have es := e_is_sequence (n + 2) S x f
  cases hi : items x with
  | none =>
    have e : vouchOk x many = false := by unfold vouchOk; rw [hi]
    simp [es, hi, e]
  | some ds =>
    have gd := good_items g hi
    have hit := itemsD_of (S := S) hi
    have hl := lenD_of (S := S) hi
    have e : vouchOk x many = (decide (ds.length ≤ 60) && ds.all (rowOk many) && ascD (ds.map pairOf)) := by unfold vouchOk; rw [hi]
    by_cases h60 : ds.length ≤ 60
    · have h60' : ¬ (60 : Int) < (ds.length : Int) := by omega
      have hlp0 := forL_check (i := 2) (S := S) (v := .bool false) (all := ds) (rowOk many) ds [some x, some (.int many), none] fun d m r => row_body n S x many d (goodL_mem gd.2 d m) none
      have hw2 : (lastSet 2 [some x, some (PyData.int many), none] ds).set 2 none = [some x, some (.int many), none] := lastSet_wipe ..
      have hw1 : (lastSet 2 [some x, some (PyData.int many), none] ds)[0]? = some (some x) := lastSet_ne _ _ (by decide)
      generalize lastSet 2 [some x, some (PyData.int many), none] ds = env' at hlp0 hw1 hw2
      simp [es, hi, hl, h60', hit]
      rw [hlp0]
      cases ha : ds.all (rowOk many) with
      | false =>
        rw [e, ha]
        simp
      | true =>
        rw [e, ha]
        simp only [if_true, h60, decide_true, Bool.true_and]
        have hc : compL (setN 2) yesT (tupE (consX (bin idxD (var 2) (lit (.int 0))) (consX (bin idxD (var 2) (lit (.int 1))) nilX))) none ds [some x, some (.int many), none] ds S = .ok (ds.map pairOf) S :=
          compL_map pairOf ds fun d m => by
            obtain ⟨a, b, c, h1, _⟩ := row_pair (List.all_eq_true.mp ha d m)
            refine ⟨[some x, some (.int many), some d], rfl, rfl, ?_⟩
            have i0 : idxD S d (.int 0) = some (.int a) := by rw [idxD_of h1]; rfl
            have i1 : idxD S d (.int 1) = some (.int b) := by rw [idxD_of h1]; rfl
            have ep : pairOf d = .tuple [.int a, .int b] := by unfold pairOf; rw [h1]
            simp [i0, i1, ep, len_size]
        have hasc := e_is_ascending (n + 2) S (.list (ds.map pairOf)) (ds.map pairOf) rfl (by rw [List.length_map]; omega) fun a ma b mb => by
          obtain ⟨d1, m1, rfl⟩ := List.mem_map.mp ma
          obtain ⟨d2, m2, rfl⟩ := List.mem_map.mp mb
          obtain ⟨a1, b1, c1, h1, _⟩ := row_pair (List.all_eq_true.mp ha d1 m1)
          obtain ⟨a2, b2, c2, h2, _⟩ := row_pair (List.all_eq_true.mp ha d2 m2)
          have e1 : pairOf d1 = .tuple [.int a1, .int b1] := by unfold pairOf; rw [h1]
          have e2 : pairOf d2 = .tuple [.int a2, .int b2] := by unfold pairOf; rw [h2]
          rw [e1, e2]
          exact pair_lt
        simp [hw2, hw1, hit, hc, hasc, len_size gd.1]
    · have h60' : (60 : Int) < (ds.length : Int) := by omega
      rw [e]
      simp [es, hi, hl, h60, h60']

/-- a web: capacities, founders, vouchings -/
def isWeb (x : D) : Bool := match items x with
  | some [c, f, v] => match items c with
    | some cs => decide (1 ≤ cs.length) && decide (cs.length ≤ 14) && cs.all (fun d => between d 1 1000) && numSet f 0 ((cs.length : Int) - 1) &&
        (match items f with | some fs => decide (1 ≤ fs.length) && decide (fs.length ≤ 3) | none => false) && vouchOk v cs.length
    | none => false
  | _ => false
theorem numSet_items {x : D} {lo hi : Int} (h : numSet x lo hi = true) : ∃ ds, items x = some ds := by
  unfold numSet at h
  cases hi2 : items x with
  | none => rw [hi2] at h; cases h
  | some ds => exact ⟨ds, rfl⟩
theorem e_is_web (n : Nat) (S : Sto) (x : D) (g : good x = true) : Cn (n + 5) 10 [x] S = .ok (.bool (isWeb x)) S := by
  have f := good_flat x g
  have er := e_is_row (n + 2) S x 3 f
  rw [run_is_web]
  unfold b_is_web
  cases hi : items x with
  | none =>
    have e1 : isRow x 3 = false := by unfold isRow; rw [hi]
    have e2 : isWeb x = false := by unfold isWeb; rw [hi]
    simp [er, e1, e2]
  | some xs =>
    have gd := good_items g hi
    by_cases hl : xs.length = 3
    · match xs, hl with
      | [c, fo, v], _ =>
        have e1 : isRow x 3 = true := by rw [isRow_of hi]; rfl
        have gg := gd.2
        simp at gg
        have gc := gg.1
        have gf := gg.2.1
        have gv := gg.2.2
        have hu : unpG 3 (consG (setN 2) (consG (setN 3) (consG (setN 4) nilG))) x [some x, none, none, none, none, none] = some [some x, none, some c, some fo, some v, none] := by
          rcases items_cases hi with rfl | rfl <;> rfl
        have es := e_is_sequence (n + 3) S c (good_flat c gc)
        cases hc : items c with
        | none =>
          have e2 : isWeb x = false := by unfold isWeb; rw [hi]; simp only [hc]
          simp [er, e1, hu, es, hc, e2]
        | some cs =>
          have gcs := good_items gc hc
          have hit := itemsD_of (S := S) hc
          have hlc := lenD_of (S := S) hc
          have e2 : isWeb x = (decide (1 ≤ cs.length) && decide (cs.length ≤ 14) && cs.all (fun d => between d 1 1000) && numSet fo 0 ((cs.length : Int) - 1) &&
              (match items fo with | some fs => decide (1 ≤ fs.length) && decide (fs.length ≤ 3) | none => false) && vouchOk v cs.length) := by unfold isWeb; rw [hi]; simp only [hc]
          by_cases h1 : 1 ≤ cs.length
          · have h1' : (1 : Int) ≤ (cs.length : Int) := by omega
            by_cases h2 : cs.length ≤ 14
            · have h2' : (cs.length : Int) ≤ 14 := by omega
              have ha := aaL_all (t := setN 5) (c := yesT) (g := callE (Cn (n + 4)) 8 (consX (var 5) nilX)) (all := cs) (env := [some x, none, some c, some fo, some v, none]) (S := S) (fun d => between d 1 1000) cs fun d m => ⟨[some x, none, some c, some fo, some v, some d], rfl, rfl, by
                simp
                exact e_is_size (n + 1) S d (good_flat d (goodL_mem gcs.2 d m))⟩
              have en := e_is_number_set (n + 1) S fo 0 ((cs.length : Int) - 1) gf
              cases hb : cs.all (fun d => between d 1 1000) with
              | false =>
                rw [hb] at ha
                rw [e2, hb]
                simp [er, e1, hu, es, hc, hlc, h1', h2', hit, ha]
              | true =>
                rw [hb] at ha
                cases hn : numSet fo 0 ((cs.length : Int) - 1) with
                | false =>
                  rw [e2, hb, hn]
                  simp [er, e1, hu, es, hc, hlc, h1', h2', hit, ha, en, hn]
                | true =>
                  obtain ⟨fs, hf⟩ := numSet_items hn
                  have hlf := lenD_of (S := S) hf
                  by_cases h3 : 1 ≤ fs.length
                  · have h3' : (1 : Int) ≤ (fs.length : Int) := by omega
                    by_cases h4 : fs.length ≤ 3
                    · have h4' : (fs.length : Int) ≤ 3 := by omega
                      have ev := e_is_vouchings n S v cs.length gv
                      rw [e2, hb, hn, hf]
                      simp [er, e1, hu, es, hc, hlc, h1', h2', hit, ha, en, hn, hlf, h3', h4', ev, h1, h2, h3, h4]
                    · have h4' : ¬ (fs.length : Int) ≤ 3 := by omega
                      rw [e2, hb, hn, hf]
                      simp [er, e1, hu, es, hc, hlc, h1', h2', hit, ha, en, hn, hlf, h3', h4', h4]
                  · have h3' : ¬ (1 : Int) ≤ (fs.length : Int) := by omega
                    rw [e2, hb, hn, hf]
                    simp [er, e1, hu, es, hc, hlc, h1', h2', hit, ha, en, hn, hlf, h3', h3]
            · have h2' : ¬ (cs.length : Int) ≤ 14 := by omega
              rw [e2]
              simp [er, e1, hu, es, hc, hlc, h1', h2', h2]
          · have h1' : ¬ (1 : Int) ≤ (cs.length : Int) := by omega
            rw [e2]
            simp [er, e1, hu, es, hc, hlc, h1', h1]
    · have e1 : isRow x 3 = false := by rw [isRow_of hi]; simp; omega
      have e2 : isWeb x = false := by
        unfold isWeb
        rw [hi]
        match xs, hl with
        | [], _ => rfl
        | [_], _ => rfl
        | [_, _], _ => rfl
        | [_, _, _], hl => simp at hl
        | _ :: _ :: _ :: _ :: _, _ => rfl
      simp [er, e1, e2]
theorem e_need_web (n : Nat) (S : Sto) (x a : D) (g : good x = true) (hd : dep x ≤ n + 3) (hw : isWeb x = true) : Cn (n + 6) 11 [x, a] S = .ok (frozen x) S := by
  rw [run_need_web]
  unfold b_need_web
  have e1 := e_is_web n S x g
  have e2 := e_need (n + 4) S a
  have e3 := e_frozen (n + 3) S x g hd
  rw [hw] at e1
  simp [e1, e2, e3, frozen_flat x (good_flat x g)]
theorem e_web_of (n : Nat) (S : Sto) (x : D) (g : good x = true) (hd : dep x ≤ n + 3) (hw : isWeb x = true) : Cn (n + 7) 12 [x] S = .ok (frozen x) S := by
  rw [run_web_of]
  unfold b_web_of
  simp [e_need_web n S x (.int 1) g hd hw, frozen_flat x (good_flat x g)]
theorem e_accounts (n : Nat) (S : Sto) (x c f v : D) (cs : List D) (g : good x = true) (hd : dep x ≤ n + 3) (hw : isWeb x = true) (hi : items x = some [c, f, v]) (hc : items c = some cs) : Cn (n + 7) 13 [x] S = .ok (.int cs.length) S := by
  rw [run_accounts]
  unfold b_accounts
  have e : frozen x = .tuple [frozen c, frozen f, frozen v] := by rcases items_cases hi with rfl | rfl <;> rfl
  have e2 : frozen c = .tuple (frozenL cs) := by rcases items_cases hc with rfl | rfl <;> rfl
  have e3 := e_need_web n S x (.int 1) g hd hw
  rw [e, e2] at e3
  simp [e3, frozenL_map]
end K01

namespace K01
open PySem PySem.Spec PyProof.Rows L2 Cor
/-! ### the law's own small ones -/
theorem e_power (n : Nat) (S : Sto) (m : Nat) (hm : m ≤ 100) : Cn (n + 1) 14 [.int 2, .int m] S = .ok (.int (2 ^ m)) S := by
  rw [run__law_power]
  unfold b__law_power
  obtain ⟨env', S', e, hI⟩ := forL_inv (t := setN 3) (b := asgB (bin mulD (var 2) (var 0)) (setN 2)) (all := (List.range m).map fun (i : Nat) => PyData.int (i : Int))
    (fun k env T => T = S ∧ ∃ r, env = [some (.int 2), some (.int m), some (.int (2 ^ k)), r]) ((List.range m).map fun (i : Nat) => PyData.int (i : Int)) 0 [some (.int 2), some (.int m), some (.int 1), none] S ⟨rfl, none, rfl⟩
    fun j d env T hj ⟨hT, r, he⟩ => by
      subst hT he
      have hjm : j < m := by
        have := (List.getElem?_eq_some_iff.mp hj).1
        simpa using this
      refine ⟨[some (.int 2), some (.int m), some (.int (2 ^ (0 + j))), some d], [some (.int 2), some (.int m), some (.int (2 ^ (0 + j) * 2)), some d], T, rfl, .inl ?_, rfl, some d, ?_⟩
      · have fits : MulFits (2 ^ j) 2 := fits_of (a := 101) (b := 2) (by
          rw [Int.natAbs_pow]
          exact Nat.pow_lt_pow_right (by decide) (by omega)) (by decide) (by decide)
        simp [mulD_int fits]
      · simp [Int.pow_succ]
  obtain ⟨rfl, r, rfl⟩ := hI
  refine (endB_seq (env1 := [some (.int 2), some (.int m), some (.int 1), none]) (S1 := S') (by simp)).trans ?_
  refine (endB_seq (forB_nx (rng_nat (by omega) (by simp)) e)).trans ?_
  simp
theorem getD_ints (ns : List Int) (k : Nat) (h : k < ns.length) : L2.atI (ns.map PyData.int) (k : Int) = some (.int ns[k]) := by
  rw [atI_nat', List.getElem?_map, List.getElem?_eq_getElem h]
  rfl
/-- what stands at a place of the script -/
def cellZ (ns : List Int) (k : Nat) : Int := (ns[k]?).getD 0
theorem e_cell (n : Nat) (S : Sto) (ns : List Int) (k : Nat) : Cn (n + 1) 15 [.list (ns.map .int), .int k] S = .ok (.int (cellZ ns k)) S := by
  rw [run__law_cell]
  unfold b__law_cell
  by_cases h : k < ns.length
  · have h' : (k : Int) < (ns.length : Int) := by omega
    have e : cellZ ns k = ns[k] := by unfold cellZ; rw [List.getElem?_eq_getElem h]; rfl
    simp [h', getD_ints ns k h, e]
  · have h' : ¬ (k : Int) < (ns.length : Int) := by omega
    have e : cellZ ns k = 0 := by unfold cellZ; rw [List.getElem?_eq_none (by omega)]; rfl
    simp [h', e]
theorem flatL_ints (ns : List Int) : flatL (ns.map PyData.int) = true := flatL_iff.mpr fun d hd => by
  obtain ⟨i, _, rfl⟩ := List.mem_map.mp hd
  simp
/-- numbers that a script's cell gives -/
def NumsOk (out : List Int) (m : Nat) : Prop := out.length = m ∧ ∀ x ∈ out, 0 ≤ x ∧ x < 1000000000
theorem bits_lt {z : Int} {b : Nat} (h : Builtin.Int.intBits z ≤ b) : z.natAbs < 2 ^ (b + 1) := by
  by_cases e : z.natAbs = 0
  · rw [e]; exact Nat.pow_pos (by decide)
  · have hz : z ≠ 0 := fun q => e (by rw [q]; rfl)
    have : Builtin.Int.intBits z = z.natAbs.log2 + 1 := by unfold Builtin.Int.intBits; simp [hz]
    exact (Nat.log2_lt e).mp (by omega)

theorem e_numbers (n : Nat) (S : Sto) (ns : List Int) (hb : ∀ z ∈ ns, Builtin.Int.intBits z ≤ 1048576) (k m : Nat) (hk : k ≤ 1000) (hm : m ≤ 100) :
    ∃ out : List Int, NumsOk out m ∧ Cn (n + 2) 16 [.list (ns.map .int), .int k, .int m] S = .ok (.list (out.map .int)) S := by
  rw [run__law_numbers]
  unfold b__law_numbers
  have ec := e_cell n S ns k
  obtain ⟨B, hB, hcell⟩ : ∃ B : Nat, B ≤ 1048577 ∧ (cellZ ns k).natAbs < 2 ^ B := by
    unfold cellZ
    cases h : ns[k]? with
    | none => exact ⟨0, by decide, by decide⟩
    | some z => exact ⟨Builtin.Int.intBits z + 1, Nat.succ_le_succ (hb z (List.mem_of_getElem? h)), bits_lt (Nat.le_refl _)⟩
  generalize cellZ ns k = cell at ec hcell
  have p18 : ∀ T : Sto, powD T (.int 10) (.int 18) = some (.int 1000000000000000000) := fun T => powD_ok (by decide) (by decide) (by decide)
  have p9 : ∀ T : Sto, powD T (.int 10) (.int 9) = some (.int 1000000000) := fun T => powD_ok (by decide) (by decide) (by decide)
  obtain ⟨env', S', e, hI⟩ := forL_inv (t := setN 6) (all := (List.range m).map fun (i : Nat) => PyData.int (i : Int))
    (b := (ifB (cmpT geB (var 3) (bin powD (lit (.int 10)) (lit (.int 18)))) (seqB (expB (methE appD (var 4) (consX (bin modD (bltE intD (consX (var 5) nilX)) (bin powD (lit (.int 10)) (lit (.int 9)))) nilX)))
    (asgB (bin fdivD (var 5) (bin powD (lit (.int 10)) (lit (.int 9)))) (setN 5))) (seqB (asgB (bin modD (bltE intD (consX (bin addD (bin addD (bin mulD (var 3) (lit (.int 48271))) (bin mulD (bin addD (var 6) (lit (.int 1))) (lit (.int 69621)))) (var 1)) nilX)) (lit (.int 2147483647))) (setN 7))
    (expB (methE appD (var 4) (consX (bin modD (bin modD (bltE intD (consX (bin addD (bin mulD (var 7) (lit (.int 16807))) (bin mulD (bin addD (var 6) (lit (.int 3))) (lit (.int 40692)))) nilX)) (lit (.int 2147483399))) (bin powD (lit (.int 10)) (lit (.int 9)))) nilX))))))
    (fun i env T => ∃ (out : List Int) (rest : Int) (r6 r7 : Option D), NumsOk out i ∧ T = S ++ [.lst (out.map .int)] ∧ env = [some (.list (ns.map .int)), some (.int k), some (.int m), some (.int cell), some (rf S.length), some (.int rest), r6, r7])
    ((List.range m).map fun (i : Nat) => PyData.int (i : Int)) 0 [some (.list (ns.map .int)), some (.int k), some (.int m), some (.int cell), some (rf S.length), some (.int cell), none, none] (S ++ [.lst []]) ⟨[], cell, none, none, ⟨rfl, fun x h => nomatch h⟩, rfl, rfl⟩
    fun j d env T hj ⟨out, rest, r6, r7, ho, hT, he⟩ => by
      subst hT he
      have hjm : j < m := by
        have := (List.getElem?_eq_some_iff.mp hj).1
        simpa using this
      have hd : d = .int (j : Int) := by
        rw [List.getElem?_map, List.getElem?_range hjm] at hj
        exact (Option.some.inj hj).symm
      subst hd
      have hol : (out.map PyData.int).length ≤ 1000 := by rw [List.length_map, ho.1]; omega
      have step : ∀ z : Int, 0 ≤ z → z < 1000000000 → NumsOk (out ++ [z]) (0 + j + 1) := fun z h0 h1 => ⟨by rw [List.length_append, ho.1]; rfl, fun x hx => by
        rcases List.mem_append.mp hx with h | h
        · exact ho.2 x h
        · rw [List.mem_singleton.mp h]; exact ⟨h0, h1⟩⟩
      by_cases hc : (1000000000000000000 : Int) ≤ cell
      · refine ⟨[some (.list (ns.map .int)), some (.int k), some (.int m), some (.int cell), some (rf S.length), some (.int rest), some (.int j), r7], [some (.list (ns.map .int)), some (.int k), some (.int m), some (.int cell), some (rf S.length), some (.int (rest / 1000000000)), some (.int j), r7],
          S ++ [.lst ((out ++ [rest % 1000000000]).map .int)], rfl, .inl ?_, out ++ [rest % 1000000000], rest / 1000000000, some (.int j), r7, step _ (Int.emod_nonneg _ (by decide)) (Int.emod_lt_of_pos _ (by decide)), rfl, rfl⟩
        simp [p18, p9, hc, modD_int (show (0 : Int) < 1000000000 by decide), fdivD_int (show (0 : Int) < 1000000000 by decide) (by decide), appD_ok hol]
      · have f1 : MulFits cell 48271 := fits_of (b := 20) hcell (by decide) (by omega)
        have f2 : MulFits ((j : Int) + 1) 69621 := fits_of (a := 10) (b := 20) (by omega) (by decide) (by decide)
        have f3 : MulFits ((j : Int) + 3) 40692 := fits_of (a := 10) (b := 20) (by omega) (by decide) (by decide)
        generalize htw : (cell * 48271 + ((j : Int) + 1) * 69621 + (k : Int)) % 2147483647 = tw
        have tw0 : 0 ≤ tw := by rw [← htw]; exact Int.emod_nonneg _ (by decide)
        have tw1 : tw < 2147483647 := by rw [← htw]; exact Int.emod_lt_of_pos _ (by decide)
        have f4 : MulFits tw 16807 := fits_of (a := 31) (b := 20) (by omega) (by decide) (by decide)
        generalize hz : (tw * 16807 + ((j : Int) + 3) * 40692) % 2147483399 % 1000000000 = z
        refine ⟨[some (.list (ns.map .int)), some (.int k), some (.int m), some (.int cell), some (rf S.length), some (.int rest), some (.int j), r7], [some (.list (ns.map .int)), some (.int k), some (.int m), some (.int cell), some (rf S.length), some (.int rest), some (.int j), some (.int tw)],
          S ++ [.lst ((out ++ [z]).map .int)], rfl, .inl ?_, out ++ [z], rest, some (.int j), some (.int tw), step _ (by rw [← hz]; exact Int.emod_nonneg _ (by decide)) (by rw [← hz]; exact Int.emod_lt_of_pos _ (by decide)), rfl, rfl⟩
        simp [p18, p9, hc, mulD_int f1, mulD_int f2, mulD_int f3, htw, mulD_int f4, hz, modD_int (show (0 : Int) < 1000000000 by decide), modD_int (show (0 : Int) < 2147483647 by decide), modD_int (show (0 : Int) < 2147483399 by decide), appD_ok hol]
  obtain ⟨out, rest, r6, r7, ho, rfl, rfl⟩ := hI
  refine ⟨out, by simpa using ho, ?_⟩
  refine (endB_seq (env1 := [some (.list (ns.map .int)), some (.int k), some (.int m), some (.int cell), none, none, none, none]) (S1 := S) (by simp [ec])).trans ?_
  refine (endB_seq (env1 := [some (.list (ns.map .int)), some (.int k), some (.int m), some (.int cell), some (rf S.length), none, none, none]) (S1 := S ++ [.lst []]) (by simp)).trans ?_
  refine (endB_seq (env1 := [some (.list (ns.map .int)), some (.int k), some (.int m), some (.int cell), some (rf S.length), some (.int cell), none, none]) (S1 := S ++ [.lst []]) (by simp)).trans ?_
  refine (endB_seq (forB_nx (rng_nat (by omega) (by simp)) e)).trans ?_
  simp [fin_last (flatL_ints out)]
end K01

namespace K01
open PySem PySem.Spec PyProof.Rows L2 Cor
mutual
/-- tuples made lists -/
def listed : D → D
  | .tuple ds => .list (listedL ds)
  | .list ds => .list ds
  | .none => .none
  | .bool b => .bool b
  | .int i => .int i
  | .str x => .str x
  | .dict k => .dict k
def listedL : List D → List D
  | [] => []
  | d :: ds => listed d :: listedL ds
end
theorem listedL_map : ∀ ds : List D, listedL ds = ds.map listed
  | [] => rfl
  | d :: ds => by rw [listedL, listedL_map ds, List.map_cons]
mutual
theorem listed_good : ∀ d : D, good d = true → good (listed d) = true
  | .none, _ => by simp [listed]
  | .bool _, _ => by simp [listed]
  | .int _, _ => by simp [listed]
  | .str _, _ => by simp [listed]
  | .list ds, h => by simpa [listed] using h
  | .tuple ds, h => by
    simp at h
    simp [listed]
    exact ⟨by rw [listedL_map, List.length_map]; exact h.1, listedL_good ds h.2⟩
  | .dict _, h => by simp at h
theorem listedL_good : ∀ ds : List D, goodL ds = true → goodL (listedL ds) = true
  | [], _ => by simp [listedL]
  | d :: ds, h => by simp at h; simp [listedL]; exact ⟨listed_good d h.1, listedL_good ds h.2⟩
end
mutual
theorem listed_dep : ∀ d : D, dep (listed d) = dep d
  | .none => rfl
  | .bool _ => rfl
  | .int _ => rfl
  | .str _ => rfl
  | .list ds => rfl
  | .tuple ds => by show depL (listedL ds) + 1 = depL ds + 1; rw [listedL_dep ds]
  | .dict _ => rfl
theorem listedL_dep : ∀ ds : List D, depL (listedL ds) = depL ds
  | [] => rfl
  | d :: ds => by show max (dep (listed d)) (depL (listedL ds)) = max (dep d) (depL ds); rw [listed_dep d, listedL_dep ds]
end
theorem e_listed : ∀ (n : Nat) (S : Sto) (x : D), good x = true → dep x ≤ n → Cn (n + 1) 18 [x] S = .ok (listed x) S
  | n, S, x, g, hd => by
    have f := good_flat x g
    have fl := good_flat _ (listed_good x g)
    rw [run__law_listed]
    unfold b__law_listed
    cases x with
    | tuple ds =>
      have hd : depL ds + 1 ≤ n := hd
      obtain ⟨m, rfl⟩ : ∃ m, n = m + 1 := ⟨n - 1, by omega⟩
      simp at g
      have hc := compL_map (t := setN 1) (c := yesT) (g := callE (Cn (m + 1)) 18 (consX (var 1) nilX)) (all := ds) (env := [some (.tuple ds), none]) (S := S) listed ds fun d md => ⟨[some (.tuple ds), some d], rfl, rfl, by
        simp
        exact e_listed m S d (goodL_mem g.2 d md) (depL_mem (n := m) (by omega) d md)⟩
      rw [← listedL_map] at hc
      have fl' : flatL (listedL ds) = true := by simpa [listed] using fl
      simp [kindD, isK, hc, len_size g.1, fl', listed]
    | dict k => simp at f
    | list ds => simp [kindD, isK, listed] at fl ⊢; exact fin_self (by simpa using fl)
    | none => simp [kindD, isK, listed]
    | bool b => simp [kindD, isK, listed]
    | int i => simp [kindD, isK, listed]
    | str y => simp [kindD, isK, listed]
  termination_by n => n
mutual
/-- ints and tuples of such -/
def tint : D → Bool
  | .int _ => true
  | .tuple ds => decide (ds.length ≤ 1000) && tintL ds
  | _ => false
def tintL : List D → Bool
  | [] => true
  | d :: ds => tint d && tintL ds
end
theorem tintL_mem : ∀ {ds : List D}, tintL ds = true → ∀ d ∈ ds, tint d = true
  | d :: ds, h, x, m => by
    have h : (tint d && tintL ds) = true := h
    simp at h
    rcases List.mem_cons.mp m with e | m
    · rw [e]; exact h.1
    · exact tintL_mem h.2 x m
theorem tintL_of : ∀ {ds : List D}, (∀ d ∈ ds, tint d = true) → tintL ds = true
  | [], _ => rfl
  | d :: ds, h => by show (tint d && tintL ds) = true; rw [h d (List.mem_cons_self ..), tintL_of fun x m => h x (List.mem_cons_of_mem _ m)]; rfl
mutual
theorem tint_good : ∀ d : D, tint d = true → good d = true
  | .int _, _ => by simp
  | .tuple ds, h => by
    have h : (decide (ds.length ≤ 1000) && tintL ds) = true := h
    simp at h
    simp
    exact ⟨h.1, tintL_good ds h.2⟩
  | .none, h => by cases h
  | .bool _, h => by cases h
  | .str _, h => by cases h
  | .list _, h => by cases h
  | .dict _, h => by cases h
theorem tintL_good : ∀ ds : List D, tintL ds = true → goodL ds = true
  | [], _ => by simp
  | d :: ds, h => by
    have h : (tint d && tintL ds) = true := h
    simp at h
    simp
    exact ⟨tint_good d h.1, tintL_good ds h.2⟩
end
mutual
theorem frozen_tint : ∀ d : D, tint d = true → frozen d = d
  | .int _, _ => rfl
  | .tuple ds, h => by
    have h : (decide (ds.length ≤ 1000) && tintL ds) = true := h
    simp at h
    show PyData.tuple (frozenL ds) = _
    rw [frozenL_tint ds h.2]
  | .none, h => by cases h
  | .bool _, h => by cases h
  | .str _, h => by cases h
  | .list _, h => by cases h
  | .dict _, h => by cases h
theorem frozenL_tint : ∀ ds : List D, tintL ds = true → frozenL ds = ds
  | [], _ => rfl
  | d :: ds, h => by
    have h : (tint d && tintL ds) = true := h
    simp at h
    rw [frozenL, frozen_tint d h.1, frozenL_tint ds h.2]
end
mutual
theorem frozen_listed : ∀ d : D, tint d = true → frozen (listed d) = d
  | .int _, _ => rfl
  | .tuple ds, h => by
    have h : (decide (ds.length ≤ 1000) && tintL ds) = true := h
    simp at h
    show PyData.tuple (frozenL (listedL ds)) = _
    rw [frozenL_listed ds h.2]
  | .none, h => by cases h
  | .bool _, h => by cases h
  | .str _, h => by cases h
  | .list _, h => by cases h
  | .dict _, h => by cases h
theorem frozenL_listed : ∀ ds : List D, tintL ds = true → frozenL (listedL ds) = ds
  | [], _ => rfl
  | d :: ds, h => by
    have h : (tint d && tintL ds) = true := h
    simp at h
    rw [listedL, frozenL, frozen_listed d h.1, frozenL_listed ds h.2]
end
theorem e_same : ∀ (n : Nat) (S : Sto) (x : D), tint x = true → dep x ≤ n → Cn (n + 1) 17 [x, x] S = .ok (.bool true) S
  | n, S, x, h, hd => by
    rw [run__law_same]
    unfold b__law_same
    cases x with
    | int i => simp [kindD, isK, isNon]
    | tuple ds =>
      have hd : depL ds + 1 ≤ n := hd
      obtain ⟨m, rfl⟩ : ∃ m, n = m + 1 := ⟨n - 1, by omega⟩
      have h : (decide (ds.length ≤ 1000) && tintL ds) = true := h
      simp at h
      have hl := forL_check (i := 2) (S := S) (v := .bool false) (b := ifB (notT (tru (callE (Cn (m + 1)) 17 (consX (bin idxD (var 0) (var 2)) (consX (bin idxD (var 1) (var 2)) nilX))))) (retB (lit (.bool false))) skipB) (all := (List.range ds.length).map fun (i : Nat) => PyData.int (i : Int)) (fun _ => true)
        ((List.range ds.length).map fun (i : Nat) => PyData.int (i : Int)) [some (.tuple ds), some (.tuple ds), none] fun d md r => by
          obtain ⟨i, hi, rfl⟩ := List.mem_map.mp md
          have hi := List.mem_range.mp hi
          have e1 : L2.atI ds (i : Int) = some ds[i] := by rw [atI_nat', List.getElem?_eq_getElem hi]
          have e2 := e_same m S ds[i] (tintL_mem h.2 _ (List.getElem_mem hi)) (depL_mem (n := m) (by omega) _ (List.getElem_mem hi))
          simp [e1, e2]
      have ha : ((List.range ds.length).map fun (i : Nat) => PyData.int (i : Int)).all (fun _ => true) = true := by simp
      rw [ha, if_pos rfl] at hl
      have step : ifB (orT (tru (isiE (var 1) [.tuple])) (tru (isiE (var 0) [.tuple]))) (seqB (ifB (orT (notT (tru (isiE (var 0) [.tuple]))) (orT (notT (tru (isiE (var 1) [.tuple]))) (cmpT neB (bltE lenD (consX (var 0) nilX)) (bltE lenD (consX (var 1) nilX))))) (retB (lit (.bool false))) skipB)
          (seqB (forB (rng1 (bltE lenD (consX (var 1) nilX))) (setN 2) (ifB (notT (tru (callE (Cn (m + 1)) 17 (consX (bin idxD (var 0) (var 2)) (consX (bin idxD (var 1) (var 2)) nilX))))) (retB (lit (.bool false))) skipB))
          (retB (lit (.bool true))))) skipB [some (.tuple ds), some (.tuple ds), none] S = .rt (.bool true) S := by
        have c : orT (tru (isiE (var 1) [.tuple])) (tru (isiE (var 0) [.tuple])) [some (.tuple ds), some (.tuple ds), none] S = .ok true S := by simp [kindD, isK]
        rw [ifB_eq, c, R.to_ok, if_pos rfl]
        rw [seq_nx (env1 := [some (.tuple ds), some (.tuple ds), none]) (S1 := S) (a := ifB (orT (notT (tru (isiE (var 0) [.tuple]))) (orT (notT (tru (isiE (var 1) [.tuple]))) (cmpT neB (bltE lenD (consX (var 0) nilX)) (bltE lenD (consX (var 1) nilX))))) (retB (lit (.bool false))) skipB) (by simp [kindD, isK])]
        rw [seq_nx (forB_nx (rng_nat (by omega) (by simp)) hl)]
        rfl
      rw [seqB_eq, step]
      simp
    | none => cases h
    | bool _ => cases h
    | str _ => cases h
    | list _ => cases h
    | dict _ => cases h
  termination_by n => n
def sizeZ (z : Int) : Int := if z % 4 = 0 then 1 + z / 4 % 1000 else 1 + z / 4 % 9
theorem sizeZ_ok (z : Int) : 1 ≤ sizeZ z ∧ sizeZ z ≤ 1000 := by unfold sizeZ; split <;> omega
theorem e_size (n : Nat) (S : Sto) (z : Int) : Cn (n + 1) 19 [.int z] S = .ok (.int (sizeZ z)) S := by
  rw [run__law_size]
  unfold b__law_size
  have m4 : ∀ (T : Sto) (i : Int), modD T (.int i) (.int 4) = some (.int (i % 4)) := fun _ _ => modD_int (by decide)
  have m1 : ∀ (T : Sto) (i : Int), modD T (.int i) (.int 1000) = some (.int (i % 1000)) := fun _ _ => modD_int (by decide)
  have m9 : ∀ (T : Sto) (i : Int), modD T (.int i) (.int 9) = some (.int (i % 9)) := fun _ _ => modD_int (by decide)
  have f4 : ∀ (T : Sto) (i : Int), fdivD T (.int i) (.int 4) = some (.int (i / 4)) := fun _ _ => fdivD_int (by decide) (by decide)
  by_cases h : z % 4 = 0
  · simp [m4, m1, f4, h, sizeZ]
  · simp [m4, m9, f4, h, sizeZ]
end K01

namespace K01
open PySem PySem.Spec PyProof.Rows L2 Cor
/-! ### pairs -/
abbrev pairT (p : Int × Int) : D := .tuple [.int p.1, .int p.2]
def leP (p q : Int × Int) : Bool := decide (p.1 < q.1 ∨ (p.1 = q.1 ∧ p.2 ≤ q.2))
theorem pair_sortOk (ps : List (Int × Int)) : SortOk (ps.map pairT) := by
  refine ⟨fun d hd => ?_, fun d hd d' hd' => ?_, .inl fun d hd => ?_⟩
  · obtain ⟨p, _, rfl⟩ := List.mem_map.mp hd
    exact ⟨rfl, Nat.le_of_ble_eq_true rfl⟩
  · obtain ⟨p, _, rfl⟩ := List.mem_map.mp hd
    obtain ⟨q, _, rfl⟩ := List.mem_map.mp hd'
    rfl
  · obtain ⟨p, _, rfl⟩ := List.mem_map.mp hd
    exact ⟨_, _, rfl⟩
theorem sort_pairs (ps : List (Int × Int)) (h : ps.length ≤ 1000) : sortG (ps.map pairT) = some ((ps.mergeSort leP).map pairT) := by
  rw [sortG_of (pair_sortOk ps) (by rw [List.length_map]; exact len_size h)]
  congr 1
  unfold sortL
  exact (List.map_mergeSort (r := leP) (s := PySem.W.dataLe false fun d : D => d) (f := pairT) (l := ps) (fun a _ b _ => by
    have q := congrFun (congrFun (PySem.W.dataLe_ii (fun p : Int × Int => p.1) (fun p : Int × Int => p.2)) a) b
    exact q.symm)).symm
theorem leP_trans (a b c : Int × Int) (h1 : leP a b = true) (h2 : leP b c = true) : leP a c = true := by
  unfold leP at *
  simp only [decide_eq_true_eq] at *
  omega
theorem leP_total (a b : Int × Int) : (leP a b || leP b a) = true := by
  unfold leP
  simp only [Bool.or_eq_true, decide_eq_true_eq]
  omega
theorem asc_pairs : ∀ qs : List (Int × Int), qs.Pairwise (fun a b => leP a b = true) → qs.Nodup → ascD (qs.map pairT) = true
  | [], _, _ => rfl
  | [_], _, _ => rfl
  | x :: y :: r, hp, hn => by
    rw [List.pairwise_cons] at hp
    rw [List.nodup_cons] at hn
    have ih := asc_pairs (y :: r) hp.2 hn.2
    show (PySem.W.dataLt (pairT x) (pairT y) && ascD ((y :: r).map pairT)) = true
    rw [ih, Bool.and_true, PySem.W.dataLt_ii]
    have h1 := hp.1 y (List.mem_cons_self ..)
    have h2 : x ≠ y := fun e => hn.1 (by rw [e]; exact List.mem_cons_self ..)
    unfold leP at h1
    simp only [decide_eq_true_eq] at h1 ⊢
    have : ¬ (x.1 = y.1 ∧ x.2 = y.2) := fun e => h2 (Prod.ext e.1 e.2)
    omega
theorem sorted_asc (ps : List (Int × Int)) (hn : ps.Nodup) : ascD ((ps.mergeSort leP).map pairT) = true := by
  refine asc_pairs _ ?_ ((List.mergeSort_perm ps leP).nodup_iff.mpr hn)
  exact List.pairwise_mergeSort leP_trans leP_total ps
/-! ### the dict of widths -/
abbrev Ent := (Int × Int) × Int
abbrev entK (k : Int × Int) : List Key := [.inl k.1, .inl k.2]
abbrev ent (p : Ent) : List Key × D := (entK p.1, .int p.2)
def putP (ps : List Ent) (k : Int × Int) (w : Int) : List Ent := if (ps.any fun p => decide (p.1 = k)) = true then ps.map (fun p => if p.1 = k then (p.1, w) else p) else ps ++ [(k, w)]
theorem entK_inj {a b : Int × Int} : entK a = entK b ↔ a = b := by
  constructor
  · intro h
    simp at h
    exact Prod.ext h.1 h.2
  · intro h; rw [h]
theorem put_ent (ps : List Ent) (k : Int × Int) (w : Int) : putL (ps.map ent) (entK k) (.int w) = (putP ps k w).map ent := by
  unfold putL putP
  have e : ((ps.map ent).any fun kv => decide (kv.1 = entK k)) = ps.any fun p => decide (p.1 = k) := by
    rw [List.any_map]
    congr 1
    funext p
    show decide (entK p.1 = entK k) = decide (p.1 = k)
    exact decide_eq_decide.mpr entK_inj
  rw [e]
  split
  · rw [List.map_map, List.map_map]
    congr 1
    funext p
    show (if entK p.1 = entK k then (entK p.1, PyData.int w) else ent p) = ent (if p.1 = k then (p.1, w) else p)
    by_cases h : p.1 = k
    · rw [if_pos h, if_pos (entK_inj.mpr h)]
    · rw [if_neg h, if_neg (fun q => h (entK_inj.mp q))]
  · rw [List.map_append]
    rfl
theorem putP_keys (ps : List Ent) (k : Int × Int) (w : Int) : (putP ps k w).map (·.1) = if (ps.any fun p => decide (p.1 = k)) = true then ps.map (·.1) else ps.map (·.1) ++ [k] := by
  unfold putP
  split
  · rw [List.map_map]
    congr 1
    funext p
    show (if p.1 = k then (p.1, w) else p).1 = p.1
    split <;> rfl
  · rw [List.map_append]
    rfl
theorem putP_nodup {ps : List Ent} {k : Int × Int} {w : Int} (h : (ps.map (·.1)).Nodup) : ((putP ps k w).map (·.1)).Nodup := by
  rw [putP_keys]
  split
  · exact h
  · rename_i hn
    rw [List.nodup_append]
    refine ⟨h, by simp, fun a ha b hb e => hn ?_⟩
    rw [List.mem_singleton] at hb
    obtain ⟨p, hp, e2⟩ := List.mem_map.mp ha
    exact List.any_eq_true.mpr ⟨p, hp, decide_eq_true (by rw [e2, e, hb])⟩
theorem putP_len (ps : List Ent) (k : Int × Int) (w : Int) : (putP ps k w).length ≤ ps.length + 1 := by
  unfold putP
  split
  · rw [List.length_map]; omega
  · rw [List.length_append]; exact Nat.le_refl _
theorem putP_all {ps : List Ent} {k : Int × Int} {w : Int} (P : Ent → Prop) (h : ∀ p ∈ ps, P p) (hk : P (k, w)) : ∀ p ∈ putP ps k w, P p := by
  unfold putP
  split
  · intro p hp
    obtain ⟨q, hq, rfl⟩ := List.mem_map.mp hp
    split
    · rename_i e; rw [e]; exact hk
    · exact h q hq
  · intro p hp
    rcases List.mem_append.mp hp with m | m
    · exact h p m
    · rw [List.mem_singleton.mp m]; exact hk
theorem val_ent : ∀ {ps : List Ent} {p : Ent}, (ps.map (·.1)).Nodup → p ∈ ps → valD (ps.map ent) (entK p.1) = some (.int p.2)
  | q :: ps, p, hn, hp => by
    rw [List.map_cons, List.nodup_cons] at hn
    unfold valD
    rw [List.map_cons, List.find?_cons]
    by_cases e : q.1 = p.1
    · have : decide ((ent q).1 = entK p.1) = true := decide_eq_true (entK_inj.mpr e)
      rw [this]
      rcases List.mem_cons.mp hp with h | h
      · rw [h]; rfl
      · have m : p.1 ∈ ps.map (·.1) := List.mem_map.mpr ⟨p, h, rfl⟩
        exact (hn.1 (by rw [e]; exact m)).elim
    · have : decide ((ent q).1 = entK p.1) = false := decide_eq_false fun z => e (entK_inj.mp z)
      rw [this]
      rcases List.mem_cons.mp hp with h | h
      · exact absurd (by rw [h]) e
      · exact val_ent hn.2 h
section
variable {S : Sto} {ps : List Ent}
theorem put_width {a b w : Int} (h : ps.length ≤ 1000) : putD (S ++ [.dT (ps.map ent)]) (rf S.length) (.tuple [.int a, .int b]) (.int w) = some (S ++ [.dT ((putP ps (a, b) w).map ent)]) := by
  unfold putD
  rw [refOf_rf]
  have e : (S ++ [Cell.dT (ps.map ent)])[S.length]? = some (.dT (ps.map ent)) := by simp
  simp only [e]
  have hl : (ps.map ent).length < sizeLine := by rw [List.length_map, sizeLine_eq]; omega
  show Option.map _ (if (ps.map ent).length < sizeLine then (some (entK (a, b))).map fun k => Cell.dT (putL (ps.map ent) k (.int w)) else none) = _
  rw [if_pos hl]
  show some ((S ++ [Cell.dT (ps.map ent)]).set S.length (.dT (putL (ps.map ent) (entK (a, b)) (.int w)))) = _
  rw [put_ent, set_last]
theorem keys_width (h : ps.length ≤ 1000) : skeysL (S ++ [.dT (ps.map ent)]) (rf S.length) = some (((ps.map (·.1)).mergeSort leP).map pairT) := by
  unfold skeysL cellD
  rw [refOf_rf]
  have e : (S ++ [Cell.dT (ps.map ent)])[S.length]? = some (.dT (ps.map ent)) := by simp
  simp only [e]
  show sortG ((ps.map ent).map fun q => PyData.tuple (q.1.map kD)) = _
  rw [← sort_pairs (ps.map (·.1)) (by rw [List.length_map]; exact h), List.map_map, List.map_map]
  rfl
theorem get_width {p : Ent} (hn : (ps.map (·.1)).Nodup) (hp : p ∈ ps) : idxD (S ++ [.dT (ps.map ent)]) (rf S.length) (pairT p.1) = some (.int p.2) := by
  show (cellD (S ++ [.dT (ps.map ent)]) (rf S.length)).bind (cellAt (pairT p.1)) = _
  unfold cellD
  rw [refOf_rf]
  have e : (S ++ [Cell.dT (ps.map ent)])[S.length]? = some (.dT (ps.map ent)) := by simp
  simp only [e]
  show (some (valD (ps.map ent) (entK p.1))).bind (fun o => o) = _
  rw [val_ent hn hp]
  rfl
end
end K01

namespace K01
open PySem PySem.Spec PyProof.Rows L2 Cor
/-! ### the law's web -/
abbrev rowT (r : Int × Int × Int) : D := .tuple [.int r.1, .int r.2.1, .int r.2.2]
abbrev webT (cs fs : List Int) (vs : List (Int × Int × Int)) : D := .tuple [.tuple (cs.map .int), .tuple (fs.map .int), .tuple (vs.map rowT)]
/-- as the law lays them -/
structure WebOk (cs fs : List Int) (vs : List (Int × Int × Int)) : Prop where
  c1 : 1 ≤ cs.length
  c6 : cs.length ≤ 6
  cz : ∀ c ∈ cs, 1 ≤ c ∧ c ≤ 1000
  f1 : 1 ≤ fs.length
  f3 : fs.length ≤ 3
  fz : ∀ f ∈ fs, 0 ≤ f ∧ f ≤ (cs.length : Int) - 1
  fa : ascD (fs.map .int) = true
  vn : vs.length ≤ 11
  vz : ∀ r ∈ vs, 0 ≤ r.1 ∧ r.1 ≤ (cs.length : Int) - 1 ∧ 0 ≤ r.2.1 ∧ r.2.1 ≤ (cs.length : Int) - 1 ∧ r.1 ≠ r.2.1 ∧ 1 ≤ r.2.2 ∧ r.2.2 ≤ 1000
  va : ascD (vs.map fun r => pairT (r.1, r.2.1)) = true
theorem asc_ints : ∀ fs : List Int, fs.Pairwise (fun a b => a < b) → ascD (fs.map PyData.int) = true
  | [], _ => rfl
  | [_], _ => rfl
  | x :: y :: r, h => by
    rw [List.pairwise_cons] at h
    show (PySem.W.dataLt (.int x) (.int y) && ascD ((y :: r).map PyData.int)) = true
    rw [asc_ints (y :: r) h.2, Bool.and_true, PySem.W.dataLt_int, decide_eq_true (h.1 y (List.mem_cons_self ..))]
theorem whom_ne {who r m : Int} (h0 : 0 ≤ who) (h1 : who < m) (r0 : 0 ≤ r) (r1 : r < m - 1) : (who + 1 + r) % m ≠ who ∧ 0 ≤ (who + 1 + r) % m ∧ (who + 1 + r) % m < m := by
  have a : 0 ≤ (who + 1 + r) % m := Int.emod_nonneg _ (by omega)
  have b : (who + 1 + r) % m < m := Int.emod_lt_of_pos _ (by omega)
  refine ⟨?_, a, b⟩
  by_cases h : who + 1 + r < m
  · rw [Int.emod_eq_of_lt (by omega) h]; omega
  · have : (who + 1 + r) % m = who + 1 + r - m := by
      rw [← Int.sub_emod_right, Int.emod_eq_of_lt (by omega) (by omega)]
    omega
/-- the loop over the widths -/
noncomputable abbrev wBody (n : Nat) : Blk := (seqB (asgB (bin idxD (var 0) (bin addD (lit (.int 8)) (var 7))) (setN 8))
    (seqB (asgB (bin modD (bltE intD (consX (var 8) nilX)) (var 1)) (setN 9))
    (seqB (asgB (bin modD (bin addD (bin addD (var 9) (lit (.int 1))) (bin modD (bltE intD (consX (bin fdivD (var 8) (lit (.int 6))) nilX)) (bin subD (var 1) (lit (.int 1))))) (var 1)) (setN 10))
    (putB (callE (Cn (n + 1)) 19 (consX (bin fdivD (var 8) (lit (.int 36))) nilX)) (var 5) (tupE (consX (var 9) (consX (var 10) nilX)))))))
def EntOk (many : Int) (p : Ent) : Prop := 0 ≤ p.1.1 ∧ p.1.1 < many ∧ 0 ≤ p.1.2 ∧ p.1.2 < many ∧ p.1.1 ≠ p.1.2 ∧ 1 ≤ p.2 ∧ p.2 ≤ 1000
theorem widths_loop (n : Nat) (S : Sto) (ns : List Int) (hn : ns.length = 20) (hz : ∀ x ∈ ns, 0 ≤ x ∧ x < 1000000000) (many : Int) (h2 : 1 < many) (h6 : many ≤ 6) (cap fl fo : D) (m : Nat) (hm : m ≤ 11) :
    ∃ (env' : Envd) (ps : List Ent), forL (setN 7) (wBody n) none ((List.range m).map fun (i : Nat) => PyData.int (i : Int)) ((List.range m).map fun (i : Nat) => PyData.int (i : Int)) [some (.list (ns.map .int)), some (.int many), some cap, some fl, some fo, some (rf S.length), none, none, none, none, none, none] (S ++ [.dT []]) =
        .nx env' (S ++ [.dT (ps.map ent)]) ∧ (ps.map (·.1)).Nodup ∧ ps.length ≤ m ∧ (∀ p ∈ ps, EntOk many p) ∧ ∃ r7 r8 r9 r10, env' = [some (.list (ns.map .int)), some (.int many), some cap, some fl, some fo, some (rf S.length), none, r7, r8, r9, r10, none] := by
  obtain ⟨env', S', e, ps, hS, h1, h3, h4, h5⟩ := forL_inv (t := setN 7) (b := wBody n) (all := (List.range m).map fun (i : Nat) => PyData.int (i : Int))
    (fun i env T => ∃ ps : List Ent, T = S ++ [.dT (ps.map ent)] ∧ (ps.map (·.1)).Nodup ∧ ps.length ≤ i ∧ (∀ p ∈ ps, EntOk many p) ∧ ∃ r7 r8 r9 r10, env = [some (.list (ns.map .int)), some (.int many), some cap, some fl, some fo, some (rf S.length), none, r7, r8, r9, r10, none])
    ((List.range m).map fun (i : Nat) => PyData.int (i : Int)) 0 [some (.list (ns.map .int)), some (.int many), some cap, some fl, some fo, some (rf S.length), none, none, none, none, none, none] (S ++ [.dT []]) ⟨[], rfl, .nil, Nat.le_refl _, (fun _ h => nomatch h), none, none, none, none, rfl⟩
    fun j d env T hj ⟨ps, hT, k1, k2, k3, r7, r8, r9, r10, he⟩ => by
      subst hT he
      have hjm : j < m := by
        have := (List.getElem?_eq_some_iff.mp hj).1
        simpa using this
      have hd : d = .int (j : Int) := by
        rw [List.getElem?_map, List.getElem?_range hjm] at hj
        exact (Option.some.inj hj).symm
      subst hd
      have hlt : 8 + j < ns.length := by omega
      have e8 : L2.atI (ns.map PyData.int) (8 + (j : Int)) = some (.int ns[8 + j]) := by
        have : (8 + (j : Int)) = ((8 + j : Nat) : Int) := by omega
        rw [this, getD_ints ns (8 + j) hlt]
      generalize hnum : ns[8 + j] = num at e8
      have num0 : 0 ≤ num := by rw [← hnum]; exact (hz _ (List.getElem_mem hlt)).1
      generalize hwho : num % many = who
      have w0 : 0 ≤ who := by rw [← hwho]; exact Int.emod_nonneg _ (by omega)
      have w1 : who < many := by rw [← hwho]; exact Int.emod_lt_of_pos _ (by omega)
      have hr0 : 0 ≤ num / 6 % (many - 1) := Int.emod_nonneg _ (by omega)
      have hr1 : num / 6 % (many - 1) < many - 1 := Int.emod_lt_of_pos _ (by omega)
      obtain ⟨q1, q2, q3⟩ := whom_ne w0 w1 hr0 hr1
      generalize hwhom : (who + 1 + num / 6 % (many - 1)) % many = whom at q1 q2 q3
      have es := e_size n (S ++ [.dT (ps.map ent)]) (num / 36)
      have hs := sizeZ_ok (num / 36)
      have hp := put_width (S := S) (ps := ps) (a := who) (b := whom) (w := sizeZ (num / 36)) (by omega)
      refine ⟨[some (.list (ns.map .int)), some (.int many), some cap, some fl, some fo, some (rf S.length), none, some (.int j), r8, r9, r10, none],
        [some (.list (ns.map .int)), some (.int many), some cap, some fl, some fo, some (rf S.length), none, some (.int j), some (.int num), some (.int who), some (.int whom), none],
        S ++ [.dT ((putP ps (who, whom) (sizeZ (num / 36))).map ent)], rfl, .inl ?_, putP ps (who, whom) (sizeZ (num / 36)), rfl, putP_nodup k1, ?_, putP_all (EntOk many) k3 ⟨w0, w1, q2, q3, Ne.symm q1, hs.1, hs.2⟩, some (.int j), some (.int num), some (.int who), some (.int whom), rfl⟩
      · have mm : ∀ (T : Sto) (i : Int), modD T (.int i) (.int many) = some (.int (i % many)) := fun _ _ => modD_int (by omega)
        have mm1 : ∀ (T : Sto) (i : Int), modD T (.int i) (.int (many - 1)) = some (.int (i % (many - 1))) := fun _ _ => modD_int (by omega)
        have f6 : ∀ (T : Sto) (i : Int), fdivD T (.int i) (.int 6) = some (.int (i / 6)) := fun _ _ => fdivD_int (by decide) (by decide)
        have f36 : ∀ (T : Sto) (i : Int), fdivD T (.int i) (.int 36) = some (.int (i / 36)) := fun _ _ => fdivD_int (by decide) (by decide)
        unfold wBody
        rw [seq_nx (a := asgB (bin idxD (var 0) (bin addD (lit (.int 8)) (var 7))) (setN 8)) (env1 := [some (.list (ns.map .int)), some (.int many), some cap, some fl, some fo, some (rf S.length), none, some (.int j), some (.int num), r9, r10, none]) (S1 := S ++ [.dT (ps.map ent)]) (by simp [e8])]
        rw [seq_nx (a := asgB (bin modD (bltE intD (consX (var 8) nilX)) (var 1)) (setN 9)) (env1 := [some (.list (ns.map .int)), some (.int many), some cap, some fl, some fo, some (rf S.length), none, some (.int j), some (.int num), some (.int who), r10, none]) (S1 := S ++ [.dT (ps.map ent)]) (by simp [mm, hwho])]
        rw [seq_nx (env1 := [some (.list (ns.map .int)), some (.int many), some cap, some fl, some fo, some (rf S.length), none, some (.int j), some (.int num), some (.int who), some (.int whom), none]) (S1 := S ++ [.dT (ps.map ent)]) (by simp [mm, mm1, f6, hwhom])]
        simp [f36, es, hp, len_size]
      · have := putP_len ps (who, whom) (sizeZ (num / 36))
        omega
  subst hS
  exact ⟨env', ps, e, h1, by simpa using h3, h4, h5⟩

theorem flags_pairwise (p : Nat → Bool) (m : Nat) : (((List.range m).filter p).map fun (i : Nat) => (i : Int)).Pairwise (fun a b => a < b) := by
  rw [List.pairwise_map]
  exact (List.pairwise_lt_range.filter p).imp fun h => by omega
theorem filter_ints (p : D → Bool) (m : Nat) : ((List.range m).map fun (i : Nat) => PyData.int (i : Int)).filter p = (((List.range m).filter fun (i : Nat) => p (.int (i : Int))).map fun (i : Nat) => (i : Int)).map PyData.int := by
  rw [List.filter_map, List.map_map]
  rfl
theorem cut3 (ds : List D) : Cor.cutD ds none (some 3) = ds.take 3 := by
  unfold Cor.cutD
  rw [HT.sIx_none]
  have e : HT.sIx ds.length ds.length (some 3) = min 3 ds.length := HT.sIx_nat ds.length ds.length 3
  rw [e, List.drop_zero, Nat.sub_zero]
  by_cases h : 3 ≤ ds.length
  · rw [Nat.min_eq_left h]
  · rw [Nat.min_eq_right (by omega), List.take_length, List.take_of_length_le (by omega)]

/-! ### trees of ints -/
mutual
def itree : D → Bool
  | .int _ => true
  | .list ds => itreeL ds
  | .tuple ds => itreeL ds
  | _ => false
def itreeL : List D → Bool
  | [] => true
  | d :: ds => itree d && itreeL ds
end
mutual
theorem itree_lay : ∀ d : D, itree d = true → PyData.canLay0 d = true ∧ d.depth = dep d ∧ flat d = true ∧ PyData.eqv d d = true
  | .int i, _ => ⟨rfl, rfl, rfl, by rw [eqv_int]; simp⟩
  | .list ds, h => by
    obtain ⟨h1, h2, h3, h4⟩ := itreeL_lay ds h
    exact ⟨h1, congrArg (· + 1) h2, h3, h4⟩
  | .tuple ds, h => by
    obtain ⟨h1, h2, h3, h4⟩ := itreeL_lay ds h
    exact ⟨h1, congrArg (· + 1) h2, h3, h4⟩
  | .none, h => by cases h
  | .bool _, h => by cases h
  | .str _, h => by cases h
  | .dict _, h => by cases h
theorem itreeL_lay : ∀ ds : List D, itreeL ds = true → PyData.canLayAll0 ds = true ∧ PyData.depthAll ds = depL ds ∧ flatL ds = true ∧ PyData.eqvAll ds ds = true
  | [], _ => ⟨rfl, rfl, rfl, rfl⟩
  | d :: ds, h => by
    have h : (itree d && itreeL ds) = true := h
    simp at h
    obtain ⟨a1, a2, a3, a4⟩ := itree_lay d h.1
    obtain ⟨b1, b2, b3, b4⟩ := itreeL_lay ds h.2
    refine ⟨?_, ?_, by simp [a3, b3], ?_⟩
    · show (PyData.canLay0 d && PyData.canLayAll0 ds) = true
      rw [a1, b1]; rfl
    · show max d.depth (PyData.depthAll ds) = max (dep d) (depL ds)
      rw [a2, b2]
    · show (PyData.eqv d d && PyData.eqvAll ds ds) = true
      rw [a4, b4]; rfl
end
theorem itree_ok {d : D} (h : itree d = true) (hd : dep d ≤ 64) : okD d = true := by
  obtain ⟨h1, h2, h3, _⟩ := itree_lay d h
  show (flat d && (PyData.canLay0 d && decide (d.depth ≤ 64))) = true
  rw [h1, h2, h3, decide_eq_true hd]; rfl
theorem eqB_self {S : Sto} {d : D} (h : itree d = true) (hd : dep d ≤ 64) : eqB S d d = some true := by
  obtain ⟨_, _, h3, h4⟩ := itree_lay d h
  unfold eqB
  rw [der_flat h3]
  show (if (okD d && okD d) = true then some (PyData.eqv d d) else none) = _
  rw [itree_ok h hd, h4]; rfl
theorem itreeL_of : ∀ {ds : List D}, (∀ d ∈ ds, itree d = true) → itreeL ds = true
  | [], _ => rfl
  | d :: ds, h => by show (itree d && itreeL ds) = true; rw [h d (List.mem_cons_self ..), itreeL_of fun x m => h x (List.mem_cons_of_mem _ m)]; rfl
theorem depL_ints : ∀ ns : List Int, depL (ns.map PyData.int) = 0
  | [] => rfl
  | n :: ns => by show max 0 (depL (ns.map PyData.int)) = 0; rw [depL_ints ns]; rfl
theorem itreeL_ints (ns : List Int) : itreeL (ns.map PyData.int) = true := itreeL_of fun d hd => by
  obtain ⟨i, _, rfl⟩ := List.mem_map.mp hd
  rfl
theorem eqB_empty {S : Sto} (ns : List Int) : eqB S (.tuple (ns.map .int)) (.tuple []) = some ns.isEmpty := by
  have h1 : okD (.tuple (ns.map .int)) = true := itree_ok (itreeL_ints ns) (by show depL (ns.map PyData.int) + 1 ≤ 64; rw [depL_ints]; decide)
  have h2 : okD (.tuple []) = true := rfl
  show (if (okD (.tuple (ns.map .int)) && okD (.tuple [])) = true then some (PyData.eqvAll (ns.map .int) []) else none) = _
  rw [h1, h2]
  cases ns <;> rfl
end K01

namespace K01
open PySem PySem.Spec PyProof.Rows L2 Cor
def look (ps : List Ent) (k : Int × Int) : Int := ((ps.find? fun p => decide (p.1 = k)).map (·.2)).getD 0
theorem look_of : ∀ {ps : List Ent} {p : Ent}, (ps.map (·.1)).Nodup → p ∈ ps → look ps p.1 = p.2
  | q :: ps, p, hn, hp => by
    rw [List.map_cons, List.nodup_cons] at hn
    unfold look
    rw [List.find?_cons]
    by_cases e : q.1 = p.1
    · rw [decide_eq_true e]
      rcases List.mem_cons.mp hp with h | h
      · rw [h]; rfl
      · have m : p.1 ∈ ps.map (·.1) := List.mem_map.mpr ⟨p, h, rfl⟩
        exact (hn.1 (by rw [e]; exact m)).elim
    · rw [decide_eq_false e]
      rcases List.mem_cons.mp hp with h | h
      · exact absurd (by rw [h]) e
      · exact look_of hn.2 h
def capH (ns : List Int) : D → D
  | .int i => .int (sizeZ ((ns[1 + i.toNat]?).getD 0))
  | d => d
def flagP (z0 : Int) : D → Bool
  | .int i => decide (z0 / (6 * 2 ^ i.toNat) % 2 = 1)
  | _ => false
def vouH (ps : List Ent) : D → D
  | .tuple [.int a, .int b] => rowT (a, b, look ps (a, b))
  | d => d
/-- the end: the vouchings -/
theorem web_end (S : Sto) (ns : List Int) (many : Int) (cs fl fs : List Int) (ps : List Ent) (r7 r8 r9 r10 : Option D) (hk : (ps.map (·.1)).Nodup) (hl : ps.length ≤ 11) (hc : cs.length ≤ 6) (hf : fs.length ≤ 3) (S0 : Sto) (hS : S0 = S) :
    endB S0 (seqB (asgB (frz (compF (valI (frz (skeysF (var 5)))) (setN 11) yesT (tupE (consX (bin idxD (var 11) (lit (.int 0))) (consX (bin idxD (var 11) (lit (.int 1))) (consX (bin idxD (var 5) (var 11)) nilX)))) [11])) (setN 6))
      (retB (tupE (consX (var 2) (consX (var 4) (consX (bltE tupleD (consX (var 6) nilX)) nilX)))))
      [some (.list (ns.map .int)), some (.int many), some (.tuple (cs.map .int)), some (.list (fl.map .int)), some (.tuple (fs.map .int)), some (rf S.length), none, r7, r8, r9, r10, none] (S ++ [.dT (ps.map ent)])) =
      .ok (webT cs fs (((ps.map (·.1)).mergeSort leP).map fun k => (k.1, k.2, look ps k))) S := by
  subst hS
  have hlen : ((ps.map (·.1)).mergeSort leP).length = ps.length := by rw [List.length_mergeSort, List.length_map]
  have hsk : skeysF (var 5) [some (.list (ns.map .int)), some (.int many), some (.tuple (cs.map .int)), some (.list (fl.map .int)), some (.tuple (fs.map .int)), some (rf S0.length), none, r7, r8, r9, r10, none] (S0 ++ [.dT (ps.map ent)]) = .ok (((ps.map (·.1)).mergeSort leP).map pairT) (S0 ++ [.dT (ps.map ent)]) := by
    unfold skeysF
    simp [keys_width (S := S0) (ps := ps) (by omega)]
  have hcomp := compL_map (t := setN 11) (c := yesT) (g := tupE (consX (bin idxD (var 11) (lit (.int 0))) (consX (bin idxD (var 11) (lit (.int 1))) (consX (bin idxD (var 5) (var 11)) nilX)))) (all := ((ps.map (·.1)).mergeSort leP).map pairT)
    (env := [some (.list (ns.map .int)), some (.int many), some (.tuple (cs.map .int)), some (.list (fl.map .int)), some (.tuple (fs.map .int)), some (rf S0.length), none, r7, r8, r9, r10, none]) (S := S0 ++ [.dT (ps.map ent)]) (vouH ps) (((ps.map (·.1)).mergeSort leP).map pairT) fun d md => by
      obtain ⟨k, hk2, rfl⟩ := List.mem_map.mp md
      have hk3 := (List.mergeSort_perm (ps.map (·.1)) leP).mem_iff.mp hk2
      obtain ⟨p, hp, rfl⟩ := List.mem_map.mp hk3
      refine ⟨[some (.list (ns.map .int)), some (.int many), some (.tuple (cs.map .int)), some (.list (fl.map .int)), some (.tuple (fs.map .int)), some (rf S0.length), none, r7, r8, r9, r10, some (pairT p.1)], rfl, rfl, ?_⟩
      have hg := get_width (S := S0) hk hp
      have e : vouH ps (pairT p.1) = rowT (p.1.1, p.1.2, p.2) := by
        show rowT (p.1.1, p.1.2, look ps (p.1.1, p.1.2)) = _
        rw [show ((p.1.1, p.1.2) : Int × Int) = p.1 from rfl, look_of hk hp]
      rw [e]
      simp [hg, len_size]
  have hv : (((ps.map (·.1)).mergeSort leP).map pairT).map (vouH ps) = (((ps.map (·.1)).mergeSort leP).map fun k => (k.1, k.2, look ps k)).map rowT := by
    rw [List.map_map, List.map_map]
    rfl
  rw [hv] at hcomp
  generalize hvs : (((ps.map (·.1)).mergeSort leP).map fun k => (k.1, k.2, look ps k)) = vs at hcomp
  have hvl : vs.length ≤ 11 := by rw [← hvs, List.length_map, hlen]; exact hl
  refine (endB_seq (env1 := [some (.list (ns.map .int)), some (.int many), some (.tuple (cs.map .int)), some (.list (fl.map .int)), some (.tuple (fs.map .int)), some (rf S0.length), some (.list (vs.map rowT)), r7, r8, r9, r10, none]) (S1 := S0 ++ [.dT (ps.map ent)]) ?_).trans ?_
  · rw [asgB_eq, frz_eq, compF_eq, valI_eq, frz_eq, hsk]
    simp only [R.bind_ok, itemsD_list, lift_some, wipeE_cons, wipeE_nil]
    rw [if_pos (by rw [List.length_map, hlen]; exact len_size (by omega))]
    have hw : List.set [some (PyData.list (ns.map .int)), some (.int many), some (.tuple (cs.map .int)), some (.list (fl.map .int)), some (.tuple (fs.map .int)), some (rf S0.length), none, r7, r8, r9, r10, none] 11 none = [some (PyData.list (ns.map .int)), some (.int many), some (.tuple (cs.map .int)), some (.list (fl.map .int)), some (.tuple (fs.map .int)), some (rf S0.length), none, r7, r8, r9, r10, none] := rfl
    rw [hw, hcomp]
    rfl
  · have fl1 : flatL (cs.map PyData.int) = true := flatL_ints cs
    have fl2 : flatL (fs.map PyData.int) = true := flatL_ints fs
    have fl3 : flatL (vs.map rowT) = true := flatL_iff.mpr fun d hd => by
      obtain ⟨r, _, rfl⟩ := List.mem_map.mp hd
      simp
    simp [len_size, fl1, fl2, fl3]
theorem web_ok {cs fs : List Int} {ps : List Ent} (c1 : 1 ≤ cs.length) (c6 : cs.length ≤ 6) (cz : ∀ c ∈ cs, 1 ≤ c ∧ c ≤ 1000) (f1 : 1 ≤ fs.length) (f3 : fs.length ≤ 3) (fz : ∀ f ∈ fs, 0 ≤ f ∧ f ≤ (cs.length : Int) - 1) (fa : ascD (fs.map .int) = true)
    (hk : (ps.map (·.1)).Nodup) (hl : ps.length ≤ 11) (he : ∀ p ∈ ps, EntOk cs.length p) : WebOk cs fs (((ps.map (·.1)).mergeSort leP).map fun k => (k.1, k.2, look ps k)) where
  c1 := c1
  c6 := c6
  cz := cz
  f1 := f1
  f3 := f3
  fz := fz
  fa := fa
  vn := by rw [List.length_map, List.length_mergeSort, List.length_map]; exact hl
  vz := fun r hr => by
    obtain ⟨k, hk2, rfl⟩ := List.mem_map.mp hr
    have hk3 := (List.mergeSort_perm (ps.map (·.1)) leP).mem_iff.mp hk2
    obtain ⟨p, hp, rfl⟩ := List.mem_map.mp hk3
    obtain ⟨a1, a2, a3, a4, a5, a6, a7⟩ := he p hp
    rw [look_of hk hp]
    exact ⟨a1, by show p.1.1 ≤ _; omega, a3, by show p.1.2 ≤ _; omega, a5, a6, a7⟩
  va := by
    rw [List.map_map]
    exact sorted_asc _ hk
end K01

namespace K01
open PySem PySem.Spec PyProof.Rows L2 Cor
theorem flag_step {C : Clls} {S : Sto} {z0 P Q R : Int} {b : D} {l : List D} {v : Envd} {id : Nat} (h0 : v[0]? = some (some (.list l))) (h7 : v[7]? = some (some b)) (e0 : L2.atI l 0 = some (.int z0))
    (hc : C id [.int 2, b] S = .ok (.int P) S) (mf : mulD S (.int 6) (.int P) = some (.int Q)) (fd : fdivD S (.int z0) (.int Q) = some (.int R))
    (md2 : ∀ (T : Sto) (i : Int), modD T (.int i) (.int 2) = some (.int (i % 2))) :
    cmpT eqB (bin modD (bltE intD (consX (bin fdivD (bin idxD (var 0) (lit (.int 0))) (bin mulD (lit (.int 6)) (callE C id (consX (lit (.int 2)) (consX (var 7) nilX))))) nilX)) (lit (.int 2))) (lit (.int 1)) v S = .ok (decide (R % 2 = 1)) S := by
  simp [h0, h7, e0, hc, mf, fd, md2]
theorem e_web (n : Nat) (S : Sto) (ns : List Int) (hn : ns.length = 20) (hz : ∀ x ∈ ns, 0 ≤ x ∧ x < 1000000000) : ∃ cs fs vs, WebOk cs fs vs ∧ Cn (n + 2) 20 [.list (ns.map .int)] S = .ok (webT cs fs vs) S := by
  rw [run__law_web]
  unfold b__law_web
  have h0 : 0 < ns.length := by omega
  have h7 : 7 < ns.length := by omega
  have e0 : L2.atI (ns.map PyData.int) 0 = some (.int ns[0]) := getD_ints ns 0 h0
  have e7 : L2.atI (ns.map PyData.int) 7 = some (.int ns[7]) := getD_ints ns 7 h7
  have p0 := hz _ (List.getElem_mem h0)
  have p7 := hz _ (List.getElem_mem h7)
  generalize ns[0] = z0 at e0 p0
  generalize ns[7] = z7 at e7 p7
  obtain ⟨M, hM, m1, m6⟩ : ∃ M : Nat, (1 + z0 % 6 : Int) = (M : Int) ∧ 1 ≤ M ∧ M ≤ 6 := ⟨(1 + z0 % 6).toNat, by omega, by omega, by omega⟩
  have m6' : ∀ (T : Sto) (i : Int), modD T (.int i) (.int 6) = some (.int (i % 6)) := fun _ _ => modD_int (by decide)
  have md2 : ∀ (T : Sto) (i : Int), modD T (.int i) (.int 2) = some (.int (i % 2)) := fun _ _ => modD_int (by decide)
  have md12 : ∀ (T : Sto) (i : Int), modD T (.int i) (.int 12) = some (.int (i % 12)) := fun _ _ => modD_int (by decide)
  have mdM : ∀ (T : Sto) (i : Int), modD T (.int i) (.int (M : Int)) = some (.int (i % M)) := fun _ _ => modD_int (by omega)
  have fd4 : ∀ (T : Sto) (i : Int), fdivD T (.int i) (.int 400) = some (.int (i / 400)) := fun _ _ => fdivD_int (by decide) (by decide)
  -- many
  refine ?_
  have s1 : ∀ b, endB S (seqB (asgB (bin addD (lit (.int 1)) (bin modD (bltE intD (consX (bin idxD (var 0) (lit (.int 0))) nilX)) (lit (.int 6)))) (setN 1)) b [some (.list (ns.map .int)), none, none, none, none, none, none, none, none, none, none, none] S) =
      endB S (b [some (.list (ns.map .int)), some (.int M), none, none, none, none, none, none, none, none, none, none] S) := fun b => endB_seq (by simp [e0, m6', hM])
  rw [s1]
  -- capacities
  generalize hcs : (List.range M).map (fun (i : Nat) => sizeZ ((ns[1 + i]?).getD 0)) = cs
  have csl : cs.length = M := by rw [← hcs]; simp
  have csz : ∀ c ∈ cs, 1 ≤ c ∧ c ≤ 1000 := fun c hc => by
    rw [← hcs] at hc
    obtain ⟨i, _, rfl⟩ := List.mem_map.mp hc
    exact sizeZ_ok _
  have hcap := compL_map (t := setN 7) (c := yesT) (g := callE (Cn (n + 1)) 19 (consX (bin idxD (var 0) (bin addD (lit (.int 1)) (var 7))) nilX)) (all := (List.range M).map fun (i : Nat) => PyData.int (i : Int)) (env := [some (.list (ns.map .int)), some (.int M), none, none, none, none, none, none, none, none, none, none]) (S := S) (capH ns) ((List.range M).map fun (i : Nat) => PyData.int (i : Int)) fun d md => by
    obtain ⟨i, hi, rfl⟩ := List.mem_map.mp md
    have hi := List.mem_range.mp hi
    have hlt : 1 + i < ns.length := by omega
    have e1 : L2.atI (ns.map PyData.int) (1 + (i : Int)) = some (.int ns[1 + i]) := by
      have : (1 + (i : Int)) = ((1 + i : Nat) : Int) := by omega
      rw [this, getD_ints ns (1 + i) hlt]
    refine ⟨[some (.list (ns.map .int)), some (.int M), none, none, none, none, none, some (.int i), none, none, none, none], rfl, rfl, ?_⟩
    have e2 : capH ns (.int (i : Int)) = .int (sizeZ ns[1 + i]) := by
      show PyData.int (sizeZ ((ns[1 + ((i : Int)).toNat]?).getD 0)) = _
      rw [Int.toNat_natCast, List.getElem?_eq_getElem hlt]
      rfl
    simp [e1, e2, e_size]
  have hcapE : ((List.range M).map fun (i : Nat) => PyData.int (i : Int)).map (capH ns) = cs.map .int := by
    rw [← hcs, List.map_map, List.map_map]
    apply List.map_congr_left
    intro i _
    show PyData.int (sizeZ ((ns[1 + ((i : Int)).toNat]?).getD 0)) = _
    rw [Int.toNat_natCast]
    rfl
  rw [hcapE] at hcap
  have s2 : ∀ b, endB S (seqB (asgB (bltE tupleD (consX (frz (compF (rng1 (var 1)) (setN 7) yesT (callE (Cn (n + 1)) 19 (consX (bin idxD (var 0) (bin addD (lit (.int 1)) (var 7))) nilX)) [7])) nilX)) (setN 2)) b [some (.list (ns.map .int)), some (.int M), none, none, none, none, none, none, none, none, none, none] S) =
      endB S (b [some (.list (ns.map .int)), some (.int M), some (.tuple (cs.map .int)), none, none, none, none, none, none, none, none, none] S) := fun b => endB_seq (by
    rw [asgB_eq, bltE_eq, consX_eq, frz_eq, compF_eq, rng_nat (m := M) (by omega) (by simp)]
    simp only [R.bind_ok, wipeE_cons, wipeE_nil]
    rw [if_pos (by rw [List.length_map, List.length_range]; exact len_size (by omega))]
    rw [show List.set [some (PyData.list (ns.map .int)), some (.int M), none, none, none, none, none, none, none, none, none, none] 7 none = [some (PyData.list (ns.map .int)), some (.int M), none, none, none, none, none, none, none, none, none, none] from rfl, hcap]
    rfl)
  rw [s2]
  -- flags
  generalize hfl : ((List.range M).filter fun (i : Nat) => flagP z0 (.int (i : Int))).map (fun (i : Nat) => (i : Int)) = fl
  have flp : fl.Pairwise (fun a b => a < b) := by rw [← hfl]; exact flags_pairwise _ M
  have flz : ∀ f ∈ fl, 0 ≤ f ∧ f ≤ (M : Int) - 1 := fun f hf => by
    rw [← hfl] at hf
    obtain ⟨i, hi, rfl⟩ := List.mem_map.mp hf
    have := List.mem_range.mp (List.mem_filter.mp hi).1
    omega
  have hflg := compL_filter (t := setN 7) (c := cmpT eqB (bin modD (bltE intD (consX (bin fdivD (bin idxD (var 0) (lit (.int 0))) (bin mulD (lit (.int 6)) (callE (Cn (n + 1)) 14 (consX (lit (.int 2)) (consX (var 7) nilX))))) nilX)) (lit (.int 2))) (lit (.int 1))) (g := var 7) (all := (List.range M).map fun (i : Nat) => PyData.int (i : Int))
    (env := [some (.list (ns.map .int)), some (.int M), some (.tuple (cs.map .int)), none, none, none, none, none, none, none, none, none]) (S := S) (flagP z0) id ((List.range M).map fun (i : Nat) => PyData.int (i : Int)) fun d md => by
    obtain ⟨i, hi, rfl⟩ := List.mem_map.mp md
    have hi := List.mem_range.mp hi
    refine ⟨[some (.list (ns.map .int)), some (.int M), some (.tuple (cs.map .int)), none, none, none, none, some (.int i), none, none, none, none], rfl, ?_, fun _ => rfl⟩
    have ep := e_power n S i (by omega)
    have f6 : MulFits 6 (2 ^ i) := fits_of (a := 3) (b := 7) (by decide) (by
      rw [Int.natAbs_pow]
      exact Nat.pow_lt_pow_right (by decide) (by omega)) (by decide)
    have b1 : (0 : Int) < 2 ^ i := Int.pow_pos (by decide)
    have b2 : (2 : Int) ^ i ≤ 64 := by
      have : i = 0 ∨ i = 1 ∨ i = 2 ∨ i = 3 ∨ i = 4 ∨ i = 5 := by omega
      rcases this with h | h | h | h | h | h <;> (subst h; decide)
    have fd : fdivD S (.int z0) (.int (6 * 2 ^ i)) = some (.int (z0 / (6 * 2 ^ i))) := fdivD_int (by omega) (by omega)
    exact flag_step (id := 14) rfl rfl e0 ep (mulD_int f6) fd md2
  rw [List.map_id, filter_ints, hfl] at hflg
  have s3 : ∀ b, endB S (seqB (asgB (frz (compF (rng1 (var 1)) (setN 7) (cmpT eqB (bin modD (bltE intD (consX (bin fdivD (bin idxD (var 0) (lit (.int 0))) (bin mulD (lit (.int 6)) (callE (Cn (n + 1)) 14 (consX (lit (.int 2)) (consX (var 7) nilX))))) nilX)) (lit (.int 2))) (lit (.int 1))) (var 7) [7])) (setN 3)) b [some (.list (ns.map .int)), some (.int M), some (.tuple (cs.map .int)), none, none, none, none, none, none, none, none, none] S) =
      endB S (b [some (.list (ns.map .int)), some (.int M), some (.tuple (cs.map .int)), some (.list (fl.map .int)), none, none, none, none, none, none, none, none] S) := fun b => endB_seq (by
    rw [asgB_eq, frz_eq, compF_eq, rng_nat (m := M) (by omega) (by simp)]
    simp only [R.bind_ok, wipeE_cons, wipeE_nil]
    rw [if_pos (by rw [List.length_map, List.length_range]; exact len_size (by omega))]
    rw [show List.set [some (PyData.list (ns.map .int)), some (.int M), some (.tuple (cs.map .int)), none, none, none, none, none, none, none, none, none] 7 none = [some (PyData.list (ns.map .int)), some (.int M), some (.tuple (cs.map .int)), none, none, none, none, none, none, none, none, none] from rfl, hflg]
    rfl)
  rw [s3]
  -- founders
  have s4 : ∀ b, endB S (seqB (asgB (bltE tupleD (consX (slA (var 3) noP (someP (lit (.int 3)))) nilX)) (setN 4)) b [some (.list (ns.map .int)), some (.int M), some (.tuple (cs.map .int)), some (.list (fl.map .int)), none, none, none, none, none, none, none, none] S) =
      endB S (b [some (.list (ns.map .int)), some (.int M), some (.tuple (cs.map .int)), some (.list (fl.map .int)), some (.tuple ((fl.take 3).map .int)), none, none, none, none, none, none, none] S) := fun b => endB_seq (by
    have e : slV S (.list (fl.map .int)) none (some 3) = some (.list ((fl.take 3).map .int)) := by
      show some (PyData.list (Cor.cutD (fl.map .int) none (some 3))) = _
      rw [cut3, List.map_take]
    simp [e])
  rw [s4]
  obtain ⟨fs, f1, f3, fz, fa, s5⟩ : ∃ fs : List Int, 1 ≤ fs.length ∧ fs.length ≤ 3 ∧ (∀ f ∈ fs, 0 ≤ f ∧ f ≤ (M : Int) - 1) ∧ ascD (fs.map .int) = true ∧
      ∀ b, endB S (seqB (ifB (cmpT eqB (var 4) (tupE nilX)) (asgB (tupE (consX (bin modD (bltE intD (consX (bin fdivD (bin idxD (var 0) (lit (.int 0))) (lit (.int 400))) nilX)) (var 1)) nilX)) (setN 4)) skipB) b [some (.list (ns.map .int)), some (.int M), some (.tuple (cs.map .int)), some (.list (fl.map .int)), some (.tuple ((fl.take 3).map .int)), none, none, none, none, none, none, none] S) =
        endB S (b [some (.list (ns.map .int)), some (.int M), some (.tuple (cs.map .int)), some (.list (fl.map .int)), some (.tuple (fs.map .int)), none, none, none, none, none, none, none] S) := by
    have hem := eqB_empty (S := S) (fl.take 3)
    cases hfe : fl.take 3 with
    | nil =>
      rw [hfe] at hem
      refine ⟨[z0 / 400 % M], by simp, by simp, fun f hf => ?_, rfl, fun b => endB_seq ?_⟩
      · rw [List.mem_singleton.mp hf]
        have := Int.emod_nonneg (z0 / 400) (show (M : Int) ≠ 0 by omega)
        have := Int.emod_lt_of_pos (z0 / 400) (show (0 : Int) < M by omega)
        omega
      · simp at hem
        simp [hem, e0, fd4, mdM, len_size]
    | cons f r =>
      have hsub : ∀ x ∈ fl.take 3, x ∈ fl := fun x hx => List.mem_of_mem_take hx
      refine ⟨f :: r, by simp, by have := congrArg List.length hfe; rw [List.length_take] at this; omega, fun x hx => flz x (hsub x (by rw [hfe]; exact hx)), ?_, fun b => endB_seq ?_⟩
      · rw [← hfe]
        exact asc_ints _ (flp.sublist (List.take_sublist _ _))
      · rw [hfe] at hem
        have hem : eqB S (.tuple ((f :: r).map .int)) (.tuple []) = some false := hem
        rw [ifB_eq, cmpT_eq]
        rw [show var 4 [some (PyData.list (ns.map .int)), some (.int M), some (.tuple (cs.map .int)), some (.list (fl.map .int)), some (.tuple ((f :: r).map .int)), none, none, none, none, none, none, none] S = .ok (.tuple ((f :: r).map .int)) S from rfl]
        rw [R.bind_ok, tupE_eq, nilX_eq, R.bind_ok, if_pos (len_size (by decide)), R.bind_ok, hem]
        rfl
  rw [s5]
  -- widths
  have s6 : ∀ b, endB S (seqB (asgB (newE (.dT [])) (setN 5)) b [some (.list (ns.map .int)), some (.int M), some (.tuple (cs.map .int)), some (.list (fl.map .int)), some (.tuple (fs.map .int)), none, none, none, none, none, none, none] S) =
      endB S (b [some (.list (ns.map .int)), some (.int M), some (.tuple (cs.map .int)), some (.list (fl.map .int)), some (.tuple (fs.map .int)), some (rf S.length), none, none, none, none, none, none] (S ++ [.dT []])) := fun b => endB_seq (by simp)
  rw [s6]
  obtain ⟨m, hm, hm2⟩ : ∃ m : Nat, (z7 % 12 : Int) = (m : Int) ∧ m ≤ 11 := ⟨(z7 % 12).toNat, by omega, by omega⟩
  by_cases hM1 : (1 : Int) < M
  · obtain ⟨env', ps, hw, k1, k2, k3, r7, r8, r9, r10, he⟩ := widths_loop n S ns hn hz M hM1 (by omega) (.tuple (cs.map .int)) (.list (fl.map .int)) (.tuple (fs.map .int)) m hm2
    subst he
    refine ⟨cs, fs, _, web_ok (by omega) (by omega) csz f1 f3 (by rw [csl]; exact fz) fa k1 (Nat.le_trans k2 hm2) (by rw [csl]; exact k3), ?_⟩
    refine (endB_seq (b := _) (env1 := _) (S1 := _) (?_ : ifB _ _ _ _ _ = Fl.nx _ _)).trans (web_end S ns M cs fl fs ps r7 r8 r9 r10 k1 (Nat.le_trans k2 hm2) (by omega) f3 S rfl)
    rw [ifB_eq]
    rw [show cmpT gtB (var 1) (lit (.int 1)) [some (PyData.list (ns.map .int)), some (.int M), some (.tuple (cs.map .int)), some (.list (fl.map .int)), some (.tuple (fs.map .int)), some (rf S.length), none, none, none, none, none, none] (S ++ [.dT []]) = .ok true (S ++ [.dT []]) by simp [hM1]]
    rw [R.to_ok, if_pos rfl]
    exact forB_nx (rng_nat (m := m) (by omega) (by simp [e7, md12, hm])) hw
  · refine ⟨cs, fs, _, web_ok (ps := []) (by omega) (by omega) csz f1 f3 (by rw [csl]; exact fz) fa .nil (by decide) (fun _ h => nomatch h), ?_⟩
    refine (endB_seq (b := _) (env1 := _) (S1 := _) (?_ : ifB _ _ _ _ _ = Fl.nx _ _)).trans (web_end S ns M cs fl fs [] none none none none .nil (by decide) (by omega) f3 S rfl)
    rw [ifB_eq]
    rw [show cmpT gtB (var 1) (lit (.int 1)) [some (PyData.list (ns.map .int)), some (.int M), some (.tuple (cs.map .int)), some (.list (fl.map .int)), some (.tuple (fs.map .int)), some (rf S.length), none, none, none, none, none, none] (S ++ [.dT []]) = .ok false (S ++ [.dT []]) by simp [hM1]]
    rfl
end K01

namespace K01
open PySem PySem.Spec PyProof.Rows L2 Cor
/-! ### a web, frozen or listed -/
theorem items_frozen (x : D) : items (frozen x) = (items x).map frozenL := by cases x <;> rfl
theorem between_frozen (x : D) (lo hi : Int) : between (frozen x) lo hi = between x lo hi := by cases x <;> rfl
theorem frozen_between {x : D} {lo hi : Int} (h : between x lo hi = true) : frozen x = x := by
  obtain ⟨i, rfl, _⟩ := between_int h
  rfl
theorem all_frozen (ds : List D) (lo hi : Int) : (frozenL ds).all (fun d => between d lo hi) = ds.all fun d => between d lo hi := by
  rw [frozenL_map, List.all_map]
  congr 1
  funext d
  exact between_frozen d lo hi
theorem frozenL_len (ds : List D) : (frozenL ds).length = ds.length := by rw [frozenL_map, List.length_map]
theorem frozenL_between {ds : List D} {lo hi : Int} (h : ds.all (fun d => between d lo hi) = true) : frozenL ds = ds := by
  rw [frozenL_map]
  conv => rhs; rw [← List.map_id ds]
  apply List.map_congr_left
  intro d hd
  exact frozen_between (List.all_eq_true.mp h d hd)
theorem numSet_frozen (x : D) (lo hi : Int) : numSet (frozen x) lo hi = numSet x lo hi := by
  unfold numSet
  rw [items_frozen]
  cases items x with
  | none => rfl
  | some ds =>
    show ((frozenL ds).all (fun d => between d lo hi) && ascD (frozenL ds)) = (ds.all (fun d => between d lo hi) && ascD ds)
    rw [all_frozen]
    cases h : ds.all (fun d => between d lo hi) with
    | false => rfl
    | true => rw [frozenL_between h]
theorem rowOk_frozen (many : Int) (x : D) : rowOk many (frozen x) = rowOk many x := by
  unfold rowOk
  rw [items_frozen]
  cases items x with
  | none => rfl
  | some ds =>
    match ds with
    | [] => rfl
    | [_] => rfl
    | [_, _] => rfl
    | _ :: _ :: _ :: _ :: _ => rfl
    | [a, b, c] =>
      show (between (frozen a) 0 (many - 1) && between (frozen b) 0 (many - 1) && !PyData.eqv (frozen a) (frozen b) && between (frozen c) 1 1000) = (between a 0 (many - 1) && between b 0 (many - 1) && !PyData.eqv a b && between c 1 1000)
      rw [between_frozen, between_frozen, between_frozen]
      cases h1 : between a 0 (many - 1) with
      | false => rfl
      | true =>
        cases h2 : between b 0 (many - 1) with
        | false => rfl
        | true => rw [frozen_between h1, frozen_between h2]
theorem pairOf_frozen {many : Int} {x : D} (h : rowOk many x = true) : pairOf (frozen x) = pairOf x := by
  obtain ⟨a, b, c, h1, _⟩ := row_pair h
  unfold pairOf
  rw [items_frozen, h1]
  rfl
theorem vouchOk_frozen (x : D) (many : Int) : vouchOk (frozen x) many = vouchOk x many := by
  unfold vouchOk
  rw [items_frozen]
  cases items x with
  | none => rfl
  | some ds =>
    show (decide ((frozenL ds).length ≤ 60) && (frozenL ds).all (rowOk many) && ascD ((frozenL ds).map pairOf)) = (decide (ds.length ≤ 60) && ds.all (rowOk many) && ascD (ds.map pairOf))
    rw [frozenL_len]
    have e : (frozenL ds).all (rowOk many) = ds.all (rowOk many) := by
      rw [frozenL_map, List.all_map]
      congr 1
      funext d
      exact rowOk_frozen many d
    rw [e]
    cases h : ds.all (rowOk many) with
    | false => rw [Bool.and_false, Bool.false_and, Bool.false_and]
    | true =>
      have e2 : (frozenL ds).map pairOf = ds.map pairOf := by
        rw [frozenL_map, List.map_map]
        apply List.map_congr_left
        intro d hd
        exact pairOf_frozen (List.all_eq_true.mp h d hd)
      rw [e2]
theorem isWeb_frozen (x : D) : isWeb (frozen x) = isWeb x := by
  unfold isWeb
  rw [items_frozen]
  cases items x with
  | none => rfl
  | some ds =>
    match ds with
    | [] => rfl
    | [_] => rfl
    | [_, _] => rfl
    | _ :: _ :: _ :: _ :: _ => rfl
    | [c, f, v] =>
      show (match items (frozen c) with
        | some cs => decide (1 ≤ cs.length) && decide (cs.length ≤ 14) && cs.all (fun d => between d 1 1000) && numSet (frozen f) 0 ((cs.length : Int) - 1) &&
            (match items (frozen f) with | some fs => decide (1 ≤ fs.length) && decide (fs.length ≤ 3) | none => false) && vouchOk (frozen v) cs.length
        | none => false) = (match items c with
        | some cs => decide (1 ≤ cs.length) && decide (cs.length ≤ 14) && cs.all (fun d => between d 1 1000) && numSet f 0 ((cs.length : Int) - 1) &&
            (match items f with | some fs => decide (1 ≤ fs.length) && decide (fs.length ≤ 3) | none => false) && vouchOk v cs.length
        | none => false)
      rw [items_frozen, items_frozen]
      cases items c with
      | none => rfl
      | some cs =>
        show (decide (1 ≤ (frozenL cs).length) && decide ((frozenL cs).length ≤ 14) && (frozenL cs).all (fun d => between d 1 1000) && numSet (frozen f) 0 (((frozenL cs).length : Int) - 1) &&
            (match (items f).map frozenL with | some fs => decide (1 ≤ fs.length) && decide (fs.length ≤ 3) | none => false) && vouchOk (frozen v) (frozenL cs).length) = _
        rw [frozenL_len, all_frozen, numSet_frozen, vouchOk_frozen]
        cases items f with
        | none => rfl
        | some fs =>
          show (decide (1 ≤ cs.length) && decide (cs.length ≤ 14) && cs.all (fun d => between d 1 1000) && numSet f 0 ((cs.length : Int) - 1) && (decide (1 ≤ (frozenL fs).length) && decide ((frozenL fs).length ≤ 3)) && vouchOk v cs.length) = _
          rw [frozenL_len]
mutual
theorem frozen_listed' : ∀ d : D, frozen (listed d) = frozen d
  | .none => rfl
  | .bool _ => rfl
  | .int _ => rfl
  | .str _ => rfl
  | .list _ => rfl
  | .tuple ds => by
    show PyData.tuple (frozenL (listedL ds)) = PyData.tuple (frozenL ds)
    rw [frozenL_listed' ds]
  | .dict _ => rfl
theorem frozenL_listed' : ∀ ds : List D, frozenL (listedL ds) = frozenL ds
  | [] => rfl
  | d :: ds => by rw [listedL, frozenL, frozen_listed' d, frozenL_listed' ds]; rfl
end
theorem isWeb_listed (x : D) : isWeb (listed x) = isWeb x := by
  rw [← isWeb_frozen (listed x), frozen_listed', isWeb_frozen]

/-! ### sizes -/
def Gd (k : Nat) (x : D) : Prop := good x = true ∧ dep x ≤ k
theorem depL_le : ∀ {ds : List D} {k : Nat}, (∀ d ∈ ds, dep d ≤ k) → depL ds ≤ k
  | [], _, _ => Nat.zero_le _
  | d :: ds, k, h => by
    show max (dep d) (depL ds) ≤ k
    have h1 := h d (List.mem_cons_self ..)
    have h2 := depL_le (ds := ds) (k := k) fun x m => h x (List.mem_cons_of_mem _ m)
    omega
theorem Gd.tup {k : Nat} {ds : List D} (hl : ds.length ≤ 1000) (h : ∀ d ∈ ds, Gd k d) : Gd (k + 1) (.tuple ds) :=
  ⟨by rw [good_tuple, decide_eq_true hl, goodL_of fun d m => (h d m).1]; rfl, Nat.succ_le_succ (depL_le fun d m => (h d m).2)⟩
theorem Gd.int {k : Nat} {i : Int} : Gd k (.int i) := ⟨by simp, Nat.zero_le _⟩
theorem Gd.bool {k : Nat} {b : Bool} : Gd k (.bool b) := ⟨by simp, Nat.zero_le _⟩
theorem Gd.none {k : Nat} : Gd k .none := ⟨by simp, Nat.zero_le _⟩
theorem Gd.str {k : Nat} {x : Str} : Gd k (.str x) := ⟨by simp, Nat.zero_le _⟩
theorem Gd.le {k m : Nat} {d : D} (h : Gd k d) (l : k ≤ m) : Gd m d := ⟨h.1, Nat.le_trans h.2 l⟩
theorem gd_nil {k : Nat} : ∀ d ∈ ([] : List D), Gd k d := fun _ h => nomatch h
theorem gd_cons {k : Nat} {d : D} {ds : List D} (h : Gd k d) (t : ∀ x ∈ ds, Gd k x) : ∀ x ∈ d :: ds, Gd k x := fun x m => by
  rcases List.mem_cons.mp m with e | m
  · rw [e]; exact h
  · exact t x m
theorem gd_app {k : Nat} {a b : List D} (h : ∀ x ∈ a, Gd k x) (t : ∀ x ∈ b, Gd k x) : ∀ x ∈ a ++ b, Gd k x := fun x m => by
  rcases List.mem_append.mp m with m | m
  · exact h x m
  · exact t x m
theorem gd_ints {k : Nat} (ns : List Int) : ∀ x ∈ ns.map PyData.int, Gd k x := fun x m => by
  obtain ⟨i, _, rfl⟩ := List.mem_map.mp m
  exact .int
theorem gd_row {k : Nat} (r : Int × Int × Int) : Gd (k + 1) (rowT r) := .tup (by show (3 : Nat) ≤ 1000; decide) (gd_cons .int (gd_cons .int (gd_cons .int gd_nil)))
theorem gd_rows {k : Nat} (vs : List (Int × Int × Int)) : ∀ x ∈ vs.map rowT, Gd (k + 1) x := fun x m => by
  obtain ⟨i, _, rfl⟩ := List.mem_map.mp m
  exact gd_row i
theorem gd_trip {k : Nat} {c f v : D} (hc : Gd k c) (hf : Gd k f) (hv : Gd k v) : Gd (k + 1) (.tuple [c, f, v]) :=
  .tup (by show (3 : Nat) ≤ 1000; decide) (gd_cons hc (gd_cons hf (gd_cons hv gd_nil)))
theorem gd_caps {cs fs : List Int} {vs : List (Int × Int × Int)} (h : WebOk cs fs vs) : Gd 2 (.tuple (cs.map .int)) := .tup (by rw [List.length_map]; have := h.c6; omega) (gd_ints cs)
theorem gd_founders {cs fs : List Int} {vs : List (Int × Int × Int)} (h : WebOk cs fs vs) : Gd 2 (.tuple (fs.map .int)) := .tup (by rw [List.length_map]; have := h.f3; omega) (gd_ints fs)
theorem gd_vouch {cs fs : List Int} {vs : List (Int × Int × Int)} (h : WebOk cs fs vs) : Gd 2 (.tuple (vs.map rowT)) := .tup (by rw [List.length_map]; have := h.vn; omega) (gd_rows vs)
theorem gd_web {cs fs : List Int} {vs : List (Int × Int × Int)} (h : WebOk cs fs vs) : Gd 3 (webT cs fs vs) := gd_trip (gd_caps h) (gd_founders h) (gd_vouch h)

/-! ### the law's web is one -/
theorem numSet_ints {ns : List Int} {lo hi : Int} (h : ∀ f ∈ ns, lo ≤ f ∧ f ≤ hi) (ha : ascD (ns.map .int) = true) : numSet (.tuple (ns.map .int)) lo hi = true := by
  show ((ns.map PyData.int).all (fun d => between d lo hi) && ascD (ns.map .int)) = true
  rw [ha, Bool.and_true, List.all_map, List.all_eq_true]
  intro f hf
  show (decide (lo ≤ f) && decide (f ≤ hi)) = true
  rw [decide_eq_true (h f hf).1, decide_eq_true (h f hf).2]
  rfl
theorem rowOk_row {many : Int} {r : Int × Int × Int} (h : 0 ≤ r.1 ∧ r.1 ≤ many - 1 ∧ 0 ≤ r.2.1 ∧ r.2.1 ≤ many - 1 ∧ r.1 ≠ r.2.1 ∧ 1 ≤ r.2.2 ∧ r.2.2 ≤ 1000) : rowOk many (rowT r) = true := by
  show (decide (0 ≤ r.1) && decide (r.1 ≤ many - 1) && (decide (0 ≤ r.2.1) && decide (r.2.1 ≤ many - 1)) && !PyData.eqv (.int r.1) (.int r.2.1) && (decide (1 ≤ r.2.2) && decide (r.2.2 ≤ 1000))) = true
  obtain ⟨a, b, c, d, e, f, g⟩ := h
  rw [eqv_int, decide_eq_true a, decide_eq_true b, decide_eq_true c, decide_eq_true d, decide_eq_false e, decide_eq_true f, decide_eq_true g]
  rfl
theorem pair_rows (vs : List (Int × Int × Int)) : (vs.map rowT).map pairOf = vs.map fun r => pairT (r.1, r.2.1) := by
  rw [List.map_map]
  rfl
theorem webT_isWeb {cs fs : List Int} {vs : List (Int × Int × Int)} (h : WebOk cs fs vs) : isWeb (webT cs fs vs) = true := by
  show (decide (1 ≤ (cs.map PyData.int).length) && decide ((cs.map PyData.int).length ≤ 14) && (cs.map PyData.int).all (fun d => between d 1 1000) && numSet (.tuple (fs.map .int)) 0 (((cs.map PyData.int).length : Int) - 1) &&
    (decide (1 ≤ (fs.map PyData.int).length) && decide ((fs.map PyData.int).length ≤ 3)) && (decide ((vs.map rowT).length ≤ 60) && (vs.map rowT).all (rowOk ((cs.map PyData.int).length : Nat)) && ascD ((vs.map rowT).map pairOf))) = true
  simp only [List.length_map, pair_rows, h.va]
  rw [numSet_ints h.fz h.fa]
  have e1 : (cs.map PyData.int).all (fun d => between d 1 1000) = true := by
    rw [List.all_map, List.all_eq_true]
    intro c hc
    show (decide (1 ≤ c) && decide (c ≤ 1000)) = true
    rw [decide_eq_true (h.cz c hc).1, decide_eq_true (h.cz c hc).2]
    rfl
  have e2 : (vs.map rowT).all (rowOk (cs.length : Nat)) = true := by
    rw [List.all_map, List.all_eq_true]
    intro r hr
    exact rowOk_row (h.vz r hr)
  have c1 := h.c1
  have c6 := h.c6
  have f1 := h.f1
  have f3 := h.f3
  have vn := h.vn
  rw [e1, e2, decide_eq_true c1, decide_eq_true (show cs.length ≤ 14 by omega), decide_eq_true f1, decide_eq_true f3, decide_eq_true (show vs.length ≤ 60 by omega)]
  rfl
theorem tint_ints (ns : List Int) (h : ns.length ≤ 1000) : tint (.tuple (ns.map .int)) = true := by
  show (decide ((ns.map PyData.int).length ≤ 1000) && tintL (ns.map PyData.int)) = true
  rw [List.length_map, decide_eq_true h, tintL_of fun d hd => ?_]
  · rfl
  · obtain ⟨i, _, rfl⟩ := List.mem_map.mp hd
    rfl
theorem tint_web {cs fs : List Int} {vs : List (Int × Int × Int)} (h : WebOk cs fs vs) : tint (webT cs fs vs) = true := by
  have c6 := h.c6
  have f3 := h.f3
  have vn := h.vn
  have t1 := tint_ints cs (by omega)
  have t2 := tint_ints fs (by omega)
  have t3 : tint (.tuple (vs.map rowT)) = true := by
    show (decide ((vs.map rowT).length ≤ 1000) && tintL (vs.map rowT)) = true
    rw [List.length_map, decide_eq_true (show vs.length ≤ 1000 by omega), tintL_of fun d hd => ?_]
    · rfl
    · obtain ⟨r, _, rfl⟩ := List.mem_map.mp hd
      rfl
  show (decide ((3 : Nat) ≤ 1000) && (tint _ && (tint _ && (tint _ && true)))) = true
  rw [t1, t2, t3]
  rfl
end K01

namespace K01
open PySem PySem.Spec PyProof.Rows L2 Cor
/-! ### wrong webs -/
structure Bad (w : D) : Prop where
  g : Gd 3 w
  w : isWeb w = false
theorem f_caps {cs : List D} {f v : D} (h : cs.all (fun d => between d 1 1000) = false) : isWeb (.tuple [.tuple cs, f, v]) = false := by
  show (decide (1 ≤ cs.length) && decide (cs.length ≤ 14) && cs.all (fun d => between d 1 1000) && numSet f 0 ((cs.length : Int) - 1) && _ && vouchOk v cs.length) = false
  rw [h]
  simp
theorem f_many {cs : List D} {f v : D} (h : ¬ cs.length ≤ 14) : isWeb (.tuple [.tuple cs, f, v]) = false := by
  show (decide (1 ≤ cs.length) && decide (cs.length ≤ 14) && cs.all (fun d => between d 1 1000) && numSet f 0 ((cs.length : Int) - 1) && _ && vouchOk v cs.length) = false
  rw [decide_eq_false h]
  simp
theorem f_none {f v : D} : isWeb (.tuple [.tuple [], f, v]) = false := rfl
theorem f_set {cs : List D} {f v : D} (h : numSet f 0 ((cs.length : Int) - 1) = false) : isWeb (.tuple [.tuple cs, f, v]) = false := by
  show (decide (1 ≤ cs.length) && decide (cs.length ≤ 14) && cs.all (fun d => between d 1 1000) && numSet f 0 ((cs.length : Int) - 1) && _ && vouchOk v cs.length) = false
  rw [h]
  simp
theorem f_nof {cs : List D} {v : D} : isWeb (.tuple [.tuple cs, .tuple [], v]) = false := by
  show (decide (1 ≤ cs.length) && decide (cs.length ≤ 14) && cs.all (fun d => between d 1 1000) && numSet (.tuple []) 0 ((cs.length : Int) - 1) && false && vouchOk v cs.length) = false
  simp
theorem f_vouch {cs : List D} {f v : D} (h : vouchOk v cs.length = false) : isWeb (.tuple [.tuple cs, f, v]) = false := by
  show (decide (1 ≤ cs.length) && decide (cs.length ≤ 14) && cs.all (fun d => between d 1 1000) && numSet f 0 ((cs.length : Int) - 1) && _ && vouchOk v cs.length) = false
  rw [h]
  simp
theorem s_bad {ds : List D} {lo hi : Int} {d : D} (m : d ∈ ds) (h : between d lo hi = false) : numSet (.tuple ds) lo hi = false := by
  show (ds.all (fun d => between d lo hi) && ascD ds) = false
  have e : ds.all (fun d => between d lo hi) = false := by
    rw [List.all_eq_false]
    exact ⟨d, m, by rw [h]; decide⟩
  rw [e]; rfl
theorem s_asc {ds : List D} {lo hi : Int} (h : ascD ds = false) : numSet (.tuple ds) lo hi = false := by
  show (ds.all (fun d => between d lo hi) && ascD ds) = false
  rw [h, Bool.and_false]
theorem v_row {ds : List D} {many : Int} {d : D} (m : d ∈ ds) (h : rowOk many d = false) : vouchOk (.tuple ds) many = false := by
  show (decide (ds.length ≤ 60) && ds.all (rowOk many) && ascD (ds.map pairOf)) = false
  have e : ds.all (rowOk many) = false := by
    rw [List.all_eq_false]
    exact ⟨d, m, by rw [h]; decide⟩
  rw [e]
  simp
theorem v_asc {ds : List D} {many : Int} (h : ascD (ds.map pairOf) = false) : vouchOk (.tuple ds) many = false := by
  show (decide (ds.length ≤ 60) && ds.all (rowOk many) && ascD (ds.map pairOf)) = false
  rw [h, Bool.and_false]
theorem v_len {ds : List D} {many : Int} (h : ¬ ds.length ≤ 60) : vouchOk (.tuple ds) many = false := by
  show (decide (ds.length ≤ 60) && ds.all (rowOk many) && ascD (ds.map pairOf)) = false
  rw [decide_eq_false h]
  rfl
theorem asc_mid : ∀ (a : List D) (x y : D) (b : List D), PySem.W.dataLt x y = false → ascD (a ++ x :: y :: b) = false
  | [], x, y, b, h => by
    show (PySem.W.dataLt x y && ascD (y :: b)) = false
    rw [h]; rfl
  | [z], x, y, b, h => by
    show (PySem.W.dataLt z x && ascD ([] ++ x :: y :: b)) = false
    rw [asc_mid [] x y b h, Bool.and_false]
  | z :: w :: a, x, y, b, h => by
    show (PySem.W.dataLt z w && ascD ((w :: a) ++ x :: y :: b)) = false
    rw [asc_mid (w :: a) x y b h, Bool.and_false]
theorem lt_irr (p : Int × Int) : PySem.W.dataLt (pairT p) (pairT p) = false := by
  rw [PySem.W.dataLt_ii]
  simp
theorem lt_trans {p q r : Int × Int} (h1 : PySem.W.dataLt (pairT p) (pairT q) = true) (h2 : PySem.W.dataLt (pairT q) (pairT r) = true) : PySem.W.dataLt (pairT p) (pairT r) = true := by
  rw [PySem.W.dataLt_ii] at *
  simp only [decide_eq_true_eq] at *
  omega
theorem lt_asymm {p q : Int × Int} (h1 : PySem.W.dataLt (pairT p) (pairT q) = true) : PySem.W.dataLt (pairT q) (pairT p) = false := by
  cases e : PySem.W.dataLt (pairT q) (pairT p) with
  | false => rfl
  | true =>
    have := lt_trans h1 e
    rw [lt_irr] at this
    cases this
theorem asc_turn : ∀ (ks : List (Int × Int)) (h x : Int × Int), PySem.W.dataLt (pairT h) (pairT x) = true → ascD ((x :: ks).map pairT ++ [pairT h]) = false
  | [], h, x, hx => by
    show (PySem.W.dataLt (pairT x) (pairT h) && true) = false
    rw [lt_asymm hx]; rfl
  | y :: r, h, x, hx => by
    show (PySem.W.dataLt (pairT x) (pairT y) && ascD ((y :: r).map pairT ++ [pairT h])) = false
    cases e : PySem.W.dataLt (pairT x) (pairT y) with
    | false => rfl
    | true =>
      rw [asc_turn r h y (lt_trans hx e)]
      rfl
theorem turned {vs : List (Int × Int × Int)} (hl : 1 < vs.length) (ha : ascD (vs.map fun r => pairT (r.1, r.2.1)) = true) : ascD (((vs.map rowT).drop 1 ++ (vs.map rowT).take 1).map pairOf) = false := by
  match vs, hl, ha with
  | h :: x :: r, _, ha =>
    have ha : (PySem.W.dataLt (pairT (h.1, h.2.1)) (pairT (x.1, x.2.1)) && ascD ((x :: r).map fun r => pairT (r.1, r.2.1))) = true := ha
    rw [Bool.and_eq_true] at ha
    have e := asc_turn (r.map fun r => (r.1, r.2.1)) (h.1, h.2.1) (x.1, x.2.1) ha.1
    rw [List.map_cons, List.map_map] at e
    have e2 : (((h :: x :: r).map rowT).drop 1 ++ ((h :: x :: r).map rowT).take 1).map pairOf = pairT (x.1, x.2.1) :: (r.map ((fun p => pairT p) ∘ fun r : Int × Int × Int => (r.1, r.2.1))) ++ [pairT (h.1, h.2.1)] := by
      show ((x :: r).map rowT ++ [rowT h]).map pairOf = _
      rw [List.map_append, pair_rows]
      rfl
    rw [e2]
    exact e
theorem row_two {many : Int} {a b : D} : rowOk many (.tuple [a, b]) = false := rfl
theorem row_four {many : Int} {a b c d : D} : rowOk many (.tuple [a, b, c, d]) = false := rfl
theorem row_first {many : Int} {a b c : D} (h : between a 0 (many - 1) = false) : rowOk many (.tuple [a, b, c]) = false := by
  show (between a 0 (many - 1) && between b 0 (many - 1) && !PyData.eqv a b && between c 1 1000) = false
  rw [h]; rfl
theorem row_second {many : Int} {a b c : D} (h : between b 0 (many - 1) = false) : rowOk many (.tuple [a, b, c]) = false := by
  show (between a 0 (many - 1) && between b 0 (many - 1) && !PyData.eqv a b && between c 1 1000) = false
  rw [h]; simp
theorem row_same {many a : Int} {c : D} : rowOk many (.tuple [.int a, .int a, c]) = false := by
  show (between (.int a) 0 (many - 1) && between (.int a) 0 (many - 1) && !PyData.eqv (.int a) (.int a) && between c 1 1000) = false
  rw [eqv_int]; simp
theorem row_third {many : Int} {a b c : D} (h : between c 1 1000 = false) : rowOk many (.tuple [a, b, c]) = false := by
  show (between a 0 (many - 1) && between b 0 (many - 1) && !PyData.eqv a b && between c 1 1000) = false
  rw [h, Bool.and_false]
/-! ### slices -/
theorem cut_take (ds : List D) (k : Nat) : Cor.cutD ds none (some (k : Int)) = ds.take k := by
  unfold Cor.cutD
  rw [HT.sIx_none, HT.sIx_nat, List.drop_zero, Nat.sub_zero]
  by_cases h : k ≤ ds.length
  · rw [Nat.min_eq_left h]
  · rw [Nat.min_eq_right (by omega), List.take_length, List.take_of_length_le (by omega)]
theorem cut_drop (ds : List D) (k : Nat) : Cor.cutD ds (some (k : Int)) none = ds.drop k := by
  unfold Cor.cutD
  rw [HT.sIx_none, HT.sIx_nat]
  by_cases h : k ≤ ds.length
  · rw [Nat.min_eq_left h]
    exact List.take_of_length_le (by rw [List.length_drop]; exact Nat.le_refl _)
  · rw [Nat.min_eq_right (by omega), List.drop_length, List.drop_of_length_le (by omega), List.take_nil]
theorem addD_tup {S : Sto} {xs ys : List D} (h : xs.length + ys.length ≤ 1000) : addD S (.tuple xs) (.tuple ys) = some (.tuple (xs ++ ys)) := if_pos (len_size h)
theorem mulD_tup {S : Sto} {d : D} {k : Int} (h : 2 ≤ k ∧ k ≤ 1000) : mulD S (.tuple [d]) (.int k) = some (.tuple (List.replicate k.toNat d)) := by
  have e : (List.replicate k.toNat [d]).flatten = List.replicate k.toNat d := by
    generalize k.toNat = n
    induction n with
    | zero => rfl
    | succ n ih => rw [List.replicate_succ, List.flatten_cons, ih]; rfl
  show (if [d] ≠ [] ∧ 2 ≤ k ∧ k ≤ 1000 ∧ [d].length ≤ 1000 then some (PyData.tuple (List.replicate k.toNat [d]).flatten) else none) = _
  rw [if_pos ⟨by simp, h.1, h.2, by show (1 : Nat) ≤ 1000; decide⟩, e]
theorem itreeL_rows (vs : List (Int × Int × Int)) : itreeL (vs.map rowT) = true := itreeL_of fun d hd => by
  obtain ⟨i, _, rfl⟩ := List.mem_map.mp hd
  rfl
theorem depL_rows (vs : List (Int × Int × Int)) : depL (vs.map rowT) ≤ 1 := depL_le fun d hd => by
  obtain ⟨i, _, rfl⟩ := List.mem_map.mp hd
  exact Nat.le_refl _
theorem neB_rows {S : Sto} (vs : List (Int × Int × Int)) : neB S (.tuple (vs.map rowT)) (.tuple []) = some (!vs.isEmpty) := by
  have h1 : okD (.tuple (vs.map rowT)) = true := itree_ok (itreeL_rows vs) (by show depL (vs.map rowT) + 1 ≤ 64; have := depL_rows vs; omega)
  have h2 : okD (.tuple []) = true := rfl
  show ((if (okD (.tuple (vs.map rowT)) && okD (.tuple [])) = true then some (PyData.eqvAll (vs.map rowT) []) else none).map (!·)) = _
  rw [h1, h2]
  cases vs <;> rfl
/-! ### a wrong one more -/
def Res (S : Sto) (r : R D) : Prop := ∃ ws : List D, r = .ok (.list ws) S ∧ (∀ w ∈ ws, Bad w) ∧ ws.length ≤ 1000
theorem bad_flat {ws : List D} (h : ∀ w ∈ ws, Bad w) : flatL ws = true := flatL_iff.mpr fun d m => good_flat d (h d m).g.1
theorem bad_more {ws : List D} {w : D} (h : ∀ w ∈ ws, Bad w) (hw : Bad w) : ∀ x ∈ ws ++ [w], Bad x := fun x m => by
  rcases List.mem_append.mp m with m | m
  · exact h x m
  · rw [List.mem_singleton.mp m]; exact hw
theorem app_nx {S : Sto} {ws : List D} {w : D} {env : Envd} {g : Ex} (h2 : env[2]? = some (some (rf S.length))) (hl : ws.length ≤ 900) (hg : g env (S ++ [.lst ws]) = .ok w (S ++ [.lst ws])) :
    expB (methE appD (var 2) (consX g nilX)) env (S ++ [.lst ws]) = .nx env (S ++ [.lst (ws ++ [w])]) := by
  have ha := appD_ok (ds := ws) (e := w) (by omega)
  simp [h2, hg, ha]
theorem app_step {S : Sto} {ws : List D} {env : Envd} {g : Ex} {b : Blk} (w : D) (h2 : env[2]? = some (some (rf S.length))) (hws : ∀ w ∈ ws, Bad w) (hl : ws.length ≤ 900)
    (hg : g env (S ++ [.lst ws]) = .ok w (S ++ [.lst ws])) (hw : Bad w) (next : ∀ ws', (∀ w ∈ ws', Bad w) → ws'.length = ws.length + 1 → Res S (endB S (b env (S ++ [.lst ws'])))) :
    Res S (endB S (seqB (expB (methE appD (var 2) (consX g nilX))) b env (S ++ [.lst ws]))) := by
  rw [endB_seq (app_nx h2 hl hg)]
  exact next _ (bad_more hws hw) (by rw [List.length_append]; rfl)
end K01

namespace K01
open PySem PySem.Spec PyProof.Rows L2 Cor
section
variable {env : Envd} {T : Sto}
theorem tup1_ev {a : Ex} {x : D} (ha : a env T = .ok x T) : tupE (consX a nilX) env T = .ok (.tuple [x]) T := by simp [ha, len_size]
theorem tup2_ev {a b : Ex} {x y : D} (ha : a env T = .ok x T) (hb : b env T = .ok y T) : tupE (consX a (consX b nilX)) env T = .ok (.tuple [x, y]) T := by simp [ha, hb, len_size]
theorem tup3_ev {a b c : Ex} {x y z : D} (ha : a env T = .ok x T) (hb : b env T = .ok y T) (hc : c env T = .ok z T) : tupE (consX a (consX b (consX c nilX))) env T = .ok (.tuple [x, y, z]) T := by simp [ha, hb, hc, len_size]
theorem tup4_ev {a b c d : Ex} {x y z w : D} (ha : a env T = .ok x T) (hb : b env T = .ok y T) (hc : c env T = .ok z T) (hd : d env T = .ok w T) : tupE (consX a (consX b (consX c (consX d nilX)))) env T = .ok (.tuple [x, y, z, w]) T := by simp [ha, hb, hc, hd, len_size]
theorem tup0_ev : tupE nilX env T = .ok (.tuple []) T := by simp [len_size]
theorem var_ev {i : Nat} {d : D} (h : env[i]? = some (some d)) : var i env T = .ok d T := by rw [var_eq, h, gotE_some]
theorem add_ev {a b : Ex} {xs ys : List D} (ha : a env T = .ok (.tuple xs) T) (hb : b env T = .ok (.tuple ys) T) (h : xs.length + ys.length ≤ 1000) : bin addD a b env T = .ok (.tuple (xs ++ ys)) T := by
  simp [ha, hb, addD_tup h]
theorem inc_ev {i : Nat} {k : Nat} (h : env[i]? = some (some (.int (k : Int)))) : bin addD (var i) (lit (.int 1)) env T = .ok (.int ((k + 1 : Nat) : Int)) T := by
  rw [bin_eq, var_ev h, R.bind_ok, lit_eq, R.bind_ok, addD_int, lift_some]
  rfl
theorem lo_ev {a g : Ex} {xs : List D} {k : Nat} (ha : a env T = .ok (.tuple xs) T) (hg : g env T = .ok (.int (k : Int)) T) : slA a (someP g) noP env T = .ok (.tuple (xs.drop k)) T := by
  rw [slA_eq, ha, R.bind_ok, someP_eq, hg, R.bind_ok, intP_int, R.bind_ok, noP_eq, R.bind_ok]
  show lift (some (PyData.tuple (Cor.cutD xs (some (k : Int)) none))) T = _
  rw [cut_drop]
  rfl
theorem hi_ev {a g : Ex} {xs : List D} {k : Nat} (ha : a env T = .ok (.tuple xs) T) (hg : g env T = .ok (.int (k : Int)) T) : slA a noP (someP g) env T = .ok (.tuple (xs.take k)) T := by
  rw [slA_eq, ha, R.bind_ok, noP_eq, R.bind_ok, someP_eq, hg, R.bind_ok, intP_int, R.bind_ok]
  show lift (some (PyData.tuple (Cor.cutD xs none (some (k : Int))))) T = _
  rw [cut_take]
  rfl
theorem mul_ev {a b : Ex} {d : D} {k : Int} (ha : a env T = .ok (.tuple [d]) T) (hb : b env T = .ok (.int k) T) (h : 2 ≤ k ∧ k ≤ 1000) : bin mulD a b env T = .ok (.tuple (List.replicate k.toNat d)) T := by
  simp [ha, hb, mulD_tup h]
theorem len_ev {a : Ex} {xs : List D} (ha : a env T = .ok (.tuple xs) T) : bltE lenD (consX a nilX) env T = .ok (.int (xs.length : Int)) T := by simp [ha]
theorem at0_ev {a : Ex} {x : D} {xs : List D} (ha : a env T = .ok (.tuple (x :: xs)) T) : bin idxD a (lit (.int 0)) env T = .ok x T := by simp [ha]
end
/-! ### sixty-one vouchings -/
def rowH : D → D
  | .int k => rowT (k / 13, (k / 13 + 1 + k % 13) % 14, 2)
  | d => d
theorem row_sortOk (vs : List (Int × Int × Int)) : SortOk (vs.map rowT) := by
  refine ⟨fun d hd => ?_, fun d hd d' hd' => ?_, .inl fun d hd => ?_⟩
  · obtain ⟨p, _, rfl⟩ := List.mem_map.mp hd
    exact ⟨rfl, Nat.le_of_ble_eq_true rfl⟩
  · obtain ⟨p, _, rfl⟩ := List.mem_map.mp hd
    obtain ⟨q, _, rfl⟩ := List.mem_map.mp hd'
    rfl
  · obtain ⟨p, _, rfl⟩ := List.mem_map.mp hd
    exact ⟨_, _, rfl⟩
theorem many_rows (env : Envd) (T : Sto) (h11 : 11 < env.length) : ∃ ds : List D, (bltE tupleD (consX (frz (bltF sortedD (consX (frz (compF (rng1 (lit (.int 61))) (setN 11) yesT (tupE (consX (bltE intD (consX (bin fdivD (var 11) (lit (.int 13))) nilX)) (consX (bin modD (bin addD (bin addD (bltE intD (consX (bin fdivD (var 11) (lit (.int 13))) nilX)) (lit (.int 1))) (bin modD (bltE intD (consX (var 11) nilX)) (lit (.int 13)))) (lit (.int 14))) (consX (lit (.int 2)) nilX)))) [11])) nilX))) nilX)) env T = .ok (.tuple ds) T ∧ ds.length = 61 ∧ ∀ d ∈ ds, Gd 1 d := by
  have m13 : ∀ (T : Sto) (i : Int), modD T (.int i) (.int 13) = some (.int (i % 13)) := fun _ _ => modD_int (by decide)
  have m14 : ∀ (T : Sto) (i : Int), modD T (.int i) (.int 14) = some (.int (i % 14)) := fun _ _ => modD_int (by decide)
  have f13 : ∀ (T : Sto) (i : Int), fdivD T (.int i) (.int 13) = some (.int (i / 13)) := fun _ _ => fdivD_int (by decide) (by decide)
  have hc := compL_map (t := setN 11) (c := yesT) (g := tupE (consX (bltE intD (consX (bin fdivD (var 11) (lit (.int 13))) nilX)) (consX (bin modD (bin addD (bin addD (bltE intD (consX (bin fdivD (var 11) (lit (.int 13))) nilX)) (lit (.int 1))) (bin modD (bltE intD (consX (var 11) nilX)) (lit (.int 13)))) (lit (.int 14))) (consX (lit (.int 2)) nilX)))) (all := (List.range 61).map fun (i : Nat) => PyData.int (i : Int)) (env := env.set 11 none) (S := T) rowH
    ((List.range 61).map fun (i : Nat) => PyData.int (i : Int)) fun d md => by
      obtain ⟨i, _, rfl⟩ := List.mem_map.mp md
      refine ⟨(env.set 11 none).set 11 (some (.int i)), rfl, rfl, ?_⟩
      have e : ((env.set 11 none).set 11 (some (PyData.int i)))[11]? = some (some (.int i)) := by
        rw [List.getElem?_set_self (by rw [List.length_set]; exact h11)]
      generalize (env.set 11 none).set 11 (some (PyData.int i)) = env1 at e
      simp [e, m13, m14, f13, len_size, rowH]
  have hm : ((List.range 61).map fun (i : Nat) => PyData.int (i : Int)).map rowH = ((List.range 61).map fun (i : Nat) => ((i : Int) / 13, ((i : Int) / 13 + 1 + (i : Int) % 13) % 14, (2 : Int))).map rowT := by
    rw [List.map_map, List.map_map]
    rfl
  rw [hm] at hc
  generalize hvs : ((List.range 61).map fun (i : Nat) => ((i : Int) / 13, ((i : Int) / 13 + 1 + (i : Int) % 13) % 14, (2 : Int))) = vs at hc
  have hvl : vs.length = 61 := by rw [← hvs, List.length_map, List.length_range]
  have hcf : compF (rng1 (lit (.int 61))) (setN 11) yesT (tupE (consX (bltE intD (consX (bin fdivD (var 11) (lit (.int 13))) nilX)) (consX (bin modD (bin addD (bin addD (bltE intD (consX (bin fdivD (var 11) (lit (.int 13))) nilX)) (lit (.int 1))) (bin modD (bltE intD (consX (var 11) nilX)) (lit (.int 13)))) (lit (.int 14))) (consX (lit (.int 2)) nilX)))) [11] env T = .ok (vs.map rowT) T := by
    rw [compF_eq, rng_nat (m := 61) (by decide) rfl]
    simp only [R.bind_ok, wipeE_cons, wipeE_nil]
    rw [if_pos (by rw [List.length_map, List.length_range]; exact len_size (by decide)), hc]
  refine ⟨sortL (vs.map rowT), ?_, by unfold sortL; rw [List.length_mergeSort, List.length_map, hvl], fun d hd => gd_rows vs d ((List.mergeSort_perm _ _).mem_iff.mp hd)⟩
  have hs := sortedL_of (row_sortOk vs)
  rw [bltE_eq, consX_eq, frz_eq, bltF_eq, consX_eq, frz_eq, hcf]
  simp only [R.bind_ok, nilX_eq]
  show ((lift (((some (PyData.list (vs.map rowT))).bind sortedL)) T).bind _ |>.bind _ |>.bind _) = _
  rw [Option.bind_some, hs]
  rfl
end K01

namespace K01
open PySem PySem.Spec PyProof.Rows L2 Cor
theorem bad3 {cs : List D} {f v : D} (hc : Gd 2 (.tuple cs)) (hf : Gd 2 f) (hv : Gd 2 v) (h : isWeb (.tuple [.tuple cs, f, v]) = false) : Bad (.tuple [.tuple cs, f, v]) := ⟨gd_trip hc hf hv, h⟩
abbrev wEnv (W C F V : D) (num : Int) (n : Nat) (r6 r7 r8 r9 r10 : Option D) : Envd := [some W, some (.int num), some (rf n), some C, some F, some V, r6, r7, r8, r9, r10, none]
theorem row_cell {S : Sto} {d : D} : rf S.length = rf S.length := rfl
/-- one of the vouchings changed -/
noncomputable abbrev badBody : Blk := expB (methE appD (var 2) (consX (tupE (consX (var 3) (consX (var 4) (consX (bin addD (bin addD (slA (var 5) noP (someP (var 6))) (tupE (consX (var 7) nilX))) (slA (var 5) (someP (bin addD (var 6) (lit (.int 1)))) noP)) nilX)))) nilX))
theorem bad_loop (S : Sto) (W F : D) (cD : List D) (vs : List (Int × Int × Int)) (num : Int) (p : Nat) (hp : p < vs.length) (hvl : vs.length ≤ 11) (hC : Gd 2 (.tuple cD)) (hF : Gd 2 F) (r8 r9 r10 : Option D)
    (bads : List D) (hb : ∀ d ∈ bads, Gd 1 d ∧ rowOk cD.length d = false) (hbl : bads.length ≤ 10) (ws : List D) (hws : ∀ w ∈ ws, Bad w) (hl : ws.length ≤ 100) :
    ∃ ws' r7, forL (setN 7) badBody none bads bads (wEnv W (.tuple cD) F (.tuple (vs.map rowT)) num S.length (some (.int (p : Int))) none r8 r9 r10) (S ++ [.lst ws]) = .nx (wEnv W (.tuple cD) F (.tuple (vs.map rowT)) num S.length (some (.int (p : Int))) r7 r8 r9 r10) (S ++ [.lst ws']) ∧ (∀ w ∈ ws', Bad w) ∧ ws'.length ≤ 110 := by
  obtain ⟨env', S', e, ws', hS, h1, h2, r7, he⟩ := forL_inv (t := setN 7) (b := badBody) (all := bads)
    (fun i env T => ∃ ws' : List D, T = S ++ [.lst ws'] ∧ (∀ w ∈ ws', Bad w) ∧ ws'.length = ws.length + i ∧ ∃ r7, env = wEnv W (.tuple cD) F (.tuple (vs.map rowT)) num S.length (some (.int (p : Int))) r7 r8 r9 r10)
    bads 0 (wEnv W (.tuple cD) F (.tuple (vs.map rowT)) num S.length (some (.int (p : Int))) none r8 r9 r10) (S ++ [.lst ws]) ⟨ws, rfl, hws, rfl, none, rfl⟩
    fun j d env T hj ⟨ws1, hT, k1, k2, r7, he⟩ => by
      subst hT he
      obtain ⟨hjl, hjd⟩ := List.getElem?_eq_some_iff.mp hj
      have hd := hb d (by rw [← hjd]; exact List.getElem_mem hjl)
      refine ⟨wEnv W (.tuple cD) F (.tuple (vs.map rowT)) num S.length (some (.int (p : Int))) (some d) r8 r9 r10, wEnv W (.tuple cD) F (.tuple (vs.map rowT)) num S.length (some (.int (p : Int))) (some d) r8 r9 r10,
        S ++ [.lst (ws1 ++ [.tuple [.tuple cD, F, .tuple ((vs.map rowT).take p ++ [d] ++ (vs.map rowT).drop (p + 1))]])], rfl, .inl ?_, _, rfl, bad_more k1 (bad3 hC hF (.tup ?_ ?_) (f_vouch (v_row (d := d) ?_ hd.2))), ?_, some d, rfl⟩
      · refine app_nx rfl (by omega) (tup3_ev (var_ev rfl) (var_ev rfl) (add_ev (add_ev (hi_ev (var_ev rfl) (var_ev rfl)) (tup1_ev (var_ev rfl)) ?_) (lo_ev (var_ev rfl) (inc_ev rfl)) ?_))
        · rw [List.length_take, List.length_map, List.length_singleton]; omega
        · rw [List.length_append, List.length_take, List.length_drop, List.length_map, List.length_singleton]; omega
      · rw [List.length_append, List.length_append, List.length_take, List.length_drop, List.length_map, List.length_singleton]; omega
      · exact gd_app (gd_app (fun x m => gd_rows vs x (List.mem_of_mem_take m)) (gd_cons hd.1 gd_nil)) (fun x m => gd_rows vs x (List.mem_of_mem_drop m))
      · exact List.mem_append_left _ (List.mem_append_right _ (List.mem_singleton_self _))
      · rw [List.length_append, k2]; rfl
  subst hS he
  exact ⟨ws', r7, e, h1, by omega⟩
theorem dup_asc (vs : List (Int × Int × Int)) (p : Nat) (hp : p < vs.length) (r : Int × Int × Int) (hr : (r.1, r.2.1) = (vs[p].1, vs[p].2.1)) :
    ascD (((vs.map rowT).take (p + 1) ++ [rowT r] ++ (vs.map rowT).drop (p + 1)).map pairOf) = false := by
  have e : (vs.map rowT).take (p + 1) = (vs.map rowT).take p ++ [rowT vs[p]] := by
    rw [List.take_succ_eq_append_getElem (by rw [List.length_map]; exact hp), List.getElem_map]
  rw [e, List.map_append, List.map_append, List.map_append]
  have e2 : [rowT vs[p]].map pairOf = [pairT (vs[p].1, vs[p].2.1)] := rfl
  have e3 : [rowT r].map pairOf = [pairT (r.1, r.2.1)] := rfl
  rw [e2, e3, hr, List.append_assoc, List.append_assoc]
  exact asc_mid _ _ _ _ (lt_irr _)
theorem e_wrong (n : Nat) (S : Sto) {cs fs : List Int} {vs : List (Int × Int × Int)} (h : WebOk cs fs vs) (num : Int) : Res S (Cn (n + 1) 21 [webT cs fs vs, .int num] S) := by
  rw [run__law_wrong]
  unfold b__law_wrong
  generalize hW : webT cs fs vs = W
  have hC := gd_caps h
  have hF := gd_founders h
  have hV := gd_vouch h
  have hcl : (cs.map PyData.int).length = cs.length := List.length_map ..
  have c1 := h.c1
  have c6 := h.c6
  have f1 := h.f1
  have f3 := h.f3
  have vn := h.vn
  have vz := h.vz
  have va := h.va
  obtain ⟨f0, fr, rfl⟩ : ∃ f0 fr, fs = f0 :: fr := by
    cases fs with
    | nil => exact absurd f1 (by decide)
    | cons a b => exact ⟨a, b, rfl⟩
  rw [endB_seq (env1 := [some W, some (.int num), none, some (.tuple (cs.map .int)), some (.tuple ((f0 :: fr).map .int)), some (.tuple (vs.map rowT)), none, none, none, none, none, none]) (S1 := S) (by rw [← hW]; rfl)]
  have hcg : ∀ d ∈ cs.map PyData.int, Gd 1 d := gd_ints cs
  have hfg : ∀ d ∈ (f0 :: fr).map PyData.int, Gd 1 d := gd_ints _
  have hfl : ((f0 :: fr).map PyData.int).length ≤ 3 := by rw [List.length_map]; exact f3
  have hf0 : (f0 :: fr).map PyData.int = .int f0 :: fr.map .int := rfl
  generalize cs.map PyData.int = cD at hcl hC hcg
  generalize (f0 :: fr).map PyData.int = fD at hF hfg hfl hf0
  have hvg : ∀ d ∈ vs.map rowT, Gd 1 d := gd_rows vs
  have w0 : ∀ w ∈ [PyData.tuple [.tuple cD, .tuple fD], .tuple [.tuple cD, .tuple fD, .tuple (vs.map rowT), .tuple []], .none, .int 7, .str "web", .tuple [.tuple [], .tuple fD, .tuple (vs.map rowT)]], Bad w := fun w m => by
    simp only [List.mem_cons, List.not_mem_nil, or_false] at m
    rcases m with rfl | rfl | rfl | rfl | rfl | rfl
    · exact ⟨.tup (by show (2 : Nat) ≤ 1000; decide) (gd_cons hC (gd_cons hF gd_nil)), rfl⟩
    · exact ⟨.tup (by show (4 : Nat) ≤ 1000; decide) (gd_cons hC (gd_cons hF (gd_cons hV (gd_cons (.tup (Nat.zero_le _) gd_nil) gd_nil)))), rfl⟩
    · exact ⟨.none, rfl⟩
    · exact ⟨.int, rfl⟩
    · exact ⟨.str, rfl⟩
    · exact bad3 (.tup (Nat.zero_le _) gd_nil) hF hV f_none
  rw [endB_seq (env1 := wEnv W (.tuple cD) (.tuple fD) (.tuple (vs.map rowT)) num S.length none none none none none) (S1 := S ++ [.lst [PyData.tuple [.tuple cD, .tuple fD], .tuple [.tuple cD, .tuple fD, .tuple (vs.map rowT), .tuple []], .none, .int 7, .str "web", .tuple [.tuple [], .tuple fD, .tuple (vs.map rowT)]]]) (by simp [len_size])]
  generalize hw : [PyData.tuple [.tuple cD, .tuple fD], .tuple [.tuple cD, .tuple fD, .tuple (vs.map rowT), .tuple []], .none, .int 7, .str "web", .tuple [.tuple [], .tuple fD, .tuple (vs.map rowT)]] = ws at w0
  have l0 : ws.length = 6 := by rw [← hw]; rfl
  clear hw hW
  have drop_c : ∀ x : D, Gd 1 x → Gd 2 (.tuple ([x] ++ cD.drop 1)) := fun x hx => .tup (by rw [List.length_append, List.length_drop, List.length_singleton]; omega) (gd_app (gd_cons hx gd_nil) fun d m => hcg d (List.mem_of_mem_drop m))
  have dl : ∀ x : D, [x].length + (cD.drop 1).length ≤ 1000 := fun x => by rw [List.length_drop, List.length_singleton]; omega
  refine app_step _ rfl w0 (by omega) (tup3_ev (add_ev (tup1_ev (lit_eq ..)) (lo_ev (k := 1) (var_ev rfl) rfl) (dl _)) (var_ev rfl) (var_ev rfl)) (bad3 (drop_c _ .int) hF hV (f_caps rfl)) fun ws1 w1 l1 => ?_
  refine app_step _ rfl w1 (by omega) (tup3_ev (add_ev (tup1_ev (lit_eq ..)) (lo_ev (k := 1) (var_ev rfl) rfl) (dl _)) (var_ev rfl) (var_ev rfl)) (bad3 (drop_c _ .int) hF hV (f_caps rfl)) fun ws2 w2 l2 => ?_
  refine app_step _ rfl w2 (by omega) (tup3_ev (add_ev (tup1_ev (lit_eq ..)) (lo_ev (k := 1) (var_ev rfl) rfl) (dl _)) (var_ev rfl) (var_ev rfl)) (bad3 (drop_c _ .bool) hF hV (f_caps rfl)) fun ws3 w3 l3 => ?_
  have hsub : ∀ T : Sto, bin subD (lit (.int 15)) (bltE lenD (consX (var 3) nilX)) (wEnv W (.tuple cD) (.tuple fD) (.tuple (vs.map rowT)) num S.length none none none none none) T = .ok (.int (15 - (cD.length : Int))) T := fun T => by
    rw [bin_eq, lit_eq, R.bind_ok, len_ev (var_ev rfl), R.bind_ok, subD_int, lift_some]
  have hrl : (List.replicate (15 - (cD.length : Int)).toNat (PyData.int 5)).length = 15 - cD.length := by rw [List.length_replicate]; omega
  refine app_step _ rfl w3 (by omega) (tup3_ev (add_ev (var_ev rfl) (mul_ev (tup1_ev (lit_eq ..)) (hsub _) (by omega)) (by rw [hrl]; omega)) (var_ev rfl) (var_ev rfl)) (bad3 (.tup (by rw [List.length_append, hrl]; omega) (gd_app hcg fun d m => ?_)) hF hV (f_many (by rw [List.length_append, hrl]; omega))) fun ws4 w4 l4 => ?_
  · rw [List.eq_of_mem_replicate m]; exact .int
  refine app_step _ rfl w4 (by omega) (tup3_ev (var_ev rfl) tup0_ev (var_ev rfl)) (bad3 hC (.tup (Nat.zero_le _) gd_nil) hV f_nof) fun ws5 w5 l5 => ?_
  subst hf0
  refine app_step _ rfl w5 (by omega) (tup3_ev (var_ev rfl) (tup2_ev (at0_ev (var_ev rfl)) (at0_ev (var_ev rfl))) (var_ev rfl)) (bad3 hC (.tup (by show (2 : Nat) ≤ 1000; decide) (gd_cons .int (gd_cons .int gd_nil))) hV (f_set (s_asc ?_))) fun ws6 w6 l6 => ?_
  · show (PySem.W.dataLt (.int f0) (.int f0) && true) = false
    rw [PySem.W.dataLt_int, decide_eq_false (by omega)]; rfl
  refine app_step _ rfl w6 (by omega) (tup3_ev (var_ev rfl) (tup1_ev (len_ev (var_ev rfl))) (var_ev rfl)) (bad3 hC (.tup (by show (1 : Nat) ≤ 1000; decide) (gd_cons .int gd_nil)) hV (f_set (s_bad (List.mem_singleton_self _) ?_))) fun ws7 w7 l7 => ?_
  · show (decide (0 ≤ (cD.length : Int)) && decide ((cD.length : Int) ≤ (cD.length : Int) - 1)) = false
    rw [decide_eq_false (p := (cD.length : Int) ≤ (cD.length : Int) - 1) (by omega), Bool.and_false]
  refine app_step _ rfl w7 (by omega) (tup3_ev (var_ev rfl) (add_ev (tup1_ev (x := .int (-1)) rfl) (hi_ev (k := 1) (var_ev rfl) rfl) ?_) (var_ev rfl)) (bad3 hC (.tup ?_ (gd_app (gd_cons .int gd_nil) fun d m => hfg d (List.mem_of_mem_take m))) hV (f_set (s_bad (d := .int (-1)) (List.mem_append_left _ (List.mem_singleton_self _)) rfl))) fun ws8 w8 l8 => ?_
  · rw [List.length_take, List.length_singleton]; omega
  · rw [List.length_append, List.length_take, List.length_singleton]; omega
  refine app_step _ rfl w8 (by omega) (tup3_ev (var_ev rfl) (tup1_ev (lit_eq ..)) tup0_ev) (bad3 hC (.tup (by show (1 : Nat) ≤ 1000; decide) (gd_cons .bool gd_nil)) (.tup (Nat.zero_le _) gd_nil) (f_set (s_bad (List.mem_singleton_self _) rfl))) fun ws9 w9 l9 => ?_
  have g5 : ∀ k : Nat, k ≤ 1000 → Gd 2 (.tuple (List.replicate k (.int 5))) := fun k hk => .tup (by rw [List.length_replicate]; exact hk) fun d m => by rw [List.eq_of_mem_replicate m]; exact .int
  refine app_step _ rfl w9 (by omega) (tup3_ev (mul_ev (k := 4) (tup1_ev (lit_eq ..)) (lit_eq ..) (by decide)) (tup4_ev (lit_eq ..) (lit_eq ..) (lit_eq ..) (lit_eq ..)) tup0_ev) (bad3 (g5 4 (by decide)) (.tup (by show (4 : Nat) ≤ 1000; decide) (gd_cons .int (gd_cons .int (gd_cons .int (gd_cons .int gd_nil))))) (.tup (Nat.zero_le _) gd_nil) rfl) fun ws10 w10 l10 => ?_
  refine app_step _ rfl w10 (by omega) (tup3_ev (mul_ev (k := 4) (tup1_ev (lit_eq ..)) (lit_eq ..) (by decide)) (tup2_ev (lit_eq ..) (lit_eq ..)) tup0_ev) (bad3 (g5 4 (by decide)) (.tup (by show (2 : Nat) ≤ 1000; decide) (gd_cons .int (gd_cons .int gd_nil))) (.tup (Nat.zero_le _) gd_nil) (f_set (s_asc rfl))) fun ws11 w11 l11 => ?_
  obtain ⟨ds, ed, dlen, dg⟩ := many_rows (wEnv W (.tuple cD) (.tuple (.int f0 :: fr.map .int)) (.tuple (vs.map rowT)) num S.length none none none none none) (S ++ [.lst ws11]) (by show (11 : Nat) < 12; decide)
  refine app_step _ rfl w11 (by omega) (tup3_ev (mul_ev (k := 14) (tup1_ev (lit_eq ..)) (lit_eq ..) (by decide)) (tup1_ev (lit_eq ..)) ed) (bad3 (g5 14 (by decide)) (.tup (by show (1 : Nat) ≤ 1000; decide) (gd_cons .int gd_nil)) (.tup (by omega) dg) (f_vouch (v_len (by omega)))) fun ws12 w12 l12 => ?_
  have g3 : ∀ a b c : Int, Gd 1 (.tuple [.int a, .int b, .int c]) := fun a b c => .tup (by show (3 : Nat) ≤ 1000; decide) (gd_cons .int (gd_cons .int (gd_cons .int gd_nil)))
  refine app_step _ rfl w12 (by omega) (tup3_ev (var_ev rfl) (var_ev rfl) (tup1_ev (tup3_ev (lit_eq ..) (lit_eq ..) (lit_eq ..)))) (bad3 hC hF (.tup (by show (1 : Nat) ≤ 1000; decide) (gd_cons (g3 _ _ _) gd_nil)) (f_vouch (v_row (List.mem_singleton_self _) row_same))) fun ws13 w13 l13 => ?_
  refine app_step _ rfl w13 (by omega) (tup3_ev (var_ev rfl) (var_ev rfl) (tup1_ev (tup3_ev (lit_eq ..) (len_ev (var_ev rfl)) (lit_eq ..)))) (bad3 hC hF (.tup (by show (1 : Nat) ≤ 1000; decide) (gd_cons (g3 _ _ _) gd_nil)) (f_vouch (v_row (List.mem_singleton_self _) (row_second ?_)))) fun ws14 w14 l14 => ?_
  · show (decide (0 ≤ (cD.length : Int)) && decide ((cD.length : Int) ≤ (cD.length : Int) - 1)) = false
    rw [decide_eq_false (p := (cD.length : Int) ≤ (cD.length : Int) - 1) (by omega), Bool.and_false]
  -- one vouching changed
  obtain ⟨ws15, r6, r7, r8, r9, r10, e15, w15, l15⟩ : ∃ ws15 r6 r7 r8 r9 r10, ifB (cmpT neB (var 5) (tupE nilX)) (seqB (asgB (bin modD (bltE intD (consX (var 1) nilX)) (bltE lenD (consX (var 5) nilX))) (setN 6))
      (seqB (asgB (bin idxD (var 5) (var 6)) (unpG 3 (consG (setN 8) (consG (setN 9) (consG (setN 10) nilG)))))
      (seqB (forB (valI (frz (lstF (consX (tupE (consX (var 8) (consX (var 9) nilX))) (consX (tupE (consX (var 8) (consX (var 9) (consX (lit (.int 0)) nilX)))) (consX (tupE (consX (var 8) (consX (var 9) (consX (lit (.int 1001)) nilX)))) (consX (tupE (consX (var 8) (consX (var 8) (consX (var 10) nilX)))) (consX (tupE (consX (var 8) (consX (var 9) (consX (lit (.bool true)) nilX)))) (consX (tupE (consX (var 8) (consX (var 9) (consX (var 10) (consX (lit (.int 1)) nilX))))) (consX (tupE (consX (un negD (lit (.int 1))) (consX (var 9) (consX (var 10) nilX)))) nilX)))))))))) (setN 7) badBody)
      (seqB (expB (methE appD (var 2) (consX (tupE (consX (var 3) (consX (var 4) (consX (bin addD (bin addD (slA (var 5) noP (someP (bin addD (var 6) (lit (.int 1))))) (tupE (consX (tupE (consX (var 8) (consX (var 9) (consX (var 10) nilX)))) nilX))) (slA (var 5) (someP (bin addD (var 6) (lit (.int 1)))) noP)) nilX)))) nilX)))
      (expB (methE appD (var 2) (consX (tupE (consX (var 3) (consX (var 4) (consX (bin addD (bin addD (slA (var 5) noP (someP (bin addD (var 6) (lit (.int 1))))) (tupE (consX (tupE (consX (var 8) (consX (var 9) (consX (bin addD (bin modD (bltE intD (consX (var 10) nilX)) (lit (.int 1000))) (lit (.int 1))) nilX)))) nilX))) (slA (var 5) (someP (bin addD (var 6) (lit (.int 1)))) noP)) nilX)))) nilX))))))) skipB
      (wEnv W (.tuple cD) (.tuple (.int f0 :: fr.map .int)) (.tuple (vs.map rowT)) num S.length none none none none none) (S ++ [.lst ws14]) =
      .nx (wEnv W (.tuple cD) (.tuple (.int f0 :: fr.map .int)) (.tuple (vs.map rowT)) num S.length r6 r7 r8 r9 r10) (S ++ [.lst ws15]) ∧ (∀ w ∈ ws15, Bad w) ∧ ws15.length ≤ 200 := by
    by_cases hv : vs = []
    · refine ⟨ws14, none, none, none, none, none, ?_, w14, by omega⟩
      rw [ifB_eq, cmpT_eq, var_ev (d := .tuple (vs.map rowT)) rfl, R.bind_ok, tup0_ev, R.bind_ok, neB_rows, hv]
      rfl
    · have hv0 : 0 < vs.length := by
        cases vs with
        | nil => exact absurd rfl hv
        | cons a b => show 0 < b.length + 1; omega
      obtain ⟨p, hp, hpl⟩ : ∃ p : Nat, num % (vs.length : Int) = (p : Int) ∧ p < vs.length := ⟨(num % (vs.length : Int)).toNat, by
        have := Int.emod_nonneg num (show (vs.length : Int) ≠ 0 by omega)
        omega, by
        have := Int.emod_nonneg num (show (vs.length : Int) ≠ 0 by omega)
        have := Int.emod_lt_of_pos num (show (0 : Int) < (vs.length : Int) by omega)
        omega⟩
      obtain ⟨z1, z2, z3, z4, z5, z6, z7⟩ := vz _ (List.getElem_mem hpl)
      have hdup := dup_asc vs p hpl
      have hat : L2.atI (vs.map rowT) (p : Int) = some (rowT vs[p]) := by
        rw [atI_nat', List.getElem?_map, List.getElem?_eq_getElem hpl]; rfl
      generalize vs[p] = r at *
      obtain ⟨who, whom, width⟩ := r
      have b14 : ∀ d ∈ [PyData.tuple [.int who, .int whom], .tuple [.int who, .int whom, .int 0], .tuple [.int who, .int whom, .int 1001], .tuple [.int who, .int who, .int width], .tuple [.int who, .int whom, .bool true], .tuple [.int who, .int whom, .int width, .int 1], .tuple [.int (-1), .int whom, .int width]], Gd 1 d ∧ rowOk cD.length d = false := fun d m => by
        simp only [List.mem_cons, List.not_mem_nil, or_false] at m
        rcases m with rfl | rfl | rfl | rfl | rfl | rfl | rfl
        · exact ⟨.tup (by show (2 : Nat) ≤ 1000; decide) (gd_cons .int (gd_cons .int gd_nil)), row_two⟩
        · exact ⟨g3 _ _ _, row_third rfl⟩
        · exact ⟨g3 _ _ _, row_third rfl⟩
        · exact ⟨g3 _ _ _, row_same⟩
        · exact ⟨.tup (by show (3 : Nat) ≤ 1000; decide) (gd_cons .int (gd_cons .int (gd_cons .bool gd_nil))), row_third rfl⟩
        · exact ⟨.tup (by show (4 : Nat) ≤ 1000; decide) (gd_cons .int (gd_cons .int (gd_cons .int (gd_cons .int gd_nil)))), row_four⟩
        · exact ⟨g3 _ _ _, row_first rfl⟩
      obtain ⟨wsl, r7, el, wl, ll⟩ := bad_loop S W (.tuple (.int f0 :: fr.map .int)) cD vs num p hpl vn hC hF (some (.int who)) (some (.int whom)) (some (.int width)) _ b14 (by show (7 : Nat) ≤ 10; decide) ws14 w14 (by omega)
      have app : ∀ (w : Int) (ws : List D) (g : Ex), (∀ w ∈ ws, Bad w) → ws.length ≤ 120 → (∀ T : Sto, g (wEnv W (.tuple cD) (.tuple (.int f0 :: fr.map .int)) (.tuple (vs.map rowT)) num S.length (some (.int (p : Int))) r7 (some (.int who)) (some (.int whom)) (some (.int width))) T = .ok (.int w) T) →
          ∃ x, Bad x ∧ expB (methE appD (var 2) (consX (tupE (consX (var 3) (consX (var 4) (consX (bin addD (bin addD (slA (var 5) noP (someP (bin addD (var 6) (lit (.int 1))))) (tupE (consX (tupE (consX (var 8) (consX (var 9) (consX g nilX)))) nilX))) (slA (var 5) (someP (bin addD (var 6) (lit (.int 1)))) noP)) nilX)))) nilX))
            (wEnv W (.tuple cD) (.tuple (.int f0 :: fr.map .int)) (.tuple (vs.map rowT)) num S.length (some (.int (p : Int))) r7 (some (.int who)) (some (.int whom)) (some (.int width))) (S ++ [.lst ws]) =
            .nx (wEnv W (.tuple cD) (.tuple (.int f0 :: fr.map .int)) (.tuple (vs.map rowT)) num S.length (some (.int (p : Int))) r7 (some (.int who)) (some (.int whom)) (some (.int width))) (S ++ [.lst (ws ++ [x])]) := fun w ws g hws hl hg => by
        refine ⟨_, ?_, app_nx rfl (by omega) (tup3_ev (var_ev rfl) (var_ev rfl) (add_ev (add_ev (hi_ev (var_ev rfl) (inc_ev rfl)) (tup1_ev (tup3_ev (var_ev rfl) (var_ev rfl) (hg _))) ?_) (lo_ev (var_ev rfl) (inc_ev rfl)) ?_))⟩
        · refine bad3 hC hF (.tup ?_ (gd_app (gd_app (fun x m => gd_rows vs x (List.mem_of_mem_take m)) (gd_cons (g3 _ _ _) gd_nil)) (fun x m => gd_rows vs x (List.mem_of_mem_drop m)))) (f_vouch (v_asc (hdup (who, whom, w) rfl)))
          rw [List.length_append, List.length_append, List.length_take, List.length_drop, List.length_map, List.length_singleton]; omega
        · rw [List.length_take, List.length_map, List.length_singleton]; omega
        · rw [List.length_append, List.length_take, List.length_drop, List.length_map, List.length_singleton]; omega
      obtain ⟨x1, b1, a1⟩ := app width wsl (var 10) wl (by omega) fun T => var_ev rfl
      obtain ⟨x2, b2, a2⟩ := app (width % 1000 + 1) (wsl ++ [x1]) (bin addD (bin modD (bltE intD (consX (var 10) nilX)) (lit (.int 1000))) (lit (.int 1))) (bad_more wl b1) (by rw [List.length_append, List.length_singleton]; omega) fun T => by
        have m : modD T (.int width) (.int 1000) = some (.int (width % 1000)) := modD_int (by decide)
        simp [m]
      refine ⟨wsl ++ [x1] ++ [x2], some (.int (p : Int)), r7, some (.int who), some (.int whom), some (.int width), ?_, bad_more (bad_more wl b1) b2, by rw [List.length_append, List.length_append, List.length_singleton, List.length_singleton]; omega⟩
      have hne : vs.isEmpty = false := by
        cases vs with
        | nil => exact absurd rfl hv
        | cons a b => rfl
      rw [ifB_eq, cmpT_eq, var_ev (d := .tuple (vs.map rowT)) rfl, R.bind_ok, tup0_ev, R.bind_ok, neB_rows, hne, lift_some, R.to_ok, if_pos (show (!false) = true from rfl)]
      have mv : ∀ T : Sto, modD T (.int num) (.int ((vs.map rowT).length : Int)) = some (.int (p : Int)) := fun T => by
        rw [modD_int (by rw [List.length_map]; omega), List.length_map, hp]
      rw [seq_nx (env1 := wEnv W (.tuple cD) (.tuple (.int f0 :: fr.map .int)) (.tuple (vs.map rowT)) num S.length (some (.int (p : Int))) none none none none) (S1 := S ++ [.lst ws14]) (by
        rw [asgB_eq, bin_eq, bltE_eq, consX_eq, var_ev (d := .int num) rfl, R.bind_ok, nilX_eq, R.bind_ok, R.bind_ok, intD_int, lift_some, R.bind_ok, len_ev (xs := vs.map rowT) (var_ev rfl), R.bind_ok, mv]
        rfl)]
      rw [seq_nx (env1 := wEnv W (.tuple cD) (.tuple (.int f0 :: fr.map .int)) (.tuple (vs.map rowT)) num S.length (some (.int (p : Int))) none (some (.int who)) (some (.int whom)) (some (.int width))) (S1 := S ++ [.lst ws14]) (by
        rw [asgB_eq, bin_eq, var_ev (d := .tuple (vs.map rowT)) rfl, R.bind_ok, var_ev (d := .int (p : Int)) rfl, R.bind_ok, idxD_tuple, hat]
        rfl)]
      rw [seq_nx (forB_nx (by simp [len_size]) el), seq_nx a1, a2]
  rw [endB_seq e15]
  -- turned about
  obtain ⟨ws16, e16, w16, l16⟩ : ∃ ws16, ifB (cmpT gtB (bltE lenD (consX (var 5) nilX)) (lit (.int 1))) (expB (methE appD (var 2) (consX (tupE (consX (var 3) (consX (var 4) (consX (bin addD (slA (var 5) (someP (lit (.int 1))) noP) (slA (var 5) noP (someP (lit (.int 1))))) nilX)))) nilX))) skipB
      (wEnv W (.tuple cD) (.tuple (.int f0 :: fr.map .int)) (.tuple (vs.map rowT)) num S.length r6 r7 r8 r9 r10) (S ++ [.lst ws15]) =
      .nx (wEnv W (.tuple cD) (.tuple (.int f0 :: fr.map .int)) (.tuple (vs.map rowT)) num S.length r6 r7 r8 r9 r10) (S ++ [.lst ws16]) ∧ (∀ w ∈ ws16, Bad w) ∧ ws16.length ≤ 300 := by
    have hg : cmpT gtB (bltE lenD (consX (var 5) nilX)) (lit (.int 1)) (wEnv W (.tuple cD) (.tuple (.int f0 :: fr.map .int)) (.tuple (vs.map rowT)) num S.length r6 r7 r8 r9 r10) (S ++ [.lst ws15]) = .ok (decide ((1 : Int) < (vs.length : Int))) (S ++ [.lst ws15]) := by
      rw [cmpT_eq, len_ev (xs := vs.map rowT) (var_ev rfl), R.bind_ok, lit_eq, R.bind_ok, gtB_int, List.length_map]
      rfl
    rw [ifB_eq, hg, R.to_ok]
    by_cases hv1 : 1 < vs.length
    · rw [decide_eq_true (show (1 : Int) < (vs.length : Int) by omega), if_pos rfl]
      refine ⟨_, app_nx rfl (by omega) (tup3_ev (var_ev rfl) (var_ev rfl) (add_ev (lo_ev (k := 1) (var_ev rfl) rfl) (hi_ev (k := 1) (var_ev rfl) rfl) ?_)), bad_more w15 (bad3 hC hF (.tup ?_ (gd_app (fun x m => gd_rows vs x (List.mem_of_mem_drop m)) (fun x m => gd_rows vs x (List.mem_of_mem_take m)))) (f_vouch (v_asc (turned hv1 va)))), ?_⟩
      · rw [List.length_take, List.length_drop, List.length_map]; omega
      · rw [List.length_append, List.length_take, List.length_drop, List.length_map]; omega
      · rw [List.length_append, List.length_singleton]; omega
    · rw [decide_eq_false (show ¬ (1 : Int) < (vs.length : Int) by omega)]
      exact ⟨ws15, rfl, w15, by omega⟩
  rw [endB_seq e16]
  refine ⟨ws16, ?_, w16, by omega⟩
  rw [retB_eq, var_ev (d := rf S.length) rfl, R.to_ok, endB_rt, fin_last (bad_flat w16)]
end K01

namespace K01
open PySem PySem.Spec PyProof.Rows L2 Cor
theorem law_runs {C : Clls} {S : Sto} {L N H : D} {cD : List D} {F V : D} {num : Int} {ws : List D} (W : D) (hW : W = .tuple [.tuple cD, F, V])
    (h16 : C 16 [L, .int 0, .int 20] S = .ok N S) (h20 : C 20 [N] S = .ok W S) (h18 : C 18 [W] S = .ok H S) (h10 : C 10 [W] S = .ok (.bool true) S) (h10' : C 10 [H] S = .ok (.bool true) S)
    (h12 : C 12 [H] S = .ok W S) (h12' : C 12 [W] S = .ok W S) (h17 : C 17 [W, W] S = .ok (.bool true) S) (hH : neB S H H = some false)
    (h13 : C 13 [W] S = .ok (.int cD.length) S) (h13' : C 13 [H] S = .ok (.int cD.length) S) (h17' : C 17 [.int cD.length, .int cD.length] S = .ok (.bool true) S)
    (h15 : C 15 [L, .int 1] S = .ok (.int num) S) (h21 : C 21 [W, .int num] S = .ok (.list ws) S)
    (hws : ∀ w ∈ ws, ∃ w', C 10 [w] S = .ok (.bool false) S ∧ C 18 [w] S = .ok w' S ∧ C 10 [w'] S = .ok (.bool false) S) :
    endB S (b_law C [some L, none, none, none] S) = .ok (.bool true) S := by
  unfold b_law
  rw [endB_seq (env1 := [some L, some W, none, none]) (S1 := S) (by simp [h16, h20])]
  rw [endB_seq (env1 := [some L, some W, some H, none]) (S1 := S) (by simp [h18])]
  rw [endB_seq (env1 := [some L, some W, some H, none]) (S1 := S) (by simp [h10, h10'])]
  rw [endB_seq (env1 := [some L, some W, some H, none]) (S1 := S) (by simp [h12, h12', h17, h18, hH])]
  have hi : idxD S W (.int 0) = some (.tuple cD) := by rw [hW]; rfl
  rw [endB_seq (env1 := [some L, some W, some H, none]) (S1 := S) (by simp [h13, h13', h17', hi])]
  have hl := forL_check (i := 3) (S := S) (v := .bool false) (b := ifB (orT (cmpT isnB (callE C 10 (consX (var 3) nilX)) (lit (.bool false))) (cmpT isnB (callE C 10 (consX (callE C 18 (consX (var 3) nilX)) nilX)) (lit (.bool false)))) (retB (lit (.bool false))) skipB) (all := ws) (fun _ => true) ws [some L, some W, some H, none] fun d md r => by
    obtain ⟨w', a1, a2, a3⟩ := hws d md
    simp [a1, a2, a3]
  have ha : ws.all (fun _ => true) = true := by simp
  rw [ha, if_pos rfl] at hl
  have h1 : (lastSet 3 [some L, some W, some H, none] ws)[1]? = some (some W) := lastSet_ne _ _ (by decide)
  generalize lastSet 3 [some L, some W, some H, none] ws = env' at hl h1
  rw [endB_seq (forB_nx (S1 := S) (ds := ws) (by simp [h15, h21]) hl)]
  simp [h1, h10]
mutual
theorem listed_itree : ∀ d : D, tint d = true → itree (listed d) = true
  | .int _, _ => rfl
  | .tuple ds, h => by
    have h : (decide (ds.length ≤ 1000) && tintL ds) = true := h
    simp at h
    exact listedL_itree ds h.2
  | .none, h => by cases h
  | .bool _, h => by cases h
  | .str _, h => by cases h
  | .list _, h => by cases h
  | .dict _, h => by cases h
theorem listedL_itree : ∀ ds : List D, tintL ds = true → itreeL (listedL ds) = true
  | [], _ => rfl
  | d :: ds, h => by
    have h : (tint d && tintL ds) = true := h
    simp at h
    show (itree (listed d) && itreeL (listedL ds)) = true
    rw [listed_itree d h.1, listedL_itree ds h.2]; rfl
end
theorem plain (ns : List Int) (_ : ns.length ≤ 63) (hb : ∀ z ∈ ns, Builtin.Int.intBits z ≤ 1048576) : Cn 21 22 [.list (ns.map .int)] [] = .ok (.bool true) [] := by
  rw [run_law 20]
  obtain ⟨out, ho, e16⟩ := e_numbers 18 [] ns hb 0 20 (by decide) (by decide)
  obtain ⟨cs, fs, vs, hw, e20⟩ := e_web 18 [] out ho.1 ho.2
  obtain ⟨ws, e21, hbad, _⟩ := e_wrong 19 [] hw (cellZ ns 1)
  have e15 := e_cell 19 [] ns 1
  have gw := gd_web hw
  have tw := tint_web hw
  have gH := listed_good _ gw.1
  have dH : dep (listed (webT cs fs vs)) ≤ 3 := by rw [listed_dep]; exact gw.2
  have iw := webT_isWeb hw
  have iH : isWeb (listed (webT cs fs vs)) = true := by rw [isWeb_listed]; exact iw
  have e18 := e_listed 19 [] (webT cs fs vs) gw.1 (Nat.le_trans gw.2 (by decide))
  have e10 := e_is_web 15 [] _ gw.1
  have e10' := e_is_web 15 [] _ gH
  rw [iw] at e10
  rw [iH] at e10'
  have e12 := e_web_of 13 [] _ gH (Nat.le_trans dH (by decide)) iH
  have e12' := e_web_of 13 [] _ gw.1 (Nat.le_trans gw.2 (by decide)) iw
  rw [frozen_listed _ tw] at e12
  rw [frozen_tint _ tw] at e12'
  have e17 := e_same 19 [] _ tw (Nat.le_trans gw.2 (by decide))
  have hH : neB [] (listed (webT cs fs vs)) (listed (webT cs fs vs)) = some false := by
    unfold neB
    rw [eqB_self (listed_itree _ tw) (Nat.le_trans dH (by decide))]
    rfl
  have e13 := e_accounts 13 [] (webT cs fs vs) _ _ _ _ gw.1 (Nat.le_trans gw.2 (by decide)) iw rfl rfl
  have e13' := e_accounts 13 [] (listed (webT cs fs vs)) _ _ _ _ gH (Nat.le_trans dH (by decide)) iH rfl rfl
  have hll : (listedL (cs.map PyData.int)).length = (cs.map PyData.int).length := by rw [listedL_map, List.length_map]
  have e17' := e_same 19 [] (.int ((cs.map PyData.int).length : Int)) rfl (Nat.zero_le _)
  refine law_runs (C := Cn 20) (L := .list (ns.map .int)) (N := .list (out.map .int)) (H := listed (webT cs fs vs)) (cD := cs.map .int) (num := cellZ ns 1) (ws := ws) (webT cs fs vs) rfl e16 e20 e18 e10 e10' e12 e12' e17 hH e13 ?_ e17' e15 e21 fun w hm => ?_
  · rw [hll] at e13'
    exact e13'
  · have hb := hbad w hm
    have a1 := e_is_web 15 [] w hb.g.1
    have a2 := e_listed 19 [] w hb.g.1 (Nat.le_trans hb.g.2 (by decide))
    have a3 := e_is_web 15 [] (listed w) (listed_good _ hb.g.1)
    rw [isWeb_listed, hb.w] at a3
    rw [hb.w] at a1
    exact ⟨listed w, a1, a2, a3⟩
end K01

namespace K01
open PySem PySem.Spec PyProof.Rows L2 Cor
def topS (i : Nat) : Stmt := PySem.Challenge.pw_standsdespite_k01_webs_by_their_form.main.body.getD i (.Pass ⟨0, 0, 0, 0⟩)
abbrev s_is_int : Stmt := topS 4
theorem sc_is_int : FnScope n_is_int ["value"] (defScope s_is_int) := ⟨rfl, rfl, rfl, by decide +kernel, rfl, by decide +kernel, by decide +kernel⟩
abbrev s_is_between : Stmt := topS 5
theorem sc_is_between : FnScope n_is_between ["value", "low", "high"] (defScope s_is_between) := ⟨rfl, rfl, rfl, by decide +kernel, rfl, by decide +kernel, by decide +kernel⟩
abbrev s_is_sequence : Stmt := topS 6
theorem sc_is_sequence : FnScope n_is_sequence ["value"] (defScope s_is_sequence) := ⟨rfl, rfl, rfl, by decide +kernel, rfl, by decide +kernel, by decide +kernel⟩
abbrev s_is_row : Stmt := topS 7
theorem sc_is_row : FnScope n_is_row ["value", "many"] (defScope s_is_row) := ⟨rfl, rfl, rfl, by decide +kernel, rfl, by decide +kernel, by decide +kernel⟩
abbrev s_frozen : Stmt := topS 8
theorem sc_frozen : FnScope n_frozen ["value"] (defScope s_frozen) := ⟨rfl, rfl, rfl, by decide +kernel, rfl, by decide +kernel, by decide +kernel⟩
abbrev s_is_ascending : Stmt := topS 9
theorem sc_is_ascending : FnScope n_is_ascending ["values"] (defScope s_is_ascending) := ⟨rfl, rfl, rfl, by decide +kernel, rfl, by decide +kernel, by decide +kernel⟩
abbrev s_is_number_set : Stmt := topS 10
theorem sc_is_number_set : FnScope n_is_number_set ["value", "low", "high"] (defScope s_is_number_set) := ⟨rfl, rfl, rfl, by decide +kernel, rfl, by decide +kernel, by decide +kernel⟩
abbrev s_need : Stmt := topS 11
theorem sc_need : FnScope n_need ["test", "at"] (defScope s_need) := ⟨rfl, rfl, rfl, by decide +kernel, rfl, by decide +kernel, by decide +kernel⟩
abbrev s_is_size : Stmt := topS 17
theorem sc_is_size : FnScope n_is_size ["value"] (defScope s_is_size) := ⟨rfl, rfl, rfl, by decide +kernel, rfl, by decide +kernel, by decide +kernel⟩
abbrev s_is_vouchings : Stmt := topS 18
theorem sc_is_vouchings : FnScope n_is_vouchings ["value", "many"] (defScope s_is_vouchings) := ⟨rfl, rfl, rfl, by decide +kernel, rfl, by decide +kernel, by decide +kernel⟩
abbrev s_is_web : Stmt := topS 19
theorem sc_is_web : FnScope n_is_web ["value"] (defScope s_is_web) := ⟨rfl, rfl, rfl, by decide +kernel, rfl, by decide +kernel, by decide +kernel⟩
abbrev s_need_web : Stmt := topS 20
theorem sc_need_web : FnScope n_need_web ["value", "at"] (defScope s_need_web) := ⟨rfl, rfl, rfl, by decide +kernel, rfl, by decide +kernel, by decide +kernel⟩
abbrev s_web_of : Stmt := topS 21
theorem sc_web_of : FnScope n_web_of ["web"] (defScope s_web_of) := ⟨rfl, rfl, rfl, by decide +kernel, rfl, by decide +kernel, by decide +kernel⟩
abbrev s_accounts : Stmt := topS 22
theorem sc_accounts : FnScope n_accounts ["web"] (defScope s_accounts) := ⟨rfl, rfl, rfl, by decide +kernel, rfl, by decide +kernel, by decide +kernel⟩
abbrev s__law_power : Stmt := topS 24
theorem sc__law_power : FnScope n__law_power ["base", "many"] (defScope s__law_power) := ⟨rfl, rfl, rfl, by decide +kernel, rfl, by decide +kernel, by decide +kernel⟩
abbrev s__law_cell : Stmt := topS 25
theorem sc__law_cell : FnScope n__law_cell ["script", "place"] (defScope s__law_cell) := ⟨rfl, rfl, rfl, by decide +kernel, rfl, by decide +kernel, by decide +kernel⟩
abbrev s__law_numbers : Stmt := topS 26
theorem sc__law_numbers : FnScope n__law_numbers ["script", "place", "many"] (defScope s__law_numbers) := ⟨rfl, rfl, rfl, by decide +kernel, rfl, by decide +kernel, by decide +kernel⟩
abbrev s__law_same : Stmt := topS 27
theorem sc__law_same : FnScope n__law_same ["one", "other"] (defScope s__law_same) := ⟨rfl, rfl, rfl, by decide +kernel, rfl, by decide +kernel, by decide +kernel⟩
abbrev s__law_listed : Stmt := topS 28
theorem sc__law_listed : FnScope n__law_listed ["value"] (defScope s__law_listed) := ⟨rfl, rfl, rfl, by decide +kernel, rfl, by decide +kernel, by decide +kernel⟩
abbrev s__law_size : Stmt := topS 29
theorem sc__law_size : FnScope n__law_size ["number"] (defScope s__law_size) := ⟨rfl, rfl, rfl, by decide +kernel, rfl, by decide +kernel, by decide +kernel⟩
abbrev s__law_web : Stmt := topS 30
theorem sc__law_web : FnScope n__law_web ["numbers"] (defScope s__law_web) := ⟨rfl, rfl, rfl, by decide +kernel, rfl, by decide +kernel, by decide +kernel⟩
abbrev s__law_wrong : Stmt := topS 32
theorem sc__law_wrong : FnScope n__law_wrong ["web", "number"] (defScope s__law_wrong) := ⟨rfl, rfl, rfl, by decide +kernel, rfl, by decide +kernel, by decide +kernel⟩
abbrev s_law : Stmt := topS 33
theorem sc_law : FnScope n_law ["script"] (defScope s_law) := ⟨rfl, rfl, rfl, by decide +kernel, rfl, by decide +kernel, by decide +kernel⟩
/-- what is not the text's own -/
structure NB (mg : Str → Option Value) : Prop where
  all : mg "all" = none
  bool : mg "bool" = none
  int : mg "int" = none
  isinstance : mg "isinstance" = none
  len : mg "len" = none
  list : mg "list" = none
  range : mg "range" = none
  sorted : mg "sorted" = none
  str : mg "str" = none
  tuple : mg "tuple" = none
structure GC (mg : Str → Option Value) : Prop where
  MOST_ACCOUNTS : ∃ t, mg "MOST_ACCOUNTS" = some (.int (14) t)
  MOST_FOUNDERS : ∃ t, mg "MOST_FOUNDERS" = some (.int (3) t)
  MOST_VOUCHINGS : ∃ t, mg "MOST_VOUCHINGS" = some (.int (60) t)
  WIDEST : ∃ t, mg "WIDEST" = some (.int (1000) t)
section
variable {P : Program} {w : World} {K : PySem.W.Frag} {mg : Str → Option Value} {base : Heap} {ts : List Addr} {k : Nat} {C : Clls} {f : Addr} {cdv : Value} {A : Around} {outer : List Env} {s : Shared} {H : Hp} {E : XK}
set_option maxHeartbeats 4000000 in
theorem j_is_int (nb : NB mg) (gc : GC mg) (hcal : AllCal P w K mg base ts k tab C) (hr1 : Room (k + 1) (A.deeper (envOfC "is_int" (defScope s_is_int) s.heap.objs.size f cdv))) :
    JB (cxOf (L2.CX P w) P w K mg base n_is_int "is_int" (defScope s_is_int) f cdv A outer s H E) ts (fun c o _ H => E c o H) (defBody s_is_int) (b_is_int C) := by
  have h0 := hr1.mono (Nat.le_succ k)
  have hN := (sc_is_int).nd
  exact (jb_one (js_ret (je_and (je_isi1 (t1 := .int) (by rfl) nb.isinstance (je_var rfl (vis_of rfl)) (by rfl) nb.int (by rfl)) (je_one (je_not (je_isi1 (t1 := .bool) (by rfl) nb.isinstance (je_var rfl (vis_of rfl)) (by rfl) nb.bool (by rfl)))))))
set_option maxHeartbeats 4000000 in
theorem j_is_between (nb : NB mg) (gc : GC mg) (hcal : AllCal P w K mg base ts k tab C) (hr1 : Room (k + 1) (A.deeper (envOfC "is_between" (defScope s_is_between) s.heap.objs.size f cdv))) :
    JB (cxOf (L2.CX P w) P w K mg base n_is_between "is_between" (defScope s_is_between) f cdv A outer s H E) ts (fun c o _ H => E c o H) (defBody s_is_between) (b_is_between C) := by
  have h0 := hr1.mono (Nat.le_succ k)
  have hN := (sc_is_between).nd
  exact (jb_one (js_ret (je_and (je_call (hcal 0 _ _ rfl) takes_cx h0 (by rfl) (jx_cons (je_var rfl (vis_of rfl)) jx_nil)) (je_one (je_chn (o_le h0) (o_le h0) (je_var rfl (vis_of rfl)) (je_var rfl (vis_of rfl)) (je_var rfl (vis_of rfl)))))))
set_option maxHeartbeats 4000000 in
theorem j_is_sequence (nb : NB mg) (gc : GC mg) (hcal : AllCal P w K mg base ts k tab C) (hr1 : Room (k + 1) (A.deeper (envOfC "is_sequence" (defScope s_is_sequence) s.heap.objs.size f cdv))) :
    JB (cxOf (L2.CX P w) P w K mg base n_is_sequence "is_sequence" (defScope s_is_sequence) f cdv A outer s H E) ts (fun c o _ H => E c o H) (defBody s_is_sequence) (b_is_sequence C) := by
  have h0 := hr1.mono (Nat.le_succ k)
  have hN := (sc_is_sequence).nd
  exact (jb_one (js_ret (je_isi2 (t1 := .tuple) (t2 := .list) (by rfl) nb.isinstance (je_var rfl (vis_of rfl)) (by rfl) nb.tuple (by rfl) (by rfl) nb.list (by rfl))))
set_option maxHeartbeats 4000000 in
theorem j_is_row (nb : NB mg) (gc : GC mg) (hcal : AllCal P w K mg base ts k tab C) (hr1 : Room (k + 1) (A.deeper (envOfC "is_row" (defScope s_is_row) s.heap.objs.size f cdv))) :
    JB (cxOf (L2.CX P w) P w K mg base n_is_row "is_row" (defScope s_is_row) f cdv A outer s H E) ts (fun c o _ H => E c o H) (defBody s_is_row) (b_is_row C) := by
  have h0 := hr1.mono (Nat.le_succ k)
  have hN := (sc_is_row).nd
  exact (jb_one (js_ret (je_and (je_call (hcal 2 _ _ rfl) takes_cx h0 (by rfl) (jx_cons (je_var rfl (vis_of rfl)) jx_nil)) (je_one (je_cmp (o_eq h0) (je_blt c_len (by rfl) nb.len (by rfl) (jx_cons (je_var rfl (vis_of rfl)) jx_nil)) (je_var rfl (vis_of rfl)))))))
set_option maxHeartbeats 4000000 in
theorem j_frozen (nb : NB mg) (gc : GC mg) (hcal : AllCal P w K mg base ts k tab C) (hr1 : Room (k + 1) (A.deeper (envOfC "frozen" (defScope s_frozen) s.heap.objs.size f cdv))) :
    JB (cxOf (L2.CX P w) P w K mg base n_frozen "frozen" (defScope s_frozen) f cdv A outer s H E) ts (fun c o _ H => E c o H) (defBody s_frozen) (b_frozen C) := by
  have h0 := hr1.mono (Nat.le_succ k)
  have hN := (sc_frozen).nd
  exact (jb_cons (js_if (jt_tru (je_call (hcal 2 _ _ rfl) takes_cx h0 (by rfl) (jx_cons (je_var rfl (vis_of rfl)) jx_nil))) (jb_one (js_ret (je_bltT c_tuple (by rfl) nb.tuple (by rfl) (jx_cons (je_frz (jf_lc (own := [("part", 1)]) rfl hN (ji_val (je_var rfl (vis_of rfl))) (blkOk_by (N := n_frozen) (sc := defScope s_frozen) (by decide +kernel)) (by decide) (fun _ _ _ _ _ => (jg_name hN rfl (loc_or rfl))) (fun _ _ _ _ _ => jts_nil) (fun _ _ _ _ _ => (je_call (hcal 4 _ _ rfl) takes_w0 h0 (by rfl) (jx_cons (je_var rfl (vis_of rfl)) jx_nil))))) jx_nil)))) jb_nil)
    (jb_one (js_ret (je_var rfl (vis_of rfl)))))
set_option maxHeartbeats 4000000 in
theorem j_is_ascending (nb : NB mg) (gc : GC mg) (hcal : AllCal P w K mg base ts k tab C) {c Pt : Addr} (TB : GxR.TabB base mg c Pt) (hP : Pt ∈ ts) (hcd : cdv = .ref c) (hr1 : Room (k + 1) (A.deeper (envOfC "is_ascending" (defScope s_is_ascending) s.heap.objs.size f cdv))) :
    JB (cxOf (L2.CX P w) P w K mg base n_is_ascending "is_ascending" (defScope s_is_ascending) f cdv A outer s H E) ts (fun c o _ H => E c o H) (defBody s_is_ascending) (b_is_ascending C) := by
  have h0 := hr1.mono (Nat.le_succ k)
  have hN := (sc_is_ascending).nd
  exact (jb_one (js_ret (je_all (own := [("i", 1)]) hr1 rfl hN (by rfl) nb.all TB hP hcd (ji_rng1 (by rfl) nb.range (je_bin o_sub (je_blt c_len (by rfl) nb.len (by rfl) (jx_cons (je_var rfl (vis_of rfl)) jx_nil)) je_int)) (blkOk_by (N := n_is_ascending) (sc := defScope s_is_ascending) (by decide +kernel)) rfl (by decide +kernel) rfl (by decide) (fun _ _ _ _ _ _ hr' => (jg_name hN rfl (loc_or rfl))) (fun _ _ _ _ _ _ hr' => jts_nil) (fun _ _ _ _ _ _ hr' => (je_cmp (o_lt hr') (je_idx hr' (je_var rfl (vis_of rfl)) (je_var rfl (vis_of rfl))) (je_idx hr' (je_var rfl (vis_of rfl)) (je_bin o_add (je_var rfl (vis_of rfl)) je_int)))))))
set_option maxHeartbeats 4000000 in
theorem j_is_number_set (nb : NB mg) (gc : GC mg) (hcal : AllCal P w K mg base ts k tab C) {c Pt : Addr} (TB : GxR.TabB base mg c Pt) (hP : Pt ∈ ts) (hcd : cdv = .ref c) (hr1 : Room (k + 1) (A.deeper (envOfC "is_number_set" (defScope s_is_number_set) s.heap.objs.size f cdv))) :
    JB (cxOf (L2.CX P w) P w K mg base n_is_number_set "is_number_set" (defScope s_is_number_set) f cdv A outer s H E) ts (fun c o _ H => E c o H) (defBody s_is_number_set) (b_is_number_set C) := by
  have h0 := hr1.mono (Nat.le_succ k)
  have hN := (sc_is_number_set).nd
  exact (jb_cons (js_if (jt_w (jw_or (jt_not (jt_tru (je_call (hcal 2 _ _ rfl) takes_cx h0 (by rfl) (jx_cons (je_var rfl (vis_of rfl)) jx_nil)))) (jw_or1 (jt_not (jt_tru (je_all (own := [("part", 3)]) hr1 rfl hN (by rfl) nb.all TB hP hcd (ji_val (je_var rfl (vis_of rfl))) (blkOk_by (N := n_is_number_set) (sc := defScope s_is_number_set) (by decide +kernel)) rfl (by decide +kernel) rfl (by decide) (fun _ _ _ _ _ _ hr' => (jg_name hN rfl (loc_or rfl))) (fun _ _ _ _ _ _ hr' => jts_nil) (fun _ _ _ _ _ _ hr' => (je_call (hcal 1 _ _ rfl) takes_w0 hr' (by rfl) (jx_cons (je_var rfl (vis_of rfl)) (jx_cons (je_var rfl (vis_of rfl)) (jx_cons (je_var rfl (vis_of rfl)) jx_nil))))))))))) (jb_one (js_ret je_bl)) jb_nil)
    (jb_one (js_ret (je_call (hcal 5 _ _ rfl) takes_cx h0 (by rfl) (jx_cons (je_var rfl (vis_of rfl)) jx_nil)))))
set_option maxHeartbeats 4000000 in
theorem j_need (nb : NB mg) (gc : GC mg) (hcal : AllCal P w K mg base ts k tab C) (hr1 : Room (k + 1) (A.deeper (envOfC "need" (defScope s_need) s.heap.objs.size f cdv))) :
    JB (cxOf (L2.CX P w) P w K mg base n_need "need" (defScope s_need) f cdv A outer s H E) ts (fun c o _ H => E c o H) (defBody s_need) (b_need C) := by
  have h0 := hr1.mono (Nat.le_succ k)
  have hN := (sc_need).nd
  exact (jb_one (js_if (jt_not (jt_tru (je_var rfl (vis_of rfl)))) (jb_one js_no) jb_nil))
set_option maxHeartbeats 4000000 in
theorem j_is_size (nb : NB mg) (gc : GC mg) (hcal : AllCal P w K mg base ts k tab C) (hr1 : Room (k + 1) (A.deeper (envOfC "is_size" (defScope s_is_size) s.heap.objs.size f cdv))) :
    JB (cxOf (L2.CX P w) P w K mg base n_is_size "is_size" (defScope s_is_size) f cdv A outer s H E) ts (fun c o _ H => E c o H) (defBody s_is_size) (b_is_size C) := by
  have h0 := hr1.mono (Nat.le_succ k)
  have hN := (sc_is_size).nd
  exact (jb_one (js_ret (je_call (hcal 1 _ _ rfl) takes_cx h0 (by rfl) (jx_cons (je_var rfl (vis_of rfl)) (jx_cons je_int (jx_cons (je_gint (by rfl) gc.WIDEST) jx_nil))))))
set_option maxHeartbeats 4000000 in
theorem j_is_vouchings (nb : NB mg) (gc : GC mg) (hcal : AllCal P w K mg base ts k tab C) (hr1 : Room (k + 1) (A.deeper (envOfC "is_vouchings" (defScope s_is_vouchings) s.heap.objs.size f cdv))) :
    JB (cxOf (L2.CX P w) P w K mg base n_is_vouchings "is_vouchings" (defScope s_is_vouchings) f cdv A outer s H E) ts (fun c o _ H => E c o H) (defBody s_is_vouchings) (b_is_vouchings C) := by
  have h0 := hr1.mono (Nat.le_succ k)
  have hN := (sc_is_vouchings).nd
  exact (jb_cons (js_if (jt_w (jw_or (jt_not (jt_tru (je_call (hcal 2 _ _ rfl) takes_cx h0 (by rfl) (jx_cons (je_var rfl (vis_of rfl)) jx_nil)))) (jw_or1 (jt_cmp (o_gt h0) (je_blt c_len (by rfl) nb.len (by rfl) (jx_cons (je_var rfl (vis_of rfl)) jx_nil)) (je_gint (by rfl) gc.MOST_VOUCHINGS))))) (jb_one (js_ret je_bl)) jb_nil)
    (jb_cons (js_for owns_cx rfl (ji_val (je_var rfl (vis_of rfl))) (jg_name hN rfl (loc_or rfl)) (jb_cons (js_if (jt_w (jw_or (jt_not (jt_tru (je_call (hcal 3 _ _ rfl) takes_cx h0 (by rfl) (jx_cons (je_var rfl (vis_of rfl)) (jx_cons je_int jx_nil))))) (jw_or (jt_not (jt_tru (je_call (hcal 1 _ _ rfl) takes_cx h0 (by rfl) (jx_cons (je_idx h0 (je_var rfl (vis_of rfl)) je_int) (jx_cons je_int (jx_cons (je_bin o_sub (je_var rfl (vis_of rfl)) je_int) jx_nil)))))) (jw_or1 (jt_not (jt_tru (je_call (hcal 1 _ _ rfl) takes_cx h0 (by rfl) (jx_cons (je_idx h0 (je_var rfl (vis_of rfl)) je_int) (jx_cons je_int (jx_cons (je_bin o_sub (je_var rfl (vis_of rfl)) je_int) jx_nil)))))))))) (jb_one (js_ret je_bl)) jb_nil)
    (jb_one (js_if (jt_w (jw_or (jt_cmp (o_eq h0) (je_idx h0 (je_var rfl (vis_of rfl)) je_int) (je_idx h0 (je_var rfl (vis_of rfl)) je_int)) (jw_or1 (jt_not (jt_tru (je_call (hcal 8 _ _ rfl) takes_cx h0 (by rfl) (jx_cons (je_idx h0 (je_var rfl (vis_of rfl)) je_int) jx_nil))))))) (jb_one (js_ret je_bl)) jb_nil))))
    (jb_one (js_ret (je_call (hcal 5 _ _ rfl) takes_cx h0 (by rfl) (jx_cons (je_frz (jf_lc (own := [("row", 2)]) rfl hN (ji_val (je_var rfl (vis_of rfl))) (blkOk_by (N := n_is_vouchings) (sc := defScope s_is_vouchings) (by decide +kernel)) (by decide) (fun _ _ _ _ _ => (jg_name hN rfl (loc_or rfl))) (fun _ _ _ _ _ => jts_nil) (fun _ _ _ _ _ => (je_tup (jx_cons (je_idx h0 (je_var rfl (vis_of rfl)) je_int) (jx_cons (je_idx h0 (je_var rfl (vis_of rfl)) je_int) jx_nil)))))) jx_nil))))))
set_option maxHeartbeats 4000000 in
theorem j_is_web (nb : NB mg) (gc : GC mg) (hcal : AllCal P w K mg base ts k tab C) {c Pt : Addr} (TB : GxR.TabB base mg c Pt) (hP : Pt ∈ ts) (hcd : cdv = .ref c) (hr1 : Room (k + 1) (A.deeper (envOfC "is_web" (defScope s_is_web) s.heap.objs.size f cdv))) :
    JB (cxOf (L2.CX P w) P w K mg base n_is_web "is_web" (defScope s_is_web) f cdv A outer s H E) ts (fun c o _ H => E c o H) (defBody s_is_web) (b_is_web C) := by
  have h0 := hr1.mono (Nat.le_succ k)
  have hN := (sc_is_web).nd
  exact (jb_cons (js_if (jt_not (jt_tru (je_call (hcal 3 _ _ rfl) takes_cx h0 (by rfl) (jx_cons (je_var rfl (vis_of rfl)) (jx_cons je_int jx_nil))))) (jb_one (js_ret je_bl)) jb_nil)
    (jb_cons (js_asg (je_var rfl (vis_of rfl)) (jg_unp rfl (jgs_cons (jg_name hN rfl (loc_or rfl)) (jgs_cons (jg_name hN rfl (loc_or rfl)) (jgs_cons (jg_name hN rfl (loc_or rfl)) jgs_nil)))))
    (jb_cons (js_if (jt_w (jw_or (jt_not (jt_tru (je_call (hcal 2 _ _ rfl) takes_cx h0 (by rfl) (jx_cons (je_var rfl (vis_of rfl)) jx_nil)))) (jw_or1 (jt_not (jt_chn (o_le h0) (o_le h0) je_int (je_blt c_len (by rfl) nb.len (by rfl) (jx_cons (je_var rfl (vis_of rfl)) jx_nil)) (je_gint (by rfl) gc.MOST_ACCOUNTS)))))) (jb_one (js_ret je_bl)) jb_nil)
    (jb_cons (js_if (jt_not (jt_tru (je_all (own := [("capacity", 5)]) hr1 rfl hN (by rfl) nb.all TB hP hcd (ji_val (je_var rfl (vis_of rfl))) (blkOk_by (N := n_is_web) (sc := defScope s_is_web) (by decide +kernel)) rfl (by decide +kernel) rfl (by decide) (fun _ _ _ _ _ _ hr' => (jg_name hN rfl (loc_or rfl))) (fun _ _ _ _ _ _ hr' => jts_nil) (fun _ _ _ _ _ _ hr' => (je_call (hcal 8 _ _ rfl) takes_w0 hr' (by rfl) (jx_cons (je_var rfl (vis_of rfl)) jx_nil)))))) (jb_one (js_ret je_bl)) jb_nil)
    (jb_cons (js_set hN rfl (loc_or rfl) (je_blt c_len (by rfl) nb.len (by rfl) (jx_cons (je_var rfl (vis_of rfl)) jx_nil)))
    (jb_cons (js_if (jt_w (jw_or (jt_not (jt_tru (je_call (hcal 6 _ _ rfl) takes_cx h0 (by rfl) (jx_cons (je_var rfl (vis_of rfl)) (jx_cons je_int (jx_cons (je_bin o_sub (je_var rfl (vis_of rfl)) je_int) jx_nil)))))) (jw_or1 (jt_not (jt_chn (o_le h0) (o_le h0) je_int (je_blt c_len (by rfl) nb.len (by rfl) (jx_cons (je_var rfl (vis_of rfl)) jx_nil)) (je_gint (by rfl) gc.MOST_FOUNDERS)))))) (jb_one (js_ret je_bl)) jb_nil)
    (jb_one (js_ret (je_call (hcal 9 _ _ rfl) takes_cx h0 (by rfl) (jx_cons (je_var rfl (vis_of rfl)) (jx_cons (je_var rfl (vis_of rfl)) jx_nil)))))))))))
set_option maxHeartbeats 4000000 in
theorem j_need_web (nb : NB mg) (gc : GC mg) (hcal : AllCal P w K mg base ts k tab C) (hr1 : Room (k + 1) (A.deeper (envOfC "need_web" (defScope s_need_web) s.heap.objs.size f cdv))) :
    JB (cxOf (L2.CX P w) P w K mg base n_need_web "need_web" (defScope s_need_web) f cdv A outer s H E) ts (fun c o _ H => E c o H) (defBody s_need_web) (b_need_web C) := by
  have h0 := hr1.mono (Nat.le_succ k)
  have hN := (sc_need_web).nd
  exact (jb_cons (js_exp (je_call (hcal 7 _ _ rfl) takes_cx h0 (by rfl) (jx_cons (je_call (hcal 10 _ _ rfl) takes_cx h0 (by rfl) (jx_cons (je_var rfl (vis_of rfl)) jx_nil)) (jx_cons (je_var rfl (vis_of rfl)) jx_nil))))
    (jb_one (js_ret (je_call (hcal 4 _ _ rfl) takes_cx h0 (by rfl) (jx_cons (je_var rfl (vis_of rfl)) jx_nil)))))
set_option maxHeartbeats 4000000 in
theorem j_web_of (nb : NB mg) (gc : GC mg) (hcal : AllCal P w K mg base ts k tab C) (hr1 : Room (k + 1) (A.deeper (envOfC "web_of" (defScope s_web_of) s.heap.objs.size f cdv))) :
    JB (cxOf (L2.CX P w) P w K mg base n_web_of "web_of" (defScope s_web_of) f cdv A outer s H E) ts (fun c o _ H => E c o H) (defBody s_web_of) (b_web_of C) := by
  have h0 := hr1.mono (Nat.le_succ k)
  have hN := (sc_web_of).nd
  exact (jb_one (js_ret (je_call (hcal 11 _ _ rfl) takes_cx h0 (by rfl) (jx_cons (je_var rfl (vis_of rfl)) (jx_cons je_int jx_nil)))))
set_option maxHeartbeats 4000000 in
theorem j_accounts (nb : NB mg) (gc : GC mg) (hcal : AllCal P w K mg base ts k tab C) (hr1 : Room (k + 1) (A.deeper (envOfC "accounts" (defScope s_accounts) s.heap.objs.size f cdv))) :
    JB (cxOf (L2.CX P w) P w K mg base n_accounts "accounts" (defScope s_accounts) f cdv A outer s H E) ts (fun c o _ H => E c o H) (defBody s_accounts) (b_accounts C) := by
  have h0 := hr1.mono (Nat.le_succ k)
  have hN := (sc_accounts).nd
  exact (jb_one (js_ret (je_blt c_len (by rfl) nb.len (by rfl) (jx_cons (je_idx h0 (je_call (hcal 11 _ _ rfl) takes_cx h0 (by rfl) (jx_cons (je_var rfl (vis_of rfl)) (jx_cons je_int jx_nil))) je_int) jx_nil))))
set_option maxHeartbeats 4000000 in
theorem j__law_power (nb : NB mg) (gc : GC mg) (hcal : AllCal P w K mg base ts k tab C) (hr1 : Room (k + 1) (A.deeper (envOfC "_law_power" (defScope s__law_power) s.heap.objs.size f cdv))) :
    JB (cxOf (L2.CX P w) P w K mg base n__law_power "_law_power" (defScope s__law_power) f cdv A outer s H E) ts (fun c o _ H => E c o H) (defBody s__law_power) (b__law_power C) := by
  have h0 := hr1.mono (Nat.le_succ k)
  have hN := (sc__law_power).nd
  exact (jb_cons (js_set hN rfl (loc_or rfl) je_int)
    (jb_cons (js_for owns_cx rfl (ji_rng1 (by rfl) nb.range (je_var rfl (vis_of rfl))) (jg_name hN rfl (loc_or rfl)) (jb_one (js_set hN rfl (loc_or rfl) (je_bin o_mul (je_var rfl (vis_of rfl)) (je_var rfl (vis_of rfl))))))
    (jb_one (js_ret (je_var rfl (vis_of rfl))))))
set_option maxHeartbeats 4000000 in
theorem j__law_cell (nb : NB mg) (gc : GC mg) (hcal : AllCal P w K mg base ts k tab C) (hr1 : Room (k + 1) (A.deeper (envOfC "_law_cell" (defScope s__law_cell) s.heap.objs.size f cdv))) :
    JB (cxOf (L2.CX P w) P w K mg base n__law_cell "_law_cell" (defScope s__law_cell) f cdv A outer s H E) ts (fun c o _ H => E c o H) (defBody s__law_cell) (b__law_cell C) := by
  have h0 := hr1.mono (Nat.le_succ k)
  have hN := (sc__law_cell).nd
  exact (jb_cons (js_if (jt_cmp (o_lt h0) (je_var rfl (vis_of rfl)) (je_blt c_len (by rfl) nb.len (by rfl) (jx_cons (je_var rfl (vis_of rfl)) jx_nil))) (jb_one (js_ret (je_bltT c_int (by rfl) nb.int (by rfl) (jx_cons (je_idx h0 (je_var rfl (vis_of rfl)) (je_var rfl (vis_of rfl))) jx_nil)))) jb_nil)
    (jb_one (js_ret je_int)))
set_option maxHeartbeats 4000000 in
theorem j__law_numbers (nb : NB mg) (gc : GC mg) (hcal : AllCal P w K mg base ts k tab C) (hr1 : Room (k + 1) (A.deeper (envOfC "_law_numbers" (defScope s__law_numbers) s.heap.objs.size f cdv))) :
    JB (cxOf (L2.CX P w) P w K mg base n__law_numbers "_law_numbers" (defScope s__law_numbers) f cdv A outer s H E) ts (fun c o _ H => E c o H) (defBody s__law_numbers) (b__law_numbers C) := by
  have h0 := hr1.mono (Nat.le_succ k)
  have hN := (sc__law_numbers).nd
  exact (jb_cons (js_set hN rfl (loc_or rfl) (je_call (hcal 15 _ _ rfl) takes_cx h0 (by rfl) (jx_cons (je_var rfl (vis_of rfl)) (jx_cons (je_var rfl (vis_of rfl)) jx_nil))))
    (jb_cons (js_set hN rfl (loc_or rfl) (je_cel (jf_lst jx_nil)))
    (jb_cons (js_set hN rfl (loc_or rfl) (je_var rfl (vis_of rfl)))
    (jb_cons (js_for owns_cx rfl (ji_rng1 (by rfl) nb.range (je_var rfl (vis_of rfl))) (jg_name hN rfl (loc_or rfl)) (jb_one (js_if (jt_cmp (o_ge h0) (je_var rfl (vis_of rfl)) (je_bin o_pow je_int je_int)) (jb_cons (js_exp (je_meth F.slot_list_append F.type_list_append m_append (je_var rfl (vis_of rfl)) (jx_cons (je_bin o_mod (je_bltT c_int (by rfl) nb.int (by rfl) (jx_cons (je_var rfl (vis_of rfl)) jx_nil)) (je_bin o_pow je_int je_int)) jx_nil)))
    (jb_one (js_set hN rfl (loc_or rfl) (je_bin o_fdiv (je_var rfl (vis_of rfl)) (je_bin o_pow je_int je_int))))) (jb_cons (js_set hN rfl (loc_or rfl) (je_bin o_mod (je_bltT c_int (by rfl) nb.int (by rfl) (jx_cons (je_bin o_add (je_bin o_add (je_bin o_mul (je_var rfl (vis_of rfl)) je_int) (je_bin o_mul (je_bin o_add (je_var rfl (vis_of rfl)) je_int) je_int)) (je_var rfl (vis_of rfl))) jx_nil)) je_int))
    (jb_one (js_exp (je_meth F.slot_list_append F.type_list_append m_append (je_var rfl (vis_of rfl)) (jx_cons (je_bin o_mod (je_bin o_mod (je_bltT c_int (by rfl) nb.int (by rfl) (jx_cons (je_bin o_add (je_bin o_mul (je_var rfl (vis_of rfl)) je_int) (je_bin o_mul (je_bin o_add (je_var rfl (vis_of rfl)) je_int) je_int)) jx_nil)) je_int) (je_bin o_pow je_int je_int)) jx_nil))))))))
    (jb_one (js_ret (je_var rfl (vis_of rfl))))))))
set_option maxHeartbeats 4000000 in
theorem j__law_same (nb : NB mg) (gc : GC mg) (hcal : AllCal P w K mg base ts k tab C) (hr1 : Room (k + 1) (A.deeper (envOfC "_law_same" (defScope s__law_same) s.heap.objs.size f cdv))) :
    JB (cxOf (L2.CX P w) P w K mg base n__law_same "_law_same" (defScope s__law_same) f cdv A outer s H E) ts (fun c o _ H => E c o H) (defBody s__law_same) (b__law_same C) := by
  have h0 := hr1.mono (Nat.le_succ k)
  have hN := (sc__law_same).nd
  exact (jb_cons (js_if (jt_w (jw_or (jt_tru (je_isi1 (t1 := .tuple) (by rfl) nb.isinstance (je_var rfl (vis_of rfl)) (by rfl) nb.tuple (by rfl))) (jw_or1 (jt_tru (je_isi1 (t1 := .tuple) (by rfl) nb.isinstance (je_var rfl (vis_of rfl)) (by rfl) nb.tuple (by rfl)))))) (jb_cons (js_if (jt_w (jw_or (jt_not (jt_tru (je_isi1 (t1 := .tuple) (by rfl) nb.isinstance (je_var rfl (vis_of rfl)) (by rfl) nb.tuple (by rfl)))) (jw_or (jt_not (jt_tru (je_isi1 (t1 := .tuple) (by rfl) nb.isinstance (je_var rfl (vis_of rfl)) (by rfl) nb.tuple (by rfl)))) (jw_or1 (jt_cmp (o_ne h0) (je_blt c_len (by rfl) nb.len (by rfl) (jx_cons (je_var rfl (vis_of rfl)) jx_nil)) (je_blt c_len (by rfl) nb.len (by rfl) (jx_cons (je_var rfl (vis_of rfl)) jx_nil))))))) (jb_one (js_ret je_bl)) jb_nil)
    (jb_cons (js_for owns_cx rfl (ji_rng1 (by rfl) nb.range (je_blt c_len (by rfl) nb.len (by rfl) (jx_cons (je_var rfl (vis_of rfl)) jx_nil))) (jg_name hN rfl (loc_or rfl)) (jb_one (js_if (jt_not (jt_tru (je_call (hcal 17 _ _ rfl) takes_cx h0 (by rfl) (jx_cons (je_idx h0 (je_var rfl (vis_of rfl)) (je_var rfl (vis_of rfl))) (jx_cons (je_idx h0 (je_var rfl (vis_of rfl)) (je_var rfl (vis_of rfl))) jx_nil))))) (jb_one (js_ret je_bl)) jb_nil)))
    (jb_one (js_ret je_bl)))) jb_nil)
    (jb_cons (js_if (jt_w (jw_or (jt_cmp o_is (je_var rfl (vis_of rfl)) je_non) (jw_or1 (jt_cmp o_is (je_var rfl (vis_of rfl)) je_non)))) (jb_one (js_ret (je_and (je_cmp o_is (je_var rfl (vis_of rfl)) je_non) (je_one (je_cmp o_is (je_var rfl (vis_of rfl)) je_non))))) jb_nil)
    (jb_cons (js_if (jt_w (jw_or (jt_cmp (o_ne h0) (je_isi1 (t1 := .bool) (by rfl) nb.isinstance (je_var rfl (vis_of rfl)) (by rfl) nb.bool (by rfl)) (je_isi1 (t1 := .bool) (by rfl) nb.isinstance (je_var rfl (vis_of rfl)) (by rfl) nb.bool (by rfl))) (jw_or1 (jt_cmp (o_ne h0) (je_isi1 (t1 := .str) (by rfl) nb.isinstance (je_var rfl (vis_of rfl)) (by rfl) nb.str (by rfl)) (je_isi1 (t1 := .str) (by rfl) nb.isinstance (je_var rfl (vis_of rfl)) (by rfl) nb.str (by rfl)))))) (jb_one (js_ret je_bl)) jb_nil)
    (jb_one (js_ret (je_and (je_isi2 (t1 := .int) (t2 := .str) (by rfl) nb.isinstance (je_var rfl (vis_of rfl)) (by rfl) nb.int (by rfl) (by rfl) nb.str (by rfl)) (je_and (je_isi2 (t1 := .int) (t2 := .str) (by rfl) nb.isinstance (je_var rfl (vis_of rfl)) (by rfl) nb.int (by rfl) (by rfl) nb.str (by rfl)) (je_one (je_cmp (o_eq h0) (je_var rfl (vis_of rfl)) (je_var rfl (vis_of rfl)))))))))))
set_option maxHeartbeats 4000000 in
theorem j__law_listed (nb : NB mg) (gc : GC mg) (hcal : AllCal P w K mg base ts k tab C) (hr1 : Room (k + 1) (A.deeper (envOfC "_law_listed" (defScope s__law_listed) s.heap.objs.size f cdv))) :
    JB (cxOf (L2.CX P w) P w K mg base n__law_listed "_law_listed" (defScope s__law_listed) f cdv A outer s H E) ts (fun c o _ H => E c o H) (defBody s__law_listed) (b__law_listed C) := by
  have h0 := hr1.mono (Nat.le_succ k)
  have hN := (sc__law_listed).nd
  exact (jb_cons (js_if (jt_tru (je_isi1 (t1 := .tuple) (by rfl) nb.isinstance (je_var rfl (vis_of rfl)) (by rfl) nb.tuple (by rfl))) (jb_one (js_ret (je_frz (jf_lc (own := [("part", 1)]) rfl hN (ji_val (je_var rfl (vis_of rfl))) (blkOk_by (N := n__law_listed) (sc := defScope s__law_listed) (by decide +kernel)) (by decide) (fun _ _ _ _ _ => (jg_name hN rfl (loc_or rfl))) (fun _ _ _ _ _ => jts_nil) (fun _ _ _ _ _ => (je_call (hcal 18 _ _ rfl) takes_w0 h0 (by rfl) (jx_cons (je_var rfl (vis_of rfl)) jx_nil))))))) jb_nil)
    (jb_one (js_ret (je_var rfl (vis_of rfl)))))
set_option maxHeartbeats 4000000 in
theorem j__law_size (nb : NB mg) (gc : GC mg) (hcal : AllCal P w K mg base ts k tab C) (hr1 : Room (k + 1) (A.deeper (envOfC "_law_size" (defScope s__law_size) s.heap.objs.size f cdv))) :
    JB (cxOf (L2.CX P w) P w K mg base n__law_size "_law_size" (defScope s__law_size) f cdv A outer s H E) ts (fun c o _ H => E c o H) (defBody s__law_size) (b__law_size C) := by
  have h0 := hr1.mono (Nat.le_succ k)
  have hN := (sc__law_size).nd
  exact (jb_cons (js_if (jt_cmp (o_eq h0) (je_bin o_mod (je_bltT c_int (by rfl) nb.int (by rfl) (jx_cons (je_var rfl (vis_of rfl)) jx_nil)) je_int) je_int) (jb_one (js_ret (je_bin o_add je_int (je_bin o_mod (je_bltT c_int (by rfl) nb.int (by rfl) (jx_cons (je_bin o_fdiv (je_var rfl (vis_of rfl)) je_int) jx_nil)) je_int)))) jb_nil)
    (jb_one (js_ret (je_bin o_add je_int (je_bin o_mod (je_bltT c_int (by rfl) nb.int (by rfl) (jx_cons (je_bin o_fdiv (je_var rfl (vis_of rfl)) je_int) jx_nil)) je_int)))))
set_option maxHeartbeats 4000000 in
theorem j__law_web (nb : NB mg) (gc : GC mg) (hcal : AllCal P w K mg base ts k tab C) (hr1 : Room (k + 1) (A.deeper (envOfC "_law_web" (defScope s__law_web) s.heap.objs.size f cdv))) :
    JB (cxOf (L2.CX P w) P w K mg base n__law_web "_law_web" (defScope s__law_web) f cdv A outer s H E) ts (fun c o _ H => E c o H) (defBody s__law_web) (b__law_web C) := by
  have h0 := hr1.mono (Nat.le_succ k)
  have hN := (sc__law_web).nd
  exact (jb_cons (js_set hN rfl (loc_or rfl) (je_bin o_add je_int (je_bin o_mod (je_bltT c_int (by rfl) nb.int (by rfl) (jx_cons (je_idx h0 (je_var rfl (vis_of rfl)) je_int) jx_nil)) je_int)))
    (jb_cons (js_set hN rfl (loc_or rfl) (je_bltT c_tuple (by rfl) nb.tuple (by rfl) (jx_cons (je_frz (jf_lc (own := [("k", 7)]) rfl hN (ji_rng1 (by rfl) nb.range (je_var rfl (vis_of rfl))) (blkOk_by (N := n__law_web) (sc := defScope s__law_web) (by decide +kernel)) (by decide) (fun _ _ _ _ _ => (jg_name hN rfl (loc_or rfl))) (fun _ _ _ _ _ => jts_nil) (fun _ _ _ _ _ => (je_call (hcal 19 _ _ rfl) takes_w0 h0 (by rfl) (jx_cons (je_idx h0 (je_var rfl (vis_of rfl)) (je_bin o_add je_int (je_var rfl (vis_of rfl)))) jx_nil))))) jx_nil)))
    (jb_cons (js_setLc (own := [("k", 7)]) frz_reading rfl hN rfl rfl (sw_true rfl rfl rfl (by decide +kernel)) (ji_rng1 (by rfl) nb.range (je_var rfl (vis_of rfl))) (blkOk_by (N := n__law_web) (sc := defScope s__law_web) (by decide +kernel)) (by decide) (fun _ _ _ _ _ => (jg_name hN rfl (loc_or rfl))) (fun _ _ _ _ _ => (jts_one (jt_cmp (o_eq h0) (je_bin o_mod (je_bltT c_int (by rfl) nb.int (by rfl) (jx_cons (je_bin o_fdiv (je_idx h0 (je_var rfl (vis_of rfl)) je_int) (je_bin o_mul je_int (je_call (hcal 14 _ _ rfl) takes_w0 h0 (by rfl) (jx_cons je_int (jx_cons (je_var rfl (vis_of rfl)) jx_nil))))) jx_nil)) je_int) je_int))) (fun _ _ _ _ _ => (je_var rfl (vis_of rfl))))
    (jb_cons (js_set hN rfl (loc_or rfl) (je_bltT c_tuple (by rfl) nb.tuple (by rfl) (jx_cons (je_slA (je_var rfl (vis_of rfl)) jp_none (jp_some je_int)) jx_nil)))
    (jb_cons (js_if (jt_cmp (o_eq h0) (je_var rfl (vis_of rfl)) (je_tup jx_nil)) (jb_one (js_set hN rfl (loc_or rfl) (je_tup (jx_cons (je_bin o_mod (je_bltT c_int (by rfl) nb.int (by rfl) (jx_cons (je_bin o_fdiv (je_idx h0 (je_var rfl (vis_of rfl)) je_int) je_int) jx_nil)) (je_var rfl (vis_of rfl))) jx_nil)))) jb_nil)
    (jb_cons (js_set hN rfl (loc_or rfl) je_newT)
    (jb_cons (js_if (jt_cmp (o_gt h0) (je_var rfl (vis_of rfl)) je_int) (jb_one (js_for owns_cx rfl (ji_rng1 (by rfl) nb.range (je_bin o_mod (je_bltT c_int (by rfl) nb.int (by rfl) (jx_cons (je_idx h0 (je_var rfl (vis_of rfl)) je_int) jx_nil)) je_int)) (jg_name hN rfl (loc_or rfl)) (jb_cons (js_set hN rfl (loc_or rfl) (je_idx h0 (je_var rfl (vis_of rfl)) (je_bin o_add je_int (je_var rfl (vis_of rfl)))))
    (jb_cons (js_set hN rfl (loc_or rfl) (je_bin o_mod (je_bltT c_int (by rfl) nb.int (by rfl) (jx_cons (je_var rfl (vis_of rfl)) jx_nil)) (je_var rfl (vis_of rfl))))
    (jb_cons (js_set hN rfl (loc_or rfl) (je_bin o_mod (je_bin o_add (je_bin o_add (je_var rfl (vis_of rfl)) je_int) (je_bin o_mod (je_bltT c_int (by rfl) nb.int (by rfl) (jx_cons (je_bin o_fdiv (je_var rfl (vis_of rfl)) je_int) jx_nil)) (je_bin o_sub (je_var rfl (vis_of rfl)) je_int))) (je_var rfl (vis_of rfl))))
    (jb_one (js_put h0 (je_call (hcal 19 _ _ rfl) takes_cx h0 (by rfl) (jx_cons (je_bin o_fdiv (je_var rfl (vis_of rfl)) je_int) jx_nil)) (je_var rfl (vis_of rfl)) (je_tup (jx_cons (je_var rfl (vis_of rfl)) (jx_cons (je_var rfl (vis_of rfl)) jx_nil)))))))))) jb_nil)
    (jb_cons (js_setLc (own := [("pair", 11)]) frz_reading rfl hN rfl rfl (sw_true rfl rfl rfl (by decide +kernel)) (ji_val (je_frz (jf_skeys h0 (by rfl) nb.sorted (je_var rfl (vis_of rfl))))) (blkOk_by (N := n__law_web) (sc := defScope s__law_web) (by decide +kernel)) (by decide) (fun _ _ _ _ _ => (jg_name hN rfl (loc_or rfl))) (fun _ _ _ _ _ => jts_nil) (fun _ _ _ _ _ => (je_tup (jx_cons (je_idx h0 (je_var rfl (vis_of rfl)) je_int) (jx_cons (je_idx h0 (je_var rfl (vis_of rfl)) je_int) (jx_cons (je_idx h0 (je_var rfl (vis_of rfl)) (je_var rfl (vis_of rfl))) jx_nil))))))
    (jb_one (js_ret (je_tup (jx_cons (je_var rfl (vis_of rfl)) (jx_cons (je_var rfl (vis_of rfl)) (jx_cons (je_bltT c_tuple (by rfl) nb.tuple (by rfl) (jx_cons (je_var rfl (vis_of rfl)) jx_nil)) jx_nil))))))))))))))
set_option maxHeartbeats 4000000 in
theorem j__law_wrong (nb : NB mg) (gc : GC mg) (hcal : AllCal P w K mg base ts k tab C) (hr1 : Room (k + 1) (A.deeper (envOfC "_law_wrong" (defScope s__law_wrong) s.heap.objs.size f cdv))) :
    JB (cxOf (L2.CX P w) P w K mg base n__law_wrong "_law_wrong" (defScope s__law_wrong) f cdv A outer s H E) ts (fun c o _ H => E c o H) (defBody s__law_wrong) (b__law_wrong C) := by
  have h0 := hr1.mono (Nat.le_succ k)
  have hN := (sc__law_wrong).nd
  exact (jb_cons (js_asg (je_var rfl (vis_of rfl)) (jg_unp rfl (jgs_cons (jg_name hN rfl (loc_or rfl)) (jgs_cons (jg_name hN rfl (loc_or rfl)) (jgs_cons (jg_name hN rfl (loc_or rfl)) jgs_nil)))))
    (jb_cons (js_set hN rfl (loc_or rfl) (je_cel (jf_lst (jx_cons (je_tup (jx_cons (je_var rfl (vis_of rfl)) (jx_cons (je_var rfl (vis_of rfl)) jx_nil))) (jx_cons (je_tup (jx_cons (je_var rfl (vis_of rfl)) (jx_cons (je_var rfl (vis_of rfl)) (jx_cons (je_var rfl (vis_of rfl)) (jx_cons (je_tup jx_nil) jx_nil))))) (jx_cons je_non (jx_cons je_int (jx_cons je_str (jx_cons (je_tup (jx_cons (je_tup jx_nil) (jx_cons (je_var rfl (vis_of rfl)) (jx_cons (je_var rfl (vis_of rfl)) jx_nil)))) jx_nil)))))))))
    (jb_cons (js_exp (je_meth F.slot_list_append F.type_list_append m_append (je_var rfl (vis_of rfl)) (jx_cons (je_tup (jx_cons (je_bin o_add (je_tup (jx_cons je_int jx_nil)) (je_slA (je_var rfl (vis_of rfl)) (jp_some je_int) jp_none)) (jx_cons (je_var rfl (vis_of rfl)) (jx_cons (je_var rfl (vis_of rfl)) jx_nil)))) jx_nil)))
    (jb_cons (js_exp (je_meth F.slot_list_append F.type_list_append m_append (je_var rfl (vis_of rfl)) (jx_cons (je_tup (jx_cons (je_bin o_add (je_tup (jx_cons je_int jx_nil)) (je_slA (je_var rfl (vis_of rfl)) (jp_some je_int) jp_none)) (jx_cons (je_var rfl (vis_of rfl)) (jx_cons (je_var rfl (vis_of rfl)) jx_nil)))) jx_nil)))
    (jb_cons (js_exp (je_meth F.slot_list_append F.type_list_append m_append (je_var rfl (vis_of rfl)) (jx_cons (je_tup (jx_cons (je_bin o_add (je_tup (jx_cons je_bl jx_nil)) (je_slA (je_var rfl (vis_of rfl)) (jp_some je_int) jp_none)) (jx_cons (je_var rfl (vis_of rfl)) (jx_cons (je_var rfl (vis_of rfl)) jx_nil)))) jx_nil)))
    (jb_cons (js_exp (je_meth F.slot_list_append F.type_list_append m_append (je_var rfl (vis_of rfl)) (jx_cons (je_tup (jx_cons (je_bin o_add (je_var rfl (vis_of rfl)) (je_bin o_mul (je_tup (jx_cons je_int jx_nil)) (je_bin o_sub je_int (je_blt c_len (by rfl) nb.len (by rfl) (jx_cons (je_var rfl (vis_of rfl)) jx_nil))))) (jx_cons (je_var rfl (vis_of rfl)) (jx_cons (je_var rfl (vis_of rfl)) jx_nil)))) jx_nil)))
    (jb_cons (js_exp (je_meth F.slot_list_append F.type_list_append m_append (je_var rfl (vis_of rfl)) (jx_cons (je_tup (jx_cons (je_var rfl (vis_of rfl)) (jx_cons (je_tup jx_nil) (jx_cons (je_var rfl (vis_of rfl)) jx_nil)))) jx_nil)))
    (jb_cons (js_exp (je_meth F.slot_list_append F.type_list_append m_append (je_var rfl (vis_of rfl)) (jx_cons (je_tup (jx_cons (je_var rfl (vis_of rfl)) (jx_cons (je_tup (jx_cons (je_idx h0 (je_var rfl (vis_of rfl)) je_int) (jx_cons (je_idx h0 (je_var rfl (vis_of rfl)) je_int) jx_nil))) (jx_cons (je_var rfl (vis_of rfl)) jx_nil)))) jx_nil)))
    (jb_cons (js_exp (je_meth F.slot_list_append F.type_list_append m_append (je_var rfl (vis_of rfl)) (jx_cons (je_tup (jx_cons (je_var rfl (vis_of rfl)) (jx_cons (je_tup (jx_cons (je_blt c_len (by rfl) nb.len (by rfl) (jx_cons (je_var rfl (vis_of rfl)) jx_nil)) jx_nil)) (jx_cons (je_var rfl (vis_of rfl)) jx_nil)))) jx_nil)))
    (jb_cons (js_exp (je_meth F.slot_list_append F.type_list_append m_append (je_var rfl (vis_of rfl)) (jx_cons (je_tup (jx_cons (je_var rfl (vis_of rfl)) (jx_cons (je_bin o_add (je_tup (jx_cons (je_neg je_int) jx_nil)) (je_slA (je_var rfl (vis_of rfl)) jp_none (jp_some je_int))) (jx_cons (je_var rfl (vis_of rfl)) jx_nil)))) jx_nil)))
    (jb_cons (js_exp (je_meth F.slot_list_append F.type_list_append m_append (je_var rfl (vis_of rfl)) (jx_cons (je_tup (jx_cons (je_var rfl (vis_of rfl)) (jx_cons (je_tup (jx_cons je_bl jx_nil)) (jx_cons (je_tup jx_nil) jx_nil)))) jx_nil)))
    (jb_cons (js_exp (je_meth F.slot_list_append F.type_list_append m_append (je_var rfl (vis_of rfl)) (jx_cons (je_tup (jx_cons (je_bin o_mul (je_tup (jx_cons je_int jx_nil)) je_int) (jx_cons (je_tup (jx_cons je_int (jx_cons je_int (jx_cons je_int (jx_cons je_int jx_nil))))) (jx_cons (je_tup jx_nil) jx_nil)))) jx_nil)))
    (jb_cons (js_exp (je_meth F.slot_list_append F.type_list_append m_append (je_var rfl (vis_of rfl)) (jx_cons (je_tup (jx_cons (je_bin o_mul (je_tup (jx_cons je_int jx_nil)) je_int) (jx_cons (je_tup (jx_cons je_int (jx_cons je_int jx_nil))) (jx_cons (je_tup jx_nil) jx_nil)))) jx_nil)))
    (jb_cons (js_exp (je_meth F.slot_list_append F.type_list_append m_append (je_var rfl (vis_of rfl)) (jx_cons (je_tup (jx_cons (je_bin o_mul (je_tup (jx_cons je_int jx_nil)) je_int) (jx_cons (je_tup (jx_cons je_int jx_nil)) (jx_cons (je_bltT c_tuple (by rfl) nb.tuple (by rfl) (jx_cons (je_frz (jf_blt (c_sorted h0) (by rfl) nb.sorted (by rfl) (jx_cons (je_frz (jf_lc (own := [("k", 11)]) rfl hN (ji_rng1 (by rfl) nb.range je_int) (blkOk_by (N := n__law_wrong) (sc := defScope s__law_wrong) (by decide +kernel)) (by decide) (fun _ _ _ _ _ => (jg_name hN rfl (loc_or rfl))) (fun _ _ _ _ _ => jts_nil) (fun _ _ _ _ _ => (je_tup (jx_cons (je_bltT c_int (by rfl) nb.int (by rfl) (jx_cons (je_bin o_fdiv (je_var rfl (vis_of rfl)) je_int) jx_nil)) (jx_cons (je_bin o_mod (je_bin o_add (je_bin o_add (je_bltT c_int (by rfl) nb.int (by rfl) (jx_cons (je_bin o_fdiv (je_var rfl (vis_of rfl)) je_int) jx_nil)) je_int) (je_bin o_mod (je_bltT c_int (by rfl) nb.int (by rfl) (jx_cons (je_var rfl (vis_of rfl)) jx_nil)) je_int)) je_int) (jx_cons je_int jx_nil))))))) jx_nil))) jx_nil)) jx_nil)))) jx_nil)))
    (jb_cons (js_exp (je_meth F.slot_list_append F.type_list_append m_append (je_var rfl (vis_of rfl)) (jx_cons (je_tup (jx_cons (je_var rfl (vis_of rfl)) (jx_cons (je_var rfl (vis_of rfl)) (jx_cons (je_tup (jx_cons (je_tup (jx_cons je_int (jx_cons je_int (jx_cons je_int jx_nil)))) jx_nil)) jx_nil)))) jx_nil)))
    (jb_cons (js_exp (je_meth F.slot_list_append F.type_list_append m_append (je_var rfl (vis_of rfl)) (jx_cons (je_tup (jx_cons (je_var rfl (vis_of rfl)) (jx_cons (je_var rfl (vis_of rfl)) (jx_cons (je_tup (jx_cons (je_tup (jx_cons je_int (jx_cons (je_blt c_len (by rfl) nb.len (by rfl) (jx_cons (je_var rfl (vis_of rfl)) jx_nil)) (jx_cons je_int jx_nil)))) jx_nil)) jx_nil)))) jx_nil)))
    (jb_cons (js_if (jt_cmp (o_ne h0) (je_var rfl (vis_of rfl)) (je_tup jx_nil)) (jb_cons (js_set hN rfl (loc_or rfl) (je_bin o_mod (je_bltT c_int (by rfl) nb.int (by rfl) (jx_cons (je_var rfl (vis_of rfl)) jx_nil)) (je_blt c_len (by rfl) nb.len (by rfl) (jx_cons (je_var rfl (vis_of rfl)) jx_nil))))
    (jb_cons (js_asg (je_idx h0 (je_var rfl (vis_of rfl)) (je_var rfl (vis_of rfl))) (jg_unp rfl (jgs_cons (jg_name hN rfl (loc_or rfl)) (jgs_cons (jg_name hN rfl (loc_or rfl)) (jgs_cons (jg_name hN rfl (loc_or rfl)) jgs_nil)))))
    (jb_cons (js_for owns_cx rfl (ji_val (je_frz (jf_lst (jx_cons (je_tup (jx_cons (je_var rfl (vis_of rfl)) (jx_cons (je_var rfl (vis_of rfl)) jx_nil))) (jx_cons (je_tup (jx_cons (je_var rfl (vis_of rfl)) (jx_cons (je_var rfl (vis_of rfl)) (jx_cons je_int jx_nil)))) (jx_cons (je_tup (jx_cons (je_var rfl (vis_of rfl)) (jx_cons (je_var rfl (vis_of rfl)) (jx_cons je_int jx_nil)))) (jx_cons (je_tup (jx_cons (je_var rfl (vis_of rfl)) (jx_cons (je_var rfl (vis_of rfl)) (jx_cons (je_var rfl (vis_of rfl)) jx_nil)))) (jx_cons (je_tup (jx_cons (je_var rfl (vis_of rfl)) (jx_cons (je_var rfl (vis_of rfl)) (jx_cons je_bl jx_nil)))) (jx_cons (je_tup (jx_cons (je_var rfl (vis_of rfl)) (jx_cons (je_var rfl (vis_of rfl)) (jx_cons (je_var rfl (vis_of rfl)) (jx_cons je_int jx_nil))))) (jx_cons (je_tup (jx_cons (je_neg je_int) (jx_cons (je_var rfl (vis_of rfl)) (jx_cons (je_var rfl (vis_of rfl)) jx_nil)))) jx_nil)))))))))) (jg_name hN rfl (loc_or rfl)) (jb_one (js_exp (je_meth F.slot_list_append F.type_list_append m_append (je_var rfl (vis_of rfl)) (jx_cons (je_tup (jx_cons (je_var rfl (vis_of rfl)) (jx_cons (je_var rfl (vis_of rfl)) (jx_cons (je_bin o_add (je_bin o_add (je_slA (je_var rfl (vis_of rfl)) jp_none (jp_some (je_var rfl (vis_of rfl)))) (je_tup (jx_cons (je_var rfl (vis_of rfl)) jx_nil))) (je_slA (je_var rfl (vis_of rfl)) (jp_some (je_bin o_add (je_var rfl (vis_of rfl)) je_int)) jp_none)) jx_nil)))) jx_nil)))))
    (jb_cons (js_exp (je_meth F.slot_list_append F.type_list_append m_append (je_var rfl (vis_of rfl)) (jx_cons (je_tup (jx_cons (je_var rfl (vis_of rfl)) (jx_cons (je_var rfl (vis_of rfl)) (jx_cons (je_bin o_add (je_bin o_add (je_slA (je_var rfl (vis_of rfl)) jp_none (jp_some (je_bin o_add (je_var rfl (vis_of rfl)) je_int))) (je_tup (jx_cons (je_tup (jx_cons (je_var rfl (vis_of rfl)) (jx_cons (je_var rfl (vis_of rfl)) (jx_cons (je_var rfl (vis_of rfl)) jx_nil)))) jx_nil))) (je_slA (je_var rfl (vis_of rfl)) (jp_some (je_bin o_add (je_var rfl (vis_of rfl)) je_int)) jp_none)) jx_nil)))) jx_nil)))
    (jb_one (js_exp (je_meth F.slot_list_append F.type_list_append m_append (je_var rfl (vis_of rfl)) (jx_cons (je_tup (jx_cons (je_var rfl (vis_of rfl)) (jx_cons (je_var rfl (vis_of rfl)) (jx_cons (je_bin o_add (je_bin o_add (je_slA (je_var rfl (vis_of rfl)) jp_none (jp_some (je_bin o_add (je_var rfl (vis_of rfl)) je_int))) (je_tup (jx_cons (je_tup (jx_cons (je_var rfl (vis_of rfl)) (jx_cons (je_var rfl (vis_of rfl)) (jx_cons (je_bin o_add (je_bin o_mod (je_bltT c_int (by rfl) nb.int (by rfl) (jx_cons (je_var rfl (vis_of rfl)) jx_nil)) je_int) je_int) jx_nil)))) jx_nil))) (je_slA (je_var rfl (vis_of rfl)) (jp_some (je_bin o_add (je_var rfl (vis_of rfl)) je_int)) jp_none)) jx_nil)))) jx_nil)))))))) jb_nil)
    (jb_cons (js_if (jt_cmp (o_gt h0) (je_blt c_len (by rfl) nb.len (by rfl) (jx_cons (je_var rfl (vis_of rfl)) jx_nil)) je_int) (jb_one (js_exp (je_meth F.slot_list_append F.type_list_append m_append (je_var rfl (vis_of rfl)) (jx_cons (je_tup (jx_cons (je_var rfl (vis_of rfl)) (jx_cons (je_var rfl (vis_of rfl)) (jx_cons (je_bin o_add (je_slA (je_var rfl (vis_of rfl)) (jp_some je_int) jp_none) (je_slA (je_var rfl (vis_of rfl)) jp_none (jp_some je_int))) jx_nil)))) jx_nil)))) jb_nil)
    (jb_one (js_ret (je_var rfl (vis_of rfl))))))))))))))))))))))
set_option maxHeartbeats 4000000 in
theorem j_law (nb : NB mg) (gc : GC mg) (hcal : AllCal P w K mg base ts k tab C) (hr1 : Room (k + 1) (A.deeper (envOfC "law" (defScope s_law) s.heap.objs.size f cdv))) :
    JB (cxOf (L2.CX P w) P w K mg base n_law "law" (defScope s_law) f cdv A outer s H E) ts (fun c o _ H => E c o H) (defBody s_law) (b_law C) := by
  have h0 := hr1.mono (Nat.le_succ k)
  have hN := (sc_law).nd
  exact (jb_cons (js_set hN rfl (loc_or rfl) (je_call (hcal 20 _ _ rfl) takes_cx h0 (by rfl) (jx_cons (je_call (hcal 16 _ _ rfl) takes_cx h0 (by rfl) (jx_cons (je_var rfl (vis_of rfl)) (jx_cons je_int (jx_cons je_int jx_nil)))) jx_nil)))
    (jb_cons (js_set hN rfl (loc_or rfl) (je_call (hcal 18 _ _ rfl) takes_cx h0 (by rfl) (jx_cons (je_var rfl (vis_of rfl)) jx_nil)))
    (jb_cons (js_if (jt_w (jw_or (jt_cmp o_isn (je_call (hcal 10 _ _ rfl) takes_cx h0 (by rfl) (jx_cons (je_var rfl (vis_of rfl)) jx_nil)) je_bl) (jw_or1 (jt_cmp o_isn (je_call (hcal 10 _ _ rfl) takes_cx h0 (by rfl) (jx_cons (je_var rfl (vis_of rfl)) jx_nil)) je_bl)))) (jb_one (js_ret je_bl)) jb_nil)
    (jb_cons (js_if (jt_w (jw_or (jt_not (jt_tru (je_call (hcal 17 _ _ rfl) takes_cx h0 (by rfl) (jx_cons (je_call (hcal 12 _ _ rfl) takes_cx h0 (by rfl) (jx_cons (je_var rfl (vis_of rfl)) jx_nil)) (jx_cons (je_var rfl (vis_of rfl)) jx_nil))))) (jw_or (jt_not (jt_tru (je_call (hcal 17 _ _ rfl) takes_cx h0 (by rfl) (jx_cons (je_call (hcal 12 _ _ rfl) takes_cx h0 (by rfl) (jx_cons (je_var rfl (vis_of rfl)) jx_nil)) (jx_cons (je_var rfl (vis_of rfl)) jx_nil))))) (jw_or1 (jt_cmp (o_ne h0) (je_var rfl (vis_of rfl)) (je_call (hcal 18 _ _ rfl) takes_cx h0 (by rfl) (jx_cons (je_var rfl (vis_of rfl)) jx_nil))))))) (jb_one (js_ret je_bl)) jb_nil)
    (jb_cons (js_if (jt_w (jw_or (jt_not (jt_tru (je_call (hcal 17 _ _ rfl) takes_cx h0 (by rfl) (jx_cons (je_call (hcal 13 _ _ rfl) takes_cx h0 (by rfl) (jx_cons (je_var rfl (vis_of rfl)) jx_nil)) (jx_cons (je_blt c_len (by rfl) nb.len (by rfl) (jx_cons (je_idx h0 (je_var rfl (vis_of rfl)) je_int) jx_nil)) jx_nil))))) (jw_or1 (jt_not (jt_tru (je_call (hcal 17 _ _ rfl) takes_cx h0 (by rfl) (jx_cons (je_call (hcal 13 _ _ rfl) takes_cx h0 (by rfl) (jx_cons (je_var rfl (vis_of rfl)) jx_nil)) (jx_cons (je_blt c_len (by rfl) nb.len (by rfl) (jx_cons (je_idx h0 (je_var rfl (vis_of rfl)) je_int) jx_nil)) jx_nil)))))))) (jb_one (js_ret je_bl)) jb_nil)
    (jb_cons (js_for owns_cx rfl (ji_val (je_call (hcal 21 _ _ rfl) takes_cx h0 (by rfl) (jx_cons (je_var rfl (vis_of rfl)) (jx_cons (je_call (hcal 15 _ _ rfl) takes_cx h0 (by rfl) (jx_cons (je_var rfl (vis_of rfl)) (jx_cons je_int jx_nil))) jx_nil)))) (jg_name hN rfl (loc_or rfl)) (jb_one (js_if (jt_w (jw_or (jt_cmp o_isn (je_call (hcal 10 _ _ rfl) takes_cx h0 (by rfl) (jx_cons (je_var rfl (vis_of rfl)) jx_nil)) je_bl) (jw_or1 (jt_cmp o_isn (je_call (hcal 10 _ _ rfl) takes_cx h0 (by rfl) (jx_cons (je_call (hcal 18 _ _ rfl) takes_cx h0 (by rfl) (jx_cons (je_var rfl (vis_of rfl)) jx_nil)) jx_nil)) je_bl)))) (jb_one (js_ret je_bl)) jb_nil)))
    (jb_one (js_ret (je_cmp o_is (je_call (hcal 10 _ _ rfl) takes_cx h0 (by rfl) (jx_cons (je_var rfl (vis_of rfl)) jx_nil)) je_bl)))))))))
end
section
variable {P : Program} {w : World} {K : PySem.W.Frag} {mg : Str → Option Value} {base : Heap} {ts : List Addr}
theorem all_cal (nb : NB mg) (gc : GC mg) {f_is_int : Addr} {fd_is_int : FuncData} (F_is_int : DefF K mg s_is_int "is_int" ["value"] f_is_int fd_is_int)
    {f_is_between : Addr} {fd_is_between : FuncData} (F_is_between : DefF K mg s_is_between "is_between" ["value", "low", "high"] f_is_between fd_is_between)
    {f_is_sequence : Addr} {fd_is_sequence : FuncData} (F_is_sequence : DefF K mg s_is_sequence "is_sequence" ["value"] f_is_sequence fd_is_sequence)
    {f_is_row : Addr} {fd_is_row : FuncData} (F_is_row : DefF K mg s_is_row "is_row" ["value", "many"] f_is_row fd_is_row)
    {f_frozen : Addr} {fd_frozen : FuncData} (F_frozen : DefF K mg s_frozen "frozen" ["value"] f_frozen fd_frozen)
    {f_is_ascending : Addr} {fd_is_ascending : FuncData} (F_is_ascending : DefF K mg s_is_ascending "is_ascending" ["values"] f_is_ascending fd_is_ascending)
    {f_is_number_set : Addr} {fd_is_number_set : FuncData} (F_is_number_set : DefF K mg s_is_number_set "is_number_set" ["value", "low", "high"] f_is_number_set fd_is_number_set)
    {f_need : Addr} {fd_need : FuncData} (F_need : DefF K mg s_need "need" ["test", "at"] f_need fd_need)
    {f_is_size : Addr} {fd_is_size : FuncData} (F_is_size : DefF K mg s_is_size "is_size" ["value"] f_is_size fd_is_size)
    {f_is_vouchings : Addr} {fd_is_vouchings : FuncData} (F_is_vouchings : DefF K mg s_is_vouchings "is_vouchings" ["value", "many"] f_is_vouchings fd_is_vouchings)
    {f_is_web : Addr} {fd_is_web : FuncData} (F_is_web : DefF K mg s_is_web "is_web" ["value"] f_is_web fd_is_web)
    {f_need_web : Addr} {fd_need_web : FuncData} (F_need_web : DefF K mg s_need_web "need_web" ["value", "at"] f_need_web fd_need_web)
    {f_web_of : Addr} {fd_web_of : FuncData} (F_web_of : DefF K mg s_web_of "web_of" ["web"] f_web_of fd_web_of)
    {f_accounts : Addr} {fd_accounts : FuncData} (F_accounts : DefF K mg s_accounts "accounts" ["web"] f_accounts fd_accounts)
    {f__law_power : Addr} {fd__law_power : FuncData} (F__law_power : DefF K mg s__law_power "_law_power" ["base", "many"] f__law_power fd__law_power)
    {f__law_cell : Addr} {fd__law_cell : FuncData} (F__law_cell : DefF K mg s__law_cell "_law_cell" ["script", "place"] f__law_cell fd__law_cell)
    {f__law_numbers : Addr} {fd__law_numbers : FuncData} (F__law_numbers : DefF K mg s__law_numbers "_law_numbers" ["script", "place", "many"] f__law_numbers fd__law_numbers)
    {f__law_same : Addr} {fd__law_same : FuncData} (F__law_same : DefF K mg s__law_same "_law_same" ["one", "other"] f__law_same fd__law_same)
    {f__law_listed : Addr} {fd__law_listed : FuncData} (F__law_listed : DefF K mg s__law_listed "_law_listed" ["value"] f__law_listed fd__law_listed)
    {f__law_size : Addr} {fd__law_size : FuncData} (F__law_size : DefF K mg s__law_size "_law_size" ["number"] f__law_size fd__law_size)
    {f__law_web : Addr} {fd__law_web : FuncData} (F__law_web : DefF K mg s__law_web "_law_web" ["numbers"] f__law_web fd__law_web)
    {f__law_wrong : Addr} {fd__law_wrong : FuncData} (F__law_wrong : DefF K mg s__law_wrong "_law_wrong" ["web", "number"] f__law_wrong fd__law_wrong)
    {f_law : Addr} {fd_law : FuncData} (F_law : DefF K mg s_law "law" ["script"] f_law fd_law)
    {c_is_ascending P_is_ascending : Addr} (T_is_ascending : GxR.TabB base mg c_is_ascending P_is_ascending) (I_is_ascending : P_is_ascending ∈ ts) (D_is_ascending : fd_is_ascending.code = .ref c_is_ascending)
    {c_is_number_set P_is_number_set : Addr} (T_is_number_set : GxR.TabB base mg c_is_number_set P_is_number_set) (I_is_number_set : P_is_number_set ∈ ts) (D_is_number_set : fd_is_number_set.code = .ref c_is_number_set)
    {c_is_web P_is_web : Addr} (T_is_web : GxR.TabB base mg c_is_web P_is_web) (I_is_web : P_is_web ∈ ts) (D_is_web : fd_is_web.code = .ref c_is_web) : ∀ n, AllCal P w K mg base ts (2 * n) tab (Cn n)
  | 0, id, x, ar, e => by
    match id, e with
    | 0, e => have e : some (("is_int" : Str), 1) = some (x, ar) := e; cases e; exact cal_zero F_is_int
    | 1, e => have e : some (("is_between" : Str), 3) = some (x, ar) := e; cases e; exact cal_zero F_is_between
    | 2, e => have e : some (("is_sequence" : Str), 1) = some (x, ar) := e; cases e; exact cal_zero F_is_sequence
    | 3, e => have e : some (("is_row" : Str), 2) = some (x, ar) := e; cases e; exact cal_zero F_is_row
    | 4, e => have e : some (("frozen" : Str), 1) = some (x, ar) := e; cases e; exact cal_zero F_frozen
    | 5, e => have e : some (("is_ascending" : Str), 1) = some (x, ar) := e; cases e; exact cal_zero F_is_ascending
    | 6, e => have e : some (("is_number_set" : Str), 3) = some (x, ar) := e; cases e; exact cal_zero F_is_number_set
    | 7, e => have e : some (("need" : Str), 2) = some (x, ar) := e; cases e; exact cal_zero F_need
    | 8, e => have e : some (("is_size" : Str), 1) = some (x, ar) := e; cases e; exact cal_zero F_is_size
    | 9, e => have e : some (("is_vouchings" : Str), 2) = some (x, ar) := e; cases e; exact cal_zero F_is_vouchings
    | 10, e => have e : some (("is_web" : Str), 1) = some (x, ar) := e; cases e; exact cal_zero F_is_web
    | 11, e => have e : some (("need_web" : Str), 2) = some (x, ar) := e; cases e; exact cal_zero F_need_web
    | 12, e => have e : some (("web_of" : Str), 1) = some (x, ar) := e; cases e; exact cal_zero F_web_of
    | 13, e => have e : some (("accounts" : Str), 1) = some (x, ar) := e; cases e; exact cal_zero F_accounts
    | 14, e => have e : some (("_law_power" : Str), 2) = some (x, ar) := e; cases e; exact cal_zero F__law_power
    | 15, e => have e : some (("_law_cell" : Str), 2) = some (x, ar) := e; cases e; exact cal_zero F__law_cell
    | 16, e => have e : some (("_law_numbers" : Str), 3) = some (x, ar) := e; cases e; exact cal_zero F__law_numbers
    | 17, e => have e : some (("_law_same" : Str), 2) = some (x, ar) := e; cases e; exact cal_zero F__law_same
    | 18, e => have e : some (("_law_listed" : Str), 1) = some (x, ar) := e; cases e; exact cal_zero F__law_listed
    | 19, e => have e : some (("_law_size" : Str), 1) = some (x, ar) := e; cases e; exact cal_zero F__law_size
    | 20, e => have e : some (("_law_web" : Str), 1) = some (x, ar) := e; cases e; exact cal_zero F__law_web
    | 21, e => have e : some (("_law_wrong" : Str), 2) = some (x, ar) := e; cases e; exact cal_zero F__law_wrong
    | 22, e => have e : some (("law" : Str), 1) = some (x, ar) := e; cases e; exact cal_zero F_law
    | m + 23, e => have e : (none : Option (Str × Nat)) = some (x, ar) := e; cases e
  | n + 1, id, x, ar, e => by
    have ih := all_cal nb gc F_is_int F_is_between F_is_sequence F_is_row F_frozen F_is_ascending F_is_number_set F_need F_is_size F_is_vouchings F_is_web F_need_web F_web_of F_accounts F__law_power F__law_cell F__law_numbers F__law_same F__law_listed F__law_size F__law_web F__law_wrong F_law T_is_ascending I_is_ascending D_is_ascending T_is_number_set I_is_number_set D_is_number_set T_is_web I_is_web D_is_web n
    match id, e with
    | 0, e => have e : some (("is_int" : Str), 1) = some (x, ar) := e; cases e; exact cal_of (b := b_is_int (Cn n)) F_is_int.1 sc_is_int F_is_int.2.1 F_is_int.2.2 (fun _ _ => rfl) (fun cdv A outer s H E e hr => j_is_int nb gc ih hr)
    | 1, e => have e : some (("is_between" : Str), 3) = some (x, ar) := e; cases e; exact cal_of (b := b_is_between (Cn n)) F_is_between.1 sc_is_between F_is_between.2.1 F_is_between.2.2 (fun _ _ => rfl) (fun cdv A outer s H E e hr => j_is_between nb gc ih hr)
    | 2, e => have e : some (("is_sequence" : Str), 1) = some (x, ar) := e; cases e; exact cal_of (b := b_is_sequence (Cn n)) F_is_sequence.1 sc_is_sequence F_is_sequence.2.1 F_is_sequence.2.2 (fun _ _ => rfl) (fun cdv A outer s H E e hr => j_is_sequence nb gc ih hr)
    | 3, e => have e : some (("is_row" : Str), 2) = some (x, ar) := e; cases e; exact cal_of (b := b_is_row (Cn n)) F_is_row.1 sc_is_row F_is_row.2.1 F_is_row.2.2 (fun _ _ => rfl) (fun cdv A outer s H E e hr => j_is_row nb gc ih hr)
    | 4, e => have e : some (("frozen" : Str), 1) = some (x, ar) := e; cases e; exact cal_of (b := b_frozen (Cn n)) F_frozen.1 sc_frozen F_frozen.2.1 F_frozen.2.2 (fun _ _ => rfl) (fun cdv A outer s H E e hr => j_frozen nb gc ih hr)
    | 5, e => have e : some (("is_ascending" : Str), 1) = some (x, ar) := e; cases e; exact cal_of (b := b_is_ascending (Cn n)) F_is_ascending.1 sc_is_ascending F_is_ascending.2.1 F_is_ascending.2.2 (fun _ _ => rfl) (fun cdv A outer s H E e hr => j_is_ascending nb gc ih T_is_ascending I_is_ascending (e.symm.trans D_is_ascending) hr)
    | 6, e => have e : some (("is_number_set" : Str), 3) = some (x, ar) := e; cases e; exact cal_of (b := b_is_number_set (Cn n)) F_is_number_set.1 sc_is_number_set F_is_number_set.2.1 F_is_number_set.2.2 (fun _ _ => rfl) (fun cdv A outer s H E e hr => j_is_number_set nb gc ih T_is_number_set I_is_number_set (e.symm.trans D_is_number_set) hr)
    | 7, e => have e : some (("need" : Str), 2) = some (x, ar) := e; cases e; exact cal_of (b := b_need (Cn n)) F_need.1 sc_need F_need.2.1 F_need.2.2 (fun _ _ => rfl) (fun cdv A outer s H E e hr => j_need nb gc ih hr)
    | 8, e => have e : some (("is_size" : Str), 1) = some (x, ar) := e; cases e; exact cal_of (b := b_is_size (Cn n)) F_is_size.1 sc_is_size F_is_size.2.1 F_is_size.2.2 (fun _ _ => rfl) (fun cdv A outer s H E e hr => j_is_size nb gc ih hr)
    | 9, e => have e : some (("is_vouchings" : Str), 2) = some (x, ar) := e; cases e; exact cal_of (b := b_is_vouchings (Cn n)) F_is_vouchings.1 sc_is_vouchings F_is_vouchings.2.1 F_is_vouchings.2.2 (fun _ _ => rfl) (fun cdv A outer s H E e hr => j_is_vouchings nb gc ih hr)
    | 10, e => have e : some (("is_web" : Str), 1) = some (x, ar) := e; cases e; exact cal_of (b := b_is_web (Cn n)) F_is_web.1 sc_is_web F_is_web.2.1 F_is_web.2.2 (fun _ _ => rfl) (fun cdv A outer s H E e hr => j_is_web nb gc ih T_is_web I_is_web (e.symm.trans D_is_web) hr)
    | 11, e => have e : some (("need_web" : Str), 2) = some (x, ar) := e; cases e; exact cal_of (b := b_need_web (Cn n)) F_need_web.1 sc_need_web F_need_web.2.1 F_need_web.2.2 (fun _ _ => rfl) (fun cdv A outer s H E e hr => j_need_web nb gc ih hr)
    | 12, e => have e : some (("web_of" : Str), 1) = some (x, ar) := e; cases e; exact cal_of (b := b_web_of (Cn n)) F_web_of.1 sc_web_of F_web_of.2.1 F_web_of.2.2 (fun _ _ => rfl) (fun cdv A outer s H E e hr => j_web_of nb gc ih hr)
    | 13, e => have e : some (("accounts" : Str), 1) = some (x, ar) := e; cases e; exact cal_of (b := b_accounts (Cn n)) F_accounts.1 sc_accounts F_accounts.2.1 F_accounts.2.2 (fun _ _ => rfl) (fun cdv A outer s H E e hr => j_accounts nb gc ih hr)
    | 14, e => have e : some (("_law_power" : Str), 2) = some (x, ar) := e; cases e; exact cal_of (b := b__law_power (Cn n)) F__law_power.1 sc__law_power F__law_power.2.1 F__law_power.2.2 (fun _ _ => rfl) (fun cdv A outer s H E e hr => j__law_power nb gc ih hr)
    | 15, e => have e : some (("_law_cell" : Str), 2) = some (x, ar) := e; cases e; exact cal_of (b := b__law_cell (Cn n)) F__law_cell.1 sc__law_cell F__law_cell.2.1 F__law_cell.2.2 (fun _ _ => rfl) (fun cdv A outer s H E e hr => j__law_cell nb gc ih hr)
    | 16, e => have e : some (("_law_numbers" : Str), 3) = some (x, ar) := e; cases e; exact cal_of (b := b__law_numbers (Cn n)) F__law_numbers.1 sc__law_numbers F__law_numbers.2.1 F__law_numbers.2.2 (fun _ _ => rfl) (fun cdv A outer s H E e hr => j__law_numbers nb gc ih hr)
    | 17, e => have e : some (("_law_same" : Str), 2) = some (x, ar) := e; cases e; exact cal_of (b := b__law_same (Cn n)) F__law_same.1 sc__law_same F__law_same.2.1 F__law_same.2.2 (fun _ _ => rfl) (fun cdv A outer s H E e hr => j__law_same nb gc ih hr)
    | 18, e => have e : some (("_law_listed" : Str), 1) = some (x, ar) := e; cases e; exact cal_of (b := b__law_listed (Cn n)) F__law_listed.1 sc__law_listed F__law_listed.2.1 F__law_listed.2.2 (fun _ _ => rfl) (fun cdv A outer s H E e hr => j__law_listed nb gc ih hr)
    | 19, e => have e : some (("_law_size" : Str), 1) = some (x, ar) := e; cases e; exact cal_of (b := b__law_size (Cn n)) F__law_size.1 sc__law_size F__law_size.2.1 F__law_size.2.2 (fun _ _ => rfl) (fun cdv A outer s H E e hr => j__law_size nb gc ih hr)
    | 20, e => have e : some (("_law_web" : Str), 1) = some (x, ar) := e; cases e; exact cal_of (b := b__law_web (Cn n)) F__law_web.1 sc__law_web F__law_web.2.1 F__law_web.2.2 (fun _ _ => rfl) (fun cdv A outer s H E e hr => j__law_web nb gc ih hr)
    | 21, e => have e : some (("_law_wrong" : Str), 2) = some (x, ar) := e; cases e; exact cal_of (b := b__law_wrong (Cn n)) F__law_wrong.1 sc__law_wrong F__law_wrong.2.1 F__law_wrong.2.2 (fun _ _ => rfl) (fun cdv A outer s H E e hr => j__law_wrong nb gc ih hr)
    | 22, e => have e : some (("law" : Str), 1) = some (x, ar) := e; cases e; exact cal_of (b := b_law (Cn n)) F_law.1 sc_law F_law.2.1 F_law.2.2 (fun _ _ => rfl) (fun cdv A outer s H E e hr => j_law nb gc ih hr)
    | m + 23, e => have e : (none : Option (Str × Nat)) = some (x, ar) := e; cases e
theorem law_fn (nb : NB mg) (gc : GC mg) {f_is_int : Addr} {fd_is_int : FuncData} (F_is_int : DefF K mg s_is_int "is_int" ["value"] f_is_int fd_is_int)
    {f_is_between : Addr} {fd_is_between : FuncData} (F_is_between : DefF K mg s_is_between "is_between" ["value", "low", "high"] f_is_between fd_is_between)
    {f_is_sequence : Addr} {fd_is_sequence : FuncData} (F_is_sequence : DefF K mg s_is_sequence "is_sequence" ["value"] f_is_sequence fd_is_sequence)
    {f_is_row : Addr} {fd_is_row : FuncData} (F_is_row : DefF K mg s_is_row "is_row" ["value", "many"] f_is_row fd_is_row)
    {f_frozen : Addr} {fd_frozen : FuncData} (F_frozen : DefF K mg s_frozen "frozen" ["value"] f_frozen fd_frozen)
    {f_is_ascending : Addr} {fd_is_ascending : FuncData} (F_is_ascending : DefF K mg s_is_ascending "is_ascending" ["values"] f_is_ascending fd_is_ascending)
    {f_is_number_set : Addr} {fd_is_number_set : FuncData} (F_is_number_set : DefF K mg s_is_number_set "is_number_set" ["value", "low", "high"] f_is_number_set fd_is_number_set)
    {f_need : Addr} {fd_need : FuncData} (F_need : DefF K mg s_need "need" ["test", "at"] f_need fd_need)
    {f_is_size : Addr} {fd_is_size : FuncData} (F_is_size : DefF K mg s_is_size "is_size" ["value"] f_is_size fd_is_size)
    {f_is_vouchings : Addr} {fd_is_vouchings : FuncData} (F_is_vouchings : DefF K mg s_is_vouchings "is_vouchings" ["value", "many"] f_is_vouchings fd_is_vouchings)
    {f_is_web : Addr} {fd_is_web : FuncData} (F_is_web : DefF K mg s_is_web "is_web" ["value"] f_is_web fd_is_web)
    {f_need_web : Addr} {fd_need_web : FuncData} (F_need_web : DefF K mg s_need_web "need_web" ["value", "at"] f_need_web fd_need_web)
    {f_web_of : Addr} {fd_web_of : FuncData} (F_web_of : DefF K mg s_web_of "web_of" ["web"] f_web_of fd_web_of)
    {f_accounts : Addr} {fd_accounts : FuncData} (F_accounts : DefF K mg s_accounts "accounts" ["web"] f_accounts fd_accounts)
    {f__law_power : Addr} {fd__law_power : FuncData} (F__law_power : DefF K mg s__law_power "_law_power" ["base", "many"] f__law_power fd__law_power)
    {f__law_cell : Addr} {fd__law_cell : FuncData} (F__law_cell : DefF K mg s__law_cell "_law_cell" ["script", "place"] f__law_cell fd__law_cell)
    {f__law_numbers : Addr} {fd__law_numbers : FuncData} (F__law_numbers : DefF K mg s__law_numbers "_law_numbers" ["script", "place", "many"] f__law_numbers fd__law_numbers)
    {f__law_same : Addr} {fd__law_same : FuncData} (F__law_same : DefF K mg s__law_same "_law_same" ["one", "other"] f__law_same fd__law_same)
    {f__law_listed : Addr} {fd__law_listed : FuncData} (F__law_listed : DefF K mg s__law_listed "_law_listed" ["value"] f__law_listed fd__law_listed)
    {f__law_size : Addr} {fd__law_size : FuncData} (F__law_size : DefF K mg s__law_size "_law_size" ["number"] f__law_size fd__law_size)
    {f__law_web : Addr} {fd__law_web : FuncData} (F__law_web : DefF K mg s__law_web "_law_web" ["numbers"] f__law_web fd__law_web)
    {f__law_wrong : Addr} {fd__law_wrong : FuncData} (F__law_wrong : DefF K mg s__law_wrong "_law_wrong" ["web", "number"] f__law_wrong fd__law_wrong)
    {f_law : Addr} {fd_law : FuncData} (F_law : DefF K mg s_law "law" ["script"] f_law fd_law)
    {c_is_ascending P_is_ascending : Addr} (T_is_ascending : GxR.TabB base mg c_is_ascending P_is_ascending) (I_is_ascending : P_is_ascending ∈ ts) (D_is_ascending : fd_is_ascending.code = .ref c_is_ascending)
    {c_is_number_set P_is_number_set : Addr} (T_is_number_set : GxR.TabB base mg c_is_number_set P_is_number_set) (I_is_number_set : P_is_number_set ∈ ts) (D_is_number_set : fd_is_number_set.code = .ref c_is_number_set)
    {c_is_web P_is_web : Addr} (T_is_web : GxR.TabB base mg c_is_web P_is_web) (I_is_web : P_is_web ∈ ts) (D_is_web : fd_is_web.code = .ref c_is_web) (n : Nat) : FnOk P w K mg base (L2.CX P w) (2 * (n + 1)) f_law fd_law ["script"] (spC K mg ts (Cn (n + 1)) 22 1) := by
  have ih := all_cal (P := P) (w := w) nb gc F_is_int F_is_between F_is_sequence F_is_row F_frozen F_is_ascending F_is_number_set F_need F_is_size F_is_vouchings F_is_web F_need_web F_web_of F_accounts F__law_power F__law_cell F__law_numbers F__law_same F__law_listed F__law_size F__law_web F__law_wrong F_law T_is_ascending I_is_ascending D_is_ascending T_is_number_set I_is_number_set D_is_number_set T_is_web I_is_web D_is_web n
  exact fnk_of (b := b_law (Cn n)) F_law.1 sc_law (fun _ _ => rfl) (fun cdv A outer s H E e hr => j_law nb gc ih hr)
end
theorem fin {l : PySem.W.OpenLaw} {q : Program} {loose : List Str} {XP : (Str → Option Value) → Heap → Prop} {w : World} {s₀ : Shared} {mg mb : Str → Option Value} {fa : Addr} {h : Heap} {K : PySem.W.Frag} (KX : K.In h) (G : PySem.W.Ground q loose [] XP w s₀ mg mb h) (hmg : mg "law" = some (.ref fa)) (nl : noLists K = true)
    (plain : ∀ ns : List Int, ns.length ≤ 63 → (∀ z ∈ ns, Builtin.Int.intBits z ≤ 1048576) → Cn 21 22 [.list (ns.map .int)] [] = .ok (.bool true) [])
    {f_is_int : Addr} {oc_is_int kV_is_int dc_is_int pm_is_int cd_is_int ct_is_int : Value} {od_is_int an_is_int : Option Addr} {sl_is_int : Array (Option Value)} (a_is_int : PySem.W.nsIn K mainGlobals "is_int" = some (some (.ref f_is_int))) (l_is_int : K.lookup f_is_int = some ⟨oc_is_int, od_is_int, .func (PySem.W.fnOf "is_int" "is_int" (defArgs s_is_int) (defBody s_is_int) (defScope s_is_int) .none kV_is_int dc_is_int pm_is_int an_is_int cd_is_int ct_is_int), sl_is_int⟩) (e_is_int : PySem.W.codeIn K cd_is_int "is_int" = true) (k_is_int : PySem.W.keepIn K (.ref f_is_int) = true)
    {f_is_between : Addr} {oc_is_between kV_is_between dc_is_between pm_is_between cd_is_between ct_is_between : Value} {od_is_between an_is_between : Option Addr} {sl_is_between : Array (Option Value)} (a_is_between : PySem.W.nsIn K mainGlobals "is_between" = some (some (.ref f_is_between))) (l_is_between : K.lookup f_is_between = some ⟨oc_is_between, od_is_between, .func (PySem.W.fnOf "is_between" "is_between" (defArgs s_is_between) (defBody s_is_between) (defScope s_is_between) .none kV_is_between dc_is_between pm_is_between an_is_between cd_is_between ct_is_between), sl_is_between⟩) (e_is_between : PySem.W.codeIn K cd_is_between "is_between" = true) (k_is_between : PySem.W.keepIn K (.ref f_is_between) = true)
    {f_is_sequence : Addr} {oc_is_sequence kV_is_sequence dc_is_sequence pm_is_sequence cd_is_sequence ct_is_sequence : Value} {od_is_sequence an_is_sequence : Option Addr} {sl_is_sequence : Array (Option Value)} (a_is_sequence : PySem.W.nsIn K mainGlobals "is_sequence" = some (some (.ref f_is_sequence))) (l_is_sequence : K.lookup f_is_sequence = some ⟨oc_is_sequence, od_is_sequence, .func (PySem.W.fnOf "is_sequence" "is_sequence" (defArgs s_is_sequence) (defBody s_is_sequence) (defScope s_is_sequence) .none kV_is_sequence dc_is_sequence pm_is_sequence an_is_sequence cd_is_sequence ct_is_sequence), sl_is_sequence⟩) (e_is_sequence : PySem.W.codeIn K cd_is_sequence "is_sequence" = true) (k_is_sequence : PySem.W.keepIn K (.ref f_is_sequence) = true)
    {f_is_row : Addr} {oc_is_row kV_is_row dc_is_row pm_is_row cd_is_row ct_is_row : Value} {od_is_row an_is_row : Option Addr} {sl_is_row : Array (Option Value)} (a_is_row : PySem.W.nsIn K mainGlobals "is_row" = some (some (.ref f_is_row))) (l_is_row : K.lookup f_is_row = some ⟨oc_is_row, od_is_row, .func (PySem.W.fnOf "is_row" "is_row" (defArgs s_is_row) (defBody s_is_row) (defScope s_is_row) .none kV_is_row dc_is_row pm_is_row an_is_row cd_is_row ct_is_row), sl_is_row⟩) (e_is_row : PySem.W.codeIn K cd_is_row "is_row" = true) (k_is_row : PySem.W.keepIn K (.ref f_is_row) = true)
    {f_frozen : Addr} {oc_frozen kV_frozen dc_frozen pm_frozen cd_frozen ct_frozen : Value} {od_frozen an_frozen : Option Addr} {sl_frozen : Array (Option Value)} (a_frozen : PySem.W.nsIn K mainGlobals "frozen" = some (some (.ref f_frozen))) (l_frozen : K.lookup f_frozen = some ⟨oc_frozen, od_frozen, .func (PySem.W.fnOf "frozen" "frozen" (defArgs s_frozen) (defBody s_frozen) (defScope s_frozen) .none kV_frozen dc_frozen pm_frozen an_frozen cd_frozen ct_frozen), sl_frozen⟩) (e_frozen : PySem.W.codeIn K cd_frozen "frozen" = true) (k_frozen : PySem.W.keepIn K (.ref f_frozen) = true)
    {f_is_ascending : Addr} {oc_is_ascending kV_is_ascending dc_is_ascending pm_is_ascending cd_is_ascending ct_is_ascending : Value} {od_is_ascending an_is_ascending : Option Addr} {sl_is_ascending : Array (Option Value)} (a_is_ascending : PySem.W.nsIn K mainGlobals "is_ascending" = some (some (.ref f_is_ascending))) (l_is_ascending : K.lookup f_is_ascending = some ⟨oc_is_ascending, od_is_ascending, .func (PySem.W.fnOf "is_ascending" "is_ascending" (defArgs s_is_ascending) (defBody s_is_ascending) (defScope s_is_ascending) .none kV_is_ascending dc_is_ascending pm_is_ascending an_is_ascending cd_is_ascending ct_is_ascending), sl_is_ascending⟩) (e_is_ascending : PySem.W.codeIn K cd_is_ascending "is_ascending" = true) (k_is_ascending : PySem.W.keepIn K (.ref f_is_ascending) = true)
    {f_is_number_set : Addr} {oc_is_number_set kV_is_number_set dc_is_number_set pm_is_number_set cd_is_number_set ct_is_number_set : Value} {od_is_number_set an_is_number_set : Option Addr} {sl_is_number_set : Array (Option Value)} (a_is_number_set : PySem.W.nsIn K mainGlobals "is_number_set" = some (some (.ref f_is_number_set))) (l_is_number_set : K.lookup f_is_number_set = some ⟨oc_is_number_set, od_is_number_set, .func (PySem.W.fnOf "is_number_set" "is_number_set" (defArgs s_is_number_set) (defBody s_is_number_set) (defScope s_is_number_set) .none kV_is_number_set dc_is_number_set pm_is_number_set an_is_number_set cd_is_number_set ct_is_number_set), sl_is_number_set⟩) (e_is_number_set : PySem.W.codeIn K cd_is_number_set "is_number_set" = true) (k_is_number_set : PySem.W.keepIn K (.ref f_is_number_set) = true)
    {f_need : Addr} {oc_need kV_need dc_need pm_need cd_need ct_need : Value} {od_need an_need : Option Addr} {sl_need : Array (Option Value)} (a_need : PySem.W.nsIn K mainGlobals "need" = some (some (.ref f_need))) (l_need : K.lookup f_need = some ⟨oc_need, od_need, .func (PySem.W.fnOf "need" "need" (defArgs s_need) (defBody s_need) (defScope s_need) .none kV_need dc_need pm_need an_need cd_need ct_need), sl_need⟩) (e_need : PySem.W.codeIn K cd_need "need" = true) (k_need : PySem.W.keepIn K (.ref f_need) = true)
    {f_is_size : Addr} {oc_is_size kV_is_size dc_is_size pm_is_size cd_is_size ct_is_size : Value} {od_is_size an_is_size : Option Addr} {sl_is_size : Array (Option Value)} (a_is_size : PySem.W.nsIn K mainGlobals "is_size" = some (some (.ref f_is_size))) (l_is_size : K.lookup f_is_size = some ⟨oc_is_size, od_is_size, .func (PySem.W.fnOf "is_size" "is_size" (defArgs s_is_size) (defBody s_is_size) (defScope s_is_size) .none kV_is_size dc_is_size pm_is_size an_is_size cd_is_size ct_is_size), sl_is_size⟩) (e_is_size : PySem.W.codeIn K cd_is_size "is_size" = true) (k_is_size : PySem.W.keepIn K (.ref f_is_size) = true)
    {f_is_vouchings : Addr} {oc_is_vouchings kV_is_vouchings dc_is_vouchings pm_is_vouchings cd_is_vouchings ct_is_vouchings : Value} {od_is_vouchings an_is_vouchings : Option Addr} {sl_is_vouchings : Array (Option Value)} (a_is_vouchings : PySem.W.nsIn K mainGlobals "is_vouchings" = some (some (.ref f_is_vouchings))) (l_is_vouchings : K.lookup f_is_vouchings = some ⟨oc_is_vouchings, od_is_vouchings, .func (PySem.W.fnOf "is_vouchings" "is_vouchings" (defArgs s_is_vouchings) (defBody s_is_vouchings) (defScope s_is_vouchings) .none kV_is_vouchings dc_is_vouchings pm_is_vouchings an_is_vouchings cd_is_vouchings ct_is_vouchings), sl_is_vouchings⟩) (e_is_vouchings : PySem.W.codeIn K cd_is_vouchings "is_vouchings" = true) (k_is_vouchings : PySem.W.keepIn K (.ref f_is_vouchings) = true)
    {f_is_web : Addr} {oc_is_web kV_is_web dc_is_web pm_is_web cd_is_web ct_is_web : Value} {od_is_web an_is_web : Option Addr} {sl_is_web : Array (Option Value)} (a_is_web : PySem.W.nsIn K mainGlobals "is_web" = some (some (.ref f_is_web))) (l_is_web : K.lookup f_is_web = some ⟨oc_is_web, od_is_web, .func (PySem.W.fnOf "is_web" "is_web" (defArgs s_is_web) (defBody s_is_web) (defScope s_is_web) .none kV_is_web dc_is_web pm_is_web an_is_web cd_is_web ct_is_web), sl_is_web⟩) (e_is_web : PySem.W.codeIn K cd_is_web "is_web" = true) (k_is_web : PySem.W.keepIn K (.ref f_is_web) = true)
    {f_need_web : Addr} {oc_need_web kV_need_web dc_need_web pm_need_web cd_need_web ct_need_web : Value} {od_need_web an_need_web : Option Addr} {sl_need_web : Array (Option Value)} (a_need_web : PySem.W.nsIn K mainGlobals "need_web" = some (some (.ref f_need_web))) (l_need_web : K.lookup f_need_web = some ⟨oc_need_web, od_need_web, .func (PySem.W.fnOf "need_web" "need_web" (defArgs s_need_web) (defBody s_need_web) (defScope s_need_web) .none kV_need_web dc_need_web pm_need_web an_need_web cd_need_web ct_need_web), sl_need_web⟩) (e_need_web : PySem.W.codeIn K cd_need_web "need_web" = true) (k_need_web : PySem.W.keepIn K (.ref f_need_web) = true)
    {f_web_of : Addr} {oc_web_of kV_web_of dc_web_of pm_web_of cd_web_of ct_web_of : Value} {od_web_of an_web_of : Option Addr} {sl_web_of : Array (Option Value)} (a_web_of : PySem.W.nsIn K mainGlobals "web_of" = some (some (.ref f_web_of))) (l_web_of : K.lookup f_web_of = some ⟨oc_web_of, od_web_of, .func (PySem.W.fnOf "web_of" "web_of" (defArgs s_web_of) (defBody s_web_of) (defScope s_web_of) .none kV_web_of dc_web_of pm_web_of an_web_of cd_web_of ct_web_of), sl_web_of⟩) (e_web_of : PySem.W.codeIn K cd_web_of "web_of" = true) (k_web_of : PySem.W.keepIn K (.ref f_web_of) = true)
    {f_accounts : Addr} {oc_accounts kV_accounts dc_accounts pm_accounts cd_accounts ct_accounts : Value} {od_accounts an_accounts : Option Addr} {sl_accounts : Array (Option Value)} (a_accounts : PySem.W.nsIn K mainGlobals "accounts" = some (some (.ref f_accounts))) (l_accounts : K.lookup f_accounts = some ⟨oc_accounts, od_accounts, .func (PySem.W.fnOf "accounts" "accounts" (defArgs s_accounts) (defBody s_accounts) (defScope s_accounts) .none kV_accounts dc_accounts pm_accounts an_accounts cd_accounts ct_accounts), sl_accounts⟩) (e_accounts : PySem.W.codeIn K cd_accounts "accounts" = true) (k_accounts : PySem.W.keepIn K (.ref f_accounts) = true)
    {f__law_power : Addr} {oc__law_power kV__law_power dc__law_power pm__law_power cd__law_power ct__law_power : Value} {od__law_power an__law_power : Option Addr} {sl__law_power : Array (Option Value)} (a__law_power : PySem.W.nsIn K mainGlobals "_law_power" = some (some (.ref f__law_power))) (l__law_power : K.lookup f__law_power = some ⟨oc__law_power, od__law_power, .func (PySem.W.fnOf "_law_power" "_law_power" (defArgs s__law_power) (defBody s__law_power) (defScope s__law_power) .none kV__law_power dc__law_power pm__law_power an__law_power cd__law_power ct__law_power), sl__law_power⟩) (e__law_power : PySem.W.codeIn K cd__law_power "_law_power" = true) (k__law_power : PySem.W.keepIn K (.ref f__law_power) = true)
    {f__law_cell : Addr} {oc__law_cell kV__law_cell dc__law_cell pm__law_cell cd__law_cell ct__law_cell : Value} {od__law_cell an__law_cell : Option Addr} {sl__law_cell : Array (Option Value)} (a__law_cell : PySem.W.nsIn K mainGlobals "_law_cell" = some (some (.ref f__law_cell))) (l__law_cell : K.lookup f__law_cell = some ⟨oc__law_cell, od__law_cell, .func (PySem.W.fnOf "_law_cell" "_law_cell" (defArgs s__law_cell) (defBody s__law_cell) (defScope s__law_cell) .none kV__law_cell dc__law_cell pm__law_cell an__law_cell cd__law_cell ct__law_cell), sl__law_cell⟩) (e__law_cell : PySem.W.codeIn K cd__law_cell "_law_cell" = true) (k__law_cell : PySem.W.keepIn K (.ref f__law_cell) = true)
    {f__law_numbers : Addr} {oc__law_numbers kV__law_numbers dc__law_numbers pm__law_numbers cd__law_numbers ct__law_numbers : Value} {od__law_numbers an__law_numbers : Option Addr} {sl__law_numbers : Array (Option Value)} (a__law_numbers : PySem.W.nsIn K mainGlobals "_law_numbers" = some (some (.ref f__law_numbers))) (l__law_numbers : K.lookup f__law_numbers = some ⟨oc__law_numbers, od__law_numbers, .func (PySem.W.fnOf "_law_numbers" "_law_numbers" (defArgs s__law_numbers) (defBody s__law_numbers) (defScope s__law_numbers) .none kV__law_numbers dc__law_numbers pm__law_numbers an__law_numbers cd__law_numbers ct__law_numbers), sl__law_numbers⟩) (e__law_numbers : PySem.W.codeIn K cd__law_numbers "_law_numbers" = true) (k__law_numbers : PySem.W.keepIn K (.ref f__law_numbers) = true)
    {f__law_same : Addr} {oc__law_same kV__law_same dc__law_same pm__law_same cd__law_same ct__law_same : Value} {od__law_same an__law_same : Option Addr} {sl__law_same : Array (Option Value)} (a__law_same : PySem.W.nsIn K mainGlobals "_law_same" = some (some (.ref f__law_same))) (l__law_same : K.lookup f__law_same = some ⟨oc__law_same, od__law_same, .func (PySem.W.fnOf "_law_same" "_law_same" (defArgs s__law_same) (defBody s__law_same) (defScope s__law_same) .none kV__law_same dc__law_same pm__law_same an__law_same cd__law_same ct__law_same), sl__law_same⟩) (e__law_same : PySem.W.codeIn K cd__law_same "_law_same" = true) (k__law_same : PySem.W.keepIn K (.ref f__law_same) = true)
    {f__law_listed : Addr} {oc__law_listed kV__law_listed dc__law_listed pm__law_listed cd__law_listed ct__law_listed : Value} {od__law_listed an__law_listed : Option Addr} {sl__law_listed : Array (Option Value)} (a__law_listed : PySem.W.nsIn K mainGlobals "_law_listed" = some (some (.ref f__law_listed))) (l__law_listed : K.lookup f__law_listed = some ⟨oc__law_listed, od__law_listed, .func (PySem.W.fnOf "_law_listed" "_law_listed" (defArgs s__law_listed) (defBody s__law_listed) (defScope s__law_listed) .none kV__law_listed dc__law_listed pm__law_listed an__law_listed cd__law_listed ct__law_listed), sl__law_listed⟩) (e__law_listed : PySem.W.codeIn K cd__law_listed "_law_listed" = true) (k__law_listed : PySem.W.keepIn K (.ref f__law_listed) = true)
    {f__law_size : Addr} {oc__law_size kV__law_size dc__law_size pm__law_size cd__law_size ct__law_size : Value} {od__law_size an__law_size : Option Addr} {sl__law_size : Array (Option Value)} (a__law_size : PySem.W.nsIn K mainGlobals "_law_size" = some (some (.ref f__law_size))) (l__law_size : K.lookup f__law_size = some ⟨oc__law_size, od__law_size, .func (PySem.W.fnOf "_law_size" "_law_size" (defArgs s__law_size) (defBody s__law_size) (defScope s__law_size) .none kV__law_size dc__law_size pm__law_size an__law_size cd__law_size ct__law_size), sl__law_size⟩) (e__law_size : PySem.W.codeIn K cd__law_size "_law_size" = true) (k__law_size : PySem.W.keepIn K (.ref f__law_size) = true)
    {f__law_web : Addr} {oc__law_web kV__law_web dc__law_web pm__law_web cd__law_web ct__law_web : Value} {od__law_web an__law_web : Option Addr} {sl__law_web : Array (Option Value)} (a__law_web : PySem.W.nsIn K mainGlobals "_law_web" = some (some (.ref f__law_web))) (l__law_web : K.lookup f__law_web = some ⟨oc__law_web, od__law_web, .func (PySem.W.fnOf "_law_web" "_law_web" (defArgs s__law_web) (defBody s__law_web) (defScope s__law_web) .none kV__law_web dc__law_web pm__law_web an__law_web cd__law_web ct__law_web), sl__law_web⟩) (e__law_web : PySem.W.codeIn K cd__law_web "_law_web" = true) (k__law_web : PySem.W.keepIn K (.ref f__law_web) = true)
    {f__law_wrong : Addr} {oc__law_wrong kV__law_wrong dc__law_wrong pm__law_wrong cd__law_wrong ct__law_wrong : Value} {od__law_wrong an__law_wrong : Option Addr} {sl__law_wrong : Array (Option Value)} (a__law_wrong : PySem.W.nsIn K mainGlobals "_law_wrong" = some (some (.ref f__law_wrong))) (l__law_wrong : K.lookup f__law_wrong = some ⟨oc__law_wrong, od__law_wrong, .func (PySem.W.fnOf "_law_wrong" "_law_wrong" (defArgs s__law_wrong) (defBody s__law_wrong) (defScope s__law_wrong) .none kV__law_wrong dc__law_wrong pm__law_wrong an__law_wrong cd__law_wrong ct__law_wrong), sl__law_wrong⟩) (e__law_wrong : PySem.W.codeIn K cd__law_wrong "_law_wrong" = true) (k__law_wrong : PySem.W.keepIn K (.ref f__law_wrong) = true)
    {f_law : Addr} {oc_law kV_law dc_law pm_law cd_law ct_law : Value} {od_law an_law : Option Addr} {sl_law : Array (Option Value)} (a_law : PySem.W.nsIn K mainGlobals "law" = some (some (.ref f_law))) (l_law : K.lookup f_law = some ⟨oc_law, od_law, .func (PySem.W.fnOf "law" "law" (defArgs s_law) (defBody s_law) (defScope s_law) .none kV_law dc_law pm_law an_law cd_law ct_law), sl_law⟩) (e_law : PySem.W.codeIn K cd_law "law" = true) (k_law : PySem.W.keepIn K (.ref f_law) = true)
    {c_is_ascending P_is_ascending : Addr} {d_is_ascending : DefRec} (t_is_ascending : PySem.W.tabIn K "is_ascending" = some (c_is_ascending, P_is_ascending)) (n_is_ascending : K.lookup P_is_ascending = none) (r_is_ascending : (recsOf q).find? (fun e => e.name == ("is_ascending" : Str)) = some d_is_ascending)
    {c_is_number_set P_is_number_set : Addr} {d_is_number_set : DefRec} (t_is_number_set : PySem.W.tabIn K "is_number_set" = some (c_is_number_set, P_is_number_set)) (n_is_number_set : K.lookup P_is_number_set = none) (r_is_number_set : (recsOf q).find? (fun e => e.name == ("is_number_set" : Str)) = some d_is_number_set)
    {c_is_web P_is_web : Addr} {d_is_web : DefRec} (t_is_web : PySem.W.tabIn K "is_web" = some (c_is_web, P_is_web)) (n_is_web : K.lookup P_is_web = none) (r_is_web : (recsOf q).find? (fun e => e.name == ("is_web" : Str)) = some d_is_web)
    (z_all : PySem.W.nsIn K mainGlobals "all" = some none)
    (z_bool : PySem.W.nsIn K mainGlobals "bool" = some none)
    (z_int : PySem.W.nsIn K mainGlobals "int" = some none)
    (z_isinstance : PySem.W.nsIn K mainGlobals "isinstance" = some none)
    (z_len : PySem.W.nsIn K mainGlobals "len" = some none)
    (z_list : PySem.W.nsIn K mainGlobals "list" = some none)
    (z_range : PySem.W.nsIn K mainGlobals "range" = some none)
    (z_sorted : PySem.W.nsIn K mainGlobals "sorted" = some none)
    (z_str : PySem.W.nsIn K mainGlobals "str" = some none)
    (z_tuple : PySem.W.nsIn K mainGlobals "tuple" = some none)
    {y_MOST_ACCOUNTS : Tok} (g_MOST_ACCOUNTS : PySem.W.nsIn K mainGlobals "MOST_ACCOUNTS" = some (some (.int (14) y_MOST_ACCOUNTS)))
    {y_MOST_FOUNDERS : Tok} (g_MOST_FOUNDERS : PySem.W.nsIn K mainGlobals "MOST_FOUNDERS" = some (some (.int (3) y_MOST_FOUNDERS)))
    {y_MOST_VOUCHINGS : Tok} (g_MOST_VOUCHINGS : PySem.W.nsIn K mainGlobals "MOST_VOUCHINGS" = some (some (.int (60) y_MOST_VOUCHINGS)))
    {y_WIDEST : Tok} (g_WIDEST : PySem.W.nsIn K mainGlobals "WIDEST" = some (some (.int (1000) y_WIDEST))) :
    LamX.LawAtS l w K (L2.CX l.prog w) 42 63 "script" mg fa h := by
  have F_is_int := def_fact (st := s_is_int) (ps := ["value"]) KX G.T.g a_is_int l_is_int e_is_int k_is_int (fun _ _ _ _ _ _ us hl => match us, hl with | [_], _ => rfl)
  have F_is_between := def_fact (st := s_is_between) (ps := ["value", "low", "high"]) KX G.T.g a_is_between l_is_between e_is_between k_is_between (fun _ _ _ _ _ _ us hl => match us, hl with | [_, _, _], _ => rfl)
  have F_is_sequence := def_fact (st := s_is_sequence) (ps := ["value"]) KX G.T.g a_is_sequence l_is_sequence e_is_sequence k_is_sequence (fun _ _ _ _ _ _ us hl => match us, hl with | [_], _ => rfl)
  have F_is_row := def_fact (st := s_is_row) (ps := ["value", "many"]) KX G.T.g a_is_row l_is_row e_is_row k_is_row (fun _ _ _ _ _ _ us hl => match us, hl with | [_, _], _ => rfl)
  have F_frozen := def_fact (st := s_frozen) (ps := ["value"]) KX G.T.g a_frozen l_frozen e_frozen k_frozen (fun _ _ _ _ _ _ us hl => match us, hl with | [_], _ => rfl)
  have F_is_ascending := def_fact (st := s_is_ascending) (ps := ["values"]) KX G.T.g a_is_ascending l_is_ascending e_is_ascending k_is_ascending (fun _ _ _ _ _ _ us hl => match us, hl with | [_], _ => rfl)
  have F_is_number_set := def_fact (st := s_is_number_set) (ps := ["value", "low", "high"]) KX G.T.g a_is_number_set l_is_number_set e_is_number_set k_is_number_set (fun _ _ _ _ _ _ us hl => match us, hl with | [_, _, _], _ => rfl)
  have F_need := def_fact (st := s_need) (ps := ["test", "at"]) KX G.T.g a_need l_need e_need k_need (fun _ _ _ _ _ _ us hl => match us, hl with | [_, _], _ => rfl)
  have F_is_size := def_fact (st := s_is_size) (ps := ["value"]) KX G.T.g a_is_size l_is_size e_is_size k_is_size (fun _ _ _ _ _ _ us hl => match us, hl with | [_], _ => rfl)
  have F_is_vouchings := def_fact (st := s_is_vouchings) (ps := ["value", "many"]) KX G.T.g a_is_vouchings l_is_vouchings e_is_vouchings k_is_vouchings (fun _ _ _ _ _ _ us hl => match us, hl with | [_, _], _ => rfl)
  have F_is_web := def_fact (st := s_is_web) (ps := ["value"]) KX G.T.g a_is_web l_is_web e_is_web k_is_web (fun _ _ _ _ _ _ us hl => match us, hl with | [_], _ => rfl)
  have F_need_web := def_fact (st := s_need_web) (ps := ["value", "at"]) KX G.T.g a_need_web l_need_web e_need_web k_need_web (fun _ _ _ _ _ _ us hl => match us, hl with | [_, _], _ => rfl)
  have F_web_of := def_fact (st := s_web_of) (ps := ["web"]) KX G.T.g a_web_of l_web_of e_web_of k_web_of (fun _ _ _ _ _ _ us hl => match us, hl with | [_], _ => rfl)
  have F_accounts := def_fact (st := s_accounts) (ps := ["web"]) KX G.T.g a_accounts l_accounts e_accounts k_accounts (fun _ _ _ _ _ _ us hl => match us, hl with | [_], _ => rfl)
  have F__law_power := def_fact (st := s__law_power) (ps := ["base", "many"]) KX G.T.g a__law_power l__law_power e__law_power k__law_power (fun _ _ _ _ _ _ us hl => match us, hl with | [_, _], _ => rfl)
  have F__law_cell := def_fact (st := s__law_cell) (ps := ["script", "place"]) KX G.T.g a__law_cell l__law_cell e__law_cell k__law_cell (fun _ _ _ _ _ _ us hl => match us, hl with | [_, _], _ => rfl)
  have F__law_numbers := def_fact (st := s__law_numbers) (ps := ["script", "place", "many"]) KX G.T.g a__law_numbers l__law_numbers e__law_numbers k__law_numbers (fun _ _ _ _ _ _ us hl => match us, hl with | [_, _, _], _ => rfl)
  have F__law_same := def_fact (st := s__law_same) (ps := ["one", "other"]) KX G.T.g a__law_same l__law_same e__law_same k__law_same (fun _ _ _ _ _ _ us hl => match us, hl with | [_, _], _ => rfl)
  have F__law_listed := def_fact (st := s__law_listed) (ps := ["value"]) KX G.T.g a__law_listed l__law_listed e__law_listed k__law_listed (fun _ _ _ _ _ _ us hl => match us, hl with | [_], _ => rfl)
  have F__law_size := def_fact (st := s__law_size) (ps := ["number"]) KX G.T.g a__law_size l__law_size e__law_size k__law_size (fun _ _ _ _ _ _ us hl => match us, hl with | [_], _ => rfl)
  have F__law_web := def_fact (st := s__law_web) (ps := ["numbers"]) KX G.T.g a__law_web l__law_web e__law_web k__law_web (fun _ _ _ _ _ _ us hl => match us, hl with | [_], _ => rfl)
  have F__law_wrong := def_fact (st := s__law_wrong) (ps := ["web", "number"]) KX G.T.g a__law_wrong l__law_wrong e__law_wrong k__law_wrong (fun _ _ _ _ _ _ us hl => match us, hl with | [_, _], _ => rfl)
  have F_law := def_fact (st := s_law) (ps := ["script"]) KX G.T.g a_law l_law e_law k_law (fun _ _ _ _ _ _ us hl => match us, hl with | [_], _ => rfl)
  have e := hmg.symm.trans (PySem.W.mg_of KX G.T.g a_law)
  cases e
  have nb : NB mg := ⟨PySem.W.mg_none_of KX G.T.g z_all, PySem.W.mg_none_of KX G.T.g z_bool, PySem.W.mg_none_of KX G.T.g z_int, PySem.W.mg_none_of KX G.T.g z_isinstance, PySem.W.mg_none_of KX G.T.g z_len, PySem.W.mg_none_of KX G.T.g z_list, PySem.W.mg_none_of KX G.T.g z_range, PySem.W.mg_none_of KX G.T.g z_sorted, PySem.W.mg_none_of KX G.T.g z_str, PySem.W.mg_none_of KX G.T.g z_tuple⟩
  have gc : GC mg := ⟨⟨_, PySem.W.mg_of KX G.T.g g_MOST_ACCOUNTS⟩, ⟨_, PySem.W.mg_of KX G.T.g g_MOST_FOUNDERS⟩, ⟨_, PySem.W.mg_of KX G.T.g g_MOST_VOUCHINGS⟩, ⟨_, PySem.W.mg_of KX G.T.g g_WIDEST⟩⟩
  have H_is_ascending := PySem.W.tab_of G.T KX r_is_ascending t_is_ascending
  have D_is_ascending := PySem.W.law_code KX G.T.g t_is_ascending F_is_ascending.2.1 (KX _ _ l_is_ascending) rfl
  have H_is_number_set := PySem.W.tab_of G.T KX r_is_number_set t_is_number_set
  have D_is_number_set := PySem.W.law_code KX G.T.g t_is_number_set F_is_number_set.2.1 (KX _ _ l_is_number_set) rfl
  have H_is_web := PySem.W.tab_of G.T KX r_is_web t_is_web
  have D_is_web := PySem.W.law_code KX G.T.g t_is_web F_is_web.2.1 (KX _ _ l_is_web) rfl
  refine law_at (C := Cn 21) (id := 22) (fd := PySem.W.fnOf "law" "law" (defArgs s_law) (defBody s_law) (defScope s_law) .none kV_law dc_law pm_law an_law cd_law ct_law) [(c_is_ascending, P_is_ascending), (c_is_number_set, P_is_number_set), (c_is_web, P_is_web)] nl (fun p hp => ?_) (fun p hp => ?_) (fun s u => .of_eq rfl) (fun base _ _ TB => ?_) plain
  · simp only [List.mem_cons, List.not_mem_nil, or_false] at hp
    rcases hp with rfl | rfl | rfl
    · exact H_is_ascending
    · exact H_is_number_set
    · exact H_is_web
  · simp only [List.mem_cons, List.not_mem_nil, or_false] at hp
    rcases hp with rfl | rfl | rfl
    · exact n_is_ascending
    · exact n_is_number_set
    · exact n_is_web
  · have tb : ∀ {c P : Addr}, (c, P) ∈ [(c_is_ascending, P_is_ascending), (c_is_number_set, P_is_number_set), (c_is_web, P_is_web)] → GxR.TabB base mg c P := fun hp => ⟨(TB _ hp).code, (TB _ hp).bm, (TB _ hp).gP⟩
    exact law_fn nb gc F_is_int F_is_between F_is_sequence F_is_row F_frozen F_is_ascending F_is_number_set F_need F_is_size F_is_vouchings F_is_web F_need_web F_web_of F_accounts F__law_power F__law_cell F__law_numbers F__law_same F__law_listed F__law_size F__law_web F__law_wrong F_law (tb (c := c_is_ascending) (P := P_is_ascending) (by simp)) (by simp) D_is_ascending (tb (c := c_is_number_set) (P := P_is_number_set) (by simp)) (by simp) D_is_number_set (tb (c := c_is_web) (P := P_is_web) (by simp)) (by simp) D_is_web 20
end K01

open PySem PySem.W PyProof.Rows
set_option maxHeartbeats 0 in
theorem PySem.Challenge.cw_standsdespite_k01_webs_by_their_form_holds : PySem.Challenge.rw_standsdespite_k01_webs_by_their_form.Holds := by
  w_on; o_law; k_head; (case hw => w_witness2)
  k_fill
  refine Cor.walk_all (l := PySem.Challenge.rw_standsdespite_k01_webs_by_their_form) (n := 63) (k := 42) (x := "script") rfl (by decide) rfl ⟨rfl, by decide, by decide⟩ (fun w h Y => PySem.W.kIn_of Y) ?F
  case F =>
    intro w s₀ mg mb fa h KX G hmg
    refine' K01.fin KX G hmg ?nl K01.plain ?a_is_int ?l_is_int ?e_is_int ?k_is_int ?a_is_between ?l_is_between ?e_is_between ?k_is_between ?a_is_sequence ?l_is_sequence ?e_is_sequence ?k_is_sequence ?a_is_row ?l_is_row ?e_is_row ?k_is_row ?a_frozen ?l_frozen ?e_frozen ?k_frozen ?a_is_ascending ?l_is_ascending ?e_is_ascending ?k_is_ascending ?a_is_number_set ?l_is_number_set ?e_is_number_set ?k_is_number_set ?a_need ?l_need ?e_need ?k_need ?a_is_size ?l_is_size ?e_is_size ?k_is_size ?a_is_vouchings ?l_is_vouchings ?e_is_vouchings ?k_is_vouchings ?a_is_web ?l_is_web ?e_is_web ?k_is_web ?a_need_web ?l_need_web ?e_need_web ?k_need_web ?a_web_of ?l_web_of ?e_web_of ?k_web_of ?a_accounts ?l_accounts ?e_accounts ?k_accounts ?a__law_power ?l__law_power ?e__law_power ?k__law_power ?a__law_cell ?l__law_cell ?e__law_cell ?k__law_cell ?a__law_numbers ?l__law_numbers ?e__law_numbers ?k__law_numbers ?a__law_same ?l__law_same ?e__law_same ?k__law_same ?a__law_listed ?l__law_listed ?e__law_listed ?k__law_listed ?a__law_size ?l__law_size ?e__law_size ?k__law_size ?a__law_web ?l__law_web ?e__law_web ?k__law_web ?a__law_wrong ?l__law_wrong ?e__law_wrong ?k__law_wrong ?a_law ?l_law ?e_law ?k_law ?t_is_ascending ?n_is_ascending ?r_is_ascending ?t_is_number_set ?n_is_number_set ?r_is_number_set ?t_is_web ?n_is_web ?r_is_web ?z_all ?z_bool ?z_int ?z_isinstance ?z_len ?z_list ?z_range ?z_sorted ?z_str ?z_tuple ?g_MOST_ACCOUNTS ?g_MOST_FOUNDERS ?g_MOST_VOUCHINGS ?g_WIDEST
    (case nl => first | exact rfl | k_is)
    (case a_is_int => k_is)
    (case l_is_int => k_is)
    (case e_is_int => k_is)
    (case k_is_int => k_is)
    (case a_is_between => k_is)
    (case l_is_between => k_is)
    (case e_is_between => k_is)
    (case k_is_between => k_is)
    (case a_is_sequence => k_is)
    (case l_is_sequence => k_is)
    (case e_is_sequence => k_is)
    (case k_is_sequence => k_is)
    (case a_is_row => k_is)
    (case l_is_row => k_is)
    (case e_is_row => k_is)
    (case k_is_row => k_is)
    (case a_frozen => k_is)
    (case l_frozen => k_is)
    (case e_frozen => k_is)
    (case k_frozen => k_is)
    (case a_is_ascending => k_is)
    (case l_is_ascending => k_is)
    (case e_is_ascending => k_is)
    (case k_is_ascending => k_is)
    (case a_is_number_set => k_is)
    (case l_is_number_set => k_is)
    (case e_is_number_set => k_is)
    (case k_is_number_set => k_is)
    (case a_need => k_is)
    (case l_need => k_is)
    (case e_need => k_is)
    (case k_need => k_is)
    (case a_is_size => k_is)
    (case l_is_size => k_is)
    (case e_is_size => k_is)
    (case k_is_size => k_is)
    (case a_is_vouchings => k_is)
    (case l_is_vouchings => k_is)
    (case e_is_vouchings => k_is)
    (case k_is_vouchings => k_is)
    (case a_is_web => k_is)
    (case l_is_web => k_is)
    (case e_is_web => k_is)
    (case k_is_web => k_is)
    (case a_need_web => k_is)
    (case l_need_web => k_is)
    (case e_need_web => k_is)
    (case k_need_web => k_is)
    (case a_web_of => k_is)
    (case l_web_of => k_is)
    (case e_web_of => k_is)
    (case k_web_of => k_is)
    (case a_accounts => k_is)
    (case l_accounts => k_is)
    (case e_accounts => k_is)
    (case k_accounts => k_is)
    (case a__law_power => k_is)
    (case l__law_power => k_is)
    (case e__law_power => k_is)
    (case k__law_power => k_is)
    (case a__law_cell => k_is)
    (case l__law_cell => k_is)
    (case e__law_cell => k_is)
    (case k__law_cell => k_is)
    (case a__law_numbers => k_is)
    (case l__law_numbers => k_is)
    (case e__law_numbers => k_is)
    (case k__law_numbers => k_is)
    (case a__law_same => k_is)
    (case l__law_same => k_is)
    (case e__law_same => k_is)
    (case k__law_same => k_is)
    (case a__law_listed => k_is)
    (case l__law_listed => k_is)
    (case e__law_listed => k_is)
    (case k__law_listed => k_is)
    (case a__law_size => k_is)
    (case l__law_size => k_is)
    (case e__law_size => k_is)
    (case k__law_size => k_is)
    (case a__law_web => k_is)
    (case l__law_web => k_is)
    (case e__law_web => k_is)
    (case k__law_web => k_is)
    (case a__law_wrong => k_is)
    (case l__law_wrong => k_is)
    (case e__law_wrong => k_is)
    (case k__law_wrong => k_is)
    (case a_law => k_is)
    (case l_law => k_is)
    (case e_law => k_is)
    (case k_law => k_is)
    (case t_is_ascending => first | exact rfl | kernel_rfl | k_is)
    (case n_is_ascending => first | exact rfl | kernel_rfl | k_is)
    (case r_is_ascending => first | exact rfl | kernel_rfl | k_is)
    (case t_is_number_set => first | exact rfl | kernel_rfl | k_is)
    (case n_is_number_set => first | exact rfl | kernel_rfl | k_is)
    (case r_is_number_set => first | exact rfl | kernel_rfl | k_is)
    (case t_is_web => first | exact rfl | kernel_rfl | k_is)
    (case n_is_web => first | exact rfl | kernel_rfl | k_is)
    (case r_is_web => first | exact rfl | kernel_rfl | k_is)
    (case z_all => k_is)
    (case z_bool => k_is)
    (case z_int => k_is)
    (case z_isinstance => k_is)
    (case z_len => k_is)
    (case z_list => k_is)
    (case z_range => k_is)
    (case z_sorted => k_is)
    (case z_str => k_is)
    (case z_tuple => k_is)
    (case g_MOST_ACCOUNTS => k_is)
    (case g_MOST_FOUNDERS => k_is)
    (case g_MOST_VOUCHINGS => k_is)
    (case g_WIDEST => k_is)
