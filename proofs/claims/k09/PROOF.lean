import PyProof.Rows.All
import Wide.All
import OpenK.AllK
import Wide.FinOn
import HandS.ForList
import HandS.ForMost
import HandS.Exc
import HandS.ExcOwn
import HandS.TryOnly
import HandS.TupAny
import HandS.Wide
import HandS.IsInst
import HandS.SortInts
import HandS.Conv
import HandS.Defaults
import HandS.WordsExc
import KE.GoesMore
import KE.GoesEnum
import HandS.Dict
import HandS.More
import HandS.Style
import HandS.EndBits
import PySem.Challenge.RW_changedalike_k09_ends
set_option Elab.async false
set_option linter.all false
set_option maxRecDepth 100000
set_option maxHeartbeats 4000000
namespace Sh
open PySem L2

/-! ### 1. values, cells, results -/
/-- a value: plain data (never changed any more), the number of a cell, or the script -/
inductive A where
  | d (x : PyData) | c (n : Nat) | s (ns : List Int)
/-- a cell: a list, a dict that may still change; a cell that was given up -/
inductive Cell where
  | dead
  | lst (xs : List PyData)
  | dk (kvs : List (Key × PyData))
  | dt (kvs : List (List Key × PyData))
abbrev CS := List Cell
abbrev Env := List (Option A)
/-- an exception in the air: its class's name, its fields -/
structure Ex where
  cls : Str
  fs : List (Str × PyData)
inductive R (α : Type) where
  | ok (a : α) (cs : CS) | ex (e : Ex) (cs : CS) | no
def R.bind {α β : Type} (r : R α) (k : α → CS → R β) : R β := match r with
  | .ok a cs => k a cs
  | .ex e cs => .ex e cs
  | .no => .no
@[simp] theorem R.bind_ok {α β : Type} (a : α) (cs : CS) (k : α → CS → R β) : (R.ok a cs).bind k = k a cs := rfl
@[simp] theorem R.bind_ex {α β : Type} (e : Ex) (cs : CS) (k : α → CS → R β) : (R.ex e cs : R α).bind k = .ex e cs := rfl
@[simp] theorem R.bind_no {α β : Type} (k : α → CS → R β) : (R.no : R α).bind k = .no := rfl
inductive RS where
  | nx (env : Env) (cs : CS) | rt (a : A) (cs : CS) | bk (env : Env) (cs : CS) | ct (env : Env) (cs : CS) | ex (e : Ex) (env : Env) (cs : CS) | no
def R.toS {α : Type} (r : R α) (env : Env) (k : α → CS → RS) : RS := match r with
  | .ok a cs => k a cs
  | .ex e cs => .ex e env cs
  | .no => .no
@[simp] theorem R.toS_ok {α : Type} (a : α) (cs : CS) (env : Env) (k : α → CS → RS) : (R.ok a cs).toS env k = k a cs := rfl
@[simp] theorem R.toS_ex {α : Type} (e : Ex) (cs : CS) (env : Env) (k : α → CS → RS) : (R.ex e cs : R α).toS env k = .ex e env cs := rfl
@[simp] theorem R.toS_no {α : Type} (env : Env) (k : α → CS → RS) : (R.no : R α).toS env k = .no := rfl
abbrev ME := Env → CS → R A
abbrev MT := Env → CS → R Bool
abbrev MA := Env → CS → R (List A)
abbrev MS := Env → CS → RS
/-- a def's function -/
abbrev Fn := List A → CS → R A

/-! ### 2. how they lie in the heap -/
mutual
/-- plain data at a value: as L2.Dp, but lists are tracked ones -/
inductive Dq (K : PySem.W.Frag) (H : Hp) : V → PyData → Prop
  | non : Dq K H .non .none
  | bl (b : Bool) : Dq K H (.bl b) (.bool b)
  | int (i : Int) : Dq K H (.int i) (.int i)
  | str (x : Str) : Dq K H (.str x) (.str x)
  | lst {a : Addr} {xs : List V} {ds : List PyData} : H a = some (.lst xs) → DqAll K H xs ds → Dq K H (.ref a) (.list ds)
  | tup {a : Addr} {xs : List V} {ds : List PyData} : SqT K H a xs → DqAll K H xs ds → Dq K H (.ref a) (.tuple ds)
inductive DqAll (K : PySem.W.Frag) (H : Hp) : List V → List PyData → Prop
  | nil : DqAll K H [] []
  | cons {v : V} {vs : List V} {d : PyData} {ds : List PyData} : Dq K H v d → DqAll K H vs ds → DqAll K H (v :: vs) (d :: ds)
end
mutual
theorem Dq.dp {K : PySem.W.Frag} {H : Hp} : ∀ {v : V} {x : PyData}, Dq K H v x → Dp K H v x
  | _, _, .non => .non
  | _, _, .bl b => .bl b
  | _, _, .int i => .int i
  | _, _, .str x => .str x
  | _, _, .lst h1 h2 => .lst (SqL.of h1) (DqAll.dp h2)
  | _, _, .tup h1 h2 => .tup h1 (DqAll.dp h2)
theorem DqAll.dp {K : PySem.W.Frag} {H : Hp} : ∀ {vs : List V} {xs : List PyData}, DqAll K H vs xs → DpAll K H vs xs
  | _, _, .nil => .nil
  | _, _, .cons h1 h2 => .cons (Dq.dp h1) (DqAll.dp h2)
end
/-- what stands outside: the written part, the classes' addresses by name -/
structure G where
  K : PySem.W.Frag
  cm : Str → Value
/-- where the cells lie; what is hidden (a list that a comprehension is making) -/
structure AS where
  l : List Addr
  hid : List Addr
def AS.push (as : AS) (p : Addr) : AS := ⟨as.l ++ [p], as.hid⟩
def live (cs : CS) (as : AS) (a : Addr) : Prop := (∃ (i : Nat) (c : Cell), cs[i]? = some c ∧ c ≠ .dead ∧ as.l[i]? = some a) ∨ a ∈ as.hid
/-- the heap without the cells -/
noncomputable def dat (cs : CS) (as : AS) (H : Hp) : Hp := fun a => open Classical in if live cs as a then none else H a
theorem dat_some {cs : CS} {as : AS} {H : Hp} {a : Addr} {o : HO} : dat cs as H a = some o ↔ ¬ live cs as a ∧ H a = some o := by
  classical
  unfold dat
  split
  · rename_i h; exact Iff.intro (fun e => nomatch e) (fun e => absurd h e.1)
  · rename_i h; exact Iff.intro (fun e => And.intro h e) (fun e => e.2)

section
variable (g : G) (cs : CS) (as : AS) (H : Hp)
def RepA (v : V) : A → Prop
  | .d x => Dq g.K (dat cs as H) v x
  | .c n => ∃ a, as.l[n]? = some a ∧ v = .ref a
  | .s ns => ∃ a, v = .ref a ∧ SqL g.K (dat cs as H) a (ns.map V.int)
def RepAs (vs : List V) (xs : List A) : Prop := Paired (RepA g cs as H) vs xs
def RepKV {κ : Type} (vs : List (κ × V)) (xs : List (κ × PyData)) : Prop := Paired (fun (p : κ × V) (q : κ × PyData) => p.1 = q.1 ∧ Dq g.K (dat cs as H) p.2 q.2) vs xs
def CellOk (a : Addr) : Cell → Prop
  | .dead => True
  | .lst xs => ∃ vs, H a = some (.lst vs) ∧ DqAll g.K (dat cs as H) vs xs
  | .dk kvs => ∃ vs, H a = some (.dK vs) ∧ RepKV g cs as H vs kvs
  | .dt kvs => ∃ vs, H a = some (.dT vs) ∧ RepKV g cs as H vs kvs
structure Hs : Prop where
  len : as.l.length = cs.length
  inj : ∀ (i j : Nat) (a : Addr) (c c' : Cell), cs[i]? = some c → c ≠ .dead → cs[j]? = some c' → c' ≠ .dead → as.l[i]? = some a → as.l[j]? = some a → i = j
  cells : ∀ (i : Nat) (c : Cell) (a : Addr), cs[i]? = some c → as.l[i]? = some a → CellOk g cs as H a c
  apart : ∀ (i : Nat) (c : Cell) (a : Addr), cs[i]? = some c → c ≠ .dead → as.l[i]? = some a → a ∉ as.hid
  there : ∀ a ∈ as.hid, ∃ o, H a = some o
structure Sat (env : Env) (σ : St) : Prop where
  hs : Hs g cs as H
  len : env.length = σ.length
  slots : ∀ (i : Nat) (x : A), env[i]? = some (some x) → ∃ v, σ[i]? = some (some v) ∧ RepA g cs as H v x
end
structure Exn (cs : CS) (as : AS) (H : Hp) (cs' : CS) (as' : AS) (H' : Hp) : Prop where
  pre : ∀ (n : Nat) (a : Addr), as.l[n]? = some a → as'.l[n]? = some a
  dat : ∀ (a : Addr) (o : HO), dat cs as H a = some o → dat cs' as' H' a = some o
  hid : as'.hid = as.hid
  kept : ∀ a ∈ as.hid, H' a = H a
theorem Exn.refl {cs : CS} {as : AS} {H : Hp} : Exn cs as H cs as H := ⟨fun _ _ h => h, fun _ _ h => h, rfl, fun _ _ => rfl⟩
theorem Exn.trans {cs cs1 cs2 : CS} {as as1 as2 : AS} {H H1 H2 : Hp} (a : Exn cs as H cs1 as1 H1) (b : Exn cs1 as1 H1 cs2 as2 H2) : Exn cs as H cs2 as2 H2 :=
  ⟨fun n x h => b.pre n x (a.pre n x h), fun x o h => b.dat x o (a.dat x o h), b.hid.trans a.hid, fun x h => (b.kept x (by rw [a.hid]; exact h)).trans (a.kept x h)⟩

/-! ### 3. what is known stays -/
def Le (H H' : Hp) : Prop := ∀ a o, H a = some o → H' a = some o
theorem Le.refl {H : Hp} : Le H H := fun _ _ h => h
theorem Le.rd {H H' : Hp} (e : Le H H') {a : Addr} {u : HO} (h : Rd H a u) : Rd H' a u := by
  rcases h with h | ⟨o, h⟩
  · exact .inl (e a _ h)
  · exact .inr ⟨o, e a _ h⟩
theorem Le.sqL {K : PySem.W.Frag} {H H' : Hp} (e : Le H H') {a : Addr} {xs : List V} (h : SqL K H a xs) : SqL K H' a xs := h.imp e.rd id
theorem Le.sqT {K : PySem.W.Frag} {H H' : Hp} (e : Le H H') {a : Addr} {xs : List V} (h : SqT K H a xs) : SqT K H' a xs := h.imp e.rd id
mutual
theorem Dq.le {K : PySem.W.Frag} {H H' : Hp} (e : Le H H') : ∀ {v : V} {x : PyData}, Dq K H v x → Dq K H' v x
  | _, _, .non => .non
  | _, _, .bl b => .bl b
  | _, _, .int i => .int i
  | _, _, .str x => .str x
  | _, _, .lst h1 h2 => .lst (e _ _ h1) (DqAll.le e h2)
  | _, _, .tup h1 h2 => .tup (e.sqT h1) (DqAll.le e h2)
theorem DqAll.le {K : PySem.W.Frag} {H H' : Hp} (e : Le H H') : ∀ {vs : List V} {xs : List PyData}, DqAll K H vs xs → DqAll K H' vs xs
  | _, _, .nil => .nil
  | _, _, .cons h1 h2 => .cons (Dq.le e h1) (DqAll.le e h2)
end
theorem dat_le {cs : CS} {as : AS} {H : Hp} : Le (dat cs as H) H := fun _ _ h => (dat_some.mp h).2
section
variable {g : G} {cs cs' : CS} {as as' : AS} {H H' : Hp}
theorem RepA.exn (e : Exn cs as H cs' as' H') : ∀ {v : V} {x : A}, RepA g cs as H v x → RepA g cs' as' H' v x
  | _, .d _, h => Dq.le e.dat h
  | _, .c _, ⟨a, h, q⟩ => ⟨a, e.pre _ _ h, q⟩
  | _, .s _, ⟨a, h, q⟩ => ⟨a, h, Le.sqL e.dat q⟩
theorem RepAs.exn (e : Exn cs as H cs' as' H') {vs : List V} {xs : List A} (h : RepAs g cs as H vs xs) : RepAs g cs' as' H' vs xs := Paired.mono (fun _ _ q => RepA.exn e q) h
theorem RepKV.exn {κ : Type} (e : Exn cs as H cs' as' H') {vs : List (κ × V)} {xs : List (κ × PyData)} (h : RepKV g cs as H vs xs) : RepKV g cs' as' H' vs xs := Paired.mono (fun _ _ q => ⟨q.1, Dq.le e.dat q.2⟩) h
theorem Sat.exn {env : Env} {σ : St} (s : Sat g cs as H env σ) (h : Hs g cs' as' H') (e : Exn cs as H cs' as' H') : Sat g cs' as' H' env σ :=
  ⟨h, s.len, fun i x q => let ⟨v, a, b⟩ := s.slots i x q; ⟨v, a, b.exn e⟩⟩
end

/-! ### 4. what is wanted behind -/
/-- the exception's own dict -/
def RepX (g : G) (cs : CS) (as : AS) (H : Hp) (d : Option Addr) (fs : List (Str × PyData)) : Prop :=
  (fs = [] ∧ d = none) ∨ ∃ dd vs, d = some dd ∧ H dd = some (.xd vs) ∧ ¬ live cs as dd ∧ Paired (fun (p : Str × V) (q : Str × PyData) => p.1 = q.1 ∧ Dq g.K (dat cs as H) p.2 q.2) vs fs
section
variable (g : G) (W : WX) (σ : St) (cs : CS) (as : AS) (H : Hp)
def Post {β : Type} (P : β → CS → AS → Hp → Prop) : R β → Prop
  | .ok b cs' => ∀ as' H', Hs g cs' as' H' → Exn cs as H cs' as' H' → P b cs' as' H'
  | .ex e cs' => ∀ d as' H', Hs g cs' as' H' → Exn cs as H cs' as' H' → RepX g cs' as' H' d e.fs → W (g.cm e.cls) d σ H'
  | .no => False
end
section
variable {g : G} {W : WX} {σ : St} {cs cs1 : CS} {as as1 : AS} {H H1 : Hp} {β γ : Type} {P P' : β → CS → AS → Hp → Prop}
theorem Post.mono {r : R β} (h : Post g W σ cs as H P r) (hp : ∀ b cs' as' H', Hs g cs' as' H' → Exn cs as H cs' as' H' → P b cs' as' H' → P' b cs' as' H') : Post g W σ cs as H P' r := by
  cases r with
  | ok b cs' => exact fun as' H' hs e => hp _ _ _ _ hs e (h as' H' hs e)
  | ex e cs' => exact h
  | no => exact h
theorem Post.shift {r : R β} (h : Post g W σ cs as H P r) (e : Exn cs as H cs1 as1 H1) : Post g W σ cs1 as1 H1 P r := by
  cases r with
  | ok b cs' => exact fun as' H' hs e' => h as' H' hs (e.trans e')
  | ex x cs' => exact fun d as' H' hs e' q => h d as' H' hs (e.trans e') q
  | no => exact h
theorem Post.bind {r : R β} {k : β → CS → R γ} {P : γ → CS → AS → Hp → Prop} (h : Post g W σ cs as H P (r.bind k)) :
    Post g W σ cs as H (fun b cs' as' H' => Post g W σ cs' as' H' P (k b cs')) r := by
  cases r with
  | ok b cs' => exact fun as' H' _ e => Post.shift h e
  | ex x cs' => exact h
  | no => exact h
end
/-- the readings of the functions -/
def den (g : G) (W : WX) (m : ME) : TE := fun σ H Q => ∃ env cs as, Sat g cs as H env σ ∧ Post g W σ cs as H (fun a cs' as' H' => ∀ v, RepA g cs' as' H' v a → Q v H') (m env cs)
def denT (g : G) (W : WX) (m : MT) : TT := fun σ H Q => ∃ env cs as, Sat g cs as H env σ ∧ Post g W σ cs as H (fun b _ _ H' => Q b H') (m env cs)
def denA (g : G) (W : WX) (m : MA) : TA := fun σ H Q => ∃ env cs as, Sat g cs as H env σ ∧ Post g W σ cs as H (fun xs cs' as' H' => ∀ vs, RepAs g cs' as' H' vs xs → Q vs H') (m env cs)
def PostS (g : G) (W : WX) (cs : CS) (as : AS) (H : Hp) (D : Ends) : RS → Prop
  | .nx env' cs' => ∀ σ' as' H', Sat g cs' as' H' env' σ' → Exn cs as H cs' as' H' → D.nx σ' H'
  | .bk env' cs' => ∀ σ' as' H', Sat g cs' as' H' env' σ' → Exn cs as H cs' as' H' → D.bk σ' H'
  | .ct env' cs' => ∀ σ' as' H', Sat g cs' as' H' env' σ' → Exn cs as H cs' as' H' → D.ct σ' H'
  | .rt a cs' => ∀ v as' H', Hs g cs' as' H' → Exn cs as H cs' as' H' → RepA g cs' as' H' v a → D.rt v H'
  | .ex e env' cs' => ∀ d σ' as' H', Sat g cs' as' H' env' σ' → Exn cs as H cs' as' H' → RepX g cs' as' H' d e.fs → W (g.cm e.cls) d σ' H'
  | .no => False
def denS (g : G) (W : WX) (m : MS) : TS := fun D σ H => ∃ env cs as, Sat g cs as H env σ ∧ PostS g W cs as H D (m env cs)
section
variable {g : G} {W : WX} {σ : St} {cs cs1 : CS} {as as1 : AS} {H H1 : Hp} {D D' : Ends} {env : Env}
theorem PostS.shift {r : RS} (h : PostS g W cs as H D r) (e : Exn cs as H cs1 as1 H1) : PostS g W cs1 as1 H1 D r := by
  cases r with
  | nx env' cs' => exact fun σ' as' H' s e' => h σ' as' H' s (e.trans e')
  | bk env' cs' => exact fun σ' as' H' s e' => h σ' as' H' s (e.trans e')
  | ct env' cs' => exact fun σ' as' H' s e' => h σ' as' H' s (e.trans e')
  | rt a cs' => exact fun v as' H' s e' => h v as' H' s (e.trans e')
  | ex x env' cs' => exact fun d σ' as' H' s e' q => h d σ' as' H' s (e.trans e') q
  | no => exact h
theorem post_toS {α : Type} {r : R α} {k : α → CS → RS} (s : Sat g cs as H env σ) (h : PostS g W cs as H D (r.toS env k)) :
    Post g W σ cs as H (fun a cs1 as1 H1 => PostS g W cs1 as1 H1 D (k a cs1)) r := by
  cases r with
  | ok a cs' => exact fun as' H' _ e => PostS.shift h e
  | ex x cs' => exact fun d as' H' hs e q => h d σ as' H' (s.exn hs e) e q
  | no => exact h
end
/-! ### 5. weakening of readings -/
section
variable {X : Cx} {e : Expr}
theorem pe_imp {t t' : TE} (h : PE X e t) (w : ∀ σ H Q, t' σ H Q → t σ H Q) : PE X e t' := ⟨fun pins s σ H Q I q => h.run pins s σ H Q I (w σ H Q q)⟩
theorem pt_imp {t t' : TT} (h : PT X e t) (w : ∀ σ H Q, t' σ H Q → t σ H Q) : PT X e t' := ⟨fun pins s σ H Q I q => h.run pins s σ H Q I (w σ H Q q)⟩
theorem pw_imp {t t' : TT} (h : PW X e t) (w : ∀ σ H Q, t' σ H Q → t σ H Q) : PW X e t' := ⟨fun wh pins s σ H Q I q => h.run wh pins s σ H Q I (w σ H Q q)⟩
theorem pa_imp {es : List Expr} {t t' : TA} (h : PA X es t) (w : ∀ σ H Q, t' σ H Q → t σ H Q) : PA X es t' := ⟨fun pos pins s σ H Q I q => h.run pos pins s σ H Q I (w σ H Q q)⟩
theorem ps_imp {st : Stmt} {t t' : TS} (h : PS X st t) (w : ∀ D σ H, t' D σ H → t D σ H) : PS X st t' := ⟨fun pins s σ H D I q => h.run pins s σ H D I (w D σ H q)⟩
theorem pss_imp {sts : List Stmt} {t t' : TS} (h : PSs X sts t) (w : ∀ D σ H, t' D σ H → t D σ H) : PSs X sts t' := ⟨fun pins s σ H D I q => h.run pins s σ H D I (w D σ H q)⟩
end
end Sh
namespace Sh
open PySem L2
section
variable {g : G} {cs : CS} {as : AS} {H : Hp} {p : Addr} {o : HO}
theorem Hs.of_live (s : Hs g cs as H) {a : Addr} (h : live cs as a) : ∃ o, H a = some o := by
  rcases h with ⟨i, c, e1, e2, e3⟩ | h
  case inr => exact s.there a h
  have k := s.cells i c a e1 e3
  cases c with
  | dead => exact absurd rfl e2
  | lst xs => obtain ⟨vs, q, _⟩ := k; exact ⟨_, q⟩
  | dk xs => obtain ⟨vs, q, _⟩ := k; exact ⟨_, q⟩
  | dt xs => obtain ⟨vs, q, _⟩ := k; exact ⟨_, q⟩
theorem Hs.not_live (s : Hs g cs as H) (h : H p = none) : ¬ live cs as p := fun l => by
  obtain ⟨o, e⟩ := s.of_live l
  rw [h] at e; cases e
/-- a new object of plain data -/
theorem exn_new (s : Hs g cs as H) (h : H p = none) : Exn cs as H cs as (upd H p o) :=
  ⟨fun _ _ q => q, fun a u q => by
    obtain ⟨q1, q2⟩ := dat_some.mp q
    exact dat_some.mpr ⟨q1, by rw [upd_ne (ne_of_none q2 h)]; exact q2⟩, rfl, fun a ha => by
    obtain ⟨o', e⟩ := s.there a ha
    rw [upd_ne (ne_of_none e h)]⟩
theorem CellOk.new (s : Hs g cs as H) (h : H p = none) {a : Addr} : ∀ {c : Cell}, CellOk g cs as H a c → CellOk g cs as (upd H p o) a c
  | .dead, _ => trivial
  | .lst _, ⟨vs, q, r⟩ => ⟨vs, by rw [upd_ne (ne_of_none q h)]; exact q, DqAll.le (exn_new s h).dat r⟩
  | .dk _, ⟨vs, q, r⟩ => ⟨vs, by rw [upd_ne (ne_of_none q h)]; exact q, r.exn (exn_new s h)⟩
  | .dt _, ⟨vs, q, r⟩ => ⟨vs, by rw [upd_ne (ne_of_none q h)]; exact q, r.exn (exn_new s h)⟩
theorem Hs.new (s : Hs g cs as H) (h : H p = none) : Hs g cs as (upd H p o) :=
  ⟨s.len, s.inj, fun i c a e1 e2 => (s.cells i c a e1 e2).new s h, s.apart, fun a ha => let ⟨o', e⟩ := s.there a ha; ⟨o', by rw [upd_ne (ne_of_none e h)]; exact e⟩⟩
/-- a new object that is tracked as data at p -/
theorem dat_new (s : Hs g cs as H) (h : H p = none) : dat cs as (upd H p o) p = some o :=
  dat_some.mpr ⟨s.not_live h, upd_same⟩

/-! ### a new cell -/
theorem getElem?_snoc {α : Type} {l : List α} {x y : α} {i : Nat} (h : (l ++ [x])[i]? = some y) : (i < l.length ∧ l[i]? = some y) ∨ (i = l.length ∧ y = x) := by
  by_cases hi : i < l.length
  · exact .inl ⟨hi, by rw [List.getElem?_append_left hi] at h; exact h⟩
  · have hi' : l.length ≤ i := Nat.le_of_not_lt hi
    rw [List.getElem?_append_right hi'] at h
    have e : i - l.length = 0 := by
      cases q : i - l.length with
      | zero => rfl
      | succ n => rw [q] at h; simp at h
    rw [e] at h
    exact .inr ⟨by omega, (Option.some.inj h).symm⟩
theorem getElem?_left {α : Type} {l m : List α} {y : α} {i : Nat} (h : l[i]? = some y) : (l ++ m)[i]? = some y := by
  have hi := (List.getElem?_eq_some_iff.mp h).1
  rw [List.getElem?_append_left hi]; exact h
variable {c : Cell}
theorem live_snoc (s : Hs g cs as H) {a : Addr} (h : live (cs ++ [c]) (as.push p) a) : live cs as a ∨ a = p := by
  rcases h with ⟨i, d, e1, e2, e3⟩ | h
  case inr => exact .inl (.inr h)
  rcases getElem?_snoc e1 with ⟨hi, e1⟩ | ⟨hi, e1⟩
  · rcases getElem?_snoc e3 with ⟨_, e3⟩ | ⟨hj, e3⟩
    · exact .inl (.inl ⟨i, d, e1, e2, e3⟩)
    · exact .inr e3
  · rcases getElem?_snoc e3 with ⟨hj, e3⟩ | ⟨hj, e3⟩
    · rw [s.len] at hj; omega
    · exact .inr e3
theorem exn_cell (s : Hs g cs as H) (h : H p = none) : Exn cs as H (cs ++ [c]) (as.push p) (upd H p o) :=
  ⟨fun n a q => getElem?_left q, fun a u q => by
    obtain ⟨q1, q2⟩ := dat_some.mp q
    have ne := ne_of_none q2 h
    refine dat_some.mpr ⟨fun l => ?_, by rw [upd_ne ne]; exact q2⟩
    rcases live_snoc s l with l | l
    · exact q1 l
    · exact ne l, rfl, fun a ha => by
    obtain ⟨o', e⟩ := s.there a ha
    rw [upd_ne (ne_of_none e h)]⟩
theorem CellOk.exn {cs' : CS} {as' : AS} {H' : Hp} (e : Exn cs as H cs' as' H') {a : Addr} (hk : ∀ o, H a = some o → H' a = some o) : ∀ {c : Cell}, CellOk g cs as H a c → CellOk g cs' as' H' a c
  | .dead, _ => trivial
  | .lst _, ⟨vs, q, r⟩ => ⟨vs, hk _ q, DqAll.le e.dat r⟩
  | .dk _, ⟨vs, q, r⟩ => ⟨vs, hk _ q, r.exn e⟩
  | .dt _, ⟨vs, q, r⟩ => ⟨vs, hk _ q, r.exn e⟩
theorem Hs.cell (s : Hs g cs as H) (h : H p = none) (hc : CellOk g (cs ++ [c]) (as.push p) (upd H p o) p c) : Hs g (cs ++ [c]) (as.push p) (upd H p o) := by
  refine ⟨by show (as.l ++ [p]).length = _; rw [List.length_append, List.length_append, s.len] <;> rfl, fun i j a c1 c2 e1 n1 e2 n2 a1 a2 => ?_, fun i c1 a e1 e2 => ?_, fun i c1 a e1 n1 a1 => ?_, fun a ha => ?_⟩
  · have key : ∀ {i : Nat} {c1 : Cell}, (cs ++ [c])[i]? = some c1 → c1 ≠ .dead → (as.push p).l[i]? = some a → (i < cs.length ∧ cs[i]? = some c1 ∧ as.l[i]? = some a) ∨ (i = cs.length ∧ a = p) := fun {i c1} e1 n1 a1 => by
      rcases getElem?_snoc e1 with ⟨hi, e1⟩ | ⟨hi, e1⟩
      · rcases getElem?_snoc a1 with ⟨_, a1⟩ | ⟨hj, a1⟩
        · exact .inl ⟨hi, e1, a1⟩
        · rw [s.len] at hj; omega
      · rcases getElem?_snoc a1 with ⟨hj, a1⟩ | ⟨hj, a1⟩
        · rw [s.len] at hj; omega
        · exact .inr ⟨hi, a1⟩
    rcases key e1 n1 a1 with ⟨_, f1, b1⟩ | ⟨f1, b1⟩
    · rcases key e2 n2 a2 with ⟨_, f2, b2⟩ | ⟨f2, b2⟩
      · exact s.inj i j a c1 c2 f1 n1 f2 n2 b1 b2
      · exact absurd (b2 ▸ (.inl ⟨i, c1, f1, n1, b1⟩ : live cs as a)) (s.not_live h)
    · rcases key e2 n2 a2 with ⟨_, f2, b2⟩ | ⟨f2, b2⟩
      · exact absurd (b1 ▸ (.inl ⟨j, c2, f2, n2, b2⟩ : live cs as a)) (s.not_live h)
      · exact f1.trans f2.symm
  · rcases getElem?_snoc e1 with ⟨hi, e1⟩ | ⟨hi, e1⟩
    · rcases getElem?_snoc e2 with ⟨_, e2⟩ | ⟨hj, e2⟩
      · exact (s.cells i c1 a e1 e2).exn (exn_cell s h) fun o q => by rw [upd_ne (ne_of_none q h)]; exact q
      · rw [s.len] at hj; omega
    · rcases getElem?_snoc e2 with ⟨hj, e2⟩ | ⟨hj, e2⟩
      · rw [s.len] at hj; omega
      · rw [e2, e1]; exact hc
  · rcases getElem?_snoc e1 with ⟨hi, e1⟩ | ⟨hi, e1⟩
    · rcases getElem?_snoc a1 with ⟨_, a1⟩ | ⟨hj, a1⟩
      · exact s.apart i c1 a e1 n1 a1
      · rw [s.len] at hj; omega
    · rcases getElem?_snoc a1 with ⟨hj, a1⟩ | ⟨hj, a1⟩
      · rw [s.len] at hj; omega
      · intro ha
        obtain ⟨o', e⟩ := s.there a ha
        rw [a1, h] at e; cases e
  · obtain ⟨o', e⟩ := s.there a ha
    exact ⟨o', by rw [upd_ne (ne_of_none e h)]; exact e⟩
theorem Hs.at_new (s : Hs g cs as H) : (as.push p).l[cs.length]? = some p := by
  show (as.l ++ [p])[cs.length]? = some p
  rw [← s.len, List.getElem?_append_right (Nat.le_refl _), Nat.sub_self] <;> rfl

/-! ### a cell written -/
variable {n : Nat} {c0 : Cell}
theorem get_set {α : Type} {l : List α} {n i : Nat} {x y : α} (h : (l.set n x)[i]? = some y) : (i = n ∧ y = x ∧ n < l.length) ∨ (i ≠ n ∧ l[i]? = some y) := by
  by_cases e : i = n
  · subst e
    have hl := (List.getElem?_eq_some_iff.mp h).1
    rw [List.length_set] at hl
    rw [List.getElem?_set_self hl] at h
    exact .inl ⟨rfl, (Option.some.inj h).symm, hl⟩
  · rw [List.getElem?_set_ne (Ne.symm e)] at h
    exact .inr ⟨e, h⟩
theorem live_set (hc : cs[n]? = some c0) (h0 : c0 ≠ .dead) {a : Addr} (h : live (cs.set n c) as a) : live cs as a := by
  rcases h with ⟨i, d, e1, e2, e3⟩ | h
  case inr => exact .inr h
  rcases get_set e1 with ⟨rfl, rfl, _⟩ | ⟨_, e1⟩
  · exact .inl ⟨i, c0, hc, h0, e3⟩
  · exact .inl ⟨i, d, e1, e2, e3⟩
theorem exn_set (s : Hs g cs as H) (hc : cs[n]? = some c0) (h0 : c0 ≠ .dead) (ha : as.l[n]? = some p) : Exn cs as H (cs.set n c) as (upd H p o) :=
  ⟨fun _ _ q => q, fun a u q => by
    obtain ⟨q1, q2⟩ := dat_some.mp q
    have ne : a ≠ p := fun e => q1 (e ▸ .inl ⟨n, c0, hc, h0, ha⟩)
    exact dat_some.mpr ⟨fun l => q1 (live_set hc h0 l), by rw [upd_ne ne]; exact q2⟩, rfl, fun a h => by
    have ne : a ≠ p := fun e => s.apart n c0 p hc h0 ha (by rw [← e]; exact h)
    rw [upd_ne ne]⟩
theorem Hs.set (s : Hs g cs as H) (hc : cs[n]? = some c0) (h0 : c0 ≠ .dead) (ha : as.l[n]? = some p) (hk : CellOk g (cs.set n c) as (upd H p o) p c) : Hs g (cs.set n c) as (upd H p o) := by
  refine ⟨by rw [List.length_set]; exact s.len, fun i j a c1 c2 e1 n1 e2 n2 a1 a2 => ?_, fun i c1 a e1 e2 => ?_, fun i c1 a e1 n1 a1 => ?_, fun a h => ?_⟩
  · have key : ∀ {i : Nat} {c1 : Cell}, (cs.set n c)[i]? = some c1 → c1 ≠ .dead → ∃ c2, cs[i]? = some c2 ∧ c2 ≠ .dead := fun {i c1} e1 n1 => by
      rcases get_set e1 with ⟨rfl, rfl, _⟩ | ⟨_, e1⟩
      · exact ⟨c0, hc, h0⟩
      · exact ⟨c1, e1, n1⟩
    obtain ⟨d1, f1, m1⟩ := key e1 n1
    obtain ⟨d2, f2, m2⟩ := key e2 n2
    exact s.inj i j a d1 d2 f1 m1 f2 m2 a1 a2
  · rcases get_set e1 with ⟨rfl, rfl, _⟩ | ⟨ne, e1⟩
    · rw [ha] at e2
      obtain rfl := Option.some.inj e2
      exact hk
    · by_cases hd : c1 = .dead
      · subst hd; trivial
      · refine (s.cells i c1 a e1 e2).exn (exn_set s hc h0 ha) fun u q => ?_
        have na : a ≠ p := fun e => ne (s.inj i n a c1 c0 e1 hd hc h0 e2 (e ▸ ha))
        rw [upd_ne na]; exact q
  · rcases get_set e1 with ⟨rfl, rfl, _⟩ | ⟨_, e1⟩
    · exact s.apart i c0 a hc h0 a1
    · exact s.apart i c1 a e1 n1 a1
  · obtain ⟨o', e⟩ := s.there a h
    have ne : a ≠ p := fun e => s.apart n c0 p hc h0 ha (by rw [← e]; exact h)
    exact ⟨o', by rw [upd_ne ne]; exact e⟩
/-- a cell given up: what it held is plain data from now on -/
theorem exn_dead (hc : cs[n]? = some c0) (h0 : c0 ≠ .dead) : Exn cs as H (cs.set n .dead) as H :=
  ⟨fun _ _ q => q, fun a u q => by
    obtain ⟨q1, q2⟩ := dat_some.mp q
    exact dat_some.mpr ⟨fun l => q1 (live_set hc h0 l), q2⟩, rfl, fun _ _ => rfl⟩
theorem Hs.dead (s : Hs g cs as H) (hc : cs[n]? = some c0) (h0 : c0 ≠ .dead) : Hs g (cs.set n .dead) as H := by
  refine ⟨by rw [List.length_set]; exact s.len, fun i j a c1 c2 e1 n1 e2 n2 a1 a2 => ?_, fun i c1 a e1 e2 => ?_, fun i c1 a e1 n1 a1 => ?_, s.there⟩
  · rcases get_set e1 with ⟨rfl, rfl, _⟩ | ⟨_, e1⟩
    · exact absurd rfl n1
    · rcases get_set e2 with ⟨rfl, rfl, _⟩ | ⟨_, e2⟩
      · exact absurd rfl n2
      · exact s.inj i j a c1 c2 e1 n1 e2 n2 a1 a2
  · rcases get_set e1 with ⟨rfl, rfl, _⟩ | ⟨ne, e1⟩
    · trivial
    · exact (s.cells i c1 a e1 e2).exn (exn_dead hc h0) fun _ q => q
  · rcases get_set e1 with ⟨rfl, rfl, _⟩ | ⟨_, e1⟩
    · exact absurd rfl n1
    · exact s.apart i c1 a e1 n1 a1
theorem Hs.dead_at (s : Hs g cs as H) (hc : cs[n]? = some c0) (h0 : c0 ≠ .dead) (ha : as.l[n]? = some p) (hp : H p = some o) : dat (cs.set n .dead) as H p = some o := by
  refine dat_some.mpr ⟨fun l => ?_, hp⟩
  rcases l with ⟨i, d, e1, e2, e3⟩ | l
  case inr => exact s.apart n c0 p hc h0 ha l
  rcases get_set e1 with ⟨rfl, rfl, _⟩ | ⟨ne, e1⟩
  · exact e2 rfl
  · exact ne (s.inj i n p d c0 e1 e2 hc h0 e3 ha)
/-- back to the cells that stood (what a def made is let go) -/
theorem take_get {α : Type} {l : List α} {n i : Nat} {x : α} (h : (l.take n)[i]? = some x) : i < n ∧ l[i]? = some x := by
  have hi := (List.getElem?_eq_some_iff.mp h).1
  rw [List.length_take] at hi
  rw [List.getElem?_take] at h
  have : i < n := by omega
  rw [if_pos this] at h
  exact ⟨this, h⟩
theorem take_of {α : Type} {l : List α} {n i : Nat} {x : α} (hi : i < n) (h : l[i]? = some x) : (l.take n)[i]? = some x := by
  rw [List.getElem?_take, if_pos hi]; exact h
end

/-! ### plain data among values -/
def allD : List A → Option (List PyData)
  | [] => some []
  | .d x :: r => (allD r).map (x :: ·)
  | .c _ :: _ => none
  | .s _ :: _ => none
@[simp] theorem allD_nil : allD [] = some [] := rfl
@[simp] theorem allD_d (x : PyData) (r : List A) : allD (.d x :: r) = (allD r).map (x :: ·) := rfl
@[simp] theorem allD_map (xs : List PyData) : allD (xs.map A.d) = some xs := by
  induction xs with
  | nil => rfl
  | cons x r ih => simp [ih]
theorem allD_eq : ∀ {xs : List A} {ds : List PyData}, allD xs = some ds → xs = ds.map A.d
  | [], ds, h => by cases h; rfl
  | .d x :: r, ds, h => by
    rw [allD_d] at h
    cases q : allD r with
    | none => rw [q] at h; cases h
    | some e =>
      rw [q] at h
      obtain rfl := Option.some.inj h
      rw [allD_eq q]; rfl
  | .c _ :: _, ds, h => by cases h
  | .s _ :: _, ds, h => by cases h
section
variable {g : G} {cs : CS} {as : AS} {H : Hp}
theorem RepAs.dp : ∀ {vs : List V} {ds : List PyData}, RepAs g cs as H vs (ds.map A.d) → DqAll g.K (dat cs as H) vs ds
  | _, [], h => by
    cases h
    exact .nil
  | _, d :: ds, h => by
    cases h with
    | cons h1 h2 => exact .cons h1 (RepAs.dp h2)
theorem repAs_dp : ∀ {vs : List V} {ds : List PyData}, DqAll g.K (dat cs as H) vs ds → RepAs g cs as H vs (ds.map A.d)
  | _, _, .nil => .nil
  | _, _, .cons h1 h2 => .cons h1 (repAs_dp h2)
/-- what a value is worth as plain data just now -/
def toD (cs : CS) : A → Option PyData
  | .d x => some x
  | .c n => match cs[n]? with
    | some (.lst xs) => some (.list xs)
    | _ => none
  | .s _ => none
@[simp] theorem toD_d (x : PyData) : toD cs (.d x) = some x := rfl
theorem toD_c {n : Nat} {xs : List PyData} (h : cs[n]? = some (.lst xs)) : toD cs (.c n) = some (.list xs) := by simp only [toD, h]
theorem toD_rep (s : Hs g cs as H) {v : V} {a : A} {x : PyData} (r : RepA g cs as H v a) (h : toD cs a = some x) : Dq g.K H v x := by
  cases a with
  | d y =>
    obtain rfl := Option.some.inj h
    exact Dq.le dat_le r
  | c n =>
    obtain ⟨p, e1, rfl⟩ := r
    cases e2 : cs[n]? with
    | none => simp only [toD, e2] at h; cases h
    | some c =>
      cases c with
      | lst xs =>
        simp only [toD, e2] at h
        obtain rfl := Option.some.inj h
        obtain ⟨vs, e3, rr⟩ := s.cells n _ p e2 e1
        exact .lst e3 (DqAll.le dat_le rr)
      | dead => simp only [toD, e2] at h; cases h
      | dk _ => simp only [toD, e2] at h; cases h
      | dt _ => simp only [toD, e2] at h; cases h
  | s ns => cases h
/-! ### hidden for a while; what a def made is let go -/
theorem Hs.hide (s : Hs g cs as H) {p : Addr} {o : HO} (h : H p = none) : Hs g cs ⟨as.l, p :: as.hid⟩ (upd H p o) ∧ (∀ a u, dat cs as H a = some u ↔ dat cs ⟨as.l, p :: as.hid⟩ (upd H p o) a = some u) := by
  have lv : ∀ a, a ≠ p → (live cs ⟨as.l, p :: as.hid⟩ a ↔ live cs as a) := fun a ne => by
    refine Iff.intro (fun l => ?_) (fun l => ?_)
    · rcases l with l | l
      · exact .inl l
      · rcases List.mem_cons.mp l with e | l
        · exact absurd e ne
        · exact .inr l
    · rcases l with l | l
      · exact .inl l
      · exact .inr (List.mem_cons_of_mem _ l)
  have dd : ∀ a u, dat cs as H a = some u ↔ dat cs ⟨as.l, p :: as.hid⟩ (upd H p o) a = some u := fun a u => by
    rw [dat_some, dat_some]
    by_cases e : a = p
    · subst e
      refine Iff.intro (fun z => ?_) (fun z => ?_)
      · rw [h] at z; cases z.2
      · exact absurd (.inr List.mem_cons_self) z.1
    · rw [upd_ne e, lv a e]
  refine ⟨⟨s.len, s.inj, fun i c a e1 e2 => ?_, fun i c a e1 n1 a1 => ?_, fun a ha => ?_⟩, dd⟩
  · have k := s.cells i c a e1 e2
    cases c with
    | dead => trivial
    | lst xs => obtain ⟨vs, q, r⟩ := k; exact ⟨vs, by rw [upd_ne (ne_of_none q h)]; exact q, DqAll.le (fun a o z => (dd a o).mp z) r⟩
    | dk xs => obtain ⟨vs, q, r⟩ := k; exact ⟨vs, by rw [upd_ne (ne_of_none q h)]; exact q, Paired.mono (fun _ _ z => ⟨z.1, Dq.le (fun a o y => (dd a o).mp y) z.2⟩) r⟩
    | dt xs => obtain ⟨vs, q, r⟩ := k; exact ⟨vs, by rw [upd_ne (ne_of_none q h)]; exact q, Paired.mono (fun _ _ z => ⟨z.1, Dq.le (fun a o y => (dd a o).mp y) z.2⟩) r⟩
  · intro hm
    rcases List.mem_cons.mp hm with e | hm
    · exact s.not_live h (e ▸ .inl ⟨i, c, e1, n1, a1⟩)
    · exact s.apart i c a e1 n1 a1 hm
  · rcases List.mem_cons.mp ha with rfl | ha
    · exact ⟨o, upd_same⟩
    · obtain ⟨u, e⟩ := s.there a ha
      exact ⟨u, by rw [upd_ne (ne_of_none e h)]; exact e⟩
theorem CellOk.le {cs' : CS} {as' : AS} (e : Le (dat cs as H) (dat cs' as' H)) {a : Addr} : ∀ {c : Cell}, CellOk g cs as H a c → CellOk g cs' as' H a c
  | .dead, _ => trivial
  | .lst _, ⟨vs, q, r⟩ => ⟨vs, q, DqAll.le e r⟩
  | .dk _, ⟨vs, q, r⟩ => ⟨vs, q, Paired.mono (fun _ _ z => ⟨z.1, Dq.le e z.2⟩) r⟩
  | .dt _, ⟨vs, q, r⟩ => ⟨vs, q, Paired.mono (fun _ _ z => ⟨z.1, Dq.le e z.2⟩) r⟩
theorem Hs.show {l hid : List Addr} {p : Addr} (s : Hs g cs ⟨l, p :: hid⟩ H) : Hs g cs ⟨l, hid⟩ H ∧ Le (dat cs ⟨l, p :: hid⟩ H) (dat cs ⟨l, hid⟩ H) := by
  have dd : Le (dat cs ⟨l, p :: hid⟩ H) (dat cs ⟨l, hid⟩ H) := fun a o z => by
    obtain ⟨z1, z2⟩ := dat_some.mp z
    exact dat_some.mpr ⟨fun l' => z1 (l'.imp id (fun m => List.mem_cons_of_mem _ m)), z2⟩
  exact ⟨⟨s.len, s.inj, fun i c a e1 e2 => (s.cells i c a e1 e2).le dd, fun i c a e1 n1 a1 m => s.apart i c a e1 n1 a1 (List.mem_cons_of_mem _ m), fun a ha => s.there a (List.mem_cons_of_mem _ ha)⟩, dd⟩
theorem Hs.take (s : Hs g cs as H) (n : Nat) : Hs g (cs.take n) ⟨as.l.take n, as.hid⟩ H ∧ Le (dat cs as H) (dat (cs.take n) ⟨as.l.take n, as.hid⟩ H) := by
  have dd : Le (dat cs as H) (dat (cs.take n) ⟨as.l.take n, as.hid⟩ H) := fun a o z => by
    obtain ⟨z1, z2⟩ := dat_some.mp z
    refine dat_some.mpr ⟨fun l' => z1 (l'.imp (fun ⟨i, c, e1, n1, e2⟩ => ⟨i, c, (take_get e1).2, n1, (take_get e2).2⟩) id), z2⟩
  refine ⟨⟨by rw [List.length_take, List.length_take, s.len], fun i j a c c' e1 n1 e2 n2 a1 a2 => s.inj i j a c c' (take_get e1).2 n1 (take_get e2).2 n2 (take_get a1).2 (take_get a2).2,
    fun i c a e1 e2 => (s.cells i c a (take_get e1).2 (take_get e2).2).le dd, fun i c a e1 n1 a1 => s.apart i c a (take_get e1).2 n1 (take_get a1).2, s.there⟩, dd⟩
end
end Sh
namespace Sh
open PySem L2
abbrev PostA (g : G) (W : WX) (σ : St) (cs : CS) (as : AS) (H : Hp) (Q : VK) (r : R A) : Prop := Post g W σ cs as H (fun a cs' as' H' => ∀ v, RepA g cs' as' H' v a → Q v H') r
section
variable {g : G} {W : WX} {σ : St} {cs : CS} {as : AS} {H : Hp} {Q : VK}
theorem PostA.here {a : A} (h : PostA g W σ cs as H Q (.ok a cs)) (s : Hs g cs as H) {v : V} (r : RepA g cs as H v a) : Q v H := h as H s Exn.refl v r
theorem PostA.int {i : Int} (h : PostA g W σ cs as H Q (.ok (.d (.int i)) cs)) (s : Hs g cs as H) : Q (.int i) H := h.here s (.int i)
theorem PostA.bl {b : Bool} (h : PostA g W σ cs as H Q (.ok (.d (.bool b)) cs)) (s : Hs g cs as H) : Q (.bl b) H := h.here s (.bl b)
theorem PostA.str {x : Str} (h : PostA g W σ cs as H Q (.ok (.d (.str x)) cs)) (s : Hs g cs as H) : Q (.str x) H := h.here s (.str x)
theorem PostA.non (h : PostA g W σ cs as H Q (.ok (.d .none) cs)) (s : Hs g cs as H) : Q .non H := h.here s .non
/-- a new tuple, a new list of plain data -/
theorem PostA.tup {ds : List PyData} {vs : List V} {p : Addr} (h : PostA g W σ cs as H Q (.ok (.d (.tuple ds)) cs)) (s : Hs g cs as H) (hp : H p = none) (r : DqAll g.K (dat cs as H) vs ds) : Q (.ref p) (upd H p (.tup vs)) :=
  h as _ (s.new hp) (exn_new s hp) _ (.tup (SqT.of (dat_new s hp)) (DqAll.le (exn_new s hp).dat r))
theorem PostA.lst {ds : List PyData} {vs : List V} {p : Addr} (h : PostA g W σ cs as H Q (.ok (.d (.list ds)) cs)) (s : Hs g cs as H) (hp : H p = none) (r : DqAll g.K (dat cs as H) vs ds) : Q (.ref p) (upd H p (.lst vs)) :=
  h as _ (s.new hp) (exn_new s hp) _ (.lst (dat_new s hp) (DqAll.le (exn_new s hp).dat r))
/-- a new cell that holds a list -/
theorem PostA.cell {xs : List PyData} {vs : List V} {p : Addr} (h : PostA g W σ cs as H Q (.ok (.c cs.length) (cs ++ [.lst xs]))) (s : Hs g cs as H) (hp : H p = none) (r : DqAll g.K (dat cs as H) vs xs) : Q (.ref p) (upd H p (.lst vs)) :=
  h (as.push p) _ (s.cell hp ⟨vs, upd_same, DqAll.le (exn_cell s hp).dat r⟩) (exn_cell s hp) _ ⟨p, s.at_new, rfl⟩
/-- a cell's list changed, a value told behind -/
theorem PostA.put {n : Nat} {xs ys : List PyData} {ws : List V} {p : Addr} {a : A} {v : V} (h : PostA g W σ cs as H Q (.ok a (cs.set n (.lst ys)))) (s : Hs g cs as H) (hc : cs[n]? = some (.lst xs)) (ha : as.l[n]? = some p)
    (r : DqAll g.K (dat cs as H) ws ys) (rv : RepA g cs as H v a) : Q v (upd H p (.lst ws)) :=
  have e : Exn cs as H (cs.set n (.lst ys)) as (upd H p (.lst ws)) := exn_set s hc (fun z => nomatch z) ha
  h as _ (s.set hc (fun z => nomatch z) ha ⟨ws, upd_same, DqAll.le e.dat r⟩) e v (rv.exn e)
theorem Hs.lst (s : Hs g cs as H) {n : Nat} {xs : List PyData} (hc : cs[n]? = some (.lst xs)) {p : Addr} (ha : as.l[n]? = some p) : ∃ vs, H p = some (.lst vs) ∧ DqAll g.K (dat cs as H) vs xs := s.cells n _ p hc ha
theorem RepAs.length {vs : List V} {xs : List A} (r : RepAs g cs as H vs xs) : vs.length = xs.length := Paired.length r
theorem DqAll.length {K : PySem.W.Frag} : ∀ {vs : List V} {ds : List PyData}, DqAll K H vs ds → vs.length = ds.length
  | _, _, .nil => rfl
  | _, _, .cons _ h => congrArg (· + 1) (DqAll.length h)
theorem DqAll.get {K : PySem.W.Frag} : ∀ {vs : List V} {ds : List PyData} {i : Nat} {d : PyData}, DqAll K H vs ds → ds[i]? = some d → ∃ v, vs[i]? = some v ∧ Dq K H v d
  | _, _, _, _, .nil, e => by simp at e
  | _, _, 0, _, .cons h _, e => by simp at e; subst e; exact ⟨_, rfl, h⟩
  | _, _, i + 1, _, .cons _ h, e => by
    obtain ⟨v, h1, h2⟩ := DqAll.get (i := i) h (by simpa using e)
    exact ⟨v, by simpa using h1, h2⟩
theorem DqAll.append {K : PySem.W.Frag} : ∀ {vs ws : List V} {ds es : List PyData}, DqAll K H vs ds → DqAll K H ws es → DqAll K H (vs ++ ws) (ds ++ es)
  | _, _, _, _, .nil, h => h
  | _, _, _, _, .cons a b, h => .cons a (DqAll.append b h)
theorem DqAll.take {K : PySem.W.Frag} : ∀ {vs : List V} {ds : List PyData} (n : Nat), DqAll K H vs ds → DqAll K H (vs.take n) (ds.take n)
  | _, _, 0, _ => .nil
  | _, _, _ + 1, .nil => .nil
  | _, _, n + 1, .cons a b => .cons a (DqAll.take n b)
theorem DqAll.drop {K : PySem.W.Frag} : ∀ {vs : List V} {ds : List PyData} (n : Nat), DqAll K H vs ds → DqAll K H (vs.drop n) (ds.drop n)
  | _, _, 0, h => h
  | _, _, _ + 1, .nil => .nil
  | _, _, n + 1, .cons _ b => DqAll.drop n b
theorem Paired.get {α β : Type} {F : α → β → Prop} : ∀ {xs : List α} {ys : List β} {i : Nat} {y : β}, Paired F xs ys → ys[i]? = some y → ∃ x, xs[i]? = some x ∧ F x y
  | _, _, _, _, .nil, e => by simp at e
  | _, _, 0, _, .cons h _, e => by simp at e; subst e; exact ⟨_, rfl, h⟩
  | _, _, i + 1, _, .cons _ h, e => by
    obtain ⟨v, h1, h2⟩ := Paired.get (i := i) h (by simpa using e)
    exact ⟨v, by simpa using h1, h2⟩
theorem Paired.append {α β : Type} {F : α → β → Prop} : ∀ {xs xs' : List α} {ys ys' : List β}, Paired F xs ys → Paired F xs' ys' → Paired F (xs ++ xs') (ys ++ ys')
  | _, _, _, _, .nil, h => h
  | _, _, _, _, .cons a b, h => .cons a (Paired.append b h)
theorem Paired.set {α β : Type} {F : α → β → Prop} {x : α} {y : β} (h : F x y) : ∀ {xs : List α} {ys : List β} (i : Nat), Paired F xs ys → Paired F (xs.set i x) (ys.set i y)
  | _, _, _, .nil => .nil
  | _, _, 0, .cons _ t => .cons h t
  | _, _, i + 1, .cons q t => .cons q (Paired.set h i t)
theorem Paired.take {α β : Type} {F : α → β → Prop} : ∀ {xs : List α} {ys : List β} (n : Nat), Paired F xs ys → Paired F (xs.take n) (ys.take n)
  | _, _, 0, _ => .nil
  | _, _, _ + 1, .nil => .nil
  | _, _, n + 1, .cons a b => .cons a (Paired.take n b)
theorem Paired.drop {α β : Type} {F : α → β → Prop} : ∀ {xs : List α} {ys : List β} (n : Nat), Paired F xs ys → Paired F (xs.drop n) (ys.drop n)
  | _, _, 0, h => h
  | _, _, _ + 1, .nil => .nil
  | _, _, n + 1, .cons _ b => Paired.drop n b
end

/-! ### names, constants -/
def eVar (i : Nat) : ME := fun env cs => match env[i]? with
  | some (some x) => .ok x cs
  | _ => .no
def eC (x : PyData) : ME := fun _ cs => .ok (.d x) cs
theorem den_var {g : G} {W : WX} {i : Nat} {σ : St} {H : Hp} {Q : VK} (h : den g W (eVar i) σ H Q) : tVar i σ H Q := by
  obtain ⟨env, cs, as, s, h⟩ := h
  unfold eVar at h
  split at h
  · rename_i x e
    obtain ⟨v, e1, r⟩ := s.slots i x e
    exact ⟨v, e1, PostA.here h s.hs r⟩
  · exact h.elim
section
variable {X : Cx} {g : G} {W : WX} {a b : Expr} {pos : Pos} {ma mb : ME}
theorem se_var {i : Nat} {x : Str} (h : PE X (.Name x pos) (tVar i)) : PE X (.Name x pos) (den g W (eVar i)) := pe_imp h fun _ _ _ => den_var
theorem se_int {i : Int} {j} : PE X (.Constant (.int i) j pos) (den g W (eC (.int i))) := pe_imp pe_int fun _ _ _ ⟨_, _, _, s, h⟩ => PostA.int h s.hs
theorem se_bl {i : Bool} {j} : PE X (.Constant (.bool i) j pos) (den g W (eC (.bool i))) := pe_imp pe_bl fun _ _ _ ⟨_, _, _, s, h⟩ => PostA.bl h s.hs
theorem se_non {j} : PE X (.Constant .none j pos) (den g W (eC .none)) := pe_imp pe_non fun _ _ _ ⟨_, _, _, s, h⟩ => PostA.non h s.hs
theorem se_str {x : Str} {j} : PE X (.Constant (.str x) j pos) (den g W (eC (.str x))) := pe_imp pe_str fun _ _ _ ⟨_, _, _, s, h⟩ => PostA.str h s.hs
/-- a module's constant -/
theorem se_glob {x : Str} {v : V} {u : Value} {d : PyData} (hg : Gl X x) (hm : X.mg x = some u) (r : RelV v u) (hd : ∀ H, Dq g.K H v d) (hdb : (x == ("__debug__" : Str)) = false := by decide) : PE X (.Name x pos) (den g W (eC d)) :=
  pe_imp (pe_glob hg hm r hdb) fun _ _ _ ⟨_, _, _, s, h⟩ => PostA.here h s.hs (hd _)

/-! ### operators -/
def OpS (g : G) (r : R2) (f : A → A → CS → R A) : Prop := ∀ {W : WX} {σ : St} {cs : CS} {as : AS} {H : Hp} {x y : V} {a b : A} {Q : VK}, Hs g cs as H → RepA g cs as H x a → RepA g cs as H y b → PostA g W σ cs as H Q (f a b cs) → r x y H Q
def UnS (g : G) (r : V → Hp → VK → Prop) (f : A → CS → R A) : Prop := ∀ {W : WX} {σ : St} {cs : CS} {as : AS} {H : Hp} {x : V} {a : A} {Q : VK}, Hs g cs as H → RepA g cs as H x a → PostA g W σ cs as H Q (f a cs) → r x H Q
def eBin (f : A → A → CS → R A) (ma mb : ME) : ME := fun env cs => (ma env cs).bind fun x cs1 => (mb env cs1).bind fun y cs2 => f x y cs2
def eUn (f : A → CS → R A) (ma : ME) : ME := fun env cs => (ma env cs).bind fun x cs1 => f x cs1
theorem den_op {r : R2} {f : A → A → CS → R A} (hr : OpS g r f) {σ : St} {H : Hp} {Q : VK} (h : den g W (eBin f ma mb) σ H Q) : tOp r (den g W ma) (den g W mb) σ H Q := by
  obtain ⟨env, cs, as, s, h⟩ := h
  refine ⟨env, cs, as, s, (Post.bind h).mono fun a cs1 as1 H1 hs1 e1 h1 v rv => ?_⟩
  exact ⟨env, cs1, as1, s.exn hs1 e1, (Post.bind h1).mono fun b cs2 as2 H2 hs2 e2 h2 w rw' => hr hs2 (rv.exn e2) rw' h2⟩
theorem den_un {r : V → Hp → VK → Prop} {f : A → CS → R A} (hr : UnS g r f) {σ : St} {H : Hp} {Q : VK} (h : den g W (eUn f ma) σ H Q) : tUn r (den g W ma) σ H Q := by
  obtain ⟨env, cs, as, s, h⟩ := h
  exact ⟨env, cs, as, s, (Post.bind h).mono fun a cs1 as1 H1 hs1 e1 h1 v rv => hr hs1 rv h1⟩
theorem se_op {op : Operator} {r : R2} {f : A → A → CS → R A} (ho : OpR X (binaryOp op) r) (hr : OpS g r f) (ha : PE X a (den g W ma)) (hb : PE X b (den g W mb)) : PE X (.BinOp a op b pos) (den g W (eBin f ma mb)) :=
  pe_imp (pe_op ho ha hb) fun _ _ _ => den_op hr
theorem se_un {op : UnaryOp} {r : V → Hp → VK → Prop} {f : A → CS → R A} (ho : UnR X (unaryOp op) r) (hr : UnS g r f) (ha : PE X a (den g W ma)) : PE X (.UnaryOp op a pos) (den g W (eUn f ma)) :=
  pe_imp (pe_un ho ha) fun _ _ _ => den_un hr
/-- a comparison as a value -/
theorem se_cmp {op : CmpOp} {r : R2} {f : A → A → CS → R A} (ho : OpR X (compareOp op) r) (hr : OpS g r f) (ha : PE X a (den g W ma)) (hb : PE X b (den g W mb)) (hm : behindInMarks op b = false := by rfl) : PE X (.Compare a [op] [b] pos) (den g W (eBin f ma mb)) :=
  pe_imp (pe_cmpR ho ha hb hm) fun _ _ _ => den_op hr
/-- what is a bool, as a test -/
def asB : R A → R Bool
  | .ok (.d (.bool b)) cs => .ok b cs
  | .ex e cs => .ex e cs
  | _ => .no
@[simp] theorem asB_ok (b : Bool) (cs : CS) : asB (.ok (.d (.bool b)) cs) = .ok b cs := rfl
@[simp] theorem asB_ex (e : Ex) (cs : CS) : asB (.ex e cs) = .ex e cs := rfl
def tOf (m : ME) : MT := fun env cs => asB (m env cs)
theorem post_asB {σ : St} {cs : CS} {as : AS} {H : Hp} {Q : Bool → Hp → Prop} {r : R A} (h : Post g W σ cs as H (fun b _ _ H' => Q b H') (asB r)) : PostA g W σ cs as H (fun v H' => ∃ k, v = .bl k ∧ Q k H') r := by
  cases r with
  | ok a cs' =>
    cases a with
    | d x =>
      cases x with
      | bool b =>
        intro as' H' hs e v r
        have r' : Dq g.K (dat cs' as' H') v (.bool b) := r
        cases r'
        exact ⟨b, rfl, h as' H' hs e⟩
      | none => exact h.elim
      | int _ => exact h.elim
      | str _ => exact h.elim
      | list _ => exact h.elim
      | tuple _ => exact h.elim
      | dict _ => exact h.elim
    | c n => exact h.elim
    | s n => exact h.elim
  | ex e cs' => exact h
  | no => exact h
theorem den_test {σ : St} {H : Hp} {Q : Bool → Hp → Prop} (h : denT g W (tOf ma) σ H Q) : den g W ma σ H (fun v H' => ∃ k, v = .bl k ∧ Q k H') := by
  obtain ⟨env, cs, as, s, h⟩ := h
  exact ⟨env, cs, as, s, post_asB h⟩
theorem st_cmp {op : CmpOp} {r : R2} {f : A → A → CS → R A} (ho : OpR X (compareOp op) r) (hr : OpS g r f) (ha : PE X a (den g W ma)) (hb : PE X b (den g W mb)) (hm : behindInMarks op b = false := by rfl) : PT X (.Compare a [op] [b] pos) (denT g W (tOf (eBin f ma mb))) :=
  pt_imp (pt_cmpR ho ha hb hm) fun _ _ _ h => den_op hr (den_test h)
/-- a call (of a bool) as a test -/
theorem st_val {e : Expr} (h : PE X e (den g W ma)) (he : ∀ whole, isTrue e X.env whole = (do let v ← whole; standAt e.pos; holding [v] (truthy v)) := by intro _; rfl) : PT X e (denT g W (tOf ma)) :=
  pt_imp (pt_val h he) fun _ _ _ h => den_test h
/-- truth of any value -/
def truD (cs : CS) : A → Option Bool
  | .d .none => some false
  | .d (.bool b) => some b
  | .d (.int i) => some (i != 0)
  | .d (.str x) => if x.length ≤ sizeLine then some ((x.length : Int) != 0) else none
  | .d (.list xs) => some (!xs.isEmpty)
  | .d (.tuple xs) => some (!xs.isEmpty)
  | .d (.dict _) => none
  | .c n => match cs[n]? with
    | some (.lst xs) => some (!xs.isEmpty)
    | some (.dk kvs) => some (!kvs.isEmpty)
    | _ => none
  | .s ns => some (!ns.isEmpty)
def tTr (m : ME) : MT := fun env cs => (m env cs).bind fun a cs1 => match truD cs1 a with
  | some b => .ok b cs1
  | none => .no
theorem isEmpty_len {α β : Type} {xs : List α} {ys : List β} (h : xs.length = ys.length) : xs.isEmpty = ys.isEmpty := by
  cases xs <;> cases ys <;> first | rfl | cases h
theorem truD_rep {cs : CS} {as : AS} {H : Hp} (s : Hs g cs as H) {v : V} {a : A} {b : Bool} (r : RepA g cs as H v a) (h : truD cs a = some b) : TruV g.K v H b := by
  cases a with
  | d x =>
    have r' : Dq g.K (dat cs as H) v x := r
    cases r' with
    | non => exact (Option.some.inj h).symm
    | bl b => exact (Option.some.inj h).symm
    | int i => exact (Option.some.inj h).symm
    | str x =>
      simp only [truD] at h
      split at h
      · rename_i hl; exact ⟨hl, (Option.some.inj h).symm⟩
      · cases h
    | lst h1 h2 =>
      have e : some (!(_ : List PyData).isEmpty) = some b := h
      exact .inl ⟨_, SqL.of (dat_le _ _ h1), by rw [isEmpty_len (DqAll.length h2)]; exact (Option.some.inj e).symm⟩
    | tup h1 h2 =>
      have e : some (!(_ : List PyData).isEmpty) = some b := h
      exact .inr (.inl ⟨_, Le.sqT dat_le h1, by rw [isEmpty_len (DqAll.length h2)]; exact (Option.some.inj e).symm⟩)
  | c n =>
    obtain ⟨p, e1, rfl⟩ := r
    cases e2 : cs[n]? with
    | none => simp only [truD, e2] at h; cases h
    | some c =>
      cases c with
      | lst xs =>
        simp only [truD, e2] at h
        obtain ⟨vs, e3, rr⟩ := s.cells n _ p e2 e1
        exact .inl ⟨vs, SqL.of e3, by rw [isEmpty_len (DqAll.length rr)]; exact (Option.some.inj h).symm⟩
      | dk kvs =>
        simp only [truD, e2] at h
        obtain ⟨vs, e3, rr⟩ := s.cells n _ p e2 e1
        exact .inr (.inr ⟨vs, e3, by rw [isEmpty_len (Paired.length rr)]; exact (Option.some.inj h).symm⟩)
      | dead => simp only [truD, e2] at h; cases h
      | dt _ => simp only [truD, e2] at h; cases h
  | s ns =>
    obtain ⟨p, rfl, h1⟩ := r
    have e : some (!ns.isEmpty) = some b := h
    exact .inl ⟨_, Le.sqL dat_le h1, by rw [isEmpty_len (List.length_map V.int)]; exact (Option.some.inj e).symm⟩
theorem st_tr (hK : X.K = g.K) (ha : PE X a (den g W ma)) (he : ∀ whole, isTrue a X.env whole = (do let v ← whole; standAt a.pos; holding [v] (truthy v)) := by intro _; rfl) : PT X a (denT g W (tTr ma)) :=
  pt_imp (pt_truth ha he) fun σ H Q ⟨env, cs, as, s, h⟩ => ⟨env, cs, as, s, (Post.bind h).mono fun x cs1 as1 H1 hs1 e1 h1 v rv => by
    cases q : truD cs1 x with
    | none => simp only [q] at h1; exact h1.elim
    | some b =>
      simp only [q] at h1
      exact ⟨b, by rw [hK]; exact truD_rep hs1 rv q, h1 as1 H1 hs1 Exn.refl⟩⟩

/-! ### and, or, not -/
variable {tA tB' : MT} {rest : List Expr}
def tAndM (t u : MT) : MT := fun env cs => (t env cs).bind fun b cs1 => if b = true then u env cs1 else .ok false cs1
def tOrM (t u : MT) : MT := fun env cs => (t env cs).bind fun b cs1 => if b = true then .ok true cs1 else u env cs1
def tNotM (t : MT) : MT := fun env cs => (t env cs).bind fun b cs1 => .ok (!b) cs1
theorem sw_and1 (ha : PT X a (denT g W tA)) : PW X (.BoolOp .And [a] pos) (denT g W tA) := pw_and1 ha
theorem sw_or1 (ha : PT X a (denT g W tA)) : PW X (.BoolOp .Or [a] pos) (denT g W tA) := pw_or1 ha
theorem den_and {σ : St} {H : Hp} {Q : Bool → Hp → Prop} (h : denT g W (tAndM tA tB') σ H Q) : tAnd (denT g W tA) (denT g W tB') σ H Q := by
  obtain ⟨env, cs, as, s, h⟩ := h
  refine ⟨env, cs, as, s, (Post.bind h).mono fun b cs1 as1 H1 hs1 e1 h1 => ?_⟩
  cases b with
  | true => exact ⟨env, cs1, as1, s.exn hs1 e1, h1⟩
  | false => exact h1 as1 H1 hs1 Exn.refl
theorem den_or {σ : St} {H : Hp} {Q : Bool → Hp → Prop} (h : denT g W (tOrM tA tB') σ H Q) : tOr (denT g W tA) (denT g W tB') σ H Q := by
  obtain ⟨env, cs, as, s, h⟩ := h
  refine ⟨env, cs, as, s, (Post.bind h).mono fun b cs1 as1 H1 hs1 e1 h1 => ?_⟩
  cases b with
  | false => exact ⟨env, cs1, as1, s.exn hs1 e1, h1⟩
  | true => exact h1 as1 H1 hs1 Exn.refl
theorem sw_and (ha : PT X a (denT g W tA)) (hb : PW X (.BoolOp .And (b :: rest) pos) (denT g W tB')) : PW X (.BoolOp .And (a :: b :: rest) pos) (denT g W (tAndM tA tB')) := pw_imp (pw_and ha hb) fun _ _ _ => den_and
theorem sw_or (ha : PT X a (denT g W tA)) (hb : PW X (.BoolOp .Or (b :: rest) pos) (denT g W tB')) : PW X (.BoolOp .Or (a :: b :: rest) pos) (denT g W (tOrM tA tB')) := pw_imp (pw_or ha hb) fun _ _ _ => den_or
theorem st_bool {e : Expr} (h : PW X e (denT g W tA)) : PT X e (denT g W tA) := h.pt
theorem st_not (ha : PT X a (denT g W tA)) : PT X (.UnaryOp .Not a pos) (denT g W (tNotM tA)) := pt_imp (pt_not ha) fun _ _ _ ⟨env, cs, as, s, h⟩ =>
  ⟨env, cs, as, s, (Post.bind h).mono fun b cs1 as1 H1 hs1 e1 h1 => h1 as1 H1 hs1 Exn.refl⟩
/-- .. as values, of bools -/
def ofB : R Bool → R A
  | .ok b cs => .ok (.d (.bool b)) cs
  | .ex e cs => .ex e cs
  | .no => .no
@[simp] theorem ofB_ok (b : Bool) (cs : CS) : ofB (.ok b cs) = .ok (.d (.bool b)) cs := rfl
def eOf (t : MT) : ME := fun env cs => ofB (t env cs)
def eAnd (ma mb : ME) : ME := fun env cs => (asB (ma env cs)).bind fun b cs1 => if b = true then mb env cs1 else .ok (.d (.bool false)) cs1
def eOr (ma mb : ME) : ME := fun env cs => (asB (ma env cs)).bind fun b cs1 => if b = true then .ok (.d (.bool true)) cs1 else mb env cs1
def eNot (ma : ME) : ME := fun env cs => (asB (ma env cs)).bind fun b cs1 => .ok (.d (.bool (!b))) cs1
theorem post_asBk {σ : St} {cs : CS} {as : AS} {H : Hp} {r : R A} {k : Bool → CS → R A} {Q : VK} (h : PostA g W σ cs as H Q ((asB r).bind k)) :
    Post g W σ cs as H (fun a cs1 as1 H1 => ∀ v, RepA g cs1 as1 H1 v a → ∃ c, v = .bl c ∧ PostA g W σ cs1 as1 H1 Q (k c cs1)) r := by
  cases r with
  | ok a cs' =>
    cases a with
    | d x =>
      cases x with
      | bool b =>
        intro as' H' hs e v r
        have r' : Dq g.K (dat cs' as' H') v (.bool b) := r
        cases r'
        exact ⟨b, rfl, Post.shift h e⟩
      | none => exact h.elim
      | int _ => exact h.elim
      | str _ => exact h.elim
      | list _ => exact h.elim
      | tuple _ => exact h.elim
      | dict _ => exact h.elim
    | c n => exact h.elim
    | s n => exact h.elim
  | ex e cs' => exact h
  | no => exact h
theorem se_one {op} (h : PE X a (den g W ma)) : PE X (.BoolOp op [a] pos) (den g W ma) := pe_one h
theorem se_and (ha : PE X a (den g W ma)) (hb : PE X (.BoolOp .And (b :: rest) pos) (den g W mb)) : PE X (.BoolOp .And (a :: b :: rest) pos) (den g W (eAnd ma mb)) :=
  pe_imp (pe_and ha hb) fun σ H Q ⟨env, cs, as, s, h⟩ => ⟨env, cs, as, s, (post_asBk h).mono fun x cs1 as1 H1 hs1 e1 h1 v rv => by
    obtain ⟨c, rfl, h2⟩ := h1 v rv
    refine ⟨c, rfl, ?_⟩
    cases c with
    | true => exact ⟨env, cs1, as1, s.exn hs1 e1, h2⟩
    | false => exact PostA.bl h2 hs1⟩
theorem se_or (ha : PE X a (den g W ma)) (hb : PE X (.BoolOp .Or (b :: rest) pos) (den g W mb)) : PE X (.BoolOp .Or (a :: b :: rest) pos) (den g W (eOr ma mb)) :=
  pe_imp (pe_or ha hb) fun σ H Q ⟨env, cs, as, s, h⟩ => ⟨env, cs, as, s, (post_asBk h).mono fun x cs1 as1 H1 hs1 e1 h1 v rv => by
    obtain ⟨c, rfl, h2⟩ := h1 v rv
    refine ⟨c, rfl, ?_⟩
    cases c with
    | false => exact ⟨env, cs1, as1, s.exn hs1 e1, h2⟩
    | true => exact PostA.bl h2 hs1⟩
theorem se_not (ha : PE X a (den g W ma)) : PE X (.UnaryOp .Not a pos) (den g W (eNot ma)) :=
  pe_imp (pe_not ha) fun σ H Q ⟨env, cs, as, s, h⟩ => ⟨env, cs, as, s, (post_asBk h).mono fun x cs1 as1 H1 hs1 e1 h1 v rv => by
    obtain ⟨c, rfl, h2⟩ := h1 v rv
    exact ⟨c, rfl, PostA.bl h2 hs1⟩⟩
/-- a if t else b -/
def eIf (t : MT) (ma mb : ME) : ME := fun env cs => (t env cs).bind fun c cs1 => if c = true then ma env cs1 else mb env cs1
theorem se_if {c : Expr} (hc : PT X c (denT g W tA)) (ha : PE X a (den g W ma)) (hb : PE X b (den g W mb)) : PE X (.IfExp c a b pos) (den g W (eIf tA ma mb)) :=
  pe_imp (pe_ifExp hc ha hb) fun σ H Q ⟨env, cs, as, s, h⟩ => ⟨env, cs, as, s, (Post.bind h).mono fun c cs1 as1 H1 hs1 e1 h1 => by
    cases c with
    | true => exact ⟨env, cs1, as1, s.exn hs1 e1, h1⟩
    | false => exact ⟨env, cs1, as1, s.exn hs1 e1, h1⟩⟩

/-! ### lists of arguments; displays -/
variable {es : List Expr} {mr : MA}
def aNil : MA := fun _ cs => .ok [] cs
def aCons (m : ME) (mr : MA) : MA := fun env cs => (m env cs).bind fun x cs1 => (mr env cs1).bind fun xs cs2 => .ok (x :: xs) cs2
theorem sa_nil : PA X [] (denA g W aNil) := pa_imp pa_nil fun σ H Q ⟨env, cs, as, s, h⟩ => h as H s.hs Exn.refl [] .nil
theorem sa_cons {e : Expr} (he : PE X e (den g W ma)) (hr : PA X es (denA g W mr)) (hs : starEach (e :: es) X.env = (false, eval e X.env) :: starEach es X.env := by rfl) : PA X (e :: es) (denA g W (aCons ma mr)) :=
  pa_imp (pa_cons he hr hs) fun σ H Q ⟨env, cs, as, s, h⟩ => ⟨env, cs, as, s, (Post.bind h).mono fun x cs1 as1 H1 hs1 e1 h1 v rv =>
    ⟨env, cs1, as1, s.exn hs1 e1, (Post.bind h1).mono fun xs cs2 as2 H2 hs2 e2 h2 vs rvs => h2 as2 H2 hs2 Exn.refl (v :: vs) (.cons (rv.exn e2) rvs)⟩⟩
/-- (a, b, ..) of plain data -/
def eTup (m : MA) : ME := fun env cs => (m env cs).bind fun xs cs1 => match allD xs with
  | some ds => if ds.length ≤ sizeLine then .ok (.d (.tuple ds)) cs1 else .no
  | none => .no
/-- [a, b, ..] as plain data; as a new cell -/
def eLst (m : MA) : ME := fun env cs => (m env cs).bind fun xs cs1 => match allD xs with
  | some ds => if ds.length ≤ sizeLine then .ok (.d (.list ds)) cs1 else .no
  | none => .no
def eLstC (m : MA) : ME := fun env cs => (m env cs).bind fun xs cs1 => match allD xs with
  | some ds => if ds.length ≤ sizeLine then .ok (.c cs1.length) (cs1 ++ [.lst ds]) else .no
  | none => .no
theorem se_tup {x1} (h : PA X es (denA g W mr)) : PE X (.Tuple es x1 pos) (den g W (eTup mr)) :=
  pe_imp (pe_tup h) fun σ H Q ⟨env, cs, as, s, h⟩ => ⟨env, cs, as, s, (Post.bind h).mono fun xs cs1 as1 H1 hs1 e1 h1 vs rv => by
    cases q : allD xs with
    | none => simp only [q] at h1; exact h1.elim
    | some ds =>
      simp only [q] at h1
      rw [allD_eq q] at rv
      split at h1
      · rename_i hl
        exact ⟨by rw [rv.length, List.length_map]; exact hl, fun p hp => PostA.tup h1 hs1 hp rv.dp⟩
      · exact h1.elim⟩
theorem se_lst (h : PA X es (denA g W mr)) : PE X (.List es pos) (den g W (eLst mr)) :=
  pe_imp (pe_lst h) fun σ H Q ⟨env, cs, as, s, h⟩ => ⟨env, cs, as, s, (Post.bind h).mono fun xs cs1 as1 H1 hs1 e1 h1 vs rv => by
    cases q : allD xs with
    | none => simp only [q] at h1; exact h1.elim
    | some ds =>
      simp only [q] at h1
      rw [allD_eq q] at rv
      split at h1
      · rename_i hl
        exact ⟨by rw [rv.length, List.length_map]; exact hl, fun p hp => PostA.lst h1 hs1 hp rv.dp⟩
      · exact h1.elim⟩
theorem se_lstC (h : PA X es (denA g W mr)) : PE X (.List es pos) (den g W (eLstC mr)) :=
  pe_imp (pe_lst h) fun σ H Q ⟨env, cs, as, s, h⟩ => ⟨env, cs, as, s, (Post.bind h).mono fun xs cs1 as1 H1 hs1 e1 h1 vs rv => by
    cases q : allD xs with
    | none => simp only [q] at h1; exact h1.elim
    | some ds =>
      simp only [q] at h1
      rw [allD_eq q] at rv
      split at h1
      · rename_i hl
        exact ⟨by rw [rv.length, List.length_map]; exact hl, fun p hp => PostA.cell h1 hs1 hp rv.dp⟩
      · exact h1.elim⟩
/-! ### a cell given up: its list is plain data from now on -/
def freeze (cs : CS) : A → R A
  | .d x => .ok (.d x) cs
  | .c n => match cs[n]? with
    | some (.lst xs) => .ok (.d (.list xs)) (cs.set n .dead)
    | _ => .no
  | .s _ => .no
def eFrz (m : ME) : ME := fun env cs => (m env cs).bind fun a cs1 => freeze cs1 a
theorem post_freeze {σ : St} {cs : CS} {as : AS} {H : Hp} {a : A} {v : V} {Q : VK} (s : Hs g cs as H) (r : RepA g cs as H v a) (h : PostA g W σ cs as H Q (freeze cs a)) : Q v H := by
  cases a with
  | d x => exact PostA.here h s r
  | c n =>
    obtain ⟨p, e1, rfl⟩ := r
    cases e2 : cs[n]? with
    | none => simp only [freeze, e2] at h; exact h.elim
    | some c =>
      cases c with
      | lst xs =>
        simp only [freeze, e2] at h
        obtain ⟨vs, e3, rr⟩ := s.cells n _ p e2 e1
        have ed : Exn cs as H (cs.set n .dead) as H := exn_dead e2 (fun z => nomatch z)
        exact h as H (s.dead e2 fun z => nomatch z) ed _ (.lst ((s.dead_at e2 (fun z => nomatch z) e1 e3)) (DqAll.le ed.dat rr))
      | dead => simp only [freeze, e2] at h; exact h.elim
      | dk _ => simp only [freeze, e2] at h; exact h.elim
      | dt _ => simp only [freeze, e2] at h; exact h.elim
  | s ns => exact h.elim
theorem se_frz {e : Expr} (he : PE X e (den g W ma)) : PE X e (den g W (eFrz ma)) :=
  pe_imp he fun σ H Q ⟨env, cs, as, s, h⟩ => ⟨env, cs, as, s, (Post.bind h).mono fun a cs1 as1 H1 hs1 e1 h1 v rv => post_freeze hs1 rv h1⟩
end
end Sh
namespace Sh
open PySem L2
section
variable {g : G} {cs : CS} {as : AS} {H : Hp} {W : WX} {σ : St} {Q : VK}
/-- what a value is, if it is represented -/
theorem rep_int {v : V} {i : Int} (r : RepA g cs as H v (.d (.int i))) : v = .int i := by
  have r' : Dq g.K (dat cs as H) v (.int i) := r
  cases r'; rfl
theorem rep_bl {v : V} {i : Bool} (r : RepA g cs as H v (.d (.bool i))) : v = .bl i := by
  have r' : Dq g.K (dat cs as H) v (.bool i) := r
  cases r'; rfl
theorem rep_str {v : V} {i : Str} (r : RepA g cs as H v (.d (.str i))) : v = .str i := by
  have r' : Dq g.K (dat cs as H) v (.str i) := r
  cases r'; rfl
theorem rep_non {v : V} (r : RepA g cs as H v (.d .none)) : v = .non := by
  have r' : Dq g.K (dat cs as H) v .none := r
  cases r'; rfl
theorem rep_tup {v : V} {ds : List PyData} (r : RepA g cs as H v (.d (.tuple ds))) : ∃ a vs, v = .ref a ∧ SqT g.K H a vs ∧ DqAll g.K (dat cs as H) vs ds := by
  have r' : Dq g.K (dat cs as H) v (.tuple ds) := r
  cases r' with
  | tup h1 h2 => exact ⟨_, _, rfl, Le.sqT dat_le h1, h2⟩
theorem rep_lst {v : V} {ds : List PyData} (r : RepA g cs as H v (.d (.list ds))) : ∃ a vs, v = .ref a ∧ H a = some (.lst vs) ∧ DqAll g.K (dat cs as H) vs ds := by
  have r' : Dq g.K (dat cs as H) v (.list ds) := r
  cases r' with
  | lst h1 h2 => exact ⟨_, _, rfl, dat_le _ _ h1, h2⟩
/-- a list just now, plain or a cell's -/
def toL (cs : CS) : A → Option (List PyData)
  | .d (.list xs) => some xs
  | .c n => match cs[n]? with
    | some (.lst xs) => some xs
    | _ => none
  | _ => none
@[simp] theorem toL_list {xs : List PyData} : toL cs (.d (.list xs)) = some xs := rfl
theorem toL_c {n : Nat} {xs : List PyData} (h : cs[n]? = some (.lst xs)) : toL cs (.c n) = some xs := by simp only [toL, h]
theorem toL_rep (s : Hs g cs as H) {v : V} {a : A} {xs : List PyData} (r : RepA g cs as H v a) (h : toL cs a = some xs) : ∃ p vs, v = .ref p ∧ H p = some (.lst vs) ∧ DqAll g.K (dat cs as H) vs xs := by
  cases a with
  | d x =>
    cases x with
    | list ds =>
      obtain rfl := Option.some.inj h
      exact rep_lst r
    | none => cases h
    | bool _ => cases h
    | int _ => cases h
    | str _ => cases h
    | tuple _ => cases h
    | dict _ => cases h
  | c n =>
    obtain ⟨p, e1, rfl⟩ := r
    cases e2 : cs[n]? with
    | none => simp only [toL, e2] at h; cases h
    | some c =>
      cases c with
      | lst ys =>
        simp only [toL, e2] at h
        obtain rfl := Option.some.inj h
        obtain ⟨vs, e3, rr⟩ := s.cells n _ p e2 e1
        exact ⟨p, vs, rfl, e3, rr⟩
      | dead => simp only [toL, e2] at h; cases h
      | dk _ => simp only [toL, e2] at h; cases h
      | dt _ => simp only [toL, e2] at h; cases h
  | s ns => cases h
end

/-! ### ints -/
def fAdd : A → A → CS → R A
  | .d (.int i), .d (.int j), cs => .ok (.d (.int (i + j))) cs
  | .d (.str x), .d (.str y), cs => if x.length + y.length ≤ sizeLine then .ok (.d (.str (x ++ y))) cs else .no
  | .d (.tuple xs), .d (.tuple ys), cs => if xs.length + ys.length ≤ sizeLine then .ok (.d (.tuple (xs ++ ys))) cs else .no
  | a, b, cs => match toL cs a, toL cs b with
    | some xs, some ys => if xs.length + ys.length ≤ sizeLine then .ok (.d (.list (xs ++ ys))) cs else .no
    | _, _ => .no
def rAddA (K : PySem.W.Frag) : R2 := fun x y H Q => ((rI0 fun i j => .int (i + j)) x y H Q ∨ (∃ i j, x = .str i ∧ y = .str j ∧ i.length + j.length ≤ sizeLine ∧ Q (.str (i ++ j)) H)) ∨ (rCatA K x y H Q ∨ rCat x y H Q)
theorem op_addA {X : Cx} : OpR X (binaryOp .Add) (rAddA X.K) := (op_add.or op_add_str).or (op_catA.or op_cat)
theorem fAdd_list {g : G} {cs : CS} {as : AS} {H : Hp} {W : WX} {σ : St} {Q : VK} {x y : V} {a b : A} (s : Hs g cs as H) (ra : RepA g cs as H x a) (rb : RepA g cs as H y b)
    (h : PostA g W σ cs as H Q (match toL cs a, toL cs b with
      | some xs, some ys => if xs.length + ys.length ≤ sizeLine then .ok (.d (.list (xs ++ ys))) cs else .no
      | _, _ => .no)) : rAddA g.K x y H Q := by
  cases qa : toL cs a with
  | none => simp only [qa] at h; exact h.elim
  | some xs =>
    cases qb : toL cs b with
    | none => simp only [qa, qb] at h; exact h.elim
    | some ys =>
      simp only [qa, qb] at h
      split at h
      · rename_i hl
        obtain ⟨p1, vs, rfl, h1, r1⟩ := toL_rep s ra qa
        obtain ⟨p2, ws, rfl, h2, r2⟩ := toL_rep s rb qb
        exact .inr (.inr ⟨p1, p2, vs, ws, rfl, rfl, h1, h2, by rw [DqAll.length r1, DqAll.length r2]; exact hl, fun p hp => PostA.lst h s hp (DqAll.append r1 r2)⟩)
      · exact h.elim
theorem os_add {g : G} : OpS g (rAddA g.K) fAdd := by
  intro W σ cs as H x y a b Q s ra rb h
  unfold fAdd at h
  split at h
  · cases rep_int ra; cases rep_int rb
    exact .inl (.inl ⟨_, _, rfl, rfl, h.int s⟩)
  · cases rep_str ra; cases rep_str rb
    split at h
    · rename_i hl; exact .inl (.inr ⟨_, _, rfl, rfl, hl, h.str s⟩)
    · exact h.elim
  · rename_i xs ys cs'
    split at h
    · rename_i hl
      obtain ⟨p1, vs, rfl, h1, r1⟩ := rep_tup ra
      obtain ⟨p2, ws, rfl, h2, r2⟩ := rep_tup rb
      refine .inr (.inl ⟨p1, p2, vs, ws, rfl, rfl, h1, h2, by rw [DqAll.length r1, DqAll.length r2]; exact hl, fun e => ?_, fun e1 e2 => ?_, fun e1 e2 p hp => ?_⟩)
      · subst e
        cases r1
        exact h.here s rb
      · subst e2
        cases r2
        rw [List.append_nil] at h
        exact h.here s ra
      · exact h.tup s hp (DqAll.append r1 r2)
    · exact h.elim
  · exact fAdd_list s ra rb h
def fSub : A → A → CS → R A
  | .d (.int i), .d (.int j), cs => .ok (.d (.int (i - j))) cs
  | _, _, _ => .no
theorem os_sub {g : G} : OpS g (rI0 fun i j => .int (i - j)) fSub := by
  intro W σ cs as H x y a b Q s ra rb h
  unfold fSub at h
  split at h
  · cases rep_int ra; cases rep_int rb
    exact ⟨_, _, rfl, rfl, h.int s⟩
  · exact h.elim
/-- the sizes that the model's products and quotients ask -/
def mulOk (i j : Int) : Bool := decide ((i.natAbs < 18446744073709551616 ∨ j.natAbs < 18446744073709551616) ∨ i.natAbs.log2 + j.natAbs.log2 < 1000000)
theorem mulOk_c {i j : Int} (h : mulOk i j = true) : CMul i j ∨ CMulW i j := by
  unfold mulOk at h
  have h' := of_decide_eq_true h
  rcases h' with (h' | h') | h'
  · exact .inl (.inl (by omega))
  · exact .inl (.inr (by omega))
  · exact .inr h'
def divOk (j : Int) : Bool := decide (j.natAbs.log2 < 9000)
def fMul : A → A → CS → R A
  | .d (.int i), .d (.int j), cs => if mulOk i j = true then .ok (.d (.int (i * j))) cs else .no
  | _, _, _ => .no
theorem os_mul {g : G} : OpS g (fun x y H Q => rI CMul (fun i j => .int (i * j)) x y H Q ∨ rI CMulW (fun i j => .int (i * j)) x y H Q) fMul := by
  intro W σ cs as H x y a b Q s ra rb h
  unfold fMul at h
  split at h
  · cases rep_int ra; cases rep_int rb
    split at h
    · rename_i hm
      rcases mulOk_c hm with hm | hm
      · exact .inl ⟨_, _, rfl, rfl, hm, h.int s⟩
      · exact .inr ⟨_, _, rfl, rfl, hm, h.int s⟩
    · exact h.elim
  · exact h.elim
theorem op_mulA {X : Cx} : OpR X (binaryOp .Mult) (fun x y H Q => rI CMul (fun i j => .int (i * j)) x y H Q ∨ rI CMulW (fun i j => .int (i * j)) x y H Q) := op_mul.or op_mulW
def fDiv : A → A → CS → R A
  | .d (.int i), .d (.int j), cs => if 0 < j ∧ divOk j = true then .ok (.d (.int (i / j))) cs else if j < 0 ∧ j.natAbs < 1073741824 then .ok (.d (.int (i.fdiv j))) cs else .no
  | _, _, _ => .no
theorem os_div {g : G} : OpS g (fun x y H Q => rI CDivW (fun i j => .int (i / j)) x y H Q ∨ rI CDivN (fun i j => .int (i.fdiv j)) x y H Q) fDiv := by
  intro W σ cs as H x y a b Q s ra rb h
  unfold fDiv at h
  split at h
  · cases rep_int ra; cases rep_int rb
    split at h
    · rename_i hm; exact .inl ⟨_, _, rfl, rfl, ⟨hm.1, of_decide_eq_true hm.2⟩, h.int s⟩
    · split at h
      · rename_i hm; exact .inr ⟨_, _, rfl, rfl, ⟨Int.ne_of_lt hm.1, hm.2⟩, h.int s⟩
      · exact h.elim
  · exact h.elim
theorem op_divA {X : Cx} : OpR X (binaryOp .FloorDiv) (fun x y H Q => rI CDivW (fun i j => .int (i / j)) x y H Q ∨ rI CDivN (fun i j => .int (i.fdiv j)) x y H Q) := op_fdivW.or op_fdivN
def fMod : A → A → CS → R A
  | .d (.int i), .d (.int j), cs => if 0 < j then .ok (.d (.int (i % j))) cs else if j < 0 then .ok (.d (.int (i.fmod j))) cs else .no
  | _, _, _ => .no
theorem os_mod {g : G} : OpS g (fun x y H Q => rI (fun _ j => 0 < j) (fun i j => .int (i % j)) x y H Q ∨ rI (fun _ j => j ≠ 0) (fun i j => .int (i.fmod j)) x y H Q) fMod := by
  intro W σ cs as H x y a b Q s ra rb h
  unfold fMod at h
  split at h
  · cases rep_int ra; cases rep_int rb
    split at h
    · rename_i hm; exact .inl ⟨_, _, rfl, rfl, hm, h.int s⟩
    · split at h
      · rename_i hm; exact .inr ⟨_, _, rfl, rfl, Int.ne_of_lt hm, h.int s⟩
      · exact h.elim
  · exact h.elim
theorem op_modA {X : Cx} : OpR X (binaryOp .Mod) (fun x y H Q => rI (fun _ j => 0 < j) (fun i j => .int (i % j)) x y H Q ∨ rI (fun _ j => j ≠ 0) (fun i j => .int (i.fmod j)) x y H Q) := op_mod.or op_modN
/-- 1 << k, b ** k: a small base -/
def powOk (i j : Int) : Bool := decide (0 ≤ j ∧ j ≤ 1000000 ∧ i.natAbs < 18446744073709551616)
theorem powOk_c {i j : Int} (h : powOk i j = true) : CPow i j := by
  unfold powOk at h
  have h' := of_decide_eq_true h
  exact ⟨h'.1, h'.2.1, Nat.lt_of_lt_of_le h'.2.2 (by decide)⟩
def fShl : A → A → CS → R A
  | .d (.int i), .d (.int j), cs => if powOk i j = true then .ok (.d (.int (i * 2 ^ j.toNat))) cs else .no
  | _, _, _ => .no
def fPow : A → A → CS → R A
  | .d (.int i), .d (.int j), cs => if powOk i j = true then .ok (.d (.int (i ^ j.toNat))) cs else .no
  | _, _, _ => .no
theorem os_shl {g : G} : OpS g (rI CPow fun i j => .int (i * 2 ^ j.toNat)) fShl := by
  intro W σ cs as H x y a b Q s ra rb h
  unfold fShl at h
  split at h
  · cases rep_int ra; cases rep_int rb
    split at h
    · rename_i hm; exact ⟨_, _, rfl, rfl, powOk_c hm, h.int s⟩
    · exact h.elim
  · exact h.elim
theorem os_pow {g : G} : OpS g (rI CPow fun i j => .int (i ^ j.toNat)) fPow := by
  intro W σ cs as H x y a b Q s ra rb h
  unfold fPow at h
  split at h
  · cases rep_int ra; cases rep_int rb
    split at h
    · rename_i hm; exact ⟨_, _, rfl, rfl, powOk_c hm, h.int s⟩
    · exact h.elim
  · exact h.elim
def fCmp (p : Int → Int → Bool) : A → A → CS → R A
  | .d (.int i), .d (.int j), cs => .ok (.d (.bool (p i j))) cs
  | _, _, _ => .no
theorem os_cmp {g : G} {p : Int → Int → Bool} : OpS g (rI0 fun i j => .bl (p i j)) (fCmp p) := by
  intro W σ cs as H x y a b Q s ra rb h
  unfold fCmp at h
  split at h
  · cases rep_int ra; cases rep_int rb
    exact ⟨_, _, rfl, rfl, h.bl s⟩
  · exact h.elim
abbrev fLt : A → A → CS → R A := fCmp fun i j => decide (i < j)
abbrev fLe : A → A → CS → R A := fCmp fun i j => decide (i ≤ j)
abbrev fGt : A → A → CS → R A := fCmp fun i j => decide (j < i)
abbrev fGe : A → A → CS → R A := fCmp fun i j => decide (j ≤ i)
def fNeg : A → CS → R A
  | .d (.int i), cs => .ok (.d (.int (-i))) cs
  | _, _ => .no
theorem us_neg {g : G} : UnS g (rU fun i => .int (-i)) fNeg := by
  intro W σ cs as H x a Q s ra h
  unfold fNeg at h
  split at h
  · cases rep_int ra
    exact ⟨_, rfl, h.int s⟩
  · exact h.elim

/-! ### == and != -/
/-- scalars of one kind, and what is never alike -/
def eqS : PyData → PyData → Option Bool
  | .int i, .int j => some (decide (i = j))
  | .str x, .str y => some (decide (x = y))
  | .bool a, .bool b => some (decide (a = b))
  | .none, .none => some true
  | .none, .int _ => some false
  | .int _, .none => some false
  | .none, .bool _ => some false
  | .bool _, .none => some false
  | .none, .str _ => some false
  | .str _, .none => some false
  | .int _, .str _ => some false
  | .str _, .int _ => some false
  | .bool _, .str _ => some false
  | .str _, .bool _ => some false
  | _, _ => none
def eqvD (x y : PyData) : Option Bool := match eqS x y with
  | some b => some b
  | none => if (SeqAt.shaped x && SeqAt.shaped y) = true then some (PyData.eqv x y) else none
def fEq (a b : A) (cs : CS) : R A := match toD cs a, toD cs b with
  | some x, some y => match eqvD x y with
    | some r => .ok (.d (.bool r)) cs
    | none => .no
  | _, _ => .no
def fNe (a b : A) (cs : CS) : R A := match toD cs a, toD cs b with
  | some x, some y => match eqvD x y with
    | some r => .ok (.d (.bool (!r))) cs
    | none => .no
  | _, _ => .no
def rEqA (K : PySem.W.Frag) : R2 := fun x y H Q => rEq x y H Q ∨ rEqD K x y H Q
def rNeA (K : PySem.W.Frag) : R2 := fun x y H Q => rNe x y H Q ∨ rNeD K x y H Q
theorem op_eqA {X : Cx} (hu : X.A.units + 64 < cLine) : OpR X (compareOp .Eq) (rEqA X.K) := op_eq.or (op_eqD hu)
theorem op_neA {X : Cx} (hu : X.A.units + 64 < cLine) : OpR X (compareOp .NotEq) (rNeA X.K) := op_ne.or (op_neD hu)
theorem eqS_rep {K : PySem.W.Frag} {H : Hp} {v w : V} {x y : PyData} {r : Bool} (hx : Dq K H v x) (hy : Dq K H w y) (h : eqS x y = some r) : scal v w = true ∧ decide (v = w) = r := by
  cases hx with
  | int i =>
    cases hy with
    | int j => obtain rfl := Option.some.inj h; exact ⟨rfl, by by_cases e : i = j <;> simp [e]⟩
    | non => obtain rfl := Option.some.inj h; exact ⟨rfl, by simp⟩
    | str x => obtain rfl := Option.some.inj h; exact ⟨rfl, by simp⟩
    | bl b => cases h
    | lst _ _ => cases h
    | tup _ _ => cases h
  | str s =>
    cases hy with
    | str t => obtain rfl := Option.some.inj h; exact ⟨rfl, by by_cases e : s = t <;> simp [e]⟩
    | non => obtain rfl := Option.some.inj h; exact ⟨rfl, by simp⟩
    | int x => obtain rfl := Option.some.inj h; exact ⟨rfl, by simp⟩
    | bl b => obtain rfl := Option.some.inj h; exact ⟨rfl, by simp⟩
    | lst _ _ => cases h
    | tup _ _ => cases h
  | bl s =>
    cases hy with
    | bl t => obtain rfl := Option.some.inj h; exact ⟨rfl, by by_cases e : s = t <;> simp [e]⟩
    | non => obtain rfl := Option.some.inj h; exact ⟨rfl, by simp⟩
    | str x => obtain rfl := Option.some.inj h; exact ⟨rfl, by simp⟩
    | int x => cases h
    | lst _ _ => cases h
    | tup _ _ => cases h
  | non =>
    cases hy with
    | non => obtain rfl := Option.some.inj h; exact ⟨rfl, by simp⟩
    | int x => obtain rfl := Option.some.inj h; exact ⟨rfl, by simp⟩
    | bl x => obtain rfl := Option.some.inj h; exact ⟨rfl, by simp⟩
    | str x => obtain rfl := Option.some.inj h; exact ⟨rfl, by simp⟩
    | lst _ _ => cases h
    | tup _ _ => cases h
  | lst _ _ => cases y <;> cases h
  | tup _ _ => cases y <;> cases h
theorem os_eq {g : G} : OpS g (rEqA g.K) fEq := by
  intro W σ cs as H x y a b Q s ra rb h
  unfold fEq at h
  cases qa : toD cs a with
  | none => simp only [qa] at h; exact h.elim
  | some dx =>
    cases qb : toD cs b with
    | none => simp only [qa, qb] at h; exact h.elim
    | some dy =>
      simp only [qa, qb] at h
      have h1 := toD_rep s ra qa
      have h2 := toD_rep s rb qb
      cases q : eqS dx dy with
      | some r =>
        simp only [eqvD, q] at h
        obtain ⟨e1, e2⟩ := eqS_rep h1 h2 q
        exact .inl ⟨e1, by rw [e2]; exact h.bl s⟩
      | none =>
        simp only [eqvD, q] at h
        split at h
        · rename_i r hr
          split at hr
          · rename_i hs
            rw [Bool.and_eq_true] at hs
            obtain rfl := Option.some.inj hr
            exact .inr ⟨dx, dy, h1.dp, h2.dp, hs.1, hs.2, h.bl s⟩
          · cases hr
        · exact h.elim
theorem os_ne {g : G} : OpS g (rNeA g.K) fNe := by
  intro W σ cs as H x y a b Q s ra rb h
  unfold fNe at h
  cases qa : toD cs a with
  | none => simp only [qa] at h; exact h.elim
  | some dx =>
    cases qb : toD cs b with
    | none => simp only [qa, qb] at h; exact h.elim
    | some dy =>
      simp only [qa, qb] at h
      have h1 := toD_rep s ra qa
      have h2 := toD_rep s rb qb
      cases q : eqS dx dy with
      | some r =>
        simp only [eqvD, q] at h
        obtain ⟨e1, e2⟩ := eqS_rep h1 h2 q
        exact .inl ⟨e1, by rw [e2]; exact h.bl s⟩
      | none =>
        simp only [eqvD, q] at h
        split at h
        · rename_i r hr
          split at hr
          · rename_i hs
            rw [Bool.and_eq_true] at hs
            obtain rfl := Option.some.inj hr
            exact .inr ⟨dx, dy, h1.dp, h2.dp, hs.1, hs.2, h.bl s⟩
          · cases hr
        · exact h.elim

/-! ### in, not in: flat items of a list or tuple -/
def flatD : PyData → Bool
  | .none => true
  | .bool _ => true
  | .int _ => true
  | .str _ => true
  | _ => false
def eqF : PyData → PyData → Bool
  | .none, .none => true
  | .bool a, .bool b => a == b
  | .bool a, .int b => (if a then 1 else 0) == b
  | .int a, .bool b => a == (if b then 1 else 0)
  | .int a, .int b => a == b
  | .str a, .str b => a == b
  | _, _ => false
def inF (x : PyData) (ys : List PyData) : Bool := ys.any fun y => eqF y x
/-- the items of a list or tuple, plain -/
def toS (cs : CS) (a : A) : Option (List PyData) := match toD cs a with
  | some (.list ys) => some ys
  | some (.tuple ys) => some ys
  | _ => none
def fIn (neg : Bool) (a b : A) (cs : CS) : R A := match a, toS cs b with
  | .d x, some ys => if (flatD x && ys.all flatD) = true then .ok (.d (.bool (if neg then !inF x ys else inF x ys))) cs else .no
  | _, _ => .no
theorem flat_rep {K : PySem.W.Frag} {H : Hp} {v : V} {x : PyData} (h : Dq K H v x) (f : flatD x = true) : flatV v = true := by
  cases h <;> first | rfl | cases f
theorem eqF_rep {K : PySem.W.Frag} {H : Hp} {v w : V} {x y : PyData} (h : Dq K H v x) (k : Dq K H w y) (f : flatD x = true) (f' : flatD y = true) : eqV v w = eqF x y := by
  cases h <;> cases k <;> first | rfl | cases f | cases f'
theorem all_rep {K : PySem.W.Frag} {H : Hp} : ∀ {vs : List V} {ys : List PyData}, DqAll K H vs ys → ys.all flatD = true → vs.all flatV = true
  | _, _, .nil, _ => rfl
  | _, _, .cons a b, f => by
    rw [List.all_cons, Bool.and_eq_true] at f
    rw [List.all_cons, flat_rep a f.1, all_rep b f.2] <;> rfl
theorem inF_rep {K : PySem.W.Frag} {H : Hp} {v : V} {x : PyData} (h : Dq K H v x) (f : flatD x = true) : ∀ {vs : List V} {ys : List PyData}, DqAll K H vs ys → ys.all flatD = true → inV v vs = inF x ys
  | _, _, .nil, _ => rfl
  | _, _, .cons a b, f' => by
    rw [List.all_cons, Bool.and_eq_true] at f'
    unfold inV inF
    rw [List.any_cons, List.any_cons, eqF_rep a h f'.1 f]
    exact congrArg _ (inF_rep h f b f'.2)
theorem toS_rep {g : G} {cs : CS} {as : AS} {H : Hp} (s : Hs g cs as H) {v : V} {a : A} {ys : List PyData} (r : RepA g cs as H v a) (h : toS cs a = some ys) :
    ∃ p vs, v = .ref p ∧ (SqL g.K H p vs ∨ SqT g.K H p vs) ∧ DqAll g.K H vs ys := by
  unfold toS at h
  cases q : toD cs a with
  | none => simp only [q] at h; cases h
  | some x =>
    have k := toD_rep s r q
    cases k with
    | lst h1 h2 =>
      simp only [q] at h
      obtain rfl := Option.some.inj h
      exact ⟨_, _, rfl, .inl (SqL.of h1), h2⟩
    | tup h1 h2 =>
      simp only [q] at h
      obtain rfl := Option.some.inj h
      exact ⟨_, _, rfl, .inr h1, h2⟩
    | non => simp only [q] at h; cases h
    | bl _ => simp only [q] at h; cases h
    | int _ => simp only [q] at h; cases h
    | str _ => simp only [q] at h; cases h
theorem os_in {g : G} {neg : Bool} : OpS g (rIn g.K neg) (fIn neg) := by
  intro W σ cs as H x y a b Q s ra rb h
  unfold fIn at h
  split at h
  · rename_i dx ys q
    split at h
    · rename_i hf
      rw [Bool.and_eq_true] at hf
      have ra' : Dq g.K H x dx := Dq.le dat_le ra
      obtain ⟨p, vs, rfl, h1, h2⟩ := toS_rep s rb q
      exact ⟨p, vs, rfl, h1, flat_rep ra' hf.1, all_rep h2 hf.2, by rw [inF_rep ra' hf.1 h2 hf.2]; exact h.bl s⟩
    · exact h.elim
  · exact h.elim

/-! ### items -/
def fIx : A → A → CS → R A
  | .d (.tuple ds), .d (.int i), cs => match atI ds i with
    | some x => .ok (.d x) cs
    | none => .no
  | .d (.str z), .d (.int i), cs => if z.length ≤ sizeLine then match atI z.cps.toList i with
    | some c => .ok (.d (.str ⟨#[c]⟩)) cs
    | none => .no else .no
  | a, .d (.int i), cs => match toL cs a with
    | some xs => match atI xs i with
      | some x => .ok (.d x) cs
      | none => .no
    | none => .no
  | _, _, _ => .no
theorem atI_rep {α β : Type} {F : α → β → Prop} {xs : List α} {ys : List β} {i : Int} {y : β} (h : Paired F xs ys) (e : atI ys i = some y) : ∃ x, atI xs i = some x ∧ F x y := by
  unfold atI at e ⊢
  rw [h.length]
  cases q : ixN ys.length i with
  | none => rw [q] at e; cases e
  | some j =>
    rw [q] at e
    have e' : ys[j]? = some y := e
    obtain ⟨x, e1, f⟩ := Paired.get h e'
    exact ⟨x, e1, f⟩
theorem DqAll.paired {K : PySem.W.Frag} {H : Hp} : ∀ {vs : List V} {ds : List PyData}, DqAll K H vs ds → Paired (Dq K H) vs ds
  | _, _, .nil => .nil
  | _, _, .cons a b => .cons a (DqAll.paired b)
theorem DqAll.of {K : PySem.W.Frag} {H : Hp} : ∀ {vs : List V} {ds : List PyData}, Paired (Dq K H) vs ds → DqAll K H vs ds
  | _, _, .nil => .nil
  | _, _, .cons a b => .cons a (DqAll.of b)
theorem fIx_list {g : G} {cs : CS} {as : AS} {H : Hp} {W : WX} {σ : St} {Q : VK} {x : V} {a : A} {i : Int} (s : Hs g cs as H) (ra : RepA g cs as H x a)
    (h : PostA g W σ cs as H Q (match toL cs a with
    | some xs => match atI xs i with
      | some x => .ok (.d x) cs
      | none => .no
    | none => .no)) : rIx g.K x (.int i) H Q := by
  cases qa : toL cs a with
  | none => simp only [qa] at h; exact h.elim
  | some xs =>
    simp only [qa] at h
    cases q : atI xs i with
    | none => simp only [q] at h; exact h.elim
    | some y =>
      simp only [q] at h
      obtain ⟨p, vs, rfl, h1, r1⟩ := toL_rep s ra qa
      obtain ⟨v, e1, rv⟩ := atI_rep (DqAll.paired r1) q
      exact .inl ⟨p, vs, i, v, rfl, rfl, SqL.of h1, e1, h.here s rv⟩
theorem os_ix {g : G} : OpS g (rIx g.K) fIx := by
  intro W σ cs as H x y a b Q s ra rb h
  unfold fIx at h
  split at h
  · rename_i ds i
    cases rep_int rb
    obtain ⟨p, vs, rfl, h1, r1⟩ := rep_tup ra
    cases q : atI ds i with
    | none => simp only [q] at h; exact h.elim
    | some d =>
      simp only [q] at h
      obtain ⟨v, e1, rv⟩ := atI_rep (DqAll.paired r1) q
      exact .inr (.inl ⟨p, vs, i, v, rfl, rfl, h1, e1, h.here s rv⟩)
  · rename_i z i
    cases rep_int rb; cases rep_str ra
    split at h
    · rename_i hl
      cases q : atI z.cps.toList i with
      | none => simp only [q] at h; exact h.elim
      | some c =>
        simp only [q] at h
        exact .inr (.inr ⟨z, i, c, rfl, rfl, hl, q, h.str s⟩)
    · exact h.elim
  · cases rep_int rb
    exact fIx_list s ra h
  · exact h.elim
theorem se_ix {X : Cx} {g : G} {W : WX} {a b : Expr} {pos : Pos} {ma mb : ME} (hK : X.K = g.K) (ha : PE X a (den g W ma)) (hb : PE X b (den g W mb)) (hs : PlainIx b := by exact fun _ _ => rfl) : PE X (.Subscript a b pos) (den g W (eBin fIx ma mb)) :=
  pe_imp (pe_ix ix_seq ha hb hs) fun _ _ _ h => den_op (by rw [hK]; exact os_ix) h
end Sh
namespace Sh
open PySem L2
/-! ### a def's promise -/
abbrev EX (E : XK) : WX := fun c d _ H => E c d H
def spOf (g : G) (n : Nat) (F : Fn) : Sp := fun vs H Q E => vs.length = n ∧ ∃ cs as xs, Hs g cs as H ∧ RepAs g cs as H vs xs ∧ PostA g (EX E) [] cs as H Q (F xs cs)
theorem post_EX {g : G} {W : WX} {σ : St} {cs : CS} {as : AS} {H : Hp} {Q : VK} {r : R A} (h : PostA g W σ cs as H Q r) : PostA g (EX fun c d H' => W c d σ H') [] cs as H Q r := by
  cases r with
  | ok a cs' => exact h
  | ex e cs' => exact h
  | no => exact h
theorem post_XE {g : G} {W : WX} {σ : St} {cs : CS} {as : AS} {H : Hp} {Q : VK} {r : R A} {E : XK} (h : PostA g W σ cs as H Q r) (hW : ∀ c d H', W c d σ H' → E c d H') : PostA g (EX E) [] cs as H Q r := by
  cases r with
  | ok a cs' => exact h
  | ex e cs' => exact fun d as' H' a b c => hW _ _ _ (h d as' H' a b c)
  | no => exact h

/-! ### calls of the text's own defs -/
section
variable {X : Cx} {CX : CXT} {k n : Nat} {f : Addr} {fd : FuncData} {ps ks : List Str} {sp : Sp} {E : St → XK} {x : Str} {p pos : Pos} {e : Expr} {es : List Expr} {kws : List Keyword} {t tk : TA} {gg : List Value → List Value → List Value} {gV : List V → List V → List V}
def tCallNS (n m : Nat) (sp : Sp) (gV : List V → List V → List V) (E : St → XK) (t tk : TA) : TE := fun σ H Q => t σ H fun vs H1 => tk σ H1 fun zs H2 => vs.length = n ∧ zs.length = m ∧ sp (gV vs zs) H2 Q (E σ)
theorem run_fnNS {pins : List (Addr × Obj)} {σ : St} {H : Hp} {s : Shared} {Q : VK} {us ws : List Value} {vs zs : List V} (F : FnOk X.prog X.w X.K X.mg X.base CX k f fd ps sp) (hr : Room k X.A) (hb : KBn X.K fd ps n ks gg gV) (hx : PassesAt CX X σ (E σ))
    (I : Inv X pins σ H s) (r : Vals vs us) (rz : Vals zs ws) (l1 : vs.length = n) (l2 : zs.length = ks.length) (h : sp (gV vs zs) H Q (E σ)) : wpAny (model X.prog X.w) X.A (call (.ref f) us (ks.zip ws)) (EP X pins σ Q) X.xe s := by
  have r2 := hb.rel r rz
  refine wpAny_call (codeAny_mono (F.run X.A X.stack s H ⟨us, ks.zip ws⟩ (gg us ws) (gV vs zs) Q (E σ) hr I.env0 (hb.to s us ws I.kIn (r.length.symm.trans l1) (rz.length.symm.trans l2)) r2 h) fun r s' hq => ?_)
  cases r with
  | error e => exact hx pins H s e s' I hq
  | ok fl =>
    cases fl with
    | ret u => exact I.after hq
    | next => exact False.elim hq
    | brk => exact False.elim hq
    | cont => exact False.elim hq
theorem pe_callNS (F : FnOk X.prog X.w X.K X.mg X.base CX k f fd ps sp) (hr : Room k X.A) (hg : Gl X x) (hm : X.mg x = some (.ref f)) (hk : PySem.W.keepIn X.K (.ref f) = true) (hb : KBn X.K fd ps n ks gg gV) (hx : ∀ σ, PassesAt CX X σ (E σ))
    (ha : PA X (e :: es) t) (hkw : PK X kws tk) (hall : (backToKw pos (keywordEach kws X.env)).all (·.1.isSome) = true := by rfl) (hks : (backToKw pos (keywordEach kws X.env)).filterMap (·.1) = ks := by rfl)
    (hdb : (x == ("__debug__" : Str)) = false := by decide) (he : starEach (e :: es) X.env = (false, eval e X.env) :: starEach es X.env := by rfl)
    (hpl : ((backTo pos (starEach (e :: es) X.env)).any (·.1) || (backToKw pos (keywordEach kws X.env)).any (·.1.isNone)) = false := by rfl) :
    PE X (.Call (.Name x p) (e :: es) kws pos) (tCallNS n ks.length sp gV E t tk) := by
  refine ⟨fun pins s σ H Q I h => ?_⟩
  refine wpAny_Call_Name_kw (ld_glob I hg hm ?_ hdb)
  refine PySem.W.callWith_KW (h₀ := X.base) I.ok.mod.kin hk hall (thn (ha.run pos pins s σ H _ I h) fun us s1 ⟨vs, H1, I1, r, q⟩ => ?_) hpl he
  refine thn (hkw.run pos pins s1 σ H1 _ I1 q) fun ws s2 ⟨zs, H2, I2, rz, l1, l2, q2⟩ => ⟨I2.kIn, ?_⟩
  rw [hks]
  exact run_fnNS F hr hb (hx σ) I2 r rz l1 l2 q2
theorem pe_callNS0 (F : FnOk X.prog X.w X.K X.mg X.base CX k f fd ps sp) (hr : Room k X.A) (hg : Gl X x) (hm : X.mg x = some (.ref f)) (hk : PySem.W.keepIn X.K (.ref f) = true) (hb : KBn X.K fd ps 0 ks gg gV) (hx : ∀ σ, PassesAt CX X σ (E σ))
    (hkw : PK X kws tk) (hall : (backToKw pos (keywordEach kws X.env)).all (·.1.isSome) = true := by rfl) (hks : (backToKw pos (keywordEach kws X.env)).filterMap (·.1) = ks := by rfl)
    (hdb : (x == ("__debug__" : Str)) = false := by decide)
    (hpl : ((backTo pos (starEach [] X.env)).any (·.1) || (backToKw pos (keywordEach kws X.env)).any (·.1.isNone)) = false := by rfl) :
    PE X (.Call (.Name x p) [] kws pos) (tCallNS 0 ks.length sp gV E tNil tk) := by
  refine ⟨fun pins s σ H Q I h => ?_⟩
  refine wpAny_Call_Name_kw (ld_glob I hg hm ?_ hdb)
  refine PySem.W.callWith_KW0 (h₀ := X.base) I.ok.mod.kin hk hall (thn (hkw.run pos pins s σ H _ I h) fun ws s2 ⟨zs, H2, I2, rz, l1, l2, q2⟩ => ⟨I2.kIn, ?_⟩) hpl
  rw [hks]
  exact run_fnNS (us := []) (vs := []) F hr hb (hx σ) I2 .nil rz l1 l2 q2
end
/-- f(..): the callee's function -/
def eCall (n : Nat) (F : Fn) (ma : MA) : ME := fun env cs => (ma env cs).bind fun xs cs1 => if xs.length = n then F xs cs1 else .no
section
variable {X : Cx} {g : G} {W : WX} {k n : Nat} {f : Addr} {fd : FuncData} {ps ks : List Str} {F : Fn} {x : Str} {p pos : Pos} {e : Expr} {es : List Expr} {kws : List Keyword} {ma mk : MA}
theorem se_call (hF : FnOk X.prog X.w X.K X.mg X.base (L2.CX X.prog X.w) k f fd ps (spOf g n F)) (tk : Takes X W) (hr : Room k X.A) (hg : Gl X x) (hm : X.mg x = some (.ref f)) (hk : PySem.W.keepIn X.K (.ref f) = true) (hb : Binds X.K fd ps [])
    (ha : PA X (e :: es) (denA g W ma)) (hdb : (x == ("__debug__" : Str)) = false := by decide) (he : starEach (e :: es) X.env = (false, eval e X.env) :: starEach es X.env := by rfl) (hpl : (backTo pos (starEach es X.env)).any (·.1) = false := by rfl) :
    PE X (.Call (.Name x p) (e :: es) [] pos) (den g W (eCall n F ma)) :=
  pe_imp (pe_callS hF hr hg hm hk hb (fun σ => passAt tk σ) ha hdb he hpl) fun σ H Q ⟨env, cs, as, s, h⟩ => ⟨env, cs, as, s, (Post.bind h).mono fun xs cs1 as1 H1 hs1 e1 h1 vs rv => by
    split at h1
    · rename_i hl
      exact ⟨by rw [rv.length]; exact hl, cs1, as1, xs, hs1, rv, post_EX h1⟩
    · exact h1.elim⟩
theorem se_call0 (hF : FnOk X.prog X.w X.K X.mg X.base (L2.CX X.prog X.w) k f fd ps (spOf g 0 F)) (tk : Takes X W) (hr : Room k X.A) (hg : Gl X x) (hm : X.mg x = some (.ref f)) (hk : PySem.W.keepIn X.K (.ref f) = true) (hb : Binds X.K fd ps [])
    (hdb : (x == ("__debug__" : Str)) = false := by decide) : PE X (.Call (.Name x p) [] [] pos) (den g W (eCall 0 F aNil)) := by
  refine ⟨fun pins s σ H Q I ⟨env, cs, as, sa, h⟩ => ?_⟩
  refine wpAny_Call_Name_kw (ld_glob I hg hm ?_ hdb)
  exact PySem.W.callWith_K0 I.kIn hk (run_fnS (us := []) hF hr hb (passAt tk σ) I .nil ⟨rfl, cs, as, [], sa.hs, .nil, post_EX h⟩)
/-- with keywords: all the values, the positional ones first, picked in the parameters' order -/
def pick {α : Type} (ix : List Nat) (l : List α) : List α := ix.filterMap fun i => l[i]?
def eCallK (n m N : Nat) (ix : List Nat) (F : Fn) (ma mk : MA) : ME := fun env cs => (ma env cs).bind fun xs cs1 => (mk env cs1).bind fun zs cs2 => if xs.length = n ∧ zs.length = m ∧ (pick ix (xs ++ zs)).length = N then F (pick ix (xs ++ zs)) cs2 else .no
theorem pick_rel {α β : Type} {R : α → β → Prop} {l : List α} {m : List β} (h : Paired R l m) : ∀ ix : List Nat, Paired R (pick ix l) (pick ix m)
  | [] => .nil
  | i :: ix => by
    have ih := pick_rel h ix
    unfold pick at ih ⊢
    rw [List.filterMap_cons, List.filterMap_cons]
    cases q : m[i]? with
    | none =>
      have q' : l[i]? = none := by
        rw [List.getElem?_eq_none_iff] at q ⊢
        rw [h.length]; exact q
      rw [q']
      exact ih
    | some b =>
      obtain ⟨a, e1, r⟩ := Paired.get h q
      rw [e1]
      exact .cons r ih
theorem sk_nil : PK X [] (denA g W aNil) := ⟨fun pos pins s σ H Q I ⟨env, cs, as, sa, h⟩ => pk_nil.run pos pins s σ H Q I (h as H sa.hs Exn.refl [] .nil)⟩
theorem sk_cons {m : ME} {mr : MA} {nm : Option Str} {kpos : Pos} (he : PE X e (den g W m)) (hr : PK X kws (denA g W mr)) : PK X (⟨nm, e, kpos⟩ :: kws) (denA g W (aCons m mr)) :=
  ⟨fun pos pins s σ H Q I ⟨env, cs, as, sa, h⟩ => (pk_cons he hr).run pos pins s σ H Q I ⟨env, cs, as, sa, (Post.bind h).mono fun x cs1 as1 H1 hs1 e1 h1 v rv =>
    ⟨env, cs1, as1, sa.exn hs1 e1, (Post.bind h1).mono fun xs cs2 as2 H2 hs2 e2 h2 vs rvs => h2 as2 H2 hs2 Exn.refl (v :: vs) (.cons (rv.exn e2) rvs)⟩⟩⟩
theorem den_callK {N : Nat} {ix : List Nat} {σ : St} {H : Hp} {Q : VK} {m : Nat} (h : den g W (eCallK n m N ix F ma mk) σ H Q) : tCallNS n m (spOf g N F) (fun vs zs => pick ix (vs ++ zs)) (WE W) (denA g W ma) (denA g W mk) σ H Q := by
  obtain ⟨env, cs, as, s, h⟩ := h
  refine ⟨env, cs, as, s, (Post.bind h).mono fun xs cs1 as1 H1 hs1 e1 h1 vs rv => ?_⟩
  refine ⟨env, cs1, as1, s.exn hs1 e1, (Post.bind h1).mono fun zs cs2 as2 H2 hs2 e2 h2 ws rw' => ?_⟩
  split at h2
  · rename_i hl
    have rp : RepAs g cs2 as2 H2 (pick ix (vs ++ ws)) (pick ix (xs ++ zs)) := pick_rel (Paired.append (rv.exn e2) rw') ix
    exact ⟨by rw [rv.length]; exact hl.1, by rw [rw'.length]; exact hl.2.1, by rw [rp.length]; exact hl.2.2, cs2, as2, _, hs2, rp, post_EX h2⟩
  · exact h2.elim
abbrev KB (X : Cx) (fd : FuncData) (ps : List Str) (n : Nat) (ks : List Str) (ix : List Nat) : Prop := KBn X.K fd ps n ks (fun us ws => pick ix (us ++ ws)) (fun vs zs => pick ix (vs ++ zs))
theorem se_callK {N : Nat} {ix : List Nat} (hF : FnOk X.prog X.w X.K X.mg X.base (L2.CX X.prog X.w) k f fd ps (spOf g N F)) (tk : Takes X W) (hr : Room k X.A) (hg : Gl X x) (hm : X.mg x = some (.ref f)) (hk : PySem.W.keepIn X.K (.ref f) = true) (hb : KB X fd ps n ks ix)
    (ha : PA X (e :: es) (denA g W ma)) (hkw : PK X kws (denA g W mk)) (hall : (backToKw pos (keywordEach kws X.env)).all (·.1.isSome) = true := by rfl) (hks : (backToKw pos (keywordEach kws X.env)).filterMap (·.1) = ks := by rfl)
    (hdb : (x == ("__debug__" : Str)) = false := by decide) (he : starEach (e :: es) X.env = (false, eval e X.env) :: starEach es X.env := by rfl)
    (hpl : ((backTo pos (starEach (e :: es) X.env)).any (·.1) || (backToKw pos (keywordEach kws X.env)).any (·.1.isNone)) = false := by rfl) :
    PE X (.Call (.Name x p) (e :: es) kws pos) (den g W (eCallK n ks.length N ix F ma mk)) :=
  pe_imp (pe_callNS hF hr hg hm hk hb (fun σ => passAt tk σ) ha hkw hall hks hdb he hpl) fun _ _ _ => den_callK
theorem se_callK0 {N : Nat} {ix : List Nat} (hF : FnOk X.prog X.w X.K X.mg X.base (L2.CX X.prog X.w) k f fd ps (spOf g N F)) (tk : Takes X W) (hr : Room k X.A) (hg : Gl X x) (hm : X.mg x = some (.ref f)) (hk : PySem.W.keepIn X.K (.ref f) = true) (hb : KB X fd ps 0 ks ix)
    (hkw : PK X kws (denA g W mk)) (hall : (backToKw pos (keywordEach kws X.env)).all (·.1.isSome) = true := by rfl) (hks : (backToKw pos (keywordEach kws X.env)).filterMap (·.1) = ks := by rfl)
    (hdb : (x == ("__debug__" : Str)) = false := by decide)
    (hpl : ((backTo pos (starEach [] X.env)).any (·.1) || (backToKw pos (keywordEach kws X.env)).any (·.1.isNone)) = false := by rfl) :
    PE X (.Call (.Name x p) [] kws pos) (den g W (eCallK 0 ks.length N ix F aNil mk)) :=
  pe_imp (pe_callNS0 hF hr hg hm hk hb (fun σ => passAt tk σ) hkw hall hks hdb hpl) fun σ H Q h => by
    obtain ⟨env, cs, as, s, h⟩ := den_callK h
    exact h as H s.hs Exn.refl [] .nil
/-- how such arguments bind -/
theorem kb_of {x qual : Str} {st : Stmt} {f : Addr} (F : Fun X.K x qual st f fd) {ix : List Nat}
    (h : ∀ (kV doc pm : Value) (an : Option Addr) (cdv ct : Value) (us ws : List Value), us.length = n → ws.length = ks.length → bindArgs (PySem.W.fnOf x qual (defArgs st) (defBody st) (defScope st) .none kV doc pm an cdv ct) ⟨us, ks.zip ws⟩ = pure (ps.zip (pick ix (us ++ ws)))) : KB X fd ps n ks ix := by
  obtain ⟨oc, od, kV, doc, pm, an, cdv, ct, osl, rfl, lk, hcd⟩ := F.ex
  exact ⟨fun s us ws _ l1 l2 => .of_eq (h kV doc pm an cdv ct us ws l1 l2), fun r1 r2 => pick_rel (r1.append r2) ix⟩
end

/-! ### calls of built-ins -/
def CallS (g : G) (r : List V → Hp → VK → Prop) (f : List A → CS → R A) : Prop := ∀ {W : WX} {σ : St} {cs : CS} {as : AS} {H : Hp} {vs : List V} {xs : List A} {Q : VK}, Hs g cs as H → RepAs g cs as H vs xs → PostA g W σ cs as H Q (f xs cs) → r vs H Q
def eFn (f : List A → CS → R A) (ma : MA) : ME := fun env cs => (ma env cs).bind fun xs cs1 => f xs cs1
section
variable {X : Cx} {g : G} {W : WX} {x : Str} {p pos : Pos} {e : Expr} {es : List Expr} {ma : MA} {r : List V → Hp → VK → Prop} {F : List A → CS → R A} {id T : String}
theorem den_fn (hr : CallS g r F) {σ : St} {H : Hp} {Q : VK} (h : den g W (eFn F ma) σ H Q) : tCB r (denA g W ma) σ H Q := by
  obtain ⟨env, cs, as, s, h⟩ := h
  exact ⟨env, cs, as, s, (Post.bind h).mono fun xs cs1 as1 H1 hs1 e1 h1 vs rv => hr hs1 rv h1⟩
theorem se_fnB (hc : CallR X (.builtin id) r) (hr : CallS g r F) (hg : Gl X x) (hm : X.mg x = none) (hv : bootBuiltins x = some (.builtin id)) (ha : PA X (e :: es) (denA g W ma)) (hn : x ≠ "__name__" := by decide) (hdb : (x == ("__debug__" : Str)) = false := by decide)
    (he : starEach (e :: es) X.env = (false, eval e X.env) :: starEach es X.env := by rfl) (hpl : (backTo pos (starEach es X.env)).any (·.1) = false := by rfl) : PE X (.Call (.Name x p) (e :: es) [] pos) (den g W (eFn F ma)) :=
  pe_imp (pe_callB hc hg hm hv ha hn hdb he hpl) fun _ _ _ => den_fn hr
theorem se_fnT (hc : CallR X (.type T) r) (hr : CallS g r F) (hg : Gl X x) (hm : X.mg x = none) (hv : bootBuiltins x = some (.type T)) (ha : PA X (e :: es) (denA g W ma)) (hn : x ≠ "__name__" := by decide) (hdb : (x == ("__debug__" : Str)) = false := by decide)
    (he : starEach (e :: es) X.env = (false, eval e X.env) :: starEach es X.env := by rfl) (hpl : (backTo pos (starEach es X.env)).any (·.1) = false := by rfl) : PE X (.Call (.Name x p) (e :: es) [] pos) (den g W (eFn F ma)) :=
  pe_imp (pe_callTy hc hg hm hv ha hn hdb he hpl) fun _ _ _ => den_fn hr
end
section
variable {g : G} {cs : CS} {as : AS} {H : Hp}
theorem reps1 {vs : List V} {x : A} (r : RepAs g cs as H vs [x]) : ∃ v, vs = [v] ∧ RepA g cs as H v x := by
  cases r with
  | cons a b => cases b; exact ⟨_, rfl, a⟩
theorem reps2 {vs : List V} {x y : A} (r : RepAs g cs as H vs [x, y]) : ∃ v w, vs = [v, w] ∧ RepA g cs as H v x ∧ RepA g cs as H w y := by
  cases r with
  | cons a b =>
    obtain ⟨w, rfl, q⟩ := reps1 b
    exact ⟨_, w, rfl, a, q⟩
end
/-- len -/
def lenA (cs : CS) : A → Option Nat
  | .d (.tuple xs) => some xs.length
  | .d (.list xs) => some xs.length
  | .d (.str x) => if x.length ≤ sizeLine then some x.length else none
  | .c n => match cs[n]? with
    | some (.lst xs) => some xs.length
    | _ => none
  | .s ns => some ns.length
  | _ => none
@[simp] theorem lenA_tuple {cs : CS} {xs : List PyData} : lenA cs (.d (.tuple xs)) = some xs.length := rfl
@[simp] theorem lenA_list {cs : CS} {xs : List PyData} : lenA cs (.d (.list xs)) = some xs.length := rfl
theorem lenA_c {cs : CS} {n : Nat} {xs : List PyData} (h : cs[n]? = some (.lst xs)) : lenA cs (.c n) = some xs.length := by simp only [lenA, h]
def fLen : List A → CS → R A
  | [a], cs => match lenA cs a with
    | some n => .ok (.d (.int n)) cs
    | none => .no
  | _, _ => .no
theorem lenA_rep {g : G} {cs : CS} {as : AS} {H : Hp} (s : Hs g cs as H) {v : V} {a : A} {n : Nat} (r : RepA g cs as H v a) (h : lenA cs a = some n) : LenV g.K v H n := by
  cases a with
  | d x =>
    cases x with
    | tuple ds =>
      obtain rfl := Option.some.inj h
      obtain ⟨p, vs, rfl, h1, h2⟩ := rep_tup r
      exact .inr ⟨vs, h1, (DqAll.length h2).symm⟩
    | list ds =>
      obtain rfl := Option.some.inj h
      obtain ⟨p, vs, rfl, h1, h2⟩ := rep_lst r
      exact .inl ⟨vs, SqL.of h1, (DqAll.length h2).symm⟩
    | str z =>
      cases rep_str r
      simp only [lenA] at h
      split at h
      · rename_i hl; exact ⟨hl, (Option.some.inj h).symm⟩
      · cases h
    | none => cases h
    | bool _ => cases h
    | int _ => cases h
    | dict _ => cases h
  | c i =>
    obtain ⟨p, e1, rfl⟩ := r
    cases e2 : cs[i]? with
    | none => simp only [lenA, e2] at h; cases h
    | some c =>
      cases c with
      | lst ys =>
        simp only [lenA, e2] at h
        obtain rfl := Option.some.inj h
        obtain ⟨vs, e3, rr⟩ := s.cells i _ p e2 e1
        exact .inl ⟨vs, SqL.of e3, (DqAll.length rr).symm⟩
      | dead => simp only [lenA, e2] at h; cases h
      | dk _ => simp only [lenA, e2] at h; cases h
      | dt _ => simp only [lenA, e2] at h; cases h
  | s ns =>
    obtain rfl := Option.some.inj h
    obtain ⟨p, rfl, h1⟩ := r
    exact .inl ⟨_, Le.sqL dat_le h1, (List.length_map _).symm⟩
theorem cs_len {g : G} : CallS g (fun xs H Q => ∃ x n, xs = [x] ∧ LenV g.K x H n ∧ Q (.int n) H) fLen := by
  intro W σ cs as H vs xs Q s r h
  unfold fLen at h
  split at h
  · rename_i a
    obtain ⟨v, rfl, rv⟩ := reps1 r
    cases q : lenA cs a with
    | none => simp only [q] at h; exact h.elim
    | some n =>
      simp only [q] at h
      exact ⟨v, n, rfl, lenA_rep s rv q, h.int s⟩
  · exact h.elim
/-- tuple(list), tuple(tuple) -/
def fTuple : List A → CS → R A
  | [a], cs => match toS cs a with
    | some ds => .ok (.d (.tuple ds)) cs
    | none => .no
  | _, _ => .no
theorem toS_tup {g : G} {cs : CS} {as : AS} {H : Hp} (s : Hs g cs as H) {v : V} {a : A} {ys : List PyData} (r : RepA g cs as H v a) (h : toS cs a = some ys) :
    (∃ p vs, v = .ref p ∧ H p = some (.lst vs) ∧ DqAll g.K (dat cs as H) vs ys) ∨ (∃ p vs, v = .ref p ∧ SqT g.K H p vs ∧ a = .d (.tuple ys)) := by
  unfold toS at h
  cases a with
  | d x =>
    cases x with
    | list ds =>
      obtain rfl := Option.some.inj h
      obtain ⟨p, vs, e, h1, h2⟩ := rep_lst r
      exact .inl ⟨p, vs, e, h1, h2⟩
    | tuple ds =>
      obtain rfl := Option.some.inj h
      obtain ⟨p, vs, e, h1, h2⟩ := rep_tup r
      exact .inr ⟨p, vs, e, h1, rfl⟩
    | none => cases h
    | bool _ => cases h
    | int _ => cases h
    | str _ => cases h
    | dict _ => cases h
  | c i =>
    obtain ⟨p, e1, rfl⟩ := r
    cases e2 : cs[i]? with
    | none => simp only [toD, e2] at h; cases h
    | some c =>
      cases c with
      | lst xs =>
        simp only [toD, e2] at h
        obtain rfl := Option.some.inj h
        obtain ⟨vs, e3, rr⟩ := s.cells i _ p e2 e1
        exact .inl ⟨p, vs, rfl, e3, rr⟩
      | dead => simp only [toD, e2] at h; cases h
      | dk _ => simp only [toD, e2] at h; cases h
      | dt _ => simp only [toD, e2] at h; cases h
  | s ns => cases h
theorem cs_tuple {g : G} : CallS g (fun xs H Q => ∃ p ys, xs = [.ref p] ∧ ((SqL g.K H p ys ∧ ∀ l, H l = none → Q (.ref l) (upd H l (.tup ys))) ∨ (SqT g.K H p ys ∧ Q (.ref p) H))) fTuple := by
  intro W σ cs as H vs xs Q s r h
  unfold fTuple at h
  split at h
  · rename_i a
    obtain ⟨v, rfl, rv⟩ := reps1 r
    cases q : toS cs a with
    | none => simp only [q] at h; exact h.elim
    | some ds =>
      simp only [q] at h
      rcases toS_tup s rv q with ⟨p, ws, rfl, h1, h2⟩ | ⟨p, ws, rfl, h1, rfl⟩
      · exact ⟨p, ws, rfl, .inl ⟨SqL.of h1, fun l hl => h.tup s hl h2⟩⟩
      · exact ⟨p, ws, rfl, .inr ⟨h1, h.here s rv⟩⟩
  · exact h.elim
/-- list(..): plain, or a new cell -/
def toLS (cs : CS) (a : A) : Option (List PyData) := match a with
  | .d (.tuple xs) => some xs
  | .s ns => some (ns.map PyData.int)
  | a => toL cs a
def fList : List A → CS → R A
  | [a], cs => match toLS cs a with
    | some xs => .ok (.d (.list xs)) cs
    | none => .no
  | _, _ => .no
def fListC : List A → CS → R A
  | [a], cs => match toLS cs a with
    | some xs => .ok (.c cs.length) (cs ++ [.lst xs])
    | none => .no
  | _, _ => .no
theorem dq_ints {K : PySem.W.Frag} {H : Hp} : ∀ ns : List Int, DqAll K H (ns.map V.int) (ns.map PyData.int)
  | [] => .nil
  | i :: ns => .cons (.int i) (dq_ints ns)
theorem toLS_rep {g : G} {cs : CS} {as : AS} {H : Hp} (s : Hs g cs as H) {v : V} {a : A} {xs : List PyData} (r : RepA g cs as H v a) (h : toLS cs a = some xs) : ∃ p vs, v = .ref p ∧ (SqL g.K H p vs ∨ SqT g.K H p vs) ∧ DqAll g.K (dat cs as H) vs xs := by
  unfold toLS at h
  split at h
  · obtain rfl := Option.some.inj h
    obtain ⟨p, vs, e, h1, h2⟩ := rep_tup r
    exact ⟨p, vs, e, .inr h1, h2⟩
  · obtain rfl := Option.some.inj h
    obtain ⟨p, e, h1⟩ := r
    exact ⟨p, _, e, .inl (Le.sqL dat_le h1), dq_ints _⟩
  · obtain ⟨p, vs, e, h1, h2⟩ := toL_rep s r h
    exact ⟨p, vs, e, .inl (SqL.of h1), h2⟩
theorem cs_list {g : G} : CallS g (fun xs H Q => ∃ p ys, xs = [.ref p] ∧ (SqL g.K H p ys ∨ SqT g.K H p ys) ∧ ∀ l, H l = none → Q (.ref l) (upd H l (.lst ys))) fList := by
  intro W σ cs as H vs xs Q s r h
  unfold fList at h
  split at h
  · rename_i a
    obtain ⟨v, rfl, rv⟩ := reps1 r
    cases q : toLS cs a with
    | none => simp only [q] at h; exact h.elim
    | some ys =>
      simp only [q] at h
      obtain ⟨p, ws, rfl, h1, h2⟩ := toLS_rep s rv q
      exact ⟨p, ws, rfl, h1, fun l hl => PostA.lst h s hl h2⟩
  · exact h.elim
theorem cs_listC {g : G} : CallS g (fun xs H Q => ∃ p ys, xs = [.ref p] ∧ (SqL g.K H p ys ∨ SqT g.K H p ys) ∧ ∀ l, H l = none → Q (.ref l) (upd H l (.lst ys))) fListC := by
  intro W σ cs as H vs xs Q s r h
  unfold fListC at h
  split at h
  · rename_i a
    obtain ⟨v, rfl, rv⟩ := reps1 r
    cases q : toLS cs a with
    | none => simp only [q] at h; exact h.elim
    | some ys =>
      simp only [q] at h
      obtain ⟨p, ws, rfl, h1, h2⟩ := toLS_rep s rv q
      exact ⟨p, ws, rfl, h1, fun l hl => PostA.cell h s hl h2⟩
  · exact h.elim
/-- int(int), int(bool) -/
def fInt : List A → CS → R A
  | [.d (.int i)], cs => .ok (.d (.int i)) cs
  | [.d (.bool b)], cs => .ok (.d (.int (if b then 1 else 0))) cs
  | _, _ => .no
theorem cs_int {g : G} : CallS g (fun xs H Q => (∃ i, xs = [.int i] ∧ Q (.int i) H) ∨ ∃ k, xs = [.bl k] ∧ Q (.int (if k then 1 else 0)) H) fInt := by
  intro W σ cs as H vs xs Q s r h
  unfold fInt at h
  split at h
  · obtain ⟨v, rfl, rv⟩ := reps1 r
    cases rep_int rv
    exact .inl ⟨_, rfl, h.int s⟩
  · obtain ⟨v, rfl, rv⟩ := reps1 r
    cases rep_bl rv
    exact .inr ⟨_, rfl, h.int s⟩
  · exact h.elim
def fAbs : List A → CS → R A
  | [.d (.int i)], cs => .ok (.d (.int (if i < 0 then -i else i))) cs
  | _, _ => .no
theorem cs_abs {g : G} : CallS g (fun xs H Q => ∃ i, xs = [.int i] ∧ Q (.int (if i < 0 then -i else i)) H) fAbs := by
  intro W σ cs as H vs xs Q s r h
  unfold fAbs at h
  split at h
  · obtain ⟨v, rfl, rv⟩ := reps1 r
    cases rep_int rv
    exact ⟨_, rfl, h.int s⟩
  · exact h.elim
def fMax2 : List A → CS → R A
  | [.d (.int i), .d (.int j)], cs => .ok (.d (.int (if j > i then j else i))) cs
  | _, _ => .no
def fMin2 : List A → CS → R A
  | [.d (.int i), .d (.int j)], cs => .ok (.d (.int (if j < i then j else i))) cs
  | _, _ => .no
theorem cs_max2 {g : G} : CallS g (fun xs H Q => ∃ i j, xs = [.int i, .int j] ∧ Q (.int (if j > i then j else i)) H) fMax2 := by
  intro W σ cs as H vs xs Q s r h
  unfold fMax2 at h
  split at h
  · obtain ⟨v, w, rfl, rv, rw'⟩ := reps2 r
    cases rep_int rv; cases rep_int rw'
    exact ⟨_, _, rfl, h.int s⟩
  · exact h.elim
theorem cs_min2 {g : G} : CallS g (fun xs H Q => ∃ i j, xs = [.int i, .int j] ∧ Q (.int (if j < i then j else i)) H) fMin2 := by
  intro W σ cs as H vs xs Q s r h
  unfold fMin2 at h
  split at h
  · obtain ⟨v, w, rfl, rv, rw'⟩ := reps2 r
    cases rep_int rv; cases rep_int rw'
    exact ⟨_, _, rfl, h.int s⟩
  · exact h.elim
/-- lists of ints, of bools -/
def allI : List PyData → Option (List Int)
  | [] => some []
  | .int i :: r => (allI r).map (i :: ·)
  | _ :: _ => none
@[simp] theorem allI_nil : allI [] = some [] := rfl
@[simp] theorem allI_cons (i : Int) (r : List PyData) : allI (.int i :: r) = (allI r).map (i :: ·) := rfl
@[simp] theorem allI_map : ∀ ns : List Int, allI (ns.map PyData.int) = some ns
  | [] => rfl
  | i :: ns => by simp [allI_map ns]
theorem allI_eq : ∀ {xs : List PyData} {ns : List Int}, allI xs = some ns → xs = ns.map PyData.int
  | [], ns, h => by cases h; rfl
  | .int i :: r, ns, h => by
    rw [allI_cons] at h
    cases q : allI r with
    | none => rw [q] at h; cases h
    | some e =>
      rw [q] at h
      obtain rfl := Option.some.inj h
      rw [allI_eq q]; rfl
  | .none :: _, _, h => by cases h
  | .bool _ :: _, _, h => by cases h
  | .str _ :: _, _, h => by cases h
  | .list _ :: _, _, h => by cases h
  | .tuple _ :: _, _, h => by cases h
  | .dict _ :: _, _, h => by cases h
theorem reps_ints {K : PySem.W.Frag} {H : Hp} : ∀ {vs : List V} {ns : List Int}, DqAll K H vs (ns.map PyData.int) → vs = ns.map V.int
  | _, [], h => by cases h; rfl
  | _, i :: ns, h => by
    cases h with
    | cons a b =>
      cases a
      rw [reps_ints b]; rfl
def allB : List PyData → Option (List Bool)
  | [] => some []
  | .bool i :: r => (allB r).map (i :: ·)
  | _ :: _ => none
@[simp] theorem allB_nil : allB [] = some [] := rfl
@[simp] theorem allB_cons (i : Bool) (r : List PyData) : allB (.bool i :: r) = (allB r).map (i :: ·) := rfl
@[simp] theorem allB_map : ∀ ns : List Bool, allB (ns.map PyData.bool) = some ns
  | [] => rfl
  | i :: ns => by simp [allB_map ns]
theorem allB_eq : ∀ {xs : List PyData} {ns : List Bool}, allB xs = some ns → xs = ns.map PyData.bool
  | [], ns, h => by cases h; rfl
  | .bool i :: r, ns, h => by
    rw [allB_cons] at h
    cases q : allB r with
    | none => rw [q] at h; cases h
    | some e =>
      rw [q] at h
      obtain rfl := Option.some.inj h
      rw [allB_eq q]; rfl
  | .none :: _, _, h => by cases h
  | .int _ :: _, _, h => by cases h
  | .str _ :: _, _, h => by cases h
  | .list _ :: _, _, h => by cases h
  | .tuple _ :: _, _, h => by cases h
  | .dict _ :: _, _, h => by cases h
theorem reps_bools {K : PySem.W.Frag} {H : Hp} : ∀ {vs : List V} {ns : List Bool}, DqAll K H vs (ns.map PyData.bool) → vs = ns.map V.bl
  | _, [], h => by cases h; rfl
  | _, i :: ns, h => by
    cases h with
    | cons a b =>
      cases a
      rw [reps_bools b]; rfl
/-- a built-in that takes one list of ints -/
def onI (k : List Int → CS → R A) : List A → CS → R A
  | [a], cs => match toL cs a with
    | some xs => match allI xs with
      | some ns => k ns cs
      | none => .no
    | none => .no
  | _, _ => .no
theorem onI_rep {g : G} {cs : CS} {as : AS} {H : Hp} {W : WX} {σ : St} {Q : VK} {k : List Int → CS → R A} {vs : List V} {xs : List A} (s : Hs g cs as H) (r : RepAs g cs as H vs xs) (h : PostA g W σ cs as H Q (onI k xs cs)) :
    ∃ p ns, vs = [.ref p] ∧ SqL g.K H p (ns.map V.int) ∧ PostA g W σ cs as H Q (k ns cs) := by
  unfold onI at h
  split at h
  · rename_i a
    obtain ⟨v, rfl, rv⟩ := reps1 r
    cases q : toL cs a with
    | none => simp only [q] at h; exact h.elim
    | some ys =>
      simp only [q] at h
      obtain ⟨p, ws, rfl, h1, h2⟩ := toL_rep s rv q
      cases q2 : allI ys with
      | none => simp only [q2] at h; exact h.elim
      | some ns =>
        simp only [q2] at h
        rw [allI_eq q2] at h2
        rw [reps_ints h2] at h1
        exact ⟨p, ns, rfl, SqL.of h1, h⟩
  · exact h.elim
def fSum : List A → CS → R A := onI fun ns cs => .ok (.d (.int ns.sum)) cs
theorem cs_sum {g : G} : CallS g (rSum g.K) fSum := by
  intro W σ cs as H vs xs Q s r h
  obtain ⟨p, ns, rfl, h1, h2⟩ := onI_rep s r h
  exact ⟨p, ns, rfl, h1, PostA.int h2 s⟩
/-- the greatest, the least -/
def maxI : List Int → Int
  | [] => 0
  | a :: r => r.foldl max a
def minI : List Int → Int
  | [] => 0
  | a :: r => r.foldl min a
theorem foldl_max_le : ∀ (r : List Int) (a : Int), a ≤ r.foldl max a ∧ ∀ x ∈ r, x ≤ r.foldl max a
  | [], a => ⟨Int.le_refl _, fun _ h => nomatch h⟩
  | b :: r, a => by
    obtain ⟨h1, h2⟩ := foldl_max_le r (max a b)
    refine ⟨Int.le_trans (Int.le_max_left a b) h1, fun x hx => ?_⟩
    rcases List.mem_cons.mp hx with rfl | hx
    · exact Int.le_trans (Int.le_max_right a x) h1
    · exact h2 x hx
theorem foldl_max_mem : ∀ (r : List Int) (a : Int), r.foldl max a = a ∨ r.foldl max a ∈ r
  | [], a => .inl rfl
  | b :: r, a => by
    rcases foldl_max_mem r (max a b) with h | h
    · rw [List.foldl_cons, h]
      rcases Int.le_total a b with q | q
      · rw [Int.max_eq_right q]; exact .inr List.mem_cons_self
      · rw [Int.max_eq_left q]; exact .inl rfl
    · exact .inr (List.mem_cons_of_mem _ h)
theorem foldl_min_le : ∀ (r : List Int) (a : Int), r.foldl min a ≤ a ∧ ∀ x ∈ r, r.foldl min a ≤ x
  | [], a => ⟨Int.le_refl _, fun _ h => nomatch h⟩
  | b :: r, a => by
    obtain ⟨h1, h2⟩ := foldl_min_le r (min a b)
    refine ⟨Int.le_trans h1 (Int.min_le_left a b), fun x hx => ?_⟩
    rcases List.mem_cons.mp hx with rfl | hx
    · exact Int.le_trans h1 (Int.min_le_right a x)
    · exact h2 x hx
theorem foldl_min_mem : ∀ (r : List Int) (a : Int), r.foldl min a = a ∨ r.foldl min a ∈ r
  | [], a => .inl rfl
  | b :: r, a => by
    rcases foldl_min_mem r (min a b) with h | h
    · rw [List.foldl_cons, h]
      rcases Int.le_total a b with q | q
      · rw [Int.min_eq_left q]; exact .inl rfl
      · rw [Int.min_eq_right q]; exact .inr List.mem_cons_self
    · exact .inr (List.mem_cons_of_mem _ h)
theorem maxI_is {ns : List Int} {m : Int} (h1 : m ∈ ns) (h2 : ∀ y ∈ ns, y ≤ m) : m = maxI ns := by
  cases ns with
  | nil => cases h1
  | cons a r =>
    have k := foldl_max_le r a
    have k2 := foldl_max_mem r a
    show m = r.foldl max a
    have e1 : m ≤ r.foldl max a := by
      rcases List.mem_cons.mp h1 with e | e
      · rw [e]; exact k.1
      · exact k.2 m e
    have e2 : r.foldl max a ≤ m := by
      rcases k2 with e | e
      · rw [e]; exact h2 a List.mem_cons_self
      · exact h2 _ (List.mem_cons_of_mem _ e)
    exact Int.le_antisymm e1 e2
theorem minI_is {ns : List Int} {m : Int} (h1 : m ∈ ns) (h2 : ∀ y ∈ ns, m ≤ y) : m = minI ns := by
  cases ns with
  | nil => cases h1
  | cons a r =>
    have k := foldl_min_le r a
    have k2 := foldl_min_mem r a
    show m = r.foldl min a
    have e1 : r.foldl min a ≤ m := by
      rcases List.mem_cons.mp h1 with e | e
      · rw [e]; exact k.1
      · exact k.2 m e
    have e2 : m ≤ r.foldl min a := by
      rcases k2 with e | e
      · rw [e]; exact h2 a List.mem_cons_self
      · exact h2 _ (List.mem_cons_of_mem _ e)
    exact Int.le_antisymm e2 e1
def fMaxL : List A → CS → R A := onI fun ns cs => if 0 < ns.length then .ok (.d (.int (maxI ns))) cs else .no
def fMinL : List A → CS → R A := onI fun ns cs => if 0 < ns.length then .ok (.d (.int (minI ns))) cs else .no
theorem cs_maxL {g : G} : CallS g (rMax g.K) fMaxL := by
  intro W σ cs as H vs xs Q s r h
  obtain ⟨p, ns, rfl, h1, h2⟩ := onI_rep s r h
  split at h2
  · rename_i hl
    exact ⟨p, ns, rfl, h1, hl, fun m e1 e2 => by rw [maxI_is e1 e2]; exact PostA.int h2 s⟩
  · exact h2.elim
theorem cs_minL {g : G} : CallS g (rMin g.K) fMinL := by
  intro W σ cs as H vs xs Q s r h
  obtain ⟨p, ns, rfl, h1, h2⟩ := onI_rep s r h
  split at h2
  · rename_i hl
    exact ⟨p, ns, rfl, h1, hl, fun m e1 e2 => by rw [minI_is e1 e2]; exact PostA.int h2 s⟩
  · exact h2.elim
/-- sorted(list of ints) -/
def insI (a : Int) : List Int → List Int
  | [] => [a]
  | b :: r => if a ≤ b then a :: b :: r else b :: insI a r
def sortI : List Int → List Int
  | [] => []
  | a :: r => insI a (sortI r)
theorem insI_perm (a : Int) : ∀ l : List Int, (insI a l).Perm (a :: l)
  | [] => .refl _
  | b :: r => by
    unfold insI
    split
    · exact .refl _
    · exact ((insI_perm a r).cons b).trans (List.Perm.swap a b r)
theorem sortI_perm : ∀ l : List Int, (sortI l).Perm l
  | [] => .refl _
  | a :: r => (insI_perm a (sortI r)).trans ((sortI_perm r).cons a)
theorem insI_sorted (a : Int) : ∀ {l : List Int}, l.Pairwise (· ≤ ·) → (insI a l).Pairwise (· ≤ ·)
  | [], _ => List.pairwise_singleton _ _
  | b :: r, h => by
    unfold insI
    rw [List.pairwise_cons] at h
    split
    · rename_i q
      rw [List.pairwise_cons, List.pairwise_cons]
      refine ⟨fun x hx => ?_, h⟩
      rcases List.mem_cons.mp hx with rfl | hx
      · exact q
      · exact Int.le_trans q (h.1 x hx)
    · rename_i q
      rw [List.pairwise_cons]
      refine ⟨fun x hx => ?_, insI_sorted a h.2⟩
      rcases List.mem_cons.mp ((insI_perm a r).mem_iff.mp hx) with rfl | hx
      · exact Int.le_of_lt (Int.not_le.mp q)
      · exact h.1 x hx
theorem sortI_sorted : ∀ l : List Int, (sortI l).Pairwise (· ≤ ·)
  | [] => .nil
  | a :: r => insI_sorted a (sortI_sorted r)
theorem sorted_one : ∀ {l m : List Int}, l.Perm m → l.Pairwise (· ≤ ·) → m.Pairwise (· ≤ ·) → l = m
  | [], m, p, _, _ => (List.Perm.nil_eq p)
  | a :: l, [], p, _, _ => absurd p.length_eq (by simp)
  | a :: l, b :: m, p, h1, h2 => by
    rw [List.pairwise_cons] at h1 h2
    have e : a = b := by
      have ha : a ∈ b :: m := p.mem_iff.mp List.mem_cons_self
      have hb : b ∈ a :: l := p.mem_iff.mpr List.mem_cons_self
      rcases List.mem_cons.mp ha with q | q
      · exact q
      · rcases List.mem_cons.mp hb with q' | q'
        · exact q'.symm
        · exact Int.le_antisymm (h1.1 b q') (h2.1 a q)
    subst e
    rw [sorted_one (List.Perm.cons_inv p) h1.2 h2.2]
def fSorted : List A → CS → R A := onI fun ns cs => .ok (.d (.list ((sortI ns).map PyData.int))) cs
theorem cs_sorted {g : G} : CallS g (rSortedI g.K) fSorted := by
  intro W σ cs as H vs xs Q s r h
  obtain ⟨p, ns, rfl, h1, h2⟩ := onI_rep s r h
  refine ⟨p, ns, rfl, h1, fun ns' q e1 e2 hq => ?_⟩
  rw [sorted_one (e1.trans (sortI_perm ns).symm) e2 (sortI_sorted ns)]
  exact PostA.lst h2 s hq (dq_ints _)
def onB (k : List Bool → Bool) : List A → CS → R A
  | [a], cs => match toL cs a with
    | some xs => match allB xs with
      | some ns => .ok (.d (.bool (k ns))) cs
      | none => .no
    | none => .no
  | _, _ => .no
def fAny : List A → CS → R A := onB fun bs => bs.any id
def fAll : List A → CS → R A := onB fun bs => bs.all id
theorem onB_rep {g : G} {cs : CS} {as : AS} {H : Hp} {W : WX} {σ : St} {Q : VK} {k : List Bool → Bool} {vs : List V} {xs : List A} (s : Hs g cs as H) (r : RepAs g cs as H vs xs) (h : PostA g W σ cs as H Q (onB k xs cs)) :
    ∃ p bs, vs = [.ref p] ∧ SqL g.K H p (bs.map V.bl) ∧ Q (.bl (k bs)) H := by
  unfold onB at h
  split at h
  · rename_i a
    obtain ⟨v, rfl, rv⟩ := reps1 r
    cases q : toL cs a with
    | none => simp only [q] at h; exact h.elim
    | some ys =>
      simp only [q] at h
      obtain ⟨p, ws, rfl, h1, h2⟩ := toL_rep s rv q
      cases q2 : allB ys with
      | none => simp only [q2] at h; exact h.elim
      | some ns =>
        simp only [q2] at h
        rw [allB_eq q2] at h2
        rw [reps_bools h2] at h1
        exact ⟨p, ns, rfl, SqL.of h1, h.bl s⟩
  · exact h.elim
theorem cs_any {g : G} : CallS g (rAny g.K) fAny := fun s r h => onB_rep s r h
theorem cs_all {g : G} : CallS g (rAll g.K) fAll := fun s r h => onB_rep s r h
end Sh
namespace Sh
open PySem L2
/-! ### slots -/
theorem Sat.set {g : G} {cs : CS} {as : AS} {H : Hp} {env : Env} {σ : St} {i : Nat} {a : A} {v : V} (s : Sat g cs as H env σ) (r : RepA g cs as H v a) : Sat g cs as H (env.set i (some a)) (σ.set i (some v)) := by
  refine ⟨s.hs, by rw [List.length_set, List.length_set]; exact s.len, fun j x e => ?_⟩
  rcases get_set e with ⟨rfl, e1, hl⟩ | ⟨ne, e1⟩
  · have e2 := Option.some.inj e1
    subst e2
    exact ⟨v, by rw [List.getElem?_set_self (by rw [← s.len]; exact hl)], r⟩
  · obtain ⟨w, h1, h2⟩ := s.slots j x e1
    exact ⟨w, by rw [List.getElem?_set_ne (Ne.symm ne)]; exact h1, h2⟩
def wipeE (fg : List Nat) (env : Env) : Env := fg.foldl (fun e i => e.set i none) env
theorem Sat.unset {g : G} {cs : CS} {as : AS} {H : Hp} {env : Env} {σ : St} {i : Nat} (s : Sat g cs as H env σ) : Sat g cs as H (env.set i none) σ := by
  refine ⟨s.hs, by rw [List.length_set]; exact s.len, fun j x e => ?_⟩
  rcases get_set e with ⟨rfl, e1, hl⟩ | ⟨ne, e1⟩
  · cases e1
  · exact s.slots j x e1
theorem Sat.wipe {g : G} {cs : CS} {as : AS} {H : Hp} {σ : St} : ∀ (fg : List Nat) {env : Env}, Sat g cs as H env σ → Sat g cs as H (wipeE fg env) σ
  | [], _, s => s
  | i :: fg, _, s => Sat.wipe fg (s.unset (i := i))

/-! ### blocks -/
def sSeq (m n : MS) : MS := fun env cs => match m env cs with
  | .nx env1 cs1 => n env1 cs1
  | r => r
def sNext : MS := fun env cs => .nx env cs
def sBreak : MS := fun env cs => .bk env cs
def sCont : MS := fun env cs => .ct env cs
def sDrop (m : ME) : MS := fun env cs => (m env cs).toS env fun _ cs1 => .nx env cs1
def sRet (m : ME) : MS := fun env cs => (m env cs).toS env fun a cs1 => .rt a cs1
def sRetN : MS := fun env cs => .rt (.d .none) cs
def sIf (t : MT) (m n : MS) : MS := fun env cs => (t env cs).toS env fun b cs1 => if b = true then m env cs1 else n env cs1
section
variable {X : Cx} {g : G} {W : WX} {m n : MS} {me : ME} {mt : MT} {st : Stmt} {rest : List Stmt} {e : Expr} {pos : Pos}
theorem den_seq {D : Ends} {σ : St} {H : Hp} (h : denS g W (sSeq m n) D σ H) : tSeq (denS g W m) (denS g W n) D σ H := by
  obtain ⟨env, cs, as, s, h⟩ := h
  refine ⟨env, cs, as, s, ?_⟩
  unfold sSeq at h
  cases q : m env cs with
  | nx env1 cs1 =>
    simp only [q] at h
    exact fun σ' as' H' s' e' => ⟨env1, cs1, as', s', PostS.shift h e'⟩
  | rt a cs1 => simp only [q] at h; exact h
  | bk env1 cs1 => simp only [q] at h; exact h
  | ct env1 cs1 => simp only [q] at h; exact h
  | ex x env1 cs1 => simp only [q] at h; exact h
  | no => simp only [q] at h; exact h.elim
theorem sss_nil : PSs X [] (denS g W sNext) := pss_imp pss_nil fun D σ H ⟨env, cs, as, s, h⟩ => h σ as H s Exn.refl
theorem sss_cons (h1 : PS X st (denS g W m)) (h2 : PSs X rest (denS g W n)) : PSs X (st :: rest) (denS g W (sSeq m n)) := pss_imp (pss_cons h1 h2) fun _ _ _ => den_seq
theorem sss_one (h1 : PS X st (denS g W m)) : PSs X [st] (denS g W m) := pss_one h1
theorem ss_pass : PS X (.Pass pos) (denS g W sNext) := ps_imp ps_pass fun D σ H ⟨env, cs, as, s, h⟩ => h σ as H s Exn.refl
theorem ss_break : PS X (.Break pos) (denS g W sBreak) := ps_imp ps_break fun D σ H ⟨env, cs, as, s, h⟩ => h σ as H s Exn.refl
theorem ss_continue : PS X (.Continue pos) (denS g W sCont) := ps_imp ps_continue fun D σ H ⟨env, cs, as, s, h⟩ => h σ as H s Exn.refl
theorem ss_expr (he : PE X e (den g W me)) (hs : swapsWith e none pos.line X.env = pure false := by rfl) : PS X (.Expr e pos) (denS g W (sDrop me)) :=
  ps_imp (ps_expr he hs) fun D σ H ⟨env, cs, as, s, h⟩ => ⟨env, cs, as, s, (post_toS s h).mono fun a cs1 as1 H1 hs1 e1 h1 v rv => h1 σ as1 H1 (s.exn hs1 e1) Exn.refl⟩
theorem ss_ret (he : PE X e (den g W me)) : PS X (.Return (some e) pos) (denS g W (sRet me)) :=
  ps_imp (ps_ret he) fun D σ H ⟨env, cs, as, s, h⟩ => ⟨env, cs, as, s, (post_toS s h).mono fun a cs1 as1 H1 hs1 e1 h1 v rv => h1 v as1 H1 hs1 Exn.refl rv⟩
theorem ss_retN : PS X (.Return none pos) (denS g W sRetN) := ps_imp ps_retN fun D σ H ⟨env, cs, as, s, h⟩ => h .non as H s.hs Exn.refl .non
theorem ss_if {c : Expr} {a b : List Stmt} (hc : PT X c (denT g W mt)) (ha : PSs X a (denS g W m)) (hb : PSs X b (denS g W n)) : PS X (.If c a b pos) (denS g W (sIf mt m n)) :=
  ps_imp (ps_if hc ha hb) fun D σ H ⟨env, cs, as, s, h⟩ => ⟨env, cs, as, s, (post_toS s h).mono fun b cs1 as1 H1 hs1 e1 h1 => by
    cases b with
    | true => exact ⟨env, cs1, as1, s.exn hs1 e1, h1⟩
    | false => exact ⟨env, cs1, as1, s.exn hs1 e1, h1⟩⟩
end

/-! ### targets -/
abbrev Tgt := A → Env → CS → Option Env
def denG (g : G) (tg : Tgt) : TG := fun v σ H Q => ∃ env cs as a env', Sat g cs as H env σ ∧ RepA g cs as H v a ∧ tg a env cs = some env' ∧ ∀ σ', Sat g cs as H env' σ' → Q σ' H
abbrev Tgts := List PyData → Env → CS → Option Env
def denGs (g : G) (tg : Tgts) : TGs := fun vs σ H Q => ∃ env cs as ds env', Sat g cs as H env σ ∧ DqAll g.K (dat cs as H) vs ds ∧ tg ds env cs = some env' ∧ ∀ σ', Sat g cs as H env' σ' → Q σ' H
def tgName (i : Nat) : Tgt := fun a env _ => some (env.set i (some a))
def tgNil : Tgts := fun ds env _ => match ds with
  | [] => some env
  | _ => none
def tgCons (t : Tgt) (u : Tgts) : Tgts := fun ds env cs => match ds with
  | d :: r => (t (.d d) env cs).bind fun env1 => u r env1 cs
  | [] => none
def tgTup (n : Nat) (u : Tgts) : Tgt := fun a env cs => match a with
  | .d (.tuple ds) => if ds.length = n then u ds env cs else none
  | _ => none
section
variable {X : Cx} {g : G} {pos : Pos} {tg : Tgt} {tgs : Tgts}
theorem pg_imp {e : Expr} {t t' : TG} (h : PG X e t) (w : ∀ v σ H Q, t' v σ H Q → t v σ H Q) : PG X e t' := ⟨fun pins s σ H v u Q I r q => h.run pins s σ H v u Q I r (w v σ H Q q)⟩
theorem pgs_imp {es : List Expr} {t t' : TGs} (h : PGs X es t) (w : ∀ v σ H Q, t' v σ H Q → t v σ H Q) : PGs X es t' := ⟨fun pins s σ H v u Q I r q => h.run pins s σ H v u Q I r (w v σ H Q q)⟩
theorem sg_name {i : Nat} {x : Str} (hN : X.N.Nodup) (hi : X.N[i]? = some x) (hx : Loc X.env.scope x) (hf : X.fn x = true ∨ X.env.scope.names.lookup x = some .local := by first | exact .inl rfl | exact .inr rfl | assumption) : PG X (.Name x pos) (denG g (tgName i)) :=
  pg_imp (pg_name hN hi hx hf) fun v σ H Q ⟨env, cs, as, a, env', s, r, e, h⟩ => by
    obtain rfl := Option.some.inj e
    exact h _ (s.set r)
theorem sgs_nil : PGs X [] (denGs g tgNil) := pgs_imp pgs_nil fun v σ H Q ⟨env, cs, as, ds, env', s, r, e, h⟩ => by
  cases ds with
  | nil =>
    obtain rfl := Option.some.inj e
    cases r
    exact ⟨rfl, h _ s⟩
  | cons d r => cases e
theorem sgs_cons {e : Expr} {es : List Expr} (h1 : PG X e (denG g tg)) (h2 : PGs X es (denGs g tgs)) (hs : (assignEach (e :: es) X.env).map (·.2) = assign e X.env :: (assignEach es X.env).map (·.2) := by rfl) : PGs X (e :: es) (denGs g (tgCons tg tgs)) :=
  pgs_imp (pgs_cons h1 h2 hs) fun v σ H Q ⟨env, cs, as, ds, env', s, r, e, h⟩ => by
    cases ds with
    | nil => cases e
    | cons d ds =>
      cases r with
      | cons r1 r2 =>
        have e' : (tg (.d d) env cs).bind (fun env1 => tgs ds env1 cs) = some env' := e
        cases q : tg (.d d) env cs with
        | none => rw [q] at e'; cases e'
        | some env1 =>
          rw [q] at e'
          exact ⟨_, _, rfl, env, cs, as, .d d, env1, s, r1, q, fun σ' s' => ⟨env1, cs, as, ds, env', s', r2, e', h⟩⟩
theorem sg_tup {es : List Expr} {k : Nat} {n : Nat} (hK : X.K = g.K) (hc : X.calm = true) (h : PGs X es (denGs g tgs)) (hn : (assignEach es X.env).length = n := by rfl) (hst : (assignEach es X.env).findIdx? (·.1) = none := by rfl) : PG X (.Tuple es k pos) (denG g (tgTup n tgs)) :=
  pg_imp (pg_tup hc h hn hst) fun v σ H Q ⟨env, cs, as, a, env', s, r, e, q⟩ => by
    unfold tgTup at e
    split at e
    · split at e
      · rename_i ds hl
        have r' : Dq g.K (dat cs as H) v (.tuple ds) := r
        cases r' with
        | tup h1 h2 => exact ⟨_, _, rfl, by rw [hK]; exact Le.sqT dat_le h1, (DqAll.length h2).trans hl, env, cs, as, ds, env', s, h2, e, q⟩
      · cases e
    · cases e
/-- name = e -/
def sAsg (m : ME) (tg : Tgt) : MS := fun env cs => (m env cs).toS env fun a cs1 => match tg a env cs1 with
  | some env' => .nx env' cs1
  | none => .no
variable {W : WX} {me : ME} {e : Expr}
theorem den_asg {D : Ends} {σ : St} {H : Hp} (h : denS g W (sAsg me tg) D σ H) : tAsg (den g W me) (denG g tg) D σ H := by
  obtain ⟨env, cs, as, s, h⟩ := h
  refine ⟨env, cs, as, s, (post_toS s h).mono fun a cs1 as1 H1 hs1 e1 h1 v rv => ?_⟩
  cases q : tg a env cs1 with
  | none => simp only [q] at h1; exact h1.elim
  | some env' =>
    simp only [q] at h1
    exact ⟨env, cs1, as1, a, env', s.exn hs1 e1, rv, q, fun σ' s' => h1 σ' as1 H1 s' Exn.refl⟩
theorem den_set {i : Nat} {D : Ends} {σ : St} {H : Hp} (h : denS g W (sAsg me (tgName i)) D σ H) : tAsg (den g W me) (gName i) D σ H := by
  obtain ⟨env, cs, as, s, h⟩ := h
  exact ⟨env, cs, as, s, (post_toS s h).mono fun a cs1 as1 H1 hs1 e1 h1 v rv => h1 _ as1 H1 ((s.exn hs1 e1).set rv) Exn.refl⟩
theorem ss_set {i : Nat} {x : Str} {pos' : Pos} (hN : X.N.Nodup) (hi : X.N[i]? = some x) (hx : Loc X.env.scope x) (he : PE X e (den g W me)) (hs : swapsWith e (some (.Name x pos')) pos.line X.env = pure false := by rfl)
    (hf : X.fn x = true ∨ X.env.scope.names.lookup x = some .local := by first | exact .inl rfl | exact .inr rfl | assumption) : PS X (.Assign [.Name x pos'] e pos) (denS g W (sAsg me (tgName i))) :=
  ps_imp (ps_set hN hi hx he hs hf) fun _ _ _ => den_set
theorem ss_asg {tge : Expr} (he : PE X e (den g W me)) (hg : PG X tge (denG g tg)) (hs : swapsWithSole [tge] e pos.line X.env = pure false := by rfl) (hw : swappedStores [tge] e X.env = pure none := by rfl)
    (h1 : (assignEach [tge] X.env).map (·.2) = [assign tge X.env] := by rfl) : PS X (.Assign [tge] e pos) (denS g W (sAsg me tg)) := ps_imp (ps_asg he hg hs hw h1) fun _ _ _ => den_asg
/-- a, b = x, y -/
def sPar (i j : Nat) (ma mb : ME) : MS := fun env cs => (ma env cs).toS env fun a cs1 => (mb env cs1).toS env fun b cs2 => .nx ((env.set i (some a)).set j (some b)) cs2
theorem ss_par {i j : Nat} {x y : Str} {a b : Expr} {ma mb : ME} {px py pt : Pos} {kt k2 pt2} (hc : X.calm = true) (hN : X.N.Nodup) (hi : X.N[i]? = some x) (hj : X.N[j]? = some y) (hij : i ≠ j)
    (hx : X.env.scope.names.lookup x = some .local) (hy : X.env.scope.names.lookup y = some .local) (ha : PE X a (den g W ma)) (hb : PE X b (den g W mb))
    (h1 : starEach [a, b] X.env = (false, eval a X.env) :: starEach [b] X.env := by rfl) (h2 : starEach [b] X.env = (false, eval b X.env) :: starEach [] X.env := by rfl)
    (hw : swappedStores [.Tuple [.Name x px, .Name y py] kt pt] (.Tuple [a, b] k2 pt2) X.env = pure (some [x, y]) := by rfl)
    (hs : swapsWithSole [.Tuple [.Name x px, .Name y py] kt pt] (.Tuple [a, b] k2 pt2) pos.line X.env = pure false := by rfl) :
    PS X (.Assign [.Tuple [.Name x px, .Name y py] kt pt] (.Tuple [a, b] k2 pt2) pos) (denS g W (sPar i j ma mb)) :=
  ps_imp (ps_par hc hN hi hj hij hx hy (pa_cons ha (pa_cons hb pa_nil h2) h1) hw hs) fun D σ H ⟨env, cs, as, s, h⟩ =>
    ⟨env, cs, as, s, (post_toS s h).mono fun a cs1 as1 H1 hs1 e1 h1 v rv => ⟨env, cs1, as1, s.exn hs1 e1, (post_toS (s.exn hs1 e1) h1).mono fun b cs2 as2 H2 hs2 e2 h2 w rw' =>
      ⟨v, w, rfl, h2 _ as2 H2 (((s.exn hs2 (e1.trans e2)).set (rv.exn e2)).set rw') Exn.refl⟩⟩⟩
/-- name op= e, by values -/
def sAug (i : Nat) (f : A → A → CS → R A) (me : ME) : MS := fun env cs => match env[i]? with
  | some (some x) => (me env cs).toS env fun y cs1 => (f x y cs1).toS env fun z cs2 => .nx (env.set i (some z)) cs2
  | _ => .no
theorem ss_aug {i : Nat} {x : Str} {op : Operator} {ti : TIp} {f : A → A → CS → R A} {pos' : Pos} (hN : X.N.Nodup) (hi : X.N[i]? = some x) (hx : Loc X.env.scope x) (he : PE X e (den g W me)) (ho : PIp X op ti) (hr : OpS g ti f)
    (hf : X.fn x = true ∨ X.env.scope.names.lookup x = some .local := by first | exact .inl rfl | exact .inr rfl | assumption) : PS X (.AugAssign (.Name x pos') op e pos) (denS g W (sAug i f me)) :=
  ps_imp (ps_aug hN hi hx he ho hf) fun D σ H ⟨env, cs, as, s, h⟩ => by
    unfold sAug at h
    split at h
    · rename_i a ea
      obtain ⟨v, e0, r0⟩ := s.slots i a ea
      exact ⟨v, e0, env, cs, as, s, (post_toS s h).mono fun b cs1 as1 H1 hs1 e1 h1 w rw' => hr (W := W) (σ := σ) hs1 (r0.exn e1) rw' ((post_toS (s.exn hs1 e1) h1).mono fun c cs2 as2 H2 hs2 e2 h2 z rz => h2 _ as2 H2 (((s.exn hs1 e1).exn hs2 e2).set rz) Exn.refl)⟩
    · exact h.elim
def fAddI : A → A → CS → R A
  | .d (.int i), .d (.int j), cs => .ok (.d (.int (i + j))) cs
  | _, _, _ => .no
theorem os_ipadd {g : G} : OpS g (ipI fun i j => i + j) fAddI := by
  intro W σ cs as H x y a b Q s ra rb h
  unfold fAddI at h
  split at h
  · cases rep_int ra; cases rep_int rb
    exact ⟨_, _, rfl, rfl, h.int s⟩
  · exact h.elim
theorem os_ipsub {g : G} : OpS g (ipI fun i j => i - j) fSub := by
  intro W σ cs as H x y a b Q s ra rb h
  unfold fSub at h
  split at h
  · cases rep_int ra; cases rep_int rb
    exact ⟨_, _, rfl, rfl, h.int s⟩
  · exact h.elim
end

/-! ### loops -/
def loopK (r : RS) (fg : List Nat) (k : Env → CS → RS) : RS := match r with
  | .nx env cs => k (wipeE fg env) cs
  | .ct env cs => k (wipeE fg env) cs
  | .bk env cs => .nx (wipeE fg env) cs
  | .rt a cs => .rt a cs
  | .ex e env cs => .ex e env cs
  | .no => .no
def whileN (t : MT) (body : MS) (fg : List Nat) : Nat → Env → CS → RS
  | 0, _, _ => .no
  | n + 1, env, cs => (t env cs).toS env fun b cs1 => if b = true then loopK (body env cs1) fg (whileN t body fg n) else .nx env cs1
def sWhile (fuel : Nat) (fg : List Nat) (t : MT) (body : MS) : MS := fun env cs => whileN t body fg fuel (wipeE fg env) cs
section
variable {X : Cx} {g : G} {W : WX} {mt : MT} {mb : MS} {fg : List Nat} {pos : Pos}
theorem loop_body {cs : CS} {as : AS} {H : Hp} {D : Ends} {r : RS} {k : Env → CS → RS} (h : PostS g W cs as H D (loopK r fg k)) :
    PostS g W cs as H { D with nx := fun σ' H' => ∃ env cs' as', Sat g cs' as' H' env σ' ∧ Exn cs as H cs' as' H' ∧ PostS g W cs' as' H' D (k env cs'), ct := fun σ' H' => ∃ env cs' as', Sat g cs' as' H' env σ' ∧ Exn cs as H cs' as' H' ∧ PostS g W cs' as' H' D (k env cs'), bk := D.nx } r := by
  cases r with
  | nx env1 cs1 => exact fun σ' as' H' s' e' => ⟨_, cs1, as', s'.wipe fg, e', PostS.shift h e'⟩
  | ct env1 cs1 => exact fun σ' as' H' s' e' => ⟨_, cs1, as', s'.wipe fg, e', PostS.shift h e'⟩
  | bk env1 cs1 => exact fun σ' as' H' s' e' => h σ' as' H' (s'.wipe fg) e'
  | rt a cs1 => exact h
  | ex x env1 cs1 => exact h
  | no => exact h.elim
theorem den_while {fuel : Nat} {D : Ends} {σ : St} {H : Hp} (h : denS g W (sWhile fuel fg mt mb) D σ H) : tWhile (denT g W mt) (denS g W mb) D σ H := by
  obtain ⟨env, cs, as, s, h⟩ := h
  refine ⟨fun m σ' H' => ∃ env cs as, Sat g cs as H' env σ' ∧ PostS g W cs as H' D (whileN mt mb fg m env cs), ⟨fuel, _, cs, as, s.wipe fg, h⟩, ?_⟩
  rintro m σ1 H1 ⟨env1, cs1, as1, s1, h1⟩
  cases m with
  | zero => exact h1.elim
  | succ m =>
    refine ⟨env1, cs1, as1, s1, (post_toS s1 h1).mono fun b cs2 as2 H2 hs2 e2 h2 => ?_⟩
    cases b with
    | true =>
      refine ⟨_, fun σ' H' hn => ?_, env1, cs2, as2, s1.exn hs2 e2, loop_body h2⟩
      obtain ⟨env3, cs3, as3, s3, _, h3⟩ := hn
      exact ⟨m, Nat.lt_succ_self m, env3, cs3, as3, s3, h3⟩
    | false => exact h2 σ1 as2 H2 (s1.exn hs2 e2) Exn.refl
theorem ss_while {c : Expr} {body : List Stmt} (fuel : Nat) (fg : List Nat) (hp : PassesOwn (model X.prog X.w) X.A X.env X.xe) (hc : PT X c (denT g W mt)) (hb : PSs X body (denS g W mb)) : PS X (.While c body [] pos) (denS g W (sWhile fuel fg mt mb)) :=
  ps_imp (ps_while hp hc hb) fun _ _ _ => den_while
end

/-! ### what is walked -/
inductive Src where
  | it (xs : List A) | cell (n : Nat)
abbrev MI := Env → CS → R Src
structure WalkIt (g : G) (J : It) (cs : CS) (as : AS) (H : Hp) (xs : List A) : Prop where
  goes : ∀ i cs1 as1 H1, Hs g cs1 as1 H1 → Le (dat cs as H) (dat cs1 as1 H1) → i < xs.length → J.go i H1
  stops : ∀ cs1 as1 H1, Hs g cs1 as1 H1 → Le (dat cs as H) (dat cs1 as1 H1) → J.stop xs.length H1
  yields : ∀ i cs1 as1 H1 x H2, Hs g cs1 as1 H1 → Le (dat cs as H) (dat cs1 as1 H1) → i < xs.length → J.yld i H1 x H2 → Hs g cs1 as1 H2 ∧ Exn cs1 as1 H1 cs1 as1 H2 ∧ ∃ a, xs[i]? = some a ∧ RepA g cs1 as1 H2 x a
def WalkS (g : G) (J : It) (cs : CS) (as : AS) (H : Hp) : Src → Prop
  | .it xs => WalkIt g J cs as H xs
  | .cell n => ∃ p, as.l[n]? = some p ∧ J = Itl g.K p
def denI (g : G) (W : WX) (m : MI) : TI := fun σ H R => ∃ env cs as, Sat g cs as H env σ ∧ Post g W σ cs as H (fun src cs' as' H' => ∀ J, WalkS g J cs' as' H' src → R J H') (m env cs)
def forIt (tg : Tgt) (body : MS) (fg : List Nat) : List A → Env → CS → RS
  | [], env, cs => .nx env cs
  | x :: xs, env, cs => match tg x env cs with
    | none => .no
    | some env1 => loopK (body env1 cs) fg (forIt tg body fg xs)
def forCell (tg : Tgt) (body : MS) (fg : List Nat) (n : Nat) : Nat → Nat → Env → CS → RS
  | 0, _, _, _ => .no
  | fuel + 1, i, env, cs => match cs[n]? with
    | some (.lst xs) => match xs[i]? with
      | none => .nx env cs
      | some x => match tg (.d x) env cs with
        | none => .no
        | some env1 => loopK (body env1 cs) fg (forCell tg body fg n fuel (i + 1))
    | _ => .no
def forS (fuel : Nat) (tg : Tgt) (body : MS) (fg : List Nat) : Src → Env → CS → RS
  | .it xs => forIt tg body fg xs
  | .cell n => forCell tg body fg n fuel 0
def sFor (fuel : Nat) (fg : List Nat) (src : MI) (tg : Tgt) (body : MS) : MS := fun env cs => (src env cs).toS env fun s cs1 => forS fuel tg body fg s (wipeE fg env) cs1
section
variable {X : Cx} {g : G} {W : WX} {mi : MI} {mb : MS} {fg : List Nat} {tg : Tgt} {pos : Pos}
theorem den_for {fuel : Nat} {D : Ends} {σ : St} {H : Hp} (h : denS g W (sFor fuel fg mi tg mb) D σ H) : tFor (denI g W mi) (denG g tg) (denS g W mb) D σ H := by
  obtain ⟨env, cs, as, s, h⟩ := h
  refine ⟨env, cs, as, s, (post_toS s h).mono fun src cs0 as0 H0 hs0 e0 h0 J hJ => ?_⟩
  cases src with
  | it xs =>
    refine ⟨fun i m σ' H' => i ≤ xs.length ∧ m = xs.length - i ∧ ∃ env cs as, Sat g cs as H' env σ' ∧ Exn cs0 as0 H0 cs as H' ∧ PostS g W cs as H' D (forIt tg mb fg (xs.drop i) env cs), ⟨_, Nat.zero_le _, rfl, _, cs0, as0, (s.exn hs0 e0).wipe fg, Exn.refl, h0⟩, ?_⟩
    rintro i m σ1 H1 ⟨hi, rfl, env1, cs1, as1, s1, e1, h1⟩
    have hJ : WalkIt g J cs0 as0 H0 xs := hJ
    by_cases hlt : i < xs.length
    · refine .inr ⟨hJ.goes i cs1 as1 H1 s1.hs e1.dat hlt, ?_⟩
      rw [List.drop_eq_getElem_cons hlt] at h1
      have h1' : PostS g W cs1 as1 H1 D (match tg xs[i] env1 cs1 with
        | none => .no
        | some env2 => loopK (mb env2 cs1) fg (forIt tg mb fg (xs.drop (i + 1)))) := h1
      cases q : tg xs[i] env1 cs1 with
      | none => simp only [q] at h1'; exact h1'.elim
      | some env2 =>
        simp only [q] at h1'
        refine ⟨fun σ' H' => ∃ env cs as, Sat g cs as H' env σ' ∧ Exn cs0 as0 H0 cs as H' ∧ PostS g W cs as H' D (forIt tg mb fg (xs.drop (i + 1)) env cs), fun σ' H' ⟨env3, cs3, as3, s3, e3, h3⟩ => ⟨xs.length - (i + 1), by omega, hlt, rfl, env3, cs3, as3, s3, e3, h3⟩, fun x H2 hy => ?_⟩
        obtain ⟨hs2, e2, a, ea, ra⟩ := hJ.yields i cs1 as1 H1 x H2 s1.hs e1.dat hlt hy
        rw [List.getElem?_eq_getElem hlt] at ea
        obtain rfl := Option.some.inj ea
        refine ⟨env1, cs1, as1, _, env2, s1.exn hs2 e2, ra, q, fun σ' s' => ⟨env2, cs1, as1, s', ?_⟩⟩
        have lb := loop_body (PostS.shift h1' e2)
        exact PostS_ends lb (fun σ' H' ⟨a, b, c, d, e, f⟩ => ⟨a, b, c, d, (e1.trans e2).trans e, f⟩) (fun σ' H' ⟨a, b, c, d, e, f⟩ => ⟨a, b, c, d, (e1.trans e2).trans e, f⟩)
    · have e : i = xs.length := by omega
      subst e
      rw [List.drop_length] at h1
      exact .inl ⟨hJ.stops cs1 as1 H1 s1.hs e1.dat, h1 σ1 as1 H1 s1 Exn.refl⟩
  | cell n =>
    obtain ⟨p, hp, rfl⟩ := (hJ : ∃ p, as0.l[n]? = some p ∧ J = Itl g.K p)
    refine ⟨fun i m σ' H' => ∃ env cs as, Sat g cs as H' env σ' ∧ Exn cs0 as0 H0 cs as H' ∧ PostS g W cs as H' D (forCell tg mb fg n m i env cs), ⟨_, _, cs0, as0, (s.exn hs0 e0).wipe fg, Exn.refl, h0⟩, ?_⟩
    rintro i m σ1 H1 ⟨env1, cs1, as1, s1, e1, h1⟩
    have hp1 := e1.pre n p hp
    cases m with
    | zero => exact h1.elim
    | succ m =>
      have h1' : PostS g W cs1 as1 H1 D (match cs1[n]? with
        | some (.lst xs) => match xs[i]? with
          | none => .nx env1 cs1
          | some x => match tg (.d x) env1 cs1 with
            | none => .no
            | some env2 => loopK (mb env2 cs1) fg (forCell tg mb fg n m (i + 1))
        | _ => .no) := h1
      cases q : cs1[n]? with
      | none => simp only [q] at h1'; exact h1'.elim
      | some c =>
        cases c with
        | dead => simp only [q] at h1'; exact h1'.elim
        | dk _ => simp only [q] at h1'; exact h1'.elim
        | dt _ => simp only [q] at h1'; exact h1'.elim
        | lst xs =>
          simp only [q] at h1'
          obtain ⟨vs, ev, rv⟩ := s1.hs.lst q hp1
          cases qx : xs[i]? with
          | none =>
            simp only [qx] at h1'
            exact .inl ⟨⟨vs, SqL.of ev, by rw [DqAll.length rv]; exact List.getElem?_eq_none_iff.mp qx⟩, h1' σ1 as1 H1 s1 Exn.refl⟩
          | some x =>
            simp only [qx] at h1'
            obtain ⟨v, e2, r2⟩ := DqAll.get rv qx
            refine .inr ⟨⟨vs, v, SqL.of ev, e2⟩, ?_⟩
            cases qt : tg (.d x) env1 cs1 with
            | none => simp only [qt] at h1'; exact h1'.elim
            | some env2 =>
              simp only [qt] at h1'
              refine ⟨fun σ' H' => ∃ env cs as, Sat g cs as H' env σ' ∧ Exn cs0 as0 H0 cs as H' ∧ PostS g W cs as H' D (forCell tg mb fg n m (i + 1) env cs), fun σ' H' h3 => ⟨m, Nat.lt_succ_self m, h3⟩, fun y H2 hy => ?_⟩
              obtain ⟨rfl, hy⟩ := hy
              have ey := hy vs (SqL.of ev)
              rw [e2] at ey
              obtain rfl := Option.some.inj ey
              refine ⟨env1, cs1, as1, .d x, env2, s1, r2, qt, fun σ' s' => ⟨env2, cs1, as1, s', ?_⟩⟩
              have lb := loop_body h1'
              exact PostS_ends lb (fun σ' H' ⟨a, b, c, d, e, f⟩ => ⟨a, b, c, d, e1.trans e, f⟩) (fun σ' H' ⟨a, b, c, d, e, f⟩ => ⟨a, b, c, d, e1.trans e, f⟩)
where
  PostS_ends {cs : CS} {as : AS} {H : Hp} {nx nx' rt bk ct ct'} {r : RS} (h : PostS g W cs as H ⟨nx, rt, bk, ct⟩ r) (h1 : ∀ σ' H', nx σ' H' → nx' σ' H') (h2 : ∀ σ' H', ct σ' H' → ct' σ' H') : PostS g W cs as H ⟨nx', rt, bk, ct'⟩ r := by
    cases r with
    | nx env1 cs1 => exact fun σ' as' H' s' e' => h1 _ _ (h σ' as' H' s' e')
    | ct env1 cs1 => exact fun σ' as' H' s' e' => h2 _ _ (h σ' as' H' s' e')
    | bk env1 cs1 => exact h
    | rt a cs1 => exact h
    | ex x env1 cs1 => exact h
    | no => exact h
theorem ss_for {iter : Expr} {tge : Expr} {body : List Stmt} (fuel : Nat) (fg : List Nat) (hp : PassesOwn (model X.prog X.w) X.A X.env X.xe) (hc : X.calm = true) (hi : PI X tge iter (denI g W mi)) (hg : PG X tge (denG g tg)) (hb : PSs X body (denS g W mb))
    (hs : ∀ x, foldedSetIterable iter X.env x = pure x := by intro _; rfl) : PS X (.For tge iter body [] pos) (denS g W (sFor fuel fg mi tg mb)) :=
  ps_imp (ps_for hp hc hi hg hb hs) fun _ _ _ => den_for
end
end Sh
namespace PySem
open AutoSeq1 (wpAny_loadPart')
theorem meets_enumerate_newB1 {v : Value} {o : Obj} {H : Heap → Prop} (B : Begins v o H) :
    Meets (Builtin.«enumerate.__new__» ⟨[.type "enumerate", v], []⟩) (fun _ R s => H s.heap ∧
      R (.ok (.ret (.ref (s.heap.push o).objs.size))) { s with heap := (s.heap.push o).push { cls := .type "enumerate", data := .fields #[.none, .bool false, .ref s.heap.objs.size, rawInt 0, .none, .none] } }) :=
  .of_wp fun prog w A R s h => by
    obtain ⟨hp, g, d, tk, os⟩ := s; obtain ⟨h1, h⟩ := h
    have hsub := sub_enumerate
    have q1 : ∀ {A' : Around} {E : Value → Shared → Prop} {Q : Value → Shared → Prop}, Q (.ref hp.objs.size) ⟨hp.push o, g, d, tk, os⟩ → wpAny (model prog w) A' (pyIter v) Q E ⟨hp, g, d, tk, os⟩ :=
      fun q => B.iter prog w _ _ ⟨hp, g, d, tk, os⟩ _ h1 q
    wp_walk using q1
    refine wpAny_stack_any fun st => wpAny_pure ?_
    split
    · rename_i c _ _ _ _ _
      cases (c == Value.type "enumerate")
      · wp_walk using q1
        exact ⟨_, rfl, h⟩
      · wp_walk using q1
        exact ⟨_, rfl, h⟩
    · wp_walk using q1
      exact ⟨_, rfl, h⟩
theorem call_enumerate_any {prog : Program} {w : World} {A : Around} {E : Value → Shared → Prop} {s : Shared} {v : Value} {o : Obj} {H : Heap → Prop} {Q : Value → Shared → Prop} (B : Begins v o H) (h1 : H s.heap)
    (h : ∀ h', IsEnum h' (s.heap.objs.size + 1) s.heap.objs.size 0 .none → h'.get? s.heap.objs.size = some o → h'.objs.size = s.heap.objs.size + 2 →
      (∀ b o, s.heap.get? b = some o → h'.get? b = some o) → Q (.ref (s.heap.objs.size + 1)) { s with heap := h' }) :
    wpAny (model prog w) A (call (.type "enumerate") [v]) Q E s := by
  refine callType_new F.called_enumerate (by decide) (F.typeCall_enumerate_1 _) (F.newCall_enumerate_1 _) (fun obj => F.args_object_init_2 obj _) F.entry_enumerate_new
    (meets_enumerate_newB1 B) ⟨h1, ?_⟩
  have hz : (s.heap.push o).objs.size = s.heap.objs.size + 1 := Heap.size_push ..
  show _ ∧ _
  rw [hz]
  have he : IsEnum ((s.heap.push o).push { cls := .type "enumerate", data := .fields #[.none, .bool false, .ref s.heap.objs.size, rawInt 0, .none, .none] }) (s.heap.objs.size + 1) s.heap.objs.size 0 .none := by
    have := Heap.get?_push_size (s.heap.push o) (o := { cls := .type "enumerate", data := .fields #[.none, .bool false, .ref s.heap.objs.size, rawInt 0, .none, .none] }) rfl
    rw [hz] at this; exact this
  refine ⟨⟨_, he, rfl⟩, h _ he (Heap.get?_push_of_some _ (Heap.get?_push_size _ B.free)) (by rw [Heap.size_push, hz]) fun b o x => Heap.get?_push_of_some _ (Heap.get?_push_of_some _ x)⟩
end PySem
namespace L2
open PySem PySem.Spec PyProof.Rows
/-! ### enumerate(tuple) -/
def IteT (K : PySem.W.Frag) (a : Addr) : It :=
  ⟨fun i H => ∃ (xs : List V) (x : V), SqT K H a xs ∧ xs[i]? = some x, fun i H v H' => ∃ T x, v = .ref T ∧ H T = none ∧ H' = upd H T (.tup [.int (i : Nat), x]) ∧ ∀ xs, SqT K H a xs → xs[i]? = some x, fun i H => ∃ xs : List V, SqT K H a xs ∧ xs.length = i⟩
theorem turn_enumT {P : Program} {w : World} {K : PySem.W.Frag} {elts : List Expr} {kk : Nat} {tpos : Pos} (a e it : Addr) :
    Turn P w K (.Tuple elts kk tpos) (IteT K a) [e, it] e (fun i h => (∃ old, IsEnum h e it ((i : Nat) : Int) old) ∧ h.IsTupleIter it a i ∧ e ≠ it ∧ a ≠ it ∧ e ≠ a) where
  mem := by simp
  obj := fun i h st b hb => by
    obtain ⟨⟨old, he⟩, ⟨o, ho, hc, hd⟩, _⟩ := st
    have e' : b = e ∨ b = it := by simpa using hb
    rcases e' with z | z
    · rw [z]; exact ⟨_, he, fun v q => nomatch q⟩
    · rw [z]; exact ⟨o, ho, fun v q => by rw [hd] at q; cases q⟩
  keep := fun i h h' st k => let ⟨⟨old, he⟩, hi, hne⟩ := st; ⟨⟨old, k e (by simp) _ he⟩, hi.at fun o q => k it (by simp) o q, hne⟩
  item := by
    intro X hP hw hK hc i pins s σ H E I hf st hg
    subst hP hw hK
    obtain ⟨⟨old, he⟩, hit, hne, hai, hea⟩ := st
    obtain ⟨xs, x, hq, hx⟩ := hg
    obtain ⟨its, rv, p, hz⟩ := I.tuple hq
    obtain ⟨u, hu, ru⟩ := rv.get hx
    have hel : e < s.heap.objs.size := Heap.lt_size he
    have hil : it < s.heap.objs.size := by obtain ⟨_, q, _⟩ := hit; exact Heap.lt_size q
    have hef : e ∉ [it, a] := by simp [hne, hea]
    have hlt : i < its.toArray.size := by
      rw [List.size_toArray]
      exact (List.getElem?_eq_some_iff.mp hu).1
    refine wpAny_pyNext_enum_itemC (Draws.tuple (by exact I.ok.hd hc) it a hai its.toArray) he ⟨hit, p⟩ hlt hne hef fun x' h' tk hP ho hit' hT hsz hk => ?_
    obtain rfl : x' = u := by
      have q : its.toArray[i]? = some x' := hP
      have q' : its[i]? = some x' := by simpa using q
      rw [hu] at q'
      exact (Option.some.inj q').symm
    refine ⟨_, rfl, wpAny_letOwnedTupleGo_enum (s := { s with heap := h', toks := tk + 1 }) ho fun h'' he' sb => ?_⟩
    have hT2 : h''.get? s.heap.objs.size = some { cls := .type "tuple", data := .seq #[.int i tk, x'] } := (sb.2 _ (Nat.ne_of_gt hel)).trans hT
    have new : ObjOk X.prog X.w (upd H s.heap.objs.size (.tup [.int (i : Nat), x])) h'' s.heap.objs.size (.tup [.int (i : Nat), x]) :=
      ⟨by show 2 ≤ sizeLine; decide, [.int i tk, x'], .cons ⟨_, rfl⟩ (.cons ru .nil), ⟨_, hT2, rfl, _, rfl⟩⟩
    have I1 : Inv X pins σ (upd H s.heap.objs.size (.tup [.int (i : Nat), x])) { s with heap := h'', toks := tk + 1 } :=
      I.turnedNew (ch := [e, it]) (fun b ob hb q => (sb.2 b (fun z => hb (by simp [z]))).trans (hk b ob (fun z => hb (by simp [z])) (fun z => hb (by simp [z])) q)) hf (Nat.le_refl _) new
    refine ⟨.ref s.heap.objs.size, _, I1, rfl, ⟨_, x, rfl, I.hok.fresh (Nat.le_refl _), rfl, fun ys hy => by rw [I.tuple_inj hy hq]; exact hx⟩, ⟨⟨x', ?_⟩, hit'.1.at fun o q => (sb.2 it (Ne.symm hne)).trans q, hne, hai, hea⟩, fun b hb => ?_⟩
    · have e1 : ((i + 1 : Nat) : Int) = (i : Int) + 1 := by omega
      rw [e1]; exact he'
    · have hb' : b < s.heap.objs.size := by
        have e' : b = e ∨ b = it := by simpa using hb
        rcases e' with z | z
        · rw [z]; exact hel
        · rw [z]; exact hil
      rw [upd_ne (Nat.ne_of_lt hb')]
      exact (hf b hb).1
  done := by
    intro X hP hw hK hc i pins s σ H E I hf st hg
    subst hP hw hK
    obtain ⟨⟨old, he⟩, hit, hne, hai, hea⟩ := st
    obtain ⟨xs, hq, hx⟩ := hg
    obtain ⟨its, rv, p, hz⟩ := I.tuple hq
    obtain ⟨f0, f1, f2, f3, f4, f5⟩ := hf it (by simp)
    have hl : i = its.toArray.size := by rw [List.size_toArray, ← rv.length]; exact hx.symm
    rw [hl] at hit
    exact wpAny_pyNext_enum_endD (Draws.tuple (by exact I.ok.hd hc) it a hai its.toArray) he ⟨hit, p⟩ fun h' eb => ⟨rfl, I.turned (t' := s.toks) (fun b o hb q => eb b o hb q) f0 f1 f3 f4 f5⟩
  self := fun A i s Q E st h => let ⟨⟨_, he⟩, _⟩ := st; wpAny_pyIter_enum he h
def iEnumT (K : PySem.W.Frag) (ta : TA) : TI := fun σ H R => ta σ H fun vs H1 => ∃ a xs, vs = [.ref a] ∧ SqT K H1 a xs ∧ R (IteT K a) H1
theorem pi_enumT {X : Cx} {e : Expr} {ta : TA} {p pos tpos : Pos} {elts : List Expr} {kk : Nat} (hg : Gl X "enumerate") (hm : X.mg "enumerate" = none) (ha : PA X [e] ta) (hs : starEach [e] X.env = [(false, eval e X.env)] := by rfl) :
    PI X (.Tuple elts kk tpos) (.Call (.Name "enumerate" p) [e] [] pos) (iEnumT X.K ta) := by
  refine ⟨fun pins s σ H R I h => ?_⟩
  refine Call_ (ld_blt I hg hm boot_enumerate (PyProof.Rows.callWith_type1 (thn (ha.run pos pins s σ H _ I h) fun us s1 ⟨vs, H1, I1, r1, q1⟩ => ?_) hs rfl))
  obtain ⟨a, xs, ex, hq, q⟩ := q1
  subst ex
  cases r1 with
  | cons r rr =>
    cases rr
    cases r
    obtain ⟨its, rv, p', hz⟩ := I1.tuple hq
    have hal : a < s1.heap.objs.size := p'.lt
    refine call_enumerate_any (begins_tuple a its.toArray) p' fun h' he hit hsz hk => wpAny_pyIter_enum he ?_
    have I2 : Inv X pins σ H1 { s1 with heap := h' } := I1.kept (t' := s1.toks) hk
    refine ⟨s1.heap.objs.size + 1, [s1.heap.objs.size + 1, s1.heap.objs.size], _, _, H1, rfl, I2, turn_enumT a (s1.heap.objs.size + 1) s1.heap.objs.size, ⟨⟨.none, he⟩, ⟨_, hit, rfl, rfl⟩, Nat.succ_ne_self _, Nat.ne_of_lt hal, Nat.ne_of_gt (Nat.lt_succ_of_lt hal)⟩, fun b hb => ?_, q⟩
    have e' : b = s1.heap.objs.size + 1 ∨ b = s1.heap.objs.size := by simpa using hb
    have hle : s1.heap.objs.size ≤ b := by
      rcases e' with z | z
      · rw [z]; exact Nat.le_add_right _ _
      · rw [z]; exact Nat.le_refl _
    exact I1.fpOk hle (I1.hok.fresh hle)
end L2
namespace Sh
open PySem L2
/-! ### sources -/
def srcOf (cs : CS) : A → Option Src
  | .d (.list xs) => some (.it (xs.map A.d))
  | .d (.tuple xs) => some (.it (xs.map A.d))
  | .d (.str z) => some (.it (z.cps.toList.map fun c => A.d (.str ⟨#[c]⟩)))
  | .c n => match cs[n]? with
    | some (.lst _) => some (.cell n)
    | _ => none
  | .s ns => some (.it (ns.map fun i => A.d (.int i)))
  | _ => none
def iVal (m : ME) : MI := fun env cs => (m env cs).bind fun a cs1 => match srcOf cs1 a with
  | some s => .ok s cs1
  | none => .no
section
variable {X : Cx} {g : G} {W : WX} {tge e : Expr} {me : ME}
theorem walk_data_list {cs : CS} {as : AS} {H : Hp} {a : Addr} {vs : List V} {ds : List PyData} (h : dat cs as H a = some (.lst vs)) (r : DqAll g.K (dat cs as H) vs ds) : WalkIt g (Itl g.K a) cs as H (ds.map A.d) := by
  refine ⟨fun i cs1 as1 H1 s1 e1 hi => ?_, fun cs1 as1 H1 s1 e1 => ?_, fun i cs1 as1 H1 x H2 s1 e1 hi hy => ?_⟩
  · rw [List.length_map, ← DqAll.length r] at hi
    exact ⟨vs, vs[i], SqL.of (dat_le _ _ (e1 _ _ h)), by simp [hi]⟩
  · exact ⟨vs, SqL.of (dat_le _ _ (e1 _ _ h)), by rw [List.length_map, DqAll.length r]; exact Nat.le_refl _⟩
  · obtain ⟨rfl, hy⟩ := hy
    have ex := hy vs (SqL.of (dat_le _ _ (e1 _ _ h)))
    rw [List.length_map] at hi
    obtain ⟨v, e2, rv⟩ := DqAll.get r (List.getElem?_eq_getElem hi)
    rw [e2] at ex
    obtain rfl := Option.some.inj ex
    exact ⟨s1, Exn.refl, .d ds[i], by rw [List.getElem?_map, List.getElem?_eq_getElem hi] <;> rfl, Dq.le e1 rv⟩
theorem walk_data_tup {cs : CS} {as : AS} {H : Hp} {a : Addr} {vs : List V} {ds : List PyData} (h : SqT g.K (dat cs as H) a vs) (r : DqAll g.K (dat cs as H) vs ds) : WalkIt g (Itt g.K a) cs as H (ds.map A.d) := by
  refine ⟨fun i cs1 as1 H1 s1 e1 hi => ?_, fun cs1 as1 H1 s1 e1 => ?_, fun i cs1 as1 H1 x H2 s1 e1 hi hy => ?_⟩
  · rw [List.length_map, ← DqAll.length r] at hi
    exact ⟨vs, vs[i], Le.sqT dat_le (Le.sqT e1 h), by simp [hi]⟩
  · exact ⟨vs, Le.sqT dat_le (Le.sqT e1 h), by rw [List.length_map, DqAll.length r]; exact Nat.le_refl _⟩
  · obtain ⟨rfl, hy⟩ := hy
    have ex := hy vs (Le.sqT dat_le (Le.sqT e1 h))
    rw [List.length_map] at hi
    obtain ⟨v, e2, rv⟩ := DqAll.get r (List.getElem?_eq_getElem hi)
    rw [e2] at ex
    obtain rfl := Option.some.inj ex
    exact ⟨s1, Exn.refl, .d ds[i], by rw [List.getElem?_map, List.getElem?_eq_getElem hi] <;> rfl, Dq.le e1 rv⟩
theorem walk_script {cs : CS} {as : AS} {H : Hp} {a : Addr} {ns : List Int} (h : SqL g.K (dat cs as H) a (ns.map V.int)) : WalkIt g (Itl g.K a) cs as H (ns.map fun i => A.d (.int i)) := by
  refine ⟨fun i cs1 as1 H1 s1 e1 hi => ?_, fun cs1 as1 H1 s1 e1 => ?_, fun i cs1 as1 H1 x H2 s1 e1 hi hy => ?_⟩
  · rw [List.length_map] at hi
    exact ⟨ns.map V.int, .int ns[i], Le.sqL dat_le (Le.sqL e1 h), by simp [hi]⟩
  · exact ⟨ns.map V.int, Le.sqL dat_le (Le.sqL e1 h), by rw [List.length_map, List.length_map]; exact Nat.le_refl _⟩
  · obtain ⟨rfl, hy⟩ := hy
    have ex := hy _ (Le.sqL dat_le (Le.sqL e1 h))
    rw [List.length_map] at hi
    rw [List.getElem?_map, List.getElem?_eq_getElem hi] at ex
    obtain rfl := Option.some.inj ex
    exact ⟨s1, Exn.refl, .d (.int ns[i]), by rw [List.getElem?_map, List.getElem?_eq_getElem hi] <;> rfl, .int _⟩
theorem walk_text {cs : CS} {as : AS} {H : Hp} {z : Str} : WalkIt g (Its z) cs as H (z.cps.toList.map fun c => A.d (.str ⟨#[c]⟩)) := by
  refine ⟨fun i cs1 as1 H1 s1 e1 hi => ?_, fun cs1 as1 H1 s1 e1 => ?_, fun i cs1 as1 H1 x H2 s1 e1 hi hy => ?_⟩
  · rw [List.length_map, Array.length_toList] at hi; exact hi
  · show z.cps.size ≤ _
    rw [List.length_map, Array.length_toList]; exact Nat.le_refl _
  · obtain ⟨rfl, c, e2, rfl⟩ := hy
    exact ⟨s1, Exn.refl, .d (.str ⟨#[c]⟩), by rw [List.getElem?_map, Array.getElem?_toList, e2] <;> rfl, .str _⟩
theorem si_val (hK : X.K = g.K) (he : PE X e (den g W me)) : PI X tge e (denI g W (iVal me)) := by
  refine ⟨fun pins s σ H Rr I ⟨env, cs, as, sa, h⟩ => ?_⟩
  unfold iVal at h
  cases q : me env cs with
  | no => rw [q] at h; exact h.elim
  | ex x cs1 =>
    rw [q] at h
    refine (pi_list he).run pins s σ H Rr I ⟨env, cs, as, sa, ?_⟩
    rw [q]
    exact h
  | ok a cs1 =>
    rw [q] at h
    simp only [R.bind_ok] at h
    cases a with
    | d x =>
      cases x with
      | list ds =>
        refine (pi_list he).run pins s σ H Rr I ⟨env, cs, as, sa, ?_⟩
        rw [q]
        refine fun as' H' hs e' v r => ?_
        have r' : Dq g.K (dat cs1 as' H') v (.list ds) := r
        cases r' with
        | lst h1 h2 => exact ⟨_, rfl, ⟨_, SqL.of (dat_le _ _ h1)⟩, h as' H' hs e' _ (by rw [hK]; exact walk_data_list h1 h2)⟩
      | tuple ds =>
        refine (pi_tup he).run pins s σ H Rr I ⟨env, cs, as, sa, ?_⟩
        rw [q]
        refine fun as' H' hs e' v r => ?_
        have r' : Dq g.K (dat cs1 as' H') v (.tuple ds) := r
        cases r' with
        | tup h1 h2 => exact ⟨_, rfl, ⟨_, by rw [hK]; exact Le.sqT dat_le h1⟩, h as' H' hs e' _ (by rw [hK]; exact walk_data_tup h1 h2)⟩
      | str z =>
        refine (pi_str he).run pins s σ H Rr I ⟨env, cs, as, sa, ?_⟩
        rw [q]
        refine fun as' H' hs e' v r => ?_
        cases rep_str r
        exact ⟨z, rfl, h as' H' hs e' _ walk_text⟩
      | none => exact h.elim
      | bool _ => exact h.elim
      | int _ => exact h.elim
      | dict _ => exact h.elim
    | c n =>
      cases q2 : cs1[n]? with
      | none => simp only [srcOf, q2] at h; exact h.elim
      | some c =>
        cases c with
        | lst xs =>
          simp only [srcOf, q2] at h
          refine (pi_list he).run pins s σ H Rr I ⟨env, cs, as, sa, ?_⟩
          rw [q]
          refine fun as' H' hs e' v r => ?_
          obtain ⟨p, e1, rfl⟩ := r
          obtain ⟨vs, e3, _⟩ := hs.lst q2 e1
          exact ⟨p, rfl, ⟨vs, SqL.of e3⟩, h as' H' hs e' _ ⟨p, e1, by rw [hK]⟩⟩
        | dead => simp only [srcOf, q2] at h; exact h.elim
        | dk _ => simp only [srcOf, q2] at h; exact h.elim
        | dt _ => simp only [srcOf, q2] at h; exact h.elim
    | s ns =>
      refine (pi_list he).run pins s σ H Rr I ⟨env, cs, as, sa, ?_⟩
      rw [q]
      refine fun as' H' hs e' v r => ?_
      obtain ⟨p, rfl, h1⟩ := r
      exact ⟨p, rfl, ⟨_, by rw [hK]; exact Le.sqL dat_le h1⟩, h as' H' hs e' _ (by rw [hK]; exact walk_script h1)⟩

/-! ### ranges -/
def rangeD (lo : Int) (n : Nat) : List A := (List.range n).map fun i => A.d (.int (lo + (i : Nat)))
def inR (i : Int) : Bool := decide (i.natAbs < 4611686018427387904)
theorem inR_c {i : Int} (h : inR i = true) : -(2 ^ 62) ≤ i ∧ i < 2 ^ 62 := by
  unfold inR at h
  have h' := of_decide_eq_true h
  omega
def iRange1 (ma : MA) : MI := fun env cs => (ma env cs).bind fun xs cs1 => match xs with
  | [.d (.int j)] => if inR j = true then .ok (.it (rangeD 0 j.toNat)) cs1 else .no
  | _ => .no
def iRange2 (ma : MA) : MI := fun env cs => (ma env cs).bind fun xs cs1 => match xs with
  | [.d (.int i), .d (.int j)] => if (inR i && inR j) = true then .ok (.it (rangeD i (j - i).toNat)) cs1 else .no
  | _ => .no
variable {ma : MA}
theorem walk_rng {cs : CS} {as : AS} {H : Hp} {lo : Int} {n : Nat} : WalkIt g (Itr lo n) cs as H (rangeD lo n) := by
  have hl : (rangeD lo n).length = n := by unfold rangeD; rw [List.length_map, List.length_range]
  refine ⟨fun i cs1 as1 H1 s1 e1 hi => ?_, fun cs1 as1 H1 s1 e1 => ?_, fun i cs1 as1 H1 x H2 s1 e1 hi hy => ?_⟩
  · rw [hl] at hi; exact hi
  · rw [hl]; exact Nat.le_refl _
  · obtain ⟨rfl, rfl⟩ := hy
    rw [hl] at hi
    refine ⟨s1, Exn.refl, .d (.int (lo + (i : Nat))), ?_, .int _⟩
    unfold rangeD
    rw [List.getElem?_map, List.getElem?_range hi] <;> rfl
theorem si_range1 {a : Expr} {p pos : Pos} (hg : Gl X "range") (hm : X.mg "range" = none) (ha : PA X [a] (denA g W ma)) (hs : starEach [a] X.env = [(false, eval a X.env)] := by rfl) : PI X tge (.Call (.Name "range" p) [a] [] pos) (denI g W (iRange1 ma)) := by
  refine ⟨fun pins s σ H Rr I ⟨env, cs, as, sa, h⟩ => ?_⟩
  refine (pi_range1 hg hm ha hs).run pins s σ H Rr I ⟨env, cs, as, sa, (Post.bind h).mono fun xs cs1 as1 H1 hs1 e1 h1 vs rv => ?_⟩
  split at h1
  · rename_i j
    obtain ⟨v, rfl, r⟩ := reps1 rv
    cases rep_int r
    split at h1
    · rename_i hj
      obtain ⟨b1, b2⟩ := inR_c hj
      exact ⟨j, rfl, b1, b2, h1 as1 H1 hs1 Exn.refl _ walk_rng⟩
    · exact h1.elim
  · exact h1.elim
theorem si_range2 {a b : Expr} {p pos : Pos} (hg : Gl X "range") (hm : X.mg "range" = none) (ha : PA X [a, b] (denA g W ma)) (hs : starEach [a, b] X.env = [(false, eval a X.env), (false, eval b X.env)] := by rfl) (hs2 : starEach [b] X.env = [(false, eval b X.env)] := by rfl) :
    PI X tge (.Call (.Name "range" p) [a, b] [] pos) (denI g W (iRange2 ma)) := by
  refine ⟨fun pins s σ H Rr I ⟨env, cs, as, sa, h⟩ => ?_⟩
  refine (pi_range2 hg hm ha hs hs2).run pins s σ H Rr I ⟨env, cs, as, sa, (Post.bind h).mono fun xs cs1 as1 H1 hs1 e1 h1 vs rv => ?_⟩
  split at h1
  · rename_i i j
    obtain ⟨v, w, rfl, r, r2⟩ := reps2 rv
    cases rep_int r; cases rep_int r2
    split at h1
    · rename_i hj
      rw [Bool.and_eq_true] at hj
      obtain ⟨b1, b2⟩ := inR_c hj.1
      obtain ⟨b3, b4⟩ := inR_c hj.2
      exact ⟨i, j, rfl, ⟨b1, b2, b3, b4⟩, h1 as1 H1 hs1 Exn.refl _ walk_rng⟩
    · exact h1.elim
  · exact h1.elim

/-! ### enumerate -/
def enumF : Nat → List PyData → List A
  | _, [] => []
  | k, x :: r => .d (.tuple [.int (k : Nat), x]) :: enumF (k + 1) r
theorem enumF_get : ∀ (k : Nat) (xs : List PyData) (i : Nat), (enumF k xs)[i]? = xs[i]?.map fun x => A.d (.tuple [.int ((k + i : Nat) : Int), x])
  | _, [], _ => by simp [enumF]
  | k, x :: r, 0 => by simp [enumF]
  | k, x :: r, i + 1 => by
    have ih := enumF_get (k + 1) r i
    simp only [enumF, List.getElem?_cons_succ]
    rw [ih, Nat.add_right_comm k 1 i]
    rfl
theorem enumF_length (k : Nat) (xs : List PyData) : (enumF k xs).length = xs.length := by
  induction xs generalizing k with
  | nil => rfl
  | cons x r ih => simp [enumF, ih]
def iEnum (m : ME) : MI := fun env cs => (m env cs).bind fun a cs1 => match a with
  | .d (.list xs) => .ok (.it (enumF 0 xs)) cs1
  | .d (.tuple xs) => .ok (.it (enumF 0 xs)) cs1
  | _ => .no
theorem walk_enum_list {cs : CS} {as : AS} {H : Hp} {a : Addr} {vs : List V} {ds : List PyData} (h : dat cs as H a = some (.lst vs)) (r : DqAll g.K (dat cs as H) vs ds) : WalkIt g (Ite g.K a) cs as H (enumF 0 ds) := by
  have hl := enumF_length 0 ds
  refine ⟨fun i cs1 as1 H1 s1 e1 hi => ?_, fun cs1 as1 H1 s1 e1 => ?_, fun i cs1 as1 H1 x H2 s1 e1 hi hy => ?_⟩
  · rw [hl, ← DqAll.length r] at hi
    exact ⟨vs, vs[i], SqL.of (dat_le _ _ (e1 _ _ h)), by simp [hi]⟩
  · exact ⟨vs, SqL.of (dat_le _ _ (e1 _ _ h)), by rw [hl, DqAll.length r]; exact Nat.le_refl _⟩
  · obtain ⟨T, x', rfl, hT, rfl, hy⟩ := hy
    have ex := hy vs (SqL.of (dat_le _ _ (e1 _ _ h)))
    rw [hl] at hi
    obtain ⟨v, e2, rv⟩ := DqAll.get r (List.getElem?_eq_getElem hi)
    rw [e2] at ex
    obtain rfl := Option.some.inj ex
    have en := exn_new (o := .tup [.int (i : Nat), v]) s1 hT
    refine ⟨s1.new hT, en, .d (.tuple [.int ((0 + i : Nat) : Int), ds[i]]), ?_, ?_⟩
    · rw [enumF_get, List.getElem?_eq_getElem hi] <;> rfl
    · rw [Nat.zero_add]
      exact .tup (SqT.of (dat_new s1 hT)) (.cons (.int _) (.cons (Dq.le en.dat (Dq.le e1 rv)) .nil))
theorem walk_enum_tup {cs : CS} {as : AS} {H : Hp} {a : Addr} {vs : List V} {ds : List PyData} (h : SqT g.K (dat cs as H) a vs) (r : DqAll g.K (dat cs as H) vs ds) : WalkIt g (IteT g.K a) cs as H (enumF 0 ds) := by
  have hl := enumF_length 0 ds
  refine ⟨fun i cs1 as1 H1 s1 e1 hi => ?_, fun cs1 as1 H1 s1 e1 => ?_, fun i cs1 as1 H1 x H2 s1 e1 hi hy => ?_⟩
  · rw [hl, ← DqAll.length r] at hi
    exact ⟨vs, vs[i], Le.sqT dat_le (Le.sqT e1 h), by simp [hi]⟩
  · exact ⟨vs, Le.sqT dat_le (Le.sqT e1 h), by rw [hl, DqAll.length r]⟩
  · obtain ⟨T, x', rfl, hT, rfl, hy⟩ := hy
    have ex := hy vs (Le.sqT dat_le (Le.sqT e1 h))
    rw [hl] at hi
    obtain ⟨v, e2, rv⟩ := DqAll.get r (List.getElem?_eq_getElem hi)
    rw [e2] at ex
    obtain rfl := Option.some.inj ex
    have en := exn_new (o := .tup [.int (i : Nat), v]) s1 hT
    refine ⟨s1.new hT, en, .d (.tuple [.int ((0 + i : Nat) : Int), ds[i]]), ?_, ?_⟩
    · rw [enumF_get, List.getElem?_eq_getElem hi] <;> rfl
    · rw [Nat.zero_add]
      exact .tup (SqT.of (dat_new s1 hT)) (.cons (.int _) (.cons (Dq.le en.dat (Dq.le e1 rv)) .nil))
theorem si_enum {elts : List Expr} {kk : Nat} {p pos tpos : Pos} (hK : X.K = g.K) (hg : Gl X "enumerate") (hm : X.mg "enumerate" = none) (he : PE X e (den g W me)) (hs : starEach [e] X.env = (false, eval e X.env) :: starEach [] X.env := by rfl) (hs1 : starEach [e] X.env = [(false, eval e X.env)] := by rfl) :
    PI X (.Tuple elts kk tpos) (.Call (.Name "enumerate" p) [e] [] pos) (denI g W (iEnum me)) := by
  refine ⟨fun pins s σ H Rr I ⟨env, cs, as, sa, h⟩ => ?_⟩
  have ha : PA X [e] (tCons (den g W me) tNil) := pa_cons he pa_nil hs
  unfold iEnum at h
  cases q : me env cs with
  | no => rw [q] at h; exact h.elim
  | ex x cs1 =>
    rw [q] at h
    refine (pi_enum hg hm ha hs1).run pins s σ H Rr I ⟨env, cs, as, sa, ?_⟩
    rw [q]
    exact h
  | ok a cs1 =>
    rw [q] at h
    simp only [R.bind_ok] at h
    split at h
    · refine (pi_enum hg hm ha hs1).run pins s σ H Rr I ⟨env, cs, as, sa, ?_⟩
      rw [q]
      refine fun as' H' hs' e' v r => ?_
      rename_i ds
      have r' : Dq g.K (dat cs1 as' H') v (.list ds) := r
      cases r' with
      | lst h1 h2 => exact ⟨_, _, rfl, SqL.of (dat_le _ _ h1), h as' H' hs' e' _ (by rw [hK]; exact walk_enum_list h1 h2)⟩
    · refine (pi_enumT hg hm ha hs1).run pins s σ H Rr I ⟨env, cs, as, sa, ?_⟩
      rw [q]
      refine fun as' H' hs' e' v r => ?_
      rename_i ds
      have r' : Dq g.K (dat cs1 as' H') v (.tuple ds) := r
      cases r' with
      | tup h1 h2 => exact ⟨_, _, rfl, by rw [hK]; exact Le.sqT dat_le h1, h as' H' hs' e' _ (by rw [hK]; exact walk_enum_tup h1 h2)⟩
    · exact h.elim
end
end Sh
namespace Sh
open PySem L2
/-! ### list comprehensions -/
abbrev WF : WX := fun _ _ _ _ => False
theorem wipe_set {σ : St} {i : Nat} {x : Option V} : ∀ {vs : List Nat}, i ∈ vs → L2.wipe (σ.set i x) vs = L2.wipe σ vs
  | v :: vs, h => by
    unfold L2.wipe
    rcases List.mem_cons.mp h with rfl | h
    · by_cases hm : i ∈ vs
      · rw [wipe_set hm]
      · have key : ∀ (ws : List Nat) (σ : St), i ∉ ws → L2.wipe (σ.set i x) ws = (L2.wipe σ ws).set i x := fun ws => by
          induction ws with
          | nil => intro σ _; rfl
          | cons w ws ih =>
            intro σ hn
            unfold L2.wipe
            rw [ih σ (fun z => hn (List.mem_cons_of_mem _ z)), List.set_comm _ _ (fun e => hn (by rw [e]; exact List.mem_cons_self))]
        rw [key vs σ hm, List.set_set]
    · rw [wipe_set h]
theorem Sat.wipe2 {g : G} {cs : CS} {as : AS} {H : Hp} : ∀ (fg : List Nat) {env : Env} {σ : St}, Sat g cs as H env σ → Sat g cs as H (wipeE fg.reverse env) (L2.wipe σ fg) := by
  intro fg
  induction fg with
  | nil => intro env σ s; exact s
  | cons v fg ih =>
    intro env σ s
    have k := ih s
    have e : wipeE (v :: fg).reverse env = (wipeE fg.reverse env).set v none := by
      unfold wipeE
      rw [List.reverse_cons, List.foldl_append]
      rfl
    rw [e]
    unfold L2.wipe
    refine ⟨k.hs, by rw [List.length_set, List.length_set]; exact k.len, fun j x q => ?_⟩
    rcases get_set q with ⟨rfl, e1, hl⟩ | ⟨ne, e1⟩
    · cases e1
    · obtain ⟨w, h1, h2⟩ := k.slots j x e1
      exact ⟨w, by rw [List.getElem?_set_ne (Ne.symm ne)]; exact h1, h2⟩
/-- targets that store the block's own names alone -/
def denF (g : G) (fr : List Nat) (tg : Tgt) : TG := fun v σ H Q => ∃ env cs as a env', Sat g cs as H env σ ∧ RepA g cs as H v a ∧ tg a env cs = some env' ∧ ∀ σ', Sat g cs as H env' σ' → L2.wipe σ' fr = L2.wipe σ fr → Q σ' H
def denFs (g : G) (fr : List Nat) (tg : Tgts) : TGs := fun vs σ H Q => ∃ env cs as ds env', Sat g cs as H env σ ∧ DqAll g.K (dat cs as H) vs ds ∧ tg ds env cs = some env' ∧ ∀ σ', Sat g cs as H env' σ' → L2.wipe σ' fr = L2.wipe σ fr → Q σ' H
section
variable {X : Cx} {g : G} {pos : Pos} {tg : Tgt} {tgs : Tgts} {fr : List Nat}
theorem sf_name {i : Nat} {x : Str} (hN : X.N.Nodup) (hi : X.N[i]? = some x) (hx : Loc X.env.scope x) (hfr : i ∈ fr) (hf : X.fn x = true ∨ X.env.scope.names.lookup x = some .local := by first | exact .inl rfl | exact .inr rfl | assumption) : PG X (.Name x pos) (denF g fr (tgName i)) :=
  pg_imp (pg_name hN hi hx hf) fun v σ H Q ⟨env, cs, as, a, env', s, r, e, h⟩ => by
    obtain rfl := Option.some.inj e
    exact h _ (s.set r) (wipe_set hfr)
theorem sfs_nil : PGs X [] (denFs g fr tgNil) := pgs_imp pgs_nil fun v σ H Q ⟨env, cs, as, ds, env', s, r, e, h⟩ => by
  cases ds with
  | nil =>
    obtain rfl := Option.some.inj e
    cases r
    exact ⟨rfl, h _ s rfl⟩
  | cons d r => cases e
theorem sfs_cons {e : Expr} {es : List Expr} (h1 : PG X e (denF g fr tg)) (h2 : PGs X es (denFs g fr tgs)) (hs : (assignEach (e :: es) X.env).map (·.2) = assign e X.env :: (assignEach es X.env).map (·.2) := by rfl) : PGs X (e :: es) (denFs g fr (tgCons tg tgs)) :=
  pgs_imp (pgs_cons h1 h2 hs) fun v σ H Q ⟨env, cs, as, ds, env', s, r, e, h⟩ => by
    cases ds with
    | nil => cases e
    | cons d ds =>
      cases r with
      | cons r1 r2 =>
        have e' : (tg (.d d) env cs).bind (fun env1 => tgs ds env1 cs) = some env' := e
        cases q : tg (.d d) env cs with
        | none => rw [q] at e'; cases e'
        | some env1 =>
          rw [q] at e'
          exact ⟨_, _, rfl, env, cs, as, .d d, env1, s, r1, q, fun σ' s' w1 => ⟨env1, cs, as, ds, env', s', r2, e', fun σ2 s2 w2 => h σ2 s2 (w2.trans w1)⟩⟩
theorem sf_tup {es : List Expr} {k : Nat} {n : Nat} (hK : X.K = g.K) (hc : X.calm = true) (h : PGs X es (denFs g fr tgs)) (hn : (assignEach es X.env).length = n := by rfl) (hst : (assignEach es X.env).findIdx? (·.1) = none := by rfl) : PG X (.Tuple es k pos) (denF g fr (tgTup n tgs)) :=
  pg_imp (pg_tup hc h hn hst) fun v σ H Q ⟨env, cs, as, a, env', s, r, e, q⟩ => by
    unfold tgTup at e
    split at e
    · split at e
      · rename_i ds hl
        have r' : Dq g.K (dat cs as H) v (.tuple ds) := r
        cases r' with
        | tup h1 h2 => exact ⟨_, _, rfl, by rw [hK]; exact Le.sqT dat_le h1, (DqAll.length h2).trans hl, env, cs, as, ds, env', s, h2, e, q⟩
      · cases e
    · cases e
end
/-- a value as plain data, where no cell is given up -/
def asD : A → Option PyData
  | .d x => some x
  | _ => none
def noEx {α : Type} (r : R α) : R α := match r with
  | .ex _ _ => .no
  | r => r
@[simp] theorem noEx_ok {α : Type} (a : α) (cs : CS) : noEx (R.ok a cs) = R.ok a cs := rfl
def lcIt (tg : Tgt) (t : MT) (e : ME) (env : Env) : List A → CS → R (List PyData)
  | [], cs => .ok [] cs
  | x :: xs, cs => match tg x env cs with
    | none => .no
    | some env1 => (noEx (t env1 cs)).bind fun b cs1 => if b = true then
        (noEx (e env1 cs1)).bind fun a cs2 => match asD a with
          | none => .no
          | some y => (lcIt tg t e env xs cs2).bind fun ys cs3 => .ok (y :: ys) cs3
      else lcIt tg t e env xs cs1
/-- over a cell's list, as it stands at each turn (it must stay as long as it was) -/
def lcS (tg : Tgt) (t : MT) (e : ME) (env : Env) (cs : CS) : Src → R (List PyData)
  | .it xs => if xs.length ≤ sizeLine then lcIt tg t e env xs cs else .no
  | .cell _ => .no
/-- fr: the block's own slots, in the turned sequence -/
def eLc (fr : List Nat) (src : MI) (tg : Tgt) (t : MT) (e : ME) : ME := fun env cs => (src env cs).bind fun s cs1 => (lcS tg t e (wipeE fr.reverse env) cs1 s).bind fun ys cs2 => .ok (.d (.list ys)) cs2
def tYesM : MT := fun _ cs => .ok true cs
section
variable {g : G} {cs : CS} {as : AS} {H : Hp}
/-- the hidden list is written -/
theorem Hs.hidSet {p : Addr} {o : HO} (s : Hs g cs as H) (hp : p ∈ as.hid) : Hs g cs as (upd H p o) ∧ (∀ a u, dat cs as H a = some u → dat cs as (upd H p o) a = some u) := by
  have dd : ∀ a u, dat cs as H a = some u → dat cs as (upd H p o) a = some u := fun a u h => by
    obtain ⟨h1, h2⟩ := dat_some.mp h
    have ne : a ≠ p := fun e => h1 (.inr (by rw [e]; exact hp))
    exact dat_some.mpr ⟨h1, by rw [upd_ne ne]; exact h2⟩
  refine ⟨⟨s.len, s.inj, fun i c a e1 e2 => ?_, s.apart, fun a ha => ?_⟩, dd⟩
  · by_cases hd : c = .dead
    · subst hd; trivial
    · have ne : a ≠ p := fun e => s.apart i c a e1 hd e2 (by rw [e]; exact hp)
      have k := s.cells i c a e1 e2
      cases c with
      | dead => trivial
      | lst xs => obtain ⟨vs, q, r⟩ := k; exact ⟨vs, by rw [upd_ne ne]; exact q, DqAll.le dd r⟩
      | dk xs => obtain ⟨vs, q, r⟩ := k; exact ⟨vs, by rw [upd_ne ne]; exact q, Paired.mono (fun _ _ z => ⟨z.1, Dq.le dd z.2⟩) r⟩
      | dt xs =>
        obtain ⟨vs, q, r⟩ := k
        exact ⟨vs, by rw [upd_ne ne]; exact q, Paired.mono (fun _ _ z => ⟨z.1, Dq.le dd z.2⟩) r⟩
  · by_cases e : a = p
    · exact ⟨o, by rw [e]; exact upd_same⟩
    · obtain ⟨u, q⟩ := s.there a ha
      exact ⟨u, by rw [upd_ne e]; exact q⟩
end
theorem wipe_get {σ : St} {j : Nat} : ∀ {fr : List Nat}, j ∈ fr → j < σ.length → (L2.wipe σ fr)[j]? = some none
  | v :: fr, h, hl => by
    unfold L2.wipe
    by_cases e : v = j
    · subst e
      rw [List.getElem?_set_self (by rw [L2.wipe_length]; exact hl)]
    · rw [List.getElem?_set_ne e]
      rcases List.mem_cons.mp h with q | q
      · exact absurd q.symm e
      · exact wipe_get q hl
theorem wipe_idem {σ : St} {fr : List Nat} : L2.wipe (L2.wipe σ fr) fr = L2.wipe σ fr := by
  have key : ∀ (ws : List Nat) (τ : St), τ.length = σ.length → (∀ j ∈ ws, j < σ.length → τ[j]? = some none) → L2.wipe τ ws = τ := fun ws => by
    induction ws with
    | nil => intro τ _ _; rfl
    | cons w ws ih =>
      intro τ hl h
      unfold L2.wipe
      rw [ih τ hl fun j hj => h j (List.mem_cons_of_mem _ hj)]
      by_cases hw : w < τ.length
      · have q := h w List.mem_cons_self (by rw [← hl]; exact hw)
        apply List.ext_getElem?
        intro k
        by_cases e : w = k
        · subst e; rw [List.getElem?_set_self hw, q]
        · rw [List.getElem?_set_ne e]
      · rw [List.set_eq_of_length_le (by omega)]
  exact key fr _ (L2.wipe_length σ fr) fun j hj hl => wipe_get hj hl
theorem exn_upd {cs cs1 : CS} {as as1 : AS} {H H1 : Hp} {p : Addr} {o : HO} (hp : p ∈ as.hid) (e : Exn cs as H cs1 as1 H1) : Exn cs as (upd H p o) cs1 as1 (upd H1 p o) := by
  refine ⟨e.pre, fun a u q => ?_, e.hid, fun a ha => ?_⟩
  · obtain ⟨q1, q2⟩ := dat_some.mp q
    have ne : a ≠ p := fun z => q1 (.inr (by rw [z]; exact hp))
    rw [upd_ne ne] at q2
    obtain ⟨q3, q4⟩ := dat_some.mp (e.dat a u (dat_some.mpr ⟨q1, q2⟩))
    exact dat_some.mpr ⟨q3, by rw [upd_ne ne]; exact q4⟩
  · by_cases z : a = p
    · rw [z, upd_same, upd_same]
    · rw [upd_ne z, upd_ne z]
      exact e.kept a ha
section
variable {X : Cx} {g : G} {W : WX} {mi : MI} {tg : Tgt} {mt : MT} {me : ME}
theorem post_noEx {α : Type} {σ : St} {cs : CS} {as : AS} {H : Hp} {P : α → CS → AS → Hp → Prop} {r : R α} (h : Post g W σ cs as H P (noEx r)) : Post g WF σ cs as H P r := by
  cases r with
  | ok a cs' => exact h
  | ex e cs' => exact h.elim
  | no => exact h
theorem den_lc {fr : List Nat} {σ : St} {H : Hp} {Q : VK} (h : den g W (eLc fr mi tg mt me) σ H Q) : tLc (denI g W mi) (denF g fr tg) (denT g WF mt) (den g WF me) fr σ H Q := by
  obtain ⟨env, cs, as, s, h⟩ := h
  refine ⟨env, cs, as, s, (Post.bind h).mono fun src cs0 as0 H0 hs0 e0 h0 J hJ D hD => ?_⟩
  cases src with
  | cell n => exact h0.elim
  | it xs =>
    have hJ : WalkIt g J cs0 as0 H0 xs := hJ
    have h0' : PostA g W σ cs0 as0 H0 Q ((if xs.length ≤ sizeLine then lcIt tg mt me (wipeE fr.reverse env) xs cs0 else R.no).bind fun ys cs2 => R.ok (A.d (.list ys)) cs2) := h0
    split at h0'
    case isFalse => exact h0'.elim
    rename_i hsz
    have s0 := s.exn hs0 e0
    obtain ⟨hh, hd⟩ := hs0.hide (o := .lst []) hD
    have sw := s0.wipe2 fr
    -- the state at turn i
    refine ⟨fun i m H' => i ≤ xs.length ∧ m = xs.length - i ∧ ∃ cs1 as1 acc vs, as1.hid = D :: as0.hid ∧ Sat g cs1 as1 H' (wipeE fr.reverse env) (L2.wipe σ fr) ∧ Exn cs0 ⟨as0.l, D :: as0.hid⟩ (upd H0 D (.lst [])) cs1 as1 (upd H' D (.lst [])) ∧
        H' D = some (.lst vs) ∧ DqAll g.K (dat cs1 as1 H') vs acc ∧ acc.length ≤ i ∧ PostA g W σ cs0 as0 H0 Q ((lcIt tg mt me (wipeE fr.reverse env) (xs.drop i) cs1).bind fun ys cs2 => R.ok (A.d (.list (acc ++ ys))) cs2), ⟨_, Nat.zero_le _, rfl, cs0, ⟨as0.l, D :: as0.hid⟩, [], [], rfl, ?_, ?_, upd_same, .nil, Nat.le_refl _, h0'⟩, ?_⟩
    · refine ⟨hh, sw.len, fun j x q => ?_⟩
      obtain ⟨v, q1, q2⟩ := sw.slots j x q
      refine ⟨v, q1, ?_⟩
      cases x with
      | d y => exact Dq.le (fun a o z => (hd a o).mp z) q2
      | c n => exact q2
      | s ns => obtain ⟨a, e1, e2⟩ := q2; exact ⟨a, e1, Le.sqL (fun a o z => (hd a o).mp z) e2⟩
    · rw [upd_upd]
      exact Exn.refl
    · rintro i m H1 ⟨hi, rfl, cs1, as1, acc, vs, eh, s1, e1, hv, rv, hl, h1⟩
      have hDm : D ∈ as1.hid := by rw [eh]; exact List.mem_cons_self
      -- what stood at the beginning stands now
      have exb : ∀ {cs2 : CS} {as2 : AS} {H2 : Hp}, Exn cs1 as1 H1 cs2 as2 H2 → Exn cs0 as0 H0 cs2 ⟨as2.l, as0.hid⟩ H2 := fun {cs2 as2 H2} e2 => by
        refine ⟨fun n a q => e2.pre n a (e1.pre n a q), fun a o q => ?_, rfl, fun a ha => ?_⟩
        · have ne : a ≠ D := ne_of_none (dat_some.mp q).2 hD
          have q1 := e1.dat a o ((hd a o).mp q)
          obtain ⟨q2, q3⟩ := dat_some.mp q1
          rw [upd_ne ne] at q3
          have q4 := e2.dat a o (dat_some.mpr ⟨q2, q3⟩)
          obtain ⟨q5, q6⟩ := dat_some.mp q4
          refine dat_some.mpr ⟨fun l => q5 (l.imp id fun z => ?_), q6⟩
          rw [e2.hid, eh]
          exact List.mem_cons_of_mem _ z
        · have ne : a ≠ D := fun z => by
            obtain ⟨o, q⟩ := hs0.there a ha
            rw [z, hD] at q; cases q
          have k1 := e1.kept a (List.mem_cons_of_mem _ ha)
          rw [upd_ne ne, upd_ne ne] at k1
          exact (e2.kept a (by rw [eh]; exact List.mem_cons_of_mem _ ha)).trans k1
      have shw : ∀ {cs2 : CS} {as2 : AS} {H2 : Hp}, Hs g cs2 as2 H2 → as2.hid = D :: as0.hid → Hs g cs2 ⟨as2.l, as0.hid⟩ H2 ∧ Le (dat cs2 as2 H2) (dat cs2 ⟨as2.l, as0.hid⟩ H2) := fun {cs2 as2 H2} hs2 eh2 => by
        have q : as2 = ⟨as2.l, D :: as0.hid⟩ := by rw [← eh2]
        rw [q] at hs2 ⊢
        exact hs2.show
      obtain ⟨sh1, sl1⟩ := shw s1.hs eh
      have le1 : Le (dat cs0 as0 H0) (dat cs1 as1 H1) := fun a o q => by
        have ne : a ≠ D := ne_of_none (dat_some.mp q).2 hD
        obtain ⟨q2, q3⟩ := dat_some.mp (e1.dat a o ((hd a o).mp q))
        rw [upd_ne ne] at q3
        exact dat_some.mpr ⟨q2, q3⟩
      by_cases hlt : i < xs.length
      case neg =>
        have e : i = xs.length := by omega
        subst e
        rw [List.drop_length] at h1
        have h1' : PostA g W σ cs0 as0 H0 Q (R.ok (A.d (.list (acc ++ []))) cs1) := h1
        rw [List.append_nil] at h1'
        refine .inl ⟨hJ.stops cs1 as1 H1 s1.hs le1, h1' ⟨as1.l, as0.hid⟩ H1 sh1 (exb Exn.refl) _ (.lst ?_ (DqAll.le sl1 rv))⟩
        refine dat_some.mpr ⟨fun l => ?_, hv⟩
        rcases l with ⟨j, c, f1, f2, f3⟩ | l
        · exact s1.hs.apart j c D f1 f2 f3 hDm
        · obtain ⟨o, q⟩ := hs0.there D l
          rw [hD] at q; cases q
      case pos =>
        refine .inr ⟨hJ.goes i cs1 as1 H1 s1.hs le1 hlt, ?_⟩
        rw [List.drop_eq_getElem_cons hlt] at h1
        -- the next state
        refine ⟨fun H' => ∃ cs1 as1 acc vs, as1.hid = D :: as0.hid ∧ Sat g cs1 as1 H' (wipeE fr.reverse env) (L2.wipe σ fr) ∧ Exn cs0 ⟨as0.l, D :: as0.hid⟩ (upd H0 D (.lst [])) cs1 as1 (upd H' D (.lst [])) ∧
            H' D = some (.lst vs) ∧ DqAll g.K (dat cs1 as1 H') vs acc ∧ acc.length ≤ i + 1 ∧ PostA g W σ cs0 as0 H0 Q ((lcIt tg mt me (wipeE fr.reverse env) (xs.drop (i + 1)) cs1).bind fun ys cs2 => R.ok (A.d (.list (acc ++ ys))) cs2),
          fun H' hn => ⟨xs.length - (i + 1), by omega, hlt, rfl, hn⟩, fun x H2 hy => ?_⟩
        obtain ⟨hs2, e2, a, ea, ra⟩ := hJ.yields i cs1 as1 H1 x H2 s1.hs le1 hlt hy
        rw [List.getElem?_eq_getElem hlt] at ea
        obtain rfl := Option.some.inj ea
        have h1' : PostA g W σ cs0 as0 H0 Q ((match tg xs[i] (wipeE fr.reverse env) cs1 with
          | none => R.no
          | some env1 => (noEx (mt env1 cs1)).bind fun b cs1 => if b = true then
              (noEx (me env1 cs1)).bind fun a cs2 => match asD a with
                | none => R.no
                | some y => (lcIt tg mt me (wipeE fr.reverse env) (xs.drop (i + 1)) cs2).bind fun ys cs3 => R.ok (y :: ys) cs3
            else lcIt tg mt me (wipeE fr.reverse env) (xs.drop (i + 1)) cs1).bind fun ys cs2 => R.ok (A.d (.list (acc ++ ys))) cs2) := h1
        cases q : tg xs[i] (wipeE fr.reverse env) cs1 with
        | none => simp only [q] at h1'; exact h1'.elim
        | some env1 =>
          simp only [q] at h1'
          refine ⟨_, cs1, as1, _, env1, s1.exn hs2 e2, ra, q, fun σ' s' w' => ⟨w'.trans wipe_idem, env1, cs1, as1, s', ?_⟩⟩
          cases qt : mt env1 cs1 with
          | no => simp only [qt] at h1'; exact h1'.elim
          | ex z cs2 => simp only [qt] at h1'; exact h1'.elim
          | ok b cs2 =>
            simp only [qt, noEx_ok, R.bind_ok] at h1'
            refine fun as2 H3 hs3 e3 => ?_
            have e23 := e2.trans e3
            have kD : H3 D = H1 D := e23.kept D hDm
            cases b with
            | false =>
              have h1' : PostA g W σ cs0 as0 H0 Q ((lcIt tg mt me (wipeE fr.reverse env) (xs.drop (i + 1)) cs2).bind fun ys cs2 => R.ok (A.d (.list (acc ++ ys))) cs2) := h1'
              exact ⟨cs2, as2, acc, vs, e23.hid.trans eh, s1.exn hs3 e23, e1.trans (exn_upd hDm e23), kD.trans hv, DqAll.le e23.dat rv, Nat.le_succ_of_le hl, h1'⟩
            | true =>
              have h1' : PostA g W σ cs0 as0 H0 Q (((noEx (me env1 cs2)).bind fun a cs2 => match asD a with
                | none => R.no
                | some y => (lcIt tg mt me (wipeE fr.reverse env) (xs.drop (i + 1)) cs2).bind fun ys cs3 => R.ok (y :: ys) cs3).bind fun ys cs2 => R.ok (A.d (.list (acc ++ ys))) cs2) := h1'
              refine ⟨env1, cs2, as2, s'.exn hs3 e3, ?_⟩
              cases qe : me env1 cs2 with
              | no => simp only [qe] at h1'; exact h1'.elim
              | ex z cs3 => simp only [qe] at h1'; exact h1'.elim
              | ok a cs3 =>
                simp only [qe, noEx_ok, R.bind_ok] at h1'
                cases qa : asD a with
                | none => simp only [qa] at h1'; exact h1'.elim
                | some y =>
                  simp only [qa] at h1'
                  refine fun as3 H4 hs4 e4 v rv4 => ?_
                  have e234 := e23.trans e4
                  have kD4 : H4 D = H1 D := e234.kept D hDm
                  have hDm4 : D ∈ as3.hid := by rw [e234.hid]; exact hDm
                  obtain ⟨hw, dw⟩ := hs4.hidSet (o := .lst (vs ++ [v])) hDm4
                  have ry : Dq g.K (dat cs3 as3 H4) v y := by
                    cases a with
                    | d z => obtain rfl := Option.some.inj qa; exact rv4
                    | c n => cases qa
                    | s n => cases qa
                  refine ⟨vs, kD4.trans hv, by rw [DqAll.length rv]; omega, cs3, as3, acc ++ [y], vs ++ [v], e234.hid.trans eh, ?_, ?_, upd_same, DqAll.le dw (DqAll.append (DqAll.le e234.dat rv) (.cons ry .nil)), by rw [List.length_append]; exact Nat.succ_le_succ hl, ?_⟩
                  · have k := s1.exn hs4 e234
                    refine ⟨hw, k.len, fun j x q => ?_⟩
                    obtain ⟨w, q1, q2⟩ := k.slots j x q
                    refine ⟨w, q1, ?_⟩
                    cases x with
                    | d y => exact Dq.le dw q2
                    | c n => exact q2
                    | s ns => obtain ⟨a, f1, f2⟩ := q2; exact ⟨a, f1, Le.sqL dw f2⟩
                  · rw [upd_upd]
                    exact e1.trans (exn_upd hDm e234)
                  · have assoc : ((lcIt tg mt me (wipeE fr.reverse env) (xs.drop (i + 1)) cs3).bind fun ys cs3 => R.ok (y :: ys) cs3).bind (fun ys cs2 => R.ok (A.d (.list (acc ++ ys))) cs2) = (lcIt tg mt me (wipeE fr.reverse env) (xs.drop (i + 1)) cs3).bind fun ys cs2 => R.ok (A.d (.list ((acc ++ [y]) ++ ys))) cs2 := by
                      cases lcIt tg mt me (wipeE fr.reverse env) (xs.drop (i + 1)) cs3 with
                      | ok ys cs4 => simp only [R.bind_ok, List.append_assoc, List.singleton_append]
                      | ex _ _ => rfl
                      | no => rfl
                    rw [assoc] at h1'
                    exact h1'
end
end Sh
namespace Sh
open PySem L2 PySem.Spec PyProof.Rows
/-! ### list comprehensions, the rules -/
section
variable {X : Cx} {g : G} {W : WX} {mi : MI} {tg : Tgt} {mt : MT} {me : ME}
theorem sts_nil : PTs X [] (denT g W tYesM) := ⟨fun pins s σ H Q I ⟨env, cs, as, sa, h⟩ => pts_nil.run pins s σ H Q I (h as H sa.hs Exn.refl)⟩
theorem sts_one {c : Expr} (h : PT X c (denT g W mt)) : PTs X [c] (denT g W mt) := pts_one h
theorem se_lc {elt tge iter : Expr} {ifs : List Expr} {scope : Scope} {own : List (Str × Nat)} {pos : Pos} (hc : X.calm = true) (hN : X.N.Nodup) (hi : PI X tge iter (denI g W mi)) (ok : BlkOk X.N X.env.scope scope own)
    (hg : ∀ (s : Shared) (H : Hp) (C : Addr) (cl : List (Str × Addr)) (fp : List Addr), PG (X.blk s H scope (compEnvC scope cl C X.env) fp) tge (denF g (own.map (·.2)) tg)) (ht : ∀ (s : Shared) (H : Hp) (C : Addr) (cl : List (Str × Addr)) (fp : List Addr), PTs (X.blk s H scope (compEnvC scope cl C X.env) fp) ifs (denT g WF mt))
    (he : ∀ (s : Shared) (H : Hp) (C : Addr) (cl : List (Str × Addr)) (fp : List Addr), PE (X.blk s H scope (compEnvC scope cl C X.env) fp) elt (den g WF me)) (hs : ∀ x, foldedSetIterable iter X.env x = pure x := by intro _; rfl) :
    PE X (.ListComp elt [⟨tge, iter, ifs, 0⟩] scope pos) (den g W (eLc (own.map (·.2)) mi tg mt me)) :=
  pe_imp (pe_lc hc hN hi ok hg ht he hs) fun _ _ _ => den_lc
theorem ss_setLc {i : Nat} {y : Str} {py : Pos} {elt tge iter : Expr} {ifs : List Expr} {scope : Scope} {own : List (Str × Nat)} {pos spos : Pos} (hc : X.calm = true) (hN : X.N.Nodup) (hy : X.N[i]? = some y) (hyl : X.env.scope.names.lookup y = some .local)
    (hsw : swapsWith (.ListComp elt [⟨tge, iter, ifs, 0⟩] scope pos) (some (.Name y py)) spos.line X.env = pure true) (hi : PI X tge iter (denI g W mi)) (ok : BlkOk X.N X.env.scope scope own)
    (hg : ∀ (s : Shared) (H : Hp) (C : Addr) (cl : List (Str × Addr)) (fp : List Addr), PG (X.blk s H scope (compEnvC scope cl C X.env) fp) tge (denF g (own.map (·.2)) tg)) (ht : ∀ (s : Shared) (H : Hp) (C : Addr) (cl : List (Str × Addr)) (fp : List Addr), PTs (X.blk s H scope (compEnvC scope cl C X.env) fp) ifs (denT g WF mt))
    (he : ∀ (s : Shared) (H : Hp) (C : Addr) (cl : List (Str × Addr)) (fp : List Addr), PE (X.blk s H scope (compEnvC scope cl C X.env) fp) elt (den g WF me)) (hs : ∀ x, foldedSetIterable iter X.env x = pure x := by intro _; rfl) :
    PS X (.Assign [.Name y py] (.ListComp elt [⟨tge, iter, ifs, 0⟩] scope pos) spos) (denS g W (sAsg (eLc (own.map (·.2)) mi tg mt me) (tgName i))) :=
  ps_imp (ps_setLc hc hN hy hyl hsw hi ok hg ht he hs) fun D σ H ⟨env, cs, as, s, h⟩ =>
    den_lc ⟨env, cs, as, s, (post_toS s h).mono fun a cs1 as1 H1 hs1 e1 h1 v rv => h1 _ as1 H1 ((s.exn hs1 e1).set rv) Exn.refl⟩
end

/-! ### a def's body -/
/-- what a def hands back: the cells that it made are let go, but one that is handed back -/
def fin (cs cs' : CS) : A → R A
  | .d x => .ok (.d x) (cs'.take cs.length)
  | .s ns => .ok (.s ns) (cs'.take cs.length)
  | .c n => if n < cs.length then .ok (.c n) (cs'.take cs.length) else match cs'[n]? with
    | some (.lst xs) => .ok (.c cs.length) (cs'.take cs.length ++ [.lst xs])
    | some (.dk kvs) => .ok (.c cs.length) (cs'.take cs.length ++ [.dk kvs])
    | some (.dt kvs) => .ok (.c cs.length) (cs'.take cs.length ++ [.dt kvs])
    | _ => .no
def runBody (N : Nat) (m : MS) : Fn := fun xs cs => match m (xs.map some ++ List.replicate (N - xs.length) none) cs with
  | .rt a cs' => if cs.length ≤ cs'.length then fin cs cs' a else .no
  | .nx _ cs' => if cs.length ≤ cs'.length then fin cs cs' (.d .none) else .no
  | .ex e _ cs' => if cs.length ≤ cs'.length then .ex e (cs'.take cs.length) else .no
  | _ => .no
section
variable {g : G} {cs cs' : CS} {as as' : AS} {H H' : Hp}
theorem exn_take (s : Hs g cs as H) (e : Exn cs as H cs' as' H') (l : Le (dat cs' as' H') (dat (cs'.take cs.length) ⟨as'.l.take cs.length, as'.hid⟩ H')) : Exn cs as H (cs'.take cs.length) ⟨as'.l.take cs.length, as'.hid⟩ H' :=
  ⟨fun n a q => by
    have hn := (List.getElem?_eq_some_iff.mp q).1
    rw [s.len] at hn
    exact take_of hn (e.pre n a q), fun a o q => l a o (e.dat a o q), e.hid, e.kept⟩
/-- a cell kept at the end -/
theorem Hs.keep (s : Hs g cs' as' H') {k n : Nat} {c : Cell} {p : Addr} (hk : k ≤ cs'.length) (hn : k ≤ n) (hc : cs'[n]? = some c) (h0 : c ≠ .dead) (ha : as'.l[n]? = some p) :
    Hs g (cs'.take k ++ [c]) ⟨as'.l.take k ++ [p], as'.hid⟩ H' ∧ Le (dat cs' as' H') (dat (cs'.take k ++ [c]) ⟨as'.l.take k ++ [p], as'.hid⟩ H') := by
  have lk : (cs'.take k).length = k := by rw [List.length_take]; omega
  have la : (as'.l.take k).length = k := by rw [List.length_take, s.len]; omega
  have key : ∀ {i : Nat} {c1 : Cell} {a : Addr}, (cs'.take k ++ [c])[i]? = some c1 → (as'.l.take k ++ [p])[i]? = some a → (i < k ∧ cs'[i]? = some c1 ∧ as'.l[i]? = some a) ∨ (i = k ∧ c1 = c ∧ a = p) := fun {i c1 a} e1 a1 => by
    rcases getElem?_snoc e1 with ⟨hi, e1⟩ | ⟨hi, e1⟩
    · rcases getElem?_snoc a1 with ⟨_, a1⟩ | ⟨hj, a1⟩
      · exact .inl ⟨by omega, (take_get e1).2, (take_get a1).2⟩
      · omega
    · rcases getElem?_snoc a1 with ⟨hj, a1⟩ | ⟨hj, a1⟩
      · omega
      · exact .inr ⟨by omega, e1, a1⟩
  have dd : Le (dat cs' as' H') (dat (cs'.take k ++ [c]) ⟨as'.l.take k ++ [p], as'.hid⟩ H') := fun a o z => by
    obtain ⟨z1, z2⟩ := dat_some.mp z
    refine dat_some.mpr ⟨fun l' => z1 (l'.imp (fun ⟨i, c1, e1, n1, e2⟩ => ?_) id), z2⟩
    rcases key e1 e2 with ⟨_, f1, f2⟩ | ⟨_, f1, f2⟩
    · exact ⟨i, c1, f1, n1, f2⟩
    · exact ⟨n, c, hc, h0, by rw [f2]; exact ha⟩
  refine ⟨⟨by show (as'.l.take k ++ [p]).length = _; rw [List.length_append, List.length_append, lk, la] <;> rfl, fun i j a c1 c2 e1 n1 e2 n2 a1 a2 => ?_, fun i c1 a e1 e2 => ?_, fun i c1 a e1 n1 a1 => ?_, s.there⟩, dd⟩
  · rcases key e1 a1 with ⟨h1, f1, b1⟩ | ⟨h1, f1, b1⟩
    · rcases key e2 a2 with ⟨h2, f2, b2⟩ | ⟨h2, f2, b2⟩
      · exact s.inj i j a c1 c2 f1 n1 f2 n2 b1 b2
      · have := s.inj i n a c1 c f1 n1 hc h0 b1 (by rw [b2]; exact ha)
        omega
    · rcases key e2 a2 with ⟨h2, f2, b2⟩ | ⟨h2, f2, b2⟩
      · have := s.inj j n a c2 c f2 n2 hc h0 b2 (by rw [b1]; exact ha)
        omega
      · omega
  · rcases key e1 e2 with ⟨h1, f1, b1⟩ | ⟨h1, f1, b1⟩
    · exact (s.cells i c1 a f1 b1).le dd
    · rw [f1, b1]; exact (s.cells n c p hc ha).le dd
  · rcases key e1 a1 with ⟨h1, f1, b1⟩ | ⟨h1, f1, b1⟩
    · exact s.apart i c1 a f1 n1 b1
    · rw [b1]; exact s.apart n c p hc h0 ha
theorem rep_len {v : V} {a : A} {n : Nat} (r : RepA g cs as H v (.c n)) (s : Hs g cs as H) : n < cs.length := by
  obtain ⟨p, e, _⟩ := r
  rw [← s.len]
  exact (List.getElem?_eq_some_iff.mp e).1
theorem post_fin {W : WX} {σ : L2.St} {Q : VK} {a : A} {v : V} (s : Hs g cs as H) (hl : cs.length ≤ cs'.length) (h : PostA g W σ cs as H Q (fin cs cs' a)) (s' : Hs g cs' as' H') (e : Exn cs as H cs' as' H') (r : RepA g cs' as' H' v a) : Q v H' := by
  obtain ⟨st, lt⟩ := s'.take cs.length
  have et := exn_take s e lt
  cases a with
  | d x => exact h ⟨as'.l.take cs.length, as'.hid⟩ H' st et v (Dq.le lt r)
  | s ns =>
    obtain ⟨p, e1, e2⟩ := r
    exact h ⟨as'.l.take cs.length, as'.hid⟩ H' st et v ⟨p, e1, Le.sqL lt e2⟩
  | c n =>
    obtain ⟨p, e1, rfl⟩ := r
    unfold fin at h
    simp only at h
    split at h
    · rename_i hn
      exact h ⟨as'.l.take cs.length, as'.hid⟩ H' st et _ ⟨p, take_of hn e1, rfl⟩
    · rename_i hn
      have go : ∀ c : Cell, cs'[n]? = some c → c ≠ .dead → PostA g W σ cs as H Q (.ok (.c cs.length) (cs'.take cs.length ++ [c])) → Q (.ref p) H' := fun c hc h0 hp => by
        obtain ⟨sk, lk⟩ := s'.keep hl (Nat.le_of_not_lt hn) hc h0 e1
        have lt' : (as'.l.take cs.length).length = cs.length := by rw [List.length_take, s'.len]; omega
        refine hp ⟨as'.l.take cs.length ++ [p], as'.hid⟩ H' sk ⟨fun i b q => getElem?_left (et.pre i b q), fun b o q => lk b o (e.dat b o q), e.hid, e.kept⟩ _ ⟨p, ?_, rfl⟩
        show (as'.l.take cs.length ++ [p])[cs.length]? = some p
        rw [List.getElem?_append_right (by omega), lt', Nat.sub_self] <;> rfl
      split at h
      · rename_i xs q; exact go _ q (fun z => nomatch z) h
      · rename_i xs q; exact go _ q (fun z => nomatch z) h
      · rename_i xs q; exact go _ q (fun z => nomatch z) h
      · exact h.elim
theorem sat_start {xs : List A} {vs : List V} {N : List Str} (s : Hs g cs as H) (r : RepAs g cs as H vs xs) : Sat g cs as H (xs.map some ++ List.replicate (N.length - xs.length) none) (L2.start N vs) := by
  unfold L2.start
  refine ⟨s, by rw [List.length_append, List.length_append, List.length_map, List.length_map, List.length_replicate, List.length_replicate, r.length], fun i x e => ?_⟩
  by_cases hi : i < xs.length
  · rw [List.getElem?_append_left (by rw [List.length_map]; exact hi), List.getElem?_map] at e
    cases q : xs[i]? with
    | none => rw [q] at e; cases e
    | some y =>
      rw [q] at e
      have e' := Option.some.inj (Option.some.inj e)
      subst e'
      obtain ⟨v, e1, rv⟩ := Paired.get r q
      refine ⟨v, ?_, rv⟩
      rw [List.getElem?_append_left (by rw [List.length_map, r.length]; exact hi), List.getElem?_map, e1] <;> rfl
  · rw [List.getElem?_append_right (by rw [List.length_map]; omega), List.getElem?_replicate] at e
    split at e <;> cases e
end
/-- THE RULE for a def -/
theorem fn_ok {P : Program} {w : World} {g : G} {mg : Str → Option Value} {base : Heap} {x qual : Str} {st : Stmt} {f : Addr} {fd : FuncData} {N ps : List Str} {k n : Nat} {m : MS} (F : Fun g.K x qual st f fd) (S : FnScope N ps (defScope st)) (hn : ps.length = n)
    (hbody : ∀ (cdv : Value) (A : Around) (outer : List PySem.Env) (s : Shared) (H : Hp) (E : XK), Room k (A.deeper (envOfC qual (defScope st) s.heap.objs.size f cdv)) →
      Takes (cxOf (L2.CX P w) P w g.K mg base N qual (defScope st) f cdv A outer s H E) (EX E) → PassesOwn (model P w) (A.deeper (envOfC qual (defScope st) s.heap.objs.size f cdv)) (envOfC qual (defScope st) s.heap.objs.size f cdv) (cxOf (L2.CX P w) P w g.K mg base N qual (defScope st) f cdv A outer s H E).xe →
      PSs (cxOf (L2.CX P w) P w g.K mg base N qual (defScope st) f cdv A outer s H E) (defBody st) (denS g (EX E) m)) : FnOk P w g.K mg base (L2.CX P w) (k + 1) f fd ps (spOf g n (runBody N.length m)) := by
  subst hn
  refine F.okX S (fun vs H Q E h => h.1) fun cdv A outer s H vs Q E hr hsp => ⟨_, hbody cdv A outer s H E hr (takes_of rfl rfl rfl rfl) (passes_of (X := cxOf (L2.CX P w) P w g.K mg base N qual (defScope st) f cdv A outer s H E) rfl), ?_⟩
  obtain ⟨_, cs, as, xs, hs, rv, hp⟩ := hsp
  refine ⟨_, cs, as, sat_start hs rv, ?_⟩
  unfold runBody at hp
  cases q : m (xs.map some ++ List.replicate (N.length - xs.length) none) cs with
  | rt a cs' =>
    simp only [q] at hp
    split at hp
    · rename_i hl
      exact fun v as' H' hs' e' r => post_fin (σ := []) hs hl hp hs' e' r
    · exact hp.elim
  | nx env' cs' =>
    simp only [q] at hp
    split at hp
    · rename_i hl
      exact fun σ' as' H' s' e' => post_fin (σ := []) (a := .d .none) hs hl hp s'.hs e' Dq.non
    · exact hp.elim
  | ex e env' cs' =>
    simp only [q] at hp
    split at hp
    · rename_i hl
      refine fun d σ' as' H' s' e' rx => ?_
      obtain ⟨stk, lt⟩ := s'.hs.take cs.length
      refine hp d ⟨as'.l.take cs.length, as'.hid⟩ H' stk (exn_take hs e' lt) ?_
      rcases rx with ⟨h1, h2⟩ | ⟨dd, vs, h1, h2, h3, h4⟩
      · exact .inl ⟨h1, h2⟩
      · refine .inr ⟨dd, vs, h1, h2, fun l => h3 (l.imp (fun ⟨i, c, e1, n1, e2⟩ => ⟨i, c, (take_get e1).2, n1, (take_get e2).2⟩) id), Paired.mono (fun _ _ z => ⟨z.1, Dq.le lt z.2⟩) h4⟩
    · exact hp.elim
  | bk _ _ => simp only [q] at hp; exact hp.elim
  | ct _ _ => simp only [q] at hp; exact hp.elim
  | no => simp only [q] at hp; exact hp.elim
/-- nothing can be asked with no call left -/
theorem fn_no {P : Program} {w : World} {g : G} {mg : Str → Option Value} {base : Heap} {CX : CXT} {k n : Nat} {f : Addr} {fd : FuncData} {ps : List Str} (hn : ps.length = n) : FnOk P w g.K mg base CX k f fd ps (spOf g n fun _ _ => .no) := by
  have no : ∀ vs H Q E, ¬ spOf g n (fun _ _ => .no) vs H Q E := fun vs H Q E ⟨_, cs, as, xs, _, _, h⟩ => h
  exact ⟨fun vs H Q E h => (no vs H Q E h).elim, fun A outer s H args us vs Q E _ _ _ _ h => (no vs H Q E h).elim⟩
end Sh
namespace Sh
open PySem L2
/-! ### methods of built-in types -/
def tyA (cs : CS) (a : A) (T : String) : Bool := match a with
  | .d (.str _) => T == "str"
  | .d (.int _) => T == "int"
  | .d (.list _) => T == "list"
  | .s _ => T == "list"
  | .c n => match cs[n]? with
    | some (.lst _) => T == "list"
    | some (.dk _) => T == "dict"
    | some (.dt _) => T == "dict"
    | _ => false
  | _ => false
theorem tyA_rep {g : G} {cs : CS} {as : AS} {H : Hp} (s : Hs g cs as H) {v : V} {a : A} {T : String} (r : RepA g cs as H v a) (h : tyA cs a T = true) : tyV g.K T v H := by
  cases a with
  | d x =>
    cases x with
    | str z => cases rep_str r; exact beq_iff_eq.mp h
    | int z => cases rep_int r; exact beq_iff_eq.mp h
    | list ds =>
      obtain ⟨p, vs, rfl, h1, _⟩ := rep_lst r
      exact .inl ⟨beq_iff_eq.mp h, _, SqL.of h1⟩
    | none => cases h
    | bool _ => cases h
    | tuple _ => cases h
    | dict _ => cases h
  | s ns =>
    obtain ⟨p, rfl, h1⟩ := r
    exact .inl ⟨beq_iff_eq.mp h, _, Le.sqL dat_le h1⟩
  | c n =>
    obtain ⟨p, e1, rfl⟩ := r
    cases e2 : cs[n]? with
    | none => simp only [tyA, e2] at h; cases h
    | some c =>
      cases c with
      | dead => simp only [tyA, e2] at h; cases h
      | lst xs =>
        simp only [tyA, e2] at h
        obtain ⟨vs, e3, _⟩ := s.lst e2 e1
        exact .inl ⟨beq_iff_eq.mp h, _, SqL.of e3⟩
      | dk xs =>
        simp only [tyA, e2] at h
        obtain ⟨vs, e3, _⟩ := s.cells n _ p e2 e1
        exact .inr (.inr (.inl ⟨beq_iff_eq.mp h, .inl ⟨vs, e3⟩⟩))
      | dt xs =>
        simp only [tyA, e2] at h
        obtain ⟨vs, e3, _⟩ := s.cells n _ p e2 e1
        exact .inr (.inr (.inl ⟨beq_iff_eq.mp h, .inr ⟨vs, e3⟩⟩))
def MtS (g : G) (r : V → List V → Hp → VK → Prop) (f : A → List A → CS → R A) : Prop := ∀ {W : WX} {σ : L2.St} {cs : CS} {as : AS} {H : Hp} {x : V} {vs : List V} {a : A} {xs : List A} {Q : VK}, Hs g cs as H → RepA g cs as H x a → RepAs g cs as H vs xs → PostA g W σ cs as H Q (f a xs cs) → r x vs H Q
def eMeth (T : String) (f : A → List A → CS → R A) (mo : ME) (ma : MA) : ME := fun env cs => (mo env cs).bind fun o cs1 => if tyA cs1 o T = true then (ma env cs1).bind fun xs cs2 => f o xs cs2 else .no
section
variable {X : Cx} {g : G} {W : WX} {mo : ME} {ma : MA} {o e : Expr} {es : List Expr} {name : Str} {apos cpos : Pos} {T id : String} {r : V → List V → Hp → VK → Prop} {f : A → List A → CS → R A}
theorem se_meth (hK : X.K = g.K) (pa : PlainAttrs T) (slot : Slot T name id) (hty : typeOf (.builtin id) = pure (.type "method_descriptor")) (hm : MtR X id r) (hs : MtS g r f) (ho : PE X o (den g W mo)) (ha : PA X (e :: es) (denA g W ma))
    (hbase : attributeBase o name X.env (eval o X.env) = eval o X.env := by rfl)
    (hfew : ((backTo cpos (starEach (e :: es) X.env)).all (fun x => !x.1) && (backToKw cpos (keywordEach [] X.env)).all (fun x => x.1.isSome)
      && decide ((e :: es).length + ([] : List Keyword).length + (if ([] : List Keyword).isEmpty then 0 else 1) < 30)) = true := by rfl)
    (hline : (apos.endLine == cpos.line) = true := by rfl) (hst : starEach (e :: es) X.env = (false, eval e X.env) :: starEach es X.env := by rfl) (hplain : (backTo cpos (starEach es X.env)).any (·.1) = false := by rfl) :
    PE X (.Call (.Attribute o name apos) (e :: es) [] cpos) (den g W (eMeth T f mo ma)) :=
  pe_imp (pe_bm pa slot hty hm ho ha hbase hfew hline hst hplain) fun σ H Q ⟨env, cs, as, s, h⟩ => ⟨env, cs, as, s, (Post.bind h).mono fun x cs1 as1 H1 hs1 e1 h1 v rv => by
    split at h1
    · rename_i ht
      exact ⟨by rw [hK]; exact tyA_rep hs1 rv ht, env, cs1, as1, s.exn hs1 e1, (Post.bind h1).mono fun xs cs2 as2 H2 hs2 e2 h2 vs rvs => hs hs2 (rv.exn e2) rvs h2⟩
    · exact h1.elim⟩
theorem se_meth0 (hK : X.K = g.K) (pa : PlainAttrs T) (slot : Slot T name id) (hty : typeOf (.builtin id) = pure (.type "method_descriptor")) (hm : MtR X id r) (hs : MtS g r f) (ho : PE X o (den g W mo))
    (hbase : attributeBase o name X.env (eval o X.env) = eval o X.env := by rfl) (hline : (apos.endLine == cpos.line) = true := by rfl) : PE X (.Call (.Attribute o name apos) [] [] cpos) (den g W (eMeth T f mo aNil)) :=
  pe_imp (pe_bm0 pa slot hty hm ho hbase hline) fun σ H Q ⟨env, cs, as, s, h⟩ => ⟨env, cs, as, s, (Post.bind h).mono fun x cs1 as1 H1 hs1 e1 h1 v rv => by
    split at h1
    · rename_i ht
      exact ⟨by rw [hK]; exact tyA_rep hs1 rv ht, hs hs1 rv .nil h1⟩
    · exact h1.elim⟩
end
/-- changing a cell's list -/
def onC (cs : CS) (a : A) (k : Nat → List PyData → R A) : R A := match a with
  | .c n => match cs[n]? with
    | some (.lst xs) => k n xs
    | _ => .no
  | _ => .no
theorem onC_c {cs : CS} {n : Nat} {xs : List PyData} {k : Nat → List PyData → R A} (h : cs[n]? = some (.lst xs)) : onC cs (.c n) k = k n xs := by simp only [onC, h]
theorem onC_rep {g : G} {cs : CS} {as : AS} {H : Hp} {W : WX} {σ : L2.St} {Q : VK} {x : V} {a : A} {k : Nat → List PyData → R A} (s : Hs g cs as H) (r : RepA g cs as H x a) (h : PostA g W σ cs as H Q (onC cs a k)) :
    ∃ n p xs vs, x = .ref p ∧ cs[n]? = some (.lst xs) ∧ as.l[n]? = some p ∧ H p = some (.lst vs) ∧ DqAll g.K (dat cs as H) vs xs ∧ PostA g W σ cs as H Q (k n xs) := by
  cases a with
  | c n =>
    obtain ⟨p, e1, rfl⟩ := r
    cases e2 : cs[n]? with
    | none => simp only [onC, e2] at h; exact h.elim
    | some c =>
      cases c with
      | lst xs =>
        simp only [onC, e2] at h
        obtain ⟨vs, e3, rr⟩ := s.lst e2 e1
        exact ⟨n, p, xs, vs, rfl, e2, e1, e3, rr, h⟩
      | dead => simp only [onC, e2] at h; exact h.elim
      | dk _ => simp only [onC, e2] at h; exact h.elim
      | dt _ => simp only [onC, e2] at h; exact h.elim
  | d _ => exact h.elim
  | s _ => exact h.elim
def mAppend (a : A) (xs : List A) (cs : CS) : R A := match xs with
  | [.d y] => onC cs a fun n ys => if ys.length < sizeLine then .ok (.d .none) (cs.set n (.lst (ys ++ [y]))) else .no
  | _ => .no
theorem ms_append {g : G} : MtS g rAppend mAppend := by
  intro W σ cs as H x vs a xs Q s ra rv h
  unfold mAppend at h
  split at h
  · rename_i y
    obtain ⟨v, rfl, r⟩ := reps1 rv
    obtain ⟨n, p, ys, ws, rfl, hc, ha, hp, rr, h1⟩ := onC_rep s ra h
    split at h1
    · rename_i hl
      exact ⟨p, ws, v, rfl, rfl, hp, by rw [DqAll.length rr]; exact hl, PostA.put h1 s hc ha (DqAll.append rr (.cons r .nil)) Dq.non⟩
    · exact h1.elim
  · exact h.elim
def mExtend (a : A) (xs : List A) (cs : CS) : R A := match xs with
  | [b] => match toL cs b with
    | some zs => onC cs a fun n ys => if ys.length + zs.length ≤ sizeLine then .ok (.d .none) (cs.set n (.lst (ys ++ zs))) else .no
    | none => .no
  | _ => .no
theorem ms_extend {g : G} : MtS g rExtend mExtend := by
  intro W σ cs as H x vs a xs Q s ra rv h
  unfold mExtend at h
  split at h
  · rename_i b
    obtain ⟨v, rfl, r⟩ := reps1 rv
    cases q : toL cs b with
    | none => simp only [q] at h; exact h.elim
    | some zs =>
      simp only [q] at h
      obtain ⟨p2, us, rfl, hp2, r2⟩ := toL_rep s r q
      obtain ⟨n, p, ys, ws, rfl, hc, ha, hp, rr, h1⟩ := onC_rep s ra h
      split at h1
      · rename_i hl
        exact ⟨p, p2, ws, us, rfl, rfl, hp, hp2, by rw [DqAll.length rr, DqAll.length r2]; exact hl, PostA.put h1 s hc ha (DqAll.append rr r2) Dq.non⟩
      · exact h1.elim
  · exact h.elim
def mPop (a : A) (xs : List A) (cs : CS) : R A := match xs with
  | [] => onC cs a fun n ys => match ys[ys.length - 1]? with
    | some y => .ok (.d y) (cs.set n (.lst ys.dropLast))
    | none => .no
  | [.d (.int i)] => onC cs a fun n ys => if inR i = true then match seqIndex? i ys.length with
      | some k => match ys[k]? with
        | some y => .ok (.d y) (cs.set n (.lst (ys.eraseIdx k)))
        | none => .no
      | none => .no else .no
  | _ => .no
theorem DqAll.dropLast {K : PySem.W.Frag} {H : Hp} {vs : List V} {ds : List PyData} (h : DqAll K H vs ds) : DqAll K H vs.dropLast ds.dropLast := by
  rw [List.dropLast_eq_take, List.dropLast_eq_take, DqAll.length h]
  exact DqAll.take _ h
theorem DqAll.eraseIdx {K : PySem.W.Frag} {H : Hp} : ∀ {vs : List V} {ds : List PyData} (i : Nat), DqAll K H vs ds → DqAll K H (vs.eraseIdx i) (ds.eraseIdx i)
  | _, _, _, .nil => .nil
  | _, _, 0, .cons _ b => b
  | _, _, i + 1, .cons a b => .cons a (DqAll.eraseIdx i b)
def rPopA : V → List V → Hp → VK → Prop := fun x vs H Q => rPop x vs H Q ∨ rPopAt x vs H Q
theorem mt_popA {X : Cx} : MtR X "list.pop" rPopA := MtR.or mt_pop mt_popAt
theorem ms_pop {g : G} : MtS g rPopA mPop := by
  intro W σ cs as H x vs a xs Q s ra rv h
  unfold mPop at h
  split at h
  · cases rv
    obtain ⟨n, p, ys, ws, rfl, hc, ha, hp, rr, h1⟩ := onC_rep s ra h
    cases q : ys[ys.length - 1]? with
    | none => simp only [q] at h1; exact h1.elim
    | some y =>
      simp only [q] at h1
      obtain ⟨v, e, r⟩ := DqAll.get rr q
      exact .inl ⟨p, ws, v, rfl, rfl, hp, by rw [DqAll.length rr]; exact e, PostA.put h1 s hc ha (DqAll.dropLast rr) r⟩
  · rename_i i
    obtain ⟨v, rfl, r⟩ := reps1 rv
    cases rep_int r
    obtain ⟨n, p, ys, ws, rfl, hc, ha, hp, rr, h1⟩ := onC_rep s ra h
    split at h1
    · rename_i hi
      obtain ⟨b1, b2⟩ := inR_c hi
      cases q : seqIndex? i ys.length with
      | none => simp only [q] at h1; exact h1.elim
      | some k =>
        simp only [q] at h1
        cases q2 : ys[k]? with
        | none => simp only [q2] at h1; exact h1.elim
        | some y =>
          simp only [q2] at h1
          obtain ⟨v, e, r⟩ := DqAll.get rr q2
          exact .inr ⟨p, ws, i, k, v, rfl, rfl, hp, by omega, by omega, by rw [DqAll.length rr]; exact q, e, PostA.put h1 s hc ha (DqAll.eraseIdx k rr) r⟩
    · exact h1.elim
  · exact h.elim
def mInsert (a : A) (xs : List A) (cs : CS) : R A := match xs with
  | [.d (.int i), .d y] => onC cs a fun n ys => if ys.length < sizeLine ∧ 0 ≤ i ∧ i < 9223372036854775808 then .ok (.d .none) (cs.set n (.lst (ys.take i.toNat ++ [y] ++ ys.drop i.toNat))) else .no
  | _ => .no
theorem ms_insert {g : G} : MtS g (fun x vs H Q => ∃ (l : Addr) (xs : List V) (i : Int) (y : V), x = .ref l ∧ vs = [.int i, y] ∧ H l = some (.lst xs) ∧ xs.length < sizeLine ∧ 0 ≤ i ∧ i < 2 ^ 63 ∧ Q .non (upd H l (.lst (xs.take i.toNat ++ [y] ++ xs.drop i.toNat)))) mInsert := by
  intro W σ cs as H x vs a xs Q s ra rv h
  unfold mInsert at h
  split at h
  · rename_i i y
    obtain ⟨v, w, rfl, r1, r2⟩ := reps2 rv
    cases rep_int r1
    obtain ⟨n, p, ys, ws, rfl, hc, ha, hp, rr, h1⟩ := onC_rep s ra h
    split at h1
    · rename_i hl
      exact ⟨p, ws, i, w, rfl, rfl, hp, by rw [DqAll.length rr]; exact hl.1, hl.2.1, Int.lt_of_lt_of_le hl.2.2 (by decide), PostA.put h1 s hc ha (DqAll.append (DqAll.append (DqAll.take _ rr) (.cons r2 .nil)) (DqAll.drop _ rr)) Dq.non⟩
    · exact h1.elim
  · exact h.elim
/-- xs[i] = v on a cell's list -/
def sSetIx (mo mi mv : ME) : MS := fun env cs => (mv env cs).toS env fun v cs1 => (mo env cs1).toS env fun o cs2 => (mi env cs2).toS env fun i cs3 => match o, i, v with
  | .c n, .d (.int k), .d y => match cs3[n]? with
    | some (.lst xs) => match ixN xs.length k with
      | some j => .nx env (cs3.set n (.lst (xs.set j y)))
      | none => .no
    | _ => .no
  | _, _, _ => .no
section
variable {X : Cx} {g : G} {W : WX} {mo mi mv : ME} {o i e value : Expr} {pos pos' : Pos}
theorem ss_setIx (ho : PE X o (den g W mo)) (hi : PE X i (den g W mi)) (hv : PE X value (den g W mv)) (ha : ∀ v, assign (.Subscript o i pos') X.env v = (do
      let ov ← holding [v] (eval o X.env)
      let iv ← holding [v, ov] (eval i X.env)
      standAt pos'
      holding [v, ov, iv] (setItem ov iv v)
      release [v, ov, iv] []) := by intro _; rfl) (hs : swapsWithSole [.Subscript o i pos'] value pos.line X.env = pure false := by rfl) (hw : swappedStores [.Subscript o i pos'] value X.env = pure none := by rfl)
    (h1 : (assignEach [.Subscript o i pos'] X.env).map (·.2) = [assign (.Subscript o i pos') X.env] := by rfl) : PS X (.Assign [.Subscript o i pos'] value pos) (denS g W (sSetIx mo mi mv)) :=
  ps_imp (ps_asg hv (pg_sub ho hi set_list ha) hs hw h1) fun D σ H ⟨env, cs, as, s, h⟩ => ⟨env, cs, as, s, (post_toS s h).mono fun v cs1 as1 H1 hs1 e1 h1 vv rv => ⟨env, cs1, as1, s.exn hs1 e1, (post_toS (s.exn hs1 e1) h1).mono fun o cs2 as2 H2 hs2 e2 h2 vo ro =>
    ⟨env, cs2, as2, s.exn hs2 (e1.trans e2), (post_toS (s.exn hs2 (e1.trans e2)) h2).mono fun i cs3 as3 H3 hs3 e3 h3 vi ri => by
      split at h3
      · rename_i n k y
        cases rep_int ri
        obtain ⟨p, a1, rfl⟩ := ro.exn e3
        cases q : cs3[n]? with
        | none => simp only [q] at h3; exact h3.elim
        | some c =>
          cases c with
          | dead => simp only [q] at h3; exact h3.elim
          | dk _ => simp only [q] at h3; exact h3.elim
          | dt _ => simp only [q] at h3; exact h3.elim
          | lst xs =>
            simp only [q] at h3
            obtain ⟨vs, ev, rr⟩ := hs3.lst q a1
            cases qi : ixN xs.length k with
            | none => simp only [qi] at h3; exact h3.elim
            | some j =>
              simp only [qi] at h3
              have ry : Dq g.K (dat cs3 as3 H3) vv y := Dq.le (e2.trans e3).dat rv
              have r2 : DqAll g.K (dat cs3 as3 H3) (vs.set j vv) (xs.set j y) := DqAll.of (Paired.set ry j (DqAll.paired rr))
              have e : Exn cs3 as3 H3 (cs3.set n (.lst (xs.set j y))) as3 (upd H3 p (.lst (vs.set j vv))) := exn_set hs3 q (fun z => nomatch z) a1
              have hs4 : Hs g (cs3.set n (.lst (xs.set j y))) as3 (upd H3 p (.lst (vs.set j vv))) := hs3.set q (fun z => nomatch z) a1 ⟨_, upd_same, DqAll.le e.dat r2⟩
              exact ⟨p, vs, k, j, rfl, rfl, ev, by rw [DqAll.length rr]; exact qi, h3 σ as3 _ (s.exn hs4 (((e1.trans e2).trans e3).trans e)) e⟩
      · exact h3.elim⟩⟩⟩
end
/-! ### slices -/
abbrev MO := Env → CS → R (Option Int)
def denO (g : G) (W : WX) (m : MO) : TO := fun σ H Q => ∃ env cs as, Sat g cs as H env σ ∧ Post g W σ cs as H (fun o _ _ H' => Q o H') (m env cs)
def oNone : MO := fun _ cs => .ok none cs
def oSome (m : ME) : MO := fun env cs => (m env cs).bind fun a cs1 => match a with
  | .d (.int i) => .ok (some i) cs1
  | _ => .no
def cutP (xs : List PyData) (lo hi : Option Int) : List PyData := (xs.drop (HT.sIx xs.length 0 lo)).take (HT.sIx xs.length xs.length hi - HT.sIx xs.length 0 lo)
def fSlice (a : A) (lo hi : Option Int) (cs : CS) : R A := match a with
  | .d (.tuple xs) => .ok (.d (.tuple (cutP xs lo hi))) cs
  | .d (.str z) => if z.length ≤ sizeLine then .ok (.d (.str (cutS z lo hi))) cs else .no
  | .s ns => .ok (.d (.list (cutP (ns.map PyData.int) lo hi))) cs
  | a => match toL cs a with
    | some xs => .ok (.d (.list (cutP xs lo hi))) cs
    | none => .no
def eSlice (m : ME) (lo hi : MO) : ME := fun env cs => (m env cs).bind fun a cs1 => (lo env cs1).bind fun l cs2 => (hi env cs2).bind fun u cs3 => fSlice a l u cs3
section
variable {X : Cx} {g : G} {W : WX} {me : ME} {ml mh : MO} {e : Expr} {lo hi : Option Expr} {pos p2 : Pos}
theorem po_imp {t t' : TO} {e : Option Expr} (h : PO X e t) (w : ∀ σ H Q, t' σ H Q → t σ H Q) : PO X e t' := ⟨fun pins s σ H Q I q => h.run pins s σ H Q I (w σ H Q q)⟩
theorem so_none : PO X none (denO g W oNone) := po_imp po_none fun σ H Q ⟨env, cs, as, s, h⟩ => h as H s.hs Exn.refl
theorem so_some (h : PE X e (den g W me)) : PO X (some e) (denO g W (oSome me)) := po_imp (po_some h) fun σ H Q ⟨env, cs, as, s, h⟩ => ⟨env, cs, as, s, (Post.bind h).mono fun a cs1 as1 H1 hs1 e1 h1 v rv => by
  split at h1
  · rename_i i
    cases rep_int rv
    exact ⟨i, rfl, h1 as1 H1 hs1 Exn.refl⟩
  · exact h1.elim⟩
def rSlAll (K : PySem.W.Frag) : V → Option Int → Option Int → Hp → VK → Prop := fun x lo hi H Q => rSlL K x lo hi H Q ∨ (rSlA K x lo hi H Q ∨ rSlS x lo hi H Q)
theorem sl_all : SlR X (rSlAll X.K) := sl_list.or (sl_tupA.or sl_str)
theorem cut_rep {K : PySem.W.Frag} {H : Hp} {vs : List V} {xs : List PyData} (h : DqAll K H vs xs) (lo hi : Option Int) : DqAll K H (cutV vs lo hi) (cutP xs lo hi) := by
  unfold cutV cutP
  rw [DqAll.length h]
  exact DqAll.take _ (DqAll.drop _ h)
theorem cut_whole {xs : List PyData} {lo hi : Option Int} (h : HT.sIx xs.length 0 lo = 0 ∧ HT.sIx xs.length xs.length hi = xs.length) : cutP xs lo hi = xs := by
  unfold cutP
  rw [h.1, h.2]
  simp
theorem slice_rep {cs : CS} {as : AS} {H : Hp} {σ : L2.St} {Q : VK} {x : V} {a : A} {l u : Option Int} (s : Hs g cs as H) (r : RepA g cs as H x a) (h : PostA g W σ cs as H Q (fSlice a l u cs)) : rSlAll g.K x l u H Q := by
  unfold fSlice at h
  split at h
  · rename_i xs
    obtain ⟨p, vs, rfl, h1, h2⟩ := rep_tup r
    refine .inr (.inl ⟨p, vs, rfl, h1, fun w => ?_, fun _ q hq => PostA.tup h s hq (cut_rep h2 l u)⟩)
    rw [DqAll.length h2] at w
    rw [cut_whole w] at h
    exact PostA.here h s r
  · rename_i z
    cases rep_str r
    split at h
    · rename_i hl
      exact .inr (.inr ⟨z, rfl, hl, PostA.str h s⟩)
    · exact h.elim
  · rename_i ns
    obtain ⟨p, rfl, h1⟩ := r
    exact .inl ⟨p, _, rfl, Le.sqL dat_le h1, fun q hq => PostA.lst h s hq (cut_rep (dq_ints ns) l u)⟩
  · cases q : toL cs a with
    | none => simp only [q] at h; exact h.elim
    | some xs =>
      simp only [q] at h
      obtain ⟨p, vs, rfl, h1, h2⟩ := toL_rep s r q
      exact .inl ⟨p, vs, rfl, SqL.of h1, fun q hq => PostA.lst h s hq (cut_rep h2 l u)⟩
theorem se_slice (hK : X.K = g.K) (he : PE X e (den g W me)) (hl : PO X lo (denO g W ml)) (hu : PO X hi (denO g W mh)) : PE X (.Subscript e (.Slice lo hi none p2) pos) (den g W (eSlice me ml mh)) :=
  pe_imp (pe_slice sl_all he hl hu) fun σ H Q ⟨env, cs, as, s, h⟩ => ⟨env, cs, as, s, (Post.bind h).mono fun a cs1 as1 H1 hs1 e1 h1 v rv => ⟨env, cs1, as1, s.exn hs1 e1, (Post.bind h1).mono fun l cs2 as2 H2 hs2 e2 h2 =>
    ⟨env, cs2, as2, s.exn hs2 (e1.trans e2), (Post.bind h2).mono fun u cs3 as3 H3 hs3 e3 h3 => by rw [hK]; exact slice_rep hs3 (rv.exn (e2.trans e3)) h3⟩⟩⟩
end
/-! ### isinstance, one built-in class -/
def tyName (cs : CS) : A → Option String
  | .d .none => some "NoneType"
  | .d (.bool _) => some "bool"
  | .d (.int _) => some "int"
  | .d (.str _) => some "str"
  | .d (.list _) => some "list"
  | .d (.tuple _) => some "tuple"
  | .s _ => some "list"
  | .c n => match cs[n]? with
    | some (.lst _) => some "list"
    | some (.dk _) => some "dict"
    | some (.dt _) => some "dict"
    | _ => none
  | _ => none
/-- is a value of type a one of class b -/
def isTy (a b : String) : Bool := a == b || (a == "bool" && b == "int")
def tyOk (b : String) : Bool := b == "int" || b == "bool" || b == "str" || b == "list" || b == "tuple" || b == "dict"
theorem kit_is {cs : CS} {x : A} {a b : String} (h : tyName cs x = some a) (hb : tyOk b = true) : kitB a b = some (isTy a b) := by
  have ha : a = "NoneType" ∨ a = "bool" ∨ a = "int" ∨ a = "str" ∨ a = "list" ∨ a = "tuple" ∨ a = "dict" := by
    unfold tyName at h
    split at h <;> first | (cases h <;> simp) | skip
    split at h <;> cases h <;> simp
  have hb' : b = "int" ∨ b = "bool" ∨ b = "str" ∨ b = "list" ∨ b = "tuple" ∨ b = "dict" := by
    unfold tyOk at hb
    simp only [Bool.or_eq_true, beq_iff_eq] at hb
    rcases hb with ((((h | h) | h) | h) | h) | h <;> simp [h]
  rcases ha with rfl | rfl | rfl | rfl | rfl | rfl | rfl <;> rcases hb' with rfl | rfl | rfl | rfl | rfl | rfl <;> decide +kernel
def eIsi (b : String) (m : ME) : ME := fun env cs => (m env cs).bind fun a cs1 => match tyName cs1 a with
  | some t => .ok (.d (.bool (isTy t b))) cs1
  | none => .no
theorem tyName_rep {g : G} {cs : CS} {as : AS} {H : Hp} (s : Hs g cs as H) {v : V} {a : A} {t : String} (r : RepA g cs as H v a) (h : tyName cs a = some t) : TyX g.K H v (.type t) := by
  cases a with
  | d x =>
    have r' : Dq g.K (dat cs as H) v x := r
    cases r' with
    | non => cases h; exact .base .non
    | bl b => cases h; exact .base (.bl b)
    | int b => cases h; exact .base (.int b)
    | str b => cases h; exact .base (.str b)
    | lst h1 h2 => cases h; exact .base (.lst (dat_le _ _ h1))
    | tup h1 h2 =>
      cases h
      rcases Le.sqT dat_le h1 with (h | ⟨o, h⟩) | ⟨o, its, n, hk, hc, _⟩
      · exact .base (.tup h)
      · exact .fTuple h
      · exact .kTuple hk hc
  | s ns =>
    cases h
    obtain ⟨p, rfl, h1⟩ := r
    rcases Le.sqL dat_le h1 with (h | ⟨o, h⟩) | ⟨o, its, n, hk, hc, _⟩
    · exact .base (.lst h)
    · exact .base (.frz h)
    · exact .kList hk hc
  | c n =>
    obtain ⟨p, e1, rfl⟩ := r
    cases e2 : cs[n]? with
    | none => simp only [tyName, e2] at h; cases h
    | some c =>
      cases c with
      | dead => simp only [tyName, e2] at h; cases h
      | lst xs =>
        simp only [tyName, e2] at h
        cases h
        obtain ⟨vs, e3, _⟩ := s.lst e2 e1
        exact .base (.lst e3)
      | dk xs =>
        simp only [tyName, e2] at h
        cases h
        obtain ⟨vs, e3, _⟩ := s.cells n _ p e2 e1
        exact .base (.dK e3)
      | dt xs =>
        simp only [tyName, e2] at h
        cases h
        obtain ⟨vs, e3, _⟩ := s.cells n _ p e2 e1
        exact .base (.dT e3)
theorem se_isi {X : Cx} {g : G} {W : WX} {me : ME} {e : Expr} {b : String} {x : Str} {p p2 pos : Pos} (hK : X.K = g.K) (hg : Gl X "isinstance") (hm : X.mg "isinstance" = none) (hb : tyOk b = true) (he : PE X e (den g W me)) (hg2 : Gl X x) (hm2 : X.mg x = none) (hv2 : bootBuiltins x = some (.type b))
    (hn : x ≠ "__name__" := by decide) (hdb : (x == ("__debug__" : Str)) = false := by decide)
    (h1 : starEach [e, .Name x p2] X.env = (false, eval e X.env) :: starEach [.Name x p2] X.env := by rfl) (h2 : starEach [.Name x p2] X.env = (false, eval (.Name x p2) X.env) :: starEach [] X.env := by rfl) (hpl : (backTo pos (starEach [.Name x p2] X.env)).any (·.1) = false := by rfl) :
    PE X (.Call (.Name "isinstance" p) [e, .Name x p2] [] pos) (den g W (eIsi b me)) :=
  pe_imp (pe_callB call_isi hg hm (by decide +kernel) (pa_cons he (pa_cons (pe_bltn (v := .ty b) hg2 hm2 hv2 (show RelV (.ty b) (.type b) from rfl) hn hdb) pa_nil h2) h1) (by decide) (by decide) h1 hpl) fun σ H Q ⟨env, cs, as, s, h⟩ => ⟨env, cs, as, s, (Post.bind h).mono fun a cs1 as1 H1 hs1 e1 h1 v rv => by
    cases q : tyName cs1 a with
    | none => simp only [q] at h1; exact h1.elim
    | some t =>
      simp only [q] at h1
      exact ⟨v, .ty b, .type t, .type b, isTy t b, rfl, .ty b, by rw [hK]; exact tyName_rep hs1 rv q, kit_ty (kit_is q hb), PostA.bl h1 hs1⟩⟩
end Sh
namespace Sh
open PySem L2
/-! ### dicts: a cell's table -/
section
variable {κ : Type} [DecidableEq κ]
def getP (kvs : List (κ × PyData)) (k : κ) : Option PyData := (kvs.find? fun kv => decide (kv.1 = k)).map (·.2)
def putP (kvs : List (κ × PyData)) (k : κ) (v : PyData) : List (κ × PyData) :=
  if (kvs.any fun kv => decide (kv.1 = k)) = true then kvs.map (fun kv => if kv.1 = k then (kv.1, v) else kv) else kvs ++ [(k, v)]
variable {g : G} {cs : CS} {as : AS} {H : Hp}
theorem getP_rep {vs : List (κ × V)} {xs : List (κ × PyData)} (h : RepKV g cs as H vs xs) (k : κ) : (valV vs k = none ∧ getP xs k = none) ∨ ∃ v x, valV vs k = some v ∧ getP xs k = some x ∧ Dq g.K (dat cs as H) v x := by
  induction h with
  | nil => exact .inl ⟨rfl, rfl⟩
  | @cons p q ps qs r t ih =>
    by_cases e : q.1 = k
    · have e' : p.1 = k := r.1.trans e
      exact .inr ⟨p.2, q.2, valV_pos e', by simp [getP, List.find?_cons, e], r.2⟩
    · have e' : ¬ p.1 = k := fun z => e (r.1.symm.trans z)
      have e2 : getP (q :: qs) k = getP qs k := by simp [getP, List.find?_cons, e]
      rw [valV_neg e', e2]
      exact ih
theorem anyK_rep {vs : List (κ × V)} {xs : List (κ × PyData)} (h : RepKV g cs as H vs xs) (k : κ) : (vs.any fun kv => decide (kv.1 = k)) = (xs.any fun kv => decide (kv.1 = k)) := by
  induction h with
  | nil => rfl
  | @cons p q ps qs r t ih => rw [List.any_cons, List.any_cons, ih, r.1]
theorem mapK_rep {vs : List (κ × V)} {xs : List (κ × PyData)} (h : RepKV g cs as H vs xs) (k : κ) {v : V} {x : PyData} (hv : Dq g.K (dat cs as H) v x) :
    RepKV g cs as H (vs.map fun kv => if kv.1 = k then (kv.1, v) else kv) (xs.map fun kv => if kv.1 = k then (kv.1, x) else kv) := by
  induction h with
  | nil => exact .nil
  | @cons p q ps qs r t ih =>
    refine .cons ?_ ih
    show (if p.1 = k then (p.1, v) else p).1 = (if q.1 = k then (q.1, x) else q).1 ∧ Dq g.K (dat cs as H) (if p.1 = k then (p.1, v) else p).2 (if q.1 = k then (q.1, x) else q).2
    by_cases e : q.1 = k
    · rw [if_pos e, if_pos (r.1.trans e)]; exact ⟨r.1, hv⟩
    · rw [if_neg e, if_neg fun z => e (r.1.symm.trans z)]; exact r
theorem putP_rep {vs : List (κ × V)} {xs : List (κ × PyData)} (h : RepKV g cs as H vs xs) (k : κ) {v : V} {x : PyData} (hv : Dq g.K (dat cs as H) v x) : RepKV g cs as H (putK vs k v) (putP xs k x) := by
  unfold putK putP
  rw [anyK_rep h k]
  split
  · exact mapK_rep h k hv
  · exact Paired.append h (.cons ⟨rfl, hv⟩ .nil)
theorem repKV_le {cs' : CS} {as' : AS} {H' : Hp} (e : Le (dat cs as H) (dat cs' as' H')) {vs : List (κ × V)} {xs : List (κ × PyData)} (h : RepKV g cs as H vs xs) : RepKV g cs' as' H' vs xs := Paired.mono (fun _ _ z => ⟨z.1, Dq.le e z.2⟩) h
end
/-- a key that is an int or a text -/
def keyA : A → Option Key
  | .d (.int i) => some (.inl i)
  | .d (.str x) => some (.inr x)
  | _ => none
/-- a key that is a tuple of such -/
def keysD : List PyData → Option (List Key)
  | [] => some []
  | .int i :: r => (keysD r).map (.inl i :: ·)
  | .str x :: r => (keysD r).map (.inr x :: ·)
  | _ :: _ => none
theorem keyA_rep {g : G} {cs : CS} {as : AS} {H : Hp} {v : V} {a : A} {k : Key} (r : RepA g cs as H v a) (h : keyA a = some k) : v = kV k := by
  unfold keyA at h
  split at h
  · obtain rfl := Option.some.inj h; exact rep_int r
  · obtain rfl := Option.some.inj h; exact rep_str r
  · cases h
theorem keysD_rep {K : PySem.W.Frag} {H : Hp} : ∀ {vs : List V} {xs : List PyData} {ks : List Key}, DqAll K H vs xs → keysD xs = some ks → vs = ks.map kV
  | _, [], ks, h, e => by cases h; cases e; rfl
  | _, x :: xs, ks, h, e => by
    cases h with
    | cons h1 h2 =>
      cases x with
      | int i =>
        cases h1
        have e' : (keysD xs).map (Sum.inl i :: ·) = some ks := e
        cases q : keysD xs with
        | none => rw [q] at e'; cases e'
        | some ks' =>
          rw [q] at e'
          obtain rfl := Option.some.inj e'
          rw [keysD_rep h2 q]; rfl
      | str i =>
        cases h1
        have e' : (keysD xs).map (Sum.inr i :: ·) = some ks := e
        cases q : keysD xs with
        | none => rw [q] at e'; cases e'
        | some ks' =>
          rw [q] at e'
          obtain rfl := Option.some.inj e'
          rw [keysD_rep h2 q]; rfl
      | none => cases e
      | bool _ => cases e
      | list _ => cases e
      | tuple _ => cases e
      | dict _ => cases e
/-- the table of ints and texts of a cell -/
def dkOf (cs : CS) : A → Option (Nat × List (Key × PyData))
  | .c n => match cs[n]? with
    | some (.dk kvs) => some (n, kvs)
    | _ => none
  | _ => none
def dtOf (cs : CS) : A → Option (Nat × List (List Key × PyData))
  | .c n => match cs[n]? with
    | some (.dt kvs) => some (n, kvs)
    | _ => none
  | _ => none
theorem dkOf_c {cs : CS} {n : Nat} {kvs : List (Key × PyData)} (h : cs[n]? = some (.dk kvs)) : dkOf cs (.c n) = some (n, kvs) := by simp only [dkOf, h]
theorem dtOf_c {cs : CS} {n : Nat} {kvs : List (List Key × PyData)} (h : cs[n]? = some (.dt kvs)) : dtOf cs (.c n) = some (n, kvs) := by simp only [dtOf, h]
theorem dkOf_rep {g : G} {cs : CS} {as : AS} {H : Hp} (s : Hs g cs as H) {v : V} {a : A} {n : Nat} {kvs : List (Key × PyData)} (r : RepA g cs as H v a) (h : dkOf cs a = some (n, kvs)) :
    ∃ p vs, v = .ref p ∧ a = .c n ∧ cs[n]? = some (.dk kvs) ∧ as.l[n]? = some p ∧ H p = some (.dK vs) ∧ RepKV g cs as H vs kvs := by
  cases a with
  | c m =>
    obtain ⟨p, e1, rfl⟩ := r
    cases e2 : cs[m]? with
    | none => simp only [dkOf, e2] at h; cases h
    | some c =>
      cases c with
      | dk xs =>
        simp only [dkOf, e2] at h
        cases h
        obtain ⟨vs, e3, rr⟩ := s.cells n _ p e2 e1
        exact ⟨p, vs, rfl, rfl, e2, e1, e3, rr⟩
      | dead => simp only [dkOf, e2] at h; cases h
      | lst _ => simp only [dkOf, e2] at h; cases h
      | dt _ => simp only [dkOf, e2] at h; cases h
  | d _ => cases h
  | s _ => cases h
theorem dtOf_rep {g : G} {cs : CS} {as : AS} {H : Hp} (s : Hs g cs as H) {v : V} {a : A} {n : Nat} {kvs : List (List Key × PyData)} (r : RepA g cs as H v a) (h : dtOf cs a = some (n, kvs)) :
    ∃ p vs, v = .ref p ∧ a = .c n ∧ cs[n]? = some (.dt kvs) ∧ as.l[n]? = some p ∧ H p = some (.dT vs) ∧ RepKV g cs as H vs kvs := by
  cases a with
  | c m =>
    obtain ⟨p, e1, rfl⟩ := r
    cases e2 : cs[m]? with
    | none => simp only [dtOf, e2] at h; cases h
    | some c =>
      cases c with
      | dt xs =>
        simp only [dtOf, e2] at h
        cases h
        obtain ⟨vs, e3, rr⟩ := s.cells n _ p e2 e1
        exact ⟨p, vs, rfl, rfl, e2, e1, e3, rr⟩
      | dead => simp only [dtOf, e2] at h; cases h
      | lst _ => simp only [dtOf, e2] at h; cases h
      | dk _ => simp only [dtOf, e2] at h; cases h
  | d _ => cases h
  | s _ => cases h
/-- new dicts -/
def eDNewK : ME := fun _ cs => .ok (.c cs.length) (cs ++ [.dk []])
def eDNewT : ME := fun _ cs => .ok (.c cs.length) (cs ++ [.dt []])
/-- d[k], k in d, by an int or a text -/
def eDGet (md mk : ME) : ME := fun env cs => (md env cs).bind fun d cs1 => (mk env cs1).bind fun k cs2 => match dkOf cs2 d, keyA k with
  | some (_, kvs), some k => match getP kvs k with
    | some v => .ok (.d v) cs2
    | none => .no
  | _, _ => .no
def eDIn (neg : Bool) (mk md : ME) : ME := fun env cs => (mk env cs).bind fun k cs1 => (md env cs1).bind fun d cs2 => match dkOf cs2 d, keyA k with
  | some (_, kvs), some k => .ok (.d (.bool (if neg then !(getP kvs k).isSome else (getP kvs k).isSome))) cs2
  | _, _ => .no
/-- by a written tuple -/
def eTGet (md : ME) (mk : MA) : ME := fun env cs => (md env cs).bind fun d cs1 => (mk env cs1).bind fun ks cs2 => match dtOf cs2 d, allD ks with
  | some (_, kvs), some ds => match keysD ds with
    | some k => if ds.length ≤ sizeLine then match getP kvs k with
      | some v => .ok (.d v) cs2
      | none => .no else .no
    | none => .no
  | _, _ => .no
def eTIn (neg : Bool) (mk : MA) (md : ME) : ME := fun env cs => (mk env cs).bind fun ks cs1 => match allD ks with
  | some ds => if ds.length ≤ sizeLine then (md env cs1).bind fun d cs2 => match dtOf cs2 d, keysD ds with
    | some (_, kvs), some k => .ok (.d (.bool (if neg then !(getP kvs k).isSome else (getP kvs k).isSome))) cs2
    | _, _ => .no else .no
  | none => .no
/-- d[k] = v -/
def sDPut (md mk mv : ME) : MS := fun env cs => (mv env cs).toS env fun v cs1 => (md env cs1).toS env fun d cs2 => (mk env cs2).toS env fun k cs3 => match v, dkOf cs3 d, keyA k with
  | .d y, some (n, kvs), some k => if kvs.length < sizeLine then .nx env (cs3.set n (.dk (putP kvs k y))) else .no
  | _, _, _ => .no
def sTPut (md : ME) (mk : MA) (mv : ME) : MS := fun env cs => (mv env cs).toS env fun v cs1 => (md env cs1).toS env fun d cs2 => (mk env cs2).toS env fun ks cs3 => match v, dtOf cs3 d, allD ks with
  | .d y, some (n, kvs), some ds => match keysD ds with
    | some k => if kvs.length < sizeLine ∧ ds.length ≤ sizeLine then .nx env (cs3.set n (.dt (putP kvs k y))) else .no
    | none => .no
  | _, _, _ => .no
theorem Hs.cellD {g : G} {cs : CS} {as : AS} {H : Hp} {p : Addr} (s : Hs g cs as H) (h : H p = none) {o : HO} {c : Cell} (hc : CellOk g (cs ++ [c]) (as.push p) (upd H p o) p c) {W : WX} {σ : L2.St} {Q : VK} (hq : PostA g W σ cs as H Q (.ok (.c cs.length) (cs ++ [c]))) : Q (.ref p) (upd H p o) :=
  hq (as.push p) _ (s.cell h hc) (exn_cell s h) _ ⟨p, s.at_new, rfl⟩
section
variable {X : Cx} {g : G} {W : WX} {md mk mv : ME} {mks : MA} {o i value : Expr} {es : List Expr} {pos pos' tpos : Pos} {kk : Nat}
theorem se_dnewK : PE X (.Dict [] [] pos) (den g W eDNewK) := pe_imp pe_dnewK fun σ H Q ⟨env, cs, as, s, h⟩ p hp => s.hs.cellD hp (c := .dk []) ⟨[], upd_same, .nil⟩ h
theorem se_dnewT : PE X (.Dict [] [] pos) (den g W eDNewT) := pe_imp pe_dnewT fun σ H Q ⟨env, cs, as, s, h⟩ p hp => s.hs.cellD hp (c := .dt []) ⟨[], upd_same, .nil⟩ h
theorem se_dget (hu : X.A.units + 1 < cLine) (ho : PE X o (den g W md)) (hi : PE X i (den g W mk)) (hs : NoSl i := by exact fun _ _ => rfl) : PE X (.Subscript o i pos) (den g W (eDGet md mk)) :=
  pe_imp (pe_dget hu ho hi hs) fun σ H Q ⟨env, cs, as, s, h⟩ => ⟨env, cs, as, s, (Post.bind h).mono fun d cs1 as1 H1 hs1 e1 h1 vd rd => ⟨env, cs1, as1, s.exn hs1 e1, (Post.bind h1).mono fun k cs2 as2 H2 hs2 e2 h2 vk rk => by
    cases q1 : dkOf cs2 d with
    | none => simp only [q1] at h2; exact h2.elim
    | some nk =>
      obtain ⟨n, kvs⟩ := nk
      cases q2 : keyA k with
      | none => simp only [q1, q2] at h2; exact h2.elim
      | some k' =>
        simp only [q1, q2] at h2
        obtain ⟨p, vs, rfl, rfl, c1, a1, hp, rr⟩ := dkOf_rep hs2 (rd.exn e2) q1
        cases keyA_rep rk q2
        rcases getP_rep rr k' with ⟨_, q3⟩ | ⟨v, x, q3, q4, r⟩
        · simp only [q3] at h2; exact h2.elim
        · simp only [q4] at h2
          exact ⟨p, v, rfl, by rw [← q3]; exact DGet.k hp, PostA.here h2 hs2 r⟩⟩⟩
theorem den_din {σ : L2.St} {H : Hp} {Q : VK} (h : den g W (eDIn false mk md) σ H Q) : tDIn (den g W mk) (den g W md) σ H Q := by
  obtain ⟨env, cs, as, s, h⟩ := h
  refine ⟨env, cs, as, s, (Post.bind h).mono fun k cs1 as1 H1 hs1 e1 h1 vk rk => ⟨env, cs1, as1, s.exn hs1 e1, (Post.bind h1).mono fun d cs2 as2 H2 hs2 e2 h2 vd rd => ?_⟩⟩
  cases q1 : dkOf cs2 d with
  | none => simp only [q1] at h2; exact h2.elim
  | some nk =>
    obtain ⟨n, kvs⟩ := nk
    cases q2 : keyA k with
    | none => simp only [q1, q2] at h2; exact h2.elim
    | some k' =>
      simp only [q1, q2] at h2
      obtain ⟨p, vs, rfl, rfl, c1, a1, hp, rr⟩ := dkOf_rep hs2 rd q1
      cases keyA_rep rk q2
      refine ⟨p, valV vs k', rfl, DGet.k hp, ?_⟩
      rcases getP_rep rr k' with ⟨q3, q4⟩ | ⟨v, x, q3, q4, r⟩
      · rw [q3]; rw [q4] at h2; exact PostA.bl h2 hs2
      · rw [q3]; rw [q4] at h2; exact PostA.bl h2 hs2
theorem den_dnin {σ : L2.St} {H : Hp} {Q : VK} (h : den g W (eDIn true mk md) σ H Q) : tDNotIn (den g W mk) (den g W md) σ H Q := by
  obtain ⟨env, cs, as, s, h⟩ := h
  refine ⟨env, cs, as, s, (Post.bind h).mono fun k cs1 as1 H1 hs1 e1 h1 vk rk => ⟨env, cs1, as1, s.exn hs1 e1, (Post.bind h1).mono fun d cs2 as2 H2 hs2 e2 h2 vd rd => ?_⟩⟩
  cases q1 : dkOf cs2 d with
  | none => simp only [q1] at h2; exact h2.elim
  | some nk =>
    obtain ⟨n, kvs⟩ := nk
    cases q2 : keyA k with
    | none => simp only [q1, q2] at h2; exact h2.elim
    | some k' =>
      simp only [q1, q2] at h2
      obtain ⟨p, vs, rfl, rfl, c1, a1, hp, rr⟩ := dkOf_rep hs2 rd q1
      cases keyA_rep rk q2
      refine ⟨p, valV vs k', rfl, DGet.k hp, ?_⟩
      rcases getP_rep rr k' with ⟨q3, q4⟩ | ⟨v, x, q3, q4, r⟩
      · rw [q3]; rw [q4] at h2; exact PostA.bl h2 hs2
      · rw [q3]; rw [q4] at h2; exact PostA.bl h2 hs2
theorem se_din (hu : X.A.units + 1 < cLine) (hi : PE X i (den g W mk)) (ho : PE X o (den g W md)) (h1 : behindInMarks .In o = false := by rfl) : PE X (.Compare i [.In] [o] pos) (den g W (eDIn false mk md)) := pe_imp (pe_cmp (pc_din hu hi ho) h1) fun _ _ _ => den_din
theorem se_dnin (hu : X.A.units + 1 < cLine) (hi : PE X i (den g W mk)) (ho : PE X o (den g W md)) (h1 : behindInMarks .NotIn o = false := by rfl) : PE X (.Compare i [.NotIn] [o] pos) (den g W (eDIn true mk md)) := pe_imp (pe_cmp (pc_dnotin hu hi ho) h1) fun _ _ _ => den_dnin
theorem den_tB {σ : L2.St} {H : Hp} {Q : Bool → Hp → Prop} {me : ME} (h : denT g W (tOf me) σ H Q) : tB (den g W me) σ H Q := den_test h
theorem st_din (hu : X.A.units + 1 < cLine) (hi : PE X i (den g W mk)) (ho : PE X o (den g W md)) (h1 : behindInMarks .In o = false := by rfl) : PT X (.Compare i [.In] [o] pos) (denT g W (tOf (eDIn false mk md))) := pt_imp (pt_cmp (pc_din hu hi ho) h1) fun _ _ _ h => den_din (den_tB h)
theorem st_dnin (hu : X.A.units + 1 < cLine) (hi : PE X i (den g W mk)) (ho : PE X o (den g W md)) (h1 : behindInMarks .NotIn o = false := by rfl) : PT X (.Compare i [.NotIn] [o] pos) (denT g W (tOf (eDIn true mk md))) := pt_imp (pt_cmp (pc_dnotin hu hi ho) h1) fun _ _ _ h => den_dnin (den_tB h)
/-- a written tuple as a key -/
theorem den_tin {neg : Bool} {σ : L2.St} {H : Hp} {Q : VK} (h : den g W (eTIn neg mks md) σ H Q) : tTup (denA g W mks) σ H fun y H1 => den g W md σ H1 fun x H2 => ∃ a o, x = .ref a ∧ DGet H2 a y o ∧ Q (.bl (if neg then !o.isSome else o.isSome)) H2 := by
  obtain ⟨env, cs, as, s, h⟩ := h
  refine ⟨env, cs, as, s, (Post.bind h).mono fun ks cs1 as1 H1 hs1 e1 h1 vks rks => ?_⟩
  cases qd : allD ks with
  | none => simp only [qd] at h1; exact h1.elim
  | some ds =>
    simp only [qd] at h1
    split at h1
    case isFalse => exact h1.elim
    rename_i hl
    rw [allD_eq qd] at rks
    refine ⟨by rw [rks.length, List.length_map]; exact hl, fun p hp => ?_⟩
    have en := exn_new (o := .tup vks) hs1 hp
    refine ⟨env, cs1, as1, s.exn (hs1.new hp) (e1.trans en), (Post.bind (Post.shift h1 en)).mono fun d cs2 as2 H2 hs2 e2 h2 vd rd => ?_⟩
    cases q1 : dtOf cs2 d with
    | none => simp only [q1] at h2; exact h2.elim
    | some nk =>
      obtain ⟨n, kvs⟩ := nk
      cases q2 : keysD ds with
      | none => simp only [q1, q2] at h2; exact h2.elim
      | some k' =>
        simp only [q1, q2] at h2
        obtain ⟨p2, vs, rfl, rfl, c1, a1, hp2, rr⟩ := dtOf_rep hs2 rd q1
        have ht : H2 p = some (.tup (k'.map kV)) := by
          rw [← keysD_rep rks.dp q2]
          exact dat_le _ _ (e2.dat _ _ (dat_new hs1 hp))
        refine ⟨p2, valV vs k', rfl, DGet.t hp2 ht, ?_⟩
        rcases getP_rep rr k' with ⟨q3, q4⟩ | ⟨v, x, q3, q4, r⟩
        · rw [q3]; rw [q4] at h2; exact PostA.bl h2 hs2
        · rw [q3]; rw [q4] at h2; exact PostA.bl h2 hs2
theorem se_tin (hu : X.A.units + 1 < cLine) (hi : PA X es (denA g W mks)) (ho : PE X o (den g W md)) (h1 : behindInMarks .In o = false := by rfl) : PE X (.Compare (.Tuple es kk tpos) [.In] [o] pos) (den g W (eTIn false mks md)) := pe_imp (pe_cmp (pc_din hu (pe_tup hi) ho) h1) fun _ _ _ h => den_tin h
theorem se_tnin (hu : X.A.units + 1 < cLine) (hi : PA X es (denA g W mks)) (ho : PE X o (den g W md)) (h1 : behindInMarks .NotIn o = false := by rfl) : PE X (.Compare (.Tuple es kk tpos) [.NotIn] [o] pos) (den g W (eTIn true mks md)) := pe_imp (pe_cmp (pc_dnotin hu (pe_tup hi) ho) h1) fun _ _ _ h => den_tin h
theorem st_tin (hu : X.A.units + 1 < cLine) (hi : PA X es (denA g W mks)) (ho : PE X o (den g W md)) (h1 : behindInMarks .In o = false := by rfl) : PT X (.Compare (.Tuple es kk tpos) [.In] [o] pos) (denT g W (tOf (eTIn false mks md))) := pt_imp (pt_cmp (pc_din hu (pe_tup hi) ho) h1) fun _ _ _ h => den_tin (den_tB h)
theorem st_tnin (hu : X.A.units + 1 < cLine) (hi : PA X es (denA g W mks)) (ho : PE X o (den g W md)) (h1 : behindInMarks .NotIn o = false := by rfl) : PT X (.Compare (.Tuple es kk tpos) [.NotIn] [o] pos) (denT g W (tOf (eTIn true mks md))) := pt_imp (pt_cmp (pc_dnotin hu (pe_tup hi) ho) h1) fun _ _ _ h => den_tin (den_tB h)
theorem se_tget (hu : X.A.units + 1 < cLine) (ho : PE X o (den g W md)) (hi : PA X es (denA g W mks)) (hs : NoSl (.Tuple es kk tpos) := by exact fun _ _ => rfl) : PE X (.Subscript o (.Tuple es kk tpos) pos) (den g W (eTGet md mks)) :=
  pe_imp (pe_dget hu ho (pe_tup hi) hs) fun σ H Q ⟨env, cs, as, s, h⟩ => ⟨env, cs, as, s, (Post.bind h).mono fun d cs1 as1 H1 hs1 e1 h1 vd rd => ⟨env, cs1, as1, s.exn hs1 e1, (Post.bind h1).mono fun ks cs2 as2 H2 hs2 e2 h2 vks rks => by
    cases q1 : dtOf cs2 d with
    | none => simp only [q1] at h2; exact h2.elim
    | some nk =>
      obtain ⟨n, kvs⟩ := nk
      cases qd : allD ks with
      | none => simp only [q1, qd] at h2; exact h2.elim
      | some ds =>
        simp only [q1, qd] at h2
        cases q2 : keysD ds with
        | none => simp only [q2] at h2; exact h2.elim
        | some k' =>
          simp only [q2] at h2
          split at h2
          case isFalse => exact h2.elim
          rename_i hl
          rw [allD_eq qd] at rks
          refine ⟨by rw [rks.length, List.length_map]; exact hl, fun p hp => ?_⟩
          have en := exn_new (o := .tup vks) hs2 hp
          obtain ⟨p2, vs, rfl, rfl, c1, a1, hp2, rr⟩ := dtOf_rep hs2 (rd.exn e2) q1
          have ht : upd H2 p (.tup vks) p = some (.tup (k'.map kV)) := by rw [← keysD_rep rks.dp q2]; exact upd_same
          have hp3 : upd H2 p (.tup vks) p2 = some (.dT vs) := by rw [upd_ne (ne_of_none hp2 hp)]; exact hp2
          rcases getP_rep rr k' with ⟨_, q3⟩ | ⟨v, x, q3, q4, r⟩
          · simp only [q3] at h2; exact h2.elim
          · simp only [q4] at h2
            exact ⟨p2, v, rfl, by rw [← q3]; exact DGet.t hp3 ht, PostA.here (Post.shift h2 en) (hs2.new hp) (Dq.le en.dat r)⟩⟩⟩
theorem ss_dput (hu : X.A.units + 1 < cLine) (ho : PE X o (den g W md)) (hi : PE X i (den g W mk)) (hv : PE X value (den g W mv)) (hs : swapsWith value (some (.Subscript o i pos')) pos.line X.env = pure false := by rfl) :
    PS X (.Assign [.Subscript o i pos'] value pos) (denS g W (sDPut md mk mv)) :=
  ps_imp (ps_dput hu ho hi hv hs) fun D σ H ⟨env, cs, as, s, h⟩ => ⟨env, cs, as, s, (post_toS s h).mono fun v cs1 as1 H1 hs1 e1 h1 vv rv => ⟨env, cs1, as1, s.exn hs1 e1, (post_toS (s.exn hs1 e1) h1).mono fun d cs2 as2 H2 hs2 e2 h2 vd rd =>
    ⟨env, cs2, as2, s.exn hs2 (e1.trans e2), (post_toS (s.exn hs2 (e1.trans e2)) h2).mono fun k cs3 as3 H3 hs3 e3 h3 vk rk => by
      cases v with
      | c _ => exact h3.elim
      | s _ => exact h3.elim
      | d y =>
        cases q1 : dkOf cs3 d with
        | none => simp only [q1] at h3; exact h3.elim
        | some nk =>
          obtain ⟨n, kvs⟩ := nk
          cases q2 : keyA k with
          | none => simp only [q1, q2] at h3; exact h3.elim
          | some k' =>
            simp only [q1, q2] at h3
            split at h3
            case isFalse => exact h3.elim
            rename_i hl
            obtain ⟨p, vs, rfl, rfl, c1, a1, hp, rr⟩ := dkOf_rep hs3 (rd.exn e3) q1
            cases keyA_rep rk q2
            have ry : Dq g.K (dat cs3 as3 H3) vv y := Dq.le (e2.trans e3).dat rv
            have e : Exn cs3 as3 H3 (cs3.set n (.dk (putP kvs k' y))) as3 (upd H3 p (.dK (putK vs k' vv))) := exn_set hs3 c1 (fun z => nomatch z) a1
            have hs4 : Hs g (cs3.set n (.dk (putP kvs k' y))) as3 (upd H3 p (.dK (putK vs k' vv))) := hs3.set c1 (fun z => nomatch z) a1 ⟨_, upd_same, repKV_le e.dat (putP_rep rr k' ry)⟩
            exact ⟨p, _, rfl, DPut.k hp (by rw [Paired.length rr]; exact hl), h3 σ as3 _ (s.exn hs4 (((e1.trans e2).trans e3).trans e)) e⟩⟩⟩⟩
theorem ss_tput (hu : X.A.units + 1 < cLine) (ho : PE X o (den g W md)) (hi : PA X es (denA g W mks)) (hv : PE X value (den g W mv)) (hs : swapsWith value (some (.Subscript o (.Tuple es kk tpos) pos')) pos.line X.env = pure false := by rfl) :
    PS X (.Assign [.Subscript o (.Tuple es kk tpos) pos'] value pos) (denS g W (sTPut md mks mv)) :=
  ps_imp (ps_dput hu ho (pe_tup hi) hv hs) fun D σ H ⟨env, cs, as, s, h⟩ => ⟨env, cs, as, s, (post_toS s h).mono fun v cs1 as1 H1 hs1 e1 h1 vv rv => ⟨env, cs1, as1, s.exn hs1 e1, (post_toS (s.exn hs1 e1) h1).mono fun d cs2 as2 H2 hs2 e2 h2 vd rd =>
    ⟨env, cs2, as2, s.exn hs2 (e1.trans e2), (post_toS (s.exn hs2 (e1.trans e2)) h2).mono fun ks cs3 as3 H3 hs3 e3 h3 vks rks => by
      cases v with
      | c _ => exact h3.elim
      | s _ => exact h3.elim
      | d y =>
        cases q1 : dtOf cs3 d with
        | none => simp only [q1] at h3; exact h3.elim
        | some nk =>
          obtain ⟨n, kvs⟩ := nk
          cases qd : allD ks with
          | none => simp only [q1, qd] at h3; exact h3.elim
          | some ds =>
            simp only [q1, qd] at h3
            cases q2 : keysD ds with
            | none => simp only [q2] at h3; exact h3.elim
            | some k' =>
              simp only [q2] at h3
              split at h3
              case isFalse => exact h3.elim
              rename_i hl
              rw [allD_eq qd] at rks
              refine ⟨by rw [rks.length, List.length_map]; exact hl.2, fun q hq => ?_⟩
              have en := exn_new (o := .tup vks) hs3 hq
              have hs3' := hs3.new (o := .tup vks) hq
              obtain ⟨p, vs, rfl, rfl, c1, a1, hp, rr⟩ := dtOf_rep hs3 (rd.exn e3) q1
              have ht : upd H3 q (.tup vks) q = some (.tup (k'.map kV)) := by rw [← keysD_rep rks.dp q2]; exact upd_same
              have hp3 : upd H3 q (.tup vks) p = some (.dT vs) := by rw [upd_ne (ne_of_none hp hq)]; exact hp
              have ry : Dq g.K (dat cs3 as3 (upd H3 q (.tup vks))) vv y := Dq.le ((e2.trans e3).trans en).dat rv
              have rr' := repKV_le en.dat rr
              have e : Exn cs3 as3 (upd H3 q (.tup vks)) (cs3.set n (.dt (putP kvs k' y))) as3 (upd (upd H3 q (.tup vks)) p (.dT (putK vs k' vv))) := exn_set hs3' c1 (fun z => nomatch z) a1
              have hs4 : Hs g (cs3.set n (.dt (putP kvs k' y))) as3 (upd (upd H3 q (.tup vks)) p (.dT (putK vs k' vv))) := hs3'.set c1 (fun z => nomatch z) a1 ⟨_, upd_same, repKV_le e.dat (putP_rep rr' k' ry)⟩
              exact ⟨p, _, rfl, DPut.t hp3 ht (by rw [Paired.length rr]; exact hl.1), h3 σ as3 _ (s.exn hs4 ((((e1.trans e2).trans e3).trans en).trans e)) (en.trans e)⟩⟩⟩⟩
end
/-! ### {k: v, ..}, the keys written -/
def dPairs : List (Key × ME) → Env → CS → R (List (Key × PyData))
  | [], _, cs => .ok [] cs
  | (k, m) :: r, env, cs => (noEx (m env cs)).bind fun a cs1 => match asD a with
    | some x => (dPairs r env cs1).bind fun ys cs2 => .ok ((k, x) :: ys) cs2
    | none => .no
def mergeP (kvs more : List (Key × PyData)) : List (Key × PyData) := more.foldl (fun acc kv => putP acc kv.1 kv.2) kvs
def eDict (ps : List (Key × ME)) : ME := fun env cs => (dPairs ps env cs).bind fun ys cs1 => .ok (.c cs1.length) (cs1 ++ [.dk (mergeP [] ys)])
section
variable {X : Cx} {g : G} {W : WX}
theorem mergeP_rep {cs : CS} {as : AS} {H : Hp} {more : List (Key × V)} {ys : List (Key × PyData)} (h : RepKV g cs as H more ys) : ∀ {kvs : List (Key × V)} {xs : List (Key × PyData)}, RepKV g cs as H kvs xs → RepKV g cs as H (mergeK kvs more) (mergeP xs ys) := by
  induction h with
  | nil => intro kvs xs r; exact r
  | @cons p q ps qs r t ih =>
    intro kvs xs r0
    have e : RepKV g cs as H (putK kvs p.1 p.2) (putP xs q.1 q.2) := by
      rw [r.1]; exact putP_rep r0 q.1 r.2
    exact ih e
/-- the hidden object becomes a cell -/
theorem Hs.hidCell {cs : CS} {l hid : List Addr} {H : Hp} {p : Addr} {o : HO} {c : Cell} (s : Hs g cs ⟨l, p :: hid⟩ H) (hn : p ∉ hid) (hc : CellOk g cs ⟨l, p :: hid⟩ (upd H p o) p c) :
    Hs g (cs ++ [c]) ⟨l ++ [p], hid⟩ (upd H p o) ∧ Le (dat cs ⟨l, p :: hid⟩ H) (dat (cs ++ [c]) ⟨l ++ [p], hid⟩ (upd H p o)) := by
  obtain ⟨s2, d2⟩ := s.hidSet (o := o) (p := p) List.mem_cons_self
  have len : l.length = cs.length := s.len
  have key : ∀ {i : Nat} {c1 : Cell} {a : Addr}, (cs ++ [c])[i]? = some c1 → (l ++ [p])[i]? = some a → (i < cs.length ∧ cs[i]? = some c1 ∧ l[i]? = some a) ∨ (i = cs.length ∧ c1 = c ∧ a = p) := fun {i c1 a} e1 a1 => by
    rcases getElem?_snoc e1 with ⟨hi, e1⟩ | ⟨hi, e1⟩
    · rcases getElem?_snoc a1 with ⟨_, a1⟩ | ⟨hj, a1⟩
      · exact .inl ⟨hi, e1, a1⟩
      · omega
    · rcases getElem?_snoc a1 with ⟨hj, a1⟩ | ⟨hj, a1⟩
      · omega
      · exact .inr ⟨hi, e1, a1⟩
  have dd : Le (dat cs ⟨l, p :: hid⟩ (upd H p o)) (dat (cs ++ [c]) ⟨l ++ [p], hid⟩ (upd H p o)) := fun a u z => by
    obtain ⟨z1, z2⟩ := dat_some.mp z
    refine dat_some.mpr ⟨fun l' => ?_, z2⟩
    rcases l' with ⟨i, c1, e1, n1, e2⟩ | l'
    · rcases key e1 e2 with ⟨_, f1, f2⟩ | ⟨_, f1, f2⟩
      · exact z1 (.inl ⟨i, c1, f1, n1, f2⟩)
      · exact z1 (.inr (by rw [f2]; exact List.mem_cons_self))
    · exact z1 (.inr (List.mem_cons_of_mem _ l'))
  refine ⟨⟨by show (l ++ [p]).length = _; rw [List.length_append, List.length_append, len] <;> rfl, fun i j a c1 c2 e1 n1 e2 n2 a1 a2 => ?_, fun i c1 a e1 e2 => ?_, fun i c1 a e1 n1 a1 => ?_, fun a ha => s2.there a (List.mem_cons_of_mem _ ha)⟩, fun a u z => dd a u (d2 a u z)⟩
  · rcases key e1 a1 with ⟨h1, f1, b1⟩ | ⟨h1, f1, b1⟩
    · rcases key e2 a2 with ⟨h2, f2, b2⟩ | ⟨h2, f2, b2⟩
      · exact s.inj i j a c1 c2 f1 n1 f2 n2 b1 b2
      · exact absurd (by rw [b2]; exact List.mem_cons_self) (s.apart i c1 a f1 n1 b1)
    · rcases key e2 a2 with ⟨h2, f2, b2⟩ | ⟨h2, f2, b2⟩
      · exact absurd (by rw [b1]; exact List.mem_cons_self) (s.apart j c2 a f2 n2 b2)
      · omega
  · rcases key e1 e2 with ⟨h1, f1, b1⟩ | ⟨h1, f1, b1⟩
    · exact CellOk.le dd (s2.cells i c1 a f1 b1)
    · rw [f1, b1]; exact CellOk.le dd hc
  · rcases key e1 a1 with ⟨h1, f1, b1⟩ | ⟨h1, f1, b1⟩
    · exact fun m => s.apart i c1 a f1 n1 b1 (List.mem_cons_of_mem _ m)
    · rw [b1]; exact hn
end
end Sh
namespace Sh
open PySem L2
theorem takes_WF {X : Cx} : Takes X WF := fun u s' ⟨a, B, sI, pins, σ, H, cls, d, e, I, nb, up, sky, na, os, ag, w⟩ => w.elim
/-! ### {k: v, ..} -/
def keyD : Key → PyData
  | .inl i => .int i
  | .inr x => .str x
/-- the pairs' trees and their functions -/
def GoodP (g : G) (trs : List (TE × TE)) (ps : List (Key × ME)) : Prop := ∀ (σ : L2.St) (H : Hp) (Q : List (V × V) → Hp → Prop) (env : Env) (cs : CS) (as : AS) (ys : List (Key × PyData)) (cs' : CS), Sat g cs as H env σ → dPairs ps env cs = .ok ys cs' →
  (∀ as' H' (vs : List (Key × V)), Hs g cs' as' H' → Exn cs as H cs' as' H' → RepKV g cs' as' H' vs ys → Q (vs.map fun kv => (kV kv.1, kv.2)) H') → tPairs trs σ H Q
def PP (X : Cx) (g : G) (pos : Pos) (keys : List (Option Expr)) (values : List Expr) (ps : List (Key × ME)) : Prop := ps.length = keys.length ∧ ∃ trs, PPs X pos keys values trs ∧ GoodP g trs ps
section
variable {X : Cx} {g : G} {W : WX} {pos : Pos}
theorem sp_nil : PP X g pos [] [] [] := ⟨rfl, [], pps_nil, fun σ H Q env cs as ys cs' s e h => by
  have e' : R.ok [] cs = R.ok ys cs' := e
  cases e'
  exact h as H [] s.hs Exn.refl .nil⟩
theorem noEx_eq {α : Type} {r : R α} {a : α} {cs : CS} (h : noEx r = .ok a cs) : r = .ok a cs := by
  cases r with
  | ok b c => exact h
  | ex b c => cases h
  | no => cases h
theorem bind_eq {α β : Type} {r : R α} {k : α → CS → R β} {b : β} {cs : CS} (h : r.bind k = .ok b cs) : ∃ a cs1, r = .ok a cs1 ∧ k a cs1 = .ok b cs := by
  cases r with
  | ok a c => exact ⟨a, c, rfl, h⟩
  | ex a c => cases h
  | no => cases h
theorem sp_cons {k v : Expr} {ks : List (Option Expr)} {vs : List Expr} {kk : Key} {m : ME} {ps : List (Key × ME)} (hk : PE X k (den g WF (eC (keyD kk)))) (hv : PE X v (den g WF m)) (hr : PP X g pos ks vs ps) : PP X g pos (some k :: ks) (v :: vs) ((kk, m) :: ps) := by
  obtain ⟨hl, trs, h1, h2⟩ := hr
  refine ⟨by rw [List.length_cons, List.length_cons, hl], _, pps_cons hk hv h1, fun σ H Q env cs as ys cs' s e h => ?_⟩
  have e' : ((noEx (m env cs)).bind fun a cs1 => match asD a with
    | some x => (dPairs ps env cs1).bind fun ys cs2 => .ok ((kk, x) :: ys) cs2
    | none => .no) = R.ok ys cs' := e
  obtain ⟨a, cs1, q1, q2⟩ := bind_eq e'
  have q1 := noEx_eq q1
  cases a with
  | c _ => cases q2
  | s _ => cases q2
  | d x =>
    obtain ⟨ys', cs2, q3, q4⟩ := bind_eq (show ((dPairs ps env cs1).bind fun ys cs2 => R.ok ((kk, x) :: ys) cs2) = .ok ys cs' from q2)
    cases q4
    refine ⟨env, cs, as, s, ?_⟩
    show Post g WF σ cs as H _ (R.ok (A.d (keyD kk)) cs)
    refine fun as1 H1 hs1 e1 kv rk => ?_
    have rk' : kv = kV kk := by
      cases kk with
      | inl i => exact rep_int rk
      | inr x => exact rep_str rk
    subst rk'
    have s1 := s.exn hs1 e1
    refine ⟨env, cs, as1, s1, ?_⟩
    rw [q1]
    refine fun as2 H2 hs2 e2 v rv => ?_
    refine h2 σ H2 _ env cs1 as2 ys' cs' (s1.exn hs2 e2) q3 fun as3 H3 vs hs3 e3 rr => ?_
    exact h as3 H3 ((kk, v) :: vs) hs3 ((e1.trans e2).trans e3) (.cons ⟨rfl, (RepA.exn e3 rv : RepA g cs' as3 H3 v (.d x))⟩ rr)
theorem se_dict {keys : List (Option Expr)} {values : List Expr} {ps : List (Key × ME)} (hp : PP X g pos keys values ps) (hall : keys.all (·.isSome) = true := by rfl) (hl : keys.length = values.length := by rfl) (h0 : keys ≠ [] := by exact fun h => nomatch h) (h15 : keys.length ≤ 15 := by decide) :
    PE X (.Dict keys values pos) (den g W (eDict ps)) := by
  obtain ⟨hlen, trs, h1, h2⟩ := hp
  refine pe_imp (pe_disp h1 hall hl h0 h15) fun σ H Q ⟨env, cs, as, s, h⟩ p hp => ?_
  obtain ⟨hh, hd⟩ := s.hs.hide (o := .dK []) hp
  have hnp : p ∉ as.hid := fun m => by
    obtain ⟨o, q⟩ := s.hs.there p m
    rw [hp] at q; cases q
  have sh : Sat g cs ⟨as.l, p :: as.hid⟩ (upd H p (.dK [])) env σ := by
    refine ⟨hh, s.len, fun j x q => ?_⟩
    obtain ⟨v, q1, q2⟩ := s.slots j x q
    refine ⟨v, q1, ?_⟩
    cases x with
    | d y => exact Dq.le (fun a o z => (hd a o).mp z) q2
    | c n => exact q2
    | s ns => obtain ⟨a, e1, e2⟩ := q2; exact ⟨a, e1, Le.sqL (fun a o z => (hd a o).mp z) e2⟩
  unfold eDict at h
  cases q : dPairs ps env cs with
  | no => rw [q] at h; exact h.elim
  | ex x c =>
    exfalso
    have key : ∀ (ps : List (Key × ME)) (cs : CS), dPairs ps env cs ≠ .ex x c := fun ps => by
      induction ps with
      | nil => intro cs z; cases z
      | cons km ps ih =>
        intro cs z
        obtain ⟨kk, m⟩ := km
        have z' : ((noEx (m env cs)).bind fun a cs1 => match asD a with
          | some x => (dPairs ps env cs1).bind fun ys cs2 => .ok ((kk, x) :: ys) cs2
          | none => .no) = (R.ex x c : R (List (Key × PyData))) := z
        cases qm : m env cs with
        | no => rw [qm] at z'; cases z'
        | ex _ _ => rw [qm] at z'; cases z'
        | ok a cs1 =>
          rw [qm] at z'
          cases a with
          | c _ => cases z'
          | s _ => cases z'
          | d y =>
            have z2 : ((dPairs ps env cs1).bind fun ys cs2 => R.ok ((kk, y) :: ys) cs2) = (R.ex x c : R (List (Key × PyData))) := z'
            cases qr : dPairs ps env cs1 with
            | no => rw [qr] at z2; cases z2
            | ok _ _ => rw [qr] at z2; cases z2
            | ex x2 c2 =>
              rw [qr] at z2
              have z3 : (R.ex x2 c2 : R (List (Key × PyData))) = .ex x c := by
                have : x2 = x ∧ c2 = c := by injection z2 with a b; exact ⟨a, b⟩
                rw [this.1, this.2]
              exact ih cs1 (qr.trans z3)
    exact key ps cs q
  | ok ys cs1 =>
    rw [q] at h
    refine h2 σ _ _ env cs ⟨as.l, p :: as.hid⟩ ys cs1 sh q fun as1 H1 vs hs1 e1 rr => ?_
    have kp : H1 p = some (.dK []) := (e1.kept p List.mem_cons_self).trans upd_same
    refine ⟨kp, vs, rfl, ?_, ?_⟩
    · have k1 : vs.length = ys.length := Paired.length rr
      have k2 : ∀ (ps : List (Key × ME)) (cs : CS) (ys : List (Key × PyData)) (cs1 : CS), dPairs ps env cs = .ok ys cs1 → ys.length = ps.length := fun ps => by
        induction ps with
        | nil => intro cs ys cs1 z; cases z; rfl
        | cons km ps ih =>
          intro cs ys cs1 z
          obtain ⟨kk, m⟩ := km
          obtain ⟨a, c1, _, z2⟩ := bind_eq (show ((noEx (m env cs)).bind fun a cs1 => match asD a with
            | some x => (dPairs ps env cs1).bind fun ys cs2 => .ok ((kk, x) :: ys) cs2
            | none => .no) = R.ok ys cs1 from z)
          cases a with
          | c _ => cases z2
          | s _ => cases z2
          | d y =>
            obtain ⟨ys', c2, z3, z4⟩ := bind_eq (show ((dPairs ps env c1).bind fun ys cs2 => R.ok ((kk, y) :: ys) cs2) = .ok ys cs1 from z2)
            cases z4
            rw [List.length_cons, List.length_cons, ih c1 ys' cs1 z3]
      rw [k1, k2 ps cs ys cs1 q, hlen]; exact h15
    · have eas : as1 = ⟨as1.l, p :: as.hid⟩ := by
        have := e1.hid
        cases as1
        cases this
        rfl
      rw [eas] at hs1 rr
      obtain ⟨_, d1⟩ := hs1.hidSet (o := .dK (mergeK [] vs)) (p := p) List.mem_cons_self
      have hc : CellOk g cs1 ⟨as1.l, p :: as.hid⟩ (upd H1 p (.dK (mergeK [] vs))) p (.dk (mergeP [] ys)) := ⟨_, upd_same, mergeP_rep (repKV_le d1 rr) .nil⟩
      obtain ⟨hs2, l2⟩ := Hs.hidCell hs1 hnp hc
      refine h ⟨as1.l ++ [p], as.hid⟩ _ hs2 ⟨fun i b z => getElem?_left (e1.pre i b z), fun b o z => ?_, rfl, fun b m => ?_⟩ _ ⟨p, ?_, rfl⟩
      · have z2 := e1.dat b o ((hd b o).mp z)
        rw [eas] at z2
        exact l2 b o z2
      · have ne : b ≠ p := fun z => hnp (z ▸ m)
        rw [upd_ne ne, e1.kept b (List.mem_cons_of_mem _ m), upd_ne ne]
      · show (as1.l ++ [p])[cs1.length]? = some p
        have : as1.l.length = cs1.length := hs1.len
        rw [← this, List.getElem?_append_right (Nat.le_refl _), Nat.sub_self] <;> rfl
end
/-! ### tuple(range(..)), list(range(..)) -/
def rgD (a b : Int) : List PyData := (List.range (b - a).toNat).map fun i => PyData.int (a + (i : Nat))
def rgOk (a b : Int) : Bool := decide (a.natAbs < 4611686018427387904 ∧ b.natAbs < 4611686018427387904 ∧ (b - a).toNat ≤ 16777216)
theorem rgOk_of {a b : Int} (h : rgOk a b = true) : RgOk a b := by
  unfold rgOk at h
  have h' := of_decide_eq_true h
  unfold RgOk
  omega
theorem rgD_rep {K : PySem.W.Frag} {H : Hp} (a b : Int) : DqAll K H (rgV a b) (rgD a b) := by
  unfold rgV rgD
  generalize List.range (b - a).toNat = l
  induction l with
  | nil => exact .nil
  | cons i l ih => exact .cons (.int _) ih
def eTupRg1 (m : ME) : ME := fun env cs => (m env cs).bind fun x cs1 => match x with
  | .d (.int n) => if rgOk 0 n = true then .ok (.d (.tuple (rgD 0 n))) cs1 else .no
  | _ => .no
def eTupRg2 (m1 m2 : ME) : ME := fun env cs => (m1 env cs).bind fun x cs1 => (m2 env cs1).bind fun y cs2 => match x, y with
  | .d (.int a), .d (.int b) => if rgOk a b = true then .ok (.d (.tuple (rgD a b))) cs2 else .no
  | _, _ => .no
section
variable {X : Cx} {g : G} {W : WX} {m1 m2 : ME} {a b : Expr} {p pos p2 pos2 : Pos}
theorem se_tupRg1 (hc : X.calm = true) (hg : Gl X "range") (hm : X.mg "range" = none) (ha : PE X a (den g W m1)) (hg2 : Gl X "tuple") (hm2 : X.mg "tuple" = none) (na : starEach [a] X.env = (false, eval a X.env) :: starEach [] X.env := by rfl) (na2 : starEach [(.Call (.Name "range" p) [a] [] pos)] X.env = (false, eval (.Call (.Name "range" p) [a] [] pos) X.env) :: starEach [] X.env := by rfl) :
    PE X (.Call (.Name "tuple" p2) [.Call (.Name "range" p) [a] [] pos] [] pos2) (den g W (eTupRg1 m1)) :=
  pe_imp (pe_tupRg hc hg2 hm2 (prg_1 hg hm ha na) na2) fun σ H Q ⟨env, cs, as, s, h⟩ => ⟨env, cs, as, s, (Post.bind h).mono fun x cs1 as1 H1 hs1 e1 h1 v rv => by
    split at h1
    · rename_i n
      cases rep_int rv
      split at h1
      · rename_i ho
        exact ⟨n, rfl, rgOk_of ho, fun q hq => PostA.tup h1 hs1 hq (rgD_rep 0 n)⟩
      · exact h1.elim
    · exact h1.elim⟩
theorem se_tupRg2 (hc : X.calm = true) (hg : Gl X "range") (hm : X.mg "range" = none) (ha : PE X a (den g W m1)) (hb : PE X b (den g W m2)) (hg2 : Gl X "tuple") (hm2 : X.mg "tuple" = none) (na : starEach [a, b] X.env = (false, eval a X.env) :: starEach [b] X.env := by rfl)
    (nb : starEach [b] X.env = (false, eval b X.env) :: starEach [] X.env := by rfl) (hp : (backTo pos (starEach [b] X.env)).any (·.1) = false := by rfl) (na2 : starEach [(.Call (.Name "range" p) [a, b] [] pos)] X.env = (false, eval (.Call (.Name "range" p) [a, b] [] pos) X.env) :: starEach [] X.env := by rfl) :
    PE X (.Call (.Name "tuple" p2) [.Call (.Name "range" p) [a, b] [] pos] [] pos2) (den g W (eTupRg2 m1 m2)) :=
  pe_imp (pe_tupRg hc hg2 hm2 (prg_2 hg hm ha hb na nb hp) na2) fun σ H Q ⟨env, cs, as, s, h⟩ => ⟨env, cs, as, s, (Post.bind h).mono fun x cs1 as1 H1 hs1 e1 h1 v rv => ⟨env, cs1, as1, s.exn hs1 e1, (Post.bind h1).mono fun y cs2 as2 H2 hs2 e2 h2 u ru => by
    split at h2
    · rename_i i j
      cases rep_int rv
      cases rep_int ru
      split at h2
      · rename_i ho
        exact ⟨i, j, rfl, rfl, rgOk_of ho, fun q hq => PostA.tup h2 hs2 hq (rgD_rep i j)⟩
      · exact h2.elim
    · exact h2.elim⟩⟩
end
end Sh
namespace Sh
open PySem L2
/-! ### a, b, .. = x, y, .. -/
def setAll : List Nat → List A → Env → Env
  | i :: is, a :: as, env => setAll is as (env.set i (some a))
  | _, _, env => env
def sParL (is : List Nat) (ma : MA) : MS := fun env cs => (ma env cs).toS env fun xs cs1 => if xs.length = is.length ∧ xs.length ≤ sizeLine then .nx (setAll is xs env) cs1 else .no
def denNs (g : G) (is : List Nat) : TGs := fun vs σ H Q => ∃ env cs as xs, Sat g cs as H env σ ∧ RepAs g cs as H vs xs ∧ xs.length = is.length ∧ ∀ σ', Sat g cs as H (setAll is xs env) σ' → Q σ' H
section
variable {X : Cx} {g : G} {W : WX} {pos : Pos}
theorem sn_nil : PGs X [] (denNs g []) := pgs_imp pgs_nil fun v σ H Q ⟨env, cs, as, xs, s, r, e, h⟩ => by
  cases xs with
  | nil => cases r; exact ⟨rfl, h _ s⟩
  | cons _ _ => cases e
theorem sn_cons {i : Nat} {x : Str} {is : List Nat} {p : Pos} {es : List Expr} (hN : X.N.Nodup) (hi : X.N[i]? = some x) (hx : Loc X.env.scope x) (h2 : PGs X es (denNs g is)) (hf : X.fn x = true ∨ X.env.scope.names.lookup x = some .local := by first | exact .inl rfl | exact .inr rfl | assumption)
    (hs : (assignEach (.Name x p :: es) X.env).map (·.2) = assign (.Name x p) X.env :: (assignEach es X.env).map (·.2) := by rfl) : PGs X (.Name x p :: es) (denNs g (i :: is)) :=
  pgs_imp (pgs_cons (pg_name hN hi hx hf) h2 hs) fun v σ H Q ⟨env, cs, as, xs, s, r, e, h⟩ => by
    cases xs with
    | nil => cases e
    | cons y ys =>
      cases r with
      | cons r1 r2 => exact ⟨_, _, rfl, _, cs, as, ys, s.set r1, r2, by simpa using e, fun σ' s' => h σ' s'⟩
theorem ss_parL {is : List Nat} {es vs : List Expr} {ma : MA} {kt k2 : Nat} {pt pt2 : Pos} {n : Nat} (hc : X.calm = true) (hK : X.K = g.K) (hg : PGs X es (denNs g is)) (ha : PA X vs (denA g W ma)) (hl : is.length = n := by rfl)
    (hn : (assignEach es X.env).length = n := by rfl) (hst : (assignEach es X.env).findIdx? (·.1) = none := by rfl)
    (hs : swapsWithSole [.Tuple es kt pt] (.Tuple vs k2 pt2) pos.line X.env = pure false := by rfl) (hw : swappedStores [.Tuple es kt pt] (.Tuple vs k2 pt2) X.env = pure none := by rfl)
    (h1 : (assignEach [.Tuple es kt pt] X.env).map (·.2) = [assign (.Tuple es kt pt) X.env] := by rfl) : PS X (.Assign [.Tuple es kt pt] (.Tuple vs k2 pt2) pos) (denS g W (sParL is ma)) :=
  ps_imp (ps_asg (pe_tup ha) (pg_tup hc hg hn hst) hs hw h1) fun D σ H ⟨env, cs, as, s, h⟩ => ⟨env, cs, as, s, (post_toS s h).mono fun xs cs1 as1 H1 hs1 e1 h1 us ru => by
    split at h1
    · rename_i hx
      refine ⟨by rw [ru.length]; exact hx.2, fun p hp => ?_⟩
      have en := exn_new (o := .tup us) hs1 hp
      refine ⟨p, us, rfl, SqT.of upd_same, by rw [ru.length, hx.1, hl], env, cs1, as1, xs, s.exn (hs1.new hp) (e1.trans en), ru.exn en, hx.1, fun σ' s' => h1 σ' as1 _ s' en⟩
    · exact h1.elim⟩
/-- three plain names -/
def sPar3 (i j l : Nat) (ma mb mc : ME) : MS := fun env cs => (ma env cs).toS env fun a cs1 => (mb env cs1).toS env fun b cs2 => (mc env cs2).toS env fun c cs3 => .nx (((env.set i (some a)).set j (some b)).set l (some c)) cs3
theorem ss_par3 {i j l : Nat} {x y z : Str} {a b c : Expr} {ma mb mc : ME} {px py pz pt : Pos} {kt k2 pt2} (hc : X.calm = true) (hN : X.N.Nodup) (hi : X.N[i]? = some x) (hj : X.N[j]? = some y) (hl : X.N[l]? = some z) (hij : i ≠ j) (hil : i ≠ l) (hjl : j ≠ l)
    (hx : X.env.scope.names.lookup x = some .local) (hy : X.env.scope.names.lookup y = some .local) (hz : X.env.scope.names.lookup z = some .local) (ha : PE X a (den g W ma)) (hb : PE X b (den g W mb)) (hcc : PE X c (den g W mc))
    (h1 : starEach [a, b, c] X.env = (false, eval a X.env) :: starEach [b, c] X.env := by rfl) (h2 : starEach [b, c] X.env = (false, eval b X.env) :: starEach [c] X.env := by rfl) (h3 : starEach [c] X.env = (false, eval c X.env) :: starEach [] X.env := by rfl)
    (hw : swappedStores [.Tuple [.Name x px, .Name y py, .Name z pz] kt pt] (.Tuple [a, b, c] k2 pt2) X.env = pure (some [x, y, z]) := by rfl)
    (hs : swapsWithSole [.Tuple [.Name x px, .Name y py, .Name z pz] kt pt] (.Tuple [a, b, c] k2 pt2) pos.line X.env = pure false := by rfl) :
    PS X (.Assign [.Tuple [.Name x px, .Name y py, .Name z pz] kt pt] (.Tuple [a, b, c] k2 pt2) pos) (denS g W (sPar3 i j l ma mb mc)) :=
  ps_imp (ps_par3 hc hN hi hj hl hij hil hjl hx hy hz (pa_cons ha (pa_cons hb (pa_cons hcc pa_nil h3) h2) h1) hw hs) fun D σ H ⟨env, cs, as, s, h⟩ =>
    ⟨env, cs, as, s, (post_toS s h).mono fun a cs1 as1 H1 hs1 e1 h1 v rv => ⟨env, cs1, as1, s.exn hs1 e1, (post_toS (s.exn hs1 e1) h1).mono fun b cs2 as2 H2 hs2 e2 h2 w rw' =>
      ⟨env, cs2, as2, s.exn hs2 (e1.trans e2), (post_toS (s.exn hs2 (e1.trans e2)) h2).mono fun c cs3 as3 H3 hs3 e3 h3 u ru =>
        ⟨v, w, u, rfl, h3 _ as3 H3 ((((s.exn hs3 ((e1.trans e2).trans e3)).set ((rv.exn e2).exn e3)).set (rw'.exn e3)).set ru) Exn.refl⟩⟩⟩⟩
end
/-! ### the law's end -/
def spLaw (K : PySem.W.Frag) : Sp := fun vs H Q _ => ∃ (a : Addr) (ns : List Int), vs = [.ref a] ∧ SqL K H a (ns.map V.int) ∧ ns.length ≤ 63 ∧ (∀ z ∈ ns, Builtin.Int.intBits z ≤ 1048576) ∧ ∀ H', Q (.bl true) H'
theorem law_fn {P : Program} {w : World} {g : G} {mg : Str → Option Value} {base : Heap} {CX : CXT} {k : Nat} {f : Addr} {fd : FuncData} {ps : List Str} {F : Fn} (h : FnOk P w g.K mg base CX k f fd ps (spOf g 1 F))
    (hF : ∀ ns : List Int, ns.length ≤ 63 → (∀ z ∈ ns, Builtin.Int.intBits z ≤ 1048576) → ∃ cs, F [.s ns] [] = .ok (.d (.bool true)) cs) : FnOk P w g.K mg base CX k f fd ps (spLaw g.K) :=
  h.imp fun vs H Q E ⟨a, ns, e, hS, h63, hb, q⟩ => by
    subst e
    obtain ⟨cs, hc⟩ := hF ns h63 hb
    have nl : ∀ b, ¬ live [] ⟨[], []⟩ b := fun b l => by
      rcases l with ⟨i, c, e1, _, _⟩ | l
      · simp at e1
      · cases l
    have le : Le H (dat [] ⟨[], []⟩ H) := fun b o z => dat_some.mpr ⟨nl b, z⟩
    refine ⟨rfl, [], ⟨[], []⟩, [.s ns], ⟨rfl, fun i j b c c' e1 => by simp at e1, fun i c b e1 => by simp at e1, fun i c b e1 => by simp at e1, fun b hb => by cases hb⟩, .cons ⟨a, rfl, Le.sqL le hS⟩ .nil, ?_⟩
    rw [hc]
    exact fun as' H' hs' e' v rv => by cases rep_bl rv; exact q H'
theorem walkS {l : PySem.W.OpenLaw} {q : Program} {loose : List Str} {XP : (Str → Option Value) → Heap → Prop} {YP : World → Heap → Prop} {d : DefRec} {K : Params → PySem.W.Frag} {k : Nat} (hn : l.most = some 63) (hdf : d.params.defaults = []) (hk : Room k callerA)
    (hY : ∀ (w : World) (h : Heap), YP w h → (K w.params).In h)
    (F : ∀ (w : World) (mg : Str → Option Value) (fa : Addr) (h : Heap), (K w.params).In h → h.Ns mainGlobals mg → mg d.name = some (.ref fa) →
      ∃ fd : FuncData, (∀ (s : Shared) (u : Value), BindsTo s fd ⟨[u], []⟩ [("script", u)]) ∧ ∀ base : Heap, (K w.params).In base → base.Ns mainGlobals mg → FnOk l.prog w (K w.params) mg base (L2.CX l.prog w) k fa fd ["script"] (spLaw (K w.params))) :
    PySem.W.WalkO q loose XP YP l.row.toRowW d [] (fun f vs => PySem.call f vs) :=
  L2.walk_ofB (n := 63) (k := k) (x := "script") (CX := fun w => L2.CX l.prog w) (sp := fun w => spLaw (K w.params)) hn (by decide) hdf hk hY F (fun _ _ a ns hl hb _ hS => ⟨a, ns, rfl, hS, hl, hb, fun _ => rfl⟩) fun w H s e s' z => by
    obtain ⟨_, _, _, _, _, _, _, _, _, _, _, _, z⟩ := z
    exact z
end Sh
namespace Sh
open PySem L2
/-! ### a call that is handed plain data alone, and hands back plain data: the cells stand aside -/
def isPl : A → Bool
  | .c _ => false
  | _ => true
def plainR (cs : CS) : R A → R A
  | .ok (.d x) [] => .ok (.d x) cs
  | .ex e [] => .ex e cs
  | _ => .no
def plainF (F : Fn) : Fn := fun xs cs => if xs.all isPl = true then plainR cs (F xs []) else .no
section
variable {g : G} {cs : CS} {as : AS} {H : Hp}
/-- the cells' addresses -/
def liveL : CS → List Addr → List Addr
  | c :: cs, a :: l => match c with
    | .dead => liveL cs l
    | _ => a :: liveL cs l
  | _, _ => []
theorem liveL_iff : ∀ {cs : CS} {l : List Addr} {a : Addr}, a ∈ liveL cs l ↔ ∃ (i : Nat) (c : Cell), cs[i]? = some c ∧ c ≠ .dead ∧ l[i]? = some a
  | [], l, a => by simp [liveL]
  | c :: cs, [], a => by simp [liveL]
  | c :: cs, b :: l, a => by
    have ih := liveL_iff (cs := cs) (l := l) (a := a)
    have key : (∃ (i : Nat) (c' : Cell), (c :: cs)[i]? = some c' ∧ c' ≠ .dead ∧ (b :: l)[i]? = some a) ↔ (c ≠ .dead ∧ b = a) ∨ a ∈ liveL cs l := by
      rw [ih]
      constructor
      · rintro ⟨i, c', h1, h2, h3⟩
        cases i with
        | zero => simp at h1 h3; subst h1; exact .inl ⟨h2, h3⟩
        | succ i => simp at h1 h3; exact .inr ⟨i, c', h1, h2, h3⟩
      · rintro (⟨h1, h2⟩ | ⟨i, c', h1, h2, h3⟩)
        · exact ⟨0, c, by simp, h1, by simp [h2]⟩
        · exact ⟨i + 1, c', by simpa using h1, h2, by simpa using h3⟩
    rw [key]
    cases c <;> simp [liveL, eq_comm]
def aside (cs : CS) (as : AS) : AS := ⟨[], liveL cs as.l ++ as.hid⟩
theorem live_aside {a : Addr} : live [] (aside cs as) a ↔ live cs as a := by
  unfold live aside
  simp only [List.mem_append, liveL_iff]
  constructor
  · rintro (⟨i, c, h, _⟩ | h)
    · simp at h
    · exact h
  · exact .inr
theorem dat_aside : dat [] (aside cs as) H = dat cs as H := by
  funext a
  classical
  by_cases h : live cs as a
  · unfold dat; rw [if_pos h, if_pos (live_aside.mpr h)]
  · unfold dat; rw [if_neg h, if_neg fun z => h (live_aside.mp z)]
theorem Hs.aside (s : Hs g cs as H) : Hs g [] (aside cs as) H := by
  refine ⟨rfl, fun i j a c c' e => by simp at e, fun i c a e => by simp at e, fun i c a e => by simp at e, fun a ha => ?_⟩
  rcases List.mem_append.mp ha with h | h
  · obtain ⟨i, c, e1, n1, e2⟩ := liveL_iff.mp h
    have k := s.cells i c a e1 e2
    cases c with
    | dead => exact absurd rfl n1
    | lst _ => obtain ⟨vs, q, _⟩ := k; exact ⟨_, q⟩
    | dk _ => obtain ⟨vs, q, _⟩ := k; exact ⟨_, q⟩
    | dt _ => obtain ⟨vs, q, _⟩ := k; exact ⟨_, q⟩
  · exact s.there a h
theorem RepA.aside {v : V} {x : A} (h : isPl x = true) (r : RepA g cs as H v x) : RepA g [] (aside cs as) H v x := by
  cases x with
  | d x => show Dq g.K (dat [] (Sh.aside cs as) H) v x; rw [dat_aside]; exact r
  | c n => cases h
  | s ns => obtain ⟨a, e, q⟩ := r; exact ⟨a, e, by rw [dat_aside]; exact q⟩
theorem RepAs.aside : ∀ {vs : List V} {xs : List A}, xs.all isPl = true → RepAs g cs as H vs xs → RepAs g [] (aside cs as) H vs xs
  | _, _, _, .nil => .nil
  | _, _, h, .cons a b => by
    simp only [List.all_cons, Bool.and_eq_true] at h
    exact .cons (a.aside h.1) (RepAs.aside h.2 b)
/-- and back -/
theorem Hs.back {as' : AS} {H' : Hp} (s : Hs g cs as H) (s' : Hs g [] as' H') (e : Exn [] (Sh.aside cs as) H [] as' H') :
    Hs g cs as H' ∧ Exn cs as H cs as H' ∧ (∀ a, live [] as' a ↔ live cs as a) ∧ dat [] as' H' = dat cs as H' := by
  have eas : as' = Sh.aside cs as := by
    have h1 := e.hid
    have h2 : as'.l = [] := List.eq_nil_of_length_eq_zero s'.len
    cases as'
    cases h1
    cases h2
    rfl
  subst eas
  have kp : ∀ a, live cs as a → H' a = H a := fun a l => e.kept a (by
    rcases live_aside.mpr l with ⟨i, c, h, _⟩ | h
    · simp at h
    · exact h)
  have dd : ∀ a o, dat cs as H a = some o → dat cs as H' a = some o := fun a o h => by
    rw [← dat_aside] at h ⊢
    exact e.dat a o h
  refine ⟨⟨s.len, s.inj, fun i c a e1 e2 => ?_, s.apart, fun a ha => ?_⟩, ⟨fun _ _ h => h, dd, rfl, fun a ha => kp a (.inr ha)⟩, fun a => live_aside, dat_aside⟩
  · have k := s.cells i c a e1 e2
    have hk : c ≠ .dead → H' a = H a := fun n1 => kp a (.inl ⟨i, c, e1, n1, e2⟩)
    cases c with
    | dead => trivial
    | lst _ => obtain ⟨vs, q, r⟩ := k; exact ⟨vs, by rw [hk (fun z => nomatch z)]; exact q, DqAll.le dd r⟩
    | dk _ => obtain ⟨vs, q, r⟩ := k; exact ⟨vs, by rw [hk (fun z => nomatch z)]; exact q, Paired.mono (fun _ _ z => ⟨z.1, Dq.le dd z.2⟩) r⟩
    | dt _ => obtain ⟨vs, q, r⟩ := k; exact ⟨vs, by rw [hk (fun z => nomatch z)]; exact q, Paired.mono (fun _ _ z => ⟨z.1, Dq.le dd z.2⟩) r⟩
  · obtain ⟨o, q⟩ := s.there a ha
    exact ⟨o, by rw [kp a (.inr ha)]; exact q⟩
end
theorem fnOk_plain {P : Program} {w : World} {g : G} {mg : Str → Option Value} {base : Heap} {CX : CXT} {k n : Nat} {f : Addr} {fd : FuncData} {ps : List Str} {F : Fn} (h : FnOk P w g.K mg base CX k f fd ps (spOf g n F)) : FnOk P w g.K mg base CX k f fd ps (spOf g n (plainF F)) :=
  h.imp fun vs H Q E ⟨hl, cs, as, xs, s, r, p⟩ => by
    refine ⟨hl, [], aside cs as, xs, s.aside, ?_⟩
    unfold plainF at p
    split at p
    case isFalse => exact p.elim
    rename_i hp
    refine ⟨r.aside hp, ?_⟩
    unfold plainR at p
    split at p
    · rename_i x e
      rw [e]
      exact fun as' H' s' e' v rv => by
        obtain ⟨b1, b2, b3, b4⟩ := s.back s' e'
        refine p as H' b1 b2 v ?_
        show Dq g.K (dat cs as H') v x
        rw [← b4]
        exact rv
    · rename_i x e
      rw [e]
      exact fun d as' H' s' e' rx => by
        obtain ⟨b1, b2, b3, b4⟩ := s.back s' e'
        refine p d as H' b1 b2 ?_
        rcases rx with ⟨h1, h2⟩ | ⟨dd, ws, h1, h2, h3, h4⟩
        · exact .inl ⟨h1, h2⟩
        · exact .inr ⟨dd, ws, h1, h2, fun l => h3 ((b3 dd).mpr l), by rw [← b4]; exact h4⟩
    · exact p.elim
end Sh
namespace Sh
open PySem L2
/-! ### the functions, read: what simp may unfold -/
section
variable {cs : CS} {env : Env}
@[simp] theorem eC_at {x : PyData} : eC x env cs = .ok (.d x) cs := rfl
@[simp] theorem eBin_at {f : A → A → CS → R A} {ma mb : ME} : eBin f ma mb env cs = (ma env cs).bind fun x cs1 => (mb env cs1).bind fun y cs2 => f x y cs2 := rfl
@[simp] theorem eUn_at {f : A → CS → R A} {ma : ME} : eUn f ma env cs = (ma env cs).bind fun x cs1 => f x cs1 := rfl
@[simp] theorem tTr_at {m : ME} : tTr m env cs = (m env cs).bind fun a cs1 => match truD cs1 a with
  | some b => .ok b cs1
  | none => .no := rfl
@[simp] theorem tAndM_at {t u : MT} : tAndM t u env cs = (t env cs).bind fun b cs1 => if b = true then u env cs1 else .ok false cs1 := rfl
@[simp] theorem tOrM_at {t u : MT} : tOrM t u env cs = (t env cs).bind fun b cs1 => if b = true then .ok true cs1 else u env cs1 := rfl
@[simp] theorem tNotM_at {t : MT} : tNotM t env cs = (t env cs).bind fun b cs1 => .ok (!b) cs1 := rfl
@[simp] theorem eIf_at {t : MT} {ma mb : ME} : eIf t ma mb env cs = (t env cs).bind fun c cs1 => if c = true then ma env cs1 else mb env cs1 := rfl
@[simp] theorem aNil_at : aNil env cs = .ok [] cs := rfl
@[simp] theorem aCons_at {m : ME} {mr : MA} : aCons m mr env cs = (m env cs).bind fun x cs1 => (mr env cs1).bind fun xs cs2 => .ok (x :: xs) cs2 := rfl
@[simp] theorem eCall_at {n : Nat} {F : Fn} {ma : MA} : eCall n F ma env cs = (ma env cs).bind fun xs cs1 => if xs.length = n then F xs cs1 else .no := rfl
@[simp] theorem eFn_at {f : List A → CS → R A} {ma : MA} : eFn f ma env cs = (ma env cs).bind fun xs cs1 => f xs cs1 := rfl
theorem sSeq_nx {m n : MS} {env1 : Env} {cs1 : CS} (h : m env cs = .nx env1 cs1) : sSeq m n env cs = n env1 cs1 := by simp only [sSeq, h]
theorem sSeq_rt {m n : MS} {a : A} {cs1 : CS} (h : m env cs = .rt a cs1) : sSeq m n env cs = .rt a cs1 := by simp only [sSeq, h]
@[simp] theorem sNext_at : sNext env cs = .nx env cs := rfl
@[simp] theorem sBreak_at : sBreak env cs = .bk env cs := rfl
@[simp] theorem sCont_at : sCont env cs = .ct env cs := rfl
@[simp] theorem sDrop_at {m : ME} : sDrop m env cs = (m env cs).toS env fun _ cs1 => .nx env cs1 := rfl
@[simp] theorem sRet_at {m : ME} : sRet m env cs = (m env cs).toS env fun a cs1 => .rt a cs1 := rfl
@[simp] theorem sRetN_at : sRetN env cs = .rt (.d .none) cs := rfl
@[simp] theorem sIf_at {t : MT} {m n : MS} : sIf t m n env cs = (t env cs).toS env fun b cs1 => if b = true then m env cs1 else n env cs1 := rfl
@[simp] theorem sAsg_at {m : ME} {tg : Tgt} : sAsg m tg env cs = (m env cs).toS env fun a cs1 => match tg a env cs1 with
  | some env' => .nx env' cs1
  | none => .no := rfl
@[simp] theorem tgName_at {i : Nat} {a : A} : tgName i a env cs = some (env.set i (some a)) := rfl
@[simp] theorem sPar_at {i j : Nat} {ma mb : ME} : sPar i j ma mb env cs = (ma env cs).toS env fun a cs1 => (mb env cs1).toS env fun b cs2 => .nx ((env.set i (some a)).set j (some b)) cs2 := rfl
@[simp] theorem sPar3_at {i j l : Nat} {ma mb mc : ME} : sPar3 i j l ma mb mc env cs = (ma env cs).toS env fun a cs1 => (mb env cs1).toS env fun b cs2 => (mc env cs2).toS env fun c cs3 => .nx (((env.set i (some a)).set j (some b)).set l (some c)) cs3 := rfl
@[simp] theorem sParL_at {is : List Nat} {ma : MA} : sParL is ma env cs = (ma env cs).toS env fun xs cs1 => if xs.length = is.length ∧ xs.length ≤ sizeLine then .nx (setAll is xs env) cs1 else .no := rfl
@[simp] theorem setAll_nil : setAll [] [] env = env := rfl
@[simp] theorem setAll_cons {i : Nat} {is : List Nat} {a : A} {as : List A} : setAll (i :: is) (a :: as) env = setAll is as (env.set i (some a)) := rfl
@[simp] theorem eMeth_at {T : String} {f : A → List A → CS → R A} {mo : ME} {ma : MA} : eMeth T f mo ma env cs = (mo env cs).bind fun o cs1 => if tyA cs1 o T = true then (ma env cs1).bind fun xs cs2 => f o xs cs2 else .no := rfl
@[simp] theorem tYesM_at : tYesM env cs = .ok true cs := rfl
@[simp] theorem eFrz_at {m : ME} : eFrz m env cs = (m env cs).bind fun a cs1 => freeze cs1 a := rfl
@[simp] theorem eNot_at {ma : ME} : eNot ma env cs = (asB (ma env cs)).bind fun b cs1 => .ok (.d (.bool (!b))) cs1 := rfl
@[simp] theorem eAnd_at {ma mb : ME} : eAnd ma mb env cs = (asB (ma env cs)).bind fun b cs1 => if b = true then mb env cs1 else .ok (.d (.bool false)) cs1 := rfl
@[simp] theorem eOr_at {ma mb : ME} : eOr ma mb env cs = (asB (ma env cs)).bind fun b cs1 => if b = true then .ok (.d (.bool true)) cs1 else mb env cs1 := rfl
@[simp] theorem wipeE_nil : wipeE [] env = env := rfl
@[simp] theorem wipeE_cons {i : Nat} {r : List Nat} : wipeE (i :: r) env = wipeE r (env.set i none) := rfl
@[simp] theorem sSeq_at {m n : MS} : sSeq m n env cs = (match m env cs with
  | .nx env1 cs1 => n env1 cs1
  | r => r) := by unfold sSeq; rfl
end
section
variable {cs : CS} {env : Env}
@[simp] theorem eVar_at {i : Nat} : eVar i env cs = (match env[i]? with
  | some (some a) => .ok a cs
  | _ => .no) := rfl
@[simp] theorem asB_bool {b : Bool} : asB (.ok (.d (.bool b)) cs) = .ok b cs := rfl
@[simp] theorem tOf_at {m : ME} : tOf m env cs = asB (m env cs) := rfl
@[simp] theorem truD_bool {b : Bool} : truD cs (.d (.bool b)) = some b := rfl
@[simp] theorem truD_int {i : Int} : truD cs (.d (.int i)) = some (i != 0) := rfl
@[simp] theorem truD_list {xs : List PyData} : truD cs (.d (.list xs)) = some (!xs.isEmpty) := rfl
@[simp] theorem truD_tuple {xs : List PyData} : truD cs (.d (.tuple xs)) = some (!xs.isEmpty) := rfl
@[simp] theorem truD_none : truD cs (.d .none) = some false := rfl
@[simp] theorem fAdd_int {i j : Int} : fAdd (.d (.int i)) (.d (.int j)) cs = .ok (.d (.int (i + j))) cs := rfl
@[simp] theorem fSub_int {i j : Int} : fSub (.d (.int i)) (.d (.int j)) cs = .ok (.d (.int (i - j))) cs := rfl
@[simp] theorem fAddI_int {i j : Int} : fAddI (.d (.int i)) (.d (.int j)) cs = .ok (.d (.int (i + j))) cs := rfl
@[simp] theorem fCmp_int {p : Int → Int → Bool} {i j : Int} : fCmp p (.d (.int i)) (.d (.int j)) cs = .ok (.d (.bool (p i j))) cs := rfl
@[simp] theorem fNeg_int {i : Int} : fNeg (.d (.int i)) cs = .ok (.d (.int (-i))) cs := rfl
theorem fMul_int {i j : Int} (h : mulOk i j = true) : fMul (.d (.int i)) (.d (.int j)) cs = .ok (.d (.int (i * j))) cs := by simp [fMul, h]
theorem mulOk_small {i j : Int} (h : i.natAbs < 18446744073709551616 ∨ j.natAbs < 18446744073709551616) : mulOk i j = true := decide_eq_true (.inl h)
theorem fDiv_int {i j : Int} (h : 0 < j) (h2 : divOk j = true) : fDiv (.d (.int i)) (.d (.int j)) cs = .ok (.d (.int (i / j))) cs := by simp [fDiv, h, h2]
theorem fMod_int {i j : Int} (h : 0 < j) : fMod (.d (.int i)) (.d (.int j)) cs = .ok (.d (.int (i % j))) cs := by simp [fMod, h]
@[simp] theorem fInt_int {i : Int} : fInt [.d (.int i)] cs = .ok (.d (.int i)) cs := rfl
@[simp] theorem eqvD_int {i j : Int} : eqvD (.int i) (.int j) = some (decide (i = j)) := rfl
@[simp] theorem eqvD_str {x y : Str} : eqvD (.str x) (.str y) = some (decide (x = y)) := rfl
@[simp] theorem eqvD_bool {x y : Bool} : eqvD (.bool x) (.bool y) = some (decide (x = y)) := rfl
theorem fEq_d {x y : PyData} {b : Bool} (h : eqvD x y = some b) : fEq (.d x) (.d y) cs = .ok (.d (.bool b)) cs := by simp [fEq, h]
theorem fNe_d {x y : PyData} {b : Bool} (h : eqvD x y = some b) : fNe (.d x) (.d y) cs = .ok (.d (.bool (!b))) cs := by simp [fNe, h]
@[simp] theorem fEq_int {i j : Int} : fEq (.d (.int i)) (.d (.int j)) cs = .ok (.d (.bool (decide (i = j)))) cs := rfl
@[simp] theorem fNe_int {i j : Int} : fNe (.d (.int i)) (.d (.int j)) cs = .ok (.d (.bool (!decide (i = j)))) cs := rfl
@[simp] theorem fEq_str {x y : Str} : fEq (.d (.str x)) (.d (.str y)) cs = .ok (.d (.bool (decide (x = y)))) cs := rfl
@[simp] theorem fNe_str {x y : Str} : fNe (.d (.str x)) (.d (.str y)) cs = .ok (.d (.bool (!decide (x = y)))) cs := rfl
theorem fIx_tup {xs : List PyData} {i : Int} {x : PyData} (h : atI xs i = some x) : fIx (.d (.tuple xs)) (.d (.int i)) cs = .ok (.d x) cs := by simp [fIx, h]
theorem fIx_lst {xs : List PyData} {i : Int} {x : PyData} (h : atI xs i = some x) : fIx (.d (.list xs)) (.d (.int i)) cs = .ok (.d x) cs := by simp [fIx, h]
theorem fIx_c {n : Nat} {xs : List PyData} {i : Int} {x : PyData} (hc : cs[n]? = some (.lst xs)) (h : atI xs i = some x) : fIx (.c n) (.d (.int i)) cs = .ok (.d x) cs := by simp [fIx, toL, hc, h]
@[simp] theorem fIx_t0 {x : PyData} {r : List PyData} : fIx (.d (.tuple (x :: r))) (.d (.int 0)) cs = .ok (.d x) cs := fIx_tup (atI_nat (j := 0) rfl)
@[simp] theorem fIx_t1 {x y : PyData} {r : List PyData} : fIx (.d (.tuple (x :: y :: r))) (.d (.int 1)) cs = .ok (.d y) cs := fIx_tup (atI_nat (j := 1) rfl)
@[simp] theorem fIx_t2 {x y z : PyData} {r : List PyData} : fIx (.d (.tuple (x :: y :: z :: r))) (.d (.int 2)) cs = .ok (.d z) cs := fIx_tup (atI_nat (j := 2) rfl)
@[simp] theorem fIx_t3 {x y z w : PyData} {r : List PyData} : fIx (.d (.tuple (x :: y :: z :: w :: r))) (.d (.int 3)) cs = .ok (.d w) cs := fIx_tup (atI_nat (j := 3) rfl)
@[simp] theorem fIx_l0 {x : PyData} {r : List PyData} : fIx (.d (.list (x :: r))) (.d (.int 0)) cs = .ok (.d x) cs := fIx_lst (atI_nat (j := 0) rfl)
theorem fIx_tn {xs : List PyData} {n : Nat} {x : PyData} (h : xs[n]? = some x) : fIx (.d (.tuple xs)) (.d (.int (n : Int))) cs = .ok (.d x) cs := fIx_tup (atI_nat h)
theorem fIx_ln {xs : List PyData} {n : Nat} {x : PyData} (h : xs[n]? = some x) : fIx (.d (.list xs)) (.d (.int (n : Int))) cs = .ok (.d x) cs := fIx_lst (atI_nat h)
theorem fIx_cn {k n : Nat} {xs : List PyData} {x : PyData} (hc : cs[k]? = some (.lst xs)) (h : xs[n]? = some x) : fIx (.c k) (.d (.int (n : Int))) cs = .ok (.d x) cs := fIx_c hc (atI_nat h)
@[simp] theorem fLen_tup {xs : List PyData} : fLen [.d (.tuple xs)] cs = .ok (.d (.int xs.length)) cs := rfl
@[simp] theorem fLen_lst {xs : List PyData} : fLen [.d (.list xs)] cs = .ok (.d (.int xs.length)) cs := rfl
theorem fLen_c {n : Nat} {xs : List PyData} (hc : cs[n]? = some (.lst xs)) : fLen [.c n] cs = .ok (.d (.int xs.length)) cs := by simp [fLen, lenA, hc]
@[simp] theorem fTuple_l {xs : List PyData} : fTuple [.d (.list xs)] cs = .ok (.d (.tuple xs)) cs := rfl
@[simp] theorem fTuple_t {xs : List PyData} : fTuple [.d (.tuple xs)] cs = .ok (.d (.tuple xs)) cs := rfl
theorem fTuple_c {n : Nat} {xs : List PyData} (hc : cs[n]? = some (.lst xs)) : fTuple [.c n] cs = .ok (.d (.tuple xs)) cs := by simp [fTuple, toS, toD, hc]
theorem fAny_l {bs : List Bool} : fAny [.d (.list (bs.map PyData.bool))] cs = .ok (.d (.bool (bs.any id))) cs := by simp [fAny, onB]
theorem fAny_fun {α : Type} {l : List α} {f : α → Bool} : fAny [.d (.list (l.map fun x => PyData.bool (f x)))] cs = .ok (.d (.bool (l.any f))) cs := by
  have : (l.map fun x => PyData.bool (f x)) = (l.map f).map PyData.bool := by rw [List.map_map]; rfl
  rw [this, fAny_l, List.any_map]; rfl
theorem fAll_l {bs : List Bool} : fAll [.d (.list (bs.map PyData.bool))] cs = .ok (.d (.bool (bs.all id))) cs := by simp [fAll, onB]
theorem fAll_fun {α : Type} {l : List α} {f : α → Bool} : fAll [.d (.list (l.map fun x => PyData.bool (f x)))] cs = .ok (.d (.bool (l.all f))) cs := by
  have : (l.map fun x => PyData.bool (f x)) = (l.map f).map PyData.bool := by rw [List.map_map]; rfl
  rw [this, fAll_l, List.all_map]; rfl
@[simp] theorem fAny_1 {b : Bool} : fAny [.d (.list [.bool b])] cs = .ok (.d (.bool b)) cs := by simp [fAny, onB]
theorem fSorted_l {ns : List Int} : fSorted [.d (.list (ns.map PyData.int))] cs = .ok (.d (.list ((sortI ns).map PyData.int))) cs := by simp [fSorted, onI]
theorem fSorted_c {n : Nat} {ns : List Int} (hc : cs[n]? = some (.lst (ns.map PyData.int))) : fSorted [.c n] cs = .ok (.d (.list ((sortI ns).map PyData.int))) cs := by simp [fSorted, onI, toL, hc]
@[simp] theorem freeze_d {x : PyData} : freeze cs (.d x) = .ok (.d x) cs := rfl
theorem freeze_c {n : Nat} {xs : List PyData} (hc : cs[n]? = some (.lst xs)) : freeze cs (.c n) = .ok (.d (.list xs)) (cs.set n .dead) := by simp [freeze, hc]
@[simp] theorem eTup_at {m : MA} : eTup m env cs = (m env cs).bind fun xs cs1 => match allD xs with
  | some ds => if ds.length ≤ sizeLine then .ok (.d (.tuple ds)) cs1 else .no
  | none => .no := rfl
@[simp] theorem eLst_at {m : MA} : eLst m env cs = (m env cs).bind fun xs cs1 => match allD xs with
  | some ds => if ds.length ≤ sizeLine then .ok (.d (.list ds)) cs1 else .no
  | none => .no := rfl
@[simp] theorem eLstC_at {m : MA} : eLstC m env cs = (m env cs).bind fun xs cs1 => match allD xs with
  | some ds => if ds.length ≤ sizeLine then .ok (.c cs1.length) (cs1 ++ [.lst ds]) else .no
  | none => .no := rfl
theorem tyA_c {n : Nat} {xs : List PyData} (hc : cs[n]? = some (.lst xs)) : tyA cs (.c n) "list" = true := by simp [tyA, hc]
theorem mAppend_c {n : Nat} {xs : List PyData} {y : PyData} (hc : cs[n]? = some (.lst xs)) (h : xs.length < sizeLine) : mAppend (.c n) [.d y] cs = .ok (.d .none) (cs.set n (.lst (xs ++ [y]))) := by simp [mAppend, onC, hc, h]
@[simp] theorem srcOf_list {xs : List PyData} : srcOf cs (.d (.list xs)) = some (.it (xs.map A.d)) := rfl
@[simp] theorem srcOf_tuple {xs : List PyData} : srcOf cs (.d (.tuple xs)) = some (.it (xs.map A.d)) := rfl
@[simp] theorem srcOf_s {ns : List Int} : srcOf cs (.s ns) = some (.it (ns.map fun i => A.d (.int i))) := rfl
theorem srcOf_c {n : Nat} {xs : List PyData} (hc : cs[n]? = some (.lst xs)) : srcOf cs (.c n) = some (.cell n) := by simp [srcOf, hc]
@[simp] theorem iVal_at {m : ME} : iVal m env cs = (m env cs).bind fun a cs1 => match srcOf cs1 a with
  | some s => .ok s cs1
  | none => .no := rfl
@[simp] theorem iEnum_at {m : ME} : iEnum m env cs = (m env cs).bind fun a cs1 => match a with
  | .d (.list xs) => .ok (.it (enumF 0 xs)) cs1
  | .d (.tuple xs) => .ok (.it (enumF 0 xs)) cs1
  | _ => .no := rfl
@[simp] theorem iRange1_at {ma : MA} : iRange1 ma env cs = (ma env cs).bind fun xs cs1 => match xs with
  | [.d (.int j)] => if inR j = true then .ok (.it (rangeD 0 j.toNat)) cs1 else .no
  | _ => .no := rfl
theorem inR_of {i : Int} (h1 : -1000000000 ≤ i) (h2 : i ≤ 1000000000) : inR i = true := decide_eq_true (by omega)
theorem rangeD_0 {n : Nat} : rangeD 0 n = (List.range n).map fun i => A.d (.int (i : Nat)) := by unfold rangeD; simp
@[simp] theorem tgNil_at : tgNil [] env cs = some env := rfl
@[simp] theorem tgCons_at {t : Tgt} {u : Tgts} {d : PyData} {ds : List PyData} : tgCons t u (d :: ds) env cs = (t (.d d) env cs).bind fun env1 => u ds env1 cs := rfl
@[simp] theorem tgTup_2 {u : Tgts} {x y : PyData} : tgTup 2 u (.d (.tuple [x, y])) env cs = u [x, y] env cs := rfl
@[simp] theorem tgTup_3 {u : Tgts} {x y z : PyData} : tgTup 3 u (.d (.tuple [x, y, z])) env cs = u [x, y, z] env cs := rfl
@[simp] theorem sAug_at {i : Nat} {f : A → A → CS → R A} {me : ME} : sAug i f me env cs = (match env[i]? with
  | some (some x) => (me env cs).toS env fun y cs1 => (f x y cs1).toS env fun z cs2 => .nx (env.set i (some z)) cs2
  | _ => .no) := rfl
@[simp] theorem noEx_no {α : Type} : noEx (R.no : R α) = .no := rfl
@[simp] theorem asD_d {x : PyData} : asD (.d x) = some x := rfl
@[simp] theorem fin_d {cs' : CS} {x : PyData} : fin cs cs' (.d x) = .ok (.d x) (cs'.take cs.length) := rfl
theorem size_ok {n : Nat} (h : n ≤ 1000000) : n ≤ sizeLine := by rw [sizeLine_eq]; omega
theorem size_lt {n : Nat} (h : n ≤ 1000000) : n < sizeLine := by rw [sizeLine_eq]; omega
@[simp] theorem size_0 : (0 : Nat) ≤ sizeLine := Nat.zero_le _
@[simp] theorem size_1 : (1 : Nat) ≤ sizeLine := size_ok (by decide)
@[simp] theorem size_2 : (2 : Nat) ≤ sizeLine := size_ok (by decide)
@[simp] theorem size_3 : (3 : Nat) ≤ sizeLine := size_ok (by decide)
@[simp] theorem size_4 : (4 : Nat) ≤ sizeLine := size_ok (by decide)
end
/-! ### lists of numbers -/
def nsD (ws : List Nat) : List PyData := ws.map fun (n : Nat) => PyData.int (n : Int)
@[simp] theorem nsD_nil : nsD [] = [] := rfl
@[simp] theorem nsD_cons {n : Nat} {r : List Nat} : nsD (n :: r) = .int (n : Int) :: nsD r := rfl
@[simp] theorem nsD_append {a b : List Nat} : nsD (a ++ b) = nsD a ++ nsD b := List.map_append
@[simp] theorem nsD_length {a : List Nat} : (nsD a).length = a.length := List.length_map _
theorem nsD_get {a : List Nat} {i n : Nat} (h : a[i]? = some n) : (nsD a)[i]? = some (.int (n : Int)) := by simp [nsD, h]
@[simp] theorem nsD_A {a : List Nat} : (nsD a).map A.d = a.map fun (n : Nat) => A.d (.int (n : Int)) := by simp [nsD]
theorem nsD_flat {a : List Nat} : (nsD a).all flatD = true := by simp [nsD, flatD]
theorem inF_nat {x : Nat} {a : List Nat} : inF (.int (x : Int)) (nsD a) = decide (x ∈ a) := by
  induction a with
  | nil => rfl
  | cons y a ih =>
    have e : inF (.int (x : Int)) (nsD (y :: a)) = (((y : Int) == (x : Int)) || inF (.int (x : Int)) (nsD a)) := rfl
    rw [e, ih]
    by_cases h : x = y
    · subst h; simp
    · have h' : ¬ (y : Int) = (x : Int) := by omega
      simp [h, h']
theorem fIn_c {cs : CS} {neg : Bool} {n x : Nat} {a : List Nat} (hc : cs[n]? = some (.lst (nsD a))) : fIn neg (.d (.int (x : Int))) (.c n) cs = .ok (.d (.bool (if neg then !decide (x ∈ a) else decide (x ∈ a)))) cs := by
  simp only [fIn, toS, toD, hc, nsD_flat, inF_nat, flatD]; rfl
/-! ### data that may be compared -/
def okS (n : Nat) (x : PyData) : Prop := x.canLay0 = true ∧ x.depth ≤ n
theorem okS_int {i : Int} {n : Nat} : okS n (.int i) := ⟨by simp [PyData.canLay0], by simp [PyData.depth]⟩
theorem okS_bool {b : Bool} {n : Nat} : okS n (.bool b) := ⟨by simp [PyData.canLay0], by simp [PyData.depth]⟩
theorem okS_none {n : Nat} : okS n .none := ⟨by simp [PyData.canLay0], by simp [PyData.depth]⟩
theorem okS_str {x : Str} {n : Nat} (h : PyData.strOk x = true) : okS n (.str x) := ⟨by simp [PyData.canLay0, h], by simp [PyData.depth]⟩
theorem okS_all {n : Nat} : ∀ {xs : List PyData}, (∀ x ∈ xs, okS n x) → PyData.canLayAll0 xs = true ∧ PyData.depthAll xs ≤ n
  | [], _ => ⟨by simp [PyData.canLayAll0], by simp [PyData.depthAll]⟩
  | x :: xs, h => by
    obtain ⟨h1, h2⟩ := h x List.mem_cons_self
    obtain ⟨h3, h4⟩ := okS_all fun y hy => h y (List.mem_cons_of_mem _ hy)
    exact ⟨by simp [PyData.canLayAll0, h1, h3], by simp only [PyData.depthAll]; omega⟩
theorem okS_list {n : Nat} {xs : List PyData} (h : ∀ x ∈ xs, okS n x) : okS (n + 1) (.list xs) := by
  obtain ⟨h1, h2⟩ := okS_all h
  exact ⟨by simp [PyData.canLay0, h1], by simp only [PyData.depth]; omega⟩
theorem okS_tup {n : Nat} {xs : List PyData} (h : ∀ x ∈ xs, okS n x) : okS (n + 1) (.tuple xs) := by
  obtain ⟨h1, h2⟩ := okS_all h
  exact ⟨by simp [PyData.canLay0, h1], by simp only [PyData.depth]; omega⟩
theorem shaped_of {n : Nat} {x : PyData} (h : okS n x) (hn : n ≤ 64) : SeqAt.shaped x = true := by
  unfold SeqAt.shaped
  simp only [h.1, Bool.true_and, decide_eq_true_eq]
  have := h.2; omega
theorem eqvD_seq {n m : Nat} {x y : PyData} (hx : okS n x) (hy : okS m y) (hn : n ≤ 64) (hm : m ≤ 64) (h : eqS x y = none) : eqvD x y = some (PyData.eqv x y) := by
  simp [eqvD, h, shaped_of hx hn, shaped_of hy hm]
theorem eqvAll_map {α : Type} [DecidableEq α] {f : α → PyData} (h : ∀ a b, PyData.eqv (f a) (f b) = decide (a = b)) : ∀ xs ys : List α, PyData.eqvAll (xs.map f) (ys.map f) = decide (xs = ys)
  | [], [] => by simp [PyData.eqvAll]
  | [], _ :: _ => by simp [PyData.eqvAll]
  | _ :: _, [] => by simp [PyData.eqvAll]
  | x :: xs, y :: ys => by simp [PyData.eqvAll, h, eqvAll_map h xs ys]
theorem eqv_bool (a b : Bool) : PyData.eqv (.bool a) (.bool b) = decide (a = b) := by rw [Bool.eq_iff_iff]; simp [PyData.eqv]
theorem eqv_int (a b : Int) : PyData.eqv (.int a) (.int b) = decide (a = b) := by rw [Bool.eq_iff_iff]; simp [PyData.eqv]
theorem eqv_list (xs ys : List PyData) : PyData.eqv (.list xs) (.list ys) = PyData.eqvAll xs ys := by simp [PyData.eqv]
theorem eqv_tup (xs ys : List PyData) : PyData.eqv (.tuple xs) (.tuple ys) = PyData.eqvAll xs ys := by simp [PyData.eqv]
@[simp] theorem last_get {cs : CS} {c : Cell} : (cs ++ [c])[cs.length]? = some c := by simp
@[simp] theorem last_set {cs : CS} {c c' : Cell} : (cs ++ [c]).set cs.length c' = cs ++ [c'] := by
  rw [List.set_append_right _ _ (Nat.le_refl _), Nat.sub_self]; rfl
@[simp] theorem last_take {cs : CS} {c : Cell} : (cs ++ [c]).take cs.length = cs := by simp
/-! ### plain calls -/
theorem plainF_ok {F : Fn} {xs : List A} {cs : CS} {x : PyData} (hp : xs.all isPl = true) (h : F xs [] = .ok (.d x) []) : plainF F xs cs = .ok (.d x) cs := by simp [plainF, hp, h, plainR]
theorem plainF_nil {F : Fn} {xs : List A} {x : PyData} (hp : xs.all isPl = true) (h : F xs [] = .ok (.d x) []) : plainF F xs [] = .ok (.d x) [] := plainF_ok hp h
@[simp] theorem isPl_d {x : PyData} : isPl (.d x) = true := rfl
@[simp] theorem isPl_s {x : List Int} : isPl (.s x) = true := rfl
/-! ### comprehensions -/
theorem lcIt_map {α : Type} {tg : Tgt} {t : MT} {e : ME} {env : Env} {cs : CS} (enc : α → A) (p : α → Bool) (f : α → PyData) : ∀ ys : List α,
    (∀ y ∈ ys, ∃ env1, tg (enc y) env cs = some env1 ∧ t env1 cs = .ok (p y) cs ∧ (p y = true → e env1 cs = .ok (.d (f y)) cs)) → lcIt tg t e env (ys.map enc) cs = .ok ((ys.filter p).map f) cs
  | [], _ => rfl
  | y :: ys, h => by
    obtain ⟨env1, h1, h2, h3⟩ := h y List.mem_cons_self
    have ih := lcIt_map enc p f ys fun z hz => h z (List.mem_cons_of_mem _ hz)
    rw [List.map_cons]
    unfold lcIt
    simp only [h1, h2, noEx_ok, R.bind_ok]
    cases q : p y with
    | false => simp [ih, q]
    | true => simp [h3 q, ih, q]
theorem eLc_map {α : Type} {fr : List Nat} {src : MI} {tg : Tgt} {t : MT} {e : ME} {env : Env} {cs : CS} (enc : α → A) (p : α → Bool) (f : α → PyData) (ys : List α) (hs : src env cs = .ok (.it (ys.map enc)) cs) (hl : ys.length ≤ sizeLine)
    (h : ∀ y ∈ ys, ∃ env1, tg (enc y) (wipeE fr.reverse env) cs = some env1 ∧ t env1 cs = .ok (p y) cs ∧ (p y = true → e env1 cs = .ok (.d (f y)) cs)) : eLc fr src tg t e env cs = .ok (.d (.list ((ys.filter p).map f))) cs := by
  unfold eLc
  simp only [hs, R.bind_ok, lcS, List.length_map, hl, if_true]
  rw [lcIt_map enc p f ys h]
  rfl
theorem eLc_all {α : Type} {fr : List Nat} {src : MI} {tg : Tgt} {e : ME} {env : Env} {cs : CS} (enc : α → A) (f : α → PyData) (ys : List α) (hs : src env cs = .ok (.it (ys.map enc)) cs) (hl : ys.length ≤ sizeLine)
    (h : ∀ y ∈ ys, ∃ env1, tg (enc y) (wipeE fr.reverse env) cs = some env1 ∧ e env1 cs = .ok (.d (f y)) cs) : eLc fr src tg tYesM e env cs = .ok (.d (.list (ys.map f))) cs := by
  have k := eLc_map (fr := fr) (src := src) (tg := tg) (t := tYesM) (e := e) (env := env) (cs := cs) enc (fun _ => true) f ys hs hl fun y hy => by
    obtain ⟨env1, h1, h2⟩ := h y hy
    exact ⟨env1, h1, rfl, fun _ => h2⟩
  rw [k, List.filter_eq_self.mpr fun _ _ => rfl]
/-! ### loops -/
def Goes (r : RS) (fg : List Nat) (env : Env) (cs : CS) : Prop := match r with
  | .nx e c => wipeE fg e = env ∧ c = cs
  | .ct e c => wipeE fg e = env ∧ c = cs
  | _ => False
@[simp] theorem Goes_nx {fg : List Nat} {env e : Env} {cs c : CS} : Goes (.nx e c) fg env cs = (wipeE fg e = env ∧ c = cs) := rfl
@[simp] theorem Goes_ct {fg : List Nat} {env e : Env} {cs c : CS} : Goes (.ct e c) fg env cs = (wipeE fg e = env ∧ c = cs) := rfl
theorem Goes.loop {r : RS} {fg : List Nat} {env : Env} {cs : CS} (h : Goes r fg env cs) (k : Env → CS → RS) : loopK r fg k = k env cs := by
  cases r with
  | nx e c => obtain ⟨rfl, rfl⟩ := h; rfl
  | ct e c => obtain ⟨rfl, rfl⟩ := h; rfl
  | _ => exact h.elim
def turn (tg : Tgt) (body : MS) (x : A) (env : Env) (cs : CS) : RS := match tg x env cs with
  | some env1 => body env1 cs
  | none => .no
@[simp] theorem turn_at {tg : Tgt} {body : MS} {x : A} {env : Env} {cs : CS} : turn tg body x env cs = (match tg x env cs with
  | some env1 => body env1 cs
  | none => .no) := rfl
theorem forIt_step {tg : Tgt} {body : MS} {fg : List Nat} {x : A} {xs : List A} {env env' : Env} {cs cs' : CS} (h : Goes (turn tg body x env cs) fg env' cs') : forIt tg body fg (x :: xs) env cs = forIt tg body fg xs env' cs' := by
  have e : forIt tg body fg (x :: xs) env cs = (match tg x env cs with
    | none => .no
    | some env1 => loopK (body env1 cs) fg (forIt tg body fg xs)) := rfl
  rw [e]
  unfold turn at h
  cases q : tg x env cs with
  | none => rw [q] at h; exact h.elim
  | some env1 => rw [q] at h; exact Goes.loop (r := body env1 cs) h _
@[simp] theorem sFor_at {fuel : Nat} {fg : List Nat} {src : MI} {tg : Tgt} {body : MS} {env : Env} {cs : CS} : sFor fuel fg src tg body env cs = (src env cs).toS env fun s cs1 => forS fuel tg body fg s (wipeE fg env) cs1 := rfl
@[simp] theorem forS_it {fuel : Nat} {fg : List Nat} {xs : List A} {tg : Tgt} {body : MS} {env : Env} {cs : CS} : forS fuel tg body fg (.it xs) env cs = forIt tg body fg xs env cs := rfl
@[simp] theorem forS_cell {fuel n : Nat} {fg : List Nat} {tg : Tgt} {body : MS} {env : Env} {cs : CS} : forS fuel tg body fg (.cell n) env cs = forCell tg body fg n fuel 0 env cs := rfl
@[simp] theorem sWhile_at {fuel : Nat} {fg : List Nat} {t : MT} {body : MS} {env : Env} {cs : CS} : sWhile fuel fg t body env cs = whileN t body fg fuel (wipeE fg env) cs := rfl
theorem forIt_inv {α σ : Type} {tg : Tgt} {body : MS} {fg : List Nat} (enc : α → A) (E : σ → Env) (C : σ → CS) (I : List α → σ → Prop) (st : ∀ y r s, I (y :: r) s → ∃ s2, I r s2 ∧ Goes (turn tg body (enc y) (E s) (C s)) fg (E s2) (C s2)) :
    ∀ (ys : List α) (s : σ), I ys s → ∃ s', forIt tg body fg (ys.map enc) (E s) (C s) = .nx (E s') (C s') ∧ I [] s'
  | [], s, h => ⟨s, rfl, h⟩
  | y :: ys, s, h => by
    obtain ⟨s2, h4, h2⟩ := st y ys s h
    obtain ⟨s', k1, k2⟩ := forIt_inv enc E C I st ys s2 h4
    refine ⟨s', ?_, k2⟩
    rw [List.map_cons, forIt_step h2, k1]
theorem while_inv {σ : Type} {t : MT} {body : MS} {fg : List Nat} (E : σ → Env) (C : σ → CS) (I : σ → Prop) (μ : σ → Nat)
    (st : ∀ s, I s → t (E s) (C s) = .ok false (C s) ∨ (t (E s) (C s) = .ok true (C s) ∧ ∃ s2, Goes (body (E s) (C s)) fg (E s2) (C s2) ∧ I s2 ∧ μ s2 < μ s)) :
    ∀ (n : Nat) (s : σ), μ s < n → I s → ∃ s', whileN t body fg n (E s) (C s) = .nx (E s') (C s') ∧ I s' ∧ t (E s') (C s') = .ok false (C s')
  | 0, s, h, _ => absurd h (Nat.not_lt_zero _)
  | n + 1, s, h, hI => by
    unfold whileN
    rcases st s hI with q | ⟨q, s2, h2, h4, h5⟩
    · refine ⟨s, ?_, hI, q⟩
      simp only [q, R.toS_ok]
      rfl
    · obtain ⟨s', k1, k2, k3⟩ := while_inv E C I μ st n s2 (by omega) h4
      refine ⟨s', ?_, k2, k3⟩
      simp only [q, R.toS_ok, if_true]
      rw [h2.loop, k1]
theorem enumF_map {α : Type} (g : α → PyData) : ∀ (k : Nat) (ys : List α), enumF k (ys.map g) = (ys.zipIdx k).map fun p => A.d (.tuple [.int (p.2 : Nat), g p.1])
  | _, [] => rfl
  | k, y :: ys => by
    show A.d _ :: enumF (k + 1) (ys.map g) = _
    rw [enumF_map g (k + 1) ys]
    rfl
/-! ### loops that append -/
theorem forIt_append {α : Type} {tg : Tgt} {body : MS} {fg : List Nat} {env : Env} {cs : CS} (enc : α → A) (f : α → PyData) : ∀ (ys : List α) (xs : List PyData), xs.length + ys.length < sizeLine →
    (∀ y ∈ ys, ∀ xs, xs.length < sizeLine → Goes (turn tg body (enc y) env (cs ++ [.lst xs])) fg env (cs ++ [.lst (xs ++ [f y])])) →
    forIt tg body fg (ys.map enc) env (cs ++ [.lst xs]) = .nx env (cs ++ [.lst (xs ++ ys.map f)])
  | [], xs, _, _ => by rw [List.map_nil, List.map_nil, List.append_nil]; rfl
  | y :: ys, xs, hl, h => by
    rw [List.length_cons] at hl
    have ih := forIt_append enc f ys (xs ++ [f y]) (by rw [List.length_append, List.length_singleton]; omega) fun z hz => h z (List.mem_cons_of_mem _ hz)
    rw [List.map_cons, forIt_step (h y List.mem_cons_self xs (by omega)), ih, List.append_assoc]; rfl
end Sh
namespace Sh
open PySem L2
/-! ### work lists: found grows while its places are gone through -/
def addN (f : List Nat) (n : Nat) : List Nat := if n ∈ f then f else f ++ [n]
def addAll (f ns : List Nat) : List Nat := ns.foldl addN f
@[simp] theorem addAll_nil {f : List Nat} : addAll f [] = f := rfl
@[simp] theorem addAll_cons {f : List Nat} {n : Nat} {ns : List Nat} : addAll f (n :: ns) = addAll (addN f n) ns := rfl
theorem addN_mem {f : List Nat} {n x : Nat} : x ∈ addN f n ↔ x ∈ f ∨ x = n := by
  unfold addN
  split
  · rename_i h
    exact ⟨.inl, fun z => z.elim id fun e => e ▸ h⟩
  · simp
theorem addAll_mem {x : Nat} : ∀ {ns f : List Nat}, x ∈ addAll f ns ↔ x ∈ f ∨ x ∈ ns
  | [], f => by simp
  | n :: ns, f => by rw [addAll_cons, addAll_mem, addN_mem, List.mem_cons, or_assoc]
theorem addN_nodup {f : List Nat} {n : Nat} (h : f.Nodup) : (addN f n).Nodup := by
  unfold addN
  split
  · exact h
  · rename_i hn
    exact List.nodup_append.mpr ⟨h, by simp, fun a ha b hb => by
      simp at hb; subst hb; exact fun e => hn (e ▸ ha)⟩
theorem addAll_nodup : ∀ {ns f : List Nat}, f.Nodup → (addAll f ns).Nodup
  | [], _, h => h
  | n :: ns, f, h => by rw [addAll_cons]; exact addAll_nodup (addN_nodup h)
theorem addN_pre {f : List Nat} {n : Nat} : ∃ e, addN f n = f ++ e ∧ e.length ≤ 1 := by
  unfold addN
  split
  · exact ⟨[], by simp, by simp⟩
  · exact ⟨[n], rfl, Nat.le_refl _⟩
theorem addAll_pre : ∀ {ns f : List Nat}, ∃ e, addAll f ns = f ++ e ∧ e.length ≤ ns.length
  | [], f => ⟨[], by simp, Nat.le_refl _⟩
  | n :: ns, f => by
    obtain ⟨e1, h1, l1⟩ := addN_pre (f := f) (n := n)
    obtain ⟨e2, h2, l2⟩ := addAll_pre (ns := ns) (f := addN f n)
    refine ⟨e1 ++ e2, ?_, ?_⟩
    · rw [addAll_cons, h2, h1, List.append_assoc]
    · rw [List.length_append, List.length_cons]; omega
inductive Reach (succ : Nat → List Nat) (s : Nat) : Nat → Prop
  | here : Reach succ s s
  | next {a b : Nat} : Reach succ s a → b ∈ succ a → Reach succ s b
structure WInv (succ : Nat → List Nat) (N s : Nat) (found : List Nat) (place : Nat) : Prop where
  nd : found.Nodup
  st : s ∈ found
  ok : ∀ x ∈ found, Reach succ s x ∧ x < N
  pl : place ≤ found.length
  cl : ∀ i x, i < place → found[i]? = some x → ∀ y ∈ succ x, y ∈ found
theorem nodup_len {N : Nat} {l : List Nat} (h : l.Nodup) (hl : ∀ x ∈ l, x < N) : l.length ≤ N := by
  have := List.Nodup.length_le_of_subset (l₂ := List.range N) h fun x hx => List.mem_range.mpr (hl x hx)
  rwa [List.length_range] at this
theorem WInv.start {succ : Nat → List Nat} {N s : Nat} (h : s < N) : WInv succ N s [s] 0 :=
  ⟨by simp, by simp, fun x hx => by simp at hx; subst hx; exact ⟨.here, h⟩, Nat.zero_le _, fun i x hi => absurd hi (Nat.not_lt_zero _)⟩
theorem WInv.len {succ : Nat → List Nat} {N s place : Nat} {found : List Nat} (w : WInv succ N s found place) : found.length ≤ N := nodup_len w.nd fun x hx => (w.ok x hx).2
theorem WInv.step {succ : Nat → List Nat} {N s place x : Nat} {found : List Nat} (w : WInv succ N s found place) (hx : found[place]? = some x) (hN : ∀ y ∈ succ x, y < N) : WInv succ N s (addAll found (succ x)) (place + 1) := by
  obtain ⟨e, he, hle⟩ := addAll_pre (ns := succ x) (f := found)
  have hxm : x ∈ found := List.mem_of_getElem? hx
  have hp : place < found.length := (List.getElem?_eq_some_iff.mp hx).1
  refine ⟨addAll_nodup w.nd, addAll_mem.mpr (.inl w.st), fun y hy => ?_, ?_, fun i z hi hz y hy => ?_⟩
  · rcases addAll_mem.mp hy with h | h
    · exact w.ok y h
    · exact ⟨.next (w.ok x hxm).1 h, hN y h⟩
  · rw [he, List.length_append]; omega
  · by_cases hip : i < place
    · have hz' : found[i]? = some z := by rw [he, List.getElem?_append_left (by omega)] at hz; exact hz
      exact addAll_mem.mpr (.inl (w.cl i z hip hz' y hy))
    · obtain rfl : i = place := by omega
      have hz' : found[i]? = some z := by rw [he, List.getElem?_append_left hp] at hz; exact hz
      rw [hx] at hz'; cases hz'
      exact addAll_mem.mpr (.inr hy)
theorem WInv.step' {succ : Nat → List Nat} {N s place x : Nat} {found ns : List Nat} (w : WInv succ N s found place) (hx : found[place]? = some x) (hs : ∀ y, y ∈ ns ↔ y ∈ succ x) (hN : ∀ y ∈ succ x, y < N) : WInv succ N s (addAll found ns) (place + 1) := by
  have k := w.step hx hN
  have me : ∀ y, y ∈ addAll found ns ↔ y ∈ addAll found (succ x) := fun y => by rw [addAll_mem, addAll_mem, hs]
  obtain ⟨e, he, hle⟩ := addAll_pre (ns := ns) (f := found)
  have hxm : x ∈ found := List.mem_of_getElem? hx
  have hp : place < found.length := (List.getElem?_eq_some_iff.mp hx).1
  refine ⟨addAll_nodup w.nd, addAll_mem.mpr (.inl w.st), fun y hy => k.ok y ((me y).mp hy), by rw [he, List.length_append]; omega, fun i z hi hz y hy => ?_⟩
  by_cases hip : i < place
  · have hz' : found[i]? = some z := by rw [he, List.getElem?_append_left (by omega)] at hz; exact hz
    exact addAll_mem.mpr (.inl (w.cl i z hip hz' y hy))
  · obtain rfl : i = place := by omega
    have hz' : found[i]? = some z := by rw [he, List.getElem?_append_left hp] at hz; exact hz
    rw [hx] at hz'; cases hz'
    exact addAll_mem.mpr (.inr ((hs y).mpr hy))
theorem WInv.done {succ : Nat → List Nat} {N s place : Nat} {found : List Nat} (w : WInv succ N s found place) (h : found.length ≤ place) (x : Nat) : x ∈ found ↔ Reach succ s x := by
  refine ⟨fun hx => (w.ok x hx).1, fun r => ?_⟩
  induction r with
  | here => exact w.st
  | @next a b _ hb ih =>
    obtain ⟨i, hi, e⟩ := List.getElem_of_mem ih
    exact w.cl i a (by omega) (by rw [List.getElem?_eq_getElem hi, e]) b hb
/-! ### sorted -/
theorem sortI_eq {l m : List Int} (p : l.Perm m) : sortI l = sortI m := sorted_one (((sortI_perm l).trans p).trans (sortI_perm m).symm) (sortI_sorted l) (sortI_sorted m)
theorem sortI_id : ∀ {l : List Int}, l.Pairwise (· ≤ ·) → sortI l = l := fun {l} h => sorted_one (sortI_perm l) (sortI_sorted l) h
theorem sort_canon {N : Nat} {l : List Nat} (hn : l.Nodup) (P : Nat → Bool) (hP : ∀ x, x ∈ l ↔ (P x = true ∧ x < N)) : sortI (l.map fun (n : Nat) => (n : Int)) = ((List.range N).filter P).map fun (n : Nat) => (n : Int) := by
  have p : l.Perm ((List.range N).filter P) := (List.perm_ext_iff_of_nodup hn (List.nodup_range.filter _)).mpr fun x => by
    rw [hP, List.mem_filter, List.mem_range]; exact and_comm
  rw [sortI_eq (p.map _)]
  refine sortI_id ?_
  rw [List.pairwise_map]
  exact ((List.pairwise_lt_range).filter _).imp fun h => by omega
theorem nsD_ints {l : List Nat} : nsD l = (l.map fun (n : Nat) => (n : Int)).map PyData.int := by simp [nsD]
theorem fSorted_n {cs : CS} {N : Nat} {l : List Nat} (hn : l.Nodup) (P : Nat → Bool) (hP : ∀ x, x ∈ l ↔ (P x = true ∧ x < N)) : fSorted [.d (.list (nsD l))] cs = .ok (.d (.list (nsD ((List.range N).filter P)))) cs := by
  rw [nsD_ints, fSorted_l, sort_canon hn P hP, ← nsD_ints]
theorem fSorted_nc {cs : CS} {k N : Nat} {l : List Nat} (hc : cs[k]? = some (.lst (nsD l))) (hn : l.Nodup) (P : Nat → Bool) (hP : ∀ x, x ∈ l ↔ (P x = true ∧ x < N)) : fSorted [.c k] cs = .ok (.d (.list (nsD ((List.range N).filter P)))) cs := by
  rw [nsD_ints] at hc
  rw [fSorted_c hc, sort_canon hn P hP, ← nsD_ints]
/-- for n in ns: if n not in found: found.append(n) -/
theorem forIt_add {tg : Tgt} {body : MS} {fg : List Nat} {env : Env} {cs : CS} (h : ∀ (n : Nat) (f : List Nat), f.length < sizeLine → Goes (turn tg body (.d (.int (n : Int))) env (cs ++ [.lst (nsD f)])) fg env (cs ++ [.lst (nsD (addN f n))])) : ∀ (ns f : List Nat), f.length + ns.length < sizeLine →
    forIt tg body fg (ns.map fun (n : Nat) => A.d (.int (n : Int))) env (cs ++ [.lst (nsD f)]) = .nx env (cs ++ [.lst (nsD (addAll f ns))])
  | [], f, _ => rfl
  | n :: ns, f, hl => by
    rw [List.length_cons] at hl
    obtain ⟨e, he, hle⟩ := addN_pre (f := f) (n := n)
    rw [List.map_cons, forIt_step (h n f (by omega)), forIt_add h ns (addN f n) (by rw [he, List.length_append]; omega)]
    rfl
def addO (f : List Nat) (o : Option Nat) : List Nat := match o with
  | some n => addN f n
  | none => f
theorem addO_pre {f : List Nat} {o : Option Nat} : ∃ e, addO f o = f ++ e ∧ e.length ≤ 1 := by
  cases o with
  | none => exact ⟨[], by simp [addO], by simp⟩
  | some n => exact addN_pre
theorem addAll_filterMap {cand : Nat → Option Nat} : ∀ {ns f : List Nat}, ns.foldl (fun f n => addO f (cand n)) f = addAll f (ns.filterMap cand)
  | [], _ => rfl
  | n :: ns, f => by
    rw [List.foldl_cons, addAll_filterMap]
    cases q : cand n with
    | none => rw [List.filterMap_cons_none q]; rfl
    | some m => rw [List.filterMap_cons_some q]; rfl
/-- for n in ns: if .. and q not in found: found.append(q) -/
theorem forIt_opt {tg : Tgt} {body : MS} {fg : List Nat} {env : Env} {cs : CS} (cand : Nat → Option Nat) (f0 : List Nat) : ∀ (ns f : List Nat), (∀ n ∈ ns, ∀ e : List Nat, (f0 ++ e).length < sizeLine → Goes (turn tg body (.d (.int (n : Int))) env (cs ++ [.lst (nsD (f0 ++ e))])) fg env (cs ++ [.lst (nsD (addO (f0 ++ e) (cand n)))])) → (∃ e, f = f0 ++ e) → f.length + ns.length < sizeLine →
    forIt tg body fg (ns.map fun (n : Nat) => A.d (.int (n : Int))) env (cs ++ [.lst (nsD f)]) = .nx env (cs ++ [.lst (nsD (addAll f (ns.filterMap cand)))])
  | [], f, _, _, _ => rfl
  | n :: ns, f, h, he, hl => by
    rw [List.length_cons] at hl
    obtain ⟨e, rfl⟩ := he
    obtain ⟨e1, he1, hle⟩ := addO_pre (f := f0 ++ e) (o := cand n)
    rw [List.map_cons, forIt_step (h n List.mem_cons_self e (by omega)), forIt_opt cand f0 ns (addO (f0 ++ e) (cand n)) (fun m hm => h m (List.mem_cons_of_mem _ hm)) ⟨e ++ e1, by rw [he1, List.append_assoc]⟩ (by rw [he1, List.length_append]; omega)]
    cases q : cand n with
    | none => rw [List.filterMap_cons_none q]; rfl
    | some m => rw [List.filterMap_cons_some q]; rfl
end Sh
namespace K09
open PySem L2 Sh
def top (i : Nat) : Stmt := PySem.Challenge.pw_changedalike_k09_ends.main.body.getD i (.Pass ⟨0, 0, 0, 0⟩)
abbrev s__law_shelf : Stmt := top 13
abbrev s__law_leads : Stmt := top 17
abbrev s__law_ended : Stmt := top 18
abbrev s__law_numbers : Stmt := top 15
abbrev s_nexts_of : Stmt := top 1
abbrev s_goes_on : Stmt := top 3
abbrev s_ended_marks : Stmt := top 4
abbrev s_ended_rows : Stmt := top 5
abbrev s_lost_procedures : Stmt := top 6
abbrev s_ways_on : Stmt := top 7
abbrev s_met_by : Stmt := top 8
abbrev s_met_rows : Stmt := top 9
abbrev s_needed_by : Stmt := top 10
abbrev s_needed_procedures : Stmt := top 11
abbrev s__law_met : Stmt := top 19
abbrev s__law_needed : Stmt := top 20
abbrev s__law_asked : Stmt := top 21
abbrev s__law_hand : Stmt := top 22
abbrev s__law_pull : Stmt := top 14
abbrev s__law_code : Stmt := top 16
abbrev s_law : Stmt := top 23
structure Tops (K : PySem.W.Frag) (mg : Str → Option Value) where
  a__law_shelf : Addr
  fd__law_shelf : FuncData
  F__law_shelf : Fun K "_law_shelf" "_law_shelf" s__law_shelf a__law_shelf fd__law_shelf
  m__law_shelf : mg "_law_shelf" = some (.ref a__law_shelf)
  a__law_leads : Addr
  fd__law_leads : FuncData
  F__law_leads : Fun K "_law_leads" "_law_leads" s__law_leads a__law_leads fd__law_leads
  m__law_leads : mg "_law_leads" = some (.ref a__law_leads)
  a__law_ended : Addr
  fd__law_ended : FuncData
  F__law_ended : Fun K "_law_ended" "_law_ended" s__law_ended a__law_ended fd__law_ended
  m__law_ended : mg "_law_ended" = some (.ref a__law_ended)
  a__law_numbers : Addr
  fd__law_numbers : FuncData
  F__law_numbers : Fun K "_law_numbers" "_law_numbers" s__law_numbers a__law_numbers fd__law_numbers
  m__law_numbers : mg "_law_numbers" = some (.ref a__law_numbers)
  a_nexts_of : Addr
  fd_nexts_of : FuncData
  F_nexts_of : Fun K "nexts_of" "nexts_of" s_nexts_of a_nexts_of fd_nexts_of
  m_nexts_of : mg "nexts_of" = some (.ref a_nexts_of)
  a_goes_on : Addr
  fd_goes_on : FuncData
  F_goes_on : Fun K "goes_on" "goes_on" s_goes_on a_goes_on fd_goes_on
  m_goes_on : mg "goes_on" = some (.ref a_goes_on)
  a_ended_marks : Addr
  fd_ended_marks : FuncData
  F_ended_marks : Fun K "ended_marks" "ended_marks" s_ended_marks a_ended_marks fd_ended_marks
  m_ended_marks : mg "ended_marks" = some (.ref a_ended_marks)
  a_ended_rows : Addr
  fd_ended_rows : FuncData
  F_ended_rows : Fun K "ended_rows" "ended_rows" s_ended_rows a_ended_rows fd_ended_rows
  m_ended_rows : mg "ended_rows" = some (.ref a_ended_rows)
  a_lost_procedures : Addr
  fd_lost_procedures : FuncData
  F_lost_procedures : Fun K "lost_procedures" "lost_procedures" s_lost_procedures a_lost_procedures fd_lost_procedures
  m_lost_procedures : mg "lost_procedures" = some (.ref a_lost_procedures)
  a_ways_on : Addr
  fd_ways_on : FuncData
  F_ways_on : Fun K "ways_on" "ways_on" s_ways_on a_ways_on fd_ways_on
  m_ways_on : mg "ways_on" = some (.ref a_ways_on)
  a_met_by : Addr
  fd_met_by : FuncData
  F_met_by : Fun K "met_by" "met_by" s_met_by a_met_by fd_met_by
  m_met_by : mg "met_by" = some (.ref a_met_by)
  a_met_rows : Addr
  fd_met_rows : FuncData
  F_met_rows : Fun K "met_rows" "met_rows" s_met_rows a_met_rows fd_met_rows
  m_met_rows : mg "met_rows" = some (.ref a_met_rows)
  a_needed_by : Addr
  fd_needed_by : FuncData
  F_needed_by : Fun K "needed_by" "needed_by" s_needed_by a_needed_by fd_needed_by
  m_needed_by : mg "needed_by" = some (.ref a_needed_by)
  a_needed_procedures : Addr
  fd_needed_procedures : FuncData
  F_needed_procedures : Fun K "needed_procedures" "needed_procedures" s_needed_procedures a_needed_procedures fd_needed_procedures
  m_needed_procedures : mg "needed_procedures" = some (.ref a_needed_procedures)
  a__law_met : Addr
  fd__law_met : FuncData
  F__law_met : Fun K "_law_met" "_law_met" s__law_met a__law_met fd__law_met
  m__law_met : mg "_law_met" = some (.ref a__law_met)
  a__law_needed : Addr
  fd__law_needed : FuncData
  F__law_needed : Fun K "_law_needed" "_law_needed" s__law_needed a__law_needed fd__law_needed
  m__law_needed : mg "_law_needed" = some (.ref a__law_needed)
  a__law_asked : Addr
  fd__law_asked : FuncData
  F__law_asked : Fun K "_law_asked" "_law_asked" s__law_asked a__law_asked fd__law_asked
  m__law_asked : mg "_law_asked" = some (.ref a__law_asked)
  a__law_hand : Addr
  fd__law_hand : FuncData
  F__law_hand : Fun K "_law_hand" "_law_hand" s__law_hand a__law_hand fd__law_hand
  m__law_hand : mg "_law_hand" = some (.ref a__law_hand)
  a__law_pull : Addr
  fd__law_pull : FuncData
  F__law_pull : Fun K "_law_pull" "_law_pull" s__law_pull a__law_pull fd__law_pull
  m__law_pull : mg "_law_pull" = some (.ref a__law_pull)
  a__law_code : Addr
  fd__law_code : FuncData
  F__law_code : Fun K "_law_code" "_law_code" s__law_code a__law_code fd__law_code
  m__law_code : mg "_law_code" = some (.ref a__law_code)
  a_law : Addr
  fd_law : FuncData
  F_law : Fun K "law" "law" s_law a_law fd_law
  m_law : mg "law" = some (.ref a_law)
  z_any : mg "any" = none
  z_bool : mg "bool" = none
  z_enumerate : mg "enumerate" = none
  z_int : mg "int" = none
  z_isinstance : mg "isinstance" = none
  z_len : mg "len" = none
  z_range : mg "range" = none
  z_sorted : mg "sorted" = none
  z_tuple : mg "tuple" = none
/-! _law_shelf: 0 script, 1 books, 2 cell, 3 left, 4 more -/
def m__law_shelf : MS :=
  (sSeq (sAsg (eLstC aNil) (tgName 1))
  (sSeq (sFor 1000000000 [3, 4, 2] (iVal (eSlice (eVar 0) oNone (oSome (eC (.int 32))))) (tgName 2)
  (sSeq (sAsg (eFn fInt (aCons (eVar 2) aNil)) (tgName 3))
  (sSeq (sIf (tOf (eBin fLt (eVar 3) (eC (.int 0))))
  (sAsg (eBin fSub (eC (.int 1)) (eBin fMul (eC (.int 2)) (eVar 3))) (tgName 3))
  sNext)
  (sSeq (sAsg (eFn fInt (aCons (eBin fMod (eVar 3) (eBin fShl (eC (.int 1)) (eC (.int 690)))) aNil)) (tgName 3))
  (sSeq (sAsg (eC (.bool true)) (tgName 4))
  (sWhile 1000000000 [] (tTr (eVar 4))
  (sSeq (sDrop (eMeth "list" mAppend (eVar 1) (aCons (eFn fInt (aCons (eBin fMod (eVar 3) (eC (.int 6007))) aNil)) aNil)))
  (sSeq (sAsg (eBin fDiv (eVar 3) (eC (.int 6007))) (tgName 3))
  (sAsg (eBin fGt (eVar 3) (eC (.int 0))) (tgName 4))))))))))
  (sSeq (sDrop (eMeth "list" mAppend (eVar 1) (aCons (eBin fAdd (eBin fMul (eC (.int 3)) (eFn fLen (aCons (eVar 1) aNil))) (eC (.int 2))) aNil)))
  (sRet (eDict [(.inr "at", (eC (.int 0))), (.inr "row", (eFrz (eVar 1)))])))))
def f__law_shelf : Fn := runBody 5 m__law_shelf
/-! _law_leads: 0 row, 1 ended, 2 which, 3 step, 4 at -/
def m__law_leads : MS :=
  (sSeq (sAsg (eVar 0) (tgTup 2 (tgCons (tgName 2) (tgCons (tgName 3) tgNil))))
  (sSeq (sIf (tOf (eBin fEq (eBin fIx (eVar 3) (eC (.int 0))) (eC (.str "return"))))
  (sRet (eC (.bool true)))
  sNext)
  (sSeq (sIf (tOf (eBin fEq (eBin fIx (eVar 3) (eC (.int 0))) (eC (.str "choose"))))
  (sRet (eBin fGt (eFn fLen (aCons (eLc [4] (iVal (eBin fIx (eVar 3) (eC (.int 1)))) (tgName 4) (tOf (eTIn false (aCons (eVar 2) (aCons (eVar 4) aNil)) (eVar 1))) (eVar 4)) aNil)) (eC (.int 0))))
  sNext)
  (sSeq (sIf (tAndM (tOf (eBin fEq (eBin fIx (eVar 3) (eC (.int 0))) (eC (.str "call")))) (tOf (eTIn true (aCons (eBin fIx (eVar 3) (eC (.int 1))) (aCons (eC (.int 0)) aNil)) (eVar 1))))
  (sRet (eC (.bool false)))
  sNext)
  (sRet (eTIn false (aCons (eVar 2) (aCons (eBin fIx (eVar 3) (eC (.int 2))) aNil)) (eVar 1)))))))
def f__law_leads : Fn := runBody 5 m__law_leads
/-! _law_ended: 0 code, 1 ended, 2 grown, 3 which, 4 at -/
def m__law_ended : MS :=
  (sSeq (sAsg eDNewT (tgName 1))
  (sSeq (sAsg (eC (.bool true)) (tgName 2))
  (sSeq (sWhile 1000000000 [3, 4] (tTr (eVar 2))
  (sSeq (sAsg (eC (.bool false)) (tgName 2))
  (sFor 1000000000 [4, 3] (iRange1 (aCons (eFn fLen (aCons (eVar 0) aNil)) aNil)) (tgName 3)
  (sFor 1000000000 [4] (iRange1 (aCons (eFn fLen (aCons (eBin fIx (eVar 0) (eVar 3)) aNil)) aNil)) (tgName 4)
  (sIf (tAndM (tOf (eTIn true (aCons (eVar 3) (aCons (eVar 4) aNil)) (eVar 1))) (tTr (eCall 2 (f__law_leads) (aCons (eTup (aCons (eVar 3) (aCons (eBin fIx (eBin fIx (eVar 0) (eVar 3)) (eVar 4)) aNil))) (aCons (eVar 1) aNil)))))
  (sSeq (sTPut (eVar 1) (aCons (eVar 3) (aCons (eVar 4) aNil)) (eC (.bool true)))
  (sAsg (eC (.bool true)) (tgName 2)))
  sNext)))))
  (sRet (eVar 1)))))
def f__law_ended : Fn := runBody 5 m__law_ended
/-! _law_numbers: 0 told, 1 due, 2 at -/
def m__law_numbers (self : Fn) : MS :=
  (sSeq (sIf (tOrM (tNotM (tTr (eIsi "tuple" (eVar 0)))) (tOf (eBin fNe (eFn fLen (aCons (eVar 0) aNil)) (eFn fLen (aCons (eVar 1) aNil)))))
  (sRet (eC (.bool false)))
  sNext)
  (sSeq (sFor 1000000000 [2] (iRange1 (aCons (eFn fLen (aCons (eVar 1) aNil)) aNil)) (tgName 2)
  (sIf (tTr (eIsi "tuple" (eBin fIx (eVar 1) (eVar 2))))
  (sIf (tNotM (tTr (eCall 2 (plainF (self)) (aCons (eBin fIx (eVar 0) (eVar 2)) (aCons (eBin fIx (eVar 1) (eVar 2)) aNil)))))
  (sRet (eC (.bool false)))
  sNext)
  (sIf (tOrM (tNotM (tTr (eIsi "int" (eBin fIx (eVar 0) (eVar 2))))) (tOrM (tTr (eIsi "bool" (eBin fIx (eVar 0) (eVar 2)))) (tOf (eBin fNe (eBin fIx (eVar 0) (eVar 2)) (eBin fIx (eVar 1) (eVar 2))))))
  (sRet (eC (.bool false)))
  sNext)))
  (sRet (eC (.bool true)))))
def f__law_numbers : Nat → Fn
  | 0 => fun _ _ => .no
  | n + 1 => runBody 3 (m__law_numbers (f__law_numbers n))
/-! nexts_of: 0 row -/
def m_nexts_of : MS :=
  (sSeq (sIf (tOf (eBin fEq (eBin fIx (eVar 0) (eC (.int 0))) (eC (.str "choose"))))
  (sRet (eBin fIx (eVar 0) (eC (.int 1))))
  sNext)
  (sRet (eIf (tOf (eBin fEq (eBin fIx (eVar 0) (eC (.int 0))) (eC (.str "return")))) (eTup aNil) (eTup (aCons (eBin fIx (eVar 0) (eC (.int 2))) aNil)))))
def f_nexts_of : Fn := runBody 1 m_nexts_of
/-! goes_on: 0 code, 1 row, 2 ended, 3 kept, 4 number -/
def m_goes_on : MS :=
  (sSeq (sIf (tOf (eBin fEq (eBin fIx (eVar 1) (eC (.int 0))) (eC (.str "return"))))
  (sRet (eC (.bool true)))
  sNext)
  (sSeq (sIf (tAndM (tOf (eBin fEq (eBin fIx (eVar 1) (eC (.int 0))) (eC (.str "call")))) (tNotM (tTr (eBin fIx (eBin fIx (eVar 2) (eBin fIx (eVar 1) (eC (.int 1)))) (eC (.int 0))))))
  (sRet (eC (.bool false)))
  sNext)
  (sRet (eFn fAny (aCons (eLc [4] (iVal (eCall 1 (plainF (f_nexts_of)) (aCons (eVar 1) aNil))) (tgName 4) tYesM (eBin fIx (eVar 3) (eVar 4))) aNil)))))
def f_goes_on : Fn := runBody 5 m_goes_on
/-! ended_marks: 0 code, 1 marks, 2 changed, 3 later, 4 at, 5 rows, 6 row -/
def m_ended_marks : MS :=
  (sSeq (sAsg (eLc [5] (iVal (eVar 0)) (tgName 5) tYesM (eLc [6] (iVal (eVar 5)) (tgName 6) tYesM (eC (.bool false)))) (tgName 1))
  (sSeq (sAsg (eC (.bool true)) (tgName 2))
  (sSeq (sWhile 1000000000 [3, 4, 5] (tTr (eVar 2))
  (sSeq (sAsg (eLstC aNil) (tgName 3))
  (sSeq (sFor 1000000000 [4, 5] (iEnum (eVar 0)) (tgTup 2 (tgCons (tgName 4) (tgCons (tgName 5) tgNil)))
  (sDrop (eMeth "list" mAppend (eVar 3) (aCons (eLc [6] (iVal (eVar 5)) (tgName 6) tYesM (eCall 4 (plainF (f_goes_on)) (aCons (eVar 0) (aCons (eVar 6) (aCons (eVar 1) (aCons (eBin fIx (eVar 1) (eVar 4)) aNil)))))) aNil))))
  (sSeq (sAsg (eBin fNe (eVar 3) (eVar 1)) (tgName 2))
  (sAsg (eFrz (eVar 3)) (tgName 1))))))
  (sRet (eVar 1)))))
def f_ended_marks : Fn := runBody 7 m_ended_marks
/-! ended_rows: 0 code, 1 row, 2 at, 3 mark -/
def m_ended_rows : MS :=
  (sRet (eFn fTuple (aCons (eLc [1] (iVal (eCall 1 (plainF (f_ended_marks)) (aCons (eVar 0) aNil))) (tgName 1) tYesM (eFn fTuple (aCons (eLc [2, 3] (iEnum (eVar 1)) (tgTup 2 (tgCons (tgName 2) (tgCons (tgName 3) tgNil))) (tTr (eVar 3)) (eVar 2)) aNil))) aNil)))
def f_ended_rows : Fn := runBody 4 m_ended_rows
/-! lost_procedures: 0 code, 1 at, 2 row -/
def m_lost_procedures : MS :=
  (sRet (eFn fTuple (aCons (eLc [1, 2] (iEnum (eCall 1 (plainF (f_ended_marks)) (aCons (eVar 0) aNil))) (tgTup 2 (tgCons (tgName 1) (tgCons (tgName 2) tgNil))) (tNotM (tTr (eBin fIx (eVar 2) (eC (.int 0))))) (eVar 1)) aNil)))
def f_lost_procedures : Fn := runBody 3 m_lost_procedures
/-! ways_on: 0 code, 1 marks, 2 procedure, 3 row, 4 told -/
def m_ways_on : MS :=
  (sSeq (sAsg (eBin fIx (eBin fIx (eVar 0) (eVar 2)) (eVar 3)) (tgName 4))
  (sRet (eIf (tAndM (tOf (eBin fEq (eBin fIx (eVar 4) (eC (.int 0))) (eC (.str "call")))) (tNotM (tTr (eBin fIx (eBin fIx (eVar 1) (eBin fIx (eVar 4) (eC (.int 1)))) (eC (.int 0)))))) (eTup aNil) (eCall 1 (plainF (f_nexts_of)) (aCons (eVar 4) aNil)))))
def f_ways_on : Fn := runBody 5 m_ways_on
/-! met_by: 0 code, 1 marks, 2 procedure, 3 found, 4 place, 5 number -/
def m_met_by : MS :=
  (sSeq (sAsg (eLstC (aCons (eC (.int 0)) aNil)) (tgName 3))
  (sSeq (sAsg (eC (.int 0)) (tgName 4))
  (sSeq (sWhile 1000000000 [5] (tOf (eBin fLt (eVar 4) (eFn fLen (aCons (eVar 3) aNil))))
  (sSeq (sFor 1000000000 [5] (iVal (eCall 4 (plainF (f_ways_on)) (aCons (eVar 0) (aCons (eVar 1) (aCons (eVar 2) (aCons (eBin fIx (eVar 3) (eVar 4)) aNil)))))) (tgName 5)
  (sIf (tOf (eBin (fIn true) (eVar 5) (eVar 3)))
  (sDrop (eMeth "list" mAppend (eVar 3) (aCons (eVar 5) aNil)))
  sNext))
  (sAug 4 fAddI (eC (.int 1)))))
  (sRet (eFrz (eVar 3))))))
def f_met_by : Fn := runBody 6 m_met_by
/-! met_rows: 0 code, 1 procedure -/
def m_met_rows : MS :=
  (sRet (eFn fTuple (aCons (eFn fSorted (aCons (eCall 3 (plainF (f_met_by)) (aCons (eVar 0) (aCons (eCall 1 (plainF (f_ended_marks)) (aCons (eVar 0) aNil)) (aCons (eVar 1) aNil)))) aNil)) aNil)))
def f_met_rows : Fn := runBody 2 m_met_rows
/-! needed_by: 0 code, 1 marks, 2 procedure, 3 found, 4 place, 5 row, 6 told -/
def m_needed_by : MS :=
  (sSeq (sAsg (eLstC (aCons (eVar 2) aNil)) (tgName 3))
  (sSeq (sAsg (eC (.int 0)) (tgName 4))
  (sSeq (sWhile 1000000000 [5, 6] (tOf (eBin fLt (eVar 4) (eFn fLen (aCons (eVar 3) aNil))))
  (sSeq (sFor 1000000000 [6, 5] (iVal (eCall 3 (plainF (f_met_by)) (aCons (eVar 0) (aCons (eVar 1) (aCons (eBin fIx (eVar 3) (eVar 4)) aNil))))) (tgName 5)
  (sSeq (sAsg (eBin fIx (eBin fIx (eVar 0) (eBin fIx (eVar 3) (eVar 4))) (eVar 5)) (tgName 6))
  (sIf (tAndM (tOf (eBin fEq (eBin fIx (eVar 6) (eC (.int 0))) (eC (.str "call")))) (tAndM (tTr (eBin fIx (eBin fIx (eVar 1) (eBin fIx (eVar 3) (eVar 4))) (eVar 5))) (tOf (eBin (fIn true) (eBin fIx (eVar 6) (eC (.int 1))) (eVar 3)))))
  (sDrop (eMeth "list" mAppend (eVar 3) (aCons (eBin fIx (eVar 6) (eC (.int 1))) aNil)))
  sNext)))
  (sAug 4 fAddI (eC (.int 1)))))
  (sRet (eFrz (eVar 3))))))
def f_needed_by : Fn := runBody 7 m_needed_by
/-! needed_procedures: 0 code, 1 procedure -/
def m_needed_procedures : MS :=
  (sRet (eFn fTuple (aCons (eFn fSorted (aCons (eCall 3 (plainF (f_needed_by)) (aCons (eVar 0) (aCons (eCall 1 (plainF (f_ended_marks)) (aCons (eVar 0) aNil)) (aCons (eVar 1) aNil)))) aNil)) aNil)))
def f_needed_procedures : Fn := runBody 2 m_needed_procedures
/-! _law_met: 0 code, 1 which, 2 ended, 3 rows, 4 at, 5 step, 6 ways, 7 row -/
def m__law_met : MS :=
  (sSeq (sPar 3 4 (eLstC (aCons (eC (.int 0)) aNil)) (eC (.int 0)))
  (sSeq (sWhile 1000000000 [5, 6, 7] (tOf (eBin fLt (eVar 4) (eFn fLen (aCons (eVar 3) aNil))))
  (sSeq (sAsg (eBin fIx (eBin fIx (eVar 0) (eVar 1)) (eBin fIx (eVar 3) (eVar 4))) (tgName 5))
  (sSeq (sAsg (eBin fAdd (eVar 4) (eC (.int 1))) (tgName 4))
  (sSeq (sAsg (eTup aNil) (tgName 6))
  (sSeq (sIf (tOf (eBin fEq (eBin fIx (eVar 5) (eC (.int 0))) (eC (.str "choose"))))
  (sAsg (eBin fIx (eVar 5) (eC (.int 1))) (tgName 6))
  (sIf (tOrM (tOf (eBin fEq (eBin fIx (eVar 5) (eC (.int 0))) (eC (.str "deed")))) (tAndM (tOf (eBin fEq (eBin fIx (eVar 5) (eC (.int 0))) (eC (.str "call")))) (tOf (eTIn false (aCons (eBin fIx (eVar 5) (eC (.int 1))) (aCons (eC (.int 0)) aNil)) (eVar 2)))))
  (sAsg (eTup (aCons (eBin fIx (eVar 5) (eC (.int 2))) aNil)) (tgName 6))
  sNext))
  (sFor 1000000000 [7] (iVal (eVar 6)) (tgName 7)
  (sIf (tOf (eBin (fIn true) (eVar 7) (eVar 3)))
  (sDrop (eMeth "list" mAppend (eVar 3) (aCons (eVar 7) aNil)))
  sNext)))))))
  (sRet (eFn fSorted (aCons (eVar 3) aNil)))))
def f__law_met : Fn := runBody 8 m__law_met
/-! _law_needed: 0 code, 1 which, 2 ended, 3 rows, 4 at, 5 one, 6 row, 7 step -/
def m__law_needed : MS :=
  (sSeq (sPar 3 4 (eLstC (aCons (eVar 1) aNil)) (eC (.int 0)))
  (sSeq (sWhile 1000000000 [5, 6, 7] (tOf (eBin fLt (eVar 4) (eFn fLen (aCons (eVar 3) aNil))))
  (sSeq (sAsg (eBin fIx (eVar 3) (eVar 4)) (tgName 5))
  (sSeq (sAsg (eBin fAdd (eVar 4) (eC (.int 1))) (tgName 4))
  (sFor 1000000000 [7, 6] (iVal (eCall 3 (f__law_met) (aCons (eVar 0) (aCons (eVar 5) (aCons (eVar 2) aNil))))) (tgName 6)
  (sSeq (sAsg (eBin fIx (eBin fIx (eVar 0) (eVar 5)) (eVar 6)) (tgName 7))
  (sIf (tAndM (tOf (eBin fEq (eBin fIx (eVar 7) (eC (.int 0))) (eC (.str "call")))) (tAndM (tOf (eTIn false (aCons (eVar 5) (aCons (eVar 6) aNil)) (eVar 2))) (tOf (eBin (fIn true) (eBin fIx (eVar 7) (eC (.int 1))) (eVar 3)))))
  (sDrop (eMeth "list" mAppend (eVar 3) (aCons (eBin fIx (eVar 7) (eC (.int 1))) aNil)))
  sNext))))))
  (sRet (eFn fSorted (aCons (eVar 3) aNil)))))
def f__law_needed : Fn := runBody 8 m__law_needed
/-! _law_asked: 0 code, 1 ended, 2 due, 3 which, 4 lost, 5 at -/
def m__law_asked : MS :=
  (sSeq (sAsg (eCall 1 (f__law_ended) (aCons (eVar 0) aNil)) (tgName 1))
  (sSeq (sAsg (eLstC aNil) (tgName 2))
  (sSeq (sFor 1000000000 [3] (iRange1 (aCons (eFn fLen (aCons (eVar 0) aNil)) aNil)) (tgName 3)
  (sDrop (eMeth "list" mAppend (eVar 2) (aCons (eFn fTuple (aCons (eLc [5] (iRange1 (aCons (eFn fLen (aCons (eBin fIx (eVar 0) (eVar 3)) aNil)) aNil)) (tgName 5) (tOf (eTIn false (aCons (eVar 3) (aCons (eVar 5) aNil)) (eVar 1))) (eVar 5)) aNil)) aNil))))
  (sSeq (sAsg (eFn fTuple (aCons (eLc [3] (iRange1 (aCons (eFn fLen (aCons (eVar 0) aNil)) aNil)) (tgName 3) (tOf (eTIn true (aCons (eVar 3) (aCons (eC (.int 0)) aNil)) (eVar 1))) (eVar 3)) aNil)) (tgName 4))
  (sSeq (sIf (tOrM (tNotM (tTr (eCall 2 (plainF (f__law_numbers 8)) (aCons (eCall 1 (plainF (f_ended_rows)) (aCons (eVar 0) aNil)) (aCons (eFn fTuple (aCons (eVar 2) aNil)) aNil))))) (tNotM (tTr (eCall 2 (plainF (f__law_numbers 8)) (aCons (eCallK 0 1 1 [0] (plainF (f_lost_procedures)) aNil (aCons (eVar 0) aNil)) (aCons (eVar 4) aNil))))))
  (sRet (eC (.bool false)))
  sNext)
  (sSeq (sFor 1000000000 [3] (iRange1 (aCons (eFn fLen (aCons (eVar 0) aNil)) aNil)) (tgName 3)
  (sSeq (sIf (tNotM (tTr (eCall 2 (plainF (f__law_numbers 8)) (aCons (eCall 2 (plainF (f_met_rows)) (aCons (eVar 0) (aCons (eVar 3) aNil))) (aCons (eFn fTuple (aCons (eCall 3 (f__law_met) (aCons (eVar 0) (aCons (eVar 3) (aCons (eVar 1) aNil)))) aNil)) aNil)))))
  (sRet (eC (.bool false)))
  sNext)
  (sIf (tNotM (tTr (eCall 2 (plainF (f__law_numbers 8)) (aCons (eCallK 0 2 2 [1, 0] (plainF (f_needed_procedures)) aNil (aCons (eVar 3) (aCons (eVar 0) aNil))) (aCons (eFn fTuple (aCons (eCall 3 (f__law_needed) (aCons (eVar 0) (aCons (eVar 3) (aCons (eVar 1) aNil)))) aNil)) aNil)))))
  (sRet (eC (.bool false)))
  sNext)))
  (sRet (eC (.bool true)))))))))
def f__law_asked : Fn := runBody 6 m__law_asked
/-! _law_hand: 0 zero, 1 one, 2 two, 3 three, 4 code, 5 told, 6 due, 7 chain, 8 lost, 9 good, 10 which -/
def m__law_hand : MS :=
  (sSeq (sAsg (eTup (aCons (eTup (aCons (eC (.str "choose")) (aCons (eTup (aCons (eC (.int 1)) (aCons (eC (.int 3)) (aCons (eC (.int 5)) aNil)))) aNil))) (aCons (eTup (aCons (eC (.str "call")) (aCons (eC (.int 1)) (aCons (eC (.int 6)) aNil)))) (aCons (eTup (aCons (eC (.str "deed")) (aCons (eTup (aCons (eC (.int 1)) aNil)) (aCons (eC (.int 6)) aNil)))) (aCons (eTup (aCons (eC (.str "call")) (aCons (eC (.int 2)) (aCons (eC (.int 4)) aNil)))) (aCons (eTup (aCons (eC (.str "call")) (aCons (eC (.int 3)) (aCons (eC (.int 6)) aNil)))) (aCons (eTup (aCons (eC (.str "call")) (aCons (eC (.int 4)) (aCons (eC (.int 7)) aNil)))) (aCons (eTup (aCons (eC (.str "return")) aNil)) (aCons (eTup (aCons (eC (.str "deed")) (aCons (eTup (aCons (eC (.int 2)) aNil)) (aCons (eC (.int 7)) aNil)))) aNil))))))))) (tgName 0))
  (sSeq (sAsg (eTup (aCons (eTup (aCons (eC (.str "choose")) (aCons (eTup (aCons (eC (.int 1)) (aCons (eC (.int 2)) aNil))) aNil))) (aCons (eTup (aCons (eC (.str "call")) (aCons (eC (.int 1)) (aCons (eC (.int 2)) aNil)))) (aCons (eTup (aCons (eC (.str "return")) aNil)) aNil)))) (tgName 1))
  (sSeq (sAsg (eTup (aCons (eTup (aCons (eC (.str "call")) (aCons (eC (.int 2)) (aCons (eC (.int 1)) aNil)))) (aCons (eTup (aCons (eC (.str "return")) aNil)) aNil))) (tgName 2))
  (sSeq (sAsg (eTup (aCons (eTup (aCons (eC (.str "deed")) (aCons (eTup (aCons (eC (.int 1)) aNil)) (aCons (eC (.int 1)) aNil)))) (aCons (eTup (aCons (eC (.str "return")) aNil)) aNil))) (tgName 3))
  (sSeq (sAsg (eTup (aCons (eVar 0) (aCons (eVar 1) (aCons (eVar 2) (aCons (eVar 3) (aCons (eTup (aCons (eTup (aCons (eC (.str "choose")) (aCons (eTup (aCons (eC (.int 1)) (aCons (eC (.int 1)) aNil))) aNil))) (aCons (eTup (aCons (eC (.str "return")) aNil)) (aCons (eTup (aCons (eC (.str "call")) (aCons (eC (.int 0)) (aCons (eC (.int 1)) aNil)))) aNil)))) aNil)))))) (tgName 4))
  (sSeq (sAsg (eTup (aCons (eCall 1 (plainF (f_ended_rows)) (aCons (eVar 4) aNil)) (aCons (eCall 1 (plainF (f_lost_procedures)) (aCons (eVar 4) aNil)) (aCons (eCall 2 (plainF (f_met_rows)) (aCons (eVar 4) (aCons (eC (.int 0)) aNil))) (aCons (eCall 2 (plainF (f_needed_procedures)) (aCons (eVar 4) (aCons (eC (.int 0)) aNil))) (aCons (eCall 2 (plainF (f_met_rows)) (aCons (eVar 4) (aCons (eC (.int 2)) aNil))) (aCons (eCall 2 (plainF (f_needed_procedures)) (aCons (eVar 4) (aCons (eC (.int 2)) aNil))) aNil))))))) (tgName 5))
  (sSeq (sAsg (eTup (aCons (eTup (aCons (eTup (aCons (eC (.int 0)) (aCons (eC (.int 1)) (aCons (eC (.int 2)) (aCons (eC (.int 4)) (aCons (eC (.int 6)) aNil)))))) (aCons (eTup (aCons (eC (.int 0)) (aCons (eC (.int 1)) (aCons (eC (.int 2)) aNil)))) (aCons (eTup (aCons (eC (.int 1)) aNil)) (aCons (eTup (aCons (eC (.int 0)) (aCons (eC (.int 1)) aNil))) (aCons (eTup (aCons (eC (.int 0)) (aCons (eC (.int 1)) (aCons (eC (.int 2)) aNil)))) aNil)))))) (aCons (eTup (aCons (eC (.int 2)) aNil)) (aCons (eTup (aCons (eC (.int 0)) (aCons (eC (.int 1)) (aCons (eC (.int 3)) (aCons (eC (.int 5)) (aCons (eC (.int 6)) (aCons (eC (.int 7)) aNil))))))) (aCons (eTup (aCons (eC (.int 0)) (aCons (eC (.int 1)) aNil))) (aCons (eTup (aCons (eC (.int 0)) aNil)) (aCons (eTup (aCons (eC (.int 2)) aNil)) aNil))))))) (tgName 6))
  (sSeq (sIf (tOrM (tNotM (tTr (eCall 2 (plainF (f__law_numbers 8)) (aCons (eVar 5) (aCons (eVar 6) aNil))))) (tNotM (tTr (eCall 1 (plainF (f__law_asked)) (aCons (eVar 4) aNil)))))
  (sRet (eC (.bool false)))
  sNext)
  (sSeq (sAsg (eLc [10] (iRange1 (aCons (eC (.int 11)) aNil)) (tgName 10) tYesM (eTup (aCons (eTup (aCons (eC (.str "call")) (aCons (eBin fAdd (eVar 10) (eC (.int 1))) (aCons (eC (.int 1)) aNil)))) (aCons (eTup (aCons (eC (.str "return")) aNil)) aNil)))) (tgName 7))
  (sSeq (sAsg (eFn fTuple (aCons (eBin fAdd (eVar 7) (eLst (aCons (eTup (aCons (eTup (aCons (eC (.str "deed")) (aCons (eTup (aCons (eC (.int 1)) aNil)) (aCons (eC (.int 0)) aNil)))) (aCons (eTup (aCons (eC (.str "return")) aNil)) aNil))) aNil))) aNil)) (tgName 8))
  (sSeq (sAsg (eFn fTuple (aCons (eBin fAdd (eVar 7) (eLst (aCons (eTup (aCons (eTup (aCons (eC (.str "choose")) (aCons (eTup (aCons (eC (.int 0)) (aCons (eC (.int 1)) aNil))) aNil))) (aCons (eTup (aCons (eC (.str "return")) aNil)) aNil))) aNil))) aNil)) (tgName 9))
  (sSeq (sIf (tNotM (tTr (eCall 2 (plainF (f__law_numbers 8)) (aCons (eTup (aCons (eCall 1 (plainF (f_lost_procedures)) (aCons (eVar 8) aNil)) (aCons (eCall 1 (plainF (f_lost_procedures)) (aCons (eVar 9) aNil)) (aCons (eCall 2 (plainF (f_needed_procedures)) (aCons (eVar 8) (aCons (eC (.int 0)) aNil))) aNil)))) (aCons (eTup (aCons (eTupRg1 (eC (.int 12))) (aCons (eTup aNil) (aCons (eTup (aCons (eC (.int 0)) aNil)) aNil)))) aNil)))))
  (sRet (eC (.bool false)))
  sNext)
  (sRet (eCall 2 (plainF (f__law_numbers 8)) (aCons (eTup (aCons (eCall 2 (plainF (f_needed_procedures)) (aCons (eVar 9) (aCons (eC (.int 3)) aNil))) (aCons (eCall 2 (plainF (f_met_rows)) (aCons (eVar 8) (aCons (eC (.int 4)) aNil))) (aCons (eSlice (eCall 1 (plainF (f_ended_rows)) (aCons (eVar 8) aNil)) (oSome (eC (.int 10))) oNone) aNil)))) (aCons (eTup (aCons (eTupRg2 (eC (.int 3)) (eC (.int 12))) (aCons (eTup (aCons (eC (.int 0)) aNil)) (aCons (eTup (aCons (eTup (aCons (eC (.int 1)) aNil)) (aCons (eTup (aCons (eC (.int 1)) aNil)) aNil))) aNil)))) aNil))))))))))))))))
def f__law_hand : Fn := runBody 11 m__law_hand
/-! _law_pull: 0 shelf, 1 many, 2 number, 3 times, 4 place, 5 book -/
def m__law_pull : MS :=
  (sSeq (sAsg (eDGet (eVar 0) (eC (.str "at"))) (tgName 2))
  (sSeq (sDPut (eVar 0) (eC (.str "at")) (eBin fAdd (eVar 2) (eC (.int 1))))
  (sSeq (sPar 3 4 (eBin fDiv (eVar 2) (eFn fLen (aCons (eDGet (eVar 0) (eC (.str "row"))) aNil))) (eFn fInt (aCons (eBin fMod (eVar 2) (eFn fLen (aCons (eDGet (eVar 0) (eC (.str "row"))) aNil))) aNil)))
  (sSeq (sAsg (eBin fIx (eDGet (eVar 0) (eC (.str "row"))) (eVar 4)) (tgName 5))
  (sSeq (sIf (tOf (eBin fEq (eVar 3) (eC (.int 0))))
  (sRet (eFn fInt (aCons (eBin fMod (eVar 5) (eVar 1)) aNil)))
  sNext)
  (sRet (eFn fInt (aCons (eBin fMod (eBin fAdd (eVar 5) (eBin fMul (eBin fMul (eVar 3) (eBin fAdd (eVar 2) (eC (.int 7)))) (eBin fAdd (eBin fAdd (eVar 3) (eVar 4)) (eC (.int 1))))) (eVar 1)) aNil))))))))
def f__law_pull : Fn := runBody 6 m__law_pull
/-! _law_code: 0 shelf, 1 procedures, 2 most, 3 code, 4 which, 5 rows, 6 many, 7 habit, 8 at, 9 kind, 10 near, 11 lap -/
def m__law_code : MS :=
  (sSeq (sAsg (eLstC aNil) (tgName 3))
  (sSeq (sFor 1000000000 [5, 6, 7, 8, 9, 10, 4] (iRange1 (aCons (eVar 1) aNil)) (tgName 4)
  (sSeq (sParL [5, 6] (aCons (eLstC aNil) (aCons (eBin fAdd (eC (.int 1)) (eCall 2 (f__law_pull) (aCons (eVar 0) (aCons (eVar 2) aNil)))) aNil)))
  (sSeq (sAsg (eCall 2 (f__law_pull) (aCons (eVar 0) (aCons (eC (.int 4)) aNil))) (tgName 7))
  (sSeq (sFor 1000000000 [9, 10, 8] (iRange1 (aCons (eVar 6) aNil)) (tgName 8)
  (sSeq (sAsg (eCall 2 (f__law_pull) (aCons (eVar 0) (aCons (eC (.int 8)) aNil))) (tgName 9))
  (sSeq (sAsg (eFn fInt (aCons (eBin fMod (eBin fAdd (eVar 8) (eC (.int 1))) (eVar 6)) aNil)) (tgName 10))
  (sIf (tAndM (tOf (eBin fEq (eVar 8) (eBin fSub (eVar 6) (eC (.int 1))))) (tOf (eBin fGt (eVar 7) (eC (.int 0)))))
  (sDrop (eMeth "list" mAppend (eVar 5) (aCons (eTup (aCons (eC (.str "return")) aNil)) aNil)))
  (sIf (tOf (eBin fLt (eVar 9) (eC (.int 2))))
  (sDrop (eMeth "list" mAppend (eVar 5) (aCons (eTup (aCons (eC (.str "deed")) (aCons (eTup (aCons (eBin fAdd (eC (.int 1)) (eVar 9)) aNil)) (aCons (eIf (tOf (eBin fNe (eVar 7) (eC (.int 2)))) (eVar 10) (eCall 2 (f__law_pull) (aCons (eVar 0) (aCons (eVar 6) aNil)))) aNil)))) aNil)))
  (sIf (tOf (eBin fLt (eVar 9) (eC (.int 5))))
  (sDrop (eMeth "list" mAppend (eVar 5) (aCons (eTup (aCons (eC (.str "call")) (aCons (eCall 2 (f__law_pull) (aCons (eVar 0) (aCons (eVar 1) aNil))) (aCons (eIf (tOf (eBin fNe (eVar 7) (eC (.int 2)))) (eVar 10) (eCall 2 (f__law_pull) (aCons (eVar 0) (aCons (eVar 6) aNil)))) aNil)))) aNil)))
  (sIf (tOf (eBin fLt (eVar 9) (eC (.int 7))))
  (sDrop (eMeth "list" mAppend (eVar 5) (aCons (eTup (aCons (eC (.str "choose")) (aCons (eFn fTuple (aCons (eLc [11] (iRange1 (aCons (eBin fAdd (eC (.int 2)) (eCall 2 (f__law_pull) (aCons (eVar 0) (aCons (eC (.int 2)) aNil)))) aNil)) (tgName 11) tYesM (eCall 2 (f__law_pull) (aCons (eVar 0) (aCons (eVar 6) aNil)))) aNil)) aNil))) aNil)))
  (sDrop (eMeth "list" mAppend (eVar 5) (aCons (eTup (aCons (eC (.str "return")) aNil)) aNil))))))))))
  (sDrop (eMeth "list" mAppend (eVar 3) (aCons (eFn fTuple (aCons (eVar 5) aNil)) aNil)))))))
  (sRet (eFn fTuple (aCons (eVar 3) aNil)))))
def f__law_code : Fn := runBody 12 m__law_code
/-! law: 0 script, 1 shelf, 2 lap -/
def m_law : MS :=
  (sSeq (sAsg (eCall 1 (f__law_shelf) (aCons (eVar 0) aNil)) (tgName 1))
  (sSeq (sIf (tNotM (tTr (eCall 0 (plainF (f__law_hand)) aNil)))
  (sRet (eC (.bool false)))
  sNext)
  (sSeq (sFor 1000000000 [2] (iRange1 (aCons (eC (.int 3)) aNil)) (tgName 2)
  (sIf (tNotM (tTr (eCall 1 (plainF (f__law_asked)) (aCons (eCall 3 (f__law_code) (aCons (eVar 1) (aCons (eBin fAdd (eC (.int 1)) (eCall 2 (f__law_pull) (aCons (eVar 1) (aCons (eC (.int 5)) aNil)))) (aCons (eC (.int 8)) aNil)))) aNil))))
  (sRet (eC (.bool false)))
  sNext))
  (sSeq (sIf (tOf (eBin fNe (eCall 2 (f__law_pull) (aCons (eVar 1) (aCons (eC (.int 13)) aNil))) (eC (.int 9))))
  (sRet (eC (.bool true)))
  sNext)
  (sRet (eCall 1 (plainF (f__law_asked)) (aCons (eCall 3 (f__law_code) (aCons (eVar 1) (aCons (eC (.int 12)) (aCons (eC (.int 16)) aNil)))) aNil)))))))
def f_law : Fn := runBody 3 m_law
section
variable {P : Program} {w : World} {g : G} {mg : Str → Option Value} {base : Heap}
theorem sc__law_shelf : FnScope ["script", "books", "cell", "left", "more"] ["script"] (defScope s__law_shelf) := ⟨rfl, rfl, rfl, by decide +kernel, rfl, by decide +kernel, by decide +kernel⟩
theorem b__law_shelf (T : Tops g.K mg) : Binds g.K T.fd__law_shelf ["script"] [] := T.F__law_shelf.binds fun _ _ _ _ _ _ us hl => match us, hl with | [_], _ => rfl
theorem ok__law_shelf (T : Tops g.K mg) : FnOk P w g.K mg base (L2.CX P w) 1 T.a__law_shelf T.fd__law_shelf ["script"] (spOf g 1 f__law_shelf) :=
  fn_ok T.F__law_shelf sc__law_shelf rfl fun cdv A outer s H E hr tk hp =>
  (sss_cons (ss_set (i := 1) sc__law_shelf.nd rfl (.inl rfl) (se_lstC sa_nil))
  (sss_cons (ss_for 1000000000 [3, 4, 2] hp rfl (si_val rfl (se_slice rfl (se_var (pv 0)) so_none (so_some se_int))) (sg_name (i := 2) sc__law_shelf.nd rfl (.inl rfl))
  (sss_cons (ss_set (i := 3) sc__law_shelf.nd rfl (.inl rfl) (se_fnT call_int1 cs_int rfl T.z_int (by decide +kernel) (sa_cons (se_var (pv 2)) sa_nil)))
  (sss_cons (ss_if (st_cmp op_lt os_cmp (se_var (pv 3)) se_int)
  (sss_one (ss_set (i := 3) sc__law_shelf.nd rfl (.inl rfl) (se_op op_sub os_sub se_int (se_op op_mulA os_mul se_int (se_var (pv 3))))))
  sss_nil)
  (sss_cons (ss_set (i := 3) sc__law_shelf.nd rfl (.inl rfl) (se_fnT call_int1 cs_int rfl T.z_int (by decide +kernel) (sa_cons (se_op op_modA os_mod (se_var (pv 3)) (se_op op_shl os_shl se_int se_int)) sa_nil)))
  (sss_cons (ss_set (i := 4) sc__law_shelf.nd rfl (.inl rfl) se_bl)
  (sss_one (ss_while 1000000000 [] hp (st_tr rfl (se_var (pv 4)))
  (sss_cons (ss_expr (se_meth rfl PySem.F.plainAttrs_list PySem.F.slot_list_append PySem.F.type_list_append mt_append ms_append (se_var (pv 1)) (sa_cons (se_fnT call_int1 cs_int rfl T.z_int (by decide +kernel) (sa_cons (se_op op_modA os_mod (se_var (pv 3)) se_int) sa_nil)) sa_nil)))
  (sss_cons (ss_set (i := 3) sc__law_shelf.nd rfl (.inl rfl) (se_op op_divA os_div (se_var (pv 3)) se_int))
  (sss_one (ss_set (i := 4) sc__law_shelf.nd rfl (.inl rfl) (se_cmp op_gt os_cmp (se_var (pv 3)) se_int))))))))))))
  (sss_cons (ss_expr (se_meth rfl PySem.F.plainAttrs_list PySem.F.slot_list_append PySem.F.type_list_append mt_append ms_append (se_var (pv 1)) (sa_cons (se_op op_addA os_add (se_op op_mulA os_mul se_int (se_fnB call_len cs_len rfl T.z_len (by decide +kernel) (sa_cons (se_var (pv 1)) sa_nil))) se_int) sa_nil)))
  (sss_one (ss_ret (se_dict (sp_cons (kk := .inr "at") se_str se_int (sp_cons (kk := .inr "row") se_str (se_frz (se_var (pv 1))) sp_nil))))))))
theorem sc__law_leads : FnScope ["row", "ended", "which", "step", "at"] ["row", "ended"] (defScope s__law_leads) := ⟨rfl, rfl, rfl, by decide +kernel, rfl, by decide +kernel, by decide +kernel⟩
theorem b__law_leads (T : Tops g.K mg) : Binds g.K T.fd__law_leads ["row", "ended"] [] := T.F__law_leads.binds fun _ _ _ _ _ _ us hl => match us, hl with | [_, _], _ => rfl
theorem ok__law_leads (T : Tops g.K mg) : FnOk P w g.K mg base (L2.CX P w) 1 T.a__law_leads T.fd__law_leads ["row", "ended"] (spOf g 2 f__law_leads) :=
  fn_ok T.F__law_leads sc__law_leads rfl fun cdv A outer s H E hr tk hp =>
  (sss_cons (ss_asg (se_var (pv 0)) (sg_tup rfl rfl (sgs_cons (sg_name (i := 2) sc__law_leads.nd rfl (.inr rfl)) (sgs_cons (sg_name (i := 3) sc__law_leads.nd rfl (.inl rfl)) sgs_nil))))
  (sss_cons (ss_if (st_cmp (op_eqA hr.units) os_eq (se_ix rfl (se_var (pv 3)) se_int) se_str)
  (sss_one (ss_ret se_bl))
  sss_nil)
  (sss_cons (ss_if (st_cmp (op_eqA hr.units) os_eq (se_ix rfl (se_var (pv 3)) se_int) se_str)
  (sss_one (ss_ret (se_cmp op_gt os_cmp (se_fnB call_len cs_len rfl T.z_len (by decide +kernel) (sa_cons (se_lc (own := [("at", 4)]) rfl sc__law_leads.nd (si_val rfl (se_ix rfl (se_var (pv 3)) se_int)) (blkOk_by rfl) (fun s H C cl fp => (sf_name (i := 4) sc__law_leads.nd rfl (.inl rfl) (by decide))) (fun s H C cl fp => (sts_one (st_tin (hu_of hr) (sa_cons (se_var (pv 2)) (sa_cons (se_var (pv 4)) sa_nil)) (se_var (pv 1))))) (fun s H C cl fp => (se_var (pv 4)))) sa_nil)) se_int)))
  sss_nil)
  (sss_cons (ss_if (st_bool (sw_and (st_cmp (op_eqA hr.units) os_eq (se_ix rfl (se_var (pv 3)) se_int) se_str) (sw_and1 (st_tnin (hu_of hr) (sa_cons (se_ix rfl (se_var (pv 3)) se_int) (sa_cons se_int sa_nil)) (se_var (pv 1))))))
  (sss_one (ss_ret se_bl))
  sss_nil)
  (sss_one (ss_ret (se_tin (hu_of hr) (sa_cons (se_var (pv 2)) (sa_cons (se_ix rfl (se_var (pv 3)) se_int) sa_nil)) (se_var (pv 1)))))))))
theorem sc__law_ended : FnScope ["code", "ended", "grown", "which", "at"] ["code"] (defScope s__law_ended) := ⟨rfl, rfl, rfl, by decide +kernel, rfl, by decide +kernel, by decide +kernel⟩
theorem b__law_ended (T : Tops g.K mg) : Binds g.K T.fd__law_ended ["code"] [] := T.F__law_ended.binds fun _ _ _ _ _ _ us hl => match us, hl with | [_], _ => rfl
theorem ok__law_ended (T : Tops g.K mg) : FnOk P w g.K mg base (L2.CX P w) 2 T.a__law_ended T.fd__law_ended ["code"] (spOf g 1 f__law_ended) :=
  fn_ok T.F__law_ended sc__law_ended rfl fun cdv A outer s H E hr tk hp =>
  (sss_cons (ss_set (i := 1) sc__law_ended.nd rfl (.inl rfl) se_dnewT)
  (sss_cons (ss_set (i := 2) sc__law_ended.nd rfl (.inl rfl) se_bl)
  (sss_cons (ss_while 1000000000 [3, 4] hp (st_tr rfl (se_var (pv 2)))
  (sss_cons (ss_set (i := 2) sc__law_ended.nd rfl (.inl rfl) se_bl)
  (sss_one (ss_for 1000000000 [4, 3] hp rfl (si_range1 rfl T.z_range (sa_cons (se_fnB call_len cs_len rfl T.z_len (by decide +kernel) (sa_cons (se_var (pv 0)) sa_nil)) sa_nil)) (sg_name (i := 3) sc__law_ended.nd rfl (.inl rfl))
  (sss_one (ss_for 1000000000 [4] hp rfl (si_range1 rfl T.z_range (sa_cons (se_fnB call_len cs_len rfl T.z_len (by decide +kernel) (sa_cons (se_ix rfl (se_var (pv 0)) (se_var (pv 3))) sa_nil)) sa_nil)) (sg_name (i := 4) sc__law_ended.nd rfl (.inl rfl))
  (sss_one (ss_if (st_bool (sw_and (st_tnin (hu_of hr) (sa_cons (se_var (pv 3)) (sa_cons (se_var (pv 4)) sa_nil)) (se_var (pv 1))) (sw_and1 (st_tr rfl (se_call (ok__law_leads T) tk (hr.mono (by decide)) rfl T.m__law_leads T.F__law_leads.kp (b__law_leads T) (sa_cons (se_tup (sa_cons (se_var (pv 3)) (sa_cons (se_ix rfl (se_ix rfl (se_var (pv 0)) (se_var (pv 3))) (se_var (pv 4))) sa_nil))) (sa_cons (se_var (pv 1)) sa_nil)))))))
  (sss_cons (ss_tput (hu_of hr) (se_var (pv 1)) (sa_cons (se_var (pv 3)) (sa_cons (se_var (pv 4)) sa_nil)) se_bl)
  (sss_one (ss_set (i := 2) sc__law_ended.nd rfl (.inl rfl) se_bl)))
  sss_nil))))))))
  (sss_one (ss_ret (se_var (pv 1)))))))
theorem sc__law_numbers : FnScope ["told", "due", "at"] ["told", "due"] (defScope s__law_numbers) := ⟨rfl, rfl, rfl, by decide +kernel, rfl, by decide +kernel, by decide +kernel⟩
theorem b__law_numbers (T : Tops g.K mg) : Binds g.K T.fd__law_numbers ["told", "due"] [] := T.F__law_numbers.binds fun _ _ _ _ _ _ us hl => match us, hl with | [_, _], _ => rfl
theorem ok__law_numbers (T : Tops g.K mg) : ∀ n, FnOk P w g.K mg base (L2.CX P w) (1 + n) T.a__law_numbers T.fd__law_numbers ["told", "due"] (spOf g 2 (f__law_numbers n))
  | 0 => fn_no rfl
  | n + 1 => by
    have ih := ok__law_numbers T n
    exact fn_ok T.F__law_numbers sc__law_numbers rfl fun cdv A outer s H E hr tk hp =>
  (sss_cons (ss_if (st_bool (sw_or (st_not (st_tr rfl (se_isi rfl rfl T.z_isinstance rfl (se_var (pv 0)) rfl T.z_tuple (by decide +kernel)))) (sw_or1 (st_cmp (op_neA hr.units) os_ne (se_fnB call_len cs_len rfl T.z_len (by decide +kernel) (sa_cons (se_var (pv 0)) sa_nil)) (se_fnB call_len cs_len rfl T.z_len (by decide +kernel) (sa_cons (se_var (pv 1)) sa_nil))))))
  (sss_one (ss_ret se_bl))
  sss_nil)
  (sss_cons (ss_for 1000000000 [2] hp rfl (si_range1 rfl T.z_range (sa_cons (se_fnB call_len cs_len rfl T.z_len (by decide +kernel) (sa_cons (se_var (pv 1)) sa_nil)) sa_nil)) (sg_name (i := 2) sc__law_numbers.nd rfl (.inl rfl))
  (sss_one (ss_if (st_tr rfl (se_isi rfl rfl T.z_isinstance rfl (se_ix rfl (se_var (pv 1)) (se_var (pv 2))) rfl T.z_tuple (by decide +kernel)))
  (sss_one (ss_if (st_not (st_tr rfl (se_call (fnOk_plain ih) tk hr rfl T.m__law_numbers T.F__law_numbers.kp (b__law_numbers T) (sa_cons (se_ix rfl (se_var (pv 0)) (se_var (pv 2))) (sa_cons (se_ix rfl (se_var (pv 1)) (se_var (pv 2))) sa_nil)))))
  (sss_one (ss_ret se_bl))
  sss_nil))
  (sss_one (ss_if (st_bool (sw_or (st_not (st_tr rfl (se_isi rfl rfl T.z_isinstance rfl (se_ix rfl (se_var (pv 0)) (se_var (pv 2))) rfl T.z_int (by decide +kernel)))) (sw_or (st_tr rfl (se_isi rfl rfl T.z_isinstance rfl (se_ix rfl (se_var (pv 0)) (se_var (pv 2))) rfl T.z_bool (by decide +kernel))) (sw_or1 (st_cmp (op_neA hr.units) os_ne (se_ix rfl (se_var (pv 0)) (se_var (pv 2))) (se_ix rfl (se_var (pv 1)) (se_var (pv 2))))))))
  (sss_one (ss_ret se_bl))
  sss_nil)))))
  (sss_one (ss_ret se_bl))))
theorem sc_nexts_of : FnScope ["row"] ["row"] (defScope s_nexts_of) := ⟨rfl, rfl, rfl, by decide +kernel, rfl, by decide +kernel, by decide +kernel⟩
theorem b_nexts_of (T : Tops g.K mg) : Binds g.K T.fd_nexts_of ["row"] [] := T.F_nexts_of.binds fun _ _ _ _ _ _ us hl => match us, hl with | [_], _ => rfl
theorem ok_nexts_of (T : Tops g.K mg) : FnOk P w g.K mg base (L2.CX P w) 1 T.a_nexts_of T.fd_nexts_of ["row"] (spOf g 1 f_nexts_of) :=
  fn_ok T.F_nexts_of sc_nexts_of rfl fun cdv A outer s H E hr tk hp =>
  (sss_cons (ss_if (st_cmp (op_eqA hr.units) os_eq (se_ix rfl (se_var (pv 0)) se_int) se_str)
  (sss_one (ss_ret (se_ix rfl (se_var (pv 0)) se_int)))
  sss_nil)
  (sss_one (ss_ret (se_if (st_cmp (op_eqA hr.units) os_eq (se_ix rfl (se_var (pv 0)) se_int) se_str) (se_tup sa_nil) (se_tup (sa_cons (se_ix rfl (se_var (pv 0)) se_int) sa_nil))))))
theorem sc_goes_on : FnScope ["code", "row", "ended", "kept", "number"] ["code", "row", "ended", "kept"] (defScope s_goes_on) := ⟨rfl, rfl, rfl, by decide +kernel, rfl, by decide +kernel, by decide +kernel⟩
theorem b_goes_on (T : Tops g.K mg) : Binds g.K T.fd_goes_on ["code", "row", "ended", "kept"] [] := T.F_goes_on.binds fun _ _ _ _ _ _ us hl => match us, hl with | [_, _, _, _], _ => rfl
theorem ok_goes_on (T : Tops g.K mg) : FnOk P w g.K mg base (L2.CX P w) 2 T.a_goes_on T.fd_goes_on ["code", "row", "ended", "kept"] (spOf g 4 f_goes_on) :=
  fn_ok T.F_goes_on sc_goes_on rfl fun cdv A outer s H E hr tk hp =>
  (sss_cons (ss_if (st_cmp (op_eqA hr.units) os_eq (se_ix rfl (se_var (pv 1)) se_int) se_str)
  (sss_one (ss_ret se_bl))
  sss_nil)
  (sss_cons (ss_if (st_bool (sw_and (st_cmp (op_eqA hr.units) os_eq (se_ix rfl (se_var (pv 1)) se_int) se_str) (sw_and1 (st_not (st_tr rfl (se_ix rfl (se_ix rfl (se_var (pv 2)) (se_ix rfl (se_var (pv 1)) se_int)) se_int))))))
  (sss_one (ss_ret se_bl))
  sss_nil)
  (sss_one (ss_ret (se_fnB (cr_any rfl) cs_any rfl T.z_any (by decide +kernel) (sa_cons (se_lc (own := [("number", 4)]) rfl sc_goes_on.nd (si_val rfl (se_call (fnOk_plain (ok_nexts_of T)) tk (hr.mono (by decide)) rfl T.m_nexts_of T.F_nexts_of.kp (b_nexts_of T) (sa_cons (se_var (pv 1)) sa_nil))) (blkOk_by rfl) (fun s H C cl fp => (sf_name (i := 4) sc_goes_on.nd rfl (.inl rfl) (by decide))) (fun s H C cl fp => sts_nil) (fun s H C cl fp => (se_ix rfl (se_var (pv 3)) (se_var (pv 4))))) sa_nil))))))
theorem sc_ended_marks : FnScope ["code", "marks", "changed", "later", "at", "rows", "row"] ["code"] (defScope s_ended_marks) := ⟨rfl, rfl, rfl, by decide +kernel, rfl, by decide +kernel, by decide +kernel⟩
theorem b_ended_marks (T : Tops g.K mg) : Binds g.K T.fd_ended_marks ["code"] [] := T.F_ended_marks.binds fun _ _ _ _ _ _ us hl => match us, hl with | [_], _ => rfl
theorem ok_ended_marks (T : Tops g.K mg) : FnOk P w g.K mg base (L2.CX P w) 3 T.a_ended_marks T.fd_ended_marks ["code"] (spOf g 1 f_ended_marks) :=
  fn_ok T.F_ended_marks sc_ended_marks rfl fun cdv A outer s H E hr tk hp =>
  (sss_cons (ss_set (i := 1) sc_ended_marks.nd rfl (.inr rfl) (se_lc (own := [("rows", 5)]) rfl sc_ended_marks.nd (si_val rfl (se_var (pv 0))) (blkOk_by rfl) (fun s H C cl fp => (sf_name (i := 5) sc_ended_marks.nd rfl (.inl rfl) (by decide))) (fun s H C cl fp => sts_nil) (fun s H C cl fp => (se_lc (own := [("row", 6)]) rfl sc_ended_marks.nd (si_val rfl (se_var (pv 5))) (blkOk_by rfl) (fun s H C cl fp => (sf_name (i := 6) sc_ended_marks.nd rfl (.inl rfl) (by decide))) (fun s H C cl fp => sts_nil) (fun s H C cl fp => se_bl)))))
  (sss_cons (ss_set (i := 2) sc_ended_marks.nd rfl (.inl rfl) se_bl)
  (sss_cons (ss_while 1000000000 [3, 4, 5] hp (st_tr rfl (se_var (pv 2)))
  (sss_cons (ss_set (i := 3) sc_ended_marks.nd rfl (.inl rfl) (se_lstC sa_nil))
  (sss_cons (ss_for 1000000000 [4, 5] hp rfl (si_enum rfl rfl T.z_enumerate (se_var (pv 0))) (sg_tup rfl rfl (sgs_cons (sg_name (i := 4) sc_ended_marks.nd rfl (.inr rfl)) (sgs_cons (sg_name (i := 5) sc_ended_marks.nd rfl (.inl rfl)) sgs_nil)))
  (sss_one (ss_expr (se_meth rfl PySem.F.plainAttrs_list PySem.F.slot_list_append PySem.F.type_list_append mt_append ms_append (se_var (pv 3)) (sa_cons (se_lc (own := [("row", 6)]) rfl sc_ended_marks.nd (si_val rfl (se_var (pv 5))) (blkOk_by rfl) (fun s H C cl fp => (sf_name (i := 6) sc_ended_marks.nd rfl (.inl rfl) (by decide))) (fun s H C cl fp => sts_nil) (fun s H C cl fp => (se_call (fnOk_plain (ok_goes_on T)) takes_WF (hr.mono (by decide)) rfl T.m_goes_on T.F_goes_on.kp (b_goes_on T) (sa_cons (se_var (pv 0)) (sa_cons (se_var (pv 6)) (sa_cons (se_var (pv 1)) (sa_cons (se_ix rfl (se_var (pv 1)) (se_var (pv 4))) sa_nil))))))) sa_nil)))))
  (sss_cons (ss_set (i := 2) sc_ended_marks.nd rfl (.inl rfl) (se_cmp (op_neA hr.units) os_ne (se_var (pv 3)) (se_var (pv 1))))
  (sss_one (ss_set (i := 1) sc_ended_marks.nd rfl (.inr rfl) (se_frz (se_var (pv 3)))))))))
  (sss_one (ss_ret (se_var (pv 1)))))))
theorem sc_ended_rows : FnScope ["code", "row", "at", "mark"] ["code"] (defScope s_ended_rows) := ⟨rfl, rfl, rfl, by decide +kernel, rfl, by decide +kernel, by decide +kernel⟩
theorem b_ended_rows (T : Tops g.K mg) : Binds g.K T.fd_ended_rows ["code"] [] := T.F_ended_rows.binds fun _ _ _ _ _ _ us hl => match us, hl with | [_], _ => rfl
theorem ok_ended_rows (T : Tops g.K mg) : FnOk P w g.K mg base (L2.CX P w) 4 T.a_ended_rows T.fd_ended_rows ["code"] (spOf g 1 f_ended_rows) :=
  fn_ok T.F_ended_rows sc_ended_rows rfl fun cdv A outer s H E hr tk hp =>
  (sss_one (ss_ret (se_fnT call_tuple_of cs_tuple rfl T.z_tuple (by decide +kernel) (sa_cons (se_lc (own := [("row", 1)]) rfl sc_ended_rows.nd (si_val rfl (se_call (fnOk_plain (ok_ended_marks T)) tk (hr.mono (by decide)) rfl T.m_ended_marks T.F_ended_marks.kp (b_ended_marks T) (sa_cons (se_var (pv 0)) sa_nil))) (blkOk_by rfl) (fun s H C cl fp => (sf_name (i := 1) sc_ended_rows.nd rfl (.inl rfl) (by decide))) (fun s H C cl fp => sts_nil) (fun s H C cl fp => (se_fnT call_tuple_of cs_tuple rfl T.z_tuple (by decide +kernel) (sa_cons (se_lc (own := [("at", 2), ("mark", 3)]) rfl sc_ended_rows.nd (si_enum rfl rfl T.z_enumerate (se_var (pv 1))) (blkOk_by rfl) (fun s H C cl fp => (sf_tup rfl rfl (sfs_cons (sf_name (i := 2) sc_ended_rows.nd rfl (.inl rfl) (by decide)) (sfs_cons (sf_name (i := 3) sc_ended_rows.nd rfl (.inl rfl) (by decide)) sfs_nil)))) (fun s H C cl fp => (sts_one (st_tr rfl (se_var (pv 3))))) (fun s H C cl fp => (se_var (pv 2)))) sa_nil)))) sa_nil))))
theorem sc_lost_procedures : FnScope ["code", "at", "row"] ["code"] (defScope s_lost_procedures) := ⟨rfl, rfl, rfl, by decide +kernel, rfl, by decide +kernel, by decide +kernel⟩
theorem b_lost_procedures (T : Tops g.K mg) : Binds g.K T.fd_lost_procedures ["code"] [] := T.F_lost_procedures.binds fun _ _ _ _ _ _ us hl => match us, hl with | [_], _ => rfl
theorem ok_lost_procedures (T : Tops g.K mg) : FnOk P w g.K mg base (L2.CX P w) 4 T.a_lost_procedures T.fd_lost_procedures ["code"] (spOf g 1 f_lost_procedures) :=
  fn_ok T.F_lost_procedures sc_lost_procedures rfl fun cdv A outer s H E hr tk hp =>
  (sss_one (ss_ret (se_fnT call_tuple_of cs_tuple rfl T.z_tuple (by decide +kernel) (sa_cons (se_lc (own := [("at", 1), ("row", 2)]) rfl sc_lost_procedures.nd (si_enum rfl rfl T.z_enumerate (se_call (fnOk_plain (ok_ended_marks T)) tk (hr.mono (by decide)) rfl T.m_ended_marks T.F_ended_marks.kp (b_ended_marks T) (sa_cons (se_var (pv 0)) sa_nil))) (blkOk_by rfl) (fun s H C cl fp => (sf_tup rfl rfl (sfs_cons (sf_name (i := 1) sc_lost_procedures.nd rfl (.inl rfl) (by decide)) (sfs_cons (sf_name (i := 2) sc_lost_procedures.nd rfl (.inl rfl) (by decide)) sfs_nil)))) (fun s H C cl fp => (sts_one (st_not (st_tr rfl (se_ix rfl (se_var (pv 2)) se_int))))) (fun s H C cl fp => (se_var (pv 1)))) sa_nil))))
theorem sc_ways_on : FnScope ["code", "marks", "procedure", "row", "told"] ["code", "marks", "procedure", "row"] (defScope s_ways_on) := ⟨rfl, rfl, rfl, by decide +kernel, rfl, by decide +kernel, by decide +kernel⟩
theorem b_ways_on (T : Tops g.K mg) : Binds g.K T.fd_ways_on ["code", "marks", "procedure", "row"] [] := T.F_ways_on.binds fun _ _ _ _ _ _ us hl => match us, hl with | [_, _, _, _], _ => rfl
theorem ok_ways_on (T : Tops g.K mg) : FnOk P w g.K mg base (L2.CX P w) 2 T.a_ways_on T.fd_ways_on ["code", "marks", "procedure", "row"] (spOf g 4 f_ways_on) :=
  fn_ok T.F_ways_on sc_ways_on rfl fun cdv A outer s H E hr tk hp =>
  (sss_cons (ss_set (i := 4) sc_ways_on.nd rfl (.inl rfl) (se_ix rfl (se_ix rfl (se_var (pv 0)) (se_var (pv 2))) (se_var (pv 3))))
  (sss_one (ss_ret (se_if (st_bool (sw_and (st_cmp (op_eqA hr.units) os_eq (se_ix rfl (se_var (pv 4)) se_int) se_str) (sw_and1 (st_not (st_tr rfl (se_ix rfl (se_ix rfl (se_var (pv 1)) (se_ix rfl (se_var (pv 4)) se_int)) se_int)))))) (se_tup sa_nil) (se_call (fnOk_plain (ok_nexts_of T)) tk (hr.mono (by decide)) rfl T.m_nexts_of T.F_nexts_of.kp (b_nexts_of T) (sa_cons (se_var (pv 4)) sa_nil))))))
theorem sc_met_by : FnScope ["code", "marks", "procedure", "found", "place", "number"] ["code", "marks", "procedure"] (defScope s_met_by) := ⟨rfl, rfl, rfl, by decide +kernel, rfl, by decide +kernel, by decide +kernel⟩
theorem b_met_by (T : Tops g.K mg) : Binds g.K T.fd_met_by ["code", "marks", "procedure"] [] := T.F_met_by.binds fun _ _ _ _ _ _ us hl => match us, hl with | [_, _, _], _ => rfl
theorem ok_met_by (T : Tops g.K mg) : FnOk P w g.K mg base (L2.CX P w) 3 T.a_met_by T.fd_met_by ["code", "marks", "procedure"] (spOf g 3 f_met_by) :=
  fn_ok T.F_met_by sc_met_by rfl fun cdv A outer s H E hr tk hp =>
  (sss_cons (ss_set (i := 3) sc_met_by.nd rfl (.inl rfl) (se_lstC (sa_cons se_int sa_nil)))
  (sss_cons (ss_set (i := 4) sc_met_by.nd rfl (.inl rfl) se_int)
  (sss_cons (ss_while 1000000000 [5] hp (st_cmp op_lt os_cmp (se_var (pv 4)) (se_fnB call_len cs_len rfl T.z_len (by decide +kernel) (sa_cons (se_var (pv 3)) sa_nil)))
  (sss_cons (ss_for 1000000000 [5] hp rfl (si_val rfl (se_call (fnOk_plain (ok_ways_on T)) tk (hr.mono (by decide)) rfl T.m_ways_on T.F_ways_on.kp (b_ways_on T) (sa_cons (se_var (pv 0)) (sa_cons (se_var (pv 1)) (sa_cons (se_var (pv 2)) (sa_cons (se_ix rfl (se_var (pv 3)) (se_var (pv 4))) sa_nil)))))) (sg_name (i := 5) sc_met_by.nd rfl (.inl rfl))
  (sss_one (ss_if (st_cmp op_notIn_seq os_in (se_var (pv 5)) (se_var (pv 3)))
  (sss_one (ss_expr (se_meth rfl PySem.F.plainAttrs_list PySem.F.slot_list_append PySem.F.type_list_append mt_append ms_append (se_var (pv 3)) (sa_cons (se_var (pv 5)) sa_nil))))
  sss_nil)))
  (sss_one (ss_aug (i := 4) sc_met_by.nd rfl (.inl rfl) se_int ip_add os_ipadd))))
  (sss_one (ss_ret (se_frz (se_var (pv 3))))))))
theorem sc_met_rows : FnScope ["code", "procedure"] ["code", "procedure"] (defScope s_met_rows) := ⟨rfl, rfl, rfl, by decide +kernel, rfl, by decide +kernel, by decide +kernel⟩
theorem b_met_rows (T : Tops g.K mg) : Binds g.K T.fd_met_rows ["code", "procedure"] [] := T.F_met_rows.binds fun _ _ _ _ _ _ us hl => match us, hl with | [_, _], _ => rfl
theorem ok_met_rows (T : Tops g.K mg) : FnOk P w g.K mg base (L2.CX P w) 4 T.a_met_rows T.fd_met_rows ["code", "procedure"] (spOf g 2 f_met_rows) :=
  fn_ok T.F_met_rows sc_met_rows rfl fun cdv A outer s H E hr tk hp =>
  (sss_one (ss_ret (se_fnT call_tuple_of cs_tuple rfl T.z_tuple (by decide +kernel) (sa_cons (se_fnB cr_sortedI cs_sorted rfl T.z_sorted (by decide +kernel) (sa_cons (se_call (fnOk_plain (ok_met_by T)) tk (hr.mono (by decide)) rfl T.m_met_by T.F_met_by.kp (b_met_by T) (sa_cons (se_var (pv 0)) (sa_cons (se_call (fnOk_plain (ok_ended_marks T)) tk (hr.mono (by decide)) rfl T.m_ended_marks T.F_ended_marks.kp (b_ended_marks T) (sa_cons (se_var (pv 0)) sa_nil)) (sa_cons (se_var (pv 1)) sa_nil)))) sa_nil)) sa_nil))))
theorem sc_needed_by : FnScope ["code", "marks", "procedure", "found", "place", "row", "told"] ["code", "marks", "procedure"] (defScope s_needed_by) := ⟨rfl, rfl, rfl, by decide +kernel, rfl, by decide +kernel, by decide +kernel⟩
theorem b_needed_by (T : Tops g.K mg) : Binds g.K T.fd_needed_by ["code", "marks", "procedure"] [] := T.F_needed_by.binds fun _ _ _ _ _ _ us hl => match us, hl with | [_, _, _], _ => rfl
theorem ok_needed_by (T : Tops g.K mg) : FnOk P w g.K mg base (L2.CX P w) 4 T.a_needed_by T.fd_needed_by ["code", "marks", "procedure"] (spOf g 3 f_needed_by) :=
  fn_ok T.F_needed_by sc_needed_by rfl fun cdv A outer s H E hr tk hp =>
  (sss_cons (ss_set (i := 3) sc_needed_by.nd rfl (.inl rfl) (se_lstC (sa_cons (se_var (pv 2)) sa_nil)))
  (sss_cons (ss_set (i := 4) sc_needed_by.nd rfl (.inl rfl) se_int)
  (sss_cons (ss_while 1000000000 [5, 6] hp (st_cmp op_lt os_cmp (se_var (pv 4)) (se_fnB call_len cs_len rfl T.z_len (by decide +kernel) (sa_cons (se_var (pv 3)) sa_nil)))
  (sss_cons (ss_for 1000000000 [6, 5] hp rfl (si_val rfl (se_call (fnOk_plain (ok_met_by T)) tk (hr.mono (by decide)) rfl T.m_met_by T.F_met_by.kp (b_met_by T) (sa_cons (se_var (pv 0)) (sa_cons (se_var (pv 1)) (sa_cons (se_ix rfl (se_var (pv 3)) (se_var (pv 4))) sa_nil))))) (sg_name (i := 5) sc_needed_by.nd rfl (.inl rfl))
  (sss_cons (ss_set (i := 6) sc_needed_by.nd rfl (.inl rfl) (se_ix rfl (se_ix rfl (se_var (pv 0)) (se_ix rfl (se_var (pv 3)) (se_var (pv 4)))) (se_var (pv 5))))
  (sss_one (ss_if (st_bool (sw_and (st_cmp (op_eqA hr.units) os_eq (se_ix rfl (se_var (pv 6)) se_int) se_str) (sw_and (st_tr rfl (se_ix rfl (se_ix rfl (se_var (pv 1)) (se_ix rfl (se_var (pv 3)) (se_var (pv 4)))) (se_var (pv 5)))) (sw_and1 (st_cmp op_notIn_seq os_in (se_ix rfl (se_var (pv 6)) se_int) (se_var (pv 3)))))))
  (sss_one (ss_expr (se_meth rfl PySem.F.plainAttrs_list PySem.F.slot_list_append PySem.F.type_list_append mt_append ms_append (se_var (pv 3)) (sa_cons (se_ix rfl (se_var (pv 6)) se_int) sa_nil))))
  sss_nil))))
  (sss_one (ss_aug (i := 4) sc_needed_by.nd rfl (.inl rfl) se_int ip_add os_ipadd))))
  (sss_one (ss_ret (se_frz (se_var (pv 3))))))))
theorem sc_needed_procedures : FnScope ["code", "procedure"] ["code", "procedure"] (defScope s_needed_procedures) := ⟨rfl, rfl, rfl, by decide +kernel, rfl, by decide +kernel, by decide +kernel⟩
theorem b_needed_procedures (T : Tops g.K mg) : Binds g.K T.fd_needed_procedures ["code", "procedure"] [] := T.F_needed_procedures.binds fun _ _ _ _ _ _ us hl => match us, hl with | [_, _], _ => rfl
theorem ok_needed_procedures (T : Tops g.K mg) : FnOk P w g.K mg base (L2.CX P w) 5 T.a_needed_procedures T.fd_needed_procedures ["code", "procedure"] (spOf g 2 f_needed_procedures) :=
  fn_ok T.F_needed_procedures sc_needed_procedures rfl fun cdv A outer s H E hr tk hp =>
  (sss_one (ss_ret (se_fnT call_tuple_of cs_tuple rfl T.z_tuple (by decide +kernel) (sa_cons (se_fnB cr_sortedI cs_sorted rfl T.z_sorted (by decide +kernel) (sa_cons (se_call (fnOk_plain (ok_needed_by T)) tk (hr.mono (by decide)) rfl T.m_needed_by T.F_needed_by.kp (b_needed_by T) (sa_cons (se_var (pv 0)) (sa_cons (se_call (fnOk_plain (ok_ended_marks T)) tk (hr.mono (by decide)) rfl T.m_ended_marks T.F_ended_marks.kp (b_ended_marks T) (sa_cons (se_var (pv 0)) sa_nil)) (sa_cons (se_var (pv 1)) sa_nil)))) sa_nil)) sa_nil))))
theorem sc__law_met : FnScope ["code", "which", "ended", "rows", "at", "step", "ways", "row"] ["code", "which", "ended"] (defScope s__law_met) := ⟨rfl, rfl, rfl, by decide +kernel, rfl, by decide +kernel, by decide +kernel⟩
theorem b__law_met (T : Tops g.K mg) : Binds g.K T.fd__law_met ["code", "which", "ended"] [] := T.F__law_met.binds fun _ _ _ _ _ _ us hl => match us, hl with | [_, _, _], _ => rfl
theorem ok__law_met (T : Tops g.K mg) : FnOk P w g.K mg base (L2.CX P w) 1 T.a__law_met T.fd__law_met ["code", "which", "ended"] (spOf g 3 f__law_met) :=
  fn_ok T.F__law_met sc__law_met rfl fun cdv A outer s H E hr tk hp =>
  (sss_cons (ss_par (i := 3) (j := 4) rfl sc__law_met.nd rfl rfl (by decide) rfl rfl (se_lstC (sa_cons se_int sa_nil)) se_int)
  (sss_cons (ss_while 1000000000 [5, 6, 7] hp (st_cmp op_lt os_cmp (se_var (pv 4)) (se_fnB call_len cs_len rfl T.z_len (by decide +kernel) (sa_cons (se_var (pv 3)) sa_nil)))
  (sss_cons (ss_set (i := 5) sc__law_met.nd rfl (.inl rfl) (se_ix rfl (se_ix rfl (se_var (pv 0)) (se_var (pv 1))) (se_ix rfl (se_var (pv 3)) (se_var (pv 4)))))
  (sss_cons (ss_set (i := 4) sc__law_met.nd rfl (.inl rfl) (se_op op_addA os_add (se_var (pv 4)) se_int))
  (sss_cons (ss_set (i := 6) sc__law_met.nd rfl (.inl rfl) (se_tup sa_nil))
  (sss_cons (ss_if (st_cmp (op_eqA hr.units) os_eq (se_ix rfl (se_var (pv 5)) se_int) se_str)
  (sss_one (ss_set (i := 6) sc__law_met.nd rfl (.inl rfl) (se_ix rfl (se_var (pv 5)) se_int)))
  (sss_one (ss_if (st_bool (sw_or (st_cmp (op_eqA hr.units) os_eq (se_ix rfl (se_var (pv 5)) se_int) se_str) (sw_or1 (st_bool (sw_and (st_cmp (op_eqA hr.units) os_eq (se_ix rfl (se_var (pv 5)) se_int) se_str) (sw_and1 (st_tin (hu_of hr) (sa_cons (se_ix rfl (se_var (pv 5)) se_int) (sa_cons se_int sa_nil)) (se_var (pv 2)))))))))
  (sss_one (ss_set (i := 6) sc__law_met.nd rfl (.inl rfl) (se_tup (sa_cons (se_ix rfl (se_var (pv 5)) se_int) sa_nil))))
  sss_nil)))
  (sss_one (ss_for 1000000000 [7] hp rfl (si_val rfl (se_var (pv 6))) (sg_name (i := 7) sc__law_met.nd rfl (.inl rfl))
  (sss_one (ss_if (st_cmp op_notIn_seq os_in (se_var (pv 7)) (se_var (pv 3)))
  (sss_one (ss_expr (se_meth rfl PySem.F.plainAttrs_list PySem.F.slot_list_append PySem.F.type_list_append mt_append ms_append (se_var (pv 3)) (sa_cons (se_var (pv 7)) sa_nil))))
  sss_nil)))))))))
  (sss_one (ss_ret (se_fnB cr_sortedI cs_sorted rfl T.z_sorted (by decide +kernel) (sa_cons (se_var (pv 3)) sa_nil))))))
theorem sc__law_needed : FnScope ["code", "which", "ended", "rows", "at", "one", "row", "step"] ["code", "which", "ended"] (defScope s__law_needed) := ⟨rfl, rfl, rfl, by decide +kernel, rfl, by decide +kernel, by decide +kernel⟩
theorem b__law_needed (T : Tops g.K mg) : Binds g.K T.fd__law_needed ["code", "which", "ended"] [] := T.F__law_needed.binds fun _ _ _ _ _ _ us hl => match us, hl with | [_, _, _], _ => rfl
theorem ok__law_needed (T : Tops g.K mg) : FnOk P w g.K mg base (L2.CX P w) 2 T.a__law_needed T.fd__law_needed ["code", "which", "ended"] (spOf g 3 f__law_needed) :=
  fn_ok T.F__law_needed sc__law_needed rfl fun cdv A outer s H E hr tk hp =>
  (sss_cons (ss_par (i := 3) (j := 4) rfl sc__law_needed.nd rfl rfl (by decide) rfl rfl (se_lstC (sa_cons (se_var (pv 1)) sa_nil)) se_int)
  (sss_cons (ss_while 1000000000 [5, 6, 7] hp (st_cmp op_lt os_cmp (se_var (pv 4)) (se_fnB call_len cs_len rfl T.z_len (by decide +kernel) (sa_cons (se_var (pv 3)) sa_nil)))
  (sss_cons (ss_set (i := 5) sc__law_needed.nd rfl (.inl rfl) (se_ix rfl (se_var (pv 3)) (se_var (pv 4))))
  (sss_cons (ss_set (i := 4) sc__law_needed.nd rfl (.inl rfl) (se_op op_addA os_add (se_var (pv 4)) se_int))
  (sss_one (ss_for 1000000000 [7, 6] hp rfl (si_val rfl (se_call (ok__law_met T) tk (hr.mono (by decide)) rfl T.m__law_met T.F__law_met.kp (b__law_met T) (sa_cons (se_var (pv 0)) (sa_cons (se_var (pv 5)) (sa_cons (se_var (pv 2)) sa_nil))))) (sg_name (i := 6) sc__law_needed.nd rfl (.inl rfl))
  (sss_cons (ss_set (i := 7) sc__law_needed.nd rfl (.inl rfl) (se_ix rfl (se_ix rfl (se_var (pv 0)) (se_var (pv 5))) (se_var (pv 6))))
  (sss_one (ss_if (st_bool (sw_and (st_cmp (op_eqA hr.units) os_eq (se_ix rfl (se_var (pv 7)) se_int) se_str) (sw_and (st_tin (hu_of hr) (sa_cons (se_var (pv 5)) (sa_cons (se_var (pv 6)) sa_nil)) (se_var (pv 2))) (sw_and1 (st_cmp op_notIn_seq os_in (se_ix rfl (se_var (pv 7)) se_int) (se_var (pv 3)))))))
  (sss_one (ss_expr (se_meth rfl PySem.F.plainAttrs_list PySem.F.slot_list_append PySem.F.type_list_append mt_append ms_append (se_var (pv 3)) (sa_cons (se_ix rfl (se_var (pv 7)) se_int) sa_nil))))
  sss_nil))))))))
  (sss_one (ss_ret (se_fnB cr_sortedI cs_sorted rfl T.z_sorted (by decide +kernel) (sa_cons (se_var (pv 3)) sa_nil))))))
theorem sc__law_asked : FnScope ["code", "ended", "due", "which", "lost", "at"] ["code"] (defScope s__law_asked) := ⟨rfl, rfl, rfl, by decide +kernel, rfl, by decide +kernel, by decide +kernel⟩
theorem b__law_asked (T : Tops g.K mg) : Binds g.K T.fd__law_asked ["code"] [] := T.F__law_asked.binds fun _ _ _ _ _ _ us hl => match us, hl with | [_], _ => rfl
theorem ok__law_asked (T : Tops g.K mg) : FnOk P w g.K mg base (L2.CX P w) 10 T.a__law_asked T.fd__law_asked ["code"] (spOf g 1 f__law_asked) :=
  fn_ok T.F__law_asked sc__law_asked rfl fun cdv A outer s H E hr tk hp =>
  (sss_cons (ss_set (i := 1) sc__law_asked.nd rfl (.inr rfl) (se_call (ok__law_ended T) tk (hr.mono (by decide)) rfl T.m__law_ended T.F__law_ended.kp (b__law_ended T) (sa_cons (se_var (pv 0)) sa_nil)))
  (sss_cons (ss_set (i := 2) sc__law_asked.nd rfl (.inl rfl) (se_lstC sa_nil))
  (sss_cons (ss_for 1000000000 [3] hp rfl (si_range1 rfl T.z_range (sa_cons (se_fnB call_len cs_len rfl T.z_len (by decide +kernel) (sa_cons (se_var (pv 0)) sa_nil)) sa_nil)) (sg_name (i := 3) sc__law_asked.nd rfl (.inr rfl))
  (sss_one (ss_expr (se_meth rfl PySem.F.plainAttrs_list PySem.F.slot_list_append PySem.F.type_list_append mt_append ms_append (se_var (pv 2)) (sa_cons (se_fnT call_tuple_of cs_tuple rfl T.z_tuple (by decide +kernel) (sa_cons (se_lc (own := [("at", 5)]) rfl sc__law_asked.nd (si_range1 rfl T.z_range (sa_cons (se_fnB call_len cs_len rfl T.z_len (by decide +kernel) (sa_cons (se_ix rfl (se_var (pv 0)) (se_var (pv 3))) sa_nil)) sa_nil)) (blkOk_by rfl) (fun s H C cl fp => (sf_name (i := 5) sc__law_asked.nd rfl (.inl rfl) (by decide))) (fun s H C cl fp => (sts_one (st_tin (hu_of hr) (sa_cons (se_var (pv 3)) (sa_cons (se_var (pv 5)) sa_nil)) (se_var (pv 1))))) (fun s H C cl fp => (se_var (pv 5)))) sa_nil)) sa_nil)))))
  (sss_cons (ss_set (i := 4) sc__law_asked.nd rfl (.inl rfl) (se_fnT call_tuple_of cs_tuple rfl T.z_tuple (by decide +kernel) (sa_cons (se_lc (own := [("which", 3)]) rfl sc__law_asked.nd (si_range1 rfl T.z_range (sa_cons (se_fnB call_len cs_len rfl T.z_len (by decide +kernel) (sa_cons (se_var (pv 0)) sa_nil)) sa_nil)) (blkOk_by rfl) (fun s H C cl fp => (sf_name (i := 3) sc__law_asked.nd rfl (.inl rfl) (by decide))) (fun s H C cl fp => (sts_one (st_tnin (hu_of hr) (sa_cons (se_var (pv 3)) (sa_cons se_int sa_nil)) (se_var (pv 1))))) (fun s H C cl fp => (se_var (pv 3)))) sa_nil)))
  (sss_cons (ss_if (st_bool (sw_or (st_not (st_tr rfl (se_call (fnOk_plain (ok__law_numbers T 8)) tk (hr.mono (by decide)) rfl T.m__law_numbers T.F__law_numbers.kp (b__law_numbers T) (sa_cons (se_call (fnOk_plain (ok_ended_rows T)) tk (hr.mono (by decide)) rfl T.m_ended_rows T.F_ended_rows.kp (b_ended_rows T) (sa_cons (se_var (pv 0)) sa_nil)) (sa_cons (se_fnT call_tuple_of cs_tuple rfl T.z_tuple (by decide +kernel) (sa_cons (se_var (pv 2)) sa_nil)) sa_nil))))) (sw_or1 (st_not (st_tr rfl (se_call (fnOk_plain (ok__law_numbers T 8)) tk (hr.mono (by decide)) rfl T.m__law_numbers T.F__law_numbers.kp (b__law_numbers T) (sa_cons (se_callK0 (ks := ["code"]) (ix := [0]) (N := 1) (fnOk_plain (ok_lost_procedures T)) tk (hr.mono (by decide)) rfl T.m_lost_procedures T.F_lost_procedures.kp (kb_of (n := 0) (ks := ["code"]) (ix := [0]) T.F_lost_procedures fun _ _ _ _ _ _ us ws h1 h2 => match us, ws, h1, h2 with | [], [_], _, _ => rfl) (sk_cons (se_var (pv 0)) sk_nil)) (sa_cons (se_var (pv 4)) sa_nil))))))))
  (sss_one (ss_ret se_bl))
  sss_nil)
  (sss_cons (ss_for 1000000000 [3] hp rfl (si_range1 rfl T.z_range (sa_cons (se_fnB call_len cs_len rfl T.z_len (by decide +kernel) (sa_cons (se_var (pv 0)) sa_nil)) sa_nil)) (sg_name (i := 3) sc__law_asked.nd rfl (.inr rfl))
  (sss_cons (ss_if (st_not (st_tr rfl (se_call (fnOk_plain (ok__law_numbers T 8)) tk (hr.mono (by decide)) rfl T.m__law_numbers T.F__law_numbers.kp (b__law_numbers T) (sa_cons (se_call (fnOk_plain (ok_met_rows T)) tk (hr.mono (by decide)) rfl T.m_met_rows T.F_met_rows.kp (b_met_rows T) (sa_cons (se_var (pv 0)) (sa_cons (se_var (pv 3)) sa_nil))) (sa_cons (se_fnT call_tuple_of cs_tuple rfl T.z_tuple (by decide +kernel) (sa_cons (se_call (ok__law_met T) tk (hr.mono (by decide)) rfl T.m__law_met T.F__law_met.kp (b__law_met T) (sa_cons (se_var (pv 0)) (sa_cons (se_var (pv 3)) (sa_cons (se_var (pv 1)) sa_nil)))) sa_nil)) sa_nil)))))
  (sss_one (ss_ret se_bl))
  sss_nil)
  (sss_one (ss_if (st_not (st_tr rfl (se_call (fnOk_plain (ok__law_numbers T 8)) tk (hr.mono (by decide)) rfl T.m__law_numbers T.F__law_numbers.kp (b__law_numbers T) (sa_cons (se_callK0 (ks := ["procedure", "code"]) (ix := [1, 0]) (N := 2) (fnOk_plain (ok_needed_procedures T)) tk (hr.mono (by decide)) rfl T.m_needed_procedures T.F_needed_procedures.kp (kb_of (n := 0) (ks := ["procedure", "code"]) (ix := [1, 0]) T.F_needed_procedures fun _ _ _ _ _ _ us ws h1 h2 => match us, ws, h1, h2 with | [], [_, _], _, _ => rfl) (sk_cons (se_var (pv 3)) (sk_cons (se_var (pv 0)) sk_nil))) (sa_cons (se_fnT call_tuple_of cs_tuple rfl T.z_tuple (by decide +kernel) (sa_cons (se_call (ok__law_needed T) tk (hr.mono (by decide)) rfl T.m__law_needed T.F__law_needed.kp (b__law_needed T) (sa_cons (se_var (pv 0)) (sa_cons (se_var (pv 3)) (sa_cons (se_var (pv 1)) sa_nil)))) sa_nil)) sa_nil)))))
  (sss_one (ss_ret se_bl))
  sss_nil))))
  (sss_one (ss_ret se_bl))))))))
theorem sc__law_hand : FnScope ["zero", "one", "two", "three", "code", "told", "due", "chain", "lost", "good", "which"] [] (defScope s__law_hand) := ⟨rfl, rfl, rfl, by decide +kernel, rfl, by decide +kernel, by decide +kernel⟩
theorem b__law_hand (T : Tops g.K mg) : Binds g.K T.fd__law_hand [] [] := T.F__law_hand.binds fun _ _ _ _ _ _ us hl => match us, hl with | [], _ => rfl
theorem ok__law_hand (T : Tops g.K mg) : FnOk P w g.K mg base (L2.CX P w) 11 T.a__law_hand T.fd__law_hand [] (spOf g 0 f__law_hand) :=
  fn_ok T.F__law_hand sc__law_hand rfl fun cdv A outer s H E hr tk hp =>
  (sss_cons (ss_set (i := 0) sc__law_hand.nd rfl (.inl rfl) (se_tup (sa_cons (se_tup (sa_cons se_str (sa_cons (se_tup (sa_cons se_int (sa_cons se_int (sa_cons se_int sa_nil)))) sa_nil))) (sa_cons (se_tup (sa_cons se_str (sa_cons se_int (sa_cons se_int sa_nil)))) (sa_cons (se_tup (sa_cons se_str (sa_cons (se_tup (sa_cons se_int sa_nil)) (sa_cons se_int sa_nil)))) (sa_cons (se_tup (sa_cons se_str (sa_cons se_int (sa_cons se_int sa_nil)))) (sa_cons (se_tup (sa_cons se_str (sa_cons se_int (sa_cons se_int sa_nil)))) (sa_cons (se_tup (sa_cons se_str (sa_cons se_int (sa_cons se_int sa_nil)))) (sa_cons (se_tup (sa_cons se_str sa_nil)) (sa_cons (se_tup (sa_cons se_str (sa_cons (se_tup (sa_cons se_int sa_nil)) (sa_cons se_int sa_nil)))) sa_nil))))))))))
  (sss_cons (ss_set (i := 1) sc__law_hand.nd rfl (.inl rfl) (se_tup (sa_cons (se_tup (sa_cons se_str (sa_cons (se_tup (sa_cons se_int (sa_cons se_int sa_nil))) sa_nil))) (sa_cons (se_tup (sa_cons se_str (sa_cons se_int (sa_cons se_int sa_nil)))) (sa_cons (se_tup (sa_cons se_str sa_nil)) sa_nil)))))
  (sss_cons (ss_set (i := 2) sc__law_hand.nd rfl (.inl rfl) (se_tup (sa_cons (se_tup (sa_cons se_str (sa_cons se_int (sa_cons se_int sa_nil)))) (sa_cons (se_tup (sa_cons se_str sa_nil)) sa_nil))))
  (sss_cons (ss_set (i := 3) sc__law_hand.nd rfl (.inl rfl) (se_tup (sa_cons (se_tup (sa_cons se_str (sa_cons (se_tup (sa_cons se_int sa_nil)) (sa_cons se_int sa_nil)))) (sa_cons (se_tup (sa_cons se_str sa_nil)) sa_nil))))
  (sss_cons (ss_set (i := 4) sc__law_hand.nd rfl (.inl rfl) (se_tup (sa_cons (se_var (pv 0)) (sa_cons (se_var (pv 1)) (sa_cons (se_var (pv 2)) (sa_cons (se_var (pv 3)) (sa_cons (se_tup (sa_cons (se_tup (sa_cons se_str (sa_cons (se_tup (sa_cons se_int (sa_cons se_int sa_nil))) sa_nil))) (sa_cons (se_tup (sa_cons se_str sa_nil)) (sa_cons (se_tup (sa_cons se_str (sa_cons se_int (sa_cons se_int sa_nil)))) sa_nil)))) sa_nil)))))))
  (sss_cons (ss_set (i := 5) sc__law_hand.nd rfl (.inl rfl) (se_tup (sa_cons (se_call (fnOk_plain (ok_ended_rows T)) tk (hr.mono (by decide)) rfl T.m_ended_rows T.F_ended_rows.kp (b_ended_rows T) (sa_cons (se_var (pv 4)) sa_nil)) (sa_cons (se_call (fnOk_plain (ok_lost_procedures T)) tk (hr.mono (by decide)) rfl T.m_lost_procedures T.F_lost_procedures.kp (b_lost_procedures T) (sa_cons (se_var (pv 4)) sa_nil)) (sa_cons (se_call (fnOk_plain (ok_met_rows T)) tk (hr.mono (by decide)) rfl T.m_met_rows T.F_met_rows.kp (b_met_rows T) (sa_cons (se_var (pv 4)) (sa_cons se_int sa_nil))) (sa_cons (se_call (fnOk_plain (ok_needed_procedures T)) tk (hr.mono (by decide)) rfl T.m_needed_procedures T.F_needed_procedures.kp (b_needed_procedures T) (sa_cons (se_var (pv 4)) (sa_cons se_int sa_nil))) (sa_cons (se_call (fnOk_plain (ok_met_rows T)) tk (hr.mono (by decide)) rfl T.m_met_rows T.F_met_rows.kp (b_met_rows T) (sa_cons (se_var (pv 4)) (sa_cons se_int sa_nil))) (sa_cons (se_call (fnOk_plain (ok_needed_procedures T)) tk (hr.mono (by decide)) rfl T.m_needed_procedures T.F_needed_procedures.kp (b_needed_procedures T) (sa_cons (se_var (pv 4)) (sa_cons se_int sa_nil))) sa_nil))))))))
  (sss_cons (ss_set (i := 6) sc__law_hand.nd rfl (.inl rfl) (se_tup (sa_cons (se_tup (sa_cons (se_tup (sa_cons se_int (sa_cons se_int (sa_cons se_int (sa_cons se_int (sa_cons se_int sa_nil)))))) (sa_cons (se_tup (sa_cons se_int (sa_cons se_int (sa_cons se_int sa_nil)))) (sa_cons (se_tup (sa_cons se_int sa_nil)) (sa_cons (se_tup (sa_cons se_int (sa_cons se_int sa_nil))) (sa_cons (se_tup (sa_cons se_int (sa_cons se_int (sa_cons se_int sa_nil)))) sa_nil)))))) (sa_cons (se_tup (sa_cons se_int sa_nil)) (sa_cons (se_tup (sa_cons se_int (sa_cons se_int (sa_cons se_int (sa_cons se_int (sa_cons se_int (sa_cons se_int sa_nil))))))) (sa_cons (se_tup (sa_cons se_int (sa_cons se_int sa_nil))) (sa_cons (se_tup (sa_cons se_int sa_nil)) (sa_cons (se_tup (sa_cons se_int sa_nil)) sa_nil))))))))
  (sss_cons (ss_if (st_bool (sw_or (st_not (st_tr rfl (se_call (fnOk_plain (ok__law_numbers T 8)) tk (hr.mono (by decide)) rfl T.m__law_numbers T.F__law_numbers.kp (b__law_numbers T) (sa_cons (se_var (pv 5)) (sa_cons (se_var (pv 6)) sa_nil))))) (sw_or1 (st_not (st_tr rfl (se_call (fnOk_plain (ok__law_asked T)) tk (hr.mono (by decide)) rfl T.m__law_asked T.F__law_asked.kp (b__law_asked T) (sa_cons (se_var (pv 4)) sa_nil)))))))
  (sss_one (ss_ret se_bl))
  sss_nil)
  (sss_cons (ss_setLc (i := 7) (own := [("which", 10)]) rfl sc__law_hand.nd rfl rfl (sw_true rfl rfl rfl rfl) (si_range1 rfl T.z_range (sa_cons se_int sa_nil)) (blkOk_by rfl) (fun s H C cl fp => (sf_name (i := 10) sc__law_hand.nd rfl (.inl rfl) (by decide))) (fun s H C cl fp => sts_nil) (fun s H C cl fp => (se_tup (sa_cons (se_tup (sa_cons se_str (sa_cons (se_op op_addA os_add (se_var (pv 10)) se_int) (sa_cons se_int sa_nil)))) (sa_cons (se_tup (sa_cons se_str sa_nil)) sa_nil)))))
  (sss_cons (ss_set (i := 8) sc__law_hand.nd rfl (.inl rfl) (se_fnT call_tuple_of cs_tuple rfl T.z_tuple (by decide +kernel) (sa_cons (se_op op_addA os_add (se_var (pv 7)) (se_lst (sa_cons (se_tup (sa_cons (se_tup (sa_cons se_str (sa_cons (se_tup (sa_cons se_int sa_nil)) (sa_cons se_int sa_nil)))) (sa_cons (se_tup (sa_cons se_str sa_nil)) sa_nil))) sa_nil))) sa_nil)))
  (sss_cons (ss_set (i := 9) sc__law_hand.nd rfl (.inl rfl) (se_fnT call_tuple_of cs_tuple rfl T.z_tuple (by decide +kernel) (sa_cons (se_op op_addA os_add (se_var (pv 7)) (se_lst (sa_cons (se_tup (sa_cons (se_tup (sa_cons se_str (sa_cons (se_tup (sa_cons se_int (sa_cons se_int sa_nil))) sa_nil))) (sa_cons (se_tup (sa_cons se_str sa_nil)) sa_nil))) sa_nil))) sa_nil)))
  (sss_cons (ss_if (st_not (st_tr rfl (se_call (fnOk_plain (ok__law_numbers T 8)) tk (hr.mono (by decide)) rfl T.m__law_numbers T.F__law_numbers.kp (b__law_numbers T) (sa_cons (se_tup (sa_cons (se_call (fnOk_plain (ok_lost_procedures T)) tk (hr.mono (by decide)) rfl T.m_lost_procedures T.F_lost_procedures.kp (b_lost_procedures T) (sa_cons (se_var (pv 8)) sa_nil)) (sa_cons (se_call (fnOk_plain (ok_lost_procedures T)) tk (hr.mono (by decide)) rfl T.m_lost_procedures T.F_lost_procedures.kp (b_lost_procedures T) (sa_cons (se_var (pv 9)) sa_nil)) (sa_cons (se_call (fnOk_plain (ok_needed_procedures T)) tk (hr.mono (by decide)) rfl T.m_needed_procedures T.F_needed_procedures.kp (b_needed_procedures T) (sa_cons (se_var (pv 8)) (sa_cons se_int sa_nil))) sa_nil)))) (sa_cons (se_tup (sa_cons (se_tupRg1 rfl rfl T.z_range se_int rfl T.z_tuple) (sa_cons (se_tup sa_nil) (sa_cons (se_tup (sa_cons se_int sa_nil)) sa_nil)))) sa_nil)))))
  (sss_one (ss_ret se_bl))
  sss_nil)
  (sss_one (ss_ret (se_call (fnOk_plain (ok__law_numbers T 8)) tk (hr.mono (by decide)) rfl T.m__law_numbers T.F__law_numbers.kp (b__law_numbers T) (sa_cons (se_tup (sa_cons (se_call (fnOk_plain (ok_needed_procedures T)) tk (hr.mono (by decide)) rfl T.m_needed_procedures T.F_needed_procedures.kp (b_needed_procedures T) (sa_cons (se_var (pv 9)) (sa_cons se_int sa_nil))) (sa_cons (se_call (fnOk_plain (ok_met_rows T)) tk (hr.mono (by decide)) rfl T.m_met_rows T.F_met_rows.kp (b_met_rows T) (sa_cons (se_var (pv 8)) (sa_cons se_int sa_nil))) (sa_cons (se_slice rfl (se_call (fnOk_plain (ok_ended_rows T)) tk (hr.mono (by decide)) rfl T.m_ended_rows T.F_ended_rows.kp (b_ended_rows T) (sa_cons (se_var (pv 8)) sa_nil)) (so_some se_int) so_none) sa_nil)))) (sa_cons (se_tup (sa_cons (se_tupRg2 rfl rfl T.z_range se_int se_int rfl T.z_tuple) (sa_cons (se_tup (sa_cons se_int sa_nil)) (sa_cons (se_tup (sa_cons (se_tup (sa_cons se_int sa_nil)) (sa_cons (se_tup (sa_cons se_int sa_nil)) sa_nil))) sa_nil)))) sa_nil)))))))))))))))))
theorem sc__law_pull : FnScope ["shelf", "many", "number", "times", "place", "book"] ["shelf", "many"] (defScope s__law_pull) := ⟨rfl, rfl, rfl, by decide +kernel, rfl, by decide +kernel, by decide +kernel⟩
theorem b__law_pull (T : Tops g.K mg) : Binds g.K T.fd__law_pull ["shelf", "many"] [] := T.F__law_pull.binds fun _ _ _ _ _ _ us hl => match us, hl with | [_, _], _ => rfl
theorem ok__law_pull (T : Tops g.K mg) : FnOk P w g.K mg base (L2.CX P w) 1 T.a__law_pull T.fd__law_pull ["shelf", "many"] (spOf g 2 f__law_pull) :=
  fn_ok T.F__law_pull sc__law_pull rfl fun cdv A outer s H E hr tk hp =>
  (sss_cons (ss_set (i := 2) sc__law_pull.nd rfl (.inl rfl) (se_dget (hu_of hr) (se_var (pv 0)) se_str))
  (sss_cons (ss_dput (hu_of hr) (se_var (pv 0)) se_str (se_op op_addA os_add (se_var (pv 2)) se_int))
  (sss_cons (ss_par (i := 3) (j := 4) rfl sc__law_pull.nd rfl rfl (by decide) rfl rfl (se_op op_divA os_div (se_var (pv 2)) (se_fnB call_len cs_len rfl T.z_len (by decide +kernel) (sa_cons (se_dget (hu_of hr) (se_var (pv 0)) se_str) sa_nil))) (se_fnT call_int1 cs_int rfl T.z_int (by decide +kernel) (sa_cons (se_op op_modA os_mod (se_var (pv 2)) (se_fnB call_len cs_len rfl T.z_len (by decide +kernel) (sa_cons (se_dget (hu_of hr) (se_var (pv 0)) se_str) sa_nil))) sa_nil)))
  (sss_cons (ss_set (i := 5) sc__law_pull.nd rfl (.inl rfl) (se_ix rfl (se_dget (hu_of hr) (se_var (pv 0)) se_str) (se_var (pv 4))))
  (sss_cons (ss_if (st_cmp (op_eqA hr.units) os_eq (se_var (pv 3)) se_int)
  (sss_one (ss_ret (se_fnT call_int1 cs_int rfl T.z_int (by decide +kernel) (sa_cons (se_op op_modA os_mod (se_var (pv 5)) (se_var (pv 1))) sa_nil))))
  sss_nil)
  (sss_one (ss_ret (se_fnT call_int1 cs_int rfl T.z_int (by decide +kernel) (sa_cons (se_op op_modA os_mod (se_op op_addA os_add (se_var (pv 5)) (se_op op_mulA os_mul (se_op op_mulA os_mul (se_var (pv 3)) (se_op op_addA os_add (se_var (pv 2)) se_int)) (se_op op_addA os_add (se_op op_addA os_add (se_var (pv 3)) (se_var (pv 4))) se_int))) (se_var (pv 1))) sa_nil)))))))))
theorem sc__law_code : FnScope ["shelf", "procedures", "most", "code", "which", "rows", "many", "habit", "at", "kind", "near", "lap"] ["shelf", "procedures", "most"] (defScope s__law_code) := ⟨rfl, rfl, rfl, by decide +kernel, rfl, by decide +kernel, by decide +kernel⟩
theorem b__law_code (T : Tops g.K mg) : Binds g.K T.fd__law_code ["shelf", "procedures", "most"] [] := T.F__law_code.binds fun _ _ _ _ _ _ us hl => match us, hl with | [_, _, _], _ => rfl
theorem ok__law_code (T : Tops g.K mg) : FnOk P w g.K mg base (L2.CX P w) 2 T.a__law_code T.fd__law_code ["shelf", "procedures", "most"] (spOf g 3 f__law_code) :=
  fn_ok T.F__law_code sc__law_code rfl fun cdv A outer s H E hr tk hp =>
  (sss_cons (ss_set (i := 3) sc__law_code.nd rfl (.inl rfl) (se_lstC sa_nil))
  (sss_cons (ss_for 1000000000 [5, 6, 7, 8, 9, 10, 4] hp rfl (si_range1 rfl T.z_range (sa_cons (se_var (pv 1)) sa_nil)) (sg_name (i := 4) sc__law_code.nd rfl (.inl rfl))
  (sss_cons (ss_parL (is := [5, 6]) rfl rfl (sn_cons (i := 5) sc__law_code.nd rfl (.inl rfl) (sn_cons (i := 6) sc__law_code.nd rfl (.inr rfl) sn_nil)) (sa_cons (se_lstC sa_nil) (sa_cons (se_op op_addA os_add se_int (se_call (ok__law_pull T) tk (hr.mono (by decide)) rfl T.m__law_pull T.F__law_pull.kp (b__law_pull T) (sa_cons (se_var (pv 0)) (sa_cons (se_var (pv 2)) sa_nil)))) sa_nil)))
  (sss_cons (ss_set (i := 7) sc__law_code.nd rfl (.inl rfl) (se_call (ok__law_pull T) tk (hr.mono (by decide)) rfl T.m__law_pull T.F__law_pull.kp (b__law_pull T) (sa_cons (se_var (pv 0)) (sa_cons se_int sa_nil))))
  (sss_cons (ss_for 1000000000 [9, 10, 8] hp rfl (si_range1 rfl T.z_range (sa_cons (se_var (pv 6)) sa_nil)) (sg_name (i := 8) sc__law_code.nd rfl (.inl rfl))
  (sss_cons (ss_set (i := 9) sc__law_code.nd rfl (.inl rfl) (se_call (ok__law_pull T) tk (hr.mono (by decide)) rfl T.m__law_pull T.F__law_pull.kp (b__law_pull T) (sa_cons (se_var (pv 0)) (sa_cons se_int sa_nil))))
  (sss_cons (ss_set (i := 10) sc__law_code.nd rfl (.inl rfl) (se_fnT call_int1 cs_int rfl T.z_int (by decide +kernel) (sa_cons (se_op op_modA os_mod (se_op op_addA os_add (se_var (pv 8)) se_int) (se_var (pv 6))) sa_nil)))
  (sss_one (ss_if (st_bool (sw_and (st_cmp (op_eqA hr.units) os_eq (se_var (pv 8)) (se_op op_sub os_sub (se_var (pv 6)) se_int)) (sw_and1 (st_cmp op_gt os_cmp (se_var (pv 7)) se_int))))
  (sss_one (ss_expr (se_meth rfl PySem.F.plainAttrs_list PySem.F.slot_list_append PySem.F.type_list_append mt_append ms_append (se_var (pv 5)) (sa_cons (se_tup (sa_cons se_str sa_nil)) sa_nil))))
  (sss_one (ss_if (st_cmp op_lt os_cmp (se_var (pv 9)) se_int)
  (sss_one (ss_expr (se_meth rfl PySem.F.plainAttrs_list PySem.F.slot_list_append PySem.F.type_list_append mt_append ms_append (se_var (pv 5)) (sa_cons (se_tup (sa_cons se_str (sa_cons (se_tup (sa_cons (se_op op_addA os_add se_int (se_var (pv 9))) sa_nil)) (sa_cons (se_if (st_cmp (op_neA hr.units) os_ne (se_var (pv 7)) se_int) (se_var (pv 10)) (se_call (ok__law_pull T) tk (hr.mono (by decide)) rfl T.m__law_pull T.F__law_pull.kp (b__law_pull T) (sa_cons (se_var (pv 0)) (sa_cons (se_var (pv 6)) sa_nil)))) sa_nil)))) sa_nil))))
  (sss_one (ss_if (st_cmp op_lt os_cmp (se_var (pv 9)) se_int)
  (sss_one (ss_expr (se_meth rfl PySem.F.plainAttrs_list PySem.F.slot_list_append PySem.F.type_list_append mt_append ms_append (se_var (pv 5)) (sa_cons (se_tup (sa_cons se_str (sa_cons (se_call (ok__law_pull T) tk (hr.mono (by decide)) rfl T.m__law_pull T.F__law_pull.kp (b__law_pull T) (sa_cons (se_var (pv 0)) (sa_cons (se_var (pv 1)) sa_nil))) (sa_cons (se_if (st_cmp (op_neA hr.units) os_ne (se_var (pv 7)) se_int) (se_var (pv 10)) (se_call (ok__law_pull T) tk (hr.mono (by decide)) rfl T.m__law_pull T.F__law_pull.kp (b__law_pull T) (sa_cons (se_var (pv 0)) (sa_cons (se_var (pv 6)) sa_nil)))) sa_nil)))) sa_nil))))
  (sss_one (ss_if (st_cmp op_lt os_cmp (se_var (pv 9)) se_int)
  (sss_one (ss_expr (se_meth rfl PySem.F.plainAttrs_list PySem.F.slot_list_append PySem.F.type_list_append mt_append ms_append (se_var (pv 5)) (sa_cons (se_tup (sa_cons se_str (sa_cons (se_fnT call_tuple_of cs_tuple rfl T.z_tuple (by decide +kernel) (sa_cons (se_lc (own := [("lap", 11)]) rfl sc__law_code.nd (si_range1 rfl T.z_range (sa_cons (se_op op_addA os_add se_int (se_call (ok__law_pull T) tk (hr.mono (by decide)) rfl T.m__law_pull T.F__law_pull.kp (b__law_pull T) (sa_cons (se_var (pv 0)) (sa_cons se_int sa_nil)))) sa_nil)) (blkOk_by rfl) (fun s H C cl fp => (sf_name (i := 11) sc__law_code.nd rfl (.inl rfl) (by decide))) (fun s H C cl fp => sts_nil) (fun s H C cl fp => (se_call (ok__law_pull T) takes_WF (hr.mono (by decide)) rfl T.m__law_pull T.F__law_pull.kp (b__law_pull T) (sa_cons (se_var (pv 0)) (sa_cons (se_var (pv 6)) sa_nil))))) sa_nil)) sa_nil))) sa_nil))))
  (sss_one (ss_expr (se_meth rfl PySem.F.plainAttrs_list PySem.F.slot_list_append PySem.F.type_list_append mt_append ms_append (se_var (pv 5)) (sa_cons (se_tup (sa_cons se_str sa_nil)) sa_nil)))))))))))))))
  (sss_one (ss_expr (se_meth rfl PySem.F.plainAttrs_list PySem.F.slot_list_append PySem.F.type_list_append mt_append ms_append (se_var (pv 3)) (sa_cons (se_fnT call_tuple_of cs_tuple rfl T.z_tuple (by decide +kernel) (sa_cons (se_var (pv 5)) sa_nil)) sa_nil))))))))
  (sss_one (ss_ret (se_fnT call_tuple_of cs_tuple rfl T.z_tuple (by decide +kernel) (sa_cons (se_var (pv 3)) sa_nil))))))
theorem sc_law : FnScope ["script", "shelf", "lap"] ["script"] (defScope s_law) := ⟨rfl, rfl, rfl, by decide +kernel, rfl, by decide +kernel, by decide +kernel⟩
theorem b_law (T : Tops g.K mg) : Binds g.K T.fd_law ["script"] [] := T.F_law.binds fun _ _ _ _ _ _ us hl => match us, hl with | [_], _ => rfl
theorem ok_law (T : Tops g.K mg) : FnOk P w g.K mg base (L2.CX P w) 12 T.a_law T.fd_law ["script"] (spOf g 1 f_law) :=
  fn_ok T.F_law sc_law rfl fun cdv A outer s H E hr tk hp =>
  (sss_cons (ss_set (i := 1) sc_law.nd rfl (.inl rfl) (se_call (ok__law_shelf T) tk (hr.mono (by decide)) rfl T.m__law_shelf T.F__law_shelf.kp (b__law_shelf T) (sa_cons (se_var (pv 0)) sa_nil)))
  (sss_cons (ss_if (st_not (st_tr rfl (se_call0 (fnOk_plain (ok__law_hand T)) tk (hr.mono (by decide)) rfl T.m__law_hand T.F__law_hand.kp (b__law_hand T))))
  (sss_one (ss_ret se_bl))
  sss_nil)
  (sss_cons (ss_for 1000000000 [2] hp rfl (si_range1 rfl T.z_range (sa_cons se_int sa_nil)) (sg_name (i := 2) sc_law.nd rfl (.inl rfl))
  (sss_one (ss_if (st_not (st_tr rfl (se_call (fnOk_plain (ok__law_asked T)) tk (hr.mono (by decide)) rfl T.m__law_asked T.F__law_asked.kp (b__law_asked T) (sa_cons (se_call (ok__law_code T) tk (hr.mono (by decide)) rfl T.m__law_code T.F__law_code.kp (b__law_code T) (sa_cons (se_var (pv 1)) (sa_cons (se_op op_addA os_add se_int (se_call (ok__law_pull T) tk (hr.mono (by decide)) rfl T.m__law_pull T.F__law_pull.kp (b__law_pull T) (sa_cons (se_var (pv 1)) (sa_cons se_int sa_nil)))) (sa_cons se_int sa_nil)))) sa_nil))))
  (sss_one (ss_ret se_bl))
  sss_nil)))
  (sss_cons (ss_if (st_cmp (op_neA hr.units) os_ne (se_call (ok__law_pull T) tk (hr.mono (by decide)) rfl T.m__law_pull T.F__law_pull.kp (b__law_pull T) (sa_cons (se_var (pv 1)) (sa_cons se_int sa_nil))) se_int)
  (sss_one (ss_ret se_bl))
  sss_nil)
  (sss_one (ss_ret (se_call (fnOk_plain (ok__law_asked T)) tk (hr.mono (by decide)) rfl T.m__law_asked T.F__law_asked.kp (b__law_asked T) (sa_cons (se_call (ok__law_code T) tk (hr.mono (by decide)) rfl T.m__law_code T.F__law_code.kp (b__law_code T) (sa_cons (se_var (pv 1)) (sa_cons se_int (sa_cons se_int sa_nil)))) sa_nil))))))))
end
theorem all_mk {l : PySem.W.OpenLaw} {w : World} {K : PySem.W.Frag} {h : Heap} {mg : Str → Option Value} {fa f1 f2 f3 f4 f5 f6 f7 f8 f9 f10 f11 f12 f13 f14 f15 f16 f17 f18 f19 f20 f21 : Addr} (X : K.In h) (G : h.Ns mainGlobals mg) (hfa : mg "law" = some (.ref fa))
    {od1 an1 od2 an2 od3 an3 od4 an4 od5 an5 od6 an6 od7 an7 od8 an8 od9 an9 od10 an10 od11 an11 od12 an12 od13 an13 od14 an14 od15 an15 od16 an16 od17 an17 od18 an18 od19 an19 od20 an20 od21 an21 : Option Addr} {sl1 sl2 sl3 sl4 sl5 sl6 sl7 sl8 sl9 sl10 sl11 sl12 sl13 sl14 sl15 sl16 sl17 sl18 sl19 sl20 sl21 : Array (Option Value)} {oc1 kV1 dc1 pm1 cd1 ct1 oc2 kV2 dc2 pm2 cd2 ct2 oc3 kV3 dc3 pm3 cd3 ct3 oc4 kV4 dc4 pm4 cd4 ct4 oc5 kV5 dc5 pm5 cd5 ct5 oc6 kV6 dc6 pm6 cd6 ct6 oc7 kV7 dc7 pm7 cd7 ct7 oc8 kV8 dc8 pm8 cd8 ct8 oc9 kV9 dc9 pm9 cd9 ct9 oc10 kV10 dc10 pm10 cd10 ct10 oc11 kV11 dc11 pm11 cd11 ct11 oc12 kV12 dc12 pm12 cd12 ct12 oc13 kV13 dc13 pm13 cd13 ct13 oc14 kV14 dc14 pm14 cd14 ct14 oc15 kV15 dc15 pm15 cd15 ct15 oc16 kV16 dc16 pm16 cd16 ct16 oc17 kV17 dc17 pm17 cd17 ct17 oc18 kV18 dc18 pm18 cd18 ct18 oc19 kV19 dc19 pm19 cd19 ct19 oc20 kV20 dc20 pm20 cd20 ct20 oc21 kV21 dc21 pm21 cd21 ct21 : Value}
    (a1 : PySem.W.nsIn K mainGlobals "_law_shelf" = some (some (.ref f1))) (l1 : K.lookup f1 = some ⟨oc1, od1, .func (PySem.W.fnOf "_law_shelf" "_law_shelf" (defArgs s__law_shelf) (defBody s__law_shelf) (defScope s__law_shelf) .none kV1 dc1 pm1 an1 cd1 ct1), sl1⟩) (c1 : PySem.W.codeIn K cd1 "_law_shelf" = true) (k1 : PySem.W.keepIn K (.ref f1) = true)
    (a2 : PySem.W.nsIn K mainGlobals "_law_leads" = some (some (.ref f2))) (l2 : K.lookup f2 = some ⟨oc2, od2, .func (PySem.W.fnOf "_law_leads" "_law_leads" (defArgs s__law_leads) (defBody s__law_leads) (defScope s__law_leads) .none kV2 dc2 pm2 an2 cd2 ct2), sl2⟩) (c2 : PySem.W.codeIn K cd2 "_law_leads" = true) (k2 : PySem.W.keepIn K (.ref f2) = true)
    (a3 : PySem.W.nsIn K mainGlobals "_law_ended" = some (some (.ref f3))) (l3 : K.lookup f3 = some ⟨oc3, od3, .func (PySem.W.fnOf "_law_ended" "_law_ended" (defArgs s__law_ended) (defBody s__law_ended) (defScope s__law_ended) .none kV3 dc3 pm3 an3 cd3 ct3), sl3⟩) (c3 : PySem.W.codeIn K cd3 "_law_ended" = true) (k3 : PySem.W.keepIn K (.ref f3) = true)
    (a4 : PySem.W.nsIn K mainGlobals "_law_numbers" = some (some (.ref f4))) (l4 : K.lookup f4 = some ⟨oc4, od4, .func (PySem.W.fnOf "_law_numbers" "_law_numbers" (defArgs s__law_numbers) (defBody s__law_numbers) (defScope s__law_numbers) .none kV4 dc4 pm4 an4 cd4 ct4), sl4⟩) (c4 : PySem.W.codeIn K cd4 "_law_numbers" = true) (k4 : PySem.W.keepIn K (.ref f4) = true)
    (a5 : PySem.W.nsIn K mainGlobals "nexts_of" = some (some (.ref f5))) (l5 : K.lookup f5 = some ⟨oc5, od5, .func (PySem.W.fnOf "nexts_of" "nexts_of" (defArgs s_nexts_of) (defBody s_nexts_of) (defScope s_nexts_of) .none kV5 dc5 pm5 an5 cd5 ct5), sl5⟩) (c5 : PySem.W.codeIn K cd5 "nexts_of" = true) (k5 : PySem.W.keepIn K (.ref f5) = true)
    (a6 : PySem.W.nsIn K mainGlobals "goes_on" = some (some (.ref f6))) (l6 : K.lookup f6 = some ⟨oc6, od6, .func (PySem.W.fnOf "goes_on" "goes_on" (defArgs s_goes_on) (defBody s_goes_on) (defScope s_goes_on) .none kV6 dc6 pm6 an6 cd6 ct6), sl6⟩) (c6 : PySem.W.codeIn K cd6 "goes_on" = true) (k6 : PySem.W.keepIn K (.ref f6) = true)
    (a7 : PySem.W.nsIn K mainGlobals "ended_marks" = some (some (.ref f7))) (l7 : K.lookup f7 = some ⟨oc7, od7, .func (PySem.W.fnOf "ended_marks" "ended_marks" (defArgs s_ended_marks) (defBody s_ended_marks) (defScope s_ended_marks) .none kV7 dc7 pm7 an7 cd7 ct7), sl7⟩) (c7 : PySem.W.codeIn K cd7 "ended_marks" = true) (k7 : PySem.W.keepIn K (.ref f7) = true)
    (a8 : PySem.W.nsIn K mainGlobals "ended_rows" = some (some (.ref f8))) (l8 : K.lookup f8 = some ⟨oc8, od8, .func (PySem.W.fnOf "ended_rows" "ended_rows" (defArgs s_ended_rows) (defBody s_ended_rows) (defScope s_ended_rows) .none kV8 dc8 pm8 an8 cd8 ct8), sl8⟩) (c8 : PySem.W.codeIn K cd8 "ended_rows" = true) (k8 : PySem.W.keepIn K (.ref f8) = true)
    (a9 : PySem.W.nsIn K mainGlobals "lost_procedures" = some (some (.ref f9))) (l9 : K.lookup f9 = some ⟨oc9, od9, .func (PySem.W.fnOf "lost_procedures" "lost_procedures" (defArgs s_lost_procedures) (defBody s_lost_procedures) (defScope s_lost_procedures) .none kV9 dc9 pm9 an9 cd9 ct9), sl9⟩) (c9 : PySem.W.codeIn K cd9 "lost_procedures" = true) (k9 : PySem.W.keepIn K (.ref f9) = true)
    (a10 : PySem.W.nsIn K mainGlobals "ways_on" = some (some (.ref f10))) (l10 : K.lookup f10 = some ⟨oc10, od10, .func (PySem.W.fnOf "ways_on" "ways_on" (defArgs s_ways_on) (defBody s_ways_on) (defScope s_ways_on) .none kV10 dc10 pm10 an10 cd10 ct10), sl10⟩) (c10 : PySem.W.codeIn K cd10 "ways_on" = true) (k10 : PySem.W.keepIn K (.ref f10) = true)
    (a11 : PySem.W.nsIn K mainGlobals "met_by" = some (some (.ref f11))) (l11 : K.lookup f11 = some ⟨oc11, od11, .func (PySem.W.fnOf "met_by" "met_by" (defArgs s_met_by) (defBody s_met_by) (defScope s_met_by) .none kV11 dc11 pm11 an11 cd11 ct11), sl11⟩) (c11 : PySem.W.codeIn K cd11 "met_by" = true) (k11 : PySem.W.keepIn K (.ref f11) = true)
    (a12 : PySem.W.nsIn K mainGlobals "met_rows" = some (some (.ref f12))) (l12 : K.lookup f12 = some ⟨oc12, od12, .func (PySem.W.fnOf "met_rows" "met_rows" (defArgs s_met_rows) (defBody s_met_rows) (defScope s_met_rows) .none kV12 dc12 pm12 an12 cd12 ct12), sl12⟩) (c12 : PySem.W.codeIn K cd12 "met_rows" = true) (k12 : PySem.W.keepIn K (.ref f12) = true)
    (a13 : PySem.W.nsIn K mainGlobals "needed_by" = some (some (.ref f13))) (l13 : K.lookup f13 = some ⟨oc13, od13, .func (PySem.W.fnOf "needed_by" "needed_by" (defArgs s_needed_by) (defBody s_needed_by) (defScope s_needed_by) .none kV13 dc13 pm13 an13 cd13 ct13), sl13⟩) (c13 : PySem.W.codeIn K cd13 "needed_by" = true) (k13 : PySem.W.keepIn K (.ref f13) = true)
    (a14 : PySem.W.nsIn K mainGlobals "needed_procedures" = some (some (.ref f14))) (l14 : K.lookup f14 = some ⟨oc14, od14, .func (PySem.W.fnOf "needed_procedures" "needed_procedures" (defArgs s_needed_procedures) (defBody s_needed_procedures) (defScope s_needed_procedures) .none kV14 dc14 pm14 an14 cd14 ct14), sl14⟩) (c14 : PySem.W.codeIn K cd14 "needed_procedures" = true) (k14 : PySem.W.keepIn K (.ref f14) = true)
    (a15 : PySem.W.nsIn K mainGlobals "_law_met" = some (some (.ref f15))) (l15 : K.lookup f15 = some ⟨oc15, od15, .func (PySem.W.fnOf "_law_met" "_law_met" (defArgs s__law_met) (defBody s__law_met) (defScope s__law_met) .none kV15 dc15 pm15 an15 cd15 ct15), sl15⟩) (c15 : PySem.W.codeIn K cd15 "_law_met" = true) (k15 : PySem.W.keepIn K (.ref f15) = true)
    (a16 : PySem.W.nsIn K mainGlobals "_law_needed" = some (some (.ref f16))) (l16 : K.lookup f16 = some ⟨oc16, od16, .func (PySem.W.fnOf "_law_needed" "_law_needed" (defArgs s__law_needed) (defBody s__law_needed) (defScope s__law_needed) .none kV16 dc16 pm16 an16 cd16 ct16), sl16⟩) (c16 : PySem.W.codeIn K cd16 "_law_needed" = true) (k16 : PySem.W.keepIn K (.ref f16) = true)
    (a17 : PySem.W.nsIn K mainGlobals "_law_asked" = some (some (.ref f17))) (l17 : K.lookup f17 = some ⟨oc17, od17, .func (PySem.W.fnOf "_law_asked" "_law_asked" (defArgs s__law_asked) (defBody s__law_asked) (defScope s__law_asked) .none kV17 dc17 pm17 an17 cd17 ct17), sl17⟩) (c17 : PySem.W.codeIn K cd17 "_law_asked" = true) (k17 : PySem.W.keepIn K (.ref f17) = true)
    (a18 : PySem.W.nsIn K mainGlobals "_law_hand" = some (some (.ref f18))) (l18 : K.lookup f18 = some ⟨oc18, od18, .func (PySem.W.fnOf "_law_hand" "_law_hand" (defArgs s__law_hand) (defBody s__law_hand) (defScope s__law_hand) .none kV18 dc18 pm18 an18 cd18 ct18), sl18⟩) (c18 : PySem.W.codeIn K cd18 "_law_hand" = true) (k18 : PySem.W.keepIn K (.ref f18) = true)
    (a19 : PySem.W.nsIn K mainGlobals "_law_pull" = some (some (.ref f19))) (l19 : K.lookup f19 = some ⟨oc19, od19, .func (PySem.W.fnOf "_law_pull" "_law_pull" (defArgs s__law_pull) (defBody s__law_pull) (defScope s__law_pull) .none kV19 dc19 pm19 an19 cd19 ct19), sl19⟩) (c19 : PySem.W.codeIn K cd19 "_law_pull" = true) (k19 : PySem.W.keepIn K (.ref f19) = true)
    (a20 : PySem.W.nsIn K mainGlobals "_law_code" = some (some (.ref f20))) (l20 : K.lookup f20 = some ⟨oc20, od20, .func (PySem.W.fnOf "_law_code" "_law_code" (defArgs s__law_code) (defBody s__law_code) (defScope s__law_code) .none kV20 dc20 pm20 an20 cd20 ct20), sl20⟩) (c20 : PySem.W.codeIn K cd20 "_law_code" = true) (k20 : PySem.W.keepIn K (.ref f20) = true)
    (a21 : PySem.W.nsIn K mainGlobals "law" = some (some (.ref f21))) (l21 : K.lookup f21 = some ⟨oc21, od21, .func (PySem.W.fnOf "law" "law" (defArgs s_law) (defBody s_law) (defScope s_law) .none kV21 dc21 pm21 an21 cd21 ct21), sl21⟩) (c21 : PySem.W.codeIn K cd21 "law" = true) (k21 : PySem.W.keepIn K (.ref f21) = true)
    (z0 : PySem.W.nsIn K mainGlobals "any" = some none)
    (z1 : PySem.W.nsIn K mainGlobals "bool" = some none)
    (z2 : PySem.W.nsIn K mainGlobals "enumerate" = some none)
    (z3 : PySem.W.nsIn K mainGlobals "int" = some none)
    (z4 : PySem.W.nsIn K mainGlobals "isinstance" = some none)
    (z5 : PySem.W.nsIn K mainGlobals "len" = some none)
    (z6 : PySem.W.nsIn K mainGlobals "range" = some none)
    (z7 : PySem.W.nsIn K mainGlobals "sorted" = some none)
    (z8 : PySem.W.nsIn K mainGlobals "tuple" = some none)
    (hF : ∀ ns : List Int, ns.length ≤ 63 → (∀ z ∈ ns, Builtin.Int.intBits z ≤ 1048576) → ∃ cs, f_law [.s ns] [] = .ok (.d (.bool true)) cs) :
    ∃ fd : FuncData, (∀ (s : Shared) (v : Value), BindsTo s fd ⟨[v], []⟩ [("script", v)]) ∧ ∀ base : Heap, K.In base → base.Ns mainGlobals mg → FnOk l.prog w K mg base (L2.CX l.prog w) 12 fa fd ["script"] (spLaw K) := by
  have e := hfa.symm.trans (PySem.W.mg_of X G a21)
  cases e
  refine ⟨PySem.W.fnOf "law" "law" (defArgs s_law) (defBody s_law) (defScope s_law) .none kV21 dc21 pm21 an21 cd21 ct21, fun s v => .of_eq rfl, fun base _ _ => ?_⟩
  exact law_fn (g := ⟨K, fun _ => .none⟩) (ok_law (g := ⟨K, fun _ => .none⟩) ⟨f1, _, fun_mk (st := s__law_shelf) l1 c1 k1, PySem.W.mg_of X G a1, f2, _, fun_mk (st := s__law_leads) l2 c2 k2, PySem.W.mg_of X G a2, f3, _, fun_mk (st := s__law_ended) l3 c3 k3, PySem.W.mg_of X G a3, f4, _, fun_mk (st := s__law_numbers) l4 c4 k4, PySem.W.mg_of X G a4, f5, _, fun_mk (st := s_nexts_of) l5 c5 k5, PySem.W.mg_of X G a5, f6, _, fun_mk (st := s_goes_on) l6 c6 k6, PySem.W.mg_of X G a6, f7, _, fun_mk (st := s_ended_marks) l7 c7 k7, PySem.W.mg_of X G a7, f8, _, fun_mk (st := s_ended_rows) l8 c8 k8, PySem.W.mg_of X G a8, f9, _, fun_mk (st := s_lost_procedures) l9 c9 k9, PySem.W.mg_of X G a9, f10, _, fun_mk (st := s_ways_on) l10 c10 k10, PySem.W.mg_of X G a10, f11, _, fun_mk (st := s_met_by) l11 c11 k11, PySem.W.mg_of X G a11, f12, _, fun_mk (st := s_met_rows) l12 c12 k12, PySem.W.mg_of X G a12, f13, _, fun_mk (st := s_needed_by) l13 c13 k13, PySem.W.mg_of X G a13, f14, _, fun_mk (st := s_needed_procedures) l14 c14 k14, PySem.W.mg_of X G a14, f15, _, fun_mk (st := s__law_met) l15 c15 k15, PySem.W.mg_of X G a15, f16, _, fun_mk (st := s__law_needed) l16 c16 k16, PySem.W.mg_of X G a16, f17, _, fun_mk (st := s__law_asked) l17 c17 k17, PySem.W.mg_of X G a17, f18, _, fun_mk (st := s__law_hand) l18 c18 k18, PySem.W.mg_of X G a18, f19, _, fun_mk (st := s__law_pull) l19 c19 k19, PySem.W.mg_of X G a19, f20, _, fun_mk (st := s__law_code) l20 c20 k20, PySem.W.mg_of X G a20, fa, _, fun_mk (st := s_law) l21 c21 k21, PySem.W.mg_of X G a21, PySem.W.mg_none_of X G z0, PySem.W.mg_none_of X G z1, PySem.W.mg_none_of X G z2, PySem.W.mg_none_of X G z3, PySem.W.mg_none_of X G z4, PySem.W.mg_none_of X G z5, PySem.W.mg_none_of X G z6, PySem.W.mg_none_of X G z7, PySem.W.mg_none_of X G z8⟩) hF
end K09
namespace K09
open Sh PySem L2
/-! ### the code as plain data -/
inductive Row where
  | ret | deed (x : PyData) (n : Nat) | call (p n : Nat) | choose (ws : List Nat)
abbrev Code := List (List Row)
def Row.D : Row → PyData
  | .ret => .tuple [.str "return"]
  | .deed x n => .tuple [.str "deed", x, .int (n : Int)]
  | .call p n => .tuple [.str "call", .int (p : Int), .int (n : Int)]
  | .choose ws => .tuple [.str "choose", .tuple (nsD ws)]
def Row.nexts : Row → List Nat
  | .ret => []
  | .deed _ n => [n]
  | .call _ n => [n]
  | .choose ws => ws
def rowsD (rs : List Row) : PyData := .tuple (rs.map Row.D)
def codeD (c : Code) : PyData := .tuple (c.map rowsD)
def marksD (m : List (List Bool)) : List PyData := m.map fun bs => .list (bs.map .bool)
@[simp] theorem s_rc : (("return" : Str) = "choose") = False := eq_false (by decide +kernel)
@[simp] theorem s_dc : (("deed" : Str) = "choose") = False := eq_false (by decide +kernel)
@[simp] theorem s_cc : (("call" : Str) = "choose") = False := eq_false (by decide +kernel)
@[simp] theorem s_dr : (("deed" : Str) = "return") = False := eq_false (by decide +kernel)
@[simp] theorem s_cr : (("call" : Str) = "return") = False := eq_false (by decide +kernel)
@[simp] theorem s_hr : (("choose" : Str) = "return") = False := eq_false (by decide +kernel)
@[simp] theorem s_rl : (("return" : Str) = "call") = False := eq_false (by decide +kernel)
@[simp] theorem s_dl : (("deed" : Str) = "call") = False := eq_false (by decide +kernel)
@[simp] theorem s_hl : (("choose" : Str) = "call") = False := eq_false (by decide +kernel)
@[simp] theorem s_rd : (("return" : Str) = "deed") = False := eq_false (by decide +kernel)
@[simp] theorem s_ld : (("call" : Str) = "deed") = False := eq_false (by decide +kernel)
@[simp] theorem s_hd : (("choose" : Str) = "deed") = False := eq_false (by decide +kernel)
theorem nexts_eq (r : Row) : f_nexts_of [.d r.D] [] = .ok (.d (.tuple (nsD r.nexts))) [] := by
  cases r <;> simp [f_nexts_of, runBody, m_nexts_of, Row.D, Row.nexts]
/-- what a mark asks -/
def lk (m : List (List Bool)) (w a : Nat) : Bool := ((m[w]?.bind (·[a]?)).getD false)
def goes (m : List (List Bool)) (w : Nat) : Row → Bool
  | .ret => true
  | .deed _ n => lk m w n
  | .call p n => lk m p 0 && lk m w n
  | .choose ws => ws.any fun n => lk m w n
theorem lk_get {m : List (List Bool)} {w n : Nat} {kept : List Bool} (hw : m[w]? = some kept) (hn : n < kept.length) : kept[n]? = some (lk m w n) := by
  simp [lk, hw, List.getElem?_eq_getElem hn]
theorem goes_eq (c : PyData) {m : List (List Bool)} {w : Nat} {kept : List Bool} (hw : m[w]? = some kept) {r : Row} (hp : ∀ p n, r = .call p n → ∃ bs, m[p]? = some bs ∧ 0 < bs.length) (hn : ∀ n ∈ r.nexts, n < kept.length) (hl : r.nexts.length ≤ 1000) :
    f_goes_on [.d c, .d r.D, .d (.list (marksD m)), .d (.list (kept.map .bool))] [] = .ok (.d (.bool (goes m w r))) [] := by
  have hc : eLc [4] (iVal (eCall 1 (plainF f_nexts_of) (aCons (eVar 1) aNil))) (tgName 4) tYesM (eBin fIx (eVar 3) (eVar 4)) [some (.d c), some (.d r.D), some (.d (.list (marksD m))), some (.d (.list (kept.map .bool))), none] [] = .ok (.d (.list (r.nexts.map fun n => .bool (lk m w n)))) [] := by
    refine eLc_all (fun n => A.d (.int (n : Nat))) _ r.nexts ?_ (size_ok (by omega)) fun n hn' => ?_
    · simp [plainF_nil _ (nexts_eq r)]
    · have h1 := hn n hn'
      simp
      exact fIx_ln (by rw [List.getElem?_map, lk_get hw h1]; rfl)
  cases r with
  | ret => simp [f_goes_on, runBody, m_goes_on, Row.D, goes]
  | deed x n =>
    simp only [Row.D] at hc ⊢
    simp [f_goes_on, runBody, m_goes_on, hc, goes, Row.nexts]
  | call p n =>
    obtain ⟨bs, h1, h2⟩ := hp p n rfl
    have h3 : fIx (.d (.list (marksD m))) (.d (.int (p : Int))) [] = .ok (.d (.list (bs.map .bool))) [] := fIx_ln (by rw [marksD, List.getElem?_map, h1]; rfl)
    have h4 : fIx (.d (.list (bs.map .bool))) (.d (.int 0)) [] = .ok (.d (.bool (lk m p 0))) [] := fIx_lst (atI_nat (j := 0) (by rw [List.getElem?_map, lk_get h1 h2]; rfl))
    simp only [Row.D] at hc ⊢
    cases q : lk m p 0 <;> simp [f_goes_on, runBody, m_goes_on, hc, goes, Row.nexts, h3, h4, q]
  | choose ws =>
    simp only [Row.D] at hc ⊢
    simp [f_goes_on, runBody, m_goes_on, hc, fAny_fun, goes, Row.nexts]
/-! ### ended_marks -/
structure WF1 (c : Code) : Prop where
  few : c.length ≤ 1000
  rows : ∀ rs ∈ c, 0 < rs.length ∧ rs.length ≤ 1000
  next : ∀ rs ∈ c, ∀ r ∈ rs, r.nexts.length ≤ 1000 ∧ ∀ n ∈ r.nexts, n < rs.length
  call : ∀ rs ∈ c, ∀ r ∈ rs, ∀ p n, r = .call p n → p < c.length
/-- as many marks as rows -/
def Fits (c : Code) (m : List (List Bool)) : Prop := m.length = c.length ∧ ∀ (w : Nat) (rs : List Row), c[w]? = some rs → ∃ bs : List Bool, m[w]? = some bs ∧ bs.length = rs.length
def stepR (m : List (List Bool)) (p : List Row × Nat) : List Bool := p.1.map (goes m p.2)
def stepM (c : Code) (m : List (List Bool)) : List (List Bool) := c.zipIdx.map (stepR m)
theorem mem_zip {α : Type} {c : List α} {p : α × Nat} (h : p ∈ c.zipIdx) : c[p.2]? = some p.1 := by
  have := List.mem_zipIdx_iff_getElem?.mp h
  simpa using this
theorem okS_marks {m : List (List Bool)} : okS 2 (.list (marksD m)) := okS_list fun x hx => by
  obtain ⟨bs, _, rfl⟩ := List.mem_map.mp hx
  exact okS_list fun y hy => by
    obtain ⟨b, _, rfl⟩ := List.mem_map.mp hy
    exact okS_bool
theorem eqv_marks (a b : List (List Bool)) : PyData.eqv (.list (marksD a)) (.list (marksD b)) = decide (a = b) := by
  rw [eqv_list]
  exact eqvAll_map (fun x y => by rw [eqv_list]; exact eqvAll_map eqv_bool x y) a b
abbrev bodyFor : MS := sDrop (eMeth "list" mAppend (eVar 3) (aCons (eLc [6] (iVal (eVar 5)) (tgName 6) tYesM (eCall 4 (plainF (f_goes_on)) (aCons (eVar 0) (aCons (eVar 6) (aCons (eVar 1) (aCons (eBin fIx (eVar 1) (eVar 4)) aNil)))))) aNil))
theorem row_lc {c : Code} (wf : WF1 c) {m : List (List Bool)} (hf : Fits c m) {p : List Row × Nat} (hp : c[p.2]? = some p.1) {cs : CS} {x2 x3 : Option A} :
    eLc [6] (iVal (eVar 5)) (tgName 6) tYesM (eCall 4 (plainF (f_goes_on)) (aCons (eVar 0) (aCons (eVar 6) (aCons (eVar 1) (aCons (eBin fIx (eVar 1) (eVar 4)) aNil)))))
      [some (.d (codeD c)), some (.d (.list (marksD m))), x2, x3, some (.d (.int (p.2 : Nat))), some (.d (rowsD p.1)), none] cs = .ok (.d (.list ((stepR m p).map .bool))) cs := by
  have hmem : p.1 ∈ c := List.mem_of_getElem? hp
  obtain ⟨kept, hk, hkl⟩ := hf.2 p.2 p.1 hp
  have k := eLc_all (fr := [6]) (src := iVal (eVar 5)) (tg := tgName 6) (e := eCall 4 (plainF (f_goes_on)) (aCons (eVar 0) (aCons (eVar 6) (aCons (eVar 1) (aCons (eBin fIx (eVar 1) (eVar 4)) aNil)))))
    (env := [some (.d (codeD c)), some (.d (.list (marksD m))), x2, x3, some (.d (.int (p.2 : Nat))), some (.d (rowsD p.1)), none]) (cs := cs) (fun r : Row => A.d r.D) (fun r => .bool (goes m p.2 r)) p.1
    (by simp [rowsD]) (size_ok (by have := (wf.rows p.1 hmem).2; omega)) fun r hr => by
      refine ⟨_, rfl, ?_⟩
      have e := goes_eq (codeD c) hk (r := r) (fun q n e => by
        obtain ⟨rs, hq⟩ : ∃ rs, c[q]? = some rs := ⟨_, List.getElem?_eq_getElem (wf.call p.1 hmem r hr q n e)⟩
        obtain ⟨bs, h1, h2⟩ := hf.2 q rs hq
        exact ⟨bs, h1, by rw [h2]; exact (wf.rows rs (List.mem_of_getElem? hq)).1⟩) (fun n hn => by rw [hkl]; exact (wf.next p.1 hmem r hr).2 n hn) (wf.next p.1 hmem r hr).1
      have hi : ∀ cs, fIx (.d (.list (marksD m))) (.d (.int (p.2 : Int))) cs = .ok (.d (.list (kept.map .bool))) cs := fun cs => fIx_ln (by rw [marksD, List.getElem?_map, hk]; rfl)
      simp [hi]
      exact plainF_ok rfl e
  rw [k]
  simp [stepR]
theorem for_marks {c : Code} (wf : WF1 c) {m : List (List Bool)} (hf : Fits c m) {cs : CS} {x2 : Option A} :
    forIt (tgTup 2 (tgCons (tgName 4) (tgCons (tgName 5) tgNil))) bodyFor [4, 5] (c.zipIdx.map fun p => A.d (.tuple [.int (p.2 : Nat), rowsD p.1])) [some (.d (codeD c)), some (.d (.list (marksD m))), x2, some (.c cs.length), none, none, none] (cs ++ [.lst []]) =
      .nx [some (.d (codeD c)), some (.d (.list (marksD m))), x2, some (.c cs.length), none, none, none] (cs ++ [.lst (marksD (stepM c m))]) := by
  have k := forIt_append (tg := tgTup 2 (tgCons (tgName 4) (tgCons (tgName 5) tgNil))) (body := bodyFor) (fg := [4, 5]) (env := [some (.d (codeD c)), some (.d (.list (marksD m))), x2, some (.c cs.length), none, none, none]) (cs := cs)
    (fun p : List Row × Nat => A.d (.tuple [.int (p.2 : Nat), rowsD p.1])) (fun p => .list ((stepR m p).map .bool)) c.zipIdx [] (by rw [List.length_zipIdx]; exact size_lt (by have := wf.few; simp; omega)) fun p hp xs hx => by
      simp only [turn_at, tgTup_2, tgCons_at, tgName_at, tgNil_at, Option.bind_some, List.set_cons_succ, List.set_cons_zero, sDrop_at, eMeth_at, aCons_at, row_lc wf hf (mem_zip hp)]
      simp [tyA_c, mAppend_c, hx]
  rw [k]
  simp [marksD, stepM, List.map_map]
/-! ### what ends -/
def rowAt (c : Code) (w a : Nat) : Option Row := c[w]?.bind (·[a]?)
inductive Ends (c : Code) : Nat → Nat → Prop
  | ret {w a : Nat} : rowAt c w a = some .ret → Ends c w a
  | deed {w a : Nat} {x : PyData} {n : Nat} : rowAt c w a = some (.deed x n) → Ends c w n → Ends c w a
  | call {w a p n : Nat} : rowAt c w a = some (.call p n) → Ends c p 0 → Ends c w n → Ends c w a
  | choose {w a n : Nat} {ws : List Nat} : rowAt c w a = some (.choose ws) → n ∈ ws → Ends c w n → Ends c w a
theorem lk_step {c : Code} {m : List (List Bool)} {w a : Nat} : lk (stepM c m) w a = ((rowAt c w a).map (goes m w)).getD false := by
  unfold lk stepM rowAt
  rw [List.getElem?_map, List.getElem?_zipIdx]
  cases c[w]? with
  | none => rfl
  | some rs => simp [stepR]
def Sound (c : Code) (m : List (List Bool)) : Prop := ∀ w a, lk m w a = true → Ends c w a
theorem Sound.step {c : Code} {m : List (List Bool)} (h : Sound c m) : Sound c (stepM c m) := fun w a k => by
  rw [lk_step] at k
  cases q : rowAt c w a with
  | none => rw [q] at k; cases k
  | some r =>
    rw [q] at k
    have k' : goes m w r = true := k
    cases r with
    | ret => exact .ret q
    | deed x n => exact .deed q (h _ _ k')
    | call p n =>
      have k2 : (lk m p 0 && lk m w n) = true := k'
      rw [Bool.and_eq_true] at k2
      exact .call q (h _ _ k2.1) (h _ _ k2.2)
    | choose ws =>
      obtain ⟨n, h1, h2⟩ := List.any_eq_true.mp (show ws.any (fun n => lk m w n) = true from k')
      exact .choose q h1 (h _ _ h2)
theorem complete {c : Code} {m : List (List Bool)} (h : stepM c m = m) {w a : Nat} (e : Ends c w a) : lk m w a = true := by
  induction e with
  | ret q => rw [← h, lk_step, q]; rfl
  | deed q _ ih => rw [← h, lk_step, q]; exact ih
  | call q _ _ ih1 ih2 => rw [← h, lk_step, q]; show (_ && _) = true; rw [ih1, ih2]; rfl
  | choose q hn _ ih => rw [← h, lk_step, q]; exact List.any_eq_true.mpr ⟨_, hn, ih⟩
def LeM (m m' : List (List Bool)) : Prop := ∀ w a, lk m w a = true → lk m' w a = true
theorem goes_mono {m m' : List (List Bool)} (h : LeM m m') {w : Nat} {r : Row} (k : goes m w r = true) : goes m' w r = true := by
  cases r with
  | ret => rfl
  | deed x n => exact h _ _ k
  | call p n =>
    have k2 : (lk m p 0 && lk m w n) = true := k
    rw [Bool.and_eq_true] at k2
    show (_ && _) = true
    rw [h _ _ k2.1, h _ _ k2.2]; rfl
  | choose ws =>
    obtain ⟨n, h1, h2⟩ := List.any_eq_true.mp (show ws.any (fun n => lk m w n) = true from k)
    exact List.any_eq_true.mpr ⟨n, h1, h _ _ h2⟩
theorem LeM.step {c : Code} {m m' : List (List Bool)} (h : LeM m m') : LeM (stepM c m) (stepM c m') := fun w a k => by
  rw [lk_step] at k ⊢
  cases q : rowAt c w a with
  | none => rw [q] at k; cases k
  | some r => rw [q] at k; exact goes_mono h k
theorem Fits.step {c : Code} {m : List (List Bool)} : Fits c (stepM c m) := ⟨by simp [stepM], fun w rs h => ⟨rs.map (goes m w), by simp [stepM, stepR, List.getElem?_zipIdx, h], by simp⟩⟩
/-- how many marks are not set -/
def fcount (bs : List Bool) : Nat := (bs.filter (fun b => !b)).length
def falses (m : List (List Bool)) : Nat := (m.map fcount).sum
theorem fcount_le : ∀ {a b : List Bool}, a.length = b.length → (∀ i : Nat, a[i]? = some true → b[i]? = some true) → fcount b ≤ fcount a ∧ (fcount b = fcount a → a = b)
  | [], [], _, _ => ⟨Nat.le_refl _, fun _ => rfl⟩
  | x :: a, y :: b, hl, h => by
    obtain ⟨h1, h2⟩ := fcount_le (a := a) (b := b) (by simpa using hl) fun i hi => by simpa using h (i + 1) (by simpa using hi)
    have h0 := h 0
    unfold fcount at *
    cases x <;> cases y <;> simp at h0 ⊢ <;> first | omega | (refine ⟨by omega, fun e => ?_⟩; first | exact h2 (by omega) | (exfalso; omega))
theorem falses_le : ∀ {m m' : List (List Bool)}, m.length = m'.length → (∀ (w : Nat) (bs bs' : List Bool), m[w]? = some bs → m'[w]? = some bs' → bs.length = bs'.length ∧ ∀ i : Nat, bs[i]? = some true → bs'[i]? = some true) → falses m' ≤ falses m ∧ (falses m' = falses m → m = m')
  | [], [], _, _ => ⟨Nat.le_refl _, fun _ => rfl⟩
  | a :: m, b :: m', hl, h => by
    obtain ⟨h1, h2⟩ := falses_le (m := m) (m' := m') (by simpa using hl) fun w bs bs' e1 e2 => h (w + 1) bs bs' (by simpa using e1) (by simpa using e2)
    obtain ⟨l0, g0⟩ := h 0 a b (by simp) (by simp)
    obtain ⟨k1, k2⟩ := fcount_le l0 g0
    unfold falses at *
    simp only [List.map_cons, List.sum_cons]
    refine ⟨by omega, fun e => ?_⟩
    rw [k2 (by omega), h2 (by omega)]
theorem lk_true {m : List (List Bool)} {w a : Nat} {bs : List Bool} (h : m[w]? = some bs) : bs[a]? = some true ↔ lk m w a = true := by
  unfold lk
  rw [h, Option.bind_some]
  cases bs[a]? with
  | none => simp
  | some b => cases b <;> simp
theorem Fits.less {c : Code} {m m' : List (List Bool)} (f : Fits c m) (f' : Fits c m') (h : LeM m m') (ne : m' ≠ m) : falses m' < falses m := by
  obtain ⟨k1, k2⟩ := falses_le (m := m) (m' := m') (f.1.trans f'.1.symm) fun w bs bs' e1 e2 => by
    have hw : w < c.length := by rw [← f.1]; exact (List.getElem?_eq_some_iff.mp e1).1
    obtain ⟨b1, q1, l1⟩ := f.2 w c[w] (List.getElem?_eq_getElem hw)
    obtain ⟨b2, q2, l2⟩ := f'.2 w c[w] (List.getElem?_eq_getElem hw)
    rw [e1] at q1; cases q1
    rw [e2] at q2; cases q2
    exact ⟨l1.trans l2.symm, fun i hi => (lk_true e2).mpr (h w i ((lk_true e1).mp hi))⟩
  rcases Nat.lt_or_ge (falses m') (falses m) with z | z
  · exact z
  · exact absurd (k2 (by omega)).symm ne
abbrev eBody : MS := (sSeq (sAsg (eLstC aNil) (tgName 3))
  (sSeq (sFor 1000000000 [4, 5] (iEnum (eVar 0)) (tgTup 2 (tgCons (tgName 4) (tgCons (tgName 5) tgNil))) bodyFor)
  (sSeq (sAsg (eBin fNe (eVar 3) (eVar 1)) (tgName 2))
  (sAsg (eFrz (eVar 3)) (tgName 1)))))
theorem body_marks {c : Code} (wf : WF1 c) {m : List (List Bool)} (hf : Fits c m) {cs : CS} {b : Bool} :
    Goes (eBody [some (.d (codeD c)), some (.d (.list (marksD m))), some (.d (.bool b)), none, none, none, none] cs) [3, 4, 5]
      [some (.d (codeD c)), some (.d (.list (marksD (stepM c m)))), some (.d (.bool (!decide (stepM c m = m)))), none, none, none, none] (cs ++ [.dead]) := by
  have hn : ∀ cs : CS, fNe (.c cs.length) (.d (.list (marksD m))) (cs ++ [.lst (marksD (stepM c m))]) = .ok (.d (.bool (!decide (stepM c m = m)))) (cs ++ [.lst (marksD (stepM c m))]) := fun cs => by
    have e := eqvD_seq (okS_marks (m := stepM c m)) (okS_marks (m := m)) (by decide) (by decide) rfl
    rw [eqv_marks] at e
    simp [fNe, toD, e]
  have e0 : codeD c = .tuple (c.map rowsD) := rfl
  have fm := for_marks wf hf (cs := cs) (x2 := some (.d (.bool b)))
  rw [e0] at fm ⊢
  simp [enumF_map, fm, hn, freeze_c]
theorem ended_marks_eq {c : Code} (wf : WF1 c) : ∃ m, f_ended_marks [.d (codeD c)] [] = .ok (.d (.list (marksD m))) [] ∧ Fits c m ∧ ∀ w a, lk m w a = true ↔ Ends c w a := by
  -- the first marks
  have m0 : ∀ x, eLc [5] (iVal (eVar 0)) (tgName 5) tYesM (eLc [6] (iVal (eVar 5)) (tgName 6) tYesM (eC (.bool false))) [some (.d (codeD c)), none, none, none, none, none, none] x = .ok (.d (.list (marksD (c.map fun rs => rs.map fun _ => false)))) x := fun x => by
    rw [eLc_all (fun rs => A.d (rowsD rs)) (fun rs => .list ((rs.map fun _ => false).map .bool)) c (by simp [codeD]) (size_ok (by have := wf.few; omega)) fun rs hrs => ⟨_, rfl, by
      rw [eLc_all (fun r : Row => A.d r.D) (fun r => .bool false) rs (by simp [rowsD]) (size_ok (by have := (wf.rows rs hrs).2; omega)) fun r hr => ⟨_, rfl, by simp⟩]
      simp⟩]
    simp [marksD]
  have z0 : ∀ w a, lk (c.map fun rs => rs.map fun _ => false) w a = false := fun w a => by
    unfold lk
    rw [List.getElem?_map]
    cases q : c[w]? with
    | none => rfl
    | some rs =>
      simp only [Option.map_some, Option.bind_some, List.getElem?_map]
      cases q2 : rs[a]? with
      | none => rfl
      | some r => rfl
  have I0 : Fits c (c.map fun rs => rs.map fun _ => false) ∧ LeM (c.map fun rs => rs.map fun _ => false) (stepM c (c.map fun rs => rs.map fun _ => false)) ∧ Sound c (c.map fun rs => rs.map fun _ => false) ∧ ((true : Bool) = false → stepM c (c.map fun rs => rs.map fun _ => false) = (c.map fun rs => rs.map fun _ => false)) :=
    ⟨⟨by simp, fun w rs h => ⟨rs.map fun _ => false, by simp [h], by simp⟩⟩, (fun w a k => by rw [z0] at k; cases k), (fun w a k => by rw [z0] at k; cases k), (fun e => by cases e)⟩
  obtain ⟨⟨m, b, cs⟩, k1, ⟨i1, i2, i3, i4⟩, k3⟩ := while_inv (t := tTr (eVar 2)) (body := eBody) (fg := [3, 4, 5]) (fun s : List (List Bool) × Bool × CS => [some (.d (codeD c)), some (.d (.list (marksD s.1))), some (.d (.bool s.2.1)), none, none, none, none]) (fun s => s.2.2)
    (fun s => Fits c s.1 ∧ LeM s.1 (stepM c s.1) ∧ Sound c s.1 ∧ (s.2.1 = false → stepM c s.1 = s.1)) (fun s => falses s.1 + (if s.2.1 = true then 1 else 0))
    (fun ⟨m, b, cs⟩ ⟨i1, i2, i3, i4⟩ => by
      cases b with
      | false => exact .inl (by simp)
      | true =>
        refine .inr ⟨by simp, ⟨stepM c m, !decide (stepM c m = m), cs ++ [.dead]⟩, body_marks wf i1, ⟨Fits.step, i2.step, i3.step, fun e => ?_⟩, ?_⟩
        · have e' : stepM c m = m := by simpa using e
          show stepM c (stepM c m) = stepM c m
          rw [e', e']
        · show falses (stepM c m) + (if (!decide (stepM c m = m)) = true then 1 else 0) < falses m + 1
          by_cases e : stepM c m = m
          · simp [e]
          · have := i1.less Fits.step i2 e
            simp [e]; omega)
    1000000000 (c.map fun rs => rs.map fun _ => false, true, []) (by
      show falses (c.map fun rs => rs.map fun _ => false) + 1 < 1000000000
      have k : ∀ c : Code, (∀ rs ∈ c, rs.length ≤ 1000) → falses (c.map fun rs => rs.map fun _ => false) ≤ 1000 * c.length := fun c => by
        induction c with
        | nil => intro _; simp [falses]
        | cons rs c ih =>
          intro h
          have h1 := ih fun r hr => h r (List.mem_cons_of_mem _ hr)
          have h2 := h rs List.mem_cons_self
          have h3 : fcount (rs.map fun _ => false) ≤ rs.length := by unfold fcount; exact Nat.le_trans (List.length_filter_le _ _) (by simp)
          unfold falses at *
          simp only [List.map_cons, List.sum_cons, List.length_cons]
          omega
      have := k c fun rs h => (wf.rows rs h).2
      have := wf.few
      omega) I0
  have hb : b = false := by
    have : tTr (eVar 2) [some (.d (codeD c)), some (.d (.list (marksD m))), some (.d (.bool b)), none, none, none, none] cs = .ok b cs := by simp
    have k3' : tTr (eVar 2) [some (.d (codeD c)), some (.d (.list (marksD m))), some (.d (.bool b)), none, none, none, none] cs = .ok false cs := k3
    rw [this] at k3'
    injection k3'
  refine ⟨m, ?_, i1, fun w a => ⟨i3 w a, complete (i4 hb)⟩⟩
  simp only [f_ended_marks, runBody, m_ended_marks]
  simp [m0]
  rw [k1]
  simp
end K09
namespace K09
open Sh PySem L2
noncomputable def endB (c : Code) (w a : Nat) : Bool := @decide (Ends c w a) (Classical.propDecidable _)
theorem endB_iff {c : Code} {w a : Nat} : endB c w a = true ↔ Ends c w a := @decide_eq_true_iff _ (Classical.propDecidable _)
theorem lk_end {c : Code} {m : List (List Bool)} (h : ∀ w a, lk m w a = true ↔ Ends c w a) (w a : Nat) : lk m w a = endB c w a := by
  rw [Bool.eq_iff_iff, h, endB_iff]
/-! ### ended_rows, lost_procedures -/
theorem zip_filter {bs : List Bool} {P : Nat → Bool} (h : ∀ i b, bs[i]? = some b → b = P i) : ((bs.zipIdx.filter (·.1)).map (·.2)) = (List.range bs.length).filter P := by
  have e : bs.zipIdx = (List.range bs.length).map fun i => (P i, i) := by
    apply List.ext_getElem?
    intro i
    rw [List.getElem?_zipIdx, List.getElem?_map, Nat.zero_add]
    by_cases hi : i < bs.length
    · rw [List.getElem?_range hi, List.getElem?_eq_getElem hi]
      simp [h i bs[i] (List.getElem?_eq_getElem hi)]
    · rw [List.getElem?_eq_none (by omega), List.getElem?_eq_none (by simp; omega)]; rfl
  rw [e, List.filter_map, List.map_map]
  simp [Function.comp_def]
noncomputable def endedL (c : Code) : List PyData := c.zipIdx.map fun p => .tuple (nsD ((List.range p.1.length).filter (endB c p.2)))
theorem ended_rows_eq {c : Code} (wf : WF1 c) : f_ended_rows [.d (codeD c)] [] = .ok (.d (.tuple (endedL c))) [] := by
  obtain ⟨m, h1, h2, h3⟩ := ended_marks_eq wf
  have hin : ∀ bs ∈ m, eLc [2, 3] (iEnum (eVar 1)) (tgTup 2 (tgCons (tgName 2) (tgCons (tgName 3) tgNil))) (tTr (eVar 3)) (eVar 2) [some (.d (codeD c)), some (.d (.list (bs.map .bool))), none, none] [] = .ok (.d (.list (nsD ((bs.zipIdx.filter (·.1)).map (·.2))))) [] := fun bs hbs => by
    obtain ⟨w, hw⟩ := List.getElem?_of_mem hbs
    have hwl := (List.getElem?_eq_some_iff.mp hw).1
    rw [h2.1] at hwl
    obtain ⟨bs', e1, e2⟩ := h2.2 w c[w] (List.getElem?_eq_getElem hwl)
    rw [hw] at e1; cases e1
    have := (wf.rows c[w] (List.getElem_mem hwl)).2
    rw [eLc_map (fun p : Bool × Nat => A.d (.tuple [.int (p.2 : Nat), .bool p.1])) (fun p => p.1) (fun p => .int (p.2 : Nat)) bs.zipIdx (by simp [enumF_map]) (size_ok (by simp; omega)) fun p hp => ⟨_, rfl, by simp, fun _ => by simp⟩]
    simp [nsD]
  have hout := eLc_all (fr := [1]) (src := iVal (eCall 1 (plainF (f_ended_marks)) (aCons (eVar 0) aNil))) (tg := tgName 1) (e := eFn fTuple (aCons (eLc [2, 3] (iEnum (eVar 1)) (tgTup 2 (tgCons (tgName 2) (tgCons (tgName 3) tgNil))) (tTr (eVar 3)) (eVar 2)) aNil))
    (env := [some (.d (codeD c)), none, none, none]) (cs := []) (fun bs : List Bool => A.d (.list (bs.map .bool))) (fun bs => .tuple (nsD ((bs.zipIdx.filter (·.1)).map (·.2)))) m (by simp [plainF_nil _ h1, marksD]) (size_ok (by have := wf.few; have := h2.1; omega)) fun bs hbs => ⟨_, rfl, by
      have := hin bs hbs
      simp [this]⟩
  have e : (m.map fun bs => PyData.tuple (nsD ((bs.zipIdx.filter (·.1)).map (·.2)))) = endedL c := by
    apply List.ext_getElem?
    intro w
    rw [List.getElem?_map, endedL, List.getElem?_map, List.getElem?_zipIdx, Nat.zero_add]
    by_cases hw : w < c.length
    · obtain ⟨bs, e1, e2⟩ := h2.2 w c[w] (List.getElem?_eq_getElem hw)
      rw [e1, List.getElem?_eq_getElem hw]
      simp only [Option.map_some]
      rw [zip_filter (P := endB c w) (fun i b hb => by rw [← lk_end h3]; unfold lk; rw [e1, Option.bind_some, hb]; rfl), e2]
    · rw [List.getElem?_eq_none (by have := h2.1; omega), List.getElem?_eq_none (by omega)]; rfl
  rw [e] at hout
  simp [f_ended_rows, runBody, m_ended_rows, hout]
noncomputable def lostL (c : Code) : List PyData := nsD ((List.range c.length).filter fun w => !endB c w 0)
theorem lost_eq {c : Code} (wf : WF1 c) : f_lost_procedures [.d (codeD c)] [] = .ok (.d (.tuple (lostL c))) [] := by
  obtain ⟨m, h1, h2, h3⟩ := ended_marks_eq wf
  have hc := eLc_map (fr := [1, 2]) (src := iEnum (eCall 1 (plainF (f_ended_marks)) (aCons (eVar 0) aNil))) (tg := tgTup 2 (tgCons (tgName 1) (tgCons (tgName 2) tgNil))) (t := tNotM (tTr (eBin fIx (eVar 2) (eC (.int 0))))) (e := eVar 1)
    (env := [some (.d (codeD c)), none, none]) (cs := []) (fun p : List Bool × Nat => A.d (.tuple [.int (p.2 : Nat), .list (p.1.map .bool)])) (fun p => !lk m p.2 0) (fun p => .int (p.2 : Nat)) m.zipIdx (by simp [plainF_nil _ h1, marksD, enumF_map]) (size_ok (by have := wf.few; have := h2.1; simp; omega)) fun p hp => by
      have hp' := mem_zip hp
      have hwl := (List.getElem?_eq_some_iff.mp hp').1
      rw [h2.1] at hwl
      obtain ⟨bs', e1, e2⟩ := h2.2 p.2 c[p.2] (List.getElem?_eq_getElem hwl)
      rw [hp'] at e1; cases e1
      have hr := (wf.rows c[p.2] (List.getElem_mem hwl)).1
      have h0 : fIx (.d (.list (p.1.map .bool))) (.d (.int 0)) [] = .ok (.d (.bool (lk m p.2 0))) [] := fIx_lst (atI_nat (j := 0) (by rw [List.getElem?_map, lk_get hp' (by omega)]; rfl))
      exact ⟨_, rfl, by simp [h0], fun _ => by simp⟩
  have e : ((m.zipIdx.filter fun p => !lk m p.2 0).map fun p => PyData.int (p.2 : Nat)) = lostL c := by
    have hz : m.zipIdx.map (·.2) = List.range c.length := by rw [← h2.1, List.zipIdx_map_snd]; simp [List.range_eq_range']
    have k1 : ((m.zipIdx.filter fun p => !lk m p.2 0).map fun p => PyData.int (p.2 : Nat)) = nsD ((m.zipIdx.map (·.2)).filter fun w => !lk m w 0) := by
      rw [List.filter_map, nsD, List.map_map]; rfl
    rw [k1, hz, lostL]
    congr 1
    exact List.filter_congr fun w _ => by rw [lk_end h3]
  rw [e] at hc
  simp [f_lost_procedures, runBody, m_lost_procedures, hc]
end K09
namespace K09
open Sh PySem L2
/-! ### met_by -/
noncomputable def ways (c : Code) (w a : Nat) : List Nat := match rowAt c w a with
  | some (.call p n) => if endB c p 0 = true then [n] else []
  | some r => r.nexts
  | none => []
theorem row_of {c : Code} {w a : Nat} {r : Row} (h : rowAt c w a = some r) : ∃ rs, c[w]? = some rs ∧ rs[a]? = some r := by
  unfold rowAt at h
  cases q : c[w]? with
  | none => rw [q] at h; cases h
  | some rs => rw [q] at h; exact ⟨rs, rfl, h⟩
theorem fIx_code {c : Code} {w : Nat} {rs : List Row} {cs : CS} (h : c[w]? = some rs) : fIx (.d (codeD c)) (.d (.int (w : Int))) cs = .ok (.d (rowsD rs)) cs := fIx_tn (by rw [List.getElem?_map, h]; rfl)
theorem fIx_rows {rs : List Row} {a : Nat} {r : Row} {cs : CS} (h : rs[a]? = some r) : fIx (.d (rowsD rs)) (.d (.int (a : Int))) cs = .ok (.d r.D) cs := fIx_tn (by rw [List.getElem?_map, h]; rfl)
theorem fIx_marks {m : List (List Bool)} {w : Nat} {bs : List Bool} {cs : CS} (h : m[w]? = some bs) : fIx (.d (.list (marksD m))) (.d (.int (w : Int))) cs = .ok (.d (.list (bs.map .bool))) cs := fIx_ln (by rw [marksD, List.getElem?_map, h]; rfl)
theorem fIx_bools {bs : List Bool} {a : Nat} {b : Bool} {cs : CS} (h : bs[a]? = some b) : fIx (.d (.list (bs.map .bool))) (.d (.int (a : Int))) cs = .ok (.d (.bool b)) cs := fIx_ln (by rw [List.getElem?_map, h]; rfl)
theorem fIx_bool0 {bs : List Bool} {b : Bool} {cs : CS} (h : bs[0]? = some b) : fIx (.d (.list (bs.map .bool))) (.d (.int 0)) cs = .ok (.d (.bool b)) cs := fIx_bools (a := 0) h
section
variable {c : Code} (wf : WF1 c) {m : List (List Bool)} (hf : Fits c m) (hm : ∀ w a, lk m w a = true ↔ Ends c w a)
include wf hf hm
theorem mark_at {w a : Nat} {rs : List Row} (hw : c[w]? = some rs) (ha : a < rs.length) : ∃ bs, m[w]? = some bs ∧ bs[a]? = some (endB c w a) := by
  obtain ⟨bs, e1, e2⟩ := hf.2 w rs hw
  exact ⟨bs, e1, by rw [← lk_end hm]; exact lk_get e1 (by omega)⟩
theorem ways_on_eq {w a : Nat} {r : Row} (h : rowAt c w a = some r) : f_ways_on [.d (codeD c), .d (.list (marksD m)), .d (.int (w : Int)), .d (.int (a : Int))] [] = .ok (.d (.tuple (nsD (ways c w a)))) [] := by
  obtain ⟨rs, h1, h2⟩ := row_of h
  have k1 := fIx_code (cs := []) h1
  have k2 := fIx_rows (cs := []) h2
  have k3 := plainF_nil (F := f_nexts_of) (xs := [.d r.D]) rfl (nexts_eq r)
  unfold ways
  rw [h]
  cases r with
  | call p n =>
    have hp := wf.call rs (List.mem_of_getElem? h1) _ (List.mem_of_getElem? h2) p n rfl
    obtain ⟨bs, e1, e2⟩ := mark_at wf hf hm (List.getElem?_eq_getElem hp) (wf.rows c[p] (List.getElem_mem hp)).1
    have k4 := fIx_marks (cs := []) e1
    have k5 := fIx_bool0 (cs := []) e2
    simp only [Row.D] at k1 k2 k3
    cases q : endB c p 0 <;> simp [f_ways_on, runBody, m_ways_on, k1, k2, k3, k4, k5, q, Row.nexts]
  | ret => simp only [Row.D] at k1 k2 k3; simp [f_ways_on, runBody, m_ways_on, k1, k2, k3, Row.nexts]
  | deed x n => simp only [Row.D] at k1 k2 k3; simp [f_ways_on, runBody, m_ways_on, k1, k2, k3, Row.nexts]
  | choose ws => simp only [Row.D] at k1 k2 k3; simp [f_ways_on, runBody, m_ways_on, k1, k2, k3, Row.nexts]
omit hf hm in
theorem ways_lt {w a : Nat} {rs : List Row} (hw : c[w]? = some rs) {y : Nat} (h : y ∈ ways c w a) : y < rs.length := by
  have hrs := List.mem_of_getElem? hw
  unfold ways rowAt at h
  rw [hw, Option.bind_some] at h
  cases q : rs[a]? with
  | none => rw [q] at h; cases h
  | some r =>
    rw [q] at h
    have hn := (wf.next rs hrs r (List.mem_of_getElem? q)).2
    cases r with
    | call p n =>
      simp only at h
      split at h
      · exact hn y h
      · cases h
    | ret => exact hn y h
    | deed x n => exact hn y h
    | choose ws => exact hn y h
omit hf hm in
theorem ways_few {w a : Nat} : (ways c w a).length ≤ 1000 := by
  unfold ways
  cases q : rowAt c w a with
  | none => simp
  | some r =>
    obtain ⟨rs, h1, h2⟩ := row_of q
    have hn := (wf.next rs (List.mem_of_getElem? h1) r (List.mem_of_getElem? h2)).1
    cases r with
    | call p n => simp only; split <;> simp
    | ret => exact hn
    | deed x n => exact hn
    | choose ws => exact hn
abbrev Met (c : Code) (w : Nat) : Nat → Prop := Reach (ways c w) 0
abbrev addBody : MS := sIf (tOf (eBin (fIn true) (eVar 5) (eVar 3)))
  (sDrop (eMeth "list" mAppend (eVar 3) (aCons (eVar 5) aNil)))
  sNext
theorem met_by_eq {w : Nat} {rs : List Row} (hw : c[w]? = some rs) : ∃ l, f_met_by [.d (codeD c), .d (.list (marksD m)), .d (.int (w : Int))] [] = .ok (.d (.list (nsD l))) [] ∧ l.Nodup ∧ ∀ a, a ∈ l ↔ Met c w a := by
  have hrs := wf.rows rs (List.mem_of_getElem? hw)
  obtain ⟨⟨f, pl⟩, k1, k2, k3⟩ := while_inv (t := tOf (eBin fLt (eVar 4) (eFn fLen (aCons (eVar 3) aNil))))
    (body := sSeq (sFor 1000000000 [5] (iVal (eCall 4 (plainF (f_ways_on)) (aCons (eVar 0) (aCons (eVar 1) (aCons (eVar 2) (aCons (eBin fIx (eVar 3) (eVar 4)) aNil)))))) (tgName 5) addBody) (sAug 4 fAddI (eC (.int 1)))) (fg := [5])
    (fun s : List Nat × Nat => [some (.d (codeD c)), some (.d (.list (marksD m))), some (.d (.int (w : Int))), some (.c 0), some (.d (.int (s.2 : Nat))), none]) (fun s => [.lst (nsD s.1)])
    (fun s => WInv (ways c w) rs.length 0 s.1 s.2) (fun s => rs.length - s.2)
    (fun ⟨f, pl⟩ I => by
      have hl : f.length ≤ rs.length := I.len
      by_cases hp : pl < f.length
      · refine .inr ⟨by simp [fLen, lenA]; omega, ⟨addAll f (ways c w f[pl]), pl + 1⟩, ?_, I.step (List.getElem?_eq_getElem hp) fun y hy => ways_lt wf hw hy, ?_⟩
        · have hx : f[pl] < rs.length := (I.ok _ (List.getElem_mem hp)).2
          have hro : rowAt c w f[pl] = some rs[f[pl]] := by unfold rowAt; rw [hw, Option.bind_some, List.getElem?_eq_getElem hx]
          have e1 : ∀ cs, plainF f_ways_on [.d (codeD c), .d (.list (marksD m)), .d (.int (w : Int)), .d (.int (f[pl] : Nat))] cs = .ok (.d (.tuple (nsD (ways c w f[pl])))) cs := fun cs => plainF_ok rfl (ways_on_eq wf hf hm hro)
          have e2 : fIx (.c 0) (.d (.int (pl : Int))) [.lst (nsD f)] = .ok (.d (.int (f[pl] : Nat))) [.lst (nsD f)] := fIx_cn rfl (nsD_get (List.getElem?_eq_getElem hp))
          have e3 := forIt_add (tg := tgName 5) (body := addBody) (fg := [5]) (env := [some (.d (codeD c)), some (.d (.list (marksD m))), some (.d (.int (w : Int))), some (.c 0), some (.d (.int (pl : Nat))), none]) (cs := []) (fun n f hf => by
            have e4 : fIn true (.d (.int (n : Int))) (.c 0) [.lst (nsD f)] = .ok (.d (.bool (!decide (n ∈ f)))) [.lst (nsD f)] := fIn_c (neg := true) rfl
            unfold addN
            by_cases hn : n ∈ f
            · simp [e4, hn]
            · simp [e4, hn, tyA, mAppend, onC, hf]) (ways c w f[pl]) f (by have := ways_few wf (w := w) (a := f[pl]); have := hrs.2; exact size_lt (by omega))
          simp only [List.nil_append] at e3
          simp [e1, e2, e3]
        · show rs.length - (pl + 1) < rs.length - pl
          omega
      · exact .inl (by simp [fLen, lenA]; omega))
    1000000000 ([0], 0) (by show rs.length - 0 < 1000000000; omega) (.start hrs.1)
  have hp : f.length ≤ pl := by
    have : tOf (eBin fLt (eVar 4) (eFn fLen (aCons (eVar 3) aNil))) [some (.d (codeD c)), some (.d (.list (marksD m))), some (.d (.int (w : Int))), some (.c 0), some (.d (.int (pl : Nat))), none] [.lst (nsD f)] = .ok (decide (pl < f.length)) [.lst (nsD f)] := by simp [fLen, lenA]
    have k3' : tOf (eBin fLt (eVar 4) (eFn fLen (aCons (eVar 3) aNil))) [some (.d (codeD c)), some (.d (.list (marksD m))), some (.d (.int (w : Int))), some (.c 0), some (.d (.int (pl : Nat))), none] [.lst (nsD f)] = .ok false [.lst (nsD f)] := k3
    rw [this] at k3'
    have e : decide (pl < f.length) = false := by injection k3'
    simp at e; exact e
  refine ⟨f, ?_, k2.nd, fun a => k2.done hp a⟩
  simp [f_met_by, runBody, m_met_by]
  have k1' : whileN _ _ _ _ [some (.d (codeD c)), some (.d (.list (marksD m))), some (.d (.int (w : Int))), some (.c 0), some (.d (.int 0)), none] [.lst [.int 0]] = _ := k1
  rw [k1']
  simp [freeze]
end
end K09
namespace K09
open Sh PySem L2
noncomputable def metB (c : Code) (w a : Nat) : Bool := @decide (Met c w a) (Classical.propDecidable _)
theorem metB_iff {c : Code} {w a : Nat} : metB c w a = true ↔ Met c w a := @decide_eq_true_iff _ (Classical.propDecidable _)
theorem met_lt {c : Code} (wf : WF1 c) {w : Nat} {rs : List Row} (hw : c[w]? = some rs) {a : Nat} (h : Met c w a) : a < rs.length := by
  induction h with
  | here => exact (wf.rows rs (List.mem_of_getElem? hw)).1
  | next _ hb _ => exact ways_lt wf hw hb
noncomputable def metL (c : Code) (w : Nat) : List Nat := (List.range ((c[w]?.map List.length).getD 0)).filter (metB c w)
theorem metL_mem {c : Code} (wf : WF1 c) {w : Nat} {rs : List Row} (hw : c[w]? = some rs) {a : Nat} : a ∈ metL c w ↔ Met c w a := by
  unfold metL
  rw [hw, List.mem_filter, List.mem_range, metB_iff]
  exact ⟨fun h => h.2, fun h => ⟨met_lt wf hw h, h⟩⟩
theorem met_rows_eq {c : Code} (wf : WF1 c) {w : Nat} {rs : List Row} (hw : c[w]? = some rs) : f_met_rows [.d (codeD c), .d (.int (w : Int))] [] = .ok (.d (.tuple (nsD (metL c w)))) [] := by
  obtain ⟨m, h1, hf, hm⟩ := ended_marks_eq wf
  obtain ⟨l, h2, h3, h4⟩ := met_by_eq wf hf hm hw
  have e : fSorted [.d (.list (nsD l))] [] = .ok (.d (.list (nsD (metL c w)))) [] := by
    unfold metL
    rw [hw]
    exact fSorted_n h3 (metB c w) fun x => by rw [h4, metB_iff]; exact ⟨fun h => ⟨h, met_lt wf hw h⟩, fun h => h.1⟩
  simp [f_met_rows, runBody, m_met_rows, plainF_nil _ h1, plainF_nil _ h2, e]
/-! ### needed_by -/
noncomputable def cand (c : Code) (p a : Nat) : Option Nat := match rowAt c p a with
  | some (.call q _) => if endB c p a = true then some q else none
  | _ => none
noncomputable def callees (c : Code) (p : Nat) : List Nat := (metL c p).filterMap (cand c p)
theorem cand_lt {c : Code} (wf : WF1 c) {p a q : Nat} (h : cand c p a = some q) : q < c.length := by
  unfold cand at h
  split at h
  · rename_i q' n hr
    split at h
    · cases h
      obtain ⟨rs, h1, h2⟩ := row_of hr
      exact wf.call rs (List.mem_of_getElem? h1) _ (List.mem_of_getElem? h2) q n rfl
    · cases h
  · cases h
theorem callees_lt {c : Code} (wf : WF1 c) {p q : Nat} (h : q ∈ callees c p) : q < c.length := by
  obtain ⟨a, _, h2⟩ := List.mem_filterMap.mp h
  exact cand_lt wf h2
abbrev Need (c : Code) (p : Nat) : Nat → Prop := Reach (callees c) p
section
variable {c : Code} (wf : WF1 c) {m : List (List Bool)} (hf : Fits c m) (hm : ∀ w a, lk m w a = true ↔ Ends c w a)
include wf hf hm
abbrev nBody : MS := (sSeq (sAsg (eBin fIx (eBin fIx (eVar 0) (eBin fIx (eVar 3) (eVar 4))) (eVar 5)) (tgName 6))
  (sIf (tAndM (tOf (eBin fEq (eBin fIx (eVar 6) (eC (.int 0))) (eC (.str "call")))) (tAndM (tTr (eBin fIx (eBin fIx (eVar 1) (eBin fIx (eVar 3) (eVar 4))) (eVar 5))) (tOf (eBin (fIn true) (eBin fIx (eVar 6) (eC (.int 1))) (eVar 3)))))
  (sDrop (eMeth "list" mAppend (eVar 3) (aCons (eBin fIx (eVar 6) (eC (.int 1))) aNil)))
  sNext))
theorem n_turn {p a pl s : Nat} {rs : List Row} (hp : c[p]? = some rs) (ha : a < rs.length) {f : List Nat} (hx : f[pl]? = some p) (hl : f.length < sizeLine) :
    Goes (turn (tgName 5) nBody (.d (.int (a : Int))) [some (.d (codeD c)), some (.d (.list (marksD m))), some (.d (.int (s : Int))), some (.c 0), some (.d (.int (pl : Nat))), none, none] [.lst (nsD f)]) [6, 5]
      [some (.d (codeD c)), some (.d (.list (marksD m))), some (.d (.int (s : Int))), some (.c 0), some (.d (.int (pl : Nat))), none, none] [.lst (nsD (addO f (cand c p a)))] := by
  have e1 : fIx (.c 0) (.d (.int (pl : Int))) [.lst (nsD f)] = .ok (.d (.int (p : Nat))) [.lst (nsD f)] := fIx_cn rfl (nsD_get hx)
  have e2 := fIx_code (cs := [.lst (nsD f)]) hp
  have e3 := fIx_rows (cs := [.lst (nsD f)]) (List.getElem?_eq_getElem ha)
  obtain ⟨bs, m1, m2⟩ := mark_at wf hf hm hp ha
  have e4 := fIx_marks (cs := [.lst (nsD f)]) m1
  have e5 := fIx_bools (cs := [.lst (nsD f)]) m2
  have hro : rowAt c p a = some rs[a] := by unfold rowAt; rw [hp, Option.bind_some, List.getElem?_eq_getElem ha]
  have e6 : ∀ q : Nat, fIn true (.d (.int (q : Int))) (.c 0) [.lst (nsD f)] = .ok (.d (.bool (!decide (q ∈ f)))) [.lst (nsD f)] := fun q => fIn_c (neg := true) rfl
  unfold cand
  rw [hro]
  generalize rs[a] = r at e3
  cases r with
  | call q n =>
    simp only [Row.D] at e3
    cases hq : endB c p a with
    | false =>
      rw [hq] at e5
      simp [e1, e2, e3, e4, e5, addO]
    | true =>
      rw [hq] at e5
      by_cases hn : q ∈ f
      · simp [e1, e2, e3, e4, e5, e6, addO, addN, hn]
      · simp [e1, e2, e3, e4, e5, e6, addO, addN, hn, tyA, mAppend, onC, hl]
  | ret => simp only [Row.D] at e3; simp [e1, e2, e3, addO]
  | deed x n => simp only [Row.D] at e3; simp [e1, e2, e3, addO]
  | choose ws => simp only [Row.D] at e3; simp [e1, e2, e3, addO]
theorem needed_by_eq {s : Nat} (hs : s < c.length) : ∃ l, f_needed_by [.d (codeD c), .d (.list (marksD m)), .d (.int (s : Int))] [] = .ok (.d (.list (nsD l))) [] ∧ l.Nodup ∧ ∀ a, a ∈ l ↔ Need c s a := by
  have hfew := wf.few
  obtain ⟨⟨f, pl⟩, k1, k2, k3⟩ := while_inv (t := tOf (eBin fLt (eVar 4) (eFn fLen (aCons (eVar 3) aNil))))
    (body := sSeq (sFor 1000000000 [6, 5] (iVal (eCall 3 (plainF (f_met_by)) (aCons (eVar 0) (aCons (eVar 1) (aCons (eBin fIx (eVar 3) (eVar 4)) aNil))))) (tgName 5) nBody) (sAug 4 fAddI (eC (.int 1)))) (fg := [5, 6])
    (fun s' : List Nat × Nat => [some (.d (codeD c)), some (.d (.list (marksD m))), some (.d (.int (s : Int))), some (.c 0), some (.d (.int (s'.2 : Nat))), none, none]) (fun s => [.lst (nsD s.1)])
    (fun s' => WInv (callees c) c.length s s'.1 s'.2) (fun s => c.length - s.2)
    (fun ⟨f, pl⟩ I => by
      have hl : f.length ≤ c.length := I.len
      by_cases hp : pl < f.length
      · have hx : f[pl] < c.length := (I.ok _ (List.getElem_mem hp)).2
        obtain ⟨l, l1, l2, l3⟩ := met_by_eq wf hf hm (List.getElem?_eq_getElem hx)
        have hrl := (wf.rows _ (List.getElem_mem hx)).2
        have hll : l.length ≤ 1000 := Nat.le_trans (nodup_len l2 fun a ha => met_lt wf (List.getElem?_eq_getElem hx) ((l3 a).mp ha)) hrl
        refine .inr ⟨by simp [fLen, lenA]; omega, ⟨addAll f (l.filterMap (cand c f[pl])), pl + 1⟩, ?_, I.step' (List.getElem?_eq_getElem hp) (fun y => ?_) fun y hy => callees_lt wf hy, ?_⟩
        · have e1 : ∀ cs, plainF f_met_by [.d (codeD c), .d (.list (marksD m)), .d (.int (f[pl] : Nat))] cs = .ok (.d (.list (nsD l))) cs := fun cs => plainF_ok rfl l1
          have e2 : fIx (.c 0) (.d (.int (pl : Int))) [.lst (nsD f)] = .ok (.d (.int (f[pl] : Nat))) [.lst (nsD f)] := fIx_cn rfl (nsD_get (List.getElem?_eq_getElem hp))
          have e3 := forIt_opt (tg := tgName 5) (body := nBody) (fg := [6, 5]) (env := [some (.d (codeD c)), some (.d (.list (marksD m))), some (.d (.int (s : Int))), some (.c 0), some (.d (.int (pl : Nat))), none, none]) (cs := []) (cand c f[pl]) f l f
            (fun a ha e he => n_turn wf hf hm (List.getElem?_eq_getElem hx) (met_lt wf (List.getElem?_eq_getElem hx) ((l3 a).mp ha)) (by rw [List.getElem?_append_left hp, List.getElem?_eq_getElem hp]) he) ⟨[], by simp⟩ (size_lt (by omega))
          simp only [List.nil_append] at e3
          simp [e1, e2, e3]
        · rw [callees, List.mem_filterMap, List.mem_filterMap]
          exact ⟨fun ⟨a, h1, h2⟩ => ⟨a, (metL_mem wf (List.getElem?_eq_getElem hx)).mpr ((l3 a).mp h1), h2⟩, fun ⟨a, h1, h2⟩ => ⟨a, (l3 a).mpr ((metL_mem wf (List.getElem?_eq_getElem hx)).mp h1), h2⟩⟩
        · show c.length - (pl + 1) < c.length - pl
          omega
      · exact .inl (by simp [fLen, lenA]; omega))
    1000000000 ([s], 0) (by show c.length - 0 < 1000000000; omega) (.start hs)
  have hp : f.length ≤ pl := by
    have : tOf (eBin fLt (eVar 4) (eFn fLen (aCons (eVar 3) aNil))) [some (.d (codeD c)), some (.d (.list (marksD m))), some (.d (.int (s : Int))), some (.c 0), some (.d (.int (pl : Nat))), none, none] [.lst (nsD f)] = .ok (decide (pl < f.length)) [.lst (nsD f)] := by simp [fLen, lenA]
    have k3' : tOf (eBin fLt (eVar 4) (eFn fLen (aCons (eVar 3) aNil))) [some (.d (codeD c)), some (.d (.list (marksD m))), some (.d (.int (s : Int))), some (.c 0), some (.d (.int (pl : Nat))), none, none] [.lst (nsD f)] = .ok false [.lst (nsD f)] := k3
    rw [this] at k3'
    have e : decide (pl < f.length) = false := by injection k3'
    simp at e; exact e
  refine ⟨f, ?_, k2.nd, fun a => k2.done hp a⟩
  simp [f_needed_by, runBody, m_needed_by]
  have k1' : whileN _ _ _ _ [some (.d (codeD c)), some (.d (.list (marksD m))), some (.d (.int (s : Int))), some (.c 0), some (.d (.int 0)), none, none] [.lst [.int (s : Int)]] = _ := k1
  rw [k1']
  simp [freeze]
end
noncomputable def needB (c : Code) (w a : Nat) : Bool := @decide (Need c w a) (Classical.propDecidable _)
theorem needB_iff {c : Code} {w a : Nat} : needB c w a = true ↔ Need c w a := @decide_eq_true_iff _ (Classical.propDecidable _)
noncomputable def needL (c : Code) (w : Nat) : List Nat := (List.range c.length).filter (needB c w)
theorem need_lt {c : Code} (wf : WF1 c) {w : Nat} (hw : w < c.length) {a : Nat} (h : Need c w a) : a < c.length := by
  cases h with
  | here => exact hw
  | next _ hb => exact callees_lt wf hb
theorem needed_eq {c : Code} (wf : WF1 c) {w : Nat} (hw : w < c.length) : f_needed_procedures [.d (codeD c), .d (.int (w : Int))] [] = .ok (.d (.tuple (nsD (needL c w)))) [] := by
  obtain ⟨m, h1, hf, hm⟩ := ended_marks_eq wf
  obtain ⟨l, h2, h3, h4⟩ := needed_by_eq wf hf hm hw
  have e : fSorted [.d (.list (nsD l))] [] = .ok (.d (.list (nsD (needL c w)))) [] :=
    fSorted_n h3 (needB c w) fun x => by rw [h4, needB_iff]; exact ⟨fun h => ⟨h, need_lt wf hw h⟩, fun h => h.1⟩
  simp [f_needed_procedures, runBody, m_needed_procedures, plainF_nil _ h1, plainF_nil _ h2, e]
end K09
namespace K09
open Sh PySem L2
/-! ### the law's own ended rows -/
def dtL (l : List (Nat × Nat)) : List (List Key × PyData) := l.map fun p => ([.inl (p.1 : Int), .inl (p.2 : Int)], .bool true)
theorem getP_dtL {w a : Nat} : ∀ {l : List (Nat × Nat)}, (getP (dtL l) [.inl (w : Int), .inl (a : Int)]).isSome = decide ((w, a) ∈ l)
  | [] => rfl
  | p :: l => by
    have ih := getP_dtL (w := w) (a := a) (l := l)
    have e : ([Sum.inl (p.1 : Int), Sum.inl (p.2 : Int)] : List Key) = [Sum.inl (w : Int), Sum.inl (a : Int)] ↔ (w, a) = p := by
      constructor
      · intro h
        injection h with h1 h2
        injection h1 with h1
        injection h2 with h2 _
        injection h2 with h2
        exact Prod.ext (by show w = p.1; omega) (by show a = p.2; omega)
      · rintro rfl; rfl
    unfold getP dtL at *
    rw [List.map_cons, List.find?_cons]
    by_cases h : (w, a) = p
    · rw [decide_eq_true (e.mpr h)]
      simp [h]
    · rw [decide_eq_false fun z => h (e.mp z)]
      simp only
      rw [ih]
      simp [h]
theorem putP_dtL {w a : Nat} {l : List (Nat × Nat)} (h : (w, a) ∉ l) : putP (dtL l) [.inl (w : Int), .inl (a : Int)] (.bool true) = dtL (l ++ [(w, a)]) := by
  have k := getP_dtL (w := w) (a := a) (l := l)
  rw [decide_eq_false h] at k
  have e : (dtL l).any (fun kv => decide (kv.1 = ([.inl (w : Int), .inl (a : Int)] : List Key))) = false := by
    rw [Bool.eq_false_iff]
    intro z
    obtain ⟨kv, h1, h2⟩ := List.any_eq_true.mp z
    unfold getP at k
    cases q : (dtL l).find? (fun kv => decide (kv.1 = ([.inl (w : Int), .inl (a : Int)] : List Key))) with
    | none => rw [List.find?_eq_none] at q; exact q kv h1 h2
    | some x => rw [q] at k; cases k
  unfold putP
  rw [e, if_neg (by decide)]
  simp [dtL]
theorem tin_dt {cs : CS} {env : Sh.Env} {neg : Bool} {mk : MA} {md : ME} {n w a : Nat} {l : List (Nat × Nat)} (hk : mk env cs = .ok [.d (.int (w : Int)), .d (.int (a : Int))] cs) (hd : md env cs = .ok (.c n) cs) (hc : cs[n]? = some (.dt (dtL l))) :
    eTIn neg mk md env cs = .ok (.d (.bool (if neg then !decide ((w, a) ∈ l) else decide ((w, a) ∈ l)))) cs := by
  unfold eTIn
  have k : keysD [PyData.int (w : Int), PyData.int (a : Int)] = some [.inl (w : Int), .inl (a : Int)] := rfl
  have k2 := getP_dtL (w := w) (a := a) (l := l)
  simp only [hk, hd, allD_d, allD_nil, Option.map_some, dtOf_c hc, k, R.bind_ok]
  rw [if_pos (by simp), k2]
def leads (l : List (Nat × Nat)) (w : Nat) : Row → Bool
  | .ret => true
  | .deed _ n => decide ((w, n) ∈ l)
  | .call p n => decide ((p, 0) ∈ l) && decide ((w, n) ∈ l)
  | .choose ws => ws.any fun n => decide ((w, n) ∈ l)
theorem leads_eq {cs : CS} {n : Nat} {l : List (Nat × Nat)} (hc : cs[n]? = some (.dt (dtL l))) (w : Nat) {r : Row} (hr : r.nexts.length ≤ 1000) : f__law_leads [.d (.tuple [.int (w : Int), r.D]), .c n] cs = .ok (.d (.bool (leads l w r))) cs := by
  cases r with
  | ret => simp [f__law_leads, runBody, m__law_leads, Row.D, leads]
  | deed x k =>
    have e := tin_dt (neg := false) (env := [some (.d (.tuple [.int (w : Int), (Row.deed x k).D])), some (.c n), some (.d (.int (w : Int))), some (.d (Row.deed x k).D), none]) (mk := aCons (eVar 2) (aCons (eBin fIx (eVar 3) (eC (.int 2))) aNil)) (md := eVar 1) (w := w) (a := k) (by simp [Row.D]) (by simp) hc
    simp only [Row.D] at e
    simp [f__law_leads, runBody, m__law_leads, Row.D, leads, e]
  | call p k =>
    have e := tin_dt (neg := false) (env := [some (.d (.tuple [.int (w : Int), (Row.call p k).D])), some (.c n), some (.d (.int (w : Int))), some (.d (Row.call p k).D), none]) (mk := aCons (eVar 2) (aCons (eBin fIx (eVar 3) (eC (.int 2))) aNil)) (md := eVar 1) (w := w) (a := k) (by simp [Row.D]) (by simp) hc
    have e2 := tin_dt (neg := true) (env := [some (.d (.tuple [.int (w : Int), (Row.call p k).D])), some (.c n), some (.d (.int (w : Int))), some (.d (Row.call p k).D), none]) (mk := aCons (eBin fIx (eVar 3) (eC (.int 1))) (aCons (eC (.int 0)) aNil)) (md := eVar 1) (w := p) (a := 0) (by simp [Row.D]) (by simp) hc
    simp only [Row.D] at e e2
    by_cases h : (p, 0) ∈ l
    · simp [f__law_leads, runBody, m__law_leads, Row.D, leads, e, e2, h]
    · simp [f__law_leads, runBody, m__law_leads, Row.D, leads, e, e2, h]
  | choose ws =>
    have e := eLc_map (fr := [4]) (src := iVal (eBin fIx (eVar 3) (eC (.int 1)))) (tg := tgName 4) (t := tOf (eTIn false (aCons (eVar 2) (aCons (eVar 4) aNil)) (eVar 1))) (e := eVar 4)
      (env := [some (.d (.tuple [.int (w : Int), (Row.choose ws).D])), some (.c n), some (.d (.int (w : Int))), some (.d (Row.choose ws).D), none]) (cs := cs) (fun (k : Nat) => A.d (.int (k : Int))) (fun k => decide ((w, k) ∈ l)) (fun (k : Nat) => .int (k : Int)) ws (by simp [Row.D]) (size_ok (by simp only [Row.nexts] at hr; omega)) fun k hk => ⟨_, rfl, by
        have e := tin_dt (neg := false) (env := [some (.d (.tuple [.int (w : Int), (Row.choose ws).D])), some (.c n), some (.d (.int (w : Int))), some (.d (Row.choose ws).D), some (.d (.int (k : Int)))]) (mk := aCons (eVar 2) (aCons (eVar 4) aNil)) (md := eVar 1) (w := w) (a := k) (by simp) (by simp) hc
        simp [e], fun _ => by simp⟩
    simp only [Row.D] at e
    simp [f__law_leads, runBody, m__law_leads, Row.D, leads, e]
    rw [Bool.eq_iff_iff]
    simp
abbrev rBody : MS := (sIf (tAndM (tOf (eTIn true (aCons (eVar 3) (aCons (eVar 4) aNil)) (eVar 1))) (tTr (eCall 2 (f__law_leads) (aCons (eTup (aCons (eVar 3) (aCons (eBin fIx (eBin fIx (eVar 0) (eVar 3)) (eVar 4)) aNil))) (aCons (eVar 1) aNil)))))
  (sSeq (sTPut (eVar 1) (aCons (eVar 3) (aCons (eVar 4) aNil)) (eC (.bool true)))
  (sAsg (eC (.bool true)) (tgName 2)))
  sNext)
def putE (l : List (Nat × Nat)) (g : Bool) (w a : Nat) (r : Row) : List (Nat × Nat) × Bool := if (w, a) ∉ l ∧ leads l w r = true then (l ++ [(w, a)], true) else (l, g)
theorem r_turn {c : Code} (wf : WF1 c) {w a : Nat} {r : Row} (h : rowAt c w a = some r) {l : List (Nat × Nat)} {g : Bool} (hl : l.length < sizeLine) :
    Goes (turn (tgName 4) rBody (.d (.int (a : Int))) [some (.d (codeD c)), some (.c 0), some (.d (.bool g)), some (.d (.int (w : Int))), none] [.dt (dtL l)]) [4]
      [some (.d (codeD c)), some (.c 0), some (.d (.bool (putE l g w a r).2)), some (.d (.int (w : Int))), none] [.dt (dtL (putE l g w a r).1)] := by
  obtain ⟨rs, h1, h2⟩ := row_of h
  have e1 := fIx_code (cs := [.dt (dtL l)]) h1
  have e2 := fIx_rows (cs := [.dt (dtL l)]) h2
  have e3 := tin_dt (neg := true) (n := 0) (cs := [.dt (dtL l)]) (env := [some (.d (codeD c)), some (.c 0), some (.d (.bool g)), some (.d (.int (w : Int))), some (.d (.int (a : Int)))]) (mk := aCons (eVar 3) (aCons (eVar 4) aNil)) (md := eVar 1) (w := w) (a := a) (by simp) (by simp) rfl
  have e4 := leads_eq (cs := [.dt (dtL l)]) (n := 0) rfl w (r := r) (wf.next rs (List.mem_of_getElem? h1) r (List.mem_of_getElem? h2)).1
  unfold putE
  by_cases hm : (w, a) ∈ l
  · simp [e1, e2, e3, e4, hm]
  · cases hq : leads l w r with
    | false =>
      rw [hq] at e4
      simp [e1, e2, e3, e4, hm]
    | true =>
      rw [hq] at e4
      have hlt : (dtL l).length < sizeLine := by simp [dtL, hl]
      have k : keysD [PyData.int (w : Int), PyData.int (a : Int)] = some [.inl (w : Int), .inl (a : Int)] := rfl
      simp [e1, e2, e3, e4, hm, sTPut, dtOf, k, hlt, putP_dtL hm]
/-! the rounds -/
structure JE (c : Code) (l : List (Nat × Nat)) : Prop where
  nd : l.Nodup
  snd : ∀ p ∈ l, Ends c p.1 p.2
theorem leads_ends {c : Code} {l : List (Nat × Nat)} (J : JE c l) {w a : Nat} {r : Row} (h : rowAt c w a = some r) (k : leads l w r = true) : Ends c w a := by
  cases r with
  | ret => exact .ret h
  | deed x n => exact .deed h (J.snd (w, n) (of_decide_eq_true k))
  | call p n =>
    have k2 : (decide ((p, 0) ∈ l) && decide ((w, n) ∈ l)) = true := k
    rw [Bool.and_eq_true] at k2
    exact .call h (J.snd (p, 0) (of_decide_eq_true k2.1)) (J.snd (w, n) (of_decide_eq_true k2.2))
  | choose ws =>
    obtain ⟨n, h1, h2⟩ := List.any_eq_true.mp (show ws.any (fun n => decide ((w, n) ∈ l)) = true from k)
    exact .choose h h1 (J.snd (w, n) (of_decide_eq_true h2))
theorem ends_row {c : Code} {w a : Nat} (h : Ends c w a) : ∃ r, rowAt c w a = some r := by
  cases h with
  | ret q => exact ⟨_, q⟩
  | deed q _ => exact ⟨_, q⟩
  | call q _ _ => exact ⟨_, q⟩
  | choose q _ _ => exact ⟨_, q⟩
theorem JE.len {c : Code} (wf : WF1 c) {l : List (Nat × Nat)} (J : JE c l) : l.length ≤ 1001000 := by
  have hb : ∀ p ∈ l, p.1 < 1000 ∧ p.2 < 1000 := fun p hp => by
    obtain ⟨r, hr⟩ := ends_row (J.snd p hp)
    obtain ⟨rs, h1, h2⟩ := row_of hr
    have := (List.getElem?_eq_some_iff.mp h1).1
    have := (List.getElem?_eq_some_iff.mp h2).1
    have := wf.few
    have := (wf.rows rs (List.mem_of_getElem? h1)).2
    exact ⟨by omega, by omega⟩
  have k := nodup_len (N := 1001000) (l := l.map fun p => p.1 * 1000 + p.2) (by
    rw [List.nodup_iff_pairwise_ne, List.pairwise_map]
    refine J.nd.imp_of_mem fun {p q} hp hq ne e => ne ?_
    obtain ⟨_, h2⟩ := hb p hp
    obtain ⟨_, h4⟩ := hb q hq
    exact Prod.ext (by omega) (by omega)) fun x hx => by
      obtain ⟨p, hp, rfl⟩ := List.mem_map.mp hx
      obtain ⟨h1, h2⟩ := hb p hp
      show p.1 * 1000 + p.2 < 1001000
      omega
  simpa using k
/-- what a place asks in a round that began with l0 -/
def Shut (c : Code) (l0 : List (Nat × Nat)) (w a : Nat) : Prop := ∀ r, rowAt c w a = some r → leads l0 w r = true → (w, a) ∈ l0
structure JR (c : Code) (l0 l : List (Nat × Nat)) (g : Bool) : Prop where
  je : JE c l
  no : g = false → l = l0
  yes : g = true → l0.length < l.length
theorem JR.put {c : Code} {l0 l : List (Nat × Nat)} {g : Bool} (J : JR c l0 l g) {w a : Nat} {r : Row} (h : rowAt c w a = some r) (hle : l0.length ≤ l.length) : JR c l0 (putE l g w a r).1 (putE l g w a r).2 ∧ l.length ≤ (putE l g w a r).1.length ∧ ((putE l g w a r).2 = false → g = false ∧ Shut c l0 w a) := by
  unfold putE
  split
  · rename_i hc
    refine ⟨⟨⟨List.nodup_append.mpr ⟨J.je.nd, by simp, fun x hx y hy => by simp at hy; subst hy; exact fun e => hc.1 (e ▸ hx)⟩, fun p hp => ?_⟩, (fun e => by cases e), fun _ => by simp; omega⟩, by simp, fun e => by cases e⟩
    rcases List.mem_append.mp hp with z | z
    · exact J.je.snd p z
    · simp at z; subst z; exact leads_ends J.je h hc.2
  · rename_i hc
    refine ⟨J, Nat.le_refl _, fun e => ⟨e, fun r' hr' hl => ?_⟩⟩
    rw [h] at hr'; cases hr'
    have e0 := J.no e
    rw [← e0] at hl ⊢
    by_cases hm : (w, a) ∈ l
    · exact hm
    · exact absurd ⟨hm, hl⟩ hc
abbrev rowsBody : MS := (sFor 1000000000 [4] (iRange1 (aCons (eFn fLen (aCons (eBin fIx (eVar 0) (eVar 3)) aNil)) aNil)) (tgName 4) rBody)
theorem rows_turn {c : Code} (wf : WF1 c) {w : Nat} {rs : List Row} (hw : c[w]? = some rs) {l0 l : List (Nat × Nat)} {g : Bool} (J : JR c l0 l g) (hle : l0.length ≤ l.length) :
    ∃ l' g', Goes (turn (tgName 3) rowsBody (.d (.int (w : Int))) [some (.d (codeD c)), some (.c 0), some (.d (.bool g)), none, none] [.dt (dtL l)]) [4, 3] [some (.d (codeD c)), some (.c 0), some (.d (.bool g')), none, none] [.dt (dtL l')] ∧
      JR c l0 l' g' ∧ l0.length ≤ l'.length ∧ (g' = false → g = false ∧ ∀ a, a < rs.length → Shut c l0 w a) := by
  have hrs := wf.rows rs (List.mem_of_getElem? hw)
  obtain ⟨⟨l', g'⟩, k1, k2, k3, k4, k5⟩ := forIt_inv (tg := tgName 4) (body := rBody) (fg := [4]) (fun (n : Nat) => A.d (.int (n : Int))) (fun s : List (Nat × Nat) × Bool => [some (.d (codeD c)), some (.c 0), some (.d (.bool s.2)), some (.d (.int (w : Int))), none]) (fun s => [.dt (dtL s.1)])
    (fun rest s => JR c l0 s.1 s.2 ∧ l0.length ≤ s.1.length ∧ (∀ a ∈ rest, a < rs.length) ∧ (s.2 = false → g = false ∧ ∀ a, a < rs.length → a ∉ rest → Shut c l0 w a))
    (fun a rest s ⟨j1, j2, j3, j4⟩ => by
      have ha := j3 a List.mem_cons_self
      have hro : rowAt c w a = some rs[a] := by unfold rowAt; rw [hw, Option.bind_some, List.getElem?_eq_getElem ha]
      obtain ⟨q1, q2, q3⟩ := j1.put hro j2
      refine ⟨putE s.1 s.2 w a rs[a], ⟨q1, by omega, fun b hb => j3 b (List.mem_cons_of_mem _ hb), fun e => ?_⟩, r_turn wf hro (by have := j1.je.len wf; rw [sizeLine_eq]; omega)⟩
      obtain ⟨e1, e2⟩ := q3 e
      obtain ⟨e3, e4⟩ := j4 e1
      refine ⟨e3, fun b hb hn => ?_⟩
      by_cases hba : b = a
      · subst hba; exact e2
      · exact e4 b hb fun z => (List.mem_cons.mp z).elim hba hn) (List.range rs.length) (l, g) ⟨J, hle, fun a ha => List.mem_range.mp ha, fun e => ⟨e, fun a ha hn => absurd (List.mem_range.mpr ha) hn⟩⟩
  refine ⟨l', g', ?_, k2, k3, fun e => ⟨(k5 e).1, fun a ha => (k5 e).2 a ha (by simp)⟩⟩
  have e1 := fIx_code (cs := [.dt (dtL l)]) hw
  have e2 : inR (rs.length : Int) = true := inR_of (by omega) (by omega)
  have k1' : forIt (tgName 4) rBody [4] ((List.range rs.length).map fun (n : Nat) => A.d (.int (n : Int))) [some (.d (codeD c)), some (.c 0), some (.d (.bool g)), some (.d (.int (w : Int))), none] [.dt (dtL l)] = .nx [some (.d (codeD c)), some (.c 0), some (.d (.bool g')), some (.d (.int (w : Int))), none] [.dt (dtL l')] := k1
  simp [e1, rowsD, e2, rangeD_0, k1']
end K09
namespace K09
open Sh PySem L2
theorem law_ended_eq {c : Code} (wf : WF1 c) : ∃ l, f__law_ended [.d (codeD c)] [] = .ok (.c 0) [.dt (dtL l)] ∧ ∀ w a, (w, a) ∈ l ↔ Ends c w a := by
  have hfew := wf.few
  have e2 : inR (c.length : Int) = true := inR_of (by omega) (by omega)
  obtain ⟨⟨l, g⟩, k1, ⟨k2, k3⟩, k4⟩ := while_inv (t := tTr (eVar 2)) (body := sSeq (sAsg (eC (.bool false)) (tgName 2)) (sFor 1000000000 [4, 3] (iRange1 (aCons (eFn fLen (aCons (eVar 0) aNil)) aNil)) (tgName 3) rowsBody)) (fg := [3, 4])
    (fun s : List (Nat × Nat) × Bool => [some (.d (codeD c)), some (.c 0), some (.d (.bool s.2)), none, none]) (fun s => [.dt (dtL s.1)])
    (fun s => JE c s.1 ∧ (s.2 = false → ∀ w rs, c[w]? = some rs → ∀ a, a < rs.length → Shut c s.1 w a)) (fun s => (1001000 - s.1.length) + (if s.2 = true then 1 else 0))
    (fun ⟨l, g⟩ ⟨i1, i2⟩ => by
      cases g with
      | false => exact .inl (by simp)
      | true =>
        obtain ⟨⟨l', g'⟩, k1, k2, k3, k4, k5⟩ := forIt_inv (tg := tgName 3) (body := rowsBody) (fg := [4, 3]) (fun (n : Nat) => A.d (.int (n : Int))) (fun s : List (Nat × Nat) × Bool => [some (.d (codeD c)), some (.c 0), some (.d (.bool s.2)), none, none]) (fun s => [.dt (dtL s.1)])
          (fun rest s => JR c l s.1 s.2 ∧ l.length ≤ s.1.length ∧ (∀ w ∈ rest, w < c.length) ∧ (s.2 = false → ∀ w rs, c[w]? = some rs → w ∉ rest → ∀ a, a < rs.length → Shut c l w a))
          (fun w rest s ⟨j1, j2, j3, j4⟩ => by
            have hw := j3 w List.mem_cons_self
            obtain ⟨l', g', q1, q2, q3, q4⟩ := rows_turn wf (List.getElem?_eq_getElem hw) j1 j2
            refine ⟨(l', g'), ⟨q2, q3, fun b hb => j3 b (List.mem_cons_of_mem _ hb), fun e v rs hv hn => ?_⟩, q1⟩
            obtain ⟨e1, e2⟩ := q4 e
            by_cases hvw : v = w
            · subst hvw
              rw [List.getElem?_eq_getElem hw] at hv; cases hv
              exact e2
            · exact j4 e1 v rs hv fun z => (List.mem_cons.mp z).elim hvw hn) (List.range c.length) (l, false) ⟨⟨i1, fun _ => rfl, fun e => by cases e⟩, Nat.le_refl _, fun w hw => List.mem_range.mp hw, fun e w rs hw hn => absurd (List.mem_range.mpr (List.getElem?_eq_some_iff.mp hw).1) hn⟩
        have k1' : forIt (tgName 3) rowsBody [4, 3] ((List.range c.length).map fun (n : Nat) => A.d (.int (n : Int))) [some (.d (codeD c)), some (.c 0), some (.d (.bool false)), none, none] [.dt (dtL l)] = .nx [some (.d (codeD c)), some (.c 0), some (.d (.bool g')), none, none] [.dt (dtL l')] := k1
        refine .inr ⟨by simp, (l', g'), ?_, ⟨k2.je, fun e => ?_⟩, ?_⟩
        · have e3 : fLen [.d (codeD c)] [.dt (dtL l)] = .ok (.d (.int (c.length : Nat))) [.dt (dtL l)] := by simp [codeD]
          simp [e3, e2, rangeD_0, k1']
        · have el := k2.no e
          intro w rs hw a ha
          show Shut c l' w a
          have el' : l' = l := el
          rw [el']
          exact k5 e w rs hw (by simp) a ha
        · have hl : l'.length ≤ 1001000 := k2.je.len wf
          show (1001000 - l'.length) + (if g' = true then 1 else 0) < (1001000 - l.length) + 1
          cases g' with
          | false => have el : l' = l := k2.no rfl; subst el; simp
          | true => have el : l.length < l'.length := k2.yes rfl; simp; omega)
    1000000000 ([], true) (by show (1001000 - 0) + 1 < 1000000000; omega) ⟨⟨by simp, fun p hp => by cases hp⟩, fun e => by cases e⟩
  have hg : g = false := by
    have : tTr (eVar 2) [some (.d (codeD c)), some (.c 0), some (.d (.bool g)), none, none] [.dt (dtL l)] = .ok g [.dt (dtL l)] := by simp
    have k3' : tTr (eVar 2) [some (.d (codeD c)), some (.c 0), some (.d (.bool g)), none, none] [.dt (dtL l)] = .ok false [.dt (dtL l)] := k4
    rw [this] at k3'
    injection k3'
  have cl := k3 hg
  refine ⟨l, ?_, fun w a => ⟨fun h => k2.snd (w, a) h, fun h => ?_⟩⟩
  · simp [f__law_ended, runBody, m__law_ended, eDNewT]
    have k1' : whileN _ _ _ _ [some (.d (codeD c)), some (.c 0), some (.d (.bool true)), none, none] [.dt []] = _ := k1
    rw [k1']
    simp [fin]
  · have key : ∀ {w a : Nat} {r : Row}, rowAt c w a = some r → leads l w r = true → (w, a) ∈ l := fun {w a r} hr hl => by
      obtain ⟨rs, h1, h2⟩ := row_of hr
      exact cl w rs h1 a (List.getElem?_eq_some_iff.mp h2).1 r hr hl
    induction h with
    | ret q => exact key q rfl
    | deed q _ ih => exact key q (decide_eq_true ih)
    | @call w a p n q _ _ ih1 ih2 =>
      refine key q ?_
      show (decide ((p, 0) ∈ l) && decide ((w, n) ∈ l)) = true
      rw [decide_eq_true ih1, decide_eq_true ih2]; rfl
    | choose q hn _ ih => exact key q (List.any_eq_true.mpr ⟨_, hn, decide_eq_true ih⟩)
/-! ### the law's own met rows, needed procedures -/
abbrev addBody7 : MS := sIf (tOf (eBin (fIn true) (eVar 7) (eVar 3)))
  (sDrop (eMeth "list" mAppend (eVar 3) (aCons (eVar 7) aNil)))
  sNext
abbrev metBody : MS := (sSeq (sAsg (eBin fIx (eBin fIx (eVar 0) (eVar 1)) (eBin fIx (eVar 3) (eVar 4))) (tgName 5))
  (sSeq (sAsg (eBin fAdd (eVar 4) (eC (.int 1))) (tgName 4))
  (sSeq (sAsg (eTup aNil) (tgName 6))
  (sSeq (sIf (tOf (eBin fEq (eBin fIx (eVar 5) (eC (.int 0))) (eC (.str "choose"))))
  (sAsg (eBin fIx (eVar 5) (eC (.int 1))) (tgName 6))
  (sIf (tOrM (tOf (eBin fEq (eBin fIx (eVar 5) (eC (.int 0))) (eC (.str "deed")))) (tAndM (tOf (eBin fEq (eBin fIx (eVar 5) (eC (.int 0))) (eC (.str "call")))) (tOf (eTIn false (aCons (eBin fIx (eVar 5) (eC (.int 1))) (aCons (eC (.int 0)) aNil)) (eVar 2)))))
  (sAsg (eTup (aCons (eBin fIx (eVar 5) (eC (.int 2))) aNil)) (tgName 6))
  sNext))
  (sFor 1000000000 [7] (iVal (eVar 6)) (tgName 7) addBody7)))))
section
variable {c : Code} (wf : WF1 c) {l : List (Nat × Nat)} (hl : ∀ w a, (w, a) ∈ l ↔ Ends c w a) {n : Nat}
include wf hl
theorem in_end {w a : Nat} : decide ((w, a) ∈ l) = endB c w a := by
  rw [Bool.eq_iff_iff, decide_eq_true_iff, hl, endB_iff]
theorem met_body {cs : CS} (hc : cs[n]? = some (.dt (dtL l))) {w pl : Nat} {rs : List Row} (hw : c[w]? = some rs) {f : List Nat} {a : Nat} (hx : f[pl]? = some a) (ha : a < rs.length) (hf : f.length ≤ 100000) :
    Goes (metBody [some (.d (codeD c)), some (.d (.int (w : Int))), some (.c n), some (.c cs.length), some (.d (.int (pl : Int))), none, none, none] (cs ++ [.lst (nsD f)])) [5, 6, 7]
      [some (.d (codeD c)), some (.d (.int (w : Int))), some (.c n), some (.c cs.length), some (.d (.int ((pl + 1 : Nat) : Int))), none, none, none] (cs ++ [.lst (nsD (addAll f (ways c w a)))]) := by
  have hc' : ∀ g : List Nat, (cs ++ [Cell.lst (nsD g)])[n]? = some (.dt (dtL l)) := fun g => by
    have := (List.getElem?_eq_some_iff.mp hc).1
    rw [List.getElem?_append_left this]; exact hc
  have e1 : fIx (.c cs.length) (.d (.int (pl : Int))) (cs ++ [.lst (nsD f)]) = .ok (.d (.int (a : Nat))) (cs ++ [.lst (nsD f)]) := fIx_cn last_get (nsD_get hx)
  have e2 := fIx_code (cs := cs ++ [.lst (nsD f)]) hw
  have e3 := fIx_rows (cs := cs ++ [.lst (nsD f)]) (List.getElem?_eq_getElem ha)
  have hro : rowAt c w a = some rs[a] := by unfold rowAt; rw [hw, Option.bind_some, List.getElem?_eq_getElem ha]
  have hfew := ways_few wf (w := w) (a := a)
  have e4 : ∀ x5 x6, forIt (tgName 7) addBody7 [7] ((ways c w a).map fun (n : Nat) => A.d (.int (n : Int))) [some (.d (codeD c)), some (.d (.int (w : Int))), some (.c n), some (.c cs.length), some (.d (.int ((pl : Int) + 1))), x5, x6, none] (cs ++ [.lst (nsD f)]) =
      .nx [some (.d (codeD c)), some (.d (.int (w : Int))), some (.c n), some (.c cs.length), some (.d (.int ((pl : Int) + 1))), x5, x6, none] (cs ++ [.lst (nsD (addAll f (ways c w a)))]) := fun x5 x6 =>
    forIt_add (fun k f hf => by
      have e4 : fIn true (.d (.int (k : Int))) (.c cs.length) (cs ++ [.lst (nsD f)]) = .ok (.d (.bool (!decide (k ∈ f)))) (cs ++ [.lst (nsD f)]) := fIn_c (neg := true) last_get
      unfold addN
      by_cases hn : k ∈ f
      · simp [e4, hn]
      · simp [e4, hn, tyA, mAppend, onC, hf]) (ways c w a) f (size_lt (by omega))
  have hw4 : ways c w a = (match rs[a] with | .call p k => if endB c p 0 = true then [k] else [] | r => r.nexts) := by
    unfold ways; rw [hro]; cases rs[a] <;> rfl
  rw [hw4] at e4 ⊢
  generalize rs[a] = r at e3 e4 ⊢
  cases r with
  | ret =>
    simp only [Row.D] at e3
    simp [Row.nexts] at e4
    simp [e1, e2, e3, e4, Row.nexts]
  | deed x k =>
    simp only [Row.D] at e3
    simp [Row.nexts] at e4
    simp [e1, e2, e3, e4, Row.nexts]
  | choose ws =>
    simp only [Row.D] at e3
    simp [Row.nexts] at e4
    simp [e1, e2, e3, e4, Row.nexts]
  | call p k =>
    simp only [Row.D] at e3
    have e5 := tin_dt (neg := false) (n := n) (cs := cs ++ [.lst (nsD f)]) (env := [some (.d (codeD c)), some (.d (.int (w : Int))), some (.c n), some (.c cs.length), some (.d (.int ((pl : Int) + 1))), some (.d (Row.call p k).D), some (.d (.tuple [])), none]) (mk := aCons (eBin fIx (eVar 5) (eC (.int 1))) (aCons (eC (.int 0)) aNil)) (md := eVar 2) (w := p) (a := 0) (by simp [Row.D]) (by simp) (hc' f)
    rw [in_end wf hl] at e5
    simp only [Row.D] at e5
    cases q : endB c p 0 with
    | false =>
      rw [q] at e5
      simp [q] at e4
      simp [e1, e2, e3, e4, e5, q]
    | true =>
      rw [q] at e5
      simp [q] at e4
      simp [e1, e2, e3, e4, e5, q]
theorem law_met_eq {cs : CS} (hc : cs[n]? = some (.dt (dtL l))) {w : Nat} {rs : List Row} (hw : c[w]? = some rs) : f__law_met [.d (codeD c), .d (.int (w : Int)), .c n] cs = .ok (.d (.list (nsD (metL c w)))) cs := by
  have hrs := wf.rows rs (List.mem_of_getElem? hw)
  have lenc : ∀ f : List Nat, fLen [.c cs.length] (cs ++ [.lst (nsD f)]) = .ok (.d (.int (f.length : Nat))) (cs ++ [.lst (nsD f)]) := fun f => by rw [fLen_c last_get, nsD_length]
  obtain ⟨⟨f, pl⟩, k1, k2, k3⟩ := while_inv (t := tOf (eBin fLt (eVar 4) (eFn fLen (aCons (eVar 3) aNil)))) (body := metBody) (fg := [5, 6, 7])
    (fun s : List Nat × Nat => [some (.d (codeD c)), some (.d (.int (w : Int))), some (.c n), some (.c cs.length), some (.d (.int (s.2 : Nat))), none, none, none]) (fun s => cs ++ [.lst (nsD s.1)])
    (fun s => WInv (ways c w) rs.length 0 s.1 s.2) (fun s => rs.length - s.2)
    (fun ⟨f, pl⟩ I => by
      have hl' : f.length ≤ rs.length := I.len
      by_cases hp : pl < f.length
      · exact .inr ⟨by simp [lenc]; omega, ⟨addAll f (ways c w f[pl]), pl + 1⟩, met_body wf hl hc hw (List.getElem?_eq_getElem hp) (I.ok _ (List.getElem_mem hp)).2 (by show f.length ≤ 100000; omega), I.step (List.getElem?_eq_getElem hp) fun y hy => ways_lt wf hw hy, by show rs.length - (pl + 1) < rs.length - pl; omega⟩
      · exact .inl (by simp [lenc]; omega))
    1000000000 ([0], 0) (by show rs.length - 0 < 1000000000; omega) (.start hrs.1)
  have hp : f.length ≤ pl := by
    have : tOf (eBin fLt (eVar 4) (eFn fLen (aCons (eVar 3) aNil))) [some (.d (codeD c)), some (.d (.int (w : Int))), some (.c n), some (.c cs.length), some (.d (.int (pl : Nat))), none, none, none] (cs ++ [.lst (nsD f)]) = .ok (decide (pl < f.length)) (cs ++ [.lst (nsD f)]) := by simp [lenc]
    have k3' : tOf (eBin fLt (eVar 4) (eFn fLen (aCons (eVar 3) aNil))) [some (.d (codeD c)), some (.d (.int (w : Int))), some (.c n), some (.c cs.length), some (.d (.int (pl : Nat))), none, none, none] (cs ++ [.lst (nsD f)]) = .ok false (cs ++ [.lst (nsD f)]) := k3
    rw [this] at k3'
    have e : decide (pl < f.length) = false := by injection k3'
    simp at e; exact e
  have hs : fSorted [.c cs.length] (cs ++ [.lst (nsD f)]) = .ok (.d (.list (nsD (metL c w)))) (cs ++ [.lst (nsD f)]) := by
    unfold metL
    rw [hw]
    exact fSorted_nc last_get k2.nd (metB c w) fun x => by
      have := k2.done hp x
      rw [this, metB_iff]; exact ⟨fun h => ⟨h, met_lt wf hw h⟩, fun h => h.1⟩
  simp [f__law_met, runBody, m__law_met]
  have k1' : whileN _ _ _ _ [some (.d (codeD c)), some (.d (.int (w : Int))), some (.c n), some (.c cs.length), some (.d (.int 0)), none, none, none] (cs ++ [.lst [.int 0]]) = _ := k1
  rw [k1']
  simp [hs]
end
end K09
namespace K09
open Sh PySem L2
section
variable {c : Code} (wf : WF1 c) {l : List (Nat × Nat)} (hl : ∀ w a, (w, a) ∈ l ↔ Ends c w a) {n : Nat}
include wf hl
abbrev nBody2 : MS := (sSeq (sAsg (eBin fIx (eBin fIx (eVar 0) (eVar 5)) (eVar 6)) (tgName 7))
  (sIf (tAndM (tOf (eBin fEq (eBin fIx (eVar 7) (eC (.int 0))) (eC (.str "call")))) (tAndM (tOf (eTIn false (aCons (eVar 5) (aCons (eVar 6) aNil)) (eVar 2))) (tOf (eBin (fIn true) (eBin fIx (eVar 7) (eC (.int 1))) (eVar 3)))))
  (sDrop (eMeth "list" mAppend (eVar 3) (aCons (eBin fIx (eVar 7) (eC (.int 1))) aNil)))
  sNext))
abbrev needBody : MS := (sSeq (sAsg (eBin fIx (eVar 3) (eVar 4)) (tgName 5))
  (sSeq (sAsg (eBin fAdd (eVar 4) (eC (.int 1))) (tgName 4))
  (sFor 1000000000 [7, 6] (iVal (eCall 3 (f__law_met) (aCons (eVar 0) (aCons (eVar 5) (aCons (eVar 2) aNil))))) (tgName 6) nBody2)))
theorem n2_turn {cs : CS} (hc : cs[n]? = some (.dt (dtL l))) {p a s : Nat} {x4 : Option A} {rs : List Row} (hp : c[p]? = some rs) (ha : a < rs.length) {f : List Nat} (hf : f.length < sizeLine) :
    Goes (turn (tgName 6) nBody2 (.d (.int (a : Int))) [some (.d (codeD c)), some (.d (.int (s : Int))), some (.c n), some (.c cs.length), x4, some (.d (.int (p : Int))), none, none] (cs ++ [.lst (nsD f)])) [7, 6]
      [some (.d (codeD c)), some (.d (.int (s : Int))), some (.c n), some (.c cs.length), x4, some (.d (.int (p : Int))), none, none] (cs ++ [.lst (nsD (addO f (cand c p a)))]) := by
  have hc' : (cs ++ [Cell.lst (nsD f)])[n]? = some (.dt (dtL l)) := by
    have := (List.getElem?_eq_some_iff.mp hc).1
    rw [List.getElem?_append_left this]; exact hc
  have e2 := fIx_code (cs := cs ++ [.lst (nsD f)]) hp
  have e3 := fIx_rows (cs := cs ++ [.lst (nsD f)]) (List.getElem?_eq_getElem ha)
  have hro : rowAt c p a = some rs[a] := by unfold rowAt; rw [hp, Option.bind_some, List.getElem?_eq_getElem ha]
  have e6 : ∀ q : Nat, fIn true (.d (.int (q : Int))) (.c cs.length) (cs ++ [.lst (nsD f)]) = .ok (.d (.bool (!decide (q ∈ f)))) (cs ++ [.lst (nsD f)]) := fun q => fIn_c (neg := true) last_get
  unfold cand
  rw [hro]
  generalize rs[a] = r at e3
  cases r with
  | call q k =>
    have e5 := tin_dt (neg := false) (n := n) (cs := cs ++ [.lst (nsD f)]) (env := [some (.d (codeD c)), some (.d (.int (s : Int))), some (.c n), some (.c cs.length), x4, some (.d (.int (p : Int))), some (.d (.int (a : Int))), some (.d (Row.call q k).D)]) (mk := aCons (eVar 5) (aCons (eVar 6) aNil)) (md := eVar 2) (w := p) (a := a) (by simp) (by simp) hc'
    rw [in_end wf hl] at e5
    simp only [Row.D] at e3 e5
    cases hq : endB c p a with
    | false =>
      rw [hq] at e5
      simp [e2, e3, e5, addO]
    | true =>
      rw [hq] at e5
      by_cases hn : q ∈ f
      · simp [e2, e3, e5, e6, addO, addN, hn]
      · simp [e2, e3, e5, e6, addO, addN, hn, tyA, mAppend, onC, hf]
  | ret => simp only [Row.D] at e3; simp [e2, e3, addO]
  | deed x k => simp only [Row.D] at e3; simp [e2, e3, addO]
  | choose ws => simp only [Row.D] at e3; simp [e2, e3, addO]
theorem need_body {cs : CS} (hc : cs[n]? = some (.dt (dtL l))) {s pl p : Nat} (hp : p < c.length) {f : List Nat} (hx : f[pl]? = some p) (hf : f.length ≤ 100000) :
    Goes (needBody [some (.d (codeD c)), some (.d (.int (s : Int))), some (.c n), some (.c cs.length), some (.d (.int (pl : Int))), none, none, none] (cs ++ [.lst (nsD f)])) [5, 6, 7]
      [some (.d (codeD c)), some (.d (.int (s : Int))), some (.c n), some (.c cs.length), some (.d (.int ((pl + 1 : Nat) : Int))), none, none, none] (cs ++ [.lst (nsD (addAll f (callees c p)))]) := by
  have hc' : (cs ++ [Cell.lst (nsD f)])[n]? = some (.dt (dtL l)) := by
    have := (List.getElem?_eq_some_iff.mp hc).1
    rw [List.getElem?_append_left this]; exact hc
  have hw := List.getElem?_eq_getElem hp
  have hrs := wf.rows _ (List.getElem_mem hp)
  have e1 : fIx (.c cs.length) (.d (.int (pl : Int))) (cs ++ [.lst (nsD f)]) = .ok (.d (.int (p : Nat))) (cs ++ [.lst (nsD f)]) := fIx_cn last_get (nsD_get hx)
  have e2 := law_met_eq wf hl hc' hw
  have hm : (metL c p).length ≤ 1000 := by
    refine Nat.le_trans (nodup_len (N := c[p].length) (List.nodup_range.filter _) fun a ha => ?_) hrs.2
    exact met_lt wf hw ((metL_mem wf hw).mp ha)
  have e3 := forIt_opt (tg := tgName 6) (body := nBody2) (fg := [7, 6]) (env := [some (.d (codeD c)), some (.d (.int (s : Int))), some (.c n), some (.c cs.length), some (.d (.int ((pl : Int) + 1))), some (.d (.int (p : Int))), none, none]) (cs := cs) (cand c p) f (metL c p) f
    (fun a ha e he => n2_turn wf hl hc hw (met_lt wf hw ((metL_mem wf hw).mp ha)) he) ⟨[], by simp⟩ (size_lt (by omega))
  simp [e1, e2, e3, callees]
theorem law_needed_eq {cs : CS} (hc : cs[n]? = some (.dt (dtL l))) {s : Nat} (hs : s < c.length) : f__law_needed [.d (codeD c), .d (.int (s : Int)), .c n] cs = .ok (.d (.list (nsD (needL c s)))) cs := by
  have hfew := wf.few
  have lenc : ∀ f : List Nat, fLen [.c cs.length] (cs ++ [.lst (nsD f)]) = .ok (.d (.int (f.length : Nat))) (cs ++ [.lst (nsD f)]) := fun f => by rw [fLen_c last_get, nsD_length]
  obtain ⟨⟨f, pl⟩, k1, k2, k3⟩ := while_inv (t := tOf (eBin fLt (eVar 4) (eFn fLen (aCons (eVar 3) aNil)))) (body := needBody) (fg := [5, 6, 7])
    (fun s' : List Nat × Nat => [some (.d (codeD c)), some (.d (.int (s : Int))), some (.c n), some (.c cs.length), some (.d (.int (s'.2 : Nat))), none, none, none]) (fun s => cs ++ [.lst (nsD s.1)])
    (fun s' => WInv (callees c) c.length s s'.1 s'.2) (fun s => c.length - s.2)
    (fun ⟨f, pl⟩ I => by
      have hl' : f.length ≤ c.length := I.len
      by_cases hp : pl < f.length
      · exact .inr ⟨by simp [lenc]; omega, ⟨addAll f (callees c f[pl]), pl + 1⟩, need_body wf hl hc (I.ok _ (List.getElem_mem hp)).2 (List.getElem?_eq_getElem hp) (by show f.length ≤ 100000; omega), I.step (List.getElem?_eq_getElem hp) fun y hy => callees_lt wf hy, by show c.length - (pl + 1) < c.length - pl; omega⟩
      · exact .inl (by simp [lenc]; omega))
    1000000000 ([s], 0) (by show c.length - 0 < 1000000000; omega) (.start hs)
  have hp : f.length ≤ pl := by
    have : tOf (eBin fLt (eVar 4) (eFn fLen (aCons (eVar 3) aNil))) [some (.d (codeD c)), some (.d (.int (s : Int))), some (.c n), some (.c cs.length), some (.d (.int (pl : Nat))), none, none, none] (cs ++ [.lst (nsD f)]) = .ok (decide (pl < f.length)) (cs ++ [.lst (nsD f)]) := by simp [lenc]
    have k3' : tOf (eBin fLt (eVar 4) (eFn fLen (aCons (eVar 3) aNil))) [some (.d (codeD c)), some (.d (.int (s : Int))), some (.c n), some (.c cs.length), some (.d (.int (pl : Nat))), none, none, none] (cs ++ [.lst (nsD f)]) = .ok false (cs ++ [.lst (nsD f)]) := k3
    rw [this] at k3'
    have e : decide (pl < f.length) = false := by injection k3'
    simp at e; exact e
  have hs' : fSorted [.c cs.length] (cs ++ [.lst (nsD f)]) = .ok (.d (.list (nsD (needL c s)))) (cs ++ [.lst (nsD f)]) :=
    fSorted_nc last_get k2.nd (needB c s) fun x => by
      have := k2.done hp x
      rw [this, needB_iff]; exact ⟨fun h => ⟨h, need_lt wf hs h⟩, fun h => h.1⟩
  simp [f__law_needed, runBody, m__law_needed]
  have k1' : whileN _ _ _ _ [some (.d (codeD c)), some (.d (.int (s : Int))), some (.c n), some (.c cs.length), some (.d (.int 0)), none, none, none] (cs ++ [.lst [.int (s : Int)]]) = _ := k1
  rw [k1']
  simp [hs']
end
/-! ### _law_numbers -/
def numT : Nat → PyData → Bool
  | 0, _ => false
  | d + 1, .tuple xs => decide (xs.length ≤ 1000000) && xs.all fun x => match x with
    | .int _ => true
    | y => numT d y
  | _ + 1, _ => false
theorem isi_tup {cs : CS} {xs : List PyData} {m : ME} {env : Sh.Env} (h : m env cs = .ok (.d (.tuple xs)) cs) {b : String} : eIsi b m env cs = .ok (.d (.bool (isTy "tuple" b))) cs := by simp [eIsi, h, tyName]
theorem isi_int {cs : CS} {i : Int} {m : ME} {env : Sh.Env} (h : m env cs = .ok (.d (.int i)) cs) {b : String} : eIsi b m env cs = .ok (.d (.bool (isTy "int" b))) cs := by simp [eIsi, h, tyName]
@[simp] theorem ty_tt : isTy "tuple" "tuple" = true := by decide
@[simp] theorem ty_it : isTy "int" "tuple" = false := by decide
@[simp] theorem ty_ii : isTy "int" "int" = true := by decide
@[simp] theorem ty_ib : isTy "int" "bool" = false := by decide
abbrev numBody (self : Fn) : MS := (sIf (tTr (eIsi "tuple" (eBin fIx (eVar 1) (eVar 2))))
  (sIf (tNotM (tTr (eCall 2 (plainF (self)) (aCons (eBin fIx (eVar 0) (eVar 2)) (aCons (eBin fIx (eVar 1) (eVar 2)) aNil)))))
  (sRet (eC (.bool false)))
  sNext)
  (sIf (tOrM (tNotM (tTr (eIsi "int" (eBin fIx (eVar 0) (eVar 2))))) (tOrM (tTr (eIsi "bool" (eBin fIx (eVar 0) (eVar 2)))) (tOf (eBin fNe (eBin fIx (eVar 0) (eVar 2)) (eBin fIx (eVar 1) (eVar 2))))))
  (sRet (eC (.bool false)))
  sNext))
theorem numbers_eq : ∀ (d : Nat) (xs : List PyData), numT d (.tuple xs) = true → ∀ n, d ≤ n → f__law_numbers n [.d (.tuple xs), .d (.tuple xs)] [] = .ok (.d (.bool true)) []
  | 0, _, h, _, _ => by cases h
  | d + 1, xs, h, 0, hn => by omega
  | d + 1, xs, h, n + 1, hn => by
    have ih := numbers_eq d
    have h' : (decide (xs.length ≤ 1000000) && xs.all fun x => match x with
      | .int _ => true
      | y => numT d y) = true := h
    rw [Bool.and_eq_true] at h'
    have hlen : xs.length ≤ 1000000 := of_decide_eq_true h'.1
    have hall := List.all_eq_true.mp h'.2
    obtain ⟨_, k1, _⟩ := forIt_inv (tg := tgName 2) (body := numBody (f__law_numbers n)) (fg := [2]) (fun (k : Nat) => A.d (.int (k : Int))) (fun _ : Unit => [some (.d (.tuple xs)), some (.d (.tuple xs)), none]) (fun _ => [])
      (fun rest _ => ∀ a ∈ rest, a < xs.length) (fun a rest _ hr => by
        refine ⟨(), fun b hb => hr b (List.mem_cons_of_mem _ hb), ?_⟩
        have ha := hr a List.mem_cons_self
        have e1 : fIx (.d (.tuple xs)) (.d (.int (a : Int))) [] = .ok (.d xs[a]) [] := fIx_tn (List.getElem?_eq_getElem ha)
        have hx := hall xs[a] (List.getElem_mem ha)
        cases q : xs[a] with
        | int i =>
          rw [q] at e1
          have i1 := isi_int (cs := []) (m := eBin fIx (eVar 1) (eVar 2)) (env := [some (.d (.tuple xs)), some (.d (.tuple xs)), some (.d (.int (a : Int)))]) (i := i) (by simp [e1]) (b := "tuple")
          have i2 := isi_int (cs := []) (m := eBin fIx (eVar 0) (eVar 2)) (env := [some (.d (.tuple xs)), some (.d (.tuple xs)), some (.d (.int (a : Int)))]) (i := i) (by simp [e1]) (b := "int")
          have i3 := isi_int (cs := []) (m := eBin fIx (eVar 0) (eVar 2)) (env := [some (.d (.tuple xs)), some (.d (.tuple xs)), some (.d (.int (a : Int)))]) (i := i) (by simp [e1]) (b := "bool")
          simp [i1, i2, i3, e1]
        | tuple ys =>
          rw [q] at e1 hx
          have i1 := isi_tup (cs := []) (m := eBin fIx (eVar 1) (eVar 2)) (env := [some (.d (.tuple xs)), some (.d (.tuple xs)), some (.d (.int (a : Int)))]) (xs := ys) (by simp [e1]) (b := "tuple")
          have k := plainF_nil (F := f__law_numbers n) (xs := [.d (.tuple ys), .d (.tuple ys)]) rfl (ih ys hx n (by omega))
          simp [i1, e1, k]
        | none => rw [q] at hx; cases d <;> cases hx
        | bool _ => rw [q] at hx; cases d <;> cases hx
        | str _ => rw [q] at hx; cases d <;> cases hx
        | list _ => rw [q] at hx; cases d <;> cases hx
        | dict _ => rw [q] at hx; cases d <;> cases hx) (List.range xs.length) () fun a ha => List.mem_range.mp ha
    have e2 : inR (xs.length : Int) = true := inR_of (by omega) (by omega)
    have i1 := isi_tup (cs := []) (m := eVar 0) (env := [some (.d (.tuple xs)), some (.d (.tuple xs)), none]) (xs := xs) (by simp) (b := "tuple")
    show runBody 3 (m__law_numbers (f__law_numbers n)) _ _ = _
    simp [runBody, m__law_numbers, i1, e2, rangeD_0, k1]
theorem numT_ns {l : List Nat} (h : l.length ≤ 1000000) : numT 1 (.tuple (nsD l)) = true := by
  simp [numT, nsD, h]
theorem numT_ns2 {l : List Nat} (h : l.length ≤ 1000000) {d : Nat} : numT (d + 1) (.tuple (nsD l)) = true := by
  simp [numT, nsD, h]
end K09
namespace K09
open Sh PySem L2
abbrev dueBody : MS := (sDrop (eMeth "list" mAppend (eVar 2) (aCons (eFn fTuple (aCons (eLc [5] (iRange1 (aCons (eFn fLen (aCons (eBin fIx (eVar 0) (eVar 3)) aNil)) aNil)) (tgName 5) (tOf (eTIn false (aCons (eVar 3) (aCons (eVar 5) aNil)) (eVar 1))) (eVar 5)) aNil)) aNil)))
abbrev eachBody : MS := (sSeq (sIf (tNotM (tTr (eCall 2 (plainF (f__law_numbers 8)) (aCons (eCall 2 (plainF (f_met_rows)) (aCons (eVar 0) (aCons (eVar 3) aNil))) (aCons (eFn fTuple (aCons (eCall 3 (f__law_met) (aCons (eVar 0) (aCons (eVar 3) (aCons (eVar 1) aNil)))) aNil)) aNil)))))
  (sRet (eC (.bool false)))
  sNext)
  (sIf (tNotM (tTr (eCall 2 (plainF (f__law_numbers 8)) (aCons (eCallK 0 2 2 [1, 0] (plainF (f_needed_procedures)) aNil (aCons (eVar 3) (aCons (eVar 0) aNil))) (aCons (eFn fTuple (aCons (eCall 3 (f__law_needed) (aCons (eVar 0) (aCons (eVar 3) (aCons (eVar 1) aNil)))) aNil)) aNil)))))
  (sRet (eC (.bool false)))
  sNext))
theorem range_len {N : Nat} {P : Nat → Bool} (h : N ≤ 1000) : ((List.range N).filter P).length ≤ 1000000 := by
  have := List.length_filter_le P (List.range N)
  rw [List.length_range] at this
  omega
theorem metL_len {c : Code} (wf : WF1 c) {w : Nat} {rs : List Row} (hw : c[w]? = some rs) : (metL c w).length ≤ 1000000 := by
  unfold metL
  rw [hw]
  exact range_len (wf.rows rs (List.mem_of_getElem? hw)).2
theorem endedL_range (c : Code) : ((List.range c.length).map fun w => PyData.tuple (nsD ((List.range ((c[w]?.map List.length).getD 0)).filter (endB c w)))) = endedL c := by
  apply List.ext_getElem?
  intro w
  rw [endedL, List.getElem?_map, List.getElem?_map, List.getElem?_zipIdx, Nat.zero_add]
  by_cases hw : w < c.length
  · rw [List.getElem?_range hw, List.getElem?_eq_getElem hw]; simp [List.getElem?_eq_getElem hw]
  · rw [List.getElem?_eq_none (by simp; omega), List.getElem?_eq_none (by omega)]; rfl
theorem numT_ended {c : Code} (wf : WF1 c) : numT 2 (.tuple (endedL c)) = true := by
  have hfew := wf.few
  simp only [numT, Bool.and_eq_true, decide_eq_true_eq, List.all_eq_true]
  refine ⟨by simp [endedL]; omega, fun x hx => ?_⟩
  obtain ⟨p, hp, rfl⟩ := List.mem_map.mp hx
  exact numT_ns (range_len (wf.rows p.1 (List.mem_of_getElem? (mem_zip hp))).2)
theorem asked_eq {c : Code} (wf : WF1 c) : f__law_asked [.d (codeD c)] [] = .ok (.d (.bool true)) [] := by
  have hfew := wf.few
  obtain ⟨l, h1, hl⟩ := law_ended_eq wf
  have i0 : inR (c.length : Int) = true := inR_of (by omega) (by omega)
  have ln : ∀ cs, fLen [.d (codeD c)] cs = .ok (.d (.int (c.length : Nat))) cs := fun cs => by simp [codeD]
  -- due
  have k1 := forIt_append (tg := tgName 3) (body := dueBody) (fg := [3]) (env := [some (.d (codeD c)), some (.c 0), some (.c 1), none, none, none]) (cs := [.dt (dtL l)]) (fun (n : Nat) => A.d (.int (n : Int))) (fun w => PyData.tuple (nsD ((List.range ((c[w]?.map List.length).getD 0)).filter (endB c w)))) (List.range c.length) [] (by simp; exact size_lt (by omega)) fun w hw xs hx => by
    have hw' := List.mem_range.mp hw
    have hg := List.getElem?_eq_getElem hw'
    have hrs := (wf.rows _ (List.getElem_mem hw')).2
    have e1 := fIx_code (cs := [.dt (dtL l), .lst xs]) hg
    have i1 : inR (c[w].length : Int) = true := inR_of (by omega) (by omega)
    have e2 := eLc_map (fr := [5]) (src := iRange1 (aCons (eFn fLen (aCons (eBin fIx (eVar 0) (eVar 3)) aNil)) aNil)) (tg := tgName 5) (t := tOf (eTIn false (aCons (eVar 3) (aCons (eVar 5) aNil)) (eVar 1))) (e := eVar 5)
      (env := [some (.d (codeD c)), some (.c 0), some (.c 1), some (.d (.int (w : Int))), none, none]) (cs := [.dt (dtL l), .lst xs]) (fun (n : Nat) => A.d (.int (n : Int))) (endB c w) (fun (n : Nat) => .int (n : Int)) (List.range c[w].length) (by simp [e1, rowsD, i1, rangeD_0]) (size_ok (by simp; omega)) fun a ha => ⟨_, rfl, by
        have e := tin_dt (neg := false) (n := 0) (cs := [.dt (dtL l), .lst xs]) (env := [some (.d (codeD c)), some (.c 0), some (.c 1), some (.d (.int (w : Int))), none, some (.d (.int (a : Int)))]) (mk := aCons (eVar 3) (aCons (eVar 5) aNil)) (md := eVar 1) (w := w) (a := a) (by simp) (by simp) rfl
        rw [in_end wf hl] at e
        simp [e], fun _ => by simp⟩
    simp [e2, tyA, mAppend, onC, hx, hg, nsD]
  rw [endedL_range] at k1
  have k1' : forIt (tgName 3) dueBody [3] ((List.range c.length).map fun (n : Nat) => A.d (.int (n : Int))) [some (.d (codeD c)), some (.c 0), some (.c 1), none, none, none] [.dt (dtL l), .lst []] = .nx [some (.d (codeD c)), some (.c 0), some (.c 1), none, none, none] [.dt (dtL l), .lst (endedL c)] := k1
  -- lost
  have e3 := eLc_map (fr := [3]) (src := iRange1 (aCons (eFn fLen (aCons (eVar 0) aNil)) aNil)) (tg := tgName 3) (t := tOf (eTIn true (aCons (eVar 3) (aCons (eC (.int 0)) aNil)) (eVar 1))) (e := eVar 3)
    (env := [some (.d (codeD c)), some (.c 0), some (.c 1), none, none, none]) (cs := [.dt (dtL l), .lst (endedL c)]) (fun (n : Nat) => A.d (.int (n : Int))) (fun w => !endB c w 0) (fun (n : Nat) => .int (n : Int)) (List.range c.length) (by simp [ln, i0, rangeD_0]) (size_ok (by simp; omega)) fun w hw => ⟨_, rfl, by
      have e := tin_dt (neg := true) (n := 0) (cs := [.dt (dtL l), .lst (endedL c)]) (env := [some (.d (codeD c)), some (.c 0), some (.c 1), some (.d (.int (w : Int))), none, none]) (mk := aCons (eVar 3) (aCons (eC (.int 0)) aNil)) (md := eVar 1) (w := w) (a := 0) (by simp) (by simp) rfl
      rw [in_end wf hl] at e
      simp [e], fun _ => by simp⟩
  have e3' : ((List.range c.length).filter fun w => !endB c w 0).map (fun (n : Nat) => PyData.int (n : Int)) = lostL c := rfl
  rw [e3'] at e3
  have p1 : ∀ cs, plainF f_ended_rows [.d (codeD c)] cs = .ok (.d (.tuple (endedL c))) cs := fun cs => plainF_ok rfl (ended_rows_eq wf)
  have p2 : ∀ cs, plainF f_lost_procedures [.d (codeD c)] cs = .ok (.d (.tuple (lostL c))) cs := fun cs => plainF_ok rfl (lost_eq wf)
  have p3 : ∀ cs, plainF (f__law_numbers 8) [.d (.tuple (endedL c)), .d (.tuple (endedL c))] cs = .ok (.d (.bool true)) cs := fun cs => plainF_ok rfl (numbers_eq 2 _ (numT_ended wf) 8 (by omega))
  have p4 : ∀ cs, plainF (f__law_numbers 8) [.d (.tuple (lostL c)), .d (.tuple (lostL c))] cs = .ok (.d (.bool true)) cs := fun cs => plainF_ok rfl (numbers_eq 1 _ (numT_ns (range_len wf.few)) 8 (by omega))
  -- each procedure
  obtain ⟨_, k2, _⟩ := forIt_inv (tg := tgName 3) (body := eachBody) (fg := [3]) (fun (n : Nat) => A.d (.int (n : Int))) (fun _ : Unit => [some (.d (codeD c)), some (.c 0), some (.c 1), none, some (.d (.tuple (lostL c))), none]) (fun _ => [.dt (dtL l), .lst (endedL c)])
    (fun rest _ => ∀ w ∈ rest, w < c.length) (fun w rest _ hr => by
      refine ⟨(), fun b hb => hr b (List.mem_cons_of_mem _ hb), ?_⟩
      have hw := hr w List.mem_cons_self
      have hg := List.getElem?_eq_getElem hw
      have q1 : ∀ cs, plainF f_met_rows [.d (codeD c), .d (.int (w : Int))] cs = .ok (.d (.tuple (nsD (metL c w)))) cs := fun cs => plainF_ok rfl (met_rows_eq wf hg)
      have q2 := law_met_eq wf hl (n := 0) (cs := [.dt (dtL l), .lst (endedL c)]) rfl hg
      have q3 : ∀ cs, plainF (f__law_numbers 8) [.d (.tuple (nsD (metL c w))), .d (.tuple (nsD (metL c w)))] cs = .ok (.d (.bool true)) cs := fun cs => plainF_ok rfl (numbers_eq 1 _ (numT_ns (metL_len wf hg)) 8 (by omega))
      have q4 : ∀ cs, plainF f_needed_procedures [.d (codeD c), .d (.int (w : Int))] cs = .ok (.d (.tuple (nsD (needL c w)))) cs := fun cs => plainF_ok rfl (needed_eq wf hw)
      have q5 := law_needed_eq wf hl (n := 0) (cs := [.dt (dtL l), .lst (endedL c)]) rfl hw
      have q6 : ∀ cs, plainF (f__law_numbers 8) [.d (.tuple (nsD (needL c w))), .d (.tuple (nsD (needL c w)))] cs = .ok (.d (.bool true)) cs := fun cs => plainF_ok rfl (numbers_eq 1 _ (numT_ns (range_len wf.few)) 8 (by omega))
      simp [eCallK, pick, q1, q2, q3, q4, q5, q6]) (List.range c.length) () fun a ha => List.mem_range.mp ha
  have k2' : forIt (tgName 3) eachBody [3] ((List.range c.length).map fun (n : Nat) => A.d (.int (n : Int))) [some (.d (codeD c)), some (.c 0), some (.c 1), none, some (.d (.tuple (lostL c))), none] [.dt (dtL l), .lst (endedL c)] = .nx [some (.d (codeD c)), some (.c 0), some (.c 1), none, some (.d (.tuple (lostL c))), none] [.dt (dtL l), .lst (endedL c)] := k2
  simp [f__law_asked, runBody, m__law_asked, eCallK, pick, h1, ln, i0, rangeD_0, k1', e3, p1, p2, p3, p4, k2', fTuple, toS, toD]
end K09
namespace K09
open Sh PySem L2
def shK (a : Nat) (row : List Int) : List (Key × PyData) := [(.inr "at", .int (a : Int)), (.inr "row", .list (row.map .int))]
theorem s_ar : (("at" : Str) = "row") = False := eq_false (by decide +kernel)
theorem s_ra : (("row" : Str) = "at") = False := eq_false (by decide +kernel)
theorem get_at {a : Nat} {row : List Int} : getP (shK a row) (.inr "at") = some (.int (a : Int)) := by simp [getP, shK]
theorem get_row {a : Nat} {row : List Int} : getP (shK a row) (.inr "row") = some (.list (row.map .int)) := by simp [getP, shK, s_ar]
theorem put_at {a : Nat} {row : List Int} {x : Nat} : putP (shK a row) (.inr "at") (.int (x : Int)) = shK x row := by simp [putP, shK, s_ra]
theorem dget_eq {cs : CS} {env : Sh.Env} {md : ME} {n : Nat} {kvs : List (Key × PyData)} {x : Str} {v : PyData} (hd : md env cs = .ok (.c n) cs) (hc : cs[n]? = some (.dk kvs)) (h : getP kvs (.inr x) = some v) : eDGet md (eC (.str x)) env cs = .ok (.d v) cs := by
  simp [eDGet, hd, dkOf_c hc, keyA, h]
theorem fMod_nat {cs : CS} {a b : Nat} (h : 0 < b) : fMod (.d (.int (a : Int))) (.d (.int (b : Int))) cs = .ok (.d (.int ((a % b : Nat) : Int))) cs := by
  rw [fMod_int (by omega), Int.natCast_emod]
theorem fDiv_nat {cs : CS} {a b : Nat} (h : 0 < b) (h2 : b ≤ 1000000) : fDiv (.d (.int (a : Int))) (.d (.int (b : Int))) cs = .ok (.d (.int ((a / b : Nat) : Int))) cs := by
  rw [fDiv_int (by omega), Int.natCast_ediv]
  unfold divOk
  refine decide_eq_true ?_
  rw [Int.natAbs_natCast]
  have : b.log2 ≤ 20 := by
    by_cases hb : b = 0
    · subst hb; decide
    · have := (Nat.log2_lt hb (k := 20)).mpr (by omega)
      omega
  omega
theorem fMod_ok {cs : CS} {i : Int} {b : Nat} (h : 0 < b) : ∃ v : Nat, v < b ∧ fMod (.d (.int i)) (.d (.int (b : Int))) cs = .ok (.d (.int (v : Int))) cs := by
  have h1 := Int.emod_nonneg i (show (b : Int) ≠ 0 by omega)
  have h2 := Int.emod_lt_of_pos i (show (0 : Int) < b by omega)
  exact ⟨(i % b).toNat, by omega, by rw [fMod_int (by omega), Int.toNat_of_nonneg h1]⟩
structure RowOk (row : List Int) : Prop where
  ne : 0 < row.length
  few : row.length ≤ 1000000
theorem pull_eq {row : List Int} (hr : RowOk row) {a many : Nat} (ha : a ≤ 1000000) (hm : 0 < many) (rest : CS) : ∃ v : Nat, v < many ∧ f__law_pull [.c 0, .d (.int (many : Int))] (.dk (shK a row) :: rest) = .ok (.d (.int (v : Int))) (.dk (shK (a + 1) row) :: rest) := by
  have h1 : eDGet (eVar 0) (eC (.str "at")) [some (.c 0), some (.d (.int (many : Int))), none, none, none, none] (.dk (shK a row) :: rest) = .ok (.d (.int (a : Int))) (.dk (shK a row) :: rest) := dget_eq (n := 0) (by simp) rfl get_at
  have h2 : ∀ x2 x3 x4 x5, eDGet (eVar 0) (eC (.str "row")) [some (.c 0), some (.d (.int (many : Int))), x2, x3, x4, x5] (.dk (shK (a + 1) row) :: rest) = .ok (.d (.list (row.map .int))) (.dk (shK (a + 1) row) :: rest) := fun _ _ _ _ => dget_eq (n := 0) (by simp) rfl get_row
  have h3 : Sh.sDPut (eVar 0) (eC (.str "at")) (eBin fAdd (eVar 2) (eC (.int 1))) [some (.c 0), some (.d (.int (many : Int))), some (.d (.int (a : Int))), none, none, none] (.dk (shK a row) :: rest) = .nx [some (.c 0), some (.d (.int (many : Int))), some (.d (.int (a : Int))), none, none, none] (.dk (shK (a + 1) row) :: rest) := by
    have hp := put_at (a := a) (row := row) (x := a + 1)
    have e : ((a : Int) + 1) = ((a + 1 : Nat) : Int) := by omega
    have hs : (shK a row).length < sizeLine := size_lt (by show 2 ≤ 1000000; omega)
    simp only [Sh.sDPut, eBin_at, eVar_at, eC_at, List.getElem?_cons_succ, List.getElem?_cons_zero, R.bind_ok, R.toS_ok, fAdd_int, dkOf, keyA, e, hp, hs, if_true, List.set_cons_zero]
  have h4 := fMod_nat (cs := .dk (shK (a + 1) row) :: rest) (a := a) hr.ne
  have h5 := fDiv_nat (cs := .dk (shK (a + 1) row) :: rest) (a := a) hr.ne hr.few
  have hlt : a % row.length < row.length := Nat.mod_lt _ hr.ne
  have h6 : fIx (.d (.list (row.map .int))) (.d (.int ((a % row.length : Nat) : Int))) (.dk (shK (a + 1) row) :: rest) = .ok (.d (.int row[a % row.length])) (.dk (shK (a + 1) row) :: rest) := fIx_ln (by rw [List.getElem?_map, List.getElem?_eq_getElem hlt]; rfl)
  have ht : a / row.length ≤ a := Nat.div_le_self _ _
  obtain ⟨v, v1, v2⟩ := fMod_ok (cs := .dk (shK (a + 1) row) :: rest) (i := row[a % row.length]) hm
  obtain ⟨v', v1', v2'⟩ := fMod_ok (cs := .dk (shK (a + 1) row) :: rest) (i := row[a % row.length] + ((a / row.length : Nat) : Int) * ((a : Int) + 7) * (((a / row.length : Nat) : Int) + ((a % row.length : Nat) : Int) + 1)) hm
  have hu : a % row.length ≤ a := Nat.mod_le _ _
  generalize row[a % row.length] = book at *
  generalize a / row.length = t at *
  generalize a % row.length = u at *
  have m1 := fMul_int (cs := .dk (shK (a + 1) row) :: rest) (i := (t : Int)) (j := (a : Int) + 7) (mulOk_small (by omega))
  have m2 := fMul_int (cs := .dk (shK (a + 1) row) :: rest) (i := (t : Int) * ((a : Int) + 7)) (j := (t : Int) + (u : Int) + 1) (mulOk_small (by omega))
  by_cases hz : t = 0
  · subst hz
    refine ⟨v, v1, ?_⟩
    simp only [f__law_pull, runBody, m__law_pull]
    simp [h1, h2, h3, h4, h5, h6, v2]
  · refine ⟨v', v1', ?_⟩
    have hz' : ¬ ((t : Int) = 0) := by omega
    simp only [f__law_pull, runBody, m__law_pull]
    simp [h1, h2, h3, h4, h5, h6, m1, m2, v2', hz, hz']
end K09
namespace K09
open Sh PySem L2
structure RowR (procs many : Nat) (r : Row) : Prop where
  few : r.nexts.length ≤ 3
  lt : ∀ n ∈ r.nexts, n < many
  call : ∀ p n, r = .call p n → p < procs
theorem pulls_lc {row : List Int} (hr : RowOk row) {many : Nat} (hm : 0 < many) {env : Sh.Env} (h0 : env[0]? = some (some (.c 0))) (h6 : env[6]? = some (some (.d (.int (many : Int))))) (h11 : env.length = 12) (rest : CS) : ∀ (ys : List Nat) (a : Nat), a + ys.length ≤ 1000000 →
    ∃ ws : List Nat, ws.length = ys.length ∧ (∀ w ∈ ws, w < many) ∧ lcIt (tgName 11) tYesM (eCall 2 (f__law_pull) (aCons (eVar 0) (aCons (eVar 6) aNil))) env (ys.map fun (n : Nat) => A.d (.int (n : Int))) (.dk (shK a row) :: rest) = .ok (nsD ws) (.dk (shK (a + ys.length) row) :: rest)
  | [], a, _ => ⟨[], rfl, (fun w hw => by cases hw), rfl⟩
  | y :: ys, a, h => by
    rw [List.length_cons] at h
    obtain ⟨v, v1, v2⟩ := pull_eq hr (a := a) (by omega) hm rest
    obtain ⟨ws, w1, w2, w3⟩ := pulls_lc hr hm h0 h6 h11 rest ys (a + 1) (by omega)
    refine ⟨v :: ws, by simp [w1], fun w hw => (List.mem_cons.mp hw).elim (fun e => e ▸ v1) (w2 w), ?_⟩
    have g0 : (env.set 11 (some (.d (.int (y : Int)))))[0]? = some (some (.c 0)) := by rw [List.getElem?_set_ne (by decide)]; exact h0
    have g6 : (env.set 11 (some (.d (.int (y : Int)))))[6]? = some (some (.d (.int (many : Int)))) := by rw [List.getElem?_set_ne (by decide)]; exact h6
    rw [List.map_cons]
    unfold lcIt
    have e : a + 1 + ys.length = a + (ys.length + 1) := by omega
    rw [e] at w3
    simp [g0, g6, v2, w3]
abbrev choiceE : ME := eFn fTuple (aCons (eLc [11] (iRange1 (aCons (eBin fAdd (eC (.int 2)) (eCall 2 (f__law_pull) (aCons (eVar 0) (aCons (eC (.int 2)) aNil)))) aNil)) (tgName 11) tYesM (eCall 2 (f__law_pull) (aCons (eVar 0) (aCons (eVar 6) aNil)))) aNil)
theorem choice_eq {row : List Int} (hr : RowOk row) {many : Nat} (hm : 0 < many) {x1 x2 x3 x4 x5 x7 x8 x9 x10 : Option A} {a : Nat} (ha : a ≤ 900000) (rest : CS) :
    ∃ (ws : List Nat) (a' : Nat), ws.length ≤ 3 ∧ (∀ w ∈ ws, w < many) ∧ a ≤ a' ∧ a' ≤ a + 4 ∧ choiceE [some (.c 0), x1, x2, x3, x4, x5, some (.d (.int (many : Int))), x7, x8, x9, x10, none] (.dk (shK a row) :: rest) = .ok (.d (.tuple (nsD ws))) (.dk (shK a' row) :: rest) := by
  obtain ⟨v, v1, v2⟩ := pull_eq hr (a := a) (many := 2) (by omega) (by omega) rest
  obtain ⟨ws, w1, w2, w3⟩ := pulls_lc hr hm (env := [some (.c 0), x1, x2, x3, x4, x5, some (.d (.int (many : Int))), x7, x8, x9, x10, none]) rfl rfl rfl rest (List.range (2 + v)) (a + 1) (by simp; omega)
  rw [List.length_range] at w1 w3
  refine ⟨ws, a + 1 + (2 + v), by omega, w2, by omega, by omega, ?_⟩
  have i1 : inR (((2 + v : Nat)) : Int) = true := inR_of (by omega) (by omega)
  have e : ((2 : Int) + (v : Int)) = ((2 + v : Nat) : Int) := by omega
  have v2' : f__law_pull [.c 0, .d (.int 2)] (.dk (shK a row) :: rest) = .ok (.d (.int (v : Int))) (.dk (shK (a + 1) row) :: rest) := v2
  have hs : 2 + v ≤ sizeLine := size_ok (by omega)
  simp only [eFn_at, aCons_at, aNil_at, eLc, iRange1_at, eBin_at, eC_at, eCall_at, eVar_at, List.getElem?_cons_succ, List.getElem?_cons_zero, R.bind_ok, List.length_cons, List.length_nil, Nat.zero_add, Nat.reduceAdd, if_true, v2', fAdd_int, e, i1, Int.toNat_natCast, rangeD_0, lcS, List.length_map, List.length_range, hs, List.reverse_cons, List.reverse_nil, List.nil_append, wipeE_cons, wipeE_nil, List.set_cons_succ, List.set_cons_zero, w3, fTuple_l]
abbrev rowBody : MS := (sSeq (sAsg (eCall 2 (f__law_pull) (aCons (eVar 0) (aCons (eC (.int 8)) aNil))) (tgName 9))
  (sSeq (sAsg (eFn fInt (aCons (eBin fMod (eBin fAdd (eVar 8) (eC (.int 1))) (eVar 6)) aNil)) (tgName 10))
  (sIf (tAndM (tOf (eBin fEq (eVar 8) (eBin fSub (eVar 6) (eC (.int 1))))) (tOf (eBin fGt (eVar 7) (eC (.int 0)))))
  (sDrop (eMeth "list" mAppend (eVar 5) (aCons (eTup (aCons (eC (.str "return")) aNil)) aNil)))
  (sIf (tOf (eBin fLt (eVar 9) (eC (.int 2))))
  (sDrop (eMeth "list" mAppend (eVar 5) (aCons (eTup (aCons (eC (.str "deed")) (aCons (eTup (aCons (eBin fAdd (eC (.int 1)) (eVar 9)) aNil)) (aCons (eIf (tOf (eBin fNe (eVar 7) (eC (.int 2)))) (eVar 10) (eCall 2 (f__law_pull) (aCons (eVar 0) (aCons (eVar 6) aNil)))) aNil)))) aNil)))
  (sIf (tOf (eBin fLt (eVar 9) (eC (.int 5))))
  (sDrop (eMeth "list" mAppend (eVar 5) (aCons (eTup (aCons (eC (.str "call")) (aCons (eCall 2 (f__law_pull) (aCons (eVar 0) (aCons (eVar 1) aNil))) (aCons (eIf (tOf (eBin fNe (eVar 7) (eC (.int 2)))) (eVar 10) (eCall 2 (f__law_pull) (aCons (eVar 0) (aCons (eVar 6) aNil)))) aNil)))) aNil)))
  (sIf (tOf (eBin fLt (eVar 9) (eC (.int 7))))
  (sDrop (eMeth "list" mAppend (eVar 5) (aCons (eTup (aCons (eC (.str "choose")) (aCons choiceE aNil))) aNil)))
  (sDrop (eMeth "list" mAppend (eVar 5) (aCons (eTup (aCons (eC (.str "return")) aNil)) aNil)))))))))
/-- the near row, or a drawn one -/
theorem near_eq {row : List Int} (hr : RowOk row) {many near : Nat} (hm : 0 < many) (hn : near < many) {habit : Int} {x1 x2 x3 x4 x5 x8 x9 x11 : Option A} {a : Nat} (ha : a ≤ 900000) (rest : CS) :
    ∃ (v a' : Nat), v < many ∧ a ≤ a' ∧ a' ≤ a + 1 ∧ (eIf (tOf (eBin fNe (eVar 7) (eC (.int 2)))) (eVar 10) (eCall 2 (f__law_pull) (aCons (eVar 0) (aCons (eVar 6) aNil)))) [some (.c 0), x1, x2, x3, x4, x5, some (.d (.int (many : Int))), some (.d (.int habit)), x8, x9, some (.d (.int (near : Int))), x11] (.dk (shK a row) :: rest) = .ok (.d (.int (v : Int))) (.dk (shK a' row) :: rest) := by
  by_cases h : habit = 2
  · obtain ⟨v, v1, v2⟩ := pull_eq hr (a := a) (by omega) hm rest
    exact ⟨v, a + 1, v1, by omega, by omega, by simp [h, v2]⟩
  · exact ⟨near, a, hn, by omega, by omega, by simp [h]⟩
theorem sIf_tt {t : MT} {m n : MS} {env : Sh.Env} {cs : CS} (h : t env cs = .ok true cs) : sIf t m n env cs = m env cs := by simp [h]
theorem sIf_ff {t : MT} {m n : MS} {env : Sh.Env} {cs : CS} (h : t env cs = .ok false cs) : sIf t m n env cs = n env cs := by simp [h]
theorem drop_app {mo me : ME} {env : Sh.Env} {cs cs' : CS} {k : Nat} {x : PyData} (ho : mo env cs = .ok (.c k) cs) (ty : tyA cs (.c k) "list" = true) {cs1 : CS} (hx : me env cs = .ok (.d x) cs1) (ha : mAppend (.c k) [.d x] cs1 = .ok (.d .none) cs') : sDrop (eMeth "list" mAppend mo (aCons me aNil)) env cs = .nx env cs' := by simp [ho, ty, hx, ha]
theorem eTup3 {m1 m2 m3 : ME} {env : Sh.Env} {cs cs' : CS} {x y z : PyData} (h1 : m1 env cs = .ok (.d x) cs) (h2 : m2 env cs = .ok (.d y) cs) (h3 : m3 env cs = .ok (.d z) cs') : eTup (aCons m1 (aCons m2 (aCons m3 aNil))) env cs = .ok (.d (.tuple [x, y, z])) cs' := by simp [h1, h2, h3]
theorem row_turn {row : List Int} (hr : RowOk row) {procs many habit at' : Nat} (hp : 0 < procs) (hm : 0 < many) {x2 x3 x4 : Option A} {a : Nat} (ha : a ≤ 800000) (mid : CS) (rows : List Row) (hl : rows.length ≤ 1000) :
    ∃ (r : Row) (a' : Nat), RowR procs many r ∧ a ≤ a' ∧ a' ≤ a + 8 ∧
      Goes (turn (tgName 8) rowBody (.d (.int (at' : Int))) [some (.c 0), some (.d (.int (procs : Int))), x2, x3, x4, some (.c (mid.length + 1)), some (.d (.int (many : Int))), some (.d (.int (habit : Int))), none, none, none, none] (.dk (shK a row) :: (mid ++ [.lst (rows.map Row.D)]))) [9, 10, 8]
        [some (.c 0), some (.d (.int (procs : Int))), x2, x3, x4, some (.c (mid.length + 1)), some (.d (.int (many : Int))), some (.d (.int (habit : Int))), none, none, none, none] (.dk (shK a' row) :: (mid ++ [.lst ((rows ++ [r]).map Row.D)])) := by
  have hsz : (rows.map Row.D).length < sizeLine := by rw [List.length_map]; exact size_lt (by omega)
  obtain ⟨kind, kd1, kd2⟩ := pull_eq hr (a := a) (many := 8) (by omega) (by omega) (mid ++ [.lst (rows.map Row.D)])
  have kd2' : f__law_pull [.c 0, .d (.int 8)] (.dk (shK a row) :: (mid ++ [.lst (rows.map Row.D)])) = .ok (.d (.int (kind : Int))) (.dk (shK (a + 1) row) :: (mid ++ [.lst (rows.map Row.D)])) := kd2
  have nr := fMod_nat (cs := .dk (shK (a + 1) row) :: (mid ++ [.lst (rows.map Row.D)])) (a := at' + 1) hm
  have nlt : (at' + 1) % many < many := Nat.mod_lt _ hm
  have ea : ((at' + 1 : Nat) : Int) = (at' : Int) + 1 := by omega
  rw [ea] at nr
  generalize (at' + 1) % many = near at nr nlt
  have app : ∀ (b : Nat) (r : Row), mAppend (.c (mid.length + 1)) [.d r.D] (.dk (shK b row) :: (mid ++ [.lst (rows.map Row.D)])) = .ok (.d .none) (.dk (shK b row) :: (mid ++ [.lst ((rows ++ [r]).map Row.D)])) := fun b r => by
    rw [mAppend_c (xs := rows.map Row.D) (by simp) hsz]
    simp
  have ty : ∀ b : Nat, tyA (.dk (shK b row) :: (mid ++ [.lst (rows.map Row.D)])) (.c (mid.length + 1)) "list" = true := fun b => tyA_c (xs := rows.map Row.D) (by simp)
  -- the frame behind the two first statements
  have fin : ∀ {r : Row} {a' : Nat} {T : MS}, T = (sIf (tAndM (tOf (eBin fEq (eVar 8) (eBin fSub (eVar 6) (eC (.int 1))))) (tOf (eBin fGt (eVar 7) (eC (.int 0)))))
      (sDrop (eMeth "list" mAppend (eVar 5) (aCons (eTup (aCons (eC (.str "return")) aNil)) aNil)))
      (sIf (tOf (eBin fLt (eVar 9) (eC (.int 2))))
      (sDrop (eMeth "list" mAppend (eVar 5) (aCons (eTup (aCons (eC (.str "deed")) (aCons (eTup (aCons (eBin fAdd (eC (.int 1)) (eVar 9)) aNil)) (aCons (eIf (tOf (eBin fNe (eVar 7) (eC (.int 2)))) (eVar 10) (eCall 2 (f__law_pull) (aCons (eVar 0) (aCons (eVar 6) aNil)))) aNil)))) aNil)))
      (sIf (tOf (eBin fLt (eVar 9) (eC (.int 5))))
      (sDrop (eMeth "list" mAppend (eVar 5) (aCons (eTup (aCons (eC (.str "call")) (aCons (eCall 2 (f__law_pull) (aCons (eVar 0) (aCons (eVar 1) aNil))) (aCons (eIf (tOf (eBin fNe (eVar 7) (eC (.int 2)))) (eVar 10) (eCall 2 (f__law_pull) (aCons (eVar 0) (aCons (eVar 6) aNil)))) aNil)))) aNil)))
      (sIf (tOf (eBin fLt (eVar 9) (eC (.int 7))))
      (sDrop (eMeth "list" mAppend (eVar 5) (aCons (eTup (aCons (eC (.str "choose")) (aCons choiceE aNil))) aNil)))
      (sDrop (eMeth "list" mAppend (eVar 5) (aCons (eTup (aCons (eC (.str "return")) aNil)) aNil))))))) →
      T [some (.c 0), some (.d (.int (procs : Int))), x2, x3, x4, some (.c (mid.length + 1)), some (.d (.int (many : Int))), some (.d (.int (habit : Int))), some (.d (.int (at' : Int))), some (.d (.int (kind : Int))), some (.d (.int (near : Int))), none] (.dk (shK (a + 1) row) :: (mid ++ [.lst (rows.map Row.D)])) =
        .nx [some (.c 0), some (.d (.int (procs : Int))), x2, x3, x4, some (.c (mid.length + 1)), some (.d (.int (many : Int))), some (.d (.int (habit : Int))), some (.d (.int (at' : Int))), some (.d (.int (kind : Int))), some (.d (.int (near : Int))), none] (.dk (shK a' row) :: (mid ++ [.lst ((rows ++ [r]).map Row.D)])) →
      Goes (turn (tgName 8) rowBody (.d (.int (at' : Int))) [some (.c 0), some (.d (.int (procs : Int))), x2, x3, x4, some (.c (mid.length + 1)), some (.d (.int (many : Int))), some (.d (.int (habit : Int))), none, none, none, none] (.dk (shK a row) :: (mid ++ [.lst (rows.map Row.D)]))) [9, 10, 8]
        [some (.c 0), some (.d (.int (procs : Int))), x2, x3, x4, some (.c (mid.length + 1)), some (.d (.int (many : Int))), some (.d (.int (habit : Int))), none, none, none, none] (.dk (shK a' row) :: (mid ++ [.lst ((rows ++ [r]).map Row.D)])) := fun {r a' T} hT h => by
    rw [turn_at]
    simp only [tgName_at, List.set_cons_succ, List.set_cons_zero]
    unfold rowBody
    rw [sSeq_nx (env1 := [some (.c 0), some (.d (.int (procs : Int))), x2, x3, x4, some (.c (mid.length + 1)), some (.d (.int (many : Int))), some (.d (.int (habit : Int))), some (.d (.int (at' : Int))), some (.d (.int (kind : Int))), none, none]) (cs1 := .dk (shK (a + 1) row) :: (mid ++ [.lst (rows.map Row.D)])) (by simp [kd2'])]
    rw [sSeq_nx (env1 := [some (.c 0), some (.d (.int (procs : Int))), x2, x3, x4, some (.c (mid.length + 1)), some (.d (.int (many : Int))), some (.d (.int (habit : Int))), some (.d (.int (at' : Int))), some (.d (.int (kind : Int))), some (.d (.int (near : Int))), none]) (cs1 := .dk (shK (a + 1) row) :: (mid ++ [.lst (rows.map Row.D)])) (by simp [nr])]
    rw [← hT, h]
    simp
  have t1 : ∀ (b : Bool), b = decide ((at' : Int) = (many : Int) - 1 ∧ 0 < habit) → (tAndM (tOf (eBin fEq (eVar 8) (eBin fSub (eVar 6) (eC (.int 1))))) (tOf (eBin fGt (eVar 7) (eC (.int 0))))) [some (.c 0), some (.d (.int (procs : Int))), x2, x3, x4, some (.c (mid.length + 1)), some (.d (.int (many : Int))), some (.d (.int (habit : Int))), some (.d (.int (at' : Int))), some (.d (.int (kind : Int))), some (.d (.int (near : Int))), none] (.dk (shK (a + 1) row) :: (mid ++ [.lst (rows.map Row.D)])) = .ok b (.dk (shK (a + 1) row) :: (mid ++ [.lst (rows.map Row.D)])) := fun b hb => by
    subst hb
    by_cases q : (at' : Int) = (many : Int) - 1
    · simp [q]
    · simp [q]
  have t2 : ∀ (c : Nat) (i : Int), i = (c : Int) → (tOf (eBin fLt (eVar 9) (eC (.int i)))) [some (.c 0), some (.d (.int (procs : Int))), x2, x3, x4, some (.c (mid.length + 1)), some (.d (.int (many : Int))), some (.d (.int (habit : Int))), some (.d (.int (at' : Int))), some (.d (.int (kind : Int))), some (.d (.int (near : Int))), none] (.dk (shK (a + 1) row) :: (mid ++ [.lst (rows.map Row.D)])) = .ok (decide (kind < c)) (.dk (shK (a + 1) row) :: (mid ++ [.lst (rows.map Row.D)]))   := fun c i hi => by subst hi; simp
  have ap := app (a + 1) .ret
  simp only [Row.D] at ap
  by_cases c1 : ((at' : Int) = (many : Int) - 1 ∧ 0 < habit)
  · refine ⟨.ret, a + 1, ⟨by simp [Row.nexts], (fun n hn => by cases hn), (fun p n e => by cases e)⟩, by omega, by omega, fin rfl ?_⟩
    rw [sIf_tt (t1 true (by simp [c1]))]
    exact drop_app (by simp) (ty _) (x := .tuple [.str "return"]) (by simp) ap
  · have f1 := t1 false (by simp only [c1, decide_false])
    by_cases k2 : kind < 2
    · obtain ⟨v, a', v1, v2, v3, v4⟩ := near_eq hr hm nlt (habit := (habit : Int)) (x1 := some (.d (.int (procs : Int)))) (x2 := x2) (x3 := x3) (x4 := x4) (x5 := some (.c (mid.length + 1))) (x8 := some (.d (.int (at' : Int)))) (x9 := some (.d (.int (kind : Int)))) (x11 := none) (a := a + 1) (by omega) (mid ++ [.lst (rows.map Row.D)])
      refine ⟨.deed (.tuple [.int (1 + (kind : Int))]) v, a', ⟨by simp [Row.nexts], (fun n hn => by simp [Row.nexts] at hn; omega), (fun p n e => by cases e)⟩, by omega, by omega, fin rfl ?_⟩
      have e2 := t2 2 2 rfl
      rw [decide_eq_true k2] at e2
      rw [sIf_ff f1, sIf_tt e2]
      refine drop_app (by simp) (ty _) (x := (Row.deed (.tuple [.int (1 + (kind : Int))]) v).D) (cs1 := .dk (shK a' row) :: (mid ++ [.lst (rows.map Row.D)])) ?_ (app a' _)
      exact eTup3 (by simp) (by simp) v4
    · have e2 := t2 2 2 rfl
      rw [decide_eq_false k2] at e2
      by_cases k5 : kind < 5
      · obtain ⟨p, p1, p2⟩ := pull_eq hr (a := a + 1) (by omega) hp (mid ++ [.lst (rows.map Row.D)])
        obtain ⟨v, a', v1, v2, v3, v4⟩ := near_eq hr hm nlt (habit := (habit : Int)) (x1 := some (.d (.int (procs : Int)))) (x2 := x2) (x3 := x3) (x4 := x4) (x5 := some (.c (mid.length + 1))) (x8 := some (.d (.int (at' : Int)))) (x9 := some (.d (.int (kind : Int)))) (x11 := none) (a := a + 1 + 1) (by omega) (mid ++ [.lst (rows.map Row.D)])
        refine ⟨.call p v, a', ⟨by simp [Row.nexts], (fun n hn => by simp [Row.nexts] at hn; omega), (fun p' n e => by cases e; exact p1)⟩, by omega, by omega, fin rfl ?_⟩
        have e5 := t2 5 5 rfl
        rw [decide_eq_true k5] at e5
        rw [sIf_ff f1, sIf_ff e2, sIf_tt e5]
        refine drop_app (by simp) (ty _) (x := (Row.call p v).D) (cs1 := .dk (shK a' row) :: (mid ++ [.lst (rows.map Row.D)])) ?_ (app a' _)
        have p3 : eCall 2 f__law_pull (aCons (eVar 0) (aCons (eVar 1) aNil)) [some (.c 0), some (.d (.int (procs : Int))), x2, x3, x4, some (.c (mid.length + 1)), some (.d (.int (many : Int))), some (.d (.int (habit : Int))), some (.d (.int (at' : Int))), some (.d (.int (kind : Int))), some (.d (.int (near : Int))), none] (.dk (shK (a + 1) row) :: (mid ++ [.lst (rows.map Row.D)])) = .ok (.d (.int (p : Int))) (.dk (shK (a + 1 + 1) row) :: (mid ++ [.lst (rows.map Row.D)])) := by simp [p2]
        simp only [eTup_at, aCons_at, eC_at, R.bind_ok, aNil_at, v4, ← eCall_at] at p3 ⊢
        rw [p3]
        simp only [R.bind_ok, v4]
        simp [Row.D]
      · have e5 := t2 5 5 rfl
        rw [decide_eq_false k5] at e5
        by_cases k7 : kind < 7
        · obtain ⟨ws, a', v1, v2, v3, v4, v5⟩ := choice_eq hr hm (x1 := some (.d (.int (procs : Int)))) (x2 := x2) (x3 := x3) (x4 := x4) (x5 := some (.c (mid.length + 1))) (x7 := some (.d (.int (habit : Int)))) (x8 := some (.d (.int (at' : Int)))) (x9 := some (.d (.int (kind : Int)))) (x10 := some (.d (.int (near : Int)))) (a := a + 1) (by omega) (mid ++ [.lst (rows.map Row.D)])
          refine ⟨.choose ws, a', ⟨v1, v2, (fun p n e => by cases e)⟩, by omega, by omega, fin rfl ?_⟩
          have e7 := t2 7 7 rfl
          rw [decide_eq_true k7] at e7
          rw [sIf_ff f1, sIf_ff e2, sIf_ff e5, sIf_tt e7]
          refine drop_app (by simp) (ty _) (x := (Row.choose ws).D) (cs1 := .dk (shK a' row) :: (mid ++ [.lst (rows.map Row.D)])) ?_ (app a' _)
          simp only [eTup_at, aCons_at, eC_at, R.bind_ok, aNil_at]
          rw [v5]
          simp [Row.D]
        · refine ⟨.ret, a + 1, ⟨by simp [Row.nexts], (fun n hn => by cases hn), (fun p n e => by cases e)⟩, by omega, by omega, fin rfl ?_⟩
          have e7 := t2 7 7 rfl
          rw [decide_eq_false k7] at e7
          rw [sIf_ff f1, sIf_ff e2, sIf_ff e5, sIf_ff e7]
          exact drop_app (by simp) (ty _) (x := .tuple [.str "return"]) (by simp) ap
end K09
namespace K09
open Sh PySem L2
abbrev procBody : MS := (sSeq (sParL [5, 6] (aCons (eLstC aNil) (aCons (eBin fAdd (eC (.int 1)) (eCall 2 (f__law_pull) (aCons (eVar 0) (aCons (eVar 2) aNil)))) aNil)))
  (sSeq (sAsg (eCall 2 (f__law_pull) (aCons (eVar 0) (aCons (eC (.int 4)) aNil))) (tgName 7))
  (sSeq (sFor 1000000000 [9, 10, 8] (iRange1 (aCons (eVar 6) aNil)) (tgName 8) rowBody)
  (sDrop (eMeth "list" mAppend (eVar 3) (aCons (eFn fTuple (aCons (eVar 5) aNil)) aNil))))))
theorem proc_turn {row : List Int} (hr : RowOk row) {procs most which : Nat} (hp : 0 < procs) (hm : 0 < most) (hmost : most ≤ 100) {a : Nat} (ha : a ≤ 700000) (codes : Code) (hc : codes.length ≤ 1000) (junk : CS) :
    ∃ (rs : List Row) (a' : Nat) (c : Cell), 0 < rs.length ∧ rs.length ≤ most ∧ (∀ r ∈ rs, RowR procs rs.length r) ∧ a' ≤ a + 2 + 8 * most ∧
      Goes (turn (tgName 4) procBody (.d (.int (which : Int))) [some (.c 0), some (.d (.int (procs : Int))), some (.d (.int (most : Int))), some (.c 1), none, none, none, none, none, none, none, none] (.dk (shK a row) :: .lst (codes.map rowsD) :: junk)) [5, 6, 7, 8, 9, 10, 4]
        [some (.c 0), some (.d (.int (procs : Int))), some (.d (.int (most : Int))), some (.c 1), none, none, none, none, none, none, none, none] (.dk (shK a' row) :: .lst ((codes ++ [rs]).map rowsD) :: (junk ++ [c])) := by
  obtain ⟨v, v1, v2⟩ := pull_eq hr (a := a) (by omega) hm (.lst (codes.map rowsD) :: (junk ++ [.lst []]))
  obtain ⟨habit, h1, h2⟩ := pull_eq hr (a := a + 1) (many := 4) (by omega) (by omega) (.lst (codes.map rowsD) :: (junk ++ [.lst []]))
  have h2' : f__law_pull [.c 0, .d (.int 4)] (.dk (shK (a + 1) row) :: .lst (codes.map rowsD) :: (junk ++ [.lst []])) = .ok (.d (.int (habit : Int))) (.dk (shK (a + 1 + 1) row) :: .lst (codes.map rowsD) :: (junk ++ [.lst []])) := h2
  have em : (1 : Int) + (v : Int) = ((v + 1 : Nat) : Int) := by omega
  obtain ⟨⟨a', rows⟩, k1, k2, k3, k4⟩ := forIt_inv (tg := tgName 8) (body := rowBody) (fg := [9, 10, 8]) (fun (n : Nat) => A.d (.int (n : Int)))
    (fun _ : Nat × List Row => [some (.c 0), some (.d (.int (procs : Int))), some (.d (.int (most : Int))), some (.c 1), some (.d (.int (which : Int))), some (.c (junk.length + 1 + 1)), some (.d (.int ((v + 1 : Nat) : Int))), some (.d (.int (habit : Int))), none, none, none, none])
    (fun s => .dk (shK s.1 row) :: ((.lst (codes.map rowsD) :: junk) ++ [.lst (s.2.map Row.D)]))
    (fun rest s => s.2.length + rest.length = v + 1 ∧ (∀ r ∈ s.2, RowR procs (v + 1) r) ∧ s.1 ≤ a + 2 + 8 * s.2.length)
    (fun y rest s ⟨j1, j2, j3⟩ => by
      rw [List.length_cons] at j1
      obtain ⟨r, a', r1, r2, r3, r4⟩ := row_turn hr (procs := procs) (many := v + 1) (habit := habit) (at' := y) hp (by omega) (x2 := some (.d (.int (most : Int)))) (x3 := some (.c 1)) (x4 := some (.d (.int (which : Int)))) (a := s.1) (by omega) (.lst (codes.map rowsD) :: junk) s.2 (by omega)
      refine ⟨(a', s.2 ++ [r]), ⟨by simp; omega, fun r' hr' => ?_, by simp; omega⟩, r4⟩
      rcases List.mem_append.mp hr' with z | z
      · exact j2 r' z
      · simp at z; subst z; exact r1) (List.range (v + 1)) (a + 1 + 1, []) ⟨by simp, (fun r h => by cases h), by simp⟩
  simp only [List.length_nil, Nat.add_zero] at k2
  refine ⟨rows, a', .lst (rows.map Row.D), by omega, by omega, by rw [k2]; exact k3, by have : a' ≤ a + 2 + 8 * rows.length := k4; omega, ?_⟩
  have k1' : forIt (tgName 8) rowBody [9, 10, 8] ((List.range (v + 1)).map fun (n : Nat) => A.d (.int (n : Int))) [some (.c 0), some (.d (.int (procs : Int))), some (.d (.int (most : Int))), some (.c 1), some (.d (.int (which : Int))), some (.c (junk.length + 1 + 1)), some (.d (.int ((v + 1 : Nat) : Int))), some (.d (.int (habit : Int))), none, none, none, none] (.dk (shK (a + 1 + 1) row) :: .lst (codes.map rowsD) :: (junk ++ [.lst []])) =
    .nx [some (.c 0), some (.d (.int (procs : Int))), some (.d (.int (most : Int))), some (.c 1), some (.d (.int (which : Int))), some (.c (junk.length + 1 + 1)), some (.d (.int ((v + 1 : Nat) : Int))), some (.d (.int (habit : Int))), none, none, none, none] (.dk (shK a' row) :: .lst (codes.map rowsD) :: (junk ++ [.lst (rows.map Row.D)])) := k1
  have i1 : inR ((v + 1 : Nat) : Int) = true := inR_of (by omega) (by omega)
  rw [turn_at]
  simp only [tgName_at, List.set_cons_succ, List.set_cons_zero]
  unfold procBody
  rw [sSeq_nx (env1 := [some (.c 0), some (.d (.int (procs : Int))), some (.d (.int (most : Int))), some (.c 1), some (.d (.int (which : Int))), some (.c (junk.length + 1 + 1)), some (.d (.int ((v + 1 : Nat) : Int))), none, none, none, none, none]) (cs1 := .dk (shK (a + 1) row) :: .lst (codes.map rowsD) :: (junk ++ [.lst []])) (by
    rw [← em]; simp [v2])]
  rw [sSeq_nx (env1 := [some (.c 0), some (.d (.int (procs : Int))), some (.d (.int (most : Int))), some (.c 1), some (.d (.int (which : Int))), some (.c (junk.length + 1 + 1)), some (.d (.int ((v + 1 : Nat) : Int))), some (.d (.int (habit : Int))), none, none, none, none]) (cs1 := .dk (shK (a + 1 + 1) row) :: .lst (codes.map rowsD) :: (junk ++ [.lst []])) (by
    simp [h2'])]
  rw [sSeq_nx (env1 := [some (.c 0), some (.d (.int (procs : Int))), some (.d (.int (most : Int))), some (.c 1), some (.d (.int (which : Int))), some (.c (junk.length + 1 + 1)), some (.d (.int ((v + 1 : Nat) : Int))), some (.d (.int (habit : Int))), none, none, none, none]) (cs1 := .dk (shK a' row) :: .lst (codes.map rowsD) :: (junk ++ [.lst (rows.map Row.D)])) (by
    rw [sFor_at]
    simp only [iRange1_at, aCons_at, aNil_at, eVar_at, List.getElem?_cons_succ, List.getElem?_cons_zero, R.bind_ok, i1, if_true, R.toS_ok, forS_it, Int.toNat_natCast, rangeD_0, wipeE_cons, wipeE_nil, List.set_cons_succ, List.set_cons_zero]
    exact k1')]
  have ft : fTuple [.c (junk.length + 1 + 1)] (.dk (shK a' row) :: .lst (codes.map rowsD) :: (junk ++ [.lst (rows.map Row.D)])) = .ok (.d (rowsD rows)) (.dk (shK a' row) :: .lst (codes.map rowsD) :: (junk ++ [.lst (rows.map Row.D)])) := fTuple_c (by simp)
  have ap : mAppend (.c 1) [.d (rowsD rows)] (.dk (shK a' row) :: .lst (codes.map rowsD) :: (junk ++ [.lst (rows.map Row.D)])) = .ok (.d .none) (.dk (shK a' row) :: .lst ((codes ++ [rows]).map rowsD) :: (junk ++ [.lst (rows.map Row.D)])) := by
    rw [mAppend_c (xs := codes.map rowsD) rfl (by rw [List.length_map]; exact size_lt (by omega))]
    simp
  rw [drop_app (k := 1) (cs' := .dk (shK a' row) :: .lst ((codes ++ [rows]).map rowsD) :: (junk ++ [.lst (rows.map Row.D)])) (by simp) rfl (x := rowsD rows) (cs1 := .dk (shK a' row) :: .lst (codes.map rowsD) :: (junk ++ [.lst (rows.map Row.D)])) (by simp [ft]) ap]
  simp
theorem code_eq {row : List Int} (hr : RowOk row) {procs most : Nat} (hp : 0 < procs) (hp2 : procs ≤ 20) (hm : 0 < most) (hmost : most ≤ 100) {a : Nat} (ha : a ≤ 600000) :
    ∃ (c : Code) (a' : Nat), WF1 c ∧ a' ≤ a + 20000 ∧ f__law_code [.c 0, .d (.int (procs : Int)), .d (.int (most : Int))] [.dk (shK a row)] = .ok (.d (codeD c)) [.dk (shK a' row)] := by
  obtain ⟨⟨a', codes, junk⟩, k1, k2, k3, k4⟩ := forIt_inv (tg := tgName 4) (body := procBody) (fg := [5, 6, 7, 8, 9, 10, 4]) (fun (n : Nat) => A.d (.int (n : Int)))
    (fun _ : Nat × Code × CS => [some (.c 0), some (.d (.int (procs : Int))), some (.d (.int (most : Int))), some (.c 1), none, none, none, none, none, none, none, none])
    (fun s => .dk (shK s.1 row) :: .lst (s.2.1.map rowsD) :: s.2.2)
    (fun rest s => s.2.1.length + rest.length = procs ∧ (∀ rs ∈ s.2.1, 0 < rs.length ∧ rs.length ≤ most ∧ ∀ r ∈ rs, RowR procs rs.length r) ∧ s.1 ≤ a + 802 * s.2.1.length)
    (fun y rest s ⟨j1, j2, j3⟩ => by
      rw [List.length_cons] at j1
      obtain ⟨rs, a', c, r1, r2, r3, r4, r5⟩ := proc_turn hr (which := y) hp hm hmost (a := s.1) (by omega) s.2.1 (by omega) s.2.2
      refine ⟨(a', s.2.1 ++ [rs], s.2.2 ++ [c]), ⟨by simp; omega, fun rs' h => ?_, by simp; omega⟩, r5⟩
      rcases List.mem_append.mp h with z | z
      · exact j2 rs' z
      · simp at z; subst z; exact ⟨r1, r2, r3⟩) (List.range procs) (a, [], []) ⟨by simp, (fun r h => by cases h), by simp⟩
  simp only [List.length_nil, Nat.add_zero] at k2
  refine ⟨codes, a', ⟨by omega, fun rs h => ⟨(k3 rs h).1, by have := (k3 rs h).2.1; omega⟩, fun rs h r hr' => ⟨by have := ((k3 rs h).2.2 r hr').few; omega, ((k3 rs h).2.2 r hr').lt⟩, fun rs h r hr' p n e => by rw [k2]; exact ((k3 rs h).2.2 r hr').call p n e⟩, by have : a' ≤ a + 802 * codes.length := k4; omega, ?_⟩
  have k1' : forIt (tgName 4) procBody [5, 6, 7, 8, 9, 10, 4] ((List.range procs).map fun (n : Nat) => A.d (.int (n : Int))) [some (.c 0), some (.d (.int (procs : Int))), some (.d (.int (most : Int))), some (.c 1), none, none, none, none, none, none, none, none] [.dk (shK a row), .lst []] =
    .nx [some (.c 0), some (.d (.int (procs : Int))), some (.d (.int (most : Int))), some (.c 1), none, none, none, none, none, none, none, none] (.dk (shK a' row) :: .lst (codes.map rowsD) :: junk) := k1
  have i1 : inR (procs : Int) = true := inR_of (by omega) (by omega)
  have ft : fTuple [.c 1] (.dk (shK a' row) :: .lst (codes.map rowsD) :: junk) = .ok (.d (codeD codes)) (.dk (shK a' row) :: .lst (codes.map rowsD) :: junk) := fTuple_c rfl
  simp [f__law_code, runBody, m__law_code, i1, rangeD_0, k1', ft]
end K09
namespace K09
open Sh PySem L2
/-! ### _law_shelf -/
abbrev bitBody : MS := (sSeq (sDrop (eMeth "list" mAppend (eVar 1) (aCons (eFn fInt (aCons (eBin fMod (eVar 3) (eC (.int 6007))) aNil)) aNil)))
  (sSeq (sAsg (eBin fDiv (eVar 3) (eC (.int 6007))) (tgName 3))
  (sAsg (eBin fGt (eVar 3) (eC (.int 0))) (tgName 4))))
abbrev cellBody : MS := (sSeq (sAsg (eFn fInt (aCons (eVar 2) aNil)) (tgName 3))
  (sSeq (sIf (tOf (eBin fLt (eVar 3) (eC (.int 0))))
  (sAsg (eBin fSub (eC (.int 1)) (eBin fMul (eC (.int 2)) (eVar 3))) (tgName 3))
  sNext)
  (sSeq (sAsg (eFn fInt (aCons (eBin fMod (eVar 3) (eBin fShl (eC (.int 1)) (eC (.int 690)))) aNil)) (tgName 3))
  (sSeq (sAsg (eC (.bool true)) (tgName 4))
  (sWhile 1000000000 [] (tTr (eVar 4)) bitBody)))))
theorem bits_run {ns : List Int} {z : Int} (books : List Int) (hb : books.length ≤ 100000) (left : Nat) (hl : left < 2 ^ 690) :
    ∃ more : List Int, more.length ≤ 691 ∧ 0 < more.length ∧ ∃ left' : Int, whileN (tTr (eVar 4)) bitBody [] 1000000000 [some (.s ns), some (.c 0), some (.d (.int z)), some (.d (.int (left : Int))), some (.d (.bool true))] [.lst (books.map .int)] =
      .nx [some (.s ns), some (.c 0), some (.d (.int z)), some (.d (.int left')), some (.d (.bool false))] [.lst ((books ++ more).map .int)] := by
  obtain ⟨⟨more, left', k, b⟩, k1, ⟨i1, i2, i3⟩, k3⟩ := while_inv (t := tTr (eVar 4)) (body := bitBody) (fg := []) (fun s : List Int × Nat × Nat × Bool => [some (.s ns), some (.c 0), some (.d (.int z)), some (.d (.int (s.2.1 : Nat))), some (.d (.bool s.2.2.2))]) (fun s => [.lst ((books ++ s.1).map .int)])
    (fun s => s.2.1 < 2 ^ s.2.2.1 ∧ s.1.length + s.2.2.1 + (if s.2.2.2 = true then 1 else 0) ≤ 691 ∧ (s.2.2.2 = false → 0 < s.1.length)) (fun s => s.2.2.1 + (if s.2.2.2 = true then 1 else 0))
    (fun ⟨more, t, k, b⟩ ⟨i1, i2, i3⟩ => by
      cases b with
      | false => exact .inl (by simp)
      | true =>
        have i2' : more.length + k + 1 ≤ 691 := i2
        have ht : t / 6007 < 2 ^ (k - 1) := by
          have i1' : t < 2 ^ k := i1
          cases k with
          | zero => simp at i1'; subst i1'; decide
          | succ k => rw [Nat.pow_succ] at i1'; simp only [Nat.add_sub_cancel]; omega
        have hk0 : k = 0 → t / 6007 = 0 := fun e => by
          have i1' : t < 2 ^ k := i1
          subst e; simp at i1'; subst i1'; rfl
        have e1 : ∀ cs, fMod (.d (.int (t : Int))) (.d (.int ((6007 : Nat) : Int))) cs = .ok (.d (.int ((t % 6007 : Nat) : Int))) cs := fun cs => fMod_nat (by omega)
        have e2 : ∀ cs, fDiv (.d (.int (t : Int))) (.d (.int ((6007 : Nat) : Int))) cs = .ok (.d (.int ((t / 6007 : Nat) : Int))) cs := fun cs => fDiv_nat (by omega) (by omega)
        have ap : mAppend (.c 0) [.d (.int ((t % 6007 : Nat) : Int))] [.lst ((books ++ more).map .int)] = .ok (.d .none) [.lst ((books ++ (more ++ [((t % 6007 : Nat) : Int)])).map .int)] := by
          rw [mAppend_c (xs := (books ++ more).map .int) rfl (by rw [List.length_map, List.length_append]; exact size_lt (by omega))]
          simp
        refine .inr ⟨by simp, (more ++ [((t % 6007 : Nat) : Int)], t / 6007, k - 1, decide (0 < t / 6007)), ?_, ⟨ht, ?_, fun _ => by simp⟩, ?_⟩
        · generalize hu : t / 6007 = u at *
          generalize hw : t % 6007 = w at *
          have e1' : ∀ cs, fMod (.d (.int (t : Int))) (.d (.int 6007)) cs = .ok (.d (.int (w : Int))) cs := e1
          have e2' : ∀ cs, fDiv (.d (.int (t : Int))) (.d (.int 6007)) cs = .ok (.d (.int (u : Int))) cs := e2
          unfold bitBody
          rw [sSeq_nx (drop_app (k := 0) (cs' := [.lst ((books ++ (more ++ [(w : Int)])).map .int)]) (by simp) rfl (x := .int (w : Int)) (cs1 := [.lst ((books ++ more).map .int)]) (by simp [e1']) ap)]
          rw [sSeq_nx (env1 := [some (.s ns), some (.c 0), some (.d (.int z)), some (.d (.int (u : Int))), some (.d (.bool true))]) (cs1 := [.lst ((books ++ (more ++ [(w : Int)])).map .int)]) (by simp [e2'])]
          simp
        · show (more ++ [((t % 6007 : Nat) : Int)]).length + (k - 1) + (if decide (0 < t / 6007) = true then 1 else 0) ≤ 691
          rw [List.length_append, List.length_singleton]
          by_cases hk : k = 0
          · have h0 := hk0 hk
            have : (if decide (0 < t / 6007) = true then 1 else 0) = 0 := by rw [h0]; rfl
            omega
          · split <;> omega
        · show (k - 1) + (if decide (0 < t / 6007) = true then 1 else 0) < k + 1
          by_cases hk : k = 0
          · have h0 := hk0 hk
            have : (if decide (0 < t / 6007) = true then 1 else 0) = 0 := by rw [h0]; rfl
            omega
          · split <;> omega)
    1000000000 ([], left, 690, true) (by show 690 + 1 < 1000000000; omega) ⟨hl, by show 0 + 690 + 1 ≤ 691; omega, fun e => by cases e⟩
  have hb' : b = false := by
    have : tTr (eVar 4) [some (.s ns), some (.c 0), some (.d (.int z)), some (.d (.int (left' : Nat))), some (.d (.bool b))] [.lst ((books ++ more).map .int)] = .ok b [.lst ((books ++ more).map .int)] := by simp
    have k3' : tTr (eVar 4) [some (.s ns), some (.c 0), some (.d (.int z)), some (.d (.int (left' : Nat))), some (.d (.bool b))] [.lst ((books ++ more).map .int)] = .ok false [.lst ((books ++ more).map .int)] := k3
    rw [this] at k3'
    injection k3'
  subst hb'
  refine ⟨more, by have : more.length + k + 0 ≤ 691 := i2; omega, i3 rfl, left', ?_⟩
  have k1' : whileN (tTr (eVar 4)) bitBody [] 1000000000 [some (.s ns), some (.c 0), some (.d (.int z)), some (.d (.int (left : Int))), some (.d (.bool true))] [.lst ((books ++ []).map .int)] = .nx [some (.s ns), some (.c 0), some (.d (.int z)), some (.d (.int (left' : Int))), some (.d (.bool false))] [.lst ((books ++ more).map .int)] := k1
  rw [List.append_nil] at k1'
  exact k1'
theorem cell_turn {ns : List Int} (z : Int) (books : List Int) (hb : books.length ≤ 100000) :
    ∃ more : List Int, more.length ≤ 691 ∧ 0 < more.length ∧ Goes (turn (tgName 2) cellBody (.d (.int z)) [some (.s ns), some (.c 0), none, none, none] [.lst (books.map .int)]) [3, 4, 2] [some (.s ns), some (.c 0), none, none, none] [.lst ((books ++ more).map .int)] := by
  let l1 : Int := if z < 0 then 1 - 2 * z else z
  obtain ⟨t, t1, t2⟩ := fMod_ok (cs := [.lst (books.map .int)]) (i := l1) (b := 2 ^ 690) (Nat.pow_pos (by omega))
  obtain ⟨more, m1, m2, left', m3⟩ := bits_run (ns := ns) (z := z) books hb t t1
  refine ⟨more, m1, m2, ?_⟩
  have sh : ∀ cs, fShl (.d (.int 1)) (.d (.int 690)) cs = .ok (.d (.int ((2 ^ 690 : Nat) : Int))) cs := fun cs => rfl
  rw [turn_at]
  simp only [tgName_at, List.set_cons_succ, List.set_cons_zero]
  unfold cellBody
  rw [sSeq_nx (env1 := [some (.s ns), some (.c 0), some (.d (.int z)), some (.d (.int z)), none]) (cs1 := [.lst (books.map .int)]) (by simp)]
  rw [sSeq_nx (env1 := [some (.s ns), some (.c 0), some (.d (.int z)), some (.d (.int l1)), none]) (cs1 := [.lst (books.map .int)]) (by
    have hm := fMul_int (cs := [.lst (books.map .int)]) (i := 2) (j := z) (mulOk_small (.inl (by decide)))
    show sIf _ _ _ _ _ = _
    by_cases hz : z < 0
    · simp [hz, hm, l1]
    · simp [hz, l1])]
  rw [sSeq_nx (env1 := [some (.s ns), some (.c 0), some (.d (.int z)), some (.d (.int (t : Int))), none]) (cs1 := [.lst (books.map .int)]) (by
    simp only [sAsg_at, eFn_at, aCons_at, aNil_at, eBin_at, eVar_at, eC_at, List.getElem?_cons_succ, List.getElem?_cons_zero, R.bind_ok, sh, t2, fInt_int, R.toS_ok, tgName_at, List.set_cons_succ, List.set_cons_zero])]
  rw [sSeq_nx (env1 := [some (.s ns), some (.c 0), some (.d (.int z)), some (.d (.int (t : Int))), some (.d (.bool true))]) (cs1 := [.lst (books.map .int)]) (by simp)]
  rw [sWhile_at, wipeE_nil, m3]
  simp
theorem cut_ints (ns : List Int) (lo hi : Option Int) : ∃ ms : List Int, cutP (ns.map PyData.int) lo hi = ms.map PyData.int ∧ ms.length ≤ ns.length := by
  unfold cutP
  exact ⟨(ns.drop (HT.sIx (ns.map PyData.int).length 0 lo)).take (HT.sIx (ns.map PyData.int).length (ns.map PyData.int).length hi - HT.sIx (ns.map PyData.int).length 0 lo), by rw [← List.map_drop, ← List.map_take], by simp; omega⟩
theorem shelf_eq {ns : List Int} (hn : ns.length ≤ 63) : ∃ row, RowOk row ∧ f__law_shelf [.s ns] [] = .ok (.c 0) [.dk (shK 0 row)] := by
  obtain ⟨ms, c1, c2⟩ := cut_ints ns none (some 32)
  obtain ⟨books, k1, k2, _⟩ := forIt_inv (tg := tgName 2) (body := cellBody) (fg := [3, 4, 2]) (fun z : Int => A.d (.int z)) (fun _ : List Int => [some (.s ns), some (.c 0), none, none, none]) (fun books => [.lst (books.map .int)])
    (fun rest books => books.length + 691 * rest.length ≤ 691 * 63 ∧ True) (fun z rest books ⟨j1, _⟩ => by
      rw [List.length_cons] at j1
      obtain ⟨more, m1, m2, m3⟩ := cell_turn (ns := ns) z books (by omega)
      exact ⟨books ++ more, ⟨by rw [List.length_append]; omega, trivial⟩, m3⟩) ms [] ⟨by simp; omega, trivial⟩
  have k2' : books.length ≤ 691 * 63 := by simpa using k2
  refine ⟨books ++ [3 * (books.length : Int) + 2], ⟨by simp, by simp; omega⟩, ?_⟩
  have k1' : forIt (tgName 2) cellBody [3, 4, 2] (ms.map fun z => A.d (.int z)) [some (.s ns), some (.c 0), none, none, none] [.lst []] = .nx [some (.s ns), some (.c 0), none, none, none] [.lst (books.map .int)] := k1
  have e1 : fLen [.c 0] [.lst (books.map .int)] = .ok (.d (.int (books.length : Nat))) [.lst (books.map .int)] := by rw [fLen_c (xs := books.map .int) rfl, List.length_map]
  have e2 := fMul_int (cs := [.lst (books.map .int)]) (i := 3) (j := (books.length : Int)) (mulOk_small (.inl (by decide)))
  have ap : mAppend (.c 0) [.d (.int (3 * (books.length : Int) + 2))] [.lst (books.map .int)] = .ok (.d .none) [.lst ((books ++ [3 * (books.length : Int) + 2]).map .int)] := by
    rw [mAppend_c (xs := books.map .int) rfl (by rw [List.length_map]; exact size_lt (by omega))]
    simp
  have sl : fSlice (.s ns) none (some 32) [.lst []] = .ok (.d (.list (ms.map .int))) [.lst []] := by simp [fSlice, c1]
  have sa : (ms.map PyData.int).map A.d = ms.map fun z => A.d (.int z) := by rw [List.map_map]; rfl
  simp only [f__law_shelf, runBody, m__law_shelf]
  rw [sSeq_nx (env1 := [some (.s ns), some (.c 0), none, none, none]) (cs1 := [.lst []]) (by simp)]
  rw [sSeq_nx (env1 := [some (.s ns), some (.c 0), none, none, none]) (cs1 := [.lst (books.map .int)]) (by
    rw [sFor_at]
    simp only [iVal_at, eSlice, eVar_at, oNone, oSome, eC_at, List.getElem?_cons_succ, List.getElem?_cons_zero, R.bind_ok, sl, srcOf_list, sa, R.toS_ok, forS_it, wipeE_cons, wipeE_nil, List.set_cons_succ, List.set_cons_zero]
    exact k1')]
  rw [sSeq_nx (drop_app (k := 0) (cs' := [.lst ((books ++ [3 * (books.length : Int) + 2]).map .int)]) (by simp) rfl (x := .int (3 * (books.length : Int) + 2)) (cs1 := [.lst (books.map .int)]) (by simp [e1, e2]) ap)]
  simp [eDict, dPairs, freeze, mergeP, putP, s_ar, s_ra, fin, shK]
end K09
namespace K09
open Sh PySem L2
def okT : R A → Bool
  | .ok (.d (.bool true)) [] => true
  | _ => false
theorem okT_eq {r : R A} (h : okT r = true) : r = .ok (.d (.bool true)) [] := by
  unfold okT at h
  split at h
  · rfl
  · cases h
theorem hand_eq : f__law_hand [] [] = .ok (.d (.bool true)) [] := okT_eq (by decide +kernel)
abbrev lapBody : MS := (sIf (tNotM (tTr (eCall 1 (plainF (f__law_asked)) (aCons (eCall 3 (f__law_code) (aCons (eVar 1) (aCons (eBin fAdd (eC (.int 1)) (eCall 2 (f__law_pull) (aCons (eVar 1) (aCons (eC (.int 5)) aNil)))) (aCons (eC (.int 8)) aNil)))) aNil))))
  (sRet (eC (.bool false)))
  sNext)
theorem asked_at {c : Code} (wf : WF1 c) (cs : CS) : plainF f__law_asked [.d (codeD c)] cs = .ok (.d (.bool true)) cs := plainF_ok rfl (asked_eq wf)
theorem law_true (ns : List Int) (hn : ns.length ≤ 63) (hb : ∀ z ∈ ns, Builtin.Int.intBits z ≤ 1048576) : ∃ cs, f_law [.s ns] [] = .ok (.d (.bool true)) cs := by
  obtain ⟨row, hr, s1⟩ := shelf_eq hn
  obtain ⟨a', k1, k2, _⟩ := forIt_inv (tg := tgName 2) (body := lapBody) (fg := [2]) (fun (n : Nat) => A.d (.int (n : Int))) (fun _ : Nat => [some (.s ns), some (.c 0), none]) (fun a => [.dk (shK a row)])
    (fun rest a => a + 20001 * rest.length ≤ 60003 ∧ True) (fun y rest a ⟨j1, _⟩ => by
      rw [List.length_cons] at j1
      obtain ⟨v, v1, v2⟩ := pull_eq hr (a := a) (many := 5) (by omega) (by omega) []
      have v2' : f__law_pull [.c 0, .d (.int 5)] [.dk (shK a row)] = .ok (.d (.int (v : Int))) [.dk (shK (a + 1) row)] := v2
      obtain ⟨c, a', w1, w2, w3⟩ := code_eq hr (procs := v + 1) (most := 8) (by omega) (by omega) (by omega) (by omega) (a := a + 1) (by omega)
      have e : (1 : Int) + (v : Int) = ((v + 1 : Nat) : Int) := by omega
      have w3' : f__law_code [.c 0, .d (.int ((v + 1 : Nat) : Int)), .d (.int 8)] [.dk (shK (a + 1) row)] = .ok (.d (codeD c)) [.dk (shK a' row)] := w3
      rw [← e] at w3'
      refine ⟨a', ⟨by omega, trivial⟩, ?_⟩
      simp [v2', w3', asked_at w1]) (List.range 3) 0 ⟨by simp, trivial⟩
  have k2' : a' ≤ 60003 := by simpa using k2
  have k1' : forIt (tgName 2) lapBody [2] ((List.range 3).map fun (n : Nat) => A.d (.int (n : Int))) [some (.s ns), some (.c 0), none] [.dk (shK 0 row)] = .nx [some (.s ns), some (.c 0), none] [.dk (shK a' row)] := k1
  obtain ⟨v, v1, v2⟩ := pull_eq hr (a := a') (many := 13) (by omega) (by omega) []
  have v2' : f__law_pull [.c 0, .d (.int 13)] [.dk (shK a' row)] = .ok (.d (.int (v : Int))) [.dk (shK (a' + 1) row)] := v2
  obtain ⟨c, a2, w1, w2, w3⟩ := code_eq hr (procs := 12) (most := 16) (by omega) (by omega) (by omega) (by omega) (a := a' + 1) (by omega)
  have w3' : f__law_code [.c 0, .d (.int 12), .d (.int 16)] [.dk (shK (a' + 1) row)] = .ok (.d (codeD c)) [.dk (shK a2 row)] := w3
  have hh : plainF f__law_hand [] [.dk (shK 0 row)] = .ok (.d (.bool true)) [.dk (shK 0 row)] := plainF_ok rfl hand_eq
  have i3 : inR 3 = true := by decide
  refine ⟨[], ?_⟩
  simp only [f_law, runBody, m_law]
  rw [sSeq_nx (env1 := [some (.s ns), some (.c 0), none]) (cs1 := [.dk (shK 0 row)]) (by simp [s1])]
  rw [sSeq_nx (env1 := [some (.s ns), some (.c 0), none]) (cs1 := [.dk (shK 0 row)]) (by simp [hh])]
  rw [sSeq_nx (env1 := [some (.s ns), some (.c 0), none]) (cs1 := [.dk (shK a' row)]) (by
    rw [sFor_at]
    simp only [iRange1_at, aCons_at, aNil_at, eC_at, R.bind_ok, i3, if_true, R.toS_ok, forS_it, wipeE_cons, wipeE_nil, List.set_cons_succ, List.set_cons_zero]
    rw [show (3 : Int).toNat = 3 from rfl, rangeD_0]
    exact k1')]
  by_cases h9 : v = 9
  · subst h9
    rw [sSeq_nx (env1 := [some (.s ns), some (.c 0), none]) (cs1 := [.dk (shK (a' + 1) row)]) (by simp [v2'])]
    simp [w3', asked_at w1]
  · have h9' : ¬ ((v : Int) = 9) := by omega
    rw [sSeq_rt (a := .d (.bool true)) (cs1 := [.dk (shK (a' + 1) row)]) (by simp [v2', h9'])]
    simp
end K09
open PySem PySem.W PyProof.Rows
set_option maxRecDepth 100000 in
set_option maxHeartbeats 0 in
theorem PySem.Challenge.cw_changedalike_k09_ends_holds : PySem.Challenge.rw_changedalike_k09_ends.Holds := by
  w_on; o_law; k_head; (case hw => w_witness2)
  k_fill
  refine Sh.walkS (l := PySem.Challenge.rw_changedalike_k09_ends) (k := 12) rfl rfl ⟨rfl, by decide, by decide⟩ (fun w h Y => PySem.W.kIn_of Y) ?F
  case F =>
    intro w mg fa h KX G hmg
    refine' K09.all_mk KX G hmg ?a1 ?l1 ?c1 ?k1 ?a2 ?l2 ?c2 ?k2 ?a3 ?l3 ?c3 ?k3 ?a4 ?l4 ?c4 ?k4 ?a5 ?l5 ?c5 ?k5 ?a6 ?l6 ?c6 ?k6 ?a7 ?l7 ?c7 ?k7 ?a8 ?l8 ?c8 ?k8 ?a9 ?l9 ?c9 ?k9 ?a10 ?l10 ?c10 ?k10 ?a11 ?l11 ?c11 ?k11 ?a12 ?l12 ?c12 ?k12 ?a13 ?l13 ?c13 ?k13 ?a14 ?l14 ?c14 ?k14 ?a15 ?l15 ?c15 ?k15 ?a16 ?l16 ?c16 ?k16 ?a17 ?l17 ?c17 ?k17 ?a18 ?l18 ?c18 ?k18 ?a19 ?l19 ?c19 ?k19 ?a20 ?l20 ?c20 ?k20 ?a21 ?l21 ?c21 ?k21 ?z0 ?z1 ?z2 ?z3 ?z4 ?z5 ?z6 ?z7 ?z8 K09.law_true
    (case a1 => k_is)
    (case l1 => k_is)
    (case c1 => k_is)
    (case k1 => k_is)
    (case a2 => k_is)
    (case l2 => k_is)
    (case c2 => k_is)
    (case k2 => k_is)
    (case a3 => k_is)
    (case l3 => k_is)
    (case c3 => k_is)
    (case k3 => k_is)
    (case a4 => k_is)
    (case l4 => k_is)
    (case c4 => k_is)
    (case k4 => k_is)
    (case a5 => k_is)
    (case l5 => k_is)
    (case c5 => k_is)
    (case k5 => k_is)
    (case a6 => k_is)
    (case l6 => k_is)
    (case c6 => k_is)
    (case k6 => k_is)
    (case a7 => k_is)
    (case l7 => k_is)
    (case c7 => k_is)
    (case k7 => k_is)
    (case a8 => k_is)
    (case l8 => k_is)
    (case c8 => k_is)
    (case k8 => k_is)
    (case a9 => k_is)
    (case l9 => k_is)
    (case c9 => k_is)
    (case k9 => k_is)
    (case a10 => k_is)
    (case l10 => k_is)
    (case c10 => k_is)
    (case k10 => k_is)
    (case a11 => k_is)
    (case l11 => k_is)
    (case c11 => k_is)
    (case k11 => k_is)
    (case a12 => k_is)
    (case l12 => k_is)
    (case c12 => k_is)
    (case k12 => k_is)
    (case a13 => k_is)
    (case l13 => k_is)
    (case c13 => k_is)
    (case k13 => k_is)
    (case a14 => k_is)
    (case l14 => k_is)
    (case c14 => k_is)
    (case k14 => k_is)
    (case a15 => k_is)
    (case l15 => k_is)
    (case c15 => k_is)
    (case k15 => k_is)
    (case a16 => k_is)
    (case l16 => k_is)
    (case c16 => k_is)
    (case k16 => k_is)
    (case a17 => k_is)
    (case l17 => k_is)
    (case c17 => k_is)
    (case k17 => k_is)
    (case a18 => k_is)
    (case l18 => k_is)
    (case c18 => k_is)
    (case k18 => k_is)
    (case a19 => k_is)
    (case l19 => k_is)
    (case c19 => k_is)
    (case k19 => k_is)
    (case a20 => k_is)
    (case l20 => k_is)
    (case c20 => k_is)
    (case k20 => k_is)
    (case a21 => k_is)
    (case l21 => k_is)
    (case c21 => k_is)
    (case k21 => k_is)
    (case z0 => k_is)
    (case z1 => k_is)
    (case z2 => k_is)
    (case z3 => k_is)
    (case z4 => k_is)
    (case z5 => k_is)
    (case z6 => k_is)
    (case z7 => k_is)
    (case z8 => k_is)
