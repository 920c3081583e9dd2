import PyProof.Rows.All
import Wide.All
import OpenK.AllK
import Wide.FinOn
import HandS.ForList
import HandS.ForMost
import HandS.Exc
import HandS.ExcOwn
import HandS.TryOnly
import HandS.TupAny
import HandS.TupMul
import HandS.Wide
import HandS.Conv
import HandS.List
import HandS.IsInst
import HandS.SortInts
import HandS.Defaults
import HandS.WordsExc
import KE.GoesMore
import KE.GoesEnum
import HandS.Dict
import HandS.More
import HandS.Style
import HandS.EndBits
import HandS.Text
import HandS.StrMore
import HandS.FStr
import HandS.RaiseMore
import HandS.SetFor
import KE.GoesZip
import HandS.Zip
import PyProof.ListMulAny
import PyProof.Rows.ListMulArg
import HandS.CallSlots
import HandS.Small
import PyProof.TupleOfStr
import PyProof.StrLaws
import HandS.Deep
import HandS.Rev
import HandS.SortKw
import KE.DataMinMax
import KE.DataCmp
import KE.KIndexOf
import KE.SortKeyHeap
import PyProof.P3Eq
import KE.KRevSl
import PyProof.TupleOfSeq
import HandS.Iter
import HandS.ExcInit
import HandS.ExcField
import HandS.ExcIs
import PyProof.FString5
import PyProof.StrLawsChain
import PyProof.StrLawsIn
import PySem.Challenge.RW_changedalike_k03_tokens
set_option Elab.async false
set_option linter.all false
set_option maxRecDepth 100000
set_option maxHeartbeats 4000000
namespace Sh
open PySem L2

/-! ### 1. values, cells, results -/
/-- an exception in the air: its class's name, its fields -/
structure Ex where
  cls : Str
  fs : List (Str × PyData)
/-- a value: plain data (never changed any more), the number of a cell, the script, or the exception that a suite holds -/
inductive A where
  | d (x : PyData) | c (n : Nat) | s (ns : List Int) | x (e : Ex)
/-- a cell: a list, a dict that may still change; a cell that was given up -/
inductive Cell where
  | dead
  | lst (xs : List PyData)
  | dk (kvs : List (Key × PyData))
  | dt (kvs : List (List Key × PyData))
abbrev CS := List Cell
abbrev Env := List (Option A)
inductive R (α : Type) where
  | ok (a : α) (cs : CS) | ex (e : Ex) (cs : CS) | no
def R.bind {α β : Type} (r : R α) (k : α → CS → R β) : R β := match r with
  | .ok a cs => k a cs
  | .ex e cs => .ex e cs
  | .no => .no
@[simp] theorem R.bind_ok {α β : Type} (a : α) (cs : CS) (k : α → CS → R β) : (R.ok a cs).bind k = k a cs := rfl
@[simp] theorem R.bind_ex {α β : Type} (e : Ex) (cs : CS) (k : α → CS → R β) : (R.ex e cs : R α).bind k = .ex e cs := rfl
@[simp] theorem R.bind_no {α β : Type} (k : α → CS → R β) : (R.no : R α).bind k = .no := rfl
inductive RS where
  | nx (env : Env) (cs : CS) | rt (a : A) (cs : CS) | bk (env : Env) (cs : CS) | ct (env : Env) (cs : CS) | ex (e : Ex) (env : Env) (cs : CS) | no
def R.toS {α : Type} (r : R α) (env : Env) (k : α → CS → RS) : RS := match r with
  | .ok a cs => k a cs
  | .ex e cs => .ex e env cs
  | .no => .no
@[simp] theorem R.toS_ok {α : Type} (a : α) (cs : CS) (env : Env) (k : α → CS → RS) : (R.ok a cs).toS env k = k a cs := rfl
@[simp] theorem R.toS_ex {α : Type} (e : Ex) (cs : CS) (env : Env) (k : α → CS → RS) : (R.ex e cs : R α).toS env k = .ex e env cs := rfl
@[simp] theorem R.toS_no {α : Type} (env : Env) (k : α → CS → RS) : (R.no : R α).toS env k = .no := rfl
abbrev ME := Env → CS → R A
abbrev MT := Env → CS → R Bool
abbrev MA := Env → CS → R (List A)
abbrev MS := Env → CS → RS
/-- a def's function -/
abbrev Fn := List A → CS → R A

/-! ### 2. how they lie in the heap -/
/-- a tuple that is known with its object, which has no dict -/
def SqN (H : Hp) (a : Addr) (xs : List V) : Prop := ∃ o : Obj, o.dict = none ∧ H a = some (.frz o (.tup xs))
theorem SqN.t {K : PySem.W.Frag} {H : Hp} {a : Addr} {xs : List V} (h : SqN H a xs) : SqT K H a xs := let ⟨o, _, h⟩ := h; .inl (.inr ⟨o, h⟩)
theorem SqN.of {H : Hp} {a : Addr} {o : Obj} {xs : List V} (ho : o.dict = none) (h : H a = some (.frz o (.tup xs))) : SqN H a xs := ⟨o, ho, h⟩
mutual
/-- plain data at a value: as L2.Dp, but lists are tracked ones -/
inductive Dq (K : PySem.W.Frag) (H : Hp) : V → PyData → Prop
  | non : Dq K H .non .none
  | bl (b : Bool) : Dq K H (.bl b) (.bool b)
  | int (i : Int) : Dq K H (.int i) (.int i)
  | str (x : Str) : Dq K H (.str x) (.str x)
  | lst {a : Addr} {xs : List V} {ds : List PyData} : H a = some (.lst xs) → DqAll K H xs ds → Dq K H (.ref a) (.list ds)
  | tup {a : Addr} {xs : List V} {ds : List PyData} : SqN H a xs → DqAll K H xs ds → Dq K H (.ref a) (.tuple ds)
inductive DqAll (K : PySem.W.Frag) (H : Hp) : List V → List PyData → Prop
  | nil : DqAll K H [] []
  | cons {v : V} {vs : List V} {d : PyData} {ds : List PyData} : Dq K H v d → DqAll K H vs ds → DqAll K H (v :: vs) (d :: ds)
end
mutual
theorem Dq.dp {K : PySem.W.Frag} {H : Hp} : ∀ {v : V} {x : PyData}, Dq K H v x → Dp K H v x
  | _, _, .non => .non
  | _, _, .bl b => .bl b
  | _, _, .int i => .int i
  | _, _, .str x => .str x
  | _, _, .lst h1 h2 => .lst (SqL.of h1) (DqAll.dp h2)
  | _, _, .tup h1 h2 => .tup h1.t (DqAll.dp h2)
theorem DqAll.dp {K : PySem.W.Frag} {H : Hp} : ∀ {vs : List V} {xs : List PyData}, DqAll K H vs xs → DpAll K H vs xs
  | _, _, .nil => .nil
  | _, _, .cons h1 h2 => .cons (Dq.dp h1) (DqAll.dp h2)
end
/-- what stands outside: the written part, the classes' addresses by name, the exception that a suite holds (its address, class, dict) -/
structure G where
  K : PySem.W.Frag
  cm : Str → Value
  cur : Option (Addr × Value × Option Addr) := none
/-- where the cells lie; what is hidden (a list that a comprehension is making) -/
structure AS where
  l : List Addr
  hid : List Addr
def AS.push (as : AS) (p : Addr) : AS := ⟨as.l ++ [p], as.hid⟩
def live (cs : CS) (as : AS) (a : Addr) : Prop := (∃ (i : Nat) (c : Cell), cs[i]? = some c ∧ c ≠ .dead ∧ as.l[i]? = some a) ∨ a ∈ as.hid
/-- the heap without the cells -/
noncomputable def dat (cs : CS) (as : AS) (H : Hp) : Hp := fun a => open Classical in if live cs as a then none else H a
theorem dat_some {cs : CS} {as : AS} {H : Hp} {a : Addr} {o : HO} : dat cs as H a = some o ↔ ¬ live cs as a ∧ H a = some o := by
  classical
  unfold dat
  split
  · rename_i h; exact Iff.intro (fun e => nomatch e) (fun e => absurd h e.1)
  · rename_i h; exact Iff.intro (fun e => And.intro h e) (fun e => e.2)

/-- the exception's own dict -/
def RepX (g : G) (cs : CS) (as : AS) (H : Hp) (d : Option Addr) (fs : List (Str × PyData)) : Prop :=
  (fs = [] ∧ d = none) ∨ ∃ dd vs, d = some dd ∧ H dd = some (.xd vs) ∧ ¬ live cs as dd ∧ Paired (fun (p : Str × V) (q : Str × PyData) => p.1 = q.1 ∧ Dq g.K (dat cs as H) p.2 q.2) vs fs
section
variable (g : G) (cs : CS) (as : AS) (H : Hp)
def RepA (v : V) : A → Prop
  | .d x => Dq g.K (dat cs as H) v x
  | .c n => ∃ a, as.l[n]? = some a ∧ v = .ref a
  | .s ns => ∃ a, v = .ref a ∧ SqL g.K (dat cs as H) a (ns.map V.int)
  | .x e => ∃ a d, g.cur = some (a, g.cm e.cls, d) ∧ v = .ref a ∧ RepX g cs as H d e.fs
def RepAs (vs : List V) (xs : List A) : Prop := Paired (RepA g cs as H) vs xs
def RepKV {κ : Type} (vs : List (κ × V)) (xs : List (κ × PyData)) : Prop := Paired (fun (p : κ × V) (q : κ × PyData) => p.1 = q.1 ∧ Dq g.K (dat cs as H) p.2 q.2) vs xs
def CellOk (a : Addr) : Cell → Prop
  | .dead => True
  | .lst xs => ∃ vs, H a = some (.lst vs) ∧ DqAll g.K (dat cs as H) vs xs
  | .dk kvs => ∃ vs, H a = some (.dK vs) ∧ RepKV g cs as H vs kvs
  | .dt kvs => ∃ vs, H a = some (.dT vs) ∧ RepKV g cs as H vs kvs
structure Hs : Prop where
  len : as.l.length = cs.length
  inj : ∀ (i j : Nat) (a : Addr) (c c' : Cell), cs[i]? = some c → c ≠ .dead → cs[j]? = some c' → c' ≠ .dead → as.l[i]? = some a → as.l[j]? = some a → i = j
  cells : ∀ (i : Nat) (c : Cell) (a : Addr), cs[i]? = some c → as.l[i]? = some a → CellOk g cs as H a c
  apart : ∀ (i : Nat) (c : Cell) (a : Addr), cs[i]? = some c → c ≠ .dead → as.l[i]? = some a → a ∉ as.hid
  there : ∀ a ∈ as.hid, ∃ o, H a = some o
structure Sat (env : Env) (σ : St) : Prop where
  hs : Hs g cs as H
  len : env.length = σ.length
  slots : ∀ (i : Nat) (x : A), env[i]? = some (some x) → ∃ v, σ[i]? = some (some v) ∧ RepA g cs as H v x
end
structure Exn (cs : CS) (as : AS) (H : Hp) (cs' : CS) (as' : AS) (H' : Hp) : Prop where
  pre : ∀ (n : Nat) (a : Addr), as.l[n]? = some a → as'.l[n]? = some a
  dat : ∀ (a : Addr) (o : HO), dat cs as H a = some o → dat cs' as' H' a = some o
  hid : as'.hid = as.hid
  kept : ∀ a ∈ as.hid, H' a = H a
theorem Exn.refl {cs : CS} {as : AS} {H : Hp} : Exn cs as H cs as H := ⟨fun _ _ h => h, fun _ _ h => h, rfl, fun _ _ => rfl⟩
theorem Exn.trans {cs cs1 cs2 : CS} {as as1 as2 : AS} {H H1 H2 : Hp} (a : Exn cs as H cs1 as1 H1) (b : Exn cs1 as1 H1 cs2 as2 H2) : Exn cs as H cs2 as2 H2 :=
  ⟨fun n x h => b.pre n x (a.pre n x h), fun x o h => b.dat x o (a.dat x o h), b.hid.trans a.hid, fun x h => (b.kept x (by rw [a.hid]; exact h)).trans (a.kept x h)⟩

/-! ### 3. what is known stays -/
def Le (H H' : Hp) : Prop := ∀ a o, H a = some o → H' a = some o
theorem Le.refl {H : Hp} : Le H H := fun _ _ h => h
theorem Le.rd {H H' : Hp} (e : Le H H') {a : Addr} {u : HO} (h : Rd H a u) : Rd H' a u := by
  rcases h with h | ⟨o, h⟩
  · exact .inl (e a _ h)
  · exact .inr ⟨o, e a _ h⟩
theorem Le.sqL {K : PySem.W.Frag} {H H' : Hp} (e : Le H H') {a : Addr} {xs : List V} (h : SqL K H a xs) : SqL K H' a xs := h.imp e.rd id
theorem Le.sqT {K : PySem.W.Frag} {H H' : Hp} (e : Le H H') {a : Addr} {xs : List V} (h : SqT K H a xs) : SqT K H' a xs := h.imp e.rd id
theorem Le.sqN {H H' : Hp} (e : Le H H') {a : Addr} {xs : List V} (h : SqN H a xs) : SqN H' a xs := let ⟨o, ho, h⟩ := h; ⟨o, ho, e a _ h⟩
mutual
theorem Dq.le {K : PySem.W.Frag} {H H' : Hp} (e : Le H H') : ∀ {v : V} {x : PyData}, Dq K H v x → Dq K H' v x
  | _, _, .non => .non
  | _, _, .bl b => .bl b
  | _, _, .int i => .int i
  | _, _, .str x => .str x
  | _, _, .lst h1 h2 => .lst (e _ _ h1) (DqAll.le e h2)
  | _, _, .tup h1 h2 => .tup (e.sqN h1) (DqAll.le e h2)
theorem DqAll.le {K : PySem.W.Frag} {H H' : Hp} (e : Le H H') : ∀ {vs : List V} {xs : List PyData}, DqAll K H vs xs → DqAll K H' vs xs
  | _, _, .nil => .nil
  | _, _, .cons h1 h2 => .cons (Dq.le e h1) (DqAll.le e h2)
end
theorem dat_le {cs : CS} {as : AS} {H : Hp} : Le (dat cs as H) H := fun _ _ h => (dat_some.mp h).2
section
variable {g : G} {cs cs' : CS} {as as' : AS} {H H' : Hp}
theorem RepX.le (e : Le (dat cs as H) (dat cs' as' H')) {d : Option Addr} {fs : List (Str × PyData)} (h : RepX g cs as H d fs) : RepX g cs' as' H' d fs := by
  rcases h with h | ⟨dd, vs, h1, h2, h3, h4⟩
  · exact .inl h
  · obtain ⟨k1, k2⟩ := dat_some.mp (e dd _ (dat_some.mpr ⟨h3, h2⟩))
    exact .inr ⟨dd, vs, h1, k2, k1, Paired.mono (fun _ _ q => ⟨q.1, Dq.le e q.2⟩) h4⟩
theorem RepX.exn (e : Exn cs as H cs' as' H') {d : Option Addr} {fs : List (Str × PyData)} (h : RepX g cs as H d fs) : RepX g cs' as' H' d fs := RepX.le e.dat h
theorem RepA.exn (e : Exn cs as H cs' as' H') : ∀ {v : V} {x : A}, RepA g cs as H v x → RepA g cs' as' H' v x
  | _, .d _, h => Dq.le e.dat h
  | _, .c _, ⟨a, h, q⟩ => ⟨a, e.pre _ _ h, q⟩
  | _, .s _, ⟨a, h, q⟩ => ⟨a, h, Le.sqL e.dat q⟩
  | _, .x _, ⟨a, d, h1, h2, h3⟩ => ⟨a, d, h1, h2, RepX.exn e h3⟩
theorem RepAs.exn (e : Exn cs as H cs' as' H') {vs : List V} {xs : List A} (h : RepAs g cs as H vs xs) : RepAs g cs' as' H' vs xs := Paired.mono (fun _ _ q => RepA.exn e q) h
theorem RepKV.exn {κ : Type} (e : Exn cs as H cs' as' H') {vs : List (κ × V)} {xs : List (κ × PyData)} (h : RepKV g cs as H vs xs) : RepKV g cs' as' H' vs xs := Paired.mono (fun _ _ q => ⟨q.1, Dq.le e.dat q.2⟩) h
theorem Sat.exn {env : Env} {σ : St} (s : Sat g cs as H env σ) (h : Hs g cs' as' H') (e : Exn cs as H cs' as' H') : Sat g cs' as' H' env σ :=
  ⟨h, s.len, fun i x q => let ⟨v, a, b⟩ := s.slots i x q; ⟨v, a, b.exn e⟩⟩
end

/-! ### 4. what is wanted behind -/
section
variable (g : G) (W : WX) (σ : St) (cs : CS) (as : AS) (H : Hp)
def Post {β : Type} (P : β → CS → AS → Hp → Prop) : R β → Prop
  | .ok b cs' => ∀ as' H', Hs g cs' as' H' → Exn cs as H cs' as' H' → P b cs' as' H'
  | .ex e cs' => ∀ d as' H', Hs g cs' as' H' → Exn cs as H cs' as' H' → RepX g cs' as' H' d e.fs → W (g.cm e.cls) d σ H'
  | .no => False
end
section
variable {g : G} {W : WX} {σ : St} {cs cs1 : CS} {as as1 : AS} {H H1 : Hp} {β γ : Type} {P P' : β → CS → AS → Hp → Prop}
theorem Post.mono {r : R β} (h : Post g W σ cs as H P r) (hp : ∀ b cs' as' H', Hs g cs' as' H' → Exn cs as H cs' as' H' → P b cs' as' H' → P' b cs' as' H') : Post g W σ cs as H P' r := by
  cases r with
  | ok b cs' => exact fun as' H' hs e => hp _ _ _ _ hs e (h as' H' hs e)
  | ex e cs' => exact h
  | no => exact h
theorem Post.shift {r : R β} (h : Post g W σ cs as H P r) (e : Exn cs as H cs1 as1 H1) : Post g W σ cs1 as1 H1 P r := by
  cases r with
  | ok b cs' => exact fun as' H' hs e' => h as' H' hs (e.trans e')
  | ex x cs' => exact fun d as' H' hs e' q => h d as' H' hs (e.trans e') q
  | no => exact h
theorem Post.bind {r : R β} {k : β → CS → R γ} {P : γ → CS → AS → Hp → Prop} (h : Post g W σ cs as H P (r.bind k)) :
    Post g W σ cs as H (fun b cs' as' H' => Post g W σ cs' as' H' P (k b cs')) r := by
  cases r with
  | ok b cs' => exact fun as' H' _ e => Post.shift h e
  | ex x cs' => exact h
  | no => exact h
end
/-- the readings of the functions -/
def den (g : G) (W : WX) (m : ME) : TE := fun σ H Q => ∃ env cs as, Sat g cs as H env σ ∧ Post g W σ cs as H (fun a cs' as' H' => ∀ v, RepA g cs' as' H' v a → Q v H') (m env cs)
def denT (g : G) (W : WX) (m : MT) : TT := fun σ H Q => ∃ env cs as, Sat g cs as H env σ ∧ Post g W σ cs as H (fun b _ _ H' => Q b H') (m env cs)
def denA (g : G) (W : WX) (m : MA) : TA := fun σ H Q => ∃ env cs as, Sat g cs as H env σ ∧ Post g W σ cs as H (fun xs cs' as' H' => ∀ vs, RepAs g cs' as' H' vs xs → Q vs H') (m env cs)
def PostS (g : G) (W : WX) (cs : CS) (as : AS) (H : Hp) (D : Ends) : RS → Prop
  | .nx env' cs' => ∀ σ' as' H', Sat g cs' as' H' env' σ' → Exn cs as H cs' as' H' → D.nx σ' H'
  | .bk env' cs' => ∀ σ' as' H', Sat g cs' as' H' env' σ' → Exn cs as H cs' as' H' → D.bk σ' H'
  | .ct env' cs' => ∀ σ' as' H', Sat g cs' as' H' env' σ' → Exn cs as H cs' as' H' → D.ct σ' H'
  | .rt a cs' => ∀ v as' H', Hs g cs' as' H' → Exn cs as H cs' as' H' → RepA g cs' as' H' v a → D.rt v H'
  | .ex e env' cs' => ∀ d σ' as' H', Sat g cs' as' H' env' σ' → Exn cs as H cs' as' H' → RepX g cs' as' H' d e.fs → W (g.cm e.cls) d σ' H'
  | .no => False
def denS (g : G) (W : WX) (m : MS) : TS := fun D σ H => ∃ env cs as, Sat g cs as H env σ ∧ PostS g W cs as H D (m env cs)
section
variable {g : G} {W : WX} {σ : St} {cs cs1 : CS} {as as1 : AS} {H H1 : Hp} {D D' : Ends} {env : Env}
theorem PostS.shift {r : RS} (h : PostS g W cs as H D r) (e : Exn cs as H cs1 as1 H1) : PostS g W cs1 as1 H1 D r := by
  cases r with
  | nx env' cs' => exact fun σ' as' H' s e' => h σ' as' H' s (e.trans e')
  | bk env' cs' => exact fun σ' as' H' s e' => h σ' as' H' s (e.trans e')
  | ct env' cs' => exact fun σ' as' H' s e' => h σ' as' H' s (e.trans e')
  | rt a cs' => exact fun v as' H' s e' => h v as' H' s (e.trans e')
  | ex x env' cs' => exact fun d σ' as' H' s e' q => h d σ' as' H' s (e.trans e') q
  | no => exact h
theorem post_toS {α : Type} {r : R α} {k : α → CS → RS} (s : Sat g cs as H env σ) (h : PostS g W cs as H D (r.toS env k)) :
    Post g W σ cs as H (fun a cs1 as1 H1 => PostS g W cs1 as1 H1 D (k a cs1)) r := by
  cases r with
  | ok a cs' => exact fun as' H' _ e => PostS.shift h e
  | ex x cs' => exact fun d as' H' hs e q => h d σ as' H' (s.exn hs e) e q
  | no => exact h
end
/-! ### 5. weakening of readings -/
section
variable {X : Cx} {e : Expr}
theorem pe_imp {t t' : TE} (h : PE X e t) (w : ∀ σ H Q, t' σ H Q → t σ H Q) : PE X e t' := ⟨fun pins s σ H Q I q => h.run pins s σ H Q I (w σ H Q q)⟩
theorem pt_imp {t t' : TT} (h : PT X e t) (w : ∀ σ H Q, t' σ H Q → t σ H Q) : PT X e t' := ⟨fun pins s σ H Q I q => h.run pins s σ H Q I (w σ H Q q)⟩
theorem pw_imp {t t' : TT} (h : PW X e t) (w : ∀ σ H Q, t' σ H Q → t σ H Q) : PW X e t' := ⟨fun wh pins s σ H Q I q => h.run wh pins s σ H Q I (w σ H Q q)⟩
theorem pa_imp {es : List Expr} {t t' : TA} (h : PA X es t) (w : ∀ σ H Q, t' σ H Q → t σ H Q) : PA X es t' := ⟨fun pos pins s σ H Q I q => h.run pos pins s σ H Q I (w σ H Q q)⟩
theorem ps_imp {st : Stmt} {t t' : TS} (h : PS X st t) (w : ∀ D σ H, t' D σ H → t D σ H) : PS X st t' := ⟨fun pins s σ H D I q => h.run pins s σ H D I (w D σ H q)⟩
theorem pss_imp {sts : List Stmt} {t t' : TS} (h : PSs X sts t) (w : ∀ D σ H, t' D σ H → t D σ H) : PSs X sts t' := ⟨fun pins s σ H D I q => h.run pins s σ H D I (w D σ H q)⟩
end
end Sh
namespace Sh
open PySem L2
section
variable {g : G} {cs : CS} {as : AS} {H : Hp} {p : Addr} {o : HO}
theorem Hs.of_live (s : Hs g cs as H) {a : Addr} (h : live cs as a) : ∃ o, H a = some o := by
  rcases h with ⟨i, c, e1, e2, e3⟩ | h
  case inr => exact s.there a h
  have k := s.cells i c a e1 e3
  cases c with
  | dead => exact absurd rfl e2
  | lst xs => obtain ⟨vs, q, _⟩ := k; exact ⟨_, q⟩
  | dk xs => obtain ⟨vs, q, _⟩ := k; exact ⟨_, q⟩
  | dt xs => obtain ⟨vs, q, _⟩ := k; exact ⟨_, q⟩
theorem Hs.not_live (s : Hs g cs as H) (h : H p = none) : ¬ live cs as p := fun l => by
  obtain ⟨o, e⟩ := s.of_live l
  rw [h] at e; cases e
/-- a new object of plain data -/
theorem exn_new (s : Hs g cs as H) (h : H p = none) : Exn cs as H cs as (upd H p o) :=
  ⟨fun _ _ q => q, fun a u q => by
    obtain ⟨q1, q2⟩ := dat_some.mp q
    exact dat_some.mpr ⟨q1, by rw [upd_ne (ne_of_none q2 h)]; exact q2⟩, rfl, fun a ha => by
    obtain ⟨o', e⟩ := s.there a ha
    rw [upd_ne (ne_of_none e h)]⟩
theorem CellOk.new (s : Hs g cs as H) (h : H p = none) {a : Addr} : ∀ {c : Cell}, CellOk g cs as H a c → CellOk g cs as (upd H p o) a c
  | .dead, _ => trivial
  | .lst _, ⟨vs, q, r⟩ => ⟨vs, by rw [upd_ne (ne_of_none q h)]; exact q, DqAll.le (exn_new s h).dat r⟩
  | .dk _, ⟨vs, q, r⟩ => ⟨vs, by rw [upd_ne (ne_of_none q h)]; exact q, r.exn (exn_new s h)⟩
  | .dt _, ⟨vs, q, r⟩ => ⟨vs, by rw [upd_ne (ne_of_none q h)]; exact q, r.exn (exn_new s h)⟩
theorem Hs.new (s : Hs g cs as H) (h : H p = none) : Hs g cs as (upd H p o) :=
  ⟨s.len, s.inj, fun i c a e1 e2 => (s.cells i c a e1 e2).new s h, s.apart, fun a ha => let ⟨o', e⟩ := s.there a ha; ⟨o', by rw [upd_ne (ne_of_none e h)]; exact e⟩⟩
/-- a new object that is tracked as data at p -/
theorem dat_new (s : Hs g cs as H) (h : H p = none) : dat cs as (upd H p o) p = some o :=
  dat_some.mpr ⟨s.not_live h, upd_same⟩

/-! ### a new cell -/
theorem getElem?_snoc {α : Type} {l : List α} {x y : α} {i : Nat} (h : (l ++ [x])[i]? = some y) : (i < l.length ∧ l[i]? = some y) ∨ (i = l.length ∧ y = x) := by
  by_cases hi : i < l.length
  · exact .inl ⟨hi, by rw [List.getElem?_append_left hi] at h; exact h⟩
  · have hi' : l.length ≤ i := Nat.le_of_not_lt hi
    rw [List.getElem?_append_right hi'] at h
    have e : i - l.length = 0 := by
      cases q : i - l.length with
      | zero => rfl
      | succ n => rw [q] at h; simp at h
    rw [e] at h
    exact .inr ⟨by omega, (Option.some.inj h).symm⟩
theorem getElem?_left {α : Type} {l m : List α} {y : α} {i : Nat} (h : l[i]? = some y) : (l ++ m)[i]? = some y := by
  have hi := (List.getElem?_eq_some_iff.mp h).1
  rw [List.getElem?_append_left hi]; exact h
variable {c : Cell}
theorem live_snoc (s : Hs g cs as H) {a : Addr} (h : live (cs ++ [c]) (as.push p) a) : live cs as a ∨ a = p := by
  rcases h with ⟨i, d, e1, e2, e3⟩ | h
  case inr => exact .inl (.inr h)
  rcases getElem?_snoc e1 with ⟨hi, e1⟩ | ⟨hi, e1⟩
  · rcases getElem?_snoc e3 with ⟨_, e3⟩ | ⟨hj, e3⟩
    · exact .inl (.inl ⟨i, d, e1, e2, e3⟩)
    · exact .inr e3
  · rcases getElem?_snoc e3 with ⟨hj, e3⟩ | ⟨hj, e3⟩
    · rw [s.len] at hj; omega
    · exact .inr e3
theorem exn_cell (s : Hs g cs as H) (h : H p = none) : Exn cs as H (cs ++ [c]) (as.push p) (upd H p o) :=
  ⟨fun n a q => getElem?_left q, fun a u q => by
    obtain ⟨q1, q2⟩ := dat_some.mp q
    have ne := ne_of_none q2 h
    refine dat_some.mpr ⟨fun l => ?_, by rw [upd_ne ne]; exact q2⟩
    rcases live_snoc s l with l | l
    · exact q1 l
    · exact ne l, rfl, fun a ha => by
    obtain ⟨o', e⟩ := s.there a ha
    rw [upd_ne (ne_of_none e h)]⟩
theorem CellOk.exn {cs' : CS} {as' : AS} {H' : Hp} (e : Exn cs as H cs' as' H') {a : Addr} (hk : ∀ o, H a = some o → H' a = some o) : ∀ {c : Cell}, CellOk g cs as H a c → CellOk g cs' as' H' a c
  | .dead, _ => trivial
  | .lst _, ⟨vs, q, r⟩ => ⟨vs, hk _ q, DqAll.le e.dat r⟩
  | .dk _, ⟨vs, q, r⟩ => ⟨vs, hk _ q, r.exn e⟩
  | .dt _, ⟨vs, q, r⟩ => ⟨vs, hk _ q, r.exn e⟩
theorem Hs.cell (s : Hs g cs as H) (h : H p = none) (hc : CellOk g (cs ++ [c]) (as.push p) (upd H p o) p c) : Hs g (cs ++ [c]) (as.push p) (upd H p o) := by
  refine ⟨by show (as.l ++ [p]).length = _; rw [List.length_append, List.length_append, s.len] <;> rfl, fun i j a c1 c2 e1 n1 e2 n2 a1 a2 => ?_, fun i c1 a e1 e2 => ?_, fun i c1 a e1 n1 a1 => ?_, fun a ha => ?_⟩
  · have key : ∀ {i : Nat} {c1 : Cell}, (cs ++ [c])[i]? = some c1 → c1 ≠ .dead → (as.push p).l[i]? = some a → (i < cs.length ∧ cs[i]? = some c1 ∧ as.l[i]? = some a) ∨ (i = cs.length ∧ a = p) := fun {i c1} e1 n1 a1 => by
      rcases getElem?_snoc e1 with ⟨hi, e1⟩ | ⟨hi, e1⟩
      · rcases getElem?_snoc a1 with ⟨_, a1⟩ | ⟨hj, a1⟩
        · exact .inl ⟨hi, e1, a1⟩
        · rw [s.len] at hj; omega
      · rcases getElem?_snoc a1 with ⟨hj, a1⟩ | ⟨hj, a1⟩
        · rw [s.len] at hj; omega
        · exact .inr ⟨hi, a1⟩
    rcases key e1 n1 a1 with ⟨_, f1, b1⟩ | ⟨f1, b1⟩
    · rcases key e2 n2 a2 with ⟨_, f2, b2⟩ | ⟨f2, b2⟩
      · exact s.inj i j a c1 c2 f1 n1 f2 n2 b1 b2
      · exact absurd (b2 ▸ (.inl ⟨i, c1, f1, n1, b1⟩ : live cs as a)) (s.not_live h)
    · rcases key e2 n2 a2 with ⟨_, f2, b2⟩ | ⟨f2, b2⟩
      · exact absurd (b1 ▸ (.inl ⟨j, c2, f2, n2, b2⟩ : live cs as a)) (s.not_live h)
      · exact f1.trans f2.symm
  · rcases getElem?_snoc e1 with ⟨hi, e1⟩ | ⟨hi, e1⟩
    · rcases getElem?_snoc e2 with ⟨_, e2⟩ | ⟨hj, e2⟩
      · exact (s.cells i c1 a e1 e2).exn (exn_cell s h) fun o q => by rw [upd_ne (ne_of_none q h)]; exact q
      · rw [s.len] at hj; omega
    · rcases getElem?_snoc e2 with ⟨hj, e2⟩ | ⟨hj, e2⟩
      · rw [s.len] at hj; omega
      · rw [e2, e1]; exact hc
  · rcases getElem?_snoc e1 with ⟨hi, e1⟩ | ⟨hi, e1⟩
    · rcases getElem?_snoc a1 with ⟨_, a1⟩ | ⟨hj, a1⟩
      · exact s.apart i c1 a e1 n1 a1
      · rw [s.len] at hj; omega
    · rcases getElem?_snoc a1 with ⟨hj, a1⟩ | ⟨hj, a1⟩
      · rw [s.len] at hj; omega
      · intro ha
        obtain ⟨o', e⟩ := s.there a ha
        rw [a1, h] at e; cases e
  · obtain ⟨o', e⟩ := s.there a ha
    exact ⟨o', by rw [upd_ne (ne_of_none e h)]; exact e⟩
theorem Hs.at_new (s : Hs g cs as H) : (as.push p).l[cs.length]? = some p := by
  show (as.l ++ [p])[cs.length]? = some p
  rw [← s.len, List.getElem?_append_right (Nat.le_refl _), Nat.sub_self] <;> rfl

/-! ### a cell written -/
variable {n : Nat} {c0 : Cell}
theorem get_set {α : Type} {l : List α} {n i : Nat} {x y : α} (h : (l.set n x)[i]? = some y) : (i = n ∧ y = x ∧ n < l.length) ∨ (i ≠ n ∧ l[i]? = some y) := by
  by_cases e : i = n
  · subst e
    have hl := (List.getElem?_eq_some_iff.mp h).1
    rw [List.length_set] at hl
    rw [List.getElem?_set_self hl] at h
    exact .inl ⟨rfl, (Option.some.inj h).symm, hl⟩
  · rw [List.getElem?_set_ne (Ne.symm e)] at h
    exact .inr ⟨e, h⟩
theorem live_set (hc : cs[n]? = some c0) (h0 : c0 ≠ .dead) {a : Addr} (h : live (cs.set n c) as a) : live cs as a := by
  rcases h with ⟨i, d, e1, e2, e3⟩ | h
  case inr => exact .inr h
  rcases get_set e1 with ⟨rfl, rfl, _⟩ | ⟨_, e1⟩
  · exact .inl ⟨i, c0, hc, h0, e3⟩
  · exact .inl ⟨i, d, e1, e2, e3⟩
theorem exn_set (s : Hs g cs as H) (hc : cs[n]? = some c0) (h0 : c0 ≠ .dead) (ha : as.l[n]? = some p) : Exn cs as H (cs.set n c) as (upd H p o) :=
  ⟨fun _ _ q => q, fun a u q => by
    obtain ⟨q1, q2⟩ := dat_some.mp q
    have ne : a ≠ p := fun e => q1 (e ▸ .inl ⟨n, c0, hc, h0, ha⟩)
    exact dat_some.mpr ⟨fun l => q1 (live_set hc h0 l), by rw [upd_ne ne]; exact q2⟩, rfl, fun a h => by
    have ne : a ≠ p := fun e => s.apart n c0 p hc h0 ha (by rw [← e]; exact h)
    rw [upd_ne ne]⟩
theorem Hs.set (s : Hs g cs as H) (hc : cs[n]? = some c0) (h0 : c0 ≠ .dead) (ha : as.l[n]? = some p) (hk : CellOk g (cs.set n c) as (upd H p o) p c) : Hs g (cs.set n c) as (upd H p o) := by
  refine ⟨by rw [List.length_set]; exact s.len, fun i j a c1 c2 e1 n1 e2 n2 a1 a2 => ?_, fun i c1 a e1 e2 => ?_, fun i c1 a e1 n1 a1 => ?_, fun a h => ?_⟩
  · have key : ∀ {i : Nat} {c1 : Cell}, (cs.set n c)[i]? = some c1 → c1 ≠ .dead → ∃ c2, cs[i]? = some c2 ∧ c2 ≠ .dead := fun {i c1} e1 n1 => by
      rcases get_set e1 with ⟨rfl, rfl, _⟩ | ⟨_, e1⟩
      · exact ⟨c0, hc, h0⟩
      · exact ⟨c1, e1, n1⟩
    obtain ⟨d1, f1, m1⟩ := key e1 n1
    obtain ⟨d2, f2, m2⟩ := key e2 n2
    exact s.inj i j a d1 d2 f1 m1 f2 m2 a1 a2
  · rcases get_set e1 with ⟨rfl, rfl, _⟩ | ⟨ne, e1⟩
    · rw [ha] at e2
      obtain rfl := Option.some.inj e2
      exact hk
    · by_cases hd : c1 = .dead
      · subst hd; trivial
      · refine (s.cells i c1 a e1 e2).exn (exn_set s hc h0 ha) fun u q => ?_
        have na : a ≠ p := fun e => ne (s.inj i n a c1 c0 e1 hd hc h0 e2 (e ▸ ha))
        rw [upd_ne na]; exact q
  · rcases get_set e1 with ⟨rfl, rfl, _⟩ | ⟨_, e1⟩
    · exact s.apart i c0 a hc h0 a1
    · exact s.apart i c1 a e1 n1 a1
  · obtain ⟨o', e⟩ := s.there a h
    have ne : a ≠ p := fun e => s.apart n c0 p hc h0 ha (by rw [← e]; exact h)
    exact ⟨o', by rw [upd_ne ne]; exact e⟩
/-- a cell given up: what it held is plain data from now on -/
theorem exn_dead (hc : cs[n]? = some c0) (h0 : c0 ≠ .dead) : Exn cs as H (cs.set n .dead) as H :=
  ⟨fun _ _ q => q, fun a u q => by
    obtain ⟨q1, q2⟩ := dat_some.mp q
    exact dat_some.mpr ⟨fun l => q1 (live_set hc h0 l), q2⟩, rfl, fun _ _ => rfl⟩
theorem Hs.dead (s : Hs g cs as H) (hc : cs[n]? = some c0) (h0 : c0 ≠ .dead) : Hs g (cs.set n .dead) as H := by
  refine ⟨by rw [List.length_set]; exact s.len, fun i j a c1 c2 e1 n1 e2 n2 a1 a2 => ?_, fun i c1 a e1 e2 => ?_, fun i c1 a e1 n1 a1 => ?_, s.there⟩
  · rcases get_set e1 with ⟨rfl, rfl, _⟩ | ⟨_, e1⟩
    · exact absurd rfl n1
    · rcases get_set e2 with ⟨rfl, rfl, _⟩ | ⟨_, e2⟩
      · exact absurd rfl n2
      · exact s.inj i j a c1 c2 e1 n1 e2 n2 a1 a2
  · rcases get_set e1 with ⟨rfl, rfl, _⟩ | ⟨ne, e1⟩
    · trivial
    · exact (s.cells i c1 a e1 e2).exn (exn_dead hc h0) fun _ q => q
  · rcases get_set e1 with ⟨rfl, rfl, _⟩ | ⟨_, e1⟩
    · exact absurd rfl n1
    · exact s.apart i c1 a e1 n1 a1
theorem Hs.dead_at (s : Hs g cs as H) (hc : cs[n]? = some c0) (h0 : c0 ≠ .dead) (ha : as.l[n]? = some p) (hp : H p = some o) : dat (cs.set n .dead) as H p = some o := by
  refine dat_some.mpr ⟨fun l => ?_, hp⟩
  rcases l with ⟨i, d, e1, e2, e3⟩ | l
  case inr => exact s.apart n c0 p hc h0 ha l
  rcases get_set e1 with ⟨rfl, rfl, _⟩ | ⟨ne, e1⟩
  · exact e2 rfl
  · exact ne (s.inj i n p d c0 e1 e2 hc h0 e3 ha)
/-- back to the cells that stood (what a def made is let go) -/
theorem take_get {α : Type} {l : List α} {n i : Nat} {x : α} (h : (l.take n)[i]? = some x) : i < n ∧ l[i]? = some x := by
  have hi := (List.getElem?_eq_some_iff.mp h).1
  rw [List.length_take] at hi
  rw [List.getElem?_take] at h
  have : i < n := by omega
  rw [if_pos this] at h
  exact ⟨this, h⟩
theorem take_of {α : Type} {l : List α} {n i : Nat} {x : α} (hi : i < n) (h : l[i]? = some x) : (l.take n)[i]? = some x := by
  rw [List.getElem?_take, if_pos hi]; exact h
end

/-! ### plain data among values -/
def allD : List A → Option (List PyData)
  | [] => some []
  | .d x :: r => (allD r).map (x :: ·)
  | .c _ :: _ => none
  | .s _ :: _ => none
  | .x _ :: _ => none
@[simp] theorem allD_nil : allD [] = some [] := rfl
@[simp] theorem allD_d (x : PyData) (r : List A) : allD (.d x :: r) = (allD r).map (x :: ·) := rfl
@[simp] theorem allD_map (xs : List PyData) : allD (xs.map A.d) = some xs := by
  induction xs with
  | nil => rfl
  | cons x r ih => simp [ih]
theorem allD_eq : ∀ {xs : List A} {ds : List PyData}, allD xs = some ds → xs = ds.map A.d
  | [], ds, h => by cases h; rfl
  | .d x :: r, ds, h => by
    rw [allD_d] at h
    cases q : allD r with
    | none => rw [q] at h; cases h
    | some e =>
      rw [q] at h
      obtain rfl := Option.some.inj h
      rw [allD_eq q]; rfl
  | .c _ :: _, ds, h => by cases h
  | .s _ :: _, ds, h => by cases h
  | .x _ :: _, ds, h => by cases h
section
variable {g : G} {cs : CS} {as : AS} {H : Hp}
theorem RepAs.dp : ∀ {vs : List V} {ds : List PyData}, RepAs g cs as H vs (ds.map A.d) → DqAll g.K (dat cs as H) vs ds
  | _, [], h => by
    cases h
    exact .nil
  | _, d :: ds, h => by
    cases h with
    | cons h1 h2 => exact .cons h1 (RepAs.dp h2)
theorem repAs_dp : ∀ {vs : List V} {ds : List PyData}, DqAll g.K (dat cs as H) vs ds → RepAs g cs as H vs (ds.map A.d)
  | _, _, .nil => .nil
  | _, _, .cons h1 h2 => .cons h1 (repAs_dp h2)
/-- what a value is worth as plain data just now -/
def toD (cs : CS) : A → Option PyData
  | .d x => some x
  | .c n => match cs[n]? with
    | some (.lst xs) => some (.list xs)
    | _ => none
  | .s _ => none
  | .x _ => none
@[simp] theorem toD_d (x : PyData) : toD cs (.d x) = some x := rfl
theorem toD_c {n : Nat} {xs : List PyData} (h : cs[n]? = some (.lst xs)) : toD cs (.c n) = some (.list xs) := by simp only [toD, h]
theorem toD_rep (s : Hs g cs as H) {v : V} {a : A} {x : PyData} (r : RepA g cs as H v a) (h : toD cs a = some x) : Dq g.K H v x := by
  cases a with
  | d y =>
    obtain rfl := Option.some.inj h
    exact Dq.le dat_le r
  | c n =>
    obtain ⟨p, e1, rfl⟩ := r
    cases e2 : cs[n]? with
    | none => simp only [toD, e2] at h; cases h
    | some c =>
      cases c with
      | lst xs =>
        simp only [toD, e2] at h
        obtain rfl := Option.some.inj h
        obtain ⟨vs, e3, rr⟩ := s.cells n _ p e2 e1
        exact .lst e3 (DqAll.le dat_le rr)
      | dead => simp only [toD, e2] at h; cases h
      | dk _ => simp only [toD, e2] at h; cases h
      | dt _ => simp only [toD, e2] at h; cases h
  | s ns => cases h
  | x ns => cases h
/-! ### hidden for a while; what a def made is let go -/
theorem Hs.hide (s : Hs g cs as H) {p : Addr} {o : HO} (h : H p = none) : Hs g cs ⟨as.l, p :: as.hid⟩ (upd H p o) ∧ (∀ a u, dat cs as H a = some u ↔ dat cs ⟨as.l, p :: as.hid⟩ (upd H p o) a = some u) := by
  have lv : ∀ a, a ≠ p → (live cs ⟨as.l, p :: as.hid⟩ a ↔ live cs as a) := fun a ne => by
    refine Iff.intro (fun l => ?_) (fun l => ?_)
    · rcases l with l | l
      · exact .inl l
      · rcases List.mem_cons.mp l with e | l
        · exact absurd e ne
        · exact .inr l
    · rcases l with l | l
      · exact .inl l
      · exact .inr (List.mem_cons_of_mem _ l)
  have dd : ∀ a u, dat cs as H a = some u ↔ dat cs ⟨as.l, p :: as.hid⟩ (upd H p o) a = some u := fun a u => by
    rw [dat_some, dat_some]
    by_cases e : a = p
    · subst e
      refine Iff.intro (fun z => ?_) (fun z => ?_)
      · rw [h] at z; cases z.2
      · exact absurd (.inr List.mem_cons_self) z.1
    · rw [upd_ne e, lv a e]
  refine ⟨⟨s.len, s.inj, fun i c a e1 e2 => ?_, fun i c a e1 n1 a1 => ?_, fun a ha => ?_⟩, dd⟩
  · have k := s.cells i c a e1 e2
    cases c with
    | dead => trivial
    | lst xs => obtain ⟨vs, q, r⟩ := k; exact ⟨vs, by rw [upd_ne (ne_of_none q h)]; exact q, DqAll.le (fun a o z => (dd a o).mp z) r⟩
    | dk xs => obtain ⟨vs, q, r⟩ := k; exact ⟨vs, by rw [upd_ne (ne_of_none q h)]; exact q, Paired.mono (fun _ _ z => ⟨z.1, Dq.le (fun a o y => (dd a o).mp y) z.2⟩) r⟩
    | dt xs => obtain ⟨vs, q, r⟩ := k; exact ⟨vs, by rw [upd_ne (ne_of_none q h)]; exact q, Paired.mono (fun _ _ z => ⟨z.1, Dq.le (fun a o y => (dd a o).mp y) z.2⟩) r⟩
  · intro hm
    rcases List.mem_cons.mp hm with e | hm
    · exact s.not_live h (e ▸ .inl ⟨i, c, e1, n1, a1⟩)
    · exact s.apart i c a e1 n1 a1 hm
  · rcases List.mem_cons.mp ha with rfl | ha
    · exact ⟨o, upd_same⟩
    · obtain ⟨u, e⟩ := s.there a ha
      exact ⟨u, by rw [upd_ne (ne_of_none e h)]; exact e⟩
theorem CellOk.le {cs' : CS} {as' : AS} (e : Le (dat cs as H) (dat cs' as' H)) {a : Addr} : ∀ {c : Cell}, CellOk g cs as H a c → CellOk g cs' as' H a c
  | .dead, _ => trivial
  | .lst _, ⟨vs, q, r⟩ => ⟨vs, q, DqAll.le e r⟩
  | .dk _, ⟨vs, q, r⟩ => ⟨vs, q, Paired.mono (fun _ _ z => ⟨z.1, Dq.le e z.2⟩) r⟩
  | .dt _, ⟨vs, q, r⟩ => ⟨vs, q, Paired.mono (fun _ _ z => ⟨z.1, Dq.le e z.2⟩) r⟩
theorem Hs.show {l hid : List Addr} {p : Addr} (s : Hs g cs ⟨l, p :: hid⟩ H) : Hs g cs ⟨l, hid⟩ H ∧ Le (dat cs ⟨l, p :: hid⟩ H) (dat cs ⟨l, hid⟩ H) := by
  have dd : Le (dat cs ⟨l, p :: hid⟩ H) (dat cs ⟨l, hid⟩ H) := fun a o z => by
    obtain ⟨z1, z2⟩ := dat_some.mp z
    exact dat_some.mpr ⟨fun l' => z1 (l'.imp id (fun m => List.mem_cons_of_mem _ m)), z2⟩
  exact ⟨⟨s.len, s.inj, fun i c a e1 e2 => (s.cells i c a e1 e2).le dd, fun i c a e1 n1 a1 m => s.apart i c a e1 n1 a1 (List.mem_cons_of_mem _ m), fun a ha => s.there a (List.mem_cons_of_mem _ ha)⟩, dd⟩
theorem Hs.take (s : Hs g cs as H) (n : Nat) : Hs g (cs.take n) ⟨as.l.take n, as.hid⟩ H ∧ Le (dat cs as H) (dat (cs.take n) ⟨as.l.take n, as.hid⟩ H) := by
  have dd : Le (dat cs as H) (dat (cs.take n) ⟨as.l.take n, as.hid⟩ H) := fun a o z => by
    obtain ⟨z1, z2⟩ := dat_some.mp z
    refine dat_some.mpr ⟨fun l' => z1 (l'.imp (fun ⟨i, c, e1, n1, e2⟩ => ⟨i, c, (take_get e1).2, n1, (take_get e2).2⟩) id), z2⟩
  refine ⟨⟨by rw [List.length_take, List.length_take, s.len], fun i j a c c' e1 n1 e2 n2 a1 a2 => s.inj i j a c c' (take_get e1).2 n1 (take_get e2).2 n2 (take_get a1).2 (take_get a2).2,
    fun i c a e1 e2 => (s.cells i c a (take_get e1).2 (take_get e2).2).le dd, fun i c a e1 n1 a1 => s.apart i c a (take_get e1).2 n1 (take_get a1).2, s.there⟩, dd⟩
end
end Sh
namespace L2
open PySem PySem.Spec PyProof.Rows
/-! ### new tuples, laid with their object: it has no dict -/
abbrev tO (its : List Value) : Obj := { cls := .type "tuple", data := .seq its.toArray }
section
variable {X : Cx} {pins : List (Addr × Obj)} {σ : St} {H : Hp} {s : Shared} {xs : List V}
theorem Inv.tnew {its : List Value} {t' : Nat} (I : Inv X pins σ H s) (hv : Vals xs its) (hz : xs.length ≤ sizeLine) :
    Inv X pins σ (upd H s.heap.objs.size (.frz (tO its) (.tup xs))) { s with heap := s.heap.push (tO its), toks := t' } :=
  I.laid (fun _ _ q => Heap.get?_push_of_some _ q) (Nat.le_refl _) ⟨Heap.get?_push_size _ rfl, hz, its, hv, IsTup.new _ _⟩
end
section
variable {X : Cx} {es : List Expr} {t : TA} {pos : Pos}
def tTupN (t : TA) : TE := fun σ H Q => t σ H fun xs H1 => xs.length ≤ sizeLine ∧ ∀ (p : Addr) (o : Obj), o.dict = none → H1 p = none → Q (.ref p) (upd H1 p (.frz o (.tup xs)))
theorem pe_tupN {x1} (h : PA X es t) : PE X (.Tuple es x1 pos) (tTupN t) :=
  ⟨fun pins s σ H Q I hq => wpAny_Tuple_spliced (thn (h.run pos pins s σ H _ I hq) fun us s1 ⟨xs, H1, I1, r, z, q⟩ =>
    ⟨by rw [← r.length]; exact z, ⟨.ref s1.heap.objs.size, _, I1.tnew (t' := s1.toks) r z, rfl, q _ (tO us) rfl (I1.hok.fresh (Nat.le_refl _))⟩⟩)⟩
/-- t + u -/
def rCatN (K : PySem.W.Frag) : R2 := fun x y H Q => ∃ a b xs ys, x = .ref a ∧ y = .ref b ∧ SqT K H a xs ∧ SqT K H b ys ∧ xs.length + ys.length ≤ sizeLine ∧
  (xs = [] → Q (.ref b) H) ∧ (xs ≠ [] → ys = [] → Q (.ref a) H) ∧ (xs ≠ [] → ys ≠ [] → ∀ (p : Addr) (o : Obj), o.dict = none → H p = none → Q (.ref p) (upd H p (.frz o (.tup (xs ++ ys)))))
theorem op_catN : OpR X (binaryOp .Add) (rCatN X.K) := by
  intro pins s σ H x y v u Q I rx ry ⟨a, b, xs, ys, e1, e2, ha, hb, hz, q0, q1, q2⟩
  subst e1 e2
  cases rx; cases ry
  obtain ⟨its, r1, p1, _⟩ := I.tuple ha
  obtain ⟨its2, r2, p2, _⟩ := I.tuple hb
  by_cases hx : xs = []
  · subst hx
    cases r1
    exact cat_tup0 p1 p2 ⟨.ref b, H, I, rfl, q0 rfl⟩
  · exact HT.cat_tup p1 p2 (fun z => hx (r1.nil_iff.mp z)) (fun z => ⟨.ref a, H, I, rfl, q1 hx (r2.nil_iff.mp z)⟩)
      (fun z => ⟨.ref s.heap.objs.size, _, I.tnew (t' := s.toks) (r1.append r2) (by rw [List.length_append]; exact hz), rfl, q2 hx (fun w => z (r2.nil_iff.mpr w)) _ (tO (its ++ its2)) rfl (I.hok.fresh (Nat.le_refl _))⟩)
      (by rw [← r1.length, ← r2.length]; exact hz)
/-- t[lo:hi] -/
def rSlN (K : PySem.W.Frag) : V → Option Int → Option Int → Hp → VK → Prop := fun x lo hi H Q => ∃ a xs, x = .ref a ∧ SqT K H a xs ∧
  (HT.sIx xs.length 0 lo = 0 ∧ HT.sIx xs.length xs.length hi = xs.length → Q (.ref a) H) ∧ (¬ (HT.sIx xs.length 0 lo = 0 ∧ HT.sIx xs.length xs.length hi = xs.length) → ∀ (p : Addr) (o : Obj), o.dict = none → H p = none → Q (.ref p) (upd H p (.frz o (.tup (cutV xs lo hi)))))
theorem sl_tupN : SlR X (rSlN X.K) := by
  intro pins s σ H x v vl vu lo hi sl Q I rx hs pl pu ⟨a, xs, e1, hx, q1, q2⟩
  subst e1
  by_cases hw : HT.sIx xs.length 0 lo = 0 ∧ HT.sIx xs.length xs.length hi = xs.length
  · exact sl_tupA pins s σ H _ v vl vu lo hi sl Q I rx hs pl pu ⟨a, xs, rfl, hx, q1, fun z => absurd hw z⟩
  · cases rx
    obtain ⟨its, r, ht, hz⟩ := I.tuple hx
    have hlen : its.toArray.size = xs.length := by rw [List.size_toArray]; exact r.length.symm
    refine ⟨"tuple", _, PyProof.Rows.slot_tuple_getitem.lookup, ht.typeIs, HT.getItem_tuple_cut ht hs pl pu (by rw [hlen]; exact hw) ?_ (by rw [hlen]; exact hz)⟩
    rw [hlen]
    exact ⟨.ref s.heap.objs.size, _, I.tnew (t' := s.toks) ((r.drop (HT.sIx xs.length 0 lo)).take (HT.sIx xs.length xs.length hi - HT.sIx xs.length 0 lo)) (Nat.le_trans (cutV_length xs lo hi) hz), rfl, q2 hw _ (tO _) rfl (I.hok.fresh (Nat.le_refl _))⟩
/-- tuple(list), tuple(tuple) -/
theorem call_tupleN : CallR X (.type "tuple") (fun xs H Q => ∃ p ys, xs = [.ref p] ∧ ((SqL X.K H p ys ∧ ∀ (l : Addr) (o : Obj), o.dict = none → H l = none → Q (.ref l) (upd H l (.frz o (.tup ys)))) ∨ (SqT X.K H p ys ∧ Q (.ref p) H))) := by
  intro pins s σ H xs us Q I r ⟨p, ys, e1, h⟩
  subst e1
  obtain ⟨u, rfl, rx⟩ := vals1 r
  cases rx
  rcases h with ⟨hq, q⟩ | ⟨hq, q⟩
  · obtain ⟨its, r', pl, hz⟩ := I.list hq
    have hlen := r'.length
    refine call_tuple_list pl.isList (fun h' kp => ?_) (by simp only [List.size_toArray] <;> omega)
    have I1 : Inv X pins σ H { s with heap := h' } := I.kept (t' := s.toks) kp
    exact ⟨.ref h'.objs.size, _, I1.tnew (t' := s.toks) r' hz, rfl, q _ (tO its) rfl (I1.hok.fresh (Nat.le_refl _))⟩
  · exact call_tuple_of pins s σ H _ _ Q I r ⟨p, ys, rfl, .inr ⟨hq, q⟩⟩
end
section
variable {X : Cx} {pins : List (Addr × Obj)} {σ : St} {H : Hp} {s : Shared}
def tyN (K : PySem.W.Frag) (T : String) (x : V) (H : Hp) : Prop := tyV K T x H ∨ (T = "tuple" ∧ ∃ (p : Addr) (xs : List V), x = .ref p ∧ Sh.SqN H p xs)
theorem tyN_is {T : String} {x : V} {v : Value} (I : Inv X pins σ H s) (r : RelV x v) (ty : tyN X.K T x H) :
    s.TypeIs v T ∧ ∀ a, v = .ref a → ∃ ob, s.heap.get? a = some ob ∧ ob.dict = none := by
  rcases ty with ty | ⟨rfl, p, xs, rfl, o, ho, h⟩
  · exact tyV_is I r ty
  · cases r
    obtain ⟨e, _, its, _, o', e', c, _⟩ := I.hok p _ h
    exact ⟨⟨o', e', c⟩, fun a z => by cases z; exact ⟨o, e, ho⟩⟩
def tBMN0 (K : PySem.W.Frag) (T : String) (r : V → List V → Hp → VK → Prop) (to : TE) : TE := fun σ H Q => to σ H fun x H1 => tyN K T x H1 ∧ r x [] H1 Q
def tBMN (K : PySem.W.Frag) (T : String) (r : V → List V → Hp → VK → Prop) (to : TE) (t : TA) : TE := fun σ H Q => to σ H fun x H1 => tyN K T x H1 ∧ t σ H1 fun xs H2 => r x xs H2 Q
variable {o e : Expr} {es : List Expr} {to : TE} {t : TA} {name : Str} {apos cpos : Pos} {T id : String} {r : V → List V → Hp → VK → Prop}
theorem pe_bmN0 (pa : PlainAttrs T) (slot : Slot T name id) (hty : typeOf (.builtin id) = pure (.type "method_descriptor")) (hm : MtR X id r) (ho : PE X o to)
    (hbase : attributeBase o name X.env (eval o X.env) = eval o X.env := by rfl) (hline : (apos.endLine == cpos.line) = true := by rfl) : PE X (.Call (.Attribute o name apos) [] [] cpos) (tBMN0 X.K T r to) :=
  ⟨fun pins s σ H Q I h => wpAny_Call_method0_late hbase hline (thn (ho.run pins s σ H _ I h) fun v s1 ⟨x, H1, I1, r1, ty, q1⟩ =>
    ⟨T, id, pa, slot, hty, (tyN_is I1 r1 ty).1, (tyN_is I1 r1 ty).2, Calls.callWith_builtin rfl (PySem.evalArgs_none (hm pins s1 σ H1 x [] v [] Q I1 r1 .nil q1))⟩)⟩
theorem pe_bmN (pa : PlainAttrs T) (slot : Slot T name id) (hty : typeOf (.builtin id) = pure (.type "method_descriptor")) (hm : MtR X id r) (ho : PE X o to) (ha : PA X (e :: es) t)
    (hbase : attributeBase o name X.env (eval o X.env) = eval o X.env := by rfl)
    (few : ((backTo cpos (starEach (e :: es) X.env)).all (fun x => !x.1) && (backToKw cpos (keywordEach [] X.env)).all (fun x => x.1.isSome) && decide ((e :: es).length + ([] : List Keyword).length + (if ([] : List Keyword).isEmpty then 0 else 1) < 30)) = true := by rfl)
    (hline : (apos.endLine == cpos.line) = true := by rfl) (st : starEach (e :: es) X.env = (false, eval e X.env) :: starEach es X.env := by rfl) (pl : (backTo cpos (starEach es X.env)).any (·.1) = false := by rfl) :
    PE X (.Call (.Attribute o name apos) (e :: es) [] cpos) (tBMN X.K T r to t) :=
  ⟨fun pins s σ H Q I h => wpAny_Call_method_late hbase few hline rfl (thn (ho.run pins s σ H _ I h) fun v s1 ⟨x, H1, I1, r1, ty, q1⟩ =>
    ⟨T, id, pa, slot, hty, (tyN_is I1 r1 ty).1, (tyN_is I1 r1 ty).2, by
      have hA := ha.run cpos pins s1 σ H1 _ I1 q1
      rw [st] at hA ⊢
      exact Calls.callWith_builtin (by show (false || (backTo cpos (starEach es X.env)).any (·.1)) = false; rw [pl] <;> rfl) (Calls.evalArgs_plain (thn hA fun us s2 ⟨vs, H2, I2, r2, q2⟩ => hm pins s2 σ H2 x vs v us Q I2 r1 r2 q2))⟩)⟩
end
end L2
namespace Sh
open PySem L2
abbrev PostA (g : G) (W : WX) (σ : St) (cs : CS) (as : AS) (H : Hp) (Q : VK) (r : R A) : Prop := Post g W σ cs as H (fun a cs' as' H' => ∀ v, RepA g cs' as' H' v a → Q v H') r
section
variable {g : G} {W : WX} {σ : St} {cs : CS} {as : AS} {H : Hp} {Q : VK}
theorem PostA.here {a : A} (h : PostA g W σ cs as H Q (.ok a cs)) (s : Hs g cs as H) {v : V} (r : RepA g cs as H v a) : Q v H := h as H s Exn.refl v r
theorem PostA.int {i : Int} (h : PostA g W σ cs as H Q (.ok (.d (.int i)) cs)) (s : Hs g cs as H) : Q (.int i) H := h.here s (.int i)
theorem PostA.bl {b : Bool} (h : PostA g W σ cs as H Q (.ok (.d (.bool b)) cs)) (s : Hs g cs as H) : Q (.bl b) H := h.here s (.bl b)
theorem PostA.str {x : Str} (h : PostA g W σ cs as H Q (.ok (.d (.str x)) cs)) (s : Hs g cs as H) : Q (.str x) H := h.here s (.str x)
theorem PostA.non (h : PostA g W σ cs as H Q (.ok (.d .none) cs)) (s : Hs g cs as H) : Q .non H := h.here s .non
/-- a new tuple, a new list of plain data -/
theorem PostA.tup {ds : List PyData} {vs : List V} {p : Addr} (h : PostA g W σ cs as H Q (.ok (.d (.tuple ds)) cs)) (s : Hs g cs as H) {o : Obj} (ho : o.dict = none) (hp : H p = none) (r : DqAll g.K (dat cs as H) vs ds) : Q (.ref p) (upd H p (.frz o (.tup vs))) :=
  h as _ (s.new hp) (exn_new s hp) _ (.tup (SqN.of ho (dat_new s hp)) (DqAll.le (exn_new s hp).dat r))
theorem PostA.lst {ds : List PyData} {vs : List V} {p : Addr} (h : PostA g W σ cs as H Q (.ok (.d (.list ds)) cs)) (s : Hs g cs as H) (hp : H p = none) (r : DqAll g.K (dat cs as H) vs ds) : Q (.ref p) (upd H p (.lst vs)) :=
  h as _ (s.new hp) (exn_new s hp) _ (.lst (dat_new s hp) (DqAll.le (exn_new s hp).dat r))
/-- a new cell that holds a list -/
theorem PostA.cell {xs : List PyData} {vs : List V} {p : Addr} (h : PostA g W σ cs as H Q (.ok (.c cs.length) (cs ++ [.lst xs]))) (s : Hs g cs as H) (hp : H p = none) (r : DqAll g.K (dat cs as H) vs xs) : Q (.ref p) (upd H p (.lst vs)) :=
  h (as.push p) _ (s.cell hp ⟨vs, upd_same, DqAll.le (exn_cell s hp).dat r⟩) (exn_cell s hp) _ ⟨p, s.at_new, rfl⟩
/-- a cell's list changed, a value told behind -/
theorem PostA.put {n : Nat} {xs ys : List PyData} {ws : List V} {p : Addr} {a : A} {v : V} (h : PostA g W σ cs as H Q (.ok a (cs.set n (.lst ys)))) (s : Hs g cs as H) (hc : cs[n]? = some (.lst xs)) (ha : as.l[n]? = some p)
    (r : DqAll g.K (dat cs as H) ws ys) (rv : RepA g cs as H v a) : Q v (upd H p (.lst ws)) :=
  have e : Exn cs as H (cs.set n (.lst ys)) as (upd H p (.lst ws)) := exn_set s hc (fun z => nomatch z) ha
  h as _ (s.set hc (fun z => nomatch z) ha ⟨ws, upd_same, DqAll.le e.dat r⟩) e v (rv.exn e)
theorem Hs.lst (s : Hs g cs as H) {n : Nat} {xs : List PyData} (hc : cs[n]? = some (.lst xs)) {p : Addr} (ha : as.l[n]? = some p) : ∃ vs, H p = some (.lst vs) ∧ DqAll g.K (dat cs as H) vs xs := s.cells n _ p hc ha
theorem RepAs.length {vs : List V} {xs : List A} (r : RepAs g cs as H vs xs) : vs.length = xs.length := Paired.length r
theorem DqAll.length {K : PySem.W.Frag} : ∀ {vs : List V} {ds : List PyData}, DqAll K H vs ds → vs.length = ds.length
  | _, _, .nil => rfl
  | _, _, .cons _ h => congrArg (· + 1) (DqAll.length h)
theorem DqAll.get {K : PySem.W.Frag} : ∀ {vs : List V} {ds : List PyData} {i : Nat} {d : PyData}, DqAll K H vs ds → ds[i]? = some d → ∃ v, vs[i]? = some v ∧ Dq K H v d
  | _, _, _, _, .nil, e => by simp at e
  | _, _, 0, _, .cons h _, e => by simp at e; subst e; exact ⟨_, rfl, h⟩
  | _, _, i + 1, _, .cons _ h, e => by
    obtain ⟨v, h1, h2⟩ := DqAll.get (i := i) h (by simpa using e)
    exact ⟨v, by simpa using h1, h2⟩
theorem DqAll.append {K : PySem.W.Frag} : ∀ {vs ws : List V} {ds es : List PyData}, DqAll K H vs ds → DqAll K H ws es → DqAll K H (vs ++ ws) (ds ++ es)
  | _, _, _, _, .nil, h => h
  | _, _, _, _, .cons a b, h => .cons a (DqAll.append b h)
theorem DqAll.take {K : PySem.W.Frag} : ∀ {vs : List V} {ds : List PyData} (n : Nat), DqAll K H vs ds → DqAll K H (vs.take n) (ds.take n)
  | _, _, 0, _ => .nil
  | _, _, _ + 1, .nil => .nil
  | _, _, n + 1, .cons a b => .cons a (DqAll.take n b)
theorem DqAll.drop {K : PySem.W.Frag} : ∀ {vs : List V} {ds : List PyData} (n : Nat), DqAll K H vs ds → DqAll K H (vs.drop n) (ds.drop n)
  | _, _, 0, h => h
  | _, _, _ + 1, .nil => .nil
  | _, _, n + 1, .cons _ b => DqAll.drop n b
theorem Paired.get {α β : Type} {F : α → β → Prop} : ∀ {xs : List α} {ys : List β} {i : Nat} {y : β}, Paired F xs ys → ys[i]? = some y → ∃ x, xs[i]? = some x ∧ F x y
  | _, _, _, _, .nil, e => by simp at e
  | _, _, 0, _, .cons h _, e => by simp at e; subst e; exact ⟨_, rfl, h⟩
  | _, _, i + 1, _, .cons _ h, e => by
    obtain ⟨v, h1, h2⟩ := Paired.get (i := i) h (by simpa using e)
    exact ⟨v, by simpa using h1, h2⟩
theorem Paired.append {α β : Type} {F : α → β → Prop} : ∀ {xs xs' : List α} {ys ys' : List β}, Paired F xs ys → Paired F xs' ys' → Paired F (xs ++ xs') (ys ++ ys')
  | _, _, _, _, .nil, h => h
  | _, _, _, _, .cons a b, h => .cons a (Paired.append b h)
theorem Paired.set {α β : Type} {F : α → β → Prop} {x : α} {y : β} (h : F x y) : ∀ {xs : List α} {ys : List β} (i : Nat), Paired F xs ys → Paired F (xs.set i x) (ys.set i y)
  | _, _, _, .nil => .nil
  | _, _, 0, .cons _ t => .cons h t
  | _, _, i + 1, .cons q t => .cons q (Paired.set h i t)
theorem Paired.take {α β : Type} {F : α → β → Prop} : ∀ {xs : List α} {ys : List β} (n : Nat), Paired F xs ys → Paired F (xs.take n) (ys.take n)
  | _, _, 0, _ => .nil
  | _, _, _ + 1, .nil => .nil
  | _, _, n + 1, .cons a b => .cons a (Paired.take n b)
theorem Paired.drop {α β : Type} {F : α → β → Prop} : ∀ {xs : List α} {ys : List β} (n : Nat), Paired F xs ys → Paired F (xs.drop n) (ys.drop n)
  | _, _, 0, h => h
  | _, _, _ + 1, .nil => .nil
  | _, _, n + 1, .cons _ b => Paired.drop n b
end

/-! ### names, constants -/
def eVar (i : Nat) : ME := fun env cs => match env[i]? with
  | some (some x) => .ok x cs
  | _ => .no
def eC (x : PyData) : ME := fun _ cs => .ok (.d x) cs
theorem den_var {g : G} {W : WX} {i : Nat} {σ : St} {H : Hp} {Q : VK} (h : den g W (eVar i) σ H Q) : tVar i σ H Q := by
  obtain ⟨env, cs, as, s, h⟩ := h
  unfold eVar at h
  split at h
  · rename_i x e
    obtain ⟨v, e1, r⟩ := s.slots i x e
    exact ⟨v, e1, PostA.here h s.hs r⟩
  · exact h.elim
section
variable {X : Cx} {g : G} {W : WX} {a b : Expr} {pos : Pos} {ma mb : ME}
theorem se_var {i : Nat} {x : Str} (h : PE X (.Name x pos) (tVar i)) : PE X (.Name x pos) (den g W (eVar i)) := pe_imp h fun _ _ _ => den_var
theorem se_int {i : Int} {j} : PE X (.Constant (.int i) j pos) (den g W (eC (.int i))) := pe_imp pe_int fun _ _ _ ⟨_, _, _, s, h⟩ => PostA.int h s.hs
theorem se_bl {i : Bool} {j} : PE X (.Constant (.bool i) j pos) (den g W (eC (.bool i))) := pe_imp pe_bl fun _ _ _ ⟨_, _, _, s, h⟩ => PostA.bl h s.hs
theorem se_non {j} : PE X (.Constant .none j pos) (den g W (eC .none)) := pe_imp pe_non fun _ _ _ ⟨_, _, _, s, h⟩ => PostA.non h s.hs
theorem se_str {x : Str} {j} : PE X (.Constant (.str x) j pos) (den g W (eC (.str x))) := pe_imp pe_str fun _ _ _ ⟨_, _, _, s, h⟩ => PostA.str h s.hs
/-- a module's constant -/
theorem se_glob {x : Str} {v : V} {u : Value} {d : PyData} (hg : Gl X x) (hm : X.mg x = some u) (r : RelV v u) (hd : ∀ H, Dq g.K H v d) (hdb : (x == ("__debug__" : Str)) = false := by decide) : PE X (.Name x pos) (den g W (eC d)) :=
  pe_imp (pe_glob hg hm r hdb) fun _ _ _ ⟨_, _, _, s, h⟩ => PostA.here h s.hs (hd _)

/-! ### operators -/
def OpS (g : G) (r : R2) (f : A → A → CS → R A) : Prop := ∀ {W : WX} {σ : St} {cs : CS} {as : AS} {H : Hp} {x y : V} {a b : A} {Q : VK}, Hs g cs as H → RepA g cs as H x a → RepA g cs as H y b → PostA g W σ cs as H Q (f a b cs) → r x y H Q
def UnS (g : G) (r : V → Hp → VK → Prop) (f : A → CS → R A) : Prop := ∀ {W : WX} {σ : St} {cs : CS} {as : AS} {H : Hp} {x : V} {a : A} {Q : VK}, Hs g cs as H → RepA g cs as H x a → PostA g W σ cs as H Q (f a cs) → r x H Q
def eBin (f : A → A → CS → R A) (ma mb : ME) : ME := fun env cs => (ma env cs).bind fun x cs1 => (mb env cs1).bind fun y cs2 => f x y cs2
def eUn (f : A → CS → R A) (ma : ME) : ME := fun env cs => (ma env cs).bind fun x cs1 => f x cs1
theorem den_op {r : R2} {f : A → A → CS → R A} (hr : OpS g r f) {σ : St} {H : Hp} {Q : VK} (h : den g W (eBin f ma mb) σ H Q) : tOp r (den g W ma) (den g W mb) σ H Q := by
  obtain ⟨env, cs, as, s, h⟩ := h
  refine ⟨env, cs, as, s, (Post.bind h).mono fun a cs1 as1 H1 hs1 e1 h1 v rv => ?_⟩
  exact ⟨env, cs1, as1, s.exn hs1 e1, (Post.bind h1).mono fun b cs2 as2 H2 hs2 e2 h2 w rw' => hr hs2 (rv.exn e2) rw' h2⟩
theorem den_un {r : V → Hp → VK → Prop} {f : A → CS → R A} (hr : UnS g r f) {σ : St} {H : Hp} {Q : VK} (h : den g W (eUn f ma) σ H Q) : tUn r (den g W ma) σ H Q := by
  obtain ⟨env, cs, as, s, h⟩ := h
  exact ⟨env, cs, as, s, (Post.bind h).mono fun a cs1 as1 H1 hs1 e1 h1 v rv => hr hs1 rv h1⟩
theorem se_op {op : Operator} {r : R2} {f : A → A → CS → R A} (ho : OpR X (binaryOp op) r) (hr : OpS g r f) (ha : PE X a (den g W ma)) (hb : PE X b (den g W mb)) : PE X (.BinOp a op b pos) (den g W (eBin f ma mb)) :=
  pe_imp (pe_op ho ha hb) fun _ _ _ => den_op hr
theorem se_un {op : UnaryOp} {r : V → Hp → VK → Prop} {f : A → CS → R A} (ho : UnR X (unaryOp op) r) (hr : UnS g r f) (ha : PE X a (den g W ma)) : PE X (.UnaryOp op a pos) (den g W (eUn f ma)) :=
  pe_imp (pe_un ho ha) fun _ _ _ => den_un hr
/-- a comparison as a value -/
theorem se_cmp {op : CmpOp} {r : R2} {f : A → A → CS → R A} (ho : OpR X (compareOp op) r) (hr : OpS g r f) (ha : PE X a (den g W ma)) (hb : PE X b (den g W mb)) (hm : behindInMarks op b = false := by rfl) : PE X (.Compare a [op] [b] pos) (den g W (eBin f ma mb)) :=
  pe_imp (pe_cmpR ho ha hb hm) fun _ _ _ => den_op hr
/-- what is a bool, as a test -/
def asB : R A → R Bool
  | .ok (.d (.bool b)) cs => .ok b cs
  | .ex e cs => .ex e cs
  | _ => .no
@[simp] theorem asB_ok (b : Bool) (cs : CS) : asB (.ok (.d (.bool b)) cs) = .ok b cs := rfl
@[simp] theorem asB_ex (e : Ex) (cs : CS) : asB (.ex e cs) = .ex e cs := rfl
def tOf (m : ME) : MT := fun env cs => asB (m env cs)
theorem post_asB {σ : St} {cs : CS} {as : AS} {H : Hp} {Q : Bool → Hp → Prop} {r : R A} (h : Post g W σ cs as H (fun b _ _ H' => Q b H') (asB r)) : PostA g W σ cs as H (fun v H' => ∃ k, v = .bl k ∧ Q k H') r := by
  cases r with
  | ok a cs' =>
    cases a with
    | d x =>
      cases x with
      | bool b =>
        intro as' H' hs e v r
        have r' : Dq g.K (dat cs' as' H') v (.bool b) := r
        cases r'
        exact ⟨b, rfl, h as' H' hs e⟩
      | none => exact h.elim
      | int _ => exact h.elim
      | str _ => exact h.elim
      | list _ => exact h.elim
      | tuple _ => exact h.elim
      | dict _ => exact h.elim
    | c n => exact h.elim
    | s n => exact h.elim
    | x _ => exact h.elim
  | ex e cs' => exact h
  | no => exact h
theorem den_test {σ : St} {H : Hp} {Q : Bool → Hp → Prop} (h : denT g W (tOf ma) σ H Q) : den g W ma σ H (fun v H' => ∃ k, v = .bl k ∧ Q k H') := by
  obtain ⟨env, cs, as, s, h⟩ := h
  exact ⟨env, cs, as, s, post_asB h⟩
theorem st_cmp {op : CmpOp} {r : R2} {f : A → A → CS → R A} (ho : OpR X (compareOp op) r) (hr : OpS g r f) (ha : PE X a (den g W ma)) (hb : PE X b (den g W mb)) (hm : behindInMarks op b = false := by rfl) : PT X (.Compare a [op] [b] pos) (denT g W (tOf (eBin f ma mb))) :=
  pt_imp (pt_cmpR ho ha hb hm) fun _ _ _ h => den_op hr (den_test h)
/-- a call (of a bool) as a test -/
theorem st_val {e : Expr} (h : PE X e (den g W ma)) (he : ∀ whole, isTrue e X.env whole = (do let v ← whole; standAt e.pos; holding [v] (truthy v)) := by intro _; rfl) : PT X e (denT g W (tOf ma)) :=
  pt_imp (pt_val h he) fun _ _ _ h => den_test h
/-- truth of any value -/
def truD (cs : CS) : A → Option Bool
  | .d .none => some false
  | .d (.bool b) => some b
  | .d (.int i) => some (i != 0)
  | .d (.str x) => if x.length ≤ sizeLine then some ((x.length : Int) != 0) else none
  | .d (.list xs) => some (!xs.isEmpty)
  | .d (.tuple xs) => some (!xs.isEmpty)
  | .d (.dict _) => none
  | .c n => match cs[n]? with
    | some (.lst xs) => some (!xs.isEmpty)
    | some (.dk kvs) => some (!kvs.isEmpty)
    | _ => none
  | .s ns => some (!ns.isEmpty)
  | .x _ => none
def tTr (m : ME) : MT := fun env cs => (m env cs).bind fun a cs1 => match truD cs1 a with
  | some b => .ok b cs1
  | none => .no
theorem isEmpty_len {α β : Type} {xs : List α} {ys : List β} (h : xs.length = ys.length) : xs.isEmpty = ys.isEmpty := by
  cases xs <;> cases ys <;> first | rfl | cases h
theorem truD_rep {cs : CS} {as : AS} {H : Hp} (s : Hs g cs as H) {v : V} {a : A} {b : Bool} (r : RepA g cs as H v a) (h : truD cs a = some b) : TruV g.K v H b := by
  cases a with
  | d x =>
    have r' : Dq g.K (dat cs as H) v x := r
    cases r' with
    | non => exact (Option.some.inj h).symm
    | bl b => exact (Option.some.inj h).symm
    | int i => exact (Option.some.inj h).symm
    | str x =>
      simp only [truD] at h
      split at h
      · rename_i hl; exact ⟨hl, (Option.some.inj h).symm⟩
      · cases h
    | lst h1 h2 =>
      have e : some (!(_ : List PyData).isEmpty) = some b := h
      exact .inl ⟨_, SqL.of (dat_le _ _ h1), by rw [isEmpty_len (DqAll.length h2)]; exact (Option.some.inj e).symm⟩
    | tup h1 h2 =>
      have e : some (!(_ : List PyData).isEmpty) = some b := h
      exact .inr (.inl ⟨_, Le.sqT dat_le h1.t, by rw [isEmpty_len (DqAll.length h2)]; exact (Option.some.inj e).symm⟩)
  | c n =>
    obtain ⟨p, e1, rfl⟩ := r
    cases e2 : cs[n]? with
    | none => simp only [truD, e2] at h; cases h
    | some c =>
      cases c with
      | lst xs =>
        simp only [truD, e2] at h
        obtain ⟨vs, e3, rr⟩ := s.cells n _ p e2 e1
        exact .inl ⟨vs, SqL.of e3, by rw [isEmpty_len (DqAll.length rr)]; exact (Option.some.inj h).symm⟩
      | dk kvs =>
        simp only [truD, e2] at h
        obtain ⟨vs, e3, rr⟩ := s.cells n _ p e2 e1
        exact .inr (.inr ⟨vs, e3, by rw [isEmpty_len (Paired.length rr)]; exact (Option.some.inj h).symm⟩)
      | dead => simp only [truD, e2] at h; cases h
      | dt _ => simp only [truD, e2] at h; cases h
  | s ns =>
    obtain ⟨p, rfl, h1⟩ := r
    have e : some (!ns.isEmpty) = some b := h
    exact .inl ⟨_, Le.sqL dat_le h1, by rw [isEmpty_len (List.length_map V.int)]; exact (Option.some.inj e).symm⟩
  | x _ => cases h
theorem st_tr (hK : X.K = g.K) (ha : PE X a (den g W ma)) (he : ∀ whole, isTrue a X.env whole = (do let v ← whole; standAt a.pos; holding [v] (truthy v)) := by intro _; rfl) : PT X a (denT g W (tTr ma)) :=
  pt_imp (pt_truth ha he) fun σ H Q ⟨env, cs, as, s, h⟩ => ⟨env, cs, as, s, (Post.bind h).mono fun x cs1 as1 H1 hs1 e1 h1 v rv => by
    cases q : truD cs1 x with
    | none => simp only [q] at h1; exact h1.elim
    | some b =>
      simp only [q] at h1
      exact ⟨b, by rw [hK]; exact truD_rep hs1 rv q, h1 as1 H1 hs1 Exn.refl⟩⟩

/-! ### and, or, not -/
variable {tA tB' : MT} {rest : List Expr}
def tAndM (t u : MT) : MT := fun env cs => (t env cs).bind fun b cs1 => if b = true then u env cs1 else .ok false cs1
def tOrM (t u : MT) : MT := fun env cs => (t env cs).bind fun b cs1 => if b = true then .ok true cs1 else u env cs1
def tNotM (t : MT) : MT := fun env cs => (t env cs).bind fun b cs1 => .ok (!b) cs1
theorem sw_and1 (ha : PT X a (denT g W tA)) : PW X (.BoolOp .And [a] pos) (denT g W tA) := pw_and1 ha
theorem sw_or1 (ha : PT X a (denT g W tA)) : PW X (.BoolOp .Or [a] pos) (denT g W tA) := pw_or1 ha
theorem den_and {σ : St} {H : Hp} {Q : Bool → Hp → Prop} (h : denT g W (tAndM tA tB') σ H Q) : tAnd (denT g W tA) (denT g W tB') σ H Q := by
  obtain ⟨env, cs, as, s, h⟩ := h
  refine ⟨env, cs, as, s, (Post.bind h).mono fun b cs1 as1 H1 hs1 e1 h1 => ?_⟩
  cases b with
  | true => exact ⟨env, cs1, as1, s.exn hs1 e1, h1⟩
  | false => exact h1 as1 H1 hs1 Exn.refl
theorem den_or {σ : St} {H : Hp} {Q : Bool → Hp → Prop} (h : denT g W (tOrM tA tB') σ H Q) : tOr (denT g W tA) (denT g W tB') σ H Q := by
  obtain ⟨env, cs, as, s, h⟩ := h
  refine ⟨env, cs, as, s, (Post.bind h).mono fun b cs1 as1 H1 hs1 e1 h1 => ?_⟩
  cases b with
  | false => exact ⟨env, cs1, as1, s.exn hs1 e1, h1⟩
  | true => exact h1 as1 H1 hs1 Exn.refl
theorem sw_and (ha : PT X a (denT g W tA)) (hb : PW X (.BoolOp .And (b :: rest) pos) (denT g W tB')) : PW X (.BoolOp .And (a :: b :: rest) pos) (denT g W (tAndM tA tB')) := pw_imp (pw_and ha hb) fun _ _ _ => den_and
theorem sw_or (ha : PT X a (denT g W tA)) (hb : PW X (.BoolOp .Or (b :: rest) pos) (denT g W tB')) : PW X (.BoolOp .Or (a :: b :: rest) pos) (denT g W (tOrM tA tB')) := pw_imp (pw_or ha hb) fun _ _ _ => den_or
theorem st_bool {e : Expr} (h : PW X e (denT g W tA)) : PT X e (denT g W tA) := h.pt
theorem st_not (ha : PT X a (denT g W tA)) : PT X (.UnaryOp .Not a pos) (denT g W (tNotM tA)) := pt_imp (pt_not ha) fun _ _ _ ⟨env, cs, as, s, h⟩ =>
  ⟨env, cs, as, s, (Post.bind h).mono fun b cs1 as1 H1 hs1 e1 h1 => h1 as1 H1 hs1 Exn.refl⟩
/-- .. as values, of bools -/
def ofB : R Bool → R A
  | .ok b cs => .ok (.d (.bool b)) cs
  | .ex e cs => .ex e cs
  | .no => .no
@[simp] theorem ofB_ok (b : Bool) (cs : CS) : ofB (.ok b cs) = .ok (.d (.bool b)) cs := rfl
def eOf (t : MT) : ME := fun env cs => ofB (t env cs)
def eAnd (ma mb : ME) : ME := fun env cs => (asB (ma env cs)).bind fun b cs1 => if b = true then mb env cs1 else .ok (.d (.bool false)) cs1
def eOr (ma mb : ME) : ME := fun env cs => (asB (ma env cs)).bind fun b cs1 => if b = true then .ok (.d (.bool true)) cs1 else mb env cs1
def eNot (ma : ME) : ME := fun env cs => (asB (ma env cs)).bind fun b cs1 => .ok (.d (.bool (!b))) cs1
theorem post_asBk {σ : St} {cs : CS} {as : AS} {H : Hp} {r : R A} {k : Bool → CS → R A} {Q : VK} (h : PostA g W σ cs as H Q ((asB r).bind k)) :
    Post g W σ cs as H (fun a cs1 as1 H1 => ∀ v, RepA g cs1 as1 H1 v a → ∃ c, v = .bl c ∧ PostA g W σ cs1 as1 H1 Q (k c cs1)) r := by
  cases r with
  | ok a cs' =>
    cases a with
    | d x =>
      cases x with
      | bool b =>
        intro as' H' hs e v r
        have r' : Dq g.K (dat cs' as' H') v (.bool b) := r
        cases r'
        exact ⟨b, rfl, Post.shift h e⟩
      | none => exact h.elim
      | int _ => exact h.elim
      | str _ => exact h.elim
      | list _ => exact h.elim
      | tuple _ => exact h.elim
      | dict _ => exact h.elim
    | c n => exact h.elim
    | s n => exact h.elim
    | x _ => exact h.elim
  | ex e cs' => exact h
  | no => exact h
theorem se_one {op} (h : PE X a (den g W ma)) : PE X (.BoolOp op [a] pos) (den g W ma) := pe_one h
theorem se_and (ha : PE X a (den g W ma)) (hb : PE X (.BoolOp .And (b :: rest) pos) (den g W mb)) : PE X (.BoolOp .And (a :: b :: rest) pos) (den g W (eAnd ma mb)) :=
  pe_imp (pe_and ha hb) fun σ H Q ⟨env, cs, as, s, h⟩ => ⟨env, cs, as, s, (post_asBk h).mono fun x cs1 as1 H1 hs1 e1 h1 v rv => by
    obtain ⟨c, rfl, h2⟩ := h1 v rv
    refine ⟨c, rfl, ?_⟩
    cases c with
    | true => exact ⟨env, cs1, as1, s.exn hs1 e1, h2⟩
    | false => exact PostA.bl h2 hs1⟩
theorem se_or (ha : PE X a (den g W ma)) (hb : PE X (.BoolOp .Or (b :: rest) pos) (den g W mb)) : PE X (.BoolOp .Or (a :: b :: rest) pos) (den g W (eOr ma mb)) :=
  pe_imp (pe_or ha hb) fun σ H Q ⟨env, cs, as, s, h⟩ => ⟨env, cs, as, s, (post_asBk h).mono fun x cs1 as1 H1 hs1 e1 h1 v rv => by
    obtain ⟨c, rfl, h2⟩ := h1 v rv
    refine ⟨c, rfl, ?_⟩
    cases c with
    | false => exact ⟨env, cs1, as1, s.exn hs1 e1, h2⟩
    | true => exact PostA.bl h2 hs1⟩
theorem se_not (ha : PE X a (den g W ma)) : PE X (.UnaryOp .Not a pos) (den g W (eNot ma)) :=
  pe_imp (pe_not ha) fun σ H Q ⟨env, cs, as, s, h⟩ => ⟨env, cs, as, s, (post_asBk h).mono fun x cs1 as1 H1 hs1 e1 h1 v rv => by
    obtain ⟨c, rfl, h2⟩ := h1 v rv
    exact ⟨c, rfl, PostA.bl h2 hs1⟩⟩
/-- a if t else b -/
def eIf (t : MT) (ma mb : ME) : ME := fun env cs => (t env cs).bind fun c cs1 => if c = true then ma env cs1 else mb env cs1
theorem se_if {c : Expr} (hc : PT X c (denT g W tA)) (ha : PE X a (den g W ma)) (hb : PE X b (den g W mb)) : PE X (.IfExp c a b pos) (den g W (eIf tA ma mb)) :=
  pe_imp (pe_ifExp hc ha hb) fun σ H Q ⟨env, cs, as, s, h⟩ => ⟨env, cs, as, s, (Post.bind h).mono fun c cs1 as1 H1 hs1 e1 h1 => by
    cases c with
    | true => exact ⟨env, cs1, as1, s.exn hs1 e1, h1⟩
    | false => exact ⟨env, cs1, as1, s.exn hs1 e1, h1⟩⟩

/-! ### lists of arguments; displays -/
variable {es : List Expr} {mr : MA}
def aNil : MA := fun _ cs => .ok [] cs
def aCons (m : ME) (mr : MA) : MA := fun env cs => (m env cs).bind fun x cs1 => (mr env cs1).bind fun xs cs2 => .ok (x :: xs) cs2
theorem sa_nil : PA X [] (denA g W aNil) := pa_imp pa_nil fun σ H Q ⟨env, cs, as, s, h⟩ => h as H s.hs Exn.refl [] .nil
theorem sa_cons {e : Expr} (he : PE X e (den g W ma)) (hr : PA X es (denA g W mr)) (hs : starEach (e :: es) X.env = (false, eval e X.env) :: starEach es X.env := by rfl) : PA X (e :: es) (denA g W (aCons ma mr)) :=
  pa_imp (pa_cons he hr hs) fun σ H Q ⟨env, cs, as, s, h⟩ => ⟨env, cs, as, s, (Post.bind h).mono fun x cs1 as1 H1 hs1 e1 h1 v rv =>
    ⟨env, cs1, as1, s.exn hs1 e1, (Post.bind h1).mono fun xs cs2 as2 H2 hs2 e2 h2 vs rvs => h2 as2 H2 hs2 Exn.refl (v :: vs) (.cons (rv.exn e2) rvs)⟩⟩
/-- (a, b, ..) of plain data -/
def eTup (m : MA) : ME := fun env cs => (m env cs).bind fun xs cs1 => match allD xs with
  | some ds => if ds.length ≤ sizeLine then .ok (.d (.tuple ds)) cs1 else .no
  | none => .no
/-- [a, b, ..] as plain data; as a new cell -/
def eLst (m : MA) : ME := fun env cs => (m env cs).bind fun xs cs1 => match allD xs with
  | some ds => if ds.length ≤ sizeLine then .ok (.d (.list ds)) cs1 else .no
  | none => .no
def eLstC (m : MA) : ME := fun env cs => (m env cs).bind fun xs cs1 => match allD xs with
  | some ds => if ds.length ≤ sizeLine then .ok (.c cs1.length) (cs1 ++ [.lst ds]) else .no
  | none => .no
theorem se_tup {x1} (h : PA X es (denA g W mr)) : PE X (.Tuple es x1 pos) (den g W (eTup mr)) :=
  pe_imp (pe_tupN h) fun σ H Q ⟨env, cs, as, s, h⟩ => ⟨env, cs, as, s, (Post.bind h).mono fun xs cs1 as1 H1 hs1 e1 h1 vs rv => by
    cases q : allD xs with
    | none => simp only [q] at h1; exact h1.elim
    | some ds =>
      simp only [q] at h1
      rw [allD_eq q] at rv
      split at h1
      · rename_i hl
        exact ⟨by rw [rv.length, List.length_map]; exact hl, fun p o ho hp => PostA.tup h1 hs1 ho hp rv.dp⟩
      · exact h1.elim⟩
theorem se_lst (h : PA X es (denA g W mr)) : PE X (.List es pos) (den g W (eLst mr)) :=
  pe_imp (pe_lst h) fun σ H Q ⟨env, cs, as, s, h⟩ => ⟨env, cs, as, s, (Post.bind h).mono fun xs cs1 as1 H1 hs1 e1 h1 vs rv => by
    cases q : allD xs with
    | none => simp only [q] at h1; exact h1.elim
    | some ds =>
      simp only [q] at h1
      rw [allD_eq q] at rv
      split at h1
      · rename_i hl
        exact ⟨by rw [rv.length, List.length_map]; exact hl, fun p hp => PostA.lst h1 hs1 hp rv.dp⟩
      · exact h1.elim⟩
theorem se_lstC (h : PA X es (denA g W mr)) : PE X (.List es pos) (den g W (eLstC mr)) :=
  pe_imp (pe_lst h) fun σ H Q ⟨env, cs, as, s, h⟩ => ⟨env, cs, as, s, (Post.bind h).mono fun xs cs1 as1 H1 hs1 e1 h1 vs rv => by
    cases q : allD xs with
    | none => simp only [q] at h1; exact h1.elim
    | some ds =>
      simp only [q] at h1
      rw [allD_eq q] at rv
      split at h1
      · rename_i hl
        exact ⟨by rw [rv.length, List.length_map]; exact hl, fun p hp => PostA.cell h1 hs1 hp rv.dp⟩
      · exact h1.elim⟩
/-! ### a cell given up: its list is plain data from now on -/
def freeze (cs : CS) : A → R A
  | .d x => .ok (.d x) cs
  | .c n => match cs[n]? with
    | some (.lst xs) => .ok (.d (.list xs)) (cs.set n .dead)
    | _ => .no
  | .s _ => .no
  | .x _ => .no
def eFrz (m : ME) : ME := fun env cs => (m env cs).bind fun a cs1 => freeze cs1 a
theorem post_freeze {σ : St} {cs : CS} {as : AS} {H : Hp} {a : A} {v : V} {Q : VK} (s : Hs g cs as H) (r : RepA g cs as H v a) (h : PostA g W σ cs as H Q (freeze cs a)) : Q v H := by
  cases a with
  | d x => exact PostA.here h s r
  | c n =>
    obtain ⟨p, e1, rfl⟩ := r
    cases e2 : cs[n]? with
    | none => simp only [freeze, e2] at h; exact h.elim
    | some c =>
      cases c with
      | lst xs =>
        simp only [freeze, e2] at h
        obtain ⟨vs, e3, rr⟩ := s.cells n _ p e2 e1
        have ed : Exn cs as H (cs.set n .dead) as H := exn_dead e2 (fun z => nomatch z)
        exact h as H (s.dead e2 fun z => nomatch z) ed _ (.lst ((s.dead_at e2 (fun z => nomatch z) e1 e3)) (DqAll.le ed.dat rr))
      | dead => simp only [freeze, e2] at h; exact h.elim
      | dk _ => simp only [freeze, e2] at h; exact h.elim
      | dt _ => simp only [freeze, e2] at h; exact h.elim
  | s ns => exact h.elim
  | x _ => exact h.elim
theorem se_frz {e : Expr} (he : PE X e (den g W ma)) : PE X e (den g W (eFrz ma)) :=
  pe_imp he fun σ H Q ⟨env, cs, as, s, h⟩ => ⟨env, cs, as, s, (Post.bind h).mono fun a cs1 as1 H1 hs1 e1 h1 v rv => post_freeze hs1 rv h1⟩
end
end Sh
namespace Sh
open PySem L2
section
variable {g : G} {cs : CS} {as : AS} {H : Hp} {W : WX} {σ : St} {Q : VK}
/-- what a value is, if it is represented -/
theorem rep_int {v : V} {i : Int} (r : RepA g cs as H v (.d (.int i))) : v = .int i := by
  have r' : Dq g.K (dat cs as H) v (.int i) := r
  cases r'; rfl
theorem rep_bl {v : V} {i : Bool} (r : RepA g cs as H v (.d (.bool i))) : v = .bl i := by
  have r' : Dq g.K (dat cs as H) v (.bool i) := r
  cases r'; rfl
theorem rep_str {v : V} {i : Str} (r : RepA g cs as H v (.d (.str i))) : v = .str i := by
  have r' : Dq g.K (dat cs as H) v (.str i) := r
  cases r'; rfl
theorem rep_non {v : V} (r : RepA g cs as H v (.d .none)) : v = .non := by
  have r' : Dq g.K (dat cs as H) v .none := r
  cases r'; rfl
theorem rep_tup {v : V} {ds : List PyData} (r : RepA g cs as H v (.d (.tuple ds))) : ∃ a vs, v = .ref a ∧ SqT g.K H a vs ∧ DqAll g.K (dat cs as H) vs ds := by
  have r' : Dq g.K (dat cs as H) v (.tuple ds) := r
  cases r' with
  | tup h1 h2 => exact ⟨_, _, rfl, Le.sqT dat_le h1.t, h2⟩
theorem rep_lst {v : V} {ds : List PyData} (r : RepA g cs as H v (.d (.list ds))) : ∃ a vs, v = .ref a ∧ H a = some (.lst vs) ∧ DqAll g.K (dat cs as H) vs ds := by
  have r' : Dq g.K (dat cs as H) v (.list ds) := r
  cases r' with
  | lst h1 h2 => exact ⟨_, _, rfl, dat_le _ _ h1, h2⟩
/-- a list just now, plain or a cell's -/
def toL (cs : CS) : A → Option (List PyData)
  | .d (.list xs) => some xs
  | .c n => match cs[n]? with
    | some (.lst xs) => some xs
    | _ => none
  | _ => none
@[simp] theorem toL_list {xs : List PyData} : toL cs (.d (.list xs)) = some xs := rfl
theorem toL_c {n : Nat} {xs : List PyData} (h : cs[n]? = some (.lst xs)) : toL cs (.c n) = some xs := by simp only [toL, h]
theorem toL_rep (s : Hs g cs as H) {v : V} {a : A} {xs : List PyData} (r : RepA g cs as H v a) (h : toL cs a = some xs) : ∃ p vs, v = .ref p ∧ H p = some (.lst vs) ∧ DqAll g.K (dat cs as H) vs xs := by
  cases a with
  | d x =>
    cases x with
    | list ds =>
      obtain rfl := Option.some.inj h
      exact rep_lst r
    | none => cases h
    | bool _ => cases h
    | int _ => cases h
    | str _ => cases h
    | tuple _ => cases h
    | dict _ => cases h
  | c n =>
    obtain ⟨p, e1, rfl⟩ := r
    cases e2 : cs[n]? with
    | none => simp only [toL, e2] at h; cases h
    | some c =>
      cases c with
      | lst ys =>
        simp only [toL, e2] at h
        obtain rfl := Option.some.inj h
        obtain ⟨vs, e3, rr⟩ := s.cells n _ p e2 e1
        exact ⟨p, vs, rfl, e3, rr⟩
      | dead => simp only [toL, e2] at h; cases h
      | dk _ => simp only [toL, e2] at h; cases h
      | dt _ => simp only [toL, e2] at h; cases h
  | s ns => cases h
  | x ns => cases h
end

/-! ### ints -/
def fAdd : A → A → CS → R A
  | .d (.int i), .d (.int j), cs => .ok (.d (.int (i + j))) cs
  | .d (.str x), .d (.str y), cs => if x.length + y.length ≤ sizeLine then .ok (.d (.str (x ++ y))) cs else .no
  | .d (.tuple xs), .d (.tuple ys), cs => if xs.length + ys.length ≤ sizeLine then .ok (.d (.tuple (xs ++ ys))) cs else .no
  | a, b, cs => match toL cs a, toL cs b with
    | some xs, some ys => if xs.length + ys.length ≤ sizeLine then .ok (.d (.list (xs ++ ys))) cs else .no
    | _, _ => .no
def rAddA (K : PySem.W.Frag) : R2 := fun x y H Q => ((rI0 fun i j => .int (i + j)) x y H Q ∨ (∃ i j, x = .str i ∧ y = .str j ∧ i.length + j.length ≤ sizeLine ∧ Q (.str (i ++ j)) H)) ∨ (rCatN K x y H Q ∨ rCat x y H Q)
theorem op_addA {X : Cx} : OpR X (binaryOp .Add) (rAddA X.K) := (op_add.or op_add_str).or (op_catN.or op_cat)
theorem fAdd_list {g : G} {cs : CS} {as : AS} {H : Hp} {W : WX} {σ : St} {Q : VK} {x y : V} {a b : A} (s : Hs g cs as H) (ra : RepA g cs as H x a) (rb : RepA g cs as H y b)
    (h : PostA g W σ cs as H Q (match toL cs a, toL cs b with
      | some xs, some ys => if xs.length + ys.length ≤ sizeLine then .ok (.d (.list (xs ++ ys))) cs else .no
      | _, _ => .no)) : rAddA g.K x y H Q := by
  cases qa : toL cs a with
  | none => simp only [qa] at h; exact h.elim
  | some xs =>
    cases qb : toL cs b with
    | none => simp only [qa, qb] at h; exact h.elim
    | some ys =>
      simp only [qa, qb] at h
      split at h
      · rename_i hl
        obtain ⟨p1, vs, rfl, h1, r1⟩ := toL_rep s ra qa
        obtain ⟨p2, ws, rfl, h2, r2⟩ := toL_rep s rb qb
        exact .inr (.inr ⟨p1, p2, vs, ws, rfl, rfl, h1, h2, by rw [DqAll.length r1, DqAll.length r2]; exact hl, fun p hp => PostA.lst h s hp (DqAll.append r1 r2)⟩)
      · exact h.elim
theorem os_add {g : G} : OpS g (rAddA g.K) fAdd := by
  intro W σ cs as H x y a b Q s ra rb h
  unfold fAdd at h
  split at h
  · cases rep_int ra; cases rep_int rb
    exact .inl (.inl ⟨_, _, rfl, rfl, h.int s⟩)
  · cases rep_str ra; cases rep_str rb
    split at h
    · rename_i hl; exact .inl (.inr ⟨_, _, rfl, rfl, hl, h.str s⟩)
    · exact h.elim
  · rename_i xs ys cs'
    split at h
    · rename_i hl
      obtain ⟨p1, vs, rfl, h1, r1⟩ := rep_tup ra
      obtain ⟨p2, ws, rfl, h2, r2⟩ := rep_tup rb
      refine .inr (.inl ⟨p1, p2, vs, ws, rfl, rfl, h1, h2, by rw [DqAll.length r1, DqAll.length r2]; exact hl, fun e => ?_, fun e1 e2 => ?_, fun e1 e2 p o ho hp => ?_⟩)
      · subst e
        cases r1
        exact h.here s rb
      · subst e2
        cases r2
        rw [List.append_nil] at h
        exact h.here s ra
      · exact h.tup s ho hp (DqAll.append r1 r2)
    · exact h.elim
  · exact fAdd_list s ra rb h
def fSub : A → A → CS → R A
  | .d (.int i), .d (.int j), cs => .ok (.d (.int (i - j))) cs
  | _, _, _ => .no
theorem os_sub {g : G} : OpS g (rI0 fun i j => .int (i - j)) fSub := by
  intro W σ cs as H x y a b Q s ra rb h
  unfold fSub at h
  split at h
  · cases rep_int ra; cases rep_int rb
    exact ⟨_, _, rfl, rfl, h.int s⟩
  · exact h.elim
/-- the sizes that the model's products and quotients ask -/
def mulOk (i j : Int) : Bool := decide ((i.natAbs < 18446744073709551616 ∨ j.natAbs < 18446744073709551616) ∨ i.natAbs.log2 + j.natAbs.log2 < 1000000)
theorem mulOk_c {i j : Int} (h : mulOk i j = true) : CMul i j ∨ CMulW i j := by
  unfold mulOk at h
  have h' := of_decide_eq_true h
  rcases h' with (h' | h') | h'
  · exact .inl (.inl (by omega))
  · exact .inl (.inr (by omega))
  · exact .inr h'
def divOk (j : Int) : Bool := decide (j.natAbs.log2 < 9000)
def fMul : A → A → CS → R A
  | .d (.int i), .d (.int j), cs => if mulOk i j = true then .ok (.d (.int (i * j))) cs else .no
  | _, _, _ => .no
theorem os_mul {g : G} : OpS g (fun x y H Q => rI CMul (fun i j => .int (i * j)) x y H Q ∨ rI CMulW (fun i j => .int (i * j)) x y H Q) fMul := by
  intro W σ cs as H x y a b Q s ra rb h
  unfold fMul at h
  split at h
  · cases rep_int ra; cases rep_int rb
    split at h
    · rename_i hm
      rcases mulOk_c hm with hm | hm
      · exact .inl ⟨_, _, rfl, rfl, hm, h.int s⟩
      · exact .inr ⟨_, _, rfl, rfl, hm, h.int s⟩
    · exact h.elim
  · exact h.elim
theorem op_mulA {X : Cx} : OpR X (binaryOp .Mult) (fun x y H Q => rI CMul (fun i j => .int (i * j)) x y H Q ∨ rI CMulW (fun i j => .int (i * j)) x y H Q) := op_mul.or op_mulW
def fDiv : A → A → CS → R A
  | .d (.int i), .d (.int j), cs => if 0 < j ∧ divOk j = true then .ok (.d (.int (i / j))) cs else if j < 0 ∧ j.natAbs < 1073741824 then .ok (.d (.int (i.fdiv j))) cs else .no
  | _, _, _ => .no
theorem os_div {g : G} : OpS g (fun x y H Q => rI CDivW (fun i j => .int (i / j)) x y H Q ∨ rI CDivN (fun i j => .int (i.fdiv j)) x y H Q) fDiv := by
  intro W σ cs as H x y a b Q s ra rb h
  unfold fDiv at h
  split at h
  · cases rep_int ra; cases rep_int rb
    split at h
    · rename_i hm; exact .inl ⟨_, _, rfl, rfl, ⟨hm.1, of_decide_eq_true hm.2⟩, h.int s⟩
    · split at h
      · rename_i hm; exact .inr ⟨_, _, rfl, rfl, ⟨Int.ne_of_lt hm.1, hm.2⟩, h.int s⟩
      · exact h.elim
  · exact h.elim
theorem op_divA {X : Cx} : OpR X (binaryOp .FloorDiv) (fun x y H Q => rI CDivW (fun i j => .int (i / j)) x y H Q ∨ rI CDivN (fun i j => .int (i.fdiv j)) x y H Q) := op_fdivW.or op_fdivN
def fMod : A → A → CS → R A
  | .d (.int i), .d (.int j), cs => if 0 < j then .ok (.d (.int (i % j))) cs else if j < 0 then .ok (.d (.int (i.fmod j))) cs else .no
  | _, _, _ => .no
theorem os_mod {g : G} : OpS g (fun x y H Q => rI (fun _ j => 0 < j) (fun i j => .int (i % j)) x y H Q ∨ rI (fun _ j => j ≠ 0) (fun i j => .int (i.fmod j)) x y H Q) fMod := by
  intro W σ cs as H x y a b Q s ra rb h
  unfold fMod at h
  split at h
  · cases rep_int ra; cases rep_int rb
    split at h
    · rename_i hm; exact .inl ⟨_, _, rfl, rfl, hm, h.int s⟩
    · split at h
      · rename_i hm; exact .inr ⟨_, _, rfl, rfl, Int.ne_of_lt hm, h.int s⟩
      · exact h.elim
  · exact h.elim
theorem op_modA {X : Cx} : OpR X (binaryOp .Mod) (fun x y H Q => rI (fun _ j => 0 < j) (fun i j => .int (i % j)) x y H Q ∨ rI (fun _ j => j ≠ 0) (fun i j => .int (i.fmod j)) x y H Q) := op_mod.or op_modN
/-- 1 << k, b ** k: a small base -/
def powOk (i j : Int) : Bool := decide (0 ≤ j ∧ j ≤ 1000000 ∧ i.natAbs < 18446744073709551616)
theorem powOk_c {i j : Int} (h : powOk i j = true) : CPow i j := by
  unfold powOk at h
  have h' := of_decide_eq_true h
  exact ⟨h'.1, h'.2.1, Nat.lt_of_lt_of_le h'.2.2 (by decide)⟩
def fShl : A → A → CS → R A
  | .d (.int i), .d (.int j), cs => if powOk i j = true then .ok (.d (.int (i * 2 ^ j.toNat))) cs else .no
  | _, _, _ => .no
def fPow : A → A → CS → R A
  | .d (.int i), .d (.int j), cs => if powOk i j = true then .ok (.d (.int (i ^ j.toNat))) cs else .no
  | _, _, _ => .no
theorem os_shl {g : G} : OpS g (rI CPow fun i j => .int (i * 2 ^ j.toNat)) fShl := by
  intro W σ cs as H x y a b Q s ra rb h
  unfold fShl at h
  split at h
  · cases rep_int ra; cases rep_int rb
    split at h
    · rename_i hm; exact ⟨_, _, rfl, rfl, powOk_c hm, h.int s⟩
    · exact h.elim
  · exact h.elim
theorem os_pow {g : G} : OpS g (rI CPow fun i j => .int (i ^ j.toNat)) fPow := by
  intro W σ cs as H x y a b Q s ra rb h
  unfold fPow at h
  split at h
  · cases rep_int ra; cases rep_int rb
    split at h
    · rename_i hm; exact ⟨_, _, rfl, rfl, powOk_c hm, h.int s⟩
    · exact h.elim
  · exact h.elim
def fCmp (p : Int → Int → Bool) : A → A → CS → R A
  | .d (.int i), .d (.int j), cs => .ok (.d (.bool (p i j))) cs
  | _, _, _ => .no
theorem os_cmp {g : G} {p : Int → Int → Bool} : OpS g (rI0 fun i j => .bl (p i j)) (fCmp p) := by
  intro W σ cs as H x y a b Q s ra rb h
  unfold fCmp at h
  split at h
  · cases rep_int ra; cases rep_int rb
    exact ⟨_, _, rfl, rfl, h.bl s⟩
  · exact h.elim
abbrev fLt : A → A → CS → R A := fCmp fun i j => decide (i < j)
abbrev fLe : A → A → CS → R A := fCmp fun i j => decide (i ≤ j)
abbrev fGt : A → A → CS → R A := fCmp fun i j => decide (j < i)
abbrev fGe : A → A → CS → R A := fCmp fun i j => decide (j ≤ i)
def fNeg : A → CS → R A
  | .d (.int i), cs => .ok (.d (.int (-i))) cs
  | _, _ => .no
theorem us_neg {g : G} : UnS g (rU fun i => .int (-i)) fNeg := by
  intro W σ cs as H x a Q s ra h
  unfold fNeg at h
  split at h
  · cases rep_int ra
    exact ⟨_, rfl, h.int s⟩
  · exact h.elim

theorem rep_tupN {g : G} {cs : CS} {as : AS} {H : Hp} {v : V} {ds : List PyData} (r : RepA g cs as H v (.d (.tuple ds))) : ∃ a vs, v = .ref a ∧ SqN H a vs ∧ DqAll g.K (dat cs as H) vs ds := by
  have r' : Dq g.K (dat cs as H) v (.tuple ds) := r
  cases r' with
  | tup h1 h2 => exact ⟨_, _, rfl, Le.sqN dat_le h1, h2⟩
/-! ### == and != -/
/-- scalars of one kind, and what is never alike -/
def eqS : PyData → PyData → Option Bool
  | .int i, .int j => some (decide (i = j))
  | .str x, .str y => some (decide (x = y))
  | .bool a, .bool b => some (decide (a = b))
  | .none, .none => some true
  | .none, .int _ => some false
  | .int _, .none => some false
  | .none, .bool _ => some false
  | .bool _, .none => some false
  | .none, .str _ => some false
  | .str _, .none => some false
  | .int _, .str _ => some false
  | .str _, .int _ => some false
  | .bool _, .str _ => some false
  | .str _, .bool _ => some false
  | _, _ => none
def eqvD (x y : PyData) : Option Bool := match eqS x y with
  | some b => some b
  | none => if (SeqAt.shaped x && SeqAt.shaped y) = true then some (PyData.eqv x y) else none
def fEq (a b : A) (cs : CS) : R A := match toD cs a, toD cs b with
  | some x, some y => match eqvD x y with
    | some r => .ok (.d (.bool r)) cs
    | none => .no
  | _, _ => .no
def fNe (a b : A) (cs : CS) : R A := match toD cs a, toD cs b with
  | some x, some y => match eqvD x y with
    | some r => .ok (.d (.bool (!r))) cs
    | none => .no
  | _, _ => .no
def rEqA (K : PySem.W.Frag) : R2 := fun x y H Q => rEq x y H Q ∨ rEqD K x y H Q
def rNeA (K : PySem.W.Frag) : R2 := fun x y H Q => rNe x y H Q ∨ rNeD K x y H Q
theorem op_eqA {X : Cx} (hu : X.A.units + 64 < cLine) : OpR X (compareOp .Eq) (rEqA X.K) := op_eq.or (op_eqD hu)
theorem op_neA {X : Cx} (hu : X.A.units + 64 < cLine) : OpR X (compareOp .NotEq) (rNeA X.K) := op_ne.or (op_neD hu)
theorem eqS_rep {K : PySem.W.Frag} {H : Hp} {v w : V} {x y : PyData} {r : Bool} (hx : Dq K H v x) (hy : Dq K H w y) (h : eqS x y = some r) : scal v w = true ∧ decide (v = w) = r := by
  cases hx with
  | int i =>
    cases hy with
    | int j => obtain rfl := Option.some.inj h; exact ⟨rfl, by by_cases e : i = j <;> simp [e]⟩
    | non => obtain rfl := Option.some.inj h; exact ⟨rfl, by simp⟩
    | str x => obtain rfl := Option.some.inj h; exact ⟨rfl, by simp⟩
    | bl b => cases h
    | lst _ _ => cases h
    | tup _ _ => cases h
  | str s =>
    cases hy with
    | str t => obtain rfl := Option.some.inj h; exact ⟨rfl, by by_cases e : s = t <;> simp [e]⟩
    | non => obtain rfl := Option.some.inj h; exact ⟨rfl, by simp⟩
    | int x => obtain rfl := Option.some.inj h; exact ⟨rfl, by simp⟩
    | bl b => obtain rfl := Option.some.inj h; exact ⟨rfl, by simp⟩
    | lst _ _ => cases h
    | tup _ _ => cases h
  | bl s =>
    cases hy with
    | bl t => obtain rfl := Option.some.inj h; exact ⟨rfl, by by_cases e : s = t <;> simp [e]⟩
    | non => obtain rfl := Option.some.inj h; exact ⟨rfl, by simp⟩
    | str x => obtain rfl := Option.some.inj h; exact ⟨rfl, by simp⟩
    | int x => cases h
    | lst _ _ => cases h
    | tup _ _ => cases h
  | non =>
    cases hy with
    | non => obtain rfl := Option.some.inj h; exact ⟨rfl, by simp⟩
    | int x => obtain rfl := Option.some.inj h; exact ⟨rfl, by simp⟩
    | bl x => obtain rfl := Option.some.inj h; exact ⟨rfl, by simp⟩
    | str x => obtain rfl := Option.some.inj h; exact ⟨rfl, by simp⟩
    | lst _ _ => cases h
    | tup _ _ => cases h
  | lst _ _ => cases y <;> cases h
  | tup _ _ => cases y <;> cases h
theorem os_eq {g : G} : OpS g (rEqA g.K) fEq := by
  intro W σ cs as H x y a b Q s ra rb h
  unfold fEq at h
  cases qa : toD cs a with
  | none => simp only [qa] at h; exact h.elim
  | some dx =>
    cases qb : toD cs b with
    | none => simp only [qa, qb] at h; exact h.elim
    | some dy =>
      simp only [qa, qb] at h
      have h1 := toD_rep s ra qa
      have h2 := toD_rep s rb qb
      cases q : eqS dx dy with
      | some r =>
        simp only [eqvD, q] at h
        obtain ⟨e1, e2⟩ := eqS_rep h1 h2 q
        exact .inl ⟨e1, by rw [e2]; exact h.bl s⟩
      | none =>
        simp only [eqvD, q] at h
        split at h
        · rename_i r hr
          split at hr
          · rename_i hs
            rw [Bool.and_eq_true] at hs
            obtain rfl := Option.some.inj hr
            exact .inr ⟨dx, dy, h1.dp, h2.dp, hs.1, hs.2, h.bl s⟩
          · cases hr
        · exact h.elim
theorem os_ne {g : G} : OpS g (rNeA g.K) fNe := by
  intro W σ cs as H x y a b Q s ra rb h
  unfold fNe at h
  cases qa : toD cs a with
  | none => simp only [qa] at h; exact h.elim
  | some dx =>
    cases qb : toD cs b with
    | none => simp only [qa, qb] at h; exact h.elim
    | some dy =>
      simp only [qa, qb] at h
      have h1 := toD_rep s ra qa
      have h2 := toD_rep s rb qb
      cases q : eqS dx dy with
      | some r =>
        simp only [eqvD, q] at h
        obtain ⟨e1, e2⟩ := eqS_rep h1 h2 q
        exact .inl ⟨e1, by rw [e2]; exact h.bl s⟩
      | none =>
        simp only [eqvD, q] at h
        split at h
        · rename_i r hr
          split at hr
          · rename_i hs
            rw [Bool.and_eq_true] at hs
            obtain rfl := Option.some.inj hr
            exact .inr ⟨dx, dy, h1.dp, h2.dp, hs.1, hs.2, h.bl s⟩
          · cases hr
        · exact h.elim

/-! ### in, not in: flat items of a list or tuple -/
def flatD : PyData → Bool
  | .none => true
  | .bool _ => true
  | .int _ => true
  | .str _ => true
  | _ => false
def eqF : PyData → PyData → Bool
  | .none, .none => true
  | .bool a, .bool b => a == b
  | .bool a, .int b => (if a then 1 else 0) == b
  | .int a, .bool b => a == (if b then 1 else 0)
  | .int a, .int b => a == b
  | .str a, .str b => a == b
  | _, _ => false
def inF (x : PyData) (ys : List PyData) : Bool := ys.any fun y => eqF y x
/-- the items of a list or tuple, plain -/
def toS (cs : CS) (a : A) : Option (List PyData) := match toD cs a with
  | some (.list ys) => some ys
  | some (.tuple ys) => some ys
  | _ => none
def fIn (neg : Bool) (a b : A) (cs : CS) : R A := match a, toS cs b with
  | .d x, some ys => if (flatD x && ys.all flatD) = true then .ok (.d (.bool (if neg then !inF x ys else inF x ys))) cs else .no
  | _, _ => .no
theorem flat_rep {K : PySem.W.Frag} {H : Hp} {v : V} {x : PyData} (h : Dq K H v x) (f : flatD x = true) : flatV v = true := by
  cases h <;> first | rfl | cases f
theorem eqF_rep {K : PySem.W.Frag} {H : Hp} {v w : V} {x y : PyData} (h : Dq K H v x) (k : Dq K H w y) (f : flatD x = true) (f' : flatD y = true) : eqV v w = eqF x y := by
  cases h <;> cases k <;> first | rfl | cases f | cases f'
theorem all_rep {K : PySem.W.Frag} {H : Hp} : ∀ {vs : List V} {ys : List PyData}, DqAll K H vs ys → ys.all flatD = true → vs.all flatV = true
  | _, _, .nil, _ => rfl
  | _, _, .cons a b, f => by
    rw [List.all_cons, Bool.and_eq_true] at f
    rw [List.all_cons, flat_rep a f.1, all_rep b f.2] <;> rfl
theorem inF_rep {K : PySem.W.Frag} {H : Hp} {v : V} {x : PyData} (h : Dq K H v x) (f : flatD x = true) : ∀ {vs : List V} {ys : List PyData}, DqAll K H vs ys → ys.all flatD = true → inV v vs = inF x ys
  | _, _, .nil, _ => rfl
  | _, _, .cons a b, f' => by
    rw [List.all_cons, Bool.and_eq_true] at f'
    unfold inV inF
    rw [List.any_cons, List.any_cons, eqF_rep a h f'.1 f]
    exact congrArg _ (inF_rep h f b f'.2)
theorem toS_rep {g : G} {cs : CS} {as : AS} {H : Hp} (s : Hs g cs as H) {v : V} {a : A} {ys : List PyData} (r : RepA g cs as H v a) (h : toS cs a = some ys) :
    ∃ p vs, v = .ref p ∧ (SqL g.K H p vs ∨ SqT g.K H p vs) ∧ DqAll g.K H vs ys := by
  unfold toS at h
  cases q : toD cs a with
  | none => simp only [q] at h; cases h
  | some x =>
    have k := toD_rep s r q
    cases k with
    | lst h1 h2 =>
      simp only [q] at h
      obtain rfl := Option.some.inj h
      exact ⟨_, _, rfl, .inl (SqL.of h1), h2⟩
    | tup h1 h2 =>
      simp only [q] at h
      obtain rfl := Option.some.inj h
      exact ⟨_, _, rfl, .inr h1.t, h2⟩
    | non => simp only [q] at h; cases h
    | bl _ => simp only [q] at h; cases h
    | int _ => simp only [q] at h; cases h
    | str _ => simp only [q] at h; cases h
theorem os_in {g : G} {neg : Bool} : OpS g (rIn g.K neg) (fIn neg) := by
  intro W σ cs as H x y a b Q s ra rb h
  unfold fIn at h
  split at h
  · rename_i dx ys q
    split at h
    · rename_i hf
      rw [Bool.and_eq_true] at hf
      have ra' : Dq g.K H x dx := Dq.le dat_le ra
      obtain ⟨p, vs, rfl, h1, h2⟩ := toS_rep s rb q
      exact ⟨p, vs, rfl, h1, flat_rep ra' hf.1, all_rep h2 hf.2, by rw [inF_rep ra' hf.1 h2 hf.2]; exact h.bl s⟩
    · exact h.elim
  · exact h.elim

/-! ### items -/
def fIx : A → A → CS → R A
  | .d (.tuple ds), .d (.int i), cs => match atI ds i with
    | some x => .ok (.d x) cs
    | none => .no
  | .d (.str z), .d (.int i), cs => if z.length ≤ sizeLine then match atI z.cps.toList i with
    | some c => .ok (.d (.str ⟨#[c]⟩)) cs
    | none => .no else .no
  | a, .d (.int i), cs => match toL cs a with
    | some xs => match atI xs i with
      | some x => .ok (.d x) cs
      | none => .no
    | none => .no
  | _, _, _ => .no
theorem atI_rep {α β : Type} {F : α → β → Prop} {xs : List α} {ys : List β} {i : Int} {y : β} (h : Paired F xs ys) (e : atI ys i = some y) : ∃ x, atI xs i = some x ∧ F x y := by
  unfold atI at e ⊢
  rw [h.length]
  cases q : ixN ys.length i with
  | none => rw [q] at e; cases e
  | some j =>
    rw [q] at e
    have e' : ys[j]? = some y := e
    obtain ⟨x, e1, f⟩ := Paired.get h e'
    exact ⟨x, e1, f⟩
theorem DqAll.paired {K : PySem.W.Frag} {H : Hp} : ∀ {vs : List V} {ds : List PyData}, DqAll K H vs ds → Paired (Dq K H) vs ds
  | _, _, .nil => .nil
  | _, _, .cons a b => .cons a (DqAll.paired b)
theorem DqAll.of {K : PySem.W.Frag} {H : Hp} : ∀ {vs : List V} {ds : List PyData}, Paired (Dq K H) vs ds → DqAll K H vs ds
  | _, _, .nil => .nil
  | _, _, .cons a b => .cons a (DqAll.of b)
theorem fIx_list {g : G} {cs : CS} {as : AS} {H : Hp} {W : WX} {σ : St} {Q : VK} {x : V} {a : A} {i : Int} (s : Hs g cs as H) (ra : RepA g cs as H x a)
    (h : PostA g W σ cs as H Q (match toL cs a with
    | some xs => match atI xs i with
      | some x => .ok (.d x) cs
      | none => .no
    | none => .no)) : rIx g.K x (.int i) H Q := by
  cases qa : toL cs a with
  | none => simp only [qa] at h; exact h.elim
  | some xs =>
    simp only [qa] at h
    cases q : atI xs i with
    | none => simp only [q] at h; exact h.elim
    | some y =>
      simp only [q] at h
      obtain ⟨p, vs, rfl, h1, r1⟩ := toL_rep s ra qa
      obtain ⟨v, e1, rv⟩ := atI_rep (DqAll.paired r1) q
      exact .inl ⟨p, vs, i, v, rfl, rfl, SqL.of h1, e1, h.here s rv⟩
theorem os_ix {g : G} : OpS g (rIx g.K) fIx := by
  intro W σ cs as H x y a b Q s ra rb h
  unfold fIx at h
  split at h
  · rename_i ds i
    cases rep_int rb
    obtain ⟨p, vs, rfl, h1, r1⟩ := rep_tup ra
    cases q : atI ds i with
    | none => simp only [q] at h; exact h.elim
    | some d =>
      simp only [q] at h
      obtain ⟨v, e1, rv⟩ := atI_rep (DqAll.paired r1) q
      exact .inr (.inl ⟨p, vs, i, v, rfl, rfl, h1, e1, h.here s rv⟩)
  · rename_i z i
    cases rep_int rb; cases rep_str ra
    split at h
    · rename_i hl
      cases q : atI z.cps.toList i with
      | none => simp only [q] at h; exact h.elim
      | some c =>
        simp only [q] at h
        exact .inr (.inr ⟨z, i, c, rfl, rfl, hl, q, h.str s⟩)
    · exact h.elim
  · cases rep_int rb
    exact fIx_list s ra h
  · exact h.elim
theorem se_ix {X : Cx} {g : G} {W : WX} {a b : Expr} {pos : Pos} {ma mb : ME} (hK : X.K = g.K) (ha : PE X a (den g W ma)) (hb : PE X b (den g W mb)) (hs : PlainIx b := by exact fun _ _ => rfl) : PE X (.Subscript a b pos) (den g W (eBin fIx ma mb)) :=
  pe_imp (pe_ix ix_seq ha hb hs) fun _ _ _ h => den_op (by rw [hK]; exact os_ix) h
end Sh
namespace Sh
open PySem L2
/-! ### a def's promise -/
abbrev EX (E : XK) : WX := fun c d _ H => E c d H
def spOf (g : G) (n : Nat) (F : Fn) : Sp := fun vs H Q E => vs.length = n ∧ ∃ cs as xs, Hs g cs as H ∧ RepAs g cs as H vs xs ∧ PostA g (EX E) [] cs as H Q (F xs cs)
theorem post_EX {g : G} {W : WX} {σ : St} {cs : CS} {as : AS} {H : Hp} {Q : VK} {r : R A} (h : PostA g W σ cs as H Q r) : PostA g (EX fun c d H' => W c d σ H') [] cs as H Q r := by
  cases r with
  | ok a cs' => exact h
  | ex e cs' => exact h
  | no => exact h
theorem post_XE {g : G} {W : WX} {σ : St} {cs : CS} {as : AS} {H : Hp} {Q : VK} {r : R A} {E : XK} (h : PostA g W σ cs as H Q r) (hW : ∀ c d H', W c d σ H' → E c d H') : PostA g (EX E) [] cs as H Q r := by
  cases r with
  | ok a cs' => exact h
  | ex e cs' => exact fun d as' H' a b c => hW _ _ _ (h d as' H' a b c)
  | no => exact h

/-! ### calls of the text's own defs -/
section
variable {X : Cx} {CX : CXT} {k n : Nat} {f : Addr} {fd : FuncData} {ps ks : List Str} {sp : Sp} {E : St → XK} {x : Str} {p pos : Pos} {e : Expr} {es : List Expr} {kws : List Keyword} {t tk : TA} {gg : List Value → List Value → List Value} {gV : List V → List V → List V}
def tCallNS (n m : Nat) (sp : Sp) (gV : List V → List V → List V) (E : St → XK) (t tk : TA) : TE := fun σ H Q => t σ H fun vs H1 => tk σ H1 fun zs H2 => vs.length = n ∧ zs.length = m ∧ sp (gV vs zs) H2 Q (E σ)
theorem run_fnNS {pins : List (Addr × Obj)} {σ : St} {H : Hp} {s : Shared} {Q : VK} {us ws : List Value} {vs zs : List V} (F : FnOk X.prog X.w X.K X.mg X.base CX k f fd ps sp) (hr : Room k X.A) (hb : KBn X.K fd ps n ks gg gV) (hx : PassesAt CX X σ (E σ))
    (I : Inv X pins σ H s) (r : Vals vs us) (rz : Vals zs ws) (l1 : vs.length = n) (l2 : zs.length = ks.length) (h : sp (gV vs zs) H Q (E σ)) : wpAny (model X.prog X.w) X.A (call (.ref f) us (ks.zip ws)) (EP X pins σ Q) X.xe s := by
  have r2 := hb.rel r rz
  refine wpAny_call (codeAny_mono (F.run X.A X.stack s H ⟨us, ks.zip ws⟩ (gg us ws) (gV vs zs) Q (E σ) hr I.env0 (hb.to s us ws I.kIn (r.length.symm.trans l1) (rz.length.symm.trans l2)) r2 h) fun r s' hq => ?_)
  cases r with
  | error e => exact hx pins H s e s' I hq
  | ok fl =>
    cases fl with
    | ret u => exact I.after hq
    | next => exact False.elim hq
    | brk => exact False.elim hq
    | cont => exact False.elim hq
theorem pe_callNS (F : FnOk X.prog X.w X.K X.mg X.base CX k f fd ps sp) (hr : Room k X.A) (hg : Gl X x) (hm : X.mg x = some (.ref f)) (hk : PySem.W.keepIn X.K (.ref f) = true) (hb : KBn X.K fd ps n ks gg gV) (hx : ∀ σ, PassesAt CX X σ (E σ))
    (ha : PA X (e :: es) t) (hkw : PK X kws tk) (hall : (backToKw pos (keywordEach kws X.env)).all (·.1.isSome) = true := by rfl) (hks : (backToKw pos (keywordEach kws X.env)).filterMap (·.1) = ks := by rfl)
    (hdb : (x == ("__debug__" : Str)) = false := by decide) (he : starEach (e :: es) X.env = (false, eval e X.env) :: starEach es X.env := by rfl)
    (hpl : ((backTo pos (starEach (e :: es) X.env)).any (·.1) || (backToKw pos (keywordEach kws X.env)).any (·.1.isNone)) = false := by rfl) :
    PE X (.Call (.Name x p) (e :: es) kws pos) (tCallNS n ks.length sp gV E t tk) := by
  refine ⟨fun pins s σ H Q I h => ?_⟩
  refine wpAny_Call_Name_kw (ld_glob I hg hm ?_ hdb)
  refine PySem.W.callWith_KW (h₀ := X.base) I.ok.mod.kin hk hall (thn (ha.run pos pins s σ H _ I h) fun us s1 ⟨vs, H1, I1, r, q⟩ => ?_) hpl he
  refine thn (hkw.run pos pins s1 σ H1 _ I1 q) fun ws s2 ⟨zs, H2, I2, rz, l1, l2, q2⟩ => ⟨I2.kIn, ?_⟩
  rw [hks]
  exact run_fnNS F hr hb (hx σ) I2 r rz l1 l2 q2
theorem pe_callNS0 (F : FnOk X.prog X.w X.K X.mg X.base CX k f fd ps sp) (hr : Room k X.A) (hg : Gl X x) (hm : X.mg x = some (.ref f)) (hk : PySem.W.keepIn X.K (.ref f) = true) (hb : KBn X.K fd ps 0 ks gg gV) (hx : ∀ σ, PassesAt CX X σ (E σ))
    (hkw : PK X kws tk) (hall : (backToKw pos (keywordEach kws X.env)).all (·.1.isSome) = true := by rfl) (hks : (backToKw pos (keywordEach kws X.env)).filterMap (·.1) = ks := by rfl)
    (hdb : (x == ("__debug__" : Str)) = false := by decide)
    (hpl : ((backTo pos (starEach [] X.env)).any (·.1) || (backToKw pos (keywordEach kws X.env)).any (·.1.isNone)) = false := by rfl) :
    PE X (.Call (.Name x p) [] kws pos) (tCallNS 0 ks.length sp gV E tNil tk) := by
  refine ⟨fun pins s σ H Q I h => ?_⟩
  refine wpAny_Call_Name_kw (ld_glob I hg hm ?_ hdb)
  refine PySem.W.callWith_KW0 (h₀ := X.base) I.ok.mod.kin hk hall (thn (hkw.run pos pins s σ H _ I h) fun ws s2 ⟨zs, H2, I2, rz, l1, l2, q2⟩ => ⟨I2.kIn, ?_⟩) hpl
  rw [hks]
  exact run_fnNS (us := []) (vs := []) F hr hb (hx σ) I2 .nil rz l1 l2 q2
end
/-- f(..): the callee's function -/
def eCall (n : Nat) (F : Fn) (ma : MA) : ME := fun env cs => (ma env cs).bind fun xs cs1 => if xs.length = n then F xs cs1 else .no
section
variable {X : Cx} {g : G} {W : WX} {k n : Nat} {f : Addr} {fd : FuncData} {ps ks : List Str} {F : Fn} {x : Str} {p pos : Pos} {e : Expr} {es : List Expr} {kws : List Keyword} {ma mk : MA}
theorem se_call (hF : FnOk X.prog X.w X.K X.mg X.base (L2.CX X.prog X.w) k f fd ps (spOf g n F)) (tk : Takes X W) (hr : Room k X.A) (hg : Gl X x) (hm : X.mg x = some (.ref f)) (hk : PySem.W.keepIn X.K (.ref f) = true) (hb : Binds X.K fd ps [])
    (ha : PA X (e :: es) (denA g W ma)) (hdb : (x == ("__debug__" : Str)) = false := by decide) (he : starEach (e :: es) X.env = (false, eval e X.env) :: starEach es X.env := by rfl) (hpl : (backTo pos (starEach es X.env)).any (·.1) = false := by rfl) :
    PE X (.Call (.Name x p) (e :: es) [] pos) (den g W (eCall n F ma)) :=
  pe_imp (pe_callS hF hr hg hm hk hb (fun σ => passAt tk σ) ha hdb he hpl) fun σ H Q ⟨env, cs, as, s, h⟩ => ⟨env, cs, as, s, (Post.bind h).mono fun xs cs1 as1 H1 hs1 e1 h1 vs rv => by
    split at h1
    · rename_i hl
      exact ⟨by rw [rv.length]; exact hl, cs1, as1, xs, hs1, rv, post_EX h1⟩
    · exact h1.elim⟩
theorem se_call0 (hF : FnOk X.prog X.w X.K X.mg X.base (L2.CX X.prog X.w) k f fd ps (spOf g 0 F)) (tk : Takes X W) (hr : Room k X.A) (hg : Gl X x) (hm : X.mg x = some (.ref f)) (hk : PySem.W.keepIn X.K (.ref f) = true) (hb : Binds X.K fd ps [])
    (hdb : (x == ("__debug__" : Str)) = false := by decide) : PE X (.Call (.Name x p) [] [] pos) (den g W (eCall 0 F aNil)) := by
  refine ⟨fun pins s σ H Q I ⟨env, cs, as, sa, h⟩ => ?_⟩
  refine wpAny_Call_Name_kw (ld_glob I hg hm ?_ hdb)
  exact PySem.W.callWith_K0 I.kIn hk (run_fnS (us := []) hF hr hb (passAt tk σ) I .nil ⟨rfl, cs, as, [], sa.hs, .nil, post_EX h⟩)
/-- with keywords: all the values, the positional ones first, picked in the parameters' order -/
def pick {α : Type} (ix : List Nat) (l : List α) : List α := ix.filterMap fun i => l[i]?
def eCallK (n m N : Nat) (ix : List Nat) (F : Fn) (ma mk : MA) : ME := fun env cs => (ma env cs).bind fun xs cs1 => (mk env cs1).bind fun zs cs2 => if xs.length = n ∧ zs.length = m ∧ (pick ix (xs ++ zs)).length = N then F (pick ix (xs ++ zs)) cs2 else .no
theorem pick_rel {α β : Type} {R : α → β → Prop} {l : List α} {m : List β} (h : Paired R l m) : ∀ ix : List Nat, Paired R (pick ix l) (pick ix m)
  | [] => .nil
  | i :: ix => by
    have ih := pick_rel h ix
    unfold pick at ih ⊢
    rw [List.filterMap_cons, List.filterMap_cons]
    cases q : m[i]? with
    | none =>
      have q' : l[i]? = none := by
        rw [List.getElem?_eq_none_iff] at q ⊢
        rw [h.length]; exact q
      rw [q']
      exact ih
    | some b =>
      obtain ⟨a, e1, r⟩ := Paired.get h q
      rw [e1]
      exact .cons r ih
theorem sk_nil : PK X [] (denA g W aNil) := ⟨fun pos pins s σ H Q I ⟨env, cs, as, sa, h⟩ => pk_nil.run pos pins s σ H Q I (h as H sa.hs Exn.refl [] .nil)⟩
theorem sk_cons {m : ME} {mr : MA} {nm : Option Str} {kpos : Pos} (he : PE X e (den g W m)) (hr : PK X kws (denA g W mr)) : PK X (⟨nm, e, kpos⟩ :: kws) (denA g W (aCons m mr)) :=
  ⟨fun pos pins s σ H Q I ⟨env, cs, as, sa, h⟩ => (pk_cons he hr).run pos pins s σ H Q I ⟨env, cs, as, sa, (Post.bind h).mono fun x cs1 as1 H1 hs1 e1 h1 v rv =>
    ⟨env, cs1, as1, sa.exn hs1 e1, (Post.bind h1).mono fun xs cs2 as2 H2 hs2 e2 h2 vs rvs => h2 as2 H2 hs2 Exn.refl (v :: vs) (.cons (rv.exn e2) rvs)⟩⟩⟩
theorem den_callK {N : Nat} {ix : List Nat} {σ : St} {H : Hp} {Q : VK} {m : Nat} (h : den g W (eCallK n m N ix F ma mk) σ H Q) : tCallNS n m (spOf g N F) (fun vs zs => pick ix (vs ++ zs)) (WE W) (denA g W ma) (denA g W mk) σ H Q := by
  obtain ⟨env, cs, as, s, h⟩ := h
  refine ⟨env, cs, as, s, (Post.bind h).mono fun xs cs1 as1 H1 hs1 e1 h1 vs rv => ?_⟩
  refine ⟨env, cs1, as1, s.exn hs1 e1, (Post.bind h1).mono fun zs cs2 as2 H2 hs2 e2 h2 ws rw' => ?_⟩
  split at h2
  · rename_i hl
    have rp : RepAs g cs2 as2 H2 (pick ix (vs ++ ws)) (pick ix (xs ++ zs)) := pick_rel (Paired.append (rv.exn e2) rw') ix
    exact ⟨by rw [rv.length]; exact hl.1, by rw [rw'.length]; exact hl.2.1, by rw [rp.length]; exact hl.2.2, cs2, as2, _, hs2, rp, post_EX h2⟩
  · exact h2.elim
abbrev KB (X : Cx) (fd : FuncData) (ps : List Str) (n : Nat) (ks : List Str) (ix : List Nat) : Prop := KBn X.K fd ps n ks (fun us ws => pick ix (us ++ ws)) (fun vs zs => pick ix (vs ++ zs))
theorem se_callK {N : Nat} {ix : List Nat} (hF : FnOk X.prog X.w X.K X.mg X.base (L2.CX X.prog X.w) k f fd ps (spOf g N F)) (tk : Takes X W) (hr : Room k X.A) (hg : Gl X x) (hm : X.mg x = some (.ref f)) (hk : PySem.W.keepIn X.K (.ref f) = true) (hb : KB X fd ps n ks ix)
    (ha : PA X (e :: es) (denA g W ma)) (hkw : PK X kws (denA g W mk)) (hall : (backToKw pos (keywordEach kws X.env)).all (·.1.isSome) = true := by rfl) (hks : (backToKw pos (keywordEach kws X.env)).filterMap (·.1) = ks := by rfl)
    (hdb : (x == ("__debug__" : Str)) = false := by decide) (he : starEach (e :: es) X.env = (false, eval e X.env) :: starEach es X.env := by rfl)
    (hpl : ((backTo pos (starEach (e :: es) X.env)).any (·.1) || (backToKw pos (keywordEach kws X.env)).any (·.1.isNone)) = false := by rfl) :
    PE X (.Call (.Name x p) (e :: es) kws pos) (den g W (eCallK n ks.length N ix F ma mk)) :=
  pe_imp (pe_callNS hF hr hg hm hk hb (fun σ => passAt tk σ) ha hkw hall hks hdb he hpl) fun _ _ _ => den_callK
theorem se_callK0 {N : Nat} {ix : List Nat} (hF : FnOk X.prog X.w X.K X.mg X.base (L2.CX X.prog X.w) k f fd ps (spOf g N F)) (tk : Takes X W) (hr : Room k X.A) (hg : Gl X x) (hm : X.mg x = some (.ref f)) (hk : PySem.W.keepIn X.K (.ref f) = true) (hb : KB X fd ps 0 ks ix)
    (hkw : PK X kws (denA g W mk)) (hall : (backToKw pos (keywordEach kws X.env)).all (·.1.isSome) = true := by rfl) (hks : (backToKw pos (keywordEach kws X.env)).filterMap (·.1) = ks := by rfl)
    (hdb : (x == ("__debug__" : Str)) = false := by decide)
    (hpl : ((backTo pos (starEach [] X.env)).any (·.1) || (backToKw pos (keywordEach kws X.env)).any (·.1.isNone)) = false := by rfl) :
    PE X (.Call (.Name x p) [] kws pos) (den g W (eCallK 0 ks.length N ix F aNil mk)) :=
  pe_imp (pe_callNS0 hF hr hg hm hk hb (fun σ => passAt tk σ) hkw hall hks hdb hpl) fun σ H Q h => by
    obtain ⟨env, cs, as, s, h⟩ := den_callK h
    exact h as H s.hs Exn.refl [] .nil
/-- how such arguments bind -/
theorem kb_of {x qual : Str} {st : Stmt} {f : Addr} (F : Fun X.K x qual st f fd) {ix : List Nat}
    (h : ∀ (kV doc pm : Value) (an : Option Addr) (cdv ct : Value) (us ws : List Value), us.length = n → ws.length = ks.length → bindArgs (PySem.W.fnOf x qual (defArgs st) (defBody st) (defScope st) .none kV doc pm an cdv ct) ⟨us, ks.zip ws⟩ = pure (ps.zip (pick ix (us ++ ws)))) : KB X fd ps n ks ix := by
  obtain ⟨oc, od, kV, doc, pm, an, cdv, ct, osl, rfl, lk, hcd⟩ := F.ex
  exact ⟨fun s us ws _ l1 l2 => .of_eq (h kV doc pm an cdv ct us ws l1 l2), fun r1 r2 => pick_rel (r1.append r2) ix⟩
end

/-! ### calls of built-ins -/
def CallS (g : G) (r : List V → Hp → VK → Prop) (f : List A → CS → R A) : Prop := ∀ {W : WX} {σ : St} {cs : CS} {as : AS} {H : Hp} {vs : List V} {xs : List A} {Q : VK}, Hs g cs as H → RepAs g cs as H vs xs → PostA g W σ cs as H Q (f xs cs) → r vs H Q
def eFn (f : List A → CS → R A) (ma : MA) : ME := fun env cs => (ma env cs).bind fun xs cs1 => f xs cs1
section
variable {X : Cx} {g : G} {W : WX} {x : Str} {p pos : Pos} {e : Expr} {es : List Expr} {ma : MA} {r : List V → Hp → VK → Prop} {F : List A → CS → R A} {id T : String}
theorem den_fn (hr : CallS g r F) {σ : St} {H : Hp} {Q : VK} (h : den g W (eFn F ma) σ H Q) : tCB r (denA g W ma) σ H Q := by
  obtain ⟨env, cs, as, s, h⟩ := h
  exact ⟨env, cs, as, s, (Post.bind h).mono fun xs cs1 as1 H1 hs1 e1 h1 vs rv => hr hs1 rv h1⟩
theorem se_fnB (hc : CallR X (.builtin id) r) (hr : CallS g r F) (hg : Gl X x) (hm : X.mg x = none) (hv : bootBuiltins x = some (.builtin id)) (ha : PA X (e :: es) (denA g W ma)) (hn : x ≠ "__name__" := by decide) (hdb : (x == ("__debug__" : Str)) = false := by decide)
    (he : starEach (e :: es) X.env = (false, eval e X.env) :: starEach es X.env := by rfl) (hpl : (backTo pos (starEach es X.env)).any (·.1) = false := by rfl) : PE X (.Call (.Name x p) (e :: es) [] pos) (den g W (eFn F ma)) :=
  pe_imp (pe_callB hc hg hm hv ha hn hdb he hpl) fun _ _ _ => den_fn hr
theorem se_fnT (hc : CallR X (.type T) r) (hr : CallS g r F) (hg : Gl X x) (hm : X.mg x = none) (hv : bootBuiltins x = some (.type T)) (ha : PA X (e :: es) (denA g W ma)) (hn : x ≠ "__name__" := by decide) (hdb : (x == ("__debug__" : Str)) = false := by decide)
    (he : starEach (e :: es) X.env = (false, eval e X.env) :: starEach es X.env := by rfl) (hpl : (backTo pos (starEach es X.env)).any (·.1) = false := by rfl) : PE X (.Call (.Name x p) (e :: es) [] pos) (den g W (eFn F ma)) :=
  pe_imp (pe_callTy hc hg hm hv ha hn hdb he hpl) fun _ _ _ => den_fn hr
end
section
variable {g : G} {cs : CS} {as : AS} {H : Hp}
theorem reps1 {vs : List V} {x : A} (r : RepAs g cs as H vs [x]) : ∃ v, vs = [v] ∧ RepA g cs as H v x := by
  cases r with
  | cons a b => cases b; exact ⟨_, rfl, a⟩
theorem reps2 {vs : List V} {x y : A} (r : RepAs g cs as H vs [x, y]) : ∃ v w, vs = [v, w] ∧ RepA g cs as H v x ∧ RepA g cs as H w y := by
  cases r with
  | cons a b =>
    obtain ⟨w, rfl, q⟩ := reps1 b
    exact ⟨_, w, rfl, a, q⟩
end
/-- len -/
def lenA (cs : CS) : A → Option Nat
  | .d (.tuple xs) => some xs.length
  | .d (.list xs) => some xs.length
  | .d (.str x) => if x.length ≤ sizeLine then some x.length else none
  | .c n => match cs[n]? with
    | some (.lst xs) => some xs.length
    | _ => none
  | .s ns => some ns.length
  | _ => none
@[simp] theorem lenA_tuple {cs : CS} {xs : List PyData} : lenA cs (.d (.tuple xs)) = some xs.length := rfl
@[simp] theorem lenA_list {cs : CS} {xs : List PyData} : lenA cs (.d (.list xs)) = some xs.length := rfl
theorem lenA_c {cs : CS} {n : Nat} {xs : List PyData} (h : cs[n]? = some (.lst xs)) : lenA cs (.c n) = some xs.length := by simp only [lenA, h]
def fLen : List A → CS → R A
  | [a], cs => match lenA cs a with
    | some n => .ok (.d (.int n)) cs
    | none => .no
  | _, _ => .no
theorem lenA_rep {g : G} {cs : CS} {as : AS} {H : Hp} (s : Hs g cs as H) {v : V} {a : A} {n : Nat} (r : RepA g cs as H v a) (h : lenA cs a = some n) : LenV g.K v H n := by
  cases a with
  | d x =>
    cases x with
    | tuple ds =>
      obtain rfl := Option.some.inj h
      obtain ⟨p, vs, rfl, h1, h2⟩ := rep_tup r
      exact .inr ⟨vs, h1, (DqAll.length h2).symm⟩
    | list ds =>
      obtain rfl := Option.some.inj h
      obtain ⟨p, vs, rfl, h1, h2⟩ := rep_lst r
      exact .inl ⟨vs, SqL.of h1, (DqAll.length h2).symm⟩
    | str z =>
      cases rep_str r
      simp only [lenA] at h
      split at h
      · rename_i hl; exact ⟨hl, (Option.some.inj h).symm⟩
      · cases h
    | none => cases h
    | bool _ => cases h
    | int _ => cases h
    | dict _ => cases h
  | c i =>
    obtain ⟨p, e1, rfl⟩ := r
    cases e2 : cs[i]? with
    | none => simp only [lenA, e2] at h; cases h
    | some c =>
      cases c with
      | lst ys =>
        simp only [lenA, e2] at h
        obtain rfl := Option.some.inj h
        obtain ⟨vs, e3, rr⟩ := s.cells i _ p e2 e1
        exact .inl ⟨vs, SqL.of e3, (DqAll.length rr).symm⟩
      | dead => simp only [lenA, e2] at h; cases h
      | dk _ => simp only [lenA, e2] at h; cases h
      | dt _ => simp only [lenA, e2] at h; cases h
  | s ns =>
    obtain rfl := Option.some.inj h
    obtain ⟨p, rfl, h1⟩ := r
    exact .inl ⟨_, Le.sqL dat_le h1, (List.length_map _).symm⟩
  | x _ => cases h
theorem cs_len {g : G} : CallS g (fun xs H Q => ∃ x n, xs = [x] ∧ LenV g.K x H n ∧ Q (.int n) H) fLen := by
  intro W σ cs as H vs xs Q s r h
  unfold fLen at h
  split at h
  · rename_i a
    obtain ⟨v, rfl, rv⟩ := reps1 r
    cases q : lenA cs a with
    | none => simp only [q] at h; exact h.elim
    | some n =>
      simp only [q] at h
      exact ⟨v, n, rfl, lenA_rep s rv q, h.int s⟩
  · exact h.elim
/-- tuple(list), tuple(tuple) -/
def fTuple : List A → CS → R A
  | [a], cs => match toS cs a with
    | some ds => .ok (.d (.tuple ds)) cs
    | none => .no
  | _, _ => .no
theorem toS_tup {g : G} {cs : CS} {as : AS} {H : Hp} (s : Hs g cs as H) {v : V} {a : A} {ys : List PyData} (r : RepA g cs as H v a) (h : toS cs a = some ys) :
    (∃ p vs, v = .ref p ∧ H p = some (.lst vs) ∧ DqAll g.K (dat cs as H) vs ys) ∨ (∃ p vs, v = .ref p ∧ SqT g.K H p vs ∧ a = .d (.tuple ys)) := by
  unfold toS at h
  cases a with
  | d x =>
    cases x with
    | list ds =>
      obtain rfl := Option.some.inj h
      obtain ⟨p, vs, e, h1, h2⟩ := rep_lst r
      exact .inl ⟨p, vs, e, h1, h2⟩
    | tuple ds =>
      obtain rfl := Option.some.inj h
      obtain ⟨p, vs, e, h1, h2⟩ := rep_tup r
      exact .inr ⟨p, vs, e, h1, rfl⟩
    | none => cases h
    | bool _ => cases h
    | int _ => cases h
    | str _ => cases h
    | dict _ => cases h
  | c i =>
    obtain ⟨p, e1, rfl⟩ := r
    cases e2 : cs[i]? with
    | none => simp only [toD, e2] at h; cases h
    | some c =>
      cases c with
      | lst xs =>
        simp only [toD, e2] at h
        obtain rfl := Option.some.inj h
        obtain ⟨vs, e3, rr⟩ := s.cells i _ p e2 e1
        exact .inl ⟨p, vs, rfl, e3, rr⟩
      | dead => simp only [toD, e2] at h; cases h
      | dk _ => simp only [toD, e2] at h; cases h
      | dt _ => simp only [toD, e2] at h; cases h
  | s ns => cases h
  | x ns => cases h
theorem cs_tuple {g : G} : CallS g (fun xs H Q => ∃ p ys, xs = [.ref p] ∧ ((SqL g.K H p ys ∧ ∀ (l : Addr) (o : Obj), o.dict = none → H l = none → Q (.ref l) (upd H l (.frz o (.tup ys)))) ∨ (SqT g.K H p ys ∧ Q (.ref p) H))) fTuple := by
  intro W σ cs as H vs xs Q s r h
  unfold fTuple at h
  split at h
  · rename_i a
    obtain ⟨v, rfl, rv⟩ := reps1 r
    cases q : toS cs a with
    | none => simp only [q] at h; exact h.elim
    | some ds =>
      simp only [q] at h
      rcases toS_tup s rv q with ⟨p, ws, rfl, h1, h2⟩ | ⟨p, ws, rfl, h1, rfl⟩
      · exact ⟨p, ws, rfl, .inl ⟨SqL.of h1, fun l o ho hl => h.tup s ho hl h2⟩⟩
      · exact ⟨p, ws, rfl, .inr ⟨h1, h.here s rv⟩⟩
  · exact h.elim
/-- list(..): plain, or a new cell -/
def toLS (cs : CS) (a : A) : Option (List PyData) := match a with
  | .d (.tuple xs) => some xs
  | .s ns => some (ns.map PyData.int)
  | a => toL cs a
def fList : List A → CS → R A
  | [a], cs => match toLS cs a with
    | some xs => .ok (.d (.list xs)) cs
    | none => .no
  | _, _ => .no
def fListC : List A → CS → R A
  | [a], cs => match toLS cs a with
    | some xs => .ok (.c cs.length) (cs ++ [.lst xs])
    | none => .no
  | _, _ => .no
theorem dq_ints {K : PySem.W.Frag} {H : Hp} : ∀ ns : List Int, DqAll K H (ns.map V.int) (ns.map PyData.int)
  | [] => .nil
  | i :: ns => .cons (.int i) (dq_ints ns)
theorem toLS_rep {g : G} {cs : CS} {as : AS} {H : Hp} (s : Hs g cs as H) {v : V} {a : A} {xs : List PyData} (r : RepA g cs as H v a) (h : toLS cs a = some xs) : ∃ p vs, v = .ref p ∧ (SqL g.K H p vs ∨ SqT g.K H p vs) ∧ DqAll g.K (dat cs as H) vs xs := by
  unfold toLS at h
  split at h
  · obtain rfl := Option.some.inj h
    obtain ⟨p, vs, e, h1, h2⟩ := rep_tup r
    exact ⟨p, vs, e, .inr h1, h2⟩
  · obtain rfl := Option.some.inj h
    obtain ⟨p, e, h1⟩ := r
    exact ⟨p, _, e, .inl (Le.sqL dat_le h1), dq_ints _⟩
  · obtain ⟨p, vs, e, h1, h2⟩ := toL_rep s r h
    exact ⟨p, vs, e, .inl (SqL.of h1), h2⟩
theorem cs_list {g : G} : CallS g (fun xs H Q => ∃ p ys, xs = [.ref p] ∧ (SqL g.K H p ys ∨ SqT g.K H p ys) ∧ ∀ l, H l = none → Q (.ref l) (upd H l (.lst ys))) fList := by
  intro W σ cs as H vs xs Q s r h
  unfold fList at h
  split at h
  · rename_i a
    obtain ⟨v, rfl, rv⟩ := reps1 r
    cases q : toLS cs a with
    | none => simp only [q] at h; exact h.elim
    | some ys =>
      simp only [q] at h
      obtain ⟨p, ws, rfl, h1, h2⟩ := toLS_rep s rv q
      exact ⟨p, ws, rfl, h1, fun l hl => PostA.lst h s hl h2⟩
  · exact h.elim
theorem cs_listC {g : G} : CallS g (fun xs H Q => ∃ p ys, xs = [.ref p] ∧ (SqL g.K H p ys ∨ SqT g.K H p ys) ∧ ∀ l, H l = none → Q (.ref l) (upd H l (.lst ys))) fListC := by
  intro W σ cs as H vs xs Q s r h
  unfold fListC at h
  split at h
  · rename_i a
    obtain ⟨v, rfl, rv⟩ := reps1 r
    cases q : toLS cs a with
    | none => simp only [q] at h; exact h.elim
    | some ys =>
      simp only [q] at h
      obtain ⟨p, ws, rfl, h1, h2⟩ := toLS_rep s rv q
      exact ⟨p, ws, rfl, h1, fun l hl => PostA.cell h s hl h2⟩
  · exact h.elim
/-- int(int), int(bool) -/
def fInt : List A → CS → R A
  | [.d (.int i)], cs => .ok (.d (.int i)) cs
  | [.d (.bool b)], cs => .ok (.d (.int (if b then 1 else 0))) cs
  | _, _ => .no
theorem cs_int {g : G} : CallS g (fun xs H Q => (∃ i, xs = [.int i] ∧ Q (.int i) H) ∨ ∃ k, xs = [.bl k] ∧ Q (.int (if k then 1 else 0)) H) fInt := by
  intro W σ cs as H vs xs Q s r h
  unfold fInt at h
  split at h
  · obtain ⟨v, rfl, rv⟩ := reps1 r
    cases rep_int rv
    exact .inl ⟨_, rfl, h.int s⟩
  · obtain ⟨v, rfl, rv⟩ := reps1 r
    cases rep_bl rv
    exact .inr ⟨_, rfl, h.int s⟩
  · exact h.elim
def fAbs : List A → CS → R A
  | [.d (.int i)], cs => .ok (.d (.int (if i < 0 then -i else i))) cs
  | _, _ => .no
theorem cs_abs {g : G} : CallS g (fun xs H Q => ∃ i, xs = [.int i] ∧ Q (.int (if i < 0 then -i else i)) H) fAbs := by
  intro W σ cs as H vs xs Q s r h
  unfold fAbs at h
  split at h
  · obtain ⟨v, rfl, rv⟩ := reps1 r
    cases rep_int rv
    exact ⟨_, rfl, h.int s⟩
  · exact h.elim
def fMax2 : List A → CS → R A
  | [.d (.int i), .d (.int j)], cs => .ok (.d (.int (if j > i then j else i))) cs
  | _, _ => .no
def fMin2 : List A → CS → R A
  | [.d (.int i), .d (.int j)], cs => .ok (.d (.int (if j < i then j else i))) cs
  | _, _ => .no
theorem cs_max2 {g : G} : CallS g (fun xs H Q => ∃ i j, xs = [.int i, .int j] ∧ Q (.int (if j > i then j else i)) H) fMax2 := by
  intro W σ cs as H vs xs Q s r h
  unfold fMax2 at h
  split at h
  · obtain ⟨v, w, rfl, rv, rw'⟩ := reps2 r
    cases rep_int rv; cases rep_int rw'
    exact ⟨_, _, rfl, h.int s⟩
  · exact h.elim
theorem cs_min2 {g : G} : CallS g (fun xs H Q => ∃ i j, xs = [.int i, .int j] ∧ Q (.int (if j < i then j else i)) H) fMin2 := by
  intro W σ cs as H vs xs Q s r h
  unfold fMin2 at h
  split at h
  · obtain ⟨v, w, rfl, rv, rw'⟩ := reps2 r
    cases rep_int rv; cases rep_int rw'
    exact ⟨_, _, rfl, h.int s⟩
  · exact h.elim
/-- lists of ints, of bools -/
def allI : List PyData → Option (List Int)
  | [] => some []
  | .int i :: r => (allI r).map (i :: ·)
  | _ :: _ => none
@[simp] theorem allI_nil : allI [] = some [] := rfl
@[simp] theorem allI_cons (i : Int) (r : List PyData) : allI (.int i :: r) = (allI r).map (i :: ·) := rfl
@[simp] theorem allI_map : ∀ ns : List Int, allI (ns.map PyData.int) = some ns
  | [] => rfl
  | i :: ns => by simp [allI_map ns]
theorem allI_eq : ∀ {xs : List PyData} {ns : List Int}, allI xs = some ns → xs = ns.map PyData.int
  | [], ns, h => by cases h; rfl
  | .int i :: r, ns, h => by
    rw [allI_cons] at h
    cases q : allI r with
    | none => rw [q] at h; cases h
    | some e =>
      rw [q] at h
      obtain rfl := Option.some.inj h
      rw [allI_eq q]; rfl
  | .none :: _, _, h => by cases h
  | .bool _ :: _, _, h => by cases h
  | .str _ :: _, _, h => by cases h
  | .list _ :: _, _, h => by cases h
  | .tuple _ :: _, _, h => by cases h
  | .dict _ :: _, _, h => by cases h
theorem reps_ints {K : PySem.W.Frag} {H : Hp} : ∀ {vs : List V} {ns : List Int}, DqAll K H vs (ns.map PyData.int) → vs = ns.map V.int
  | _, [], h => by cases h; rfl
  | _, i :: ns, h => by
    cases h with
    | cons a b =>
      cases a
      rw [reps_ints b]; rfl
def allB : List PyData → Option (List Bool)
  | [] => some []
  | .bool i :: r => (allB r).map (i :: ·)
  | _ :: _ => none
@[simp] theorem allB_nil : allB [] = some [] := rfl
@[simp] theorem allB_cons (i : Bool) (r : List PyData) : allB (.bool i :: r) = (allB r).map (i :: ·) := rfl
@[simp] theorem allB_map : ∀ ns : List Bool, allB (ns.map PyData.bool) = some ns
  | [] => rfl
  | i :: ns => by simp [allB_map ns]
theorem allB_eq : ∀ {xs : List PyData} {ns : List Bool}, allB xs = some ns → xs = ns.map PyData.bool
  | [], ns, h => by cases h; rfl
  | .bool i :: r, ns, h => by
    rw [allB_cons] at h
    cases q : allB r with
    | none => rw [q] at h; cases h
    | some e =>
      rw [q] at h
      obtain rfl := Option.some.inj h
      rw [allB_eq q]; rfl
  | .none :: _, _, h => by cases h
  | .int _ :: _, _, h => by cases h
  | .str _ :: _, _, h => by cases h
  | .list _ :: _, _, h => by cases h
  | .tuple _ :: _, _, h => by cases h
  | .dict _ :: _, _, h => by cases h
theorem reps_bools {K : PySem.W.Frag} {H : Hp} : ∀ {vs : List V} {ns : List Bool}, DqAll K H vs (ns.map PyData.bool) → vs = ns.map V.bl
  | _, [], h => by cases h; rfl
  | _, i :: ns, h => by
    cases h with
    | cons a b =>
      cases a
      rw [reps_bools b]; rfl
/-- a built-in that takes one list of ints -/
def onI (k : List Int → CS → R A) : List A → CS → R A
  | [a], cs => match toL cs a with
    | some xs => match allI xs with
      | some ns => k ns cs
      | none => .no
    | none => .no
  | _, _ => .no
theorem onI_rep {g : G} {cs : CS} {as : AS} {H : Hp} {W : WX} {σ : St} {Q : VK} {k : List Int → CS → R A} {vs : List V} {xs : List A} (s : Hs g cs as H) (r : RepAs g cs as H vs xs) (h : PostA g W σ cs as H Q (onI k xs cs)) :
    ∃ p ns, vs = [.ref p] ∧ SqL g.K H p (ns.map V.int) ∧ PostA g W σ cs as H Q (k ns cs) := by
  unfold onI at h
  split at h
  · rename_i a
    obtain ⟨v, rfl, rv⟩ := reps1 r
    cases q : toL cs a with
    | none => simp only [q] at h; exact h.elim
    | some ys =>
      simp only [q] at h
      obtain ⟨p, ws, rfl, h1, h2⟩ := toL_rep s rv q
      cases q2 : allI ys with
      | none => simp only [q2] at h; exact h.elim
      | some ns =>
        simp only [q2] at h
        rw [allI_eq q2] at h2
        rw [reps_ints h2] at h1
        exact ⟨p, ns, rfl, SqL.of h1, h⟩
  · exact h.elim
def fSum : List A → CS → R A := onI fun ns cs => .ok (.d (.int ns.sum)) cs
theorem cs_sum {g : G} : CallS g (rSum g.K) fSum := by
  intro W σ cs as H vs xs Q s r h
  obtain ⟨p, ns, rfl, h1, h2⟩ := onI_rep s r h
  exact ⟨p, ns, rfl, h1, PostA.int h2 s⟩
/-- the greatest, the least -/
def maxI : List Int → Int
  | [] => 0
  | a :: r => r.foldl max a
def minI : List Int → Int
  | [] => 0
  | a :: r => r.foldl min a
theorem foldl_max_le : ∀ (r : List Int) (a : Int), a ≤ r.foldl max a ∧ ∀ x ∈ r, x ≤ r.foldl max a
  | [], a => ⟨Int.le_refl _, fun _ h => nomatch h⟩
  | b :: r, a => by
    obtain ⟨h1, h2⟩ := foldl_max_le r (max a b)
    refine ⟨Int.le_trans (Int.le_max_left a b) h1, fun x hx => ?_⟩
    rcases List.mem_cons.mp hx with rfl | hx
    · exact Int.le_trans (Int.le_max_right a x) h1
    · exact h2 x hx
theorem foldl_max_mem : ∀ (r : List Int) (a : Int), r.foldl max a = a ∨ r.foldl max a ∈ r
  | [], a => .inl rfl
  | b :: r, a => by
    rcases foldl_max_mem r (max a b) with h | h
    · rw [List.foldl_cons, h]
      rcases Int.le_total a b with q | q
      · rw [Int.max_eq_right q]; exact .inr List.mem_cons_self
      · rw [Int.max_eq_left q]; exact .inl rfl
    · exact .inr (List.mem_cons_of_mem _ h)
theorem foldl_min_le : ∀ (r : List Int) (a : Int), r.foldl min a ≤ a ∧ ∀ x ∈ r, r.foldl min a ≤ x
  | [], a => ⟨Int.le_refl _, fun _ h => nomatch h⟩
  | b :: r, a => by
    obtain ⟨h1, h2⟩ := foldl_min_le r (min a b)
    refine ⟨Int.le_trans h1 (Int.min_le_left a b), fun x hx => ?_⟩
    rcases List.mem_cons.mp hx with rfl | hx
    · exact Int.le_trans h1 (Int.min_le_right a x)
    · exact h2 x hx
theorem foldl_min_mem : ∀ (r : List Int) (a : Int), r.foldl min a = a ∨ r.foldl min a ∈ r
  | [], a => .inl rfl
  | b :: r, a => by
    rcases foldl_min_mem r (min a b) with h | h
    · rw [List.foldl_cons, h]
      rcases Int.le_total a b with q | q
      · rw [Int.min_eq_left q]; exact .inl rfl
      · rw [Int.min_eq_right q]; exact .inr List.mem_cons_self
    · exact .inr (List.mem_cons_of_mem _ h)
theorem maxI_is {ns : List Int} {m : Int} (h1 : m ∈ ns) (h2 : ∀ y ∈ ns, y ≤ m) : m = maxI ns := by
  cases ns with
  | nil => cases h1
  | cons a r =>
    have k := foldl_max_le r a
    have k2 := foldl_max_mem r a
    show m = r.foldl max a
    have e1 : m ≤ r.foldl max a := by
      rcases List.mem_cons.mp h1 with e | e
      · rw [e]; exact k.1
      · exact k.2 m e
    have e2 : r.foldl max a ≤ m := by
      rcases k2 with e | e
      · rw [e]; exact h2 a List.mem_cons_self
      · exact h2 _ (List.mem_cons_of_mem _ e)
    exact Int.le_antisymm e1 e2
theorem minI_is {ns : List Int} {m : Int} (h1 : m ∈ ns) (h2 : ∀ y ∈ ns, m ≤ y) : m = minI ns := by
  cases ns with
  | nil => cases h1
  | cons a r =>
    have k := foldl_min_le r a
    have k2 := foldl_min_mem r a
    show m = r.foldl min a
    have e1 : r.foldl min a ≤ m := by
      rcases List.mem_cons.mp h1 with e | e
      · rw [e]; exact k.1
      · exact k.2 m e
    have e2 : m ≤ r.foldl min a := by
      rcases k2 with e | e
      · rw [e]; exact h2 a List.mem_cons_self
      · exact h2 _ (List.mem_cons_of_mem _ e)
    exact Int.le_antisymm e2 e1
def fMaxL : List A → CS → R A := onI fun ns cs => if 0 < ns.length then .ok (.d (.int (maxI ns))) cs else .no
def fMinL : List A → CS → R A := onI fun ns cs => if 0 < ns.length then .ok (.d (.int (minI ns))) cs else .no
theorem cs_maxL {g : G} : CallS g (rMax g.K) fMaxL := by
  intro W σ cs as H vs xs Q s r h
  obtain ⟨p, ns, rfl, h1, h2⟩ := onI_rep s r h
  split at h2
  · rename_i hl
    exact ⟨p, ns, rfl, h1, hl, fun m e1 e2 => by rw [maxI_is e1 e2]; exact PostA.int h2 s⟩
  · exact h2.elim
theorem cs_minL {g : G} : CallS g (rMin g.K) fMinL := by
  intro W σ cs as H vs xs Q s r h
  obtain ⟨p, ns, rfl, h1, h2⟩ := onI_rep s r h
  split at h2
  · rename_i hl
    exact ⟨p, ns, rfl, h1, hl, fun m e1 e2 => by rw [minI_is e1 e2]; exact PostA.int h2 s⟩
  · exact h2.elim
/-- sorted(list of ints) -/
def insI (a : Int) : List Int → List Int
  | [] => [a]
  | b :: r => if a ≤ b then a :: b :: r else b :: insI a r
def sortI : List Int → List Int
  | [] => []
  | a :: r => insI a (sortI r)
theorem insI_perm (a : Int) : ∀ l : List Int, (insI a l).Perm (a :: l)
  | [] => .refl _
  | b :: r => by
    unfold insI
    split
    · exact .refl _
    · exact ((insI_perm a r).cons b).trans (List.Perm.swap a b r)
theorem sortI_perm : ∀ l : List Int, (sortI l).Perm l
  | [] => .refl _
  | a :: r => (insI_perm a (sortI r)).trans ((sortI_perm r).cons a)
theorem insI_sorted (a : Int) : ∀ {l : List Int}, l.Pairwise (· ≤ ·) → (insI a l).Pairwise (· ≤ ·)
  | [], _ => List.pairwise_singleton _ _
  | b :: r, h => by
    unfold insI
    rw [List.pairwise_cons] at h
    split
    · rename_i q
      rw [List.pairwise_cons, List.pairwise_cons]
      refine ⟨fun x hx => ?_, h⟩
      rcases List.mem_cons.mp hx with rfl | hx
      · exact q
      · exact Int.le_trans q (h.1 x hx)
    · rename_i q
      rw [List.pairwise_cons]
      refine ⟨fun x hx => ?_, insI_sorted a h.2⟩
      rcases List.mem_cons.mp ((insI_perm a r).mem_iff.mp hx) with rfl | hx
      · exact Int.le_of_lt (Int.not_le.mp q)
      · exact h.1 x hx
theorem sortI_sorted : ∀ l : List Int, (sortI l).Pairwise (· ≤ ·)
  | [] => .nil
  | a :: r => insI_sorted a (sortI_sorted r)
theorem sorted_one : ∀ {l m : List Int}, l.Perm m → l.Pairwise (· ≤ ·) → m.Pairwise (· ≤ ·) → l = m
  | [], m, p, _, _ => (List.Perm.nil_eq p)
  | a :: l, [], p, _, _ => absurd p.length_eq (by simp)
  | a :: l, b :: m, p, h1, h2 => by
    rw [List.pairwise_cons] at h1 h2
    have e : a = b := by
      have ha : a ∈ b :: m := p.mem_iff.mp List.mem_cons_self
      have hb : b ∈ a :: l := p.mem_iff.mpr List.mem_cons_self
      rcases List.mem_cons.mp ha with q | q
      · exact q
      · rcases List.mem_cons.mp hb with q' | q'
        · exact q'.symm
        · exact Int.le_antisymm (h1.1 b q') (h2.1 a q)
    subst e
    rw [sorted_one (List.Perm.cons_inv p) h1.2 h2.2]
def fSorted : List A → CS → R A := onI fun ns cs => .ok (.d (.list ((sortI ns).map PyData.int))) cs
theorem cs_sorted {g : G} : CallS g (rSortedI g.K) fSorted := by
  intro W σ cs as H vs xs Q s r h
  obtain ⟨p, ns, rfl, h1, h2⟩ := onI_rep s r h
  refine ⟨p, ns, rfl, h1, fun ns' q e1 e2 hq => ?_⟩
  rw [sorted_one (e1.trans (sortI_perm ns).symm) e2 (sortI_sorted ns)]
  exact PostA.lst h2 s hq (dq_ints _)
def onB (k : List Bool → Bool) : List A → CS → R A
  | [a], cs => match toL cs a with
    | some xs => match allB xs with
      | some ns => .ok (.d (.bool (k ns))) cs
      | none => .no
    | none => .no
  | _, _ => .no
def fAny : List A → CS → R A := onB fun bs => bs.any id
def fAll : List A → CS → R A := onB fun bs => bs.all id
theorem onB_rep {g : G} {cs : CS} {as : AS} {H : Hp} {W : WX} {σ : St} {Q : VK} {k : List Bool → Bool} {vs : List V} {xs : List A} (s : Hs g cs as H) (r : RepAs g cs as H vs xs) (h : PostA g W σ cs as H Q (onB k xs cs)) :
    ∃ p bs, vs = [.ref p] ∧ SqL g.K H p (bs.map V.bl) ∧ Q (.bl (k bs)) H := by
  unfold onB at h
  split at h
  · rename_i a
    obtain ⟨v, rfl, rv⟩ := reps1 r
    cases q : toL cs a with
    | none => simp only [q] at h; exact h.elim
    | some ys =>
      simp only [q] at h
      obtain ⟨p, ws, rfl, h1, h2⟩ := toL_rep s rv q
      cases q2 : allB ys with
      | none => simp only [q2] at h; exact h.elim
      | some ns =>
        simp only [q2] at h
        rw [allB_eq q2] at h2
        rw [reps_bools h2] at h1
        exact ⟨p, ns, rfl, SqL.of h1, h.bl s⟩
  · exact h.elim
theorem cs_any {g : G} : CallS g (rAny g.K) fAny := fun s r h => onB_rep s r h
theorem cs_all {g : G} : CallS g (rAll g.K) fAll := fun s r h => onB_rep s r h
end Sh
namespace Sh
open PySem L2
/-! ### slots -/
theorem Sat.set {g : G} {cs : CS} {as : AS} {H : Hp} {env : Env} {σ : St} {i : Nat} {a : A} {v : V} (s : Sat g cs as H env σ) (r : RepA g cs as H v a) : Sat g cs as H (env.set i (some a)) (σ.set i (some v)) := by
  refine ⟨s.hs, by rw [List.length_set, List.length_set]; exact s.len, fun j x e => ?_⟩
  rcases get_set e with ⟨rfl, e1, hl⟩ | ⟨ne, e1⟩
  · have e2 := Option.some.inj e1
    subst e2
    exact ⟨v, by rw [List.getElem?_set_self (by rw [← s.len]; exact hl)], r⟩
  · obtain ⟨w, h1, h2⟩ := s.slots j x e1
    exact ⟨w, by rw [List.getElem?_set_ne (Ne.symm ne)]; exact h1, h2⟩
def wipeE (fg : List Nat) (env : Env) : Env := fg.foldl (fun e i => e.set i none) env
theorem Sat.unset {g : G} {cs : CS} {as : AS} {H : Hp} {env : Env} {σ : St} {i : Nat} (s : Sat g cs as H env σ) : Sat g cs as H (env.set i none) σ := by
  refine ⟨s.hs, by rw [List.length_set]; exact s.len, fun j x e => ?_⟩
  rcases get_set e with ⟨rfl, e1, hl⟩ | ⟨ne, e1⟩
  · cases e1
  · exact s.slots j x e1
theorem Sat.wipe {g : G} {cs : CS} {as : AS} {H : Hp} {σ : St} : ∀ (fg : List Nat) {env : Env}, Sat g cs as H env σ → Sat g cs as H (wipeE fg env) σ
  | [], _, s => s
  | i :: fg, _, s => Sat.wipe fg (s.unset (i := i))

/-! ### blocks -/
def sSeq (m n : MS) : MS := fun env cs => match m env cs with
  | .nx env1 cs1 => n env1 cs1
  | r => r
def sNext : MS := fun env cs => .nx env cs
def sBreak : MS := fun env cs => .bk env cs
def sCont : MS := fun env cs => .ct env cs
def sDrop (m : ME) : MS := fun env cs => (m env cs).toS env fun _ cs1 => .nx env cs1
def sRet (m : ME) : MS := fun env cs => (m env cs).toS env fun a cs1 => .rt a cs1
def sRetN : MS := fun env cs => .rt (.d .none) cs
def sIf (t : MT) (m n : MS) : MS := fun env cs => (t env cs).toS env fun b cs1 => if b = true then m env cs1 else n env cs1
section
variable {X : Cx} {g : G} {W : WX} {m n : MS} {me : ME} {mt : MT} {st : Stmt} {rest : List Stmt} {e : Expr} {pos : Pos}
theorem den_seq {D : Ends} {σ : St} {H : Hp} (h : denS g W (sSeq m n) D σ H) : tSeq (denS g W m) (denS g W n) D σ H := by
  obtain ⟨env, cs, as, s, h⟩ := h
  refine ⟨env, cs, as, s, ?_⟩
  unfold sSeq at h
  cases q : m env cs with
  | nx env1 cs1 =>
    simp only [q] at h
    exact fun σ' as' H' s' e' => ⟨env1, cs1, as', s', PostS.shift h e'⟩
  | rt a cs1 => simp only [q] at h; exact h
  | bk env1 cs1 => simp only [q] at h; exact h
  | ct env1 cs1 => simp only [q] at h; exact h
  | ex x env1 cs1 => simp only [q] at h; exact h
  | no => simp only [q] at h; exact h.elim
theorem sss_nil : PSs X [] (denS g W sNext) := pss_imp pss_nil fun D σ H ⟨env, cs, as, s, h⟩ => h σ as H s Exn.refl
theorem sss_cons (h1 : PS X st (denS g W m)) (h2 : PSs X rest (denS g W n)) : PSs X (st :: rest) (denS g W (sSeq m n)) := pss_imp (pss_cons h1 h2) fun _ _ _ => den_seq
theorem sss_one (h1 : PS X st (denS g W m)) : PSs X [st] (denS g W m) := pss_one h1
theorem ss_pass : PS X (.Pass pos) (denS g W sNext) := ps_imp ps_pass fun D σ H ⟨env, cs, as, s, h⟩ => h σ as H s Exn.refl
theorem ss_break : PS X (.Break pos) (denS g W sBreak) := ps_imp ps_break fun D σ H ⟨env, cs, as, s, h⟩ => h σ as H s Exn.refl
theorem ss_continue : PS X (.Continue pos) (denS g W sCont) := ps_imp ps_continue fun D σ H ⟨env, cs, as, s, h⟩ => h σ as H s Exn.refl
theorem ss_expr (he : PE X e (den g W me)) (hs : swapsWith e none pos.line X.env = pure false := by rfl) : PS X (.Expr e pos) (denS g W (sDrop me)) :=
  ps_imp (ps_expr he hs) fun D σ H ⟨env, cs, as, s, h⟩ => ⟨env, cs, as, s, (post_toS s h).mono fun a cs1 as1 H1 hs1 e1 h1 v rv => h1 σ as1 H1 (s.exn hs1 e1) Exn.refl⟩
theorem ss_ret (he : PE X e (den g W me)) : PS X (.Return (some e) pos) (denS g W (sRet me)) :=
  ps_imp (ps_ret he) fun D σ H ⟨env, cs, as, s, h⟩ => ⟨env, cs, as, s, (post_toS s h).mono fun a cs1 as1 H1 hs1 e1 h1 v rv => h1 v as1 H1 hs1 Exn.refl rv⟩
theorem ss_retN : PS X (.Return none pos) (denS g W sRetN) := ps_imp ps_retN fun D σ H ⟨env, cs, as, s, h⟩ => h .non as H s.hs Exn.refl .non
theorem ss_if {c : Expr} {a b : List Stmt} (hc : PT X c (denT g W mt)) (ha : PSs X a (denS g W m)) (hb : PSs X b (denS g W n)) : PS X (.If c a b pos) (denS g W (sIf mt m n)) :=
  ps_imp (ps_if hc ha hb) fun D σ H ⟨env, cs, as, s, h⟩ => ⟨env, cs, as, s, (post_toS s h).mono fun b cs1 as1 H1 hs1 e1 h1 => by
    cases b with
    | true => exact ⟨env, cs1, as1, s.exn hs1 e1, h1⟩
    | false => exact ⟨env, cs1, as1, s.exn hs1 e1, h1⟩⟩
end

/-! ### targets -/
abbrev Tgt := A → Env → CS → Option Env
def denG (g : G) (tg : Tgt) : TG := fun v σ H Q => ∃ env cs as a env', Sat g cs as H env σ ∧ RepA g cs as H v a ∧ tg a env cs = some env' ∧ ∀ σ', Sat g cs as H env' σ' → Q σ' H
abbrev Tgts := List PyData → Env → CS → Option Env
def denGs (g : G) (tg : Tgts) : TGs := fun vs σ H Q => ∃ env cs as ds env', Sat g cs as H env σ ∧ DqAll g.K (dat cs as H) vs ds ∧ tg ds env cs = some env' ∧ ∀ σ', Sat g cs as H env' σ' → Q σ' H
def tgName (i : Nat) : Tgt := fun a env _ => some (env.set i (some a))
def tgNil : Tgts := fun ds env _ => match ds with
  | [] => some env
  | _ => none
def tgCons (t : Tgt) (u : Tgts) : Tgts := fun ds env cs => match ds with
  | d :: r => (t (.d d) env cs).bind fun env1 => u r env1 cs
  | [] => none
def tgTup (n : Nat) (u : Tgts) : Tgt := fun a env cs => match a with
  | .d (.tuple ds) => if ds.length = n then u ds env cs else none
  | _ => none
section
variable {X : Cx} {g : G} {pos : Pos} {tg : Tgt} {tgs : Tgts}
theorem pg_imp {e : Expr} {t t' : TG} (h : PG X e t) (w : ∀ v σ H Q, t' v σ H Q → t v σ H Q) : PG X e t' := ⟨fun pins s σ H v u Q I r q => h.run pins s σ H v u Q I r (w v σ H Q q)⟩
theorem pgs_imp {es : List Expr} {t t' : TGs} (h : PGs X es t) (w : ∀ v σ H Q, t' v σ H Q → t v σ H Q) : PGs X es t' := ⟨fun pins s σ H v u Q I r q => h.run pins s σ H v u Q I r (w v σ H Q q)⟩
theorem sg_name {i : Nat} {x : Str} (hN : X.N.Nodup) (hi : X.N[i]? = some x) (hx : Loc X.env.scope x) (hf : X.fn x = true ∨ X.env.scope.names.lookup x = some .local := by first | exact .inl rfl | exact .inr rfl | assumption) : PG X (.Name x pos) (denG g (tgName i)) :=
  pg_imp (pg_name hN hi hx hf) fun v σ H Q ⟨env, cs, as, a, env', s, r, e, h⟩ => by
    obtain rfl := Option.some.inj e
    exact h _ (s.set r)
theorem sgs_nil : PGs X [] (denGs g tgNil) := pgs_imp pgs_nil fun v σ H Q ⟨env, cs, as, ds, env', s, r, e, h⟩ => by
  cases ds with
  | nil =>
    obtain rfl := Option.some.inj e
    cases r
    exact ⟨rfl, h _ s⟩
  | cons d r => cases e
theorem sgs_cons {e : Expr} {es : List Expr} (h1 : PG X e (denG g tg)) (h2 : PGs X es (denGs g tgs)) (hs : (assignEach (e :: es) X.env).map (·.2) = assign e X.env :: (assignEach es X.env).map (·.2) := by rfl) : PGs X (e :: es) (denGs g (tgCons tg tgs)) :=
  pgs_imp (pgs_cons h1 h2 hs) fun v σ H Q ⟨env, cs, as, ds, env', s, r, e, h⟩ => by
    cases ds with
    | nil => cases e
    | cons d ds =>
      cases r with
      | cons r1 r2 =>
        have e' : (tg (.d d) env cs).bind (fun env1 => tgs ds env1 cs) = some env' := e
        cases q : tg (.d d) env cs with
        | none => rw [q] at e'; cases e'
        | some env1 =>
          rw [q] at e'
          exact ⟨_, _, rfl, env, cs, as, .d d, env1, s, r1, q, fun σ' s' => ⟨env1, cs, as, ds, env', s', r2, e', h⟩⟩
theorem sg_tup {es : List Expr} {k : Nat} {n : Nat} (hK : X.K = g.K) (hc : X.calm = true) (h : PGs X es (denGs g tgs)) (hn : (assignEach es X.env).length = n := by rfl) (hst : (assignEach es X.env).findIdx? (·.1) = none := by rfl) : PG X (.Tuple es k pos) (denG g (tgTup n tgs)) :=
  pg_imp (pg_tup hc h hn hst) fun v σ H Q ⟨env, cs, as, a, env', s, r, e, q⟩ => by
    unfold tgTup at e
    split at e
    · split at e
      · rename_i ds hl
        have r' : Dq g.K (dat cs as H) v (.tuple ds) := r
        cases r' with
        | tup h1 h2 => exact ⟨_, _, rfl, by rw [hK]; exact Le.sqT dat_le h1.t, (DqAll.length h2).trans hl, env, cs, as, ds, env', s, h2, e, q⟩
      · cases e
    · cases e
/-- name = e -/
def sAsg (m : ME) (tg : Tgt) : MS := fun env cs => (m env cs).toS env fun a cs1 => match tg a env cs1 with
  | some env' => .nx env' cs1
  | none => .no
variable {W : WX} {me : ME} {e : Expr}
theorem den_asg {D : Ends} {σ : St} {H : Hp} (h : denS g W (sAsg me tg) D σ H) : tAsg (den g W me) (denG g tg) D σ H := by
  obtain ⟨env, cs, as, s, h⟩ := h
  refine ⟨env, cs, as, s, (post_toS s h).mono fun a cs1 as1 H1 hs1 e1 h1 v rv => ?_⟩
  cases q : tg a env cs1 with
  | none => simp only [q] at h1; exact h1.elim
  | some env' =>
    simp only [q] at h1
    exact ⟨env, cs1, as1, a, env', s.exn hs1 e1, rv, q, fun σ' s' => h1 σ' as1 H1 s' Exn.refl⟩
theorem den_set {i : Nat} {D : Ends} {σ : St} {H : Hp} (h : denS g W (sAsg me (tgName i)) D σ H) : tAsg (den g W me) (gName i) D σ H := by
  obtain ⟨env, cs, as, s, h⟩ := h
  exact ⟨env, cs, as, s, (post_toS s h).mono fun a cs1 as1 H1 hs1 e1 h1 v rv => h1 _ as1 H1 ((s.exn hs1 e1).set rv) Exn.refl⟩
theorem ss_set {i : Nat} {x : Str} {pos' : Pos} (hN : X.N.Nodup) (hi : X.N[i]? = some x) (hx : Loc X.env.scope x) (he : PE X e (den g W me)) (hs : swapsWith e (some (.Name x pos')) pos.line X.env = pure false := by rfl)
    (hf : X.fn x = true ∨ X.env.scope.names.lookup x = some .local := by first | exact .inl rfl | exact .inr rfl | assumption) : PS X (.Assign [.Name x pos'] e pos) (denS g W (sAsg me (tgName i))) :=
  ps_imp (ps_set hN hi hx he hs hf) fun _ _ _ => den_set
theorem ss_asg {tge : Expr} (he : PE X e (den g W me)) (hg : PG X tge (denG g tg)) (hs : swapsWithSole [tge] e pos.line X.env = pure false := by rfl) (hw : swappedStores [tge] e X.env = pure none := by rfl)
    (h1 : (assignEach [tge] X.env).map (·.2) = [assign tge X.env] := by rfl) : PS X (.Assign [tge] e pos) (denS g W (sAsg me tg)) := ps_imp (ps_asg he hg hs hw h1) fun _ _ _ => den_asg
/-- a, b = x, y -/
def sPar (i j : Nat) (ma mb : ME) : MS := fun env cs => (ma env cs).toS env fun a cs1 => (mb env cs1).toS env fun b cs2 => .nx ((env.set i (some a)).set j (some b)) cs2
theorem ss_par {i j : Nat} {x y : Str} {a b : Expr} {ma mb : ME} {px py pt : Pos} {kt k2 pt2} (hc : X.calm = true) (hN : X.N.Nodup) (hi : X.N[i]? = some x) (hj : X.N[j]? = some y) (hij : i ≠ j)
    (hx : X.env.scope.names.lookup x = some .local) (hy : X.env.scope.names.lookup y = some .local) (ha : PE X a (den g W ma)) (hb : PE X b (den g W mb))
    (h1 : starEach [a, b] X.env = (false, eval a X.env) :: starEach [b] X.env := by rfl) (h2 : starEach [b] X.env = (false, eval b X.env) :: starEach [] X.env := by rfl)
    (hw : swappedStores [.Tuple [.Name x px, .Name y py] kt pt] (.Tuple [a, b] k2 pt2) X.env = pure (some [x, y]) := by rfl)
    (hs : swapsWithSole [.Tuple [.Name x px, .Name y py] kt pt] (.Tuple [a, b] k2 pt2) pos.line X.env = pure false := by rfl) :
    PS X (.Assign [.Tuple [.Name x px, .Name y py] kt pt] (.Tuple [a, b] k2 pt2) pos) (denS g W (sPar i j ma mb)) :=
  ps_imp (ps_par hc hN hi hj hij hx hy (pa_cons ha (pa_cons hb pa_nil h2) h1) hw hs) fun D σ H ⟨env, cs, as, s, h⟩ =>
    ⟨env, cs, as, s, (post_toS s h).mono fun a cs1 as1 H1 hs1 e1 h1 v rv => ⟨env, cs1, as1, s.exn hs1 e1, (post_toS (s.exn hs1 e1) h1).mono fun b cs2 as2 H2 hs2 e2 h2 w rw' =>
      ⟨v, w, rfl, h2 _ as2 H2 (((s.exn hs2 (e1.trans e2)).set (rv.exn e2)).set rw') Exn.refl⟩⟩⟩
/-- name op= e, by values -/
def sAug (i : Nat) (f : A → A → CS → R A) (me : ME) : MS := fun env cs => match env[i]? with
  | some (some x) => (me env cs).toS env fun y cs1 => (f x y cs1).toS env fun z cs2 => .nx (env.set i (some z)) cs2
  | _ => .no
theorem ss_aug {i : Nat} {x : Str} {op : Operator} {ti : TIp} {f : A → A → CS → R A} {pos' : Pos} (hN : X.N.Nodup) (hi : X.N[i]? = some x) (hx : Loc X.env.scope x) (he : PE X e (den g W me)) (ho : PIp X op ti) (hr : OpS g ti f)
    (hf : X.fn x = true ∨ X.env.scope.names.lookup x = some .local := by first | exact .inl rfl | exact .inr rfl | assumption) : PS X (.AugAssign (.Name x pos') op e pos) (denS g W (sAug i f me)) :=
  ps_imp (ps_aug hN hi hx he ho hf) fun D σ H ⟨env, cs, as, s, h⟩ => by
    unfold sAug at h
    split at h
    · rename_i a ea
      obtain ⟨v, e0, r0⟩ := s.slots i a ea
      exact ⟨v, e0, env, cs, as, s, (post_toS s h).mono fun b cs1 as1 H1 hs1 e1 h1 w rw' => hr (W := W) (σ := σ) hs1 (r0.exn e1) rw' ((post_toS (s.exn hs1 e1) h1).mono fun c cs2 as2 H2 hs2 e2 h2 z rz => h2 _ as2 H2 (((s.exn hs1 e1).exn hs2 e2).set rz) Exn.refl)⟩
    · exact h.elim
def fAddI : A → A → CS → R A
  | .d (.int i), .d (.int j), cs => .ok (.d (.int (i + j))) cs
  | _, _, _ => .no
theorem os_ipadd {g : G} : OpS g (ipI fun i j => i + j) fAddI := by
  intro W σ cs as H x y a b Q s ra rb h
  unfold fAddI at h
  split at h
  · cases rep_int ra; cases rep_int rb
    exact ⟨_, _, rfl, rfl, h.int s⟩
  · exact h.elim
theorem os_ipsub {g : G} : OpS g (ipI fun i j => i - j) fSub := by
  intro W σ cs as H x y a b Q s ra rb h
  unfold fSub at h
  split at h
  · cases rep_int ra; cases rep_int rb
    exact ⟨_, _, rfl, rfl, h.int s⟩
  · exact h.elim
end

/-! ### loops -/
def loopK (r : RS) (fg : List Nat) (k : Env → CS → RS) : RS := match r with
  | .nx env cs => k (wipeE fg env) cs
  | .ct env cs => k (wipeE fg env) cs
  | .bk env cs => .nx (wipeE fg env) cs
  | .rt a cs => .rt a cs
  | .ex e env cs => .ex e env cs
  | .no => .no
def whileN (t : MT) (body : MS) (fg : List Nat) : Nat → Env → CS → RS
  | 0, _, _ => .no
  | n + 1, env, cs => (t env cs).toS env fun b cs1 => if b = true then loopK (body env cs1) fg (whileN t body fg n) else .nx env cs1
def sWhile (fuel : Nat) (fg : List Nat) (t : MT) (body : MS) : MS := fun env cs => whileN t body fg fuel (wipeE fg env) cs
section
variable {X : Cx} {g : G} {W : WX} {mt : MT} {mb : MS} {fg : List Nat} {pos : Pos}
theorem loop_body {cs : CS} {as : AS} {H : Hp} {D : Ends} {r : RS} {k : Env → CS → RS} (h : PostS g W cs as H D (loopK r fg k)) :
    PostS g W cs as H { D with nx := fun σ' H' => ∃ env cs' as', Sat g cs' as' H' env σ' ∧ Exn cs as H cs' as' H' ∧ PostS g W cs' as' H' D (k env cs'), ct := fun σ' H' => ∃ env cs' as', Sat g cs' as' H' env σ' ∧ Exn cs as H cs' as' H' ∧ PostS g W cs' as' H' D (k env cs'), bk := D.nx } r := by
  cases r with
  | nx env1 cs1 => exact fun σ' as' H' s' e' => ⟨_, cs1, as', s'.wipe fg, e', PostS.shift h e'⟩
  | ct env1 cs1 => exact fun σ' as' H' s' e' => ⟨_, cs1, as', s'.wipe fg, e', PostS.shift h e'⟩
  | bk env1 cs1 => exact fun σ' as' H' s' e' => h σ' as' H' (s'.wipe fg) e'
  | rt a cs1 => exact h
  | ex x env1 cs1 => exact h
  | no => exact h.elim
theorem den_while {fuel : Nat} {D : Ends} {σ : St} {H : Hp} (h : denS g W (sWhile fuel fg mt mb) D σ H) : tWhile (denT g W mt) (denS g W mb) D σ H := by
  obtain ⟨env, cs, as, s, h⟩ := h
  refine ⟨fun m σ' H' => ∃ env cs as, Sat g cs as H' env σ' ∧ PostS g W cs as H' D (whileN mt mb fg m env cs), ⟨fuel, _, cs, as, s.wipe fg, h⟩, ?_⟩
  rintro m σ1 H1 ⟨env1, cs1, as1, s1, h1⟩
  cases m with
  | zero => exact h1.elim
  | succ m =>
    refine ⟨env1, cs1, as1, s1, (post_toS s1 h1).mono fun b cs2 as2 H2 hs2 e2 h2 => ?_⟩
    cases b with
    | true =>
      refine ⟨_, fun σ' H' hn => ?_, env1, cs2, as2, s1.exn hs2 e2, loop_body h2⟩
      obtain ⟨env3, cs3, as3, s3, _, h3⟩ := hn
      exact ⟨m, Nat.lt_succ_self m, env3, cs3, as3, s3, h3⟩
    | false => exact h2 σ1 as2 H2 (s1.exn hs2 e2) Exn.refl
theorem ss_while {c : Expr} {body : List Stmt} (fuel : Nat) (fg : List Nat) (hp : PassesOwn (model X.prog X.w) X.A X.env X.xe) (hc : PT X c (denT g W mt)) (hb : PSs X body (denS g W mb)) : PS X (.While c body [] pos) (denS g W (sWhile fuel fg mt mb)) :=
  ps_imp (ps_while hp hc hb) fun _ _ _ => den_while
end

/-! ### what is walked -/
inductive Src where
  | it (xs : List A) | cell (n : Nat)
abbrev MI := Env → CS → R Src
structure WalkIt (g : G) (J : It) (cs : CS) (as : AS) (H : Hp) (xs : List A) : Prop where
  goes : ∀ i cs1 as1 H1, Hs g cs1 as1 H1 → Le (dat cs as H) (dat cs1 as1 H1) → i < xs.length → J.go i H1
  stops : ∀ cs1 as1 H1, Hs g cs1 as1 H1 → Le (dat cs as H) (dat cs1 as1 H1) → J.stop xs.length H1
  yields : ∀ i cs1 as1 H1 x H2, Hs g cs1 as1 H1 → Le (dat cs as H) (dat cs1 as1 H1) → i < xs.length → J.yld i H1 x H2 → Hs g cs1 as1 H2 ∧ Exn cs1 as1 H1 cs1 as1 H2 ∧ ∃ a, xs[i]? = some a ∧ RepA g cs1 as1 H2 x a
def WalkS (g : G) (J : It) (cs : CS) (as : AS) (H : Hp) : Src → Prop
  | .it xs => WalkIt g J cs as H xs
  | .cell n => ∃ p, as.l[n]? = some p ∧ J = Itl g.K p
def denI (g : G) (W : WX) (m : MI) : TI := fun σ H R => ∃ env cs as, Sat g cs as H env σ ∧ Post g W σ cs as H (fun src cs' as' H' => ∀ J, WalkS g J cs' as' H' src → R J H') (m env cs)
def forIt (tg : Tgt) (body : MS) (fg : List Nat) : List A → Env → CS → RS
  | [], env, cs => .nx env cs
  | x :: xs, env, cs => match tg x env cs with
    | none => .no
    | some env1 => loopK (body env1 cs) fg (forIt tg body fg xs)
def forCell (tg : Tgt) (body : MS) (fg : List Nat) (n : Nat) : Nat → Nat → Env → CS → RS
  | 0, _, _, _ => .no
  | fuel + 1, i, env, cs => match cs[n]? with
    | some (.lst xs) => match xs[i]? with
      | none => .nx env cs
      | some x => match tg (.d x) env cs with
        | none => .no
        | some env1 => loopK (body env1 cs) fg (forCell tg body fg n fuel (i + 1))
    | _ => .no
def forS (fuel : Nat) (tg : Tgt) (body : MS) (fg : List Nat) : Src → Env → CS → RS
  | .it xs => forIt tg body fg xs
  | .cell n => forCell tg body fg n fuel 0
def sFor (fuel : Nat) (fg : List Nat) (src : MI) (tg : Tgt) (body : MS) : MS := fun env cs => (src env cs).toS env fun s cs1 => forS fuel tg body fg s (wipeE fg env) cs1
section
variable {X : Cx} {g : G} {W : WX} {mi : MI} {mb : MS} {fg : List Nat} {tg : Tgt} {pos : Pos}
theorem den_for {fuel : Nat} {D : Ends} {σ : St} {H : Hp} (h : denS g W (sFor fuel fg mi tg mb) D σ H) : tFor (denI g W mi) (denG g tg) (denS g W mb) D σ H := by
  obtain ⟨env, cs, as, s, h⟩ := h
  refine ⟨env, cs, as, s, (post_toS s h).mono fun src cs0 as0 H0 hs0 e0 h0 J hJ => ?_⟩
  cases src with
  | it xs =>
    refine ⟨fun i m σ' H' => i ≤ xs.length ∧ m = xs.length - i ∧ ∃ env cs as, Sat g cs as H' env σ' ∧ Exn cs0 as0 H0 cs as H' ∧ PostS g W cs as H' D (forIt tg mb fg (xs.drop i) env cs), ⟨_, Nat.zero_le _, rfl, _, cs0, as0, (s.exn hs0 e0).wipe fg, Exn.refl, h0⟩, ?_⟩
    rintro i m σ1 H1 ⟨hi, rfl, env1, cs1, as1, s1, e1, h1⟩
    have hJ : WalkIt g J cs0 as0 H0 xs := hJ
    by_cases hlt : i < xs.length
    · refine .inr ⟨hJ.goes i cs1 as1 H1 s1.hs e1.dat hlt, ?_⟩
      rw [List.drop_eq_getElem_cons hlt] at h1
      have h1' : PostS g W cs1 as1 H1 D (match tg xs[i] env1 cs1 with
        | none => .no
        | some env2 => loopK (mb env2 cs1) fg (forIt tg mb fg (xs.drop (i + 1)))) := h1
      cases q : tg xs[i] env1 cs1 with
      | none => simp only [q] at h1'; exact h1'.elim
      | some env2 =>
        simp only [q] at h1'
        refine ⟨fun σ' H' => ∃ env cs as, Sat g cs as H' env σ' ∧ Exn cs0 as0 H0 cs as H' ∧ PostS g W cs as H' D (forIt tg mb fg (xs.drop (i + 1)) env cs), fun σ' H' ⟨env3, cs3, as3, s3, e3, h3⟩ => ⟨xs.length - (i + 1), by omega, hlt, rfl, env3, cs3, as3, s3, e3, h3⟩, fun x H2 hy => ?_⟩
        obtain ⟨hs2, e2, a, ea, ra⟩ := hJ.yields i cs1 as1 H1 x H2 s1.hs e1.dat hlt hy
        rw [List.getElem?_eq_getElem hlt] at ea
        obtain rfl := Option.some.inj ea
        refine ⟨env1, cs1, as1, _, env2, s1.exn hs2 e2, ra, q, fun σ' s' => ⟨env2, cs1, as1, s', ?_⟩⟩
        have lb := loop_body (PostS.shift h1' e2)
        exact PostS_ends lb (fun σ' H' ⟨a, b, c, d, e, f⟩ => ⟨a, b, c, d, (e1.trans e2).trans e, f⟩) (fun σ' H' ⟨a, b, c, d, e, f⟩ => ⟨a, b, c, d, (e1.trans e2).trans e, f⟩)
    · have e : i = xs.length := by omega
      subst e
      rw [List.drop_length] at h1
      exact .inl ⟨hJ.stops cs1 as1 H1 s1.hs e1.dat, h1 σ1 as1 H1 s1 Exn.refl⟩
  | cell n =>
    obtain ⟨p, hp, rfl⟩ := (hJ : ∃ p, as0.l[n]? = some p ∧ J = Itl g.K p)
    refine ⟨fun i m σ' H' => ∃ env cs as, Sat g cs as H' env σ' ∧ Exn cs0 as0 H0 cs as H' ∧ PostS g W cs as H' D (forCell tg mb fg n m i env cs), ⟨_, _, cs0, as0, (s.exn hs0 e0).wipe fg, Exn.refl, h0⟩, ?_⟩
    rintro i m σ1 H1 ⟨env1, cs1, as1, s1, e1, h1⟩
    have hp1 := e1.pre n p hp
    cases m with
    | zero => exact h1.elim
    | succ m =>
      have h1' : PostS g W cs1 as1 H1 D (match cs1[n]? with
        | some (.lst xs) => match xs[i]? with
          | none => .nx env1 cs1
          | some x => match tg (.d x) env1 cs1 with
            | none => .no
            | some env2 => loopK (mb env2 cs1) fg (forCell tg mb fg n m (i + 1))
        | _ => .no) := h1
      cases q : cs1[n]? with
      | none => simp only [q] at h1'; exact h1'.elim
      | some c =>
        cases c with
        | dead => simp only [q] at h1'; exact h1'.elim
        | dk _ => simp only [q] at h1'; exact h1'.elim
        | dt _ => simp only [q] at h1'; exact h1'.elim
        | lst xs =>
          simp only [q] at h1'
          obtain ⟨vs, ev, rv⟩ := s1.hs.lst q hp1
          cases qx : xs[i]? with
          | none =>
            simp only [qx] at h1'
            exact .inl ⟨⟨vs, SqL.of ev, by rw [DqAll.length rv]; exact List.getElem?_eq_none_iff.mp qx⟩, h1' σ1 as1 H1 s1 Exn.refl⟩
          | some x =>
            simp only [qx] at h1'
            obtain ⟨v, e2, r2⟩ := DqAll.get rv qx
            refine .inr ⟨⟨vs, v, SqL.of ev, e2⟩, ?_⟩
            cases qt : tg (.d x) env1 cs1 with
            | none => simp only [qt] at h1'; exact h1'.elim
            | some env2 =>
              simp only [qt] at h1'
              refine ⟨fun σ' H' => ∃ env cs as, Sat g cs as H' env σ' ∧ Exn cs0 as0 H0 cs as H' ∧ PostS g W cs as H' D (forCell tg mb fg n m (i + 1) env cs), fun σ' H' h3 => ⟨m, Nat.lt_succ_self m, h3⟩, fun y H2 hy => ?_⟩
              obtain ⟨rfl, hy⟩ := hy
              have ey := hy vs (SqL.of ev)
              rw [e2] at ey
              obtain rfl := Option.some.inj ey
              refine ⟨env1, cs1, as1, .d x, env2, s1, r2, qt, fun σ' s' => ⟨env2, cs1, as1, s', ?_⟩⟩
              have lb := loop_body h1'
              exact PostS_ends lb (fun σ' H' ⟨a, b, c, d, e, f⟩ => ⟨a, b, c, d, e1.trans e, f⟩) (fun σ' H' ⟨a, b, c, d, e, f⟩ => ⟨a, b, c, d, e1.trans e, f⟩)
where
  PostS_ends {cs : CS} {as : AS} {H : Hp} {nx nx' rt bk ct ct'} {r : RS} (h : PostS g W cs as H ⟨nx, rt, bk, ct⟩ r) (h1 : ∀ σ' H', nx σ' H' → nx' σ' H') (h2 : ∀ σ' H', ct σ' H' → ct' σ' H') : PostS g W cs as H ⟨nx', rt, bk, ct'⟩ r := by
    cases r with
    | nx env1 cs1 => exact fun σ' as' H' s' e' => h1 _ _ (h σ' as' H' s' e')
    | ct env1 cs1 => exact fun σ' as' H' s' e' => h2 _ _ (h σ' as' H' s' e')
    | bk env1 cs1 => exact h
    | rt a cs1 => exact h
    | ex x env1 cs1 => exact h
    | no => exact h
theorem ss_for {iter : Expr} {tge : Expr} {body : List Stmt} (fuel : Nat) (fg : List Nat) (hp : PassesOwn (model X.prog X.w) X.A X.env X.xe) (hc : X.calm = true) (hi : PI X tge iter (denI g W mi)) (hg : PG X tge (denG g tg)) (hb : PSs X body (denS g W mb))
    (hs : ∀ x, foldedSetIterable iter X.env x = pure x := by intro _; rfl) : PS X (.For tge iter body [] pos) (denS g W (sFor fuel fg mi tg mb)) :=
  ps_imp (ps_for hp hc hi hg hb hs) fun _ _ _ => den_for
end
end Sh
namespace PySem
open AutoSeq1 (wpAny_loadPart')
theorem meets_enumerate_newB1 {v : Value} {o : Obj} {H : Heap → Prop} (B : Begins v o H) :
    Meets (Builtin.«enumerate.__new__» ⟨[.type "enumerate", v], []⟩) (fun _ R s => H s.heap ∧
      R (.ok (.ret (.ref (s.heap.push o).objs.size))) { s with heap := (s.heap.push o).push { cls := .type "enumerate", data := .fields #[.none, .bool false, .ref s.heap.objs.size, rawInt 0, .none, .none] } }) :=
  .of_wp fun prog w A R s h => by
    obtain ⟨hp, g, d, tk, os⟩ := s; obtain ⟨h1, h⟩ := h
    have hsub := sub_enumerate
    have q1 : ∀ {A' : Around} {E : Value → Shared → Prop} {Q : Value → Shared → Prop}, Q (.ref hp.objs.size) ⟨hp.push o, g, d, tk, os⟩ → wpAny (model prog w) A' (pyIter v) Q E ⟨hp, g, d, tk, os⟩ :=
      fun q => B.iter prog w _ _ ⟨hp, g, d, tk, os⟩ _ h1 q
    wp_walk using q1
    refine wpAny_stack_any fun st => wpAny_pure ?_
    split
    · rename_i c _ _ _ _ _
      cases (c == Value.type "enumerate")
      · wp_walk using q1
        exact ⟨_, rfl, h⟩
      · wp_walk using q1
        exact ⟨_, rfl, h⟩
    · wp_walk using q1
      exact ⟨_, rfl, h⟩
theorem call_enumerate_any {prog : Program} {w : World} {A : Around} {E : Value → Shared → Prop} {s : Shared} {v : Value} {o : Obj} {H : Heap → Prop} {Q : Value → Shared → Prop} (B : Begins v o H) (h1 : H s.heap)
    (h : ∀ h', IsEnum h' (s.heap.objs.size + 1) s.heap.objs.size 0 .none → h'.get? s.heap.objs.size = some o → h'.objs.size = s.heap.objs.size + 2 →
      (∀ b o, s.heap.get? b = some o → h'.get? b = some o) → Q (.ref (s.heap.objs.size + 1)) { s with heap := h' }) :
    wpAny (model prog w) A (call (.type "enumerate") [v]) Q E s := by
  refine callType_new F.called_enumerate (by decide) (F.typeCall_enumerate_1 _) (F.newCall_enumerate_1 _) (fun obj => F.args_object_init_2 obj _) F.entry_enumerate_new
    (meets_enumerate_newB1 B) ⟨h1, ?_⟩
  have hz : (s.heap.push o).objs.size = s.heap.objs.size + 1 := Heap.size_push ..
  show _ ∧ _
  rw [hz]
  have he : IsEnum ((s.heap.push o).push { cls := .type "enumerate", data := .fields #[.none, .bool false, .ref s.heap.objs.size, rawInt 0, .none, .none] }) (s.heap.objs.size + 1) s.heap.objs.size 0 .none := by
    have := Heap.get?_push_size (s.heap.push o) (o := { cls := .type "enumerate", data := .fields #[.none, .bool false, .ref s.heap.objs.size, rawInt 0, .none, .none] }) rfl
    rw [hz] at this; exact this
  refine ⟨⟨_, he, rfl⟩, h _ he (Heap.get?_push_of_some _ (Heap.get?_push_size _ B.free)) (by rw [Heap.size_push, hz]) fun b o x => Heap.get?_push_of_some _ (Heap.get?_push_of_some _ x)⟩
end PySem
namespace L2
open PySem PySem.Spec PyProof.Rows
/-! ### enumerate(tuple) -/
def IteT (K : PySem.W.Frag) (a : Addr) : It :=
  ⟨fun i H => ∃ (xs : List V) (x : V), SqT K H a xs ∧ xs[i]? = some x, fun i H v H' => ∃ (T : Addr) (o : Obj) (x : V), v = .ref T ∧ o.dict = none ∧ H T = none ∧ H' = upd H T (.frz o (.tup [.int (i : Nat), x])) ∧ ∀ xs, SqT K H a xs → xs[i]? = some x, fun i H => ∃ xs : List V, SqT K H a xs ∧ xs.length = i⟩
theorem turn_enumT {P : Program} {w : World} {K : PySem.W.Frag} {elts : List Expr} {kk : Nat} {tpos : Pos} (a e it : Addr) :
    Turn P w K (.Tuple elts kk tpos) (IteT K a) [e, it] e (fun i h => (∃ old, IsEnum h e it ((i : Nat) : Int) old) ∧ h.IsTupleIter it a i ∧ e ≠ it ∧ a ≠ it ∧ e ≠ a) where
  mem := by simp
  obj := fun i h st b hb => by
    obtain ⟨⟨old, he⟩, ⟨o, ho, hc, hd⟩, _⟩ := st
    have e' : b = e ∨ b = it := by simpa using hb
    rcases e' with z | z
    · rw [z]; exact ⟨_, he, fun v q => nomatch q⟩
    · rw [z]; exact ⟨o, ho, fun v q => by rw [hd] at q; cases q⟩
  keep := fun i h h' st k => let ⟨⟨old, he⟩, hi, hne⟩ := st; ⟨⟨old, k e (by simp) _ he⟩, hi.at fun o q => k it (by simp) o q, hne⟩
  item := by
    intro X hP hw hK hc i pins s σ H E I hf st hg
    subst hP hw hK
    obtain ⟨⟨old, he⟩, hit, hne, hai, hea⟩ := st
    obtain ⟨xs, x, hq, hx⟩ := hg
    obtain ⟨its, rv, p, hz⟩ := I.tuple hq
    obtain ⟨u, hu, ru⟩ := rv.get hx
    have hel : e < s.heap.objs.size := Heap.lt_size he
    have hil : it < s.heap.objs.size := by obtain ⟨_, q, _⟩ := hit; exact Heap.lt_size q
    have hef : e ∉ [it, a] := by simp [hne, hea]
    have hlt : i < its.toArray.size := by
      rw [List.size_toArray]
      exact (List.getElem?_eq_some_iff.mp hu).1
    refine wpAny_pyNext_enum_itemC (Draws.tuple (by exact I.ok.hd hc) it a hai its.toArray) he ⟨hit, p⟩ hlt hne hef fun x' h' tk hP ho hit' hT hsz hk => ?_
    obtain rfl : x' = u := by
      have q : its.toArray[i]? = some x' := hP
      have q' : its[i]? = some x' := by simpa using q
      rw [hu] at q'
      exact (Option.some.inj q').symm
    refine ⟨_, rfl, wpAny_letOwnedTupleGo_enum (s := { s with heap := h', toks := tk + 1 }) ho fun h'' he' sb => ?_⟩
    have hT2 : h''.get? s.heap.objs.size = some { cls := .type "tuple", data := .seq #[.int i tk, x'] } := (sb.2 _ (Nat.ne_of_gt hel)).trans hT
    have new : ObjOk X.prog X.w (upd H s.heap.objs.size (.frz { cls := .type "tuple", data := .seq #[.int i tk, x'] } (.tup [.int (i : Nat), x]))) h'' s.heap.objs.size (.frz { cls := .type "tuple", data := .seq #[.int i tk, x'] } (.tup [.int (i : Nat), x])) :=
      ⟨hT2, by show 2 ≤ sizeLine; decide, [.int i tk, x'], .cons ⟨_, rfl⟩ (.cons ru .nil), ⟨_, hT2, rfl, _, rfl⟩⟩
    have I1 : Inv X pins σ (upd H s.heap.objs.size (.frz { cls := .type "tuple", data := .seq #[.int i tk, x'] } (.tup [.int (i : Nat), x]))) { s with heap := h'', toks := tk + 1 } :=
      I.turnedNew (ch := [e, it]) (fun b ob hb q => (sb.2 b (fun z => hb (by simp [z]))).trans (hk b ob (fun z => hb (by simp [z])) (fun z => hb (by simp [z])) q)) hf (Nat.le_refl _) new
    refine ⟨.ref s.heap.objs.size, _, I1, rfl, ⟨_, _, x, rfl, rfl, I.hok.fresh (Nat.le_refl _), rfl, fun ys hy => by rw [I.tuple_inj hy hq]; exact hx⟩, ⟨⟨x', ?_⟩, hit'.1.at fun o q => (sb.2 it (Ne.symm hne)).trans q, hne, hai, hea⟩, fun b hb => ?_⟩
    · have e1 : ((i + 1 : Nat) : Int) = (i : Int) + 1 := by omega
      rw [e1]; exact he'
    · have hb' : b < s.heap.objs.size := by
        have e' : b = e ∨ b = it := by simpa using hb
        rcases e' with z | z
        · rw [z]; exact hel
        · rw [z]; exact hil
      rw [upd_ne (Nat.ne_of_lt hb')]
      exact (hf b hb).1
  done := by
    intro X hP hw hK hc i pins s σ H E I hf st hg
    subst hP hw hK
    obtain ⟨⟨old, he⟩, hit, hne, hai, hea⟩ := st
    obtain ⟨xs, hq, hx⟩ := hg
    obtain ⟨its, rv, p, hz⟩ := I.tuple hq
    obtain ⟨f0, f1, f2, f3, f4, f5⟩ := hf it (by simp)
    have hl : i = its.toArray.size := by rw [List.size_toArray, ← rv.length]; exact hx.symm
    rw [hl] at hit
    exact wpAny_pyNext_enum_endD (Draws.tuple (by exact I.ok.hd hc) it a hai its.toArray) he ⟨hit, p⟩ fun h' eb => ⟨rfl, I.turned (t' := s.toks) (fun b o hb q => eb b o hb q) f0 f1 f3 f4 f5⟩
  self := fun A i s Q E st h => let ⟨⟨_, he⟩, _⟩ := st; wpAny_pyIter_enum he h
def iEnumT (K : PySem.W.Frag) (ta : TA) : TI := fun σ H R => ta σ H fun vs H1 => ∃ a xs, vs = [.ref a] ∧ SqT K H1 a xs ∧ R (IteT K a) H1
theorem pi_enumT {X : Cx} {e : Expr} {ta : TA} {p pos tpos : Pos} {elts : List Expr} {kk : Nat} (hg : Gl X "enumerate") (hm : X.mg "enumerate" = none) (ha : PA X [e] ta) (hs : starEach [e] X.env = [(false, eval e X.env)] := by rfl) :
    PI X (.Tuple elts kk tpos) (.Call (.Name "enumerate" p) [e] [] pos) (iEnumT X.K ta) := by
  refine ⟨fun pins s σ H R I h => ?_⟩
  refine Call_ (ld_blt I hg hm boot_enumerate (PyProof.Rows.callWith_type1 (thn (ha.run pos pins s σ H _ I h) fun us s1 ⟨vs, H1, I1, r1, q1⟩ => ?_) hs rfl))
  obtain ⟨a, xs, ex, hq, q⟩ := q1
  subst ex
  cases r1 with
  | cons r rr =>
    cases rr
    cases r
    obtain ⟨its, rv, p', hz⟩ := I1.tuple hq
    have hal : a < s1.heap.objs.size := p'.lt
    refine call_enumerate_any (begins_tuple a its.toArray) p' fun h' he hit hsz hk => wpAny_pyIter_enum he ?_
    have I2 : Inv X pins σ H1 { s1 with heap := h' } := I1.kept (t' := s1.toks) hk
    refine ⟨s1.heap.objs.size + 1, [s1.heap.objs.size + 1, s1.heap.objs.size], _, _, H1, rfl, I2, turn_enumT a (s1.heap.objs.size + 1) s1.heap.objs.size, ⟨⟨.none, he⟩, ⟨_, hit, rfl, rfl⟩, Nat.succ_ne_self _, Nat.ne_of_lt hal, Nat.ne_of_gt (Nat.lt_succ_of_lt hal)⟩, fun b hb => ?_, q⟩
    have e' : b = s1.heap.objs.size + 1 ∨ b = s1.heap.objs.size := by simpa using hb
    have hle : s1.heap.objs.size ≤ b := by
      rcases e' with z | z
      · rw [z]; exact Nat.le_add_right _ _
      · rw [z]; exact Nat.le_refl _
    exact I1.fpOk hle (I1.hok.fresh hle)
end L2
namespace Sh
open PySem L2
/-! ### sources -/
def srcOf (cs : CS) : A → Option Src
  | .d (.list xs) => some (.it (xs.map A.d))
  | .d (.tuple xs) => some (.it (xs.map A.d))
  | .d (.str z) => some (.it (z.cps.toList.map fun c => A.d (.str ⟨#[c]⟩)))
  | .c n => match cs[n]? with
    | some (.lst _) => some (.cell n)
    | _ => none
  | .s ns => some (.it (ns.map fun i => A.d (.int i)))
  | _ => none
def iVal (m : ME) : MI := fun env cs => (m env cs).bind fun a cs1 => match srcOf cs1 a with
  | some s => .ok s cs1
  | none => .no
section
variable {X : Cx} {g : G} {W : WX} {tge e : Expr} {me : ME}
theorem walk_data_list {cs : CS} {as : AS} {H : Hp} {a : Addr} {vs : List V} {ds : List PyData} (h : dat cs as H a = some (.lst vs)) (r : DqAll g.K (dat cs as H) vs ds) : WalkIt g (Itl g.K a) cs as H (ds.map A.d) := by
  refine ⟨fun i cs1 as1 H1 s1 e1 hi => ?_, fun cs1 as1 H1 s1 e1 => ?_, fun i cs1 as1 H1 x H2 s1 e1 hi hy => ?_⟩
  · rw [List.length_map, ← DqAll.length r] at hi
    exact ⟨vs, vs[i], SqL.of (dat_le _ _ (e1 _ _ h)), by simp [hi]⟩
  · exact ⟨vs, SqL.of (dat_le _ _ (e1 _ _ h)), by rw [List.length_map, DqAll.length r]; exact Nat.le_refl _⟩
  · obtain ⟨rfl, hy⟩ := hy
    have ex := hy vs (SqL.of (dat_le _ _ (e1 _ _ h)))
    rw [List.length_map] at hi
    obtain ⟨v, e2, rv⟩ := DqAll.get r (List.getElem?_eq_getElem hi)
    rw [e2] at ex
    obtain rfl := Option.some.inj ex
    exact ⟨s1, Exn.refl, .d ds[i], by rw [List.getElem?_map, List.getElem?_eq_getElem hi] <;> rfl, Dq.le e1 rv⟩
theorem walk_data_tup {cs : CS} {as : AS} {H : Hp} {a : Addr} {vs : List V} {ds : List PyData} (h : SqT g.K (dat cs as H) a vs) (r : DqAll g.K (dat cs as H) vs ds) : WalkIt g (Itt g.K a) cs as H (ds.map A.d) := by
  refine ⟨fun i cs1 as1 H1 s1 e1 hi => ?_, fun cs1 as1 H1 s1 e1 => ?_, fun i cs1 as1 H1 x H2 s1 e1 hi hy => ?_⟩
  · rw [List.length_map, ← DqAll.length r] at hi
    exact ⟨vs, vs[i], Le.sqT dat_le (Le.sqT e1 h), by simp [hi]⟩
  · exact ⟨vs, Le.sqT dat_le (Le.sqT e1 h), by rw [List.length_map, DqAll.length r]; exact Nat.le_refl _⟩
  · obtain ⟨rfl, hy⟩ := hy
    have ex := hy vs (Le.sqT dat_le (Le.sqT e1 h))
    rw [List.length_map] at hi
    obtain ⟨v, e2, rv⟩ := DqAll.get r (List.getElem?_eq_getElem hi)
    rw [e2] at ex
    obtain rfl := Option.some.inj ex
    exact ⟨s1, Exn.refl, .d ds[i], by rw [List.getElem?_map, List.getElem?_eq_getElem hi] <;> rfl, Dq.le e1 rv⟩
theorem walk_script {cs : CS} {as : AS} {H : Hp} {a : Addr} {ns : List Int} (h : SqL g.K (dat cs as H) a (ns.map V.int)) : WalkIt g (Itl g.K a) cs as H (ns.map fun i => A.d (.int i)) := by
  refine ⟨fun i cs1 as1 H1 s1 e1 hi => ?_, fun cs1 as1 H1 s1 e1 => ?_, fun i cs1 as1 H1 x H2 s1 e1 hi hy => ?_⟩
  · rw [List.length_map] at hi
    exact ⟨ns.map V.int, .int ns[i], Le.sqL dat_le (Le.sqL e1 h), by simp [hi]⟩
  · exact ⟨ns.map V.int, Le.sqL dat_le (Le.sqL e1 h), by rw [List.length_map, List.length_map]; exact Nat.le_refl _⟩
  · obtain ⟨rfl, hy⟩ := hy
    have ex := hy _ (Le.sqL dat_le (Le.sqL e1 h))
    rw [List.length_map] at hi
    rw [List.getElem?_map, List.getElem?_eq_getElem hi] at ex
    obtain rfl := Option.some.inj ex
    exact ⟨s1, Exn.refl, .d (.int ns[i]), by rw [List.getElem?_map, List.getElem?_eq_getElem hi] <;> rfl, .int _⟩
theorem walk_text {cs : CS} {as : AS} {H : Hp} {z : Str} : WalkIt g (Its z) cs as H (z.cps.toList.map fun c => A.d (.str ⟨#[c]⟩)) := by
  refine ⟨fun i cs1 as1 H1 s1 e1 hi => ?_, fun cs1 as1 H1 s1 e1 => ?_, fun i cs1 as1 H1 x H2 s1 e1 hi hy => ?_⟩
  · rw [List.length_map, Array.length_toList] at hi; exact hi
  · show z.cps.size ≤ _
    rw [List.length_map, Array.length_toList]; exact Nat.le_refl _
  · obtain ⟨rfl, c, e2, rfl⟩ := hy
    exact ⟨s1, Exn.refl, .d (.str ⟨#[c]⟩), by rw [List.getElem?_map, Array.getElem?_toList, e2] <;> rfl, .str _⟩
theorem si_val (hK : X.K = g.K) (he : PE X e (den g W me)) : PI X tge e (denI g W (iVal me)) := by
  refine ⟨fun pins s σ H Rr I ⟨env, cs, as, sa, h⟩ => ?_⟩
  unfold iVal at h
  cases q : me env cs with
  | no => rw [q] at h; exact h.elim
  | ex x cs1 =>
    rw [q] at h
    refine (pi_list he).run pins s σ H Rr I ⟨env, cs, as, sa, ?_⟩
    rw [q]
    exact h
  | ok a cs1 =>
    rw [q] at h
    simp only [R.bind_ok] at h
    cases a with
    | d x =>
      cases x with
      | list ds =>
        refine (pi_list he).run pins s σ H Rr I ⟨env, cs, as, sa, ?_⟩
        rw [q]
        refine fun as' H' hs e' v r => ?_
        have r' : Dq g.K (dat cs1 as' H') v (.list ds) := r
        cases r' with
        | lst h1 h2 => exact ⟨_, rfl, ⟨_, SqL.of (dat_le _ _ h1)⟩, h as' H' hs e' _ (by rw [hK]; exact walk_data_list h1 h2)⟩
      | tuple ds =>
        refine (pi_tup he).run pins s σ H Rr I ⟨env, cs, as, sa, ?_⟩
        rw [q]
        refine fun as' H' hs e' v r => ?_
        have r' : Dq g.K (dat cs1 as' H') v (.tuple ds) := r
        cases r' with
        | tup h1 h2 => exact ⟨_, rfl, ⟨_, by rw [hK]; exact Le.sqT dat_le h1.t⟩, h as' H' hs e' _ (by rw [hK]; exact walk_data_tup h1.t h2)⟩
      | str z =>
        refine (pi_str he).run pins s σ H Rr I ⟨env, cs, as, sa, ?_⟩
        rw [q]
        refine fun as' H' hs e' v r => ?_
        cases rep_str r
        exact ⟨z, rfl, h as' H' hs e' _ walk_text⟩
      | none => exact h.elim
      | bool _ => exact h.elim
      | int _ => exact h.elim
      | dict _ => exact h.elim
    | c n =>
      cases q2 : cs1[n]? with
      | none => simp only [srcOf, q2] at h; exact h.elim
      | some c =>
        cases c with
        | lst xs =>
          simp only [srcOf, q2] at h
          refine (pi_list he).run pins s σ H Rr I ⟨env, cs, as, sa, ?_⟩
          rw [q]
          refine fun as' H' hs e' v r => ?_
          obtain ⟨p, e1, rfl⟩ := r
          obtain ⟨vs, e3, _⟩ := hs.lst q2 e1
          exact ⟨p, rfl, ⟨vs, SqL.of e3⟩, h as' H' hs e' _ ⟨p, e1, by rw [hK]⟩⟩
        | dead => simp only [srcOf, q2] at h; exact h.elim
        | dk _ => simp only [srcOf, q2] at h; exact h.elim
        | dt _ => simp only [srcOf, q2] at h; exact h.elim
    | s ns =>
      refine (pi_list he).run pins s σ H Rr I ⟨env, cs, as, sa, ?_⟩
      rw [q]
      refine fun as' H' hs e' v r => ?_
      obtain ⟨p, rfl, h1⟩ := r
      exact ⟨p, rfl, ⟨_, by rw [hK]; exact Le.sqL dat_le h1⟩, h as' H' hs e' _ (by rw [hK]; exact walk_script h1)⟩
    | x _ => exact h.elim

/-! ### ranges -/
def rangeD (lo : Int) (n : Nat) : List A := (List.range n).map fun i => A.d (.int (lo + (i : Nat)))
def inR (i : Int) : Bool := decide (i.natAbs < 4611686018427387904)
theorem inR_c {i : Int} (h : inR i = true) : -(2 ^ 62) ≤ i ∧ i < 2 ^ 62 := by
  unfold inR at h
  have h' := of_decide_eq_true h
  omega
def iRange1 (ma : MA) : MI := fun env cs => (ma env cs).bind fun xs cs1 => match xs with
  | [.d (.int j)] => if inR j = true then .ok (.it (rangeD 0 j.toNat)) cs1 else .no
  | _ => .no
def iRange2 (ma : MA) : MI := fun env cs => (ma env cs).bind fun xs cs1 => match xs with
  | [.d (.int i), .d (.int j)] => if (inR i && inR j) = true then .ok (.it (rangeD i (j - i).toNat)) cs1 else .no
  | _ => .no
variable {ma : MA}
theorem walk_rng {cs : CS} {as : AS} {H : Hp} {lo : Int} {n : Nat} : WalkIt g (Itr lo n) cs as H (rangeD lo n) := by
  have hl : (rangeD lo n).length = n := by unfold rangeD; rw [List.length_map, List.length_range]
  refine ⟨fun i cs1 as1 H1 s1 e1 hi => ?_, fun cs1 as1 H1 s1 e1 => ?_, fun i cs1 as1 H1 x H2 s1 e1 hi hy => ?_⟩
  · rw [hl] at hi; exact hi
  · rw [hl]; exact Nat.le_refl _
  · obtain ⟨rfl, rfl⟩ := hy
    rw [hl] at hi
    refine ⟨s1, Exn.refl, .d (.int (lo + (i : Nat))), ?_, .int _⟩
    unfold rangeD
    rw [List.getElem?_map, List.getElem?_range hi] <;> rfl
theorem si_range1 {a : Expr} {p pos : Pos} (hg : Gl X "range") (hm : X.mg "range" = none) (ha : PA X [a] (denA g W ma)) (hs : starEach [a] X.env = [(false, eval a X.env)] := by rfl) : PI X tge (.Call (.Name "range" p) [a] [] pos) (denI g W (iRange1 ma)) := by
  refine ⟨fun pins s σ H Rr I ⟨env, cs, as, sa, h⟩ => ?_⟩
  refine (pi_range1 hg hm ha hs).run pins s σ H Rr I ⟨env, cs, as, sa, (Post.bind h).mono fun xs cs1 as1 H1 hs1 e1 h1 vs rv => ?_⟩
  split at h1
  · rename_i j
    obtain ⟨v, rfl, r⟩ := reps1 rv
    cases rep_int r
    split at h1
    · rename_i hj
      obtain ⟨b1, b2⟩ := inR_c hj
      exact ⟨j, rfl, b1, b2, h1 as1 H1 hs1 Exn.refl _ walk_rng⟩
    · exact h1.elim
  · exact h1.elim
theorem si_range2 {a b : Expr} {p pos : Pos} (hg : Gl X "range") (hm : X.mg "range" = none) (ha : PA X [a, b] (denA g W ma)) (hs : starEach [a, b] X.env = [(false, eval a X.env), (false, eval b X.env)] := by rfl) (hs2 : starEach [b] X.env = [(false, eval b X.env)] := by rfl) :
    PI X tge (.Call (.Name "range" p) [a, b] [] pos) (denI g W (iRange2 ma)) := by
  refine ⟨fun pins s σ H Rr I ⟨env, cs, as, sa, h⟩ => ?_⟩
  refine (pi_range2 hg hm ha hs hs2).run pins s σ H Rr I ⟨env, cs, as, sa, (Post.bind h).mono fun xs cs1 as1 H1 hs1 e1 h1 vs rv => ?_⟩
  split at h1
  · rename_i i j
    obtain ⟨v, w, rfl, r, r2⟩ := reps2 rv
    cases rep_int r; cases rep_int r2
    split at h1
    · rename_i hj
      rw [Bool.and_eq_true] at hj
      obtain ⟨b1, b2⟩ := inR_c hj.1
      obtain ⟨b3, b4⟩ := inR_c hj.2
      exact ⟨i, j, rfl, ⟨b1, b2, b3, b4⟩, h1 as1 H1 hs1 Exn.refl _ walk_rng⟩
    · exact h1.elim
  · exact h1.elim

/-! ### enumerate -/
def enumF : Nat → List PyData → List A
  | _, [] => []
  | k, x :: r => .d (.tuple [.int (k : Nat), x]) :: enumF (k + 1) r
theorem enumF_get : ∀ (k : Nat) (xs : List PyData) (i : Nat), (enumF k xs)[i]? = xs[i]?.map fun x => A.d (.tuple [.int ((k + i : Nat) : Int), x])
  | _, [], _ => by simp [enumF]
  | k, x :: r, 0 => by simp [enumF]
  | k, x :: r, i + 1 => by
    have ih := enumF_get (k + 1) r i
    simp only [enumF, List.getElem?_cons_succ]
    rw [ih, Nat.add_right_comm k 1 i]
    rfl
theorem enumF_length (k : Nat) (xs : List PyData) : (enumF k xs).length = xs.length := by
  induction xs generalizing k with
  | nil => rfl
  | cons x r ih => simp [enumF, ih]
def iEnum (m : ME) : MI := fun env cs => (m env cs).bind fun a cs1 => match a with
  | .d (.tuple xs) => .ok (.it (enumF 0 xs)) cs1
  | _ => .no
theorem walk_enum_tup {cs : CS} {as : AS} {H : Hp} {a : Addr} {vs : List V} {ds : List PyData} (h : SqT g.K (dat cs as H) a vs) (r : DqAll g.K (dat cs as H) vs ds) : WalkIt g (IteT g.K a) cs as H (enumF 0 ds) := by
  have hl := enumF_length 0 ds
  refine ⟨fun i cs1 as1 H1 s1 e1 hi => ?_, fun cs1 as1 H1 s1 e1 => ?_, fun i cs1 as1 H1 x H2 s1 e1 hi hy => ?_⟩
  · rw [hl, ← DqAll.length r] at hi
    exact ⟨vs, vs[i], Le.sqT dat_le (Le.sqT e1 h), by simp [hi]⟩
  · exact ⟨vs, Le.sqT dat_le (Le.sqT e1 h), by rw [hl, DqAll.length r]⟩
  · obtain ⟨T, o', x', rfl, ho', hT, rfl, hy⟩ := hy
    have ex := hy vs (Le.sqT dat_le (Le.sqT e1 h))
    rw [hl] at hi
    obtain ⟨v, e2, rv⟩ := DqAll.get r (List.getElem?_eq_getElem hi)
    rw [e2] at ex
    obtain rfl := Option.some.inj ex
    have en := exn_new (o := .frz o' (.tup [.int (i : Nat), v])) s1 hT
    refine ⟨s1.new hT, en, .d (.tuple [.int ((0 + i : Nat) : Int), ds[i]]), ?_, ?_⟩
    · rw [enumF_get, List.getElem?_eq_getElem hi] <;> rfl
    · rw [Nat.zero_add]
      exact .tup (SqN.of ho' (dat_new s1 hT)) (.cons (.int _) (.cons (Dq.le en.dat (Dq.le e1 rv)) .nil))
theorem si_enum {elts : List Expr} {kk : Nat} {p pos tpos : Pos} (hK : X.K = g.K) (hg : Gl X "enumerate") (hm : X.mg "enumerate" = none) (he : PE X e (den g W me)) (hs : starEach [e] X.env = (false, eval e X.env) :: starEach [] X.env := by rfl) (hs1 : starEach [e] X.env = [(false, eval e X.env)] := by rfl) :
    PI X (.Tuple elts kk tpos) (.Call (.Name "enumerate" p) [e] [] pos) (denI g W (iEnum me)) := by
  refine ⟨fun pins s σ H Rr I ⟨env, cs, as, sa, h⟩ => ?_⟩
  have ha : PA X [e] (tCons (den g W me) tNil) := pa_cons he pa_nil hs
  unfold iEnum at h
  cases q : me env cs with
  | no => rw [q] at h; exact h.elim
  | ex x cs1 =>
    rw [q] at h
    refine (pi_enumT hg hm ha hs1).run pins s σ H Rr I ⟨env, cs, as, sa, ?_⟩
    rw [q]
    exact h
  | ok a cs1 =>
    rw [q] at h
    simp only [R.bind_ok] at h
    split at h
    · refine (pi_enumT hg hm ha hs1).run pins s σ H Rr I ⟨env, cs, as, sa, ?_⟩
      rw [q]
      refine fun as' H' hs' e' v r => ?_
      rename_i ds
      have r' : Dq g.K (dat cs1 as' H') v (.tuple ds) := r
      cases r' with
      | tup h1 h2 => exact ⟨_, _, rfl, by rw [hK]; exact Le.sqT dat_le h1.t, h as' H' hs' e' _ (by rw [hK]; exact walk_enum_tup h1.t h2)⟩
    · exact h.elim
end
end Sh
namespace Sh
open PySem L2
/-! ### list comprehensions -/
abbrev WF : WX := fun _ _ _ _ => False
theorem wipe_set {σ : St} {i : Nat} {x : Option V} : ∀ {vs : List Nat}, i ∈ vs → L2.wipe (σ.set i x) vs = L2.wipe σ vs
  | v :: vs, h => by
    unfold L2.wipe
    rcases List.mem_cons.mp h with rfl | h
    · by_cases hm : i ∈ vs
      · rw [wipe_set hm]
      · have key : ∀ (ws : List Nat) (σ : St), i ∉ ws → L2.wipe (σ.set i x) ws = (L2.wipe σ ws).set i x := fun ws => by
          induction ws with
          | nil => intro σ _; rfl
          | cons w ws ih =>
            intro σ hn
            unfold L2.wipe
            rw [ih σ (fun z => hn (List.mem_cons_of_mem _ z)), List.set_comm _ _ (fun e => hn (by rw [e]; exact List.mem_cons_self))]
        rw [key vs σ hm, List.set_set]
    · rw [wipe_set h]
theorem Sat.wipe2 {g : G} {cs : CS} {as : AS} {H : Hp} : ∀ (fg : List Nat) {env : Env} {σ : St}, Sat g cs as H env σ → Sat g cs as H (wipeE fg.reverse env) (L2.wipe σ fg) := by
  intro fg
  induction fg with
  | nil => intro env σ s; exact s
  | cons v fg ih =>
    intro env σ s
    have k := ih s
    have e : wipeE (v :: fg).reverse env = (wipeE fg.reverse env).set v none := by
      unfold wipeE
      rw [List.reverse_cons, List.foldl_append]
      rfl
    rw [e]
    unfold L2.wipe
    refine ⟨k.hs, by rw [List.length_set, List.length_set]; exact k.len, fun j x q => ?_⟩
    rcases get_set q with ⟨rfl, e1, hl⟩ | ⟨ne, e1⟩
    · cases e1
    · obtain ⟨w, h1, h2⟩ := k.slots j x e1
      exact ⟨w, by rw [List.getElem?_set_ne (Ne.symm ne)]; exact h1, h2⟩
/-- targets that store the block's own names alone -/
def denF (g : G) (fr : List Nat) (tg : Tgt) : TG := fun v σ H Q => ∃ env cs as a env', Sat g cs as H env σ ∧ RepA g cs as H v a ∧ tg a env cs = some env' ∧ ∀ σ', Sat g cs as H env' σ' → L2.wipe σ' fr = L2.wipe σ fr → Q σ' H
def denFs (g : G) (fr : List Nat) (tg : Tgts) : TGs := fun vs σ H Q => ∃ env cs as ds env', Sat g cs as H env σ ∧ DqAll g.K (dat cs as H) vs ds ∧ tg ds env cs = some env' ∧ ∀ σ', Sat g cs as H env' σ' → L2.wipe σ' fr = L2.wipe σ fr → Q σ' H
section
variable {X : Cx} {g : G} {pos : Pos} {tg : Tgt} {tgs : Tgts} {fr : List Nat}
theorem sf_name {i : Nat} {x : Str} (hN : X.N.Nodup) (hi : X.N[i]? = some x) (hx : Loc X.env.scope x) (hfr : i ∈ fr) (hf : X.fn x = true ∨ X.env.scope.names.lookup x = some .local := by first | exact .inl rfl | exact .inr rfl | assumption) : PG X (.Name x pos) (denF g fr (tgName i)) :=
  pg_imp (pg_name hN hi hx hf) fun v σ H Q ⟨env, cs, as, a, env', s, r, e, h⟩ => by
    obtain rfl := Option.some.inj e
    exact h _ (s.set r) (wipe_set hfr)
theorem sfs_nil : PGs X [] (denFs g fr tgNil) := pgs_imp pgs_nil fun v σ H Q ⟨env, cs, as, ds, env', s, r, e, h⟩ => by
  cases ds with
  | nil =>
    obtain rfl := Option.some.inj e
    cases r
    exact ⟨rfl, h _ s rfl⟩
  | cons d r => cases e
theorem sfs_cons {e : Expr} {es : List Expr} (h1 : PG X e (denF g fr tg)) (h2 : PGs X es (denFs g fr tgs)) (hs : (assignEach (e :: es) X.env).map (·.2) = assign e X.env :: (assignEach es X.env).map (·.2) := by rfl) : PGs X (e :: es) (denFs g fr (tgCons tg tgs)) :=
  pgs_imp (pgs_cons h1 h2 hs) fun v σ H Q ⟨env, cs, as, ds, env', s, r, e, h⟩ => by
    cases ds with
    | nil => cases e
    | cons d ds =>
      cases r with
      | cons r1 r2 =>
        have e' : (tg (.d d) env cs).bind (fun env1 => tgs ds env1 cs) = some env' := e
        cases q : tg (.d d) env cs with
        | none => rw [q] at e'; cases e'
        | some env1 =>
          rw [q] at e'
          exact ⟨_, _, rfl, env, cs, as, .d d, env1, s, r1, q, fun σ' s' w1 => ⟨env1, cs, as, ds, env', s', r2, e', fun σ2 s2 w2 => h σ2 s2 (w2.trans w1)⟩⟩
theorem sf_tup {es : List Expr} {k : Nat} {n : Nat} (hK : X.K = g.K) (hc : X.calm = true) (h : PGs X es (denFs g fr tgs)) (hn : (assignEach es X.env).length = n := by rfl) (hst : (assignEach es X.env).findIdx? (·.1) = none := by rfl) : PG X (.Tuple es k pos) (denF g fr (tgTup n tgs)) :=
  pg_imp (pg_tup hc h hn hst) fun v σ H Q ⟨env, cs, as, a, env', s, r, e, q⟩ => by
    unfold tgTup at e
    split at e
    · split at e
      · rename_i ds hl
        have r' : Dq g.K (dat cs as H) v (.tuple ds) := r
        cases r' with
        | tup h1 h2 => exact ⟨_, _, rfl, by rw [hK]; exact Le.sqT dat_le h1.t, (DqAll.length h2).trans hl, env, cs, as, ds, env', s, h2, e, q⟩
      · cases e
    · cases e
end
/-- a value as plain data, where no cell is given up -/
def asD : A → Option PyData
  | .d x => some x
  | _ => none
def noEx {α : Type} (r : R α) : R α := match r with
  | .ex _ _ => .no
  | r => r
@[simp] theorem noEx_ok {α : Type} (a : α) (cs : CS) : noEx (R.ok a cs) = R.ok a cs := rfl
def lcIt (tg : Tgt) (t : MT) (e : ME) (env : Env) : List A → CS → R (List PyData)
  | [], cs => .ok [] cs
  | x :: xs, cs => match tg x env cs with
    | none => .no
    | some env1 => (noEx (t env1 cs)).bind fun b cs1 => if b = true then
        (noEx (e env1 cs1)).bind fun a cs2 => match asD a with
          | none => .no
          | some y => (lcIt tg t e env xs cs2).bind fun ys cs3 => .ok (y :: ys) cs3
      else lcIt tg t e env xs cs1
/-- over a cell's list, as it stands at each turn -/
def lcCell (tg : Tgt) (t : MT) (e : ME) (env : Env) (n : Nat) : Nat → Nat → CS → R (List PyData)
  | 0, _, _ => .no
  | fuel + 1, i, cs => match cs[n]? with
    | some (.lst xs) => match xs[i]? with
      | none => if xs.length ≤ i then .ok [] cs else .no
      | some x => if i < sizeLine then match tg (.d x) env cs with
        | none => .no
        | some env1 => (noEx (t env1 cs)).bind fun b cs1 => if b = true then
            (noEx (e env1 cs1)).bind fun a cs2 => match asD a with
              | none => .no
              | some y => (lcCell tg t e env n fuel (i + 1) cs2).bind fun ys cs3 => .ok (y :: ys) cs3
          else lcCell tg t e env n fuel (i + 1) cs1 else .no
    | _ => .no
def lcS (tg : Tgt) (t : MT) (e : ME) (env : Env) (cs : CS) : Src → R (List PyData)
  | .it xs => if xs.length ≤ sizeLine then lcIt tg t e env xs cs else .no
  | .cell n => lcCell tg t e env n 1000000000 0 cs
/-- fr: the block's own slots, in the turned sequence -/
def eLc (fr : List Nat) (src : MI) (tg : Tgt) (t : MT) (e : ME) : ME := fun env cs => (src env cs).bind fun s cs1 => (lcS tg t e (wipeE fr.reverse env) cs1 s).bind fun ys cs2 => .ok (.d (.list ys)) cs2
def tYesM : MT := fun _ cs => .ok true cs
section
variable {g : G} {cs : CS} {as : AS} {H : Hp}
/-- the hidden list is written -/
theorem Hs.hidSet {p : Addr} {o : HO} (s : Hs g cs as H) (hp : p ∈ as.hid) : Hs g cs as (upd H p o) ∧ (∀ a u, dat cs as H a = some u → dat cs as (upd H p o) a = some u) := by
  have dd : ∀ a u, dat cs as H a = some u → dat cs as (upd H p o) a = some u := fun a u h => by
    obtain ⟨h1, h2⟩ := dat_some.mp h
    have ne : a ≠ p := fun e => h1 (.inr (by rw [e]; exact hp))
    exact dat_some.mpr ⟨h1, by rw [upd_ne ne]; exact h2⟩
  refine ⟨⟨s.len, s.inj, fun i c a e1 e2 => ?_, s.apart, fun a ha => ?_⟩, dd⟩
  · by_cases hd : c = .dead
    · subst hd; trivial
    · have ne : a ≠ p := fun e => s.apart i c a e1 hd e2 (by rw [e]; exact hp)
      have k := s.cells i c a e1 e2
      cases c with
      | dead => trivial
      | lst xs => obtain ⟨vs, q, r⟩ := k; exact ⟨vs, by rw [upd_ne ne]; exact q, DqAll.le dd r⟩
      | dk xs => obtain ⟨vs, q, r⟩ := k; exact ⟨vs, by rw [upd_ne ne]; exact q, Paired.mono (fun _ _ z => ⟨z.1, Dq.le dd z.2⟩) r⟩
      | dt xs =>
        obtain ⟨vs, q, r⟩ := k
        exact ⟨vs, by rw [upd_ne ne]; exact q, Paired.mono (fun _ _ z => ⟨z.1, Dq.le dd z.2⟩) r⟩
  · by_cases e : a = p
    · exact ⟨o, by rw [e]; exact upd_same⟩
    · obtain ⟨u, q⟩ := s.there a ha
      exact ⟨u, by rw [upd_ne e]; exact q⟩
end
theorem wipe_get {σ : St} {j : Nat} : ∀ {fr : List Nat}, j ∈ fr → j < σ.length → (L2.wipe σ fr)[j]? = some none
  | v :: fr, h, hl => by
    unfold L2.wipe
    by_cases e : v = j
    · subst e
      rw [List.getElem?_set_self (by rw [L2.wipe_length]; exact hl)]
    · rw [List.getElem?_set_ne e]
      rcases List.mem_cons.mp h with q | q
      · exact absurd q.symm e
      · exact wipe_get q hl
theorem wipe_idem {σ : St} {fr : List Nat} : L2.wipe (L2.wipe σ fr) fr = L2.wipe σ fr := by
  have key : ∀ (ws : List Nat) (τ : St), τ.length = σ.length → (∀ j ∈ ws, j < σ.length → τ[j]? = some none) → L2.wipe τ ws = τ := fun ws => by
    induction ws with
    | nil => intro τ _ _; rfl
    | cons w ws ih =>
      intro τ hl h
      unfold L2.wipe
      rw [ih τ hl fun j hj => h j (List.mem_cons_of_mem _ hj)]
      by_cases hw : w < τ.length
      · have q := h w List.mem_cons_self (by rw [← hl]; exact hw)
        apply List.ext_getElem?
        intro k
        by_cases e : w = k
        · subst e; rw [List.getElem?_set_self hw, q]
        · rw [List.getElem?_set_ne e]
      · rw [List.set_eq_of_length_le (by omega)]
  exact key fr _ (L2.wipe_length σ fr) fun j hj hl => wipe_get hj hl
theorem exn_upd {cs cs1 : CS} {as as1 : AS} {H H1 : Hp} {p : Addr} {o : HO} (hp : p ∈ as.hid) (e : Exn cs as H cs1 as1 H1) : Exn cs as (upd H p o) cs1 as1 (upd H1 p o) := by
  refine ⟨e.pre, fun a u q => ?_, e.hid, fun a ha => ?_⟩
  · obtain ⟨q1, q2⟩ := dat_some.mp q
    have ne : a ≠ p := fun z => q1 (.inr (by rw [z]; exact hp))
    rw [upd_ne ne] at q2
    obtain ⟨q3, q4⟩ := dat_some.mp (e.dat a u (dat_some.mpr ⟨q1, q2⟩))
    exact dat_some.mpr ⟨q3, by rw [upd_ne ne]; exact q4⟩
  · by_cases z : a = p
    · rw [z, upd_same, upd_same]
    · rw [upd_ne z, upd_ne z]
      exact e.kept a ha
section
variable {X : Cx} {g : G} {W : WX} {mi : MI} {tg : Tgt} {mt : MT} {me : ME}
theorem post_noEx {α : Type} {σ : St} {cs : CS} {as : AS} {H : Hp} {P : α → CS → AS → Hp → Prop} {r : R α} (h : Post g W σ cs as H P (noEx r)) : Post g WF σ cs as H P r := by
  cases r with
  | ok a cs' => exact h
  | ex e cs' => exact h.elim
  | no => exact h
theorem den_lc {fr : List Nat} {σ : St} {H : Hp} {Q : VK} (h : den g W (eLc fr mi tg mt me) σ H Q) : tLc (denI g W mi) (denF g fr tg) (denT g WF mt) (den g WF me) fr σ H Q := by
  obtain ⟨env, cs, as, s, h⟩ := h
  refine ⟨env, cs, as, s, (Post.bind h).mono fun src cs0 as0 H0 hs0 e0 h0 J hJ D hD => ?_⟩
  cases src with
  | cell n =>
    obtain ⟨p, hpl, rfl⟩ := hJ
    have h0' : PostA g W σ cs0 as0 H0 Q ((lcCell tg mt me (wipeE fr.reverse env) n 1000000000 0 cs0).bind fun ys cs2 => R.ok (A.d (.list ys)) cs2) := h0
    have s0 := s.exn hs0 e0
    obtain ⟨hh, hd⟩ := hs0.hide (o := .lst []) hD
    have sw := s0.wipe2 fr
    -- the state at turn i
    refine ⟨fun i m H' => ∃ cs1 as1 acc vs, as1.hid = D :: as0.hid ∧ Sat g cs1 as1 H' (wipeE fr.reverse env) (L2.wipe σ fr) ∧ Exn cs0 ⟨as0.l, D :: as0.hid⟩ (upd H0 D (.lst [])) cs1 as1 (upd H' D (.lst [])) ∧
        H' D = some (.lst vs) ∧ DqAll g.K (dat cs1 as1 H') vs acc ∧ acc.length ≤ i ∧ PostA g W σ cs0 as0 H0 Q ((lcCell tg mt me (wipeE fr.reverse env) n m i cs1).bind fun ys cs2 => R.ok (A.d (.list (acc ++ ys))) cs2), ⟨_, cs0, ⟨as0.l, D :: as0.hid⟩, [], [], rfl, ?_, ?_, upd_same, .nil, Nat.le_refl _, h0'⟩, ?_⟩
    · refine ⟨hh, sw.len, fun j x q => ?_⟩
      obtain ⟨v, q1, q2⟩ := sw.slots j x q
      refine ⟨v, q1, ?_⟩
      cases x with
      | d y => exact Dq.le (fun a o z => (hd a o).mp z) q2
      | c n => exact q2
      | s ns => obtain ⟨a, e1, e2⟩ := q2; exact ⟨a, e1, Le.sqL (fun a o z => (hd a o).mp z) e2⟩
      | x _ => obtain ⟨a, d, e1, e2, e3⟩ := q2; exact ⟨a, d, e1, e2, RepX.le (fun a o z => (hd a o).mp z) e3⟩
    · rw [upd_upd]
      exact Exn.refl
    · rintro i m H1 ⟨cs1, as1, acc, vs, eh, s1, e1, hv, rv, hl, h1⟩
      have hDm : D ∈ as1.hid := by rw [eh]; exact List.mem_cons_self
      -- what stood at the beginning stands now
      have exb : ∀ {cs2 : CS} {as2 : AS} {H2 : Hp}, Exn cs1 as1 H1 cs2 as2 H2 → Exn cs0 as0 H0 cs2 ⟨as2.l, as0.hid⟩ H2 := fun {cs2 as2 H2} e2 => by
        refine ⟨fun n a q => e2.pre n a (e1.pre n a q), fun a o q => ?_, rfl, fun a ha => ?_⟩
        · have ne : a ≠ D := ne_of_none (dat_some.mp q).2 hD
          have q1 := e1.dat a o ((hd a o).mp q)
          obtain ⟨q2, q3⟩ := dat_some.mp q1
          rw [upd_ne ne] at q3
          have q4 := e2.dat a o (dat_some.mpr ⟨q2, q3⟩)
          obtain ⟨q5, q6⟩ := dat_some.mp q4
          refine dat_some.mpr ⟨fun l => q5 (l.imp id fun z => ?_), q6⟩
          rw [e2.hid, eh]
          exact List.mem_cons_of_mem _ z
        · have ne : a ≠ D := fun z => by
            obtain ⟨o, q⟩ := hs0.there a ha
            rw [z, hD] at q; cases q
          have k1 := e1.kept a (List.mem_cons_of_mem _ ha)
          rw [upd_ne ne, upd_ne ne] at k1
          exact (e2.kept a (by rw [eh]; exact List.mem_cons_of_mem _ ha)).trans k1
      have shw : ∀ {cs2 : CS} {as2 : AS} {H2 : Hp}, Hs g cs2 as2 H2 → as2.hid = D :: as0.hid → Hs g cs2 ⟨as2.l, as0.hid⟩ H2 ∧ Le (dat cs2 as2 H2) (dat cs2 ⟨as2.l, as0.hid⟩ H2) := fun {cs2 as2 H2} hs2 eh2 => by
        have q : as2 = ⟨as2.l, D :: as0.hid⟩ := by rw [← eh2]
        rw [q] at hs2 ⊢
        exact hs2.show
      obtain ⟨sh1, sl1⟩ := shw s1.hs eh
      have le1 : Le (dat cs0 as0 H0) (dat cs1 as1 H1) := fun a o q => by
        have ne : a ≠ D := ne_of_none (dat_some.mp q).2 hD
        obtain ⟨q2, q3⟩ := dat_some.mp (e1.dat a o ((hd a o).mp q))
        rw [upd_ne ne] at q3
        exact dat_some.mpr ⟨q2, q3⟩
      cases m with
      | zero => exact h1.elim
      | succ m =>
      have hpl1 : as1.l[n]? = some p := e1.pre n p hpl
      have h1 : PostA g W σ cs0 as0 H0 Q ((match cs1[n]? with
        | some (.lst xs) => match xs[i]? with
          | none => if xs.length ≤ i then R.ok [] cs1 else R.no
          | some x => if i < sizeLine then match tg (.d x) (wipeE fr.reverse env) cs1 with
            | none => R.no
            | some env1 => (noEx (mt env1 cs1)).bind fun b cs1 => if b = true then
                (noEx (me env1 cs1)).bind fun a cs2 => match asD a with
                  | none => R.no
                  | some y => (lcCell tg mt me (wipeE fr.reverse env) n m (i + 1) cs2).bind fun ys cs3 => R.ok (y :: ys) cs3
              else lcCell tg mt me (wipeE fr.reverse env) n m (i + 1) cs1 else R.no
        | _ => R.no).bind fun ys cs2 => R.ok (A.d (.list (acc ++ ys))) cs2) := h1
      cases qc : cs1[n]? with
      | none => simp only [qc] at h1; exact h1.elim
      | some c =>
      cases c with
      | dead => simp only [qc] at h1; exact h1.elim
      | dk _ => simp only [qc] at h1; exact h1.elim
      | dt _ => simp only [qc] at h1; exact h1.elim
      | lst xs =>
      simp only [qc] at h1
      obtain ⟨ws, e3, rr⟩ := s1.hs.lst qc hpl1
      cases qi : xs[i]? with
      | none =>
        simp only [qi] at h1
        split at h1
        case isFalse => exact h1.elim
        rename_i hle
        have h1' : PostA g W σ cs0 as0 H0 Q (R.ok (A.d (.list (acc ++ []))) cs1) := h1
        rw [List.append_nil] at h1'
        refine .inl ⟨⟨ws, SqL.of e3, by rw [DqAll.length rr]; exact hle⟩, h1' ⟨as1.l, as0.hid⟩ H1 sh1 (exb Exn.refl) _ (.lst ?_ (DqAll.le sl1 rv))⟩
        refine dat_some.mpr ⟨fun l => ?_, hv⟩
        rcases l with ⟨j, c, f1, f2, f3⟩ | l
        · exact s1.hs.apart j c D f1 f2 f3 hDm
        · obtain ⟨o, q⟩ := hs0.there D l
          rw [hD] at q; cases q
      | some xi =>
        simp only [qi] at h1
        split at h1
        case isFalse => exact h1.elim
        rename_i hsz
        obtain ⟨vi, f1, rvi⟩ := DqAll.get rr qi
        refine .inr ⟨⟨ws, vi, SqL.of e3, f1⟩, ?_⟩
        -- the next state
        refine ⟨fun H' => ∃ cs1 as1 acc vs, as1.hid = D :: as0.hid ∧ Sat g cs1 as1 H' (wipeE fr.reverse env) (L2.wipe σ fr) ∧ Exn cs0 ⟨as0.l, D :: as0.hid⟩ (upd H0 D (.lst [])) cs1 as1 (upd H' D (.lst [])) ∧
            H' D = some (.lst vs) ∧ DqAll g.K (dat cs1 as1 H') vs acc ∧ acc.length ≤ i + 1 ∧ PostA g W σ cs0 as0 H0 Q ((lcCell tg mt me (wipeE fr.reverse env) n m (i + 1) cs1).bind fun ys cs2 => R.ok (A.d (.list (acc ++ ys))) cs2),
          fun H' hn => ⟨m, Nat.lt_succ_self _, hn⟩, fun x H2 hy => ?_⟩
        obtain ⟨e12, hy⟩ := hy
        have e12 := e12.symm
        subst e12
        have ex := hy ws (SqL.of e3)
        rw [f1] at ex
        obtain rfl := Option.some.inj ex
        have hs2 := s1.hs
        have e2 : Exn cs1 as1 H1 cs1 as1 H1 := Exn.refl
        have ra : RepA g cs1 as1 H1 vi (.d xi) := rvi
        have h1' := h1
        cases q : tg (.d xi) (wipeE fr.reverse env) cs1 with
        | none => simp only [q] at h1'; exact h1'.elim
        | some env1 =>
          simp only [q] at h1'
          refine ⟨_, cs1, as1, _, env1, s1.exn hs2 e2, ra, q, fun σ' s' w' => ⟨w'.trans wipe_idem, env1, cs1, as1, s', ?_⟩⟩
          cases qt : mt env1 cs1 with
          | no => simp only [qt] at h1'; exact h1'.elim
          | ex z cs2 => simp only [qt] at h1'; exact h1'.elim
          | ok b cs2 =>
            simp only [qt, noEx_ok, R.bind_ok] at h1'
            refine fun as2 H3 hs3 e3 => ?_
            have e23 := e2.trans e3
            have kD : H3 D = H1 D := e23.kept D hDm
            cases b with
            | false =>
              have h1' : PostA g W σ cs0 as0 H0 Q ((lcCell tg mt me (wipeE fr.reverse env) n m (i + 1) cs2).bind fun ys cs2 => R.ok (A.d (.list (acc ++ ys))) cs2) := h1'
              exact ⟨cs2, as2, acc, vs, e23.hid.trans eh, s1.exn hs3 e23, e1.trans (exn_upd hDm e23), kD.trans hv, DqAll.le e23.dat rv, Nat.le_succ_of_le hl, h1'⟩
            | true =>
              have h1' : PostA g W σ cs0 as0 H0 Q (((noEx (me env1 cs2)).bind fun a cs2 => match asD a with
                | none => R.no
                | some y => (lcCell tg mt me (wipeE fr.reverse env) n m (i + 1) cs2).bind fun ys cs3 => R.ok (y :: ys) cs3).bind fun ys cs2 => R.ok (A.d (.list (acc ++ ys))) cs2) := h1'
              refine ⟨env1, cs2, as2, s'.exn hs3 e3, ?_⟩
              cases qe : me env1 cs2 with
              | no => simp only [qe] at h1'; exact h1'.elim
              | ex z cs3 => simp only [qe] at h1'; exact h1'.elim
              | ok a cs3 =>
                simp only [qe, noEx_ok, R.bind_ok] at h1'
                cases qa : asD a with
                | none => simp only [qa] at h1'; exact h1'.elim
                | some y =>
                  simp only [qa] at h1'
                  refine fun as3 H4 hs4 e4 v rv4 => ?_
                  have e234 := e23.trans e4
                  have kD4 : H4 D = H1 D := e234.kept D hDm
                  have hDm4 : D ∈ as3.hid := by rw [e234.hid]; exact hDm
                  obtain ⟨hw, dw⟩ := hs4.hidSet (o := .lst (vs ++ [v])) hDm4
                  have ry : Dq g.K (dat cs3 as3 H4) v y := by
                    cases a with
                    | d z => obtain rfl := Option.some.inj qa; exact rv4
                    | c n => cases qa
                    | s n => cases qa
                    | x _ => cases qa
                  refine ⟨vs, kD4.trans hv, by rw [DqAll.length rv]; omega, cs3, as3, acc ++ [y], vs ++ [v], e234.hid.trans eh, ?_, ?_, upd_same, DqAll.le dw (DqAll.append (DqAll.le e234.dat rv) (.cons ry .nil)), by rw [List.length_append]; exact Nat.succ_le_succ hl, ?_⟩
                  · have k := s1.exn hs4 e234
                    refine ⟨hw, k.len, fun j x q => ?_⟩
                    obtain ⟨w, q1, q2⟩ := k.slots j x q
                    refine ⟨w, q1, ?_⟩
                    cases x with
                    | d y => exact Dq.le dw q2
                    | c n => exact q2
                    | s ns => obtain ⟨a, f1, f2⟩ := q2; exact ⟨a, f1, Le.sqL dw f2⟩
                    | x _ => obtain ⟨a, d, e1, e2, e3⟩ := q2; exact ⟨a, d, e1, e2, RepX.le dw e3⟩
                  · rw [upd_upd]
                    exact e1.trans (exn_upd hDm e234)
                  · have assoc : ((lcCell tg mt me (wipeE fr.reverse env) n m (i + 1) cs3).bind fun ys cs3 => R.ok (y :: ys) cs3).bind (fun ys cs2 => R.ok (A.d (.list (acc ++ ys))) cs2) = (lcCell tg mt me (wipeE fr.reverse env) n m (i + 1) cs3).bind fun ys cs2 => R.ok (A.d (.list ((acc ++ [y]) ++ ys))) cs2 := by
                      cases lcCell tg mt me (wipeE fr.reverse env) n m (i + 1) cs3 with
                      | ok ys cs4 => simp only [R.bind_ok, List.append_assoc, List.singleton_append]
                      | ex _ _ => rfl
                      | no => rfl
                    rw [assoc] at h1'
                    exact h1'
  | it xs =>
    have hJ : WalkIt g J cs0 as0 H0 xs := hJ
    have h0' : PostA g W σ cs0 as0 H0 Q ((if xs.length ≤ sizeLine then lcIt tg mt me (wipeE fr.reverse env) xs cs0 else R.no).bind fun ys cs2 => R.ok (A.d (.list ys)) cs2) := h0
    split at h0'
    case isFalse => exact h0'.elim
    rename_i hsz
    have s0 := s.exn hs0 e0
    obtain ⟨hh, hd⟩ := hs0.hide (o := .lst []) hD
    have sw := s0.wipe2 fr
    -- the state at turn i
    refine ⟨fun i m H' => i ≤ xs.length ∧ m = xs.length - i ∧ ∃ cs1 as1 acc vs, as1.hid = D :: as0.hid ∧ Sat g cs1 as1 H' (wipeE fr.reverse env) (L2.wipe σ fr) ∧ Exn cs0 ⟨as0.l, D :: as0.hid⟩ (upd H0 D (.lst [])) cs1 as1 (upd H' D (.lst [])) ∧
        H' D = some (.lst vs) ∧ DqAll g.K (dat cs1 as1 H') vs acc ∧ acc.length ≤ i ∧ PostA g W σ cs0 as0 H0 Q ((lcIt tg mt me (wipeE fr.reverse env) (xs.drop i) cs1).bind fun ys cs2 => R.ok (A.d (.list (acc ++ ys))) cs2), ⟨_, Nat.zero_le _, rfl, cs0, ⟨as0.l, D :: as0.hid⟩, [], [], rfl, ?_, ?_, upd_same, .nil, Nat.le_refl _, h0'⟩, ?_⟩
    · refine ⟨hh, sw.len, fun j x q => ?_⟩
      obtain ⟨v, q1, q2⟩ := sw.slots j x q
      refine ⟨v, q1, ?_⟩
      cases x with
      | d y => exact Dq.le (fun a o z => (hd a o).mp z) q2
      | c n => exact q2
      | s ns => obtain ⟨a, e1, e2⟩ := q2; exact ⟨a, e1, Le.sqL (fun a o z => (hd a o).mp z) e2⟩
      | x _ => obtain ⟨a, d, e1, e2, e3⟩ := q2; exact ⟨a, d, e1, e2, RepX.le (fun a o z => (hd a o).mp z) e3⟩
    · rw [upd_upd]
      exact Exn.refl
    · rintro i m H1 ⟨hi, rfl, cs1, as1, acc, vs, eh, s1, e1, hv, rv, hl, h1⟩
      have hDm : D ∈ as1.hid := by rw [eh]; exact List.mem_cons_self
      -- what stood at the beginning stands now
      have exb : ∀ {cs2 : CS} {as2 : AS} {H2 : Hp}, Exn cs1 as1 H1 cs2 as2 H2 → Exn cs0 as0 H0 cs2 ⟨as2.l, as0.hid⟩ H2 := fun {cs2 as2 H2} e2 => by
        refine ⟨fun n a q => e2.pre n a (e1.pre n a q), fun a o q => ?_, rfl, fun a ha => ?_⟩
        · have ne : a ≠ D := ne_of_none (dat_some.mp q).2 hD
          have q1 := e1.dat a o ((hd a o).mp q)
          obtain ⟨q2, q3⟩ := dat_some.mp q1
          rw [upd_ne ne] at q3
          have q4 := e2.dat a o (dat_some.mpr ⟨q2, q3⟩)
          obtain ⟨q5, q6⟩ := dat_some.mp q4
          refine dat_some.mpr ⟨fun l => q5 (l.imp id fun z => ?_), q6⟩
          rw [e2.hid, eh]
          exact List.mem_cons_of_mem _ z
        · have ne : a ≠ D := fun z => by
            obtain ⟨o, q⟩ := hs0.there a ha
            rw [z, hD] at q; cases q
          have k1 := e1.kept a (List.mem_cons_of_mem _ ha)
          rw [upd_ne ne, upd_ne ne] at k1
          exact (e2.kept a (by rw [eh]; exact List.mem_cons_of_mem _ ha)).trans k1
      have shw : ∀ {cs2 : CS} {as2 : AS} {H2 : Hp}, Hs g cs2 as2 H2 → as2.hid = D :: as0.hid → Hs g cs2 ⟨as2.l, as0.hid⟩ H2 ∧ Le (dat cs2 as2 H2) (dat cs2 ⟨as2.l, as0.hid⟩ H2) := fun {cs2 as2 H2} hs2 eh2 => by
        have q : as2 = ⟨as2.l, D :: as0.hid⟩ := by rw [← eh2]
        rw [q] at hs2 ⊢
        exact hs2.show
      obtain ⟨sh1, sl1⟩ := shw s1.hs eh
      have le1 : Le (dat cs0 as0 H0) (dat cs1 as1 H1) := fun a o q => by
        have ne : a ≠ D := ne_of_none (dat_some.mp q).2 hD
        obtain ⟨q2, q3⟩ := dat_some.mp (e1.dat a o ((hd a o).mp q))
        rw [upd_ne ne] at q3
        exact dat_some.mpr ⟨q2, q3⟩
      by_cases hlt : i < xs.length
      case neg =>
        have e : i = xs.length := by omega
        subst e
        rw [List.drop_length] at h1
        have h1' : PostA g W σ cs0 as0 H0 Q (R.ok (A.d (.list (acc ++ []))) cs1) := h1
        rw [List.append_nil] at h1'
        refine .inl ⟨hJ.stops cs1 as1 H1 s1.hs le1, h1' ⟨as1.l, as0.hid⟩ H1 sh1 (exb Exn.refl) _ (.lst ?_ (DqAll.le sl1 rv))⟩
        refine dat_some.mpr ⟨fun l => ?_, hv⟩
        rcases l with ⟨j, c, f1, f2, f3⟩ | l
        · exact s1.hs.apart j c D f1 f2 f3 hDm
        · obtain ⟨o, q⟩ := hs0.there D l
          rw [hD] at q; cases q
      case pos =>
        refine .inr ⟨hJ.goes i cs1 as1 H1 s1.hs le1 hlt, ?_⟩
        rw [List.drop_eq_getElem_cons hlt] at h1
        -- the next state
        refine ⟨fun H' => ∃ cs1 as1 acc vs, as1.hid = D :: as0.hid ∧ Sat g cs1 as1 H' (wipeE fr.reverse env) (L2.wipe σ fr) ∧ Exn cs0 ⟨as0.l, D :: as0.hid⟩ (upd H0 D (.lst [])) cs1 as1 (upd H' D (.lst [])) ∧
            H' D = some (.lst vs) ∧ DqAll g.K (dat cs1 as1 H') vs acc ∧ acc.length ≤ i + 1 ∧ PostA g W σ cs0 as0 H0 Q ((lcIt tg mt me (wipeE fr.reverse env) (xs.drop (i + 1)) cs1).bind fun ys cs2 => R.ok (A.d (.list (acc ++ ys))) cs2),
          fun H' hn => ⟨xs.length - (i + 1), by omega, hlt, rfl, hn⟩, fun x H2 hy => ?_⟩
        obtain ⟨hs2, e2, a, ea, ra⟩ := hJ.yields i cs1 as1 H1 x H2 s1.hs le1 hlt hy
        rw [List.getElem?_eq_getElem hlt] at ea
        obtain rfl := Option.some.inj ea
        have h1' : PostA g W σ cs0 as0 H0 Q ((match tg xs[i] (wipeE fr.reverse env) cs1 with
          | none => R.no
          | some env1 => (noEx (mt env1 cs1)).bind fun b cs1 => if b = true then
              (noEx (me env1 cs1)).bind fun a cs2 => match asD a with
                | none => R.no
                | some y => (lcIt tg mt me (wipeE fr.reverse env) (xs.drop (i + 1)) cs2).bind fun ys cs3 => R.ok (y :: ys) cs3
            else lcIt tg mt me (wipeE fr.reverse env) (xs.drop (i + 1)) cs1).bind fun ys cs2 => R.ok (A.d (.list (acc ++ ys))) cs2) := h1
        cases q : tg xs[i] (wipeE fr.reverse env) cs1 with
        | none => simp only [q] at h1'; exact h1'.elim
        | some env1 =>
          simp only [q] at h1'
          refine ⟨_, cs1, as1, _, env1, s1.exn hs2 e2, ra, q, fun σ' s' w' => ⟨w'.trans wipe_idem, env1, cs1, as1, s', ?_⟩⟩
          cases qt : mt env1 cs1 with
          | no => simp only [qt] at h1'; exact h1'.elim
          | ex z cs2 => simp only [qt] at h1'; exact h1'.elim
          | ok b cs2 =>
            simp only [qt, noEx_ok, R.bind_ok] at h1'
            refine fun as2 H3 hs3 e3 => ?_
            have e23 := e2.trans e3
            have kD : H3 D = H1 D := e23.kept D hDm
            cases b with
            | false =>
              have h1' : PostA g W σ cs0 as0 H0 Q ((lcIt tg mt me (wipeE fr.reverse env) (xs.drop (i + 1)) cs2).bind fun ys cs2 => R.ok (A.d (.list (acc ++ ys))) cs2) := h1'
              exact ⟨cs2, as2, acc, vs, e23.hid.trans eh, s1.exn hs3 e23, e1.trans (exn_upd hDm e23), kD.trans hv, DqAll.le e23.dat rv, Nat.le_succ_of_le hl, h1'⟩
            | true =>
              have h1' : PostA g W σ cs0 as0 H0 Q (((noEx (me env1 cs2)).bind fun a cs2 => match asD a with
                | none => R.no
                | some y => (lcIt tg mt me (wipeE fr.reverse env) (xs.drop (i + 1)) cs2).bind fun ys cs3 => R.ok (y :: ys) cs3).bind fun ys cs2 => R.ok (A.d (.list (acc ++ ys))) cs2) := h1'
              refine ⟨env1, cs2, as2, s'.exn hs3 e3, ?_⟩
              cases qe : me env1 cs2 with
              | no => simp only [qe] at h1'; exact h1'.elim
              | ex z cs3 => simp only [qe] at h1'; exact h1'.elim
              | ok a cs3 =>
                simp only [qe, noEx_ok, R.bind_ok] at h1'
                cases qa : asD a with
                | none => simp only [qa] at h1'; exact h1'.elim
                | some y =>
                  simp only [qa] at h1'
                  refine fun as3 H4 hs4 e4 v rv4 => ?_
                  have e234 := e23.trans e4
                  have kD4 : H4 D = H1 D := e234.kept D hDm
                  have hDm4 : D ∈ as3.hid := by rw [e234.hid]; exact hDm
                  obtain ⟨hw, dw⟩ := hs4.hidSet (o := .lst (vs ++ [v])) hDm4
                  have ry : Dq g.K (dat cs3 as3 H4) v y := by
                    cases a with
                    | d z => obtain rfl := Option.some.inj qa; exact rv4
                    | c n => cases qa
                    | s n => cases qa
                    | x _ => cases qa
                  refine ⟨vs, kD4.trans hv, by rw [DqAll.length rv]; omega, cs3, as3, acc ++ [y], vs ++ [v], e234.hid.trans eh, ?_, ?_, upd_same, DqAll.le dw (DqAll.append (DqAll.le e234.dat rv) (.cons ry .nil)), by rw [List.length_append]; exact Nat.succ_le_succ hl, ?_⟩
                  · have k := s1.exn hs4 e234
                    refine ⟨hw, k.len, fun j x q => ?_⟩
                    obtain ⟨w, q1, q2⟩ := k.slots j x q
                    refine ⟨w, q1, ?_⟩
                    cases x with
                    | d y => exact Dq.le dw q2
                    | c n => exact q2
                    | s ns => obtain ⟨a, f1, f2⟩ := q2; exact ⟨a, f1, Le.sqL dw f2⟩
                    | x _ => obtain ⟨a, d, e1, e2, e3⟩ := q2; exact ⟨a, d, e1, e2, RepX.le dw e3⟩
                  · rw [upd_upd]
                    exact e1.trans (exn_upd hDm e234)
                  · have assoc : ((lcIt tg mt me (wipeE fr.reverse env) (xs.drop (i + 1)) cs3).bind fun ys cs3 => R.ok (y :: ys) cs3).bind (fun ys cs2 => R.ok (A.d (.list (acc ++ ys))) cs2) = (lcIt tg mt me (wipeE fr.reverse env) (xs.drop (i + 1)) cs3).bind fun ys cs2 => R.ok (A.d (.list ((acc ++ [y]) ++ ys))) cs2 := by
                      cases lcIt tg mt me (wipeE fr.reverse env) (xs.drop (i + 1)) cs3 with
                      | ok ys cs4 => simp only [R.bind_ok, List.append_assoc, List.singleton_append]
                      | ex _ _ => rfl
                      | no => rfl
                    rw [assoc] at h1'
                    exact h1'
end
end Sh
namespace Sh
open PySem L2 PySem.Spec PyProof.Rows
/-! ### list comprehensions, the rules -/
section
variable {X : Cx} {g : G} {W : WX} {mi : MI} {tg : Tgt} {mt : MT} {me : ME}
theorem sts_nil : PTs X [] (denT g W tYesM) := ⟨fun pins s σ H Q I ⟨env, cs, as, sa, h⟩ => pts_nil.run pins s σ H Q I (h as H sa.hs Exn.refl)⟩
theorem sts_one {c : Expr} (h : PT X c (denT g W mt)) : PTs X [c] (denT g W mt) := pts_one h
theorem se_lc {elt tge iter : Expr} {ifs : List Expr} {scope : Scope} {own : List (Str × Nat)} {pos : Pos} (hc : X.calm = true) (hN : X.N.Nodup) (hi : PI X tge iter (denI g W mi)) (ok : BlkOk X.N X.env.scope scope own)
    (hg : ∀ (s : Shared) (H : Hp) (C : Addr) (cl : List (Str × Addr)) (fp : List Addr), PG (X.blk s H scope (compEnvC scope cl C X.env) fp) tge (denF g (own.map (·.2)) tg)) (ht : ∀ (s : Shared) (H : Hp) (C : Addr) (cl : List (Str × Addr)) (fp : List Addr), PTs (X.blk s H scope (compEnvC scope cl C X.env) fp) ifs (denT g WF mt))
    (he : ∀ (s : Shared) (H : Hp) (C : Addr) (cl : List (Str × Addr)) (fp : List Addr), PE (X.blk s H scope (compEnvC scope cl C X.env) fp) elt (den g WF me)) (hs : ∀ x, foldedSetIterable iter X.env x = pure x := by intro _; rfl) :
    PE X (.ListComp elt [⟨tge, iter, ifs, 0⟩] scope pos) (den g W (eLc (own.map (·.2)) mi tg mt me)) :=
  pe_imp (pe_lc hc hN hi ok hg ht he hs) fun _ _ _ => den_lc
theorem ss_setLc {i : Nat} {y : Str} {py : Pos} {elt tge iter : Expr} {ifs : List Expr} {scope : Scope} {own : List (Str × Nat)} {pos spos : Pos} (hc : X.calm = true) (hN : X.N.Nodup) (hy : X.N[i]? = some y) (hyl : X.env.scope.names.lookup y = some .local)
    (hsw : swapsWith (.ListComp elt [⟨tge, iter, ifs, 0⟩] scope pos) (some (.Name y py)) spos.line X.env = pure true) (hi : PI X tge iter (denI g W mi)) (ok : BlkOk X.N X.env.scope scope own)
    (hg : ∀ (s : Shared) (H : Hp) (C : Addr) (cl : List (Str × Addr)) (fp : List Addr), PG (X.blk s H scope (compEnvC scope cl C X.env) fp) tge (denF g (own.map (·.2)) tg)) (ht : ∀ (s : Shared) (H : Hp) (C : Addr) (cl : List (Str × Addr)) (fp : List Addr), PTs (X.blk s H scope (compEnvC scope cl C X.env) fp) ifs (denT g WF mt))
    (he : ∀ (s : Shared) (H : Hp) (C : Addr) (cl : List (Str × Addr)) (fp : List Addr), PE (X.blk s H scope (compEnvC scope cl C X.env) fp) elt (den g WF me)) (hs : ∀ x, foldedSetIterable iter X.env x = pure x := by intro _; rfl) :
    PS X (.Assign [.Name y py] (.ListComp elt [⟨tge, iter, ifs, 0⟩] scope pos) spos) (denS g W (sAsg (eLc (own.map (·.2)) mi tg mt me) (tgName i))) :=
  ps_imp (ps_setLc hc hN hy hyl hsw hi ok hg ht he hs) fun D σ H ⟨env, cs, as, s, h⟩ =>
    den_lc ⟨env, cs, as, s, (post_toS s h).mono fun a cs1 as1 H1 hs1 e1 h1 v rv => h1 _ as1 H1 ((s.exn hs1 e1).set rv) Exn.refl⟩
end

/-! ### a def's body -/
/-- what a def hands back: the cells that it made are let go, but one that is handed back -/
def fin (cs cs' : CS) : A → R A
  | .d x => .ok (.d x) (cs'.take cs.length)
  | .s ns => .ok (.s ns) (cs'.take cs.length)
  | .x _ => .no
  | .c n => if n < cs.length then .ok (.c n) (cs'.take cs.length) else match cs'[n]? with
    | some (.lst xs) => .ok (.c cs.length) (cs'.take cs.length ++ [.lst xs])
    | some (.dk kvs) => .ok (.c cs.length) (cs'.take cs.length ++ [.dk kvs])
    | some (.dt kvs) => .ok (.c cs.length) (cs'.take cs.length ++ [.dt kvs])
    | _ => .no
def runBody (N : Nat) (m : MS) : Fn := fun xs cs => match m (xs.map some ++ List.replicate (N - xs.length) none) cs with
  | .rt a cs' => if cs.length ≤ cs'.length then fin cs cs' a else .no
  | .nx _ cs' => if cs.length ≤ cs'.length then fin cs cs' (.d .none) else .no
  | .ex e _ cs' => if cs.length ≤ cs'.length then .ex e (cs'.take cs.length) else .no
  | _ => .no
section
variable {g : G} {cs cs' : CS} {as as' : AS} {H H' : Hp}
theorem exn_take (s : Hs g cs as H) (e : Exn cs as H cs' as' H') (l : Le (dat cs' as' H') (dat (cs'.take cs.length) ⟨as'.l.take cs.length, as'.hid⟩ H')) : Exn cs as H (cs'.take cs.length) ⟨as'.l.take cs.length, as'.hid⟩ H' :=
  ⟨fun n a q => by
    have hn := (List.getElem?_eq_some_iff.mp q).1
    rw [s.len] at hn
    exact take_of hn (e.pre n a q), fun a o q => l a o (e.dat a o q), e.hid, e.kept⟩
/-- a cell kept at the end -/
theorem Hs.keep (s : Hs g cs' as' H') {k n : Nat} {c : Cell} {p : Addr} (hk : k ≤ cs'.length) (hn : k ≤ n) (hc : cs'[n]? = some c) (h0 : c ≠ .dead) (ha : as'.l[n]? = some p) :
    Hs g (cs'.take k ++ [c]) ⟨as'.l.take k ++ [p], as'.hid⟩ H' ∧ Le (dat cs' as' H') (dat (cs'.take k ++ [c]) ⟨as'.l.take k ++ [p], as'.hid⟩ H') := by
  have lk : (cs'.take k).length = k := by rw [List.length_take]; omega
  have la : (as'.l.take k).length = k := by rw [List.length_take, s.len]; omega
  have key : ∀ {i : Nat} {c1 : Cell} {a : Addr}, (cs'.take k ++ [c])[i]? = some c1 → (as'.l.take k ++ [p])[i]? = some a → (i < k ∧ cs'[i]? = some c1 ∧ as'.l[i]? = some a) ∨ (i = k ∧ c1 = c ∧ a = p) := fun {i c1 a} e1 a1 => by
    rcases getElem?_snoc e1 with ⟨hi, e1⟩ | ⟨hi, e1⟩
    · rcases getElem?_snoc a1 with ⟨_, a1⟩ | ⟨hj, a1⟩
      · exact .inl ⟨by omega, (take_get e1).2, (take_get a1).2⟩
      · omega
    · rcases getElem?_snoc a1 with ⟨hj, a1⟩ | ⟨hj, a1⟩
      · omega
      · exact .inr ⟨by omega, e1, a1⟩
  have dd : Le (dat cs' as' H') (dat (cs'.take k ++ [c]) ⟨as'.l.take k ++ [p], as'.hid⟩ H') := fun a o z => by
    obtain ⟨z1, z2⟩ := dat_some.mp z
    refine dat_some.mpr ⟨fun l' => z1 (l'.imp (fun ⟨i, c1, e1, n1, e2⟩ => ?_) id), z2⟩
    rcases key e1 e2 with ⟨_, f1, f2⟩ | ⟨_, f1, f2⟩
    · exact ⟨i, c1, f1, n1, f2⟩
    · exact ⟨n, c, hc, h0, by rw [f2]; exact ha⟩
  refine ⟨⟨by show (as'.l.take k ++ [p]).length = _; rw [List.length_append, List.length_append, lk, la] <;> rfl, fun i j a c1 c2 e1 n1 e2 n2 a1 a2 => ?_, fun i c1 a e1 e2 => ?_, fun i c1 a e1 n1 a1 => ?_, s.there⟩, dd⟩
  · rcases key e1 a1 with ⟨h1, f1, b1⟩ | ⟨h1, f1, b1⟩
    · rcases key e2 a2 with ⟨h2, f2, b2⟩ | ⟨h2, f2, b2⟩
      · exact s.inj i j a c1 c2 f1 n1 f2 n2 b1 b2
      · have := s.inj i n a c1 c f1 n1 hc h0 b1 (by rw [b2]; exact ha)
        omega
    · rcases key e2 a2 with ⟨h2, f2, b2⟩ | ⟨h2, f2, b2⟩
      · have := s.inj j n a c2 c f2 n2 hc h0 b2 (by rw [b1]; exact ha)
        omega
      · omega
  · rcases key e1 e2 with ⟨h1, f1, b1⟩ | ⟨h1, f1, b1⟩
    · exact (s.cells i c1 a f1 b1).le dd
    · rw [f1, b1]; exact (s.cells n c p hc ha).le dd
  · rcases key e1 a1 with ⟨h1, f1, b1⟩ | ⟨h1, f1, b1⟩
    · exact s.apart i c1 a f1 n1 b1
    · rw [b1]; exact s.apart n c p hc h0 ha
theorem rep_len {v : V} {a : A} {n : Nat} (r : RepA g cs as H v (.c n)) (s : Hs g cs as H) : n < cs.length := by
  obtain ⟨p, e, _⟩ := r
  rw [← s.len]
  exact (List.getElem?_eq_some_iff.mp e).1
theorem post_fin {W : WX} {σ : L2.St} {Q : VK} {a : A} {v : V} (s : Hs g cs as H) (hl : cs.length ≤ cs'.length) (h : PostA g W σ cs as H Q (fin cs cs' a)) (s' : Hs g cs' as' H') (e : Exn cs as H cs' as' H') (r : RepA g cs' as' H' v a) : Q v H' := by
  obtain ⟨st, lt⟩ := s'.take cs.length
  have et := exn_take s e lt
  cases a with
  | d x => exact h ⟨as'.l.take cs.length, as'.hid⟩ H' st et v (Dq.le lt r)
  | s ns =>
    obtain ⟨p, e1, e2⟩ := r
    exact h ⟨as'.l.take cs.length, as'.hid⟩ H' st et v ⟨p, e1, Le.sqL lt e2⟩
  | x _ => exact h.elim
  | c n =>
    obtain ⟨p, e1, rfl⟩ := r
    unfold fin at h
    simp only at h
    split at h
    · rename_i hn
      exact h ⟨as'.l.take cs.length, as'.hid⟩ H' st et _ ⟨p, take_of hn e1, rfl⟩
    · rename_i hn
      have go : ∀ c : Cell, cs'[n]? = some c → c ≠ .dead → PostA g W σ cs as H Q (.ok (.c cs.length) (cs'.take cs.length ++ [c])) → Q (.ref p) H' := fun c hc h0 hp => by
        obtain ⟨sk, lk⟩ := s'.keep hl (Nat.le_of_not_lt hn) hc h0 e1
        have lt' : (as'.l.take cs.length).length = cs.length := by rw [List.length_take, s'.len]; omega
        refine hp ⟨as'.l.take cs.length ++ [p], as'.hid⟩ H' sk ⟨fun i b q => getElem?_left (et.pre i b q), fun b o q => lk b o (e.dat b o q), e.hid, e.kept⟩ _ ⟨p, ?_, rfl⟩
        show (as'.l.take cs.length ++ [p])[cs.length]? = some p
        rw [List.getElem?_append_right (by omega), lt', Nat.sub_self] <;> rfl
      split at h
      · rename_i xs q; exact go _ q (fun z => nomatch z) h
      · rename_i xs q; exact go _ q (fun z => nomatch z) h
      · rename_i xs q; exact go _ q (fun z => nomatch z) h
      · exact h.elim
theorem sat_start {xs : List A} {vs : List V} {N : List Str} (s : Hs g cs as H) (r : RepAs g cs as H vs xs) : Sat g cs as H (xs.map some ++ List.replicate (N.length - xs.length) none) (L2.start N vs) := by
  unfold L2.start
  refine ⟨s, by rw [List.length_append, List.length_append, List.length_map, List.length_map, List.length_replicate, List.length_replicate, r.length], fun i x e => ?_⟩
  by_cases hi : i < xs.length
  · rw [List.getElem?_append_left (by rw [List.length_map]; exact hi), List.getElem?_map] at e
    cases q : xs[i]? with
    | none => rw [q] at e; cases e
    | some y =>
      rw [q] at e
      have e' := Option.some.inj (Option.some.inj e)
      subst e'
      obtain ⟨v, e1, rv⟩ := Paired.get r q
      refine ⟨v, ?_, rv⟩
      rw [List.getElem?_append_left (by rw [List.length_map, r.length]; exact hi), List.getElem?_map, e1] <;> rfl
  · rw [List.getElem?_append_right (by rw [List.length_map]; omega), List.getElem?_replicate] at e
    split at e <;> cases e
end
/-- THE RULE for a def -/
theorem fn_ok {P : Program} {w : World} {g : G} {mg : Str → Option Value} {base : Heap} {x qual : Str} {st : Stmt} {f : Addr} {fd : FuncData} {N ps : List Str} {k n : Nat} {m : MS} (F : Fun g.K x qual st f fd) (S : FnScope N ps (defScope st)) (hn : ps.length = n)
    (hbody : ∀ (cdv : Value) (A : Around) (outer : List PySem.Env) (s : Shared) (H : Hp) (E : XK), Room k (A.deeper (envOfC qual (defScope st) s.heap.objs.size f cdv)) →
      Takes (cxOf (L2.CX P w) P w g.K mg base N qual (defScope st) f cdv A outer s H E) (EX E) → PassesOwn (model P w) (A.deeper (envOfC qual (defScope st) s.heap.objs.size f cdv)) (envOfC qual (defScope st) s.heap.objs.size f cdv) (cxOf (L2.CX P w) P w g.K mg base N qual (defScope st) f cdv A outer s H E).xe →
      PSs (cxOf (L2.CX P w) P w g.K mg base N qual (defScope st) f cdv A outer s H E) (defBody st) (denS g (EX E) m)) : FnOk P w g.K mg base (L2.CX P w) (k + 1) f fd ps (spOf g n (runBody N.length m)) := by
  subst hn
  refine F.okX S (fun vs H Q E h => h.1) fun cdv A outer s H vs Q E hr hsp => ⟨_, hbody cdv A outer s H E hr (takes_of rfl rfl rfl rfl) (passes_of (X := cxOf (L2.CX P w) P w g.K mg base N qual (defScope st) f cdv A outer s H E) rfl), ?_⟩
  obtain ⟨_, cs, as, xs, hs, rv, hp⟩ := hsp
  refine ⟨_, cs, as, sat_start hs rv, ?_⟩
  unfold runBody at hp
  cases q : m (xs.map some ++ List.replicate (N.length - xs.length) none) cs with
  | rt a cs' =>
    simp only [q] at hp
    split at hp
    · rename_i hl
      exact fun v as' H' hs' e' r => post_fin (σ := []) hs hl hp hs' e' r
    · exact hp.elim
  | nx env' cs' =>
    simp only [q] at hp
    split at hp
    · rename_i hl
      exact fun σ' as' H' s' e' => post_fin (σ := []) (a := .d .none) hs hl hp s'.hs e' Dq.non
    · exact hp.elim
  | ex e env' cs' =>
    simp only [q] at hp
    split at hp
    · rename_i hl
      refine fun d σ' as' H' s' e' rx => ?_
      obtain ⟨stk, lt⟩ := s'.hs.take cs.length
      refine hp d ⟨as'.l.take cs.length, as'.hid⟩ H' stk (exn_take hs e' lt) ?_
      rcases rx with ⟨h1, h2⟩ | ⟨dd, vs, h1, h2, h3, h4⟩
      · exact .inl ⟨h1, h2⟩
      · refine .inr ⟨dd, vs, h1, h2, fun l => h3 (l.imp (fun ⟨i, c, e1, n1, e2⟩ => ⟨i, c, (take_get e1).2, n1, (take_get e2).2⟩) id), Paired.mono (fun _ _ z => ⟨z.1, Dq.le lt z.2⟩) h4⟩
    · exact hp.elim
  | bk _ _ => simp only [q] at hp; exact hp.elim
  | ct _ _ => simp only [q] at hp; exact hp.elim
  | no => simp only [q] at hp; exact hp.elim
/-- nothing can be asked with no call left -/
theorem fn_no {P : Program} {w : World} {g : G} {mg : Str → Option Value} {base : Heap} {CX : CXT} {k n : Nat} {f : Addr} {fd : FuncData} {ps : List Str} (hn : ps.length = n) : FnOk P w g.K mg base CX k f fd ps (spOf g n fun _ _ => .no) := by
  have no : ∀ vs H Q E, ¬ spOf g n (fun _ _ => .no) vs H Q E := fun vs H Q E ⟨_, cs, as, xs, _, _, h⟩ => h
  exact ⟨fun vs H Q E h => (no vs H Q E h).elim, fun A outer s H args us vs Q E _ _ _ _ h => (no vs H Q E h).elim⟩
end Sh
namespace Sh
open PySem L2
/-! ### methods of built-in types -/
def tyA (cs : CS) (a : A) (T : String) : Bool := match a with
  | .d (.str _) => T == "str"
  | .d (.int _) => T == "int"
  | .d (.list _) => T == "list"
  | .d (.tuple _) => T == "tuple"
  | .s _ => T == "list"
  | .c n => match cs[n]? with
    | some (.lst _) => T == "list"
    | some (.dk _) => T == "dict"
    | some (.dt _) => T == "dict"
    | _ => false
  | _ => false
theorem tyA_rep {g : G} {cs : CS} {as : AS} {H : Hp} (s : Hs g cs as H) {v : V} {a : A} {T : String} (r : RepA g cs as H v a) (h : tyA cs a T = true) : tyN g.K T v H := by
  cases a with
  | d x =>
    cases x with
    | str z => cases rep_str r; exact .inl (beq_iff_eq.mp h)
    | int z => cases rep_int r; exact .inl (beq_iff_eq.mp h)
    | list ds =>
      obtain ⟨p, vs, rfl, h1, _⟩ := rep_lst r
      exact .inl (.inl ⟨beq_iff_eq.mp h, _, SqL.of h1⟩)
    | none => cases h
    | bool _ => cases h
    | tuple _ =>
      obtain ⟨p, vs, rfl, h1, _⟩ := rep_tupN r
      exact .inr ⟨beq_iff_eq.mp h, p, vs, rfl, h1⟩
    | dict _ => cases h
  | s ns =>
    obtain ⟨p, rfl, h1⟩ := r
    exact .inl (.inl ⟨beq_iff_eq.mp h, _, Le.sqL dat_le h1⟩)
  | x _ => cases h
  | c n =>
    obtain ⟨p, e1, rfl⟩ := r
    cases e2 : cs[n]? with
    | none => simp only [tyA, e2] at h; cases h
    | some c =>
      cases c with
      | dead => simp only [tyA, e2] at h; cases h
      | lst xs =>
        simp only [tyA, e2] at h
        obtain ⟨vs, e3, _⟩ := s.lst e2 e1
        exact .inl (.inl ⟨beq_iff_eq.mp h, _, SqL.of e3⟩)
      | dk xs =>
        simp only [tyA, e2] at h
        obtain ⟨vs, e3, _⟩ := s.cells n _ p e2 e1
        exact .inl (.inr (.inr (.inl ⟨beq_iff_eq.mp h, .inl ⟨vs, e3⟩⟩)))
      | dt xs =>
        simp only [tyA, e2] at h
        obtain ⟨vs, e3, _⟩ := s.cells n _ p e2 e1
        exact .inl (.inr (.inr (.inl ⟨beq_iff_eq.mp h, .inr ⟨vs, e3⟩⟩)))
def MtS (g : G) (r : V → List V → Hp → VK → Prop) (f : A → List A → CS → R A) : Prop := ∀ {W : WX} {σ : L2.St} {cs : CS} {as : AS} {H : Hp} {x : V} {vs : List V} {a : A} {xs : List A} {Q : VK}, Hs g cs as H → RepA g cs as H x a → RepAs g cs as H vs xs → PostA g W σ cs as H Q (f a xs cs) → r x vs H Q
def eMeth (T : String) (f : A → List A → CS → R A) (mo : ME) (ma : MA) : ME := fun env cs => (mo env cs).bind fun o cs1 => if tyA cs1 o T = true then (ma env cs1).bind fun xs cs2 => f o xs cs2 else .no
section
variable {X : Cx} {g : G} {W : WX} {mo : ME} {ma : MA} {o e : Expr} {es : List Expr} {name : Str} {apos cpos : Pos} {T id : String} {r : V → List V → Hp → VK → Prop} {f : A → List A → CS → R A}
theorem se_meth (hK : X.K = g.K) (pa : PlainAttrs T) (slot : Slot T name id) (hty : typeOf (.builtin id) = pure (.type "method_descriptor")) (hm : MtR X id r) (hs : MtS g r f) (ho : PE X o (den g W mo)) (ha : PA X (e :: es) (denA g W ma))
    (hbase : attributeBase o name X.env (eval o X.env) = eval o X.env := by rfl)
    (hfew : ((backTo cpos (starEach (e :: es) X.env)).all (fun x => !x.1) && (backToKw cpos (keywordEach [] X.env)).all (fun x => x.1.isSome)
      && decide ((e :: es).length + ([] : List Keyword).length + (if ([] : List Keyword).isEmpty then 0 else 1) < 30)) = true := by rfl)
    (hline : (apos.endLine == cpos.line) = true := by rfl) (hst : starEach (e :: es) X.env = (false, eval e X.env) :: starEach es X.env := by rfl) (hplain : (backTo cpos (starEach es X.env)).any (·.1) = false := by rfl) :
    PE X (.Call (.Attribute o name apos) (e :: es) [] cpos) (den g W (eMeth T f mo ma)) :=
  pe_imp (pe_bmN pa slot hty hm ho ha hbase hfew hline hst hplain) fun σ H Q ⟨env, cs, as, s, h⟩ => ⟨env, cs, as, s, (Post.bind h).mono fun x cs1 as1 H1 hs1 e1 h1 v rv => by
    split at h1
    · rename_i ht
      exact ⟨by rw [hK]; exact tyA_rep hs1 rv ht, env, cs1, as1, s.exn hs1 e1, (Post.bind h1).mono fun xs cs2 as2 H2 hs2 e2 h2 vs rvs => hs hs2 (rv.exn e2) rvs h2⟩
    · exact h1.elim⟩
theorem se_meth0 (hK : X.K = g.K) (pa : PlainAttrs T) (slot : Slot T name id) (hty : typeOf (.builtin id) = pure (.type "method_descriptor")) (hm : MtR X id r) (hs : MtS g r f) (ho : PE X o (den g W mo))
    (hbase : attributeBase o name X.env (eval o X.env) = eval o X.env := by rfl) (hline : (apos.endLine == cpos.line) = true := by rfl) : PE X (.Call (.Attribute o name apos) [] [] cpos) (den g W (eMeth T f mo aNil)) :=
  pe_imp (pe_bmN0 pa slot hty hm ho hbase hline) fun σ H Q ⟨env, cs, as, s, h⟩ => ⟨env, cs, as, s, (Post.bind h).mono fun x cs1 as1 H1 hs1 e1 h1 v rv => by
    split at h1
    · rename_i ht
      exact ⟨by rw [hK]; exact tyA_rep hs1 rv ht, hs hs1 rv .nil h1⟩
    · exact h1.elim⟩
end
/-- changing a cell's list -/
def onC (cs : CS) (a : A) (k : Nat → List PyData → R A) : R A := match a with
  | .c n => match cs[n]? with
    | some (.lst xs) => k n xs
    | _ => .no
  | _ => .no
theorem onC_c {cs : CS} {n : Nat} {xs : List PyData} {k : Nat → List PyData → R A} (h : cs[n]? = some (.lst xs)) : onC cs (.c n) k = k n xs := by simp only [onC, h]
theorem onC_rep {g : G} {cs : CS} {as : AS} {H : Hp} {W : WX} {σ : L2.St} {Q : VK} {x : V} {a : A} {k : Nat → List PyData → R A} (s : Hs g cs as H) (r : RepA g cs as H x a) (h : PostA g W σ cs as H Q (onC cs a k)) :
    ∃ n p xs vs, x = .ref p ∧ cs[n]? = some (.lst xs) ∧ as.l[n]? = some p ∧ H p = some (.lst vs) ∧ DqAll g.K (dat cs as H) vs xs ∧ PostA g W σ cs as H Q (k n xs) := by
  cases a with
  | c n =>
    obtain ⟨p, e1, rfl⟩ := r
    cases e2 : cs[n]? with
    | none => simp only [onC, e2] at h; exact h.elim
    | some c =>
      cases c with
      | lst xs =>
        simp only [onC, e2] at h
        obtain ⟨vs, e3, rr⟩ := s.lst e2 e1
        exact ⟨n, p, xs, vs, rfl, e2, e1, e3, rr, h⟩
      | dead => simp only [onC, e2] at h; exact h.elim
      | dk _ => simp only [onC, e2] at h; exact h.elim
      | dt _ => simp only [onC, e2] at h; exact h.elim
  | d _ => exact h.elim
  | s _ => exact h.elim
  | x _ => exact h.elim
def mAppend (a : A) (xs : List A) (cs : CS) : R A := match xs with
  | [.d y] => onC cs a fun n ys => if ys.length < sizeLine then .ok (.d .none) (cs.set n (.lst (ys ++ [y]))) else .no
  | _ => .no
theorem ms_append {g : G} : MtS g rAppend mAppend := by
  intro W σ cs as H x vs a xs Q s ra rv h
  unfold mAppend at h
  split at h
  · rename_i y
    obtain ⟨v, rfl, r⟩ := reps1 rv
    obtain ⟨n, p, ys, ws, rfl, hc, ha, hp, rr, h1⟩ := onC_rep s ra h
    split at h1
    · rename_i hl
      exact ⟨p, ws, v, rfl, rfl, hp, by rw [DqAll.length rr]; exact hl, PostA.put h1 s hc ha (DqAll.append rr (.cons r .nil)) Dq.non⟩
    · exact h1.elim
  · exact h.elim
def mExtend (a : A) (xs : List A) (cs : CS) : R A := match xs with
  | [b] => match toL cs b with
    | some zs => onC cs a fun n ys => if ys.length + zs.length ≤ sizeLine then .ok (.d .none) (cs.set n (.lst (ys ++ zs))) else .no
    | none => .no
  | _ => .no
theorem ms_extend {g : G} : MtS g rExtend mExtend := by
  intro W σ cs as H x vs a xs Q s ra rv h
  unfold mExtend at h
  split at h
  · rename_i b
    obtain ⟨v, rfl, r⟩ := reps1 rv
    cases q : toL cs b with
    | none => simp only [q] at h; exact h.elim
    | some zs =>
      simp only [q] at h
      obtain ⟨p2, us, rfl, hp2, r2⟩ := toL_rep s r q
      obtain ⟨n, p, ys, ws, rfl, hc, ha, hp, rr, h1⟩ := onC_rep s ra h
      split at h1
      · rename_i hl
        exact ⟨p, p2, ws, us, rfl, rfl, hp, hp2, by rw [DqAll.length rr, DqAll.length r2]; exact hl, PostA.put h1 s hc ha (DqAll.append rr r2) Dq.non⟩
      · exact h1.elim
  · exact h.elim
def mPop (a : A) (xs : List A) (cs : CS) : R A := match xs with
  | [] => onC cs a fun n ys => match ys[ys.length - 1]? with
    | some y => .ok (.d y) (cs.set n (.lst ys.dropLast))
    | none => .no
  | [.d (.int i)] => onC cs a fun n ys => if inR i = true then match seqIndex? i ys.length with
      | some k => match ys[k]? with
        | some y => .ok (.d y) (cs.set n (.lst (ys.eraseIdx k)))
        | none => .no
      | none => .no else .no
  | _ => .no
theorem DqAll.dropLast {K : PySem.W.Frag} {H : Hp} {vs : List V} {ds : List PyData} (h : DqAll K H vs ds) : DqAll K H vs.dropLast ds.dropLast := by
  rw [List.dropLast_eq_take, List.dropLast_eq_take, DqAll.length h]
  exact DqAll.take _ h
theorem DqAll.eraseIdx {K : PySem.W.Frag} {H : Hp} : ∀ {vs : List V} {ds : List PyData} (i : Nat), DqAll K H vs ds → DqAll K H (vs.eraseIdx i) (ds.eraseIdx i)
  | _, _, _, .nil => .nil
  | _, _, 0, .cons _ b => b
  | _, _, i + 1, .cons a b => .cons a (DqAll.eraseIdx i b)
def rPopA : V → List V → Hp → VK → Prop := fun x vs H Q => rPop x vs H Q ∨ rPopAt x vs H Q
theorem mt_popA {X : Cx} : MtR X "list.pop" rPopA := MtR.or mt_pop mt_popAt
theorem ms_pop {g : G} : MtS g rPopA mPop := by
  intro W σ cs as H x vs a xs Q s ra rv h
  unfold mPop at h
  split at h
  · cases rv
    obtain ⟨n, p, ys, ws, rfl, hc, ha, hp, rr, h1⟩ := onC_rep s ra h
    cases q : ys[ys.length - 1]? with
    | none => simp only [q] at h1; exact h1.elim
    | some y =>
      simp only [q] at h1
      obtain ⟨v, e, r⟩ := DqAll.get rr q
      exact .inl ⟨p, ws, v, rfl, rfl, hp, by rw [DqAll.length rr]; exact e, PostA.put h1 s hc ha (DqAll.dropLast rr) r⟩
  · rename_i i
    obtain ⟨v, rfl, r⟩ := reps1 rv
    cases rep_int r
    obtain ⟨n, p, ys, ws, rfl, hc, ha, hp, rr, h1⟩ := onC_rep s ra h
    split at h1
    · rename_i hi
      obtain ⟨b1, b2⟩ := inR_c hi
      cases q : seqIndex? i ys.length with
      | none => simp only [q] at h1; exact h1.elim
      | some k =>
        simp only [q] at h1
        cases q2 : ys[k]? with
        | none => simp only [q2] at h1; exact h1.elim
        | some y =>
          simp only [q2] at h1
          obtain ⟨v, e, r⟩ := DqAll.get rr q2
          exact .inr ⟨p, ws, i, k, v, rfl, rfl, hp, by omega, by omega, by rw [DqAll.length rr]; exact q, e, PostA.put h1 s hc ha (DqAll.eraseIdx k rr) r⟩
    · exact h1.elim
  · exact h.elim
def mInsert (a : A) (xs : List A) (cs : CS) : R A := match xs with
  | [.d (.int i), .d y] => onC cs a fun n ys => if ys.length < sizeLine ∧ 0 ≤ i ∧ i < 9223372036854775808 then .ok (.d .none) (cs.set n (.lst (ys.take i.toNat ++ [y] ++ ys.drop i.toNat))) else .no
  | _ => .no
theorem ms_insert {g : G} : MtS g (fun x vs H Q => ∃ (l : Addr) (xs : List V) (i : Int) (y : V), x = .ref l ∧ vs = [.int i, y] ∧ H l = some (.lst xs) ∧ xs.length < sizeLine ∧ 0 ≤ i ∧ i < 2 ^ 63 ∧ Q .non (upd H l (.lst (xs.take i.toNat ++ [y] ++ xs.drop i.toNat)))) mInsert := by
  intro W σ cs as H x vs a xs Q s ra rv h
  unfold mInsert at h
  split at h
  · rename_i i y
    obtain ⟨v, w, rfl, r1, r2⟩ := reps2 rv
    cases rep_int r1
    obtain ⟨n, p, ys, ws, rfl, hc, ha, hp, rr, h1⟩ := onC_rep s ra h
    split at h1
    · rename_i hl
      exact ⟨p, ws, i, w, rfl, rfl, hp, by rw [DqAll.length rr]; exact hl.1, hl.2.1, Int.lt_of_lt_of_le hl.2.2 (by decide), PostA.put h1 s hc ha (DqAll.append (DqAll.append (DqAll.take _ rr) (.cons r2 .nil)) (DqAll.drop _ rr)) Dq.non⟩
    · exact h1.elim
  · exact h.elim
/-- xs[i] = v on a cell's list -/
def sSetIx (mo mi mv : ME) : MS := fun env cs => (mv env cs).toS env fun v cs1 => (mo env cs1).toS env fun o cs2 => (mi env cs2).toS env fun i cs3 => match o, i, v with
  | .c n, .d (.int k), .d y => match cs3[n]? with
    | some (.lst xs) => match ixN xs.length k with
      | some j => .nx env (cs3.set n (.lst (xs.set j y)))
      | none => .no
    | _ => .no
  | _, _, _ => .no
section
variable {X : Cx} {g : G} {W : WX} {mo mi mv : ME} {o i e value : Expr} {pos pos' : Pos}
theorem ss_setIx (ho : PE X o (den g W mo)) (hi : PE X i (den g W mi)) (hv : PE X value (den g W mv)) (ha : ∀ v, assign (.Subscript o i pos') X.env v = (do
      let ov ← holding [v] (eval o X.env)
      let iv ← holding [v, ov] (eval i X.env)
      standAt pos'
      holding [v, ov, iv] (setItem ov iv v)
      release [v, ov, iv] []) := by intro _; rfl) (hs : swapsWithSole [.Subscript o i pos'] value pos.line X.env = pure false := by rfl) (hw : swappedStores [.Subscript o i pos'] value X.env = pure none := by rfl)
    (h1 : (assignEach [.Subscript o i pos'] X.env).map (·.2) = [assign (.Subscript o i pos') X.env] := by rfl) : PS X (.Assign [.Subscript o i pos'] value pos) (denS g W (sSetIx mo mi mv)) :=
  ps_imp (ps_asg hv (pg_sub ho hi set_list ha) hs hw h1) fun D σ H ⟨env, cs, as, s, h⟩ => ⟨env, cs, as, s, (post_toS s h).mono fun v cs1 as1 H1 hs1 e1 h1 vv rv => ⟨env, cs1, as1, s.exn hs1 e1, (post_toS (s.exn hs1 e1) h1).mono fun o cs2 as2 H2 hs2 e2 h2 vo ro =>
    ⟨env, cs2, as2, s.exn hs2 (e1.trans e2), (post_toS (s.exn hs2 (e1.trans e2)) h2).mono fun i cs3 as3 H3 hs3 e3 h3 vi ri => by
      split at h3
      · rename_i n k y
        cases rep_int ri
        obtain ⟨p, a1, rfl⟩ := ro.exn e3
        cases q : cs3[n]? with
        | none => simp only [q] at h3; exact h3.elim
        | some c =>
          cases c with
          | dead => simp only [q] at h3; exact h3.elim
          | dk _ => simp only [q] at h3; exact h3.elim
          | dt _ => simp only [q] at h3; exact h3.elim
          | lst xs =>
            simp only [q] at h3
            obtain ⟨vs, ev, rr⟩ := hs3.lst q a1
            cases qi : ixN xs.length k with
            | none => simp only [qi] at h3; exact h3.elim
            | some j =>
              simp only [qi] at h3
              have ry : Dq g.K (dat cs3 as3 H3) vv y := Dq.le (e2.trans e3).dat rv
              have r2 : DqAll g.K (dat cs3 as3 H3) (vs.set j vv) (xs.set j y) := DqAll.of (Paired.set ry j (DqAll.paired rr))
              have e : Exn cs3 as3 H3 (cs3.set n (.lst (xs.set j y))) as3 (upd H3 p (.lst (vs.set j vv))) := exn_set hs3 q (fun z => nomatch z) a1
              have hs4 : Hs g (cs3.set n (.lst (xs.set j y))) as3 (upd H3 p (.lst (vs.set j vv))) := hs3.set q (fun z => nomatch z) a1 ⟨_, upd_same, DqAll.le e.dat r2⟩
              exact ⟨p, vs, k, j, rfl, rfl, ev, by rw [DqAll.length rr]; exact qi, h3 σ as3 _ (s.exn hs4 (((e1.trans e2).trans e3).trans e)) e⟩
      · exact h3.elim⟩⟩⟩
end
/-! ### slices -/
abbrev MO := Env → CS → R (Option Int)
def denO (g : G) (W : WX) (m : MO) : TO := fun σ H Q => ∃ env cs as, Sat g cs as H env σ ∧ Post g W σ cs as H (fun o _ _ H' => Q o H') (m env cs)
def oNone : MO := fun _ cs => .ok none cs
def oSome (m : ME) : MO := fun env cs => (m env cs).bind fun a cs1 => match a with
  | .d (.int i) => .ok (some i) cs1
  | _ => .no
def cutP (xs : List PyData) (lo hi : Option Int) : List PyData := (xs.drop (HT.sIx xs.length 0 lo)).take (HT.sIx xs.length xs.length hi - HT.sIx xs.length 0 lo)
def fSlice (a : A) (lo hi : Option Int) (cs : CS) : R A := match a with
  | .d (.tuple xs) => .ok (.d (.tuple (cutP xs lo hi))) cs
  | .d (.str z) => if z.length ≤ sizeLine then .ok (.d (.str (cutS z lo hi))) cs else .no
  | .s ns => .ok (.d (.list (cutP (ns.map PyData.int) lo hi))) cs
  | a => match toL cs a with
    | some xs => .ok (.d (.list (cutP xs lo hi))) cs
    | none => .no
def eSlice (m : ME) (lo hi : MO) : ME := fun env cs => (m env cs).bind fun a cs1 => (lo env cs1).bind fun l cs2 => (hi env cs2).bind fun u cs3 => fSlice a l u cs3
section
variable {X : Cx} {g : G} {W : WX} {me : ME} {ml mh : MO} {e : Expr} {lo hi : Option Expr} {pos p2 : Pos}
theorem po_imp {t t' : TO} {e : Option Expr} (h : PO X e t) (w : ∀ σ H Q, t' σ H Q → t σ H Q) : PO X e t' := ⟨fun pins s σ H Q I q => h.run pins s σ H Q I (w σ H Q q)⟩
theorem so_none : PO X none (denO g W oNone) := po_imp po_none fun σ H Q ⟨env, cs, as, s, h⟩ => h as H s.hs Exn.refl
theorem so_some (h : PE X e (den g W me)) : PO X (some e) (denO g W (oSome me)) := po_imp (po_some h) fun σ H Q ⟨env, cs, as, s, h⟩ => ⟨env, cs, as, s, (Post.bind h).mono fun a cs1 as1 H1 hs1 e1 h1 v rv => by
  split at h1
  · rename_i i
    cases rep_int rv
    exact ⟨i, rfl, h1 as1 H1 hs1 Exn.refl⟩
  · exact h1.elim⟩
def rSlAll (K : PySem.W.Frag) : V → Option Int → Option Int → Hp → VK → Prop := fun x lo hi H Q => rSlL K x lo hi H Q ∨ (rSlN K x lo hi H Q ∨ rSlS x lo hi H Q)
theorem sl_all : SlR X (rSlAll X.K) := sl_list.or (sl_tupN.or sl_str)
theorem cut_rep {K : PySem.W.Frag} {H : Hp} {vs : List V} {xs : List PyData} (h : DqAll K H vs xs) (lo hi : Option Int) : DqAll K H (cutV vs lo hi) (cutP xs lo hi) := by
  unfold cutV cutP
  rw [DqAll.length h]
  exact DqAll.take _ (DqAll.drop _ h)
theorem cut_whole {xs : List PyData} {lo hi : Option Int} (h : HT.sIx xs.length 0 lo = 0 ∧ HT.sIx xs.length xs.length hi = xs.length) : cutP xs lo hi = xs := by
  unfold cutP
  rw [h.1, h.2]
  simp
theorem slice_rep {cs : CS} {as : AS} {H : Hp} {σ : L2.St} {Q : VK} {x : V} {a : A} {l u : Option Int} (s : Hs g cs as H) (r : RepA g cs as H x a) (h : PostA g W σ cs as H Q (fSlice a l u cs)) : rSlAll g.K x l u H Q := by
  unfold fSlice at h
  split at h
  · rename_i xs
    obtain ⟨p, vs, rfl, h1, h2⟩ := rep_tup r
    refine .inr (.inl ⟨p, vs, rfl, h1, fun w => ?_, fun _ q o ho hq => PostA.tup h s ho hq (cut_rep h2 l u)⟩)
    rw [DqAll.length h2] at w
    rw [cut_whole w] at h
    exact PostA.here h s r
  · rename_i z
    cases rep_str r
    split at h
    · rename_i hl
      exact .inr (.inr ⟨z, rfl, hl, PostA.str h s⟩)
    · exact h.elim
  · rename_i ns
    obtain ⟨p, rfl, h1⟩ := r
    exact .inl ⟨p, _, rfl, Le.sqL dat_le h1, fun q hq => PostA.lst h s hq (cut_rep (dq_ints ns) l u)⟩
  · cases q : toL cs a with
    | none => simp only [q] at h; exact h.elim
    | some xs =>
      simp only [q] at h
      obtain ⟨p, vs, rfl, h1, h2⟩ := toL_rep s r q
      exact .inl ⟨p, vs, rfl, SqL.of h1, fun q hq => PostA.lst h s hq (cut_rep h2 l u)⟩
theorem se_slice (hK : X.K = g.K) (he : PE X e (den g W me)) (hl : PO X lo (denO g W ml)) (hu : PO X hi (denO g W mh)) : PE X (.Subscript e (.Slice lo hi none p2) pos) (den g W (eSlice me ml mh)) :=
  pe_imp (pe_slice sl_all he hl hu) fun σ H Q ⟨env, cs, as, s, h⟩ => ⟨env, cs, as, s, (Post.bind h).mono fun a cs1 as1 H1 hs1 e1 h1 v rv => ⟨env, cs1, as1, s.exn hs1 e1, (Post.bind h1).mono fun l cs2 as2 H2 hs2 e2 h2 =>
    ⟨env, cs2, as2, s.exn hs2 (e1.trans e2), (Post.bind h2).mono fun u cs3 as3 H3 hs3 e3 h3 => by rw [hK]; exact slice_rep hs3 (rv.exn (e2.trans e3)) h3⟩⟩⟩
end
/-! ### isinstance, one built-in class -/
def tyName (cs : CS) : A → Option String
  | .d .none => some "NoneType"
  | .d (.bool _) => some "bool"
  | .d (.int _) => some "int"
  | .d (.str _) => some "str"
  | .d (.list _) => some "list"
  | .d (.tuple _) => some "tuple"
  | .s _ => some "list"
  | .c n => match cs[n]? with
    | some (.lst _) => some "list"
    | some (.dk _) => some "dict"
    | some (.dt _) => some "dict"
    | _ => none
  | _ => none
/-- is a value of type a one of class b -/
def isTy (a b : String) : Bool := a == b || (a == "bool" && b == "int")
def tyOk (b : String) : Bool := b == "int" || b == "bool" || b == "str" || b == "list" || b == "tuple" || b == "dict"
theorem kit_is {cs : CS} {x : A} {a b : String} (h : tyName cs x = some a) (hb : tyOk b = true) : kitB a b = some (isTy a b) := by
  have ha : a = "NoneType" ∨ a = "bool" ∨ a = "int" ∨ a = "str" ∨ a = "list" ∨ a = "tuple" ∨ a = "dict" := by
    unfold tyName at h
    split at h <;> first | (cases h <;> simp) | skip
    split at h <;> cases h <;> simp
  have hb' : b = "int" ∨ b = "bool" ∨ b = "str" ∨ b = "list" ∨ b = "tuple" ∨ b = "dict" := by
    unfold tyOk at hb
    simp only [Bool.or_eq_true, beq_iff_eq] at hb
    rcases hb with ((((h | h) | h) | h) | h) | h <;> simp [h]
  rcases ha with rfl | rfl | rfl | rfl | rfl | rfl | rfl <;> rcases hb' with rfl | rfl | rfl | rfl | rfl | rfl <;> decide +kernel
def eIsi (b : String) (m : ME) : ME := fun env cs => (m env cs).bind fun a cs1 => match tyName cs1 a with
  | some t => .ok (.d (.bool (isTy t b))) cs1
  | none => .no
theorem tyName_rep {g : G} {cs : CS} {as : AS} {H : Hp} (s : Hs g cs as H) {v : V} {a : A} {t : String} (r : RepA g cs as H v a) (h : tyName cs a = some t) : TyX g.K H v (.type t) := by
  cases a with
  | d x =>
    have r' : Dq g.K (dat cs as H) v x := r
    cases r' with
    | non => cases h; exact .base .non
    | bl b => cases h; exact .base (.bl b)
    | int b => cases h; exact .base (.int b)
    | str b => cases h; exact .base (.str b)
    | lst h1 h2 => cases h; exact .base (.lst (dat_le _ _ h1))
    | tup h1 h2 =>
      cases h
      obtain ⟨o, _, h⟩ := Le.sqN dat_le h1
      exact .fTuple h
  | s ns =>
    cases h
    obtain ⟨p, rfl, h1⟩ := r
    rcases Le.sqL dat_le h1 with (h | ⟨o, h⟩) | ⟨o, its, n, hk, hc, _⟩
    · exact .base (.lst h)
    · exact .base (.frz h)
    · exact .kList hk hc
  | x _ => cases h
  | c n =>
    obtain ⟨p, e1, rfl⟩ := r
    cases e2 : cs[n]? with
    | none => simp only [tyName, e2] at h; cases h
    | some c =>
      cases c with
      | dead => simp only [tyName, e2] at h; cases h
      | lst xs =>
        simp only [tyName, e2] at h
        cases h
        obtain ⟨vs, e3, _⟩ := s.lst e2 e1
        exact .base (.lst e3)
      | dk xs =>
        simp only [tyName, e2] at h
        cases h
        obtain ⟨vs, e3, _⟩ := s.cells n _ p e2 e1
        exact .base (.dK e3)
      | dt xs =>
        simp only [tyName, e2] at h
        cases h
        obtain ⟨vs, e3, _⟩ := s.cells n _ p e2 e1
        exact .base (.dT e3)
theorem se_isi {X : Cx} {g : G} {W : WX} {me : ME} {e : Expr} {b : String} {x : Str} {p p2 pos : Pos} (hK : X.K = g.K) (hg : Gl X "isinstance") (hm : X.mg "isinstance" = none) (hb : tyOk b = true) (he : PE X e (den g W me)) (hg2 : Gl X x) (hm2 : X.mg x = none) (hv2 : bootBuiltins x = some (.type b))
    (hn : x ≠ "__name__" := by decide) (hdb : (x == ("__debug__" : Str)) = false := by decide)
    (h1 : starEach [e, .Name x p2] X.env = (false, eval e X.env) :: starEach [.Name x p2] X.env := by rfl) (h2 : starEach [.Name x p2] X.env = (false, eval (.Name x p2) X.env) :: starEach [] X.env := by rfl) (hpl : (backTo pos (starEach [.Name x p2] X.env)).any (·.1) = false := by rfl) :
    PE X (.Call (.Name "isinstance" p) [e, .Name x p2] [] pos) (den g W (eIsi b me)) :=
  pe_imp (pe_callB call_isi hg hm (by decide +kernel) (pa_cons he (pa_cons (pe_bltn (v := .ty b) hg2 hm2 hv2 (show RelV (.ty b) (.type b) from rfl) hn hdb) pa_nil h2) h1) (by decide) (by decide) h1 hpl) fun σ H Q ⟨env, cs, as, s, h⟩ => ⟨env, cs, as, s, (Post.bind h).mono fun a cs1 as1 H1 hs1 e1 h1 v rv => by
    cases q : tyName cs1 a with
    | none => simp only [q] at h1; exact h1.elim
    | some t =>
      simp only [q] at h1
      exact ⟨v, .ty b, .type t, .type b, isTy t b, rfl, .ty b, by rw [hK]; exact tyName_rep hs1 rv q, kit_ty (kit_is q hb), PostA.bl h1 hs1⟩⟩
end Sh
namespace Sh
open PySem L2
/-! ### dicts: a cell's table -/
section
variable {κ : Type} [DecidableEq κ]
def getP (kvs : List (κ × PyData)) (k : κ) : Option PyData := (kvs.find? fun kv => decide (kv.1 = k)).map (·.2)
def putP (kvs : List (κ × PyData)) (k : κ) (v : PyData) : List (κ × PyData) :=
  if (kvs.any fun kv => decide (kv.1 = k)) = true then kvs.map (fun kv => if kv.1 = k then (kv.1, v) else kv) else kvs ++ [(k, v)]
variable {g : G} {cs : CS} {as : AS} {H : Hp}
theorem getP_rep {vs : List (κ × V)} {xs : List (κ × PyData)} (h : RepKV g cs as H vs xs) (k : κ) : (valV vs k = none ∧ getP xs k = none) ∨ ∃ v x, valV vs k = some v ∧ getP xs k = some x ∧ Dq g.K (dat cs as H) v x := by
  induction h with
  | nil => exact .inl ⟨rfl, rfl⟩
  | @cons p q ps qs r t ih =>
    by_cases e : q.1 = k
    · have e' : p.1 = k := r.1.trans e
      exact .inr ⟨p.2, q.2, valV_pos e', by simp [getP, List.find?_cons, e], r.2⟩
    · have e' : ¬ p.1 = k := fun z => e (r.1.symm.trans z)
      have e2 : getP (q :: qs) k = getP qs k := by simp [getP, List.find?_cons, e]
      rw [valV_neg e', e2]
      exact ih
theorem anyK_rep {vs : List (κ × V)} {xs : List (κ × PyData)} (h : RepKV g cs as H vs xs) (k : κ) : (vs.any fun kv => decide (kv.1 = k)) = (xs.any fun kv => decide (kv.1 = k)) := by
  induction h with
  | nil => rfl
  | @cons p q ps qs r t ih => rw [List.any_cons, List.any_cons, ih, r.1]
theorem mapK_rep {vs : List (κ × V)} {xs : List (κ × PyData)} (h : RepKV g cs as H vs xs) (k : κ) {v : V} {x : PyData} (hv : Dq g.K (dat cs as H) v x) :
    RepKV g cs as H (vs.map fun kv => if kv.1 = k then (kv.1, v) else kv) (xs.map fun kv => if kv.1 = k then (kv.1, x) else kv) := by
  induction h with
  | nil => exact .nil
  | @cons p q ps qs r t ih =>
    refine .cons ?_ ih
    show (if p.1 = k then (p.1, v) else p).1 = (if q.1 = k then (q.1, x) else q).1 ∧ Dq g.K (dat cs as H) (if p.1 = k then (p.1, v) else p).2 (if q.1 = k then (q.1, x) else q).2
    by_cases e : q.1 = k
    · rw [if_pos e, if_pos (r.1.trans e)]; exact ⟨r.1, hv⟩
    · rw [if_neg e, if_neg fun z => e (r.1.symm.trans z)]; exact r
theorem putP_rep {vs : List (κ × V)} {xs : List (κ × PyData)} (h : RepKV g cs as H vs xs) (k : κ) {v : V} {x : PyData} (hv : Dq g.K (dat cs as H) v x) : RepKV g cs as H (putK vs k v) (putP xs k x) := by
  unfold putK putP
  rw [anyK_rep h k]
  split
  · exact mapK_rep h k hv
  · exact Paired.append h (.cons ⟨rfl, hv⟩ .nil)
theorem repKV_le {cs' : CS} {as' : AS} {H' : Hp} (e : Le (dat cs as H) (dat cs' as' H')) {vs : List (κ × V)} {xs : List (κ × PyData)} (h : RepKV g cs as H vs xs) : RepKV g cs' as' H' vs xs := Paired.mono (fun _ _ z => ⟨z.1, Dq.le e z.2⟩) h
end
/-- a key that is an int or a text -/
def keyA : A → Option Key
  | .d (.int i) => some (.inl i)
  | .d (.str x) => some (.inr x)
  | _ => none
/-- a key that is a tuple of such -/
def keysD : List PyData → Option (List Key)
  | [] => some []
  | .int i :: r => (keysD r).map (.inl i :: ·)
  | .str x :: r => (keysD r).map (.inr x :: ·)
  | _ :: _ => none
theorem keyA_rep {g : G} {cs : CS} {as : AS} {H : Hp} {v : V} {a : A} {k : Key} (r : RepA g cs as H v a) (h : keyA a = some k) : v = kV k := by
  unfold keyA at h
  split at h
  · obtain rfl := Option.some.inj h; exact rep_int r
  · obtain rfl := Option.some.inj h; exact rep_str r
  · cases h
theorem keysD_rep {K : PySem.W.Frag} {H : Hp} : ∀ {vs : List V} {xs : List PyData} {ks : List Key}, DqAll K H vs xs → keysD xs = some ks → vs = ks.map kV
  | _, [], ks, h, e => by cases h; cases e; rfl
  | _, x :: xs, ks, h, e => by
    cases h with
    | cons h1 h2 =>
      cases x with
      | int i =>
        cases h1
        have e' : (keysD xs).map (Sum.inl i :: ·) = some ks := e
        cases q : keysD xs with
        | none => rw [q] at e'; cases e'
        | some ks' =>
          rw [q] at e'
          obtain rfl := Option.some.inj e'
          rw [keysD_rep h2 q]; rfl
      | str i =>
        cases h1
        have e' : (keysD xs).map (Sum.inr i :: ·) = some ks := e
        cases q : keysD xs with
        | none => rw [q] at e'; cases e'
        | some ks' =>
          rw [q] at e'
          obtain rfl := Option.some.inj e'
          rw [keysD_rep h2 q]; rfl
      | none => cases e
      | bool _ => cases e
      | list _ => cases e
      | tuple _ => cases e
      | dict _ => cases e
/-- the table of ints and texts of a cell -/
def dkOf (cs : CS) : A → Option (Nat × List (Key × PyData))
  | .c n => match cs[n]? with
    | some (.dk kvs) => some (n, kvs)
    | _ => none
  | _ => none
def dtOf (cs : CS) : A → Option (Nat × List (List Key × PyData))
  | .c n => match cs[n]? with
    | some (.dt kvs) => some (n, kvs)
    | _ => none
  | _ => none
theorem dkOf_c {cs : CS} {n : Nat} {kvs : List (Key × PyData)} (h : cs[n]? = some (.dk kvs)) : dkOf cs (.c n) = some (n, kvs) := by simp only [dkOf, h]
theorem dtOf_c {cs : CS} {n : Nat} {kvs : List (List Key × PyData)} (h : cs[n]? = some (.dt kvs)) : dtOf cs (.c n) = some (n, kvs) := by simp only [dtOf, h]
theorem dkOf_rep {g : G} {cs : CS} {as : AS} {H : Hp} (s : Hs g cs as H) {v : V} {a : A} {n : Nat} {kvs : List (Key × PyData)} (r : RepA g cs as H v a) (h : dkOf cs a = some (n, kvs)) :
    ∃ p vs, v = .ref p ∧ a = .c n ∧ cs[n]? = some (.dk kvs) ∧ as.l[n]? = some p ∧ H p = some (.dK vs) ∧ RepKV g cs as H vs kvs := by
  cases a with
  | c m =>
    obtain ⟨p, e1, rfl⟩ := r
    cases e2 : cs[m]? with
    | none => simp only [dkOf, e2] at h; cases h
    | some c =>
      cases c with
      | dk xs =>
        simp only [dkOf, e2] at h
        cases h
        obtain ⟨vs, e3, rr⟩ := s.cells n _ p e2 e1
        exact ⟨p, vs, rfl, rfl, e2, e1, e3, rr⟩
      | dead => simp only [dkOf, e2] at h; cases h
      | lst _ => simp only [dkOf, e2] at h; cases h
      | dt _ => simp only [dkOf, e2] at h; cases h
  | d _ => cases h
  | s _ => cases h
  | x _ => cases h
theorem dtOf_rep {g : G} {cs : CS} {as : AS} {H : Hp} (s : Hs g cs as H) {v : V} {a : A} {n : Nat} {kvs : List (List Key × PyData)} (r : RepA g cs as H v a) (h : dtOf cs a = some (n, kvs)) :
    ∃ p vs, v = .ref p ∧ a = .c n ∧ cs[n]? = some (.dt kvs) ∧ as.l[n]? = some p ∧ H p = some (.dT vs) ∧ RepKV g cs as H vs kvs := by
  cases a with
  | c m =>
    obtain ⟨p, e1, rfl⟩ := r
    cases e2 : cs[m]? with
    | none => simp only [dtOf, e2] at h; cases h
    | some c =>
      cases c with
      | dt xs =>
        simp only [dtOf, e2] at h
        cases h
        obtain ⟨vs, e3, rr⟩ := s.cells n _ p e2 e1
        exact ⟨p, vs, rfl, rfl, e2, e1, e3, rr⟩
      | dead => simp only [dtOf, e2] at h; cases h
      | lst _ => simp only [dtOf, e2] at h; cases h
      | dk _ => simp only [dtOf, e2] at h; cases h
  | d _ => cases h
  | s _ => cases h
  | x _ => cases h
/-- new dicts -/
def eDNewK : ME := fun _ cs => .ok (.c cs.length) (cs ++ [.dk []])
def eDNewT : ME := fun _ cs => .ok (.c cs.length) (cs ++ [.dt []])
/-- d[k], k in d, by an int or a text -/
def eDGet (md mk : ME) : ME := fun env cs => (md env cs).bind fun d cs1 => (mk env cs1).bind fun k cs2 => match dkOf cs2 d, keyA k with
  | some (_, kvs), some k => match getP kvs k with
    | some v => .ok (.d v) cs2
    | none => .no
  | _, _ => .no
def eDIn (neg : Bool) (mk md : ME) : ME := fun env cs => (mk env cs).bind fun k cs1 => (md env cs1).bind fun d cs2 => match dkOf cs2 d, keyA k with
  | some (_, kvs), some k => .ok (.d (.bool (if neg then !(getP kvs k).isSome else (getP kvs k).isSome))) cs2
  | _, _ => .no
/-- by a written tuple -/
def eTGet (md : ME) (mk : MA) : ME := fun env cs => (md env cs).bind fun d cs1 => (mk env cs1).bind fun ks cs2 => match dtOf cs2 d, allD ks with
  | some (_, kvs), some ds => match keysD ds with
    | some k => if ds.length ≤ sizeLine then match getP kvs k with
      | some v => .ok (.d v) cs2
      | none => .no else .no
    | none => .no
  | _, _ => .no
def eTIn (neg : Bool) (mk : MA) (md : ME) : ME := fun env cs => (mk env cs).bind fun ks cs1 => match allD ks with
  | some ds => if ds.length ≤ sizeLine then (md env cs1).bind fun d cs2 => match dtOf cs2 d, keysD ds with
    | some (_, kvs), some k => .ok (.d (.bool (if neg then !(getP kvs k).isSome else (getP kvs k).isSome))) cs2
    | _, _ => .no else .no
  | none => .no
/-- d[k] = v -/
def sDPut (md mk mv : ME) : MS := fun env cs => (mv env cs).toS env fun v cs1 => (md env cs1).toS env fun d cs2 => (mk env cs2).toS env fun k cs3 => match v, dkOf cs3 d, keyA k with
  | .d y, some (n, kvs), some k => if kvs.length < sizeLine then .nx env (cs3.set n (.dk (putP kvs k y))) else .no
  | _, _, _ => .no
def sTPut (md : ME) (mk : MA) (mv : ME) : MS := fun env cs => (mv env cs).toS env fun v cs1 => (md env cs1).toS env fun d cs2 => (mk env cs2).toS env fun ks cs3 => match v, dtOf cs3 d, allD ks with
  | .d y, some (n, kvs), some ds => match keysD ds with
    | some k => if kvs.length < sizeLine ∧ ds.length ≤ sizeLine then .nx env (cs3.set n (.dt (putP kvs k y))) else .no
    | none => .no
  | _, _, _ => .no
theorem Hs.cellD {g : G} {cs : CS} {as : AS} {H : Hp} {p : Addr} (s : Hs g cs as H) (h : H p = none) {o : HO} {c : Cell} (hc : CellOk g (cs ++ [c]) (as.push p) (upd H p o) p c) {W : WX} {σ : L2.St} {Q : VK} (hq : PostA g W σ cs as H Q (.ok (.c cs.length) (cs ++ [c]))) : Q (.ref p) (upd H p o) :=
  hq (as.push p) _ (s.cell h hc) (exn_cell s h) _ ⟨p, s.at_new, rfl⟩
section
variable {X : Cx} {g : G} {W : WX} {md mk mv : ME} {mks : MA} {o i value : Expr} {es : List Expr} {pos pos' tpos : Pos} {kk : Nat}
theorem se_dnewK : PE X (.Dict [] [] pos) (den g W eDNewK) := pe_imp pe_dnewK fun σ H Q ⟨env, cs, as, s, h⟩ p hp => s.hs.cellD hp (c := .dk []) ⟨[], upd_same, .nil⟩ h
theorem se_dnewT : PE X (.Dict [] [] pos) (den g W eDNewT) := pe_imp pe_dnewT fun σ H Q ⟨env, cs, as, s, h⟩ p hp => s.hs.cellD hp (c := .dt []) ⟨[], upd_same, .nil⟩ h
theorem se_dget (hu : X.A.units + 1 < cLine) (ho : PE X o (den g W md)) (hi : PE X i (den g W mk)) (hs : NoSl i := by exact fun _ _ => rfl) : PE X (.Subscript o i pos) (den g W (eDGet md mk)) :=
  pe_imp (pe_dget hu ho hi hs) fun σ H Q ⟨env, cs, as, s, h⟩ => ⟨env, cs, as, s, (Post.bind h).mono fun d cs1 as1 H1 hs1 e1 h1 vd rd => ⟨env, cs1, as1, s.exn hs1 e1, (Post.bind h1).mono fun k cs2 as2 H2 hs2 e2 h2 vk rk => by
    cases q1 : dkOf cs2 d with
    | none => simp only [q1] at h2; exact h2.elim
    | some nk =>
      obtain ⟨n, kvs⟩ := nk
      cases q2 : keyA k with
      | none => simp only [q1, q2] at h2; exact h2.elim
      | some k' =>
        simp only [q1, q2] at h2
        obtain ⟨p, vs, rfl, rfl, c1, a1, hp, rr⟩ := dkOf_rep hs2 (rd.exn e2) q1
        cases keyA_rep rk q2
        rcases getP_rep rr k' with ⟨_, q3⟩ | ⟨v, x, q3, q4, r⟩
        · simp only [q3] at h2; exact h2.elim
        · simp only [q4] at h2
          exact ⟨p, v, rfl, by rw [← q3]; exact DGet.k hp, PostA.here h2 hs2 r⟩⟩⟩
theorem den_din {σ : L2.St} {H : Hp} {Q : VK} (h : den g W (eDIn false mk md) σ H Q) : tDIn (den g W mk) (den g W md) σ H Q := by
  obtain ⟨env, cs, as, s, h⟩ := h
  refine ⟨env, cs, as, s, (Post.bind h).mono fun k cs1 as1 H1 hs1 e1 h1 vk rk => ⟨env, cs1, as1, s.exn hs1 e1, (Post.bind h1).mono fun d cs2 as2 H2 hs2 e2 h2 vd rd => ?_⟩⟩
  cases q1 : dkOf cs2 d with
  | none => simp only [q1] at h2; exact h2.elim
  | some nk =>
    obtain ⟨n, kvs⟩ := nk
    cases q2 : keyA k with
    | none => simp only [q1, q2] at h2; exact h2.elim
    | some k' =>
      simp only [q1, q2] at h2
      obtain ⟨p, vs, rfl, rfl, c1, a1, hp, rr⟩ := dkOf_rep hs2 rd q1
      cases keyA_rep rk q2
      refine ⟨p, valV vs k', rfl, DGet.k hp, ?_⟩
      rcases getP_rep rr k' with ⟨q3, q4⟩ | ⟨v, x, q3, q4, r⟩
      · rw [q3]; rw [q4] at h2; exact PostA.bl h2 hs2
      · rw [q3]; rw [q4] at h2; exact PostA.bl h2 hs2
theorem den_dnin {σ : L2.St} {H : Hp} {Q : VK} (h : den g W (eDIn true mk md) σ H Q) : tDNotIn (den g W mk) (den g W md) σ H Q := by
  obtain ⟨env, cs, as, s, h⟩ := h
  refine ⟨env, cs, as, s, (Post.bind h).mono fun k cs1 as1 H1 hs1 e1 h1 vk rk => ⟨env, cs1, as1, s.exn hs1 e1, (Post.bind h1).mono fun d cs2 as2 H2 hs2 e2 h2 vd rd => ?_⟩⟩
  cases q1 : dkOf cs2 d with
  | none => simp only [q1] at h2; exact h2.elim
  | some nk =>
    obtain ⟨n, kvs⟩ := nk
    cases q2 : keyA k with
    | none => simp only [q1, q2] at h2; exact h2.elim
    | some k' =>
      simp only [q1, q2] at h2
      obtain ⟨p, vs, rfl, rfl, c1, a1, hp, rr⟩ := dkOf_rep hs2 rd q1
      cases keyA_rep rk q2
      refine ⟨p, valV vs k', rfl, DGet.k hp, ?_⟩
      rcases getP_rep rr k' with ⟨q3, q4⟩ | ⟨v, x, q3, q4, r⟩
      · rw [q3]; rw [q4] at h2; exact PostA.bl h2 hs2
      · rw [q3]; rw [q4] at h2; exact PostA.bl h2 hs2
theorem se_din (hu : X.A.units + 1 < cLine) (hi : PE X i (den g W mk)) (ho : PE X o (den g W md)) (h1 : behindInMarks .In o = false := by rfl) : PE X (.Compare i [.In] [o] pos) (den g W (eDIn false mk md)) := pe_imp (pe_cmp (pc_din hu hi ho) h1) fun _ _ _ => den_din
theorem se_dnin (hu : X.A.units + 1 < cLine) (hi : PE X i (den g W mk)) (ho : PE X o (den g W md)) (h1 : behindInMarks .NotIn o = false := by rfl) : PE X (.Compare i [.NotIn] [o] pos) (den g W (eDIn true mk md)) := pe_imp (pe_cmp (pc_dnotin hu hi ho) h1) fun _ _ _ => den_dnin
theorem den_tB {σ : L2.St} {H : Hp} {Q : Bool → Hp → Prop} {me : ME} (h : denT g W (tOf me) σ H Q) : tB (den g W me) σ H Q := den_test h
theorem st_din (hu : X.A.units + 1 < cLine) (hi : PE X i (den g W mk)) (ho : PE X o (den g W md)) (h1 : behindInMarks .In o = false := by rfl) : PT X (.Compare i [.In] [o] pos) (denT g W (tOf (eDIn false mk md))) := pt_imp (pt_cmp (pc_din hu hi ho) h1) fun _ _ _ h => den_din (den_tB h)
theorem st_dnin (hu : X.A.units + 1 < cLine) (hi : PE X i (den g W mk)) (ho : PE X o (den g W md)) (h1 : behindInMarks .NotIn o = false := by rfl) : PT X (.Compare i [.NotIn] [o] pos) (denT g W (tOf (eDIn true mk md))) := pt_imp (pt_cmp (pc_dnotin hu hi ho) h1) fun _ _ _ h => den_dnin (den_tB h)
/-- a written tuple as a key -/
theorem den_tin {neg : Bool} {σ : L2.St} {H : Hp} {Q : VK} (h : den g W (eTIn neg mks md) σ H Q) : tTup (denA g W mks) σ H fun y H1 => den g W md σ H1 fun x H2 => ∃ a o, x = .ref a ∧ DGet H2 a y o ∧ Q (.bl (if neg then !o.isSome else o.isSome)) H2 := by
  obtain ⟨env, cs, as, s, h⟩ := h
  refine ⟨env, cs, as, s, (Post.bind h).mono fun ks cs1 as1 H1 hs1 e1 h1 vks rks => ?_⟩
  cases qd : allD ks with
  | none => simp only [qd] at h1; exact h1.elim
  | some ds =>
    simp only [qd] at h1
    split at h1
    case isFalse => exact h1.elim
    rename_i hl
    rw [allD_eq qd] at rks
    refine ⟨by rw [rks.length, List.length_map]; exact hl, fun p hp => ?_⟩
    have en := exn_new (o := .tup vks) hs1 hp
    refine ⟨env, cs1, as1, s.exn (hs1.new hp) (e1.trans en), (Post.bind (Post.shift h1 en)).mono fun d cs2 as2 H2 hs2 e2 h2 vd rd => ?_⟩
    cases q1 : dtOf cs2 d with
    | none => simp only [q1] at h2; exact h2.elim
    | some nk =>
      obtain ⟨n, kvs⟩ := nk
      cases q2 : keysD ds with
      | none => simp only [q1, q2] at h2; exact h2.elim
      | some k' =>
        simp only [q1, q2] at h2
        obtain ⟨p2, vs, rfl, rfl, c1, a1, hp2, rr⟩ := dtOf_rep hs2 rd q1
        have ht : H2 p = some (.tup (k'.map kV)) := by
          rw [← keysD_rep rks.dp q2]
          exact dat_le _ _ (e2.dat _ _ (dat_new hs1 hp))
        refine ⟨p2, valV vs k', rfl, DGet.t hp2 ht, ?_⟩
        rcases getP_rep rr k' with ⟨q3, q4⟩ | ⟨v, x, q3, q4, r⟩
        · rw [q3]; rw [q4] at h2; exact PostA.bl h2 hs2
        · rw [q3]; rw [q4] at h2; exact PostA.bl h2 hs2
theorem se_tin (hu : X.A.units + 1 < cLine) (hi : PA X es (denA g W mks)) (ho : PE X o (den g W md)) (h1 : behindInMarks .In o = false := by rfl) : PE X (.Compare (.Tuple es kk tpos) [.In] [o] pos) (den g W (eTIn false mks md)) := pe_imp (pe_cmp (pc_din hu (pe_tup hi) ho) h1) fun _ _ _ h => den_tin h
theorem se_tnin (hu : X.A.units + 1 < cLine) (hi : PA X es (denA g W mks)) (ho : PE X o (den g W md)) (h1 : behindInMarks .NotIn o = false := by rfl) : PE X (.Compare (.Tuple es kk tpos) [.NotIn] [o] pos) (den g W (eTIn true mks md)) := pe_imp (pe_cmp (pc_dnotin hu (pe_tup hi) ho) h1) fun _ _ _ h => den_tin h
theorem st_tin (hu : X.A.units + 1 < cLine) (hi : PA X es (denA g W mks)) (ho : PE X o (den g W md)) (h1 : behindInMarks .In o = false := by rfl) : PT X (.Compare (.Tuple es kk tpos) [.In] [o] pos) (denT g W (tOf (eTIn false mks md))) := pt_imp (pt_cmp (pc_din hu (pe_tup hi) ho) h1) fun _ _ _ h => den_tin (den_tB h)
theorem st_tnin (hu : X.A.units + 1 < cLine) (hi : PA X es (denA g W mks)) (ho : PE X o (den g W md)) (h1 : behindInMarks .NotIn o = false := by rfl) : PT X (.Compare (.Tuple es kk tpos) [.NotIn] [o] pos) (denT g W (tOf (eTIn true mks md))) := pt_imp (pt_cmp (pc_dnotin hu (pe_tup hi) ho) h1) fun _ _ _ h => den_tin (den_tB h)
theorem se_tget (hu : X.A.units + 1 < cLine) (ho : PE X o (den g W md)) (hi : PA X es (denA g W mks)) (hs : NoSl (.Tuple es kk tpos) := by exact fun _ _ => rfl) : PE X (.Subscript o (.Tuple es kk tpos) pos) (den g W (eTGet md mks)) :=
  pe_imp (pe_dget hu ho (pe_tup hi) hs) fun σ H Q ⟨env, cs, as, s, h⟩ => ⟨env, cs, as, s, (Post.bind h).mono fun d cs1 as1 H1 hs1 e1 h1 vd rd => ⟨env, cs1, as1, s.exn hs1 e1, (Post.bind h1).mono fun ks cs2 as2 H2 hs2 e2 h2 vks rks => by
    cases q1 : dtOf cs2 d with
    | none => simp only [q1] at h2; exact h2.elim
    | some nk =>
      obtain ⟨n, kvs⟩ := nk
      cases qd : allD ks with
      | none => simp only [q1, qd] at h2; exact h2.elim
      | some ds =>
        simp only [q1, qd] at h2
        cases q2 : keysD ds with
        | none => simp only [q2] at h2; exact h2.elim
        | some k' =>
          simp only [q2] at h2
          split at h2
          case isFalse => exact h2.elim
          rename_i hl
          rw [allD_eq qd] at rks
          refine ⟨by rw [rks.length, List.length_map]; exact hl, fun p hp => ?_⟩
          have en := exn_new (o := .tup vks) hs2 hp
          obtain ⟨p2, vs, rfl, rfl, c1, a1, hp2, rr⟩ := dtOf_rep hs2 (rd.exn e2) q1
          have ht : upd H2 p (.tup vks) p = some (.tup (k'.map kV)) := by rw [← keysD_rep rks.dp q2]; exact upd_same
          have hp3 : upd H2 p (.tup vks) p2 = some (.dT vs) := by rw [upd_ne (ne_of_none hp2 hp)]; exact hp2
          rcases getP_rep rr k' with ⟨_, q3⟩ | ⟨v, x, q3, q4, r⟩
          · simp only [q3] at h2; exact h2.elim
          · simp only [q4] at h2
            exact ⟨p2, v, rfl, by rw [← q3]; exact DGet.t hp3 ht, PostA.here (Post.shift h2 en) (hs2.new hp) (Dq.le en.dat r)⟩⟩⟩
theorem ss_dput (hu : X.A.units + 1 < cLine) (ho : PE X o (den g W md)) (hi : PE X i (den g W mk)) (hv : PE X value (den g W mv)) (hs : swapsWith value (some (.Subscript o i pos')) pos.line X.env = pure false := by rfl) :
    PS X (.Assign [.Subscript o i pos'] value pos) (denS g W (sDPut md mk mv)) :=
  ps_imp (ps_dput hu ho hi hv hs) fun D σ H ⟨env, cs, as, s, h⟩ => ⟨env, cs, as, s, (post_toS s h).mono fun v cs1 as1 H1 hs1 e1 h1 vv rv => ⟨env, cs1, as1, s.exn hs1 e1, (post_toS (s.exn hs1 e1) h1).mono fun d cs2 as2 H2 hs2 e2 h2 vd rd =>
    ⟨env, cs2, as2, s.exn hs2 (e1.trans e2), (post_toS (s.exn hs2 (e1.trans e2)) h2).mono fun k cs3 as3 H3 hs3 e3 h3 vk rk => by
      cases v with
      | c _ => exact h3.elim
      | s _ => exact h3.elim
      | x _ => exact h3.elim
      | d y =>
        cases q1 : dkOf cs3 d with
        | none => simp only [q1] at h3; exact h3.elim
        | some nk =>
          obtain ⟨n, kvs⟩ := nk
          cases q2 : keyA k with
          | none => simp only [q1, q2] at h3; exact h3.elim
          | some k' =>
            simp only [q1, q2] at h3
            split at h3
            case isFalse => exact h3.elim
            rename_i hl
            obtain ⟨p, vs, rfl, rfl, c1, a1, hp, rr⟩ := dkOf_rep hs3 (rd.exn e3) q1
            cases keyA_rep rk q2
            have ry : Dq g.K (dat cs3 as3 H3) vv y := Dq.le (e2.trans e3).dat rv
            have e : Exn cs3 as3 H3 (cs3.set n (.dk (putP kvs k' y))) as3 (upd H3 p (.dK (putK vs k' vv))) := exn_set hs3 c1 (fun z => nomatch z) a1
            have hs4 : Hs g (cs3.set n (.dk (putP kvs k' y))) as3 (upd H3 p (.dK (putK vs k' vv))) := hs3.set c1 (fun z => nomatch z) a1 ⟨_, upd_same, repKV_le e.dat (putP_rep rr k' ry)⟩
            exact ⟨p, _, rfl, DPut.k hp (by rw [Paired.length rr]; exact hl), h3 σ as3 _ (s.exn hs4 (((e1.trans e2).trans e3).trans e)) e⟩⟩⟩⟩
theorem ss_tput (hu : X.A.units + 1 < cLine) (ho : PE X o (den g W md)) (hi : PA X es (denA g W mks)) (hv : PE X value (den g W mv)) (hs : swapsWith value (some (.Subscript o (.Tuple es kk tpos) pos')) pos.line X.env = pure false := by rfl) :
    PS X (.Assign [.Subscript o (.Tuple es kk tpos) pos'] value pos) (denS g W (sTPut md mks mv)) :=
  ps_imp (ps_dput hu ho (pe_tup hi) hv hs) fun D σ H ⟨env, cs, as, s, h⟩ => ⟨env, cs, as, s, (post_toS s h).mono fun v cs1 as1 H1 hs1 e1 h1 vv rv => ⟨env, cs1, as1, s.exn hs1 e1, (post_toS (s.exn hs1 e1) h1).mono fun d cs2 as2 H2 hs2 e2 h2 vd rd =>
    ⟨env, cs2, as2, s.exn hs2 (e1.trans e2), (post_toS (s.exn hs2 (e1.trans e2)) h2).mono fun ks cs3 as3 H3 hs3 e3 h3 vks rks => by
      cases v with
      | c _ => exact h3.elim
      | s _ => exact h3.elim
      | x _ => exact h3.elim
      | d y =>
        cases q1 : dtOf cs3 d with
        | none => simp only [q1] at h3; exact h3.elim
        | some nk =>
          obtain ⟨n, kvs⟩ := nk
          cases qd : allD ks with
          | none => simp only [q1, qd] at h3; exact h3.elim
          | some ds =>
            simp only [q1, qd] at h3
            cases q2 : keysD ds with
            | none => simp only [q2] at h3; exact h3.elim
            | some k' =>
              simp only [q2] at h3
              split at h3
              case isFalse => exact h3.elim
              rename_i hl
              rw [allD_eq qd] at rks
              refine ⟨by rw [rks.length, List.length_map]; exact hl.2, fun q hq => ?_⟩
              have en := exn_new (o := .tup vks) hs3 hq
              have hs3' := hs3.new (o := .tup vks) hq
              obtain ⟨p, vs, rfl, rfl, c1, a1, hp, rr⟩ := dtOf_rep hs3 (rd.exn e3) q1
              have ht : upd H3 q (.tup vks) q = some (.tup (k'.map kV)) := by rw [← keysD_rep rks.dp q2]; exact upd_same
              have hp3 : upd H3 q (.tup vks) p = some (.dT vs) := by rw [upd_ne (ne_of_none hp hq)]; exact hp
              have ry : Dq g.K (dat cs3 as3 (upd H3 q (.tup vks))) vv y := Dq.le ((e2.trans e3).trans en).dat rv
              have rr' := repKV_le en.dat rr
              have e : Exn cs3 as3 (upd H3 q (.tup vks)) (cs3.set n (.dt (putP kvs k' y))) as3 (upd (upd H3 q (.tup vks)) p (.dT (putK vs k' vv))) := exn_set hs3' c1 (fun z => nomatch z) a1
              have hs4 : Hs g (cs3.set n (.dt (putP kvs k' y))) as3 (upd (upd H3 q (.tup vks)) p (.dT (putK vs k' vv))) := hs3'.set c1 (fun z => nomatch z) a1 ⟨_, upd_same, repKV_le e.dat (putP_rep rr' k' ry)⟩
              exact ⟨p, _, rfl, DPut.t hp3 ht (by rw [Paired.length rr]; exact hl.1), h3 σ as3 _ (s.exn hs4 ((((e1.trans e2).trans e3).trans en).trans e)) (en.trans e)⟩⟩⟩⟩
end
/-! ### {k: v, ..}, the keys written -/
def dPairs : List (Key × ME) → Env → CS → R (List (Key × PyData))
  | [], _, cs => .ok [] cs
  | (k, m) :: r, env, cs => (noEx (m env cs)).bind fun a cs1 => match asD a with
    | some x => (dPairs r env cs1).bind fun ys cs2 => .ok ((k, x) :: ys) cs2
    | none => .no
def mergeP (kvs more : List (Key × PyData)) : List (Key × PyData) := more.foldl (fun acc kv => putP acc kv.1 kv.2) kvs
def eDict (ps : List (Key × ME)) : ME := fun env cs => (dPairs ps env cs).bind fun ys cs1 => .ok (.c cs1.length) (cs1 ++ [.dk (mergeP [] ys)])
section
variable {X : Cx} {g : G} {W : WX}
theorem mergeP_rep {cs : CS} {as : AS} {H : Hp} {more : List (Key × V)} {ys : List (Key × PyData)} (h : RepKV g cs as H more ys) : ∀ {kvs : List (Key × V)} {xs : List (Key × PyData)}, RepKV g cs as H kvs xs → RepKV g cs as H (mergeK kvs more) (mergeP xs ys) := by
  induction h with
  | nil => intro kvs xs r; exact r
  | @cons p q ps qs r t ih =>
    intro kvs xs r0
    have e : RepKV g cs as H (putK kvs p.1 p.2) (putP xs q.1 q.2) := by
      rw [r.1]; exact putP_rep r0 q.1 r.2
    exact ih e
/-- the hidden object becomes a cell -/
theorem Hs.hidCell {cs : CS} {l hid : List Addr} {H : Hp} {p : Addr} {o : HO} {c : Cell} (s : Hs g cs ⟨l, p :: hid⟩ H) (hn : p ∉ hid) (hc : CellOk g cs ⟨l, p :: hid⟩ (upd H p o) p c) :
    Hs g (cs ++ [c]) ⟨l ++ [p], hid⟩ (upd H p o) ∧ Le (dat cs ⟨l, p :: hid⟩ H) (dat (cs ++ [c]) ⟨l ++ [p], hid⟩ (upd H p o)) := by
  obtain ⟨s2, d2⟩ := s.hidSet (o := o) (p := p) List.mem_cons_self
  have len : l.length = cs.length := s.len
  have key : ∀ {i : Nat} {c1 : Cell} {a : Addr}, (cs ++ [c])[i]? = some c1 → (l ++ [p])[i]? = some a → (i < cs.length ∧ cs[i]? = some c1 ∧ l[i]? = some a) ∨ (i = cs.length ∧ c1 = c ∧ a = p) := fun {i c1 a} e1 a1 => by
    rcases getElem?_snoc e1 with ⟨hi, e1⟩ | ⟨hi, e1⟩
    · rcases getElem?_snoc a1 with ⟨_, a1⟩ | ⟨hj, a1⟩
      · exact .inl ⟨hi, e1, a1⟩
      · omega
    · rcases getElem?_snoc a1 with ⟨hj, a1⟩ | ⟨hj, a1⟩
      · omega
      · exact .inr ⟨hi, e1, a1⟩
  have dd : Le (dat cs ⟨l, p :: hid⟩ (upd H p o)) (dat (cs ++ [c]) ⟨l ++ [p], hid⟩ (upd H p o)) := fun a u z => by
    obtain ⟨z1, z2⟩ := dat_some.mp z
    refine dat_some.mpr ⟨fun l' => ?_, z2⟩
    rcases l' with ⟨i, c1, e1, n1, e2⟩ | l'
    · rcases key e1 e2 with ⟨_, f1, f2⟩ | ⟨_, f1, f2⟩
      · exact z1 (.inl ⟨i, c1, f1, n1, f2⟩)
      · exact z1 (.inr (by rw [f2]; exact List.mem_cons_self))
    · exact z1 (.inr (List.mem_cons_of_mem _ l'))
  refine ⟨⟨by show (l ++ [p]).length = _; rw [List.length_append, List.length_append, len] <;> rfl, fun i j a c1 c2 e1 n1 e2 n2 a1 a2 => ?_, fun i c1 a e1 e2 => ?_, fun i c1 a e1 n1 a1 => ?_, fun a ha => s2.there a (List.mem_cons_of_mem _ ha)⟩, fun a u z => dd a u (d2 a u z)⟩
  · rcases key e1 a1 with ⟨h1, f1, b1⟩ | ⟨h1, f1, b1⟩
    · rcases key e2 a2 with ⟨h2, f2, b2⟩ | ⟨h2, f2, b2⟩
      · exact s.inj i j a c1 c2 f1 n1 f2 n2 b1 b2
      · exact absurd (by rw [b2]; exact List.mem_cons_self) (s.apart i c1 a f1 n1 b1)
    · rcases key e2 a2 with ⟨h2, f2, b2⟩ | ⟨h2, f2, b2⟩
      · exact absurd (by rw [b1]; exact List.mem_cons_self) (s.apart j c2 a f2 n2 b2)
      · omega
  · rcases key e1 e2 with ⟨h1, f1, b1⟩ | ⟨h1, f1, b1⟩
    · exact CellOk.le dd (s2.cells i c1 a f1 b1)
    · rw [f1, b1]; exact CellOk.le dd hc
  · rcases key e1 a1 with ⟨h1, f1, b1⟩ | ⟨h1, f1, b1⟩
    · exact fun m => s.apart i c1 a f1 n1 b1 (List.mem_cons_of_mem _ m)
    · rw [b1]; exact hn
end
end Sh
namespace Sh
open PySem L2
theorem takes_WF {X : Cx} : Takes X WF := fun u s' ⟨a, B, sI, pins, σ, H, cls, d, e, I, nb, up, sky, na, os, ag, w⟩ => w.elim
/-! ### {k: v, ..} -/
def keyD : Key → PyData
  | .inl i => .int i
  | .inr x => .str x
/-- the pairs' trees and their functions -/
def GoodP (g : G) (trs : List (TE × TE)) (ps : List (Key × ME)) : Prop := ∀ (σ : L2.St) (H : Hp) (Q : List (V × V) → Hp → Prop) (env : Env) (cs : CS) (as : AS) (ys : List (Key × PyData)) (cs' : CS), Sat g cs as H env σ → dPairs ps env cs = .ok ys cs' →
  (∀ as' H' (vs : List (Key × V)), Hs g cs' as' H' → Exn cs as H cs' as' H' → RepKV g cs' as' H' vs ys → Q (vs.map fun kv => (kV kv.1, kv.2)) H') → tPairs trs σ H Q
def PP (X : Cx) (g : G) (pos : Pos) (keys : List (Option Expr)) (values : List Expr) (ps : List (Key × ME)) : Prop := ps.length = keys.length ∧ ∃ trs, PPs X pos keys values trs ∧ GoodP g trs ps
section
variable {X : Cx} {g : G} {W : WX} {pos : Pos}
theorem sp_nil : PP X g pos [] [] [] := ⟨rfl, [], pps_nil, fun σ H Q env cs as ys cs' s e h => by
  have e' : R.ok [] cs = R.ok ys cs' := e
  cases e'
  exact h as H [] s.hs Exn.refl .nil⟩
theorem noEx_eq {α : Type} {r : R α} {a : α} {cs : CS} (h : noEx r = .ok a cs) : r = .ok a cs := by
  cases r with
  | ok b c => exact h
  | ex b c => cases h
  | no => cases h
theorem bind_eq {α β : Type} {r : R α} {k : α → CS → R β} {b : β} {cs : CS} (h : r.bind k = .ok b cs) : ∃ a cs1, r = .ok a cs1 ∧ k a cs1 = .ok b cs := by
  cases r with
  | ok a c => exact ⟨a, c, rfl, h⟩
  | ex a c => cases h
  | no => cases h
theorem sp_cons {k v : Expr} {ks : List (Option Expr)} {vs : List Expr} {kk : Key} {m : ME} {ps : List (Key × ME)} (hk : PE X k (den g WF (eC (keyD kk)))) (hv : PE X v (den g WF m)) (hr : PP X g pos ks vs ps) : PP X g pos (some k :: ks) (v :: vs) ((kk, m) :: ps) := by
  obtain ⟨hl, trs, h1, h2⟩ := hr
  refine ⟨by rw [List.length_cons, List.length_cons, hl], _, pps_cons hk hv h1, fun σ H Q env cs as ys cs' s e h => ?_⟩
  have e' : ((noEx (m env cs)).bind fun a cs1 => match asD a with
    | some x => (dPairs ps env cs1).bind fun ys cs2 => .ok ((kk, x) :: ys) cs2
    | none => .no) = R.ok ys cs' := e
  obtain ⟨a, cs1, q1, q2⟩ := bind_eq e'
  have q1 := noEx_eq q1
  cases a with
  | c _ => cases q2
  | s _ => cases q2
  | x _ => cases q2
  | d x =>
    obtain ⟨ys', cs2, q3, q4⟩ := bind_eq (show ((dPairs ps env cs1).bind fun ys cs2 => R.ok ((kk, x) :: ys) cs2) = .ok ys cs' from q2)
    cases q4
    refine ⟨env, cs, as, s, ?_⟩
    show Post g WF σ cs as H _ (R.ok (A.d (keyD kk)) cs)
    refine fun as1 H1 hs1 e1 kv rk => ?_
    have rk' : kv = kV kk := by
      cases kk with
      | inl i => exact rep_int rk
      | inr x => exact rep_str rk
    subst rk'
    have s1 := s.exn hs1 e1
    refine ⟨env, cs, as1, s1, ?_⟩
    rw [q1]
    refine fun as2 H2 hs2 e2 v rv => ?_
    refine h2 σ H2 _ env cs1 as2 ys' cs' (s1.exn hs2 e2) q3 fun as3 H3 vs hs3 e3 rr => ?_
    exact h as3 H3 ((kk, v) :: vs) hs3 ((e1.trans e2).trans e3) (.cons ⟨rfl, (RepA.exn e3 rv : RepA g cs' as3 H3 v (.d x))⟩ rr)
theorem se_dict {keys : List (Option Expr)} {values : List Expr} {ps : List (Key × ME)} (hp : PP X g pos keys values ps) (hall : keys.all (·.isSome) = true := by rfl) (hl : keys.length = values.length := by rfl) (h0 : keys ≠ [] := by exact fun h => nomatch h) (h15 : keys.length ≤ 15 := by decide) :
    PE X (.Dict keys values pos) (den g W (eDict ps)) := by
  obtain ⟨hlen, trs, h1, h2⟩ := hp
  refine pe_imp (pe_disp h1 hall hl h0 h15) fun σ H Q ⟨env, cs, as, s, h⟩ p hp => ?_
  obtain ⟨hh, hd⟩ := s.hs.hide (o := .dK []) hp
  have hnp : p ∉ as.hid := fun m => by
    obtain ⟨o, q⟩ := s.hs.there p m
    rw [hp] at q; cases q
  have sh : Sat g cs ⟨as.l, p :: as.hid⟩ (upd H p (.dK [])) env σ := by
    refine ⟨hh, s.len, fun j x q => ?_⟩
    obtain ⟨v, q1, q2⟩ := s.slots j x q
    refine ⟨v, q1, ?_⟩
    cases x with
    | d y => exact Dq.le (fun a o z => (hd a o).mp z) q2
    | c n => exact q2
    | s ns => obtain ⟨a, e1, e2⟩ := q2; exact ⟨a, e1, Le.sqL (fun a o z => (hd a o).mp z) e2⟩
    | x _ => obtain ⟨a, d, e1, e2, e3⟩ := q2; exact ⟨a, d, e1, e2, RepX.le (fun a o z => (hd a o).mp z) e3⟩
  unfold eDict at h
  cases q : dPairs ps env cs with
  | no => rw [q] at h; exact h.elim
  | ex x c =>
    exfalso
    have key : ∀ (ps : List (Key × ME)) (cs : CS), dPairs ps env cs ≠ .ex x c := fun ps => by
      induction ps with
      | nil => intro cs z; cases z
      | cons km ps ih =>
        intro cs z
        obtain ⟨kk, m⟩ := km
        have z' : ((noEx (m env cs)).bind fun a cs1 => match asD a with
          | some x => (dPairs ps env cs1).bind fun ys cs2 => .ok ((kk, x) :: ys) cs2
          | none => .no) = (R.ex x c : R (List (Key × PyData))) := z
        cases qm : m env cs with
        | no => rw [qm] at z'; cases z'
        | ex _ _ => rw [qm] at z'; cases z'
        | ok a cs1 =>
          rw [qm] at z'
          cases a with
          | c _ => cases z'
          | s _ => cases z'
          | x _ => cases z'
          | d y =>
            have z2 : ((dPairs ps env cs1).bind fun ys cs2 => R.ok ((kk, y) :: ys) cs2) = (R.ex x c : R (List (Key × PyData))) := z'
            cases qr : dPairs ps env cs1 with
            | no => rw [qr] at z2; cases z2
            | ok _ _ => rw [qr] at z2; cases z2
            | ex x2 c2 =>
              rw [qr] at z2
              have z3 : (R.ex x2 c2 : R (List (Key × PyData))) = .ex x c := by
                have : x2 = x ∧ c2 = c := by injection z2 with a b; exact ⟨a, b⟩
                rw [this.1, this.2]
              exact ih cs1 (qr.trans z3)
    exact key ps cs q
  | ok ys cs1 =>
    rw [q] at h
    refine h2 σ _ _ env cs ⟨as.l, p :: as.hid⟩ ys cs1 sh q fun as1 H1 vs hs1 e1 rr => ?_
    have kp : H1 p = some (.dK []) := (e1.kept p List.mem_cons_self).trans upd_same
    refine ⟨kp, vs, rfl, ?_, ?_⟩
    · have k1 : vs.length = ys.length := Paired.length rr
      have k2 : ∀ (ps : List (Key × ME)) (cs : CS) (ys : List (Key × PyData)) (cs1 : CS), dPairs ps env cs = .ok ys cs1 → ys.length = ps.length := fun ps => by
        induction ps with
        | nil => intro cs ys cs1 z; cases z; rfl
        | cons km ps ih =>
          intro cs ys cs1 z
          obtain ⟨kk, m⟩ := km
          obtain ⟨a, c1, _, z2⟩ := bind_eq (show ((noEx (m env cs)).bind fun a cs1 => match asD a with
            | some x => (dPairs ps env cs1).bind fun ys cs2 => .ok ((kk, x) :: ys) cs2
            | none => .no) = R.ok ys cs1 from z)
          cases a with
          | c _ => cases z2
          | s _ => cases z2
          | x _ => cases z2
          | d y =>
            obtain ⟨ys', c2, z3, z4⟩ := bind_eq (show ((dPairs ps env c1).bind fun ys cs2 => R.ok ((kk, y) :: ys) cs2) = .ok ys cs1 from z2)
            cases z4
            rw [List.length_cons, List.length_cons, ih c1 ys' cs1 z3]
      rw [k1, k2 ps cs ys cs1 q, hlen]; exact h15
    · have eas : as1 = ⟨as1.l, p :: as.hid⟩ := by
        have := e1.hid
        cases as1
        cases this
        rfl
      rw [eas] at hs1 rr
      obtain ⟨_, d1⟩ := hs1.hidSet (o := .dK (mergeK [] vs)) (p := p) List.mem_cons_self
      have hc : CellOk g cs1 ⟨as1.l, p :: as.hid⟩ (upd H1 p (.dK (mergeK [] vs))) p (.dk (mergeP [] ys)) := ⟨_, upd_same, mergeP_rep (repKV_le d1 rr) .nil⟩
      obtain ⟨hs2, l2⟩ := Hs.hidCell hs1 hnp hc
      refine h ⟨as1.l ++ [p], as.hid⟩ _ hs2 ⟨fun i b z => getElem?_left (e1.pre i b z), fun b o z => ?_, rfl, fun b m => ?_⟩ _ ⟨p, ?_, rfl⟩
      · have z2 := e1.dat b o ((hd b o).mp z)
        rw [eas] at z2
        exact l2 b o z2
      · have ne : b ≠ p := fun z => hnp (z ▸ m)
        rw [upd_ne ne, e1.kept b (List.mem_cons_of_mem _ m), upd_ne ne]
      · show (as1.l ++ [p])[cs1.length]? = some p
        have : as1.l.length = cs1.length := hs1.len
        rw [← this, List.getElem?_append_right (Nat.le_refl _), Nat.sub_self] <;> rfl
end
/-! ### tuple(range(..)), list(range(..)) -/
def rgD (a b : Int) : List PyData := (List.range (b - a).toNat).map fun i => PyData.int (a + (i : Nat))
def rgOk (a b : Int) : Bool := decide (a.natAbs < 4611686018427387904 ∧ b.natAbs < 4611686018427387904 ∧ (b - a).toNat ≤ 16777216)
theorem rgOk_of {a b : Int} (h : rgOk a b = true) : RgOk a b := by
  unfold rgOk at h
  have h' := of_decide_eq_true h
  unfold RgOk
  omega
theorem rgD_rep {K : PySem.W.Frag} {H : Hp} (a b : Int) : DqAll K H (rgV a b) (rgD a b) := by
  unfold rgV rgD
  generalize List.range (b - a).toNat = l
  induction l with
  | nil => exact .nil
  | cons i l ih => exact .cons (.int _) ih
end Sh
namespace L2
open PySem PySem.Spec PyProof.Rows
def tTupRgN (te : St → Hp → (Int → Int → Hp → Prop) → Prop) : TE := fun σ H Q => te σ H fun a b H1 => RgOk a b ∧ ∀ (q : Addr) (o : Obj), o.dict = none → H1 q = none → Q (.ref q) (upd H1 q (.frz o (.tup (rgV a b))))
theorem pe_tupRgN {X : Cx} {e : Expr} {te : St → Hp → (Int → Int → Hp → Prop) → Prop} {p pos : Pos} (hc : X.calm = true) (hg : Gl X "tuple") (hm : X.mg "tuple" = none) (he : PRg X e te) (na : starEach [e] X.env = (false, eval e X.env) :: starEach [] X.env := by rfl) : PE X (.Call (.Name "tuple" p) [e] [] pos) (tTupRgN te) :=
  ⟨fun pins s σ H Q I h => Call_ (ld_blt I hg hm boot_tuple (PyProof.Rows.callWith_type1 (args_cons (thn (he pins s σ H _ I h) fun x s1 ⟨r, a, b, t, u, v, H1, ex, hr, I1, ⟨b1, b2, b3, b4, b5⟩, q⟩ => args_nil (by
    subst ex
    exact call_tuple_range (n := (b - a).toNat) (I1.ok.hd hc) hr (small_one b1 b2 b3 b4) (rangeSize_nat a b) b5 fun h' tk acc hk hi =>
      have I2 : Inv X pins σ H1 { s1 with heap := h', toks := tk } := I1.kept hk
      ⟨.ref h'.objs.size, _, I2.tnew (t' := tk) (its := acc.toList) (vals_rg hi) (by rw [rgV_length, sizeLine_eq]; omega), rfl, q _ (tO acc.toList) rfl (I2.hok.fresh (Nat.le_refl _))⟩)) na) na))⟩
end L2
namespace Sh
open PySem L2
def eTupRg1 (m : ME) : ME := fun env cs => (m env cs).bind fun x cs1 => match x with
  | .d (.int n) => if rgOk 0 n = true then .ok (.d (.tuple (rgD 0 n))) cs1 else .no
  | _ => .no
def eTupRg2 (m1 m2 : ME) : ME := fun env cs => (m1 env cs).bind fun x cs1 => (m2 env cs1).bind fun y cs2 => match x, y with
  | .d (.int a), .d (.int b) => if rgOk a b = true then .ok (.d (.tuple (rgD a b))) cs2 else .no
  | _, _ => .no
section
variable {X : Cx} {g : G} {W : WX} {m1 m2 : ME} {a b : Expr} {p pos p2 pos2 : Pos}
theorem se_tupRg1 (hc : X.calm = true) (hg : Gl X "range") (hm : X.mg "range" = none) (ha : PE X a (den g W m1)) (hg2 : Gl X "tuple") (hm2 : X.mg "tuple" = none) (na : starEach [a] X.env = (false, eval a X.env) :: starEach [] X.env := by rfl) (na2 : starEach [(.Call (.Name "range" p) [a] [] pos)] X.env = (false, eval (.Call (.Name "range" p) [a] [] pos) X.env) :: starEach [] X.env := by rfl) :
    PE X (.Call (.Name "tuple" p2) [.Call (.Name "range" p) [a] [] pos] [] pos2) (den g W (eTupRg1 m1)) :=
  pe_imp (pe_tupRgN hc hg2 hm2 (prg_1 hg hm ha na) na2) fun σ H Q ⟨env, cs, as, s, h⟩ => ⟨env, cs, as, s, (Post.bind h).mono fun x cs1 as1 H1 hs1 e1 h1 v rv => by
    split at h1
    · rename_i n
      cases rep_int rv
      split at h1
      · rename_i ho
        exact ⟨n, rfl, rgOk_of ho, fun q o ho' hq => PostA.tup h1 hs1 ho' hq (rgD_rep 0 n)⟩
      · exact h1.elim
    · exact h1.elim⟩
theorem se_tupRg2 (hc : X.calm = true) (hg : Gl X "range") (hm : X.mg "range" = none) (ha : PE X a (den g W m1)) (hb : PE X b (den g W m2)) (hg2 : Gl X "tuple") (hm2 : X.mg "tuple" = none) (na : starEach [a, b] X.env = (false, eval a X.env) :: starEach [b] X.env := by rfl)
    (nb : starEach [b] X.env = (false, eval b X.env) :: starEach [] X.env := by rfl) (hp : (backTo pos (starEach [b] X.env)).any (·.1) = false := by rfl) (na2 : starEach [(.Call (.Name "range" p) [a, b] [] pos)] X.env = (false, eval (.Call (.Name "range" p) [a, b] [] pos) X.env) :: starEach [] X.env := by rfl) :
    PE X (.Call (.Name "tuple" p2) [.Call (.Name "range" p) [a, b] [] pos] [] pos2) (den g W (eTupRg2 m1 m2)) :=
  pe_imp (pe_tupRgN hc hg2 hm2 (prg_2 hg hm ha hb na nb hp) na2) fun σ H Q ⟨env, cs, as, s, h⟩ => ⟨env, cs, as, s, (Post.bind h).mono fun x cs1 as1 H1 hs1 e1 h1 v rv => ⟨env, cs1, as1, s.exn hs1 e1, (Post.bind h1).mono fun y cs2 as2 H2 hs2 e2 h2 u ru => by
    split at h2
    · rename_i i j
      cases rep_int rv
      cases rep_int ru
      split at h2
      · rename_i ho
        exact ⟨i, j, rfl, rfl, rgOk_of ho, fun q o ho' hq => PostA.tup h2 hs2 ho' hq (rgD_rep i j)⟩
      · exact h2.elim
    · exact h2.elim⟩⟩
end
end Sh
namespace Sh
open PySem L2
/-! ### a, b, .. = x, y, .. -/
def setAll : List Nat → List A → Env → Env
  | i :: is, a :: as, env => setAll is as (env.set i (some a))
  | _, _, env => env
def sParL (is : List Nat) (ma : MA) : MS := fun env cs => (ma env cs).toS env fun xs cs1 => if xs.length = is.length ∧ xs.length ≤ sizeLine then .nx (setAll is xs env) cs1 else .no
def denNs (g : G) (is : List Nat) : TGs := fun vs σ H Q => ∃ env cs as xs, Sat g cs as H env σ ∧ RepAs g cs as H vs xs ∧ xs.length = is.length ∧ ∀ σ', Sat g cs as H (setAll is xs env) σ' → Q σ' H
section
variable {X : Cx} {g : G} {W : WX} {pos : Pos}
theorem sn_nil : PGs X [] (denNs g []) := pgs_imp pgs_nil fun v σ H Q ⟨env, cs, as, xs, s, r, e, h⟩ => by
  cases xs with
  | nil => cases r; exact ⟨rfl, h _ s⟩
  | cons _ _ => cases e
theorem sn_cons {i : Nat} {x : Str} {is : List Nat} {p : Pos} {es : List Expr} (hN : X.N.Nodup) (hi : X.N[i]? = some x) (hx : Loc X.env.scope x) (h2 : PGs X es (denNs g is)) (hf : X.fn x = true ∨ X.env.scope.names.lookup x = some .local := by first | exact .inl rfl | exact .inr rfl | assumption)
    (hs : (assignEach (.Name x p :: es) X.env).map (·.2) = assign (.Name x p) X.env :: (assignEach es X.env).map (·.2) := by rfl) : PGs X (.Name x p :: es) (denNs g (i :: is)) :=
  pgs_imp (pgs_cons (pg_name hN hi hx hf) h2 hs) fun v σ H Q ⟨env, cs, as, xs, s, r, e, h⟩ => by
    cases xs with
    | nil => cases e
    | cons y ys =>
      cases r with
      | cons r1 r2 => exact ⟨_, _, rfl, _, cs, as, ys, s.set r1, r2, by simpa using e, fun σ' s' => h σ' s'⟩
theorem ss_parL {is : List Nat} {es vs : List Expr} {ma : MA} {kt k2 : Nat} {pt pt2 : Pos} {n : Nat} (hc : X.calm = true) (hK : X.K = g.K) (hg : PGs X es (denNs g is)) (ha : PA X vs (denA g W ma)) (hl : is.length = n := by rfl)
    (hn : (assignEach es X.env).length = n := by rfl) (hst : (assignEach es X.env).findIdx? (·.1) = none := by rfl)
    (hs : swapsWithSole [.Tuple es kt pt] (.Tuple vs k2 pt2) pos.line X.env = pure false := by rfl) (hw : swappedStores [.Tuple es kt pt] (.Tuple vs k2 pt2) X.env = pure none := by rfl)
    (h1 : (assignEach [.Tuple es kt pt] X.env).map (·.2) = [assign (.Tuple es kt pt) X.env] := by rfl) : PS X (.Assign [.Tuple es kt pt] (.Tuple vs k2 pt2) pos) (denS g W (sParL is ma)) :=
  ps_imp (ps_asg (pe_tup ha) (pg_tup hc hg hn hst) hs hw h1) fun D σ H ⟨env, cs, as, s, h⟩ => ⟨env, cs, as, s, (post_toS s h).mono fun xs cs1 as1 H1 hs1 e1 h1 us ru => by
    split at h1
    · rename_i hx
      refine ⟨by rw [ru.length]; exact hx.2, fun p hp => ?_⟩
      have en := exn_new (o := .tup us) hs1 hp
      refine ⟨p, us, rfl, SqT.of upd_same, by rw [ru.length, hx.1, hl], env, cs1, as1, xs, s.exn (hs1.new hp) (e1.trans en), ru.exn en, hx.1, fun σ' s' => h1 σ' as1 _ s' en⟩
    · exact h1.elim⟩
/-- three plain names -/
def sPar3 (i j l : Nat) (ma mb mc : ME) : MS := fun env cs => (ma env cs).toS env fun a cs1 => (mb env cs1).toS env fun b cs2 => (mc env cs2).toS env fun c cs3 => .nx (((env.set i (some a)).set j (some b)).set l (some c)) cs3
theorem ss_par3 {i j l : Nat} {x y z : Str} {a b c : Expr} {ma mb mc : ME} {px py pz pt : Pos} {kt k2 pt2} (hc : X.calm = true) (hN : X.N.Nodup) (hi : X.N[i]? = some x) (hj : X.N[j]? = some y) (hl : X.N[l]? = some z) (hij : i ≠ j) (hil : i ≠ l) (hjl : j ≠ l)
    (hx : X.env.scope.names.lookup x = some .local) (hy : X.env.scope.names.lookup y = some .local) (hz : X.env.scope.names.lookup z = some .local) (ha : PE X a (den g W ma)) (hb : PE X b (den g W mb)) (hcc : PE X c (den g W mc))
    (h1 : starEach [a, b, c] X.env = (false, eval a X.env) :: starEach [b, c] X.env := by rfl) (h2 : starEach [b, c] X.env = (false, eval b X.env) :: starEach [c] X.env := by rfl) (h3 : starEach [c] X.env = (false, eval c X.env) :: starEach [] X.env := by rfl)
    (hw : swappedStores [.Tuple [.Name x px, .Name y py, .Name z pz] kt pt] (.Tuple [a, b, c] k2 pt2) X.env = pure (some [x, y, z]) := by rfl)
    (hs : swapsWithSole [.Tuple [.Name x px, .Name y py, .Name z pz] kt pt] (.Tuple [a, b, c] k2 pt2) pos.line X.env = pure false := by rfl) :
    PS X (.Assign [.Tuple [.Name x px, .Name y py, .Name z pz] kt pt] (.Tuple [a, b, c] k2 pt2) pos) (denS g W (sPar3 i j l ma mb mc)) :=
  ps_imp (ps_par3 hc hN hi hj hl hij hil hjl hx hy hz (pa_cons ha (pa_cons hb (pa_cons hcc pa_nil h3) h2) h1) hw hs) fun D σ H ⟨env, cs, as, s, h⟩ =>
    ⟨env, cs, as, s, (post_toS s h).mono fun a cs1 as1 H1 hs1 e1 h1 v rv => ⟨env, cs1, as1, s.exn hs1 e1, (post_toS (s.exn hs1 e1) h1).mono fun b cs2 as2 H2 hs2 e2 h2 w rw' =>
      ⟨env, cs2, as2, s.exn hs2 (e1.trans e2), (post_toS (s.exn hs2 (e1.trans e2)) h2).mono fun c cs3 as3 H3 hs3 e3 h3 u ru =>
        ⟨v, w, u, rfl, h3 _ as3 H3 ((((s.exn hs3 ((e1.trans e2).trans e3)).set ((rv.exn e2).exn e3)).set (rw'.exn e3)).set ru) Exn.refl⟩⟩⟩⟩
end
/-! ### the law's end -/
def spLaw (K : PySem.W.Frag) : Sp := fun vs H Q _ => ∃ (a : Addr) (ns : List Int), vs = [.ref a] ∧ SqL K H a (ns.map V.int) ∧ ns.length ≤ 63 ∧ (∀ z ∈ ns, Builtin.Int.intBits z ≤ 1048576) ∧ ∀ H', Q (.bl true) H'
theorem law_fn {P : Program} {w : World} {g : G} {mg : Str → Option Value} {base : Heap} {CX : CXT} {k : Nat} {f : Addr} {fd : FuncData} {ps : List Str} {F : Fn} (h : FnOk P w g.K mg base CX k f fd ps (spOf g 1 F))
    (hF : ∀ ns : List Int, ns.length ≤ 63 → (∀ z ∈ ns, Builtin.Int.intBits z ≤ 1048576) → ∃ cs, F [.s ns] [] = .ok (.d (.bool true)) cs) : FnOk P w g.K mg base CX k f fd ps (spLaw g.K) :=
  h.imp fun vs H Q E ⟨a, ns, e, hS, h63, hb, q⟩ => by
    subst e
    obtain ⟨cs, hc⟩ := hF ns h63 hb
    have nl : ∀ b, ¬ live [] ⟨[], []⟩ b := fun b l => by
      rcases l with ⟨i, c, e1, _, _⟩ | l
      · simp at e1
      · cases l
    have le : Le H (dat [] ⟨[], []⟩ H) := fun b o z => dat_some.mpr ⟨nl b, z⟩
    refine ⟨rfl, [], ⟨[], []⟩, [.s ns], ⟨rfl, fun i j b c c' e1 => by simp at e1, fun i c b e1 => by simp at e1, fun i c b e1 => by simp at e1, fun b hb => by cases hb⟩, .cons ⟨a, rfl, Le.sqL le hS⟩ .nil, ?_⟩
    rw [hc]
    exact fun as' H' hs' e' v rv => by cases rep_bl rv; exact q H'
theorem walkS {l : PySem.W.OpenLaw} {q : Program} {loose : List Str} {XP : (Str → Option Value) → Heap → Prop} {YP : World → Heap → Prop} {d : DefRec} {K : Params → PySem.W.Frag} {k : Nat} (hn : l.most = some 63) (hdf : d.params.defaults = []) (hk : Room k callerA)
    (hY : ∀ (w : World) (h : Heap), YP w h → (K w.params).In h)
    (F : ∀ (w : World) (mg : Str → Option Value) (fa : Addr) (h : Heap), (K w.params).In h → h.Ns mainGlobals mg → mg d.name = some (.ref fa) →
      ∃ fd : FuncData, (∀ (s : Shared) (u : Value), BindsTo s fd ⟨[u], []⟩ [("script", u)]) ∧ ∀ base : Heap, (K w.params).In base → base.Ns mainGlobals mg → FnOk l.prog w (K w.params) mg base (L2.CX l.prog w) k fa fd ["script"] (spLaw (K w.params))) :
    PySem.W.WalkO q loose XP YP l.row.toRowW d [] (fun f vs => PySem.call f vs) :=
  L2.walk_ofB (n := 63) (k := k) (x := "script") (CX := fun w => L2.CX l.prog w) (sp := fun w => spLaw (K w.params)) hn (by decide) hdf hk hY F (fun _ _ a ns hl hb _ hS => ⟨a, ns, rfl, hS, hl, hb, fun _ => rfl⟩) fun w H s e s' z => by
    obtain ⟨_, _, _, _, _, _, _, _, _, _, _, _, z⟩ := z
    exact z
end Sh
namespace Sh
open PySem L2
/-! ### a call that is handed plain data alone, and hands back plain data: the cells stand aside -/
def isPl : A → Bool
  | .c _ => false
  | .x _ => false
  | _ => true
def plainR (cs : CS) : R A → R A
  | .ok (.d x) [] => .ok (.d x) cs
  | .ex e [] => .ex e cs
  | _ => .no
def plainF (F : Fn) : Fn := fun xs cs => if xs.all isPl = true then plainR cs (F xs []) else .no
section
variable {g : G} {cs : CS} {as : AS} {H : Hp}
/-- the cells' addresses -/
def liveL : CS → List Addr → List Addr
  | c :: cs, a :: l => match c with
    | .dead => liveL cs l
    | _ => a :: liveL cs l
  | _, _ => []
theorem liveL_iff : ∀ {cs : CS} {l : List Addr} {a : Addr}, a ∈ liveL cs l ↔ ∃ (i : Nat) (c : Cell), cs[i]? = some c ∧ c ≠ .dead ∧ l[i]? = some a
  | [], l, a => by simp [liveL]
  | c :: cs, [], a => by simp [liveL]
  | c :: cs, b :: l, a => by
    have ih := liveL_iff (cs := cs) (l := l) (a := a)
    have key : (∃ (i : Nat) (c' : Cell), (c :: cs)[i]? = some c' ∧ c' ≠ .dead ∧ (b :: l)[i]? = some a) ↔ (c ≠ .dead ∧ b = a) ∨ a ∈ liveL cs l := by
      rw [ih]
      constructor
      · rintro ⟨i, c', h1, h2, h3⟩
        cases i with
        | zero => simp at h1 h3; subst h1; exact .inl ⟨h2, h3⟩
        | succ i => simp at h1 h3; exact .inr ⟨i, c', h1, h2, h3⟩
      · rintro (⟨h1, h2⟩ | ⟨i, c', h1, h2, h3⟩)
        · exact ⟨0, c, by simp, h1, by simp [h2]⟩
        · exact ⟨i + 1, c', by simpa using h1, h2, by simpa using h3⟩
    rw [key]
    cases c <;> simp [liveL, eq_comm]
def aside (cs : CS) (as : AS) : AS := ⟨[], liveL cs as.l ++ as.hid⟩
theorem live_aside {a : Addr} : live [] (aside cs as) a ↔ live cs as a := by
  unfold live aside
  simp only [List.mem_append, liveL_iff]
  constructor
  · rintro (⟨i, c, h, _⟩ | h)
    · simp at h
    · exact h
  · exact .inr
theorem dat_aside : dat [] (aside cs as) H = dat cs as H := by
  funext a
  classical
  by_cases h : live cs as a
  · unfold dat; rw [if_pos h, if_pos (live_aside.mpr h)]
  · unfold dat; rw [if_neg h, if_neg fun z => h (live_aside.mp z)]
theorem Hs.aside (s : Hs g cs as H) : Hs g [] (aside cs as) H := by
  refine ⟨rfl, fun i j a c c' e => by simp at e, fun i c a e => by simp at e, fun i c a e => by simp at e, fun a ha => ?_⟩
  rcases List.mem_append.mp ha with h | h
  · obtain ⟨i, c, e1, n1, e2⟩ := liveL_iff.mp h
    have k := s.cells i c a e1 e2
    cases c with
    | dead => exact absurd rfl n1
    | lst _ => obtain ⟨vs, q, _⟩ := k; exact ⟨_, q⟩
    | dk _ => obtain ⟨vs, q, _⟩ := k; exact ⟨_, q⟩
    | dt _ => obtain ⟨vs, q, _⟩ := k; exact ⟨_, q⟩
  · exact s.there a h
theorem RepA.aside {v : V} {x : A} (h : isPl x = true) (r : RepA g cs as H v x) : RepA g [] (aside cs as) H v x := by
  cases x with
  | d x => show Dq g.K (dat [] (Sh.aside cs as) H) v x; rw [dat_aside]; exact r
  | c n => cases h
  | x n => cases h
  | s ns => obtain ⟨a, e, q⟩ := r; exact ⟨a, e, by rw [dat_aside]; exact q⟩
theorem RepAs.aside : ∀ {vs : List V} {xs : List A}, xs.all isPl = true → RepAs g cs as H vs xs → RepAs g [] (aside cs as) H vs xs
  | _, _, _, .nil => .nil
  | _, _, h, .cons a b => by
    simp only [List.all_cons, Bool.and_eq_true] at h
    exact .cons (a.aside h.1) (RepAs.aside h.2 b)
/-- and back -/
theorem Hs.back {as' : AS} {H' : Hp} (s : Hs g cs as H) (s' : Hs g [] as' H') (e : Exn [] (Sh.aside cs as) H [] as' H') :
    Hs g cs as H' ∧ Exn cs as H cs as H' ∧ (∀ a, live [] as' a ↔ live cs as a) ∧ dat [] as' H' = dat cs as H' := by
  have eas : as' = Sh.aside cs as := by
    have h1 := e.hid
    have h2 : as'.l = [] := List.eq_nil_of_length_eq_zero s'.len
    cases as'
    cases h1
    cases h2
    rfl
  subst eas
  have kp : ∀ a, live cs as a → H' a = H a := fun a l => e.kept a (by
    rcases live_aside.mpr l with ⟨i, c, h, _⟩ | h
    · simp at h
    · exact h)
  have dd : ∀ a o, dat cs as H a = some o → dat cs as H' a = some o := fun a o h => by
    rw [← dat_aside] at h ⊢
    exact e.dat a o h
  refine ⟨⟨s.len, s.inj, fun i c a e1 e2 => ?_, s.apart, fun a ha => ?_⟩, ⟨fun _ _ h => h, dd, rfl, fun a ha => kp a (.inr ha)⟩, fun a => live_aside, dat_aside⟩
  · have k := s.cells i c a e1 e2
    have hk : c ≠ .dead → H' a = H a := fun n1 => kp a (.inl ⟨i, c, e1, n1, e2⟩)
    cases c with
    | dead => trivial
    | lst _ => obtain ⟨vs, q, r⟩ := k; exact ⟨vs, by rw [hk (fun z => nomatch z)]; exact q, DqAll.le dd r⟩
    | dk _ => obtain ⟨vs, q, r⟩ := k; exact ⟨vs, by rw [hk (fun z => nomatch z)]; exact q, Paired.mono (fun _ _ z => ⟨z.1, Dq.le dd z.2⟩) r⟩
    | dt _ => obtain ⟨vs, q, r⟩ := k; exact ⟨vs, by rw [hk (fun z => nomatch z)]; exact q, Paired.mono (fun _ _ z => ⟨z.1, Dq.le dd z.2⟩) r⟩
  · obtain ⟨o, q⟩ := s.there a ha
    exact ⟨o, by rw [kp a (.inr ha)]; exact q⟩
end
theorem fnOk_plain {P : Program} {w : World} {g : G} {mg : Str → Option Value} {base : Heap} {CX : CXT} {k n : Nat} {f : Addr} {fd : FuncData} {ps : List Str} {F : Fn} (h : FnOk P w g.K mg base CX k f fd ps (spOf g n F)) : FnOk P w g.K mg base CX k f fd ps (spOf g n (plainF F)) :=
  h.imp fun vs H Q E ⟨hl, cs, as, xs, s, r, p⟩ => by
    refine ⟨hl, [], aside cs as, xs, s.aside, ?_⟩
    unfold plainF at p
    split at p
    case isFalse => exact p.elim
    rename_i hp
    refine ⟨r.aside hp, ?_⟩
    unfold plainR at p
    split at p
    · rename_i x e
      rw [e]
      exact fun as' H' s' e' v rv => by
        obtain ⟨b1, b2, b3, b4⟩ := s.back s' e'
        refine p as H' b1 b2 v ?_
        show Dq g.K (dat cs as H') v x
        rw [← b4]
        exact rv
    · rename_i x e
      rw [e]
      exact fun d as' H' s' e' rx => by
        obtain ⟨b1, b2, b3, b4⟩ := s.back s' e'
        refine p d as H' b1 b2 ?_
        rcases rx with ⟨h1, h2⟩ | ⟨dd, ws, h1, h2, h3, h4⟩
        · exact .inl ⟨h1, h2⟩
        · exact .inr ⟨dd, ws, h1, h2, fun l => h3 ((b3 dd).mpr l), by rw [← b4]; exact h4⟩
    · exact p.elim
end Sh
namespace Sh
open PySem L2
/-! ### the functions, read: what simp may unfold -/
section
variable {cs : CS} {env : Env}
@[simp] theorem eC_at {x : PyData} : eC x env cs = .ok (.d x) cs := rfl
@[simp] theorem eBin_at {f : A → A → CS → R A} {ma mb : ME} : eBin f ma mb env cs = (ma env cs).bind fun x cs1 => (mb env cs1).bind fun y cs2 => f x y cs2 := rfl
@[simp] theorem eUn_at {f : A → CS → R A} {ma : ME} : eUn f ma env cs = (ma env cs).bind fun x cs1 => f x cs1 := rfl
@[simp] theorem tTr_at {m : ME} : tTr m env cs = (m env cs).bind fun a cs1 => match truD cs1 a with
  | some b => .ok b cs1
  | none => .no := rfl
@[simp] theorem tAndM_at {t u : MT} : tAndM t u env cs = (t env cs).bind fun b cs1 => if b = true then u env cs1 else .ok false cs1 := rfl
@[simp] theorem tOrM_at {t u : MT} : tOrM t u env cs = (t env cs).bind fun b cs1 => if b = true then .ok true cs1 else u env cs1 := rfl
@[simp] theorem tNotM_at {t : MT} : tNotM t env cs = (t env cs).bind fun b cs1 => .ok (!b) cs1 := rfl
@[simp] theorem eIf_at {t : MT} {ma mb : ME} : eIf t ma mb env cs = (t env cs).bind fun c cs1 => if c = true then ma env cs1 else mb env cs1 := rfl
@[simp] theorem aNil_at : aNil env cs = .ok [] cs := rfl
@[simp] theorem aCons_at {m : ME} {mr : MA} : aCons m mr env cs = (m env cs).bind fun x cs1 => (mr env cs1).bind fun xs cs2 => .ok (x :: xs) cs2 := rfl
@[simp] theorem eCall_at {n : Nat} {F : Fn} {ma : MA} : eCall n F ma env cs = (ma env cs).bind fun xs cs1 => if xs.length = n then F xs cs1 else .no := rfl
@[simp] theorem eFn_at {f : List A → CS → R A} {ma : MA} : eFn f ma env cs = (ma env cs).bind fun xs cs1 => f xs cs1 := rfl
theorem sSeq_nx {m n : MS} {env1 : Env} {cs1 : CS} (h : m env cs = .nx env1 cs1) : sSeq m n env cs = n env1 cs1 := by simp only [sSeq, h]
theorem sSeq_rt {m n : MS} {a : A} {cs1 : CS} (h : m env cs = .rt a cs1) : sSeq m n env cs = .rt a cs1 := by simp only [sSeq, h]
@[simp] theorem sNext_at : sNext env cs = .nx env cs := rfl
@[simp] theorem sBreak_at : sBreak env cs = .bk env cs := rfl
@[simp] theorem sCont_at : sCont env cs = .ct env cs := rfl
@[simp] theorem sDrop_at {m : ME} : sDrop m env cs = (m env cs).toS env fun _ cs1 => .nx env cs1 := rfl
@[simp] theorem sRet_at {m : ME} : sRet m env cs = (m env cs).toS env fun a cs1 => .rt a cs1 := rfl
@[simp] theorem sRetN_at : sRetN env cs = .rt (.d .none) cs := rfl
@[simp] theorem sIf_at {t : MT} {m n : MS} : sIf t m n env cs = (t env cs).toS env fun b cs1 => if b = true then m env cs1 else n env cs1 := rfl
@[simp] theorem sAsg_at {m : ME} {tg : Tgt} : sAsg m tg env cs = (m env cs).toS env fun a cs1 => match tg a env cs1 with
  | some env' => .nx env' cs1
  | none => .no := rfl
@[simp] theorem tgName_at {i : Nat} {a : A} : tgName i a env cs = some (env.set i (some a)) := rfl
@[simp] theorem sPar_at {i j : Nat} {ma mb : ME} : sPar i j ma mb env cs = (ma env cs).toS env fun a cs1 => (mb env cs1).toS env fun b cs2 => .nx ((env.set i (some a)).set j (some b)) cs2 := rfl
@[simp] theorem sPar3_at {i j l : Nat} {ma mb mc : ME} : sPar3 i j l ma mb mc env cs = (ma env cs).toS env fun a cs1 => (mb env cs1).toS env fun b cs2 => (mc env cs2).toS env fun c cs3 => .nx (((env.set i (some a)).set j (some b)).set l (some c)) cs3 := rfl
@[simp] theorem sParL_at {is : List Nat} {ma : MA} : sParL is ma env cs = (ma env cs).toS env fun xs cs1 => if xs.length = is.length ∧ xs.length ≤ sizeLine then .nx (setAll is xs env) cs1 else .no := rfl
@[simp] theorem setAll_nil : setAll [] [] env = env := rfl
@[simp] theorem setAll_cons {i : Nat} {is : List Nat} {a : A} {as : List A} : setAll (i :: is) (a :: as) env = setAll is as (env.set i (some a)) := rfl
@[simp] theorem eMeth_at {T : String} {f : A → List A → CS → R A} {mo : ME} {ma : MA} : eMeth T f mo ma env cs = (mo env cs).bind fun o cs1 => if tyA cs1 o T = true then (ma env cs1).bind fun xs cs2 => f o xs cs2 else .no := rfl
@[simp] theorem tYesM_at : tYesM env cs = .ok true cs := rfl
@[simp] theorem eFrz_at {m : ME} : eFrz m env cs = (m env cs).bind fun a cs1 => freeze cs1 a := rfl
@[simp] theorem eNot_at {ma : ME} : eNot ma env cs = (asB (ma env cs)).bind fun b cs1 => .ok (.d (.bool (!b))) cs1 := rfl
@[simp] theorem eAnd_at {ma mb : ME} : eAnd ma mb env cs = (asB (ma env cs)).bind fun b cs1 => if b = true then mb env cs1 else .ok (.d (.bool false)) cs1 := rfl
@[simp] theorem eOr_at {ma mb : ME} : eOr ma mb env cs = (asB (ma env cs)).bind fun b cs1 => if b = true then .ok (.d (.bool true)) cs1 else mb env cs1 := rfl
@[simp] theorem wipeE_nil : wipeE [] env = env := rfl
@[simp] theorem wipeE_cons {i : Nat} {r : List Nat} : wipeE (i :: r) env = wipeE r (env.set i none) := rfl
@[simp] theorem sSeq_at {m n : MS} : sSeq m n env cs = (match m env cs with
  | .nx env1 cs1 => n env1 cs1
  | r => r) := by unfold sSeq; rfl
end
section
variable {cs : CS} {env : Env}
@[simp] theorem eVar_at {i : Nat} : eVar i env cs = (match env[i]? with
  | some (some a) => .ok a cs
  | _ => .no) := rfl
@[simp] theorem asB_bool {b : Bool} : asB (.ok (.d (.bool b)) cs) = .ok b cs := rfl
@[simp] theorem tOf_at {m : ME} : tOf m env cs = asB (m env cs) := rfl
@[simp] theorem truD_bool {b : Bool} : truD cs (.d (.bool b)) = some b := rfl
@[simp] theorem truD_int {i : Int} : truD cs (.d (.int i)) = some (i != 0) := rfl
@[simp] theorem truD_list {xs : List PyData} : truD cs (.d (.list xs)) = some (!xs.isEmpty) := rfl
@[simp] theorem truD_tuple {xs : List PyData} : truD cs (.d (.tuple xs)) = some (!xs.isEmpty) := rfl
@[simp] theorem truD_none : truD cs (.d .none) = some false := rfl
@[simp] theorem fAdd_int {i j : Int} : fAdd (.d (.int i)) (.d (.int j)) cs = .ok (.d (.int (i + j))) cs := rfl
@[simp] theorem fSub_int {i j : Int} : fSub (.d (.int i)) (.d (.int j)) cs = .ok (.d (.int (i - j))) cs := rfl
@[simp] theorem fAddI_int {i j : Int} : fAddI (.d (.int i)) (.d (.int j)) cs = .ok (.d (.int (i + j))) cs := rfl
@[simp] theorem fCmp_int {p : Int → Int → Bool} {i j : Int} : fCmp p (.d (.int i)) (.d (.int j)) cs = .ok (.d (.bool (p i j))) cs := rfl
@[simp] theorem fNeg_int {i : Int} : fNeg (.d (.int i)) cs = .ok (.d (.int (-i))) cs := rfl
theorem fMul_int {i j : Int} (h : mulOk i j = true) : fMul (.d (.int i)) (.d (.int j)) cs = .ok (.d (.int (i * j))) cs := by simp [fMul, h]
theorem mulOk_small {i j : Int} (h : i.natAbs < 18446744073709551616 ∨ j.natAbs < 18446744073709551616) : mulOk i j = true := decide_eq_true (.inl h)
theorem fDiv_int {i j : Int} (h : 0 < j) (h2 : divOk j = true) : fDiv (.d (.int i)) (.d (.int j)) cs = .ok (.d (.int (i / j))) cs := by simp [fDiv, h, h2]
theorem fMod_int {i j : Int} (h : 0 < j) : fMod (.d (.int i)) (.d (.int j)) cs = .ok (.d (.int (i % j))) cs := by simp [fMod, h]
@[simp] theorem fInt_int {i : Int} : fInt [.d (.int i)] cs = .ok (.d (.int i)) cs := rfl
@[simp] theorem eqvD_int {i j : Int} : eqvD (.int i) (.int j) = some (decide (i = j)) := rfl
@[simp] theorem eqvD_str {x y : Str} : eqvD (.str x) (.str y) = some (decide (x = y)) := rfl
@[simp] theorem eqvD_bool {x y : Bool} : eqvD (.bool x) (.bool y) = some (decide (x = y)) := rfl
theorem fEq_d {x y : PyData} {b : Bool} (h : eqvD x y = some b) : fEq (.d x) (.d y) cs = .ok (.d (.bool b)) cs := by simp [fEq, h]
theorem fNe_d {x y : PyData} {b : Bool} (h : eqvD x y = some b) : fNe (.d x) (.d y) cs = .ok (.d (.bool (!b))) cs := by simp [fNe, h]
@[simp] theorem fEq_int {i j : Int} : fEq (.d (.int i)) (.d (.int j)) cs = .ok (.d (.bool (decide (i = j)))) cs := rfl
@[simp] theorem fNe_int {i j : Int} : fNe (.d (.int i)) (.d (.int j)) cs = .ok (.d (.bool (!decide (i = j)))) cs := rfl
@[simp] theorem fEq_str {x y : Str} : fEq (.d (.str x)) (.d (.str y)) cs = .ok (.d (.bool (decide (x = y)))) cs := rfl
@[simp] theorem fNe_str {x y : Str} : fNe (.d (.str x)) (.d (.str y)) cs = .ok (.d (.bool (!decide (x = y)))) cs := rfl
theorem fIx_tup {xs : List PyData} {i : Int} {x : PyData} (h : atI xs i = some x) : fIx (.d (.tuple xs)) (.d (.int i)) cs = .ok (.d x) cs := by simp [fIx, h]
theorem fIx_lst {xs : List PyData} {i : Int} {x : PyData} (h : atI xs i = some x) : fIx (.d (.list xs)) (.d (.int i)) cs = .ok (.d x) cs := by simp [fIx, h]
theorem fIx_c {n : Nat} {xs : List PyData} {i : Int} {x : PyData} (hc : cs[n]? = some (.lst xs)) (h : atI xs i = some x) : fIx (.c n) (.d (.int i)) cs = .ok (.d x) cs := by simp [fIx, toL, hc, h]
@[simp] theorem fIx_t0 {x : PyData} {r : List PyData} : fIx (.d (.tuple (x :: r))) (.d (.int 0)) cs = .ok (.d x) cs := fIx_tup (atI_nat (j := 0) rfl)
@[simp] theorem fIx_t1 {x y : PyData} {r : List PyData} : fIx (.d (.tuple (x :: y :: r))) (.d (.int 1)) cs = .ok (.d y) cs := fIx_tup (atI_nat (j := 1) rfl)
@[simp] theorem fIx_t2 {x y z : PyData} {r : List PyData} : fIx (.d (.tuple (x :: y :: z :: r))) (.d (.int 2)) cs = .ok (.d z) cs := fIx_tup (atI_nat (j := 2) rfl)
@[simp] theorem fIx_t3 {x y z w : PyData} {r : List PyData} : fIx (.d (.tuple (x :: y :: z :: w :: r))) (.d (.int 3)) cs = .ok (.d w) cs := fIx_tup (atI_nat (j := 3) rfl)
@[simp] theorem fIx_l0 {x : PyData} {r : List PyData} : fIx (.d (.list (x :: r))) (.d (.int 0)) cs = .ok (.d x) cs := fIx_lst (atI_nat (j := 0) rfl)
theorem fIx_tn {xs : List PyData} {n : Nat} {x : PyData} (h : xs[n]? = some x) : fIx (.d (.tuple xs)) (.d (.int (n : Int))) cs = .ok (.d x) cs := fIx_tup (atI_nat h)
theorem fIx_ln {xs : List PyData} {n : Nat} {x : PyData} (h : xs[n]? = some x) : fIx (.d (.list xs)) (.d (.int (n : Int))) cs = .ok (.d x) cs := fIx_lst (atI_nat h)
theorem fIx_cn {k n : Nat} {xs : List PyData} {x : PyData} (hc : cs[k]? = some (.lst xs)) (h : xs[n]? = some x) : fIx (.c k) (.d (.int (n : Int))) cs = .ok (.d x) cs := fIx_c hc (atI_nat h)
@[simp] theorem fLen_tup {xs : List PyData} : fLen [.d (.tuple xs)] cs = .ok (.d (.int xs.length)) cs := rfl
@[simp] theorem fLen_lst {xs : List PyData} : fLen [.d (.list xs)] cs = .ok (.d (.int xs.length)) cs := rfl
theorem fLen_c {n : Nat} {xs : List PyData} (hc : cs[n]? = some (.lst xs)) : fLen [.c n] cs = .ok (.d (.int xs.length)) cs := by simp [fLen, lenA, hc]
@[simp] theorem fTuple_l {xs : List PyData} : fTuple [.d (.list xs)] cs = .ok (.d (.tuple xs)) cs := rfl
@[simp] theorem fTuple_t {xs : List PyData} : fTuple [.d (.tuple xs)] cs = .ok (.d (.tuple xs)) cs := rfl
theorem fTuple_c {n : Nat} {xs : List PyData} (hc : cs[n]? = some (.lst xs)) : fTuple [.c n] cs = .ok (.d (.tuple xs)) cs := by simp [fTuple, toS, toD, hc]
theorem fAny_l {bs : List Bool} : fAny [.d (.list (bs.map PyData.bool))] cs = .ok (.d (.bool (bs.any id))) cs := by simp [fAny, onB]
theorem fAny_fun {α : Type} {l : List α} {f : α → Bool} : fAny [.d (.list (l.map fun x => PyData.bool (f x)))] cs = .ok (.d (.bool (l.any f))) cs := by
  have : (l.map fun x => PyData.bool (f x)) = (l.map f).map PyData.bool := by rw [List.map_map]; rfl
  rw [this, fAny_l, List.any_map]; rfl
theorem fAll_l {bs : List Bool} : fAll [.d (.list (bs.map PyData.bool))] cs = .ok (.d (.bool (bs.all id))) cs := by simp [fAll, onB]
theorem fAll_fun {α : Type} {l : List α} {f : α → Bool} : fAll [.d (.list (l.map fun x => PyData.bool (f x)))] cs = .ok (.d (.bool (l.all f))) cs := by
  have : (l.map fun x => PyData.bool (f x)) = (l.map f).map PyData.bool := by rw [List.map_map]; rfl
  rw [this, fAll_l, List.all_map]; rfl
@[simp] theorem fAny_1 {b : Bool} : fAny [.d (.list [.bool b])] cs = .ok (.d (.bool b)) cs := by simp [fAny, onB]
theorem fSorted_l {ns : List Int} : fSorted [.d (.list (ns.map PyData.int))] cs = .ok (.d (.list ((sortI ns).map PyData.int))) cs := by simp [fSorted, onI]
theorem fSorted_c {n : Nat} {ns : List Int} (hc : cs[n]? = some (.lst (ns.map PyData.int))) : fSorted [.c n] cs = .ok (.d (.list ((sortI ns).map PyData.int))) cs := by simp [fSorted, onI, toL, hc]
@[simp] theorem freeze_d {x : PyData} : freeze cs (.d x) = .ok (.d x) cs := rfl
theorem freeze_c {n : Nat} {xs : List PyData} (hc : cs[n]? = some (.lst xs)) : freeze cs (.c n) = .ok (.d (.list xs)) (cs.set n .dead) := by simp [freeze, hc]
@[simp] theorem eTup_at {m : MA} : eTup m env cs = (m env cs).bind fun xs cs1 => match allD xs with
  | some ds => if ds.length ≤ sizeLine then .ok (.d (.tuple ds)) cs1 else .no
  | none => .no := rfl
@[simp] theorem eLst_at {m : MA} : eLst m env cs = (m env cs).bind fun xs cs1 => match allD xs with
  | some ds => if ds.length ≤ sizeLine then .ok (.d (.list ds)) cs1 else .no
  | none => .no := rfl
@[simp] theorem eLstC_at {m : MA} : eLstC m env cs = (m env cs).bind fun xs cs1 => match allD xs with
  | some ds => if ds.length ≤ sizeLine then .ok (.c cs1.length) (cs1 ++ [.lst ds]) else .no
  | none => .no := rfl
theorem tyA_c {n : Nat} {xs : List PyData} (hc : cs[n]? = some (.lst xs)) : tyA cs (.c n) "list" = true := by simp [tyA, hc]
theorem mAppend_c {n : Nat} {xs : List PyData} {y : PyData} (hc : cs[n]? = some (.lst xs)) (h : xs.length < sizeLine) : mAppend (.c n) [.d y] cs = .ok (.d .none) (cs.set n (.lst (xs ++ [y]))) := by simp [mAppend, onC, hc, h]
@[simp] theorem srcOf_list {xs : List PyData} : srcOf cs (.d (.list xs)) = some (.it (xs.map A.d)) := rfl
@[simp] theorem srcOf_tuple {xs : List PyData} : srcOf cs (.d (.tuple xs)) = some (.it (xs.map A.d)) := rfl
@[simp] theorem srcOf_s {ns : List Int} : srcOf cs (.s ns) = some (.it (ns.map fun i => A.d (.int i))) := rfl
theorem srcOf_c {n : Nat} {xs : List PyData} (hc : cs[n]? = some (.lst xs)) : srcOf cs (.c n) = some (.cell n) := by simp [srcOf, hc]
@[simp] theorem iVal_at {m : ME} : iVal m env cs = (m env cs).bind fun a cs1 => match srcOf cs1 a with
  | some s => .ok s cs1
  | none => .no := rfl
@[simp] theorem iEnum_at {m : ME} : iEnum m env cs = (m env cs).bind fun a cs1 => match a with
  | .d (.tuple xs) => .ok (.it (enumF 0 xs)) cs1
  | _ => .no := rfl
@[simp] theorem iRange1_at {ma : MA} : iRange1 ma env cs = (ma env cs).bind fun xs cs1 => match xs with
  | [.d (.int j)] => if inR j = true then .ok (.it (rangeD 0 j.toNat)) cs1 else .no
  | _ => .no := rfl
theorem inR_of {i : Int} (h1 : -1000000000 ≤ i) (h2 : i ≤ 1000000000) : inR i = true := decide_eq_true (by omega)
theorem rangeD_0 {n : Nat} : rangeD 0 n = (List.range n).map fun i => A.d (.int (i : Nat)) := by unfold rangeD; simp
@[simp] theorem tgNil_at : tgNil [] env cs = some env := rfl
@[simp] theorem tgCons_at {t : Tgt} {u : Tgts} {d : PyData} {ds : List PyData} : tgCons t u (d :: ds) env cs = (t (.d d) env cs).bind fun env1 => u ds env1 cs := rfl
@[simp] theorem tgTup_2 {u : Tgts} {x y : PyData} : tgTup 2 u (.d (.tuple [x, y])) env cs = u [x, y] env cs := rfl
@[simp] theorem tgTup_3 {u : Tgts} {x y z : PyData} : tgTup 3 u (.d (.tuple [x, y, z])) env cs = u [x, y, z] env cs := rfl
@[simp] theorem sAug_at {i : Nat} {f : A → A → CS → R A} {me : ME} : sAug i f me env cs = (match env[i]? with
  | some (some x) => (me env cs).toS env fun y cs1 => (f x y cs1).toS env fun z cs2 => .nx (env.set i (some z)) cs2
  | _ => .no) := rfl
@[simp] theorem noEx_no {α : Type} : noEx (R.no : R α) = .no := rfl
@[simp] theorem asD_d {x : PyData} : asD (.d x) = some x := rfl
@[simp] theorem fin_d {cs' : CS} {x : PyData} : fin cs cs' (.d x) = .ok (.d x) (cs'.take cs.length) := rfl
theorem size_ok {n : Nat} (h : n ≤ 1000000) : n ≤ sizeLine := by rw [sizeLine_eq]; omega
theorem size_lt {n : Nat} (h : n ≤ 1000000) : n < sizeLine := by rw [sizeLine_eq]; omega
@[simp] theorem size_0 : (0 : Nat) ≤ sizeLine := Nat.zero_le _
@[simp] theorem size_1 : (1 : Nat) ≤ sizeLine := size_ok (by decide)
@[simp] theorem size_2 : (2 : Nat) ≤ sizeLine := size_ok (by decide)
@[simp] theorem size_3 : (3 : Nat) ≤ sizeLine := size_ok (by decide)
@[simp] theorem size_4 : (4 : Nat) ≤ sizeLine := size_ok (by decide)
end
/-! ### lists of numbers -/
def nsD (ws : List Nat) : List PyData := ws.map fun (n : Nat) => PyData.int (n : Int)
@[simp] theorem nsD_nil : nsD [] = [] := rfl
@[simp] theorem nsD_cons {n : Nat} {r : List Nat} : nsD (n :: r) = .int (n : Int) :: nsD r := rfl
@[simp] theorem nsD_append {a b : List Nat} : nsD (a ++ b) = nsD a ++ nsD b := List.map_append
@[simp] theorem nsD_length {a : List Nat} : (nsD a).length = a.length := List.length_map _
theorem nsD_get {a : List Nat} {i n : Nat} (h : a[i]? = some n) : (nsD a)[i]? = some (.int (n : Int)) := by simp [nsD, h]
@[simp] theorem nsD_A {a : List Nat} : (nsD a).map A.d = a.map fun (n : Nat) => A.d (.int (n : Int)) := by simp [nsD]
theorem nsD_flat {a : List Nat} : (nsD a).all flatD = true := by simp [nsD, flatD]
theorem inF_nat {x : Nat} {a : List Nat} : inF (.int (x : Int)) (nsD a) = decide (x ∈ a) := by
  induction a with
  | nil => rfl
  | cons y a ih =>
    have e : inF (.int (x : Int)) (nsD (y :: a)) = (((y : Int) == (x : Int)) || inF (.int (x : Int)) (nsD a)) := rfl
    rw [e, ih]
    by_cases h : x = y
    · subst h; simp
    · have h' : ¬ (y : Int) = (x : Int) := by omega
      simp [h, h']
theorem fIn_c {cs : CS} {neg : Bool} {n x : Nat} {a : List Nat} (hc : cs[n]? = some (.lst (nsD a))) : fIn neg (.d (.int (x : Int))) (.c n) cs = .ok (.d (.bool (if neg then !decide (x ∈ a) else decide (x ∈ a)))) cs := by
  simp only [fIn, toS, toD, hc, nsD_flat, inF_nat, flatD]; rfl
/-! ### data that may be compared -/
def okS (n : Nat) (x : PyData) : Prop := x.canLay0 = true ∧ x.depth ≤ n
theorem okS_int {i : Int} {n : Nat} : okS n (.int i) := ⟨by simp [PyData.canLay0], by simp [PyData.depth]⟩
theorem okS_bool {b : Bool} {n : Nat} : okS n (.bool b) := ⟨by simp [PyData.canLay0], by simp [PyData.depth]⟩
theorem okS_none {n : Nat} : okS n .none := ⟨by simp [PyData.canLay0], by simp [PyData.depth]⟩
theorem okS_str {x : Str} {n : Nat} (h : PyData.strOk x = true) : okS n (.str x) := ⟨by simp [PyData.canLay0, h], by simp [PyData.depth]⟩
theorem okS_all {n : Nat} : ∀ {xs : List PyData}, (∀ x ∈ xs, okS n x) → PyData.canLayAll0 xs = true ∧ PyData.depthAll xs ≤ n
  | [], _ => ⟨by simp [PyData.canLayAll0], by simp [PyData.depthAll]⟩
  | x :: xs, h => by
    obtain ⟨h1, h2⟩ := h x List.mem_cons_self
    obtain ⟨h3, h4⟩ := okS_all fun y hy => h y (List.mem_cons_of_mem _ hy)
    exact ⟨by simp [PyData.canLayAll0, h1, h3], by simp only [PyData.depthAll]; omega⟩
theorem okS_list {n : Nat} {xs : List PyData} (h : ∀ x ∈ xs, okS n x) : okS (n + 1) (.list xs) := by
  obtain ⟨h1, h2⟩ := okS_all h
  exact ⟨by simp [PyData.canLay0, h1], by simp only [PyData.depth]; omega⟩
theorem okS_tup {n : Nat} {xs : List PyData} (h : ∀ x ∈ xs, okS n x) : okS (n + 1) (.tuple xs) := by
  obtain ⟨h1, h2⟩ := okS_all h
  exact ⟨by simp [PyData.canLay0, h1], by simp only [PyData.depth]; omega⟩
theorem shaped_of {n : Nat} {x : PyData} (h : okS n x) (hn : n ≤ 64) : SeqAt.shaped x = true := by
  unfold SeqAt.shaped
  simp only [h.1, Bool.true_and, decide_eq_true_eq]
  have := h.2; omega
theorem eqvD_seq {n m : Nat} {x y : PyData} (hx : okS n x) (hy : okS m y) (hn : n ≤ 64) (hm : m ≤ 64) (h : eqS x y = none) : eqvD x y = some (PyData.eqv x y) := by
  simp [eqvD, h, shaped_of hx hn, shaped_of hy hm]
theorem eqvAll_map {α : Type} [DecidableEq α] {f : α → PyData} (h : ∀ a b, PyData.eqv (f a) (f b) = decide (a = b)) : ∀ xs ys : List α, PyData.eqvAll (xs.map f) (ys.map f) = decide (xs = ys)
  | [], [] => by simp [PyData.eqvAll]
  | [], _ :: _ => by simp [PyData.eqvAll]
  | _ :: _, [] => by simp [PyData.eqvAll]
  | x :: xs, y :: ys => by simp [PyData.eqvAll, h, eqvAll_map h xs ys]
theorem eqv_bool (a b : Bool) : PyData.eqv (.bool a) (.bool b) = decide (a = b) := by rw [Bool.eq_iff_iff]; simp [PyData.eqv]
theorem eqv_int (a b : Int) : PyData.eqv (.int a) (.int b) = decide (a = b) := by rw [Bool.eq_iff_iff]; simp [PyData.eqv]
theorem eqv_list (xs ys : List PyData) : PyData.eqv (.list xs) (.list ys) = PyData.eqvAll xs ys := by simp [PyData.eqv]
theorem eqv_tup (xs ys : List PyData) : PyData.eqv (.tuple xs) (.tuple ys) = PyData.eqvAll xs ys := by simp [PyData.eqv]
@[simp] theorem last_get {cs : CS} {c : Cell} : (cs ++ [c])[cs.length]? = some c := by simp
@[simp] theorem last_set {cs : CS} {c c' : Cell} : (cs ++ [c]).set cs.length c' = cs ++ [c'] := by
  rw [List.set_append_right _ _ (Nat.le_refl _), Nat.sub_self]; rfl
@[simp] theorem last_take {cs : CS} {c : Cell} : (cs ++ [c]).take cs.length = cs := by simp
/-! ### plain calls -/
theorem plainF_ok {F : Fn} {xs : List A} {cs : CS} {x : PyData} (hp : xs.all isPl = true) (h : F xs [] = .ok (.d x) []) : plainF F xs cs = .ok (.d x) cs := by simp [plainF, hp, h, plainR]
theorem plainF_nil {F : Fn} {xs : List A} {x : PyData} (hp : xs.all isPl = true) (h : F xs [] = .ok (.d x) []) : plainF F xs [] = .ok (.d x) [] := plainF_ok hp h
@[simp] theorem isPl_d {x : PyData} : isPl (.d x) = true := rfl
@[simp] theorem isPl_s {x : List Int} : isPl (.s x) = true := rfl
/-! ### comprehensions -/
theorem lcIt_map {α : Type} {tg : Tgt} {t : MT} {e : ME} {env : Env} {cs : CS} (enc : α → A) (p : α → Bool) (f : α → PyData) : ∀ ys : List α,
    (∀ y ∈ ys, ∃ env1, tg (enc y) env cs = some env1 ∧ t env1 cs = .ok (p y) cs ∧ (p y = true → e env1 cs = .ok (.d (f y)) cs)) → lcIt tg t e env (ys.map enc) cs = .ok ((ys.filter p).map f) cs
  | [], _ => rfl
  | y :: ys, h => by
    obtain ⟨env1, h1, h2, h3⟩ := h y List.mem_cons_self
    have ih := lcIt_map enc p f ys fun z hz => h z (List.mem_cons_of_mem _ hz)
    rw [List.map_cons]
    unfold lcIt
    simp only [h1, h2, noEx_ok, R.bind_ok]
    cases q : p y with
    | false => simp [ih, q]
    | true => simp [h3 q, ih, q]
theorem eLc_map {α : Type} {fr : List Nat} {src : MI} {tg : Tgt} {t : MT} {e : ME} {env : Env} {cs : CS} (enc : α → A) (p : α → Bool) (f : α → PyData) (ys : List α) (hs : src env cs = .ok (.it (ys.map enc)) cs) (hl : ys.length ≤ sizeLine)
    (h : ∀ y ∈ ys, ∃ env1, tg (enc y) (wipeE fr.reverse env) cs = some env1 ∧ t env1 cs = .ok (p y) cs ∧ (p y = true → e env1 cs = .ok (.d (f y)) cs)) : eLc fr src tg t e env cs = .ok (.d (.list ((ys.filter p).map f))) cs := by
  unfold eLc
  simp only [hs, R.bind_ok, lcS, List.length_map, hl, if_true]
  rw [lcIt_map enc p f ys h]
  rfl
theorem eLc_all {α : Type} {fr : List Nat} {src : MI} {tg : Tgt} {e : ME} {env : Env} {cs : CS} (enc : α → A) (f : α → PyData) (ys : List α) (hs : src env cs = .ok (.it (ys.map enc)) cs) (hl : ys.length ≤ sizeLine)
    (h : ∀ y ∈ ys, ∃ env1, tg (enc y) (wipeE fr.reverse env) cs = some env1 ∧ e env1 cs = .ok (.d (f y)) cs) : eLc fr src tg tYesM e env cs = .ok (.d (.list (ys.map f))) cs := by
  have k := eLc_map (fr := fr) (src := src) (tg := tg) (t := tYesM) (e := e) (env := env) (cs := cs) enc (fun _ => true) f ys hs hl fun y hy => by
    obtain ⟨env1, h1, h2⟩ := h y hy
    exact ⟨env1, h1, rfl, fun _ => h2⟩
  rw [k, List.filter_eq_self.mpr fun _ _ => rfl]
/-! ### loops -/
def Goes (r : RS) (fg : List Nat) (env : Env) (cs : CS) : Prop := match r with
  | .nx e c => wipeE fg e = env ∧ c = cs
  | .ct e c => wipeE fg e = env ∧ c = cs
  | _ => False
@[simp] theorem Goes_nx {fg : List Nat} {env e : Env} {cs c : CS} : Goes (.nx e c) fg env cs = (wipeE fg e = env ∧ c = cs) := rfl
@[simp] theorem Goes_ct {fg : List Nat} {env e : Env} {cs c : CS} : Goes (.ct e c) fg env cs = (wipeE fg e = env ∧ c = cs) := rfl
theorem Goes.loop {r : RS} {fg : List Nat} {env : Env} {cs : CS} (h : Goes r fg env cs) (k : Env → CS → RS) : loopK r fg k = k env cs := by
  cases r with
  | nx e c => obtain ⟨rfl, rfl⟩ := h; rfl
  | ct e c => obtain ⟨rfl, rfl⟩ := h; rfl
  | _ => exact h.elim
def turn (tg : Tgt) (body : MS) (x : A) (env : Env) (cs : CS) : RS := match tg x env cs with
  | some env1 => body env1 cs
  | none => .no
@[simp] theorem turn_at {tg : Tgt} {body : MS} {x : A} {env : Env} {cs : CS} : turn tg body x env cs = (match tg x env cs with
  | some env1 => body env1 cs
  | none => .no) := rfl
theorem forIt_step {tg : Tgt} {body : MS} {fg : List Nat} {x : A} {xs : List A} {env env' : Env} {cs cs' : CS} (h : Goes (turn tg body x env cs) fg env' cs') : forIt tg body fg (x :: xs) env cs = forIt tg body fg xs env' cs' := by
  have e : forIt tg body fg (x :: xs) env cs = (match tg x env cs with
    | none => .no
    | some env1 => loopK (body env1 cs) fg (forIt tg body fg xs)) := rfl
  rw [e]
  unfold turn at h
  cases q : tg x env cs with
  | none => rw [q] at h; exact h.elim
  | some env1 => rw [q] at h; exact Goes.loop (r := body env1 cs) h _
@[simp] theorem sFor_at {fuel : Nat} {fg : List Nat} {src : MI} {tg : Tgt} {body : MS} {env : Env} {cs : CS} : sFor fuel fg src tg body env cs = (src env cs).toS env fun s cs1 => forS fuel tg body fg s (wipeE fg env) cs1 := rfl
@[simp] theorem forS_it {fuel : Nat} {fg : List Nat} {xs : List A} {tg : Tgt} {body : MS} {env : Env} {cs : CS} : forS fuel tg body fg (.it xs) env cs = forIt tg body fg xs env cs := rfl
@[simp] theorem forS_cell {fuel n : Nat} {fg : List Nat} {tg : Tgt} {body : MS} {env : Env} {cs : CS} : forS fuel tg body fg (.cell n) env cs = forCell tg body fg n fuel 0 env cs := rfl
@[simp] theorem sWhile_at {fuel : Nat} {fg : List Nat} {t : MT} {body : MS} {env : Env} {cs : CS} : sWhile fuel fg t body env cs = whileN t body fg fuel (wipeE fg env) cs := rfl
theorem forIt_inv {α σ : Type} {tg : Tgt} {body : MS} {fg : List Nat} (enc : α → A) (E : σ → Env) (C : σ → CS) (I : List α → σ → Prop) (st : ∀ y r s, I (y :: r) s → ∃ s2, I r s2 ∧ Goes (turn tg body (enc y) (E s) (C s)) fg (E s2) (C s2)) :
    ∀ (ys : List α) (s : σ), I ys s → ∃ s', forIt tg body fg (ys.map enc) (E s) (C s) = .nx (E s') (C s') ∧ I [] s'
  | [], s, h => ⟨s, rfl, h⟩
  | y :: ys, s, h => by
    obtain ⟨s2, h4, h2⟩ := st y ys s h
    obtain ⟨s', k1, k2⟩ := forIt_inv enc E C I st ys s2 h4
    refine ⟨s', ?_, k2⟩
    rw [List.map_cons, forIt_step h2, k1]
theorem while_inv {σ : Type} {t : MT} {body : MS} {fg : List Nat} (E : σ → Env) (C : σ → CS) (I : σ → Prop) (μ : σ → Nat)
    (st : ∀ s, I s → t (E s) (C s) = .ok false (C s) ∨ (t (E s) (C s) = .ok true (C s) ∧ ∃ s2, Goes (body (E s) (C s)) fg (E s2) (C s2) ∧ I s2 ∧ μ s2 < μ s)) :
    ∀ (n : Nat) (s : σ), μ s < n → I s → ∃ s', whileN t body fg n (E s) (C s) = .nx (E s') (C s') ∧ I s' ∧ t (E s') (C s') = .ok false (C s')
  | 0, s, h, _ => absurd h (Nat.not_lt_zero _)
  | n + 1, s, h, hI => by
    unfold whileN
    rcases st s hI with q | ⟨q, s2, h2, h4, h5⟩
    · refine ⟨s, ?_, hI, q⟩
      simp only [q, R.toS_ok]
      rfl
    · obtain ⟨s', k1, k2, k3⟩ := while_inv E C I μ st n s2 (by omega) h4
      refine ⟨s', ?_, k2, k3⟩
      simp only [q, R.toS_ok, if_true]
      rw [h2.loop, k1]
theorem enumF_map {α : Type} (g : α → PyData) : ∀ (k : Nat) (ys : List α), enumF k (ys.map g) = (ys.zipIdx k).map fun p => A.d (.tuple [.int (p.2 : Nat), g p.1])
  | _, [] => rfl
  | k, y :: ys => by
    show A.d _ :: enumF (k + 1) (ys.map g) = _
    rw [enumF_map g (k + 1) ys]
    rfl
/-! ### loops that append -/
theorem forIt_append {α : Type} {tg : Tgt} {body : MS} {fg : List Nat} {env : Env} {cs : CS} (enc : α → A) (f : α → PyData) : ∀ (ys : List α) (xs : List PyData), xs.length + ys.length < sizeLine →
    (∀ y ∈ ys, ∀ xs, xs.length < sizeLine → Goes (turn tg body (enc y) env (cs ++ [.lst xs])) fg env (cs ++ [.lst (xs ++ [f y])])) →
    forIt tg body fg (ys.map enc) env (cs ++ [.lst xs]) = .nx env (cs ++ [.lst (xs ++ ys.map f)])
  | [], xs, _, _ => by rw [List.map_nil, List.map_nil, List.append_nil]; rfl
  | y :: ys, xs, hl, h => by
    rw [List.length_cons] at hl
    have ih := forIt_append enc f ys (xs ++ [f y]) (by rw [List.length_append, List.length_singleton]; omega) fun z hz => h z (List.mem_cons_of_mem _ hz)
    rw [List.map_cons, forIt_step (h y List.mem_cons_self xs (by omega)), ih, List.append_assoc]; rfl
end Sh
namespace Sh
open PySem L2
/-! ### work lists: found grows while its places are gone through -/
def addN (f : List Nat) (n : Nat) : List Nat := if n ∈ f then f else f ++ [n]
def addAll (f ns : List Nat) : List Nat := ns.foldl addN f
@[simp] theorem addAll_nil {f : List Nat} : addAll f [] = f := rfl
@[simp] theorem addAll_cons {f : List Nat} {n : Nat} {ns : List Nat} : addAll f (n :: ns) = addAll (addN f n) ns := rfl
theorem addN_mem {f : List Nat} {n x : Nat} : x ∈ addN f n ↔ x ∈ f ∨ x = n := by
  unfold addN
  split
  · rename_i h
    exact ⟨.inl, fun z => z.elim id fun e => e ▸ h⟩
  · simp
theorem addAll_mem {x : Nat} : ∀ {ns f : List Nat}, x ∈ addAll f ns ↔ x ∈ f ∨ x ∈ ns
  | [], f => by simp
  | n :: ns, f => by rw [addAll_cons, addAll_mem, addN_mem, List.mem_cons, or_assoc]
theorem addN_nodup {f : List Nat} {n : Nat} (h : f.Nodup) : (addN f n).Nodup := by
  unfold addN
  split
  · exact h
  · rename_i hn
    exact List.nodup_append.mpr ⟨h, by simp, fun a ha b hb => by
      simp at hb; subst hb; exact fun e => hn (e ▸ ha)⟩
theorem addAll_nodup : ∀ {ns f : List Nat}, f.Nodup → (addAll f ns).Nodup
  | [], _, h => h
  | n :: ns, f, h => by rw [addAll_cons]; exact addAll_nodup (addN_nodup h)
theorem addN_pre {f : List Nat} {n : Nat} : ∃ e, addN f n = f ++ e ∧ e.length ≤ 1 := by
  unfold addN
  split
  · exact ⟨[], by simp, by simp⟩
  · exact ⟨[n], rfl, Nat.le_refl _⟩
theorem addAll_pre : ∀ {ns f : List Nat}, ∃ e, addAll f ns = f ++ e ∧ e.length ≤ ns.length
  | [], f => ⟨[], by simp, Nat.le_refl _⟩
  | n :: ns, f => by
    obtain ⟨e1, h1, l1⟩ := addN_pre (f := f) (n := n)
    obtain ⟨e2, h2, l2⟩ := addAll_pre (ns := ns) (f := addN f n)
    refine ⟨e1 ++ e2, ?_, ?_⟩
    · rw [addAll_cons, h2, h1, List.append_assoc]
    · rw [List.length_append, List.length_cons]; omega
inductive Reach (succ : Nat → List Nat) (s : Nat) : Nat → Prop
  | here : Reach succ s s
  | next {a b : Nat} : Reach succ s a → b ∈ succ a → Reach succ s b
structure WInv (succ : Nat → List Nat) (N s : Nat) (found : List Nat) (place : Nat) : Prop where
  nd : found.Nodup
  st : s ∈ found
  ok : ∀ x ∈ found, Reach succ s x ∧ x < N
  pl : place ≤ found.length
  cl : ∀ i x, i < place → found[i]? = some x → ∀ y ∈ succ x, y ∈ found
theorem nodup_len {N : Nat} {l : List Nat} (h : l.Nodup) (hl : ∀ x ∈ l, x < N) : l.length ≤ N := by
  have := List.Nodup.length_le_of_subset (l₂ := List.range N) h fun x hx => List.mem_range.mpr (hl x hx)
  rwa [List.length_range] at this
theorem WInv.start {succ : Nat → List Nat} {N s : Nat} (h : s < N) : WInv succ N s [s] 0 :=
  ⟨by simp, by simp, fun x hx => by simp at hx; subst hx; exact ⟨.here, h⟩, Nat.zero_le _, fun i x hi => absurd hi (Nat.not_lt_zero _)⟩
theorem WInv.len {succ : Nat → List Nat} {N s place : Nat} {found : List Nat} (w : WInv succ N s found place) : found.length ≤ N := nodup_len w.nd fun x hx => (w.ok x hx).2
theorem WInv.step {succ : Nat → List Nat} {N s place x : Nat} {found : List Nat} (w : WInv succ N s found place) (hx : found[place]? = some x) (hN : ∀ y ∈ succ x, y < N) : WInv succ N s (addAll found (succ x)) (place + 1) := by
  obtain ⟨e, he, hle⟩ := addAll_pre (ns := succ x) (f := found)
  have hxm : x ∈ found := List.mem_of_getElem? hx
  have hp : place < found.length := (List.getElem?_eq_some_iff.mp hx).1
  refine ⟨addAll_nodup w.nd, addAll_mem.mpr (.inl w.st), fun y hy => ?_, ?_, fun i z hi hz y hy => ?_⟩
  · rcases addAll_mem.mp hy with h | h
    · exact w.ok y h
    · exact ⟨.next (w.ok x hxm).1 h, hN y h⟩
  · rw [he, List.length_append]; omega
  · by_cases hip : i < place
    · have hz' : found[i]? = some z := by rw [he, List.getElem?_append_left (by omega)] at hz; exact hz
      exact addAll_mem.mpr (.inl (w.cl i z hip hz' y hy))
    · obtain rfl : i = place := by omega
      have hz' : found[i]? = some z := by rw [he, List.getElem?_append_left hp] at hz; exact hz
      rw [hx] at hz'; cases hz'
      exact addAll_mem.mpr (.inr hy)
theorem WInv.step' {succ : Nat → List Nat} {N s place x : Nat} {found ns : List Nat} (w : WInv succ N s found place) (hx : found[place]? = some x) (hs : ∀ y, y ∈ ns ↔ y ∈ succ x) (hN : ∀ y ∈ succ x, y < N) : WInv succ N s (addAll found ns) (place + 1) := by
  have k := w.step hx hN
  have me : ∀ y, y ∈ addAll found ns ↔ y ∈ addAll found (succ x) := fun y => by rw [addAll_mem, addAll_mem, hs]
  obtain ⟨e, he, hle⟩ := addAll_pre (ns := ns) (f := found)
  have hxm : x ∈ found := List.mem_of_getElem? hx
  have hp : place < found.length := (List.getElem?_eq_some_iff.mp hx).1
  refine ⟨addAll_nodup w.nd, addAll_mem.mpr (.inl w.st), fun y hy => k.ok y ((me y).mp hy), by rw [he, List.length_append]; omega, fun i z hi hz y hy => ?_⟩
  by_cases hip : i < place
  · have hz' : found[i]? = some z := by rw [he, List.getElem?_append_left (by omega)] at hz; exact hz
    exact addAll_mem.mpr (.inl (w.cl i z hip hz' y hy))
  · obtain rfl : i = place := by omega
    have hz' : found[i]? = some z := by rw [he, List.getElem?_append_left hp] at hz; exact hz
    rw [hx] at hz'; cases hz'
    exact addAll_mem.mpr (.inr ((hs y).mpr hy))
theorem WInv.done {succ : Nat → List Nat} {N s place : Nat} {found : List Nat} (w : WInv succ N s found place) (h : found.length ≤ place) (x : Nat) : x ∈ found ↔ Reach succ s x := by
  refine ⟨fun hx => (w.ok x hx).1, fun r => ?_⟩
  induction r with
  | here => exact w.st
  | @next a b _ hb ih =>
    obtain ⟨i, hi, e⟩ := List.getElem_of_mem ih
    exact w.cl i a (by omega) (by rw [List.getElem?_eq_getElem hi, e]) b hb
/-! ### sorted -/
theorem sortI_eq {l m : List Int} (p : l.Perm m) : sortI l = sortI m := sorted_one (((sortI_perm l).trans p).trans (sortI_perm m).symm) (sortI_sorted l) (sortI_sorted m)
theorem sortI_id : ∀ {l : List Int}, l.Pairwise (· ≤ ·) → sortI l = l := fun {l} h => sorted_one (sortI_perm l) (sortI_sorted l) h
theorem sort_canon {N : Nat} {l : List Nat} (hn : l.Nodup) (P : Nat → Bool) (hP : ∀ x, x ∈ l ↔ (P x = true ∧ x < N)) : sortI (l.map fun (n : Nat) => (n : Int)) = ((List.range N).filter P).map fun (n : Nat) => (n : Int) := by
  have p : l.Perm ((List.range N).filter P) := (List.perm_ext_iff_of_nodup hn (List.nodup_range.filter _)).mpr fun x => by
    rw [hP, List.mem_filter, List.mem_range]; exact and_comm
  rw [sortI_eq (p.map _)]
  refine sortI_id ?_
  rw [List.pairwise_map]
  exact ((List.pairwise_lt_range).filter _).imp fun h => by omega
theorem nsD_ints {l : List Nat} : nsD l = (l.map fun (n : Nat) => (n : Int)).map PyData.int := by simp [nsD]
theorem fSorted_n {cs : CS} {N : Nat} {l : List Nat} (hn : l.Nodup) (P : Nat → Bool) (hP : ∀ x, x ∈ l ↔ (P x = true ∧ x < N)) : fSorted [.d (.list (nsD l))] cs = .ok (.d (.list (nsD ((List.range N).filter P)))) cs := by
  rw [nsD_ints, fSorted_l, sort_canon hn P hP, ← nsD_ints]
theorem fSorted_nc {cs : CS} {k N : Nat} {l : List Nat} (hc : cs[k]? = some (.lst (nsD l))) (hn : l.Nodup) (P : Nat → Bool) (hP : ∀ x, x ∈ l ↔ (P x = true ∧ x < N)) : fSorted [.c k] cs = .ok (.d (.list (nsD ((List.range N).filter P)))) cs := by
  rw [nsD_ints] at hc
  rw [fSorted_c hc, sort_canon hn P hP, ← nsD_ints]
/-- for n in ns: if n not in found: found.append(n) -/
theorem forIt_add {tg : Tgt} {body : MS} {fg : List Nat} {env : Env} {cs : CS} (h : ∀ (n : Nat) (f : List Nat), f.length < sizeLine → Goes (turn tg body (.d (.int (n : Int))) env (cs ++ [.lst (nsD f)])) fg env (cs ++ [.lst (nsD (addN f n))])) : ∀ (ns f : List Nat), f.length + ns.length < sizeLine →
    forIt tg body fg (ns.map fun (n : Nat) => A.d (.int (n : Int))) env (cs ++ [.lst (nsD f)]) = .nx env (cs ++ [.lst (nsD (addAll f ns))])
  | [], f, _ => rfl
  | n :: ns, f, hl => by
    rw [List.length_cons] at hl
    obtain ⟨e, he, hle⟩ := addN_pre (f := f) (n := n)
    rw [List.map_cons, forIt_step (h n f (by omega)), forIt_add h ns (addN f n) (by rw [he, List.length_append]; omega)]
    rfl
def addO (f : List Nat) (o : Option Nat) : List Nat := match o with
  | some n => addN f n
  | none => f
theorem addO_pre {f : List Nat} {o : Option Nat} : ∃ e, addO f o = f ++ e ∧ e.length ≤ 1 := by
  cases o with
  | none => exact ⟨[], by simp [addO], by simp⟩
  | some n => exact addN_pre
theorem addAll_filterMap {cand : Nat → Option Nat} : ∀ {ns f : List Nat}, ns.foldl (fun f n => addO f (cand n)) f = addAll f (ns.filterMap cand)
  | [], _ => rfl
  | n :: ns, f => by
    rw [List.foldl_cons, addAll_filterMap]
    cases q : cand n with
    | none => rw [List.filterMap_cons_none q]; rfl
    | some m => rw [List.filterMap_cons_some q]; rfl
/-- for n in ns: if .. and q not in found: found.append(q) -/
theorem forIt_opt {tg : Tgt} {body : MS} {fg : List Nat} {env : Env} {cs : CS} (cand : Nat → Option Nat) (f0 : List Nat) : ∀ (ns f : List Nat), (∀ n ∈ ns, ∀ e : List Nat, (f0 ++ e).length < sizeLine → Goes (turn tg body (.d (.int (n : Int))) env (cs ++ [.lst (nsD (f0 ++ e))])) fg env (cs ++ [.lst (nsD (addO (f0 ++ e) (cand n)))])) → (∃ e, f = f0 ++ e) → f.length + ns.length < sizeLine →
    forIt tg body fg (ns.map fun (n : Nat) => A.d (.int (n : Int))) env (cs ++ [.lst (nsD f)]) = .nx env (cs ++ [.lst (nsD (addAll f (ns.filterMap cand)))])
  | [], f, _, _, _ => rfl
  | n :: ns, f, h, he, hl => by
    rw [List.length_cons] at hl
    obtain ⟨e, rfl⟩ := he
    obtain ⟨e1, he1, hle⟩ := addO_pre (f := f0 ++ e) (o := cand n)
    rw [List.map_cons, forIt_step (h n List.mem_cons_self e (by omega)), forIt_opt cand f0 ns (addO (f0 ++ e) (cand n)) (fun m hm => h m (List.mem_cons_of_mem _ hm)) ⟨e ++ e1, by rw [he1, List.append_assoc]⟩ (by rw [he1, List.length_append]; omega)]
    cases q : cand n with
    | none => rw [List.filterMap_cons_none q]; rfl
    | some m => rw [List.filterMap_cons_some q]; rfl
end Sh
namespace Sh
open PySem L2
/-! ### str(x) -/
def fStr : List A → CS → R A
  | [.d (.int i)], cs => if i.natAbs.log2 < 1920 then .ok (.d (.str (toString i))) cs else .no
  | [.d (.str a)], cs => .ok (.d (.str a)) cs
  | _, _ => .no
theorem call_strA {X : Cx} : CallR X (.type "str") (fun xs H Q => (∃ i : Int, xs = [.int i] ∧ i.natAbs.log2 < 1920 ∧ Q (.str (toString i)) H) ∨ ∃ a, xs = [.str a] ∧ Q (.str a) H) := fun pins s σ H xs us Q I r h => by
  rcases h with h | h
  · exact call_str_int pins s σ H xs us Q I r h
  · exact SkE.call_str_str pins s σ H xs us Q I r h
theorem cs_str {g : G} : CallS g (fun xs H Q => (∃ i : Int, xs = [.int i] ∧ i.natAbs.log2 < 1920 ∧ Q (.str (toString i)) H) ∨ ∃ a, xs = [.str a] ∧ Q (.str a) H) fStr := by
  intro W σ cs as H vs xs Q s r h
  unfold fStr at h
  split at h
  · obtain ⟨v, rfl, rv⟩ := reps1 r
    cases rep_int rv
    split at h
    · rename_i hz; exact .inl ⟨_, rfl, hz, h.str s⟩
    · exact h.elim
  · obtain ⟨v, rfl, rv⟩ := reps1 r
    cases rep_str rv
    exact .inr ⟨_, rfl, h.str s⟩
  · exact h.elim
/-! ### sep.join(texts) -/
def allS : List PyData → Option (List Str)
  | [] => some []
  | .str x :: r => (allS r).map (x :: ·)
  | _ :: _ => none
@[simp] theorem allS_nil : allS [] = some [] := rfl
@[simp] theorem allS_cons {x : Str} {r : List PyData} : allS (.str x :: r) = (allS r).map (x :: ·) := rfl
@[simp] theorem allS_map : ∀ xs : List Str, allS (xs.map PyData.str) = some xs
  | [] => rfl
  | x :: xs => by simp [allS_map xs]
theorem allS_eq : ∀ {xs : List PyData} {ys : List Str}, allS xs = some ys → xs = ys.map PyData.str
  | [], ys, h => by cases h; rfl
  | x :: r, ys, h => by
    cases x with
    | str z =>
      have h' : (allS r).map (z :: ·) = some ys := h
      cases q : allS r with
      | none => rw [q] at h'; cases h'
      | some zs =>
        rw [q] at h'
        obtain rfl := Option.some.inj h'
        rw [allS_eq q]; rfl
    | none => cases h
    | bool _ => cases h
    | int _ => cases h
    | list _ => cases h
    | tuple _ => cases h
    | dict _ => cases h
theorem reps_strs {K : PySem.W.Frag} {H : Hp} : ∀ {vs : List V} {xs : List Str}, DqAll K H vs (xs.map PyData.str) → vs = xs.map V.str
  | _, [], h => by cases h; rfl
  | _, x :: xs, h => by
    cases h with
    | cons a b => cases a; rw [reps_strs b]; rfl
def mJoin (a : A) (xs : List A) (cs : CS) : R A := match a, xs with
  | .d (.str z), [b] => match toS cs b with
    | some ds => match allS ds with
      | some ys => if (ys.map (·.length)).sum + ys.length * z.length ≤ 16777216 then .ok (.d (.str (Txt.join z ys))) cs else .no
      | none => .no
    | none => .no
  | _, _ => .no
theorem ms_join {g : G} : MtS g (fun x xs H Q => ∃ a p, ∃ ys : List Str, x = .str a ∧ xs = [.ref p] ∧ (SqL g.K H p (ys.map V.str) ∨ SqT g.K H p (ys.map V.str)) ∧ (ys.map (·.length)).sum + ys.length * a.length ≤ 16777216 ∧ Q (.str (Txt.join a ys)) H) mJoin := by
  intro W σ cs as H x vs a xs Q s rx r h
  unfold mJoin at h
  split at h
  · rename_i z b
    cases rep_str rx
    obtain ⟨v, rfl, rv⟩ := reps1 r
    cases q : toS cs b with
    | none => simp only [q] at h; exact h.elim
    | some ds =>
      simp only [q] at h
      cases q2 : allS ds with
      | none => simp only [q2] at h; exact h.elim
      | some ys =>
        simp only [q2] at h
        split at h
        · rename_i hz
          rcases toS_tup s rv q with ⟨p, ws, rfl, h1, h2⟩ | ⟨p, ws, rfl, h1, rfl⟩
          · rw [allS_eq q2] at h2
            rw [reps_strs h2] at h1
            exact ⟨z, p, ys, rfl, rfl, .inl (SqL.of h1), hz, h.str s⟩
          · obtain ⟨p', ws', e, h3, h4⟩ := rep_tup rv
            rw [allS_eq q2] at h4
            cases e
            rw [reps_strs h4] at h3
            exact ⟨z, p, ys, rfl, rfl, .inr h3, hz, h.str s⟩
        · exact h.elim
  · exact h.elim
/-! ### texts' methods with one text -/
def mRstripC (a : A) (xs : List A) (cs : CS) : R A := match a, xs with
  | .d (.str z), [.d (.str b)] => if z.length ≤ sizeLine then .ok (.d (.str (Txt.rstripChars z b))) cs else .no
  | _, _ => .no
theorem ms_rstripC {g : G} : MtS g (fun x xs H Q => ∃ a b, x = .str a ∧ xs = [.str b] ∧ a.length ≤ sizeLine ∧ Q (.str (Txt.rstripChars a b)) H) mRstripC := by
  intro W σ cs as H x vs a xs Q s rx r h
  unfold mRstripC at h
  split at h
  · cases rep_str rx
    obtain ⟨v, rfl, rv⟩ := reps1 r
    cases rep_str rv
    split at h
    · rename_i hz; exact ⟨_, _, rfl, rfl, hz, h.str s⟩
    · exact h.elim
  · exact h.elim
def mSplit (a : A) (xs : List A) (cs : CS) : R A := match a, xs with
  | .d (.str z), [.d (.str b)] => if (b.length == 0) = false ∧ z.length + 2 ≤ sizeLine then .ok (.d (.list ((Txt.split z b).map PyData.str))) cs else .no
  | _, _ => .no
theorem dq_strs {K : PySem.W.Frag} {H : Hp} : ∀ ys : List Str, DqAll K H (ys.map V.str) (ys.map PyData.str)
  | [] => .nil
  | _ :: r => .cons (.str _) (dq_strs r)
theorem ms_split {g : G} : MtS g (fun x xs H Q => ∃ a b, x = .str a ∧ xs = [.str b] ∧ (b.length == 0) = false ∧ a.length + 2 ≤ sizeLine ∧ rNewStrs (Txt.split a b) H Q) mSplit := by
  intro W σ cs as H x vs a xs Q s rx r h
  unfold mSplit at h
  split at h
  · cases rep_str rx
    obtain ⟨v, rfl, rv⟩ := reps1 r
    cases rep_str rv
    split at h
    · rename_i hz; exact ⟨_, _, rfl, rfl, hz.1, hz.2, fun p hp => h.lst s hp (dq_strs _)⟩
    · exact h.elim
  · exact h.elim
/-! ### list.count of ints -/
def mCount (a : A) (xs : List A) (cs : CS) : R A := match xs with
  | [.d (.int k)] => match toL cs a with
    | some ds => match allI ds with
      | some ns => .ok (.d (.int (ns.count k : Nat))) cs
      | none => .no
    | none => .no
  | _ => .no
theorem ms_count {g : G} : MtS g (rCntI g.K) mCount := by
  intro W σ cs as H x vs a xs Q s rx r h
  unfold mCount at h
  split at h
  · rename_i k
    obtain ⟨v, rfl, rv⟩ := reps1 r
    cases rep_int rv
    cases q : toL cs a with
    | none => simp only [q] at h; exact h.elim
    | some ds =>
      simp only [q] at h
      cases q2 : allI ds with
      | none => simp only [q2] at h; exact h.elim
      | some ns =>
        simp only [q2] at h
        obtain ⟨p, ws, rfl, h1, h2⟩ := toL_rep s rx q
        rw [allI_eq q2] at h2
        rw [reps_ints h2] at h1
        exact ⟨p, ns, k, rfl, rfl, SqL.of h1, h.int s⟩
  · exact h.elim
/-! ### list + list, a new cell -/
def fAddC (a b : A) (cs : CS) : R A := match toL cs a, toL cs b with
  | some xs, some ys => if xs.length + ys.length ≤ sizeLine then .ok (.c cs.length) (cs ++ [.lst (xs ++ ys)]) else .no
  | _, _ => .no
theorem os_addC {g : G} : OpS g rCat fAddC := by
  intro W σ cs as H x y a b Q s ra rb h
  unfold fAddC at h
  cases q1 : toL cs a with
  | none => simp only [q1] at h; exact h.elim
  | some xs =>
    cases q2 : toL cs b with
    | none => simp only [q1, q2] at h; exact h.elim
    | some ys =>
      simp only [q1, q2] at h
      split at h
      · rename_i hz
        obtain ⟨p, vs, rfl, h1, h2⟩ := toL_rep s ra q1
        obtain ⟨p', vs', rfl, h3, h4⟩ := toL_rep s rb q2
        exact ⟨p, p', vs, vs', rfl, rfl, h1, h3, by rw [DqAll.length h2, DqAll.length h4]; exact hz, fun r hr => h.cell s hr (DqAll.append h2 h4)⟩
      · exact h.elim
/-! ### f'..{x}..' -/
def eFmt (m : ME) : ME := fun env cs => (m env cs).bind fun a cs1 => match a with
  | .d (.str y) => if y.length ≤ sizeLine then .ok (.d (.str y)) cs1 else .no
  | .d (.int i) => if i.natAbs.log2 < 1920 then .ok (.d (.str (toString i))) cs1 else .no
  | _ => .no
theorem se_fmt {X : Cx} {g : G} {W : WX} {m : ME} {e : Expr} {pos : Pos} (he : PE X e (den g W m)) : PE X (.FormattedValue e (-1) none pos) (den g W (eFmt m)) :=
  pe_imp (pe_fmt he) fun σ H Q ⟨env, cs, as, s, h⟩ => ⟨env, cs, as, s, (Post.bind h).mono fun a cs1 as1 H1 hs1 e1 h1 v rv => by
    split at h1
    · cases rep_str rv
      split at h1
      · rename_i hz; exact .inl ⟨_, rfl, hz, PostA.str h1 hs1⟩
      · exact h1.elim
    · cases rep_int rv
      split at h1
      · rename_i hz; exact .inr ⟨_, rfl, hz, PostA.str h1 hs1⟩
      · exact h1.elim
    · exact h1.elim⟩
/-- the parts one behind the other -/
def jsM : List ME → Str → Env → CS → R Str
  | [], acc, _, cs => .ok acc cs
  | m :: ms, acc, env, cs => (m env cs).bind fun a cs1 => match a with
    | .d (.str y) => if (acc ++ y).length ≤ sizeLine then jsM ms (acc ++ y) env cs1 else .no
    | _ => .no
def eJs (ms : List ME) : ME := fun env cs => (jsM ms Str.empty env cs).bind fun z cs1 => .ok (.d (.str z)) cs1
inductive SJ (X : Cx) (g : G) (W : WX) : List Expr → List ME → Prop
  | nil : SJ X g W [] []
  | cons {e : Expr} {m : ME} {es : List Expr} {ms : List ME} (h : PE X e (den g W m)) (r : SJ X g W es ms) : SJ X g W (e :: es) (m :: ms)
theorem SJ.pj {X : Cx} {g : G} {W : WX} : ∀ {es : List Expr} {ms : List ME}, SJ X g W es ms → PJ X es (ms.map (den g W))
  | _, _, .nil => .nil
  | _, _, .cons h r => .cons h r.pj
theorem den_js {g : G} {W : WX} {σ : L2.St} {Q : VK} : ∀ {ms : List ME} {acc : Str} {env : Env} {cs : CS} {as : AS} {H : Hp}, Sat g cs as H env σ → PostA g W σ cs as H Q ((jsM ms acc env cs).bind fun z cs1 => .ok (.d (.str z)) cs1) →
    tJs (ms.map (den g W)) acc σ H fun out H1 => Q (.str out) H1
  | [], acc, env, cs, as, H, s, h => PostA.str h s.hs
  | m :: ms, acc, env, cs, as, H, s, h => by
    have h' : PostA g W σ cs as H Q ((m env cs).bind fun a cs1 => (match a with
      | .d (.str y) => if (acc ++ y).length ≤ sizeLine then jsM ms (acc ++ y) env cs1 else .no
      | _ => .no).bind fun z cs1 => .ok (.d (.str z)) cs1) := by
      have e : ((jsM (m :: ms) acc env cs).bind fun z cs1 => (R.ok (A.d (.str z)) cs1 : R A)) = (m env cs).bind fun a cs1 => (match a with
        | .d (.str y) => if (acc ++ y).length ≤ sizeLine then jsM ms (acc ++ y) env cs1 else .no
        | _ => .no).bind fun z cs1 => .ok (.d (.str z)) cs1 := by
        show (((m env cs).bind fun a cs1 => _).bind _) = _
        cases m env cs <;> rfl
      rw [← e]; exact h
    refine ⟨env, cs, as, s, (Post.bind h').mono fun a cs1 as1 H1 hs1 e1 h1 v rv => ?_⟩
    split at h1
    · rename_i y
      cases rep_str rv
      split at h1
      · rename_i hz
        exact ⟨y, rfl, hz, den_js (s.exn hs1 e1) h1⟩
      · exact h1.elim
    · exact h1.elim
theorem se_js {X : Cx} {g : G} {W : WX} {v1 v2 : Expr} {rest : List Expr} {ms : List ME} {pos : Pos} (h : SJ X g W (v1 :: v2 :: rest) ms) : PE X (.JoinedStr (v1 :: v2 :: rest) pos) (den g W (eJs ms)) :=
  pe_imp (pe_joined h.pj) fun σ H Q ⟨env, cs, as, s, h⟩ => den_js s h
end Sh
namespace L2
open PySem PySem.Spec PyProof.Rows
/-! ### zip over lists and tuples, mixed (true: a list) -/
def SqX (K : PySem.W.Frag) (H : Hp) : Bool → Addr → List V → Prop
  | true, a, xs => SqL K H a xs
  | false, a, xs => SqT K H a xs
def IsSeqX (h : Heap) : Bool → Addr → Array Value → Prop
  | true, a, its => h.IsList a its
  | false, a, its => h.IsTuple a its
def IterX (h : Heap) : Bool → Addr → Addr → Nat → Prop
  | true, it, a, i => h.IsListIter it a i
  | false, it, a, i => h.IsTupleIter it a i
def objX : Bool → Addr → Obj
  | true, a => { cls := .type "list_iterator", data := .fields #[.ref a, .int 0 0] }
  | false, a => { cls := .type "tuple_iterator", data := .fields #[.ref a, .int 0 0] }
theorem beginsX (k : Bool) (a : Addr) (items : Array Value) : Begins (.ref a) (objX k a) (fun h => IsSeqX h k a items) := by
  cases k
  · exact begins_tuple a items
  · exact begins_list a items
theorem drawsX {prog : Program} {w : World} {A : Around} (hh : A.handled = none) (k : Bool) (it a : Addr) (hne : a ≠ it) (items : Array Value) :
    Draws prog w A it [it, a] items.size (fun i v => items[i]? = some v) (fun i h => IterX h k it a i ∧ IsSeqX h k a items) := by
  cases k
  · exact Draws.tuple hh it a hne items
  · exact Draws.list hh it a hne items
theorem iterX_new {h : Heap} {k : Bool} {it a : Addr} (e : h.get? it = some (objX k a)) : IterX h k it a 0 := by
  cases k
  · exact ⟨_, e, rfl, rfl⟩
  · exact ⟨_, e, rfl, rfl⟩
theorem IterX.at {h h' : Heap} {k : Bool} {it a : Addr} {i : Nat} (x : IterX h k it a i) (hk : ∀ o, h.get? it = some o → h'.get? it = some o) : IterX h' k it a i := by
  cases k
  · exact Heap.IsTupleIter.at x hk
  · exact Heap.IsListIter.at x hk
theorem IterX.live {h : Heap} {k : Bool} {it a : Addr} {i : Nat} (x : IterX h k it a i) : ∃ o, h.get? it = some o ∧ ∀ v, o.data ≠ .cell v := by
  cases k
  · obtain ⟨o, e, _, d⟩ := x; exact ⟨o, e, fun v q => by rw [d] at q; cases q⟩
  · obtain ⟨o, e, _, d⟩ := x; exact ⟨o, e, fun v q => by rw [d] at q; cases q⟩
section
variable {X : Cx} {pins : List (Addr × Obj)} {σ : L2.St} {H : Hp} {s : Shared}
theorem sqX_its (I : Inv X pins σ H s) {k : Bool} {a : Addr} {xs : List V} (hq : SqX X.K H k a xs) : ∃ its : List Value, Vals xs its ∧ IsSeqX s.heap k a its.toArray ∧ a < s.heap.objs.size := by
  cases k
  · obtain ⟨its, rv, p, _⟩ := I.tuple hq
    obtain ⟨o, e, _⟩ := id p
    exact ⟨its, rv, p, Heap.lt_size e⟩
  · obtain ⟨its, rv, p, _⟩ := I.list hq
    exact ⟨its, rv, p.isList, p.lt⟩
theorem sqX_inj (I : Inv X pins σ H s) {k : Bool} {a : Addr} {xs ys : List V} (h1 : SqX X.K H k a xs) (h2 : SqX X.K H k a ys) : xs = ys := by
  cases k
  · exact I.tuple_inj h1 h2
  · exact I.list_inj h1 h2
end
/-! ### three -/
def ItZ3 (K : PySem.W.Frag) (k1 k2 k3 : Bool) (a b c : Addr) : It :=
  ⟨fun i H => ∃ (xs ys zs : List V) (x y z : V), SqX K H k1 a xs ∧ SqX K H k2 b ys ∧ SqX K H k3 c zs ∧ xs[i]? = some x ∧ ys[i]? = some y ∧ zs[i]? = some z,
    fun i H v H' => ∃ (T : Addr) (o : Obj) (x y z : V), v = .ref T ∧ o.dict = none ∧ H T = none ∧ H' = upd H T (.frz o (.tup [x, y, z])) ∧ (∀ xs, SqX K H k1 a xs → xs[i]? = some x) ∧ (∀ ys, SqX K H k2 b ys → ys[i]? = some y) ∧ ∀ zs, SqX K H k3 c zs → zs[i]? = some z,
    fun i H => ∃ xs ys zs : List V, SqX K H k1 a xs ∧ SqX K H k2 b ys ∧ SqX K H k3 c zs ∧ i ≤ xs.length ∧ i ≤ ys.length ∧ i ≤ zs.length ∧ (i = xs.length ∨ i = ys.length ∨ i = zs.length)⟩
theorem turn_z3 {P : Program} {w : World} {K : PySem.W.Frag} {elts : List Expr} {kk : Nat} {tpos : Pos} {k1 k2 k3 : Bool} {a b c z TI TO i1 i2 i3 : Addr} (D : ZipSep3 z TI TO i1 i2 i3 [i1, a] [i2, b] [i3, c]) (n1 : a ≠ i1) (n2 : b ≠ i2) (n3 : c ≠ i3) :
    Turn P w K (.Tuple elts kk tpos) (ItZ3 K k1 k2 k3 a b c) [z, TI, TO, i1, i2, i3] z (fun i h => IsZip h z TI TO .none ∧ IsTupOf3 h TI (.ref i1) (.ref i2) (.ref i3) ∧ (∃ x y u, IsTupOf3 h TO x y u) ∧ IterX h k1 i1 a i ∧ IterX h k2 i2 b i ∧ IterX h k3 i3 c i) where
  mem := by simp
  obj := fun i h st d hd => by
    obtain ⟨hz, hTI, ⟨x, y, u, hTO⟩, h1, h2, h3⟩ := st
    have e' : d = z ∨ d = TI ∨ d = TO ∨ d = i1 ∨ d = i2 ∨ d = i3 := by simpa using hd
    rcases e' with q | q | q | q | q | q
    · rw [q]; exact ⟨_, hz, fun v q => nomatch q⟩
    · rw [q]; exact ⟨_, hTI, fun v q => nomatch q⟩
    · rw [q]; exact ⟨_, hTO, fun v q => nomatch q⟩
    · rw [q]; exact h1.live
    · rw [q]; exact h2.live
    · rw [q]; exact h3.live
  keep := fun i h h' st k => by
    obtain ⟨hz, hTI, ⟨x, y, u, hTO⟩, h1, h2, h3⟩ := st
    exact ⟨k z (by simp) _ hz, k TI (by simp) _ hTI, ⟨x, y, u, k TO (by simp) _ hTO⟩, h1.at fun o q => k i1 (by simp) o q, h2.at fun o q => k i2 (by simp) o q, h3.at fun o q => k i3 (by simp) o q⟩
  item := by
    intro X hP hw hK hc i pins s σ H E I hf st hg
    subst hP hw hK
    obtain ⟨hz, hTI, ⟨x0, y0, u0, hTO⟩, h1, h2, h3⟩ := st
    obtain ⟨xs, ys, zs, x, y, u, hqx, hqy, hqz, hx, hy, hu⟩ := hg
    obtain ⟨its, rv, p1, _⟩ := sqX_its I hqx
    obtain ⟨its2, rv2, p2, _⟩ := sqX_its I hqy
    obtain ⟨its3, rv3, p3, _⟩ := sqX_its I hqz
    obtain ⟨v1, hv1, ru1⟩ := rv.get hx
    obtain ⟨v2, hv2, ru2⟩ := rv2.get hy
    obtain ⟨v3, hv3, ru3⟩ := rv3.get hu
    have hh : X.A.in1.handled = none := by exact I.ok.hd hc
    have hzl : z < s.heap.objs.size := Heap.lt_size hz
    refine wpAny_pyNext_zipD3_item D (drawsX hh k1 i1 a n1 its.toArray) (drawsX hh k2 i2 b n2 its2.toArray) (drawsX hh k3 i3 c n3 its3.toArray) hz hTI hTO ⟨h1, p1⟩ ⟨h2, p2⟩ ⟨h3, p3⟩
      (by rw [List.size_toArray]; exact (List.getElem?_eq_some_iff.mp hv1).1) (by rw [List.size_toArray]; exact (List.getElem?_eq_some_iff.mp hv2).1) (by rw [List.size_toArray]; exact (List.getElem?_eq_some_iff.mp hv3).1) fun w1 w2 w3 h' tk y1 y2 y3 b1 b2 d1 d2 d3 hT hsz hk => ?_
    obtain rfl : w1 = v1 := by have q : its[i]? = some w1 := by simpa using y1
                               rw [hv1] at q; exact (Option.some.inj q).symm
    obtain rfl : w2 = v2 := by have q : its2[i]? = some w2 := by simpa using y2
                               rw [hv2] at q; exact (Option.some.inj q).symm
    obtain rfl : w3 = v3 := by have q : its3[i]? = some w3 := by simpa using y3
                               rw [hv3] at q; exact (Option.some.inj q).symm
    refine ⟨_, rfl, wpAny_letOwnedTupleGo_zip (s := { s with heap := h', toks := tk }) b1 fun h'' z'' sb => ?_⟩
    have hT2 : h''.get? s.heap.objs.size = some { cls := .type "tuple", data := .seq #[w1, w2, w3] } := (sb.2 _ (Nat.ne_of_gt hzl)).trans hT
    have new : ObjOk X.prog X.w (upd H s.heap.objs.size (.frz { cls := .type "tuple", data := .seq #[w1, w2, w3] } (.tup [x, y, u]))) h'' s.heap.objs.size (.frz { cls := .type "tuple", data := .seq #[w1, w2, w3] } (.tup [x, y, u])) :=
      ⟨hT2, by show 3 ≤ sizeLine; decide, [w1, w2, w3], .cons ru1 (.cons ru2 (.cons ru3 .nil)), ⟨_, hT2, rfl, _, rfl⟩⟩
    have I1 : Inv X pins σ (upd H s.heap.objs.size (.frz { cls := .type "tuple", data := .seq #[w1, w2, w3] } (.tup [x, y, u]))) { s with heap := h'', toks := tk } :=
      I.turnedNew (ch := [z, TI, TO, i1, i2, i3]) (fun d o hb q => (sb.2 d (fun q' => hb (by simp [q']))).trans (hk d o (fun q' => hb (by simp [q'])) (fun q' => hb (by simp [q'])) (fun q' => hb (by simp [q'])) (fun q' => hb (by simp [q'])) (fun q' => hb (by simp [q'])) q)) hf (Nat.le_refl _) new
    have z1 : i1 ≠ z := fun e => D.zf1 (by rw [← e]; simp)
    have z2 : i2 ≠ z := fun e => D.zf2 (by rw [← e]; simp)
    have z3 : i3 ≠ z := fun e => D.zf3 (by rw [← e]; simp)
    refine ⟨.ref s.heap.objs.size, _, I1, rfl, ⟨_, _, x, y, u, rfl, rfl, I.hok.fresh (Nat.le_refl _), rfl, fun l hl => by rw [sqX_inj I hl hqx]; exact hx, fun l hl => by rw [sqX_inj I hl hqy]; exact hy, fun l hl => by rw [sqX_inj I hl hqz]; exact hu⟩, ⟨z'', ?_, ⟨w1, w2, w3, ?_⟩, ?_, ?_, ?_⟩, fun d hcm => ?_⟩
    · exact (sb.2 _ D.TIz).trans (hk _ _ D.TIz D.TITO D.TIi1 D.TIi2 D.TIi3 hTI)
    · exact (sb.2 _ D.TOz).trans b2
    · exact d1.1.at fun o q => (sb.2 _ z1).trans q
    · exact d2.1.at fun o q => (sb.2 _ z2).trans q
    · exact d3.1.at fun o q => (sb.2 _ z3).trans q
    · have hlt : d < s.heap.objs.size := by
        have e' : d = z ∨ d = TI ∨ d = TO ∨ d = i1 ∨ d = i2 ∨ d = i3 := by simpa using hcm
        rcases e' with q | q | q | q | q | q
        · rw [q]; exact hzl
        · rw [q]; exact Heap.lt_size hTI
        · rw [q]; exact Heap.lt_size hTO
        · rw [q]; obtain ⟨_, e1, _⟩ := h1.live; exact Heap.lt_size e1
        · rw [q]; obtain ⟨_, e1, _⟩ := h2.live; exact Heap.lt_size e1
        · rw [q]; obtain ⟨_, e1, _⟩ := h3.live; exact Heap.lt_size e1
      rw [upd_ne (Nat.ne_of_lt hlt)]
      exact (hf d hcm).1
  done := by
    intro X hP hw hK hc i pins s σ H E I hf st hg
    subst hP hw hK
    obtain ⟨hz, hTI, ⟨x0, y0, u0, hTO⟩, h1, h2, h3⟩ := st
    obtain ⟨xs, ys, zs, hqx, hqy, hqz, l1, l2, l3, hend⟩ := hg
    obtain ⟨its, rv, p1, _⟩ := sqX_its I hqx
    obtain ⟨its2, rv2, p2, _⟩ := sqX_its I hqy
    obtain ⟨its3, rv3, p3, _⟩ := sqX_its I hqz
    have m1 := rv.length
    have m2 := rv2.length
    have m3 := rv3.length
    have hh : X.A.in1.handled = none := by exact I.ok.hd hc
    exact wpAny_pyNext_zipD3_end D (drawsX hh k1 i1 a n1 its.toArray) (drawsX hh k2 i2 b n2 its2.toArray) (drawsX hh k3 i3 c n3 its3.toArray) hz hTI hTO ⟨h1, p1⟩ ⟨h2, p2⟩ ⟨h3, p3⟩
      (by rw [List.size_toArray]; omega) (by rw [List.size_toArray]; omega) (by rw [List.size_toArray]; omega) (by rw [List.size_toArray, List.size_toArray, List.size_toArray]; omega)
      fun h' tk hk => ⟨rfl, I.turnedL (ch := [z, TI, TO, i1, i2, i3]) (fun d o hb q => hk d o (fun q' => hb (by simp [q'])) (fun q' => hb (by simp [q'])) (fun q' => hb (by simp [q'])) (fun q' => hb (by simp [q'])) (fun q' => hb (by simp [q'])) q) hf⟩
  self := fun A i s Q E st h => wpAny_pyIter_zip st.1 h
/-! ### two -/
def ItZ2 (K : PySem.W.Frag) (k1 k2 : Bool) (a b : Addr) : It :=
  ⟨fun i H => ∃ (xs ys : List V) (x y : V), SqX K H k1 a xs ∧ SqX K H k2 b ys ∧ xs[i]? = some x ∧ ys[i]? = some y,
    fun i H v H' => ∃ (T : Addr) (o : Obj) (x y : V), v = .ref T ∧ o.dict = none ∧ H T = none ∧ H' = upd H T (.frz o (.tup [x, y])) ∧ (∀ xs, SqX K H k1 a xs → xs[i]? = some x) ∧ (∀ ys, SqX K H k2 b ys → ys[i]? = some y),
    fun i H => ∃ xs ys : List V, SqX K H k1 a xs ∧ SqX K H k2 b ys ∧ i ≤ xs.length ∧ i ≤ ys.length ∧ (i = xs.length ∨ i = ys.length)⟩
theorem turn_z2 {P : Program} {w : World} {K : PySem.W.Frag} {elts : List Expr} {kk : Nat} {tpos : Pos} {k1 k2 : Bool} {a b z TI TO i1 i2 : Addr} (D : ZipSep2 z TI TO i1 i2 [i1, a] [i2, b]) (n1 : a ≠ i1) (n2 : b ≠ i2) :
    Turn P w K (.Tuple elts kk tpos) (ItZ2 K k1 k2 a b) [z, TI, TO, i1, i2] z (fun i h => IsZip h z TI TO .none ∧ IsTupOf2 h TI (.ref i1) (.ref i2) ∧ (∃ x y, IsTupOf2 h TO x y) ∧ IterX h k1 i1 a i ∧ IterX h k2 i2 b i) where
  mem := by simp
  obj := fun i h st d hd => by
    obtain ⟨hz, hTI, ⟨x, y, hTO⟩, h1, h2⟩ := st
    have e' : d = z ∨ d = TI ∨ d = TO ∨ d = i1 ∨ d = i2 := by simpa using hd
    rcases e' with q | q | q | q | q
    · rw [q]; exact ⟨_, hz, fun v q => nomatch q⟩
    · rw [q]; exact ⟨_, hTI, fun v q => nomatch q⟩
    · rw [q]; exact ⟨_, hTO, fun v q => nomatch q⟩
    · rw [q]; exact h1.live
    · rw [q]; exact h2.live
  keep := fun i h h' st k => by
    obtain ⟨hz, hTI, ⟨x, y, hTO⟩, h1, h2⟩ := st
    exact ⟨k z (by simp) _ hz, k TI (by simp) _ hTI, ⟨x, y, k TO (by simp) _ hTO⟩, h1.at fun o q => k i1 (by simp) o q, h2.at fun o q => k i2 (by simp) o q⟩
  item := by
    intro X hP hw hK hc i pins s σ H E I hf st hg
    subst hP hw hK
    obtain ⟨hz, hTI, ⟨x0, y0, hTO⟩, h1, h2⟩ := st
    obtain ⟨xs, ys, x, y, hqx, hqy, hx, hy⟩ := hg
    obtain ⟨its, rv, p1, _⟩ := sqX_its I hqx
    obtain ⟨its2, rv2, p2, _⟩ := sqX_its I hqy
    obtain ⟨v1, hv1, ru1⟩ := rv.get hx
    obtain ⟨v2, hv2, ru2⟩ := rv2.get hy
    have hh : X.A.in1.handled = none := by exact I.ok.hd hc
    have hzl : z < s.heap.objs.size := Heap.lt_size hz
    refine wpAny_pyNext_zipD2_item D (drawsX hh k1 i1 a n1 its.toArray) (drawsX hh k2 i2 b n2 its2.toArray) hz hTI hTO ⟨h1, p1⟩ ⟨h2, p2⟩
      (by rw [List.size_toArray]; exact (List.getElem?_eq_some_iff.mp hv1).1) (by rw [List.size_toArray]; exact (List.getElem?_eq_some_iff.mp hv2).1) fun w1 w2 h' tk y1 y2 b1 b2 d1 d2 hT hsz hk => ?_
    obtain rfl : w1 = v1 := by have q : its[i]? = some w1 := by simpa using y1
                               rw [hv1] at q; exact (Option.some.inj q).symm
    obtain rfl : w2 = v2 := by have q : its2[i]? = some w2 := by simpa using y2
                               rw [hv2] at q; exact (Option.some.inj q).symm
    refine ⟨_, rfl, wpAny_letOwnedTupleGo_zip (s := { s with heap := h', toks := tk }) b1 fun h'' z'' sb => ?_⟩
    have hT2 : h''.get? s.heap.objs.size = some { cls := .type "tuple", data := .seq #[w1, w2] } := (sb.2 _ (Nat.ne_of_gt hzl)).trans hT
    have new : ObjOk X.prog X.w (upd H s.heap.objs.size (.frz { cls := .type "tuple", data := .seq #[w1, w2] } (.tup [x, y]))) h'' s.heap.objs.size (.frz { cls := .type "tuple", data := .seq #[w1, w2] } (.tup [x, y])) :=
      ⟨hT2, by show 2 ≤ sizeLine; decide, [w1, w2], .cons ru1 (.cons ru2 .nil), ⟨_, hT2, rfl, _, rfl⟩⟩
    have I1 : Inv X pins σ (upd H s.heap.objs.size (.frz { cls := .type "tuple", data := .seq #[w1, w2] } (.tup [x, y]))) { s with heap := h'', toks := tk } :=
      I.turnedNew (ch := [z, TI, TO, i1, i2]) (fun d o hb q => (sb.2 d (fun q' => hb (by simp [q']))).trans (hk d o (fun q' => hb (by simp [q'])) (fun q' => hb (by simp [q'])) (fun q' => hb (by simp [q'])) (fun q' => hb (by simp [q'])) q)) hf (Nat.le_refl _) new
    have z1 : i1 ≠ z := fun e => D.zf1 (by rw [← e]; simp)
    have z2 : i2 ≠ z := fun e => D.zf2 (by rw [← e]; simp)
    refine ⟨.ref s.heap.objs.size, _, I1, rfl, ⟨_, _, x, y, rfl, rfl, I.hok.fresh (Nat.le_refl _), rfl, fun l hl => by rw [sqX_inj I hl hqx]; exact hx, fun l hl => by rw [sqX_inj I hl hqy]; exact hy⟩, ⟨z'', ?_, ⟨w1, w2, ?_⟩, ?_, ?_⟩, fun d hcm => ?_⟩
    · exact (sb.2 _ D.TIz).trans (hk _ _ D.TIz D.TITO D.TIi1 D.TIi2 hTI)
    · exact (sb.2 _ D.TOz).trans b2
    · exact d1.1.at fun o q => (sb.2 _ z1).trans q
    · exact d2.1.at fun o q => (sb.2 _ z2).trans q
    · have hlt : d < s.heap.objs.size := by
        have e' : d = z ∨ d = TI ∨ d = TO ∨ d = i1 ∨ d = i2 := by simpa using hcm
        rcases e' with q | q | q | q | q
        · rw [q]; exact hzl
        · rw [q]; exact Heap.lt_size hTI
        · rw [q]; exact Heap.lt_size hTO
        · rw [q]; obtain ⟨_, e1, _⟩ := h1.live; exact Heap.lt_size e1
        · rw [q]; obtain ⟨_, e1, _⟩ := h2.live; exact Heap.lt_size e1
      rw [upd_ne (Nat.ne_of_lt hlt)]
      exact (hf d hcm).1
  done := by
    intro X hP hw hK hc i pins s σ H E I hf st hg
    subst hP hw hK
    obtain ⟨hz, hTI, ⟨x0, y0, hTO⟩, h1, h2⟩ := st
    obtain ⟨xs, ys, hqx, hqy, l1, l2, hend⟩ := hg
    obtain ⟨its, rv, p1, _⟩ := sqX_its I hqx
    obtain ⟨its2, rv2, p2, _⟩ := sqX_its I hqy
    have m1 := rv.length
    have m2 := rv2.length
    have hh : X.A.in1.handled = none := by exact I.ok.hd hc
    exact wpAny_pyNext_zipD2_end D (drawsX hh k1 i1 a n1 its.toArray) (drawsX hh k2 i2 b n2 its2.toArray) hz hTI hTO ⟨h1, p1⟩ ⟨h2, p2⟩
      (by rw [List.size_toArray]; omega) (by rw [List.size_toArray]; omega) (by rw [List.size_toArray, List.size_toArray]; omega)
      fun h' tk hk => ⟨rfl, I.turnedL (ch := [z, TI, TO, i1, i2]) (fun d o hb q => hk d o (fun q' => hb (by simp [q'])) (fun q' => hb (by simp [q'])) (fun q' => hb (by simp [q'])) (fun q' => hb (by simp [q'])) q) hf⟩
  self := fun A i s Q E st h => wpAny_pyIter_zip st.1 h
/-! ### the sources -/
def iZ2 (K : PySem.W.Frag) (ta : TA) : TI := fun σ H R => ta σ H fun vs H1 => ∃ (k1 k2 : Bool) (a b : Addr) (xs ys : List V), vs = [.ref a, .ref b] ∧ SqX K H1 k1 a xs ∧ SqX K H1 k2 b ys ∧ R (ItZ2 K k1 k2 a b) H1
def iZ3 (K : PySem.W.Frag) (ta : TA) : TI := fun σ H R => ta σ H fun vs H1 => ∃ (k1 k2 k3 : Bool) (a b c : Addr) (xs ys zs : List V), vs = [.ref a, .ref b, .ref c] ∧ SqX K H1 k1 a xs ∧ SqX K H1 k2 b ys ∧ SqX K H1 k3 c zs ∧ R (ItZ3 K k1 k2 k3 a b c) H1
theorem pi_z2 {X : Cx} {e e2 : Expr} {ta : TA} {p pos tpos : Pos} {elts : List Expr} {kk : Nat} (hg : Gl X "zip") (hm : X.mg "zip" = none) (ha : PA X [e, e2] ta)
    (hs : starEach [e, e2] X.env = (false, eval e X.env) :: starEach [e2] X.env := by rfl) (hpl : (backTo pos (starEach [e2] X.env)).any (·.1) = false := by rfl) :
    PI X (.Tuple elts kk tpos) (.Call (.Name "zip" p) [e, e2] [] pos) (iZ2 X.K ta) := by
  refine ⟨fun pins s σ H R I h => ?_⟩
  refine Call_ (ld_blt I hg hm PyProof.Rows.boot_zip (PyProof.Rows.callWith_type1 (thn (ha.run pos pins s σ H _ I h) fun us s1 ⟨vs, H1, I1, r1, q1⟩ => ?_) hs hpl))
  obtain ⟨k1, k2, a, b, xs, ys, ex, hq1, hq2, q⟩ := q1
  subst ex
  cases r1 with
  | cons r rr =>
    cases rr with
    | cons r' rr =>
      cases rr
      cases r
      cases r'
      obtain ⟨its, rv, p1, l1⟩ := sqX_its I1 hq1
      obtain ⟨its2, rv2, p2, l2⟩ := sqX_its I1 hq2
      refine zip_begins2 (beginsX k1 a its.toArray) (beginsX k2 b its2.toArray) p1 p2 fun h' hz hTI hTO g1 g2 hsz hk => wpAny_pyIter_zip hz ?_
      have I2 : Inv X pins σ H1 { s1 with heap := h' } := I1.kept (t' := s1.toks) hk
      refine ⟨s1.heap.objs.size + 4, [s1.heap.objs.size + 4, s1.heap.objs.size + 2, s1.heap.objs.size + 3, s1.heap.objs.size, s1.heap.objs.size + 1], _, _, H1, rfl, I2, turn_z2 (zip_sep2 (fp1 := [a]) (fp2 := [b]) (fun d hd => by simp at hd; subst hd; exact l1) (fun d hd => by simp at hd; subst hd; exact l2)) (Nat.ne_of_lt l1) (Nat.ne_of_lt (Nat.lt_succ_of_lt l2)),
        ⟨hz, hTI, ⟨_, _, hTO⟩, iterX_new g1, iterX_new g2⟩, fun d hcm => ?_, q⟩
      have e' : d = s1.heap.objs.size + 4 ∨ d = s1.heap.objs.size + 2 ∨ d = s1.heap.objs.size + 3 ∨ d = s1.heap.objs.size ∨ d = s1.heap.objs.size + 1 := by simpa using hcm
      have hle : s1.heap.objs.size ≤ d := by
        rcases e' with z | z | z | z | z
        · rw [z]; exact Nat.le_add_right _ _
        · rw [z]; exact Nat.le_add_right _ _
        · rw [z]; exact Nat.le_add_right _ _
        · rw [z]; exact Nat.le_refl _
        · rw [z]; exact Nat.le_add_right _ _
      exact I1.fpOk hle (I1.hok.fresh hle)
theorem pi_z3 {X : Cx} {e e2 e3 : Expr} {ta : TA} {p pos tpos : Pos} {elts : List Expr} {kk : Nat} (hg : Gl X "zip") (hm : X.mg "zip" = none) (ha : PA X [e, e2, e3] ta)
    (hs : starEach [e, e2, e3] X.env = (false, eval e X.env) :: starEach [e2, e3] X.env := by rfl) (hpl : (backTo pos (starEach [e2, e3] X.env)).any (·.1) = false := by rfl) :
    PI X (.Tuple elts kk tpos) (.Call (.Name "zip" p) [e, e2, e3] [] pos) (iZ3 X.K ta) := by
  refine ⟨fun pins s σ H R I h => ?_⟩
  refine Call_ (ld_blt I hg hm PyProof.Rows.boot_zip (PyProof.Rows.callWith_type1 (thn (ha.run pos pins s σ H _ I h) fun us s1 ⟨vs, H1, I1, r1, q1⟩ => ?_) hs hpl))
  obtain ⟨k1, k2, k3, a, b, c, xs, ys, zs, ex, hq1, hq2, hq3, q⟩ := q1
  subst ex
  cases r1 with
  | cons r rr =>
    cases rr with
    | cons r' rr =>
      cases rr with
      | cons r'' rr =>
        cases rr
        cases r
        cases r'
        cases r''
        obtain ⟨its, rv, p1, l1⟩ := sqX_its I1 hq1
        obtain ⟨its2, rv2, p2, l2⟩ := sqX_its I1 hq2
        obtain ⟨its3, rv3, p3, l3⟩ := sqX_its I1 hq3
        refine zip_begins3 (beginsX k1 a its.toArray) (beginsX k2 b its2.toArray) (beginsX k3 c its3.toArray) p1 p2 p3 fun h' hz hTI hTO g1 g2 g3 hsz hk => wpAny_pyIter_zip hz ?_
        have I2 : Inv X pins σ H1 { s1 with heap := h' } := I1.kept (t' := s1.toks) hk
        refine ⟨s1.heap.objs.size + 5, [s1.heap.objs.size + 5, s1.heap.objs.size + 3, s1.heap.objs.size + 4, s1.heap.objs.size, s1.heap.objs.size + 1, s1.heap.objs.size + 2], _, _, H1, rfl, I2, turn_z3 (zip_sep3 (fp1 := [a]) (fp2 := [b]) (fp3 := [c]) (fun d hd => by simp at hd; subst hd; exact l1) (fun d hd => by simp at hd; subst hd; exact l2) (fun d hd => by simp at hd; subst hd; exact l3)) (Nat.ne_of_lt l1) (Nat.ne_of_lt (Nat.lt_succ_of_lt l2)) (Nat.ne_of_lt (Nat.lt_succ_of_lt (Nat.lt_succ_of_lt l3))),
          ⟨hz, hTI, ⟨_, _, _, hTO⟩, iterX_new g1, iterX_new g2, iterX_new g3⟩, fun d hcm => ?_, q⟩
        have e' : d = s1.heap.objs.size + 5 ∨ d = s1.heap.objs.size + 3 ∨ d = s1.heap.objs.size + 4 ∨ d = s1.heap.objs.size ∨ d = s1.heap.objs.size + 1 ∨ d = s1.heap.objs.size + 2 := by simpa using hcm
        have hle : s1.heap.objs.size ≤ d := by
          rcases e' with z | z | z | z | z | z
          · rw [z]; exact Nat.le_add_right _ _
          · rw [z]; exact Nat.le_add_right _ _
          · rw [z]; exact Nat.le_add_right _ _
          · rw [z]; exact Nat.le_refl _
          · rw [z]; exact Nat.le_add_right _ _
          · rw [z]; exact Nat.le_add_right _ _
        exact I1.fpOk hle (I1.hok.fresh hle)
end L2
namespace Sh
open PySem L2
def seqD : A → Option (List PyData)
  | .d (.list xs) => some xs
  | .d (.tuple xs) => some xs
  | _ => none
def zip2D : List PyData → List PyData → List A
  | x :: xs, y :: ys => .d (.tuple [x, y]) :: zip2D xs ys
  | _, _ => []
def zip3D : List PyData → List PyData → List PyData → List A
  | x :: xs, y :: ys, z :: zs => .d (.tuple [x, y, z]) :: zip3D xs ys zs
  | _, _, _ => []
def iZip2 (ma : MA) : MI := fun env cs => (ma env cs).bind fun vs cs1 => match vs with
  | [a, b] => match seqD a, seqD b with
    | some x, some y => .ok (.it (zip2D x y)) cs1
    | _, _ => .no
  | _ => .no
def iZip3 (ma : MA) : MI := fun env cs => (ma env cs).bind fun vs cs1 => match vs with
  | [a, b, c] => match seqD a, seqD b, seqD c with
    | some x, some y, some z => .ok (.it (zip3D x y z)) cs1
    | _, _, _ => .no
  | _ => .no
theorem zip2D_len : ∀ xs ys : List PyData, (zip2D xs ys).length = min xs.length ys.length
  | [], _ => by simp [zip2D]
  | _ :: _, [] => by simp [zip2D]
  | x :: xs, y :: ys => by simp [zip2D, zip2D_len xs ys, Nat.succ_min_succ]
theorem zip3D_len : ∀ xs ys zs : List PyData, (zip3D xs ys zs).length = min (min xs.length ys.length) zs.length
  | [], _, _ => by simp [zip3D]
  | _ :: _, [], _ => by simp [zip3D]
  | _ :: _, _ :: _, [] => by simp [zip3D]
  | x :: xs, y :: ys, z :: zs => by simp [zip3D, zip3D_len xs ys zs, Nat.succ_min_succ]
theorem zip2D_get : ∀ (i : Nat) {xs ys : List PyData} {x y : PyData}, xs[i]? = some x → ys[i]? = some y → (zip2D xs ys)[i]? = some (.d (.tuple [x, y]))
  | 0, x :: xs, y :: ys, _, _, h1, h2 => by simp at h1 h2; subst h1 h2; rfl
  | i + 1, _ :: xs, _ :: ys, x, y, h1, h2 => by simp at h1 h2; simpa [zip2D] using zip2D_get i h1 h2
  | 0, [], _, _, _, h1, _ => by simp at h1
  | i + 1, [], _, _, _, h1, _ => by simp at h1
  | 0, _ :: _, [], _, _, _, h2 => by simp at h2
  | i + 1, _ :: _, [], _, _, _, h2 => by simp at h2
theorem zip3D_get : ∀ (i : Nat) {xs ys zs : List PyData} {x y z : PyData}, xs[i]? = some x → ys[i]? = some y → zs[i]? = some z → (zip3D xs ys zs)[i]? = some (.d (.tuple [x, y, z]))
  | 0, x :: xs, y :: ys, z :: zs, _, _, _, h1, h2, h3 => by simp at h1 h2 h3; subst h1 h2 h3; rfl
  | i + 1, _ :: xs, _ :: ys, _ :: zs, x, y, z, h1, h2, h3 => by simp at h1 h2 h3; simpa [zip3D] using zip3D_get i h1 h2 h3
  | 0, [], _, _, _, _, _, h1, _, _ => by simp at h1
  | i + 1, [], _, _, _, _, _, h1, _, _ => by simp at h1
  | 0, _ :: _, [], _, _, _, _, _, h2, _ => by simp at h2
  | i + 1, _ :: _, [], _, _, _, _, _, h2, _ => by simp at h2
  | 0, _ :: _, _ :: _, [], _, _, _, _, _, h3 => by simp at h3
  | i + 1, _ :: _, _ :: _, [], _, _, _, _, _, h3 => by simp at h3
section
variable {g : G} {cs : CS} {as : AS} {H : Hp}
theorem seqD_rep {v : V} {a : A} {xs : List PyData} (r : RepA g cs as H v a) (h : seqD a = some xs) : ∃ (k : Bool) (p : Addr) (vs : List V), v = .ref p ∧ SqX g.K (dat cs as H) k p vs ∧ DqAll g.K (dat cs as H) vs xs := by
  unfold seqD at h
  split at h
  · obtain rfl := Option.some.inj h
    have r' : Dq g.K (dat cs as H) v (.list _) := r
    cases r' with
    | lst h1 h2 => exact ⟨true, _, _, rfl, SqL.of h1, h2⟩
  · obtain rfl := Option.some.inj h
    have r' : Dq g.K (dat cs as H) v (.tuple _) := r
    cases r' with
    | tup h1 h2 => exact ⟨false, _, _, rfl, h1.t, h2⟩
  · cases h
theorem Le.sqX {K : PySem.W.Frag} {H H' : Hp} (e : Le H H') {k : Bool} {a : Addr} {xs : List V} (h : SqX K H k a xs) : SqX K H' k a xs := by
  cases k
  · exact Le.sqT e h
  · exact Le.sqL e h
theorem walk_z2 {k1 k2 : Bool} {a b : Addr} {vs ws : List V} {xs ys : List PyData} (q1 : SqX g.K (dat cs as H) k1 a vs) (q2 : SqX g.K (dat cs as H) k2 b ws) (r1 : DqAll g.K (dat cs as H) vs xs) (r2 : DqAll g.K (dat cs as H) ws ys) : WalkIt g (ItZ2 g.K k1 k2 a b) cs as H (zip2D xs ys) := by
  have l1 := DqAll.length r1
  have l2 := DqAll.length r2
  refine ⟨fun i cs1 as1 H1 s1 e1 hi => ?_, fun cs1 as1 H1 s1 e1 => ?_, fun i cs1 as1 H1 x H2 s1 e1 hi hy => ?_⟩
  · rw [zip2D_len] at hi
    have h1 : i < vs.length := by omega
    have h2 : i < ws.length := by omega
    exact ⟨vs, ws, vs[i], ws[i], Le.sqX dat_le (Le.sqX e1 q1), Le.sqX dat_le (Le.sqX e1 q2), by simp [h1], by simp [h2]⟩
  · rw [zip2D_len]
    exact ⟨vs, ws, Le.sqX dat_le (Le.sqX e1 q1), Le.sqX dat_le (Le.sqX e1 q2), by omega, by omega, by omega⟩
  · obtain ⟨T, o', x', y', rfl, ho', hT, rfl, hx, hy⟩ := hy
    rw [zip2D_len] at hi
    have h1 : i < xs.length := by omega
    have h2 : i < ys.length := by omega
    obtain ⟨v, f1, rv⟩ := DqAll.get r1 (List.getElem?_eq_getElem h1)
    obtain ⟨w, f2, rw'⟩ := DqAll.get r2 (List.getElem?_eq_getElem h2)
    have ex := hx vs (Le.sqX dat_le (Le.sqX e1 q1))
    have ey := hy ws (Le.sqX dat_le (Le.sqX e1 q2))
    rw [f1] at ex; obtain rfl := Option.some.inj ex
    rw [f2] at ey; obtain rfl := Option.some.inj ey
    have en := exn_new (o := .frz o' (.tup [v, w])) s1 hT
    exact ⟨s1.new hT, en, .d (.tuple [xs[i], ys[i]]), zip2D_get i (List.getElem?_eq_getElem h1) (List.getElem?_eq_getElem h2), .tup (SqN.of ho' (dat_new s1 hT)) (.cons (Dq.le en.dat (Dq.le e1 rv)) (.cons (Dq.le en.dat (Dq.le e1 rw')) .nil))⟩
theorem walk_z3 {k1 k2 k3 : Bool} {a b c : Addr} {vs ws us : List V} {xs ys zs : List PyData} (q1 : SqX g.K (dat cs as H) k1 a vs) (q2 : SqX g.K (dat cs as H) k2 b ws) (q3 : SqX g.K (dat cs as H) k3 c us) (r1 : DqAll g.K (dat cs as H) vs xs) (r2 : DqAll g.K (dat cs as H) ws ys) (r3 : DqAll g.K (dat cs as H) us zs) :
    WalkIt g (ItZ3 g.K k1 k2 k3 a b c) cs as H (zip3D xs ys zs) := by
  have l1 := DqAll.length r1
  have l2 := DqAll.length r2
  have l3 := DqAll.length r3
  refine ⟨fun i cs1 as1 H1 s1 e1 hi => ?_, fun cs1 as1 H1 s1 e1 => ?_, fun i cs1 as1 H1 x H2 s1 e1 hi hy => ?_⟩
  · rw [zip3D_len] at hi
    have h1 : i < vs.length := by omega
    have h2 : i < ws.length := by omega
    have h3 : i < us.length := by omega
    exact ⟨vs, ws, us, vs[i], ws[i], us[i], Le.sqX dat_le (Le.sqX e1 q1), Le.sqX dat_le (Le.sqX e1 q2), Le.sqX dat_le (Le.sqX e1 q3), by simp [h1], by simp [h2], by simp [h3]⟩
  · rw [zip3D_len]
    exact ⟨vs, ws, us, Le.sqX dat_le (Le.sqX e1 q1), Le.sqX dat_le (Le.sqX e1 q2), Le.sqX dat_le (Le.sqX e1 q3), by omega, by omega, by omega, by omega⟩
  · obtain ⟨T, o', x', y', z', rfl, ho', hT, rfl, hx, hy, hz⟩ := hy
    rw [zip3D_len] at hi
    have h1 : i < xs.length := by omega
    have h2 : i < ys.length := by omega
    have h3 : i < zs.length := by omega
    obtain ⟨v, f1, rv⟩ := DqAll.get r1 (List.getElem?_eq_getElem h1)
    obtain ⟨w, f2, rw'⟩ := DqAll.get r2 (List.getElem?_eq_getElem h2)
    obtain ⟨u, f3, ru⟩ := DqAll.get r3 (List.getElem?_eq_getElem h3)
    have ex := hx vs (Le.sqX dat_le (Le.sqX e1 q1))
    have ey := hy ws (Le.sqX dat_le (Le.sqX e1 q2))
    have ez := hz us (Le.sqX dat_le (Le.sqX e1 q3))
    rw [f1] at ex; obtain rfl := Option.some.inj ex
    rw [f2] at ey; obtain rfl := Option.some.inj ey
    rw [f3] at ez; obtain rfl := Option.some.inj ez
    have en := exn_new (o := .frz o' (.tup [v, w, u])) s1 hT
    exact ⟨s1.new hT, en, .d (.tuple [xs[i], ys[i], zs[i]]), zip3D_get i (List.getElem?_eq_getElem h1) (List.getElem?_eq_getElem h2) (List.getElem?_eq_getElem h3), .tup (SqN.of ho' (dat_new s1 hT)) (.cons (Dq.le en.dat (Dq.le e1 rv)) (.cons (Dq.le en.dat (Dq.le e1 rw')) (.cons (Dq.le en.dat (Dq.le e1 ru)) .nil)))⟩
end
theorem si_zip2 {X : Cx} {g : G} {W : WX} {ma : MA} {a b : Expr} {elts : List Expr} {kk : Nat} {p pos tpos : Pos} (hK : X.K = g.K) (hg : Gl X "zip") (hm : X.mg "zip" = none) (ha : PA X [a, b] (denA g W ma))
    (hs : starEach [a, b] X.env = (false, eval a X.env) :: starEach [b] X.env := by rfl) (hpl : (backTo pos (starEach [b] X.env)).any (·.1) = false := by rfl) : PI X (.Tuple elts kk tpos) (.Call (.Name "zip" p) [a, b] [] pos) (denI g W (iZip2 ma)) := by
  refine ⟨fun pins s σ H Rr I ⟨env, cs, as, sa, h⟩ => ?_⟩
  refine (pi_z2 hg hm ha hs hpl).run pins s σ H Rr I ⟨env, cs, as, sa, (Post.bind h).mono fun xs cs1 as1 H1 hs1 e1 h1 vs rv => ?_⟩
  split at h1
  · rename_i a' b'
    obtain ⟨v, w, rfl, r, r2⟩ := reps2 rv
    cases e1' : seqD a' with
    | none => simp only [e1'] at h1; exact h1.elim
    | some x =>
      cases e2' : seqD b' with
      | none => simp only [e1', e2'] at h1; exact h1.elim
      | some y =>
        simp only [e1', e2'] at h1
        obtain ⟨k1, p1, vs1, rfl, f1, d1⟩ := seqD_rep r e1'
        obtain ⟨k2, p2, vs2, rfl, f2, d2⟩ := seqD_rep r2 e2'
        exact ⟨k1, k2, p1, p2, vs1, vs2, rfl, by rw [hK]; exact Le.sqX dat_le f1, by rw [hK]; exact Le.sqX dat_le f2, h1 as1 H1 hs1 Exn.refl _ (by rw [hK]; exact walk_z2 f1 f2 d1 d2)⟩
  · exact h1.elim
theorem reps3 {g : G} {cs : CS} {as : AS} {H : Hp} {vs : List V} {x y z : A} (r : RepAs g cs as H vs [x, y, z]) : ∃ v w u, vs = [v, w, u] ∧ RepA g cs as H v x ∧ RepA g cs as H w y ∧ RepA g cs as H u z := by
  cases r with
  | cons a b =>
    obtain ⟨w, u, rfl, q, q2⟩ := reps2 b
    exact ⟨_, w, u, rfl, a, q, q2⟩
theorem si_zip3 {X : Cx} {g : G} {W : WX} {ma : MA} {a b c : Expr} {elts : List Expr} {kk : Nat} {p pos tpos : Pos} (hK : X.K = g.K) (hg : Gl X "zip") (hm : X.mg "zip" = none) (ha : PA X [a, b, c] (denA g W ma))
    (hs : starEach [a, b, c] X.env = (false, eval a X.env) :: starEach [b, c] X.env := by rfl) (hpl : (backTo pos (starEach [b, c] X.env)).any (·.1) = false := by rfl) : PI X (.Tuple elts kk tpos) (.Call (.Name "zip" p) [a, b, c] [] pos) (denI g W (iZip3 ma)) := by
  refine ⟨fun pins s σ H Rr I ⟨env, cs, as, sa, h⟩ => ?_⟩
  refine (pi_z3 hg hm ha hs hpl).run pins s σ H Rr I ⟨env, cs, as, sa, (Post.bind h).mono fun xs cs1 as1 H1 hs1 e1 h1 vs rv => ?_⟩
  split at h1
  · rename_i a' b' c'
    obtain ⟨v, w, u, rfl, r, r2, r3⟩ := reps3 rv
    cases e1' : seqD a' with
    | none => simp only [e1'] at h1; exact h1.elim
    | some x =>
      cases e2' : seqD b' with
      | none => simp only [e1', e2'] at h1; exact h1.elim
      | some y =>
        cases e3' : seqD c' with
        | none => simp only [e1', e2', e3'] at h1; exact h1.elim
        | some z =>
          simp only [e1', e2', e3'] at h1
          obtain ⟨k1, p1, vs1, rfl, f1, d1⟩ := seqD_rep r e1'
          obtain ⟨k2, p2, vs2, rfl, f2, d2⟩ := seqD_rep r2 e2'
          obtain ⟨k3, p3, vs3, rfl, f3, d3⟩ := seqD_rep r3 e3'
          exact ⟨k1, k2, k3, p1, p2, p3, vs1, vs2, vs3, rfl, by rw [hK]; exact Le.sqX dat_le f1, by rw [hK]; exact Le.sqX dat_le f2, by rw [hK]; exact Le.sqX dat_le f3, h1 as1 H1 hs1 Exn.refl _ (by rw [hK]; exact walk_z3 f1 f2 f3 d1 d2 d3)⟩
  · exact h1.elim
end Sh
namespace L2
open PySem PySem.Spec PyProof.Rows
/-! ### text * int, list * int -/
theorem op_mulStr {X : Cx} : OpR X (binaryOp .Mult) (fun x y H Q => ∃ a n, x = .str a ∧ y = .int n ∧ MulOk a n ∧ Q (.str (Txt.mul a n)) H) := by
  intro pins s σ H x y v u Q I rx ry h
  obtain ⟨a, n, rfl, rfl, hok, q⟩ := h
  obtain ⟨t, rfl⟩ := rx
  obtain ⟨t', rfl⟩ := ry
  exact SB.mul hok fun t' k => ⟨.str (Txt.mul a n), H, I.tok k, ⟨t', rfl⟩, q⟩
def rMulL (K : PySem.W.Frag) : R2 := fun x y H Q => ∃ a xs i, x = V.ref a ∧ y = V.int i ∧ SqL K H a xs ∧ -(2 ^ 62) ≤ i ∧ i < 2 ^ 62 ∧ xs.length * i.toNat ≤ 16777216 ∧ ∀ p, H p = none → Q (.ref p) (upd H p (.lst (List.replicate i.toNat xs).flatten))
theorem vals_rep {xs : List V} {its : List Value} (h : Vals xs its) : ∀ n : Nat, Vals (List.replicate n xs).flatten (List.replicate n its).flatten
  | 0 => .nil
  | n + 1 => by rw [List.replicate_succ, List.replicate_succ, List.flatten_cons, List.flatten_cons]; exact h.append (vals_rep h n)
theorem op_mulL {X : Cx} : OpR X (binaryOp .Mult) (rMulL X.K) := by
  intro pins s σ H x y v u Q I rx ry h
  obtain ⟨a, xs, i, rfl, rfl, hs, h1, h2, hsz, q⟩ := h
  obtain rfl : v = Value.ref a := rx
  obtain ⟨t, rfl⟩ := ry
  obtain ⟨its, rv, ⟨⟨cls, dd, data, sl⟩, n, ho, hc, hdn, hd⟩, hlen⟩ := I.list hs
  have hc1 : cls = Value.type "list" := hc
  have hd1 : data = Data.seq its.toArray n := hd
  subst hc1 hd1
  have hsl := sizeLine_eq
  have hm : its.toArray.size * i.toNat ≤ 16777216 := by rw [List.size_toArray, ← rv.length]; exact hsz
  refine wpAny_binaryOp_repeat_ref (T := "list") (U := "int") (by decide) ⟨_, ho, rfl⟩ (fun s' => typeIs_int s' i t) noFill_list_mul F.fills_int_mul F.slot_int_rmul repeat_list F.slot_int_index.lookup
    (call_meets F.slot_int_rmul (typeIs_int s i t) F.entry_int_rmul (F.args_int_rmul_2 _ _) (lm_int_rmul_list_any i t a its.toArray n dd sl)
      ⟨ho, rfl, ⟨_, ho, rfl⟩, call_meets F.slot_list_mul ⟨_, ho, rfl⟩ F.entry_list_mul (F.args_list_mul_2 _ _)
        (lm_list_mul_any a its.toArray n dd sl i t (by simp [Builtin.List.listFitsIndex]; omega) (by omega) (by simp only [Builtin.List.listTooLong, decide_eq_true_eq]; omega))
        ⟨ho, ?_⟩⟩)
  rw [listMul_foldl_if]
  refine ⟨.ref s.heap.objs.size, upd H s.heap.objs.size (.lst (List.replicate i.toNat xs).flatten), I.laid (t' := s.toks) (fun b o e => Heap.get?_push_of_some _ e) (Nat.le_refl _) ⟨?_, _, 0, vals_rep rv i.toNat, Heap.get?_push_size _ rfl⟩, rfl, q _ (I.hok.fresh (Nat.le_refl _))⟩
  rw [lm_len_rep_flat, hsl, Nat.mul_comm]
  exact hsz
end L2
namespace Sh
open PySem L2
def mulSOk (x : Str) (n : Int) : Bool := decide (n.natAbs < 4611686018427387904 ∧ x.length * n.toNat ≤ 16777216)
theorem mulSOk_c {x : Str} {n : Int} (h : mulSOk x n = true) : MulOk x n := by
  obtain ⟨h1, h2⟩ := of_decide_eq_true h
  refine ⟨?_, fun h3 _ => ?_, fun _ _ => ?_⟩
  · rw [Bool.or_eq_false_iff]
    exact ⟨decide_eq_false (by omega), decide_eq_false (by omega)⟩
  · have h4 : (x.length : Int) * (n.toNat : Int) ≤ 16777216 := by rw [← Int.natCast_mul]; exact Int.ofNat_le.mpr h2
    rw [Int.toNat_of_nonneg (by omega)] at h4
    have h5 : (x.length : Int) ≤ (2 ^ 63 - 1) / n := (Int.le_ediv_iff_mul_le (by omega)).mpr (by omega)
    omega
  · unfold Builtin.Str.tooLong
    rw [sizeLine_eq]
    exact decide_eq_false (by omega)
def mulLOk (xs : List PyData) (n : Int) : Bool := decide (n.natAbs < 4611686018427387904 ∧ xs.length * n.toNat ≤ 16777216)
/-- int * int, text * int, list * int -/
def fMulX : A → A → CS → R A
  | .d (.int i), .d (.int j), cs => if mulOk i j = true then .ok (.d (.int (i * j))) cs else .no
  | .d (.str x), .d (.int n), cs => if mulSOk x n = true then .ok (.d (.str (Txt.mul x n))) cs else .no
  | a, .d (.int n), cs => match toL cs a with
    | some xs => if mulLOk xs n = true then .ok (.d (.list (List.replicate n.toNat xs).flatten)) cs else .no
    | none => .no
  | _, _, _ => .no
def fMulLC (a b : A) (cs : CS) : R A := match toL cs a, b with
  | some xs, .d (.int n) => if mulLOk xs n = true then .ok (.c cs.length) (cs ++ [.lst (List.replicate n.toNat xs).flatten]) else .no
  | _, _ => .no
def rMulX (K : PySem.W.Frag) : R2 := fun x y H Q => ((rI CMul (fun i j => .int (i * j)) x y H Q ∨ rI CMulW (fun i j => .int (i * j)) x y H Q) ∨ (∃ a n, x = .str a ∧ y = .int n ∧ MulOk a n ∧ Q (.str (Txt.mul a n)) H)) ∨ rMulL K x y H Q
theorem op_mulX {X : Cx} : OpR X (binaryOp .Mult) (rMulX X.K) := (op_mulA.or op_mulStr).or op_mulL
theorem dq_rep {K : PySem.W.Frag} {H : Hp} {vs : List V} {xs : List PyData} (h : DqAll K H vs xs) : ∀ n : Nat, DqAll K H (List.replicate n vs).flatten (List.replicate n xs).flatten
  | 0 => .nil
  | n + 1 => by rw [List.replicate_succ, List.replicate_succ, List.flatten_cons, List.flatten_cons]; exact DqAll.append h (dq_rep h n)
theorem mulL_rep {g : G} {cs : CS} {as : AS} {H : Hp} (s : Hs g cs as H) {x y : V} {a : A} {n : Int} {xs : List PyData} (ra : RepA g cs as H x a) (rb : RepA g cs as H y (.d (.int n))) (q : toL cs a = some xs) (hm : mulLOk xs n = true) {Q : VK}
    (h : ∀ (p : Addr) (vs : List V), H p = none → DqAll g.K (dat cs as H) vs (List.replicate n.toNat xs).flatten → Q (.ref p) (upd H p (.lst vs))) : rMulL g.K x y H Q := by
  obtain ⟨p, vs, rfl, h1, h2⟩ := toL_rep s ra q
  cases rep_int rb
  obtain ⟨m1, m2⟩ := of_decide_eq_true hm
  exact ⟨p, vs, n, rfl, rfl, SqL.of h1, by omega, by omega, by rw [DqAll.length h2]; exact m2, fun r hr => h r _ hr (dq_rep h2 n.toNat)⟩
theorem os_mulX {g : G} : OpS g (rMulX g.K) fMulX := by
  intro W σ cs as H x y a b Q s ra rb h
  unfold fMulX at h
  split at h
  · cases rep_int ra; cases rep_int rb
    split at h
    · rename_i hm
      rcases mulOk_c hm with hm | hm
      · exact .inl (.inl (.inl ⟨_, _, rfl, rfl, hm, h.int s⟩))
      · exact .inl (.inl (.inr ⟨_, _, rfl, rfl, hm, h.int s⟩))
    · exact h.elim
  · cases rep_str ra; cases rep_int rb
    split at h
    · rename_i hm; exact .inl (.inr ⟨_, _, rfl, rfl, mulSOk_c hm, h.str s⟩)
    · exact h.elim
  · rename_i n
    cases q : toL cs a with
    | none => simp only [q] at h; exact h.elim
    | some xs =>
      simp only [q] at h
      split at h
      · rename_i hm
        exact .inr (mulL_rep s ra rb q hm fun p vs hp r => h.lst s hp r)
      · exact h.elim
  · exact h.elim
theorem os_mulLC {g : G} : OpS g (rMulL g.K) fMulLC := by
  intro W σ cs as H x y a b Q s ra rb h
  unfold fMulLC at h
  split at h
  · rename_i xs n q
    split at h
    · rename_i hm
      exact mulL_rep s ra rb q hm fun p vs hp r => h.cell s hp r
    · exact h.elim
  · exact h.elim
theorem fMulX_int {cs : CS} {i j : Int} (h : mulOk i j = true) : fMulX (.d (.int i)) (.d (.int j)) cs = .ok (.d (.int (i * j))) cs := by simp [fMulX, h]
theorem fMulX_str {cs : CS} {x : Str} {n : Int} (h : mulSOk x n = true) : fMulX (.d (.str x)) (.d (.int n)) cs = .ok (.d (.str (Txt.mul x n))) cs := by simp [fMulX, h]
end Sh
namespace Sh
open PySem L2 PySem.Spec PyProof.Rows
/-! ### defs with default values -/
theorem fnD_ok {P : Program} {w : World} {g : G} {mg : Str → Option Value} {base : Heap} {x qual : Str} {params : Arguments} {body : List Stmt} {scope : Scope} {dvs : List V} {kws : List (Str × V)} {f : Addr} {fd : FuncData} {N ps : List Str} {k n : Nat} {m : MS} (F : FunD g.K x qual params body scope dvs kws f fd) (S : FnScope N ps scope) (hn : ps.length = n)
    (hbody : ∀ (cdv : Value) (A : Around) (outer : List PySem.Env) (s : Shared) (H : Hp) (E : XK), Room k (A.deeper (envOfC qual scope s.heap.objs.size f cdv)) →
      Takes (cxOf (L2.CX P w) P w g.K mg base N qual scope f cdv A outer s H E) (EX E) → PassesOwn (model P w) (A.deeper (envOfC qual scope s.heap.objs.size f cdv)) (envOfC qual scope s.heap.objs.size f cdv) (cxOf (L2.CX P w) P w g.K mg base N qual scope f cdv A outer s H E).xe →
      PSs (cxOf (L2.CX P w) P w g.K mg base N qual scope f cdv A outer s H E) body (denS g (EX E) m)) : FnOk P w g.K mg base (L2.CX P w) (k + 1) f fd ps (spOf g n (runBody N.length m)) := by
  subst hn
  refine F.ok S (fun vs H Q E h => h.1) fun cdv A outer s H vs Q E hr hsp => ⟨_, hbody cdv A outer s H E hr (takes_of rfl rfl rfl rfl) (passes_of (X := cxOf (L2.CX P w) P w g.K mg base N qual scope f cdv A outer s H E) rfl), ?_⟩
  obtain ⟨_, cs, as, xs, hs, rv, hp⟩ := hsp
  refine ⟨_, cs, as, sat_start hs rv, ?_⟩
  unfold runBody at hp
  cases q : m (xs.map some ++ List.replicate (N.length - xs.length) none) cs with
  | rt a cs' =>
    simp only [q] at hp
    split at hp
    · rename_i hl
      exact fun v as' H' hs' e' r => post_fin (σ := []) hs hl hp hs' e' r
    · exact hp.elim
  | nx env' cs' =>
    simp only [q] at hp
    split at hp
    · rename_i hl
      exact fun σ' as' H' s' e' => post_fin (σ := []) (a := .d .none) hs hl hp s'.hs e' Dq.non
    · exact hp.elim
  | ex e env' cs' =>
    simp only [q] at hp
    split at hp
    · rename_i hl
      refine fun d σ' as' H' s' e' rx => ?_
      obtain ⟨stk, lt⟩ := s'.hs.take cs.length
      refine hp d ⟨as'.l.take cs.length, as'.hid⟩ H' stk (exn_take hs e' lt) ?_
      rcases rx with ⟨h1, h2⟩ | ⟨dd, vs, h1, h2, h3, h4⟩
      · exact .inl ⟨h1, h2⟩
      · refine .inr ⟨dd, vs, h1, h2, fun l => h3 (l.imp (fun ⟨i, c, e1, n1, e2⟩ => ⟨i, c, (take_get e1).2, n1, (take_get e2).2⟩) id), Paired.mono (fun _ _ z => ⟨z.1, Dq.le lt z.2⟩) h4⟩
    · exact hp.elim
  | bk _ _ => simp only [q] at hp; exact hp.elim
  | ct _ _ => simp only [q] at hp; exact hp.elim
  | no => simp only [q] at hp; exact hp.elim
/-- a scalar that a default may be -/
inductive Sc : V → PyData → Prop
  | int (i : Int) : Sc (.int i) (.int i)
  | bl (b : Bool) : Sc (.bl b) (.bool b)
  | str (x : Str) : Sc (.str x) (.str x)
  | non : Sc .non .none
theorem Sc.dq {K : PySem.W.Frag} {H : Hp} {v : V} {x : PyData} (h : Sc v x) : Dq K H v x := by cases h <;> constructor
/-- a call in which the last parameters take their default values -/
def eCallD (n : Nat) (F : Fn) (dfl : List PyData) (ma : MA) : ME := fun env cs => (ma env cs).bind fun xs cs1 => if (xs ++ dfl.map A.d).length = n then F (xs ++ dfl.map A.d) cs1 else .no
section
variable {X : Cx} {g : G} {W : WX} {k n : Nat} {f : Addr} {fd : FuncData} {ps : List Str} {F : Fn} {x : Str} {p pos : Pos} {e : Expr} {es : List Expr} {ma : MA}
theorem reps_sc {cs : CS} {as : AS} {H : Hp} : ∀ {dvs : List V} {dfl : List PyData}, Paired Sc dvs dfl → RepAs g cs as H dvs (dfl.map A.d)
  | _, _, .nil => .nil
  | _, _, .cons a b => .cons a.dq (reps_sc b)
theorem se_callD {dvs : List V} {dfl : List PyData} (hF : FnOk X.prog X.w X.K X.mg X.base (L2.CX X.prog X.w) k f fd ps (spOf g n F)) (tk : Takes X W) (hr : Room k X.A) (hg : Gl X x) (hm : X.mg x = some (.ref f)) (hk : PySem.W.keepIn X.K (.ref f) = true) (hb : ∃ ds, Vals dvs ds ∧ Binds X.K fd ps ds) (hd : Paired Sc dvs dfl)
    (ha : PA X (e :: es) (denA g W ma)) (hdb : (x == ("__debug__" : Str)) = false := by decide) (he : starEach (e :: es) X.env = (false, eval e X.env) :: starEach es X.env := by rfl) (hpl : (backTo pos (starEach es X.env)).any (·.1) = false := by rfl) :
    PE X (.Call (.Name x p) (e :: es) [] pos) (den g W (eCallD n F dfl ma)) := by
  obtain ⟨ds, vd, hb⟩ := hb
  exact pe_imp (pe_callSD hF hr hg hm hk hb vd (fun σ => passAt tk σ) ha hdb he hpl) fun σ H Q ⟨env, cs, as, s, h⟩ => ⟨env, cs, as, s, (Post.bind h).mono fun xs cs1 as1 H1 hs1 e1 h1 vs rv => by
    split at h1
    · rename_i hl
      have rr : RepAs g cs1 as1 H1 (vs ++ dvs) (xs ++ dfl.map A.d) := Paired.append rv (reps_sc hd)
      exact ⟨by rw [Paired.length rr]; exact hl, cs1, as1, _, hs1, rr, post_EX h1⟩
    · exact h1.elim⟩
end
theorem binds_all {K : PySem.W.Frag} {fd : FuncData} {ps : List Str} (h : ∃ ds, Vals [] ds ∧ Binds K fd ps ds) : Binds K fd ps [] := by
  obtain ⟨ds, h1, h2⟩ := h
  cases h1
  exact h2
/-! ### d.get(k) -/
def eDGet1 (md mk : ME) : ME := fun env cs => (md env cs).bind fun d cs1 => match dkOf cs1 d with
  | some _ => (mk env cs1).bind fun k cs2 => match dkOf cs2 d, keyA k with
    | some (_, kvs), some k => .ok (.d ((getP kvs k).getD .none)) cs2
    | _, _ => .no
  | none => .no
theorem se_dget1 {X : Cx} {g : G} {W : WX} {md mk : ME} {o e : Expr} {apos cpos : Pos} (hu : X.A.units + 1 < cLine) (ho : PE X o (den g W md)) (he : PE X e (den g W mk)) (m : M1 X o "get" apos e cpos) : PE X (.Call (.Attribute o "get" apos) [e] [] cpos) (den g W (eDGet1 md mk)) :=
  pe_imp (pe_dget1 hu ho he m) fun σ H Q ⟨env, cs, as, s, h⟩ => ⟨env, cs, as, s, (Post.bind h).mono fun d cs1 as1 H1 hs1 e1 h1 vd rd => by
    cases q0 : dkOf cs1 d with
    | none => simp only [q0] at h1; exact h1.elim
    | some nk0 =>
      obtain ⟨n0, kvs0⟩ := nk0
      simp only [q0] at h1
      obtain ⟨p0, vs0, rfl, rfl, _, _, hp0, _⟩ := dkOf_rep hs1 rd q0
      refine ⟨p0, rfl, .inl ⟨vs0, .inl hp0⟩, env, cs1, as1, s.exn hs1 e1, (Post.bind h1).mono fun k cs2 as2 H2 hs2 e2 h2 vk rk => ?_⟩
      cases q1 : dkOf cs2 (.c n0) with
      | none => simp only [q1] at h2; exact h2.elim
      | some nk =>
        obtain ⟨n, kvs⟩ := nk
        cases q2 : keyA k with
        | none => simp only [q1, q2] at h2; exact h2.elim
        | some k' =>
          simp only [q1, q2] at h2
          obtain ⟨p, vs, e3, e4, c1, a1, hp, rr⟩ := dkOf_rep hs2 (rd.exn e2) q1
          cases e3
          cases keyA_rep rk q2
          refine ⟨valV vs k', DGet.k hp, ?_⟩
          rcases getP_rep rr k' with ⟨q3, q4⟩ | ⟨v, x, q3, q4, r⟩
          · rw [q3]; rw [q4] at h2; exact PostA.non h2 hs2
          · rw [q3]; rw [q4] at h2; exact PostA.here h2 hs2 r⟩
end Sh
namespace Sh
open PySem L2
/-! ### d[k], x = a, b -/
def sParDN (md mk : ME) (i : Nat) (ma : MA) : MS := fun env cs => (ma env cs).toS env fun xs cs1 => match xs with
  | [a, b] => (md env cs1).toS env fun d cs2 => (mk env cs2).toS env fun k cs3 => match a, dkOf cs3 d, keyA k with
    | .d y, some (n, kvs), some k => if kvs.length < sizeLine then .nx (env.set i (some b)) (cs3.set n (.dk (putP kvs k y))) else .no
    | _, _, _ => .no
  | _ => .no
theorem ss_parDN {X : Cx} {g : G} {W : WX} {md mk : ME} {i : Nat} {x : Str} {ma : MA} {o ix : Expr} {vs : List Expr} {kt k2 : Nat} {p p2 pt pt2 pos : Pos} (hc : X.calm = true) (hN : X.N.Nodup) (hu : X.A.units + 1 < cLine) (ho : PE X o (den g W md)) (hi : PE X ix (den g W mk)) (hx : X.N[i]? = some x) (hl : Loc X.env.scope x) (ha : PA X vs (denA g W ma))
    (hf : X.fn x = true ∨ X.env.scope.names.lookup x = some .local := by first | exact .inl rfl | exact .inr rfl | assumption)
    (hsub : ∀ v, assign (.Subscript o ix p) X.env v = (do
      let ov ← holding [v] (eval o X.env)
      let iv ← holding [v, ov] (eval ix X.env)
      standAt p
      holding [v, ov, iv] (setItem ov iv v)
      release [v, ov, iv] []) := by intro _; rfl)
    (hs1 : (assignEach [.Name x p2] X.env).map (·.2) = assign (.Name x p2) X.env :: (assignEach [] X.env).map (·.2) := by rfl)
    (hs2 : (assignEach [.Subscript o ix p, .Name x p2] X.env).map (·.2) = assign (.Subscript o ix p) X.env :: (assignEach [.Name x p2] X.env).map (·.2) := by rfl)
    (hn : (assignEach [.Subscript o ix p, .Name x p2] X.env).length = 2 := by rfl) (hst : (assignEach [.Subscript o ix p, .Name x p2] X.env).findIdx? (·.1) = none := by rfl)
    (hs : swapsWithSole [.Tuple [.Subscript o ix p, .Name x p2] kt pt] (.Tuple vs k2 pt2) pos.line X.env = pure false := by rfl) (hw : swappedStores [.Tuple [.Subscript o ix p, .Name x p2] kt pt] (.Tuple vs k2 pt2) X.env = pure none := by rfl)
    (h1 : (assignEach [.Tuple [.Subscript o ix p, .Name x p2] kt pt] X.env).map (·.2) = [assign (.Tuple [.Subscript o ix p, .Name x p2] kt pt) X.env] := by rfl) :
    PS X (.Assign [.Tuple [.Subscript o ix p, .Name x p2] kt pt] (.Tuple vs k2 pt2) pos) (denS g W (sParDN md mk i ma)) :=
  ps_imp (ps_asg (pe_tup ha) (pg_tup hc (pgs_cons (pg_sub ho hi (set_dict hu) hsub) (pgs_cons (pg_name hN hx hl hf) pgs_nil hs1) hs2) hn hst) hs hw h1) fun D σ H ⟨env, cs, as, s, h⟩ => ⟨env, cs, as, s, (post_toS s h).mono fun xs cs1 as1 H1 hs1' e1 h1' us ru => by
    split at h1'
    · rename_i a b
      obtain ⟨v, w, rfl, rv, rw'⟩ := reps2 ru
      refine ⟨by show 2 ≤ sizeLine; decide, fun q hq => ?_⟩
      have en := exn_new (o := .tup [v, w]) hs1' hq
      have s1 := s.exn (hs1'.new hq) (e1.trans en)
      refine ⟨q, [v, w], rfl, SqT.of upd_same, rfl, v, [w], rfl, env, cs1, as1, s1, (post_toS s1 (PostS.shift h1' en)).mono fun d cs2 as2 H2 hs2' e2 h2 vd rd => ⟨env, cs2, as2, s1.exn hs2' e2, (post_toS (s1.exn hs2' e2) h2).mono fun k cs3 as3 H3 hs3 e3 h3 vk rk => ?_⟩⟩
      cases a with
      | c _ => exact h3.elim
      | s _ => exact h3.elim
      | x _ => exact h3.elim
      | d y =>
        cases q1 : dkOf cs3 d with
        | none => simp only [q1] at h3; exact h3.elim
        | some nk =>
          obtain ⟨n, kvs⟩ := nk
          cases q2 : keyA k with
          | none => simp only [q1, q2] at h3; exact h3.elim
          | some k' =>
            simp only [q1, q2] at h3
            split at h3
            case isFalse => exact h3.elim
            rename_i hlt
            obtain ⟨pd, ws, rfl, rfl, c1, a1, hp, rr⟩ := dkOf_rep hs3 (rd.exn e3) q1
            cases keyA_rep rk q2
            have e123 := (en.trans e2).trans e3
            have ry : Dq g.K (dat cs3 as3 H3) v y := Dq.le e123.dat rv
            have e : Exn cs3 as3 H3 (cs3.set n (.dk (putP kvs k' y))) as3 (upd H3 pd (.dK (putK ws k' v))) := exn_set hs3 c1 (fun z => nomatch z) a1
            have hs4 : Hs g (cs3.set n (.dk (putP kvs k' y))) as3 (upd H3 pd (.dK (putK ws k' v))) := hs3.set c1 (fun z => nomatch z) a1 ⟨_, upd_same, repKV_le e.dat (putP_rep rr k' ry)⟩
            exact ⟨pd, _, rfl, DPut.k hp (by rw [Paired.length rr]; exact hlt), _, [], rfl, rfl, h3 _ as3 _ ((s.exn hs4 ((e1.trans e123).trans e)).set ((rw'.exn e123).exn e)) e⟩
    · exact h1'.elim⟩
end Sh
namespace L2
open PySem PySem.Spec PyProof.Rows
/-! ### tuple(text) -/
def signsV (a : Str) : List V := a.cps.toList.map fun c => V.str ⟨#[c]⟩
theorem call_tupStr {X : Cx} (hc : X.calm = true) : CallR X (.type "tuple") (fun xs H Q => ∃ a : Str, xs = [.str a] ∧ a.length ≤ sizeLine ∧ ∀ (p : Addr) (o : Obj), o.dict = none → H p = none → Q (.ref p) (upd H p (.frz o (.tup (signsV a))))) := by
  intro pins s σ H xs us Q I r h
  obtain ⟨a, rfl, hz, q⟩ := h
  obtain ⟨u, rfl, t, rfl⟩ := vals1 r
  refine call_tuple_str (hsz := hz) (I.ok.hd hc) a t fun h' tk acc hk hi => ?_
  have I2 : Inv X pins σ H { s with heap := h', toks := tk } := I.kept hk
  have hl : (signsV a).length = acc.toList.length := by unfold signsV; rw [List.length_map, Array.length_toList, Array.length_toList, hi.1]
  have rv : Vals (signsV a) acc.toList := vals_of_at hl fun j x u hx hu => by
    obtain ⟨c, t', h1, rfl⟩ := hi.2 j u (by rw [← hu, Array.getElem?_toList])
    unfold signsV at hx
    rw [List.getElem?_map, Array.getElem?_toList, h1] at hx
    cases hx
    exact ⟨t', rfl⟩
  exact ⟨.ref h'.objs.size, _, I2.tnew (t' := tk) rv (by unfold signsV; rw [List.length_map, Array.length_toList]; exact hz), rfl, q _ (tO acc.toList) rfl (I2.hok.fresh (Nat.le_refl _))⟩
end L2
namespace Sh
open PySem L2
def signsD (a : Str) : List PyData := a.cps.toList.map fun c => PyData.str ⟨#[c]⟩
/-- tuple(list | tuple | text) -/
def fTupleX : List A → CS → R A
  | [.d (.str a)], cs => if a.length ≤ sizeLine then .ok (.d (.tuple (signsD a))) cs else .no
  | [a], cs => match toS cs a with
    | some ds => .ok (.d (.tuple ds)) cs
    | none => .no
  | _, _ => .no
def rTupX (K : PySem.W.Frag) : List V → Hp → VK → Prop := fun xs H Q => (∃ p ys, xs = [.ref p] ∧ ((SqL K H p ys ∧ ∀ (l : Addr) (o : Obj), o.dict = none → H l = none → Q (.ref l) (upd H l (.frz o (.tup ys)))) ∨ (SqT K H p ys ∧ Q (.ref p) H))) ∨ ∃ a : Str, xs = [.str a] ∧ a.length ≤ sizeLine ∧ ∀ (p : Addr) (o : Obj), o.dict = none → H p = none → Q (.ref p) (upd H p (.frz o (.tup (signsV a))))
theorem call_tupX {X : Cx} (hc : X.calm = true) : CallR X (.type "tuple") (rTupX X.K) := fun pins s σ H xs us Q I r h => by
  rcases h with h | h
  · exact call_tupleN pins s σ H xs us Q I r h
  · exact call_tupStr hc pins s σ H xs us Q I r h
theorem dq_signs {K : PySem.W.Frag} {H : Hp} (a : Str) : DqAll K H (signsV a) (signsD a) := by
  unfold signsV signsD
  generalize a.cps.toList = l
  induction l with
  | nil => exact .nil
  | cons c l ih => exact .cons (.str _) ih
theorem cs_tupX {g : G} : CallS g (rTupX g.K) fTupleX := by
  intro W σ cs as H vs xs Q s r h
  unfold fTupleX at h
  split at h
  · obtain ⟨v, rfl, rv⟩ := reps1 r
    cases rep_str rv
    split at h
    · rename_i hz; exact .inr ⟨_, rfl, hz, fun p o ho hp => h.tup s ho hp (dq_signs _)⟩
    · exact h.elim
  · rename_i a hne
    obtain ⟨v, rfl, rv⟩ := reps1 r
    cases q : toS cs a with
    | none => simp only [q] at h; exact h.elim
    | some ds =>
      simp only [q] at h
      rcases toS_tup s rv q with ⟨p, ws, rfl, h1, h2⟩ | ⟨p, ws, rfl, h1, rfl⟩
      · exact .inl ⟨p, ws, rfl, .inl ⟨SqL.of h1, fun l o ho hl => h.tup s ho hl h2⟩⟩
      · exact .inl ⟨p, ws, rfl, .inr ⟨h1, h.here s rv⟩⟩
  · exact h.elim
end Sh
namespace Sh
open PySem L2
/-! ### a name's list is plain data from here on -/
def sFrzV (i : Nat) (m : MS) : MS := fun env cs => match env[i]? with
  | some (some (.c n)) => match cs[n]? with
    | some (.lst xs) => m (env.set i (some (.d (.list xs)))) (cs.set n .dead)
    | _ => .no
  | some (some (.d _)) => m env cs
  | _ => .no
theorem den_frzV {g : G} {W : WX} {i : Nat} {m : MS} {D : Ends} {σ : L2.St} {H : Hp} (h : denS g W (sFrzV i m) D σ H) : denS g W m D σ H := by
  obtain ⟨env, cs, as, s, hp⟩ := h
  unfold sFrzV at hp
  split at hp
  · rename_i n q
    split at hp
    · rename_i xs hc
      obtain ⟨v, q1, r⟩ := s.slots i _ q
      obtain ⟨p, e1, rfl⟩ := r
      obtain ⟨vs, e3, rr⟩ := s.hs.lst hc e1
      have e : Exn cs as H (cs.set n .dead) as H := exn_dead hc (fun z => nomatch z)
      have hs' : Hs g (cs.set n .dead) as H := s.hs.dead hc fun z => nomatch z
      have hd : dat (cs.set n .dead) as H p = some (.lst vs) := s.hs.dead_at hc (fun z => nomatch z) e1 e3
      refine ⟨_, _, as, ⟨hs', by rw [List.length_set]; exact s.len, fun j x qj => ?_⟩, PostS.shift hp e⟩
      by_cases hj : j = i
      · subst hj
        have hl : j < env.length := (List.getElem?_eq_some_iff.mp q).1
        rw [List.getElem?_set_self hl] at qj
        cases qj
        exact ⟨_, q1, .lst hd (DqAll.le e.dat rr)⟩
      · rw [List.getElem?_set_ne (Ne.symm hj)] at qj
        obtain ⟨w, w1, w2⟩ := s.slots j x qj
        exact ⟨w, w1, w2.exn e⟩
    · exact hp.elim
  · exact ⟨env, cs, as, s, hp⟩
  · exact hp.elim
theorem sss_frzV {X : Cx} {g : G} {W : WX} {sts : List Stmt} {m : MS} (i : Nat) (h : PSs X sts (denS g W m)) : PSs X sts (denS g W (sFrzV i m)) := pss_imp h fun _ _ _ => den_frzV
end Sh
namespace Sh
open PySem L2
/-! ### texts by their signs -/
theorem str_ext {a b : Str} (h : a.cps.toList = b.cps.toList) : a = b := by
  cases a; cases b; simp at h; simp [h]
theorem str_app (a b : Str) : (a ++ b).cps.toList = a.cps.toList ++ b.cps.toList := by
  show (Str.append a b).cps.toList = _
  simp [Str.append]
theorem str_len (a : Str) : a.length = a.cps.toList.length := by simp [Str.length]
theorem foldl_app (l : List (Array Nat)) : ∀ acc : Array Nat, (l.foldl (· ++ ·) acc).toList = acc.toList ++ (l.map Array.toList).flatten := by
  induction l with
  | nil => intro acc; simp
  | cons x l ih => intro acc; rw [List.foldl_cons, ih]; simp
theorem mul_list (x : Str) (n : Nat) : (Txt.mul x (n : Int)).cps.toList = (List.replicate n x.cps.toList).flatten := by
  unfold Txt.mul
  by_cases h0 : (n : Int) < 1
  · have : n = 0 := by omega
    subst this
    rw [if_pos h0]; rfl
  · rw [if_neg h0]
    by_cases h1 : ((n : Int) == 1 || x.length == 0) = true
    · rw [if_pos h1]
      rw [Bool.or_eq_true, beq_iff_eq, beq_iff_eq] at h1
      rcases h1 with h1 | h1
      · have : n = 1 := by omega
        subst this
        simp
      · have : x.cps.toList = [] := by
          rw [str_len] at h1
          exact List.eq_nil_of_length_eq_zero h1
        rw [this]
        induction n with
        | zero => rfl
        | succ n ih => simp
    · rw [if_neg h1]
      show ((List.replicate (n : Int).toNat x.cps).foldl (· ++ ·) #[]).toList = _
      rw [foldl_app]
      simp
end Sh
namespace Sh
open PySem L2
/-! ### more for reading: numbers, branches, appends, dicts -/
theorem fMod_nat {cs : CS} {a b : Nat} (h : 0 < b) : fMod (.d (.int (a : Int))) (.d (.int (b : Int))) cs = .ok (.d (.int ((a % b : Nat) : Int))) cs := by
  rw [fMod_int (by omega), Int.natCast_emod]
theorem divOk_nat {b : Nat} (h : b ≤ 1000000) : divOk (b : Int) = true := by
  unfold divOk
  refine decide_eq_true ?_
  rw [Int.natAbs_natCast]
  have : b.log2 ≤ 20 := by
    by_cases hb : b = 0
    · subst hb; decide
    · have := (Nat.log2_lt hb (k := 20)).mpr (by omega)
      omega
  omega
theorem fDiv_nat {cs : CS} {a b : Nat} (h : 0 < b) (h2 : b ≤ 1000000) : fDiv (.d (.int (a : Int))) (.d (.int (b : Int))) cs = .ok (.d (.int ((a / b : Nat) : Int))) cs := by
  rw [fDiv_int (by omega) (divOk_nat h2), Int.natCast_ediv]
theorem fMod_ok {cs : CS} {i : Int} {b : Nat} (h : 0 < b) : ∃ v : Nat, v < b ∧ fMod (.d (.int i)) (.d (.int (b : Int))) cs = .ok (.d (.int (v : Int))) cs := by
  have h1 := Int.emod_nonneg i (show (b : Int) ≠ 0 by omega)
  have h2 := Int.emod_lt_of_pos i (show (0 : Int) < b by omega)
  exact ⟨(i % b).toNat, by omega, by rw [fMod_int (by omega), Int.toNat_of_nonneg h1]⟩
theorem sIf_tt {t : MT} {m n : MS} {env : Env} {cs cs1 : CS} (h : t env cs = .ok true cs1) : sIf t m n env cs = m env cs1 := by simp [h]
theorem sIf_ff {t : MT} {m n : MS} {env : Env} {cs cs1 : CS} (h : t env cs = .ok false cs1) : sIf t m n env cs = n env cs1 := by simp [h]
theorem drop_app {mo me : ME} {env : Env} {cs cs' : CS} {k : Nat} {x : PyData} (ho : mo env cs = .ok (.c k) cs) (ty : tyA cs (.c k) "list" = true) {cs1 : CS} (hx : me env cs = .ok (.d x) cs1) (ha : mAppend (.c k) [.d x] cs1 = .ok (.d .none) cs') : sDrop (eMeth "list" mAppend mo (aCons me aNil)) env cs = .nx env cs' := by simp [ho, ty, hx, ha]
theorem dget_eq {cs : CS} {env : Env} {md : ME} {n : Nat} {kvs : List (Key × PyData)} {x : Str} {v : PyData} (hd : md env cs = .ok (.c n) cs) (hc : cs[n]? = some (.dk kvs)) (h : getP kvs (.inr x) = some v) : eDGet md (eC (.str x)) env cs = .ok (.d v) cs := by
  simp [eDGet, hd, dkOf_c hc, keyA, h]
theorem dput_eq {cs cs1 : CS} {env : Env} {md mv : ME} {n : Nat} {kvs : List (Key × PyData)} {x : Str} {v : PyData} (hv : mv env cs = .ok (.d v) cs1) (hd : md env cs1 = .ok (.c n) cs1) (hc : cs1[n]? = some (.dk kvs)) (hl : kvs.length < sizeLine) : Sh.sDPut md (eC (.str x)) mv env cs = .nx env (cs1.set n (.dk (putP kvs (.inr x) v))) := by
  simp [Sh.sDPut, hv, hd, dkOf_c hc, keyA, hl]
end Sh
namespace Sh
open PySem L2
/-! ### a call that is handed some cells: the other cells stand aside -/
def cellNos : List A → List Nat
  | [] => []
  | .c n :: xs => n :: cellNos xs
  | _ :: xs => cellNos xs
def renum (ks : List Nat) : A → A
  | .c n => .c (ks.idxOf n)
  | a => a
def putBack : CS → List Nat → CS → CS
  | cs, k :: ks, c :: c1 => putBack (cs.set k c) ks c1
  | cs, _, _ => cs
@[simp] theorem putBack_nil {cs c1 : CS} : putBack cs [] c1 = cs := by unfold putBack; rfl
@[simp] theorem putBack_nil2 {cs : CS} {k : Nat} {ks : List Nat} : putBack cs (k :: ks) [] = cs := by unfold putBack; rfl
@[simp] theorem putBack_cons {cs c1 : CS} {k : Nat} {ks : List Nat} {c : Cell} : putBack cs (k :: ks) (c :: c1) = putBack (cs.set k c) ks c1 := by rw [putBack]
def partR (cs : CS) (ks : List Nat) : R A → R A
  | .ok (.d x) c1 => if c1.length = ks.length then .ok (.d x) (putBack cs ks c1) else .no
  | .ex e c1 => if c1.length = ks.length then .ex e (putBack cs ks c1) else .no
  | _ => .no
def partF (F : Fn) : Fn := fun xs cs => if (cellNos xs).Nodup ∧ (∀ k ∈ cellNos xs, k < cs.length) then partR cs (cellNos xs) (F (xs.map (renum (cellNos xs))) ((cellNos xs).filterMap fun k => cs[k]?)) else .no
section
variable {g : G} {cs : CS} {as : AS} {H : Hp}
theorem nodup_ix : ∀ {ks : List Nat} {i j : Nat} (nd : ks.Nodup) (hi : i < ks.length) (hj : j < ks.length), ks[i] = ks[j] → i = j
  | k :: ks, 0, 0, _, _, _, _ => rfl
  | k :: ks, 0, j + 1, nd, hi, hj, e => absurd (by have e' : k = ks[j]'(by simpa using hj) := e; rw [e']; exact List.getElem_mem _) (List.nodup_cons.mp nd).1
  | k :: ks, i + 1, 0, nd, hi, hj, e => absurd (by have e' : ks[i]'(by simpa using hi) = k := e; rw [← e']; exact List.getElem_mem _) (List.nodup_cons.mp nd).1
  | k :: ks, i + 1, j + 1, nd, hi, hj, e => by
    have hi' : i < ks.length := by simpa using hi
    have hj' : j < ks.length := by simpa using hj
    have e' : ks[i] = ks[j] := e
    have := nodup_ix (List.nodup_cons.mp nd).2 hi' hj' e'
    omega
theorem fm_get {α : Type} {l : List α} : ∀ {ks : List Nat}, (∀ k ∈ ks, k < l.length) → ∀ i : Nat, (ks.filterMap fun (k : Nat) => l[k]?)[i]? = (ks[i]?).bind fun (k : Nat) => l[k]?
  | [], _, i => by simp
  | k :: ks, h, i => by
    have hk : k < l.length := h k List.mem_cons_self
    have e : (l[k]?) = some l[k] := List.getElem?_eq_getElem hk
    have e2 : ((k :: ks).filterMap fun k => l[k]?) = l[k] :: (ks.filterMap fun k => l[k]?) := by
      rw [List.filterMap_cons, e]
    rw [e2]
    cases i with
    | zero => simp
    | succ i => simpa using fm_get (fun q hq => h q (List.mem_cons_of_mem _ hq)) i
theorem fm_len {α : Type} {l : List α} : ∀ {ks : List Nat}, (∀ k ∈ ks, k < l.length) → (ks.filterMap fun k => l[k]?).length = ks.length
  | [], _ => rfl
  | k :: ks, h => by
    have hk : k < l.length := h k List.mem_cons_self
    have e : (l[k]?) = some l[k] := List.getElem?_eq_getElem hk
    rw [List.filterMap_cons, e]
    simp [fm_len fun q hq => h q (List.mem_cons_of_mem _ hq)]
theorem put_len : ∀ {ks : List Nat} {c1 cs : CS}, (putBack cs ks c1).length = cs.length
  | [], _, _ => by rw [putBack_nil]
  | _ :: _, [], _ => by rw [putBack_nil2]
  | k :: ks, c :: c1, cs => by rw [putBack_cons, put_len, List.length_set]
theorem put_out : ∀ {ks : List Nat} {c1 cs : CS} {j : Nat}, j ∉ ks → (putBack cs ks c1)[j]? = cs[j]?
  | [], _, _, _, _ => by rw [putBack_nil]
  | _ :: _, [], _, _, _ => by rw [putBack_nil2]
  | k :: ks, c :: c1, cs, j, h => by
    have hk : k ≠ j := fun e => h (by rw [e]; exact List.mem_cons_self)
    rw [putBack_cons, put_out fun z => h (List.mem_cons_of_mem _ z), List.getElem?_set_ne hk]
theorem put_in : ∀ {ks : List Nat} {c1 cs : CS} {i j : Nat}, ks.Nodup → (∀ k ∈ ks, k < cs.length) → c1.length = ks.length → ks[i]? = some j → (putBack cs ks c1)[j]? = c1[i]?
  | [], _, _, i, _, _, _, _, h => by simp at h
  | k :: ks, [], _, _, _, _, _, hl, _ => by simp at hl
  | k :: ks, c :: c1, cs, i, j, nd, hk, hl, h => by
    obtain ⟨n1, n2⟩ := List.nodup_cons.mp nd
    rw [putBack_cons]
    cases i with
    | zero =>
      simp at h; subst h
      rw [put_out n1, List.getElem?_set_self (hk k List.mem_cons_self)]; rfl
    | succ i =>
      simp at h
      rw [put_in n2 (fun q hq => by rw [List.length_set]; exact hk q (List.mem_cons_of_mem _ hq)) (by simpa using hl) h]; simp
def others (cs : CS) (ks : List Nat) : CS := cs.mapIdx fun i c => if i ∈ ks then .dead else c
def sub (cs : CS) (as : AS) (ks : List Nat) : AS := ⟨ks.filterMap fun k => as.l[k]?, liveL (others cs ks) as.l ++ as.hid⟩
theorem hid_sub {ks : List Nat} {a : Addr} : a ∈ (sub cs as ks).hid ↔ (∃ (i : Nat) (c : Cell), cs[i]? = some c ∧ c ≠ .dead ∧ i ∉ ks ∧ as.l[i]? = some a) ∨ a ∈ as.hid := by
  unfold sub
  simp only [List.mem_append, liveL_iff]
  refine or_congr ⟨fun ⟨i, c, e1, n1, e2⟩ => ?_, fun ⟨i, c, e1, n1, h, e2⟩ => ⟨i, c, ?_, n1, e2⟩⟩ Iff.rfl
  · unfold others at e1
    rw [List.getElem?_mapIdx] at e1
    cases q : cs[i]? with
    | none => rw [q] at e1; cases e1
    | some d =>
      rw [q] at e1
      have e1' : (if i ∈ ks then Cell.dead else d) = c := Option.some.inj e1
      by_cases h : i ∈ ks
      · rw [if_pos h] at e1'; exact absurd e1'.symm n1
      · rw [if_neg h] at e1'; exact ⟨i, c, by rw [q, e1'], n1, h, e2⟩
  · unfold others
    rw [List.getElem?_mapIdx, e1]
    show some (if i ∈ ks then Cell.dead else c) = some c
    rw [if_neg h]
variable {ks : List Nat}
theorem sub_get (s : Hs g cs as H) (hk : ∀ k ∈ ks, k < cs.length) (i : Nat) : (sub cs as ks).l[i]? = (ks[i]?).bind fun k => as.l[k]? := fm_get (fun k h => by rw [s.len]; exact hk k h) i
theorem live_sub (s : Hs g cs as H) (hk : ∀ k ∈ ks, k < cs.length) {a : Addr} : live (ks.filterMap fun k => cs[k]?) (sub cs as ks) a ↔ live cs as a := by
  unfold live
  rw [hid_sub]
  constructor
  · rintro (⟨i, c, e1, n1, e2⟩ | ⟨i, c, e1, n1, _, e2⟩ | h)
    · rw [fm_get hk] at e1
      rw [sub_get s hk] at e2
      cases q : ks[i]? with
      | none => rw [q] at e1; cases e1
      | some k => rw [q] at e1 e2; exact .inl ⟨k, c, e1, n1, e2⟩
    · exact .inl ⟨i, c, e1, n1, e2⟩
    · exact .inr h
  · rintro (⟨j, c, e1, n1, e2⟩ | h)
    · by_cases hj : j ∈ ks
      · obtain ⟨i, q⟩ := List.mem_iff_getElem?.mp hj
        exact .inl ⟨i, c, by rw [fm_get hk, q]; exact e1, n1, by rw [sub_get s hk, q]; exact e2⟩
      · exact .inr (.inl ⟨j, c, e1, n1, hj, e2⟩)
    · exact .inr (.inr h)
theorem dat_sub (s : Hs g cs as H) (hk : ∀ k ∈ ks, k < cs.length) : dat (ks.filterMap fun k => cs[k]?) (sub cs as ks) H = dat cs as H := by
  funext a
  classical
  by_cases h : live cs as a
  · unfold dat; rw [if_pos h, if_pos ((live_sub s hk).mpr h)]
  · unfold dat; rw [if_neg h, if_neg fun z => h ((live_sub s hk).mp z)]
theorem CellOk.dat_eq {cs' : CS} {as' : AS} (e : dat cs' as' H = dat cs as H) {a : Addr} {c : Cell} (h : CellOk g cs as H a c) : CellOk g cs' as' H a c := by
  cases c with
  | dead => trivial
  | lst _ => obtain ⟨vs, q, r⟩ := h; exact ⟨vs, q, by rw [e]; exact r⟩
  | dk _ => obtain ⟨vs, q, r⟩ := h; exact ⟨vs, q, by unfold RepKV; rw [e]; exact r⟩
  | dt _ => obtain ⟨vs, q, r⟩ := h; exact ⟨vs, q, by unfold RepKV; rw [e]; exact r⟩
theorem Hs.sub (s : Hs g cs as H) (nd : ks.Nodup) (hk : ∀ k ∈ ks, k < cs.length) : Hs g (ks.filterMap fun k => cs[k]?) (Sh.sub cs as ks) H := by
  have key : ∀ {i : Nat} {c : Cell} {a : Addr}, (ks.filterMap fun k => cs[k]?)[i]? = some c → (Sh.sub cs as ks).l[i]? = some a → ∃ k, ks[i]? = some k ∧ cs[k]? = some c ∧ as.l[k]? = some a := fun {i c a} e1 e2 => by
    rw [fm_get hk] at e1
    rw [sub_get s hk] at e2
    cases q : ks[i]? with
    | none => rw [q] at e1; cases e1
    | some k => rw [q] at e1 e2; exact ⟨k, rfl, e1, e2⟩
  refine ⟨?_, fun i j a c c' e1 n1 e2 n2 a1 a2 => ?_, fun i c a e1 e2 => ?_, fun i c a e1 n1 a1 ha => ?_, fun a ha => ?_⟩
  · show (ks.filterMap fun k => as.l[k]?).length = _
    rw [fm_len hk, fm_len fun k h => by rw [s.len]; exact hk k h]
  · obtain ⟨k1, q1, f1, b1⟩ := key e1 a1
    obtain ⟨k2, q2, f2, b2⟩ := key e2 a2
    have := s.inj k1 k2 a c c' f1 n1 f2 n2 b1 b2
    subst this
    have h1 := (List.getElem?_eq_some_iff.mp q1)
    have h2 := (List.getElem?_eq_some_iff.mp q2)
    exact nodup_ix nd h1.1 h2.1 (h1.2.trans h2.2.symm)
  · obtain ⟨k1, q1, f1, b1⟩ := key e1 e2
    exact (s.cells k1 c a f1 b1).dat_eq (dat_sub s hk)
  · obtain ⟨k1, q1, f1, b1⟩ := key e1 a1
    rcases hid_sub.mp ha with ⟨j, c', f2, n2, nj, b2⟩ | ha
    · have := s.inj k1 j a c c' f1 n1 f2 n2 b1 b2
      subst this
      exact nj (List.mem_iff_getElem?.mpr ⟨i, q1⟩)
    · exact s.apart k1 c a f1 n1 b1 ha
  · rcases hid_sub.mp ha with ⟨j, c', f2, n2, nj, b2⟩ | ha
    · exact s.of_live (.inl ⟨j, c', f2, n2, b2⟩)
    · exact s.there a ha
theorem Hs.unsub {c1 : CS} {as1 : AS} {H1 : Hp} (s : Hs g cs as H) (nd : ks.Nodup) (hk : ∀ k ∈ ks, k < cs.length) (hl : c1.length = ks.length) (s1 : Hs g c1 as1 H1) (e : Exn (ks.filterMap fun k => cs[k]?) (Sh.sub cs as ks) H c1 as1 H1) :
    Hs g (putBack cs ks c1) as H1 ∧ Exn cs as H (putBack cs ks c1) as H1 ∧ (∀ a, live c1 as1 a ↔ live (putBack cs ks c1) as a) ∧ dat c1 as1 H1 = dat (putBack cs ks c1) as H1 := by
  have ll : (Sh.sub cs as ks).l.length = ks.length := fm_len fun k h => by rw [s.len]; exact hk k h
  have el : as1.l = (Sh.sub cs as ks).l := by
    refine List.ext_getElem? fun n => ?_
    by_cases hn : n < ks.length
    · have : (Sh.sub cs as ks).l[n]? = some ((Sh.sub cs as ks).l[n]'(by rw [ll]; exact hn)) := List.getElem?_eq_getElem _
      rw [this, e.pre _ _ this]
    · rw [List.getElem?_eq_none (by rw [s1.len, hl]; omega), List.getElem?_eq_none (by rw [ll]; omega)]
  have eh : as1.hid = (Sh.sub cs as ks).hid := e.hid
  have get1 : ∀ i, as1.l[i]? = (ks[i]?).bind fun k => as.l[k]? := fun i => by rw [el]; exact sub_get s hk i
  have pin : ∀ {i j : Nat}, ks[i]? = some j → (putBack cs ks c1)[j]? = c1[i]? := fun h => put_in nd hk hl h
  have kp : ∀ a, a ∈ as1.hid → H1 a = H a := fun a h => e.kept a (by rw [← eh]; exact h)
  -- a cell of the result is one of the sub cells or an old one
  have key : ∀ {j : Nat} {c : Cell} {a : Addr}, (putBack cs ks c1)[j]? = some c → as.l[j]? = some a → (∃ i, ks[i]? = some j ∧ c1[i]? = some c ∧ as1.l[i]? = some a) ∨ (j ∉ ks ∧ cs[j]? = some c) := fun {j c a} e1 e2 => by
    by_cases hj : j ∈ ks
    · obtain ⟨i, q⟩ := List.mem_iff_getElem?.mp hj
      exact .inl ⟨i, q, by rw [← pin q]; exact e1, by rw [get1, q]; exact e2⟩
    · exact .inr ⟨hj, by rw [put_out hj] at e1; exact e1⟩
  have lv : ∀ a, live c1 as1 a ↔ live (putBack cs ks c1) as a := fun a => by
    unfold live
    rw [eh, hid_sub]
    constructor
    · rintro (⟨i, c, e1, n1, e2⟩ | ⟨i, c, e1, n1, h, e2⟩ | h)
      · rw [get1] at e2
        cases q : ks[i]? with
        | none => rw [q] at e2; cases e2
        | some k => rw [q] at e2; exact .inl ⟨k, c, by rw [pin q]; exact e1, n1, e2⟩
      · exact .inl ⟨i, c, by rw [put_out h]; exact e1, n1, e2⟩
      · exact .inr h
    · rintro (⟨j, c, e1, n1, e2⟩ | h)
      · rcases key e1 e2 with ⟨i, _, f1, f2⟩ | ⟨nj, f1⟩
        · exact .inl ⟨i, c, f1, n1, f2⟩
        · exact .inr (.inl ⟨j, c, f1, n1, nj, e2⟩)
      · exact .inr (.inr h)
  have dd : dat c1 as1 H1 = dat (putBack cs ks c1) as H1 := by
    funext a
    classical
    by_cases h : live c1 as1 a
    · unfold dat; rw [if_pos h, if_pos ((lv a).mp h)]
    · unfold dat; rw [if_neg h, if_neg fun z => h ((lv a).mpr z)]
  have ex : Exn cs as H (putBack cs ks c1) as H1 := ⟨fun _ _ h => h, fun a o h => by
    rw [← dat_sub s hk] at h
    rw [← dd]
    exact e.dat a o h, rfl, fun a ha => kp a (by rw [eh]; exact hid_sub.mpr (.inr ha))⟩
  refine ⟨⟨by rw [put_len]; exact s.len, fun i j a d d' e1 n1 e2 n2 a1 a2 => ?_, fun i d a e1 e2 => ?_, fun i d a e1 n1 a1 ha => ?_, fun a ha => ?_⟩, ex, lv, dd⟩
  · rcases key e1 a1 with ⟨i1, q1, f1, b1⟩ | ⟨nj1, f1⟩
    · rcases key e2 a2 with ⟨i2, q2, f2, b2⟩ | ⟨nj2, f2⟩
      · have := s1.inj i1 i2 a d d' f1 n1 f2 n2 b1 b2
        subst this
        rw [q1] at q2
        exact Option.some.inj q2
      · exact absurd (by rw [eh]; exact hid_sub.mpr (.inl ⟨j, d', f2, n2, nj2, a2⟩)) (s1.apart i1 d a f1 n1 b1)
    · rcases key e2 a2 with ⟨i2, q2, f2, b2⟩ | ⟨nj2, f2⟩
      · exact absurd (by rw [eh]; exact hid_sub.mpr (.inl ⟨i, d, f1, n1, nj1, a1⟩)) (s1.apart i2 d' a f2 n2 b2)
      · exact s.inj i j a d d' f1 n1 f2 n2 a1 a2
  · rcases key e1 e2 with ⟨i1, q1, f1, b1⟩ | ⟨nj1, f1⟩
    · exact (s1.cells i1 d a f1 b1).dat_eq dd.symm
    · have k := s.cells i d a f1 e2
      have hk : d ≠ .dead → H1 a = H a := fun n1 => kp a (by rw [eh]; exact hid_sub.mpr (.inl ⟨i, d, f1, n1, nj1, e2⟩))
      cases d with
      | dead => trivial
      | lst _ => obtain ⟨vs, q, r⟩ := k; exact ⟨vs, by rw [hk (fun z => nomatch z)]; exact q, DqAll.le ex.dat r⟩
      | dk _ => obtain ⟨vs, q, r⟩ := k; exact ⟨vs, by rw [hk (fun z => nomatch z)]; exact q, Paired.mono (fun _ _ z => ⟨z.1, Dq.le ex.dat z.2⟩) r⟩
      | dt _ => obtain ⟨vs, q, r⟩ := k; exact ⟨vs, by rw [hk (fun z => nomatch z)]; exact q, Paired.mono (fun _ _ z => ⟨z.1, Dq.le ex.dat z.2⟩) r⟩
  · rcases key e1 a1 with ⟨i1, q1, f1, b1⟩ | ⟨nj1, f1⟩
    · exact s1.apart i1 d a f1 n1 b1 (by rw [eh]; exact hid_sub.mpr (.inr ha))
    · exact s.apart i d a f1 n1 a1 ha
  · obtain ⟨o, q⟩ := s.there a ha
    exact ⟨o, by rw [kp a (by rw [eh]; exact hid_sub.mpr (.inr ha))]; exact q⟩
theorem RepA.sub (s : Hs g cs as H) (hk : ∀ k ∈ ks, k < cs.length) {v : V} {x : A} (hx : ∀ n, x = .c n → n ∈ ks) (r : RepA g cs as H v x) : RepA g (ks.filterMap fun k => cs[k]?) (Sh.sub cs as ks) H v (renum ks x) := by
  cases x with
  | d x => show Dq g.K (dat _ (Sh.sub cs as ks) H) v x; rw [dat_sub s hk]; exact r
  | c n =>
    obtain ⟨a, e, q⟩ := r
    refine ⟨a, ?_, q⟩
    have hn := hx n rfl
    have hi : ks.idxOf n < ks.length := List.idxOf_lt_length_of_mem hn
    rw [sub_get s hk, List.getElem?_eq_getElem hi, List.getElem_idxOf hi]
    exact e
  | s ns => obtain ⟨a, e, q⟩ := r; exact ⟨a, e, by rw [dat_sub s hk]; exact q⟩
  | x _ => obtain ⟨a, d, e1, e2, q⟩ := r; exact ⟨a, d, e1, e2, RepX.le (by rw [dat_sub s hk]; exact Le.refl) q⟩
theorem mem_cellNos {n : Nat} : ∀ {xs : List A}, A.c n ∈ xs → n ∈ cellNos xs
  | .c m :: xs, h => by
    unfold cellNos
    rcases List.mem_cons.mp h with h | h
    · cases h; exact List.mem_cons_self
    · exact List.mem_cons_of_mem _ (mem_cellNos h)
  | .d x :: xs, h => by
    unfold cellNos
    rcases List.mem_cons.mp h with h | h
    · cases h
    · exact mem_cellNos h
  | .s x :: xs, h => by
    unfold cellNos
    rcases List.mem_cons.mp h with h | h
    · cases h
    · exact mem_cellNos h
  | .x x :: xs, h => by
    unfold cellNos
    rcases List.mem_cons.mp h with h | h
    · cases h
    · exact mem_cellNos h
theorem RepAs.sub (s : Hs g cs as H) (hk : ∀ k ∈ ks, k < cs.length) : ∀ {vs : List V} {xs : List A}, (∀ n, A.c n ∈ xs → n ∈ ks) → RepAs g cs as H vs xs → RepAs g (ks.filterMap fun k => cs[k]?) (Sh.sub cs as ks) H vs (xs.map (renum ks))
  | _, _, _, .nil => .nil
  | _, _, h, .cons a b => .cons (a.sub s hk fun n e => h n (e ▸ List.mem_cons_self)) (RepAs.sub s hk (fun n e => h n (List.mem_cons_of_mem _ e)) b)
end
theorem fnOk_part {P : Program} {w : World} {g : G} {mg : Str → Option Value} {base : Heap} {CX : CXT} {k n : Nat} {f : Addr} {fd : FuncData} {ps : List Str} {F : Fn} (h : FnOk P w g.K mg base CX k f fd ps (spOf g n F)) : FnOk P w g.K mg base CX k f fd ps (spOf g n (partF F)) :=
  h.imp fun vs H Q E ⟨hl, cs, as, xs, s, r, p⟩ => by
    unfold partF at p
    split at p
    case isFalse => exact p.elim
    rename_i hp
    obtain ⟨nd, hk⟩ := hp
    refine ⟨hl, _, sub cs as (cellNos xs), xs.map (renum (cellNos xs)), s.sub nd hk, RepAs.sub s hk (fun n e => mem_cellNos e) r, ?_⟩
    generalize F (xs.map (renum (cellNos xs))) ((cellNos xs).filterMap fun k => cs[k]?) = rr at p ⊢
    unfold partR at p
    split at p
    · rename_i x c1
      split at p
      case isFalse => exact p.elim
      rename_i hc
      exact fun as' H' s' e' v rv => by
        obtain ⟨b1, b2, b3, b4⟩ := s.unsub nd hk hc s' e'
        refine p as H' b1 b2 v ?_
        show Dq g.K (dat _ as H') v x
        rw [← b4]
        exact rv
    · rename_i e c1
      split at p
      case isFalse => exact p.elim
      rename_i hc
      exact fun d as' H' s' e' rx => by
        obtain ⟨b1, b2, b3, b4⟩ := s.unsub nd hk hc s' e'
        refine p d as H' b1 b2 ?_
        rcases rx with ⟨h1, h2⟩ | ⟨dd, ws, h1, h2, h3, h4⟩
        · exact .inl ⟨h1, h2⟩
        · exact .inr ⟨dd, ws, h1, h2, fun l => h3 ((b3 dd).mpr l), by rw [← b4]; exact h4⟩
    · exact p.elim
/-! ### for reading -/
theorem renum_pl {ks : List Nat} : ∀ {ys : List A}, ys.all isPl = true → ys.map (renum ks) = ys ∧ cellNos ys = []
  | [], _ => ⟨rfl, rfl⟩
  | .d x :: ys, h => by
    obtain ⟨h1, h2⟩ := renum_pl (ks := ks) (ys := ys) (by simpa using h)
    exact ⟨by rw [List.map_cons, h1]; rfl, by unfold cellNos; exact h2⟩
  | .s x :: ys, h => by
    obtain ⟨h1, h2⟩ := renum_pl (ks := ks) (ys := ys) (by simpa using h)
    exact ⟨by rw [List.map_cons, h1]; rfl, by unfold cellNos; exact h2⟩
  | .c n :: ys, h => by simp [isPl] at h
  | .x n :: ys, h => by simp [isPl] at h
/-- one cell, the first argument -/
theorem partF_1 {F : Fn} {k : Nat} {ys : List A} {cs : CS} {c c' : Cell} {x : PyData} (hk : cs[k]? = some c) (hy : ys.all isPl = true) (h : F (.c 0 :: ys) [c] = .ok (.d x) [c']) : partF F (.c k :: ys) cs = .ok (.d x) (cs.set k c') := by
  obtain ⟨h1, h2⟩ := renum_pl (ks := [k]) hy
  have e : cellNos (.c k :: ys) = [k] := by unfold cellNos; rw [h2]
  have lt := (List.getElem?_eq_some_iff.mp hk).1
  unfold partF
  rw [e, if_pos ⟨by simp, by simpa using lt⟩, List.map_cons, h1]
  have e2 : renum [k] (.c k) = .c 0 := by simp [renum]
  have e3 : ([k].filterMap fun k => cs[k]?) = [c] := by simp [hk]
  rw [e2, e3, h]
  rfl
/-- two cells: the first and a later one -/
theorem partF_2 {F : Fn} {k l : Nat} {ys zs : List A} {cs : CS} {c d c' d' : Cell} {x : PyData} (hk : cs[k]? = some c) (hl : cs[l]? = some d) (hkl : k ≠ l) (hy : ys.all isPl = true) (hz : zs.all isPl = true) (h : F (.c 0 :: (ys ++ .c 1 :: zs)) [c, d] = .ok (.d x) [c', d']) : partF F (.c k :: (ys ++ .c l :: zs)) cs = .ok (.d x) ((cs.set k c').set l d') := by
  obtain ⟨h1, h2⟩ := renum_pl (ks := [k, l]) hy
  obtain ⟨h3, h4⟩ := renum_pl (ks := [k, l]) hz
  have e0 : ∀ {ys zs : List A}, ys.all isPl = true → cellNos zs = [] → cellNos (ys ++ .c l :: zs) = [l] := fun {ys zs} h1 h2 => by
    induction ys with
    | nil => show l :: cellNos zs = [l]; rw [h2]
    | cons y ys ih =>
      simp only [List.all_cons, Bool.and_eq_true] at h1
      cases y with
      | c n => exact absurd h1.1 (by simp [isPl])
      | d x => show cellNos (ys ++ .c l :: zs) = [l]; exact ih h1.2
      | s x => show cellNos (ys ++ .c l :: zs) = [l]; exact ih h1.2
      | x x => exact absurd h1.1 (by simp [isPl])
  have e : cellNos (.c k :: (ys ++ .c l :: zs)) = [k, l] := by unfold cellNos; rw [e0 hy h4]
  have lt := (List.getElem?_eq_some_iff.mp hk).1
  have lt2 := (List.getElem?_eq_some_iff.mp hl).1
  unfold partF
  rw [e, if_pos ⟨by simp [hkl], by simp [lt, lt2]⟩, List.map_cons, List.map_append, List.map_cons, h1, h3]
  have e2 : renum [k, l] (.c k) = .c 0 := by simp [renum]
  have e2' : renum [k, l] (.c l) = .c 1 := by simp [renum, List.idxOf_cons, show (k == l) = false from beq_false_of_ne hkl]
  have e3 : ([k, l].filterMap fun k => cs[k]?) = [c, d] := by simp [hk, hl]
  rw [e2, e2', e3, h]
  rfl
end Sh
namespace Sh
open PySem L2
/-! ### loops over a range or a list, by the place -/
theorem forRange {σ : Type} {tg : Tgt} {body : MS} {fg : List Nat} (E : σ → Env) (C : σ → CS) (I : Nat → σ → Prop) (N : Nat)
    (st : ∀ k s, k < N → I k s → ∃ s2, I (k + 1) s2 ∧ Goes (turn tg body (.d (.int (k : Int))) (E s) (C s)) fg (E s2) (C s2)) (s : σ) (h : I 0 s) :
    ∃ s', forIt tg body fg ((List.range N).map fun (i : Nat) => A.d (.int (i : Int))) (E s) (C s) = .nx (E s') (C s') ∧ I N s' := by
  have key : ∀ (n k : Nat) (s : σ), k + n = N → I k s → ∃ s', forIt tg body fg ((List.range' k n).map fun (i : Nat) => A.d (.int (i : Int))) (E s) (C s) = .nx (E s') (C s') ∧ I N s' := by
    intro n
    induction n with
    | zero =>
      intro k s e h
      have e' : k = N := by omega
      subst e'
      exact ⟨s, rfl, h⟩
    | succ n ih =>
      intro k s e h
      obtain ⟨s2, h2, h3⟩ := st k s (by omega) h
      obtain ⟨s', k1, k2⟩ := ih (k + 1) s2 (by omega) h2
      refine ⟨s', ?_, k2⟩
      rw [List.range'_succ, List.map_cons, forIt_step h3, k1]
  rw [List.range_eq_range']
  exact key N 0 s (by omega) h
theorem forList {α σ : Type} {tg : Tgt} {body : MS} {fg : List Nat} (enc : α → A) (E : σ → Env) (C : σ → CS) (I : Nat → σ → Prop) (ys : List α)
    (st : ∀ k y s, ys[k]? = some y → I k s → ∃ s2, I (k + 1) s2 ∧ Goes (turn tg body (enc y) (E s) (C s)) fg (E s2) (C s2)) (s : σ) (h : I 0 s) :
    ∃ s', forIt tg body fg (ys.map enc) (E s) (C s) = .nx (E s') (C s') ∧ I ys.length s' := by
  have key : ∀ (zs pre : List α) (s : σ), pre ++ zs = ys → I pre.length s → ∃ s', forIt tg body fg (zs.map enc) (E s) (C s) = .nx (E s') (C s') ∧ I ys.length s' := by
    intro zs
    induction zs with
    | nil => intro pre s e h; exact ⟨s, rfl, by rw [← e, List.append_nil]; exact h⟩
    | cons z zs ih =>
      intro pre s e h
      obtain ⟨s2, h2, h3⟩ := st pre.length z s (by rw [← e]; simp) h
      obtain ⟨s', k1, k2⟩ := ih (pre ++ [z]) s2 (by rw [← e]; simp) (by simpa using h2)
      refine ⟨s', ?_, k2⟩
      rw [List.map_cons, forIt_step h3, k1]
  exact key ys [] s rfl h
/-- one element behind the other gathers -/
theorem take_succ_of {α : Type} {xs : List α} {k : Nat} {x : α} (h : xs[k]? = some x) : xs.take (k + 1) = xs.take k ++ [x] := by
  have hk := (List.getElem?_eq_some_iff.mp h)
  rw [List.take_succ, h]; rfl
theorem size_lt' {n : Nat} (h : n ≤ 1000000) : n < sizeLine := size_lt h
theorem size_le' {n : Nat} (h : n ≤ 1000000) : n ≤ sizeLine := Nat.le_of_lt (size_lt h)
end Sh
namespace Sh
open PySem L2
/-! ### comprehensions over a cell that stays as it is -/
theorem lcCell_map {α : Type} {tg : Tgt} {t : MT} {e : ME} {env : Env} {cs : CS} {n : Nat} (g : α → PyData) (p : α → Bool) (f : α → PyData) (ys : List α) (hc : cs[n]? = some (.lst (ys.map g))) (hl : ys.length ≤ sizeLine)
    (h : ∀ y ∈ ys, ∃ env1, tg (.d (g y)) env cs = some env1 ∧ t env1 cs = .ok (p y) cs ∧ (p y = true → e env1 cs = .ok (.d (f y)) cs)) : ∀ (zs : List α) (i fuel : Nat), ys.drop i = zs → zs.length < fuel → lcCell tg t e env n fuel i cs = .ok ((zs.filter p).map f) cs
  | [], i, 0, _, hf => absurd hf (Nat.not_lt_zero _)
  | [], i, fuel + 1, hd, _ => by
    have hi : ys.length ≤ i := List.drop_eq_nil_iff.mp hd
    unfold lcCell
    simp only [hc]
    have : (ys.map g)[i]? = none := List.getElem?_eq_none (by rw [List.length_map]; exact hi)
    rw [this]
    simp [hi]
  | z :: zs, i, 0, _, hf => absurd hf (Nat.not_lt_zero _)
  | z :: zs, i, fuel + 1, hd, hf => by
    have hi : i < ys.length := by
      have := congrArg List.length hd
      rw [List.length_drop, List.length_cons] at this; omega
    have hg : ys[i]? = some z := by
      have : (ys.drop i)[0]? = some z := by rw [hd]; rfl
      rw [List.getElem?_drop] at this
      simpa using this
    have hd' : ys.drop (i + 1) = zs := by
      have e : ys.drop (i + 1) = (ys.drop i).drop 1 := by rw [List.drop_drop]
      rw [e, hd]; rfl
    obtain ⟨env1, h1, h2, h3⟩ := h z (List.mem_of_getElem? hg)
    have ih := lcCell_map g p f ys hc hl h zs (i + 1) fuel hd' (by rw [List.length_cons] at hf; omega)
    unfold lcCell
    simp only [hc]
    have : (ys.map g)[i]? = some (g z) := by rw [List.getElem?_map, hg]; rfl
    rw [this]
    have hs : i < sizeLine := Nat.lt_of_lt_of_le hi hl
    simp only [hs, if_true, h1, h2, noEx_ok, R.bind_ok]
    cases q : p z with
    | false => simp [ih, q]
    | true => simp [h3 q, ih, q]
theorem eLc_cell {α : Type} {fr : List Nat} {src : MI} {tg : Tgt} {e : ME} {env : Env} {cs : CS} {n : Nat} (g : α → PyData) (f : α → PyData) (ys : List α) (hs : src env cs = .ok (.cell n) cs) (hc : cs[n]? = some (.lst (ys.map g))) (hl : ys.length ≤ 1000000)
    (h : ∀ y ∈ ys, ∃ env1, tg (.d (g y)) (wipeE fr.reverse env) cs = some env1 ∧ e env1 cs = .ok (.d (f y)) cs) : eLc fr src tg tYesM e env cs = .ok (.d (.list (ys.map f))) cs := by
  have k := lcCell_map (tg := tg) (t := tYesM) (e := e) (env := wipeE fr.reverse env) (cs := cs) g (fun _ => true) f ys hc (size_le' hl) (fun y hy => by
    obtain ⟨env1, h1, h2⟩ := h y hy
    exact ⟨env1, h1, rfl, fun _ => h2⟩) ys 0 1000000000 rfl (by omega)
  unfold eLc
  simp only [hs, R.bind_ok, lcS, k, List.filter_eq_self.mpr fun _ _ => rfl]
end Sh
namespace Sh
open PySem L2
/-! ### x is None -/
def isNonA : A → Bool
  | .d .none => true
  | _ => false
def fIsN (neg : Bool) (a b : A) (cs : CS) : R A := match b with
  | .d .none => .ok (.d (.bool (if neg then !isNonA a else isNonA a))) cs
  | _ => .no
theorem rep_isNon {g : G} {cs : CS} {as : AS} {H : Hp} {v : V} {a : A} (r : RepA g cs as H v a) : decide (v = .non) = isNonA a := by
  cases a with
  | d x =>
    have r' : Dq g.K (dat cs as H) v x := r
    cases r' <;> rfl
  | c n => obtain ⟨p, _, rfl⟩ := r; rfl
  | s ns => obtain ⟨p, rfl, _⟩ := r; rfl
  | x _ => obtain ⟨p, d, _, rfl, _⟩ := r; rfl
theorem os_isN {g : G} : OpS g (fun x y H Q => y = .non ∧ Q (.bl (decide (x = .non))) H) (fIsN false) := by
  intro W σ cs as H x y a b Q s ra rb h
  unfold fIsN at h
  split at h
  · exact ⟨rep_non rb, by rw [rep_isNon ra]; exact h.bl s⟩
  · exact h.elim
theorem os_notN {g : G} : OpS g (fun x y H Q => y = .non ∧ Q (.bl (!decide (x = .non))) H) (fIsN true) := by
  intro W σ cs as H x y a b Q s ra rb h
  unfold fIsN at h
  split at h
  · exact ⟨rep_non rb, by rw [rep_isNon ra]; exact h.bl s⟩
  · exact h.elim
@[simp] theorem fIsN_at {neg : Bool} {a : A} {cs : CS} : fIsN neg a (.d .none) cs = .ok (.d (.bool (if neg then !isNonA a else isNonA a))) cs := rfl
/-! ### a < b < c -/
def eChain (f f' : A → A → CS → R A) (ma mb mc : ME) : ME := fun env cs => (ma env cs).bind fun x cs1 => (mb env cs1).bind fun y cs2 => (asB (f x y cs2)).bind fun k cs3 => if k = true then (mc env cs3).bind fun w cs4 => f' y w cs4 else .ok (.d (.bool false)) cs3
@[simp] theorem eChain_at {f f' : A → A → CS → R A} {ma mb mc : ME} {env : Env} {cs : CS} : eChain f f' ma mb mc env cs = (ma env cs).bind fun x cs1 => (mb env cs1).bind fun y cs2 => (asB (f x y cs2)).bind fun k cs3 => if k = true then (mc env cs3).bind fun w cs4 => f' y w cs4 else .ok (.d (.bool false)) cs3 := rfl
section
variable {X : Cx} {g : G} {W : WX} {ma mb mc : ME} {a b c : Expr} {pos : Pos}
theorem post_asB2 {σ : St} {cs : CS} {as : AS} {H : Hp} {P : Bool → CS → AS → Hp → Prop} {r : R A} (h : Post g W σ cs as H P (asB r)) : Post g W σ cs as H (fun a cs' as' H' => ∃ k, a = .d (.bool k) ∧ P k cs' as' H') r := by
  cases r with
  | ok a cs' =>
    cases a with
    | d x =>
      cases x with
      | bool b => exact fun as' H' hs e => ⟨b, rfl, h as' H' hs e⟩
      | none => exact h.elim
      | int _ => exact h.elim
      | str _ => exact h.elim
      | list _ => exact h.elim
      | tuple _ => exact h.elim
      | dict _ => exact h.elim
    | c n => exact h.elim
    | s n => exact h.elim
    | x _ => exact h.elim
  | ex e cs' => exact h
  | no => exact h
theorem den_chain {r r' : R2} {f f' : A → A → CS → R A} (hr : OpS g r f) (hr' : OpS g r' f') {σ : St} {H : Hp} {Q : VK} (h : den g W (eChain f f' ma mb mc) σ H Q) : tChain r r' (den g W ma) (den g W mb) (den g W mc) σ H Q := by
  obtain ⟨env, cs, as, s, h⟩ := h
  refine ⟨env, cs, as, s, (Post.bind h).mono fun a cs1 as1 H1 hs1 e1 h1 v rv => ?_⟩
  refine ⟨env, cs1, as1, s.exn hs1 e1, (Post.bind h1).mono fun b cs2 as2 H2 hs2 e2 h2 w rw' => ?_⟩
  refine hr hs2 (rv.exn e2) rw' ((post_asB2 (Post.bind h2)).mono fun k cs3 as3 H3 hs3 e3 h3 z rz => ?_)
  obtain ⟨k, rfl, h3⟩ := h3
  refine ⟨k, rep_bl rz, ?_⟩
  cases k with
  | true =>
    simp only [if_true] at h3 ⊢
    exact ⟨env, cs3, as3, s.exn hs3 ((e1.trans e2).trans e3), (Post.bind h3).mono fun d cs4 as4 H4 hs4 e4 h4 y ry => hr' hs4 ((rw'.exn e3).exn e4) ry h4⟩
  | false =>
    simp only [Bool.false_eq_true, if_false] at h3 ⊢
    exact PostA.bl h3 hs3
theorem se_chain {op op' : CmpOp} {r r' : R2} {f f' : A → A → CS → R A} (ho : OpR X (compareOp op) r) (hr : OpS g r f) (ho' : OpR X (compareOp op') r') (hr' : OpS g r' f') (ha : PE X a (den g W ma)) (hb : PE X b (den g W mb)) (hc : PE X c (den g W mc))
    (hm : lastMarks [op, op'] [b, c] = false := by with_unfolding_all rfl) : PE X (.Compare a [op, op'] [b, c] pos) (den g W (eChain f f' ma mb mc)) :=
  pe_imp (pe_chain ho ho' ha hb hc hm) fun _ _ _ => den_chain hr hr'
theorem st_chain {op op' : CmpOp} {r r' : R2} {f f' : A → A → CS → R A} (ho : OpR X (compareOp op) r) (hr : OpS g r f) (ho' : OpR X (compareOp op') r') (hr' : OpS g r' f') (ha : PE X a (den g W ma)) (hb : PE X b (den g W mb)) (hc : PE X c (den g W mc))
    (hm : lastMarks [op, op'] [b, c] = false := by with_unfolding_all rfl) : PT X (.Compare a [op, op'] [b, c] pos) (denT g W (tOf (eChain f f' ma mb mc))) :=
  pt_imp (pt_chain ho ho' ha hb hc hm) fun _ _ _ h => den_chain hr hr' (den_test h)
end
/-! ### data < data -/
def cmpOk (x y : PyData) : Bool := PySem.W.alike x y && (match x with | .none => false | _ => true) && decide (x.depth ≤ 64)
def fLtX (a b : A) (cs : CS) : R A := match a, b with
  | .d (.int i), .d (.int j) => .ok (.d (.bool (decide (i < j)))) cs
  | .d x, .d y => if cmpOk x y = true then .ok (.d (.bool (PySem.W.dataLt x y))) cs else .no
  | _, _ => .no
def rLtX (K : PySem.W.Frag) : R2 := fun x y H Q => ((rI0 fun i j => .bl (decide (i < j))) x y H Q) ∨ ∃ d e, Dp K H x d ∧ Dp K H y e ∧ cmpOk d e = true ∧ Q (.bl (PySem.W.dataLt d e)) H
theorem op_ltX {X : Cx} (hu : X.A.units + 64 < cLine) : OpR X (compareOp .Lt) (rLtX X.K) := by
  intro pins s σ H x y v u Q I rx ry h
  rcases h with h | ⟨d, e, hd, he, ok, q⟩
  · exact op_lt pins s σ H x y v u Q I rx ry h
  · obtain ⟨as, r1⟩ := Dp.reads I d x v hd rx
    obtain ⟨bs, r2⟩ := Dp.reads I e y u he ry
    unfold cmpOk at ok
    simp only [Bool.and_eq_true, decide_eq_true_eq] at ok
    obtain ⟨⟨o1, o2⟩, o3⟩ := ok
    exact PySem.W.lt_data r1 r2 o1 (fun z => by rw [z] at o2; cases o2) (by omega) ⟨.bl _, H, I, rfl, q⟩
theorem os_ltX {g : G} : OpS g (rLtX g.K) fLtX := by
  intro W σ cs as H x y a b Q s ra rb h
  unfold fLtX at h
  split at h
  · cases rep_int ra; cases rep_int rb
    exact .inl ⟨_, _, rfl, rfl, h.bl s⟩
  · rename_i x' y' _
    split at h
    · rename_i ok
      have da : Dq g.K (dat cs as H) x x' := ra
      have db : Dq g.K (dat cs as H) y y' := rb
      exact .inr ⟨_, _, (da.le dat_le).dp, (db.le dat_le).dp, ok, h.bl s⟩
    · exact h.elim
  · exact h.elim
/-! ### min of a list of data -/
def minOk (xs : List PyData) : Bool := xs.all fun x => (xs.all fun y => PySem.W.alike x y) && (match x with | .none => false | _ => true)
theorem minOk_alike {xs : List PyData} (h : minOk xs = true) : PySem.W.AlikeAll xs := by
  unfold minOk at h
  rw [List.all_eq_true] at h
  refine ⟨fun x hx y hy => ?_, fun x hx z => ?_⟩
  · have := h x hx
    rw [Bool.and_eq_true, List.all_eq_true] at this
    exact this.1 y hy
  · have := h x hx
    rw [z] at this
    simp at this
def fMinD : List A → CS → R A
  | [.d (.list (x :: xs))], cs => if minOk (x :: xs) = true ∧ PyData.depthAll (x :: xs) ≤ 60 then .ok (.d (PySem.W.minD x xs)) cs else .no
  | _, _ => .no
end Sh
namespace Sh
open PySem L2 PyProof.Rows PySem.Spec
/-! ### min of a list of data, the rule -/
theorem vals_back : ∀ {xs : List V} {us : List Value} {i : Nat} {u : Value}, Vals xs us → us[i]? = some u → ∃ x, xs[i]? = some x ∧ RelV x u
  | _, _, _, _, .nil, e => by simp at e
  | _, _, 0, _, .cons r _, e => by simp at e; subst e; exact ⟨_, rfl, r⟩
  | _, _, i + 1, u, .cons _ t, e => by
    obtain ⟨x, h1, h2⟩ := vals_back (i := i) (u := u) t (by simpa using e)
    exact ⟨x, by simpa using h1, h2⟩
theorem DpAll_get {K : PySem.W.Frag} {H : Hp} : ∀ {vs : List V} {ds : List PyData} {i : Nat} {v : V}, DpAll K H vs ds → vs[i]? = some v → ∃ d, ds[i]? = some d ∧ Dp K H v d
  | _, _, _, _, .nil, e => by simp at e
  | _, _, 0, _, .cons r _, e => by simp at e; subst e; exact ⟨_, rfl, r⟩
  | _, _, i + 1, u, .cons _ t, e => by
    obtain ⟨x, h1, h2⟩ := DpAll_get (i := i) (v := u) t (by simpa using e)
    exact ⟨x, by simpa using h1, h2⟩
def rMinD (K : PySem.W.Frag) : List V → Hp → VK → Prop := fun vs H Q => ∃ (a : Addr) (ws : List V) (x : PyData) (xs : List PyData), vs = [.ref a] ∧ SqL K H a ws ∧ DpAll K H ws (x :: xs) ∧ PyData.canLayAll0 (x :: xs) = true ∧ minOk (x :: xs) = true ∧ PyData.depthAll (x :: xs) ≤ 60 ∧
  ∀ (i : Nat) (w : V), ws[i]? = some w → (x :: xs)[i]? = some (PySem.W.minD x xs) → Q w H
theorem canLay_mem {xs : List PyData} (h : PyData.canLayAll0 xs = true) : ∀ x ∈ xs, x.canLay0 = true := by
  induction xs with
  | nil => intro x hx; cases hx
  | cons y ys ih =>
    simp only [PyData.canLayAll0, Bool.and_eq_true] at h
    intro x hx
    rcases List.mem_cons.mp hx with rfl | hx
    · exact h.1
    · exact ih h.2 x hx
theorem cr_minD {X : Cx} (hc : X.calm = true) (hu : X.A.units + 64 < cLine) : CallR X (.builtin "min") (rMinD X.K) := by
  intro pins s σ H vs us Q I r h
  obtain ⟨a, ws, x, xs, rfl, hs, hd, hcl, hm, hdp, q⟩ := h
  obtain ⟨its, rv, hl, _⟩ := I.list hs
  rw [Vals.ref1 r]
  obtain ⟨as, hr⟩ := Dp.readsAll I (x :: xs) ws its hd rv
  refine PySem.W.min_list_data (I.ok.hd hc) hl.isList hr (minOk_alike hm) (by omega) fun i v h' tk bs hv hR hk => ?_
  have hv' : its[i]? = some v := by simpa using hv
  obtain ⟨w, hw, rw'⟩ := vals_back rv hv'
  obtain ⟨d, hd1, hd2⟩ := DpAll_get hd hw
  obtain ⟨cs, hr2⟩ := Dp.reads I d w v hd2 rw'
  have e : d = PySem.W.minD x xs := SeqAt.Reads.unique d _ v _ _ (canLay_mem hcl d (List.mem_of_getElem? hd1)) (PyProof.Rows.Reads.keeps hk hr2) hR
  exact ⟨w, H, I.kept hk, rw', q i w hw (by rw [hd1, e])⟩
def fMinX : List A → CS → R A
  | [.d (.list (x :: xs))], cs => if PyData.canLayAll0 (x :: xs) = true ∧ minOk (x :: xs) = true ∧ PyData.depthAll (x :: xs) ≤ 60 then .ok (.d (PySem.W.minD x xs)) cs else .no
  | _, _ => .no
theorem cs_minD {g : G} : CallS g (rMinD g.K) fMinX := by
  intro W σ cs as H vs xs Q s r h
  unfold fMinX at h
  split at h
  · rename_i x xs
    split at h
    · rename_i hc
      obtain ⟨v, rfl, rv⟩ := reps1 r
      obtain ⟨p, ws, rfl, h1, h2⟩ := rep_lst rv
      refine ⟨p, ws, x, xs, rfl, SqL.of h1, (DqAll.le dat_le h2).dp, hc.1, hc.2.1, hc.2.2, fun i w hw hi => ?_⟩
      obtain ⟨v, e1, rv⟩ := DqAll.get h2 hi
      rw [hw] at e1
      obtain rfl := Option.some.inj e1
      exact h.here s rv
    · exact h.elim
  · exact h.elim
/-! ### x in xs, data of any depth -/
def fInX (neg : Bool) (a b : A) (cs : CS) : R A := match a, b with
  | .d x, .d (.list ys) => if (flatD x && ys.all flatD) = true then .ok (.d (.bool (if neg then !inF x ys else inF x ys))) cs
      else if (SeqAt.shaped x && SeqAt.shaped (.list ys)) = true then .ok (.d (.bool (if neg then !(ys.any fun z => PyData.eqv z x) else ys.any fun z => PyData.eqv z x))) cs else .no
  | a, b => fIn neg a b cs
def rInX (K : PySem.W.Frag) : R2 := fun x y H Q => rIn K false x y H Q ∨ rInD K x y H Q
def rNotInX (K : PySem.W.Frag) : R2 := fun x y H Q => rIn K true x y H Q ∨ rNotInD K x y H Q
theorem op_inX {X : Cx} (hu : X.A.units + 65 < cLine) : OpR X (compareOp .In) (rInX X.K) := by
  intro pins s σ H x y v u Q I rx ry h
  rcases h with h | h
  · exact op_in_seq pins s σ H x y v u Q I rx ry h
  · exact op_inD hu pins s σ H x y v u Q I rx ry h
theorem op_notInX {X : Cx} (hu : X.A.units + 65 < cLine) : OpR X (compareOp .NotIn) (rNotInX X.K) := by
  intro pins s σ H x y v u Q I rx ry h
  rcases h with h | h
  · exact op_notIn_seq pins s σ H x y v u Q I rx ry h
  · exact op_notInD hu pins s σ H x y v u Q I rx ry h

theorem os_inX {g : G} : OpS g (rInX g.K) (fInX false) := by
  intro W σ cs as H x y a b Q s ra rb h
  unfold fInX at h
  split at h
  · rename_i dx ys
    obtain ⟨p, vs, rfl, h1, h2⟩ := rep_lst rb
    have ra' : Dq g.K H x dx := Dq.le dat_le ra
    have h2' := DqAll.le dat_le h2
    split at h
    · rename_i hf
      rw [Bool.and_eq_true] at hf
      exact .inl ⟨p, vs, rfl, .inl (SqL.of h1), flat_rep ra' hf.1, all_rep h2' hf.2, by rw [inF_rep ra' hf.1 h2' hf.2]; exact h.bl s⟩
    · split at h
      · rename_i hs
        rw [Bool.and_eq_true] at hs
        exact .inr ⟨dx, ys, ra'.dp, .lst (SqL.of h1) h2'.dp, hs.1, hs.2, h.bl s⟩
      · exact h.elim
  · exact .inl (os_in s ra rb h)
theorem os_notInX {g : G} : OpS g (rNotInX g.K) (fInX true) := by
  intro W σ cs as H x y a b Q s ra rb h
  unfold fInX at h
  split at h
  · rename_i dx ys
    obtain ⟨p, vs, rfl, h1, h2⟩ := rep_lst rb
    have ra' : Dq g.K H x dx := Dq.le dat_le ra
    have h2' := DqAll.le dat_le h2
    split at h
    · rename_i hf
      rw [Bool.and_eq_true] at hf
      exact .inl ⟨p, vs, rfl, .inl (SqL.of h1), flat_rep ra' hf.1, all_rep h2' hf.2, by rw [inF_rep ra' hf.1 h2' hf.2]; exact h.bl s⟩
    · split at h
      · rename_i hs
        rw [Bool.and_eq_true] at hs
        exact .inr ⟨dx, ys, ra'.dp, .lst (SqL.of h1) h2'.dp, hs.1, hs.2, h.bl s⟩
      · exact h.elim
  · exact .inl (os_in s ra rb h)
/-! ### len(set(tuple of ints)) -/
def dcount : List Int → Nat
  | [] => 0
  | x :: xs => if x ∈ xs then dcount xs else dcount xs + 1
def dset : List Int → List Int
  | [] => []
  | x :: xs => if x ∈ xs then dset xs else x :: dset xs
theorem dset_mem : ∀ {xs : List Int} {y : Int}, y ∈ dset xs ↔ y ∈ xs
  | [], y => Iff.rfl
  | x :: xs, y => by
    unfold dset
    split
    · rename_i h
      rw [dset_mem, List.mem_cons]
      exact ⟨.inr, fun q => q.elim (fun e => e ▸ h) id⟩
    · rw [List.mem_cons, dset_mem, List.mem_cons]
theorem dset_nodup : ∀ {xs : List Int}, (dset xs).Nodup
  | [] => List.nodup_nil
  | x :: xs => by
    unfold dset
    split
    · exact dset_nodup
    · rename_i h
      exact List.nodup_cons.mpr ⟨fun q => h (dset_mem.mp q), dset_nodup⟩
theorem dset_len : ∀ {xs : List Int}, (dset xs).length = dcount xs
  | [] => rfl
  | x :: xs => by
    unfold dset dcount
    split
    · exact dset_len
    · rw [List.length_cons, dset_len]
theorem pigI : ∀ (xs ys : List Int), xs.Nodup → (∀ x ∈ xs, x ∈ ys) → xs.length ≤ ys.length
  | [], _, _, _ => Nat.zero_le _
  | x :: xs, ys, h, hs => by
    obtain ⟨h1, h2⟩ := List.nodup_cons.mp h
    have hx : x ∈ ys := hs x (List.mem_cons_self ..)
    have k := pigI xs (ys.erase x) h2 fun y hy => by
      have ne : y ≠ x := fun e => h1 (e ▸ hy)
      exact (List.mem_erase_of_ne ne).mpr (hs y (List.mem_cons_of_mem _ hy))
    rw [List.length_erase_of_mem hx] at k
    have : 0 < ys.length := List.length_pos_of_mem hx
    rw [List.length_cons]; omega
theorem dcount_nodup : ∀ {xs : List Int}, xs.Nodup → dcount xs = xs.length
  | [], _ => rfl
  | x :: xs, h => by
    obtain ⟨h1, h2⟩ := List.nodup_cons.mp h
    unfold dcount
    rw [if_neg h1, dcount_nodup h2]; rfl
def tLenSetT (K : PySem.W.Frag) (ta : TE) : TE := fun σ H Q => ta σ H fun x H1 => ∃ (l : Addr) (ns : List Int), x = V.ref l ∧ SqT K H1 l (ns.map V.int) ∧ ns.length ≤ 1000 ∧ Q (.int (dcount ns : Nat)) H1
theorem pe_lenSetT {X : Cx} {a : Expr} {ta : TE} {p p2 q pos : Pos} (hc : X.calm = true) (hg : Gl X "len") (hm : X.mg "len" = none) (hg2 : Gl X "set") (hm2 : X.mg "set" = none) (ha : PE X a ta)
    (na : starEach [a] X.env = (false, eval a X.env) :: starEach [] X.env := by rfl) : PE X (.Call (.Name "len" p) [.Call (.Name "set" p2) [a] [] q] [] pos) (tLenSetT X.K ta) := by
  refine ⟨fun pins s σ H Q I h => ?_⟩
  refine Call_ (ld_blt I hg hm PySem.boot_len ?_)
  refine PyProof.Rows.callWith_builtin1 (PyProof.Rows.args_cons ?_ rfl) rfl rfl
  refine Call_ (ld_blt I hg2 hm2 PyProof.Rows.boot_set ?_)
  refine PyProof.Rows.callWith_type1 (PyProof.Rows.args_cons (thn (ha.run pins s σ H _ I h) fun v s1 ⟨x, H1, I1, r1, q1⟩ => PyProof.Rows.args_nil ?_) na) na rfl
  obtain ⟨l, ns, rfl, hq, h1, q1⟩ := q1
  cases r1
  obtain ⟨its, r, pl, hz⟩ := I1.tuple hq
  refine call_set_tupI ns (I1.ok.hd hc) pl (by simpa using r.ints) (by unfold scanBound; omega) fun h' tk c hS hcn hk => ?_
  refine PyProof.Rows.args_nil ?_
  obtain ⟨o, es, ep, t, ho, hex, hd, _, hnd, hmem, _, hf, hn, _, _⟩ := hS
  have hlen : es.size = dcount ns := by
    have a1 := pigI (es.toList.map keyOf) ns hnd fun k hk => by
      have := (hmem k).mpr hk
      simpa using this
    have b1 := pigI (es.toList.map keyOf) (dset ns) hnd fun k hk => by
      have := (hmem k).mpr hk
      exact dset_mem.mpr (by simpa using this)
    have b2 := pigI (dset ns) (es.toList.map keyOf) dset_nodup fun k hk => (hmem k).mp (by simpa using dset_mem.mp hk)
    rw [List.length_map, Array.length_toList, dset_len] at b1
    have e2 : (es.toList.map keyOf).length = es.size := by rw [List.length_map, Array.length_toList]
    rw [dset_len, e2] at b2
    omega
  have I2 : Inv X pins σ H1 { s1 with heap := h', toks := tk } := I1.kept hk
  refine call_len_set ho hex hd hf (by rw [hn]; omega) ⟨.int (dcount ns : Nat), H1, I2.tok _, ⟨_, by rw [hlen]⟩, q1⟩
def eLenSet (ma : ME) : ME := fun env cs => (ma env cs).bind fun a cs1 => match a with
  | .d (.tuple xs) => match allI xs with
    | some ns => if ns.length ≤ 1000 then .ok (.d (.int (dcount ns : Nat))) cs1 else .no
    | none => .no
  | _ => .no
theorem se_lenSet {X : Cx} {g : G} {W : WX} {a : Expr} {ma : ME} {p p2 q pos : Pos} (hK : X.K = g.K) (hc : X.calm = true) (hg : Gl X "len") (hm : X.mg "len" = none) (hg2 : Gl X "set") (hm2 : X.mg "set" = none) (ha : PE X a (den g W ma))
    (na : starEach [a] X.env = (false, eval a X.env) :: starEach [] X.env := by rfl) : PE X (.Call (.Name "len" p) [.Call (.Name "set" p2) [a] [] q] [] pos) (den g W (eLenSet ma)) :=
  pe_imp (pe_lenSetT hc hg hm hg2 hm2 ha na) fun σ H Q ⟨env, cs, as, s, h⟩ => ⟨env, cs, as, s, (Post.bind h).mono fun a cs1 as1 H1 hs1 e1 h1 v rv => by
    split at h1
    · rename_i xs
      split at h1
      · rename_i ns q
        split at h1
        · rename_i hl
          obtain ⟨p, vs, rfl, h3, h4⟩ := rep_tup rv
          rw [allI_eq q] at h4
          rw [reps_ints h4, ← hK] at h3
          exact ⟨p, ns, rfl, h3, hl, PostA.int h1 hs1⟩
        · exact h1.elim
      · exact h1.elim
    · exact h1.elim⟩
/-! ### t.index(k), t a tuple of ints, k among them -/
theorem mt_tupIdx {X : Cx} (hu : X.A.units + 2 < cLine) : MtR X "tuple.index" (fun x xs H Q => ∃ (p : Addr) (ns : List Int) (k : Int), x = .ref p ∧ xs = [.int k] ∧ SqT X.K H p (ns.map V.int) ∧ k ∈ ns ∧ Q (.int (ns.idxOf k : Nat)) H) := by
  intro pins s σ H x xs v us Q I rx rs h
  obtain ⟨p, ns, k, rfl, rfl, hq, hk, q⟩ := h
  cases rx
  obtain ⟨u, rfl, t, rfl⟩ := vals1 rs
  obtain ⟨its, r, pl, hz⟩ := I.tuple hq
  refine SeqAt.call_tuple_index pl (SeqAt.ItemsEq.ints r.ints) hk ⟨.int (ns.idxOf k : Nat), H, I.tok _, ⟨_, rfl⟩, q⟩
def mTupIdx (a : A) (xs : List A) (cs : CS) : R A := match a, xs with
  | .d (.tuple ds), [.d (.int k)] => match allI ds with
    | some ns => if k ∈ ns then .ok (.d (.int (ns.idxOf k : Nat))) cs else .no
    | none => .no
  | _, _ => .no
theorem ms_tupIdx {g : G} : MtS g (fun x xs H Q => ∃ (p : Addr) (ns : List Int) (k : Int), x = .ref p ∧ xs = [.int k] ∧ SqT g.K H p (ns.map V.int) ∧ k ∈ ns ∧ Q (.int (ns.idxOf k : Nat)) H) mTupIdx := by
  intro W σ cs as H x vs a xs Q s rx r h
  unfold mTupIdx at h
  split at h
  · rename_i ds k
    split at h
    · rename_i ns q
      split at h
      · rename_i hk
        obtain ⟨v, rfl, rv⟩ := reps1 r
        cases rep_int rv
        obtain ⟨p, ws, rfl, h3, h4⟩ := rep_tup rx
        rw [allI_eq q] at h4
        rw [reps_ints h4] at h3
        exact ⟨p, ns, k, rfl, rfl, h3, hk, h.int s⟩
      · exact h.elim
    · exact h.elim
  · exact h.elim
end Sh
namespace Sh
open PySem L2
/-! ### a comprehension into a cell -/
def eLcC (fr : List Nat) (src : MI) (tg : Tgt) (t : MT) (e : ME) : ME := fun env cs => (src env cs).bind fun s cs1 => (lcS tg t e (wipeE fr.reverse env) cs1 s).bind fun ys cs2 => .ok (.c cs2.length) (cs2 ++ [Cell.lst ys])
section
variable {g : G} {W : WX} {mi : MI} {tg : Tgt} {mt : MT} {me : ME}
theorem hid_cell {cs : CS} {l : List Addr} {hid : List Addr} {D : Addr} {H : Hp} {vs : List V} {xs : List PyData} (s : Hs g cs ⟨l, D :: hid⟩ H) (hv : H D = some (.lst vs)) (rv : DqAll g.K (dat cs ⟨l, D :: hid⟩ H) vs xs) (hD : D ∉ hid) :
    Hs g (cs ++ [.lst xs]) ⟨l ++ [D], hid⟩ H ∧ ∀ a, live (cs ++ [.lst xs]) ⟨l ++ [D], hid⟩ a ↔ live cs ⟨l, D :: hid⟩ a := by
  have ll : l.length = cs.length := s.len
  have key : ∀ {i : Nat} {c : Cell} {a : Addr}, (cs ++ [.lst xs])[i]? = some c → (l ++ [D])[i]? = some a → (i < cs.length ∧ cs[i]? = some c ∧ l[i]? = some a) ∨ (i = cs.length ∧ c = .lst xs ∧ a = D) := fun {i c a} e1 e2 => by
    rcases getElem?_snoc e1 with ⟨hi, e1⟩ | ⟨hi, e1⟩
    · rcases getElem?_snoc e2 with ⟨_, e2⟩ | ⟨hj, e2⟩
      · exact .inl ⟨hi, e1, e2⟩
      · omega
    · rcases getElem?_snoc e2 with ⟨hj, e2⟩ | ⟨hj, e2⟩
      · omega
      · exact .inr ⟨hi, e1, e2⟩
  have lv : ∀ a, live (cs ++ [.lst xs]) ⟨l ++ [D], hid⟩ a ↔ live cs ⟨l, D :: hid⟩ a := fun a => by
    constructor
    · rintro (⟨i, c, e1, n1, e2⟩ | h)
      · rcases key e1 e2 with ⟨_, f1, f2⟩ | ⟨_, _, f3⟩
        · exact .inl ⟨i, c, f1, n1, f2⟩
        · exact .inr (by rw [f3]; exact List.mem_cons_self)
      · exact .inr (List.mem_cons_of_mem _ h)
    · rintro (⟨i, c, e1, n1, e2⟩ | h)
      · exact .inl ⟨i, c, getElem?_left e1, n1, getElem?_left e2⟩
      · rcases List.mem_cons.mp h with rfl | h
        · exact .inl ⟨cs.length, .lst xs, by simp, (fun z => nomatch z), by show (l ++ [a])[cs.length]? = some a; rw [← ll]; simp⟩
        · exact .inr h
  have dd : dat (cs ++ [.lst xs]) ⟨l ++ [D], hid⟩ H = dat cs ⟨l, D :: hid⟩ H := by
    funext a
    classical
    by_cases h : live cs ⟨l, D :: hid⟩ a
    · unfold dat; rw [if_pos h, if_pos ((lv a).mpr h)]
    · unfold dat; rw [if_neg h, if_neg fun z => h ((lv a).mp z)]
  refine ⟨⟨by simp [ll], fun i j a c c' e1 n1 e2 n2 a1 a2 => ?_, fun i c a e1 e2 => ?_, fun i c a e1 n1 a1 ha => ?_, fun a ha => s.there a (List.mem_cons_of_mem _ ha)⟩, lv⟩
  · rcases key e1 a1 with ⟨h1, f1, b1⟩ | ⟨h1, f1, b1⟩
    · rcases key e2 a2 with ⟨h2, f2, b2⟩ | ⟨h2, f2, b2⟩
      · exact s.inj i j a c c' f1 n1 f2 n2 b1 b2
      · exact absurd (by rw [b2]; exact List.mem_cons_self) (s.apart i c a f1 n1 b1)
    · rcases key e2 a2 with ⟨h2, f2, b2⟩ | ⟨h2, f2, b2⟩
      · exact absurd (by rw [b1]; exact List.mem_cons_self) (s.apart j c' a f2 n2 b2)
      · omega
  · rcases key e1 e2 with ⟨h1, f1, b1⟩ | ⟨h1, f1, b1⟩
    · exact (s.cells i c a f1 b1).dat_eq dd
    · rw [f1, b1]; exact ⟨vs, hv, by rw [dd]; exact rv⟩
  · rcases key e1 a1 with ⟨h1, f1, b1⟩ | ⟨h1, f1, b1⟩
    · exact s.apart i c a f1 n1 b1 (List.mem_cons_of_mem _ ha)
    · rw [b1] at ha; exact hD ha
theorem lcEnd {σ : St} {cs0 cs1 : CS} {as0 as1 : AS} {H0 H1 : Hp} {D : Addr} {vs : List V} {acc : List PyData} {Q : VK} (hs0 : Hs g cs0 as0 H0) (hD : H0 D = none) (s1 : Hs g cs1 as1 H1) (eh : as1.hid = D :: as0.hid) (hv : H1 D = some (.lst vs)) (rv : DqAll g.K (dat cs1 as1 H1) vs acc)
    (e1 : Exn cs0 ⟨as0.l, D :: as0.hid⟩ (upd H0 D (.lst [])) cs1 as1 (upd H1 D (.lst []))) (hd : ∀ a o, dat cs0 as0 H0 a = some o ↔ dat cs0 ⟨as0.l, D :: as0.hid⟩ (upd H0 D (.lst [])) a = some o)
    (h : PostA g W σ cs0 as0 H0 Q (R.ok (A.c cs1.length) (cs1 ++ [Cell.lst acc]))) : Q (.ref D) H1 := by
  have q : as1 = ⟨as1.l, D :: as0.hid⟩ := by rw [← eh]
  rw [q] at s1 rv
  have nD : D ∉ as0.hid := fun z => by
    obtain ⟨o, q⟩ := hs0.there D z
    rw [hD] at q; cases q
  obtain ⟨b1, b2⟩ := hid_cell s1 hv rv nD
  refine h ⟨as1.l ++ [D], as0.hid⟩ H1 b1 ⟨fun n a z => getElem?_left (e1.pre n a z), fun a o z => ?_, rfl, fun a ha => ?_⟩ _ ⟨D, ?_, rfl⟩
  · have ne : a ≠ D := ne_of_none (dat_some.mp z).2 hD
    obtain ⟨q2, q3⟩ := dat_some.mp (e1.dat a o ((hd a o).mp z))
    rw [upd_ne ne] at q3
    refine dat_some.mpr ⟨fun l => q2 ?_, q3⟩
    rw [q]
    exact (b2 a).mp l
  · have ne : a ≠ D := fun z => nD (z ▸ ha)
    have k1 := e1.kept a (List.mem_cons_of_mem _ ha)
    rw [upd_ne ne, upd_ne ne] at k1
    exact k1
  · show (as1.l ++ [D])[cs1.length]? = some D
    rw [← show as1.l.length = cs1.length from s1.len]; simp
theorem den_lcC {fr : List Nat} {σ : St} {H : Hp} {Q : VK} (h : den g W (eLcC fr mi tg mt me) σ H Q) : tLc (denI g W mi) (denF g fr tg) (denT g WF mt) (den g WF me) fr σ H Q := by
  obtain ⟨env, cs, as, s, h⟩ := h
  refine ⟨env, cs, as, s, (Post.bind h).mono fun src cs0 as0 H0 hs0 e0 h0 J hJ D hD => ?_⟩
  cases src with
  | cell n =>
    obtain ⟨p, hpl, rfl⟩ := hJ
    have h0' : PostA g W σ cs0 as0 H0 Q ((lcCell tg mt me (wipeE fr.reverse env) n 1000000000 0 cs0).bind fun ys cs2 => R.ok (A.c cs2.length) (cs2 ++ [Cell.lst ys])) := h0
    have s0 := s.exn hs0 e0
    obtain ⟨hh, hd⟩ := hs0.hide (o := .lst []) hD
    have sw := s0.wipe2 fr
    -- the state at turn i
    refine ⟨fun i m H' => ∃ cs1 as1 acc vs, as1.hid = D :: as0.hid ∧ Sat g cs1 as1 H' (wipeE fr.reverse env) (L2.wipe σ fr) ∧ Exn cs0 ⟨as0.l, D :: as0.hid⟩ (upd H0 D (.lst [])) cs1 as1 (upd H' D (.lst [])) ∧
        H' D = some (.lst vs) ∧ DqAll g.K (dat cs1 as1 H') vs acc ∧ acc.length ≤ i ∧ PostA g W σ cs0 as0 H0 Q ((lcCell tg mt me (wipeE fr.reverse env) n m i cs1).bind fun ys cs2 => R.ok (A.c cs2.length) (cs2 ++ [Cell.lst (acc ++ ys)])), ⟨_, cs0, ⟨as0.l, D :: as0.hid⟩, [], [], rfl, ?_, ?_, upd_same, .nil, Nat.le_refl _, h0'⟩, ?_⟩
    · refine ⟨hh, sw.len, fun j x q => ?_⟩
      obtain ⟨v, q1, q2⟩ := sw.slots j x q
      refine ⟨v, q1, ?_⟩
      cases x with
      | d y => exact Dq.le (fun a o z => (hd a o).mp z) q2
      | c n => exact q2
      | s ns => obtain ⟨a, e1, e2⟩ := q2; exact ⟨a, e1, Le.sqL (fun a o z => (hd a o).mp z) e2⟩
      | x _ => obtain ⟨a, d, e1, e2, e3⟩ := q2; exact ⟨a, d, e1, e2, RepX.le (fun a o z => (hd a o).mp z) e3⟩
    · rw [upd_upd]
      exact Exn.refl
    · rintro i m H1 ⟨cs1, as1, acc, vs, eh, s1, e1, hv, rv, hl, h1⟩
      have hDm : D ∈ as1.hid := by rw [eh]; exact List.mem_cons_self
      -- what stood at the beginning stands now
      have exb : ∀ {cs2 : CS} {as2 : AS} {H2 : Hp}, Exn cs1 as1 H1 cs2 as2 H2 → Exn cs0 as0 H0 cs2 ⟨as2.l, as0.hid⟩ H2 := fun {cs2 as2 H2} e2 => by
        refine ⟨fun n a q => e2.pre n a (e1.pre n a q), fun a o q => ?_, rfl, fun a ha => ?_⟩
        · have ne : a ≠ D := ne_of_none (dat_some.mp q).2 hD
          have q1 := e1.dat a o ((hd a o).mp q)
          obtain ⟨q2, q3⟩ := dat_some.mp q1
          rw [upd_ne ne] at q3
          have q4 := e2.dat a o (dat_some.mpr ⟨q2, q3⟩)
          obtain ⟨q5, q6⟩ := dat_some.mp q4
          refine dat_some.mpr ⟨fun l => q5 (l.imp id fun z => ?_), q6⟩
          rw [e2.hid, eh]
          exact List.mem_cons_of_mem _ z
        · have ne : a ≠ D := fun z => by
            obtain ⟨o, q⟩ := hs0.there a ha
            rw [z, hD] at q; cases q
          have k1 := e1.kept a (List.mem_cons_of_mem _ ha)
          rw [upd_ne ne, upd_ne ne] at k1
          exact (e2.kept a (by rw [eh]; exact List.mem_cons_of_mem _ ha)).trans k1
      have shw : ∀ {cs2 : CS} {as2 : AS} {H2 : Hp}, Hs g cs2 as2 H2 → as2.hid = D :: as0.hid → Hs g cs2 ⟨as2.l, as0.hid⟩ H2 ∧ Le (dat cs2 as2 H2) (dat cs2 ⟨as2.l, as0.hid⟩ H2) := fun {cs2 as2 H2} hs2 eh2 => by
        have q : as2 = ⟨as2.l, D :: as0.hid⟩ := by rw [← eh2]
        rw [q] at hs2 ⊢
        exact hs2.show
      obtain ⟨sh1, sl1⟩ := shw s1.hs eh
      have le1 : Le (dat cs0 as0 H0) (dat cs1 as1 H1) := fun a o q => by
        have ne : a ≠ D := ne_of_none (dat_some.mp q).2 hD
        obtain ⟨q2, q3⟩ := dat_some.mp (e1.dat a o ((hd a o).mp q))
        rw [upd_ne ne] at q3
        exact dat_some.mpr ⟨q2, q3⟩
      cases m with
      | zero => exact h1.elim
      | succ m =>
      have hpl1 : as1.l[n]? = some p := e1.pre n p hpl
      have h1 : PostA g W σ cs0 as0 H0 Q ((match cs1[n]? with
        | some (.lst xs) => match xs[i]? with
          | none => if xs.length ≤ i then R.ok [] cs1 else R.no
          | some x => if i < sizeLine then match tg (.d x) (wipeE fr.reverse env) cs1 with
            | none => R.no
            | some env1 => (noEx (mt env1 cs1)).bind fun b cs1 => if b = true then
                (noEx (me env1 cs1)).bind fun a cs2 => match asD a with
                  | none => R.no
                  | some y => (lcCell tg mt me (wipeE fr.reverse env) n m (i + 1) cs2).bind fun ys cs3 => R.ok (y :: ys) cs3
              else lcCell tg mt me (wipeE fr.reverse env) n m (i + 1) cs1 else R.no
        | _ => R.no).bind fun ys cs2 => R.ok (A.c cs2.length) (cs2 ++ [Cell.lst (acc ++ ys)])) := h1
      cases qc : cs1[n]? with
      | none => simp only [qc] at h1; exact h1.elim
      | some c =>
      cases c with
      | dead => simp only [qc] at h1; exact h1.elim
      | dk _ => simp only [qc] at h1; exact h1.elim
      | dt _ => simp only [qc] at h1; exact h1.elim
      | lst xs =>
      simp only [qc] at h1
      obtain ⟨ws, e3, rr⟩ := s1.hs.lst qc hpl1
      cases qi : xs[i]? with
      | none =>
        simp only [qi] at h1
        split at h1
        case isFalse => exact h1.elim
        rename_i hle
        have h1' : PostA g W σ cs0 as0 H0 Q (R.ok (A.c cs1.length) (cs1 ++ [Cell.lst (acc ++ [])])) := h1
        rw [List.append_nil] at h1'
        refine .inl ⟨⟨ws, SqL.of e3, by rw [DqAll.length rr]; exact hle⟩, (lcEnd hs0 hD s1.hs eh hv rv e1 hd h1')⟩
      | some xi =>
        simp only [qi] at h1
        split at h1
        case isFalse => exact h1.elim
        rename_i hsz
        obtain ⟨vi, f1, rvi⟩ := DqAll.get rr qi
        refine .inr ⟨⟨ws, vi, SqL.of e3, f1⟩, ?_⟩
        -- the next state
        refine ⟨fun H' => ∃ cs1 as1 acc vs, as1.hid = D :: as0.hid ∧ Sat g cs1 as1 H' (wipeE fr.reverse env) (L2.wipe σ fr) ∧ Exn cs0 ⟨as0.l, D :: as0.hid⟩ (upd H0 D (.lst [])) cs1 as1 (upd H' D (.lst [])) ∧
            H' D = some (.lst vs) ∧ DqAll g.K (dat cs1 as1 H') vs acc ∧ acc.length ≤ i + 1 ∧ PostA g W σ cs0 as0 H0 Q ((lcCell tg mt me (wipeE fr.reverse env) n m (i + 1) cs1).bind fun ys cs2 => R.ok (A.c cs2.length) (cs2 ++ [Cell.lst (acc ++ ys)])),
          fun H' hn => ⟨m, Nat.lt_succ_self _, hn⟩, fun x H2 hy => ?_⟩
        obtain ⟨e12, hy⟩ := hy
        have e12 := e12.symm
        subst e12
        have ex := hy ws (SqL.of e3)
        rw [f1] at ex
        obtain rfl := Option.some.inj ex
        have hs2 := s1.hs
        have e2 : Exn cs1 as1 H1 cs1 as1 H1 := Exn.refl
        have ra : RepA g cs1 as1 H1 vi (.d xi) := rvi
        have h1' := h1
        cases q : tg (.d xi) (wipeE fr.reverse env) cs1 with
        | none => simp only [q] at h1'; exact h1'.elim
        | some env1 =>
          simp only [q] at h1'
          refine ⟨_, cs1, as1, _, env1, s1.exn hs2 e2, ra, q, fun σ' s' w' => ⟨w'.trans wipe_idem, env1, cs1, as1, s', ?_⟩⟩
          cases qt : mt env1 cs1 with
          | no => simp only [qt] at h1'; exact h1'.elim
          | ex z cs2 => simp only [qt] at h1'; exact h1'.elim
          | ok b cs2 =>
            simp only [qt, noEx_ok, R.bind_ok] at h1'
            refine fun as2 H3 hs3 e3 => ?_
            have e23 := e2.trans e3
            have kD : H3 D = H1 D := e23.kept D hDm
            cases b with
            | false =>
              have h1' : PostA g W σ cs0 as0 H0 Q ((lcCell tg mt me (wipeE fr.reverse env) n m (i + 1) cs2).bind fun ys cs2 => R.ok (A.c cs2.length) (cs2 ++ [Cell.lst (acc ++ ys)])) := h1'
              exact ⟨cs2, as2, acc, vs, e23.hid.trans eh, s1.exn hs3 e23, e1.trans (exn_upd hDm e23), kD.trans hv, DqAll.le e23.dat rv, Nat.le_succ_of_le hl, h1'⟩
            | true =>
              have h1' : PostA g W σ cs0 as0 H0 Q (((noEx (me env1 cs2)).bind fun a cs2 => match asD a with
                | none => R.no
                | some y => (lcCell tg mt me (wipeE fr.reverse env) n m (i + 1) cs2).bind fun ys cs3 => R.ok (y :: ys) cs3).bind fun ys cs2 => R.ok (A.c cs2.length) (cs2 ++ [Cell.lst (acc ++ ys)])) := h1'
              refine ⟨env1, cs2, as2, s'.exn hs3 e3, ?_⟩
              cases qe : me env1 cs2 with
              | no => simp only [qe] at h1'; exact h1'.elim
              | ex z cs3 => simp only [qe] at h1'; exact h1'.elim
              | ok a cs3 =>
                simp only [qe, noEx_ok, R.bind_ok] at h1'
                cases qa : asD a with
                | none => simp only [qa] at h1'; exact h1'.elim
                | some y =>
                  simp only [qa] at h1'
                  refine fun as3 H4 hs4 e4 v rv4 => ?_
                  have e234 := e23.trans e4
                  have kD4 : H4 D = H1 D := e234.kept D hDm
                  have hDm4 : D ∈ as3.hid := by rw [e234.hid]; exact hDm
                  obtain ⟨hw, dw⟩ := hs4.hidSet (o := .lst (vs ++ [v])) hDm4
                  have ry : Dq g.K (dat cs3 as3 H4) v y := by
                    cases a with
                    | d z => obtain rfl := Option.some.inj qa; exact rv4
                    | c n => cases qa
                    | s n => cases qa
                    | x _ => cases qa
                  refine ⟨vs, kD4.trans hv, by rw [DqAll.length rv]; omega, cs3, as3, acc ++ [y], vs ++ [v], e234.hid.trans eh, ?_, ?_, upd_same, DqAll.le dw (DqAll.append (DqAll.le e234.dat rv) (.cons ry .nil)), by rw [List.length_append]; exact Nat.succ_le_succ hl, ?_⟩
                  · have k := s1.exn hs4 e234
                    refine ⟨hw, k.len, fun j x q => ?_⟩
                    obtain ⟨w, q1, q2⟩ := k.slots j x q
                    refine ⟨w, q1, ?_⟩
                    cases x with
                    | d y => exact Dq.le dw q2
                    | c n => exact q2
                    | s ns => obtain ⟨a, f1, f2⟩ := q2; exact ⟨a, f1, Le.sqL dw f2⟩
                    | x _ => obtain ⟨a, d, e1, e2, e3⟩ := q2; exact ⟨a, d, e1, e2, RepX.le dw e3⟩
                  · rw [upd_upd]
                    exact e1.trans (exn_upd hDm e234)
                  · have assoc : ((lcCell tg mt me (wipeE fr.reverse env) n m (i + 1) cs3).bind fun ys cs3 => R.ok (y :: ys) cs3).bind (fun ys cs2 => R.ok (A.c cs2.length) (cs2 ++ [Cell.lst (acc ++ ys)])) = (lcCell tg mt me (wipeE fr.reverse env) n m (i + 1) cs3).bind fun ys cs2 => R.ok (A.c cs2.length) (cs2 ++ [Cell.lst ((acc ++ [y]) ++ ys)]) := by
                      cases lcCell tg mt me (wipeE fr.reverse env) n m (i + 1) cs3 with
                      | ok ys cs4 => simp only [R.bind_ok, List.append_assoc, List.singleton_append]
                      | ex _ _ => rfl
                      | no => rfl
                    rw [assoc] at h1'
                    exact h1'
  | it xs =>
    have hJ : WalkIt g J cs0 as0 H0 xs := hJ
    have h0' : PostA g W σ cs0 as0 H0 Q ((if xs.length ≤ sizeLine then lcIt tg mt me (wipeE fr.reverse env) xs cs0 else R.no).bind fun ys cs2 => R.ok (A.c cs2.length) (cs2 ++ [Cell.lst ys])) := h0
    split at h0'
    case isFalse => exact h0'.elim
    rename_i hsz
    have s0 := s.exn hs0 e0
    obtain ⟨hh, hd⟩ := hs0.hide (o := .lst []) hD
    have sw := s0.wipe2 fr
    -- the state at turn i
    refine ⟨fun i m H' => i ≤ xs.length ∧ m = xs.length - i ∧ ∃ cs1 as1 acc vs, as1.hid = D :: as0.hid ∧ Sat g cs1 as1 H' (wipeE fr.reverse env) (L2.wipe σ fr) ∧ Exn cs0 ⟨as0.l, D :: as0.hid⟩ (upd H0 D (.lst [])) cs1 as1 (upd H' D (.lst [])) ∧
        H' D = some (.lst vs) ∧ DqAll g.K (dat cs1 as1 H') vs acc ∧ acc.length ≤ i ∧ PostA g W σ cs0 as0 H0 Q ((lcIt tg mt me (wipeE fr.reverse env) (xs.drop i) cs1).bind fun ys cs2 => R.ok (A.c cs2.length) (cs2 ++ [Cell.lst (acc ++ ys)])), ⟨_, Nat.zero_le _, rfl, cs0, ⟨as0.l, D :: as0.hid⟩, [], [], rfl, ?_, ?_, upd_same, .nil, Nat.le_refl _, h0'⟩, ?_⟩
    · refine ⟨hh, sw.len, fun j x q => ?_⟩
      obtain ⟨v, q1, q2⟩ := sw.slots j x q
      refine ⟨v, q1, ?_⟩
      cases x with
      | d y => exact Dq.le (fun a o z => (hd a o).mp z) q2
      | c n => exact q2
      | s ns => obtain ⟨a, e1, e2⟩ := q2; exact ⟨a, e1, Le.sqL (fun a o z => (hd a o).mp z) e2⟩
      | x _ => obtain ⟨a, d, e1, e2, e3⟩ := q2; exact ⟨a, d, e1, e2, RepX.le (fun a o z => (hd a o).mp z) e3⟩
    · rw [upd_upd]
      exact Exn.refl
    · rintro i m H1 ⟨hi, rfl, cs1, as1, acc, vs, eh, s1, e1, hv, rv, hl, h1⟩
      have hDm : D ∈ as1.hid := by rw [eh]; exact List.mem_cons_self
      -- what stood at the beginning stands now
      have exb : ∀ {cs2 : CS} {as2 : AS} {H2 : Hp}, Exn cs1 as1 H1 cs2 as2 H2 → Exn cs0 as0 H0 cs2 ⟨as2.l, as0.hid⟩ H2 := fun {cs2 as2 H2} e2 => by
        refine ⟨fun n a q => e2.pre n a (e1.pre n a q), fun a o q => ?_, rfl, fun a ha => ?_⟩
        · have ne : a ≠ D := ne_of_none (dat_some.mp q).2 hD
          have q1 := e1.dat a o ((hd a o).mp q)
          obtain ⟨q2, q3⟩ := dat_some.mp q1
          rw [upd_ne ne] at q3
          have q4 := e2.dat a o (dat_some.mpr ⟨q2, q3⟩)
          obtain ⟨q5, q6⟩ := dat_some.mp q4
          refine dat_some.mpr ⟨fun l => q5 (l.imp id fun z => ?_), q6⟩
          rw [e2.hid, eh]
          exact List.mem_cons_of_mem _ z
        · have ne : a ≠ D := fun z => by
            obtain ⟨o, q⟩ := hs0.there a ha
            rw [z, hD] at q; cases q
          have k1 := e1.kept a (List.mem_cons_of_mem _ ha)
          rw [upd_ne ne, upd_ne ne] at k1
          exact (e2.kept a (by rw [eh]; exact List.mem_cons_of_mem _ ha)).trans k1
      have shw : ∀ {cs2 : CS} {as2 : AS} {H2 : Hp}, Hs g cs2 as2 H2 → as2.hid = D :: as0.hid → Hs g cs2 ⟨as2.l, as0.hid⟩ H2 ∧ Le (dat cs2 as2 H2) (dat cs2 ⟨as2.l, as0.hid⟩ H2) := fun {cs2 as2 H2} hs2 eh2 => by
        have q : as2 = ⟨as2.l, D :: as0.hid⟩ := by rw [← eh2]
        rw [q] at hs2 ⊢
        exact hs2.show
      obtain ⟨sh1, sl1⟩ := shw s1.hs eh
      have le1 : Le (dat cs0 as0 H0) (dat cs1 as1 H1) := fun a o q => by
        have ne : a ≠ D := ne_of_none (dat_some.mp q).2 hD
        obtain ⟨q2, q3⟩ := dat_some.mp (e1.dat a o ((hd a o).mp q))
        rw [upd_ne ne] at q3
        exact dat_some.mpr ⟨q2, q3⟩
      by_cases hlt : i < xs.length
      case neg =>
        have e : i = xs.length := by omega
        subst e
        rw [List.drop_length] at h1
        have h1' : PostA g W σ cs0 as0 H0 Q (R.ok (A.c cs1.length) (cs1 ++ [Cell.lst (acc ++ [])])) := h1
        rw [List.append_nil] at h1'
        refine .inl ⟨hJ.stops cs1 as1 H1 s1.hs le1, (lcEnd hs0 hD s1.hs eh hv rv e1 hd h1')⟩
      case pos =>
        refine .inr ⟨hJ.goes i cs1 as1 H1 s1.hs le1 hlt, ?_⟩
        rw [List.drop_eq_getElem_cons hlt] at h1
        -- the next state
        refine ⟨fun H' => ∃ cs1 as1 acc vs, as1.hid = D :: as0.hid ∧ Sat g cs1 as1 H' (wipeE fr.reverse env) (L2.wipe σ fr) ∧ Exn cs0 ⟨as0.l, D :: as0.hid⟩ (upd H0 D (.lst [])) cs1 as1 (upd H' D (.lst [])) ∧
            H' D = some (.lst vs) ∧ DqAll g.K (dat cs1 as1 H') vs acc ∧ acc.length ≤ i + 1 ∧ PostA g W σ cs0 as0 H0 Q ((lcIt tg mt me (wipeE fr.reverse env) (xs.drop (i + 1)) cs1).bind fun ys cs2 => R.ok (A.c cs2.length) (cs2 ++ [Cell.lst (acc ++ ys)])),
          fun H' hn => ⟨xs.length - (i + 1), by omega, hlt, rfl, hn⟩, fun x H2 hy => ?_⟩
        obtain ⟨hs2, e2, a, ea, ra⟩ := hJ.yields i cs1 as1 H1 x H2 s1.hs le1 hlt hy
        rw [List.getElem?_eq_getElem hlt] at ea
        obtain rfl := Option.some.inj ea
        have h1' : PostA g W σ cs0 as0 H0 Q ((match tg xs[i] (wipeE fr.reverse env) cs1 with
          | none => R.no
          | some env1 => (noEx (mt env1 cs1)).bind fun b cs1 => if b = true then
              (noEx (me env1 cs1)).bind fun a cs2 => match asD a with
                | none => R.no
                | some y => (lcIt tg mt me (wipeE fr.reverse env) (xs.drop (i + 1)) cs2).bind fun ys cs3 => R.ok (y :: ys) cs3
            else lcIt tg mt me (wipeE fr.reverse env) (xs.drop (i + 1)) cs1).bind fun ys cs2 => R.ok (A.c cs2.length) (cs2 ++ [Cell.lst (acc ++ ys)])) := h1
        cases q : tg xs[i] (wipeE fr.reverse env) cs1 with
        | none => simp only [q] at h1'; exact h1'.elim
        | some env1 =>
          simp only [q] at h1'
          refine ⟨_, cs1, as1, _, env1, s1.exn hs2 e2, ra, q, fun σ' s' w' => ⟨w'.trans wipe_idem, env1, cs1, as1, s', ?_⟩⟩
          cases qt : mt env1 cs1 with
          | no => simp only [qt] at h1'; exact h1'.elim
          | ex z cs2 => simp only [qt] at h1'; exact h1'.elim
          | ok b cs2 =>
            simp only [qt, noEx_ok, R.bind_ok] at h1'
            refine fun as2 H3 hs3 e3 => ?_
            have e23 := e2.trans e3
            have kD : H3 D = H1 D := e23.kept D hDm
            cases b with
            | false =>
              have h1' : PostA g W σ cs0 as0 H0 Q ((lcIt tg mt me (wipeE fr.reverse env) (xs.drop (i + 1)) cs2).bind fun ys cs2 => R.ok (A.c cs2.length) (cs2 ++ [Cell.lst (acc ++ ys)])) := h1'
              exact ⟨cs2, as2, acc, vs, e23.hid.trans eh, s1.exn hs3 e23, e1.trans (exn_upd hDm e23), kD.trans hv, DqAll.le e23.dat rv, Nat.le_succ_of_le hl, h1'⟩
            | true =>
              have h1' : PostA g W σ cs0 as0 H0 Q (((noEx (me env1 cs2)).bind fun a cs2 => match asD a with
                | none => R.no
                | some y => (lcIt tg mt me (wipeE fr.reverse env) (xs.drop (i + 1)) cs2).bind fun ys cs3 => R.ok (y :: ys) cs3).bind fun ys cs2 => R.ok (A.c cs2.length) (cs2 ++ [Cell.lst (acc ++ ys)])) := h1'
              refine ⟨env1, cs2, as2, s'.exn hs3 e3, ?_⟩
              cases qe : me env1 cs2 with
              | no => simp only [qe] at h1'; exact h1'.elim
              | ex z cs3 => simp only [qe] at h1'; exact h1'.elim
              | ok a cs3 =>
                simp only [qe, noEx_ok, R.bind_ok] at h1'
                cases qa : asD a with
                | none => simp only [qa] at h1'; exact h1'.elim
                | some y =>
                  simp only [qa] at h1'
                  refine fun as3 H4 hs4 e4 v rv4 => ?_
                  have e234 := e23.trans e4
                  have kD4 : H4 D = H1 D := e234.kept D hDm
                  have hDm4 : D ∈ as3.hid := by rw [e234.hid]; exact hDm
                  obtain ⟨hw, dw⟩ := hs4.hidSet (o := .lst (vs ++ [v])) hDm4
                  have ry : Dq g.K (dat cs3 as3 H4) v y := by
                    cases a with
                    | d z => obtain rfl := Option.some.inj qa; exact rv4
                    | c n => cases qa
                    | s n => cases qa
                    | x _ => cases qa
                  refine ⟨vs, kD4.trans hv, by rw [DqAll.length rv]; omega, cs3, as3, acc ++ [y], vs ++ [v], e234.hid.trans eh, ?_, ?_, upd_same, DqAll.le dw (DqAll.append (DqAll.le e234.dat rv) (.cons ry .nil)), by rw [List.length_append]; exact Nat.succ_le_succ hl, ?_⟩
                  · have k := s1.exn hs4 e234
                    refine ⟨hw, k.len, fun j x q => ?_⟩
                    obtain ⟨w, q1, q2⟩ := k.slots j x q
                    refine ⟨w, q1, ?_⟩
                    cases x with
                    | d y => exact Dq.le dw q2
                    | c n => exact q2
                    | s ns => obtain ⟨a, f1, f2⟩ := q2; exact ⟨a, f1, Le.sqL dw f2⟩
                    | x _ => obtain ⟨a, d, e1, e2, e3⟩ := q2; exact ⟨a, d, e1, e2, RepX.le dw e3⟩
                  · rw [upd_upd]
                    exact e1.trans (exn_upd hDm e234)
                  · have assoc : ((lcIt tg mt me (wipeE fr.reverse env) (xs.drop (i + 1)) cs3).bind fun ys cs3 => R.ok (y :: ys) cs3).bind (fun ys cs2 => R.ok (A.c cs2.length) (cs2 ++ [Cell.lst (acc ++ ys)])) = (lcIt tg mt me (wipeE fr.reverse env) (xs.drop (i + 1)) cs3).bind fun ys cs2 => R.ok (A.c cs2.length) (cs2 ++ [Cell.lst ((acc ++ [y]) ++ ys)]) := by
                      cases lcIt tg mt me (wipeE fr.reverse env) (xs.drop (i + 1)) cs3 with
                      | ok ys cs4 => simp only [R.bind_ok, List.append_assoc, List.singleton_append]
                      | ex _ _ => rfl
                      | no => rfl
                    rw [assoc] at h1'
                    exact h1'
theorem se_lcC {X : Cx} {elt tge iter : Expr} {ifs : List Expr} {scope : Scope} {own : List (Str × Nat)} {pos : Pos} (hc : X.calm = true) (hN : X.N.Nodup) (hi : PI X tge iter (denI g W mi)) (ok : BlkOk X.N X.env.scope scope own)
    (hg : ∀ (s : Shared) (H : Hp) (C : Addr) (cl : List (Str × Addr)) (fp : List Addr), PG (X.blk s H scope (compEnvC scope cl C X.env) fp) tge (denF g (own.map (·.2)) tg)) (ht : ∀ (s : Shared) (H : Hp) (C : Addr) (cl : List (Str × Addr)) (fp : List Addr), PTs (X.blk s H scope (compEnvC scope cl C X.env) fp) ifs (denT g WF mt))
    (he : ∀ (s : Shared) (H : Hp) (C : Addr) (cl : List (Str × Addr)) (fp : List Addr), PE (X.blk s H scope (compEnvC scope cl C X.env) fp) elt (den g WF me)) (hs : ∀ x, foldedSetIterable iter X.env x = pure x := by intro _; rfl) :
    PE X (.ListComp elt [⟨tge, iter, ifs, 0⟩] scope pos) (den g W (eLcC (own.map (·.2)) mi tg mt me)) :=
  pe_imp (pe_lc hc hN hi ok hg ht he hs) fun _ _ _ => den_lcC
theorem ss_setLcC {X : Cx} {i : Nat} {y : Str} {py : Pos} {elt tge iter : Expr} {ifs : List Expr} {scope : Scope} {own : List (Str × Nat)} {pos spos : Pos} (hc : X.calm = true) (hN : X.N.Nodup) (hy : X.N[i]? = some y) (hyl : X.env.scope.names.lookup y = some .local)
    (hsw : swapsWith (.ListComp elt [⟨tge, iter, ifs, 0⟩] scope pos) (some (.Name y py)) spos.line X.env = pure true) (hi : PI X tge iter (denI g W mi)) (ok : BlkOk X.N X.env.scope scope own)
    (hg : ∀ (s : Shared) (H : Hp) (C : Addr) (cl : List (Str × Addr)) (fp : List Addr), PG (X.blk s H scope (compEnvC scope cl C X.env) fp) tge (denF g (own.map (·.2)) tg)) (ht : ∀ (s : Shared) (H : Hp) (C : Addr) (cl : List (Str × Addr)) (fp : List Addr), PTs (X.blk s H scope (compEnvC scope cl C X.env) fp) ifs (denT g WF mt))
    (he : ∀ (s : Shared) (H : Hp) (C : Addr) (cl : List (Str × Addr)) (fp : List Addr), PE (X.blk s H scope (compEnvC scope cl C X.env) fp) elt (den g WF me)) (hs : ∀ x, foldedSetIterable iter X.env x = pure x := by intro _; rfl) :
    PS X (.Assign [.Name y py] (.ListComp elt [⟨tge, iter, ifs, 0⟩] scope pos) spos) (denS g W (sAsg (eLcC (own.map (·.2)) mi tg mt me) (tgName i))) :=
  ps_imp (ps_setLc hc hN hy hyl hsw hi ok hg ht he hs) fun D σ H ⟨env, cs, as, s, h⟩ =>
    den_lcC ⟨env, cs, as, s, (post_toS s h).mono fun a cs1 as1 H1 hs1 e1 h1 v rv => h1 _ as1 H1 ((s.exn hs1 e1).set rv) Exn.refl⟩
end
end Sh
namespace Sh
open PySem L2
/-! ### for x in reversed(xs) -/
def iRev (m : ME) : MI := fun env cs => (m env cs).bind fun a cs1 => match a with
  | .d (.list xs) => .ok (.it (xs.reverse.map A.d)) cs1
  | .d (.tuple xs) => .ok (.it (xs.reverse.map A.d)) cs1
  | _ => .no
section
variable {X : Cx} {g : G} {W : WX} {tge e : Expr} {me : ME}
theorem rev_get {α : Type} {l : List α} {i : Nat} (h : i < l.length) : l.reverse[i]? = l[l.length - 1 - i]? := by
  rw [List.getElem?_reverse h]
theorem walk_rev_list {cs : CS} {as : AS} {H : Hp} {a : Addr} {vs : List V} {ds : List PyData} (h : dat cs as H a = some (.lst vs)) (r : DqAll g.K (dat cs as H) vs ds) : WalkIt g (Itv g.K a vs.length) cs as H (ds.reverse.map A.d) := by
  have hl := DqAll.length r
  refine ⟨fun i cs1 as1 H1 s1 e1 hi => ?_, fun cs1 as1 H1 s1 e1 => ?_, fun i cs1 as1 H1 x H2 s1 e1 hi hy => ?_⟩
  · rw [List.length_map, List.length_reverse, ← hl] at hi
    exact ⟨hi, vs, vs[vs.length - 1 - i]'(by omega), SqL.of (dat_le _ _ (e1 _ _ h)), List.getElem?_eq_getElem (by omega)⟩
  · show vs.length ≤ _
    rw [List.length_map, List.length_reverse, hl]; exact Nat.le_refl _
  · obtain ⟨rfl, hy⟩ := hy
    have ex := hy vs (SqL.of (dat_le _ _ (e1 _ _ h)))
    rw [List.length_map, List.length_reverse] at hi
    have hi2 : ds.length - 1 - i < ds.length := by omega
    obtain ⟨v, e2, rv⟩ := DqAll.get r (List.getElem?_eq_getElem hi2)
    rw [hl, e2] at ex
    obtain rfl := Option.some.inj ex
    exact ⟨s1, Exn.refl, .d ds[ds.length - 1 - i], by rw [List.getElem?_map, rev_get hi, List.getElem?_eq_getElem hi2] <;> rfl, Dq.le e1 rv⟩
theorem walk_rev_tup {cs : CS} {as : AS} {H : Hp} {a : Addr} {vs : List V} {ds : List PyData} (h : SqT g.K (dat cs as H) a vs) (r : DqAll g.K (dat cs as H) vs ds) : WalkIt g (RT.ItvT g.K a vs.length) cs as H (ds.reverse.map A.d) := by
  have hl := DqAll.length r
  refine ⟨fun i cs1 as1 H1 s1 e1 hi => ?_, fun cs1 as1 H1 s1 e1 => ?_, fun i cs1 as1 H1 x H2 s1 e1 hi hy => ?_⟩
  · rw [List.length_map, List.length_reverse, ← hl] at hi
    exact ⟨hi, vs, vs[vs.length - 1 - i]'(by omega), Le.sqT dat_le (Le.sqT e1 h), List.getElem?_eq_getElem (by omega)⟩
  · show vs.length ≤ _
    rw [List.length_map, List.length_reverse, hl]; exact Nat.le_refl _
  · obtain ⟨rfl, hy⟩ := hy
    have ex := hy vs (Le.sqT dat_le (Le.sqT e1 h))
    rw [List.length_map, List.length_reverse] at hi
    have hi2 : ds.length - 1 - i < ds.length := by omega
    obtain ⟨v, e2, rv⟩ := DqAll.get r (List.getElem?_eq_getElem hi2)
    rw [hl, e2] at ex
    obtain rfl := Option.some.inj ex
    exact ⟨s1, Exn.refl, .d ds[ds.length - 1 - i], by rw [List.getElem?_map, rev_get hi, List.getElem?_eq_getElem hi2] <;> rfl, Dq.le e1 rv⟩
theorem si_rev {p pos : Pos} (hK : X.K = g.K) (hg : Gl X "reversed") (hm : X.mg "reversed" = none) (he : PE X e (den g W me)) (hs : starEach [e] X.env = (false, eval e X.env) :: starEach [] X.env := by rfl) :
    PI X tge (.Call (.Name "reversed" p) [e] [] pos) (denI g W (iRev me)) := by
  refine ⟨fun pins s σ H Rr I ⟨env, cs, as, sa, h⟩ => ?_⟩
  unfold iRev at h
  refine (RT.pi_revA hg hm he hs).run pins s σ H Rr I ⟨env, cs, as, sa, (Post.bind h).mono fun a cs1 as1 H1 hs1 e1 h1 v rv => ?_⟩
  split at h1
  · rename_i ds
    have r' : Dq g.K (dat cs1 as1 H1) v (.list ds) := rv
    cases r' with
    | lst h2 h3 => exact ⟨_, _, rfl, .inl ⟨SqL.of (dat_le _ _ h2), h1 as1 H1 hs1 Exn.refl _ (by rw [hK]; exact walk_rev_list h2 h3)⟩⟩
  · rename_i ds
    have r' : Dq g.K (dat cs1 as1 H1) v (.tuple ds) := rv
    cases r' with
    | tup h2 h3 => exact ⟨_, _, rfl, .inr ⟨by rw [hK]; exact Le.sqT dat_le h2.t, h1 as1 H1 hs1 Exn.refl _ (by rw [hK]; exact walk_rev_tup h2.t h3)⟩⟩
  · exact h1.elim
@[simp] theorem iRev_at {m : ME} {env : Env} {cs : CS} : iRev m env cs = (m env cs).bind fun a cs1 => match a with
  | .d (.list xs) => .ok (.it (xs.reverse.map A.d)) cs1
  | .d (.tuple xs) => .ok (.it (xs.reverse.map A.d)) cs1
  | _ => .no := rfl
end
end Sh
namespace Sh
open PySem L2 PyProof.Rows PySem.Spec
/-! ### sorted(xs, key=len), xs a list of lists -/
def lenD : PyData → Nat
  | .list xs => xs.length
  | .tuple xs => xs.length
  | _ => 0
def isSeqD : PyData → Bool
  | .list _ => true
  | _ => false
def leLen (a b : PyData) : Bool := decide (lenD a ≤ lenD b)
def tSortLen (K : PySem.W.Frag) (ta : TE) : TE := fun σ H Q => ta σ H fun x H1 => ∃ (l : Addr) (ws : List V) (ds : List PyData), x = V.ref l ∧ SqL K H1 l ws ∧ DpAll K H1 ws ds ∧ (∀ d ∈ ds, isSeqD d = true) ∧
  ∀ (ws' : List V) (p : Addr), (∃ bs : List (V × PyData), bs.map (·.1) = ws' ∧ bs.map (·.2) = ds.mergeSort leLen ∧ ∀ b ∈ bs, ∃ i : Nat, ws[i]? = some b.1 ∧ ds[i]? = some b.2) → H1 p = none → Q (.ref p) (upd H1 p (.lst ws'))
theorem each_zip {R : Value → V × PyData → Prop} : ∀ (us : List Value) (ws : List V) (ds : List PyData), ws.length = ds.length → us.length = ws.length → (∀ (i : Nat) (u : Value) (w : V) (d : PyData), us[i]? = some u → ws[i]? = some w → ds[i]? = some d → R u (w, d)) → PySem.W.EachIs R us (ws.zip ds)
  | [], [], [], _, _, _ => .nil
  | u :: us, w :: ws, d :: ds, hl, hu, h => by
    rw [List.zip_cons_cons]
    exact .cons (h 0 u w d rfl rfl rfl) (each_zip us ws ds (by simpa using hl) (by simpa using hu) fun i u' w' d' e1 e2 e3 => h (i + 1) u' w' d' (by simpa using e1) (by simpa using e2) (by simpa using e3))
  | _, [], _ :: _, hl, _, _ => by simp at hl
  | _, _ :: _, [], hl, _, _ => by simp at hl
  | [], _ :: _, _, _, hu, _ => by simp at hu
  | _ :: _, [], _, _, hu, _ => by simp at hu
theorem each_vals {R : Value → V × PyData → Prop} (hR : ∀ u b, R u b → RelV b.1 u) : ∀ {us : List Value} {bs : List (V × PyData)}, PySem.W.EachIs R us bs → Vals (bs.map (·.1)) us
  | _, _, .nil => .nil
  | _, _, .cons a b => .cons (hR _ _ a) (each_vals hR b)
theorem DpAll_len {K : PySem.W.Frag} {H : Hp} : ∀ {vs : List V} {ds : List PyData}, DpAll K H vs ds → vs.length = ds.length
  | _, _, .nil => rfl
  | _, _, .cons _ b => by rw [List.length_cons, List.length_cons, DpAll_len b]
theorem pe_sortLen {X : Cx} {a : Expr} {ta : TE} {p p2 pos kpos : Pos} (hc : X.calm = true) (hu : X.A.units + 64 < cLine) (hg : Gl X "sorted") (hm : X.mg "sorted" = none) (hg2 : Gl X "len") (hm2 : X.mg "len" = none) (ha : PE X a ta)
    (na : starEach [a] X.env = (false, eval a X.env) :: starEach [] X.env := by rfl)
    (he : backTo pos (starEach [a] X.env) = (false, eval a X.env) :: backTo pos (starEach [] X.env) := by rfl) (hpl : (backTo pos (starEach [a] X.env)).any (·.1) = false := by rfl)
    (hall : (backToKw pos (keywordEach [⟨some "key", .Name "len" p2, kpos⟩] X.env)).all (·.1.isSome) = true := by rfl) (hnone : (backToKw pos (keywordEach [⟨some "key", .Name "len" p2, kpos⟩] X.env)).any (·.1.isNone) = false := by rfl) (hks : (backToKw pos (keywordEach [⟨some "key", .Name "len" p2, kpos⟩] X.env)).filterMap (·.1) = [("key" : Str)] := by rfl) :
    PE X (.Call (.Name "sorted" p) [a] [⟨some "key", .Name "len" p2, kpos⟩] pos) (tSortLen X.K ta) := by
  refine ⟨fun pins s σ H Q I h => ?_⟩
  have pa : PA X [a] (tCons ta tNil) := pa_cons ha pa_nil na
  have h' : tCons ta tNil σ H (fun vs H1 => match vs with
    | [x] => ∃ (l : Addr) (ws : List V) (ds : List PyData), x = V.ref l ∧ SqL X.K H1 l ws ∧ DpAll X.K H1 ws ds ∧ (∀ d ∈ ds, isSeqD d = true) ∧
      ∀ (ws' : List V) (p : Addr), (∃ bs : List (V × PyData), bs.map (·.1) = ws' ∧ bs.map (·.2) = ds.mergeSort leLen ∧ ∀ b ∈ bs, ∃ i : Nat, ws[i]? = some b.1 ∧ ds[i]? = some b.2) → H1 p = none → Q (.ref p) (upd H1 p (.lst ws'))
    | _ => False) := h
  refine wpAny_Call_Name_kw (ld_blt I hg hm boot_sorted ?_)
  refine PyProof.Rows.callWith_kw (thn (pa.run pos pins s σ H _ I h') fun us s1 ⟨vs, H1, I1, r1, q0⟩ => ?_) he hpl hall hnone
  obtain ⟨x, rfl⟩ : ∃ x, vs = [x] := by
    cases vs with
    | nil => exact q0.elim
    | cons x r => cases r with
      | nil => exact ⟨x, rfl⟩
      | cons _ _ => exact q0.elim
  obtain ⟨l, ws, ds, e1, hq, hd, hsq, q1⟩ := q0
  subst e1
  obtain rfl := Vals.ref1 r1
  show wpAny _ _ (evalAll [(do let v ← eval (.Name "len" p2) X.env; standAt pos; pure v)]) _ _ s1
  refine wpAny_evalAll_cons (wpAny_bind (ld_blt I1 hg2 hm2 PySem.boot_len (wpAny_bind (wpAny_standAt (wpAny_pure (wpAny_evalAll_nil ?_))))))
  rw [hks]
  obtain ⟨its, rv, hl, hz⟩ := I1.list hq
  have hwd := DpAll_len hd
  have R0 : ∃ R : Value → V × PyData → Prop, R = fun u b => RelV b.1 u ∧ ∃ (a : Addr) (items : Array Value), u = .ref a ∧ PlainL s1.heap a items ∧ items.size = lenD b.2 ∧ items.size ≤ sizeLine := ⟨_, rfl⟩
  obtain ⟨R, hR⟩ := R0
  have each : PySem.W.EachIs R its (ws.zip ds) := each_zip its ws ds hwd (rv.length.symm) fun i u w d e1 e2 e3 => by
    obtain ⟨u', k1, k2⟩ := rv.get e2
    rw [e1] at k1
    obtain rfl := Option.some.inj k1
    obtain ⟨d', k3, k4⟩ := DpAll_get hd e2
    rw [e3] at k3
    obtain rfl := Option.some.inj k3
    have sq := hsq d (List.mem_of_getElem? e3)
    rw [hR]
    refine ⟨k2, ?_⟩
    cases k4 with
    | lst z1 z2 =>
      cases k2
      obtain ⟨its2, rv2, hl2, hz2⟩ := I1.list z1
      refine ⟨_, _, rfl, hl2, ?_, by rw [List.size_toArray, ← rv2.length]; exact hz2⟩
      show its2.toArray.size = _
      rw [List.size_toArray, ← rv2.length, DpAll_len z2]; rfl
    | tup _ _ => cases sq
    | non => cases sq
    | bl _ => cases sq
    | int _ => cases sq
    | str _ => cases sq
  refine PySem.W.sorted_key_data (b := false) (β := V × PyData) (R := R) (bs := ws.zip ds) (fun b => .int (lenD b.2 : Nat)) hl.isList each (PySem.W.AllAlike.of fun _ _ => by simp [PySem.W.alike]) (PySem.W.Sortable.others fun _ => ⟨(fun z => nomatch z), (fun _ z => nomatch z)⟩) (by rw [List.length_zip]; omega) (fun b _ => ?_) (ksk_s1 _ _) (fun _ => ksk_l1 _ _) (fun _ => ksk_t4 _ _)
    (fun v b hb _ h tk kp => ?_) fun out c h2 tk kp hn hD hlen eo => ?_
  · have : (PyData.int (lenD b.2 : Nat)).depth = 0 := by simp [PyData.depth]
    omega
  · rw [hR] at hb
    obtain ⟨_, a, items, rfl, hp, hsz, hle⟩ := hb
    refine Calls.call_len_list (hp.keeps kp).isList (by have := hle; rw [sizeLine_eq] at this; omega) ?_
    exact ⟨h, tk + 1 + 1, rfl, fun _ _ z => z, by rw [hsz]; exact Reads.int _ _⟩
  · have hout : Vals (((ws.zip ds).mergeSort (PySem.W.dataLe false fun b => .int (lenD b.2 : Nat))).map (·.1)) out := each_vals (fun u b z => by rw [hR] at z; exact z.1) eo
    have hsub : ∀ b ∈ ((ws.zip ds).mergeSort (PySem.W.dataLe false fun b => .int (lenD b.2 : Nat))), ∃ i : Nat, ws[i]? = some b.1 ∧ ds[i]? = some b.2 := fun b hb => by
      have hb' := List.mem_mergeSort.mp hb
      obtain ⟨i, hi⟩ := List.mem_iff_getElem?.mp hb'
      exact ⟨i, List.getElem?_zip_eq_some.mp hi⟩
    have hmap : ((ws.zip ds).mergeSort (PySem.W.dataLe false fun b => .int (lenD b.2 : Nat))).map (·.2) = ds.mergeSort leLen := by
      rw [PySem.W.dataLe_int]
      have e := List.map_mergeSort (r := fun a b : V × PyData => decide ((lenD a.2 : Int) ≤ (lenD b.2 : Int))) (s := leLen) (f := fun b : V × PyData => b.2) (l := ws.zip ds) (fun a _ b _ => by unfold leLen; simp)
      rw [e, List.map_snd_zip (by omega)]
    refine ⟨.ref _, upd H1 (s1.heap.objs.size + 1) (.lst (((ws.zip ds).mergeSort (PySem.W.dataLe false fun b => .int (lenD b.2 : Nat))).map (·.1))), I1.laid (t' := tk) kp (Nat.le_succ _) ⟨?_, out, c, hout, hD⟩, rfl, q1 _ _ ⟨_, rfl, hmap, hsub⟩ (I1.hok.fresh (Nat.le_succ _))⟩
    rw [List.length_map, List.length_mergeSort, List.length_zip]; omega
def eSortLen (ma : ME) : ME := fun env cs => (ma env cs).bind fun a cs1 => match a with
  | .d (.list ds) => if ds.all isSeqD = true then .ok (.d (.list (ds.mergeSort leLen))) cs1 else .no
  | _ => .no
@[simp] theorem eSortLen_at {ma : ME} {env : Env} {cs : CS} : eSortLen ma env cs = (ma env cs).bind fun a cs1 => match a with
  | .d (.list ds) => if ds.all isSeqD = true then .ok (.d (.list (ds.mergeSort leLen))) cs1 else .no
  | _ => .no := rfl
@[simp] theorem eLenSet_at {ma : ME} {env : Env} {cs : CS} : eLenSet ma env cs = (ma env cs).bind fun a cs1 => match a with
  | .d (.tuple xs) => match allI xs with
    | some ns => if ns.length ≤ 1000 then .ok (.d (.int (dcount ns : Nat))) cs1 else .no
    | none => .no
  | _ => .no := rfl
theorem dq_of_pairs {K : PySem.W.Frag} {H : Hp} {ws : List V} {ds : List PyData} (r : DqAll K H ws ds) : ∀ bs : List (V × PyData), (∀ b ∈ bs, ∃ i : Nat, ws[i]? = some b.1 ∧ ds[i]? = some b.2) → DqAll K H (bs.map (·.1)) (bs.map (·.2))
  | [], _ => .nil
  | b :: bs, h => by
    obtain ⟨i, h1, h2⟩ := h b List.mem_cons_self
    obtain ⟨v, e1, rv⟩ := DqAll.get r h2
    rw [h1] at e1
    obtain rfl := Option.some.inj e1
    exact .cons rv (dq_of_pairs r bs fun c hc => h c (List.mem_cons_of_mem _ hc))
theorem se_sortLen {X : Cx} {g : G} {W : WX} {a : Expr} {ma : ME} {p p2 pos kpos : Pos} (hK : X.K = g.K) (hc : X.calm = true) (hu : X.A.units + 64 < cLine) (hg : Gl X "sorted") (hm : X.mg "sorted" = none) (hg2 : Gl X "len") (hm2 : X.mg "len" = none) (ha : PE X a (den g W ma))
    (na : starEach [a] X.env = (false, eval a X.env) :: starEach [] X.env := by rfl)
    (he : backTo pos (starEach [a] X.env) = (false, eval a X.env) :: backTo pos (starEach [] X.env) := by rfl) (hpl : (backTo pos (starEach [a] X.env)).any (·.1) = false := by rfl)
    (hall : (backToKw pos (keywordEach [⟨some "key", .Name "len" p2, kpos⟩] X.env)).all (·.1.isSome) = true := by rfl) (hnone : (backToKw pos (keywordEach [⟨some "key", .Name "len" p2, kpos⟩] X.env)).any (·.1.isNone) = false := by rfl) (hks : (backToKw pos (keywordEach [⟨some "key", .Name "len" p2, kpos⟩] X.env)).filterMap (·.1) = [("key" : Str)] := by rfl) :
    PE X (.Call (.Name "sorted" p) [a] [⟨some "key", .Name "len" p2, kpos⟩] pos) (den g W (eSortLen ma)) :=
  pe_imp (pe_sortLen hc hu hg hm hg2 hm2 ha na he hpl hall hnone hks) fun σ H Q ⟨env, cs, as, s, h⟩ => ⟨env, cs, as, s, (Post.bind h).mono fun a cs1 as1 H1 hs1 e1 h1 v rv => by
    split at h1
    · rename_i ds
      split at h1
      · rename_i hq
        obtain ⟨p, vs, rfl, h3, h4⟩ := rep_lst rv
        refine ⟨p, vs, ds, rfl, SqL.of h3, by rw [hK]; exact (DqAll.le dat_le h4).dp, fun d hd => List.all_eq_true.mp hq d hd, fun ws' q ⟨bs, b1, b2, b3⟩ hp => ?_⟩
        have := dq_of_pairs h4 bs b3
        rw [b1, b2] at this
        exact PostA.lst h1 hs1 hp this
      · exact h1.elim
    · exact h1.elim⟩
/-! ### tuple * int -/
theorem tuple_mul1 (l : Addr) (items : Array Value) (n : Nat) (dd : Option Addr) (sl : Array (Option Value)) (u : Tok) :
    Meets (Builtin.«tuple.__mul__» ⟨[.ref l, .int 1 u], []⟩) (fun _ R s => s.heap.get? l = some { cls := .type "tuple", dict := dd, data := .seq items n, slots := sl } ∧ R (.ok (.ret (Value.ref l))) s) :=
  .of_wp fun prog w A R s h => by
    obtain ⟨hp, g, d, tk, os⟩ := s
    obtain ⟨hl, h⟩ := h
    have f1 := AutoSeq1.idx_int
    wp_walk using AutoSeq1.wpAny_loadPart' hl
    exact ⟨_, rfl, h⟩
def rRepN (K : PySem.W.Frag) : R2 := fun x y H Q => ∃ l k xs, x = .ref l ∧ y = .int k ∧ SqT K H l xs ∧ xs ≠ [] ∧ 2 ≤ k ∧ k ≤ 1000 ∧ xs.length ≤ 1000 ∧ ∀ (p : Addr) (o : Obj), o.dict = none → H p = none → Q (.ref p) (upd H p (.frz o (.tup (List.replicate k.toNat xs).flatten)))
theorem op_repN {X : Cx} : OpR X (binaryOp .Mult) (rRepN X.K) := by
  intro pins s σ H x y v u Q I rx ry ⟨l, k, xs, e1, e2, hT, hne, h1, h2, hz, q⟩
  subst e1 e2
  cases rx
  obtain ⟨t, rfl⟩ := ry
  obtain ⟨its, r, ⟨⟨cls, dd, data, sl⟩, ho, hc, n, hd⟩, hs⟩ := I.tuple hT
  simp only at hc hd
  subst hc hd
  have hle : its.length = xs.length := r.length.symm
  have hi : its.toArray.isEmpty = false := by
    cases its with
    | nil => exact absurd (List.eq_nil_of_length_eq_zero hle.symm) hne
    | cons a b => rfl
  have a1 : ((xs.length : Nat) : Int) * k ≤ 1000 * k := Int.mul_le_mul_of_nonneg_right (by omega) (by omega)
  have a2 : k.toNat * xs.length ≤ 1000 * 1000 := Nat.mul_le_mul (by omega) hz
  have fl : ((List.replicate k.toNat xs).flatten).length ≤ sizeLine := by rw [PyProof.Rows.lm_len_rep_flat, sizeLine_eq]; omega
  have flen : (List.replicate k.toNat its).flatten.length ≤ sizeLine := by rw [PyProof.Rows.lm_len_rep_flat, hle, sizeLine_eq]; omega
  have c4 : Builtin.Tuple.tupleTooMany (((its.toArray.size : Nat) : Int) * k) = false := by
    unfold Builtin.Tuple.tupleTooMany
    rw [sizeLine_eq, List.size_toArray, hle]
    exact decide_eq_false (by omega)
  have hm : ((its.toArray.size : Nat) : Int) * k ≤ 1000000 := by rw [List.size_toArray, hle]; omega
  have c0 : (decide (k < -(2 ^ 63)) || decide (k ≥ 2 ^ 63)) = false := by simp; omega
  refine wpAny_binaryOp_repeat_ref (T := "tuple") (U := "int") (by decide) ⟨_, ho, rfl⟩ (fun s' => typeIs_int s' k t) noFill_tuple_mul F.fills_int_mul F.slot_int_rmul repeat_tuple F.slot_int_index.lookup
    (call_meets F.slot_int_rmul (typeIs_int s k t) F.entry_int_rmul (F.args_int_rmul_2 _ _) (int_rmul_tuple k t l its.toArray n dd sl)
      ⟨ho, rfl, ⟨_, ho, rfl⟩, call_meets F.slot_tuple_mul ⟨_, ho, rfl⟩ F.entry_tuple_mul (F.args_tuple_mul_2 _ _) (tuple_mulW l its.toArray n dd sl k t c0 (by rw [hi, Bool.false_or]; exact beq_eq_false_iff_ne.mpr (by omega)) (by rw [hi, Bool.or_false]; exact decide_eq_false (by omega)) (by omega) c4 (by rw [size_rep, List.size_toArray]; exact flen)) ⟨ho, ?_⟩⟩)
  rw [size_rep]
  exact ⟨.ref s.heap.objs.size, _, I.tnew (t' := s.toks) (r.rep k.toNat) fl, rfl, q _ (tO (List.replicate k.toNat its).flatten) rfl (I.hok.fresh (Nat.le_refl _))⟩
def rRep1 (K : PySem.W.Frag) : R2 := fun x y H Q => ∃ l xs, x = .ref l ∧ y = .int 1 ∧ SqT K H l xs ∧ Q (.ref l) H
theorem op_rep1 {X : Cx} : OpR X (binaryOp .Mult) (rRep1 X.K) := by
  intro pins s σ H x y v u Q I rx ry h
  obtain ⟨l, xs, rfl, rfl, hT, q⟩ := h
  cases rx
  obtain ⟨t, rfl⟩ := ry
  obtain ⟨its, r, ⟨⟨cls, dd, data, sl⟩, ho, hc, n, hd⟩, hs⟩ := I.tuple hT
  simp only at hc hd
  subst hc hd
  refine wpAny_binaryOp_repeat_ref (T := "tuple") (U := "int") (by decide) ⟨_, ho, rfl⟩ (fun s' => typeIs_int s' 1 t) noFill_tuple_mul F.fills_int_mul F.slot_int_rmul repeat_tuple F.slot_int_index.lookup
    (call_meets F.slot_int_rmul (typeIs_int s 1 t) F.entry_int_rmul (F.args_int_rmul_2 _ _) (int_rmul_tuple 1 t l its.toArray n dd sl)
      ⟨ho, rfl, ⟨_, ho, rfl⟩, call_meets F.slot_tuple_mul ⟨_, ho, rfl⟩ F.entry_tuple_mul (F.args_tuple_mul_2 _ _) (tuple_mul1 l its.toArray n dd sl t) ⟨ho, ?_⟩⟩)
  exact ⟨.ref l, H, I, rfl, q⟩
def fMulT : A → A → CS → R A
  | .d (.tuple xs), .d (.int k), cs => if k = 1 then .ok (.d (.tuple xs)) cs else if xs ≠ [] ∧ 2 ≤ k ∧ k ≤ 1000 ∧ xs.length ≤ 1000 then .ok (.d (.tuple (List.replicate k.toNat xs).flatten)) cs else .no
  | _, _, _ => .no
def rMulT (K : PySem.W.Frag) : R2 := fun x y H Q => rRep1 K x y H Q ∨ rRepN K x y H Q
theorem op_mulT {X : Cx} : OpR X (binaryOp .Mult) (rMulT X.K) := by
  intro pins s σ H x y v u Q I rx ry h
  rcases h with h | h
  · exact op_rep1 pins s σ H x y v u Q I rx ry h
  · exact op_repN pins s σ H x y v u Q I rx ry h
theorem os_mulT {g : G} : OpS g (rMulT g.K) fMulT := by
  intro W σ cs as H x y a b Q s ra rb h
  unfold fMulT at h
  split at h
  · cases rep_int rb
    obtain ⟨p, vs, rfl, h1, h2⟩ := rep_tup ra
    split at h
    · rename_i hk
      subst hk
      exact .inl ⟨p, vs, rfl, rfl, h1, h.here s ra⟩
    · split at h
      · rename_i hc
        obtain ⟨c1, c2, c3, c4⟩ := hc
        refine .inr ⟨p, _, vs, rfl, rfl, h1, fun z => c1 (List.eq_nil_of_length_eq_zero (by rw [← DqAll.length h2, z]; rfl)), c2, c3, by rw [DqAll.length h2]; exact c4, fun q o ho hq => ?_⟩
        exact PostA.tup h s ho hq (dq_rep h2 _)
      · exact h.elim
  · exact h.elim
end Sh
namespace Sh
open PySem L2
theorem hu2 {A : Around} {k : Nat} (hr : Room k A) : A.units + 2 < cLine := Nat.lt_of_le_of_lt (Nat.add_le_add_left (by decide : 2 ≤ 64) _) hr.units
theorem hu65 {A : Around} {k : Nat} (hr : Room k A) : A.units + 65 < cLine := by have := hr.un; omega
end Sh
namespace Sh
open PySem L2
/-! ### targets that may be subscripts: x, d[k] = a, b and xs[i], xs[j] = a, b -/
abbrev US := A → MS
abbrev USs := List A → MS
def endN (Q : St → Hp → Prop) : Ends := { nx := Q, rt := fun _ _ => False, bk := fun _ _ => False, ct := fun _ _ => False }
def denU (g : G) (W : WX) (t : US) : TG := fun v σ H Q => ∃ env cs as a, Sat g cs as H env σ ∧ RepA g cs as H v a ∧ PostS g W cs as H (endN Q) (t a env cs)
def denUs (g : G) (W : WX) (u : USs) : TGs := fun vs σ H Q => ∃ env cs as xs, Sat g cs as H env σ ∧ RepAs g cs as H vs xs ∧ PostS g W cs as H (endN Q) (u xs env cs)
def uName (i : Nat) : US := fun a env cs => .nx (env.set i (some a)) cs
def uIx (mo mi : ME) : US := fun a env cs => (mo env cs).toS env fun o cs2 => (mi env cs2).toS env fun i cs3 => match o, i, a with
  | .c n, .d (.int k), .d y => match cs3[n]? with
    | some (.lst xs) => match ixN xs.length k with
      | some j => .nx env (cs3.set n (.lst (xs.set j y)))
      | none => .no
    | _ => .no
  | _, _, _ => .no
def uNil : USs := fun xs env cs => match xs with
  | [] => .nx env cs
  | _ => .no
def uCons (t : US) (u : USs) : USs := fun xs env cs => match xs with
  | a :: r => match t a env cs with
    | .nx env1 cs1 => u r env1 cs1
    | .ex e env1 cs1 => .ex e env1 cs1
    | _ => .no
  | [] => .no
def sParU (n : Nat) (u : USs) (ma : MA) : MS := fun env cs => (ma env cs).toS env fun xs cs1 => if xs.length = n ∧ xs.length ≤ sizeLine then u xs env cs1 else .no
section
variable {X : Cx} {g : G} {W : WX} {mo mi : ME} {t : US} {u : USs} {ma : MA} {o i e : Expr} {es vs : List Expr} {p pos : Pos}
theorem su_name {j : Nat} {x : Str} (hN : X.N.Nodup) (hi : X.N[j]? = some x) (hx : Loc X.env.scope x) (hf : X.fn x = true ∨ X.env.scope.names.lookup x = some .local := by first | exact .inl rfl | exact .inr rfl | assumption) : PG X (.Name x pos) (denU g W (uName j)) :=
  pg_imp (pg_name hN hi hx hf) fun v σ H Q ⟨env, cs, as, a, s, r, h⟩ => h _ as H (s.set r) Exn.refl
theorem su_ix (ho : PE X o (den g W mo)) (hi : PE X i (den g W mi)) (ha : ∀ v, assign (.Subscript o i p) X.env v = (do
      let ov ← holding [v] (eval o X.env)
      let iv ← holding [v, ov] (eval i X.env)
      standAt p; holding [v, ov, iv] (setItem ov iv v)
      release [v, ov, iv] []) := by intro _; rfl) : PG X (.Subscript o i p) (denU g W (uIx mo mi)) :=
  pg_imp (pg_sub ho hi set_list ha) fun v σ H Q ⟨env, cs, as, a, s, rv, h⟩ => ⟨env, cs, as, s, (post_toS s h).mono fun o cs2 as2 H2 hs2 e2 h2 vo ro => ⟨env, cs2, as2, s.exn hs2 e2, (post_toS (s.exn hs2 e2) h2).mono fun i cs3 as3 H3 hs3 e3 h3 vi ri => by
    split at h3
    · rename_i n k y
      cases rep_int ri
      obtain ⟨p, a1, rfl⟩ := ro.exn e3
      cases q : cs3[n]? with
      | none => simp only [q] at h3; exact h3.elim
      | some c =>
        cases c with
        | dead => simp only [q] at h3; exact h3.elim
        | dk _ => simp only [q] at h3; exact h3.elim
        | dt _ => simp only [q] at h3; exact h3.elim
        | lst xs =>
          simp only [q] at h3
          obtain ⟨vs, ev, rr⟩ := hs3.lst q a1
          cases qi : ixN xs.length k with
          | none => simp only [qi] at h3; exact h3.elim
          | some j =>
            simp only [qi] at h3
            have ry : Dq g.K (dat cs3 as3 H3) v y := Dq.le (e2.trans e3).dat rv
            have r2 : DqAll g.K (dat cs3 as3 H3) (vs.set j v) (xs.set j y) := DqAll.of (Paired.set ry j (DqAll.paired rr))
            have e : Exn cs3 as3 H3 (cs3.set n (.lst (xs.set j y))) as3 (upd H3 p (.lst (vs.set j v))) := exn_set hs3 q (fun z => nomatch z) a1
            have hs4 : Hs g (cs3.set n (.lst (xs.set j y))) as3 (upd H3 p (.lst (vs.set j v))) := hs3.set q (fun z => nomatch z) a1 ⟨_, upd_same, DqAll.le e.dat r2⟩
            exact ⟨p, vs, k, j, rfl, rfl, ev, by rw [DqAll.length rr]; exact qi, h3 σ as3 _ (s.exn hs4 ((e2.trans e3).trans e)) e⟩
    · exact h3.elim⟩⟩
theorem sus_nil : PGs X [] (denUs g W uNil) := pgs_imp pgs_nil fun v σ H Q ⟨env, cs, as, xs, s, r, h⟩ => by
  cases r with
  | nil => exact ⟨rfl, h _ as H s Exn.refl⟩
  | cons _ _ => exact h.elim
theorem sus_cons (h1 : PG X e (denU g W t)) (h2 : PGs X es (denUs g W u)) (hs : (assignEach (e :: es) X.env).map (·.2) = assign e X.env :: (assignEach es X.env).map (·.2) := by rfl) : PGs X (e :: es) (denUs g W (uCons t u)) :=
  pgs_imp (pgs_cons h1 h2 hs) fun v σ H Q ⟨env, cs, as, xs, s, r, h⟩ => by
    cases r with
    | nil => exact h.elim
    | @cons v1 a vs1 as1 r1 r2 =>
      refine ⟨_, _, rfl, env, cs, as, _, s, r1, ?_⟩
      have h' : PostS g W cs as H (endN Q) (match t a env cs with
        | .nx env1 cs1 => u as1 env1 cs1
        | .ex e env1 cs1 => .ex e env1 cs1
        | _ => .no) := h
      cases q : t a env cs with
      | nx env1 cs1 =>
        rw [q] at h'
        exact fun σ' as' H' s' e' => ⟨env1, cs1, as', as1, s', Paired.mono (fun _ _ z => RepA.exn e' z) r2, PostS.shift h' e'⟩
      | ex x env1 cs1 => rw [q] at h'; exact h'
      | rt _ _ => rw [q] at h'; exact h'.elim
      | bk _ _ => rw [q] at h'; exact h'.elim
      | ct _ _ => rw [q] at h'; exact h'.elim
      | no => rw [q] at h'; exact h'.elim
theorem postS_end {cs : CS} {as : AS} {H : Hp} {D : Ends} {r : RS} (hr : (∀ a c, r ≠ .rt a c) ∧ (∀ a c, r ≠ .bk a c) ∧ (∀ a c, r ≠ .ct a c)) (h : PostS g W cs as H D r) : PostS g W cs as H (endN D.nx) r := by
  cases r with
  | nx _ _ => exact h
  | ex _ _ _ => exact h
  | rt a c => exact absurd rfl (hr.1 a c)
  | bk a c => exact absurd rfl (hr.2.1 a c)
  | ct a c => exact absurd rfl (hr.2.2 a c)
  | no => exact h.elim
/-- a store never ends a block -/
structure Str' (u : USs) : Prop where
  st : ∀ xs env cs, (∀ a c, u xs env cs ≠ .rt a c) ∧ (∀ a c, u xs env cs ≠ .bk a c) ∧ (∀ a c, u xs env cs ≠ .ct a c)
theorem st_nil : Str' uNil := ⟨fun xs env cs => by cases xs <;> exact ⟨(fun _ _ z => nomatch z), (fun _ _ z => nomatch z), (fun _ _ z => nomatch z)⟩⟩
theorem st_cons (h : Str' u) : Str' (uCons t u) := ⟨fun xs env cs => by
  cases xs with
  | nil => exact ⟨(fun _ _ z => nomatch z), (fun _ _ z => nomatch z), (fun _ _ z => nomatch z)⟩
  | cons a r =>
    have e : uCons t u (a :: r) env cs = (match t a env cs with
      | .nx env1 cs1 => u r env1 cs1
      | .ex e env1 cs1 => .ex e env1 cs1
      | _ => .no) := rfl
    rw [e]
    cases q : t a env cs with
    | nx env1 cs1 => exact h.st r env1 cs1
    | ex x env1 cs1 => exact ⟨(fun _ _ z => nomatch z), (fun _ _ z => nomatch z), (fun _ _ z => nomatch z)⟩
    | rt _ _ => exact ⟨(fun _ _ z => nomatch z), (fun _ _ z => nomatch z), (fun _ _ z => nomatch z)⟩
    | bk _ _ => exact ⟨(fun _ _ z => nomatch z), (fun _ _ z => nomatch z), (fun _ _ z => nomatch z)⟩
    | ct _ _ => exact ⟨(fun _ _ z => nomatch z), (fun _ _ z => nomatch z), (fun _ _ z => nomatch z)⟩
    | no => exact ⟨(fun _ _ z => nomatch z), (fun _ _ z => nomatch z), (fun _ _ z => nomatch z)⟩⟩
theorem ss_parU {kt k2 n : Nat} {pt pt2 : Pos} (hc : X.calm = true) (hu : PGs X es (denUs g W u)) (st : Str' u) (ha : PA X vs (denA g W ma))
    (hn : (assignEach es X.env).length = n := by rfl) (hst : (assignEach es X.env).findIdx? (·.1) = none := by rfl)
    (hs : swapsWithSole [.Tuple es kt pt] (.Tuple vs k2 pt2) pos.line X.env = pure false := by rfl) (hw : swappedStores [.Tuple es kt pt] (.Tuple vs k2 pt2) X.env = pure none := by rfl)
    (h1 : (assignEach [.Tuple es kt pt] X.env).map (·.2) = [assign (.Tuple es kt pt) X.env] := by rfl) :
    PS X (.Assign [.Tuple es kt pt] (.Tuple vs k2 pt2) pos) (denS g W (sParU n u ma)) :=
  ps_imp (ps_asg (pe_tup ha) (pg_tup hc hu hn hst) hs hw h1) fun D σ H ⟨env, cs, as, s, h⟩ => ⟨env, cs, as, s, (post_toS s h).mono fun xs cs1 as1 H1 hs1' e1 h1' us ru => by
    split at h1'
    case isFalse => exact h1'.elim
    rename_i hz
    have lu : us.length = xs.length := Paired.length ru
    refine ⟨by rw [lu]; exact hz.2, fun q hq => ?_⟩
    have en := exn_new (o := .tup us) hs1' hq
    have s1 := s.exn (hs1'.new hq) (e1.trans en)
    exact ⟨q, us, rfl, SqT.of upd_same, by rw [lu]; exact hz.1, env, cs1, as1, xs, s1, ru.exn en, PostS.shift (postS_end (st.st xs env cs1) h1') en⟩⟩
end
section
variable {cs : CS} {env : Env} {t : US} {u : USs}
@[simp] theorem sParU_at {n : Nat} {ma : MA} : sParU n u ma env cs = (ma env cs).toS env fun xs cs1 => if xs.length = n ∧ xs.length ≤ sizeLine then u xs env cs1 else .no := rfl
@[simp] theorem uNil_at : uNil [] env cs = .nx env cs := rfl
@[simp] theorem uCons_at {a : A} {r : List A} : uCons t u (a :: r) env cs = (match t a env cs with
    | .nx env1 cs1 => u r env1 cs1
    | .ex e env1 cs1 => .ex e env1 cs1
    | _ => .no) := rfl
@[simp] theorem uName_at {i : Nat} {a : A} : uName i a env cs = .nx (env.set i (some a)) cs := rfl
theorem uIx_at {mo mi : ME} {n j : Nat} {k : Int} {y : PyData} {xs : List PyData} {cs2 cs3 : CS} (h1 : mo env cs = .ok (.c n) cs2) (h2 : mi env cs2 = .ok (.d (.int k)) cs3) (h3 : cs3[n]? = some (.lst xs)) (h4 : ixN xs.length k = some j) : uIx mo mi (.d y) env cs = .nx env (cs3.set n (.lst (xs.set j y))) := by
  simp [uIx, h1, h2, h3, h4]
end
end Sh
/-! t[::-1] of a tuple -/
namespace HT
open PySem PySem.Spec PyProof.Rows
theorem rev_adjust (n : Nat) : Builtin.Slice.sliceAdjust none none (-1) (n : Int) = ((n : Int) - 1, -1) := by
  unfold Builtin.Slice.sliceAdjust
  simp
theorem rev_places (n : Nat) : Builtin.Slice.slicePlaces ((n : Int) - 1) (-1) (-1) = n := by
  unfold Builtin.Slice.slicePlaces
  simp only [show ¬ ((-1 : Int) > 0) from by decide, if_false]
  split <;> first | omega | simp
theorem rev_pick (xs : Array Value) : ((List.range xs.size).filterMap fun (m : Nat) => xs[(((xs.size : Int) - 1) + (m : Int) * (-1)).toNat]?).toArray = xs.toList.reverse.toArray := by
  congr 1
  obtain ⟨l⟩ := xs
  apply List.ext_getElem?
  intro i
  have e : ∀ m ∈ List.range l.length, (List.toArray l)[(((l.toArray.size : Int) - 1) + (m : Int) * (-1)).toNat]? = some (l.reverse.getD m .none) := fun m hm => by
    have hm := List.mem_range.mp hm
    have : (((l.toArray.size : Int) - 1) + (m : Int) * (-1)).toNat = l.length - 1 - m := by rw [List.size_toArray]; omega
    rw [this, List.getElem?_toArray, List.getD_eq_getElem?_getD, List.getElem?_reverse hm, List.getElem?_eq_getElem (by omega)]; rfl
  have e2 : (List.range l.toArray.size).filterMap (fun (m : Nat) => (List.toArray l)[(((l.toArray.size : Int) - 1) + (m : Int) * (-1)).toNat]?) = (List.range l.length).map fun m => l.reverse.getD m .none := by
    rw [List.size_toArray]
    have : ∀ (ks : List Nat), (∀ m ∈ ks, m ∈ List.range l.length) → ks.filterMap (fun (m : Nat) => (List.toArray l)[(((l.toArray.size : Int) - 1) + (m : Int) * (-1)).toNat]?) = ks.map fun m => l.reverse.getD m .none := by
      intro ks
      induction ks with
      | nil => intro _; rfl
      | cons k ks ih =>
        intro h
        rw [List.filterMap_cons, e k (h k List.mem_cons_self), List.map_cons, ih fun m hm => h m (List.mem_cons_of_mem _ hm)]
    exact this _ fun m hm => hm
  rw [List.size_toArray] at e2
  show ((List.range l.toArray.size).filterMap _)[i]? = l.reverse[i]?
  rw [List.size_toArray, e2, List.getElem?_map]
  by_cases hi : i < l.length
  · rw [List.getElem?_range hi]
    show some (l.reverse.getD i .none) = _
    rw [List.getD_eq_getElem?_getD, List.getElem?_eq_getElem (by rw [List.length_reverse]; exact hi)]; rfl
  · rw [List.getElem?_eq_none (by rw [List.length_range]; omega), List.getElem?_eq_none (by rw [List.length_reverse]; omega)]; rfl
section
variable {prog : Program} {w : World} {A : Around} {E : Value → Shared → Prop} {s : Shared}
theorem applied_rev {sl : Addr} {vl vu vs : Value} {n : Nat} {Q : Int × Int × Nat → Shared → Prop} (hs : s.heap.IsSliceOf sl vl vu vs) (pl : IsPart vl none) (pu : IsPart vu none) (ps : IsPart vs (some (-1)))
    (h : Q ((n : Int) - 1, -1, n) s) : wpAny (model prog w) A (Builtin.Slice.sliceApplied (.ref sl) (pure (n : Int))) Q E s := by
  obtain ⟨o1, ho1, hc1, hd1⟩ := id hs
  unfold Builtin.Slice.sliceApplied Builtin.Slice.sliceFields
  refine wpAny_bind (wpAny_bind (wpAny_field ho1 hd1 (x := vl) rfl (wpAny_bind (wpAny_field ho1 hd1 (x := vu) rfl (wpAny_bind (wpAny_field ho1 hd1 (x := vs) rfl (wpAny_pure ?_)))))))
  refine wpAny_bind (slicePart_ ps ?_)
  show wpAny _ _ (if ((-1 : Int) == 0) = true then _ else _) _ _ s
  rw [if_neg (by decide)]
  refine wpAny_bind (slicePart_ pl (wpAny_bind (slicePart_ pu (wpAny_bind (wpAny_pure ?_)))))
  show wpAny _ _ (match Builtin.Slice.sliceAdjust none none (-1) (n : Int) with | (lo, hi) => pure (lo, (-1 : Int), Builtin.Slice.slicePlaces lo hi (-1))) _ _ s
  rw [rev_adjust n]
  show wpAny _ _ (pure ((n : Int) - 1, (-1 : Int), Builtin.Slice.slicePlaces ((n : Int) - 1) (-1) (-1))) _ _ s
  rw [rev_places]
  exact wpAny_pure h
theorem tuple_rev {t sl : Addr} {items : Array Value} {vl vu vs : Value} {Q : Value → Shared → Prop} (ht : IsTup s.heap t items) (hs : s.heap.IsSliceOf sl vl vu vs) (pl : IsPart vl none) (pu : IsPart vu none) (ps : IsPart vs (some (-1)))
    (h : Q (.ref s.heap.objs.size) { s with heap := s.heap.push { cls := .type "tuple", data := .seq items.toList.reverse.toArray } })
    (hsz : items.size ≤ sizeLine) : wpAny (model prog w) A (getItem (.ref t) (.ref sl)) Q E s := by
  have hsize : sizeOk (.seq items.toList.reverse.toArray) := by
    show items.toList.reverse.toArray.size ≤ sizeLine
    rw [List.size_toArray, List.length_reverse, Array.length_toList]
    exact hsz
  obtain ⟨o1, ho1, hc1, hd1⟩ := id hs
  have hT1 : s.TypeIs (.ref sl) "slice" := ⟨o1, ho1, hc1⟩
  unfold getItem
  try with_reducible refine wpAny_holding ?_
  first | refine wpAny_bind (wpAny_pure ?_) | skip
  refine wpAny_bind (wpAny_sequenceKey ht.typeIs (by decide) ?_)
  refine wpAny_bind (wpAny_callSpecial?_slot (name := Str.ofString "__getitem__") ht.typeIs PyProof.Rows.slot_tuple_getitem (wpAny_call_entry PyProof.Rows.slot_tuple_getitem ht.typeIs entry_tuple_getitem ?_ (args_tuple_getitem _ _)))
  show wpAny _ _ (Builtin.Tuple.tupleItemsOf (.ref t) >>= _) _ _ s
  refine wpAny_bind (tupleItemsOf_ ht (wpAny_bind (wpAny_typeOf hT1 ?_)))
  rw [if_pos (by decide)]
  refine wpAny_bind (applied_rev hs pl pu ps ?_)
  have hno : ¬ ((((items.size : Int) - 1) == 0 && (-1 : Int) == 1 && items.size == items.size) = true) := fun q => by
    rw [Bool.and_eq_true, Bool.and_eq_true] at q
    exact absurd q.1.2 (by decide)
  show wpAny _ _ (if (((items.size : Int) - 1) == 0 && (-1 : Int) == 1 && items.size == items.size) = true then _ else _) _ _ s
  rw [if_neg hno, rev_pick]
  first
    | exact wpAny_bind (m := Builtin.Tuple.tupleExact _) (wpAny_newObj_type (wpAny_pure ⟨_, rfl, wpAny_pure h⟩) hsize)
    | exact wpAny_bind (m := Builtin.Tuple.tupleExact _) (wpAny_newObj_type (wpAny_bind (wpAny_pure (wpAny_pure ⟨_, rfl, wpAny_pure h⟩))) hsize)
    | exact wpAny_bind (wpAny_bind (m := Builtin.Tuple.tupleExact _) (wpAny_newObj_type (wpAny_pure (wpAny_pure ⟨_, rfl, wpAny_pure h⟩)) hsize))
    | exact wpAny_bind (wpAny_bind (m := Builtin.Tuple.tupleExact _) (wpAny_newObj_type (wpAny_pure ⟨_, rfl, wpAny_pure h⟩) hsize))
end
end HT
namespace L2
open PySem PySem.Spec PyProof.Rows
def tRevT (K : PySem.W.Frag) (te : TE) : TE := fun σ H Q => te σ H fun x H1 => ∃ a xs, x = .ref a ∧ SqT K H1 a xs ∧ ∀ (p : Addr) (o : Obj), o.dict = none → H1 p = none → Q (.ref p) (upd H1 p (.frz o (.tup xs.reverse)))
theorem pe_revT {X : Cx} {e : Expr} {te : TE} {k : Nat} {p1 p2 p3 pos : Pos} (he : PE X e te) : PE X (.Subscript e (.Slice none none (some (.UnaryOp .USub (.Constant (.int 1) k p1) p2)) p3) pos) (tRevT X.K te) := by
  refine ⟨fun pins s σ H Q I h => Subscript_ (thn (he.run pins s σ H _ I h) fun v s1 ⟨x, H1, I1, r1, a, xs, ex, hx, q⟩ => ?_)⟩
  subst ex
  cases r1
  have hst : PO X (some (.UnaryOp .USub (.Constant (.int 1) k p1) p2)) (tPart (tUn (rU fun i => .int (-i)) (tC (.int 1)))) := po_some (pe_un un_neg pe_int)
  refine wpAny_Slice (thn (po_none.run pins s1 σ H1 (fun o H2 => o = none ∧ H2 = H1) I1 ⟨rfl, rfl⟩) fun vl s2 ⟨l, H2, I2, pl, e1, e2⟩ => thn (po_none.run pins s2 σ H2 (fun o H3 => o = none ∧ H3 = H2) I2 ⟨rfl, rfl⟩) fun vu s3 ⟨u, H3, I3, pu, e3, e4⟩ =>
    thn (hst.run pins s3 σ H3 (fun o H4 => o = some (-1) ∧ H4 = H3) I3 ⟨1, rfl, -1, rfl, rfl, rfl⟩) fun vs s4 ⟨o, H4, I4, ps, e5, e6⟩ => ?_)
  subst e1 e2 e3 e4 e5 e6
  have I5 : Inv X pins σ H4 { s4 with heap := s4.heap.push { cls := .type "slice", data := .fields #[vl, vu, vs] } } := I4.kept (t' := s4.toks) fun b ob q => Heap.get?_push_of_some _ q
  obtain ⟨its, r, ht, hz⟩ := I5.tuple hx
  have hlen := r.length
  show wpAny (model X.prog X.w) X.A (subscriptTail e (.Slice none none (some (.UnaryOp .USub (.Constant (.int 1) k p1) p2)) p3) (.ref a) (.ref s4.heap.objs.size)) (EP X pins σ Q) X.xe { s4 with heap := s4.heap.push { cls := .type "slice", data := .fields #[vl, vu, vs] } }
  refine tail_any (ops := [.ref a, .ref s4.heap.objs.size]) ht.typeIs (PyProof.Rows.slot_tuple_getitem.lookup) ?_ (by with_unfolding_all rfl)
  refine HT.tuple_rev ht (Heap.IsSliceOf.new _ vl vu vs) pl pu ps ?_ (by rw [List.size_toArray]; omega)
  exact ⟨.ref _, _, I5.tnew (t' := s4.toks) r.reverse (by rw [List.length_reverse]; exact hz), rfl, q _ (tO _) rfl (I5.hok.fresh (Nat.le_refl _))⟩
end L2
namespace Sh
open PySem L2
def fRevT (a : A) (cs : CS) : R A := match a with
  | .d (.tuple xs) => .ok (.d (.tuple xs.reverse)) cs
  | _ => .no
section
variable {X : Cx} {g : G} {W : WX} {me : ME} {e : Expr} {k : Nat} {p1 p2 p3 pos : Pos}
theorem DqAll.reverse {K : PySem.W.Frag} {H : Hp} : ∀ {vs : List V} {xs : List PyData}, DqAll K H vs xs → DqAll K H vs.reverse xs.reverse
  | _, _, .nil => .nil
  | _, _, .cons a b => by rw [List.reverse_cons, List.reverse_cons]; exact DqAll.append (DqAll.reverse b) (.cons a .nil)
theorem se_revT (hK : X.K = g.K) (he : PE X e (den g W me)) : PE X (.Subscript e (.Slice none none (some (.UnaryOp .USub (.Constant (.int 1) k p1) p2)) p3) pos) (den g W (eUn fRevT me)) :=
  pe_imp (pe_revT he) fun σ H Q ⟨env, cs, as, s, h⟩ => ⟨env, cs, as, s, (Post.bind h).mono fun a cs1 as1 H1 hs1 e1 h1 v rv => by
    unfold fRevT at h1
    split at h1
    · rename_i xs
      obtain ⟨p, vs, rfl, h2, h3⟩ := rep_tup rv
      exact ⟨p, vs, rfl, hK ▸ h2, fun q o ho hq => PostA.tup h1 hs1 ho hq (DqAll.reverse h3)⟩
    · exact h1.elim⟩
@[simp] theorem fRevT_at {xs : List PyData} {cs : CS} : fRevT (.d (.tuple xs)) cs = .ok (.d (.tuple xs.reverse)) cs := rfl
end
end Sh
namespace Sh
open PySem L2
/-! ### list(range(n)): plain, and as a cell -/
def eLstRg1 (m : ME) : ME := fun env cs => (m env cs).bind fun x cs1 => match x with
  | .d (.int n) => if rgOk 0 n = true then .ok (.d (.list (rgD 0 n))) cs1 else .no
  | _ => .no
def eLstRg1C (m : ME) : ME := fun env cs => (m env cs).bind fun x cs1 => match x with
  | .d (.int n) => if rgOk 0 n = true then .ok (.c cs1.length) (cs1 ++ [.lst (rgD 0 n)]) else .no
  | _ => .no
section
variable {X : Cx} {g : G} {W : WX} {m1 : ME} {a : Expr} {p pos p2 pos2 : Pos}
theorem se_lstRg1 (hc : X.calm = true) (hg : Gl X "range") (hm : X.mg "range" = none) (ha : PE X a (den g W m1)) (hg2 : Gl X "list") (hm2 : X.mg "list" = none)
    (na : starEach [a] X.env = (false, eval a X.env) :: starEach [] X.env := by rfl) (na2 : starEach [(.Call (.Name "range" p) [a] [] pos)] X.env = (false, eval (.Call (.Name "range" p) [a] [] pos) X.env) :: starEach [] X.env := by rfl) :
    PE X (.Call (.Name "list" p2) [.Call (.Name "range" p) [a] [] pos] [] pos2) (den g W (eLstRg1 m1)) :=
  pe_imp (pe_listRg hc hg2 hm2 (prg_1 hg hm ha na) na2) fun σ H Q ⟨env, cs, as, s, h⟩ => ⟨env, cs, as, s, (Post.bind h).mono fun x cs1 as1 H1 hs1 e1 h1 v rv => by
    split at h1
    case h_2 => exact h1.elim
    rename_i n
    cases rep_int rv
    split at h1
    case isFalse => exact h1.elim
    rename_i ho
    exact ⟨n, rfl, rgOk_of ho, fun q hq => PostA.lst h1 hs1 hq (rgD_rep 0 n)⟩⟩
theorem se_lstRg1C (hc : X.calm = true) (hg : Gl X "range") (hm : X.mg "range" = none) (ha : PE X a (den g W m1)) (hg2 : Gl X "list") (hm2 : X.mg "list" = none)
    (na : starEach [a] X.env = (false, eval a X.env) :: starEach [] X.env := by rfl) (na2 : starEach [(.Call (.Name "range" p) [a] [] pos)] X.env = (false, eval (.Call (.Name "range" p) [a] [] pos) X.env) :: starEach [] X.env := by rfl) :
    PE X (.Call (.Name "list" p2) [.Call (.Name "range" p) [a] [] pos] [] pos2) (den g W (eLstRg1C m1)) :=
  pe_imp (pe_listRg hc hg2 hm2 (prg_1 hg hm ha na) na2) fun σ H Q ⟨env, cs, as, s, h⟩ => ⟨env, cs, as, s, (Post.bind h).mono fun x cs1 as1 H1 hs1 e1 h1 v rv => by
    split at h1
    case h_2 => exact h1.elim
    rename_i n
    cases rep_int rv
    split at h1
    case isFalse => exact h1.elim
    rename_i ho
    exact ⟨n, rfl, rgOk_of ho, fun q hq => PostA.cell h1 hs1 hq (rgD_rep 0 n)⟩⟩
end
section
variable {cs : CS} {env : Env} {m : ME}
@[simp] theorem eLstRg1_at : eLstRg1 m env cs = (m env cs).bind fun x cs1 => match x with
  | .d (.int n) => if rgOk 0 n = true then .ok (.d (.list (rgD 0 n))) cs1 else .no
  | _ => .no := rfl
@[simp] theorem eLstRg1C_at : eLstRg1C m env cs = (m env cs).bind fun x cs1 => match x with
  | .d (.int n) => if rgOk 0 n = true then .ok (.c cs1.length) (cs1 ++ [.lst (rgD 0 n)]) else .no
  | _ => .no := rfl
end
end Sh
/-! sorted(t), t a tuple of whole numbers -/
namespace SrtO
open PySem PySem.W PyProof.Rows PySem.Spec
section
variable {prog : Program} {w : World} {A : Around} {E : Value → Shared → Prop} {s : Shared}
theorem sorted_tup {t : Addr} {its : List Value} {ltv : Value → Value → Bool} {Q : Value → Shared → Prop} (O : Swo ltv) {ob : Obj} {n : Nat} (ho : s.heap.get? t = some ob) (hc : ob.cls = .type "tuple") (hd : ob.data = .seq its.toArray n) (hz : its.length ≤ sizeLine)
    (hS : 2 ≤ its.length → ∀ (h₁ : Heap) (a : Addr), SortableO prog w A.in1.in1 { s with heap := h₁ } a its ltv)
    (h : ∀ (h' h2 : Heap) (out : List Value) (ep : Nat), (∀ b o, s.heap.get? b = some o → h'.get? b = some o) → Srtd ltv out → Stb ltv out its → (∀ b o, h'.get? b = some o → h2.get? b = some o) → h2.get? h'.objs.size = some (seqObj "list" out.toArray ep) → Q (.ref h'.objs.size) { s with heap := h2 }) :
    wpAny (model prog w) A (call (.builtin "sorted") [.ref t]) Q E s := by
  refine Calls.call_function_entry kind_sorted plain_sorted entry_sorted (args_sorted1 _) ?_
  unfold Builtin.«sorted»
  refine wpAny_bind (m := checkCount "sorted" 1 1 _) (wpAny_pure (wpAny_bind (wpAny_collect_seq t (.inr rfl) ho hc hd (fun h' hk => ?_) (by rw [List.size_toArray]; exact hz))))
  have e : its.toArray.toList = its := by simp
  rw [e]
  refine wpAny_bind (wpAny_newList ?_ hz)
  have hoL : (h'.push (seqObj "list" its.toArray 0)).get? h'.objs.size = some (seqObj "list" its.toArray 0) := Heap.get?_push_size _ rfl
  refine wpAny_bind (wpAny_holding (wpAny_call_entry slot_list_sort ⟨_, hoL, rfl⟩ entry_list_sort (list_sort_ord O hoL hz (fun h2 => hS h2 _ _) fun out hs hb => ⟨_, rfl, ?_⟩) (args_list_sort _)))
  obtain ⟨ep, hep⟩ := sortedHeap_at (h := h'.push (seqObj "list" its.toArray 0)) (a := h'.objs.size) (vs := its) (n := 0) (out := out.toArray) hoL
  exact wpAny_pure ⟨_, rfl, h h' _ out ep hk hs hb (fun b o q => by
    have hlt := Heap.lt_size q
    rw [sortedHeap_old (Nat.ne_of_lt hlt) (by rw [size_push']; exact Nat.lt_succ_of_lt hlt), Heap.get?_push_ne _ _ _ (Nat.ne_of_lt hlt)]
    exact q) hep⟩
end
end SrtO
namespace L2
open PySem PySem.Spec PyProof.Rows
/-- sorted(list | tuple of whole numbers) -/
def rSortedX (K : PySem.W.Frag) : List V → Hp → VK → Prop := fun vs H Q => ∃ (a : Addr) (ns : List Int), vs = [V.ref a] ∧ (SqL K H a (ns.map V.int) ∨ SqT K H a (ns.map V.int)) ∧
  ∀ (ns' : List Int) (p : Addr), ns'.Perm ns → ns'.Pairwise (· ≤ ·) → H p = none → Q (.ref p) (upd H p (.lst (ns'.map V.int)))
theorem cr_sortedX {X : Cx} : CallR X (.builtin "sorted") (rSortedX X.K) := fun pins s σ H vs us Q I r ⟨a, ns, e1, hs, q⟩ => by
  subst e1
  rcases hs with hs | hs
  · exact cr_sortedI pins s σ H _ us Q I r ⟨a, ns, rfl, hs, q⟩
  · obtain ⟨its, rv, ⟨o, ho, hc, n, hd⟩, hz⟩ := I.tuple hs
    rw [Vals.ref1 r]
    have hi := rv.ints
    refine SrtO.sorted_tup SrtO.swo_int ho hc hd (by rw [← rv.length]; exact hz) (fun h2 h₁ a' => SrtO.ints_sortable hi h2) fun h' h2 out ep hk k1 k2 k3 k4 => ?_
    obtain ⟨g1, g2, g3⟩ := SrtO.ints_out hi k1 k2
    have hlen : ((out.map SrtO.iv).map V.int).length ≤ sizeLine := by
      rw [List.length_map, g2.length_eq]
      rw [List.length_map] at hz
      exact hz
    have I1 : Inv X pins σ H { s with heap := h' } := I.kept (t' := s.toks) hk
    exact ⟨.ref _, upd H h'.objs.size (.lst ((out.map SrtO.iv).map V.int)), I1.laid (t' := s.toks) k3 (Nat.le_refl _) ⟨hlen, out, ep, vals_of_ints g1, k4⟩, rfl, q _ _ g2 g3 (I1.hok.fresh (Nat.le_refl _))⟩
end L2
namespace Sh
open PySem L2
def fSortedX : List A → CS → R A
  | [a], cs => match toS cs a with
    | some xs => match allI xs with
      | some ns => .ok (.d (.list ((sortI ns).map PyData.int))) cs
      | none => .no
    | none => .no
  | _, _ => .no
theorem cs_sortedX {g : G} : CallS g (rSortedX g.K) fSortedX := by
  intro W σ cs as H vs xs Q s r h
  unfold fSortedX at h
  split at h
  · rename_i a
    obtain ⟨v, rfl, rv⟩ := reps1 r
    cases q : toS cs a with
    | none => simp only [q] at h; exact h.elim
    | some ds =>
      simp only [q] at h
      cases q2 : allI ds with
      | none => simp only [q2] at h; exact h.elim
      | some ns =>
        simp only [q2] at h
        have go : ∀ (ns' : List Int) (p : Addr), ns'.Perm ns → ns'.Pairwise (· ≤ ·) → H p = none → Q (.ref p) (upd H p (.lst (ns'.map V.int))) := fun ns' p e1 e2 hp => by
          rw [sorted_one (e1.trans (sortI_perm ns).symm) e2 (sortI_sorted ns)]
          exact PostA.lst h s hp (dq_ints _)
        rcases toS_tup s rv q with ⟨p, ws, rfl, h1, h2⟩ | ⟨p, ws, rfl, h1, h2⟩
        · rw [allI_eq q2] at h2
          rw [reps_ints h2] at h1
          exact ⟨p, ns, rfl, .inl (SqL.of h1), go⟩
        · subst h2
          obtain ⟨p', vs, e, g1, g2⟩ := rep_tup rv
          rw [allI_eq q2] at g2
          rw [reps_ints g2] at g1
          exact ⟨p', ns, by rw [e], .inr g1, go⟩
  · exact h.elim
theorem fSortedX_t {ns : List Int} {cs : CS} : fSortedX [.d (.tuple (ns.map PyData.int))] cs = .ok (.d (.list ((sortI ns).map PyData.int))) cs := by simp [fSortedX, toS, toD]
end Sh
namespace L2
open PySem PySem.Spec PyProof.Rows
/-! ### enumerate(list), its pairs known objects -/
def IteL (K : PySem.W.Frag) (a : Addr) : It :=
  ⟨fun i H => ∃ (xs : List V) (x : V), SqL K H a xs ∧ xs[i]? = some x, fun i H v H' => ∃ (T : Addr) (o : Obj) (x : V), v = .ref T ∧ o.dict = none ∧ H T = none ∧ H' = upd H T (.frz o (.tup [.int (i : Nat), x])) ∧ ∀ xs, SqL K H a xs → xs[i]? = some x, fun i H => ∃ xs : List V, SqL K H a xs ∧ xs.length = i⟩
theorem turn_enumL {P : Program} {w : World} {K : PySem.W.Frag} {elts : List Expr} {kk : Nat} {tpos : Pos} (a e it : Addr) :
    Turn P w K (.Tuple elts kk tpos) (IteL K a) [e, it] e (fun i h => (∃ old, IsEnum h e it ((i : Nat) : Int) old) ∧ h.IsListIter it a i ∧ e ≠ it ∧ a ≠ it ∧ e ≠ a) where
  mem := by simp
  obj := fun i h st b hb => by
    obtain ⟨⟨old, he⟩, ⟨o, ho, hc, hd⟩, _⟩ := st
    have e' : b = e ∨ b = it := by simpa using hb
    rcases e' with z | z
    · rw [z]; exact ⟨_, he, fun v q => nomatch q⟩
    · rw [z]; exact ⟨o, ho, fun v q => by rw [hd] at q; cases q⟩
  keep := fun i h h' st k => let ⟨⟨old, he⟩, hi, hne⟩ := st; ⟨⟨old, k e (by simp) _ he⟩, hi.at fun o q => k it (by simp) o q, hne⟩
  item := by
    intro X hP hw hK hc i pins s σ H E I hf st hg
    subst hP hw hK
    obtain ⟨⟨old, he⟩, hit, hne, hai, hea⟩ := st
    obtain ⟨xs, x, hq, hx⟩ := hg
    obtain ⟨its, rv, p, hz⟩ := I.list hq
    obtain ⟨u, hu, ru⟩ := rv.get hx
    have hel : e < s.heap.objs.size := Heap.lt_size he
    have hil : it < s.heap.objs.size := by obtain ⟨_, q, _⟩ := hit; exact Heap.lt_size q
    have hef : e ∉ [it, a] := by simp [hne, hea]
    have hlt : i < its.toArray.size := by
      rw [List.size_toArray]
      exact (List.getElem?_eq_some_iff.mp hu).1
    refine wpAny_pyNext_enum_itemC (Draws.list (by exact I.ok.hd hc) it a hai its.toArray) he ⟨hit, p.isList⟩ hlt hne hef fun x' h' tk hP ho hit' hT hsz hk => ?_
    obtain rfl : x' = u := by
      have q : its.toArray[i]? = some x' := hP
      have q' : its[i]? = some x' := by simpa using q
      rw [hu] at q'
      exact (Option.some.inj q').symm
    refine ⟨_, rfl, wpAny_letOwnedTupleGo_enum (s := { s with heap := h', toks := tk + 1 }) ho fun h'' he' sb => ?_⟩
    have hT2 : h''.get? s.heap.objs.size = some { cls := .type "tuple", data := .seq #[.int i tk, x'] } := (sb.2 _ (Nat.ne_of_gt hel)).trans hT
    have new : ObjOk X.prog X.w (upd H s.heap.objs.size (.frz { cls := .type "tuple", data := .seq #[.int i tk, x'] } (.tup [.int (i : Nat), x]))) h'' s.heap.objs.size (.frz { cls := .type "tuple", data := .seq #[.int i tk, x'] } (.tup [.int (i : Nat), x])) :=
      ⟨hT2, by show 2 ≤ sizeLine; decide, [.int i tk, x'], .cons ⟨_, rfl⟩ (.cons ru .nil), ⟨_, hT2, rfl, _, rfl⟩⟩
    have I1 : Inv X pins σ (upd H s.heap.objs.size (.frz { cls := .type "tuple", data := .seq #[.int i tk, x'] } (.tup [.int (i : Nat), x]))) { s with heap := h'', toks := tk + 1 } :=
      I.turnedNew (ch := [e, it]) (fun b ob hb q => (sb.2 b (fun z => hb (by simp [z]))).trans (hk b ob (fun z => hb (by simp [z])) (fun z => hb (by simp [z])) q)) hf (Nat.le_refl _) new
    refine ⟨.ref s.heap.objs.size, _, I1, rfl, ⟨_, _, x, rfl, rfl, I.hok.fresh (Nat.le_refl _), rfl, fun ys hy => by rw [I.list_inj hy hq]; exact hx⟩, ⟨⟨x', ?_⟩, hit'.1.at fun o q => (sb.2 it (Ne.symm hne)).trans q, hne, hai, hea⟩, fun b hb => ?_⟩
    · have e1 : ((i + 1 : Nat) : Int) = (i : Int) + 1 := by omega
      rw [e1]; exact he'
    · have hb' : b < s.heap.objs.size := by
        have e' : b = e ∨ b = it := by simpa using hb
        rcases e' with z | z
        · rw [z]; exact hel
        · rw [z]; exact hil
      rw [upd_ne (Nat.ne_of_lt hb')]
      exact (hf b hb).1
  done := by
    intro X hP hw hK hc i pins s σ H E I hf st hg
    subst hP hw hK
    obtain ⟨⟨old, he⟩, hit, hne, hai, hea⟩ := st
    obtain ⟨xs, hq, hx⟩ := hg
    obtain ⟨its, rv, p, hz⟩ := I.list hq
    obtain ⟨f0, f1, f2, f3, f4, f5⟩ := hf it (by simp)
    have hl : i = its.toArray.size := by rw [List.size_toArray, ← rv.length]; exact hx.symm
    rw [hl] at hit
    exact wpAny_pyNext_enum_endD (Draws.list (by exact I.ok.hd hc) it a hai its.toArray) he ⟨hit, p.isList⟩ fun h' eb => ⟨rfl, I.turned (t' := s.toks) (fun b o hb q => eb b o hb q) f0 f1 f3 f4 f5⟩
  self := fun A i s Q E st h => let ⟨⟨_, he⟩, _⟩ := st; wpAny_pyIter_enum he h
def iEnumL (K : PySem.W.Frag) (ta : TA) : TI := fun σ H R => ta σ H fun vs H1 => ∃ a xs, vs = [.ref a] ∧ SqL K H1 a xs ∧ R (IteL K a) H1
theorem pi_enumL {X : Cx} {e : Expr} {ta : TA} {p pos tpos : Pos} {elts : List Expr} {kk : Nat} (hg : Gl X "enumerate") (hm : X.mg "enumerate" = none) (ha : PA X [e] ta) (hs : starEach [e] X.env = [(false, eval e X.env)] := by rfl) :
    PI X (.Tuple elts kk tpos) (.Call (.Name "enumerate" p) [e] [] pos) (iEnumL X.K ta) := by
  refine ⟨fun pins s σ H R I h => ?_⟩
  refine Call_ (ld_blt I hg hm boot_enumerate (PyProof.Rows.callWith_type1 (thn (ha.run pos pins s σ H _ I h) fun us s1 ⟨vs, H1, I1, r1, q1⟩ => ?_) hs rfl))
  obtain ⟨a, xs, ex, hq, q⟩ := q1
  subst ex
  cases r1 with
  | cons r rr =>
    cases rr
    cases r
    obtain ⟨its, rv, p', hz⟩ := I1.list hq
    have hal : a < s1.heap.objs.size := p'.lt
    refine call_enumerate_any (begins_list a its.toArray) p'.isList fun h' he hit hsz hk => wpAny_pyIter_enum he ?_
    have I2 : Inv X pins σ H1 { s1 with heap := h' } := I1.kept (t' := s1.toks) hk
    refine ⟨s1.heap.objs.size + 1, [s1.heap.objs.size + 1, s1.heap.objs.size], _, _, H1, rfl, I2, turn_enumL a (s1.heap.objs.size + 1) s1.heap.objs.size, ⟨⟨.none, he⟩, ⟨_, hit, rfl, rfl⟩, Nat.succ_ne_self _, Nat.ne_of_lt hal, Nat.ne_of_gt (Nat.lt_succ_of_lt hal)⟩, fun b hb => ?_, q⟩
    have e' : b = s1.heap.objs.size + 1 ∨ b = s1.heap.objs.size := by simpa using hb
    have hle : s1.heap.objs.size ≤ b := by
      rcases e' with z | z
      · rw [z]; exact Nat.le_add_right _ _
      · rw [z]; exact Nat.le_refl _
    exact I1.fpOk hle (I1.hok.fresh hle)
end L2
namespace Sh
open PySem L2 PyProof.Rows
/-! ### try: several clauses, each with or without a name -/
/-- the exception at a (class c, dict d) lies before the frame of X; without it the state is σ, H -/
structure Held (X : Cx) (ps : List (Addr × Obj)) (σ : L2.St) (H : Hp) (c : Value) (d : Option Addr) (a : Addr) (B : Heap) (t s : Shared) : Prop where
  inv : Inv X ps σ H t
  grd : ∀ b o, t.heap.get? b = some o → b ∉ frs X.stack → B.get? b = some o
  up : t.heap.UpToSlots s.heap
  fly : HandSPX.FlyingZ B (X.env :: X.outer) a (Zc c d) s.heap
  gone : H a = none
  os : s.os = t.os
  bare : AllBare s.gens
section
variable {X : Cx} {ps : List (Addr × Obj)} {σ : L2.St} {H : Hp} {c : Value} {d : Option Addr} {a : Addr} {B : Heap} {t s : Shared}
theorem Held.now (h : Held X ps σ H c d a B t s) : Inv X ps σ H s := h.inv.landed h.grd h.fly.1 h.up h.os h.bare
/-- the suite's context -/
theorem Held.enter (h : Held X ps σ H c d a B t s) (hf : X.env.frame = some X.env.locals) : ∃ oe : Obj, s.heap.get? a = some oe ∧ Zc c d oe ∧ (∃ v, oe.data = .fields v) ∧ Inv (X.suite a ((a, oe) :: (X.pn ++ ps))) [] σ H s := by
  obtain ⟨oe, v, g1, g2, g3⟩ := h.fly.there
  have out : a ∉ frs (X.env :: X.outer) := fun m => by
    obtain ⟨_, o1, q1, q2⟩ := h.fly.2.2.1.mem m
    have e1 := g1.symm.trans q1
    cases e1
    exact q2 v g3
  have n1 : a ≠ X.env.locals := fun z => out (List.mem_filterMap.mpr ⟨_, .head _, by rw [z]; exact hf⟩)
  have n2 : a ∉ X.fs := fun m => out (by
    obtain ⟨e, m1, m2⟩ := List.mem_filterMap.mp m
    exact List.mem_filterMap.mpr ⟨e, .tail _ m1, m2⟩)
  exact ⟨oe, g1, g2, ⟨v, g3⟩, h.now.suite g1 g3 h.gone n1 n2⟩
theorem Held.flat {M : Model} {A : Around} {E : Value → Shared → Prop} {Q : Unit → Shared → Prop} (h : Held X ps σ H c d a B t s) (k : ∀ s1, Held X ps σ H c d a B t s1 → Q () s1) : wpAny M A (setFlight (.ref a) none) Q E s :=
  HandSPX.lands_againZ h.fly fun g f u => k _ ⟨h.inv, h.grd, h.up.trans u, f, h.gone, h.os, h.bare⟩
/-- no clause takes it: it goes on -/
theorem Held.goes {D : Ends} {Wo : WX} (h : Held X ps σ H c d a B t s) (hs : X.stack = X.env :: X.outer) (hf : X.env.frame = some X.env.locals) (tk : Takes X Wo) (w : Wo c d σ H) : wpAny (model X.prog X.w) X.A (PySem.passOn "try.no-clause-matches" (.ref a) X.env) (SP X ps D) X.xe s := by
  obtain ⟨oe, v, T, oT, ts, z1, z2, z3, z4, z5⟩ := h.fly.2.2.2
  have last : wpAny (model X.prog X.w) X.A (setFlight (.ref a) X.env.frame) (fun _ s1 => wpAny (model X.prog X.w) X.A (throw (.ref a) : Sem Flow) (SP X ps D) X.xe s1) X.xe s := by
    rw [hf]
    exact HandSPX.setFlight_upZ h.fly fun g hh u => wpAny_throw (tk _ _ ⟨a, B, t, ps, σ, H, c, d, rfl, h.inv, h.grd, h.up.trans u, .inr (.inr (by rw [hs]; exact hh)), h.gone, h.os, h.bare, w⟩)
  unfold PySem.passOn
  refine wpAny_bind (wpAny_field z1 z3 z4 ?_)
  have nn : ¬ ((Value.ref T == Value.none) = true) := by simp
  rw [if_neg nn]
  first
    | exact wpAny_bind last
    | exact wpAny_bind (wpAny_pure (wpAny_bind last))
end
/-- a clause: the class, the slot of its name, its suite -/
abbrev Cl := Value × Option Nat × (Addr → Value → Option Addr → TS)
def offD (D : Ends) : Option Nat → Ends
  | none => D
  | some i => { nx := fun τ G => D.nx (τ.set i none) G, rt := D.rt, bk := fun τ G => D.bk (τ.set i none) G, ct := fun τ G => D.ct (τ.set i none) G }
def onS (σ : L2.St) (a : Addr) : Option Nat → L2.St
  | none => σ
  | some i => σ.set i (some (.ref a))
/-- what the clauses wish, one after the other -/
def wCl (K : PySem.W.Frag) (Wo : WX) (D : Ends) : List Cl → WX
  | [] => Wo
  | (k, o, u) :: r => fun c d σ H => ∃ b, PySem.W.exmOne K c k = some b ∧ (b = true → ∀ a, H a = none → u a c d (offD D o) (onS σ a o) H) ∧ (b = false → wCl K Wo D r c d σ H)
/-- the name of a clause and its slot -/
def NmOk (X : Cx) : Option Str → Option Nat → Prop
  | none, none => True
  | some n, some i => X.N[i]? = some n ∧ X.env.kindOf n = some .local
  | _, _ => False
def SuOk (X : Cx) (b : List Stmt) (u : Addr → Value → Option Addr → TS) : Prop := ∀ (a : Addr) (oe : Obj) (c : Value) (d : Option Addr) (pn : List (Addr × Obj)), Zc c d oe → (∃ v, oe.data = .fields v) → PSs (X.suite a ((a, oe) :: pn)) b (u a c d)
inductive ClsOk (X : Cx) : List ExceptHandler → List Cl → Prop
  | nil : ClsOk X [] []
  | cons {x : Str} {k : Value} {u : Addr → Value → Option Addr → TS} {b0 : Stmt} {b : List Stmt} {p1 p2 : Pos} {nm : Option Str} {o : Option Nat} {hds : List ExceptHandler} {l : List Cl} : Names X x k → NmOk X nm o → SuOk X (b0 :: b) u → ClsOk X hds l →
      ClsOk X (.ExceptHandler (some (.Name x p1)) nm (b0 :: b) p2 :: hds) ((k, o, u) :: l)
section
variable {X : Cx} {ps : List (Addr × Obj)} {c : Value} {d : Option Addr} {a : Addr} {B : Heap} {t : Shared} {D : Ends} {Wo : WX}
theorem suite_end {q : Addr × Obj} {σ : L2.St} {H : Hp} {s : Shared} {f : Flow} {D1 : Ends} (ok : X.Ok) (h : SP (X.suite a (q :: (X.pn ++ ps))) [] D1 f s) : SP X ps D1 f s := by
  cases f with
  | ret u =>
    obtain ⟨v, τ, G, J, r, z⟩ := h
    exact ⟨v, τ, G, J.unsuite ok, r, z⟩
  | next => obtain ⟨τ, G, J, z⟩ := h; exact ⟨τ, G, J.unsuite ok, z⟩
  | brk => obtain ⟨τ, G, J, z⟩ := h; exact ⟨τ, G, J.unsuite ok, z⟩
  | cont => obtain ⟨τ, G, J, z⟩ := h; exact ⟨τ, G, J.unsuite ok, z⟩
/-- and its name goes -/
theorem name_end {n : Str} {i : Nat} {pos : Pos} {s : Shared} {f : Flow} (hN : X.N.Nodup) (hi : X.N[i]? = some n) (hl : X.env.kindOf n = some .local) (h : SP X ps (offD D (some i)) f s) :
    wpAny (model X.prog X.w) X.A (do bindName X.env n .none; unbindBehindTheSuite X.env n pos) (fun _ s1 => SP X ps D f s1) X.xe s := by
  cases f with
  | ret u =>
    obtain ⟨v, τ, G, J, r, z⟩ := h
    exact gone_ok J hN hi hl fun s1 J1 => ⟨v, _, G, J1, r, z⟩
  | next => obtain ⟨τ, G, J, z⟩ := h; exact gone_ok J hN hi hl fun s1 J1 => ⟨_, G, J1, z⟩
  | brk => obtain ⟨τ, G, J, z⟩ := h; exact gone_ok J hN hi hl fun s1 J1 => ⟨_, G, J1, z⟩
  | cont => obtain ⟨τ, G, J, z⟩ := h; exact gone_ok J hN hi hl fun s1 J1 => ⟨_, G, J1, z⟩
theorem clauses_run (hs : X.stack = X.env :: X.outer) (hf : X.env.frame = some X.env.locals) (hN : X.N.Nodup) (tk : Takes X Wo) {σ : L2.St} {H : Hp} {s : Shared} (h : Held X ps σ H c d a B t s) :
    ∀ {hds : List ExceptHandler} {l : List Cl}, ClsOk X hds l → wCl X.K Wo D l c d σ H → wpAny (model X.prog X.w) X.A (handleBy (.ref a) X.env hds) (SP X ps D) X.xe s
  | _, _, .nil, w => wpAny_handleBy_nil (h.goes hs hf tk w)
  | _, _, .cons (x := x) (k := k) (u := u) (p1 := p1) (nm := nm) (o := o) hc hn hu hr, ⟨b, m, yes, no⟩ => by
    have ok := h.inv.ok
    obtain ⟨oe, g1, g2, g3, S⟩ := h.enter hf
    have ty : PySem.W.Looks (model X.prog X.w) s.heap (typeOf (.ref a)) c := fun _ _ _ _ kk q => wpAny_typeOf_ref (kk _ _ g1) (by rw [g2.1]; exact q)
    refine wpAny_handleBy_cons (codeAny_handlers_test ?_) (fun z => nomatch z)
    have fetch : ∀ {Q E : Value → Shared → Prop}, Q k s → wpAny (model X.prog X.w) (X.A.mark (some (.ref a))) (eval (.Name x p1) X.env) Q E s := fun {Q E} q => by
      rcases hc with ⟨y1, y2, y3 | ⟨y3, y4, y5⟩⟩
      · exact ld_glob S y1 y3 q y2
      · exact ld_blt S y1 y3 y4 q y5 y2
    refine fetch ((PySem.W.exm_one (M := model X.prog X.w) h.now.kIn ty m).here ?_)
    cases b with
    | false => exact clauses_run hs hf hN tk h hr (no rfl)
    | true =>
      have y := yes rfl a h.gone
      cases nm with
      | none =>
        cases o with
        | some i => exact hn.elim
        | none =>
          refine codeAny_handlers_suite (h.flat fun s1 h1 => ?_)
          obtain ⟨oe1, _, k2, k3, S1⟩ := h1.enter hf
          exact wpAny_mono ((hu a oe1 c d _ k2 k3).run [] s1 σ H D S1 y) (fun f s2 q => suite_end (σ := σ) (H := H) ok q) fun _ _ z => z.elim
      | some n =>
        cases o with
        | none => exact hn.elim
        | some i =>
          obtain ⟨hi, hl⟩ := hn
          refine codeAny_handlers_suite_as (h.flat fun s1 h1 => ?_)
          obtain ⟨oe1, _, k2, k3, S1⟩ := h1.enter hf
          refine store_ok (X := X.suite a ((a, oe1) :: (X.pn ++ ps))) (v := .ref a) S1 hN hi (Or.inl hl) rfl (fun s2 S2 => ?_) (.inr hl)
          exact wpAny_mono ((hu a oe1 c d _ k2 k3).run [] s2 _ H _ S2 y) (fun f s3 q => name_end hN hi hl (suite_end (σ := σ) (H := H) ok q)) fun _ _ z => z.elim
/-- THE RULE -/
theorem ps_try_cl {body : List Stmt} {h0 : ExceptHandler} {hds : List ExceptHandler} {l : List Cl} {pos : Pos} {tb : WX → TS} (hs : X.stack = X.env :: X.outer) (hf : X.env.frame = some X.env.locals) (hN : X.N.Nodup) (tk : Takes X Wo)
    (hb : ∀ (W : WX) (pn : List (Addr × Obj)) (xe : Value → Shared → Prop), Takes (X.tr pn xe) W → PassesOwn (model X.prog X.w) X.A X.env xe → PSs (X.tr pn xe) body (tb W)) (hc : ClsOk X (h0 :: hds) l) :
    PS X (.Try body (h0 :: hds) [] [] pos) (fun D σ H => tb (wCl X.K Wo D l) D σ H) := by
  refine ⟨fun ps s σ H D I h => wpAny_Try_except ?_⟩
  have ok := I.ok
  have fr : X.A.frames = some (X.env :: X.outer) := ok.frames.trans (by rw [hs])
  refine wpAny_mono ((hb (wCl X.K Wo D l) (X.pn ++ ps) _ (fun v s1 q => ?_) PassesOwn.looking).run [] s σ H D (I.toTry _) h) (fun f s1 q => ?_) fun _ _ q => q
  · obtain ⟨a, B, t, ps1, σ1, H1, c, d, rfl, J, grd, up, sky, gone, os, bare, w⟩ := q
    rw [show (X.tr (X.pn ++ ps) _).stack = X.env :: X.outer from hs] at sky
    exact Sky.land Zc.steady fr hf sky fun g f u => clauses_run (s := { s1 with heap := g }) hs hf hN tk ⟨J.ofTry ok, grd, up.trans u, f, gone, os, bare⟩ hc w
  · cases f with
    | ret u => obtain ⟨v, τ, G, J, r, z⟩ := q; exact ⟨v, τ, G, J.ofTry ok, r, z⟩
    | next => obtain ⟨τ, G, J, z⟩ := q; exact wpAny_execs_nil ⟨τ, G, J.ofTry ok, z⟩
    | brk => obtain ⟨τ, G, J, z⟩ := q; exact ⟨τ, G, J.ofTry ok, z⟩
    | cont => obtain ⟨τ, G, J, z⟩ := q; exact ⟨τ, G, J.ofTry ok, z⟩
end
end Sh
namespace Sh
open PySem L2 PyProof.Rows
/-! ### an own error's __init__: self.f = p, .. -/
def sets (K : PySem.W.Frag) : List (Str × Nat) → TS
  | [] => tNext
  | (f, i) :: r => tSeq (tOst K f (tVar 0) (tVar i)) (sets K r)
def takeV (σ : L2.St) : List (Str × Nat) → Option (List (Str × V))
  | [] => some []
  | (f, i) :: r => match σ[i]? with
    | some (some v) => (takeV σ r).map fun l => (f, v) :: l
    | _ => none
theorem sets_old {K : PySem.W.Frag} {C a dx : Addr} (T : OexC K C) {D : Ends} {σ : L2.St} (h0 : σ[0]? = some (some (.ref a))) : ∀ {l : List (Str × Nat)} {zs : List (Str × V)} {H : Hp} {fs : List (Str × V)}, (∀ p ∈ l, PySem.W.findIn K (.ref C) p.1 = some none) → takeV σ l = some zs → fs.length + l.length ≤ 900 →
    H a = some (exo a C (some dx)) → H dx = some (exd dx fs) → dx ≠ a → (∀ G, G a = some (exo a C (some dx)) → G dx = some (exd dx (zs.reverse ++ fs)) → (∀ b, b ≠ dx → G b = H b) → D.nx σ G) → sets K l D σ H
  | [], zs, H, fs, _, hv, _, ha, hd, hn, k => by
    cases hv
    exact k H ha hd fun _ _ => rfl
  | (f, i) :: r, zs, H, fs, hno, hv, hl, ha, hd, hn, k => by
    unfold takeV at hv
    split at hv
    · rename_i v hi
      cases q : takeV σ r with
      | none => rw [q] at hv; cases hv
      | some ys =>
        rw [q] at hv
        have e : (f, v) :: ys = zs := Option.some.inj hv
        subst e
        refine ⟨v, hi, .ref a, h0, a, C, rfl, T, hno (f, i) List.mem_cons_self, .inr ⟨dx, fs, ha, hd, by simp at hl; omega, ?_⟩⟩
        refine sets_old T h0 (fs := (f, v) :: fs) (fun p hp => hno p (List.mem_cons_of_mem _ hp)) q (by simp at hl ⊢; omega) (by rw [upd_ne (Ne.symm hn)]; exact ha) upd_same hn fun G g1 g2 g3 => k G g1 ?_ fun b hb => (g3 b hb).trans (upd_ne hb)
        rw [g2]
        simp
    · cases hv
theorem sets_new {K : PySem.W.Frag} {C a : Addr} (T : OexC K C) {D : Ends} {σ : L2.St} (h0 : σ[0]? = some (some (.ref a))) {f : Str} {i : Nat} {r : List (Str × Nat)} {zs : List (Str × V)} {H : Hp} (hno : ∀ p ∈ (f, i) :: r, PySem.W.findIn K (.ref C) p.1 = some none) (hv : takeV σ ((f, i) :: r) = some zs) (hl : r.length ≤ 890) (ha : H a = some (exo a C none))
    (k : ∀ dx G, H dx = none → dx ≠ a → G a = some (exo a C (some dx)) → G dx = some (exd dx zs.reverse) → (∀ b, b ≠ dx → b ≠ a → G b = H b) → D.nx σ G) : sets K ((f, i) :: r) D σ H := by
  unfold takeV at hv
  split at hv
  · rename_i v hi
    cases q : takeV σ r with
    | none => rw [q] at hv; cases hv
    | some ys =>
      rw [q] at hv
      have e : (f, v) :: ys = zs := Option.some.inj hv
      subst e
      refine ⟨v, hi, .ref a, h0, a, C, rfl, T, hno (f, i) List.mem_cons_self, .inl ⟨ha, fun dx hdx hne => ?_⟩⟩
      refine sets_old T h0 (fs := [(f, v)]) (dx := dx) (fun p hp => hno p (List.mem_cons_of_mem _ hp)) q (by simp; omega) upd_same (by rw [upd_ne hne]; exact upd_same) hne fun G g1 g2 g3 => k dx G hdx hne g1 ?_ fun b b1 b2 => ?_
      · rw [g2]
        simp
      · rw [g3 b b1, upd_ne b2, upd_ne b1]
  · cases hv
/-- what __init__ of the class at C promises -/
def spInit (C : Addr) (n : Nat) (fs : List Str) : Sp := fun vs H Q _ => vs.length = n ∧ ∃ a ws, vs = .ref a :: ws ∧ ws.length = fs.length ∧ H a = some (exo a C none) ∧
  ∀ dx G, H dx = none → dx ≠ a → G a = some (exo a C (some dx)) → G dx = some (exd dx (fs.zip ws).reverse) → (∀ b, b ≠ dx → b ≠ a → G b = H b) → Q .non G
structure FunI (K : PySem.W.Frag) (x qual : Str) (st : Stmt) (f : Addr) (fd : FuncData) : Prop where
  ex : ∃ (c0 k0 d0 p0 cd c1 : Value) (a0 a1 : Option Addr) (sl : Array (Option Value)), PySem.W.codeIn K cd qual = true ∧
    K.lookup f = some ⟨c0, a0, .func fd, sl⟩ ∧ fd = PySem.W.fnOf x qual (defArgs st) (defBody st) (defScope st) .none k0 d0 p0 a1 cd c1
theorem funI_mk {K : PySem.W.Frag} {x qual : Str} {st : Stmt} {f : Addr} {c0 k0 d0 p0 cd c1 : Value} {a0 a1 : Option Addr} {sl : Array (Option Value)} (hc : PySem.W.codeIn K cd qual = true)
    (lk : K.lookup f = some ⟨c0, a0, .func (PySem.W.fnOf x qual (defArgs st) (defBody st) (defScope st) .none k0 d0 p0 a1 cd c1), sl⟩) : FunI K x qual st f (PySem.W.fnOf x qual (defArgs st) (defBody st) (defScope st) .none k0 d0 p0 a1 cd c1) := ⟨⟨c0, k0, d0, p0, cd, c1, a0, a1, sl, hc, lk, rfl⟩⟩
theorem FunI.binds {K : PySem.W.Frag} {x qual : Str} {st : Stmt} {f : Addr} {fd : FuncData} {ps : List Str} (F : FunI K x qual st f fd)
    (hz : ∀ (k0 d0 p0 : Value) (a1 : Option Addr) (cd c1 : Value) (vs : List Value), vs.length = ps.length → bindArgs (PySem.W.fnOf x qual (defArgs st) (defBody st) (defScope st) .none k0 d0 p0 a1 cd c1) ⟨vs, []⟩ = pure (ps.zip vs)) : Binds K fd ps [] := by
  obtain ⟨c0, k0, d0, p0, cd, c1, a0, a1, sl, hc, lk, rfl⟩ := F.ex
  exact .all (hz k0 d0 p0 a1 cd c1)
/-- the fields' slots -/
def fSlots (fs : List Str) : List (Str × Nat) := fs.zip (List.range' 1 fs.length)
theorem takeV_go {σ : L2.St} : ∀ {fs : List Str} {ws : List V} {k : Nat}, ws.length = fs.length → (∀ i v, ws[i]? = some v → σ[k + i]? = some (some v)) → takeV σ (fs.zip (List.range' k fs.length)) = some (fs.zip ws)
  | [], [], _, _, _ => rfl
  | f :: fs, w :: ws, k, hl, h => by
    have e : takeV σ (fs.zip (List.range' (k + 1) fs.length)) = some (fs.zip ws) := takeV_go (by simpa using hl) fun i v q => by
      have := h (i + 1) v (by simpa using q)
      rw [← Nat.add_assoc, Nat.add_right_comm] at this
      exact this
    show takeV σ ((f, k) :: fs.zip (List.range' (k + 1) fs.length)) = _
    unfold takeV
    rw [show σ[k]? = some (some w) from h 0 w rfl, e]
    rfl
theorem init_ok {P : Program} {w : World} {K : PySem.W.Frag} {mg : Str → Option Value} {base : Heap} {x qual : Str} {st : Stmt} {f C : Addr} {fd : FuncData} {N ps fs : List Str} {f0 : Str} {n : Nat} (F : FunI K x qual st f fd) (S : FnScope N ps (defScope st)) (hn : ps.length = n) (T : OexC K C) (hno : ∀ f ∈ f0 :: fs, PySem.W.findIn K (.ref C) f = some none) (hl : fs.length ≤ 890)
    (hbody : ∀ (cdv : Value) (A : Around) (outer : List PySem.Env) (s : Shared) (H : Hp) (E : XK), PSs (cxOf (L2.CX P w) P w K mg base N qual (defScope st) f cdv A outer s H E) (defBody st) (sets K (fSlots (f0 :: fs)))) : FnOk P w K mg base (L2.CX P w) 1 f fd ps (spInit C n (f0 :: fs)) := by
  obtain ⟨c0, k0, d0, p0, cd, c1, a0, a1, sl, hcd, lk, rfl⟩ := F.ex
  refine fn_of lk hcd S (fun vs H Q E h => h.1.trans hn.symm) fun A outer s H vs Q E hr hsp => ⟨_, hbody _ _ _ _ _ _, ?_⟩
  obtain ⟨_, a, ws, rfl, hw, ha, k⟩ := hsp
  have hs : ∀ i v, (V.ref a :: ws)[i]? = some v → (L2.start N (V.ref a :: ws))[i]? = some (some v) := fun i v e => by
    unfold L2.start
    have hi := (List.getElem?_eq_some_iff.mp e).1
    rw [List.getElem?_append_left (by rw [List.length_map]; exact hi), List.getElem?_map, e]
    rfl
  have hv := takeV_go (σ := L2.start N (V.ref a :: ws)) (fs := f0 :: fs) (ws := ws) (k := 1) hw fun i v e => by
    rw [Nat.add_comm]
    exact hs (i + 1) v (by simpa using e)
  refine sets_new T (hs 0 _ rfl) (fun p hp => hno p.1 ?_) hv (by simp; omega) ha fun dx G h1 h2 h3 h4 h5 => k dx G h1 h2 h3 h4 h5
  have hp' : (p.1, p.2) ∈ (f0 :: fs).zip (List.range' 1 (f0 :: fs).length) := hp
  exact (List.of_mem_zip hp').1

/-- the first statement of a class -/
def initOf (s : Stmt) : Stmt := match s with
  | .ClassDef (body := b :: _) .. => b
  | _ => .Pass ⟨0, 0, 0, 0⟩

/-! ### raise -/
def sRaise (x : Str) (fs : List Str) (ma : MA) : MS := fun env cs => (ma env cs).toS env fun xs cs1 => match allD xs with
  | some ds => if ds.length = fs.length then .ex ⟨x, (fs.zip ds).reverse⟩ env cs1 else .no
  | none => .no
section
variable {X : Cx} {g : G} {W : WX}
theorem zip_rep {K : PySem.W.Frag} {H : Hp} : ∀ {fs : List Str} {vs : List V} {ds : List PyData}, DqAll K H vs ds → Paired (fun (p : Str × V) (q : Str × PyData) => p.1 = q.1 ∧ Dq K H p.2 q.2) (fs.zip vs) (fs.zip ds)
  | [], _, _, _ => .nil
  | _ :: _, _, _, .nil => .nil
  | f :: fs, _, _, .cons h1 h2 => .cons ⟨rfl, h1⟩ (zip_rep h2)
theorem paired_snoc {α β : Type} {R : α → β → Prop} : ∀ {l : List α} {m : List β} {a : α} {b : β}, Paired R l m → R a b → Paired R (l ++ [a]) (m ++ [b])
  | _, _, _, _, .nil, h => .cons h .nil
  | _, _, _, _, .cons h1 h2, h => .cons h1 (paired_snoc h2 h)
theorem paired_rev {α β : Type} {R : α → β → Prop} : ∀ {l : List α} {m : List β}, Paired R l m → Paired R l.reverse m.reverse
  | _, _, .nil => .nil
  | _, _, .cons h1 h2 => by
    rw [List.reverse_cons, List.reverse_cons]
    exact paired_snoc (paired_rev h2) h1
theorem ss_raise {x : Str} {C fI : Addr} {k n : Nat} {fd : FuncData} {ps fs : List Str} {e : Expr} {es : List Expr} {p pos pos2 : Pos} {ma : MA} (hc : X.calm = true) (tk : Takes X W) (hK : X.K = g.K) (T : OexC g.K C) (hcm : g.cm x = .ref C) (iC : PySem.W.findIn g.K (.ref C) "__init__" = some (some (.ref fI))) (tI : PySem.W.typeIn g.K (.ref fI) = some (.type "function"))
    (F1 : FnOk X.prog X.w g.K X.mg X.base (L2.CX X.prog X.w) k fI fd ps (spInit C n fs)) (hn : n = fs.length + 1) (hr : Room (k + 1) X.A) (hb : Binds g.K fd ps []) (hg : Gl X x) (hm : X.mg x = some (.ref C)) (ha : PA X (e :: es) (denA g W ma)) (hl : fs.length ≤ 900 := by decide)
    (hdb : (x == ("__debug__" : Str)) = false := by decide) (he : starEach (e :: es) X.env = (false, eval e X.env) :: starEach es X.env := by rfl) (hpl : (backTo pos (starEach es X.env)).any (·.1) = false := by rfl) :
    PS X (.Raise (some (.Call (.Name x p) (e :: es) [] pos)) none pos2) (denS g W (sRaise x fs ma)) := by
  subst hn
  refine ps_imp (ps_raise hc tk (pmk_oex (ds := []) (dvs := []) (sp := spInit C (fs.length + 1) fs) (by rw [hK]; exact T) (by rw [hK]; exact iC) (by rw [hK]; exact tI) (by rw [hK]; exact F1) hr (by rw [hK]; exact hb) .nil (passes_call tk fun _ _ _ _ z => z.elim) hg hm ha hdb he hpl)) fun D σ H ⟨env, cs, as, s, h⟩ => ?_
  refine ⟨env, cs, as, s, (post_toS s h).mono fun xs cs1 as1 H1 hs1 e1 h1 vs rv => ?_⟩
  cases q : allD xs with
  | none => rw [q] at h1; exact h1.elim
  | some ds =>
    rw [q] at h1
    simp only at h1
    split at h1
    · rename_i hd
      have ex := allD_eq q
      subst ex
      have rd := rv.dp
      have lv : vs.length = fs.length := by rw [DqAll.length rd, hd]
      refine ⟨by omega, fun a na => ⟨by simp [lv], a, vs, by simp, lv, upd_same, fun dx G h2 hne ga gd go => ⟨rfl, dx, _, ga, gd, ?_, ?_⟩⟩⟩
      · rw [upd_ne hne] at h2
        exact h2
      · have hd0 : H1 dx = none := by rw [upd_ne hne] at h2; exact h2
        have eG : upd (del G a) dx (.xd (fs.zip vs).reverse) = upd H1 dx (.xd (fs.zip vs).reverse) := by
          funext b
          by_cases b1 : b = dx
          · rw [b1, upd_same, upd_same]
          · rw [upd_ne b1, upd_ne b1]
            by_cases b2 : b = a
            · rw [b2, del_same, na]
            · rw [del_ne b2, go b b1 b2, upd_ne b2]
        rw [eG, ← hcm]
        have en := exn_new (o := .xd (fs.zip vs).reverse) hs1 hd0
        refine h1 (some dx) σ as1 _ ((s.exn hs1 e1).exn (hs1.new hd0) en) en (.inr ⟨dx, _, rfl, upd_same, hs1.not_live hd0 , paired_rev (zip_rep (DqAll.le en.dat rd))⟩)
    · exact h1.elim
end

/-! ### try -/
/-- a clause: which classes it takes, its name's slot, its suite -/
abbrev MCl := (Str → Option Bool) × Option Nat × MS
def noX : Option A → Option A
  | some (.x _) => none
  | o => o
def wipeX (env : Env) : Env := env.map noX
def offE (o : Option Nat) (env : Env) : Env := match o with
  | none => env
  | some i => env.set i none
def inE (o : Option Nat) (e : Ex) (env : Env) : Env := match o with
  | none => wipeX env
  | some i => (wipeX env).set i (some (.x e))
def endCl (o : Option Nat) : RS → RS
  | .nx env cs => .nx (wipeX (offE o env)) cs
  | .bk env cs => .bk (wipeX (offE o env)) cs
  | .ct env cs => .ct (wipeX (offE o env)) cs
  | .rt (.x _) _ => .no
  | .rt a cs => .rt a cs
  | .ex _ _ _ => .no
  | .no => .no
def runCl : List MCl → Ex → Env → CS → RS
  | [], e, env, cs => .ex e env cs
  | (t, o, m) :: r, e, env, cs => match t e.cls with
    | none => .no
    | some false => runCl r e env cs
    | some true => endCl o (m (inE o e env) cs)
def sTry (m : MS) (l : List MCl) : MS := fun env cs => match m env cs with
  | .ex e env1 cs1 => runCl l e env1 cs1
  | r => r
abbrev inG (g : G) (a : Addr) (c : Value) (d : Option Addr) : G := { g with cur := some (a, c, d) }
section
variable {X : Cx} {g : G} {W : WX} {cs : CS} {as : AS} {H : Hp} {q : Option (Addr × Value × Option Addr)}
theorem cellOk_cur {a : Addr} {c : Cell} (h : CellOk g cs as H a c) : CellOk { g with cur := q } cs as H a c := by
  cases c <;> exact h
theorem cellOk_back {a : Addr} {c : Cell} (h : CellOk { g with cur := q } cs as H a c) : CellOk g cs as H a c := by
  cases c <;> exact h
theorem Hs.cur (s : Hs g cs as H) : Hs { g with cur := q } cs as H := ⟨s.len, s.inj, fun i c a e1 e2 => cellOk_cur (s.cells i c a e1 e2), s.apart, s.there⟩
theorem Hs.uncur (s : Hs { g with cur := q } cs as H) : Hs g cs as H := ⟨s.len, s.inj, fun i c a e1 e2 => cellOk_back (s.cells i c a e1 e2), s.apart, s.there⟩
theorem noX_some {o : Option A} {x : A} (h : noX o = some x) : o = some x ∧ ∀ e, x ≠ .x e := by
  unfold noX at h
  split at h
  · cases h
  · rename_i n
    exact ⟨h, fun e z => n e (h.trans (by rw [z]))⟩
theorem repA_cur {g1 g2 : G} (hK : g1.K = g2.K) {v : V} {x : A} (hx : ∀ e, x ≠ .x e) (r : RepA g1 cs as H v x) : RepA g2 cs as H v x := by
  cases x with
  | d x => show Dq g2.K _ _ _; rw [← hK]; exact r
  | c n => exact r
  | s ns => obtain ⟨a, e, z⟩ := r; exact ⟨a, e, by rw [← hK]; exact z⟩
  | x e => exact absurd rfl (hx e)
theorem wipeX_get {env : Env} {i : Nat} {x : A} (h : (wipeX env)[i]? = some (some x)) : env[i]? = some (some x) ∧ ∀ e, x ≠ .x e := by
  unfold wipeX at h
  rw [List.getElem?_map] at h
  cases z : env[i]? with
  | none => rw [z] at h; cases h
  | some o =>
    rw [z] at h
    obtain ⟨h1, h2⟩ := noX_some (Option.some.inj h)
    exact ⟨by rw [h1], h2⟩
theorem Sat.toCur {env : Env} {σ : L2.St} (s : Sat g cs as H env σ) : Sat { g with cur := q } cs as H (wipeX env) σ :=
  ⟨s.hs.cur, by unfold wipeX; rw [List.length_map]; exact s.len, fun i x e => by
    obtain ⟨e1, e2⟩ := wipeX_get e
    obtain ⟨v, h1, h2⟩ := s.slots i x e1
    exact ⟨v, h1, repA_cur (by rfl) e2 h2⟩⟩
theorem Sat.unCur {env : Env} {σ : L2.St} (s : Sat { g with cur := q } cs as H env σ) : Sat g cs as H (wipeX env) σ :=
  ⟨s.hs.uncur, by unfold wipeX; rw [List.length_map]; exact s.len, fun i x e => by
    obtain ⟨e1, e2⟩ := wipeX_get e
    obtain ⟨v, h1, h2⟩ := s.slots i x e1
    exact ⟨v, h1, repA_cur (by rfl) e2 h2⟩⟩
theorem Sat.none {env : Env} {σ : L2.St} {i : Nat} (s : Sat g cs as H env σ) : Sat g cs as H (env.set i none) (σ.set i none) := by
  refine ⟨s.hs, by rw [List.length_set, List.length_set]; exact s.len, fun j x e => ?_⟩
  rcases get_set e with ⟨rfl, e1, hl⟩ | ⟨ne, e1⟩
  · cases e1
  · obtain ⟨w, h1, h2⟩ := s.slots j x e1
    exact ⟨w, by rw [List.getElem?_set_ne (Ne.symm ne)]; exact h1, h2⟩
/-- what a clause's suite says -/
abbrev suR (g : G) (m : MS) : Addr → Value → Option Addr → TS := fun a c d => denS (inG g a c d) WF m
inductive ClsM (X : Cx) (g : G) : List ExceptHandler → List Cl → List MCl → Prop
  | nil : ClsM X g [] [] []
  | cons {x : Str} {k : Value} {t : Str → Option Bool} {m : MS} {b0 : Stmt} {b : List Stmt} {p1 p2 : Pos} {nm : Option Str} {o : Option Nat} {hds : List ExceptHandler} {l : List Cl} {ml : List MCl} : Names X x k → NmOk X nm o → (∀ c b, t c = some b → PySem.W.exmOne g.K (g.cm c) k = some b) → SuOk X (b0 :: b) (suR g m) → ClsM X g hds l ml →
      ClsM X g (.ExceptHandler (some (.Name x p1)) nm (b0 :: b) p2 :: hds) ((k, o, suR g m) :: l) ((t, o, m) :: ml)
theorem ClsM.ok {hds : List ExceptHandler} {l : List Cl} {ml : List MCl} (h : ClsM X g hds l ml) : ClsOk X hds l := by
  induction h with
  | nil => exact .nil
  | cons h1 h2 _ h4 _ ih => exact .cons h1 h2 h4 ih
theorem post_clause {D : Ends} {o : Option Nat} {a : Addr} {c : Value} {d : Option Addr} {r : RS} (h : PostS g W cs as H D (endCl o r)) : PostS (inG g a c d) WF cs as H (offD D o) r := by
  cases r with
  | nx env1 cs1 => cases o with
    | none => exact fun σ' as' H' s' e' => h σ' as' H' s'.unCur e'
    | some i => exact fun σ' as' H' s' e' => h (σ'.set i none) as' H' (Sat.none s').unCur e'
  | bk env1 cs1 => cases o with
    | none => exact fun σ' as' H' s' e' => h σ' as' H' s'.unCur e'
    | some i => exact fun σ' as' H' s' e' => h (σ'.set i none) as' H' (Sat.none s').unCur e'
  | ct env1 cs1 => cases o with
    | none => exact fun σ' as' H' s' e' => h σ' as' H' s'.unCur e'
    | some i => exact fun σ' as' H' s' e' => h (σ'.set i none) as' H' (Sat.none s').unCur e'
  | rt x cs1 =>
    cases x with
    | x e => exact h.elim
    | d x => cases o <;> exact fun v as' H' s' e' rv => h v as' H' s'.uncur e' (repA_cur (by rfl) (fun e z => nomatch z) rv)
    | c n => cases o <;> exact fun v as' H' s' e' rv => h v as' H' s'.uncur e' (repA_cur (by rfl) (fun e z => nomatch z) rv)
    | s n => cases o <;> exact fun v as' H' s' e' rv => h v as' H' s'.uncur e' (repA_cur (by rfl) (fun e z => nomatch z) rv)
  | ex x env1 cs1 => exact h.elim
  | no => exact h.elim
theorem sat_in {env : Env} {σ : L2.St} {o : Option Nat} {e : Ex} {a : Addr} {d : Option Addr} (s : Sat g cs as H env σ) (rx : RepX g cs as H d e.fs) : Sat (inG g a (g.cm e.cls) d) cs as H (inE o e env) (onS σ a o) := by
  cases o with
  | none => exact s.toCur
  | some i => exact s.toCur.set ⟨a, d, rfl, rfl, rx⟩
theorem clauses_den (hK : X.K = g.K) {D : Ends} {hds : List ExceptHandler} {l : List Cl} {ml : List MCl} (k : ClsM X g hds l ml) {e : Ex} {env : Env} (h : PostS g W cs as H D (runCl ml e env cs)) {d : Option Addr} {σ : L2.St} (s : Sat g cs as H env σ) (rx : RepX g cs as H d e.fs) : wCl X.K W D l (g.cm e.cls) d σ H := by
  induction k with
  | nil => exact h d σ as H s Exn.refl rx
  | @cons x k t m b0 b p1 p2 nm o hds l ml h1 h2 h3 h4 h5 ih =>
    unfold runCl at h
    cases z : t e.cls with
    | none => rw [z] at h; exact h.elim
    | some y =>
      rw [z] at h
      cases y with
      | false => exact ⟨false, by rw [hK]; exact h3 _ _ z, (fun y => nomatch y), fun _ => ih h⟩
      | true => exact ⟨true, by rw [hK]; exact h3 _ _ z, fun _ a na => ⟨_, cs, as, sat_in s rx, post_clause h⟩, (fun y => nomatch y)⟩
theorem ss_try {body : List Stmt} {h0 : ExceptHandler} {hds : List ExceptHandler} {l : List Cl} {ml : List MCl} {pos : Pos} {mb : MS} (hs : X.stack = X.env :: X.outer) (hf : X.env.frame = some X.env.locals) (hN : X.N.Nodup) (tk : Takes X W) (hK : X.K = g.K)
    (hb : ∀ (W1 : WX) (pn : List (Addr × Obj)) (xe : Value → Shared → Prop), Takes (X.tr pn xe) W1 → PassesOwn (model X.prog X.w) X.A X.env xe → PSs (X.tr pn xe) body (denS g W1 mb)) (k : ClsM X g (h0 :: hds) l ml) :
    PS X (.Try body (h0 :: hds) [] [] pos) (denS g W (sTry mb ml)) :=
  ps_imp (ps_try_cl (tb := fun W1 => denS g W1 mb) hs hf hN tk hb k.ok) fun D σ H ⟨env, cs, as, s, h⟩ => by
    refine ⟨env, cs, as, s, ?_⟩
    unfold sTry at h
    cases z : mb env cs with
    | ex e env1 cs1 =>
      rw [z] at h
      exact fun d σ' as' H' s' e' rx => clauses_den hK k (PostS.shift h e') s' rx
    | nx env1 cs1 => rw [z] at h; exact h
    | rt a cs1 => rw [z] at h; exact h
    | bk env1 cs1 => rw [z] at h; exact h
    | ct env1 cs1 => rw [z] at h; exact h
    | no => rw [z] at h; exact h
/-- which classes a clause takes -/
def tCls (l : List (Str × Bool)) : Str → Option Bool := fun x => l.lookup x
theorem tc_nil {k : Value} : ∀ c b, tCls [] c = some b → PySem.W.exmOne g.K (g.cm c) k = some b := fun c b h => nomatch h
theorem tc_cons {k : Value} {x : Str} {y : Bool} {l : List (Str × Bool)} {v : Value} (hc : g.cm x = v) (h : PySem.W.exmOne g.K v k = some y) (r : ∀ c b, tCls l c = some b → PySem.W.exmOne g.K (g.cm c) k = some b) : ∀ c b, tCls ((x, y) :: l) c = some b → PySem.W.exmOne g.K (g.cm c) k = some b := fun c b e => by
  unfold tCls at e
  rw [List.lookup_cons] at e
  cases z : c == x with
  | true => rw [z] at e; cases e; rw [beq_iff_eq.mp z, hc]; exact h
  | false => rw [z] at e; exact r c b e
theorem xs_nil {P : Str → Prop} : ∀ nm, ([] : List Str).contains nm = true → P nm := fun nm h => nomatch h
theorem xs_cons {P : Str → Prop} {x : Str} {l : List Str} (h : P x) (r : ∀ nm, l.contains nm = true → P nm) : ∀ nm, (x :: l).contains nm = true → P nm := fun nm e => by
  rw [List.contains_cons, Bool.or_eq_true, beq_iff_eq] at e
  rcases e with e | e
  · rw [e]; exact h
  · exact r nm e
/-- e.f in a suite -/
def eXf (i : Nat) (f : Str) (nms : List Str) : ME := fun env cs => match env[i]? with
  | some (some (.x e)) => if nms.contains e.cls = true then (match e.fs.lookup f with
    | some x => .ok (.d x) cs
    | none => .no) else .no
  | _ => .no
theorem lookup_rep {K : PySem.W.Frag} {G : Hp} {f : Str} {x : PyData} : ∀ {vs : List (Str × V)} {fs : List (Str × PyData)}, Paired (fun (p : Str × V) (q : Str × PyData) => p.1 = q.1 ∧ Dq K G p.2 q.2) vs fs → fs.lookup f = some x → ∃ v, vs.lookup f = some v ∧ Dq K G v x
  | _, _, .nil, h => by cases h
  | (n, v) :: vs, (n', y) :: fs, .cons h1 h2, h => by
    obtain ⟨e, r⟩ := h1
    simp only at e
    subst e
    rw [List.lookup_cons] at h ⊢
    cases z : f == n with
    | true => rw [z] at h; cases h; exact ⟨v, rfl, r⟩
    | false => rw [z] at h; exact lookup_rep h2 h
theorem se_xf {e : Expr} {i : Nat} {f : Str} {nms : List Str} {a : Addr} {oe : Obj} {c : Value} {d : Option Addr} {pn : List (Addr × Obj)} {pos : Pos} (hK : X.K = g.K) (hz : Zc c d oe) (hf : ∃ v, oe.data = .fields v) (he : PE (X.suite a ((a, oe) :: pn)) e (tVar i))
    (hc : ∀ nm, nms.contains nm = true → ∃ C, g.cm nm = .ref C ∧ XfC g.K C ∧ PySem.W.findIn g.K (.ref C) f = some none) (hb : attributeBase e f X.env (eval e X.env) = eval e X.env := by rfl) : PE (X.suite a ((a, oe) :: pn)) (.Attribute e f pos) (den (inG g a c d) WF (eXf i f nms)) := by
  by_cases hq : ∃ C, c = .ref C ∧ XfC g.K C ∧ PySem.W.findIn g.K (.ref C) f = some none
  · obtain ⟨C, rfl, T, no⟩ := hq
    refine pe_imp (pe_xf (C := C) (by rw [hK]; exact T) (by rw [hK]; exact no) hz hf he hb) fun σ H Q ⟨env, cs, as, s, h⟩ => ?_
    unfold eXf at h
    split at h
    · rename_i x ei
      obtain ⟨v, e1, r⟩ := s.slots i _ ei
      split at h
      · split at h
        · rename_i x' lx
          obtain ⟨a1, d1, q1, rfl, rx⟩ := r
          have q2 := Option.some.inj q1
          simp only [Prod.mk.injEq] at q2
          obtain ⟨rfl, q3, rfl⟩ := q2
          rcases rx with ⟨fe, _⟩ | ⟨dd, vs, hd, hx, nl, pr⟩
          · rw [fe] at lx; cases lx
          · obtain ⟨w, l1, l2⟩ := lookup_rep pr lx
            exact ⟨_, e1, rfl, rfl, dd, vs, w, hd, hx, l1, PostA.here h s.hs l2⟩
        · exact h.elim
      · exact h.elim
    · exact h.elim
  · refine ⟨fun pins st σ H Q I ⟨env, cs, as, s, h⟩ => ?_⟩
    exfalso
    unfold eXf at h
    split at h
    · rename_i x ei
      obtain ⟨v, e1, r⟩ := s.slots i _ ei
      split at h
      · rename_i hm
        obtain ⟨a1, d1, q1, rfl, rx⟩ := r
        have q2 := Option.some.inj q1
        simp only [Prod.mk.injEq] at q2
        obtain ⟨C, k1, k2, k3⟩ := hc _ hm
        exact hq ⟨C, q2.2.1.trans k1, k2, k3⟩
      · exact h.elim
    · exact h.elim
end
end Sh
namespace Sh
open PySem L2
/-! ### enumerate, a list too -/
def iEnumX (m : ME) : MI := fun env cs => (m env cs).bind fun a cs1 => match a with
  | .d (.tuple xs) => .ok (.it (enumF 0 xs)) cs1
  | .d (.list xs) => .ok (.it (enumF 0 xs)) cs1
  | _ => .no
section
variable {X : Cx} {g : G} {W : WX} {e : Expr} {me : ME}
theorem walk_enum_lst {cs : CS} {as : AS} {H : Hp} {a : Addr} {vs : List V} {ds : List PyData} (h : dat cs as H a = some (.lst vs)) (r : DqAll g.K (dat cs as H) vs ds) : WalkIt g (IteL g.K a) cs as H (enumF 0 ds) := by
  have hl := enumF_length 0 ds
  refine ⟨fun i cs1 as1 H1 s1 e1 hi => ?_, fun cs1 as1 H1 s1 e1 => ?_, fun i cs1 as1 H1 x H2 s1 e1 hi hy => ?_⟩
  · rw [hl, ← DqAll.length r] at hi
    exact ⟨vs, vs[i], SqL.of (dat_le _ _ (e1 _ _ h)), by simp [hi]⟩
  · exact ⟨vs, SqL.of (dat_le _ _ (e1 _ _ h)), by rw [hl, DqAll.length r]⟩
  · obtain ⟨T, o', x', rfl, ho', hT, rfl, hy⟩ := hy
    have ex := hy vs (SqL.of (dat_le _ _ (e1 _ _ h)))
    rw [hl] at hi
    obtain ⟨v, e2, rv⟩ := DqAll.get r (List.getElem?_eq_getElem hi)
    rw [e2] at ex
    obtain rfl := Option.some.inj ex
    have en := exn_new (o := .frz o' (.tup [.int (i : Nat), v])) s1 hT
    refine ⟨s1.new hT, en, .d (.tuple [.int ((0 + i : Nat) : Int), ds[i]]), ?_, ?_⟩
    · rw [enumF_get, List.getElem?_eq_getElem hi] <;> rfl
    · rw [Nat.zero_add]
      exact .tup (SqN.of ho' (dat_new s1 hT)) (.cons (.int _) (.cons (Dq.le en.dat (Dq.le e1 rv)) .nil))
theorem si_enumX {elts : List Expr} {kk : Nat} {p pos tpos : Pos} (hK : X.K = g.K) (hg : Gl X "enumerate") (hm : X.mg "enumerate" = none) (he : PE X e (den g W me)) (hs : starEach [e] X.env = (false, eval e X.env) :: starEach [] X.env := by rfl) (hs1 : starEach [e] X.env = [(false, eval e X.env)] := by rfl) :
    PI X (.Tuple elts kk tpos) (.Call (.Name "enumerate" p) [e] [] pos) (denI g W (iEnumX me)) := by
  refine ⟨fun pins s σ H Rr I ⟨env, cs, as, sa, h⟩ => ?_⟩
  have ha : PA X [e] (tCons (den g W me) tNil) := pa_cons he pa_nil hs
  unfold iEnumX at h
  cases q : me env cs with
  | no => rw [q] at h; exact h.elim
  | ex x cs1 =>
    rw [q] at h
    refine (pi_enumT hg hm ha hs1).run pins s σ H Rr I ⟨env, cs, as, sa, ?_⟩
    rw [q]
    exact h
  | ok a cs1 =>
    rw [q] at h
    simp only [R.bind_ok] at h
    split at h
    · refine (pi_enumT hg hm ha hs1).run pins s σ H Rr I ⟨env, cs, as, sa, ?_⟩
      rw [q]
      refine fun as' H' hs' e' v r => ?_
      rename_i ds
      have r' : Dq g.K (dat cs1 as' H') v (.tuple ds) := r
      cases r' with
      | tup h1 h2 => exact ⟨_, _, rfl, by rw [hK]; exact Le.sqT dat_le h1.t, h as' H' hs' e' _ (by rw [hK]; exact walk_enum_tup h1.t h2)⟩
    · refine (pi_enumL hg hm ha hs1).run pins s σ H Rr I ⟨env, cs, as, sa, ?_⟩
      rw [q]
      refine fun as' H' hs' e' v r => ?_
      rename_i ds
      have r' : Dq g.K (dat cs1 as' H') v (.list ds) := r
      cases r' with
      | lst h1 h2 => exact ⟨_, _, rfl, by rw [hK]; exact SqL.of (dat_le _ _ h1), h as' H' hs' e' _ (by rw [hK]; exact walk_enum_lst h1 h2)⟩
    · exact h.elim
end
@[simp] theorem iEnumX_at {m : ME} {env : Env} {cs : CS} : iEnumX m env cs = (m env cs).bind fun a cs1 => match a with
  | .d (.tuple xs) => .ok (.it (enumF 0 xs)) cs1
  | .d (.list xs) => .ok (.it (enumF 0 xs)) cs1
  | _ => .no := rfl

/-! ### texts compared, a text within a text -/
def ltS (x y : Str) : Bool := decide (x.cps.toList < y.cps.toList)
def fLeX (p : Int → Int → Bool) (t : Str → Str → Bool) : A → A → CS → R A
  | .d (.int i), .d (.int j), cs => .ok (.d (.bool (p i j))) cs
  | .d (.str x), .d (.str y), cs => .ok (.d (.bool (t x y))) cs
  | _, _, _ => .no
def rLeX (p : Int → Int → Bool) (t : Str → Str → Bool) : R2 := fun x y H Q => (∃ i j, x = .int i ∧ y = .int j ∧ Q (.bl (p i j)) H) ∨ ∃ i j, x = .str i ∧ y = .str j ∧ Q (.bl (t i j)) H
theorem os_leX {g : G} {p : Int → Int → Bool} {t : Str → Str → Bool} : OpS g (rLeX p t) (fLeX p t) := by
  intro W σ cs as H x y a b Q s ra rb h
  unfold fLeX at h
  split at h
  · cases rep_int ra; cases rep_int rb
    exact .inl ⟨_, _, rfl, rfl, h.bl s⟩
  · cases rep_str ra; cases rep_str rb
    exact .inr ⟨_, _, rfl, rfl, h.bl s⟩
  · exact h.elim
def fLtS : A → A → CS → R A := fLeX (fun i j => decide (i < j)) ltS
def fLeS : A → A → CS → R A := fLeX (fun i j => decide (i ≤ j)) fun x y => !ltS y x
def fGtS : A → A → CS → R A := fLeX (fun i j => decide (j < i)) fun x y => ltS y x
def fGeS : A → A → CS → R A := fLeX (fun i j => decide (j ≤ i)) fun x y => !ltS x y
section
variable {X : Cx}
theorem op_ltS : OpR X (compareOp .Lt) (rLeX (fun i j => decide (i < j)) ltS) := by
  intro pins s σ H x y v u Q I rx ry h
  rcases h with h | ⟨i, j, rfl, rfl, q⟩
  · exact op_lt pins s σ H x y v u Q I rx ry h
  · obtain ⟨t, rfl⟩ := rx
    obtain ⟨t', rfl⟩ := ry
    exact PyProof.Rows.lt_str ⟨.bl _, H, I, rfl, q⟩
theorem op_leS : OpR X (compareOp .LtE) (rLeX (fun i j => decide (i ≤ j)) fun x y => !ltS y x) := by
  intro pins s σ H x y v u Q I rx ry h
  rcases h with h | ⟨i, j, rfl, rfl, q⟩
  · exact op_le pins s σ H x y v u Q I rx ry h
  · obtain ⟨t, rfl⟩ := rx
    obtain ⟨t', rfl⟩ := ry
    exact PySem.P.le_str ⟨.bl _, H, I, rfl, q⟩
theorem op_gtS : OpR X (compareOp .Gt) (rLeX (fun i j => decide (j < i)) fun x y => ltS y x) := by
  intro pins s σ H x y v u Q I rx ry h
  rcases h with h | ⟨i, j, rfl, rfl, q⟩
  · exact op_gt pins s σ H x y v u Q I rx ry h
  · obtain ⟨t, rfl⟩ := rx
    obtain ⟨t', rfl⟩ := ry
    exact PySem.P.gt_str ⟨.bl _, H, I, rfl, q⟩
theorem op_geS : OpR X (compareOp .GtE) (rLeX (fun i j => decide (j ≤ i)) fun x y => !ltS x y) := by
  intro pins s σ H x y v u Q I rx ry h
  rcases h with h | ⟨i, j, rfl, rfl, q⟩
  · exact op_ge pins s σ H x y v u Q I rx ry h
  · obtain ⟨t, rfl⟩ := rx
    obtain ⟨t', rfl⟩ := ry
    exact PySem.P.ge_str ⟨.bl _, H, I, rfl, q⟩
end
def inS (i j : Str) : Bool := !(Builtin.Str.occurrences j i 0 j.length 1).isEmpty
def fInS (neg : Bool) : A → A → CS → R A
  | .d (.str x), .d (.str y), cs => .ok (.d (.bool (if neg then !inS x y else inS x y))) cs
  | _, _, _ => .no
theorem os_inS {g : G} : OpS g (fun x y H Q => ∃ i j, x = .str i ∧ y = .str j ∧ Q (.bl (!(Builtin.Str.occurrences j i 0 j.length 1).isEmpty)) H) (fInS false) := by
  intro W σ cs as H x y a b Q s ra rb h
  unfold fInS at h
  split at h
  · cases rep_str ra; cases rep_str rb
    exact ⟨_, _, rfl, rfl, h.bl s⟩
  · exact h.elim
theorem os_notInS {g : G} : OpS g (fun x y H Q => ∃ i j, x = .str i ∧ y = .str j ∧ Q (.bl (!(!(Builtin.Str.occurrences j i 0 j.length 1).isEmpty))) H) (fInS true) := by
  intro W σ cs as H x y a b Q s ra rb h
  unfold fInS at h
  split at h
  · cases rep_str ra; cases rep_str rb
    exact ⟨_, _, rfl, rfl, h.bl s⟩
  · exact h.elim
end Sh
namespace K03
open PySem L2 Sh
/-! _law_urn: 0 script, 1 stir, 2 cells, 3 one -/
def m__law_urn : MS :=
  (sSeq (sAsg (eC (.int 30307)) (tgName 1))
  (sSeq (sAsg (eSlice (eLc [3] (iVal (eVar 0)) (tgName 3) tYesM (eBin fAdd (eBin fMod (eFn fInt (aCons (eVar 3) aNil)) (eC (.int 999553))) (eC (.int 2)))) oNone (oSome (eC (.int 60)))) (tgName 2))
  (sSeq (sFor 1000000000 [3] (iVal (eVar 2)) (tgName 3)
  (sAsg (eBin fMod (eBin fAdd (eBin fAdd (eBin fAdd (eBin fMulX (eVar 1) (eC (.int 3511))) (eBin fMulX (eVar 3) (eC (.int 7)))) (eBin fMulX (eVar 3) (eVar 3))) (eC (.int 37))) (eC (.int 2147483543))) (tgName 1)))
  (sRet (eLstC (aCons (eVar 1) (aCons (eC (.int 0)) (aCons (eBin fAdd (eVar 2) (eLst (aCons (eC (.int 103)) aNil))) (aCons (eBin fMod (eBin fDiv (eVar 1) (eC (.int 19))) (eC (.int 6))) (aCons (eBin fMod (eBin fDiv (eVar 1) (eC (.int 114))) (eC (.int 1009))) aNil))))))))))
def f__law_urn : Fn := runBody 4 m__law_urn
/-! _law_take: 0 urn, 1 place, 2 many, 3 cells, 4 habit -/
def m__law_take : MS :=
  (sSeq (sSetIx (eVar 0) (eC (.int 1)) (eBin fAdd (eBin fIx (eVar 0) (eC (.int 1))) (eC (.int 1))))
  (sSeq (sAsg (eBin fIx (eVar 0) (eC (.int 2))) (tgName 3))
  (sSeq (sSetIx (eVar 0) (eC (.int 0)) (eBin fMod (eBin fAdd (eBin fAdd (eBin fAdd (eBin fMulX (eBin fIx (eVar 0) (eC (.int 0))) (eC (.int 69621))) (eBin fMulX (eBin fIx (eVar 0) (eC (.int 1))) (eC (.int 8191)))) (eBin fMulX (eBin fIx (eVar 3) (eBin fMod (eBin fMulX (eBin fIx (eVar 0) (eC (.int 1))) (eC (.int 5))) (eFn fLen (aCons (eVar 3) aNil)))) (eC (.int 67)))) (eC (.int 19))) (eC (.int 2147483563))))
  (sSeq (sAsg (eBin fMod (eBin fAdd (eBin fIx (eVar 0) (eC (.int 4))) (eBin fMulX (eVar 1) (eC (.int 13)))) (eC (.int 14))) (tgName 4))
  (sSeq (sIf (tAndM (tOf (eBin fEq (eBin fIx (eVar 0) (eC (.int 3))) (eC (.int 2)))) (tOf (eBin fLt (eVar 4) (eC (.int 4)))))
  (sRet (eBin fIx (eTup (aCons (eC (.int 0)) (aCons (eBin fSub (eVar 2) (eC (.int 1))) (aCons (eBin fMod (eBin fIx (eVar 0) (eC (.int 4))) (eVar 2)) (aCons (eFn fMin2 (aCons (eC (.int 1)) (aCons (eBin fSub (eVar 2) (eC (.int 1))) aNil))) aNil))))) (eVar 4)))
  sNext)
  (sRet (eBin fMod (eBin fDiv (eBin fIx (eVar 0) (eC (.int 0))) (eC (.int 256))) (eVar 2))))))))
def f__law_take : Fn := runBody 5 m__law_take
/-! _law_gap: 0 urn -/
def m__law_gap : MS :=
  (sRet (eBin fIx (eTup (aCons (eC (.str " ")) (aCons (eC (.str "")) (aCons (eC (.str "\n")) (aCons (eC (.str "  ")) (aCons (eC (.str "#\n")) (aCons (eC (.str " # a-b's (Remark) \"x\" 07 &\n")) (aCons (eC (.str "\n\n \n")) (aCons (eC (.str "   ")) aNil))))))))) (eCall 3 (partF (f__law_take)) (aCons (eVar 0) (aCons (eC (.int 10)) (aCons (eC (.int 8)) aNil))))))
def f__law_gap : Fn := runBody 1 m__law_gap
/-! _law_piece: 0 urn, 1 wide, 2 form, 3 size, 4 row -/
def m__law_piece : MS :=
  (sSeq (sAsg (eCall 3 (partF (f__law_take)) (aCons (eVar 0) (aCons (eC (.int 1)) (aCons (eC (.int 5)) aNil)))) (tgName 2))
  (sSeq (sIf (tOf (eBin fEq (eVar 2) (eC (.int 0))))
  (sRet (eBin fIx (eC (.str "+-:;',{}")) (eCall 3 (partF (f__law_take)) (aCons (eVar 0) (aCons (eC (.int 2)) (aCons (eC (.int 8)) aNil))))))
  sNext)
  (sSeq (sIf (tOf (eBin fEq (eVar 2) (eC (.int 1))))
  (sRet (eBin fIx (eTup (aCons (eC (.str "world")) (aCons (eC (.str "counter")) (aCons (eC (.str "dial")) (aCons (eC (.str "deck")) (aCons (eC (.str "rope")) (aCons (eC (.str "proc")) (aCons (eC (.str "either")) (aCons (eC (.str "or")) (aCons (eC (.str "loop")) (aCons (eC (.str "repeat")) (aCons (eC (.str "call")) (aCons (eC (.str "back")) aNil))))))))))))) (eCall 3 (partF (f__law_take)) (aCons (eVar 0) (aCons (eC (.int 3)) (aCons (eC (.int 12)) aNil))))))
  sNext)
  (sSeq (sAsg (eBin fAdd (eC (.int 1)) (eCall 3 (partF (f__law_take)) (aCons (eVar 0) (aCons (eC (.int 4)) (aCons (eBin fIx (eTup (aCons (eC (.int 3)) (aCons (eC (.int 12)) aNil))) (eVar 1)) aNil))))) (tgName 3))
  (sSeq (sIf (tOf (eBin fLt (eVar 2) (eC (.int 4))))
  (sSeq (sAsg (eBin fIx (eC (.str "abcdefghijklmnopqrstuvwxyz")) (eCall 3 (partF (f__law_take)) (aCons (eVar 0) (aCons (eC (.int 5)) (aCons (eC (.int 26)) aNil))))) (tgName 4))
  (sSeq (sWhile 1000000000 [] (tOf (eBin fLt (eFn fLen (aCons (eVar 4) aNil)) (eVar 3)))
  (sAsg (eBin fAdd (eVar 4) (eBin fIx (eC (.str "abcxyz0123456789")) (eCall 3 (partF (f__law_take)) (aCons (eVar 0) (aCons (eC (.int 6)) (aCons (eC (.int 16)) aNil)))))) (tgName 4)))
  (sRet (eVar 4))))
  sNext)
  (sSeq (sAsg (eBin fIx (eC (.str "123456789")) (eCall 3 (partF (f__law_take)) (aCons (eVar 0) (aCons (eC (.int 7)) (aCons (eC (.int 9)) aNil))))) (tgName 4))
  (sSeq (sWhile 1000000000 [] (tOf (eBin fLt (eFn fLen (aCons (eVar 4) aNil)) (eVar 3)))
  (sAsg (eBin fAdd (eVar 4) (eBin fIx (eC (.str "0123456789")) (eCall 3 (partF (f__law_take)) (aCons (eVar 0) (aCons (eC (.int 8)) (aCons (eC (.int 10)) aNil)))))) (tgName 4)))
  (sRet (eBin fIx (eTup (aCons (eVar 4) (aCons (eC (.str "0")) aNil))) (eFn fInt (aCons (eBin fEq (eCall 3 (partF (f__law_take)) (aCons (eVar 0) (aCons (eC (.int 9)) (aCons (eC (.int 6)) aNil)))) (eC (.int 5))) aNil)))))))))))
def f__law_piece : Fn := runBody 5 m__law_piece
/-! _law_of_word: 0 sign -/
def m__law_of_word : MS :=
  (sRet (eOr (eChain fLeS fLeS (eC (.str "a")) (eVar 0) (eC (.str "z"))) (eChain fLeS fLeS (eC (.str "0")) (eVar 0) (eC (.str "9")))))
def f__law_of_word : Fn := runBody 1 m__law_of_word
/-! _law_text: 0 urn, 1 many, 2 wide, 3 text, 4 tokens, 5 opened, 6 k, 7 piece, 8 lines, 9 kind -/
def m__law_text : MS :=
  (sSeq (sAsg (eCall 1 (partF (f__law_gap)) (aCons (eVar 0) aNil)) (tgName 3))
  (sSeq (sAsg (eLstC aNil) (tgName 4))
  (sSeq (sAsg (eC (.int 0)) (tgName 5))
  (sSeq (sFor 1000000000 [7, 8, 9, 6] (iRange1 (aCons (eVar 1) aNil)) (tgName 6)
  (sSeq (sAsg (eCall 2 (partF (f__law_piece)) (aCons (eVar 0) (aCons (eVar 2) aNil))) (tgName 7))
  (sSeq (sAsg (eBin fAdd (eVar 5) (eFn fInt (aCons (eBin fEq (eVar 7) (eC (.str "{"))) aNil))) (tgName 5))
  (sSeq (sIf (tAndM (tOf (eBin fEq (eVar 7) (eC (.str "{")))) (tOf (eBin fGtS (eVar 5) (eC (.int 30)))))
  (sAsg (eC (.str "}")) (tgName 7))
  sNext)
  (sSeq (sIf (tAndM (tTr (eVar 3)) (tAndM (tTr (eCall 1 (plainF (f__law_of_word)) (aCons (eBin fIx (eVar 3) (eUn fNeg (eC (.int 1)))) aNil))) (tAndM (tTr (eCall 1 (plainF (f__law_of_word)) (aCons (eBin fIx (eVar 7) (eC (.int 0))) aNil))) (tNotM (tAndM (tOf (eBin fEq (eBin fIx (eBin fIx (eVar 4) (eUn fNeg (eC (.int 1)))) (eC (.int 0))) (eC (.str "number")))) (tOf (eBin fGtS (eBin fIx (eVar 7) (eC (.int 0))) (eC (.str "9")))))))))
  (sAsg (eBin fAdd (eVar 3) (eC (.str " "))) (tgName 3))
  sNext)
  (sSeq (sAsg (eMeth "str" mSplit (eVar 3) (aCons (eC (.str "\n")) aNil)) (tgName 8))
  (sSeq (sAsg (eC (.str "sign")) (tgName 9))
  (sSeq (sIf (tTr (eCall 1 (plainF (f__law_of_word)) (aCons (eBin fIx (eVar 7) (eC (.int 0))) aNil)))
  (sAsg (eBin fIx (eTup (aCons (eC (.str "word")) (aCons (eC (.str "number")) aNil))) (eFn fInt (aCons (eBin fLeS (eBin fIx (eVar 7) (eC (.int 0))) (eC (.str "9"))) aNil))) (tgName 9))
  sNext)
  (sSeq (sDrop (eMeth "list" mAppend (eVar 4) (aCons (eTup (aCons (eVar 9) (aCons (eVar 7) (aCons (eFn fLen (aCons (eVar 8) aNil)) (aCons (eBin fAdd (eFn fLen (aCons (eBin fIx (eVar 8) (eUn fNeg (eC (.int 1)))) aNil)) (eC (.int 1))) aNil))))) aNil)))
  (sAsg (eBin fAdd (eBin fAdd (eVar 3) (eVar 7)) (eCall 1 (partF (f__law_gap)) (aCons (eVar 0) aNil))) (tgName 3)))))))))))
  (sRet (eTup (aCons (eVar 3) (aCons (eFn fTupleX (aCons (eVar 4) aNil)) aNil))))))))
def f__law_text : Fn := runBody 10 m__law_text
/-! _law_equal: 0 told, 1 due, 2 left, 3 one, 4 other, 5 k -/
def m__law_equal : MS :=
  (sSeq (sAsg (eLstC (aCons (eTup (aCons (eVar 0) (aCons (eVar 1) aNil))) aNil)) (tgName 2))
  (sSeq (sWhile 1000000000 [3, 4] (tTr (eVar 2))
  (sSeq (sAsg (eMeth "list" mPop (eVar 2) aNil) (tgTup 2 (tgCons (tgName 3) (tgCons (tgName 4) tgNil))))
  (sIf (tOf (eBin (fIsN false) (eVar 4) (eC .none)))
  (sIf (tOf (eBin (fIsN true) (eVar 3) (eC .none)))
  (sRet (eC (.bool false)))
  sNext)
  (sIf (tTr (eIsi "bool" (eVar 4)))
  (sIf (tOrM (tNotM (tTr (eIsi "bool" (eVar 3)))) (tOf (eBin fNe (eVar 3) (eVar 4))))
  (sRet (eC (.bool false)))
  sNext)
  (sIf (tTr (eIsi "int" (eVar 4)))
  (sIf (tOrM (tTr (eIsi "bool" (eVar 3))) (tOrM (tNotM (tTr (eIsi "int" (eVar 3)))) (tOf (eBin fNe (eVar 3) (eVar 4)))))
  (sRet (eC (.bool false)))
  sNext)
  (sIf (tTr (eIsi "str" (eVar 4)))
  (sIf (tOrM (tNotM (tTr (eIsi "str" (eVar 3)))) (tOf (eBin fNe (eVar 3) (eVar 4))))
  (sRet (eC (.bool false)))
  sNext)
  (sIf (tOrM (tOf (eBin fNe (eIsi "tuple" (eVar 3)) (eIsi "tuple" (eVar 4)))) (tOrM (tOf (eBin fNe (eIsi "list" (eVar 3)) (eIsi "list" (eVar 4)))) (tOf (eBin fNe (eFn fLen (aCons (eVar 3) aNil)) (eFn fLen (aCons (eVar 4) aNil))))))
  (sRet (eC (.bool false)))
  (sDrop (eMeth "list" mExtend (eVar 2) (aCons (eLc [5] (iRange1 (aCons (eFn fLen (aCons (eVar 4) aNil)) aNil)) (tgName 5) tYesM (eTup (aCons (eBin fIx (eVar 3) (eVar 5)) (aCons (eBin fIx (eVar 4) (eVar 5)) aNil)))) aNil))))))))))
  (sRet (eC (.bool true)))))
def f__law_equal : Fn := runBody 6 m__law_equal
/-! _law_spoilt: 0 urn, 1 text, 2 at, 3 size, 4 odd -/
def m__law_spoilt : MS :=
  (sSeq (sAsg (eCall 3 (partF (f__law_take)) (aCons (eVar 0) (aCons (eC (.int 20)) (aCons (eBin fAdd (eFn fLen (aCons (eVar 1) aNil)) (eC (.int 1))) aNil)))) (tgName 2))
  (sSeq (sAsg (eBin fAdd (eC (.int 11)) (eCall 3 (partF (f__law_take)) (aCons (eVar 0) (aCons (eC (.int 21)) (aCons (eC (.int 4)) aNil))))) (tgName 3))
  (sSeq (sAsg (eBin fIx (eTup (aCons (eC (.str "A")) (aCons (eC (.str "!")) (aCons (eC (.str "=")) (aCons (eC (.str "\t")) (aCons (eC (.str "_")) (aCons (eC (.str ".")) (aCons (eC (.str "(")) (aCons (eC (.str "07")) (aCons (eC (.str "00")) (aCons (eC (.str "0")) (aCons (eBin fMulX (eC (.str "1")) (eVar 3)) (aCons (eBin fMulX (eC (.str "0")) (eVar 3)) (aCons (eBin fMulX (eC (.str "b")) (eVar 3)) (aCons (eBin fMulX (eC (.str "a9")) (eBin fAdd (eBin fDiv (eVar 3) (eC (.int 2))) (eC (.int 1)))) (aCons (eC (.str "Z")) (aCons (eC (.str "~")) (aCons (eC (.str "^")) (aCons (eC (.str "\"")) (aCons (eC (.str "@")) (aCons (eC (.str "007 #")) aNil))))))))))))))))))))) (eCall 3 (partF (f__law_take)) (aCons (eVar 0) (aCons (eC (.int 22)) (aCons (eC (.int 20)) aNil))))) (tgName 4))
  (sRet (eBin fAdd (eBin fAdd (eSlice (eVar 1) oNone (oSome (eVar 2))) (eVar 4)) (eSlice (eVar 1) (oSome (eVar 2)) oNone))))))
def f__law_spoilt : Fn := runBody 5 m__law_spoilt
/-! end_of: 0 line, 1 place, 2 signs -/
def m_end_of : MS :=
  (sSeq (sWhile 1000000000 [] (tAndM (tOf (eBin fLt (eVar 1) (eFn fLen (aCons (eVar 0) aNil)))) (tOf (eBin (fInS false) (eBin fIx (eVar 0) (eVar 1)) (eVar 2))))
  (sAug 1 fAddI (eC (.int 1))))
  (sRet (eVar 1)))
def f_end_of : Fn := runBody 3 m_end_of
/-! token_at: 0 number, 1 line, 2 place, 3 kind, 4 end -/
def m_token_at : MS :=
  (sSeq (sIf (tOf (eBin (fInS false) (eBin fIx (eVar 1) (eVar 2)) (eC (.str "abcdefghijklmnopqrstuvwxyz"))))
  (sSeq (sAsg (eC (.str "word")) (tgName 3))
  (sAsg (eCall 3 (plainF (f_end_of)) (aCons (eVar 1) (aCons (eVar 2) (aCons (eBin fAdd (eC (.str "abcdefghijklmnopqrstuvwxyz")) (eC (.str "0123456789"))) aNil)))) (tgName 4)))
  (sIf (tOf (eBin (fInS false) (eBin fIx (eVar 1) (eVar 2)) (eC (.str "0123456789"))))
  (sSeq (sAsg (eC (.str "number")) (tgName 3))
  (sAsg (eCall 3 (plainF (f_end_of)) (aCons (eVar 1) (aCons (eVar 2) (aCons (eC (.str "0123456789")) aNil)))) (tgName 4)))
  (sIf (tOf (eBin (fInS false) (eBin fIx (eVar 1) (eVar 2)) (eC (.str "+-:;',{}"))))
  (sSeq (sAsg (eC (.str "sign")) (tgName 3))
  (sAsg (eBin fAdd (eVar 2) (eC (.int 1))) (tgName 4)))
  (sRaise "BadSource" ["line", "place", "word"] (aCons (eVar 0) (aCons (eBin fAdd (eVar 2) (eC (.int 1))) (aCons (eC (.str "sign")) aNil)))))))
  (sSeq (sIf (tOf (eBin fGt (eBin fSub (eVar 4) (eVar 2)) (eC (.int 12))))
  (sRaise "BadSource" ["line", "place", "word"] (aCons (eVar 0) (aCons (eBin fAdd (eVar 2) (eC (.int 1))) (aCons (eC (.str "long")) aNil))))
  sNext)
  (sSeq (sIf (tAndM (tOf (eBin fEq (eVar 3) (eC (.str "number")))) (tAndM (tOf (eBin fGt (eBin fSub (eVar 4) (eVar 2)) (eC (.int 1)))) (tOf (eBin fEq (eBin fIx (eVar 1) (eVar 2)) (eC (.str "0"))))))
  (sRaise "BadSource" ["line", "place", "word"] (aCons (eVar 0) (aCons (eBin fAdd (eVar 2) (eC (.int 1))) (aCons (eC (.str "number")) aNil))))
  sNext)
  (sRet (eTup (aCons (eVar 3) (aCons (eSlice (eVar 1) (oSome (eVar 2)) (oSome (eVar 4))) (aCons (eVar 0) (aCons (eBin fAdd (eVar 2) (eC (.int 1))) aNil)))))))))
def f_token_at : Fn := runBody 5 m_token_at
/-! line_tokens: 0 number, 1 line, 2 found, 3 place, 4 token -/
def m_line_tokens : MS :=
  (sSeq (sAsg (eLstC aNil) (tgName 2))
  (sSeq (sAsg (eCall 3 (plainF (f_end_of)) (aCons (eVar 1) (aCons (eC (.int 0)) (aCons (eC (.str " ")) aNil)))) (tgName 3))
  (sSeq (sWhile 1000000000 [4] (tAndM (tOf (eBin fLt (eVar 3) (eFn fLen (aCons (eVar 1) aNil)))) (tOf (eBin fNe (eBin fIx (eVar 1) (eVar 3)) (eC (.str "#")))))
  (sSeq (sAsg (eCall 3 (plainF (f_token_at)) (aCons (eVar 0) (aCons (eVar 1) (aCons (eVar 3) aNil)))) (tgName 4))
  (sSeq (sDrop (eMeth "list" mAppend (eVar 2) (aCons (eVar 4) aNil)))
  (sAsg (eCall 3 (plainF (f_end_of)) (aCons (eVar 1) (aCons (eBin fAdd (eVar 3) (eFn fLen (aCons (eBin fIx (eVar 4) (eC (.int 1))) aNil))) (aCons (eC (.str " ")) aNil)))) (tgName 3)))))
  (sRet (eFrz (eVar 2))))))
def f_line_tokens : Fn := runBody 5 m_line_tokens
/-! tokens_of: 0 text, 1 found, 2 at, 3 line -/
def m_tokens_of : MS :=
  (sSeq (sAsg (eLst aNil) (tgName 1))
  (sSeq (sFor 1000000000 [2, 3] (iEnumX (eMeth "str" mSplit (eVar 0) (aCons (eC (.str "\n")) aNil))) (tgTup 2 (tgCons (tgName 2) (tgCons (tgName 3) tgNil)))
  (sAsg (eBin fAdd (eVar 1) (eCall 2 (plainF (f_line_tokens)) (aCons (eBin fAdd (eVar 2) (eC (.int 1))) (aCons (eVar 3) aNil)))) (tgName 1)))
  (sRet (eFn fTupleX (aCons (eVar 1) aNil)))))
def f_tokens_of : Fn := runBody 4 m_tokens_of
/-! _law_heard: 0 text, 1 error -/
def m__law_heard : MS :=
  (sTry (sRet (eTup (aCons (eC (.str "told")) (aCons (eCall 1 (plainF (f_tokens_of)) (aCons (eVar 0) aNil)) aNil))))
  [(tCls [("BadSource", true)], some 1, (sRet (eTup (aCons (eC (.str "refused")) (aCons (eXf 1 "line" ["BadSource"]) (aCons (eXf 1 "place" ["BadSource"]) (aCons (eXf 1 "word" ["BadSource"]) aNil))))))), (tCls [("BadSource", true)], none, (sRet (eTup (aCons (eC (.str "other")) (aCons (eC (.int 0)) (aCons (eC (.int 0)) (aCons (eC (.str "")) aNil)))))))])
def f__law_heard : Fn := runBody 2 m__law_heard
/-! _law_lexed: 0 text, 1 tokens, 2 lines, 3 number, 4 line, 5 at, 6 sign, 7 end, 8 kind -/
def m__law_lexed : MS :=
  (sSeq (sAsg (eLstC aNil) (tgName 1))
  (sSeq (sAsg (eMeth "str" mSplit (eVar 0) (aCons (eC (.str "\n")) aNil)) (tgName 2))
  (sSeq (sFor 1000000000 [4, 5, 6, 7, 8, 3] (iRange1 (aCons (eFn fLen (aCons (eVar 2) aNil)) aNil)) (tgName 3)
  (sSeq (sAsg (eBin fIx (eVar 2) (eVar 3)) (tgName 4))
  (sSeq (sAsg (eC (.int 0)) (tgName 5))
  (sWhile 1000000000 [6, 7, 8] (tAndM (tOf (eBin fLtS (eVar 5) (eFn fLen (aCons (eVar 4) aNil)))) (tOf (eBin fNe (eBin fIx (eVar 4) (eVar 5)) (eC (.str "#")))))
  (sSeq (sAsg (eBin fIx (eVar 4) (eVar 5)) (tgName 6))
  (sSeq (sAsg (eBin fAdd (eVar 5) (eC (.int 1))) (tgName 7))
  (sSeq (sIf (tOf (eBin fEq (eVar 6) (eC (.str " "))))
  (sSeq (sAsg (eVar 7) (tgName 5))
  sCont)
  sNext)
  (sSeq (sIf (tOf (eBin (fInS false) (eVar 6) (eC (.str "+-:;',{}"))))
  (sDrop (eMeth "list" mAppend (eVar 1) (aCons (eTup (aCons (eC (.str "sign")) (aCons (eVar 6) (aCons (eBin fAdd (eVar 3) (eC (.int 1))) (aCons (eBin fAdd (eVar 5) (eC (.int 1))) aNil))))) aNil)))
  (sIf (tNotM (tTr (eCall 1 (plainF (f__law_of_word)) (aCons (eVar 6) aNil))))
  (sRet (eTup (aCons (eC (.str "refused")) (aCons (eBin fAdd (eVar 3) (eC (.int 1))) (aCons (eBin fAdd (eVar 5) (eC (.int 1))) (aCons (eC (.str "sign")) aNil))))))
  (sSeq (sAsg (eBin fIx (eTup (aCons (eC (.str "word")) (aCons (eC (.str "number")) aNil))) (eFn fInt (aCons (eBin fLeS (eVar 6) (eC (.str "9"))) aNil))) (tgName 8))
  (sSeq (sWhile 1000000000 [] (tAndM (tOf (eBin fLtS (eVar 7) (eFn fLen (aCons (eVar 4) aNil)))) (tAndM (tTr (eCall 1 (plainF (f__law_of_word)) (aCons (eBin fIx (eVar 4) (eVar 7)) aNil))) (tOrM (tOf (eBin fEq (eVar 8) (eC (.str "word")))) (tOf (eBin fLeS (eBin fIx (eVar 4) (eVar 7)) (eC (.str "9")))))))
  (sAsg (eBin fAdd (eVar 7) (eC (.int 1))) (tgName 7)))
  (sSeq (sIf (tOf (eBin fGtS (eBin fSub (eVar 7) (eVar 5)) (eC (.int 12))))
  (sRet (eTup (aCons (eC (.str "refused")) (aCons (eBin fAdd (eVar 3) (eC (.int 1))) (aCons (eBin fAdd (eVar 5) (eC (.int 1))) (aCons (eC (.str "long")) aNil))))))
  sNext)
  (sSeq (sIf (tAndM (tOf (eBin fEq (eVar 8) (eC (.str "number")))) (tAndM (tOf (eBin fEq (eVar 6) (eC (.str "0")))) (tOf (eBin fGtS (eBin fSub (eVar 7) (eVar 5)) (eC (.int 1))))))
  (sRet (eTup (aCons (eC (.str "refused")) (aCons (eBin fAdd (eVar 3) (eC (.int 1))) (aCons (eBin fAdd (eVar 5) (eC (.int 1))) (aCons (eC (.str "number")) aNil))))))
  sNext)
  (sDrop (eMeth "list" mAppend (eVar 1) (aCons (eTup (aCons (eVar 8) (aCons (eSlice (eVar 4) (oSome (eVar 5)) (oSome (eVar 7))) (aCons (eBin fAdd (eVar 3) (eC (.int 1))) (aCons (eBin fAdd (eVar 5) (eC (.int 1))) aNil))))) aNil)))))))))
  (sAsg (eVar 7) (tgName 5))))))))))
  (sRet (eTup (aCons (eC (.str "told")) (aCons (eFn fTupleX (aCons (eVar 1) aNil)) aNil)))))))
def f__law_lexed : Fn := runBody 9 m__law_lexed
/-! law: 0 script, 1 urn, 2 many, 3 text, 4 tokens, 5 lap, 6 bent, 7 hand, 8 due -/
def m_law : MS :=
  (sSeq (sAsg (eCall 1 (f__law_urn) (aCons (eVar 0) aNil)) (tgName 1))
  (sSeq (sAsg (eBin fAdd (eC (.int 2)) (eCall 3 (partF (f__law_take)) (aCons (eVar 1) (aCons (eC (.int 30)) (aCons (eC (.int 14)) aNil))))) (tgName 2))
  (sSeq (sIf (tOf (eBin fEq (eCall 3 (partF (f__law_take)) (aCons (eVar 1) (aCons (eC (.int 31)) (aCons (eC (.int 11)) aNil)))) (eC (.int 6))))
  (sAsg (eC (.int 400)) (tgName 2))
  sNext)
  (sSeq (sAsg (eCall 3 (partF (f__law_text)) (aCons (eVar 1) (aCons (eVar 2) (aCons (eCall 3 (partF (f__law_take)) (aCons (eVar 1) (aCons (eC (.int 32)) (aCons (eC (.int 2)) aNil)))) aNil)))) (tgTup 2 (tgCons (tgName 3) (tgCons (tgName 4) tgNil))))
  (sSeq (sIf (tNotM (tTr (eCall 2 (plainF (f__law_equal)) (aCons (eCall 1 (plainF (f__law_heard)) (aCons (eVar 3) aNil)) (aCons (eTup (aCons (eC (.str "told")) (aCons (eVar 4) aNil))) aNil)))))
  (sRet (eC (.bool false)))
  sNext)
  (sSeq (sFor 1000000000 [6, 5] (iRange1 (aCons (eC (.int 8)) aNil)) (tgName 5)
  (sSeq (sAsg (eCall 2 (partF (f__law_spoilt)) (aCons (eVar 1) (aCons (eVar 3) aNil))) (tgName 6))
  (sSeq (sIf (tOf (eBin fGt (eVar 5) (eC (.int 4))))
  (sAsg (eCall 2 (partF (f__law_spoilt)) (aCons (eVar 1) (aCons (eVar 6) aNil))) (tgName 6))
  sNext)
  (sIf (tNotM (tTr (eCall 2 (plainF (f__law_equal)) (aCons (eCall 1 (plainF (f__law_heard)) (aCons (eVar 6) aNil)) (aCons (eCall 1 (plainF (f__law_lexed)) (aCons (eVar 6) aNil)) aNil)))))
  (sRet (eC (.bool false)))
  sNext))))
  (sSeq (sAsg (eLst (aCons (eTup (aCons (eC (.str "abcdefghijkl")) (aCons (eTup (aCons (eC (.str "told")) (aCons (eTup (aCons (eTup (aCons (eC (.str "word")) (aCons (eC (.str "abcdefghijkl")) (aCons (eC (.int 1)) (aCons (eC (.int 1)) aNil))))) aNil)) aNil))) aNil))) (aCons (eTup (aCons (eC (.str "abcdefghijklm")) (aCons (eTup (aCons (eC (.str "refused")) (aCons (eC (.int 1)) (aCons (eC (.int 1)) (aCons (eC (.str "long")) aNil))))) aNil))) (aCons (eTup (aCons (eC (.str " 0123456789012")) (aCons (eTup (aCons (eC (.str "refused")) (aCons (eC (.int 1)) (aCons (eC (.int 2)) (aCons (eC (.str "long")) aNil))))) aNil))) (aCons (eTup (aCons (eC (.str "012345678901")) (aCons (eTup (aCons (eC (.str "refused")) (aCons (eC (.int 1)) (aCons (eC (.int 1)) (aCons (eC (.str "number")) aNil))))) aNil))) aNil))))) (tgName 7))
  (sSeq (sAsg (eBin fAdd (eVar 7) (eLst (aCons (eTup (aCons (eC (.str "12ab")) (aCons (eTup (aCons (eC (.str "told")) (aCons (eTup (aCons (eTup (aCons (eC (.str "number")) (aCons (eC (.str "12")) (aCons (eC (.int 1)) (aCons (eC (.int 1)) aNil))))) (aCons (eTup (aCons (eC (.str "word")) (aCons (eC (.str "ab")) (aCons (eC (.int 1)) (aCons (eC (.int 3)) aNil))))) aNil))) aNil))) aNil))) (aCons (eTup (aCons (eC (.str "0a")) (aCons (eTup (aCons (eC (.str "told")) (aCons (eTup (aCons (eTup (aCons (eC (.str "number")) (aCons (eC (.str "0")) (aCons (eC (.int 1)) (aCons (eC (.int 1)) aNil))))) (aCons (eTup (aCons (eC (.str "word")) (aCons (eC (.str "a")) (aCons (eC (.int 1)) (aCons (eC (.int 2)) aNil))))) aNil))) aNil))) aNil))) (aCons (eTup (aCons (eC (.str "a#b\n\n'c")) (aCons (eTup (aCons (eC (.str "told")) (aCons (eTup (aCons (eTup (aCons (eC (.str "word")) (aCons (eC (.str "a")) (aCons (eC (.int 1)) (aCons (eC (.int 1)) aNil))))) (aCons (eTup (aCons (eC (.str "sign")) (aCons (eC (.str "'")) (aCons (eC (.int 3)) (aCons (eC (.int 1)) aNil))))) (aCons (eTup (aCons (eC (.str "word")) (aCons (eC (.str "c")) (aCons (eC (.int 3)) (aCons (eC (.int 2)) aNil))))) aNil)))) aNil))) aNil))) aNil))))) (tgName 7))
  (sSeq (sAsg (eBin fAdd (eVar 7) (eLst (aCons (eTup (aCons (eC (.str "")) (aCons (eTup (aCons (eC (.str "told")) (aCons (eTup aNil) aNil))) aNil))) (aCons (eTup (aCons (eC (.str "#A\n")) (aCons (eTup (aCons (eC (.str "told")) (aCons (eTup aNil) aNil))) aNil))) (aCons (eTup (aCons (eC (.str "a\tb")) (aCons (eTup (aCons (eC (.str "refused")) (aCons (eC (.int 1)) (aCons (eC (.int 2)) (aCons (eC (.str "sign")) aNil))))) aNil))) (aCons (eTup (aCons (eC (.str "a1b2\n  -B")) (aCons (eTup (aCons (eC (.str "refused")) (aCons (eC (.int 2)) (aCons (eC (.int 4)) (aCons (eC (.str "sign")) aNil))))) aNil))) (aCons (eTup (aCons (eC (.str "x 00 Z")) (aCons (eTup (aCons (eC (.str "refused")) (aCons (eC (.int 1)) (aCons (eC (.int 3)) (aCons (eC (.str "number")) aNil))))) aNil))) (aCons (eTup (aCons (eC (.str "1000000000000")) (aCons (eTup (aCons (eC (.str "refused")) (aCons (eC (.int 1)) (aCons (eC (.int 1)) (aCons (eC (.str "long")) aNil))))) aNil))) (aCons (eTup (aCons (eC (.str "100000000000z")) (aCons (eTup (aCons (eC (.str "told")) (aCons (eTup (aCons (eTup (aCons (eC (.str "number")) (aCons (eC (.str "100000000000")) (aCons (eC (.int 1)) (aCons (eC (.int 1)) aNil))))) (aCons (eTup (aCons (eC (.str "word")) (aCons (eC (.str "z")) (aCons (eC (.int 1)) (aCons (eC (.int 13)) aNil))))) aNil))) aNil))) aNil))) aNil))))))))) (tgName 7))
  (sSeq (sFor 1000000000 [6, 8] (iVal (eVar 7)) (tgTup 2 (tgCons (tgName 6) (tgCons (tgName 8) tgNil)))
  (sIf (tNotM (tTr (eCall 2 (plainF (f__law_equal)) (aCons (eCall 1 (plainF (f__law_heard)) (aCons (eVar 6) aNil)) (aCons (eVar 8) aNil)))))
  (sRet (eC (.bool false)))
  sNext))
  (sRet (eC (.bool true)))))))))))))
def f_law : Fn := runBody 9 m_law
end K03
namespace Sh
open PySem L2
theorem ixN_nat {n k : Nat} (h : k < n) : ixN n (k : Int) = some k := by
  unfold ixN
  rw [if_pos (by omega)]
  simp
  omega
theorem atI_last {α : Type} (xs : List α) (x : α) : atI (xs ++ [x]) (-1) = some x := by
  unfold atI
  have e : ixN (xs ++ [x]).length (-1) = some xs.length := by
    unfold ixN
    rw [if_neg (by decide), if_pos (by simp; omega), List.length_append, List.length_singleton]
    congr 1
    omega
  rw [e]
  simp
theorem seqIx_nat {n k : Nat} (h : k < n) : seqIndex? (k : Int) n = some k := by
  first | (rw [PySem.seqIndex_of (by omega) (by omega)]; simp) | (unfold seqIndex?; simp; omega)
theorem mPop_last {cs : CS} {n : Nat} {xs : List PyData} {x : PyData} (hc : cs[n]? = some (.lst (xs ++ [x]))) : mPop (.c n) [] cs = .ok (.d x) (cs.set n (.lst xs)) := by
  have h : (xs ++ [x])[(xs ++ [x]).length - 1]? = some x := by simp
  simp only [mPop, onC, hc, h, List.dropLast_concat]
theorem mPop_at {cs : CS} {n k : Nat} {xs : List PyData} {x : PyData} (hc : cs[n]? = some (.lst xs)) (hk : xs[k]? = some x) (hl : k ≤ 1000000) : mPop (.c n) [.d (.int (k : Int))] cs = .ok (.d x) (cs.set n (.lst (xs.eraseIdx k))) := by
  have h : k < xs.length := (List.getElem?_eq_some_iff.mp hk).1
  simp only [mPop, onC, hc, inR_of (i := (k : Int)) (by omega) (by omega), if_true, seqIx_nat h, hk]
theorem setIx_at {mo mi mv : ME} {env : Env} {cs cs1 : CS} {n k : Nat} {xs : List PyData} {y : PyData} (hv : mv env cs = .ok (.d y) cs1) (ho : mo env cs1 = .ok (.c n) cs1) (hi : mi env cs1 = .ok (.d (.int (k : Int))) cs1) (hc : cs1[n]? = some (.lst xs)) (hk : k < xs.length) :
    sSetIx mo mi mv env cs = .nx env (cs1.set n (.lst (xs.set k y))) := by
  simp [sSetIx, hv, ho, hi, hc, ixN_nat hk]
theorem fIx_last {cs : CS} {n : Nat} {xs : List PyData} {x : PyData} (hc : cs[n]? = some (.lst (xs ++ [x]))) : fIx (.c n) (.d (.int (-1))) cs = .ok (.d x) cs := fIx_c hc (atI_last xs x)
end Sh
namespace Sh
open PySem L2
/-! ### loops that may be left -/
theorem forIt_leave {tg : Tgt} {body : MS} {fg : List Nat} {x : A} {xs : List A} {env env1 : Env} {cs cs1 : CS} (h : turn tg body x env cs = .bk env1 cs1) : forIt tg body fg (x :: xs) env cs = .nx (wipeE fg env1) cs1 := by
  have e : forIt tg body fg (x :: xs) env cs = (match tg x env cs with
    | none => .no
    | some env1 => loopK (body env1 cs) fg (forIt tg body fg xs)) := rfl
  rw [e]
  unfold turn at h
  cases q : tg x env cs with
  | none => rw [q] at h; cases h
  | some env2 => rw [q] at h; simp only at h ⊢; rw [h]; rfl
theorem forIt_ret {tg : Tgt} {body : MS} {fg : List Nat} {x : A} {xs : List A} {env : Env} {cs cs1 : CS} {a : A} (h : turn tg body x env cs = .rt a cs1) : forIt tg body fg (x :: xs) env cs = .rt a cs1 := by
  have e : forIt tg body fg (x :: xs) env cs = (match tg x env cs with
    | none => .no
    | some env1 => loopK (body env1 cs) fg (forIt tg body fg xs)) := rfl
  rw [e]
  unfold turn at h
  cases q : tg x env cs with
  | none => rw [q] at h; cases h
  | some env2 => rw [q] at h; simp only at h ⊢; rw [h]; rfl
theorem forRangeB {σ : Type} {tg : Tgt} {body : MS} {fg : List Nat} (E : σ → Env) (C : σ → CS) (I : Nat → σ → Prop) (Dn : σ → Prop) (N : Nat)
    (st : ∀ k s, k < N → I k s → (∃ s2, I (k + 1) s2 ∧ Goes (turn tg body (.d (.int (k : Int))) (E s) (C s)) fg (E s2) (C s2)) ∨
      ∃ s2 env, Dn s2 ∧ turn tg body (.d (.int (k : Int))) (E s) (C s) = .bk env (C s2) ∧ wipeE fg env = E s2) (s : σ) (h : I 0 s) :
    ∃ s', forIt tg body fg ((List.range N).map fun (i : Nat) => A.d (.int (i : Int))) (E s) (C s) = .nx (E s') (C s') ∧ (I N s' ∨ Dn s') := by
  have key : ∀ (n k : Nat) (s : σ), k + n = N → I k s → ∃ s', forIt tg body fg ((List.range' k n).map fun (i : Nat) => A.d (.int (i : Int))) (E s) (C s) = .nx (E s') (C s') ∧ (I N s' ∨ Dn s') := by
    intro n
    induction n with
    | zero =>
      intro k s e h
      have e' : k = N := by omega
      subst e'
      exact ⟨s, rfl, .inl h⟩
    | succ n ih =>
      intro k s e h
      rw [List.range'_succ, List.map_cons]
      rcases st k s (by omega) h with ⟨s2, h2, h3⟩ | ⟨s2, env, h2, h3, h4⟩
      · obtain ⟨s', k1, k2⟩ := ih (k + 1) s2 (by omega) h2
        exact ⟨s', by rw [forIt_step h3, k1], k2⟩
      · exact ⟨s2, by rw [forIt_leave h3, h4], .inr h2⟩
  rw [List.range_eq_range']
  exact key N 0 s (by omega) h
theorem forFind {α : Type} {tg : Tgt} {body : MS} {fg : List Nat} (enc : α → A) (p : α → Bool) (r : α → A) (E : Env) (C : CS) : ∀ (ys : List α),
    (∀ y ∈ ys, p y = false → Goes (turn tg body (enc y) E C) fg E C) → (∀ y ∈ ys, p y = true → turn tg body (enc y) E C = .rt (r y) C) →
    forIt tg body fg (ys.map enc) E C = (match ys.find? p with
      | none => .nx E C
      | some y => .rt (r y) C)
  | [], _, _ => rfl
  | y :: ys, h1, h2 => by
    rw [List.map_cons, List.find?_cons]
    cases hp : p y with
    | true => simp only; exact forIt_ret (h2 y List.mem_cons_self hp)
    | false =>
      simp only
      rw [forIt_step (h1 y List.mem_cons_self hp)]
      exact forFind enc p r E C ys (fun z hz => h1 z (List.mem_cons_of_mem _ hz)) (fun z hz => h2 z (List.mem_cons_of_mem _ hz))
end Sh
namespace K03
open Sh PySem L2
/-! ### drawing -/
abbrev ut (a n : Nat) (cl : List Nat) (c d : Nat) : Cell := .lst [.int (a : Int), .int (n : Int), .list (nsD cl), .int (c : Int), .int (d : Int)]
theorem take_eq (a n : Nat) (cl : List Nat) (c d : Nat) (hcl : cl ≠ []) {many : Nat} (hm : 0 < many) (place : Nat) :
    ∃ v a' : Nat, v < many ∧ f__law_take [.c 0, .d (.int (place : Int)), .d (.int (many : Int))] [ut a n cl c d] = .ok (.d (.int (v : Int))) [ut a' (n + 1) cl c d] := by
  have x0 : ∀ a n : Nat, fIx (.c 0) (.d (.int 0)) [ut a n cl c d] = .ok (.d (.int (a : Int))) [ut a n cl c d] := fun a n => fIx_cn (n := 0) rfl rfl
  have x1 : ∀ a n : Nat, fIx (.c 0) (.d (.int 1)) [ut a n cl c d] = .ok (.d (.int (n : Int))) [ut a n cl c d] := fun a n => fIx_cn (n := 1) rfl rfl
  have x2 : ∀ a n : Nat, fIx (.c 0) (.d (.int 2)) [ut a n cl c d] = .ok (.d (.list (nsD cl))) [ut a n cl c d] := fun a n => fIx_cn (n := 2) rfl rfl
  have x3 : ∀ a n : Nat, fIx (.c 0) (.d (.int 3)) [ut a n cl c d] = .ok (.d (.int (c : Int))) [ut a n cl c d] := fun a n => fIx_cn (n := 3) rfl rfl
  have x4 : ∀ a n : Nat, fIx (.c 0) (.d (.int 4)) [ut a n cl c d] = .ok (.d (.int (d : Int))) [ut a n cl c d] := fun a n => fIx_cn (n := 4) rfl rfl
  have e1 : sSetIx (eVar 0) (eC (.int 1)) (eBin fAdd (eBin fIx (eVar 0) (eC (.int 1))) (eC (.int 1))) [some (.c 0), some (.d (.int (place : Int))), some (.d (.int (many : Int))), none, none] [ut a n cl c d] = .nx [some (.c 0), some (.d (.int (place : Int))), some (.d (.int (many : Int))), none, none] [ut a (n + 1) cl c d] := by
    rw [setIx_at (n := 0) (k := 1) (xs := [.int (a : Int), .int (n : Int), .list (nsD cl), .int (c : Int), .int (d : Int)]) (y := .int ((n + 1 : Nat) : Int)) (cs1 := [ut a n cl c d]) (by simp [x1]) (by simp) (by simp) rfl (by simp)]
    rfl
  have hl : 0 < cl.length := List.length_pos_iff.mpr hcl
  have m1 : ∀ cs, fMulX (.d (.int ((n + 1 : Nat) : Int))) (.d (.int 5)) cs = .ok (.d (.int (((n + 1) * 5 : Nat) : Int))) cs := fun cs => by
    rw [fMulX_int (cs := cs) (mulOk_small (.inr (by decide))), show ((n + 1 : Nat) : Int) * 5 = (((n + 1) * 5 : Nat) : Int) from by omega]
  have d1 : ∀ cs, fMod (.d (.int (((n + 1) * 5 : Nat) : Int))) (.d (.int (cl.length : Int))) cs = .ok (.d (.int (((n + 1) * 5 % cl.length : Nat) : Int))) cs := fun cs => fMod_nat hl
  have hk := Nat.mod_lt ((n + 1) * 5) hl
  generalize (n + 1) * 5 % cl.length = k at *
  obtain ⟨y, hy⟩ : ∃ y, cl[k]? = some y := ⟨cl[k], List.getElem?_eq_getElem hk⟩
  have i1 : ∀ cs, fIx (.d (.list (nsD cl))) (.d (.int (k : Int))) cs = .ok (.d (.int (y : Int))) cs := fun cs => fIx_ln (xs := nsD cl) (n := k) (by simp [nsD, hy])
  have m2 := fun cs => fMulX_int (cs := cs) (i := (a : Int)) (j := 69621) (mulOk_small (.inr (by decide)))
  have m3 := fun cs => fMulX_int (cs := cs) (i := ((n + 1 : Nat) : Int)) (j := 8191) (mulOk_small (.inr (by decide)))
  have m4 := fun cs => fMulX_int (cs := cs) (i := (y : Int)) (j := 67) (mulOk_small (.inr (by decide)))
  obtain ⟨a', _, d2⟩ := fMod_ok (cs := [ut a (n + 1) cl c d]) (i := (a : Int) * 69621 + ((n + 1 : Nat) : Int) * 8191 + (y : Int) * 67 + 19) (b := 2147483563) (by omega)
  have d2' : fMod (.d (.int ((a : Int) * 69621 + ((n + 1 : Nat) : Int) * 8191 + (y : Int) * 67 + 19))) (.d (.int 2147483563)) [ut a (n + 1) cl c d] = _ := d2
  have e2 : sSetIx (eVar 0) (eC (.int 0)) (eBin fMod (eBin fAdd (eBin fAdd (eBin fAdd (eBin fMulX (eBin fIx (eVar 0) (eC (.int 0))) (eC (.int 69621))) (eBin fMulX (eBin fIx (eVar 0) (eC (.int 1))) (eC (.int 8191)))) (eBin fMulX (eBin fIx (eVar 3) (eBin fMod (eBin fMulX (eBin fIx (eVar 0) (eC (.int 1))) (eC (.int 5))) (eFn fLen (aCons (eVar 3) aNil)))) (eC (.int 67)))) (eC (.int 19))) (eC (.int 2147483563)))
      [some (.c 0), some (.d (.int (place : Int))), some (.d (.int (many : Int))), some (.d (.list (nsD cl))), none] [ut a (n + 1) cl c d] = .nx [some (.c 0), some (.d (.int (place : Int))), some (.d (.int (many : Int))), some (.d (.list (nsD cl))), none] [ut a' (n + 1) cl c d] := by
    rw [setIx_at (n := 0) (k := 0) (xs := [.int (a : Int), .int ((n + 1 : Nat) : Int), .list (nsD cl), .int (c : Int), .int (d : Int)]) (y := .int (a' : Int)) (cs1 := [ut a (n + 1) cl c d]) (by
      simp only [eBin_at, eFn_at, aCons_at, aNil_at, eVar_at, eC_at, List.getElem?_cons_succ, List.getElem?_cons_zero, R.bind_ok, x0, x1, x2, fLen_lst, nsD_length, m1, d1, i1, m2, m3, m4, fAdd_int, d2']) (by simp) (by simp) rfl (by simp)]
    rfl
  have mp : ∀ cs, fMulX (.d (.int (place : Int))) (.d (.int 13)) cs = .ok (.d (.int ((place * 13 : Nat) : Int))) cs := fun cs => by
    rw [fMulX_int (cs := cs) (mulOk_small (.inr (by decide))), show (place : Int) * 13 = ((place * 13 : Nat) : Int) from by omega]
  have d3 : ∀ cs, fMod (.d (.int ((d : Int) + ((place * 13 : Nat) : Int)))) (.d (.int 14)) cs = .ok (.d (.int (((d + place * 13) % 14 : Nat) : Int))) cs := fun cs => by
    have := fMod_nat (cs := cs) (a := d + place * 13) (b := 14) (by omega)
    rw [← this]; simp
  generalize (d + place * 13) % 14 = h at *
  have s0 : f__law_take [.c 0, .d (.int (place : Int)), .d (.int (many : Int))] [ut a n cl c d] = runBody 5 (sSeq (sIf (tAndM (tOf (eBin fEq (eBin fIx (eVar 0) (eC (.int 3))) (eC (.int 2)))) (tOf (eBin fLt (eVar 4) (eC (.int 4)))))
      (sRet (eBin fIx (eTup (aCons (eC (.int 0)) (aCons (eBin fSub (eVar 2) (eC (.int 1))) (aCons (eBin fMod (eBin fIx (eVar 0) (eC (.int 4))) (eVar 2)) (aCons (eFn fMin2 (aCons (eC (.int 1)) (aCons (eBin fSub (eVar 2) (eC (.int 1))) aNil))) aNil))))) (eVar 4))) sNext)
      (sRet (eBin fMod (eBin fDiv (eBin fIx (eVar 0) (eC (.int 0))) (eC (.int 256))) (eVar 2)))) [.c 0, .d (.int (place : Int)), .d (.int (many : Int)), .d (.list (nsD cl)), .d (.int (h : Int))] [ut a' (n + 1) cl c d] := by
    unfold f__law_take runBody m__law_take
    simp only [List.map_cons, List.map_nil, List.length_cons, List.length_nil, List.cons_append, List.nil_append, Nat.reduceAdd, Nat.reduceSub, List.replicate]
    rw [sSeq_nx e1]
    rw [sSeq_nx (env1 := [some (.c 0), some (.d (.int (place : Int))), some (.d (.int (many : Int))), some (.d (.list (nsD cl))), none]) (cs1 := [ut a (n + 1) cl c d]) (by simp [x2])]
    rw [sSeq_nx e2]
    rw [sSeq_nx (env1 := [some (.c 0), some (.d (.int (place : Int))), some (.d (.int (many : Int))), some (.d (.list (nsD cl))), some (.d (.int (h : Int)))]) (cs1 := [ut a' (n + 1) cl c d]) (by
      simp only [sAsg_at, eBin_at, eVar_at, eC_at, List.getElem?_cons_succ, List.getElem?_cons_zero, R.bind_ok, x4, mp, fAdd_int, d3, R.toS_ok, tgName_at, List.set_cons_succ, List.set_cons_zero])]
    rfl
  rw [s0]
  by_cases hb : c = 2 ∧ h < 4
  · obtain ⟨hc2, hh⟩ := hb
    subst hc2
    have d5 : ∀ cs, fMod (.d (.int (d : Int))) (.d (.int (many : Int))) cs = .ok (.d (.int ((d % many : Nat) : Int))) cs := fun cs => fMod_nat hm
    have hd := Nat.mod_lt d hm
    generalize d % many = z at *
    have e5 : (many : Int) - 1 = ((many - 1 : Nat) : Int) := by omega
    have mn : ∀ cs, fMin2 [.d (.int 1), .d (.int ((many - 1 : Nat) : Int))] cs = .ok (.d (.int ((min 1 (many - 1) : Nat) : Int))) cs := fun cs => by
      show Sh.R.ok (A.d (.int (if ((many - 1 : Nat) : Int) < 1 then ((many - 1 : Nat) : Int) else 1))) cs = _
      rw [show (if ((many - 1 : Nat) : Int) < 1 then ((many - 1 : Nat) : Int) else 1) = ((min 1 (many - 1) : Nat) : Int) from by split <;> omega]
    have ix : ∃ v : Nat, v < many ∧ ∀ cs, fIx (.d (.tuple [.int 0, .int ((many - 1 : Nat) : Int), .int (z : Int), .int ((min 1 (many - 1) : Nat) : Int)])) (.d (.int (h : Int))) cs = .ok (.d (.int (v : Int))) cs := by
      have : h = 0 ∨ h = 1 ∨ h = 2 ∨ h = 3 := by omega
      rcases this with rfl | rfl | rfl | rfl
      · exact ⟨0, hm, fun cs => fIx_tn rfl⟩
      · exact ⟨many - 1, by omega, fun cs => fIx_tn rfl⟩
      · exact ⟨z, hd, fun cs => fIx_tn rfl⟩
      · exact ⟨min 1 (many - 1), by omega, fun cs => fIx_tn rfl⟩
    obtain ⟨v, hv, ix⟩ := ix
    refine ⟨v, a', hv, ?_⟩
    have x3' := x3 a' (n + 1)
    have x4' := x4 a' (n + 1)
    have h4 : (h : Int) < 4 := by omega
    unfold runBody
    simp only [List.map_cons, List.map_nil, List.length_cons, List.length_nil, List.cons_append, List.nil_append, Nat.reduceAdd, Nat.reduceSub, List.replicate]
    rw [sSeq_rt (a := .d (.int (v : Int))) (cs1 := [ut a' (n + 1) cl 2 d]) (by
      rw [sIf_tt (cs1 := [ut a' (n + 1) cl 2 d]) (by simp [x3', h4])]
      simp only [sRet_at, eBin_at, eTup_at, eFn_at, aCons_at, aNil_at, eVar_at, eC_at, List.getElem?_cons_succ, List.getElem?_cons_zero, R.bind_ok, fSub_int, e5, x4', d5, mn, allD_d, allD_nil, Option.map_some]
      rw [if_pos (size_le' (by simp))]
      simp only [R.bind_ok, ix, R.toS_ok])]
    simp
  · have f1 : (tAndM (tOf (eBin fEq (eBin fIx (eVar 0) (eC (.int 3))) (eC (.int 2)))) (tOf (eBin fLt (eVar 4) (eC (.int 4)))) : MT) [some (.c 0), some (.d (.int (place : Int))), some (.d (.int (many : Int))), some (.d (.list (nsD cl))), some (.d (.int (h : Int)))] [ut a' (n + 1) cl c d] = .ok false [ut a' (n + 1) cl c d] := by
      have x3' := x3 a' (n + 1)
      by_cases h2 : c = 2
      · have : ¬ ((h : Int) < 4) := by omega
        subst h2
        simp [x3', this]
      · have : ¬ ((c : Int) = 2) := by omega
        simp [x3', this]
    have x0' := x0 a' (n + 1)
    have d6 : ∀ cs, fDiv (.d (.int (a' : Int))) (.d (.int 256)) cs = .ok (.d (.int ((a' / 256 : Nat) : Int))) cs := fun cs => fDiv_nat (b := 256) (by omega) (by omega)
    have d7 : ∀ cs, fMod (.d (.int ((a' / 256 : Nat) : Int))) (.d (.int (many : Int))) cs = .ok (.d (.int ((a' / 256 % many : Nat) : Int))) cs := fun cs => fMod_nat hm
    refine ⟨a' / 256 % many, a', Nat.mod_lt _ hm, ?_⟩
    generalize a' / 256 % many = v at *
    generalize a' / 256 = w at *
    unfold runBody
    simp only [List.map_cons, List.map_nil, List.length_cons, List.length_nil, List.cons_append, List.nil_append, Nat.reduceAdd, Nat.reduceSub, List.replicate]
    rw [sSeq_nx (env1 := [some (.c 0), some (.d (.int (place : Int))), some (.d (.int (many : Int))), some (.d (.list (nsD cl))), some (.d (.int (h : Int)))]) (cs1 := [ut a' (n + 1) cl c d]) (by rw [sIf_ff f1]; simp)]
    simp only [sRet_at, eBin_at, eVar_at, eC_at, List.getElem?_cons_succ, List.getElem?_cons_zero, R.bind_ok, x0', d6, d7, R.toS_ok]
    simp
/-- an urn: the numbers that are drawn from -/
def Urn (u : Cell) : Prop := ∃ (a n : Nat) (cl : List Nat) (c d : Nat), cl ≠ [] ∧ u = ut a n cl c d
theorem draw {u : Cell} (hu : Urn u) {many : Nat} (hm : 0 < many) (place : Nat) : ∃ (v : Nat) (u' : Cell), v < many ∧ Urn u' ∧ ∀ rest : CS, partF f__law_take [.c 0, .d (.int (place : Int)), .d (.int (many : Int))] (u :: rest) = .ok (.d (.int (v : Int))) (u' :: rest) := by
  obtain ⟨a, n, cl, c, d, hcl, rfl⟩ := hu
  obtain ⟨v, a', h1, h2⟩ := take_eq a n cl c d hcl hm place
  exact ⟨v, _, h1, ⟨a', n + 1, cl, c, d, hcl, rfl⟩, fun rest => partF_1 (k := 0) rfl rfl h2⟩
end K03
namespace Sh
open PySem L2 PySem.Builtin PySem.Builtin.Str PySem.StrLaws
/-! ### texts by their signs; a text cut at a sign -/
/-- the text of these signs -/
abbrev S (l : List Nat) : PySem.Str := ⟨l.toArray⟩
theorem S_of (s : PySem.Str) : s = S s.cps.toList := by cases s; simp
@[simp] theorem S_list (l : List Nat) : (S l).cps.toList = l := by simp
@[simp] theorem S_len (l : List Nat) : (S l).length = l.length := by simp [PySem.Str.length]
theorem S_inj {a b : List Nat} : S a = S b ↔ a = b := ⟨fun h => by simpa using congrArg (fun s : PySem.Str => s.cps.toList) h, fun h => by rw [h]⟩
theorem S_app (a b : List Nat) : S a ++ S b = S (a ++ b) := str_ext (by rw [str_app])
theorem inS_one (c : Nat) (s : PySem.Str) : inS (S [c]) s = decide (c ∈ s.cps.toList) := found_one s c
theorem ltS_one (a b : Nat) : ltS (S [a]) (S [b]) = decide (a < b) := by
  unfold ltS
  simp [List.cons_lt_cons_iff]
theorem occ_one {s : PySem.Str} {c lim : Nat} : ∀ (k lo : Nat) (st : Array Nat × Nat), st.2 ≤ lo → st.1.size + k ≤ lim →
    (forIn (List.range' lo k) st (occBody s (S [c]) s.length lim)).run.fst.toList = st.1.toList ++ (List.range' lo k).filter fun i => decide (s.cps.toList[i]? = some c)
  | 0, lo, st, _, _ => by simp
  | k + 1, lo, st, h1, h2 => by
    rw [List.range'_succ, List.forIn_cons]
    unfold occBody
    have e := subAt_one s c lo
    by_cases hc : s.cps.toList[lo]? = some c
    · have hh := e.mpr hc
      rw [if_pos ⟨⟨⟨by omega, h1⟩, hh.1⟩, hh.2⟩]
      have ih := occ_one (s := s) (c := c) (lim := lim) k (lo + 1) (st.1.push lo, lo + (S [c]).length) (by simp) (by simp; omega)
      rw [List.filter_cons, if_pos (decide_eq_true hc)]
      simp only [Array.toList_push, List.append_assoc, List.singleton_append] at ih
      exact ih
    · have hn : ¬ (((st.1.size < lim ∧ st.2 ≤ lo) ∧ lo + (S [c]).length ≤ s.length) ∧ subAt s (S [c]) lo = true) := fun z => hc (e.mp ⟨z.1.2, z.2⟩)
      rw [if_neg hn, List.filter_cons, if_neg (by simpa using hc)]
      exact occ_one (s := s) (c := c) (lim := lim) k (lo + 1) (st.1, st.2) (by simpa using Nat.le_succ_of_le h1) (by simp; omega)
def spl (c : Nat) : List Nat → List (List Nat)
  | [] => [[]]
  | a :: r => if a = c then [] :: spl c r else match spl c r with
    | h :: t => (a :: h) :: t
    | [] => [[a]]
theorem spl_ne (c : Nat) : ∀ l : List Nat, ∃ h t, spl c l = h :: t
  | [] => ⟨_, _, rfl⟩
  | a :: r => by
    obtain ⟨h, t, e⟩ := spl_ne c r
    unfold spl
    split
    · exact ⟨_, _, rfl⟩
    · rw [e]; exact ⟨_, _, rfl⟩
def preC (p : List Nat) : List (List Nat) → List (List Nat)
  | h :: t => (p ++ h) :: t
  | [] => [p]
theorem parts_spl {x : List Nat} {c : Nat} : ∀ (k a b : Nat), b + k = x.length + 1 → a ≤ b → b ≤ x.length → (partsFrom (S x) 1 a ((List.range' b k).filter fun i => decide (x[i]? = some c))).map (fun s => s.cps.toList) = preC ((x.drop a).take (b - a)) (spl c (x.drop b))
  | 0, a, b, h1, h2, h3 => by omega
  | k + 1, a, b, h1, h2, h3 => by
    rw [List.range'_succ, List.filter_cons]
    by_cases hb : b = x.length
    · have k0 : k = 0 := by omega
      subst k0
      subst hb
      rw [if_neg (by simp)]
      simp [partsFrom, strSub_toList, spl, preC]
    · have lt : b < x.length := by omega
      have ed : x.drop b = x[b] :: x.drop (b + 1) := List.drop_eq_getElem_cons lt
      by_cases hc : x[b]? = some c
      · rw [if_pos (decide_eq_true hc)]
        have ec : x[b] = c := by rw [List.getElem?_eq_getElem lt] at hc; exact Option.some.inj hc
        have ih := parts_spl (x := x) (c := c) k (b + 1) (b + 1) (by omega) (Nat.le_refl _) (by omega)
        rw [ed, ec]
        unfold spl
        rw [if_pos rfl]
        simp only [partsFrom, List.map_cons, strSub_toList]
        rw [ih]
        obtain ⟨h, t, e⟩ := spl_ne c (x.drop (b + 1))
        rw [e]
        simp [preC]
      · rw [if_neg (by simpa using hc)]
        have ec : x[b] ≠ c := fun z => hc (by rw [List.getElem?_eq_getElem lt, z])
        have ih := parts_spl (x := x) (c := c) k a (b + 1) (by omega) (by omega) (by omega)
        rw [ih, ed]
        conv => rhs; unfold spl
        rw [if_neg ec]
        obtain ⟨h, t, e⟩ := spl_ne c (x.drop (b + 1))
        rw [e]
        simp only [preC]
        have e2 : (x.drop a).take (b + 1 - a) = (x.drop a).take (b - a) ++ [x[b]] := by
          rw [show b + 1 - a = (b - a) + 1 from by omega, List.take_succ_eq_append_getElem (by simp; omega)]
          simp [show a + (b - a) = b from by omega]
        rw [e2]
        simp
/-- text.split(one sign) -/
theorem split_one (x : List Nat) {c : Nat} (hc : c < 256) : Txt.split (S x) (S [c]) = (spl c x).map S := by
  have key : (Txt.split (S x) (S [c])).map (fun s => s.cps.toList) = spl c x := by
    have h0 := parts_spl (x := x) (c := c) (x.length + 1) 0 0 (by omega) (Nat.le_refl _) (Nat.zero_le _)
    have ho : occurrences (S x) (S [c]) 0 (S x).length ((S x).length + 1) = (List.range' 0 (x.length + 1)).filter fun i => decide (x[i]? = some c) := by
      rw [occ_eq]
      have := occ_one (s := S x) (c := c) (lim := (S x).length + 1) (x.length + 1) 0 (#[], 0) (Nat.le_refl _) (by simp)
      simpa using this
    unfold Txt.split
    split
    · rename_i h
      have k1 : PySem.Builtin.Str.strKind (S [c]) = 1 := by unfold PySem.Builtin.Str.strKind; simp [hc]
      have k2 : 1 ≤ PySem.Builtin.Str.strKind (S x) := by unfold PySem.Builtin.Str.strKind; (repeat' split) <;> omega
      rw [k1] at h
      simp at h
      rcases h with h | h
      · subst h; simp [spl]
      · rw [h] at k2; omega
    · split
      · rename_i h1 h2
        rw [ho] at h2
        have h3 : ((List.range' 0 (x.length + 1)).filter fun i => decide (x[i]? = some c)) = [] := List.isEmpty_iff.mp h2
        rw [h3] at h0
        obtain ⟨h, t, e⟩ := spl_ne c x
        simp only [List.drop_zero] at h0
        rw [e] at h0 ⊢
        simp [partsFrom, strSub_toList, preC] at h0 ⊢
        exact h0
      · rw [ho, partsBetween_eq]
        rw [show (S [c]).length = 1 from by simp, h0]
        obtain ⟨h, t, e⟩ := spl_ne c (x.drop 0)
        rw [e]
        simp only [preC]
        simp at e
        rw [e]
        simp
  have : (Txt.split (S x) (S [c])).map (fun s => S s.cps.toList) = (spl c x).map S := by rw [← key, List.map_map]; rfl
  rw [← this]
  conv => lhs; rw [← List.map_id (Txt.split (S x) (S [c]))]
  exact List.map_congr_left fun s _ => by simpa using S_of s
end Sh
namespace K03
open Sh
/-! ### the lexer in plain Lean -/
structure Tk where
  k : Nat
  w : List Nat
  ln : Nat
  pl : Nat
inductive TR where
  | ok (ts : List Tk) | bad (ln pl w : Nat)
def TR.app (a : List Tk) : TR → TR
  | .ok ts => .ok (a ++ ts)
  | r => r
def after (r s : TR) : TR := match r with
  | .ok ts => s.app ts
  | b => b
theorem app_nil (r : TR) : r.app [] = r := by cases r <;> rfl
theorem app_app (a b : List Tk) (r : TR) : (r.app b).app a = r.app (a ++ b) := by cases r <;> simp [TR.app]
theorem after_app (a : List Tk) (r s : TR) : after (r.app a) s = (after r s).app a := by
  cases r with
  | ok ts => show s.app (a ++ ts) = (s.app ts).app a; rw [app_app]
  | bad _ _ _ => rfl
theorem after_ok (s : TR) : after (.ok []) s = s := app_nil s
def isLow (c : Nat) : Bool := decide (97 ≤ c ∧ c ≤ 122)
def isDig (c : Nat) : Bool := decide (48 ≤ c ∧ c ≤ 57)
def isAl (c : Nat) : Bool := isLow c || isDig c
def sgn : List Nat := [43, 45, 58, 59, 39, 44, 123, 125]
inductive St1 where
  | stop | sp | tok (k : Nat) (w : List Nat) | err (w : Nat)
def step : List Nat → St1
  | [] => .stop
  | c :: r => if c = 35 then .stop else if c = 32 then .sp
    else if isLow c = true then (if 12 < (r.takeWhile isAl).length + 1 then .err 1 else .tok 0 (c :: r.takeWhile isAl))
    else if isDig c = true then (if 12 < (r.takeWhile isDig).length + 1 then .err 1 else if 1 < (r.takeWhile isDig).length + 1 ∧ c = 48 then .err 2 else .tok 1 (c :: r.takeWhile isDig))
    else if c ∈ sgn then .tok 2 [c] else .err 0
theorem step_cons (c : Nat) (r : List Nat) : step (c :: r) = if c = 35 then .stop else if c = 32 then .sp
    else if isLow c = true then (if 12 < (r.takeWhile isAl).length + 1 then .err 1 else .tok 0 (c :: r.takeWhile isAl))
    else if isDig c = true then (if 12 < (r.takeWhile isDig).length + 1 then .err 1 else if 1 < (r.takeWhile isDig).length + 1 ∧ c = 48 then .err 2 else .tok 1 (c :: r.takeWhile isDig))
    else if c ∈ sgn then .tok 2 [c] else .err 0 := rfl
def lexL (ln : Nat) : Nat → Nat → List Nat → TR
  | 0, _, _ => .ok []
  | n + 1, pl, l => match step l with
    | .stop => .ok []
    | .sp => lexL ln n (pl + 1) (l.drop 1)
    | .tok k w => (lexL ln n (pl + w.length) (l.drop w.length)).app [⟨k, w, ln, pl + 1⟩]
    | .err w => .bad ln (pl + 1) w
def lexX (ln pl : Nat) (l : List Nat) : TR := lexL ln l.length pl l
def lexLines : Nat → List (List Nat) → TR
  | _, [] => .ok []
  | n, l :: r => after (lexX n 0 l) (lexLines (n + 1) r)
def lexQ (ln pl : Nat) (l : List Nat) : TR := match spl 10 l with
  | h :: t => after (lexX ln pl h) (lexLines (ln + 1) t)
  | [] => .ok []
def lexText (l : List Nat) : TR := lexLines 1 (spl 10 l)
theorem lexText_Q (l : List Nat) : lexText l = lexQ 1 0 l := by
  obtain ⟨h, t, e⟩ := spl_ne 10 l
  unfold lexText lexQ
  rw [e]
  rfl
theorem step_tok {l w : List Nat} {k : Nat} (h : step l = .tok k w) : 1 ≤ w.length ∧ w.length ≤ 12 ∧ ∃ r, l = w ++ r := by
  cases l with
  | nil => cases h
  | cons c r =>
    have tw : ∀ p : Nat → Bool, ∃ r', c :: r = (c :: r.takeWhile p) ++ r' := fun p => ⟨r.dropWhile p, by rw [List.cons_append, List.takeWhile_append_dropWhile]⟩
    rw [step_cons] at h
    split at h
    · cases h
    · split at h
      · cases h
      · split at h
        · split at h
          · cases h
          · cases h
            exact ⟨by simp, by simp; omega, tw _⟩
        · split at h
          · split at h
            · cases h
            · split at h
              · cases h
              · cases h
                exact ⟨by simp, by simp; omega, tw _⟩
          · split at h
            · cases h
              exact ⟨by simp, by simp, r, rfl⟩
            · cases h
theorem step_sp {l : List Nat} (h : step l = .sp) : ∃ r, l = 32 :: r := by
  cases l with
  | nil => cases h
  | cons c r =>
    rw [step_cons] at h
    split at h
    · cases h
    · split at h
      · rename_i e; exact ⟨r, by rw [e]⟩
      · repeat' split at h
        all_goals cases h
theorem lexL_more {ln : Nat} : ∀ {n m pl : Nat} {l : List Nat}, l.length ≤ n → l.length ≤ m → lexL ln n pl l = lexL ln m pl l
  | 0, 0, _, _, _, _ => rfl
  | 0, m + 1, pl, l, h, _ => by
    have : l = [] := List.eq_nil_of_length_eq_zero (by omega)
    subst this
    rfl
  | n + 1, 0, pl, l, _, h => by
    have : l = [] := List.eq_nil_of_length_eq_zero (by omega)
    subst this
    rfl
  | n + 1, m + 1, pl, l, h1, h2 => by
    unfold lexL
    cases e : step l with
    | stop => rfl
    | err w => rfl
    | sp =>
      obtain ⟨r, rfl⟩ := step_sp e
      exact lexL_more (by simp at h1 ⊢; omega) (by simp at h2 ⊢; omega)
    | tok k w =>
      obtain ⟨g1, _, r, rfl⟩ := step_tok e
      show TR.app _ _ = TR.app _ _
      rw [lexL_more (n := n) (m := m) (by simp at h1 ⊢; omega) (by simp at h2 ⊢; omega)]
theorem lexX_eq (ln pl : Nat) (l : List Nat) : lexX ln pl l = match step l with
    | .stop => .ok []
    | .sp => lexX ln (pl + 1) (l.drop 1)
    | .tok k w => (lexX ln (pl + w.length) (l.drop w.length)).app [⟨k, w, ln, pl + 1⟩]
    | .err w => .bad ln (pl + 1) w := by
  unfold lexX
  rw [lexL_more (n := l.length) (m := l.length + 1) (Nat.le_refl _) (by omega)]
  rw [lexL]
  cases e : step l with
  | stop => rfl
  | err w => rfl
  | sp =>
    obtain ⟨r, rfl⟩ := step_sp e
    exact lexL_more (by simp) (Nat.le_refl _)
  | tok k w =>
    obtain ⟨g1, _, r, rfl⟩ := step_tok e
    show TR.app _ _ = TR.app _ _
    rw [lexL_more (n := (w ++ r).length) (m := ((w ++ r).drop w.length).length) (by simp) (Nat.le_refl _)]
theorem lexX_nil (ln pl : Nat) : lexX ln pl [] = .ok [] := rfl
theorem lexX_sp (ln pl : Nat) (r : List Nat) : lexX ln pl (32 :: r) = lexX ln (pl + 1) r := by rw [lexX_eq]; rfl
theorem lexX_stop (ln pl : Nat) (r : List Nat) : lexX ln pl (35 :: r) = .ok [] := by rw [lexX_eq]; rfl
theorem lexX_tok {ln pl k : Nat} {w r : List Nat} (h : step (w ++ r) = .tok k w) : lexX ln pl (w ++ r) = (lexX ln (pl + w.length) r).app [⟨k, w, ln, pl + 1⟩] := by
  rw [lexX_eq, h]
  simp

/-! ### over the lines -/
theorem spl_nl (r : List Nat) : spl 10 (10 :: r) = [] :: spl 10 r := rfl
theorem spl_else {a : Nat} {r : List Nat} (h : a ≠ 10) : spl 10 (a :: r) = match spl 10 r with
    | h :: t => (a :: h) :: t
    | [] => [[a]] := if_neg h
theorem spl_app {p l : List Nat} (h : ∀ c ∈ p, c ≠ 10) : spl 10 (p ++ l) = preC p (spl 10 l) := by
  induction p with
  | nil =>
    obtain ⟨x, t, e⟩ := spl_ne 10 l
    rw [List.nil_append, e]; rfl
  | cons a p ih =>
    have ih := ih fun c hc => h c (List.mem_cons_of_mem _ hc)
    rw [List.cons_append, spl_else (h a List.mem_cons_self), ih]
    obtain ⟨x, t, e⟩ := spl_ne 10 l
    rw [e]
    rfl
theorem Q_nil (ln pl : Nat) : lexQ ln pl [] = .ok [] := rfl
theorem Q_nl (ln pl : Nat) (r : List Nat) : lexQ ln pl (10 :: r) = lexQ (ln + 1) 0 r := by
  obtain ⟨x, t, e⟩ := spl_ne 10 r
  have e2 := spl_nl r
  unfold lexQ
  rw [e2, e]
  simp only [lexX_nil, after_ok]
  rfl
theorem Q_pre {ln pl : Nat} {p r : List Nat} (h : ∀ c ∈ p, c ≠ 10) : lexQ ln pl (p ++ r) = match spl 10 r with
    | x :: t => after (lexX ln pl (p ++ x)) (lexLines (ln + 1) t)
    | [] => .ok [] := by
  obtain ⟨x, t, e⟩ := spl_ne 10 r
  unfold lexQ
  rw [spl_app h, e]
  rfl
theorem Q_sp (ln pl : Nat) (r : List Nat) : lexQ ln pl (32 :: r) = lexQ ln (pl + 1) r := by
  obtain ⟨x, t, e⟩ := spl_ne 10 r
  rw [show (32 :: r) = [32] ++ r from rfl, Q_pre (by simp), e]
  unfold lexQ
  rw [e]
  simp only [List.singleton_append, lexX_sp]
theorem Q_com {ln pl : Nat} {p r : List Nat} (h : ∀ c ∈ p, c ≠ 10) : lexQ ln pl (35 :: (p ++ 10 :: r)) = lexQ (ln + 1) 0 r := by
  have := Q_pre (ln := ln) (pl := pl) (p := 35 :: p) (r := 10 :: r) (by simpa using h)
  rw [List.cons_append] at this
  obtain ⟨x, t, e⟩ := spl_ne 10 r
  have e2 := spl_nl r
  rw [this, e2]
  simp only [List.append_nil, lexX_stop, after_ok]
  rw [e]
  unfold lexQ
  rw [e]
  rfl
/-- nothing at the head that a word (a number) would take in -/
def Free (p : Nat → Bool) (l : List Nat) : Prop := ∀ c r, l = c :: r → p c = false
theorem Free.line {p : Nat → Bool} {r x : List Nat} {t : List (List Nat)} (h : Free p r) (e : spl 10 r = x :: t) : Free p x := by
  intro c x' ex
  subst ex
  cases r with
  | nil => cases e
  | cons a r =>
    unfold spl at e
    split at e
    · cases e
    · obtain ⟨y, t', e'⟩ := spl_ne 10 r
      rw [e'] at e
      simp at e
      exact e.1.1 ▸ h a r rfl
theorem Q_tok {ln pl k : Nat} {w r : List Nat} {p : Nat → Bool} (hw : ∀ c ∈ w, c ≠ 10) (hr : Free p r) (h : ∀ x, Free p x → step (w ++ x) = .tok k w) : lexQ ln pl (w ++ r) = (lexQ ln (pl + w.length) r).app [⟨k, w, ln, pl + 1⟩] := by
  obtain ⟨x, t, e⟩ := spl_ne 10 r
  rw [Q_pre hw]
  unfold lexQ
  rw [e]
  simp only
  rw [lexX_tok (h x (hr.line e)), after_app]
theorem takeWhile_free {p : Nat → Bool} : ∀ {w x : List Nat}, w.all p = true → Free p x → (w ++ x).takeWhile p = w
  | [], [], _, _ => rfl
  | [], c :: x, _, h => by simp [h c x rfl]
  | a :: w, x, hw, h => by
    simp only [List.all_cons, Bool.and_eq_true] at hw
    rw [List.cons_append, List.takeWhile_cons, if_pos hw.1, takeWhile_free hw.2 h]
/-- what a word, a number, a sign is -/
def IsWord (w : List Nat) : Prop := w.length ≤ 12 ∧ ∃ c r, w = c :: r ∧ isLow c = true ∧ r.all isAl = true
def IsNum (w : List Nat) : Prop := w.length ≤ 12 ∧ ∃ c r, w = c :: r ∧ isDig c = true ∧ r.all isDig = true ∧ (c = 48 → r = [])
def IsSgn (w : List Nat) : Prop := ∃ c, w = [c] ∧ c ∈ sgn
theorem step_word {w x : List Nat} (h : IsWord w) (hx : Free isAl x) : step (w ++ x) = .tok 0 w := by
  obtain ⟨hl, c, r, rfl, hc, hr⟩ := h
  have c1 : c ≠ 35 := fun e => by subst e; cases hc
  have c2 : c ≠ 32 := fun e => by subst e; cases hc
  rw [List.cons_append]
  rw [step_cons, if_neg c1, if_neg c2, if_pos hc, takeWhile_free hr hx, if_neg (by simp at hl; omega)]
theorem low_dig {c : Nat} (h : isDig c = true) : isLow c = false := by
  unfold isDig at h
  unfold isLow
  have := of_decide_eq_true h
  exact decide_eq_false (by omega)
theorem step_num {w x : List Nat} (h : IsNum w) (hx : Free isDig x) : step (w ++ x) = .tok 1 w := by
  obtain ⟨hl, c, r, rfl, hc, hr, h0⟩ := h
  have c1 : c ≠ 35 := fun e => by subst e; cases hc
  have c2 : c ≠ 32 := fun e => by subst e; cases hc
  rw [List.cons_append]
  rw [step_cons, if_neg c1, if_neg c2, if_neg (by rw [low_dig hc]; simp), if_pos hc, takeWhile_free hr hx, if_neg (by simp at hl; omega), if_neg (fun z => by
    have := h0 z.2
    subst this
    simp at z)]
theorem step_sgn {w x : List Nat} (h : IsSgn w) : step (w ++ x) = .tok 2 w := by
  obtain ⟨c, rfl, hc⟩ := h
  have : c = 43 ∨ c = 45 ∨ c = 58 ∨ c = 59 ∨ c = 39 ∨ c = 44 ∨ c = 123 ∨ c = 125 := by simpa [sgn] using hc
  rcases this with rfl | rfl | rfl | rfl | rfl | rfl | rfl | rfl <;> rfl
end K03
namespace K03
open Sh
/-! ### a text that is made of pieces and gaps -/
def pos (p : Nat × Nat) (c : Nat) : Nat × Nat := if c = 10 then (p.1 + 1, 0) else (p.1, p.2 + 1)
theorem fold_spl : ∀ (x : List Nat) (p : Nat × Nat) (h : List Nat) (t : List (List Nat)), spl 10 x = h :: t → x.foldl pos p = (p.1 + t.length, match t.getLast? with
    | none => p.2 + h.length
    | some y => y.length)
  | [], p, h, t, e => by
    cases e
    rfl
  | a :: r, p, h, t, e => by
    obtain ⟨h', t', e'⟩ := spl_ne 10 r
    by_cases ha : a = 10
    · subst ha
      rw [spl_nl, e'] at e
      cases e
      have ih := fold_spl r (p.1 + 1, 0) h' t' e'
      rw [List.foldl_cons, show pos p 10 = (p.1 + 1, 0) from rfl, ih, List.getLast?_cons]
      cases t'.getLast? <;> simp <;> omega
    · rw [spl_else ha, e'] at e
      cases e
      have ih := fold_spl r (p.1, p.2 + 1) h' t e'
      rw [List.foldl_cons, show pos p a = (p.1, p.2 + 1) from if_neg ha, ih]
      cases t.getLast? <;> simp <;> omega
theorem lines_at (x : List Nat) : ∃ (ls : List (List Nat)) (l : List Nat), spl 10 x = ls ++ [l] ∧ x.foldl pos (1, 0) = (ls.length + 1, l.length) := by
  obtain ⟨h, t, e⟩ := spl_ne 10 x
  have f := fold_spl x (1, 0) h t e
  rcases List.eq_nil_or_concat t with rfl | ⟨t', y, rfl⟩
  · exact ⟨[], h, e, by rw [f]; simp⟩
  · refine ⟨h :: t', y, by rw [e]; simp, ?_⟩
    rw [f]
    simp
    omega
def Fr (b : Nat) (s : List Nat) : Prop := (b = 1 → Free isAl s) ∧ (b = 2 → Free isDig s)
theorem Fr.zero (s : List Nat) : Fr 0 s := ⟨(fun h => by omega), (fun h => by omega)⟩
theorem low_not {c : Nat} (h : isAl c = false) : isDig c = false := by unfold isAl at h; rw [Bool.or_eq_false_iff] at h; exact h.2
theorem Fr.of {b c : Nat} {s : List Nat} (h : isAl c = false) : Fr b (c :: s) := ⟨fun _ d r e => by cases e; exact h, fun _ d r e => by cases e; exact low_not h⟩
/-- the end of a text: 0 no word or number stands there, 1 a word, 2 a number -/
def EndIs (x : List Nat) (ts : List Tk) (b : Nat) : Prop := (b = 0 ∧ (x = [] ∨ ∃ y c, x = y ++ [c] ∧ isAl c = false)) ∨ ((b = 1 ∨ b = 2) ∧ ∃ y c us t, x = y ++ [c] ∧ isAl c = true ∧ ts = us ++ [t] ∧ t.k = b - 1)
def Ext (x : List Nat) (ts : List Tk) (b : Nat) : Prop := EndIs x ts b ∧ ∀ s, Fr b s → lexQ 1 0 (x ++ s) = (lexQ (x.foldl pos (1, 0)).1 (x.foldl pos (1, 0)).2 s).app ts
theorem Ext.done {x : List Nat} {ts : List Tk} {b : Nat} (h : Ext x ts b) : lexText x = .ok ts := by
  have := h.2 [] ⟨(fun _ c r e => nomatch e), (fun _ c r e => nomatch e)⟩
  rw [List.append_nil, Q_nil] at this
  rw [lexText_Q, this]
  simp [TR.app]
def gaps : List (List Nat) := [[32], [], [10], [32, 32], [35, 10], [32, 35, 32, 97, 45, 98, 39, 115, 32, 40, 82, 101, 109, 97, 114, 107, 41, 32, 34, 120, 34, 32, 48, 55, 32, 38, 10], [10, 10, 32, 10], [32, 32, 32]]
theorem gap_lex {g : List Nat} (h : g ∈ gaps) (ln pl : Nat) (s : List Nat) : lexQ ln pl (g ++ s) = lexQ (g.foldl pos (ln, pl)).1 (g.foldl pos (ln, pl)).2 s := by
  have c1 : ∀ ln pl, lexQ ln pl (35 :: 10 :: s) = lexQ (ln + 1) 0 s := fun ln pl => Q_com (p := []) (by simp)
  have c2 : ∀ ln pl, lexQ ln pl (35 :: ([32, 97, 45, 98, 39, 115, 32, 40, 82, 101, 109, 97, 114, 107, 41, 32, 34, 120, 34, 32, 48, 55, 32, 38] ++ 10 :: s)) = lexQ (ln + 1) 0 s := fun ln pl => Q_com (by decide)
  have : g = [32] ∨ g = [] ∨ g = [10] ∨ g = [32, 32] ∨ g = [35, 10] ∨ g = [32, 35, 32, 97, 45, 98, 39, 115, 32, 40, 82, 101, 109, 97, 114, 107, 41, 32, 34, 120, 34, 32, 48, 55, 32, 38, 10] ∨ g = [10, 10, 32, 10] ∨ g = [32, 32, 32] := by simpa [gaps] using h
  rcases this with rfl | rfl | rfl | rfl | rfl | rfl | rfl | rfl
  · simp [Q_sp, pos]
  · rfl
  · simp [Q_nl, pos]
  · simp [Q_sp, pos]
  · simp [c1, pos]
  · have := c2 ln (pl + 1)
    simp only [List.cons_append, List.nil_append] at this
    simp [Q_sp, this, pos]
  · simp [Q_nl, Q_sp, pos]
  · simp [Q_sp, pos]
theorem gap_end {g : List Nat} (h : g ∈ gaps) : g = [] ∨ ((∃ y c, g = y ++ [c] ∧ isAl c = false) ∧ ∃ c r, g = c :: r ∧ isAl c = false) := by
  have : g = [32] ∨ g = [] ∨ g = [10] ∨ g = [32, 32] ∨ g = [35, 10] ∨ g = [32, 35, 32, 97, 45, 98, 39, 115, 32, 40, 82, 101, 109, 97, 114, 107, 41, 32, 34, 120, 34, 32, 48, 55, 32, 38, 10] ∨ g = [10, 10, 32, 10] ∨ g = [32, 32, 32] := by simpa [gaps] using h
  rcases this with rfl | rfl | rfl | rfl | rfl | rfl | rfl | rfl
  · exact .inr ⟨⟨[], 32, rfl, by decide⟩, 32, _, rfl, by decide⟩
  · exact .inl rfl
  · exact .inr ⟨⟨[], 10, rfl, by decide⟩, 10, _, rfl, by decide⟩
  · exact .inr ⟨⟨[32], 32, rfl, by decide⟩, 32, _, rfl, by decide⟩
  · exact .inr ⟨⟨[35], 10, rfl, by decide⟩, 35, _, rfl, by decide⟩
  · exact .inr ⟨⟨[32, 35, 32, 97, 45, 98, 39, 115, 32, 40, 82, 101, 109, 97, 114, 107, 41, 32, 34, 120, 34, 32, 48, 55, 32, 38], 10, rfl, by decide⟩, 32, _, rfl, by decide⟩
  · exact .inr ⟨⟨[10, 10, 32], 10, rfl, by decide⟩, 10, _, rfl, by decide⟩
  · exact .inr ⟨⟨[32, 32], 32, rfl, by decide⟩, 32, _, rfl, by decide⟩
theorem Ext.gap {x g : List Nat} {ts : List Tk} {b : Nat} (h : Ext x ts b) (hg : g ∈ gaps) : ∃ b', Ext (x ++ g) ts b' := by
  rcases gap_end hg with rfl | ⟨⟨y, c, e1, e2⟩, d, r, e3, e4⟩
  · exact ⟨b, by rw [List.append_nil]; exact h⟩
  · refine ⟨0, .inl ⟨rfl, .inr ⟨x ++ y, c, by rw [e1]; simp, e2⟩⟩, fun s _ => ?_⟩
    rw [List.append_assoc, h.2 (g ++ s) (by rw [e3]; exact Fr.of e4), gap_lex hg, List.foldl_append]
theorem Ext.sp {x : List Nat} {ts : List Tk} {b : Nat} (h : Ext x ts b) : Ext (x ++ [32]) ts 0 := by
  refine ⟨.inl ⟨rfl, .inr ⟨x, 32, rfl, by decide⟩⟩, fun s _ => ?_⟩
  rw [List.append_assoc, h.2 ([32] ++ s) (Fr.of (by decide)), List.foldl_append, show [32] ++ s = 32 :: s from rfl, Q_sp]
  simp [pos]
theorem Ext.nil : Ext [] [] 0 := ⟨.inl ⟨rfl, .inl rfl⟩, fun s _ => by
  show lexQ 1 0 s = (lexQ 1 0 s).app []
  rw [app_nil]⟩
theorem pos_line {w : List Nat} (h : ∀ c ∈ w, c ≠ 10) : ∀ p : Nat × Nat, w.foldl pos p = (p.1, p.2 + w.length) := by
  induction w with
  | nil => intro p; rfl
  | cons a w ih =>
    intro p
    rw [List.foldl_cons, show pos p a = (p.1, p.2 + 1) from if_neg (h a List.mem_cons_self), ih (fun c hc => h c (List.mem_cons_of_mem _ hc))]
    simp
    omega
/-- a piece: its kind -/
def Piece (w : List Nat) (k : Nat) : Prop := (k = 0 ∧ IsWord w) ∨ (k = 1 ∧ IsNum w) ∨ (k = 2 ∧ IsSgn w)
theorem al_ne {c : Nat} (h : isAl c = true) : c ≠ 10 := fun e => by subst e; cases h
theorem dig_al {c : Nat} (h : isDig c = true) : isAl c = true := by unfold isAl; rw [h]; simp
theorem low_al {c : Nat} (h : isLow c = true) : isAl c = true := by unfold isAl; rw [h]; simp
theorem sgn_al {c : Nat} (h : c ∈ sgn) : isAl c = false := by
  have : c = 43 ∨ c = 45 ∨ c = 58 ∨ c = 59 ∨ c = 39 ∨ c = 44 ∨ c = 123 ∨ c = 125 := by simpa [sgn] using h
  rcases this with rfl | rfl | rfl | rfl | rfl | rfl | rfl | rfl <;> decide
theorem all_last {p : Nat → Bool} {c : Nat} {r : List Nat} (hc : p c = true) (hr : r.all p = true) : ∃ y d, c :: r = y ++ [d] ∧ p d = true := by
  rcases List.eq_nil_or_concat r with rfl | ⟨y, d, rfl⟩
  · exact ⟨[], c, rfl, hc⟩
  · simp only [List.concat_eq_append, List.all_append, List.all_cons, List.all_nil, Bool.and_true, Bool.and_eq_true] at hr
    exact ⟨c :: y, d, by simp, hr.2⟩
/-- a piece is put behind -/
theorem Ext.tok {x w : List Nat} {ts : List Tk} {b k : Nat} (h : Ext x ts b) (hp : Piece w k) (hb : ∀ s, Fr b (w ++ s)) : ∃ b', Ext (x ++ w) (ts ++ [⟨k, w, (x.foldl pos (1, 0)).1, (x.foldl pos (1, 0)).2 + 1⟩]) b' := by
  have hw : (∀ c ∈ w, c ≠ 10) ∧ ∃ b' : Nat, EndIs (x ++ w) (ts ++ [⟨k, w, (x.foldl pos (1, 0)).1, (x.foldl pos (1, 0)).2 + 1⟩]) b' ∧ ∃ p : Nat → Bool, (∀ s, Fr b' s → Free p s) ∧ ∀ y, Free p y → step (w ++ y) = .tok k w := by
    rcases hp with ⟨rfl, h1⟩ | ⟨rfl, h1⟩ | ⟨rfl, h1⟩
    · obtain ⟨hl, c, r, rfl, hc, hr⟩ := id h1
      obtain ⟨y, d, e, hd⟩ := all_last (low_al hc) hr
      refine ⟨fun a ha => ?_, 1, .inr ⟨.inl rfl, x ++ y, d, ts, _, by rw [e]; simp, hd, rfl, rfl⟩, isAl, fun s hs => hs.1 rfl, fun y hy => step_word h1 hy⟩
      rcases List.mem_cons.mp ha with rfl | ha
      · exact al_ne (low_al hc)
      · exact al_ne (List.all_eq_true.mp hr a ha)
    · obtain ⟨hl, c, r, rfl, hc, hr, h0⟩ := id h1
      obtain ⟨y, d, e, hd⟩ := all_last hc hr
      refine ⟨fun a ha => ?_, 2, .inr ⟨.inr rfl, x ++ y, d, ts, _, by rw [e]; simp, dig_al hd, rfl, rfl⟩, isDig, fun s hs => hs.2 rfl, fun y hy => step_num h1 hy⟩
      rcases List.mem_cons.mp ha with rfl | ha
      · exact al_ne (dig_al hc)
      · exact al_ne (dig_al (List.all_eq_true.mp hr a ha))
    · obtain ⟨c, rfl, hc⟩ := id h1
      refine ⟨fun a ha => ?_, 0, .inl ⟨rfl, .inr ⟨x, c, rfl, sgn_al hc⟩⟩, fun _ => false, fun s _ d r e => rfl, fun y _ => step_sgn h1⟩
      rcases List.mem_singleton.mp ha with rfl
      intro e
      subst e
      cases sgn_al hc
      exact absurd hc (by decide)
  obtain ⟨h10, b', he, p, hf, hst⟩ := hw
  refine ⟨b', he, fun s hs => ?_⟩
  rw [List.append_assoc, h.2 (w ++ s) (hb s), Q_tok h10 (hf s hs) hst, List.foldl_append, pos_line h10, app_app]
end K03
namespace K03
open Sh PySem L2
/-! ### texts in the mirrors -/
theorem fLen_S {l : List Nat} {cs : CS} (h : l.length ≤ 1000000) : fLen [.d (.str (S l))] cs = .ok (.d (.int (l.length : Int))) cs := by
  have := size_le' h
  simp only [fLen, lenA, S_len, if_pos this]
theorem fIx_S {l : List Nat} {cs : CS} {n c : Nat} (h : l.length ≤ 1000000) (hc : l[n]? = some c) : fIx (.d (.str (S l))) (.d (.int (n : Int))) cs = .ok (.d (.str (S [c]))) cs := by
  have : (S l).length ≤ sizeLine := by rw [S_len]; exact size_le' h
  simp only [fIx, if_pos this]
  rw [atI_nat hc]
@[simp] theorem fInS_f {x y : Str} {cs : CS} : fInS false (.d (.str x)) (.d (.str y)) cs = .ok (.d (.bool (inS x y))) cs := rfl
theorem get_app {pre r : List Nat} {c : Nat} : (pre ++ c :: r)[pre.length]? = some c := by simp
/-! ### end_of -/
abbrev eoT : MT := tAndM (tOf (eBin fLt (eVar 1) (eFn fLen (aCons (eVar 0) aNil)))) (tOf (eBin (fInS false) (eBin fIx (eVar 0) (eVar 1)) (eVar 2)))
abbrev eoB : MS := sAug 1 fAddI (eC (.int 1))
abbrev eoE (L : List Nat) (s : Str) (p : Nat) : Sh.Env := [some (.d (.str (S L))), some (.d (.int (p : Int))), some (.d (.str s))]
theorem end_loop {L : List Nat} {s : Str} (hL : L.length ≤ 1000000) : ∀ (l pre : List Nat), L = pre ++ l → ∀ fuel, l.length < fuel →
    whileN eoT eoB [] fuel (eoE L s pre.length) [] = .nx (eoE L s (pre.length + (l.takeWhile fun c => decide (c ∈ s.cps.toList)).length)) []
  | [], pre, e, fuel + 1, hf => by
    have hl : L.length = pre.length := by rw [e]; simp
    have t : eoT (eoE L s pre.length) [] = .ok false [] := by simp [fLen_S hL, hl]
    unfold whileN
    rw [t]
    simp
  | c :: r, pre, e, fuel + 1, hf => by
    have hl : L.length = pre.length + (r.length + 1) := by rw [e]; simp
    have hx : L[pre.length]? = some c := by rw [e]; exact get_app
    have t : eoT (eoE L s pre.length) [] = .ok (decide (c ∈ s.cps.toList)) [] := by
      have lt : (pre.length : Int) < (L.length : Int) := by omega
      simp only [tAndM_at, tOf_at, eBin_at, eFn_at, aCons_at, aNil_at, eVar_at, List.getElem?_cons_succ, List.getElem?_cons_zero, R.bind_ok, fLen_S hL, fCmp_int, fLt, asB_bool, decide_eq_true lt, if_true, fIx_S hL hx, fInS_f, inS_one]
    unfold whileN
    rw [t, List.takeWhile_cons]
    simp only [R.toS_ok]
    by_cases hc : c ∈ s.cps.toList
    · rw [decide_eq_true hc, if_pos rfl, if_pos rfl]
      have b : eoB (eoE L s pre.length) [] = .nx (eoE L s (pre ++ [c]).length) [] := by
        simp
      rw [b]
      show whileN eoT eoB [] fuel (wipeE [] (eoE L s (pre ++ [c]).length)) [] = _
      rw [wipeE_nil, end_loop hL r (pre ++ [c]) (by rw [e]; simp) fuel (by simp at hf; omega)]
      have : (pre ++ [c]).length + (r.takeWhile fun c => decide (c ∈ s.cps.toList)).length = pre.length + (c :: r.takeWhile fun c => decide (c ∈ s.cps.toList)).length := by simp; omega
      rw [this]
    · rw [decide_eq_false hc, if_neg (by simp), if_neg (by simp)]
      simp
theorem end_eq {L pre l : List Nat} {s : Str} (hL : L.length ≤ 1000000) (e : L = pre ++ l) (cs : CS) : plainF f_end_of [.d (.str (S L)), .d (.int (pre.length : Int)), .d (.str s)] cs = .ok (.d (.int ((pre.length + (l.takeWhile fun c => decide (c ∈ s.cps.toList)).length : Nat) : Int))) cs := by
  refine plainF_ok rfl ?_
  have hl : L.length = pre.length + l.length := by rw [e]; simp
  have lp := end_loop (s := s) hL l pre e 1000000000 (by omega)
  show runBody 3 m_end_of _ _ = _
  unfold runBody m_end_of
  simp only [List.map_cons, List.map_nil, List.length_cons, List.length_nil, List.cons_append, List.nil_append, Nat.reduceAdd, Nat.reduceSub, List.replicate]
  rw [sSeq_nx (by rw [sWhile_at, wipeE_nil]; exact lp)]
  simp
end K03
namespace K03
open Sh PySem L2
/-! ### token_at -/
theorem plainF_of {F : Fn} {xs : List A} {cs : CS} (h : xs.all isPl = true) : plainF F xs cs = plainR cs (F xs []) := if_pos h
abbrev kdS : Nat → Str
  | 0 => "word"
  | 1 => "number"
  | _ => "sign"
abbrev erS : Nat → Str
  | 0 => "sign"
  | 1 => "long"
  | _ => "number"
abbrev encT (t : Tk) : PyData := .tuple [.str (kdS t.k), .str (S t.w), .int (t.ln : Int), .int (t.pl : Int)]
abbrev badX (ln pl w : Nat) : Ex := ⟨"BadSource", [("word", .str (erS w)), ("place", .int (pl : Int)), ("line", .int (ln : Int))]⟩
abbrev lowS : Str := "abcdefghijklmnopqrstuvwxyz"
abbrev digS : Str := "0123456789"
abbrev sgnS : Str := "+-:;',{}"
theorem lowS_l : lowS.cps.toList = List.range' 97 26 := by decide +kernel
theorem digS_l : digS.cps.toList = List.range' 48 10 := by decide +kernel
theorem sgnS_l : sgnS.cps.toList = sgn := by decide +kernel
theorem in_low (c : Nat) : decide (c ∈ lowS.cps.toList) = isLow c := by
  rw [lowS_l, Bool.eq_iff_iff]
  simp [isLow, List.mem_range'_1]
  omega
theorem in_dig (c : Nat) : decide (c ∈ digS.cps.toList) = isDig c := by
  rw [digS_l, Bool.eq_iff_iff]
  simp [isDig, List.mem_range'_1]
  omega
theorem in_al (c : Nat) : decide (c ∈ (lowS ++ digS).cps.toList) = isAl c := by
  rw [str_app, Bool.eq_iff_iff]
  have h1 := in_low c
  have h2 := in_dig c
  rw [Bool.eq_iff_iff] at h1 h2
  simp only [decide_eq_true_eq, List.mem_append] at *
  rw [h1, h2]
  simp [isAl]
theorem alS_len : lowS.length + digS.length ≤ sizeLine := size_le' (by decide)
theorem fAdd_al {cs : CS} : fAdd (.d (.str lowS)) (.d (.str digS)) cs = .ok (.d (.str (lowS ++ digS))) cs := by
  simp only [fAdd, if_pos alS_len]
theorem fSlice_S {l : List Nat} {cs : CS} {a b : Nat} (h : l.length ≤ 1000000) : fSlice (.d (.str (S l))) (some (a : Int)) (some (b : Int)) cs = .ok (.d (.str (S ((l.drop (min a l.length)).take (min b l.length - min a l.length))))) cs := by
  have : (S l).length ≤ sizeLine := by rw [S_len]; exact size_le' h
  simp only [fSlice]
  rw [if_pos this]
  simp only [cutS, S_len, HT.sIx_nat]
abbrev taE (L : List Nat) (ln pl : Nat) (k : Option A) (e : Option A) : Sh.Env := [some (.d (.int (ln : Int))), some (.d (.str (S L))), some (.d (.int (pl : Int))), k, e]
abbrev taR (w : Str) : MS := sRaise "BadSource" ["line", "place", "word"] (aCons (eVar 0) (aCons (eBin fAdd (eVar 2) (eC (.int 1))) (aCons (eC (.str w)) aNil)))
theorem taR_eq {L : List Nat} {ln pl : Nat} {k e : Option A} {w : Nat} : taR (erS w) (taE L ln pl k e) [] = .ex (badX ln (pl + 1) w) (taE L ln pl k e) [] := by
  simp [sRaise, allD]
abbrev taA : MS := sIf (tOf (eBin (fInS false) (eBin fIx (eVar 1) (eVar 2)) (eC (.str lowS))))
  (sSeq (sAsg (eC (.str "word")) (tgName 3))
  (sAsg (eCall 3 (plainF (f_end_of)) (aCons (eVar 1) (aCons (eVar 2) (aCons (eBin fAdd (eC (.str lowS)) (eC (.str digS))) aNil)))) (tgName 4)))
  (sIf (tOf (eBin (fInS false) (eBin fIx (eVar 1) (eVar 2)) (eC (.str digS))))
  (sSeq (sAsg (eC (.str "number")) (tgName 3))
  (sAsg (eCall 3 (plainF (f_end_of)) (aCons (eVar 1) (aCons (eVar 2) (aCons (eC (.str digS)) aNil)))) (tgName 4)))
  (sIf (tOf (eBin (fInS false) (eBin fIx (eVar 1) (eVar 2)) (eC (.str sgnS))))
  (sSeq (sAsg (eC (.str "sign")) (tgName 3))
  (sAsg (eBin fAdd (eVar 2) (eC (.int 1))) (tgName 4)))
  (taR "sign")))
/-- the kind and the signs taken, ahead of what is asked of them -/
def cand (c : Nat) (r : List Nat) : Option (Nat × List Nat) := if isLow c = true then some (0, c :: r.takeWhile isAl) else if isDig c = true then some (1, c :: r.takeWhile isDig) else if c ∈ sgn then some (2, [c]) else none
theorem step_cand {c : Nat} {r : List Nat} (h1 : c ≠ 35) (h2 : c ≠ 32) : step (c :: r) = match cand c r with
    | none => .err 0
    | some (k, w) => if 12 < w.length then .err 1 else if k = 1 ∧ 1 < w.length ∧ c = 48 then .err 2 else .tok k w := by
  rw [step_cons, if_neg h1, if_neg h2]
  unfold cand
  by_cases a : isLow c = true
  · rw [if_pos a, if_pos a]
    simp
  · rw [if_neg a, if_neg a]
    by_cases b : isDig c = true
    · rw [if_pos b, if_pos b]
      simp
    · rw [if_neg b, if_neg b]
      by_cases s : c ∈ sgn
      · rw [if_pos s, if_pos s]
        simp
      · rw [if_neg s, if_neg s]
theorem taA_eq {L pre r : List Nat} {c ln : Nat} (hL : L.length ≤ 1000000) (e : L = pre ++ c :: r) : taA (taE L ln pre.length none none) [] = match cand c r with
    | some (k, w) => .nx (taE L ln pre.length (some (.d (.str (kdS k)))) (some (.d (.int ((pre.length + w.length : Nat) : Int))))) []
    | none => .ex (badX ln (pre.length + 1) 0) (taE L ln pre.length none none) [] := by
  have hx : L[pre.length]? = some c := by rw [e]; exact get_app
  have i1 : ∀ s : Str, (tOf (eBin (fInS false) (eBin fIx (eVar 1) (eVar 2)) (eC (.str s))) : MT) (taE L ln pre.length none none) [] = .ok (decide (c ∈ s.cps.toList)) [] := fun s => by
    simp only [tOf_at, eBin_at, eVar_at, eC_at, List.getElem?_cons_succ, List.getElem?_cons_zero, R.bind_ok, fIx_S hL hx, fInS_f, inS_one, asB_bool]
  unfold cand taA
  by_cases a : isLow c = true
  · have t := i1 lowS
    rw [in_low, a] at t
    have en := end_eq (s := lowS ++ digS) hL e []
    have f : (fun c => decide (c ∈ (lowS ++ digS).cps.toList)) = isAl := funext in_al
    rw [f, List.takeWhile_cons, if_pos (by simp [isAl, a])] at en
    rw [sIf_tt t, if_pos a, sSeq_nx (env1 := taE L ln pre.length (some (.d (.str "word"))) none) (cs1 := []) (by simp)]
    simp only [sAsg_at, eCall_at, aCons_at, aNil_at, eVar_at, eBin_at, eC_at, List.getElem?_cons_succ, List.getElem?_cons_zero, R.bind_ok, fAdd_al, List.length_cons, List.length_nil, Nat.reduceAdd, if_true, en, R.toS_ok, tgName_at]
    simp
    rfl
  · have t := i1 lowS
    rw [in_low, (by simpa using a : isLow c = false)] at t
    rw [sIf_ff t, if_neg a]
    by_cases b : isDig c = true
    · have t := i1 digS
      rw [in_dig, b] at t
      have en := end_eq (s := digS) hL e []
      have f : (fun c => decide (c ∈ digS.cps.toList)) = isDig := funext in_dig
      rw [f, List.takeWhile_cons, if_pos b] at en
      rw [sIf_tt t, if_pos b, sSeq_nx (env1 := taE L ln pre.length (some (.d (.str "number"))) none) (cs1 := []) (by simp)]
      simp only [sAsg_at, eCall_at, aCons_at, aNil_at, eVar_at, eBin_at, eC_at, List.getElem?_cons_succ, List.getElem?_cons_zero, R.bind_ok, List.length_cons, List.length_nil, Nat.reduceAdd, if_true, en, R.toS_ok, tgName_at]
      simp
      rfl
    · have t := i1 digS
      rw [in_dig, (by simpa using b : isDig c = false)] at t
      rw [sIf_ff t, if_neg b]
      have t := i1 sgnS
      rw [sgnS_l] at t
      by_cases s : c ∈ sgn
      · rw [decide_eq_true s] at t
        rw [sIf_tt t, if_pos s]
        simp
        rfl
      · rw [decide_eq_false s] at t
        rw [sIf_ff t, if_neg s]
        exact taR_eq (w := 0)
abbrev taB : MS := sSeq (sIf (tOf (eBin fGt (eBin fSub (eVar 4) (eVar 2)) (eC (.int 12)))) (taR "long") sNext)
  (sSeq (sIf (tAndM (tOf (eBin fEq (eVar 3) (eC (.str "number")))) (tAndM (tOf (eBin fGt (eBin fSub (eVar 4) (eVar 2)) (eC (.int 1)))) (tOf (eBin fEq (eBin fIx (eVar 1) (eVar 2)) (eC (.str "0"))))))
  (taR "number") sNext)
  (sRet (eTup (aCons (eVar 3) (aCons (eSlice (eVar 1) (oSome (eVar 2)) (oSome (eVar 4))) (aCons (eVar 0) (aCons (eBin fAdd (eVar 2) (eC (.int 1))) aNil)))))))
theorem kd_num (k : Nat) (hk : k < 3) : decide (kdS k = ("number" : Str)) = decide (k = 1) := by
  have : k = 0 ∨ k = 1 ∨ k = 2 := by omega
  rcases this with rfl | rfl | rfl <;> decide +kernel
theorem S_zero (c : Nat) : decide (S [c] = ("0" : Str)) = decide (c = 48) := by
  have : ("0" : Str) = S [48] := by decide +kernel
  rw [this, Bool.eq_iff_iff]
  simp [S_inj]
theorem taB_eq {L pre w x : List Nat} {c ln k : Nat} (hL : L.length ≤ 1000000) (hk : k < 3) (e : L = pre ++ (w ++ x)) (hw : w.head? = some c) : taB (taE L ln pre.length (some (.d (.str (kdS k)))) (some (.d (.int ((pre.length + w.length : Nat) : Int))))) [] =
    if 12 < w.length then .ex (badX ln (pre.length + 1) 1) (taE L ln pre.length (some (.d (.str (kdS k)))) (some (.d (.int ((pre.length + w.length : Nat) : Int))))) []
    else if k = 1 ∧ 1 < w.length ∧ c = 48 then .ex (badX ln (pre.length + 1) 2) (taE L ln pre.length (some (.d (.str (kdS k)))) (some (.d (.int ((pre.length + w.length : Nat) : Int))))) []
    else .rt (.d (encT ⟨k, w, ln, pre.length + 1⟩)) [] := by
  obtain ⟨r, rfl⟩ : ∃ r, w = c :: r := by
    cases w with
    | nil => cases hw
    | cons a r => exact ⟨r, by rw [Option.some.inj hw]⟩
  have hx : L[pre.length]? = some c := by rw [e]; exact get_app
  have el : ((pre.length + (c :: r).length : Nat) : Int) - (pre.length : Int) = ((c :: r).length : Int) := by omega
  generalize hn : (c :: r).length = n at *
  generalize hE : taE L ln pre.length (some (.d (.str (kdS k)))) (some (.d (.int ((pre.length + n : Nat) : Int)))) = E
  have t1 : (tOf (eBin fGt (eBin fSub (eVar 4) (eVar 2)) (eC (.int 12))) : MT) E [] = .ok (decide (12 < n)) [] := by
    subst hE
    simp only [tOf_at, eBin_at, eVar_at, eC_at, List.getElem?_cons_succ, List.getElem?_cons_zero, R.bind_ok, fSub_int, el, fGt, fCmp_int, asB_bool]
    congr 1
    rw [Bool.eq_iff_iff]; simp; omega
  have t2 : (tAndM (tOf (eBin fEq (eVar 3) (eC (.str "number")))) (tAndM (tOf (eBin fGt (eBin fSub (eVar 4) (eVar 2)) (eC (.int 1)))) (tOf (eBin fEq (eBin fIx (eVar 1) (eVar 2)) (eC (.str "0"))))) : MT) E [] = .ok (decide (k = 1 ∧ 1 < n ∧ c = 48)) [] := by
    subst hE
    simp only [tAndM_at, tOf_at, eBin_at, eVar_at, eC_at, List.getElem?_cons_succ, List.getElem?_cons_zero, R.bind_ok, fSub_int, el, fGt, fCmp_int, asB_bool, fEq_str, kd_num k hk, fIx_S hL hx, S_zero]
    by_cases h1 : k = 1 <;> by_cases h2 : 1 < n <;> by_cases h3 : c = 48 <;> simp [h1, h2, h3] <;> omega
  unfold taB
  by_cases h12 : 12 < n
  · rw [decide_eq_true h12] at t1
    rw [if_pos h12]
    have : sIf (tOf (eBin fGt (eBin fSub (eVar 4) (eVar 2)) (eC (.int 12)))) (taR "long") sNext E [] = .ex (badX ln (pre.length + 1) 1) E [] := by
      rw [sIf_tt t1]
      subst hE
      exact taR_eq (w := 1)
    rw [sSeq_at, this]
  · rw [decide_eq_false h12] at t1
    rw [if_neg h12, sSeq_nx (env1 := E) (cs1 := []) (by rw [sIf_ff t1]; rfl)]
    by_cases hz : k = 1 ∧ 1 < n ∧ c = 48
    · rw [decide_eq_true hz] at t2
      rw [if_pos hz]
      have : sIf (tAndM (tOf (eBin fEq (eVar 3) (eC (.str "number")))) (tAndM (tOf (eBin fGt (eBin fSub (eVar 4) (eVar 2)) (eC (.int 1)))) (tOf (eBin fEq (eBin fIx (eVar 1) (eVar 2)) (eC (.str "0")))))) (taR "number") sNext E [] = .ex (badX ln (pre.length + 1) 2) E [] := by
        rw [sIf_tt t2]
        subst hE
        exact taR_eq (w := 2)
      rw [sSeq_at, this]
    · rw [decide_eq_false hz] at t2
      rw [if_neg hz, sSeq_nx (env1 := E) (cs1 := []) (by rw [sIf_ff t2]; rfl)]
      subst hE
      have hl : L.length = pre.length + (n + x.length) := by rw [e]; simp; simp at hn; omega
      have sl : ((L.drop (min pre.length L.length)).take (min (pre.length + n) L.length - min pre.length L.length)) = c :: r := by
        rw [Nat.min_eq_left (by omega), Nat.min_eq_left (by omega), e, List.drop_left, show pre.length + n - pre.length = (c :: r).length from by omega, List.take_left]
      have hs := fSlice_S (cs := []) (a := pre.length) (b := pre.length + n) hL
      rw [sl] at hs
      simp only [sRet_at, eTup_at, aCons_at, aNil_at, eVar_at, eBin_at, eC_at, eSlice, oSome, List.getElem?_cons_succ, List.getElem?_cons_zero, R.bind_ok, hs, fAdd_int, allD_d, allD_nil, Option.map_some]
      rw [if_pos (size_le' (by simp))]
      rfl
/-- token_at -/
theorem token_eq {L pre r : List Nat} {c ln : Nat} (hL : L.length ≤ 1000000) (e : L = pre ++ c :: r) (h1 : c ≠ 35) (h2 : c ≠ 32) (cs : CS) : plainF f_token_at [.d (.int (ln : Int)), .d (.str (S L)), .d (.int (pre.length : Int))] cs = match step (c :: r) with
    | .tok k w => .ok (.d (encT ⟨k, w, ln, pre.length + 1⟩)) cs
    | .err w => .ex (badX ln (pre.length + 1) w) cs
    | _ => .no := by
  have core : f_token_at [.d (.int (ln : Int)), .d (.str (S L)), .d (.int (pre.length : Int))] [] = match step (c :: r) with
      | .tok k w => .ok (.d (encT ⟨k, w, ln, pre.length + 1⟩)) []
      | .err w => .ex (badX ln (pre.length + 1) w) []
      | _ => .no := by
    rw [step_cand h1 h2]
    have a := taA_eq (ln := ln) hL e
    show runBody 5 (sSeq taA taB) _ _ = _
    unfold runBody
    simp only [List.map_cons, List.map_nil, List.length_cons, List.length_nil, List.cons_append, List.nil_append, Nat.reduceAdd, Nat.reduceSub, List.replicate]
    cases hc : cand c r with
    | none =>
      rw [hc] at a
      rw [sSeq_at, a]
      rfl
    | some kw =>
      obtain ⟨k, w⟩ := kw
      rw [hc] at a
      have hw : k < 3 ∧ w.head? = some c ∧ ∃ x, c :: r = w ++ x := by
        have tw : ∀ p : Nat → Bool, ∃ x, c :: r = (c :: r.takeWhile p) ++ x := fun p => ⟨r.dropWhile p, by rw [List.cons_append, List.takeWhile_append_dropWhile]⟩
        unfold cand at hc
        split at hc
        · cases hc; exact ⟨by omega, rfl, tw _⟩
        · split at hc
          · cases hc; exact ⟨by omega, rfl, tw _⟩
          · split at hc
            · cases hc; exact ⟨by omega, rfl, r, rfl⟩
            · cases hc
      obtain ⟨k3, hh, x, ex⟩ := hw
      have b := taB_eq (ln := ln) hL k3 (e.trans (by rw [ex])) hh
      rw [sSeq_nx a, b]
      simp only
      by_cases g1 : 12 < w.length
      · rw [if_pos g1, if_pos g1]; rfl
      · rw [if_neg g1, if_neg g1]
        by_cases g2 : k = 1 ∧ 1 < w.length ∧ c = 48
        · rw [if_pos g2, if_pos g2]; rfl
        · rw [if_neg g2, if_neg g2]; rfl
  rw [plainF_of rfl, core]
  cases step (c :: r) <;> rfl
end K03
namespace K03
open Sh PySem L2
/-! ### line_tokens -/
abbrev spS : Str := " "
theorem in_sp (c : Nat) : decide (c ∈ spS.cps.toList) = decide (c = 32) := by
  have : spS.cps.toList = [32] := by decide +kernel
  rw [this, Bool.eq_iff_iff]
  simp
abbrev isSp (c : Nat) : Bool := decide (c = 32)
theorem lexX_sps (ln : Nat) : ∀ (l : List Nat) (pl : Nat), lexX ln pl l = lexX ln (pl + (l.takeWhile isSp).length) (l.dropWhile isSp)
  | [], pl => rfl
  | c :: r, pl => by
    by_cases h : c = 32
    · subst h
      rw [lexX_sp, lexX_sps ln r (pl + 1)]
      simp
      congr 1
      omega
    · simp [h]
theorem drop_head {l : List Nat} : ∀ c r, l.dropWhile isSp = c :: r → c ≠ 32 := by
  induction l with
  | nil => intro c r h; cases h
  | cons a l ih =>
    intro c r h
    rw [List.dropWhile_cons] at h
    split at h
    · exact ih c r h
    · rename_i n
      cases h
      simpa using n
theorem sp_eq {L pre l : List Nat} (hL : L.length ≤ 1000000) (e : L = pre ++ l) (cs : CS) : plainF f_end_of [.d (.str (S L)), .d (.int (pre.length : Int)), .d (.str spS)] cs = .ok (.d (.int ((pre.length + (l.takeWhile isSp).length : Nat) : Int))) cs := by
  have := end_eq (s := spS) hL e cs
  rw [show (fun c => decide (c ∈ spS.cps.toList)) = isSp from funext in_sp] at this
  exact this
abbrev ltE (L : List Nat) (ln p : Nat) : Sh.Env := [some (.d (.int (ln : Int))), some (.d (.str (S L))), some (.c 0), some (.d (.int (p : Int))), none]
abbrev ltT : MT := tAndM (tOf (eBin fLt (eVar 3) (eFn fLen (aCons (eVar 1) aNil)))) (tOf (eBin fNe (eBin fIx (eVar 1) (eVar 3)) (eC (.str "#"))))
abbrev ltB : MS := sSeq (sAsg (eCall 3 (plainF (f_token_at)) (aCons (eVar 0) (aCons (eVar 1) (aCons (eVar 3) aNil)))) (tgName 4))
  (sSeq (sDrop (eMeth "list" mAppend (eVar 2) (aCons (eVar 4) aNil)))
  (sAsg (eCall 3 (plainF (f_end_of)) (aCons (eVar 1) (aCons (eBin fAdd (eVar 3) (eFn fLen (aCons (eBin fIx (eVar 4) (eC (.int 1))) aNil))) (aCons (eC (.str spS)) aNil)))) (tgName 3)))
theorem step_ns {c : Nat} {r : List Nat} (h1 : c ≠ 35) (h2 : c ≠ 32) : step (c :: r) ≠ .stop ∧ step (c :: r) ≠ .sp := by
  rw [step_cand h1 h2]
  cases cand c r with
  | none => exact ⟨(fun z => nomatch z), (fun z => nomatch z)⟩
  | some kw =>
    obtain ⟨k, w⟩ := kw
    simp only
    split
    · exact ⟨(fun z => nomatch z), (fun z => nomatch z)⟩
    · split
      · exact ⟨(fun z => nomatch z), (fun z => nomatch z)⟩
      · exact ⟨(fun z => nomatch z), (fun z => nomatch z)⟩
abbrev tks (ts : List Tk) : Cell := .lst (ts.map encT)
def LnOut (L : List Nat) (ln : Nat) (ts : List Tk) (r : RS) : TR → Prop
  | .ok us => ∃ p, r = .nx (ltE L ln p) [tks (ts ++ us)]
  | .bad a b w => ∃ env c, r = .ex (badX a b w) env [c]
theorem LnOut.app {L : List Nat} {ln : Nat} {ts : List Tk} {t : Tk} {r : RS} {o : TR} (h : LnOut L ln (ts ++ [t]) r o) : LnOut L ln ts r (o.app [t]) := by
  cases o with
  | ok us =>
    obtain ⟨p, h⟩ := h
    exact ⟨p, by rw [h, List.append_assoc]⟩
  | bad a b w => exact h
theorem S_hash (c : Nat) : decide (S [c] = ("#" : Str)) = decide (c = 35) := by
  have : ("#" : Str) = S [35] := by decide +kernel
  rw [this, Bool.eq_iff_iff]
  simp [S_inj]
theorem line_loop {L : List Nat} {ln : Nat} (hL : L.length ≤ 1000000) : ∀ (n : Nat) (l pre : List Nat) (ts : List Tk) (fuel : Nat), l.length ≤ n → L = pre ++ l → l.length < fuel → (∀ c r, l = c :: r → c ≠ 32) → ts.length + l.length ≤ 1000000 →
    LnOut L ln ts (whileN ltT ltB [4] fuel (ltE L ln pre.length) [tks ts]) (lexX ln pre.length l)
  | n, [], pre, ts, fuel + 1, hn, e, hf, h32, hs => by
    have hl : L.length = pre.length := by rw [e]; simp
    have t : ltT (ltE L ln pre.length) [tks ts] = .ok false [tks ts] := by simp [fLen_S hL, hl]
    refine ⟨pre.length, ?_⟩
    unfold whileN
    rw [t]
    simp
  | 0, c :: r, pre, ts, fuel, hn, e, hf, h32, hs => by simp at hn
  | n + 1, c :: r, pre, ts, fuel + 1, hn, e, hf, h32, hs => by
    have hl : L.length = pre.length + (r.length + 1) := by rw [e]; simp
    have hx : L[pre.length]? = some c := by rw [e]; exact get_app
    have h2 := h32 c r rfl
    have t : ltT (ltE L ln pre.length) [tks ts] = .ok (!decide (c = 35)) [tks ts] := by
      have lt : (pre.length : Int) < (L.length : Int) := by omega
      simp only [tAndM_at, tOf_at, eBin_at, eFn_at, aCons_at, aNil_at, eVar_at, eC_at, List.getElem?_cons_succ, List.getElem?_cons_zero, R.bind_ok, fLen_S hL, fCmp_int, fLt, asB_bool, decide_eq_true lt, if_true, fIx_S hL hx, fNe_str, S_hash]
    unfold whileN
    rw [t]
    simp only [R.toS_ok]
    by_cases h1 : c = 35
    · subst h1
      rw [lexX_stop]
      exact ⟨pre.length, by simp⟩
    · rw [if_pos (by simp [h1])]
      have tk := fun cs => token_eq (ln := ln) hL e h1 h2 cs
      cases hst : step (c :: r) with
      | stop => exact absurd hst (step_ns h1 h2).1
      | sp => exact absurd hst (step_ns h1 h2).2
      | err w =>
        have tk := fun cs => tk cs
        rw [hst] at tk
        have b : ltB (ltE L ln pre.length) [tks ts] = .ex (badX ln (pre.length + 1) w) (ltE L ln pre.length) [tks ts] := by
          unfold ltB
          rw [sSeq_at]
          simp only [sAsg_at, eCall_at, aCons_at, aNil_at, eVar_at, List.getElem?_cons_succ, List.getElem?_cons_zero, R.bind_ok, List.length_cons, List.length_nil, Nat.reduceAdd, if_true, tk, R.toS_ex]
        rw [b, lexX_eq, hst]
        exact ⟨_, _, rfl⟩
      | tok k w =>
        rw [hst] at tk
        obtain ⟨g1, g2, x, ex⟩ := step_tok hst
        have lw : (c :: r).length = w.length + x.length := by rw [ex]; simp
        have lx : lexX ln pre.length (c :: r) = (lexX ln (pre.length + w.length) x).app [⟨k, w, ln, pre.length + 1⟩] := by
          rw [ex] at hst ⊢
          exact lexX_tok hst
        have e2 : L = (pre ++ w) ++ x := by rw [e, ex]; simp
        have se := fun cs => sp_eq hL e2 cs
        have e3 : L = (pre ++ w ++ x.takeWhile isSp) ++ x.dropWhile isSp := by rw [List.append_assoc (pre ++ w), List.takeWhile_append_dropWhile]; exact e2
        have ix : ∀ cs, fIx (.d (encT ⟨k, w, ln, pre.length + 1⟩)) (.d (.int 1)) cs = .ok (.d (.str (S w))) cs := fun cs => fIx_t1
        have fl : ∀ cs, fLen [.d (.str (S w))] cs = .ok (.d (.int (w.length : Int))) cs := fun cs => fLen_S (by omega)
        have ea : ((pre.length : Nat) : Int) + (w.length : Int) = (((pre ++ w).length : Nat) : Int) := by simp
        have ap : mAppend (.c 0) [.d (encT ⟨k, w, ln, pre.length + 1⟩)] [tks ts] = .ok (.d .none) [tks (ts ++ [⟨k, w, ln, pre.length + 1⟩])] := by
          rw [mAppend_c (n := 0) (xs := ts.map encT) rfl (size_lt' (by simp at hs ⊢; omega))]
          simp
        have b : ltB (ltE L ln pre.length) [tks ts] = .nx [some (.d (.int (ln : Int))), some (.d (.str (S L))), some (.c 0), some (.d (.int (((pre ++ w ++ x.takeWhile isSp).length : Nat) : Int))), some (.d (encT ⟨k, w, ln, pre.length + 1⟩))] [tks (ts ++ [⟨k, w, ln, pre.length + 1⟩])] := by
          unfold ltB
          rw [sSeq_nx (env1 := [some (.d (.int (ln : Int))), some (.d (.str (S L))), some (.c 0), some (.d (.int (pre.length : Int))), some (.d (encT ⟨k, w, ln, pre.length + 1⟩))]) (cs1 := [tks ts]) (by
            simp only [sAsg_at, eCall_at, aCons_at, aNil_at, eVar_at, List.getElem?_cons_succ, List.getElem?_cons_zero, R.bind_ok, List.length_cons, List.length_nil, Nat.reduceAdd, if_true, tk, R.toS_ok, tgName_at, List.set_cons_succ, List.set_cons_zero])]
          rw [sSeq_nx (drop_app (k := 0) (x := encT ⟨k, w, ln, pre.length + 1⟩) (by simp) rfl (by simp) ap)]
          simp only [sAsg_at, eCall_at, aCons_at, aNil_at, eVar_at, eC_at, eBin_at, eFn_at, List.getElem?_cons_succ, List.getElem?_cons_zero, R.bind_ok, ix, fl, fAdd_int, ea, List.length_cons, List.length_nil, Nat.reduceAdd, if_true, se, R.toS_ok, tgName_at, List.set_cons_succ, List.set_cons_zero]
          rw [show (pre ++ w).length + (x.takeWhile isSp).length = (pre ++ w ++ x.takeWhile isSp).length from by simp [Nat.add_assoc]]
        have ld : (x.dropWhile isSp).length ≤ x.length := (List.dropWhile_suffix _).length_le
        rw [b, lx, lexX_sps]
        show LnOut L ln ts (whileN ltT ltB [4] fuel (ltE L ln (pre ++ w ++ x.takeWhile isSp).length) [tks (ts ++ [⟨k, w, ln, pre.length + 1⟩])]) _
        have ih := line_loop (ln := ln) hL n (x.dropWhile isSp) (pre ++ w ++ x.takeWhile isSp) (ts ++ [⟨k, w, ln, pre.length + 1⟩]) fuel (by simp at hn lw; omega) e3 (by simp at hf lw; omega) drop_head (by simp at hs lw ⊢; omega)
        have el : (pre ++ w ++ x.takeWhile isSp).length = pre.length + w.length + (x.takeWhile isSp).length := by simp [Nat.add_assoc]
        rw [el] at ih ⊢
        exact ih.app
def encL : TR → CS → R A
  | .ok us, cs => .ok (.d (.list (us.map encT))) cs
  | .bad a b w, cs => .ex (badX a b w) cs
theorem line_eq {L : List Nat} {ln : Nat} (hL : L.length ≤ 900000) (cs : CS) : plainF f_line_tokens [.d (.int (ln : Int)), .d (.str (S L))] cs = encL (lexX ln 0 L) cs := by
  have hL' : L.length ≤ 1000000 := by omega
  have e3 : L = L.takeWhile isSp ++ L.dropWhile isSp := (List.takeWhile_append_dropWhile).symm
  have ld : (L.dropWhile isSp).length ≤ L.length := (List.dropWhile_suffix _).length_le
  have se := fun cs => sp_eq (pre := []) (l := L) hL' rfl cs
  simp only [List.length_nil, Nat.zero_add] at se
  have lp := line_loop (ln := ln) hL' (L.dropWhile isSp).length (L.dropWhile isSp) (L.takeWhile isSp) [] 1000000000 (Nat.le_refl _) e3 (by omega) drop_head (by simp; omega)
  have lx := lexX_sps ln L 0
  rw [Nat.zero_add] at lx
  rw [← lx] at lp
  rw [plainF_of rfl]
  show plainR cs (runBody 5 m_line_tokens [.d (.int (ln : Int)), .d (.str (S L))] []) = _
  unfold runBody m_line_tokens
  simp only [List.map_cons, List.map_nil, List.length_cons, List.length_nil, List.cons_append, List.nil_append, Nat.reduceAdd, Nat.reduceSub, List.replicate]
  rw [sSeq_nx (env1 := [some (.d (.int (ln : Int))), some (.d (.str (S L))), some (.c 0), none, none]) (cs1 := [tks []]) (by simp)]
  rw [sSeq_nx (env1 := ltE L ln (L.takeWhile isSp).length) (cs1 := [tks []]) (by
    have se' : ∀ cs, plainF f_end_of [.d (.str (S L)), .d (.int 0), .d (.str spS)] cs = _ := se
    simp only [sAsg_at, eCall_at, aCons_at, aNil_at, eVar_at, eC_at, List.getElem?_cons_succ, List.getElem?_cons_zero, R.bind_ok, List.length_cons, List.length_nil, Nat.reduceAdd, if_true, se', R.toS_ok, tgName_at, List.set_cons_succ, List.set_cons_zero])]
  have ww : sWhile 1000000000 [4] ltT ltB (ltE L ln (L.takeWhile isSp).length) [tks []] = whileN ltT ltB [4] 1000000000 (ltE L ln (L.takeWhile isSp).length) [tks []] := rfl
  cases o : lexX ln 0 L with
  | ok us =>
    rw [o] at lp
    obtain ⟨p, lp⟩ := lp
    rw [sSeq_nx (ww.trans lp)]
    simp [freeze_c (cs := [tks us]) (n := 0) (xs := us.map encT) rfl, encL, plainR]
  | bad a b w =>
    rw [o] at lp
    obtain ⟨env, c, lp⟩ := lp
    rw [sSeq_at, ww.trans lp]
    simp [encL, plainR]
end K03
namespace Sh
open PySem L2
theorem forIt_ex {tg : Tgt} {body : MS} {fg : List Nat} {x : A} {xs : List A} {env env1 : Env} {cs cs1 : CS} {e : Ex} (h : turn tg body x env cs = .ex e env1 cs1) : forIt tg body fg (x :: xs) env cs = .ex e env1 cs1 := by
  unfold turn at h
  unfold forIt
  cases q : tg x env cs with
  | none => rw [q] at h; cases h
  | some env2 =>
    rw [q] at h
    simp only at h ⊢
    rw [h]
    rfl
end Sh
namespace K03
open Sh PySem L2
/-! ### tokens_of -/
theorem lexX_len {ln : Nat} : ∀ (n : Nat) {pl : Nat} {l : List Nat} {us : List Tk}, l.length ≤ n → lexX ln pl l = .ok us → us.length ≤ l.length
  | 0, pl, l, us, hn, h => by
    have : l = [] := List.eq_nil_of_length_eq_zero (by omega)
    subst this
    cases h
    simp
  | n + 1, pl, l, us, hn, h => by
    rw [lexX_eq] at h
    cases e : step l with
    | stop => rw [e] at h; cases h; simp
    | err w => rw [e] at h; cases h
    | sp =>
      rw [e] at h
      obtain ⟨r, rfl⟩ := step_sp e
      have := lexX_len n (by simp at hn ⊢; omega) h
      simp at this ⊢
      omega
    | tok k w =>
      rw [e] at h
      obtain ⟨g1, _, r, rfl⟩ := step_tok e
      simp only [List.drop_left] at h
      cases q : lexX ln (pl + w.length) r with
      | bad _ _ _ => rw [q] at h; cases h
      | ok vs =>
        rw [q] at h
        cases h
        have := lexX_len n (by simp at hn; omega) q
        simp
        omega
theorem nlS : ("\n" : Str) = S [10] := by decide +kernel
theorem split_nl {x : List Nat} (h : x.length ≤ 900000) (cs : CS) : mSplit (.d (.str (S x))) [.d (.str ("\n" : Str))] cs = .ok (.d (.list ((spl 10 x).map fun l => .str (S l)))) cs := by
  have h1 : (("\n" : Str).length == 0) = false := by decide +kernel
  have h2 : (S x).length + 2 ≤ sizeLine := by rw [S_len]; exact size_le' (by omega)
  simp only [mSplit]
  rw [if_pos ⟨h1, h2⟩, nlS, split_one x (by omega), List.map_map]
  rfl
abbrev toE (x : List Nat) (ts : List Tk) : Sh.Env := [some (.d (.str (S x))), some (.d (.list (ts.map encT))), none, none]
abbrev toG : Tgt := tgTup 2 (tgCons (tgName 2) (tgCons (tgName 3) tgNil))
abbrev toB : MS := sAsg (eBin fAdd (eVar 1) (eCall 2 (plainF (f_line_tokens)) (aCons (eBin fAdd (eVar 2) (eC (.int 1))) (aCons (eVar 3) aNil)))) (tgName 1)
def ToOut (x : List Nat) (ts : List Tk) (r : RS) : TR → Prop
  | .ok us => r = .nx (toE x (ts ++ us)) []
  | .bad a b w => ∃ env, r = .ex (badX a b w) env []
def lsum (ls : List (List Nat)) : Nat := (ls.map List.length).sum
theorem lines_loop {x : List Nat} : ∀ (ls : List (List Nat)) (k : Nat) (ts : List Tk), ts.length + lsum ls ≤ 900000 → ToOut x ts (forIt toG toB [2, 3] (enumF k (ls.map fun l => .str (S l))) (toE x ts) []) (lexLines (k + 1) ls)
  | [], k, ts, h => by
    show forIt toG toB [2, 3] [] (toE x ts) [] = .nx (toE x (ts ++ [])) []
    rw [List.append_nil]
    rfl
  | l :: ls, k, ts, h => by
    have hl : lsum (l :: ls) = l.length + lsum ls := by simp [lsum]
    have le := fun cs => line_eq (ln := k + 1) (L := l) (by omega) cs
    rw [List.map_cons]
    show ToOut x ts (forIt toG toB [2, 3] (A.d (.tuple [.int (k : Nat), .str (S l)]) :: enumF (k + 1) (ls.map fun l => .str (S l))) (toE x ts) []) (after (lexX (k + 1) 0 l) (lexLines (k + 1 + 1) ls))
    have tn : turn toG toB (.d (.tuple [.int (k : Nat), .str (S l)])) (toE x ts) [] = toB [some (.d (.str (S x))), some (.d (.list (ts.map encT))), some (.d (.int (k : Int))), some (.d (.str (S l)))] [] := by
      simp
    cases o : lexX (k + 1) 0 l with
    | bad a b w =>
      rw [o] at le
      refine ⟨_, forIt_ex (env1 := [some (.d (.str (S x))), some (.d (.list (ts.map encT))), some (.d (.int (k : Int))), some (.d (.str (S l)))]) (cs1 := []) (e := badX a b w) ?_⟩
      rw [tn]
      have le' : ∀ cs, plainF f_line_tokens [.d (.int ((k : Int) + 1)), .d (.str (S l))] cs = .ex (badX a b w) cs := le
      simp only [sAsg_at, eCall_at, aCons_at, aNil_at, eVar_at, eC_at, eBin_at, List.getElem?_cons_succ, List.getElem?_cons_zero, R.bind_ok, fAdd_int, List.length_cons, List.length_nil, Nat.reduceAdd, if_true, le', R.bind_ex, R.toS_ex]
    | ok us =>
      rw [o] at le
      have ul := lexX_len l.length (Nat.le_refl _) o
      have le' : ∀ cs, plainF f_line_tokens [.d (.int ((k : Int) + 1)), .d (.str (S l))] cs = .ok (.d (.list (us.map encT))) cs := le
      have ad : ∀ cs, fAdd (.d (.list (ts.map encT))) (.d (.list (us.map encT))) cs = .ok (.d (.list ((ts ++ us).map encT))) cs := fun cs => by
        simp only [fAdd, toL]
        rw [if_pos (size_le' (by simp; omega)), List.map_append]
      have st : Goes (turn toG toB (.d (.tuple [.int (k : Nat), .str (S l)])) (toE x ts) []) [2, 3] (toE x (ts ++ us)) [] := by
        rw [tn]
        simp only [sAsg_at, eCall_at, aCons_at, aNil_at, eVar_at, eC_at, eBin_at, List.getElem?_cons_succ, List.getElem?_cons_zero, R.bind_ok, fAdd_int, List.length_cons, List.length_nil, Nat.reduceAdd, if_true, le', ad, R.toS_ok, tgName_at, Goes_nx]
        exact ⟨rfl, trivial⟩
      rw [forIt_step st]
      have ih := lines_loop (x := x) ls (k + 1) (ts ++ us) (by simp; omega)
      show ToOut x ts _ ((lexLines (k + 1 + 1) ls).app us)
      cases o2 : lexLines (k + 1 + 1) ls with
      | ok vs =>
        rw [o2] at ih
        show _ = RS.nx (toE x (ts ++ (us ++ vs))) []
        rw [← List.append_assoc]
        exact ih
      | bad a b w => rw [o2] at ih; exact ih
theorem lsum_spl (c : Nat) : ∀ x : List Nat, lsum (spl c x) ≤ x.length
  | [] => by simp [spl, lsum]
  | a :: r => by
    have ih := lsum_spl c r
    obtain ⟨h, t, e⟩ := spl_ne c r
    unfold spl
    rw [e] at ih ⊢
    split <;> simp [lsum] at ih ⊢ <;> omega
def encO : TR → CS → R A
  | .ok us, cs => .ok (.d (.tuple (us.map encT))) cs
  | .bad a b w, cs => .ex (badX a b w) cs
theorem tokens_eq {x : List Nat} (hx : x.length ≤ 900000) (cs : CS) : plainF f_tokens_of [.d (.str (S x))] cs = encO (lexText x) cs := by
  have sp := split_nl hx []
  have lp := lines_loop (x := x) (spl 10 x) 0 [] (by have := lsum_spl 10 x; simp; omega)
  rw [plainF_of rfl]
  show plainR cs (runBody 4 m_tokens_of [.d (.str (S x))] []) = _
  unfold runBody m_tokens_of
  simp only [List.map_cons, List.map_nil, List.length_cons, List.length_nil, List.cons_append, List.nil_append, Nat.reduceAdd, Nat.reduceSub, List.replicate]
  rw [sSeq_nx (env1 := toE x []) (cs1 := []) (by simp)]
  have fr : sFor 1000000000 [2, 3] (iEnumX (eMeth "str" mSplit (eVar 0) (aCons (eC (.str "\n")) aNil))) toG toB (toE x []) [] = forIt toG toB [2, 3] (enumF 0 ((spl 10 x).map fun l => .str (S l))) (toE x []) [] := by
    rw [sFor_at, iEnumX_at, eMeth_at]
    simp only [eVar_at, List.getElem?_cons_zero, R.bind_ok, aCons_at, aNil_at, eC_at, sp]
    rw [if_pos (by rfl)]
    rfl
  unfold lexText
  cases o : lexLines 1 (spl 10 x) with
  | ok us =>
    rw [o] at lp
    rw [sSeq_nx (fr.trans lp)]
    simp [encO, plainR, fTupleX, toS, toD]
  | bad a b w =>
    rw [o] at lp
    obtain ⟨env, lp⟩ := lp
    rw [sSeq_at, fr.trans lp]
    simp [encO, plainR]
/-! ### heard -/
abbrev encR : TR → PyData
  | .ok us => .tuple [.str "told", .tuple (us.map encT)]
  | .bad a b w => .tuple [.str "refused", .int (a : Int), .int (b : Int), .str (erS w)]
theorem heard_eq {x : List Nat} (hx : x.length ≤ 900000) (cs : CS) : plainF f__law_heard [.d (.str (S x))] cs = .ok (.d (encR (lexText x))) cs := by
  have tk := tokens_eq hx
  refine plainF_ok rfl ?_
  show runBody 2 m__law_heard [.d (.str (S x))] [] = _
  unfold runBody m__law_heard
  simp only [List.map_cons, List.map_nil, List.length_cons, List.length_nil, List.cons_append, List.nil_append, Nat.reduceAdd, Nat.reduceSub, List.replicate]
  cases o : lexText x with
  | ok us =>
    rw [o] at tk
    have tk' : ∀ cs, plainF f_tokens_of [.d (.str (S x))] cs = .ok (.d (.tuple (us.map encT))) cs := tk
    simp only [sTry, sRet_at, eTup_at, eCall_at, aCons_at, aNil_at, eVar_at, eC_at, List.getElem?_cons_succ, List.getElem?_cons_zero, R.bind_ok, List.length_cons, List.length_nil, Nat.reduceAdd, if_true, tk', allD_d, allD_nil, Option.map_some]
    rw [if_pos (size_le' (by simp))]
    simp
  | bad a b w =>
    rw [o] at tk
    have tk' : ∀ cs, plainF f_tokens_of [.d (.str (S x))] cs = .ex (badX a b w) cs := tk
    simp only [sTry, sRet_at, eTup_at, eCall_at, aCons_at, aNil_at, eVar_at, eC_at, List.getElem?_cons_succ, List.getElem?_cons_zero, R.bind_ok, List.length_cons, List.length_nil, Nat.reduceAdd, if_true, tk', R.bind_ex, R.toS_ex]
    have t1 : tCls [("BadSource", true)] "BadSource" = some true := by decide +kernel
    have x1 : (eXf 1 "line" ["BadSource"] : ME) [some (.d (.str (S x))), some (.x (badX a b w))] [] = .ok (.d (.int (a : Int))) [] := by
      unfold eXf
      simp only [List.getElem?_cons_succ, List.getElem?_cons_zero]
      rw [if_pos (by decide +kernel)]
      rfl
    have x2 : (eXf 1 "place" ["BadSource"] : ME) [some (.d (.str (S x))), some (.x (badX a b w))] [] = .ok (.d (.int (b : Int))) [] := by
      unfold eXf
      simp only [List.getElem?_cons_succ, List.getElem?_cons_zero]
      rw [if_pos (by decide +kernel)]
      rfl
    have x3 : (eXf 1 "word" ["BadSource"] : ME) [some (.d (.str (S x))), some (.x (badX a b w))] [] = .ok (.d (.str (erS w))) [] := by
      unfold eXf
      simp only [List.getElem?_cons_succ, List.getElem?_cons_zero]
      rw [if_pos (by decide +kernel)]
      rfl
    have ie : inE (some 1) (badX a b w) [some (.d (.str (S x))), none] = [some (.d (.str (S x))), some (.x (badX a b w))] := rfl
    simp only [runCl, t1, ie, eTup_at, aCons_at, aNil_at, eC_at, x1, x2, x3, R.bind_ok, allD_d, allD_nil, Option.map_some, sRet_at]
    rw [if_pos (size_le' (by simp))]
    simp [endCl]
end K03
namespace Sh
open PySem L2
@[simp] theorem fLeX_int {p : Int → Int → Bool} {t : Str → Str → Bool} {i j : Int} {cs : CS} : fLeX p t (.d (.int i)) (.d (.int j)) cs = .ok (.d (.bool (p i j))) cs := rfl
@[simp] theorem fLeX_str {p : Int → Int → Bool} {t : Str → Str → Bool} {i j : Str} {cs : CS} : fLeX p t (.d (.str i)) (.d (.str j)) cs = .ok (.d (.bool (t i j))) cs := rfl
end Sh
namespace K03
open Sh PySem L2
/-! ### the law's own lexer -/
theorem S_a : ("a" : Str) = S [97] := by decide +kernel
theorem S_z : ("z" : Str) = S [122] := by decide +kernel
theorem S_0 : ("0" : Str) = S [48] := by decide +kernel
theorem S_9 : ("9" : Str) = S [57] := by decide +kernel
theorem ofw_eq (c : Nat) (cs : CS) : plainF f__law_of_word [.d (.str (S [c]))] cs = .ok (.d (.bool (isAl c))) cs := by
  refine plainF_ok rfl ?_
  show runBody 1 m__law_of_word [.d (.str (S [c]))] [] = _
  unfold runBody m__law_of_word
  simp only [List.map_cons, List.map_nil, List.length_cons, List.length_nil, List.cons_append, List.nil_append, Nat.reduceAdd, Nat.reduceSub, List.replicate, sRet_at, eOr_at, eChain_at, eC_at, eVar_at, List.getElem?_cons_zero, R.bind_ok, fLeS, fLeX_str, asB_bool, S_a, S_z, S_0, S_9, ltS_one]
  have : isAl c = ((!decide (c < 97)) && !decide (122 < c) || ((!decide (c < 48)) && !decide (57 < c))) := by
    unfold isAl isLow isDig
    rw [Bool.eq_iff_iff]
    simp
  rw [this]
  by_cases h1 : c < 97 <;> by_cases h2 : 122 < c <;> by_cases h3 : c < 48 <;> by_cases h4 : 57 < c <;> simp [h1, h2, h3, h4]
/-! the signs taken -/
abbrev lxT2 : MT := tAndM (tOf (eBin fLtS (eVar 7) (eFn fLen (aCons (eVar 4) aNil)))) (tAndM (tTr (eCall 1 (plainF (f__law_of_word)) (aCons (eBin fIx (eVar 4) (eVar 7)) aNil))) (tOrM (tOf (eBin fEq (eVar 8) (eC (.str "word")))) (tOf (eBin fLeS (eBin fIx (eVar 4) (eVar 7)) (eC (.str "9"))))))
abbrev lx2 : MS := sAsg (eBin fAdd (eVar 7) (eC (.int 1))) (tgName 7)
/-- text, lines; number, line, at, sign, end, kind -/
abbrev lxE (tx ls : PyData) (nm : Nat) (L : List Nat) (a : Nat) (x y z : Option A) : Sh.Env := [some (.d tx), some (.c 0), some (.d ls), some (.d (.int (nm : Int))), some (.d (.str (S L))), some (.d (.int (a : Int))), x, y, z]
abbrev dS (l : List Nat) : Option A := some (.d (.str (S l)))
abbrev dN (n : Nat) : Option A := some (.d (.int (n : Int)))
abbrev dK (k : Nat) : Option A := some (.d (.str (kdS k)))
def takes (k : Nat) : Nat → Bool := if k = 0 then isAl else isDig
theorem kd_word (k : Nat) (hk : k < 2) : decide (kdS k = ("word" : Str)) = decide (k = 0) := by
  have : k = 0 ∨ k = 1 := by omega
  rcases this with rfl | rfl <;> decide +kernel
section
variable {tx ls : PyData} {nm : Nat} {L : List Nat} {cs : CS}
theorem take_loop {a k : Nat} {x : Option A} (hL : L.length ≤ 1000000) (hk : k < 2) : ∀ (l pre : List Nat), L = pre ++ l → ∀ fuel, l.length < fuel →
    whileN lxT2 lx2 [] fuel (lxE tx ls nm L a x (dN pre.length) (dK k)) cs = .nx (lxE tx ls nm L a x (dN (pre.length + (l.takeWhile (takes k)).length)) (dK k)) cs
  | [], pre, e, fuel + 1, hf => by
    have hl : L.length = pre.length := by rw [e]; simp
    have t : lxT2 (lxE tx ls nm L a x (dN pre.length) (dK k)) cs = .ok false cs := by simp [fLen_S hL, hl, fLtS]
    unfold whileN
    rw [t]
    simp
  | c :: r, pre, e, fuel + 1, hf => by
    have hl : L.length = pre.length + (r.length + 1) := by rw [e]; simp
    have hx : L[pre.length]? = some c := by rw [e]; exact get_app
    have t : lxT2 (lxE tx ls nm L a x (dN pre.length) (dK k)) cs = .ok (takes k c) cs := by
      have lt : (pre.length : Int) < (L.length : Int) := by omega
      simp only [tAndM_at, tOrM_at, tTr_at, tOf_at, eBin_at, eFn_at, eCall_at, aCons_at, aNil_at, eVar_at, eC_at, List.getElem?_cons_succ, List.getElem?_cons_zero, R.bind_ok, fLen_S hL, fLtS, fLeS, fLeX_int, fLeX_str, asB_bool, decide_eq_true lt, if_true, fIx_S hL hx, List.length_cons, List.length_nil, Nat.reduceAdd, ofw_eq, truD_bool, fEq_str, kd_word k hk, S_9, ltS_one]
      have : k = 0 ∨ k = 1 := by omega
      rcases this with rfl | rfl
      · cases h : isAl c <;> simp [takes, h]
      · by_cases h9 : 57 < c
        · have d0 : isDig c = false := by unfold isDig; exact decide_eq_false (by omega)
          cases h : isAl c <;> simp [takes, h9, d0]
        · have d1 : isAl c = isDig c := by unfold isAl isLow isDig; rw [Bool.eq_iff_iff]; simp; omega
          rw [d1]
          cases h : isDig c <;> simp [takes, h, h9]
    unfold whileN
    rw [t, List.takeWhile_cons]
    simp only [R.toS_ok]
    by_cases hc : takes k c = true
    · rw [if_pos hc, if_pos hc]
      have b : lx2 (lxE tx ls nm L a x (dN pre.length) (dK k)) cs = .nx (lxE tx ls nm L a x (dN (pre ++ [c]).length) (dK k)) cs := by
        simp
      rw [b]
      show whileN lxT2 lx2 [] fuel (wipeE [] (lxE tx ls nm L a x (dN (pre ++ [c]).length) (dK k))) cs = _
      rw [wipeE_nil, take_loop hL hk r (pre ++ [c]) (by rw [e]; simp) fuel (by simp at hf; omega)]
      have : (pre ++ [c]).length + (r.takeWhile (takes k)).length = pre.length + (c :: r.takeWhile (takes k)).length := by simp; omega
      rw [this]
    · rw [if_neg hc, if_neg hc]
      simp
/-! a word or a number -/
abbrev lxR (w : Str) : MS := sRet (eTup (aCons (eC (.str "refused")) (aCons (eBin fAdd (eVar 3) (eC (.int 1))) (aCons (eBin fAdd (eVar 5) (eC (.int 1))) (aCons (eC (.str w)) aNil)))))
theorem lxR_eq {a w : Nat} {x y z : Option A} : lxR (erS w) (lxE tx ls nm L a x y z) cs = .rt (.d (encR (.bad (nm + 1) (a + 1) w))) cs := by
  simp only [sRet_at, eTup_at, aCons_at, aNil_at, eC_at, eBin_at, eVar_at, List.getElem?_cons_succ, List.getElem?_cons_zero, R.bind_ok, fAdd_int, allD_d, allD_nil, Option.map_some]
  rw [if_pos (size_le' (by simp))]
  rfl
abbrev lxW : MS := sSeq (sAsg (eBin fIx (eTup (aCons (eC (.str "word")) (aCons (eC (.str "number")) aNil))) (eFn fInt (aCons (eBin fLeS (eVar 6) (eC (.str "9"))) aNil))) (tgName 8))
  (sSeq (sWhile 1000000000 [] lxT2 lx2)
  (sSeq (sIf (tOf (eBin fGtS (eBin fSub (eVar 7) (eVar 5)) (eC (.int 12)))) (lxR "long") sNext)
  (sSeq (sIf (tAndM (tOf (eBin fEq (eVar 8) (eC (.str "number")))) (tAndM (tOf (eBin fEq (eVar 6) (eC (.str "0")))) (tOf (eBin fGtS (eBin fSub (eVar 7) (eVar 5)) (eC (.int 1)))))) (lxR "number") sNext)
  (sDrop (eMeth "list" mAppend (eVar 1) (aCons (eTup (aCons (eVar 8) (aCons (eSlice (eVar 4) (oSome (eVar 5)) (oSome (eVar 7))) (aCons (eBin fAdd (eVar 3) (eC (.int 1))) (aCons (eBin fAdd (eVar 5) (eC (.int 1))) aNil))))) aNil))))))
theorem lxW_eq {pre r w : List Nat} {c k : Nat} {ts : List Tk} (hL : L.length ≤ 1000000) (hk : k < 2) (e : L = pre ++ c :: r) (hw : w = c :: r.takeWhile (takes k)) (h9 : decide (57 < c) = decide (k = 0)) (hs : ts.length < 1000000) : lxW (lxE tx ls nm L pre.length (dS [c]) (dN (pre.length + 1)) none) [tks ts] =
    if 12 < w.length then .rt (.d (encR (.bad (nm + 1) (pre.length + 1) 1))) [tks ts]
    else if k = 1 ∧ 1 < w.length ∧ c = 48 then .rt (.d (encR (.bad (nm + 1) (pre.length + 1) 2))) [tks ts]
    else .nx (lxE tx ls nm L pre.length (dS [c]) (dN (pre.length + w.length)) (dK k)) [tks (ts ++ [⟨k, w, nm + 1, pre.length + 1⟩])] := by
  have hl : L.length = pre.length + (r.length + 1) := by rw [e]; simp
  have tp := take_loop (tx := tx) (ls := ls) (nm := nm) (L := L) (cs := [tks ts]) (a := pre.length) (x := dS [c]) hL hk r (pre ++ [c]) (by rw [e]; simp) 1000000000 (by omega)
  have en : (pre ++ [c]).length + (r.takeWhile (takes k)).length = pre.length + w.length := by rw [hw]; simp; omega
  rw [en] at tp
  rw [show (pre ++ [c]).length = pre.length + 1 from by simp] at tp
  unfold lxW
  have s1 : sAsg (eBin fIx (eTup (aCons (eC (.str "word")) (aCons (eC (.str "number")) aNil))) (eFn fInt (aCons (eBin fLeS (eVar 6) (eC (.str "9"))) aNil))) (tgName 8) (lxE tx ls nm L pre.length (dS [c]) (dN (pre.length + 1)) none) [tks ts] = .nx (lxE tx ls nm L pre.length (dS [c]) (dN (pre.length + 1)) (dK k)) [tks ts] := by
    simp only [sAsg_at, eBin_at, eTup_at, aCons_at, aNil_at, eC_at, eFn_at, eVar_at, List.getElem?_cons_succ, List.getElem?_cons_zero, R.bind_ok, allD_d, allD_nil, Option.map_some, fLeS, fLeX_str, S_9, ltS_one, h9]
    rw [if_pos (size_le' (by simp))]
    have : k = 0 ∨ k = 1 := by omega
    rcases this with rfl | rfl
    · rfl
    · rfl
  rw [sSeq_nx s1, sSeq_nx (m := sWhile 1000000000 [] lxT2 lx2) (by rw [sWhile_at, wipeE_nil]; exact tp)]
  have el : ((pre.length + w.length : Nat) : Int) - (pre.length : Int) = (w.length : Int) := by omega
  have wl : w.length = (r.takeWhile (takes k)).length + 1 := by rw [hw]; simp
  obtain ⟨x, ex⟩ : ∃ x, c :: r = w ++ x := ⟨r.dropWhile (takes k), by rw [hw, List.cons_append, List.takeWhile_append_dropWhile]⟩
  have lx' : r.length + 1 = w.length + x.length := by have := congrArg List.length ex; simpa using this
  generalize hE : lxE tx ls nm L pre.length (dS [c]) (dN (pre.length + w.length)) (dK k) = E
  have t1 : (tOf (eBin fGtS (eBin fSub (eVar 7) (eVar 5)) (eC (.int 12))) : MT) E [tks ts] = .ok (decide (12 < w.length)) [tks ts] := by
    subst hE
    simp only [tOf_at, eBin_at, eVar_at, eC_at, List.getElem?_cons_succ, List.getElem?_cons_zero, R.bind_ok, fSub_int, el, fGtS, fLeX_int, asB_bool]
    congr 1
    rw [Bool.eq_iff_iff]; simp; omega
  have t2 : (tAndM (tOf (eBin fEq (eVar 8) (eC (.str "number")))) (tAndM (tOf (eBin fEq (eVar 6) (eC (.str "0")))) (tOf (eBin fGtS (eBin fSub (eVar 7) (eVar 5)) (eC (.int 1))))) : MT) E [tks ts] = .ok (decide (k = 1 ∧ 1 < w.length ∧ c = 48)) [tks ts] := by
    subst hE
    simp only [tAndM_at, tOf_at, eBin_at, eVar_at, eC_at, List.getElem?_cons_succ, List.getElem?_cons_zero, R.bind_ok, fSub_int, el, fGtS, fLeX_int, asB_bool, fEq_str, kd_num k (by omega), S_zero]
    by_cases h1 : k = 1 <;> by_cases h2 : 1 < w.length <;> by_cases h3 : c = 48 <;> simp [h1, h2, h3] <;> omega
  by_cases h12 : 12 < w.length
  · rw [decide_eq_true h12] at t1
    rw [if_pos h12]
    have : sIf (tOf (eBin fGtS (eBin fSub (eVar 7) (eVar 5)) (eC (.int 12)))) (lxR "long") sNext E [tks ts] = .rt (.d (encR (.bad (nm + 1) (pre.length + 1) 1))) [tks ts] := by
      rw [sIf_tt t1]
      subst hE
      exact lxR_eq (w := 1)
    rw [sSeq_rt this]
  · rw [decide_eq_false h12] at t1
    rw [if_neg h12, sSeq_nx (env1 := E) (cs1 := [tks ts]) (by rw [sIf_ff t1]; rfl)]
    by_cases hz : k = 1 ∧ 1 < w.length ∧ c = 48
    · rw [decide_eq_true hz] at t2
      rw [if_pos hz]
      have : sIf (tAndM (tOf (eBin fEq (eVar 8) (eC (.str "number")))) (tAndM (tOf (eBin fEq (eVar 6) (eC (.str "0")))) (tOf (eBin fGtS (eBin fSub (eVar 7) (eVar 5)) (eC (.int 1)))))) (lxR "number") sNext E [tks ts] = .rt (.d (encR (.bad (nm + 1) (pre.length + 1) 2))) [tks ts] := by
        rw [sIf_tt t2]
        subst hE
        exact lxR_eq (w := 2)
      rw [sSeq_rt this]
    · rw [decide_eq_false hz] at t2
      rw [if_neg hz, sSeq_nx (env1 := E) (cs1 := [tks ts]) (by rw [sIf_ff t2]; rfl)]
      subst hE
      have sl : ((L.drop (min pre.length L.length)).take (min (pre.length + w.length) L.length - min pre.length L.length)) = w := by
        rw [Nat.min_eq_left (by omega), Nat.min_eq_left (by omega), e, List.drop_left, show pre.length + w.length - pre.length = w.length from by omega, ex, List.take_left]
      have hsl := fSlice_S (cs := [tks ts]) (a := pre.length) (b := pre.length + w.length) hL
      rw [sl] at hsl
      have ap : mAppend (.c 0) [.d (encT ⟨k, w, nm + 1, pre.length + 1⟩)] [tks ts] = .ok (.d .none) [tks (ts ++ [⟨k, w, nm + 1, pre.length + 1⟩])] := by
        rw [mAppend_c (n := 0) (xs := ts.map encT) rfl (size_lt' (by simp; omega))]
        simp
      refine drop_app (k := 0) (x := encT ⟨k, w, nm + 1, pre.length + 1⟩) (cs1 := [tks ts]) (by simp) rfl ?_ ap
      simp only [eTup_at, aCons_at, aNil_at, eVar_at, eBin_at, eC_at, eSlice, oSome, List.getElem?_cons_succ, List.getElem?_cons_zero, R.bind_ok, hsl, fAdd_int, allD_d, allD_nil, Option.map_some]
      rw [if_pos (size_le' (by simp))]
      rfl
end
end K03
namespace K03
open Sh PySem L2
/-! ### gaps and pieces -/
theorem gap_str : ([" ", "", "\n", "  ", "#\n", " # a-b's (Remark) \"x\" 07 &\n", "\n\n \n", "   "] : List Str) = gaps.map S := by decide +kernel
theorem gap_eq {u : Cell} (hu : Urn u) : ∃ (g : List Nat) (u' : Cell), g ∈ gaps ∧ Urn u' ∧ ∀ rest : CS, partF f__law_gap [.c 0] (u :: rest) = .ok (.d (.str (S g))) (u' :: rest) := by
  obtain ⟨v, u', hv, hu', dr⟩ := draw hu (many := 8) (by omega) 10
  have dr := dr []
  have hl : gaps.length = 8 := by decide
  refine ⟨gaps[v], u', List.getElem_mem _, hu', fun rest => partF_1 (k := 0) rfl rfl ?_⟩
  have ix : fIx (.d (.tuple [.str " ", .str "", .str "\n", .str "  ", .str "#\n", .str " # a-b's (Remark) \"x\" 07 &\n", .str "\n\n \n", .str "   "])) (.d (.int (v : Int))) [u'] = .ok (.d (.str (S gaps[v]))) [u'] := by
    have e : ([.str " ", .str "", .str "\n", .str "  ", .str "#\n", .str " # a-b's (Remark) \"x\" 07 &\n", .str "\n\n \n", .str "   "] : List PyData) = gaps.map fun g => .str (S g) := by
      have := congrArg (List.map PyData.str) gap_str
      rw [List.map_map] at this
      exact this
    rw [e]
    exact fIx_tn (by rw [List.getElem?_map, List.getElem?_eq_getElem (by omega)]; rfl)
  show runBody 1 m__law_gap [.c 0] [u] = _
  unfold runBody m__law_gap
  simp only [List.map_cons, List.map_nil, List.length_cons, List.length_nil, List.cons_append, List.nil_append, Nat.reduceAdd, Nat.reduceSub, List.replicate, sRet_at, eBin_at, eTup_at, eCall_at, aCons_at, aNil_at, eC_at, eVar_at, List.getElem?_cons_zero, R.bind_ok, allD_d, allD_nil, Option.map_some]
  rw [if_pos (size_le' (by simp))]
  have dr' : partF f__law_take [.c 0, .d (.int 10), .d (.int 8)] [u] = .ok (.d (.int (v : Int))) [u'] := dr
  simp only [R.bind_ok, if_true, dr', ix, R.toS_ok]
  simp [fin]
abbrev pcE (w : Nat) (f z : Option A) (row : List Nat) : Sh.Env := [some (.c 0), some (.d (.int (w : Int))), f, z, some (.d (.str (S row)))]
abbrev pcT : MT := tOf (eBin fLt (eFn fLen (aCons (eVar 4) aNil)) (eVar 3))
abbrev pcB (al : Str) (place many : Int) : MS := sAsg (eBin fAdd (eVar 4) (eBin fIx (eC (.str al)) (eCall 3 (partF (f__law_take)) (aCons (eVar 0) (aCons (eC (.int place)) (aCons (eC (.int many)) aNil)))))) (tgName 4)
theorem fIx_str {z : Str} {cs : CS} {n c : Nat} (h : z.length ≤ 1000000) (hc : z.cps.toList[n]? = some c) : fIx (.d (.str z)) (.d (.int (n : Int))) cs = .ok (.d (.str (S [c]))) cs := by
  have := size_le' h
  simp only [fIx, if_pos this]
  rw [atI_nat hc]
theorem fAdd_S {a b : List Nat} {cs : CS} (h : a.length + b.length ≤ 1000000) : fAdd (.d (.str (S a))) (.d (.str (S b))) cs = .ok (.d (.str (S (a ++ b)))) cs := by
  have : (S a).length + (S b).length ≤ sizeLine := by rw [S_len, S_len]; exact size_le' h
  simp only [fAdd]
  rw [if_pos this, S_app]
theorem row_loop {al : Str} {pI mI : Int} {place many size w : Nat} {f : Option A} {p : Nat → Bool} (eP : pI = (place : Int)) (eM : mI = (many : Int)) (hm : 0 < many) (ha : al.cps.toList.length = many) (hm2 : many ≤ 1000) (hp : al.cps.toList.all p = true) (hs : size ≤ 1000) : ∀ (m : Nat) (row : List Nat) (u : Cell) (fuel : Nat), row.length + m = size → Urn u → m < fuel →
    ∃ (e : List Nat) (u' : Cell), e.length = m ∧ e.all p = true ∧ Urn u' ∧ whileN pcT (pcB al pI mI) [] fuel (pcE w f (some (.d (.int (size : Int)))) row) [u] = .nx (pcE w f (some (.d (.int (size : Int)))) (row ++ e)) [u']
  | 0, row, u, fuel + 1, hr, hu, hf => by
    refine ⟨[], u, rfl, rfl, hu, ?_⟩
    have t : pcT (pcE w f (some (.d (.int (size : Int)))) row) [u] = .ok false [u] := by
      simp [fLen_S (l := row) (by omega : row.length ≤ 1000000), fLt, show row.length = size from by omega]
    unfold whileN
    rw [t]
    simp
  | m + 1, row, u, fuel + 1, hr, hu, hf => by
    obtain ⟨v, u1, hv, hu1, dr⟩ := draw hu hm place
    have dr := dr []
    have hv' : v < al.cps.toList.length := by omega
    have lt : (row.length : Int) < (size : Int) := by omega
    have t : pcT (pcE w f (some (.d (.int (size : Int)))) row) [u] = .ok true [u] := by
      simp [fLen_S (l := row) (by omega : row.length ≤ 1000000), fLt, lt]
    have ix : fIx (.d (.str al)) (.d (.int (v : Int))) [u1] = .ok (.d (.str (S [al.cps.toList[v]]))) [u1] := fIx_str (by rw [str_len]; omega) (List.getElem?_eq_getElem hv')
    subst eP eM
    have b : pcB al (place : Int) (many : Int) (pcE w f (some (.d (.int (size : Int)))) row) [u] = .nx (pcE w f (some (.d (.int (size : Int)))) (row ++ [al.cps.toList[v]])) [u1] := by
      simp only [sAsg_at, eBin_at, eCall_at, aCons_at, aNil_at, eC_at, eVar_at, List.getElem?_cons_zero, List.getElem?_cons_succ, R.bind_ok, List.length_cons, List.length_nil, Nat.reduceAdd, if_true, dr, ix, fAdd_S (cs := [u1]) (a := row) (b := [al.cps.toList[v]]) (by simp; omega), R.toS_ok, tgName_at, List.set_cons_zero, List.set_cons_succ]
    obtain ⟨e, u', h1, h2, h3, h4⟩ := row_loop (place := place) (w := w) (f := f) rfl rfl hm ha hm2 hp hs m (row ++ [al.cps.toList[v]]) u1 fuel (by simp; omega) hu1 (by omega)
    refine ⟨al.cps.toList[v] :: e, u', by simp [h1], ?_, h3, ?_⟩
    · rw [List.all_cons, h2, List.all_eq_true.mp hp _ (List.getElem_mem hv')]
      rfl
    · unfold whileN
      rw [t]
      simp only [R.toS_ok, if_true]
      rw [b]
      show whileN pcT (pcB al (place : Int) (many : Int)) [] fuel (wipeE [] (pcE w f (some (.d (.int (size : Int)))) (row ++ [al.cps.toList[v]]))) [u1] = _
      rw [wipeE_nil, h4]
      simp
abbrev keptS : List Str := ["world", "counter", "dial", "deck", "rope", "proc", "either", "or", "loop", "repeat", "call", "back"]
theorem kept_ok : ∀ v, v < 12 → ∃ w : List Nat, keptS[v]? = some (S w) ∧ w.length ≤ 12 ∧ ∃ c r, w = c :: r ∧ isLow c = true ∧ r.all isAl = true := by
  intro v hv
  have : v = 0 ∨ v = 1 ∨ v = 2 ∨ v = 3 ∨ v = 4 ∨ v = 5 ∨ v = 6 ∨ v = 7 ∨ v = 8 ∨ v = 9 ∨ v = 10 ∨ v = 11 := by omega
  rcases this with rfl | rfl | rfl | rfl | rfl | rfl | rfl | rfl | rfl | rfl | rfl | rfl
  · exact ⟨[119, 111, 114, 108, 100], by decide +kernel, by decide, 119, _, rfl, by decide, by decide⟩
  · exact ⟨[99, 111, 117, 110, 116, 101, 114], by decide +kernel, by decide, 99, _, rfl, by decide, by decide⟩
  · exact ⟨[100, 105, 97, 108], by decide +kernel, by decide, 100, _, rfl, by decide, by decide⟩
  · exact ⟨[100, 101, 99, 107], by decide +kernel, by decide, 100, _, rfl, by decide, by decide⟩
  · exact ⟨[114, 111, 112, 101], by decide +kernel, by decide, 114, _, rfl, by decide, by decide⟩
  · exact ⟨[112, 114, 111, 99], by decide +kernel, by decide, 112, _, rfl, by decide, by decide⟩
  · exact ⟨[101, 105, 116, 104, 101, 114], by decide +kernel, by decide, 101, _, rfl, by decide, by decide⟩
  · exact ⟨[111, 114], by decide +kernel, by decide, 111, _, rfl, by decide, by decide⟩
  · exact ⟨[108, 111, 111, 112], by decide +kernel, by decide, 108, _, rfl, by decide, by decide⟩
  · exact ⟨[114, 101, 112, 101, 97, 116], by decide +kernel, by decide, 114, _, rfl, by decide, by decide⟩
  · exact ⟨[99, 97, 108, 108], by decide +kernel, by decide, 99, _, rfl, by decide, by decide⟩
  · exact ⟨[98, 97, 99, 107], by decide +kernel, by decide, 98, _, rfl, by decide, by decide⟩
abbrev rwS : Str := "abcxyz0123456789"
abbrev dgS : Str := "123456789"
theorem rwS_l : rwS.cps.toList = [97, 98, 99, 120, 121, 122, 48, 49, 50, 51, 52, 53, 54, 55, 56, 57] := by decide +kernel
theorem dgS_l : dgS.cps.toList = List.range' 49 9 := by decide +kernel
theorem ofS_S (a : Str) : a = S a.cps.toList := S_of a
theorem piece_eq {u : Cell} (hu : Urn u) {wide : Nat} (hw : wide < 2) : ∃ (w : List Nat) (k : Nat) (u' : Cell), Piece w k ∧ Urn u' ∧ ∀ rest : CS, partF f__law_piece [.c 0, .d (.int (wide : Int))] (u :: rest) = .ok (.d (.str (S w))) (u' :: rest) := by
  have core : ∃ (w : List Nat) (k : Nat) (u' : Cell), Piece w k ∧ Urn u' ∧ f__law_piece [.c 0, .d (.int (wide : Int))] [u] = .ok (.d (.str (S w))) [u'] := by
    obtain ⟨form, u1, hv, hu1, d1⟩ := draw hu (many := 5) (by omega) 1
    have d1' : partF f__law_take [.c 0, .d (.int 1), .d (.int 5)] [u] = .ok (.d (.int (form : Int))) [u1] := d1 []
    unfold f__law_piece runBody m__law_piece
    simp only [List.map_cons, List.map_nil, List.length_cons, List.length_nil, List.cons_append, List.nil_append, Nat.reduceAdd, Nat.reduceSub, List.replicate]
    rw [sSeq_nx (env1 := [some (.c 0), some (.d (.int (wide : Int))), some (.d (.int (form : Int))), none, none]) (cs1 := [u1]) (by simp [d1'])]
    by_cases h0 : form = 0
    · subst h0
      obtain ⟨v, u2, hv2, hu2, d2⟩ := draw hu1 (many := 8) (by omega) 2
      have d2' : partF f__law_take [.c 0, .d (.int 2), .d (.int 8)] [u1] = .ok (.d (.int (v : Int))) [u2] := d2 []
      have hl : sgn.length = 8 := by decide
      have ix : fIx (.d (.str sgnS)) (.d (.int (v : Int))) [u2] = .ok (.d (.str (S [sgn[v]]))) [u2] := fIx_str (by decide +kernel) (by rw [sgnS_l]; exact List.getElem?_eq_getElem (by omega))
      refine ⟨[sgn[v]], 2, u2, .inr (.inr ⟨rfl, sgn[v], rfl, List.getElem_mem _⟩), hu2, ?_⟩
      rw [sSeq_rt (a := .d (.str (S [sgn[v]]))) (cs1 := [u2]) (by
        rw [sIf_tt (cs1 := [u1]) (by simp)]
        simp [d2', ix])]
      simp [fin]
    · rw [sSeq_nx (env1 := [some (.c 0), some (.d (.int (wide : Int))), some (.d (.int (form : Int))), none, none]) (cs1 := [u1]) (by rw [sIf_ff (cs1 := [u1]) (by simp [h0])]; rfl)]
      by_cases h1 : form = 1
      · subst h1
        obtain ⟨v, u2, hv2, hu2, d2⟩ := draw hu1 (many := 12) (by omega) 3
        have d2' : partF f__law_take [.c 0, .d (.int 3), .d (.int 12)] [u1] = .ok (.d (.int (v : Int))) [u2] := d2 []
        obtain ⟨w, kw, ok⟩ := kept_ok v hv2
        have ix : fIx (.d (.tuple (keptS.map PyData.str))) (.d (.int (v : Int))) [u2] = .ok (.d (.str (S w))) [u2] := fIx_tn (by rw [List.getElem?_map, kw]; rfl)
        refine ⟨w, 0, u2, .inl ⟨rfl, ok⟩, hu2, ?_⟩
        rw [sSeq_rt (a := .d (.str (S w))) (cs1 := [u2]) (by
          rw [sIf_tt (cs1 := [u1]) (by simp)]
          simp only [sRet_at, eBin_at, eTup_at, eCall_at, aCons_at, aNil_at, eC_at, eVar_at, List.getElem?_cons_zero, R.bind_ok, allD_d, allD_nil, Option.map_some]
          rw [if_pos (size_le' (by simp))]
          simp only [R.bind_ok, List.length_cons, List.length_nil, Nat.reduceAdd, if_true, d2']
          rw [show fIx (.d (.tuple [.str "world", .str "counter", .str "dial", .str "deck", .str "rope", .str "proc", .str "either", .str "or", .str "loop", .str "repeat", .str "call", .str "back"])) (.d (.int (v : Int))) [u2] = _ from ix]
          rfl)]
        simp [fin]
      · rw [sSeq_nx (env1 := [some (.c 0), some (.d (.int (wide : Int))), some (.d (.int (form : Int))), none, none]) (cs1 := [u1]) (by rw [sIf_ff (cs1 := [u1]) (by simp; omega)]; rfl)]
        obtain ⟨mm, hmm, im⟩ : ∃ mm : Nat, (mm = 3 ∨ mm = 12) ∧ ∀ cs, fIx (.d (.tuple [.int 3, .int 12])) (.d (.int (wide : Int))) cs = .ok (.d (.int (mm : Int))) cs := by
          have : wide = 0 ∨ wide = 1 := by omega
          rcases this with rfl | rfl
          · exact ⟨3, .inl rfl, fun cs => fIx_tn rfl⟩
          · exact ⟨12, .inr rfl, fun cs => fIx_tn rfl⟩
        obtain ⟨sz, u2, hv2, hu2, d2⟩ := draw hu1 (many := mm) (by omega) 4
        have d2' : partF f__law_take [.c 0, .d (.int 4), .d (.int (mm : Int))] [u1] = .ok (.d (.int (sz : Int))) [u2] := d2 []
        have e1 : (1 : Int) + (sz : Int) = ((sz + 1 : Nat) : Int) := by omega
        rw [sSeq_nx (env1 := [some (.c 0), some (.d (.int (wide : Int))), some (.d (.int (form : Int))), some (.d (.int ((sz + 1 : Nat) : Int))), none]) (cs1 := [u2]) (by
          simp only [sAsg_at, eBin_at, eTup_at, eCall_at, aCons_at, aNil_at, eC_at, eVar_at, List.getElem?_cons_zero, List.getElem?_cons_succ, R.bind_ok, allD_d, allD_nil, Option.map_some]
          rw [if_pos (size_le' (by simp))]
          simp only [R.bind_ok, im, List.length_cons, List.length_nil, Nat.reduceAdd, if_true, d2', fAdd_int, e1, R.toS_ok, tgName_at, List.set_cons_zero, List.set_cons_succ])]
        by_cases h4 : form < 4
        · obtain ⟨v, u3, hv3, hu3, d3⟩ := draw hu2 (many := 26) (by omega) 5
          have d3' : partF f__law_take [.c 0, .d (.int 5), .d (.int 26)] [u2] = .ok (.d (.int (v : Int))) [u3] := d3 []
          have ix : fIx (.d (.str lowS)) (.d (.int (v : Int))) [u3] = .ok (.d (.str (S [97 + v]))) [u3] := fIx_str (by decide +kernel) (by rw [lowS_l, List.getElem?_range' (by omega)]; simp)
          obtain ⟨e, u4, q1, q2, q3, q4⟩ := row_loop (al := rwS) (pI := 6) (mI := 16) (place := 6) (many := 16) (size := sz + 1) (w := wide) (f := some (.d (.int (form : Int)))) (p := isAl) rfl rfl (by omega) (by rw [rwS_l]; rfl) (by omega) (by rw [rwS_l]; decide) (by omega) sz [97 + v] u3 1000000000 (by simp; omega) hu3 (by omega)
          refine ⟨(97 + v) :: e, 0, u4, .inl ⟨rfl, by simp [q1]; omega, 97 + v, e, rfl, by unfold isLow; exact decide_eq_true (by omega), q2⟩, q3, ?_⟩
          rw [sSeq_rt (a := .d (.str (S ((97 + v) :: e)))) (cs1 := [u4]) (by
            rw [sIf_tt (cs1 := [u2]) (by simp [fLt]; omega)]
            rw [sSeq_nx (env1 := pcE wide (some (.d (.int (form : Int)))) (some (.d (.int ((sz + 1 : Nat) : Int)))) [97 + v]) (cs1 := [u3]) (by
              simp only [sAsg_at, eBin_at, eCall_at, aCons_at, aNil_at, eC_at, eVar_at, List.getElem?_cons_zero, List.getElem?_cons_succ, R.bind_ok, List.length_cons, List.length_nil, Nat.reduceAdd, if_true, d3', ix, R.toS_ok, tgName_at, List.set_cons_zero, List.set_cons_succ])]
            rw [sSeq_nx (m := sWhile 1000000000 [] pcT (pcB rwS 6 16)) (by rw [sWhile_at, wipeE_nil]; exact q4)]
            simp)]
          simp [fin]
        · rw [sSeq_nx (env1 := [some (.c 0), some (.d (.int (wide : Int))), some (.d (.int (form : Int))), some (.d (.int ((sz + 1 : Nat) : Int))), none]) (cs1 := [u2]) (by rw [sIf_ff (cs1 := [u2]) (by simp [fLt]; omega)]; rfl)]
          obtain ⟨v, u3, hv3, hu3, d3⟩ := draw hu2 (many := 9) (by omega) 7
          have d3' : partF f__law_take [.c 0, .d (.int 7), .d (.int 9)] [u2] = .ok (.d (.int (v : Int))) [u3] := d3 []
          have ix : fIx (.d (.str dgS)) (.d (.int (v : Int))) [u3] = .ok (.d (.str (S [49 + v]))) [u3] := fIx_str (by decide +kernel) (by rw [dgS_l, List.getElem?_range' (by omega)]; simp)
          obtain ⟨e, u4, q1, q2, q3, q4⟩ := row_loop (al := digS) (pI := 8) (mI := 10) (place := 8) (many := 10) (size := sz + 1) (w := wide) (f := some (.d (.int (form : Int)))) (p := isDig) rfl rfl (by omega) (by rw [digS_l]; rfl) (by omega) (by rw [digS_l]; decide) (by omega) sz [49 + v] u3 1000000000 (by simp; omega) hu3 (by omega)
          obtain ⟨z, u5, hv5, hu5, d5⟩ := draw q3 (many := 6) (by omega) 9
          have d5' : partF f__law_take [.c 0, .d (.int 9), .d (.int 6)] [u4] = .ok (.d (.int (z : Int))) [u5] := d5 []
          obtain ⟨w, hwn, iw⟩ : ∃ w : List Nat, IsNum w ∧ ∀ b : Bool, b = decide (z = 5) → fIx (.d (.tuple [.str (S ((49 + v) :: e)), .str ("0" : Str)])) (.d (.int (if b = true then 1 else 0))) [u5] = .ok (.d (.str (S w))) [u5] := by
            by_cases hz : z = 5
            · refine ⟨[48], ⟨by simp, 48, [], rfl, by decide, rfl, fun _ => rfl⟩, fun b hb => ?_⟩
              rw [hb, decide_eq_true hz, if_pos rfl]
              rw [S_0]
              simp
            · refine ⟨(49 + v) :: e, ⟨by simp [q1]; omega, 49 + v, e, rfl, by unfold isDig; exact decide_eq_true (by omega), q2, fun h => by omega⟩, fun b hb => ?_⟩
              rw [hb, decide_eq_false hz, if_neg (by simp)]
              simp
          refine ⟨w, 1, u5, .inr (.inl ⟨rfl, hwn⟩), hu5, ?_⟩
          rw [sSeq_nx (env1 := pcE wide (some (.d (.int (form : Int)))) (some (.d (.int ((sz + 1 : Nat) : Int)))) [49 + v]) (cs1 := [u3]) (by
              simp only [sAsg_at, eBin_at, eCall_at, aCons_at, aNil_at, eC_at, eVar_at, List.getElem?_cons_zero, List.getElem?_cons_succ, R.bind_ok, List.length_cons, List.length_nil, Nat.reduceAdd, if_true, d3', ix, R.toS_ok, tgName_at, List.set_cons_zero, List.set_cons_succ])]
          rw [sSeq_nx (m := sWhile 1000000000 [] pcT (pcB digS 8 10)) (by rw [sWhile_at, wipeE_nil]; exact q4)]
          have hz : decide ((z : Int) = 5) = decide (z = 5) := by rw [Bool.eq_iff_iff]; simp; omega
          have fi : fInt [.d (.bool (decide (z = 5)))] [u5] = .ok (.d (.int (if decide (z = 5) = true then 1 else 0))) [u5] := by
            cases decide (z = 5) <;> rfl
          simp only [sRet_at, eBin_at, eTup_at, eFn_at, eCall_at, aCons_at, aNil_at, eC_at, eVar_at, List.getElem?_cons_zero, List.getElem?_cons_succ, List.singleton_append, R.bind_ok, allD_d, allD_nil, Option.map_some]
          rw [if_pos (size_le' (by simp))]
          simp only [R.bind_ok, List.length_cons, List.length_nil, Nat.reduceAdd, if_true, d5', fEq_int, hz, fi, iw _ rfl, R.toS_ok]
          simp [fin]
  obtain ⟨w, k, u', h1, h2, h3⟩ := core
  exact ⟨w, k, u', h1, h2, fun rest => partF_1 (k := 0) rfl rfl h3⟩
end K03
namespace K03
open Sh PySem L2
abbrev lxG : MS := sDrop (eMeth "list" mAppend (eVar 1) (aCons (eTup (aCons (eC (.str "sign")) (aCons (eVar 6) (aCons (eBin fAdd (eVar 3) (eC (.int 1))) (aCons (eBin fAdd (eVar 5) (eC (.int 1))) aNil))))) aNil))
abbrev lxI : MS := sIf (tOf (eBin (fInS false) (eVar 6) (eC (.str sgnS)))) lxG (sIf (tNotM (tTr (eCall 1 (plainF (f__law_of_word)) (aCons (eVar 6) aNil)))) (lxR "sign") lxW)
abbrev lx1 : MS := sSeq (sAsg (eBin fIx (eVar 4) (eVar 5)) (tgName 6))
  (sSeq (sAsg (eBin fAdd (eVar 5) (eC (.int 1))) (tgName 7))
  (sSeq (sIf (tOf (eBin fEq (eVar 6) (eC (.str spS)))) (sSeq (sAsg (eVar 7) (tgName 5)) sCont) sNext)
  (sSeq lxI (sAsg (eVar 7) (tgName 5)))))
abbrev lxT1 : MT := tAndM (tOf (eBin fLtS (eVar 5) (eFn fLen (aCons (eVar 4) aNil)))) (tOf (eBin fNe (eBin fIx (eVar 4) (eVar 5)) (eC (.str "#"))))
theorem S_sp (c : Nat) : decide (S [c] = spS) = decide (c = 32) := by
  have : spS = S [32] := by decide +kernel
  rw [this, Bool.eq_iff_iff]
  simp [S_inj]
section
variable {tx ls : PyData} {nm : Nat} {L : List Nat}
def LbOut (tx ls : PyData) (nm : Nat) (L : List Nat) (p c : Nat) (ts : List Tk) (r : RS) : St1 → Prop
  | .sp => r = .ct (lxE tx ls nm L (p + 1) (dS [c]) (dN (p + 1)) none) [tks ts]
  | .tok k w => ∃ z, r = .nx (lxE tx ls nm L (p + w.length) (dS [c]) (dN (p + w.length)) z) [tks (ts ++ [⟨k, w, nm + 1, p + 1⟩])]
  | .err w => r = .rt (.d (encR (.bad (nm + 1) (p + 1) w))) [tks ts]
  | .stop => False
theorem sgn_no {c : Nat} (h : c ∈ sgn) : isLow c = false ∧ isDig c = false := by
  have : c = 43 ∨ c = 45 ∨ c = 58 ∨ c = 59 ∨ c = 39 ∨ c = 44 ∨ c = 123 ∨ c = 125 := by simpa [sgn] using h
  rcases this with rfl | rfl | rfl | rfl | rfl | rfl | rfl | rfl <;> decide
theorem lx1_eq {pre r : List Nat} {c : Nat} {ts : List Tk} (hL : L.length ≤ 1000000) (e : L = pre ++ c :: r) (h1 : c ≠ 35) (hs : ts.length < 1000000) : LbOut tx ls nm L pre.length c ts (lx1 (lxE tx ls nm L pre.length none none none) [tks ts]) (step (c :: r)) := by
  have hx : L[pre.length]? = some c := by rw [e]; exact get_app
  have s1 : sAsg (eBin fIx (eVar 4) (eVar 5)) (tgName 6) (lxE tx ls nm L pre.length none none none) [tks ts] = .nx (lxE tx ls nm L pre.length (dS [c]) none none) [tks ts] := by
    simp [fIx_S hL hx]
  have s2 : sAsg (eBin fAdd (eVar 5) (eC (.int 1))) (tgName 7) (lxE tx ls nm L pre.length (dS [c]) none none) [tks ts] = .nx (lxE tx ls nm L pre.length (dS [c]) (dN (pre.length + 1)) none) [tks ts] := by
    simp
  generalize hE : lxE tx ls nm L pre.length (dS [c]) (dN (pre.length + 1)) none = E at s2
  have t3 : (tOf (eBin fEq (eVar 6) (eC (.str spS))) : MT) E [tks ts] = .ok (decide (c = 32)) [tks ts] := by
    subst hE
    simp only [tOf_at, eBin_at, eVar_at, eC_at, List.getElem?_cons_succ, List.getElem?_cons_zero, R.bind_ok, fEq_str, asB_bool, S_sp]
  unfold lx1
  rw [sSeq_nx s1, sSeq_nx s2]
  by_cases h2 : c = 32
  · subst h2
    rw [decide_eq_true rfl] at t3
    have : sIf (tOf (eBin fEq (eVar 6) (eC (.str spS)))) (sSeq (sAsg (eVar 7) (tgName 5)) sCont) sNext E [tks ts] = .ct (lxE tx ls nm L (pre.length + 1) (dS [32]) (dN (pre.length + 1)) none) [tks ts] := by
      rw [sIf_tt t3]
      subst hE
      simp
    rw [sSeq_at, this]
    rfl
  · rw [decide_eq_false h2] at t3
    rw [sSeq_nx (env1 := E) (cs1 := [tks ts]) (by rw [sIf_ff t3]; rfl), step_cand h1 h2]
    have t4 : (tOf (eBin (fInS false) (eVar 6) (eC (.str sgnS))) : MT) E [tks ts] = .ok (decide (c ∈ sgn)) [tks ts] := by
      subst hE
      simp only [tOf_at, eBin_at, eVar_at, eC_at, List.getElem?_cons_succ, List.getElem?_cons_zero, R.bind_ok, fInS_f, asB_bool, inS_one, sgnS_l]
    have t5 : (tNotM (tTr (eCall 1 (plainF (f__law_of_word)) (aCons (eVar 6) aNil))) : MT) E [tks ts] = .ok (!isAl c) [tks ts] := by
      subst hE
      simp only [tNotM_at, tTr_at, eCall_at, aCons_at, aNil_at, eVar_at, List.getElem?_cons_succ, List.getElem?_cons_zero, R.bind_ok, List.length_cons, List.length_nil, Nat.reduceAdd, if_true, ofw_eq, truD_bool]
    by_cases hg : c ∈ sgn
    · obtain ⟨a, b⟩ := sgn_no hg
      have cd : cand c r = some (2, [c]) := by unfold cand; rw [if_neg (by simp [a]), if_neg (by simp [b]), if_pos hg]
      rw [decide_eq_true hg] at t4
      rw [cd]
      simp only
      rw [if_neg (by simp), if_neg (by simp)]
      have ap : mAppend (.c 0) [.d (encT ⟨2, [c], nm + 1, pre.length + 1⟩)] [tks ts] = .ok (.d .none) [tks (ts ++ [⟨2, [c], nm + 1, pre.length + 1⟩])] := by
        rw [mAppend_c (n := 0) (xs := ts.map encT) rfl (size_lt' (by simp; omega))]
        simp
      have gg : lxI E [tks ts] = .nx E [tks (ts ++ [⟨2, [c], nm + 1, pre.length + 1⟩])] := by
        unfold lxI
        rw [sIf_tt t4]
        subst hE
        refine drop_app (k := 0) (x := encT ⟨2, [c], nm + 1, pre.length + 1⟩) (cs1 := [tks ts]) (by simp) rfl ?_ ap
        simp only [eTup_at, aCons_at, aNil_at, eVar_at, eBin_at, eC_at, List.getElem?_cons_succ, List.getElem?_cons_zero, R.bind_ok, fAdd_int, allD_d, allD_nil, Option.map_some]
        rw [if_pos (size_le' (by simp))]
        rfl
      rw [sSeq_nx gg]
      subst hE
      exact ⟨none, by simp⟩
    · rw [decide_eq_false hg] at t4
      by_cases ha : isAl c = true
      · rw [ha] at t5
        have gg : lxI E [tks ts] = lxW E [tks ts] := by
          unfold lxI
          rw [sIf_ff t4, sIf_ff t5]
        have key : ∀ k, k < 2 → cand c r = some (k, c :: r.takeWhile (takes k)) → decide (57 < c) = decide (k = 0) → LbOut tx ls nm L pre.length c ts (sSeq lxI (sAsg (eVar 7) (tgName 5)) E [tks ts]) (match cand c r with
            | none => .err 0
            | some (k, w) => if 12 < w.length then .err 1 else if k = 1 ∧ 1 < w.length ∧ c = 48 then .err 2 else .tok k w) := fun k hk hc h9 => by
          have w := lxW_eq (tx := tx) (ls := ls) (nm := nm) (ts := ts) hL hk e rfl h9 hs
          rw [hE, ← gg] at w
          rw [hc]
          simp only
          generalize hw : c :: r.takeWhile (takes k) = ww at *
          by_cases h12 : 12 < ww.length
          · rw [if_pos h12] at w ⊢
            rw [sSeq_rt w]
            rfl
          · rw [if_neg h12] at w ⊢
            by_cases hz : k = 1 ∧ 1 < ww.length ∧ c = 48
            · rw [if_pos hz] at w ⊢
              rw [sSeq_rt w]
              rfl
            · rw [if_neg hz] at w ⊢
              rw [sSeq_nx w]
              exact ⟨dK k, by simp⟩
        by_cases hl : isLow c = true
        · exact key 0 (by omega) (by unfold cand; rw [if_pos hl]; rfl) (by unfold isLow at hl; have := of_decide_eq_true hl; rw [Bool.eq_iff_iff]; simp; omega)
        · have hd : isDig c = true := by unfold isAl at ha; simpa [hl] using ha
          exact key 1 (by omega) (by unfold cand; rw [if_neg hl, if_pos hd]; rfl) (by unfold isDig at hd; have := of_decide_eq_true hd; rw [Bool.eq_iff_iff]; simp; omega)
      · have ha' : isAl c = false := by simpa using ha
        have hl : isLow c = false := by unfold isAl at ha'; rw [Bool.or_eq_false_iff] at ha'; exact ha'.1
        have hd : isDig c = false := by unfold isAl at ha'; rw [Bool.or_eq_false_iff] at ha'; exact ha'.2
        have cd : cand c r = none := by unfold cand; rw [if_neg (by simp [hl]), if_neg (by simp [hd]), if_neg hg]
        rw [ha'] at t5
        rw [cd]
        have gg : lxI E [tks ts] = .rt (.d (encR (.bad (nm + 1) (pre.length + 1) 0))) [tks ts] := by
          unfold lxI
          rw [sIf_ff t4, sIf_tt t5]
          subst hE
          exact lxR_eq (w := 0)
        rw [sSeq_rt gg]
        rfl
def LxOut (tx ls : PyData) (nm : Nat) (L : List Nat) (ts : List Tk) (r : RS) : TR → Prop
  | .ok us => ∃ p, r = .nx (lxE tx ls nm L p none none none) [tks (ts ++ us)]
  | .bad a b w => ∃ c, r = .rt (.d (encR (.bad a b w))) [c]
theorem LxOut.app {ts : List Tk} {t : Tk} {r : RS} {o : TR} (h : LxOut tx ls nm L (ts ++ [t]) r o) : LxOut tx ls nm L ts r (o.app [t]) := by
  cases o with
  | ok us =>
    obtain ⟨p, h⟩ := h
    exact ⟨p, by rw [h, List.append_assoc]⟩
  | bad a b w => exact h
theorem lx_loop (hL : L.length ≤ 1000000) : ∀ (n : Nat) (l pre : List Nat) (ts : List Tk) (fuel : Nat), l.length ≤ n → L = pre ++ l → l.length < fuel → ts.length + l.length ≤ 1000000 →
    LxOut tx ls nm L ts (whileN lxT1 lx1 [6, 7, 8] fuel (lxE tx ls nm L pre.length none none none) [tks ts]) (lexX (nm + 1) pre.length l)
  | n, [], pre, ts, fuel + 1, hn, e, hf, hs => by
    have hl : L.length = pre.length := by rw [e]; simp
    have t : lxT1 (lxE tx ls nm L pre.length none none none) [tks ts] = .ok false [tks ts] := by simp [fLen_S hL, hl, fLtS]
    refine ⟨pre.length, ?_⟩
    unfold whileN
    rw [t]
    simp
  | 0, c :: r, pre, ts, fuel, hn, e, hf, hs => by simp at hn
  | n + 1, c :: r, pre, ts, fuel + 1, hn, e, hf, hs => by
    have hl : L.length = pre.length + (r.length + 1) := by rw [e]; simp
    have hx : L[pre.length]? = some c := by rw [e]; exact get_app
    have t : lxT1 (lxE tx ls nm L pre.length none none none) [tks ts] = .ok (!decide (c = 35)) [tks ts] := by
      have lt : (pre.length : Int) < (L.length : Int) := by omega
      simp only [tAndM_at, tOf_at, eBin_at, eFn_at, aCons_at, aNil_at, eVar_at, eC_at, List.getElem?_cons_succ, List.getElem?_cons_zero, R.bind_ok, fLen_S hL, fLtS, fLeX_int, asB_bool, decide_eq_true lt, if_true, fIx_S hL hx, fNe_str, S_hash]
    unfold whileN
    rw [t]
    simp only [R.toS_ok]
    by_cases h1 : c = 35
    · subst h1
      rw [lexX_stop]
      exact ⟨pre.length, by simp⟩
    · rw [if_pos (by simp [h1])]
      have b := lx1_eq (tx := tx) (ls := ls) (nm := nm) hL e h1 (ts := ts) (by simp at hs; omega)
      cases hst : step (c :: r) with
      | stop => rw [hst] at b; exact b.elim
      | err w =>
        rw [hst] at b
        rw [show lx1 _ _ = _ from b, lexX_eq, hst]
        exact ⟨_, rfl⟩
      | sp =>
        rw [hst] at b
        rw [show lx1 _ _ = _ from b, lexX_eq, hst]
        have ih := lx_loop hL n r (pre ++ [c]) ts fuel (by simp at hn; omega) (by rw [e]; simp) (by simp at hf; omega) (by simp at hs; omega)
        rw [show (pre ++ [c]).length = pre.length + 1 from by simp] at ih
        exact ih
      | tok k w =>
        rw [hst] at b
        obtain ⟨z, b⟩ := b
        obtain ⟨g1, g2, x, ex⟩ := step_tok hst
        have lw : (c :: r).length = w.length + x.length := by rw [ex]; simp
        have lx : lexX (nm + 1) pre.length (c :: r) = (lexX (nm + 1) (pre.length + w.length) x).app [⟨k, w, nm + 1, pre.length + 1⟩] := by
          rw [ex] at hst ⊢
          exact lexX_tok hst
        rw [b, lx]
        have ih := lx_loop hL n x (pre ++ w) (ts ++ [⟨k, w, nm + 1, pre.length + 1⟩]) fuel (by simp at hn lw; omega) (by rw [e, ex]; simp) (by simp at hf lw; omega) (by simp at hs lw ⊢; omega)
        rw [show (pre ++ w).length = pre.length + w.length from by simp] at ih
        exact ih.app
end
end K03
namespace K03
open Sh PySem L2
abbrev lx0 : MS := sSeq (sAsg (eBin fIx (eVar 2) (eVar 3)) (tgName 4))
  (sSeq (sAsg (eC (.int 0)) (tgName 5))
  (sWhile 1000000000 [6, 7, 8] lxT1 lx1))
abbrev lsD (ls : List (List Nat)) : PyData := .list (ls.map fun l => .str (S l))
abbrev loE (tx ls : PyData) : Sh.Env := [some (.d tx), some (.c 0), some (.d ls), none, none, none, none, none, none]
def LoOut (tx ls : PyData) (ts : List Tk) (r : RS) : TR → Prop
  | .ok us => r = .nx (loE tx ls) [tks (ts ++ us)]
  | .bad a b w => ∃ c, r = .rt (.d (encR (.bad a b w))) [c]
theorem lo_loop {tx : PyData} {ls : List (List Nat)} : ∀ (rest : List (List Nat)) (k : Nat) (ts : List Tk), ls.drop k = rest → ts.length + lsum rest ≤ 900000 →
    LoOut tx (lsD ls) ts (forIt (tgName 3) lx0 [4, 5, 6, 7, 8, 3] ((List.range' k rest.length).map fun i => A.d (.int (i : Nat))) (loE tx (lsD ls)) [tks ts]) (lexLines (k + 1) rest)
  | [], k, ts, hd, hs => by
    show forIt _ _ _ [] _ _ = RS.nx (loE tx (lsD ls)) [tks (ts ++ [])]
    rw [List.append_nil]
    rfl
  | l :: rest, k, ts, hd, hs => by
    have hl : lsum (l :: rest) = l.length + lsum rest := by simp [lsum]
    have hk : ls[k]? = some l := by
      have := congrArg (fun x => x[0]?) hd
      simpa using this
    have hd' : ls.drop (k + 1) = rest := by
      have := congrArg List.tail hd
      simpa [List.tail_drop] using this
    have ix : ∀ cs, fIx (.d (lsD ls)) (.d (.int (k : Int))) cs = .ok (.d (.str (S l))) cs := fun cs => fIx_ln (by simp [hk])
    have lp := lx_loop (tx := tx) (ls := lsD ls) (nm := k) (L := l) (by omega) l.length l [] ts 1000000000 (Nat.le_refl _) rfl (by omega) (by omega)
    have tn : turn (tgName 3) lx0 (.d (.int (k : Nat))) (loE tx (lsD ls)) [tks ts] = whileN lxT1 lx1 [6, 7, 8] 1000000000 (lxE tx (lsD ls) k l ([] : List Nat).length none none none) [tks ts] := by
      rw [turn_at]
      simp only [tgName_at]
      unfold lx0
      rw [sSeq_nx (env1 := [some (.d tx), some (.c 0), some (.d (lsD ls)), some (.d (.int (k : Int))), some (.d (.str (S l))), none, none, none, none]) (cs1 := [tks ts]) (by
        simp only [sAsg_at, eBin_at, eVar_at, List.getElem?_cons_succ, List.getElem?_cons_zero, List.set_cons_succ, List.set_cons_zero, R.bind_ok, ix, R.toS_ok, tgName_at])]
      rw [sSeq_nx (env1 := lxE tx (lsD ls) k l 0 none none none) (cs1 := [tks ts]) (by simp)]
      rfl
    show LoOut tx (lsD ls) ts (forIt (tgName 3) lx0 [4, 5, 6, 7, 8, 3] (A.d (.int (k : Nat)) :: (List.range' (k + 1) rest.length).map fun i => A.d (.int (i : Nat))) (loE tx (lsD ls)) [tks ts]) (after (lexX (k + 1) 0 l) (lexLines (k + 1 + 1) rest))
    cases o : lexX (k + 1) 0 l with
    | bad a b w =>
      rw [show ([] : List Nat).length = 0 from rfl, o] at lp
      obtain ⟨c, lp⟩ := lp
      exact ⟨c, forIt_ret (tn.trans lp)⟩
    | ok us =>
      rw [show ([] : List Nat).length = 0 from rfl, o] at lp
      obtain ⟨p, lp⟩ := lp
      have ul := lexX_len l.length (Nat.le_refl _) o
      have st : Goes (turn (tgName 3) lx0 (.d (.int (k : Nat))) (loE tx (lsD ls)) [tks ts]) [4, 5, 6, 7, 8, 3] (loE tx (lsD ls)) [tks (ts ++ us)] := by
        rw [tn, show ([] : List Nat).length = 0 from rfl, lp]
        exact ⟨rfl, rfl⟩
      rw [forIt_step st]
      have ih := lo_loop (tx := tx) (ls := ls) rest (k + 1) (ts ++ us) hd' (by simp; omega)
      show LoOut tx (lsD ls) ts _ ((lexLines (k + 1 + 1) rest).app us)
      cases o2 : lexLines (k + 1 + 1) rest with
      | ok vs =>
        rw [o2] at ih
        show _ = RS.nx (loE tx (lsD ls)) [tks (ts ++ (us ++ vs))]
        rw [← List.append_assoc]
        exact ih
      | bad a b w => rw [o2] at ih; exact ih
theorem lexed_eq {x : List Nat} (hx : x.length ≤ 900000) (cs : CS) : plainF f__law_lexed [.d (.str (S x))] cs = .ok (.d (encR (lexText x))) cs := by
  have sp := fun cs => split_nl hx cs
  have lp := lo_loop (tx := .str (S x)) (ls := spl 10 x) (spl 10 x) 0 [] rfl (by have := lsum_spl 10 x; simp; omega)
  have sl : ∀ x : List Nat, (spl 10 x).length ≤ x.length + 1 := fun x => by
    induction x with
    | nil => simp [spl]
    | cons a r ih =>
      obtain ⟨h, t, e⟩ := spl_ne 10 r
      unfold spl
      rw [e] at ih ⊢
      split <;> simp at ih ⊢ <;> omega
  have sl := sl x
  refine plainF_ok rfl ?_
  show runBody 9 m__law_lexed [.d (.str (S x))] [] = _
  unfold runBody m__law_lexed
  simp only [List.map_cons, List.map_nil, List.length_cons, List.length_nil, List.cons_append, List.nil_append, Nat.reduceAdd, Nat.reduceSub, List.replicate]
  rw [sSeq_nx (env1 := [some (.d (.str (S x))), some (.c 0), none, none, none, none, none, none, none]) (cs1 := [tks []]) (by simp)]
  rw [sSeq_nx (env1 := loE (.str (S x)) (lsD (spl 10 x))) (cs1 := [tks []]) (by
    rw [sAsg_at, eMeth_at]
    simp only [eVar_at, List.getElem?_cons_zero, R.bind_ok, aCons_at, aNil_at, eC_at, sp]
    rw [if_pos (by rfl)]
    rfl)]
  have fr : sFor 1000000000 [4, 5, 6, 7, 8, 3] (iRange1 (aCons (eFn fLen (aCons (eVar 2) aNil)) aNil)) (tgName 3) lx0 (loE (.str (S x)) (lsD (spl 10 x))) [tks []] = forIt (tgName 3) lx0 [4, 5, 6, 7, 8, 3] ((List.range' 0 (spl 10 x).length).map fun i => A.d (.int (i : Nat))) (loE (.str (S x)) (lsD (spl 10 x))) [tks []] := by
    rw [sFor_at, iRange1_at]
    simp only [eFn_at, aCons_at, aNil_at, eVar_at, List.getElem?_cons_succ, List.getElem?_cons_zero, R.bind_ok, fLen_lst, List.length_map]
    rw [if_pos (inR_of (by omega) (by omega)), Int.toNat_natCast, rangeD_0, List.range_eq_range']
    rfl
  unfold lexText
  cases o : lexLines 1 (spl 10 x) with
  | ok us =>
    rw [o] at lp
    rw [sSeq_nx (m := sFor 1000000000 [4, 5, 6, 7, 8, 3] (iRange1 (aCons (eFn fLen (aCons (eVar 2) aNil)) aNil)) (tgName 3) lx0) (fr.trans lp)]
    simp only [sRet_at, eTup_at, aCons_at, aNil_at, eC_at, eFn_at, eVar_at, List.getElem?_cons_succ, List.getElem?_cons_zero, R.bind_ok]
    have ft : fTupleX [.c 0] [tks ([] ++ us)] = .ok (.d (.tuple (us.map encT))) [tks us] := by simp [fTupleX, toS, toD]
    rw [ft]
    simp only [R.bind_ok, allD_d, allD_nil, Option.map_some]
    rw [if_pos (size_le' (by simp))]
    simp [fin]
  | bad a b w =>
    rw [o] at lp
    obtain ⟨c, lp⟩ := lp
    rw [sSeq_rt (m := sFor 1000000000 [4, 5, 6, 7, 8, 3] (iRange1 (aCons (eFn fLen (aCons (eVar 2) aNil)) aNil)) (tgName 3) lx0) (fr.trans lp)]
    simp [fin]
end K03
namespace K03
open Sh PySem L2
/-! ### the text that the law makes -/
theorem Piece.head {w : List Nat} {k : Nat} (h : Piece w k) : k < 3 ∧ w.length ≤ 12 ∧ ∃ c r, w = c :: r ∧ isAl c = decide (k ≠ 2) ∧ (k < 2 → decide (57 < c) = decide (k = 0)) := by
  rcases h with ⟨rfl, hl, c, r, rfl, hc, hr⟩ | ⟨rfl, hl, c, r, rfl, hc, hr, h0⟩ | ⟨rfl, c, rfl, hc⟩
  · refine ⟨by omega, hl, c, r, rfl, by rw [low_al hc]; rfl, fun _ => ?_⟩
    unfold isLow at hc
    have := of_decide_eq_true hc
    rw [Bool.eq_iff_iff]; simp; omega
  · refine ⟨by omega, hl, c, r, rfl, by rw [dig_al hc]; rfl, fun _ => ?_⟩
    unfold isDig at hc
    have := of_decide_eq_true hc
    rw [Bool.eq_iff_iff]; simp; omega
  · exact ⟨by omega, by simp, c, [], rfl, by rw [sgn_al hc]; rfl, fun h => by omega⟩
theorem fIx_S0 {c : Nat} {r : List Nat} {cs : CS} (h : (c :: r).length ≤ 1000000) : fIx (.d (.str (S (c :: r)))) (.d (.int 0)) cs = .ok (.d (.str (S [c]))) cs := fIx_S (n := 0) h rfl
theorem fIx_SL {y : List Nat} {d : Nat} {cs : CS} (h : (y ++ [d]).length ≤ 1000000) : fIx (.d (.str (S (y ++ [d])))) (.d (.int (-1))) cs = .ok (.d (.str (S [d]))) cs := by
  have : (S (y ++ [d])).length ≤ sizeLine := by rw [S_len]; exact size_le' h
  simp only [fIx, if_pos this]
  rw [Sh.atI_last]
theorem truD_S {x : List Nat} {cs : CS} (h : x.length ≤ 1000000) : truD cs (.d (.str (S x))) = some (!x.isEmpty) := by
  have : (S x).length ≤ sizeLine := by rw [S_len]; exact size_le' h
  simp only [truD]
  rw [if_pos this, S_len]
  cases x <;> simp
  omega
abbrev txE (m w : Int) (x : List Nat) (o : Int) (k p l z : Option A) : Sh.Env := [some (.c 0), some (.d (.int m)), some (.d (.int w)), some (.d (.str (S x))), some (.c 1), some (.d (.int o)), k, p, l, z]
abbrev txS : MT := tAndM (tTr (eVar 3)) (tAndM (tTr (eCall 1 (plainF (f__law_of_word)) (aCons (eBin fIx (eVar 3) (eUn fNeg (eC (.int 1)))) aNil))) (tAndM (tTr (eCall 1 (plainF (f__law_of_word)) (aCons (eBin fIx (eVar 7) (eC (.int 0))) aNil))) (tNotM (tAndM (tOf (eBin fEq (eBin fIx (eBin fIx (eVar 4) (eUn fNeg (eC (.int 1)))) (eC (.int 0))) (eC (.str "number")))) (tOf (eBin fGtS (eBin fIx (eVar 7) (eC (.int 0))) (eC (.str "9"))))))))
abbrev txP : MS := sIf txS (sAsg (eBin fAdd (eVar 3) (eC (.str spS))) (tgName 3)) sNext
theorem spS_S : spS = S [32] := by decide +kernel
theorem space_eq {m wd : Int} {x w : List Nat} {ts : List Tk} {b k : Nat} {o : Int} {kk l z : Option A} {u : Cell} (he : Ext x ts b) (hp : Piece w k) (hx : x.length ≤ 900000) :
    ∃ (x' : List Nat) (b' : Nat), (x' = x ∨ x' = x ++ [32]) ∧ Ext x' ts b' ∧ (∀ s, Fr b' (w ++ s)) ∧ txP (txE m wd x o kk (dS w) l z) [u, tks ts] = .nx (txE m wd x' o kk (dS w) l z) [u, tks ts] := by
  obtain ⟨hk, hl, c, r, rfl, ha, h9⟩ := hp.head
  have tr := truD_S (x := x) (cs := [u, tks ts]) (by omega)
  have i0 := fIx_S0 (c := c) (r := r) (cs := [u, tks ts]) (by omega)
  have no : txS (txE m wd x o kk (dS (c :: r)) l z) [u, tks ts] = .ok false [u, tks ts] → txP (txE m wd x o kk (dS (c :: r)) l z) [u, tks ts] = .nx (txE m wd x o kk (dS (c :: r)) l z) [u, tks ts] := fun h => by
    unfold txP
    rw [sIf_ff h]
    rfl
  have yes : txS (txE m wd x o kk (dS (c :: r)) l z) [u, tks ts] = .ok true [u, tks ts] → txP (txE m wd x o kk (dS (c :: r)) l z) [u, tks ts] = .nx (txE m wd (x ++ [32]) o kk (dS (c :: r)) l z) [u, tks ts] := fun h => by
    unfold txP
    rw [sIf_tt h, spS_S]
    simp [fAdd_S (a := x) (b := [32]) (cs := [u, tks ts]) (by simp; omega)]
  rcases he.1 with ⟨rfl, hx0 | ⟨y, d, rfl, hd⟩⟩ | ⟨hb, y, d, us, t, rfl, hd, rfl, ht⟩
  · subst hx0
    refine ⟨[], 0, .inl rfl, he, fun s => Fr.zero _, no ?_⟩
    simp [tr]
  · have il := fIx_SL (y := y) (d := d) (cs := [u, tks ts]) (by omega)
    refine ⟨_, 0, .inl rfl, he, fun s => Fr.zero _, no ?_⟩
    simp [tr, il, ofw_eq, hd]
  · have il := fIx_SL (y := y) (d := d) (cs := [u, tks (us ++ [t])]) (by omega)
    have lt : fIx (.c 1) (.d (.int (-1))) [u, tks (us ++ [t])] = .ok (.d (encT t)) [u, tks (us ++ [t])] := fIx_last (n := 1) (xs := us.map encT) (by simp)
    have l0 : fIx (.d (encT t)) (.d (.int 0)) [u, tks (us ++ [t])] = .ok (.d (.str (kdS t.k))) [u, tks (us ++ [t])] := fIx_t0
    have kn := kd_num t.k (by omega)
    have val : txS (txE m wd (y ++ [d]) o kk (dS (c :: r)) l z) [u, tks (us ++ [t])] = .ok (isAl c && !(decide (t.k = 1) && decide (57 < c))) [u, tks (us ++ [t])] := by
      have e1 : (tTr (eVar 3) : MT) (txE m wd (y ++ [d]) o kk (dS (c :: r)) l z) [u, tks (us ++ [t])] = .ok true [u, tks (us ++ [t])] := by simp [tr]
      have e2 : (tTr (eCall 1 (plainF (f__law_of_word)) (aCons (eBin fIx (eVar 3) (eUn fNeg (eC (.int 1)))) aNil)) : MT) (txE m wd (y ++ [d]) o kk (dS (c :: r)) l z) [u, tks (us ++ [t])] = .ok true [u, tks (us ++ [t])] := by simp [il, ofw_eq, hd]
      have e3 : (tTr (eCall 1 (plainF (f__law_of_word)) (aCons (eBin fIx (eVar 7) (eC (.int 0))) aNil)) : MT) (txE m wd (y ++ [d]) o kk (dS (c :: r)) l z) [u, tks (us ++ [t])] = .ok (isAl c) [u, tks (us ++ [t])] := by simp [i0, ofw_eq]
      have e4 : (tOf (eBin fEq (eBin fIx (eBin fIx (eVar 4) (eUn fNeg (eC (.int 1)))) (eC (.int 0))) (eC (.str "number"))) : MT) (txE m wd (y ++ [d]) o kk (dS (c :: r)) l z) [u, tks (us ++ [t])] = .ok (decide (t.k = 1)) [u, tks (us ++ [t])] := by
        simp only [tOf_at, eBin_at, eUn_at, eC_at, eVar_at, List.getElem?_cons_succ, List.getElem?_cons_zero, R.bind_ok, fNeg_int, lt, l0, fEq_str, asB_bool, kn]
      have e5 : (tOf (eBin fGtS (eBin fIx (eVar 7) (eC (.int 0))) (eC (.str "9"))) : MT) (txE m wd (y ++ [d]) o kk (dS (c :: r)) l z) [u, tks (us ++ [t])] = .ok (decide (57 < c)) [u, tks (us ++ [t])] := by
        simp only [tOf_at, eBin_at, eC_at, eVar_at, List.getElem?_cons_succ, List.getElem?_cons_zero, R.bind_ok, i0, fGtS, fLeX_str, asB_bool, S_9, ltS_one]
      unfold txS
      simp only [tAndM_at, tNotM_at, e1, e2, e3, e4, e5, R.bind_ok, if_true]
      cases isAl c <;> cases decide (t.k = 1) <;> cases decide (57 < c) <;> rfl
    by_cases hn : (isAl c && !(decide (t.k = 1) && decide (57 < c))) = true
    · rw [hn] at val
      exact ⟨_, 0, .inr rfl, he.sp, fun s => Fr.zero _, yes val⟩
    · have hn' : (isAl c && !(decide (t.k = 1) && decide (57 < c))) = false := by simpa using hn
      rw [hn'] at val
      refine ⟨_, b, .inl rfl, he, fun s => ?_, no val⟩
      by_cases hc : isAl c = true
      · rw [hc] at hn'
        simp at hn'
        refine ⟨fun h1 => by omega, fun h2 d' r' e => ?_⟩
        cases e
        unfold isDig
        exact decide_eq_false (by omega)
      · exact Fr.of (by simpa using hc)
end K03
namespace K03
open Sh PySem L2
abbrev opS : Str := "{"
abbrev clS : Str := "}"
theorem opS_S : opS = S [123] := by decide +kernel
theorem clS_S : clS = S [125] := by decide +kernel
abbrev tx0 : MS := (sSeq (sAsg (eCall 2 (partF (f__law_piece)) (aCons (eVar 0) (aCons (eVar 2) aNil))) (tgName 7))
  (sSeq (sAsg (eBin fAdd (eVar 5) (eFn fInt (aCons (eBin fEq (eVar 7) (eC (.str opS))) aNil))) (tgName 5))
  (sSeq (sIf (tAndM (tOf (eBin fEq (eVar 7) (eC (.str opS)))) (tOf (eBin fGtS (eVar 5) (eC (.int 30)))))
  (sAsg (eC (.str clS)) (tgName 7))
  sNext)
  (sSeq txP
  (sSeq (sAsg (eMeth "str" mSplit (eVar 3) (aCons (eC (.str "\n")) aNil)) (tgName 8))
  (sSeq (sAsg (eC (.str "sign")) (tgName 9))
  (sSeq (sIf (tTr (eCall 1 (plainF (f__law_of_word)) (aCons (eBin fIx (eVar 7) (eC (.int 0))) aNil)))
  (sAsg (eBin fIx (eTup (aCons (eC (.str "word")) (aCons (eC (.str "number")) aNil))) (eFn fInt (aCons (eBin fLeS (eBin fIx (eVar 7) (eC (.int 0))) (eC (.str "9"))) aNil))) (tgName 9))
  sNext)
  (sSeq (sDrop (eMeth "list" mAppend (eVar 4) (aCons (eTup (aCons (eVar 9) (aCons (eVar 7) (aCons (eFn fLen (aCons (eVar 8) aNil)) (aCons (eBin fAdd (eFn fLen (aCons (eBin fIx (eVar 8) (eUn fNeg (eC (.int 1)))) aNil)) (eC (.int 1))) aNil))))) aNil)))
  (sAsg (eBin fAdd (eBin fAdd (eVar 3) (eVar 7)) (eCall 1 (partF (f__law_gap)) (aCons (eVar 0) aNil))) (tgName 3))))))))))
theorem turn_text {m wd : Nat} {x : List Nat} {ts : List Tk} {b : Nat} {o kk : Int} {u : Cell} (hw : wd < 2) (he : Ext x ts b) (hu : Urn u) (hx : x.length ≤ 100000) (hl : ts.length ≤ 100000) :
    ∃ (x' : List Nat) (ts' : List Tk) (b' : Nat) (o' : Int) (u' : Cell), Ext x' ts' b' ∧ Urn u' ∧ x'.length ≤ x.length + 45 ∧ ts'.length = ts.length + 1 ∧
      ∃ p l z, tx0 (txE m wd x o (some (.d (.int kk))) none none none) [u, tks ts] = .nx (txE m wd x' o' (some (.d (.int kk))) p l z) [u', tks ts'] := by
  obtain ⟨w0, k0, u1, hp0, hu1, dp⟩ := piece_eq hu hw
  have dp := dp [tks ts]
  obtain ⟨o1, ho1⟩ : ∃ o1 : Int, sAsg (eBin fAdd (eVar 5) (eFn fInt (aCons (eBin fEq (eVar 7) (eC (.str opS))) aNil))) (tgName 5) (txE m wd x o (some (.d (.int kk))) (dS w0) none none) [u1, tks ts] = .nx (txE m wd x o1 (some (.d (.int kk))) (dS w0) none none) [u1, tks ts] := by
    by_cases h : S w0 = opS
    · exact ⟨o + 1, by simp [h, fInt]⟩
    · exact ⟨o + 0, by simp [h, fInt]⟩
  obtain ⟨w, k, hp, ho2⟩ : ∃ (w : List Nat) (k : Nat), Piece w k ∧ sIf (tAndM (tOf (eBin fEq (eVar 7) (eC (.str opS)))) (tOf (eBin fGtS (eVar 5) (eC (.int 30))))) (sAsg (eC (.str clS)) (tgName 7)) sNext (txE m wd x o1 (some (.d (.int kk))) (dS w0) none none) [u1, tks ts] = .nx (txE m wd x o1 (some (.d (.int kk))) (dS w) none none) [u1, tks ts] := by
    have t : (tAndM (tOf (eBin fEq (eVar 7) (eC (.str opS)))) (tOf (eBin fGtS (eVar 5) (eC (.int 30)))) : MT) (txE m wd x o1 (some (.d (.int kk))) (dS w0) none none) [u1, tks ts] = .ok (decide (S w0 = opS) && decide (30 < o1)) [u1, tks ts] := by
      simp only [tAndM_at, tOf_at, eBin_at, eC_at, eVar_at, List.getElem?_cons_succ, List.getElem?_cons_zero, R.bind_ok, fEq_str, asB_bool, fGtS, fLeX_int]
      cases decide (S w0 = opS) <;> rfl
    cases hb : (decide (S w0 = opS) && decide (30 < o1)) with
    | true =>
      rw [hb] at t
      refine ⟨[125], 2, .inr (.inr ⟨rfl, 125, rfl, by decide⟩), ?_⟩
      rw [sIf_tt t, clS_S]
      simp
    | false =>
      rw [hb] at t
      exact ⟨w0, k0, hp0, by rw [sIf_ff t]; rfl⟩
  obtain ⟨x1, b1, hx1, he1, hf1, hs1⟩ := space_eq (m := m) (wd := wd) (o := o1) (kk := some (.d (.int kk))) (l := none) (z := none) (u := u1) he hp (by omega)
  have lx1 : x1.length ≤ x.length + 1 := by rcases hx1 with rfl | rfl <;> simp
  obtain ⟨hk, hlw, c, r, ew, ha, h9⟩ := hp.head
  obtain ⟨ls, l, el, ef⟩ := lines_at x1
  have sp := split_nl (x := x1) (by omega) [u1, tks ts]
  rw [el] at sp
  have lll : l.length ≤ 900000 := by
    have := lsum_spl 10 x1
    rw [el] at this
    simp [lsum] at this
    omega
  have i0 := fIx_S0 (c := c) (r := r) (cs := [u1, tks ts]) (by rw [← ew]; omega)
  rw [← ew] at i0
  have hkd : ∃ z9 : Option A, z9 = dK k ∧ sIf (tTr (eCall 1 (plainF (f__law_of_word)) (aCons (eBin fIx (eVar 7) (eC (.int 0))) aNil)))
      (sAsg (eBin fIx (eTup (aCons (eC (.str "word")) (aCons (eC (.str "number")) aNil))) (eFn fInt (aCons (eBin fLeS (eBin fIx (eVar 7) (eC (.int 0))) (eC (.str "9"))) aNil))) (tgName 9))
      sNext (txE m wd x1 o1 (some (.d (.int kk))) (dS w) (some (.d (lsD (ls ++ [l])))) (some (.d (.str "sign")))) [u1, tks ts] = .nx (txE m wd x1 o1 (some (.d (.int kk))) (dS w) (some (.d (lsD (ls ++ [l])))) z9) [u1, tks ts] := by
    refine ⟨_, rfl, ?_⟩
    have t : (tTr (eCall 1 (plainF (f__law_of_word)) (aCons (eBin fIx (eVar 7) (eC (.int 0))) aNil)) : MT) (txE m wd x1 o1 (some (.d (.int kk))) (dS w) (some (.d (lsD (ls ++ [l])))) (some (.d (.str "sign")))) [u1, tks ts] = .ok (isAl c) [u1, tks ts] := by simp [i0, ofw_eq]
    rw [ha] at t
    by_cases h2 : k = 2
    · subst h2
      rw [sIf_ff t]
      rfl
    · rw [decide_eq_true h2] at t
      rw [sIf_tt t]
      simp only [sAsg_at, eBin_at, eTup_at, aCons_at, aNil_at, eC_at, eFn_at, eVar_at, List.getElem?_cons_succ, List.getElem?_cons_zero, R.bind_ok, allD_d, allD_nil, Option.map_some]
      rw [if_pos (size_le' (by simp))]
      simp only [R.bind_ok, i0, fLeS, fLeX_str, S_9, ltS_one, h9 (by omega)]
      have : k = 0 ∨ k = 1 := by omega
      rcases this with rfl | rfl
      · rfl
      · rfl
  obtain ⟨z9, rfl, hkd⟩ := hkd
  have il : fIx (.d (lsD (ls ++ [l]))) (.d (.int (-1))) [u1, tks ts] = .ok (.d (.str (S l))) [u1, tks ts] := fIx_lst (by rw [List.map_append]; exact Sh.atI_last _ _)
  have fl := fLen_S (l := l) (cs := [u1, tks ts]) (by omega)
  have ap : mAppend (.c 1) [.d (encT ⟨k, w, ls.length + 1, l.length + 1⟩)] [u1, tks ts] = .ok (.d .none) [u1, tks (ts ++ [⟨k, w, ls.length + 1, l.length + 1⟩])] := by
    rw [mAppend_c (n := 1) (xs := ts.map encT) rfl (size_lt' (by simp; omega))]
    simp
  obtain ⟨g, u2, hg, hu2, dg⟩ := gap_eq hu1
  have dg := dg [tks (ts ++ [⟨k, w, ls.length + 1, l.length + 1⟩])]
  obtain ⟨b2, he2⟩ := he1.tok hp hf1
  rw [ef] at he2
  obtain ⟨b3, he3⟩ := he2.gap hg
  have lg : g.length ≤ 30 := by
    have : ∀ g ∈ gaps, g.length ≤ 30 := by decide
    exact this g hg
  refine ⟨x1 ++ w ++ g, ts ++ [⟨k, w, ls.length + 1, l.length + 1⟩], b3, o1, u2, he3, hu2, by simp; omega, by simp, dS w, some (.d (lsD (ls ++ [l]))), dK k, ?_⟩
  unfold tx0
  rw [sSeq_nx (env1 := txE m wd x o (some (.d (.int kk))) (dS w0) none none) (cs1 := [u1, tks ts]) (by
    simp only [sAsg_at, eCall_at, aCons_at, aNil_at, eVar_at, List.getElem?_cons_succ, List.getElem?_cons_zero, R.bind_ok, List.length_cons, List.length_nil, Nat.reduceAdd, if_true, dp, R.toS_ok, tgName_at, List.set_cons_zero, List.set_cons_succ])]
  rw [sSeq_nx ho1, sSeq_nx ho2, sSeq_nx hs1]
  rw [sSeq_nx (env1 := txE m wd x1 o1 (some (.d (.int kk))) (dS w) (some (.d (lsD (ls ++ [l])))) none) (cs1 := [u1, tks ts]) (by
    rw [sAsg_at, eMeth_at]
    simp only [eVar_at, List.getElem?_cons_succ, List.getElem?_cons_zero, R.bind_ok, aCons_at, aNil_at, eC_at, sp]
    rw [if_pos (show tyA _ _ _ = true from rfl)]
    rfl)]
  rw [sSeq_nx (env1 := txE m wd x1 o1 (some (.d (.int kk))) (dS w) (some (.d (lsD (ls ++ [l])))) (some (.d (.str "sign")))) (cs1 := [u1, tks ts]) (by simp)]
  rw [sSeq_nx hkd]
  rw [sSeq_nx (drop_app (k := 1) (x := encT ⟨k, w, ls.length + 1, l.length + 1⟩) (cs1 := [u1, tks ts]) (by simp) rfl (by
    simp only [eTup_at, aCons_at, aNil_at, eVar_at, eFn_at, eUn_at, eBin_at, eC_at, List.getElem?_cons_succ, List.getElem?_cons_zero, R.bind_ok, fLen_lst, fNeg_int, il, fl, fAdd_int, allD_d, allD_nil, Option.map_some]
    rw [if_pos (size_le' (by simp))]
    simp) ap)]
  have a1 := fAdd_S (a := x1) (b := w) (cs := [u1, tks (ts ++ [⟨k, w, ls.length + 1, l.length + 1⟩])]) (by omega)
  have a2 := fAdd_S (a := x1 ++ w) (b := g) (cs := [u2, tks (ts ++ [⟨k, w, ls.length + 1, l.length + 1⟩])]) (by simp; omega)
  simp only [sAsg_at, eBin_at, eCall_at, aCons_at, aNil_at, eVar_at, List.getElem?_cons_succ, List.getElem?_cons_zero, R.bind_ok, a1, List.length_cons, List.length_nil, Nat.reduceAdd, if_true, dg, a2, R.toS_ok, tgName_at, List.set_cons_zero, List.set_cons_succ]
theorem text_eq {u : Cell} (hu : Urn u) {m wd : Nat} (hm : m ≤ 400) (hw : wd < 2) : ∃ (x : List Nat) (ts : List Tk) (u' : Cell), lexText x = .ok ts ∧ x.length ≤ 19000 ∧ ts.length ≤ 400 ∧ Urn u' ∧ ∀ rest : CS, partF f__law_text [.c 0, .d (.int (m : Int)), .d (.int (wd : Int))] (u :: rest) = .ok (.d (.tuple [.str (S x), .tuple (ts.map encT)])) (u' :: rest) := by
  obtain ⟨g, u1, hg, hu1, dg⟩ := gap_eq hu
  have dg := dg []
  obtain ⟨b0, he0⟩ := Ext.nil.gap hg
  have lg : g.length ≤ 30 := by
    have : ∀ g ∈ gaps, g.length ≤ 30 := by decide
    exact this g hg
  obtain ⟨⟨x, ts, u2, o⟩, lp, b, he, hu2, lx, lt⟩ := forRange (σ := List Nat × List Tk × Cell × Int) (tg := tgName 6) (body := tx0) (fg := [7, 8, 9, 6]) (fun s => txE m wd s.1 s.2.2.2 none none none none) (fun s => [s.2.2.1, tks s.2.1])
    (fun k s => ∃ b, Ext s.1 s.2.1 b ∧ Urn s.2.2.1 ∧ s.1.length ≤ 30 + 45 * k ∧ s.2.1.length = k) m (by
      rintro k ⟨x, ts, u, o⟩ hk ⟨b, he, hu, lx, lt⟩
      simp only at he hu lx lt
      obtain ⟨x', ts', b', o', u', h1, h2, h3, h4, p, l, z, h5⟩ := turn_text (m := m) (wd := wd) (o := o) (kk := (k : Int)) hw he hu (by omega) (by omega)
      refine ⟨⟨x', ts', u', o'⟩, ⟨b', h1, h2, by simp; omega, by simp; omega⟩, ?_⟩
      have tn : turn (tgName 6) tx0 (.d (.int (k : Int))) (txE m wd x o none none none none) [u, tks ts] = .nx (txE m wd x' o' (some (.d (.int (k : Int)))) p l z) [u', tks ts'] := h5
      simp only
      rw [tn]
      exact ⟨rfl, rfl⟩) ⟨[] ++ g, [], u1, 0⟩ ⟨b0, he0, hu1, by simp; omega, rfl⟩
  simp only at lp he hu2 lx lt
  refine ⟨x, ts, u2, he.done, by omega, by omega, hu2, fun rest => partF_1 (k := 0) rfl rfl ?_⟩
  show runBody 10 m__law_text [.c 0, .d (.int (m : Int)), .d (.int (wd : Int))] [u] = _
  unfold runBody m__law_text
  simp only [List.map_cons, List.map_nil, List.length_cons, List.length_nil, List.cons_append, List.nil_append, Nat.reduceAdd, Nat.reduceSub, List.replicate]
  rw [sSeq_nx (env1 := [some (.c 0), some (.d (.int (m : Int))), some (.d (.int (wd : Int))), dS g, none, none, none, none, none, none]) (cs1 := [u1]) (by
    simp only [sAsg_at, eCall_at, aCons_at, aNil_at, eVar_at, List.getElem?_cons_zero, R.bind_ok, List.length_cons, List.length_nil, Nat.reduceAdd, if_true, dg, R.toS_ok, tgName_at, List.set_cons_zero, List.set_cons_succ])]
  rw [sSeq_nx (env1 := [some (.c 0), some (.d (.int (m : Int))), some (.d (.int (wd : Int))), dS g, some (.c 1), none, none, none, none, none]) (cs1 := [u1, tks []]) (by simp)]
  rw [sSeq_nx (env1 := txE m wd g 0 none none none none) (cs1 := [u1, tks []]) (by simp)]
  have fr : sFor 1000000000 [7, 8, 9, 6] (iRange1 (aCons (eVar 1) aNil)) (tgName 6) tx0 (txE m wd g 0 none none none none) [u1, tks []] = .nx (txE m wd x o none none none none) [u2, tks ts] := by
    rw [sFor_at, iRange1_at]
    simp only [aCons_at, aNil_at, eVar_at, List.getElem?_cons_succ, List.getElem?_cons_zero, R.bind_ok]
    rw [if_pos (inR_of (by omega) (by omega)), Int.toNat_natCast, rangeD_0]
    exact lp
  rw [sSeq_nx (m := sFor 1000000000 [7, 8, 9, 6] (iRange1 (aCons (eVar 1) aNil)) (tgName 6) tx0) fr]
  have ft : fTupleX [.c 1] [u2, tks ts] = .ok (.d (.tuple (ts.map encT))) [u2, tks ts] := by simp [fTupleX, toS, toD]
  simp only [sRet_at, eTup_at, aCons_at, aNil_at, eC_at, eFn_at, eVar_at, List.getElem?_cons_succ, List.getElem?_cons_zero, R.bind_ok, ft, allD_d, allD_nil, Option.map_some]
  rw [if_pos (size_le' (by simp))]
  simp [fin]
end K03
namespace Sh
open PySem L2
theorem mExtend_c {n : Nat} {xs zs : List PyData} {cs : CS} (hc : cs[n]? = some (.lst xs)) (h : xs.length + zs.length ≤ sizeLine) : mExtend (.c n) [.d (.list zs)] cs = .ok (.d .none) (cs.set n (.lst (xs ++ zs))) := by
  simp [mExtend, toL, onC, hc, h]
@[simp] theorem eIsi_at' {T : String} {m : ME} {env : Env} {cs : CS} : eIsi T m env cs = (m env cs).bind fun a cs1 => match tyName cs1 a with
  | some t => .ok (.d (.bool (isTy t T))) cs1
  | none => .no := rfl
end Sh
namespace K03
open Sh PySem L2
/-! ### what is the same is found the same -/
def atom : PyData → Bool
  | .none => true
  | .bool _ => true
  | .int _ => true
  | .str _ => true
  | _ => false
/-- a stack of data that n turns go through -/
inductive Eqs : List PyData → Nat → Prop
  | nil : Eqs [] 0
  | atom {st : List PyData} {n : Nat} {x : PyData} : Eqs st n → K03.atom x = true → Eqs (st ++ [x]) (n + 1)
  | tup {st xs : List PyData} {n : Nat} : Eqs (st ++ xs) n → Eqs (st ++ [.tuple xs]) (n + 1)
  | lst {st xs : List PyData} {n : Nat} : Eqs (st ++ xs) n → Eqs (st ++ [.list xs]) (n + 1)
theorem Eqs.len {st : List PyData} {n : Nat} (h : Eqs st n) : st.length ≤ n := by
  induction h with
  | nil => simp
  | atom _ _ ih => simp; omega
  | tup _ ih => simp at ih ⊢; omega
  | lst _ ih => simp at ih ⊢; omega
abbrev two (x : PyData) : PyData := .tuple [x, x]
abbrev eqE (t u : PyData) (x y : Option A) : Sh.Env := [some (.d t), some (.d u), some (.c 0), x, y, none]
abbrev stk (st : List PyData) : Cell := .lst (st.map two)
abbrev eqX : ME := eLc [5] (iRange1 (aCons (eFn fLen (aCons (eVar 4) aNil)) aNil)) (tgName 5) tYesM (eTup (aCons (eBin fIx (eVar 3) (eVar 5)) (aCons (eBin fIx (eVar 4) (eVar 5)) aNil)))
abbrev eqB : MS := (sIf (tOf (eBin (fIsN false) (eVar 4) (eC .none)))
  (sIf (tOf (eBin (fIsN true) (eVar 3) (eC .none)))
  (sRet (eC (.bool false)))
  sNext)
  (sIf (tTr (eIsi "bool" (eVar 4)))
  (sIf (tOrM (tNotM (tTr (eIsi "bool" (eVar 3)))) (tOf (eBin fNe (eVar 3) (eVar 4))))
  (sRet (eC (.bool false)))
  sNext)
  (sIf (tTr (eIsi "int" (eVar 4)))
  (sIf (tOrM (tTr (eIsi "bool" (eVar 3))) (tOrM (tNotM (tTr (eIsi "int" (eVar 3)))) (tOf (eBin fNe (eVar 3) (eVar 4)))))
  (sRet (eC (.bool false)))
  sNext)
  (sIf (tTr (eIsi "str" (eVar 4)))
  (sIf (tOrM (tNotM (tTr (eIsi "str" (eVar 3)))) (tOf (eBin fNe (eVar 3) (eVar 4))))
  (sRet (eC (.bool false)))
  sNext)
  (sIf (tOrM (tOf (eBin fNe (eIsi "tuple" (eVar 3)) (eIsi "tuple" (eVar 4)))) (tOrM (tOf (eBin fNe (eIsi "list" (eVar 3)) (eIsi "list" (eVar 4)))) (tOf (eBin fNe (eFn fLen (aCons (eVar 3) aNil)) (eFn fLen (aCons (eVar 4) aNil))))))
  (sRet (eC (.bool false)))
  (sDrop (eMeth "list" mExtend (eVar 2) (aCons eqX aNil))))))))
section
variable {t u : PyData}
theorem eq_atom {x : PyData} {c : Cell} (h : atom x = true) : eqB (eqE t u (some (.d x)) (some (.d x))) [c] = .nx (eqE t u (some (.d x)) (some (.d x))) [c] := by
  cases x with
  | none => simp [isNonA]
  | bool b => 
    have e : fNe (.d (.bool b)) (.d (.bool b)) [c] = .ok (.d (.bool false)) [c] := by rw [fNe_d (b := true) (by simp)]; rfl
    simp [isNonA, tyName, show isTy "bool" "bool" = true from by decide, e]
  | int i => simp [isNonA, tyName, show isTy "int" "bool" = false from by decide, show isTy "int" "int" = true from by decide]
  | str z => simp [isNonA, tyName, show isTy "str" "bool" = false from by decide, show isTy "str" "int" = false from by decide, show isTy "str" "str" = true from by decide]
  | list _ => cases h
  | tuple _ => cases h
  | dict _ => cases h
theorem eqX_eq {x : PyData} {xs : List PyData} {cs : CS} (hx : x = .tuple xs ∨ x = .list xs) (hl : xs.length ≤ 1000000) : eqX (eqE t u (some (.d x)) (some (.d x))) cs = .ok (.d (.list (xs.map two))) cs := by
  have ln : fLen [.d x] cs = .ok (.d (.int (xs.length : Int))) cs := by rcases hx with rfl | rfl <;> rfl
  have ix : ∀ (i : Nat) (y : PyData), xs[i]? = some y → fIx (.d x) (.d (.int (i : Int))) cs = .ok (.d y) cs := fun i y e => by
    rcases hx with rfl | rfl
    · exact fIx_tn e
    · exact fIx_ln e
  have k := eLc_all (fr := [5]) (src := iRange1 (aCons (eFn fLen (aCons (eVar 4) aNil)) aNil)) (tg := tgName 5) (e := eTup (aCons (eBin fIx (eVar 3) (eVar 5)) (aCons (eBin fIx (eVar 4) (eVar 5)) aNil))) (env := eqE t u (some (.d x)) (some (.d x))) (cs := cs)
    (fun (i : Nat) => A.d (.int (i : Int))) (fun i => two (xs.getD i .none)) (List.range xs.length) (by
      rw [iRange1_at]
      simp only [eFn_at, aCons_at, aNil_at, eVar_at, List.getElem?_cons_succ, List.getElem?_cons_zero, R.bind_ok, ln]
      rw [if_pos (inR_of (by omega) (by omega)), Int.toNat_natCast, rangeD_0]) (by rw [List.length_range]; exact size_le' hl) fun i hi => by
      have hi' : i < xs.length := List.mem_range.mp hi
      refine ⟨_, rfl, ?_⟩
      have e := ix i xs[i] (List.getElem?_eq_getElem hi')
      have g : xs.getD i .none = xs[i] := by rw [List.getD_eq_getElem?_getD, List.getElem?_eq_getElem hi']; rfl
      rw [g]
      simp [e]
  have e : (List.range xs.length).map (fun i => two (xs.getD i .none)) = xs.map two := by
    apply List.ext_getElem
    · simp
    · intro i h1 h2
      simp at h1 h2
      simp [h1]
  exact k.trans (by rw [e])
theorem eq_seq {x : PyData} {xs st : List PyData} (hx : x = .tuple xs ∨ x = .list xs) (hl : st.length + xs.length ≤ 1000000) : eqB (eqE t u (some (.d x)) (some (.d x))) [stk st] = .nx (eqE t u (some (.d x)) (some (.d x))) [stk (st ++ xs)] := by
  have ex := eqX_eq (t := t) (u := u) (cs := [stk st]) hx (by omega)
  have me : mExtend (.c 0) [.d (.list (xs.map two))] [stk st] = .ok (.d .none) [stk (st ++ xs)] := by
    rw [mExtend_c (xs := st.map two) rfl (size_le' (by simp; omega))]
    simp
  have dr : sDrop (eMeth "list" mExtend (eVar 2) (aCons eqX aNil)) (eqE t u (some (.d x)) (some (.d x))) [stk st] = .nx (eqE t u (some (.d x)) (some (.d x))) [stk (st ++ xs)] := by
    rw [sDrop_at, eMeth_at]
    simp only [eVar_at, List.getElem?_cons_succ, List.getElem?_cons_zero, R.bind_ok]
    rw [if_pos (show tyA _ _ _ = true from rfl)]
    simp only [aCons_at, aNil_at, ex, R.bind_ok, me, R.toS_ok]
  have b1 : ∀ (b : Bool) (cs : CS), fNe (.d (.bool b)) (.d (.bool b)) cs = .ok (.d (.bool false)) cs := fun b cs => by rw [fNe_d (b := true) (by simp)]; rfl
  unfold eqB
  rcases hx with rfl | rfl
  · rw [sIf_ff (cs1 := [stk st]) (by simp [isNonA]), sIf_ff (cs1 := [stk st]) (by simp [tyName, show isTy "tuple" "bool" = false from by decide]), sIf_ff (cs1 := [stk st]) (by simp [tyName, show isTy "tuple" "int" = false from by decide]), sIf_ff (cs1 := [stk st]) (by simp [tyName, show isTy "tuple" "str" = false from by decide]), sIf_ff (cs1 := [stk st]) (by simp [tyName, b1])]
    exact dr
  · rw [sIf_ff (cs1 := [stk st]) (by simp [isNonA]), sIf_ff (cs1 := [stk st]) (by simp [tyName, show isTy "list" "bool" = false from by decide]), sIf_ff (cs1 := [stk st]) (by simp [tyName, show isTy "list" "int" = false from by decide]), sIf_ff (cs1 := [stk st]) (by simp [tyName, show isTy "list" "str" = false from by decide]), sIf_ff (cs1 := [stk st]) (by simp [tyName, b1])]
    exact dr
abbrev eq0 : MS := sSeq (sAsg (eMeth "list" mPop (eVar 2) aNil) (tgTup 2 (tgCons (tgName 3) (tgCons (tgName 4) tgNil)))) eqB
theorem eq_loop {st : List PyData} {n : Nat} (h : Eqs st n) : ∀ fuel, n < fuel → n ≤ 1000000 → whileN (tTr (eVar 2)) eq0 [3, 4] fuel (eqE t u none none) [stk st] = .nx (eqE t u none none) [stk []] := by
  have pop : ∀ (st : List PyData) (x : PyData), sAsg (eMeth "list" mPop (eVar 2) aNil) (tgTup 2 (tgCons (tgName 3) (tgCons (tgName 4) tgNil))) (eqE t u none none) [stk (st ++ [x])] = .nx (eqE t u (some (.d x)) (some (.d x))) [stk st] := fun st x => by
    have p := mPop_last (cs := [stk (st ++ [x])]) (n := 0) (xs := st.map two) (x := two x) (by simp)
    rw [sAsg_at, eMeth_at]
    simp only [eVar_at, List.getElem?_cons_succ, List.getElem?_cons_zero, R.bind_ok]
    rw [if_pos (show tyA _ _ _ = true from rfl)]
    simp only [aNil_at, R.bind_ok, p, R.toS_ok, tgTup_2]
    rfl
  have tt : ∀ (st : List PyData) (x : PyData), (tTr (eVar 2) : MT) (eqE t u none none) [stk (st ++ [x])] = .ok true [stk (st ++ [x])] := fun st x => by
    simp [truD]
  induction h with
  | nil =>
    intro fuel hf _
    obtain ⟨f, rfl⟩ : ∃ f, fuel = f + 1 := ⟨fuel - 1, by omega⟩
    unfold whileN
    simp [truD]
  | @atom st n x h ha ih =>
    intro fuel hf hn
    obtain ⟨f, rfl⟩ : ∃ f, fuel = f + 1 := ⟨fuel - 1, by omega⟩
    unfold whileN
    rw [tt]
    simp only [R.toS_ok, if_true]
    rw [show eq0 (eqE t u none none) [stk (st ++ [x])] = .nx (eqE t u (some (.d x)) (some (.d x))) [stk st] from (sSeq_nx (pop st x)).trans (eq_atom ha)]
    exact ih f (by omega) (by omega)
  | @tup st xs n h ih =>
    intro fuel hf hn
    obtain ⟨f, rfl⟩ : ∃ f, fuel = f + 1 := ⟨fuel - 1, by omega⟩
    have hl := h.len
    unfold whileN
    rw [tt]
    simp only [R.toS_ok, if_true]
    rw [show eq0 (eqE t u none none) [stk (st ++ [.tuple xs])] = .nx (eqE t u (some (.d (.tuple xs))) (some (.d (.tuple xs)))) [stk (st ++ xs)] from (sSeq_nx (pop st _)).trans (eq_seq (.inl rfl) (by simp at hl; omega))]
    exact ih f (by omega) (by omega)
  | @lst st xs n h ih =>
    intro fuel hf hn
    obtain ⟨f, rfl⟩ : ∃ f, fuel = f + 1 := ⟨fuel - 1, by omega⟩
    have hl := h.len
    unfold whileN
    rw [tt]
    simp only [R.toS_ok, if_true]
    rw [show eq0 (eqE t u none none) [stk (st ++ [.list xs])] = .nx (eqE t u (some (.d (.list xs))) (some (.d (.list xs)))) [stk (st ++ xs)] from (sSeq_nx (pop st _)).trans (eq_seq (.inr rfl) (by simp at hl; omega))]
    exact ih f (by omega) (by omega)
end
theorem same_eq {x : PyData} {n : Nat} (h : Eqs [x] n) (hn : n ≤ 1000000) (cs : CS) : plainF f__law_equal [.d x, .d x] cs = .ok (.d (.bool true)) cs := by
  have lp := eq_loop (t := x) (u := x) h 1000000000 (by omega) hn
  refine plainF_ok rfl ?_
  show runBody 6 m__law_equal [.d x, .d x] [] = _
  unfold runBody m__law_equal
  simp only [List.map_cons, List.map_nil, List.length_cons, List.length_nil, List.cons_append, List.nil_append, Nat.reduceAdd, Nat.reduceSub, List.replicate]
  rw [sSeq_nx (env1 := eqE x x none none) (cs1 := [stk [x]]) (by simp)]
  rw [sSeq_nx (m := sWhile 1000000000 [3, 4] (tTr (eVar 2)) eq0) (by rw [sWhile_at]; exact lp)]
  simp
/-! what goes through -/
theorem Eqs.all {xs : List PyData} (h : ∀ x ∈ xs, ∃ k, k ≤ 20 ∧ ∀ st n, Eqs st n → Eqs (st ++ [x]) (n + k)) : ∀ {st : List PyData} {n : Nat}, Eqs st n → ∃ k, k ≤ 20 * xs.length ∧ Eqs (st ++ xs) (n + k) := by
  induction xs with
  | nil => intro st n hs; exact ⟨0, by simp, by simpa using hs⟩
  | cons x xs ih =>
    intro st n hs
    obtain ⟨k, hk, e⟩ := h x List.mem_cons_self
    obtain ⟨k', hk', e'⟩ := ih (fun y hy => h y (List.mem_cons_of_mem _ hy)) (e st n hs)
    exact ⟨k + k', by simp; omega, by rw [List.append_assoc] at e'; simpa [Nat.add_assoc] using e'⟩
theorem Eqs.flat {xs : List PyData} (h : xs.all K03.atom = true) : ∀ {st : List PyData} {n : Nat}, Eqs st n → Eqs (st ++ xs) (n + xs.length) := by
  induction xs with
  | nil => intro st n hs; simpa using hs
  | cons x xs ih =>
    intro st n hs
    simp only [List.all_cons, Bool.and_eq_true] at h
    have := ih h.2 (Eqs.atom hs h.1)
    rw [List.append_assoc] at this
    simpa [Nat.add_comm, Nat.add_left_comm] using this
end K03
namespace K03
open Sh PySem L2
/-! ### what is told of any text -/
theorem lines_len : ∀ {ls : List (List Nat)} {n : Nat} {us : List Tk}, lexLines n ls = .ok us → us.length ≤ lsum ls
  | [], n, us, h => by cases h; simp [lsum]
  | l :: ls, n, us, h => by
    have hl : lsum (l :: ls) = l.length + lsum ls := by simp [lsum]
    have h' : after (lexX n 0 l) (lexLines (n + 1) ls) = .ok us := h
    cases o : lexX n 0 l with
    | bad a b w => rw [o] at h'; cases h'
    | ok vs =>
      rw [o] at h'
      have h2 : (lexLines (n + 1) ls).app vs = .ok us := h'
      have := lexX_len l.length (Nat.le_refl _) o
      cases o2 : lexLines (n + 1) ls with
      | bad a b w => rw [o2] at h2; cases h2
      | ok ws =>
        rw [o2] at h2
        cases h2
        have := lines_len o2
        simp
        omega
theorem text_len {x : List Nat} {us : List Tk} (h : lexText x = .ok us) : us.length ≤ x.length := Nat.le_trans (lines_len h) (lsum_spl 10 x)
theorem Eqs.toks : ∀ {us : List Tk} {st : List PyData} {n : Nat}, Eqs st n → Eqs (st ++ us.map encT) (n + 5 * us.length)
  | [], st, n, h => by simpa using h
  | t :: us, st, n, h => by
    have h1 : Eqs (st ++ [.str (kdS t.k), .str (S t.w), .int (t.ln : Int), .int (t.pl : Int)]) (n + 4) := Eqs.flat rfl h
    have h2 : Eqs (st ++ [encT t]) (n + 4 + 1) := Eqs.tup h1
    have h3 := Eqs.toks (us := us) h2
    rw [List.append_assoc] at h3
    have e : n + 4 + 1 + 5 * us.length = n + 5 * (t :: us).length := by simp; omega
    rw [e] at h3
    exact h3
theorem eqs_R {x : List Nat} (hx : x.length ≤ 100000) : ∃ n, n ≤ 1000000 ∧ Eqs [encR (lexText x)] n := by
  cases o : lexText x with
  | bad a b w =>
    have h : Eqs ([] ++ [encR (.bad a b w)]) (0 + 4 + 1) := Eqs.tup (Eqs.flat (xs := [.str "refused", .int (a : Int), .int (b : Int), .str (erS w)]) rfl Eqs.nil)
    exact ⟨5, by omega, h⟩
  | ok us =>
    have hl := text_len o
    have h1 : Eqs ([.str "told"] ++ us.map encT) (0 + 1 + 5 * us.length) := Eqs.toks (Eqs.flat (xs := [.str "told"]) rfl Eqs.nil)
    have h2 : Eqs ([.str "told"] ++ [.tuple (us.map encT)]) (0 + 1 + 5 * us.length + 1) := Eqs.tup h1
    have h3 : Eqs ([] ++ [encR (.ok us)]) (0 + 1 + 5 * us.length + 1 + 1) := Eqs.tup h2
    exact ⟨_, by omega, h3⟩
theorem equal_R {x : List Nat} (hx : x.length ≤ 100000) (cs : CS) : plainF f__law_equal [.d (encR (lexText x)), .d (encR (lexText x))] cs = .ok (.d (.bool true)) cs := by
  obtain ⟨n, h1, h2⟩ := eqs_R hx
  exact same_eq h2 h1 cs
/-! ### a text spoilt -/
theorem cut_len (x : List Nat) (lo hi : Option Int) : ∃ y : List Nat, cutS (S x) lo hi = S y ∧ y.length ≤ x.length := by
  refine ⟨_, rfl, ?_⟩
  simp
  omega
theorem fSlice_any {x : List Nat} {lo hi : Option Int} {cs : CS} (h : x.length ≤ 1000000) : ∃ y : List Nat, y.length ≤ x.length ∧ ∀ cs, fSlice (.d (.str (S x))) lo hi cs = .ok (.d (.str (S y))) cs := by
  obtain ⟨y, e, hl⟩ := cut_len x lo hi
  refine ⟨y, hl, fun cs => ?_⟩
  have : (S x).length ≤ sizeLine := by rw [S_len]; exact size_le' h
  simp only [fSlice]
  rw [if_pos this, e]
theorem mul_any {a : Str} {n : Nat} (ha : a.length ≤ 2) (hn : n ≤ 20) (cs : CS) : ∃ b : Str, b.length ≤ 40 ∧ fMulX (.d (.str a)) (.d (.int (n : Int))) cs = .ok (.d (.str b)) cs := by
  have ok : mulSOk a (n : Int) = true := by
    refine decide_eq_true ⟨by omega, ?_⟩
    rw [Int.toNat_natCast]
    have : a.length * n ≤ 2 * 20 := Nat.mul_le_mul ha hn
    omega
  refine ⟨Txt.mul a n, ?_, by simp only [fMulX]; rw [if_pos ok]⟩
  rw [str_len, mul_list, List.length_flatten, List.map_replicate, List.sum_replicate_nat, ← str_len]
  have : n * a.length ≤ 20 * 2 := Nat.mul_le_mul hn ha
  omega
theorem spoilt_eq {u : Cell} (hu : Urn u) {x : List Nat} (hx : x.length ≤ 60000) : ∃ (y : List Nat) (u' : Cell), y.length ≤ 2 * x.length + 40 ∧ Urn u' ∧ ∀ rest : CS, partF f__law_spoilt [.c 0, .d (.str (S x))] (u :: rest) = .ok (.d (.str (S y))) (u' :: rest) := by
  obtain ⟨a, u1, ha, hu1, d1⟩ := draw hu (many := x.length + 1) (by omega) 20
  have d1' : partF f__law_take [.c 0, .d (.int 20), .d (.int ((x.length : Int) + 1))] [u] = .ok (.d (.int (a : Int))) [u1] := d1 []
  obtain ⟨b, u2, hb, hu2, d2⟩ := draw hu1 (many := 4) (by omega) 21
  have d2' : partF f__law_take [.c 0, .d (.int 21), .d (.int 4)] [u1] = .ok (.d (.int (b : Int))) [u2] := d2 []
  obtain ⟨v, u3, hv, hu3, d3⟩ := draw hu2 (many := 20) (by omega) 22
  have d3' : partF f__law_take [.c 0, .d (.int 22), .d (.int 20)] [u2] = .ok (.d (.int (v : Int))) [u3] := d3 []
  have fl := fLen_S (l := x) (cs := [u]) (by omega)
  have e11 : (11 : Int) + (b : Int) = ((11 + b : Nat) : Int) := by omega
  obtain ⟨m1, hm1, M1⟩ := mul_any (a := "1") (n := 11 + b) (by decide +kernel) (by omega) [u2]
  obtain ⟨m2, hm2, M2⟩ := mul_any (a := "0") (n := 11 + b) (by decide +kernel) (by omega) [u2]
  obtain ⟨m3, hm3, M3⟩ := mul_any (a := "b") (n := 11 + b) (by decide +kernel) (by omega) [u2]
  obtain ⟨m4, hm4, M4⟩ := mul_any (a := "a9") (n := (11 + b) / 2 + 1) (by decide +kernel) (by omega) [u2]
  have dv : fDiv (.d (.int ((11 + b : Nat) : Int))) (.d (.int 2)) [u2] = .ok (.d (.int (((11 + b) / 2 : Nat) : Int))) [u2] := fDiv_nat (b := 2) (by omega) (by omega)
  have e2 : (((11 + b) / 2 : Nat) : Int) + 1 = (((11 + b) / 2 + 1 : Nat) : Int) := by omega
  obtain ⟨odd, ho, io⟩ : ∃ odd : Str, odd.length ≤ 40 ∧ fIx (.d (.tuple ((["A", "!", "=", "\t", "_", ".", "(", "07", "00", "0", m1, m2, m3, m4, "Z", "~", "^", "\"", "@", "007 #"] : List Str).map PyData.str))) (.d (.int (v : Int))) [u3] = .ok (.d (.str odd)) [u3] := by
    have all : ∀ z ∈ (["A", "!", "=", "\t", "_", ".", "(", "07", "00", "0", m1, m2, m3, m4, "Z", "~", "^", "\"", "@", "007 #"] : List Str), z.length ≤ 40 := by
      have k1 : ∀ z ∈ (["A", "!", "=", "\t", "_", ".", "(", "07", "00", "0"] : List Str), z.length ≤ 40 := by decide +kernel
      have k2 : ∀ z ∈ (["Z", "~", "^", "\"", "@", "007 #"] : List Str), z.length ≤ 40 := by decide +kernel
      intro z hz
      have e : (["A", "!", "=", "\t", "_", ".", "(", "07", "00", "0", m1, m2, m3, m4, "Z", "~", "^", "\"", "@", "007 #"] : List Str) = (["A", "!", "=", "\t", "_", ".", "(", "07", "00", "0"] : List Str) ++ ([m1, m2, m3, m4] ++ (["Z", "~", "^", "\"", "@", "007 #"] : List Str)) := rfl
      rw [e, List.mem_append, List.mem_append] at hz
      rcases hz with hz | hz | hz
      · exact k1 z hz
      · simp only [List.mem_cons, List.not_mem_nil, or_false] at hz
        rcases hz with rfl | rfl | rfl | rfl <;> assumption
      · exact k2 z hz
    have hl : v < (["A", "!", "=", "\t", "_", ".", "(", "07", "00", "0", m1, m2, m3, m4, "Z", "~", "^", "\"", "@", "007 #"] : List Str).length := by simpa using hv
    exact ⟨_, all _ (List.getElem_mem hl), fIx_tn (by rw [List.getElem?_map, List.getElem?_eq_getElem hl]; rfl)⟩
  obtain ⟨y1, hy1, s1⟩ := fSlice_any (x := x) (lo := none) (hi := some (a : Int)) (cs := []) (by omega)
  obtain ⟨y2, hy2, s2⟩ := fSlice_any (x := x) (lo := some (a : Int)) (hi := none) (cs := []) (by omega)
  have hol : odd.cps.toList.length ≤ 40 := by rw [← str_len]; exact ho
  refine ⟨y1 ++ odd.cps.toList ++ y2, u3, by simp; simp at hol; omega, hu3, fun rest => partF_1 (k := 0) rfl rfl ?_⟩
  show runBody 5 m__law_spoilt [.c 0, .d (.str (S x))] [u] = _
  unfold runBody m__law_spoilt
  simp only [List.map_cons, List.map_nil, List.length_cons, List.length_nil, List.cons_append, List.nil_append, Nat.reduceAdd, Nat.reduceSub, List.replicate]
  rw [sSeq_nx (env1 := [some (.c 0), dS x, some (.d (.int (a : Int))), none, none]) (cs1 := [u1]) (by
    simp only [sAsg_at, eBin_at, eFn_at, eCall_at, aCons_at, aNil_at, eC_at, eVar_at, List.getElem?_cons_zero, List.getElem?_cons_succ, R.bind_ok, fl, fAdd_int, List.length_cons, List.length_nil, Nat.reduceAdd, if_true, d1', R.toS_ok, tgName_at, List.set_cons_zero, List.set_cons_succ])]
  rw [sSeq_nx (env1 := [some (.c 0), dS x, some (.d (.int (a : Int))), some (.d (.int ((11 + b : Nat) : Int))), none]) (cs1 := [u2]) (by
    simp only [sAsg_at, eBin_at, eCall_at, aCons_at, aNil_at, eC_at, eVar_at, List.getElem?_cons_zero, List.getElem?_cons_succ, R.bind_ok, fAdd_int, List.length_cons, List.length_nil, Nat.reduceAdd, if_true, d2', e11, R.toS_ok, tgName_at, List.set_cons_zero, List.set_cons_succ])]
  rw [sSeq_nx (env1 := [some (.c 0), dS x, some (.d (.int (a : Int))), some (.d (.int ((11 + b : Nat) : Int))), some (.d (.str odd))]) (cs1 := [u3]) (by
    simp only [sAsg_at, eBin_at, eTup_at, eCall_at, aCons_at, aNil_at, eC_at, eVar_at, List.getElem?_cons_zero, List.getElem?_cons_succ, R.bind_ok, M1, M2, M3, M4, dv, fAdd_int, e2, allD_d, allD_nil, Option.map_some]
    rw [if_pos (size_le' (by simp))]
    simp only [R.bind_ok, List.length_cons, List.length_nil, Nat.reduceAdd, if_true, d3']
    rw [show fIx (.d (.tuple [.str "A", .str "!", .str "=", .str "\t", .str "_", .str ".", .str "(", .str "07", .str "00", .str "0", .str m1, .str m2, .str m3, .str m4, .str "Z", .str "~", .str "^", .str "\"", .str "@", .str "007 #"])) (.d (.int (v : Int))) [u3] = _ from io]
    rfl)]
  have eo := S_of odd
  have a1 := fAdd_S (a := y1) (b := odd.cps.toList) (cs := [u3]) (by omega)
  rw [← eo] at a1
  have a2 := fAdd_S (a := y1 ++ odd.cps.toList) (b := y2) (cs := [u3]) (by rw [List.length_append]; omega)
  simp only [sRet_at, eBin_at, eSlice, oNone, oSome, eVar_at, List.getElem?_cons_zero, List.getElem?_cons_succ, R.bind_ok, s1, s2, a1, a2, R.toS_ok]
  simp [fin]
end K03
namespace K03
open Sh PySem L2
/-! ### the texts by hand -/
abbrev hd (t : Str) : PyData := .tuple [.str t, encR (lexText t.cps.toList)]
abbrev hands1 : List Str := ["abcdefghijkl", "abcdefghijklm", " 0123456789012", "012345678901"]
abbrev hands2 : List Str := ["12ab", "0a", "a#b\n\n'c"]
abbrev hands3 : List Str := ["", "#A\n", "a\tb", "a1b2\n  -B", "x 00 Z", "1000000000000", "100000000000z"]
abbrev hm1 : ME := (eLst (aCons (eTup (aCons (eC (.str "abcdefghijkl")) (aCons (eTup (aCons (eC (.str "told")) (aCons (eTup (aCons (eTup (aCons (eC (.str "word")) (aCons (eC (.str "abcdefghijkl")) (aCons (eC (.int 1)) (aCons (eC (.int 1)) aNil))))) aNil)) aNil))) aNil))) (aCons (eTup (aCons (eC (.str "abcdefghijklm")) (aCons (eTup (aCons (eC (.str "refused")) (aCons (eC (.int 1)) (aCons (eC (.int 1)) (aCons (eC (.str "long")) aNil))))) aNil))) (aCons (eTup (aCons (eC (.str " 0123456789012")) (aCons (eTup (aCons (eC (.str "refused")) (aCons (eC (.int 1)) (aCons (eC (.int 2)) (aCons (eC (.str "long")) aNil))))) aNil))) (aCons (eTup (aCons (eC (.str "012345678901")) (aCons (eTup (aCons (eC (.str "refused")) (aCons (eC (.int 1)) (aCons (eC (.int 1)) (aCons (eC (.str "number")) aNil))))) aNil))) aNil)))))
abbrev hm2 : ME := (eLst (aCons (eTup (aCons (eC (.str "12ab")) (aCons (eTup (aCons (eC (.str "told")) (aCons (eTup (aCons (eTup (aCons (eC (.str "number")) (aCons (eC (.str "12")) (aCons (eC (.int 1)) (aCons (eC (.int 1)) aNil))))) (aCons (eTup (aCons (eC (.str "word")) (aCons (eC (.str "ab")) (aCons (eC (.int 1)) (aCons (eC (.int 3)) aNil))))) aNil))) aNil))) aNil))) (aCons (eTup (aCons (eC (.str "0a")) (aCons (eTup (aCons (eC (.str "told")) (aCons (eTup (aCons (eTup (aCons (eC (.str "number")) (aCons (eC (.str "0")) (aCons (eC (.int 1)) (aCons (eC (.int 1)) aNil))))) (aCons (eTup (aCons (eC (.str "word")) (aCons (eC (.str "a")) (aCons (eC (.int 1)) (aCons (eC (.int 2)) aNil))))) aNil))) aNil))) aNil))) (aCons (eTup (aCons (eC (.str "a#b\n\n'c")) (aCons (eTup (aCons (eC (.str "told")) (aCons (eTup (aCons (eTup (aCons (eC (.str "word")) (aCons (eC (.str "a")) (aCons (eC (.int 1)) (aCons (eC (.int 1)) aNil))))) (aCons (eTup (aCons (eC (.str "sign")) (aCons (eC (.str "'")) (aCons (eC (.int 3)) (aCons (eC (.int 1)) aNil))))) (aCons (eTup (aCons (eC (.str "word")) (aCons (eC (.str "c")) (aCons (eC (.int 3)) (aCons (eC (.int 2)) aNil))))) aNil)))) aNil))) aNil))) aNil))))
abbrev hm3 : ME := (eLst (aCons (eTup (aCons (eC (.str "")) (aCons (eTup (aCons (eC (.str "told")) (aCons (eTup aNil) aNil))) aNil))) (aCons (eTup (aCons (eC (.str "#A\n")) (aCons (eTup (aCons (eC (.str "told")) (aCons (eTup aNil) aNil))) aNil))) (aCons (eTup (aCons (eC (.str "a\tb")) (aCons (eTup (aCons (eC (.str "refused")) (aCons (eC (.int 1)) (aCons (eC (.int 2)) (aCons (eC (.str "sign")) aNil))))) aNil))) (aCons (eTup (aCons (eC (.str "a1b2\n  -B")) (aCons (eTup (aCons (eC (.str "refused")) (aCons (eC (.int 2)) (aCons (eC (.int 4)) (aCons (eC (.str "sign")) aNil))))) aNil))) (aCons (eTup (aCons (eC (.str "x 00 Z")) (aCons (eTup (aCons (eC (.str "refused")) (aCons (eC (.int 1)) (aCons (eC (.int 3)) (aCons (eC (.str "number")) aNil))))) aNil))) (aCons (eTup (aCons (eC (.str "1000000000000")) (aCons (eTup (aCons (eC (.str "refused")) (aCons (eC (.int 1)) (aCons (eC (.int 1)) (aCons (eC (.str "long")) aNil))))) aNil))) (aCons (eTup (aCons (eC (.str "100000000000z")) (aCons (eTup (aCons (eC (.str "told")) (aCons (eTup (aCons (eTup (aCons (eC (.str "number")) (aCons (eC (.str "100000000000")) (aCons (eC (.int 1)) (aCons (eC (.int 1)) aNil))))) (aCons (eTup (aCons (eC (.str "word")) (aCons (eC (.str "z")) (aCons (eC (.int 1)) (aCons (eC (.int 13)) aNil))))) aNil))) aNil))) aNil))) aNil))))))))
theorem h1_eq (env : Sh.Env) (cs : CS) : hm1 env cs = .ok (.d (.list (hands1.map hd))) cs := by kernel_rfl
theorem h2_eq (env : Sh.Env) (cs : CS) : hm2 env cs = .ok (.d (.list (hands2.map hd))) cs := by kernel_rfl
theorem h3_eq (env : Sh.Env) (cs : CS) : hm3 env cs = .ok (.d (.list (hands3.map hd))) cs := by kernel_rfl
end K03
namespace K03
open Sh PySem L2
/-! ### the urn -/
def cellOf (i : Int) : Nat := (i % 999553).toNat + 2
theorem urn_eq (ns : List Int) (hn : ns.length ≤ 63) : ∃ u, Urn u ∧ f__law_urn [.s ns] [] = .ok (.c 0) [u] := by
  have k := eLc_all (fr := [3]) (src := iVal (eVar 0)) (tg := tgName 3) (e := eBin fAdd (eBin fMod (eFn fInt (aCons (eVar 3) aNil)) (eC (.int 999553))) (eC (.int 2))) (env := [some (.s ns), some (.d (.int 30307)), none, none]) (cs := [])
    (fun (i : Int) => A.d (.int i)) (fun i => .int (cellOf i : Int)) ns (by simp) (size_le' (by omega)) fun i _ => by
      refine ⟨_, rfl, ?_⟩
      have h1 := Int.emod_nonneg i (show (999553 : Int) ≠ 0 by omega)
      have m : fMod (.d (.int i)) (.d (.int 999553)) [] = .ok (.d (.int (i % 999553))) [] := fMod_int (by omega)
      have e : i % 999553 + 2 = (cellOf i : Int) := by unfold cellOf; omega
      have wp : wipeE [3].reverse [some (.s ns), some (.d (.int 30307)), none, none] = [some (.s ns), some (.d (.int 30307)), none, none] := rfl
      rw [wp]
      simp [m, e]
  have em : (ns.map fun i => PyData.int (cellOf i : Int)) = nsD (ns.map cellOf) := by simp [nsD]
  rw [em] at k
  generalize hc : (ns.map cellOf).take 60 = cl
  have hcl : ∀ y ∈ cl, y < 1000000 := by
    intro y hy
    rw [← hc] at hy
    have := List.mem_of_mem_take hy
    obtain ⟨i, _, rfl⟩ := List.mem_map.mp this
    have h2 := Int.emod_lt_of_pos i (show (0 : Int) < 999553 by omega)
    unfold cellOf
    omega
  have sl : ∀ cs, fSlice (.d (.list (nsD (ns.map cellOf)))) none (some 60) cs = .ok (.d (.list (nsD cl))) cs := fun cs => by
    have e : cutP (nsD (ns.map cellOf)) none (some 60) = nsD cl := by
      rw [← hc]
      have s60 : HT.sIx (nsD (ns.map cellOf)).length (nsD (ns.map cellOf)).length (some 60) = min 60 (nsD (ns.map cellOf)).length := HT.sIx_nat _ _ 60
      unfold cutP
      rw [s60, HT.sIx_none]
      simp [nsD, List.map_take]
    show (match toL cs (A.d (.list (nsD (ns.map cellOf)))) with
      | some xs => R.ok (A.d (.list (cutP xs none (some 60)))) cs
      | none => .no) = _
    simp only [toL, e]
  have loop := forList (tg := tgName 3) (body := sAsg (eBin fMod (eBin fAdd (eBin fAdd (eBin fAdd (eBin fMulX (eVar 1) (eC (.int 3511))) (eBin fMulX (eVar 3) (eC (.int 7)))) (eBin fMulX (eVar 3) (eVar 3))) (eC (.int 37))) (eC (.int 2147483543))) (tgName 1)) (fg := [3])
    (fun (y : Nat) => A.d (.int (y : Int))) (fun (s : Nat) => [some (.s ns), some (.d (.int (s : Int))), some (.d (.list (nsD cl))), none]) (fun _ => []) (fun _ _ => True) cl (by
      intro k y s hy _
      have yl := hcl y (List.mem_of_getElem? hy)
      have m1 := fMulX_int (cs := []) (i := (s : Int)) (j := 3511) (mulOk_small (.inr (by decide)))
      have m2 := fMulX_int (cs := []) (i := (y : Int)) (j := 7) (mulOk_small (.inr (by decide)))
      have m3 := fMulX_int (cs := []) (i := (y : Int)) (j := (y : Int)) (mulOk_small (.inr (by omega)))
      obtain ⟨s2, _, d⟩ := fMod_ok (cs := []) (i := (s : Int) * 3511 + (y : Int) * 7 + (y : Int) * (y : Int) + 37) (b := 2147483543) (by omega)
      have d' : fMod (.d (.int ((s : Int) * 3511 + (y : Int) * 7 + (y : Int) * (y : Int) + 37))) (.d (.int 2147483543)) [] = _ := d
      refine ⟨s2, trivial, ?_⟩
      rw [turn_at]
      simp only [tgName_at, sAsg_at, eBin_at, eC_at, eVar_at, List.set_cons_zero, List.set_cons_succ, List.getElem?_cons_zero, List.getElem?_cons_succ, R.bind_ok, m1, m2, m3, fAdd_int, d', R.toS_ok, Goes_nx]
      exact ⟨rfl, trivial⟩) 30307 trivial
  obtain ⟨s, lp, _⟩ := loop
  have lp : forIt (tgName 3) (sAsg (eBin fMod (eBin fAdd (eBin fAdd (eBin fAdd (eBin fMulX (eVar 1) (eC (.int 3511))) (eBin fMulX (eVar 3) (eC (.int 7)))) (eBin fMulX (eVar 3) (eVar 3))) (eC (.int 37))) (eC (.int 2147483543))) (tgName 1)) [3] (cl.map fun (y : Nat) => A.d (.int (y : Int))) [some (.s ns), some (.d (.int 30307)), some (.d (.list (nsD cl))), none] [] = .nx [some (.s ns), some (.d (.int (s : Int))), some (.d (.list (nsD cl))), none] [] := lp
  have v1 : fDiv (.d (.int (s : Int))) (.d (.int 19)) [] = .ok (.d (.int ((s / 19 : Nat) : Int))) [] := fDiv_nat (b := 19) (by omega) (by omega)
  have v2 : fDiv (.d (.int (s : Int))) (.d (.int 114)) [] = .ok (.d (.int ((s / 114 : Nat) : Int))) [] := fDiv_nat (b := 114) (by omega) (by omega)
  have v3 : fMod (.d (.int ((s / 19 : Nat) : Int))) (.d (.int 6)) [] = .ok (.d (.int ((s / 19 % 6 : Nat) : Int))) [] := fMod_nat (b := 6) (by omega)
  have v4 : fMod (.d (.int ((s / 114 : Nat) : Int))) (.d (.int 1009)) [] = .ok (.d (.int ((s / 114 % 1009 : Nat) : Int))) [] := fMod_nat (b := 1009) (by omega)
  have hcll : cl.length ≤ 63 := by rw [← hc, List.length_take, List.length_map]; omega
  have ad : fAdd (.d (.list (nsD cl))) (.d (.list [.int 103])) [] = .ok (.d (.list (nsD (cl ++ [103])))) [] := by
    simp only [fAdd, toL]
    rw [if_pos (size_le' (by simp; omega))]
    simp [nsD]
  generalize s / 19 % 6 = q1 at *
  generalize s / 114 % 1009 = q2 at *
  generalize s / 19 = q3 at *
  generalize s / 114 = q4 at *
  refine ⟨ut s 0 (cl ++ [103]) q1 q2, ⟨s, 0, cl ++ [103], q1, q2, by simp, rfl⟩, ?_⟩
  unfold f__law_urn runBody m__law_urn
  simp only [List.map_cons, List.map_nil, List.length_cons, List.length_nil, List.cons_append, List.nil_append, Nat.reduceAdd, Nat.reduceSub, List.replicate]
  rw [sSeq_nx (env1 := [some (.s ns), some (.d (.int 30307)), none, none]) (cs1 := []) (by simp)]
  rw [sSeq_nx (env1 := [some (.s ns), some (.d (.int 30307)), some (.d (.list (nsD cl))), none]) (cs1 := []) (by
    simp only [sAsg_at, eSlice, oNone, oSome, eC_at, R.bind_ok]
    rw [k]
    simp only [R.bind_ok, sl, R.toS_ok, tgName_at, List.set_cons_zero, List.set_cons_succ])]
  have fr : sFor 1000000000 [3] (iVal (eVar 2)) (tgName 3) (sAsg (eBin fMod (eBin fAdd (eBin fAdd (eBin fAdd (eBin fMulX (eVar 1) (eC (.int 3511))) (eBin fMulX (eVar 3) (eC (.int 7)))) (eBin fMulX (eVar 3) (eVar 3))) (eC (.int 37))) (eC (.int 2147483543))) (tgName 1)) [some (.s ns), some (.d (.int 30307)), some (.d (.list (nsD cl))), none] [] = .nx [some (.s ns), some (.d (.int (s : Int))), some (.d (.list (nsD cl))), none] [] := by
    rw [sFor_at, iVal_at]
    simp only [eVar_at, List.getElem?_cons_zero, List.getElem?_cons_succ, R.bind_ok, srcOf_list, R.toS_ok, forS_it]
    have e : (nsD cl).map A.d = cl.map fun (y : Nat) => A.d (.int (y : Int)) := by simp [nsD]
    rw [e]
    exact lp
  rw [sSeq_nx fr]
  simp only [sRet_at, eLstC_at, aCons_at, aNil_at, eC_at, eBin_at, eLst_at, eVar_at, List.getElem?_cons_zero, List.getElem?_cons_succ, R.bind_ok, allD_d, allD_nil, Option.map_some]
  rw [if_pos (size_le' (by simp))]
  simp only [R.bind_ok, ad, v1, v2, v3, v4, allD_d, allD_nil, Option.map_some]
  rw [if_pos (size_le' (by simp))]
  simp [fin]
/-! ### the law -/
abbrev lwB : MS := sSeq (sAsg (eCall 2 (partF (f__law_spoilt)) (aCons (eVar 1) (aCons (eVar 3) aNil))) (tgName 6))
  (sSeq (sIf (tOf (eBin fGt (eVar 5) (eC (.int 4)))) (sAsg (eCall 2 (partF (f__law_spoilt)) (aCons (eVar 1) (aCons (eVar 6) aNil))) (tgName 6)) sNext)
  (sIf (tNotM (tTr (eCall 2 (plainF (f__law_equal)) (aCons (eCall 1 (plainF (f__law_heard)) (aCons (eVar 6) aNil)) (aCons (eCall 1 (plainF (f__law_lexed)) (aCons (eVar 6) aNil)) aNil))))) (sRet (eC (.bool false))) sNext))
abbrev lwE (ns : List Int) (m : Int) (x : List Nat) (tk : PyData) (a b c d : Option A) : Sh.Env := [some (.s ns), some (.c 0), some (.d (.int m)), dS x, some (.d tk), a, b, c, d]
theorem lap_eq {ns : List Int} {m : Int} {x : List Nat} {tk : PyData} {u : Cell} {k : Nat} (hu : Urn u) (hx : x.length ≤ 19000) : ∃ (y : List Nat) (u' : Cell), Urn u' ∧ lwB (lwE ns m x tk (some (.d (.int (k : Int)))) none none none) [u] = .nx (lwE ns m x tk (some (.d (.int (k : Int)))) (dS y) none none) [u'] := by
  obtain ⟨y1, u1, hy1, hu1, s1⟩ := spoilt_eq hu (x := x) (by omega)
  have s1 := s1 []
  obtain ⟨y, u2, hy, hu2, s2⟩ : ∃ (y : List Nat) (u2 : Cell), y.length ≤ 100000 ∧ Urn u2 ∧ sIf (tOf (eBin fGt (eVar 5) (eC (.int 4)))) (sAsg (eCall 2 (partF (f__law_spoilt)) (aCons (eVar 1) (aCons (eVar 6) aNil))) (tgName 6)) sNext (lwE ns m x tk (some (.d (.int (k : Int)))) (dS y1) none none) [u1] = .nx (lwE ns m x tk (some (.d (.int (k : Int)))) (dS y) none none) [u2] := by
    by_cases h4 : 4 < k
    · obtain ⟨y2, u2, hy2, hu2, s2⟩ := spoilt_eq hu1 (x := y1) (by omega)
      have s2 := s2 []
      refine ⟨y2, u2, by omega, hu2, ?_⟩
      rw [sIf_tt (cs1 := [u1]) (by simp [fGt]; omega)]
      simp only [sAsg_at, eCall_at, aCons_at, aNil_at, eVar_at, List.getElem?_cons_zero, List.getElem?_cons_succ, R.bind_ok, List.length_cons, List.length_nil, Nat.reduceAdd, if_true, s2, R.toS_ok, tgName_at, List.set_cons_zero, List.set_cons_succ]
    · exact ⟨y1, u1, by omega, hu1, by rw [sIf_ff (cs1 := [u1]) (by simp [fGt]; omega)]; rfl⟩
  have he := heard_eq (x := y) (by omega) [u2]
  have le := lexed_eq (x := y) (by omega) [u2]
  have eq := equal_R (x := y) hy [u2]
  refine ⟨y, u2, hu2, ?_⟩
  unfold lwB
  rw [sSeq_nx (env1 := lwE ns m x tk (some (.d (.int (k : Int)))) (dS y1) none none) (cs1 := [u1]) (by
    simp only [sAsg_at, eCall_at, aCons_at, aNil_at, eVar_at, List.getElem?_cons_zero, List.getElem?_cons_succ, R.bind_ok, List.length_cons, List.length_nil, Nat.reduceAdd, if_true, s1, R.toS_ok, tgName_at, List.set_cons_zero, List.set_cons_succ])]
  rw [sSeq_nx s2, sIf_ff (cs1 := [u2]) (by
    simp only [tNotM_at, tTr_at, eCall_at, aCons_at, aNil_at, eVar_at, List.getElem?_cons_zero, List.getElem?_cons_succ, R.bind_ok, List.length_cons, List.length_nil, Nat.reduceAdd, if_true, he, le, eq, truD_bool, Bool.not_true])]
  rfl
abbrev lwH : MS := sIf (tNotM (tTr (eCall 2 (plainF (f__law_equal)) (aCons (eCall 1 (plainF (f__law_heard)) (aCons (eVar 6) aNil)) (aCons (eVar 8) aNil))))) (sRet (eC (.bool false))) sNext
theorem hand_loop {ns : List Int} {m : Int} {x : List Nat} {tk : PyData} {h : Option A} {u : Cell} : ∀ ts : List Str, (∀ t ∈ ts, t.cps.toList.length ≤ 100000) →
    forIt (tgTup 2 (tgCons (tgName 6) (tgCons (tgName 8) tgNil))) lwH [6, 8] ((ts.map hd).map A.d) (lwE ns m x tk none none h none) [u] = .nx (lwE ns m x tk none none h none) [u]
  | [], _ => rfl
  | t :: ts, ht => by
    have hl := ht t List.mem_cons_self
    have he := heard_eq (x := t.cps.toList) (by omega) [u]
    rw [← S_of] at he
    have eq := equal_R (x := t.cps.toList) hl [u]
    have st : Goes (turn (tgTup 2 (tgCons (tgName 6) (tgCons (tgName 8) tgNil))) lwH (A.d (hd t)) (lwE ns m x tk none none h none) [u]) [6, 8] (lwE ns m x tk none none h none) [u] := by
      have e : turn (tgTup 2 (tgCons (tgName 6) (tgCons (tgName 8) tgNil))) lwH (A.d (hd t)) (lwE ns m x tk none none h none) [u] = lwH (lwE ns m x tk none (some (.d (.str t))) h (some (.d (encR (lexText t.cps.toList))))) [u] := rfl
      rw [e]
      unfold lwH
      rw [sIf_ff (cs1 := [u]) (by
        simp only [tNotM_at, tTr_at, eCall_at, aCons_at, aNil_at, eVar_at, List.getElem?_cons_zero, List.getElem?_cons_succ, R.bind_ok, List.length_cons, List.length_nil, Nat.reduceAdd, if_true, he, eq, truD_bool, Bool.not_true])]
      exact ⟨rfl, rfl⟩
    rw [List.map_cons, List.map_cons, forIt_step st]
    exact hand_loop ts fun t h => ht t (List.mem_cons_of_mem _ h)
theorem law_true : ∀ ns : List Int, ns.length ≤ 63 → (∀ z ∈ ns, Builtin.Int.intBits z ≤ 1048576) → ∃ cs, f_law [.s ns] [] = .ok (.d (.bool true)) cs := by
  intro ns hn _
  obtain ⟨u0, hu0, q0⟩ := urn_eq ns hn
  obtain ⟨v1, u1, hv1, hu1, d1⟩ := draw hu0 (many := 14) (by omega) 30
  have d1 : partF f__law_take [.c 0, .d (.int 30), .d (.int 14)] [u0] = .ok (.d (.int (v1 : Int))) [u1] := d1 []
  obtain ⟨v2, u2, hv2, hu2, d2⟩ := draw hu1 (many := 11) (by omega) 31
  have d2 : partF f__law_take [.c 0, .d (.int 31), .d (.int 11)] [u1] = .ok (.d (.int (v2 : Int))) [u2] := d2 []
  obtain ⟨v3, u3, hv3, hu3, d3⟩ := draw hu2 (many := 2) (by omega) 32
  have d3 : partF f__law_take [.c 0, .d (.int 32), .d (.int 2)] [u2] = .ok (.d (.int (v3 : Int))) [u3] := d3 []
  obtain ⟨m, hm, sm⟩ : ∃ m : Nat, m ≤ 400 ∧ sIf (tOf (eBin fEq (eCall 3 (partF (f__law_take)) (aCons (eVar 1) (aCons (eC (.int 31)) (aCons (eC (.int 11)) aNil)))) (eC (.int 6)))) (sAsg (eC (.int 400)) (tgName 2)) sNext
      [some (.s ns), some (.c 0), some (.d (.int ((2 + v1 : Nat) : Int))), none, none, none, none, none, none] [u1] = .nx [some (.s ns), some (.c 0), some (.d (.int (m : Int))), none, none, none, none, none, none] [u2] := by
    by_cases h6 : v2 = 6
    · refine ⟨400, by omega, ?_⟩
      rw [sIf_tt (cs1 := [u2]) (by simp [d2, h6])]
      simp
    · refine ⟨2 + v1, by omega, ?_⟩
      have : ¬ ((v2 : Int) = 6) := by omega
      rw [sIf_ff (cs1 := [u2]) (by simp [d2, this])]
      rfl
  obtain ⟨x, ts, u4, hx, hxl, htl, hu4, tq⟩ := text_eq hu3 hm hv3
  have tq := tq []
  have he := heard_eq (x := x) (by omega) [u4]
  have eq := equal_R (x := x) (by omega) [u4]
  rw [hx] at he eq
  obtain ⟨u5, lp, hu5⟩ := forRange (σ := Cell) (tg := tgName 5) (body := lwB) (fg := [6, 5]) (fun _ => lwE ns m x (.tuple (ts.map encT)) none none none none) (fun u => [u]) (fun _ u => Urn u) 8 (by
    intro k u _ hu
    obtain ⟨y, u', hu', e⟩ := lap_eq (ns := ns) (m := m) (tk := .tuple (ts.map encT)) (k := k) hu hxl
    refine ⟨u', hu', ?_⟩
    have tn : turn (tgName 5) lwB (.d (.int (k : Int))) (lwE ns m x (.tuple (ts.map encT)) none none none none) [u] = lwB (lwE ns m x (.tuple (ts.map encT)) (some (.d (.int (k : Int)))) none none none) [u] := rfl
    rw [tn, e]
    exact ⟨rfl, rfl⟩) u4 hu4
  have hh := hand_loop (ns := ns) (m := m) (x := x) (tk := .tuple (ts.map encT)) (h := some (.d (.list ((hands1 ++ hands2 ++ hands3).map hd)))) (u := u5) (hands1 ++ hands2 ++ hands3) (by decide +kernel)
  have e2 : (2 : Int) + (v1 : Int) = ((2 + v1 : Nat) : Int) := by omega
  refine ⟨[], ?_⟩
  unfold f_law runBody m_law
  simp only [List.map_cons, List.map_nil, List.length_cons, List.length_nil, List.cons_append, List.nil_append, Nat.reduceAdd, Nat.reduceSub, List.replicate]
  rw [sSeq_nx (env1 := [some (.s ns), some (.c 0), none, none, none, none, none, none, none]) (cs1 := [u0]) (by
    simp only [sAsg_at, eCall_at, aCons_at, aNil_at, eVar_at, List.getElem?_cons_zero, R.bind_ok, List.length_cons, List.length_nil, Nat.reduceAdd, if_true, q0, R.toS_ok, tgName_at, List.set_cons_zero, List.set_cons_succ])]
  rw [sSeq_nx (env1 := [some (.s ns), some (.c 0), some (.d (.int ((2 + v1 : Nat) : Int))), none, none, none, none, none, none]) (cs1 := [u1]) (by
    simp only [sAsg_at, eBin_at, eC_at, eCall_at, aCons_at, aNil_at, eVar_at, List.getElem?_cons_zero, List.getElem?_cons_succ, R.bind_ok, List.length_cons, List.length_nil, Nat.reduceAdd, if_true, d1, fAdd_int, e2, R.toS_ok, tgName_at, List.set_cons_zero, List.set_cons_succ])]
  rw [sSeq_nx sm]
  rw [sSeq_nx (env1 := lwE ns m x (.tuple (ts.map encT)) none none none none) (cs1 := [u4]) (by
    simp only [sAsg_at, eC_at, eCall_at, aCons_at, aNil_at, eVar_at, List.getElem?_cons_zero, List.getElem?_cons_succ, R.bind_ok, List.length_cons, List.length_nil, Nat.reduceAdd, if_true, d3, tq, R.toS_ok, tgTup_2]
    rfl)]
  rw [sSeq_nx (env1 := lwE ns m x (.tuple (ts.map encT)) none none none none) (cs1 := [u4]) (by
    rw [sIf_ff (cs1 := [u4]) (by
      simp only [tNotM_at, tTr_at, eCall_at, eTup_at, eC_at, aCons_at, aNil_at, eVar_at, List.getElem?_cons_zero, List.getElem?_cons_succ, R.bind_ok, List.length_cons, List.length_nil, Nat.reduceAdd, if_true, he, allD_d, allD_nil, Option.map_some]
      rw [if_pos (size_le' (by omega))]
      simp only [R.bind_ok, List.length_cons, List.length_nil, Nat.reduceAdd, if_true, eq, truD_bool, Bool.not_true])]
    rfl)]
  have fr : sFor 1000000000 [6, 5] (iRange1 (aCons (eC (.int 8)) aNil)) (tgName 5) lwB (lwE ns m x (.tuple (ts.map encT)) none none none none) [u4] = .nx (lwE ns m x (.tuple (ts.map encT)) none none none none) [u5] := by
    rw [sFor_at, iRange1_at]
    simp only [aCons_at, aNil_at, eC_at, R.bind_ok]
    rw [if_pos (by decide), show (8 : Int).toNat = 8 from rfl, rangeD_0]
    exact lp
  rw [sSeq_nx (m := sFor 1000000000 [6, 5] (iRange1 (aCons (eC (.int 8)) aNil)) (tgName 5) lwB) fr]
  rw [sSeq_nx (m := sAsg hm1 (tgName 7)) (env1 := lwE ns m x (.tuple (ts.map encT)) none none (some (.d (.list (hands1.map hd)))) none) (cs1 := [u5]) (by rw [sAsg_at, h1_eq]; rfl)]
  have ad : ∀ (a b : List PyData) (cs : CS), a.length + b.length ≤ 1000000 → fAdd (.d (.list a)) (.d (.list b)) cs = .ok (.d (.list (a ++ b))) cs := fun a b cs h => by
    simp only [fAdd, toL]
    rw [if_pos (size_le' h)]
  rw [sSeq_nx (m := sAsg (eBin fAdd (eVar 7) hm2) (tgName 7)) (env1 := lwE ns m x (.tuple (ts.map encT)) none none (some (.d (.list (hands1.map hd ++ hands2.map hd)))) none) (cs1 := [u5]) (by
    rw [sAsg_at, eBin_at]
    simp only [eVar_at, List.getElem?_cons_zero, List.getElem?_cons_succ, R.bind_ok]
    rw [h2_eq]
    simp only [R.bind_ok]
    rw [ad _ _ _ (by decide)]
    rfl)]
  rw [sSeq_nx (m := sAsg (eBin fAdd (eVar 7) hm3) (tgName 7)) (env1 := lwE ns m x (.tuple (ts.map encT)) none none (some (.d (.list ((hands1 ++ hands2 ++ hands3).map hd)))) none) (cs1 := [u5]) (by
    rw [sAsg_at, eBin_at]
    simp only [eVar_at, List.getElem?_cons_zero, List.getElem?_cons_succ, R.bind_ok]
    rw [h3_eq]
    simp only [R.bind_ok]
    rw [ad _ _ _ (by decide), ← List.map_append, ← List.map_append]
    rfl)]
  have fh : sFor 1000000000 [6, 8] (iVal (eVar 7)) (tgTup 2 (tgCons (tgName 6) (tgCons (tgName 8) tgNil))) lwH (lwE ns m x (.tuple (ts.map encT)) none none (some (.d (.list ((hands1 ++ hands2 ++ hands3).map hd)))) none) [u5] = .nx (lwE ns m x (.tuple (ts.map encT)) none none (some (.d (.list ((hands1 ++ hands2 ++ hands3).map hd)))) none) [u5] := by
    rw [sFor_at, iVal_at]
    simp only [eVar_at, List.getElem?_cons_zero, List.getElem?_cons_succ, R.bind_ok, srcOf_list, R.toS_ok, forS_it]
    exact hh
  rw [sSeq_nx (m := sFor 1000000000 [6, 8] (iVal (eVar 7)) (tgTup 2 (tgCons (tgName 6) (tgCons (tgName 8) tgNil))) lwH) fh]
  simp [fin]
end K03
namespace K03
open PySem L2 Sh
def top (i : Nat) : Stmt := PySem.Challenge.pw_changedalike_k03_tokens.main.body.getD i (.Pass ⟨0, 0, 0, 0⟩)
abbrev s__law_urn : Stmt := top 14
abbrev s__law_take : Stmt := top 15
abbrev s__law_gap : Stmt := top 21
abbrev s__law_piece : Stmt := top 20
abbrev s__law_of_word : Stmt := top 17
abbrev s__law_text : Stmt := top 22
abbrev s__law_equal : Stmt := top 16
abbrev s__law_spoilt : Stmt := top 23
abbrev s_end_of : Stmt := top 9
abbrev s_token_at : Stmt := top 10
abbrev s_line_tokens : Stmt := top 11
abbrev s_tokens_of : Stmt := top 12
abbrev s__law_heard : Stmt := top 19
abbrev s__law_lexed : Stmt := top 18
abbrev s_law : Stmt := top 24
abbrev si_BadSource : Stmt := initOf (top 4)
structure Tops (K : PySem.W.Frag) (cm : Str → Value) (mg : Str → Option Value) where
  c_BadSource : Addr
  mc_BadSource : mg "BadSource" = some (.ref c_BadSource)
  cc_BadSource : cm "BadSource" = .ref c_BadSource
  t_BadSource : OexC K c_BadSource
  i_BadSource : Addr
  ic_BadSource : PySem.W.findIn K (.ref c_BadSource) "__init__" = some (some (.ref i_BadSource))
  ti_BadSource : PySem.W.typeIn K (.ref i_BadSource) = some (.type "function")
  fdi_BadSource : FuncData
  fi_BadSource : FunI K "__init__" "BadSource.__init__" si_BadSource i_BadSource fdi_BadSource
  x_BadSource : XfC K c_BadSource
  n_BadSource_line : PySem.W.findIn K (.ref c_BadSource) "line" = some none
  n_BadSource_place : PySem.W.findIn K (.ref c_BadSource) "place" = some none
  n_BadSource_word : PySem.W.findIn K (.ref c_BadSource) "word" = some none
  c_WorldError : Addr
  mc_WorldError : mg "WorldError" = some (.ref c_WorldError)
  cc_WorldError : cm "WorldError" = .ref c_WorldError
  e_BadSource_BadSource : PySem.W.exmOne K (.ref c_BadSource) (.ref c_BadSource) = some true
  e_BadSource_WorldError : PySem.W.exmOne K (.ref c_BadSource) (.ref c_WorldError) = some true
  k_SIGNS : Value
  mk_SIGNS : mg "SIGNS" = some k_SIGNS
  rk_SIGNS : RelV (.str "+-:;',{}") k_SIGNS
  k_SMALL_LETTERS : Value
  mk_SMALL_LETTERS : mg "SMALL_LETTERS" = some k_SMALL_LETTERS
  rk_SMALL_LETTERS : RelV (.str "abcdefghijklmnopqrstuvwxyz") k_SMALL_LETTERS
  k_TEN_FIGURES : Value
  mk_TEN_FIGURES : mg "TEN_FIGURES" = some k_TEN_FIGURES
  rk_TEN_FIGURES : RelV (.str "0123456789") k_TEN_FIGURES
  k_WORD_MOST : Value
  mk_WORD_MOST : mg "WORD_MOST" = some k_WORD_MOST
  rk_WORD_MOST : RelV (.int 12) k_WORD_MOST
  a__law_urn : Addr
  fd__law_urn : FuncData
  F__law_urn : Fun K "_law_urn" "_law_urn" s__law_urn a__law_urn fd__law_urn
  m__law_urn : mg "_law_urn" = some (.ref a__law_urn)
  a__law_take : Addr
  fd__law_take : FuncData
  F__law_take : Fun K "_law_take" "_law_take" s__law_take a__law_take fd__law_take
  m__law_take : mg "_law_take" = some (.ref a__law_take)
  a__law_gap : Addr
  fd__law_gap : FuncData
  F__law_gap : Fun K "_law_gap" "_law_gap" s__law_gap a__law_gap fd__law_gap
  m__law_gap : mg "_law_gap" = some (.ref a__law_gap)
  a__law_piece : Addr
  fd__law_piece : FuncData
  F__law_piece : Fun K "_law_piece" "_law_piece" s__law_piece a__law_piece fd__law_piece
  m__law_piece : mg "_law_piece" = some (.ref a__law_piece)
  a__law_of_word : Addr
  fd__law_of_word : FuncData
  F__law_of_word : Fun K "_law_of_word" "_law_of_word" s__law_of_word a__law_of_word fd__law_of_word
  m__law_of_word : mg "_law_of_word" = some (.ref a__law_of_word)
  a__law_text : Addr
  fd__law_text : FuncData
  F__law_text : Fun K "_law_text" "_law_text" s__law_text a__law_text fd__law_text
  m__law_text : mg "_law_text" = some (.ref a__law_text)
  a__law_equal : Addr
  fd__law_equal : FuncData
  F__law_equal : Fun K "_law_equal" "_law_equal" s__law_equal a__law_equal fd__law_equal
  m__law_equal : mg "_law_equal" = some (.ref a__law_equal)
  a__law_spoilt : Addr
  fd__law_spoilt : FuncData
  F__law_spoilt : Fun K "_law_spoilt" "_law_spoilt" s__law_spoilt a__law_spoilt fd__law_spoilt
  m__law_spoilt : mg "_law_spoilt" = some (.ref a__law_spoilt)
  a_end_of : Addr
  fd_end_of : FuncData
  F_end_of : Fun K "end_of" "end_of" s_end_of a_end_of fd_end_of
  m_end_of : mg "end_of" = some (.ref a_end_of)
  a_token_at : Addr
  fd_token_at : FuncData
  F_token_at : Fun K "token_at" "token_at" s_token_at a_token_at fd_token_at
  m_token_at : mg "token_at" = some (.ref a_token_at)
  a_line_tokens : Addr
  fd_line_tokens : FuncData
  F_line_tokens : Fun K "line_tokens" "line_tokens" s_line_tokens a_line_tokens fd_line_tokens
  m_line_tokens : mg "line_tokens" = some (.ref a_line_tokens)
  a_tokens_of : Addr
  fd_tokens_of : FuncData
  F_tokens_of : Fun K "tokens_of" "tokens_of" s_tokens_of a_tokens_of fd_tokens_of
  m_tokens_of : mg "tokens_of" = some (.ref a_tokens_of)
  a__law_heard : Addr
  fd__law_heard : FuncData
  F__law_heard : Fun K "_law_heard" "_law_heard" s__law_heard a__law_heard fd__law_heard
  m__law_heard : mg "_law_heard" = some (.ref a__law_heard)
  a__law_lexed : Addr
  fd__law_lexed : FuncData
  F__law_lexed : Fun K "_law_lexed" "_law_lexed" s__law_lexed a__law_lexed fd__law_lexed
  m__law_lexed : mg "_law_lexed" = some (.ref a__law_lexed)
  a_law : Addr
  fd_law : FuncData
  F_law : Fun K "law" "law" s_law a_law fd_law
  m_law : mg "law" = some (.ref a_law)
  z_bool : mg "bool" = none
  z_enumerate : mg "enumerate" = none
  z_int : mg "int" = none
  z_isinstance : mg "isinstance" = none
  z_len : mg "len" = none
  z_list : mg "list" = none
  z_min : mg "min" = none
  z_range : mg "range" = none
  z_str : mg "str" = none
  z_tuple : mg "tuple" = none
section
variable {P : Program} {w : World} {g : G} {mg : Str → Option Value} {base : Heap}
theorem sci_BadSource : FnScope ["self", "line", "place", "word"] ["self", "line", "place", "word"] (defScope si_BadSource) := ⟨rfl, rfl, rfl, by decide +kernel, rfl, by decide +kernel, by decide +kernel⟩
theorem bi_BadSource (T : Tops g.K g.cm mg) : Binds g.K T.fdi_BadSource ["self", "line", "place", "word"] [] := T.fi_BadSource.binds fun _ _ _ _ _ _ us hl => match us, hl with | [_, _, _, _], _ => rfl
theorem oki_BadSource (T : Tops g.K g.cm mg) : FnOk P w g.K mg base (L2.CX P w) 1 T.i_BadSource T.fdi_BadSource ["self", "line", "place", "word"] (spInit T.c_BadSource 4 ["line", "place", "word"]) :=
  init_ok (f0 := "line") (fs := ["place", "word"]) T.fi_BadSource sci_BadSource rfl T.t_BadSource (by
    intro f h
    simp only [List.mem_cons, List.not_mem_nil, or_false] at h
    rcases h with rfl | rfl | rfl
    · exact T.n_BadSource_line
    · exact T.n_BadSource_place
    · exact T.n_BadSource_word) (by decide) fun cdv A outer s H E => (pss_cons (ps_ost (pv 0) (pv 1)) (pss_cons (ps_ost (pv 0) (pv 2)) (pss_cons (ps_ost (pv 0) (pv 3)) pss_nil)))
theorem sc__law_urn : FnScope ["script", "stir", "cells", "one"] ["script"] (defScope s__law_urn) := ⟨rfl, rfl, rfl, by decide +kernel, rfl, by decide +kernel, by decide +kernel⟩
theorem b__law_urn (T : Tops g.K g.cm mg) : Binds g.K T.fd__law_urn ["script"] [] := T.F__law_urn.binds fun _ _ _ _ _ _ us hl => match us, hl with | [_], _ => rfl
theorem ok__law_urn (T : Tops g.K g.cm mg) : FnOk P w g.K mg base (L2.CX P w) 1 T.a__law_urn T.fd__law_urn ["script"] (spOf g 1 f__law_urn) :=
  fn_ok T.F__law_urn sc__law_urn rfl fun cdv A outer s H E hr tk hp =>
  (sss_cons (ss_set (i := 1) sc__law_urn.nd rfl (.inl rfl) se_int)
  (sss_cons (ss_set (i := 2) sc__law_urn.nd rfl (.inl rfl) (se_slice rfl (se_lc (own := [("one", 3)]) rfl sc__law_urn.nd (si_val rfl (se_var (pv 0))) (blkOk_by rfl) (fun s H C cl fp => (sf_name (i := 3) sc__law_urn.nd rfl (.inl rfl) (by decide))) (fun s H C cl fp => sts_nil) (fun s H C cl fp => (se_op op_addA os_add (se_op op_modA os_mod (se_fnT call_int1 cs_int rfl T.z_int (by decide +kernel) (sa_cons (se_var (pv 3)) sa_nil)) se_int) se_int))) so_none (so_some se_int)))
  (sss_cons (ss_for 1000000000 [3] hp rfl (si_val rfl (se_var (pv 2))) (sg_name (i := 3) sc__law_urn.nd rfl (.inl rfl))
  (sss_one (ss_set (i := 1) sc__law_urn.nd rfl (.inl rfl) (se_op op_modA os_mod (se_op op_addA os_add (se_op op_addA os_add (se_op op_addA os_add (se_op op_mulX os_mulX (se_var (pv 1)) se_int) (se_op op_mulX os_mulX (se_var (pv 3)) se_int)) (se_op op_mulX os_mulX (se_var (pv 3)) (se_var (pv 3)))) se_int) se_int))))
  (sss_one (ss_ret (se_lstC (sa_cons (se_var (pv 1)) (sa_cons se_int (sa_cons (se_op op_addA os_add (se_var (pv 2)) (se_lst (sa_cons se_int sa_nil))) (sa_cons (se_op op_modA os_mod (se_op op_divA os_div (se_var (pv 1)) se_int) se_int) (sa_cons (se_op op_modA os_mod (se_op op_divA os_div (se_var (pv 1)) se_int) se_int) sa_nil)))))))))))
theorem sc__law_take : FnScope ["urn", "place", "many", "cells", "habit"] ["urn", "place", "many"] (defScope s__law_take) := ⟨rfl, rfl, rfl, by decide +kernel, rfl, by decide +kernel, by decide +kernel⟩
theorem b__law_take (T : Tops g.K g.cm mg) : Binds g.K T.fd__law_take ["urn", "place", "many"] [] := T.F__law_take.binds fun _ _ _ _ _ _ us hl => match us, hl with | [_, _, _], _ => rfl
theorem ok__law_take (T : Tops g.K g.cm mg) : FnOk P w g.K mg base (L2.CX P w) 1 T.a__law_take T.fd__law_take ["urn", "place", "many"] (spOf g 3 f__law_take) :=
  fn_ok T.F__law_take sc__law_take rfl fun cdv A outer s H E hr tk hp =>
  (sss_cons (ss_setIx (se_var (pv 0)) se_int (se_op op_addA os_add (se_ix rfl (se_var (pv 0)) se_int) se_int) (fun _ => rfl))
  (sss_cons (ss_set (i := 3) sc__law_take.nd rfl (.inl rfl) (se_ix rfl (se_var (pv 0)) se_int))
  (sss_cons (ss_setIx (se_var (pv 0)) se_int (se_op op_modA os_mod (se_op op_addA os_add (se_op op_addA os_add (se_op op_addA os_add (se_op op_mulX os_mulX (se_ix rfl (se_var (pv 0)) se_int) se_int) (se_op op_mulX os_mulX (se_ix rfl (se_var (pv 0)) se_int) se_int)) (se_op op_mulX os_mulX (se_ix rfl (se_var (pv 3)) (se_op op_modA os_mod (se_op op_mulX os_mulX (se_ix rfl (se_var (pv 0)) se_int) se_int) (se_fnB call_len cs_len rfl T.z_len (by decide +kernel) (sa_cons (se_var (pv 3)) sa_nil)))) se_int)) se_int) se_int) (fun _ => rfl))
  (sss_cons (ss_set (i := 4) sc__law_take.nd rfl (.inl rfl) (se_op op_modA os_mod (se_op op_addA os_add (se_ix rfl (se_var (pv 0)) se_int) (se_op op_mulX os_mulX (se_var (pv 1)) se_int)) se_int))
  (sss_cons (ss_if (st_bool (sw_and (st_cmp (op_eqA hr.units) os_eq (se_ix rfl (se_var (pv 0)) se_int) se_int) (sw_and1 (st_cmp op_lt os_cmp (se_var (pv 4)) se_int))))
  (sss_one (ss_ret (se_ix rfl (se_tup (sa_cons se_int (sa_cons (se_op op_sub os_sub (se_var (pv 2)) se_int) (sa_cons (se_op op_modA os_mod (se_ix rfl (se_var (pv 0)) se_int) (se_var (pv 2))) (sa_cons (se_fnB (call_min2 rfl) cs_min2 rfl T.z_min (by decide +kernel) (sa_cons se_int (sa_cons (se_op op_sub os_sub (se_var (pv 2)) se_int) sa_nil))) sa_nil))))) (se_var (pv 4)))))
  sss_nil)
  (sss_one (ss_ret (se_op op_modA os_mod (se_op op_divA os_div (se_ix rfl (se_var (pv 0)) se_int) se_int) (se_var (pv 2))))))))))
theorem sc__law_gap : FnScope ["urn"] ["urn"] (defScope s__law_gap) := ⟨rfl, rfl, rfl, by decide +kernel, rfl, by decide +kernel, by decide +kernel⟩
theorem b__law_gap (T : Tops g.K g.cm mg) : Binds g.K T.fd__law_gap ["urn"] [] := T.F__law_gap.binds fun _ _ _ _ _ _ us hl => match us, hl with | [_], _ => rfl
theorem ok__law_gap (T : Tops g.K g.cm mg) : FnOk P w g.K mg base (L2.CX P w) 2 T.a__law_gap T.fd__law_gap ["urn"] (spOf g 1 f__law_gap) :=
  fn_ok T.F__law_gap sc__law_gap rfl fun cdv A outer s H E hr tk hp =>
  (sss_one (ss_ret (se_ix rfl (se_tup (sa_cons se_str (sa_cons se_str (sa_cons se_str (sa_cons se_str (sa_cons se_str (sa_cons se_str (sa_cons se_str (sa_cons se_str sa_nil))))))))) (se_call (fnOk_part (ok__law_take T)) tk (hr.mono (by decide)) rfl T.m__law_take T.F__law_take.kp (b__law_take T) (sa_cons (se_var (pv 0)) (sa_cons se_int (sa_cons se_int sa_nil)))))))
theorem sc__law_piece : FnScope ["urn", "wide", "form", "size", "row"] ["urn", "wide"] (defScope s__law_piece) := ⟨rfl, rfl, rfl, by decide +kernel, rfl, by decide +kernel, by decide +kernel⟩
theorem b__law_piece (T : Tops g.K g.cm mg) : Binds g.K T.fd__law_piece ["urn", "wide"] [] := T.F__law_piece.binds fun _ _ _ _ _ _ us hl => match us, hl with | [_, _], _ => rfl
theorem ok__law_piece (T : Tops g.K g.cm mg) : FnOk P w g.K mg base (L2.CX P w) 2 T.a__law_piece T.fd__law_piece ["urn", "wide"] (spOf g 2 f__law_piece) :=
  fn_ok T.F__law_piece sc__law_piece rfl fun cdv A outer s H E hr tk hp =>
  (sss_cons (ss_set (i := 2) sc__law_piece.nd rfl (.inl rfl) (se_call (fnOk_part (ok__law_take T)) tk (hr.mono (by decide)) rfl T.m__law_take T.F__law_take.kp (b__law_take T) (sa_cons (se_var (pv 0)) (sa_cons se_int (sa_cons se_int sa_nil)))))
  (sss_cons (ss_if (st_cmp (op_eqA hr.units) os_eq (se_var (pv 2)) se_int)
  (sss_one (ss_ret (se_ix rfl se_str (se_call (fnOk_part (ok__law_take T)) tk (hr.mono (by decide)) rfl T.m__law_take T.F__law_take.kp (b__law_take T) (sa_cons (se_var (pv 0)) (sa_cons se_int (sa_cons se_int sa_nil)))))))
  sss_nil)
  (sss_cons (ss_if (st_cmp (op_eqA hr.units) os_eq (se_var (pv 2)) se_int)
  (sss_one (ss_ret (se_ix rfl (se_tup (sa_cons se_str (sa_cons se_str (sa_cons se_str (sa_cons se_str (sa_cons se_str (sa_cons se_str (sa_cons se_str (sa_cons se_str (sa_cons se_str (sa_cons se_str (sa_cons se_str (sa_cons se_str sa_nil))))))))))))) (se_call (fnOk_part (ok__law_take T)) tk (hr.mono (by decide)) rfl T.m__law_take T.F__law_take.kp (b__law_take T) (sa_cons (se_var (pv 0)) (sa_cons se_int (sa_cons se_int sa_nil)))))))
  sss_nil)
  (sss_cons (ss_set (i := 3) sc__law_piece.nd rfl (.inl rfl) (se_op op_addA os_add se_int (se_call (fnOk_part (ok__law_take T)) tk (hr.mono (by decide)) rfl T.m__law_take T.F__law_take.kp (b__law_take T) (sa_cons (se_var (pv 0)) (sa_cons se_int (sa_cons (se_ix rfl (se_tup (sa_cons se_int (sa_cons se_int sa_nil))) (se_var (pv 1))) sa_nil))))))
  (sss_cons (ss_if (st_cmp op_lt os_cmp (se_var (pv 2)) se_int)
  (sss_cons (ss_set (i := 4) sc__law_piece.nd rfl (.inl rfl) (se_ix rfl se_str (se_call (fnOk_part (ok__law_take T)) tk (hr.mono (by decide)) rfl T.m__law_take T.F__law_take.kp (b__law_take T) (sa_cons (se_var (pv 0)) (sa_cons se_int (sa_cons se_int sa_nil))))))
  (sss_cons (ss_while 1000000000 [] hp (st_cmp op_lt os_cmp (se_fnB call_len cs_len rfl T.z_len (by decide +kernel) (sa_cons (se_var (pv 4)) sa_nil)) (se_var (pv 3)))
  (sss_one (ss_set (i := 4) sc__law_piece.nd rfl (.inl rfl) (se_op op_addA os_add (se_var (pv 4)) (se_ix rfl se_str (se_call (fnOk_part (ok__law_take T)) tk (hr.mono (by decide)) rfl T.m__law_take T.F__law_take.kp (b__law_take T) (sa_cons (se_var (pv 0)) (sa_cons se_int (sa_cons se_int sa_nil)))))))))
  (sss_one (ss_ret (se_var (pv 4))))))
  sss_nil)
  (sss_cons (ss_set (i := 4) sc__law_piece.nd rfl (.inl rfl) (se_ix rfl se_str (se_call (fnOk_part (ok__law_take T)) tk (hr.mono (by decide)) rfl T.m__law_take T.F__law_take.kp (b__law_take T) (sa_cons (se_var (pv 0)) (sa_cons se_int (sa_cons se_int sa_nil))))))
  (sss_cons (ss_while 1000000000 [] hp (st_cmp op_lt os_cmp (se_fnB call_len cs_len rfl T.z_len (by decide +kernel) (sa_cons (se_var (pv 4)) sa_nil)) (se_var (pv 3)))
  (sss_one (ss_set (i := 4) sc__law_piece.nd rfl (.inl rfl) (se_op op_addA os_add (se_var (pv 4)) (se_ix rfl se_str (se_call (fnOk_part (ok__law_take T)) tk (hr.mono (by decide)) rfl T.m__law_take T.F__law_take.kp (b__law_take T) (sa_cons (se_var (pv 0)) (sa_cons se_int (sa_cons se_int sa_nil)))))))))
  (sss_one (ss_ret (se_ix rfl (se_tup (sa_cons (se_var (pv 4)) (sa_cons se_str sa_nil))) (se_fnT call_int1 cs_int rfl T.z_int (by decide +kernel) (sa_cons (se_cmp (op_eqA hr.units) os_eq (se_call (fnOk_part (ok__law_take T)) tk (hr.mono (by decide)) rfl T.m__law_take T.F__law_take.kp (b__law_take T) (sa_cons (se_var (pv 0)) (sa_cons se_int (sa_cons se_int sa_nil)))) se_int) sa_nil))))))))))))
theorem sc__law_of_word : FnScope ["sign"] ["sign"] (defScope s__law_of_word) := ⟨rfl, rfl, rfl, by decide +kernel, rfl, by decide +kernel, by decide +kernel⟩
theorem b__law_of_word (T : Tops g.K g.cm mg) : Binds g.K T.fd__law_of_word ["sign"] [] := T.F__law_of_word.binds fun _ _ _ _ _ _ us hl => match us, hl with | [_], _ => rfl
theorem ok__law_of_word (T : Tops g.K g.cm mg) : FnOk P w g.K mg base (L2.CX P w) 1 T.a__law_of_word T.fd__law_of_word ["sign"] (spOf g 1 f__law_of_word) :=
  fn_ok T.F__law_of_word sc__law_of_word rfl fun cdv A outer s H E hr tk hp =>
  (sss_one (ss_ret (se_or (se_chain op_leS os_leX op_leS os_leX se_str (se_var (pv 0)) se_str) (se_one (se_chain op_leS os_leX op_leS os_leX se_str (se_var (pv 0)) se_str)))))
theorem sc__law_text : FnScope ["urn", "many", "wide", "text", "tokens", "opened", "k", "piece", "lines", "kind"] ["urn", "many", "wide"] (defScope s__law_text) := ⟨rfl, rfl, rfl, by decide +kernel, rfl, by decide +kernel, by decide +kernel⟩
theorem b__law_text (T : Tops g.K g.cm mg) : Binds g.K T.fd__law_text ["urn", "many", "wide"] [] := T.F__law_text.binds fun _ _ _ _ _ _ us hl => match us, hl with | [_, _, _], _ => rfl
theorem ok__law_text (T : Tops g.K g.cm mg) : FnOk P w g.K mg base (L2.CX P w) 3 T.a__law_text T.fd__law_text ["urn", "many", "wide"] (spOf g 3 f__law_text) :=
  fn_ok T.F__law_text sc__law_text rfl fun cdv A outer s H E hr tk hp =>
  (sss_cons (ss_set (i := 3) sc__law_text.nd rfl (.inl rfl) (se_call (fnOk_part (ok__law_gap T)) tk (hr.mono (by decide)) rfl T.m__law_gap T.F__law_gap.kp (b__law_gap T) (sa_cons (se_var (pv 0)) sa_nil)))
  (sss_cons (ss_set (i := 4) sc__law_text.nd rfl (.inl rfl) (se_lstC sa_nil))
  (sss_cons (ss_set (i := 5) sc__law_text.nd rfl (.inl rfl) se_int)
  (sss_cons (ss_for 1000000000 [7, 8, 9, 6] hp rfl (si_range1 rfl T.z_range (sa_cons (se_var (pv 1)) sa_nil)) (sg_name (i := 6) sc__law_text.nd rfl (.inl rfl))
  (sss_cons (ss_set (i := 7) sc__law_text.nd rfl (.inl rfl) (se_call (fnOk_part (ok__law_piece T)) tk (hr.mono (by decide)) rfl T.m__law_piece T.F__law_piece.kp (b__law_piece T) (sa_cons (se_var (pv 0)) (sa_cons (se_var (pv 2)) sa_nil))))
  (sss_cons (ss_set (i := 5) sc__law_text.nd rfl (.inl rfl) (se_op op_addA os_add (se_var (pv 5)) (se_fnT call_int1 cs_int rfl T.z_int (by decide +kernel) (sa_cons (se_cmp (op_eqA hr.units) os_eq (se_var (pv 7)) se_str) sa_nil))))
  (sss_cons (ss_if (st_bool (sw_and (st_cmp (op_eqA hr.units) os_eq (se_var (pv 7)) se_str) (sw_and1 (st_cmp op_gtS os_leX (se_var (pv 5)) se_int))))
  (sss_one (ss_set (i := 7) sc__law_text.nd rfl (.inl rfl) se_str))
  sss_nil)
  (sss_cons (ss_if (st_bool (sw_and (st_tr rfl (se_var (pv 3))) (sw_and (st_tr rfl (se_call (fnOk_plain (ok__law_of_word T)) tk (hr.mono (by decide)) rfl T.m__law_of_word T.F__law_of_word.kp (b__law_of_word T) (sa_cons (se_ix rfl (se_var (pv 3)) (se_un un_neg us_neg se_int)) sa_nil))) (sw_and (st_tr rfl (se_call (fnOk_plain (ok__law_of_word T)) tk (hr.mono (by decide)) rfl T.m__law_of_word T.F__law_of_word.kp (b__law_of_word T) (sa_cons (se_ix rfl (se_var (pv 7)) se_int) sa_nil))) (sw_and1 (st_not (st_bool (sw_and (st_cmp (op_eqA hr.units) os_eq (se_ix rfl (se_ix rfl (se_var (pv 4)) (se_un un_neg us_neg se_int)) se_int) se_str) (sw_and1 (st_cmp op_gtS os_leX (se_ix rfl (se_var (pv 7)) se_int) se_str))))))))))
  (sss_one (ss_set (i := 3) sc__law_text.nd rfl (.inl rfl) (se_op op_addA os_add (se_var (pv 3)) se_str)))
  sss_nil)
  (sss_cons (ss_set (i := 8) sc__law_text.nd rfl (.inl rfl) (se_meth rfl PySem.F.plainAttrs_str PySem.F.slot_str_split PySem.F.type_str_split mt_split ms_split (se_var (pv 3)) (sa_cons se_str sa_nil)))
  (sss_cons (ss_set (i := 9) sc__law_text.nd rfl (.inl rfl) se_str)
  (sss_cons (ss_if (st_tr rfl (se_call (fnOk_plain (ok__law_of_word T)) tk (hr.mono (by decide)) rfl T.m__law_of_word T.F__law_of_word.kp (b__law_of_word T) (sa_cons (se_ix rfl (se_var (pv 7)) se_int) sa_nil)))
  (sss_one (ss_set (i := 9) sc__law_text.nd rfl (.inl rfl) (se_ix rfl (se_tup (sa_cons se_str (sa_cons se_str sa_nil))) (se_fnT call_int1 cs_int rfl T.z_int (by decide +kernel) (sa_cons (se_cmp op_leS os_leX (se_ix rfl (se_var (pv 7)) se_int) se_str) sa_nil)))))
  sss_nil)
  (sss_cons (ss_expr (se_meth rfl PySem.F.plainAttrs_list PySem.F.slot_list_append PySem.F.type_list_append mt_append ms_append (se_var (pv 4)) (sa_cons (se_tup (sa_cons (se_var (pv 9)) (sa_cons (se_var (pv 7)) (sa_cons (se_fnB call_len cs_len rfl T.z_len (by decide +kernel) (sa_cons (se_var (pv 8)) sa_nil)) (sa_cons (se_op op_addA os_add (se_fnB call_len cs_len rfl T.z_len (by decide +kernel) (sa_cons (se_ix rfl (se_var (pv 8)) (se_un un_neg us_neg se_int)) sa_nil)) se_int) sa_nil))))) sa_nil)))
  (sss_one (ss_set (i := 3) sc__law_text.nd rfl (.inl rfl) (se_op op_addA os_add (se_op op_addA os_add (se_var (pv 3)) (se_var (pv 7))) (se_call (fnOk_part (ok__law_gap T)) tk (hr.mono (by decide)) rfl T.m__law_gap T.F__law_gap.kp (b__law_gap T) (sa_cons (se_var (pv 0)) sa_nil))))))))))))))
  (sss_one (ss_ret (se_tup (sa_cons (se_var (pv 3)) (sa_cons (se_fnT (call_tupX rfl) cs_tupX rfl T.z_tuple (by decide +kernel) (sa_cons (se_var (pv 4)) sa_nil)) sa_nil)))))))))
theorem sc__law_equal : FnScope ["told", "due", "left", "one", "other", "k"] ["told", "due"] (defScope s__law_equal) := ⟨rfl, rfl, rfl, by decide +kernel, rfl, by decide +kernel, by decide +kernel⟩
theorem b__law_equal (T : Tops g.K g.cm mg) : Binds g.K T.fd__law_equal ["told", "due"] [] := T.F__law_equal.binds fun _ _ _ _ _ _ us hl => match us, hl with | [_, _], _ => rfl
theorem ok__law_equal (T : Tops g.K g.cm mg) : FnOk P w g.K mg base (L2.CX P w) 1 T.a__law_equal T.fd__law_equal ["told", "due"] (spOf g 2 f__law_equal) :=
  fn_ok T.F__law_equal sc__law_equal rfl fun cdv A outer s H E hr tk hp =>
  (sss_cons (ss_set (i := 2) sc__law_equal.nd rfl (.inl rfl) (se_lstC (sa_cons (se_tup (sa_cons (se_var (pv 0)) (sa_cons (se_var (pv 1)) sa_nil))) sa_nil)))
  (sss_cons (ss_while 1000000000 [3, 4] hp (st_tr rfl (se_var (pv 2)))
  (sss_cons (ss_asg (se_meth0 rfl PySem.F.plainAttrs_list PySem.F.slot_list_pop PySem.F.type_list_pop mt_popA ms_pop (se_var (pv 2))) (sg_tup rfl rfl (sgs_cons (sg_name (i := 3) sc__law_equal.nd rfl (.inr rfl)) (sgs_cons (sg_name (i := 4) sc__law_equal.nd rfl (.inr rfl)) sgs_nil))))
  (sss_one (ss_if (st_cmp op_isN os_isN (se_var (pv 4)) se_non)
  (sss_one (ss_if (st_cmp op_notN os_notN (se_var (pv 3)) se_non)
  (sss_one (ss_ret se_bl))
  sss_nil))
  (sss_one (ss_if (st_tr rfl (se_isi rfl rfl T.z_isinstance rfl (se_var (pv 4)) rfl T.z_bool (by decide +kernel)))
  (sss_one (ss_if (st_bool (sw_or (st_not (st_tr rfl (se_isi rfl rfl T.z_isinstance rfl (se_var (pv 3)) rfl T.z_bool (by decide +kernel)))) (sw_or1 (st_cmp (op_neA hr.units) os_ne (se_var (pv 3)) (se_var (pv 4))))))
  (sss_one (ss_ret se_bl))
  sss_nil))
  (sss_one (ss_if (st_tr rfl (se_isi rfl rfl T.z_isinstance rfl (se_var (pv 4)) rfl T.z_int (by decide +kernel)))
  (sss_one (ss_if (st_bool (sw_or (st_tr rfl (se_isi rfl rfl T.z_isinstance rfl (se_var (pv 3)) rfl T.z_bool (by decide +kernel))) (sw_or (st_not (st_tr rfl (se_isi rfl rfl T.z_isinstance rfl (se_var (pv 3)) rfl T.z_int (by decide +kernel)))) (sw_or1 (st_cmp (op_neA hr.units) os_ne (se_var (pv 3)) (se_var (pv 4)))))))
  (sss_one (ss_ret se_bl))
  sss_nil))
  (sss_one (ss_if (st_tr rfl (se_isi rfl rfl T.z_isinstance rfl (se_var (pv 4)) rfl T.z_str (by decide +kernel)))
  (sss_one (ss_if (st_bool (sw_or (st_not (st_tr rfl (se_isi rfl rfl T.z_isinstance rfl (se_var (pv 3)) rfl T.z_str (by decide +kernel)))) (sw_or1 (st_cmp (op_neA hr.units) os_ne (se_var (pv 3)) (se_var (pv 4))))))
  (sss_one (ss_ret se_bl))
  sss_nil))
  (sss_one (ss_if (st_bool (sw_or (st_cmp (op_neA hr.units) os_ne (se_isi rfl rfl T.z_isinstance rfl (se_var (pv 3)) rfl T.z_tuple (by decide +kernel)) (se_isi rfl rfl T.z_isinstance rfl (se_var (pv 4)) rfl T.z_tuple (by decide +kernel))) (sw_or (st_cmp (op_neA hr.units) os_ne (se_isi rfl rfl T.z_isinstance rfl (se_var (pv 3)) rfl T.z_list (by decide +kernel)) (se_isi rfl rfl T.z_isinstance rfl (se_var (pv 4)) rfl T.z_list (by decide +kernel))) (sw_or1 (st_cmp (op_neA hr.units) os_ne (se_fnB call_len cs_len rfl T.z_len (by decide +kernel) (sa_cons (se_var (pv 3)) sa_nil)) (se_fnB call_len cs_len rfl T.z_len (by decide +kernel) (sa_cons (se_var (pv 4)) sa_nil)))))))
  (sss_one (ss_ret se_bl))
  (sss_one (ss_expr (se_meth rfl PySem.F.plainAttrs_list PySem.F.slot_list_extend PySem.F.type_list_extend mt_extend ms_extend (se_var (pv 2)) (sa_cons (se_lc (own := [("k", 5)]) rfl sc__law_equal.nd (si_range1 rfl T.z_range (sa_cons (se_fnB call_len cs_len rfl T.z_len (by decide +kernel) (sa_cons (se_var (pv 4)) sa_nil)) sa_nil)) (blkOk_by rfl) (fun s H C cl fp => (sf_name (i := 5) sc__law_equal.nd rfl (.inl rfl) (by decide))) (fun s H C cl fp => sts_nil) (fun s H C cl fp => (se_tup (sa_cons (se_ix rfl (se_var (pv 3)) (se_var (pv 5))) (sa_cons (se_ix rfl (se_var (pv 4)) (se_var (pv 5))) sa_nil))))) sa_nil))))))))))))))))
  (sss_one (ss_ret se_bl))))
theorem sc__law_spoilt : FnScope ["urn", "text", "at", "size", "odd"] ["urn", "text"] (defScope s__law_spoilt) := ⟨rfl, rfl, rfl, by decide +kernel, rfl, by decide +kernel, by decide +kernel⟩
theorem b__law_spoilt (T : Tops g.K g.cm mg) : Binds g.K T.fd__law_spoilt ["urn", "text"] [] := T.F__law_spoilt.binds fun _ _ _ _ _ _ us hl => match us, hl with | [_, _], _ => rfl
theorem ok__law_spoilt (T : Tops g.K g.cm mg) : FnOk P w g.K mg base (L2.CX P w) 2 T.a__law_spoilt T.fd__law_spoilt ["urn", "text"] (spOf g 2 f__law_spoilt) :=
  fn_ok T.F__law_spoilt sc__law_spoilt rfl fun cdv A outer s H E hr tk hp =>
  (sss_cons (ss_set (i := 2) sc__law_spoilt.nd rfl (.inl rfl) (se_call (fnOk_part (ok__law_take T)) tk (hr.mono (by decide)) rfl T.m__law_take T.F__law_take.kp (b__law_take T) (sa_cons (se_var (pv 0)) (sa_cons se_int (sa_cons (se_op op_addA os_add (se_fnB call_len cs_len rfl T.z_len (by decide +kernel) (sa_cons (se_var (pv 1)) sa_nil)) se_int) sa_nil)))))
  (sss_cons (ss_set (i := 3) sc__law_spoilt.nd rfl (.inl rfl) (se_op op_addA os_add se_int (se_call (fnOk_part (ok__law_take T)) tk (hr.mono (by decide)) rfl T.m__law_take T.F__law_take.kp (b__law_take T) (sa_cons (se_var (pv 0)) (sa_cons se_int (sa_cons se_int sa_nil))))))
  (sss_cons (ss_set (i := 4) sc__law_spoilt.nd rfl (.inl rfl) (se_ix rfl (se_tup (sa_cons se_str (sa_cons se_str (sa_cons se_str (sa_cons se_str (sa_cons se_str (sa_cons se_str (sa_cons se_str (sa_cons se_str (sa_cons se_str (sa_cons se_str (sa_cons (se_op op_mulX os_mulX se_str (se_var (pv 3))) (sa_cons (se_op op_mulX os_mulX se_str (se_var (pv 3))) (sa_cons (se_op op_mulX os_mulX se_str (se_var (pv 3))) (sa_cons (se_op op_mulX os_mulX se_str (se_op op_addA os_add (se_op op_divA os_div (se_var (pv 3)) se_int) se_int)) (sa_cons se_str (sa_cons se_str (sa_cons se_str (sa_cons se_str (sa_cons se_str (sa_cons se_str sa_nil))))))))))))))))))))) (se_call (fnOk_part (ok__law_take T)) tk (hr.mono (by decide)) rfl T.m__law_take T.F__law_take.kp (b__law_take T) (sa_cons (se_var (pv 0)) (sa_cons se_int (sa_cons se_int sa_nil))))))
  (sss_one (ss_ret (se_op op_addA os_add (se_op op_addA os_add (se_slice rfl (se_var (pv 1)) so_none (so_some (se_var (pv 2)))) (se_var (pv 4))) (se_slice rfl (se_var (pv 1)) (so_some (se_var (pv 2))) so_none)))))))
theorem sc_end_of : FnScope ["line", "place", "signs"] ["line", "place", "signs"] (defScope s_end_of) := ⟨rfl, rfl, rfl, by decide +kernel, rfl, by decide +kernel, by decide +kernel⟩
theorem b_end_of (T : Tops g.K g.cm mg) : Binds g.K T.fd_end_of ["line", "place", "signs"] [] := T.F_end_of.binds fun _ _ _ _ _ _ us hl => match us, hl with | [_, _, _], _ => rfl
theorem ok_end_of (T : Tops g.K g.cm mg) : FnOk P w g.K mg base (L2.CX P w) 1 T.a_end_of T.fd_end_of ["line", "place", "signs"] (spOf g 3 f_end_of) :=
  fn_ok T.F_end_of sc_end_of rfl fun cdv A outer s H E hr tk hp =>
  (sss_cons (ss_while 1000000000 [] hp (st_bool (sw_and (st_cmp op_lt os_cmp (se_var (pv 1)) (se_fnB call_len cs_len rfl T.z_len (by decide +kernel) (sa_cons (se_var (pv 0)) sa_nil))) (sw_and1 (st_cmp op_in_str os_inS (se_ix rfl (se_var (pv 0)) (se_var (pv 1))) (se_var (pv 2))))))
  (sss_one (ss_aug (i := 1) sc_end_of.nd rfl (.inl rfl) se_int ip_add os_ipadd)))
  (sss_one (ss_ret (se_var (pv 1)))))
theorem sc_token_at : FnScope ["number", "line", "place", "kind", "end"] ["number", "line", "place"] (defScope s_token_at) := ⟨rfl, rfl, rfl, by decide +kernel, rfl, by decide +kernel, by decide +kernel⟩
theorem b_token_at (T : Tops g.K g.cm mg) : Binds g.K T.fd_token_at ["number", "line", "place"] [] := T.F_token_at.binds fun _ _ _ _ _ _ us hl => match us, hl with | [_, _, _], _ => rfl
theorem ok_token_at (T : Tops g.K g.cm mg) : FnOk P w g.K mg base (L2.CX P w) 3 T.a_token_at T.fd_token_at ["number", "line", "place"] (spOf g 3 f_token_at) :=
  fn_ok T.F_token_at sc_token_at rfl fun cdv A outer s H E hr tk hp =>
  (sss_cons (ss_if (st_cmp op_in_str os_inS (se_ix rfl (se_var (pv 1)) (se_var (pv 2))) (se_glob rfl T.mk_SMALL_LETTERS T.rk_SMALL_LETTERS fun _ => (.str _)))
  (sss_cons (ss_set (i := 3) sc_token_at.nd rfl (.inl rfl) se_str)
  (sss_one (ss_set (i := 4) sc_token_at.nd rfl (.inl rfl) (se_call (fnOk_plain (ok_end_of T)) tk (hr.mono (by decide)) rfl T.m_end_of T.F_end_of.kp (b_end_of T) (sa_cons (se_var (pv 1)) (sa_cons (se_var (pv 2)) (sa_cons (se_op op_addA os_add (se_glob rfl T.mk_SMALL_LETTERS T.rk_SMALL_LETTERS fun _ => (.str _)) (se_glob rfl T.mk_TEN_FIGURES T.rk_TEN_FIGURES fun _ => (.str _))) sa_nil)))))))
  (sss_one (ss_if (st_cmp op_in_str os_inS (se_ix rfl (se_var (pv 1)) (se_var (pv 2))) (se_glob rfl T.mk_TEN_FIGURES T.rk_TEN_FIGURES fun _ => (.str _)))
  (sss_cons (ss_set (i := 3) sc_token_at.nd rfl (.inl rfl) se_str)
  (sss_one (ss_set (i := 4) sc_token_at.nd rfl (.inl rfl) (se_call (fnOk_plain (ok_end_of T)) tk (hr.mono (by decide)) rfl T.m_end_of T.F_end_of.kp (b_end_of T) (sa_cons (se_var (pv 1)) (sa_cons (se_var (pv 2)) (sa_cons (se_glob rfl T.mk_TEN_FIGURES T.rk_TEN_FIGURES fun _ => (.str _)) sa_nil)))))))
  (sss_one (ss_if (st_cmp op_in_str os_inS (se_ix rfl (se_var (pv 1)) (se_var (pv 2))) (se_glob rfl T.mk_SIGNS T.rk_SIGNS fun _ => (.str _)))
  (sss_cons (ss_set (i := 3) sc_token_at.nd rfl (.inl rfl) se_str)
  (sss_one (ss_set (i := 4) sc_token_at.nd rfl (.inl rfl) (se_op op_addA os_add (se_var (pv 2)) se_int))))
  (sss_one (ss_raise (k := 1) (fs := ["line", "place", "word"]) rfl tk rfl T.t_BadSource T.cc_BadSource T.ic_BadSource T.ti_BadSource (oki_BadSource T) rfl (hr.mono (by decide)) (bi_BadSource T) rfl T.mc_BadSource (sa_cons (se_var (pv 0)) (sa_cons (se_op op_addA os_add (se_var (pv 2)) se_int) (sa_cons se_str sa_nil))))))))))
  (sss_cons (ss_if (st_cmp op_gt os_cmp (se_op op_sub os_sub (se_var (pv 4)) (se_var (pv 2))) (se_glob rfl T.mk_WORD_MOST T.rk_WORD_MOST fun _ => (.int _)))
  (sss_one (ss_raise (k := 1) (fs := ["line", "place", "word"]) rfl tk rfl T.t_BadSource T.cc_BadSource T.ic_BadSource T.ti_BadSource (oki_BadSource T) rfl (hr.mono (by decide)) (bi_BadSource T) rfl T.mc_BadSource (sa_cons (se_var (pv 0)) (sa_cons (se_op op_addA os_add (se_var (pv 2)) se_int) (sa_cons se_str sa_nil)))))
  sss_nil)
  (sss_cons (ss_if (st_bool (sw_and (st_cmp (op_eqA hr.units) os_eq (se_var (pv 3)) se_str) (sw_and (st_cmp op_gt os_cmp (se_op op_sub os_sub (se_var (pv 4)) (se_var (pv 2))) se_int) (sw_and1 (st_cmp (op_eqA hr.units) os_eq (se_ix rfl (se_var (pv 1)) (se_var (pv 2))) se_str)))))
  (sss_one (ss_raise (k := 1) (fs := ["line", "place", "word"]) rfl tk rfl T.t_BadSource T.cc_BadSource T.ic_BadSource T.ti_BadSource (oki_BadSource T) rfl (hr.mono (by decide)) (bi_BadSource T) rfl T.mc_BadSource (sa_cons (se_var (pv 0)) (sa_cons (se_op op_addA os_add (se_var (pv 2)) se_int) (sa_cons se_str sa_nil)))))
  sss_nil)
  (sss_one (ss_ret (se_tup (sa_cons (se_var (pv 3)) (sa_cons (se_slice rfl (se_var (pv 1)) (so_some (se_var (pv 2))) (so_some (se_var (pv 4)))) (sa_cons (se_var (pv 0)) (sa_cons (se_op op_addA os_add (se_var (pv 2)) se_int) sa_nil))))))))))
theorem sc_line_tokens : FnScope ["number", "line", "found", "place", "token"] ["number", "line"] (defScope s_line_tokens) := ⟨rfl, rfl, rfl, by decide +kernel, rfl, by decide +kernel, by decide +kernel⟩
theorem b_line_tokens (T : Tops g.K g.cm mg) : Binds g.K T.fd_line_tokens ["number", "line"] [] := T.F_line_tokens.binds fun _ _ _ _ _ _ us hl => match us, hl with | [_, _], _ => rfl
theorem ok_line_tokens (T : Tops g.K g.cm mg) : FnOk P w g.K mg base (L2.CX P w) 4 T.a_line_tokens T.fd_line_tokens ["number", "line"] (spOf g 2 f_line_tokens) :=
  fn_ok T.F_line_tokens sc_line_tokens rfl fun cdv A outer s H E hr tk hp =>
  (sss_cons (ss_set (i := 2) sc_line_tokens.nd rfl (.inl rfl) (se_lstC sa_nil))
  (sss_cons (ss_set (i := 3) sc_line_tokens.nd rfl (.inl rfl) (se_call (fnOk_plain (ok_end_of T)) tk (hr.mono (by decide)) rfl T.m_end_of T.F_end_of.kp (b_end_of T) (sa_cons (se_var (pv 1)) (sa_cons se_int (sa_cons se_str sa_nil)))))
  (sss_cons (ss_while 1000000000 [4] hp (st_bool (sw_and (st_cmp op_lt os_cmp (se_var (pv 3)) (se_fnB call_len cs_len rfl T.z_len (by decide +kernel) (sa_cons (se_var (pv 1)) sa_nil))) (sw_and1 (st_cmp (op_neA hr.units) os_ne (se_ix rfl (se_var (pv 1)) (se_var (pv 3))) se_str))))
  (sss_cons (ss_set (i := 4) sc_line_tokens.nd rfl (.inl rfl) (se_call (fnOk_plain (ok_token_at T)) tk (hr.mono (by decide)) rfl T.m_token_at T.F_token_at.kp (b_token_at T) (sa_cons (se_var (pv 0)) (sa_cons (se_var (pv 1)) (sa_cons (se_var (pv 3)) sa_nil)))))
  (sss_cons (ss_expr (se_meth rfl PySem.F.plainAttrs_list PySem.F.slot_list_append PySem.F.type_list_append mt_append ms_append (se_var (pv 2)) (sa_cons (se_var (pv 4)) sa_nil)))
  (sss_one (ss_set (i := 3) sc_line_tokens.nd rfl (.inl rfl) (se_call (fnOk_plain (ok_end_of T)) tk (hr.mono (by decide)) rfl T.m_end_of T.F_end_of.kp (b_end_of T) (sa_cons (se_var (pv 1)) (sa_cons (se_op op_addA os_add (se_var (pv 3)) (se_fnB call_len cs_len rfl T.z_len (by decide +kernel) (sa_cons (se_ix rfl (se_var (pv 4)) se_int) sa_nil))) (sa_cons se_str sa_nil)))))))))
  (sss_one (ss_ret (se_frz (se_var (pv 2))))))))
theorem sc_tokens_of : FnScope ["text", "found", "at", "line"] ["text"] (defScope s_tokens_of) := ⟨rfl, rfl, rfl, by decide +kernel, rfl, by decide +kernel, by decide +kernel⟩
theorem b_tokens_of (T : Tops g.K g.cm mg) : Binds g.K T.fd_tokens_of ["text"] [] := T.F_tokens_of.binds fun _ _ _ _ _ _ us hl => match us, hl with | [_], _ => rfl
theorem ok_tokens_of (T : Tops g.K g.cm mg) : FnOk P w g.K mg base (L2.CX P w) 5 T.a_tokens_of T.fd_tokens_of ["text"] (spOf g 1 f_tokens_of) :=
  fn_ok T.F_tokens_of sc_tokens_of rfl fun cdv A outer s H E hr tk hp =>
  (sss_cons (ss_set (i := 1) sc_tokens_of.nd rfl (.inl rfl) (se_lst sa_nil))
  (sss_cons (ss_for 1000000000 [2, 3] hp rfl (si_enumX rfl rfl T.z_enumerate (se_meth rfl PySem.F.plainAttrs_str PySem.F.slot_str_split PySem.F.type_str_split mt_split ms_split (se_var (pv 0)) (sa_cons se_str sa_nil))) (sg_tup rfl rfl (sgs_cons (sg_name (i := 2) sc_tokens_of.nd rfl (.inl rfl)) (sgs_cons (sg_name (i := 3) sc_tokens_of.nd rfl (.inl rfl)) sgs_nil)))
  (sss_one (ss_set (i := 1) sc_tokens_of.nd rfl (.inl rfl) (se_op op_addA os_add (se_var (pv 1)) (se_call (fnOk_plain (ok_line_tokens T)) tk (hr.mono (by decide)) rfl T.m_line_tokens T.F_line_tokens.kp (b_line_tokens T) (sa_cons (se_op op_addA os_add (se_var (pv 2)) se_int) (sa_cons (se_var (pv 3)) sa_nil)))))))
  (sss_one (ss_ret (se_fnT (call_tupX rfl) cs_tupX rfl T.z_tuple (by decide +kernel) (sa_cons (se_var (pv 1)) sa_nil))))))
theorem sc__law_heard : FnScope ["text", "error"] ["text"] (defScope s__law_heard) := ⟨rfl, rfl, rfl, by decide +kernel, rfl, by decide +kernel, by decide +kernel⟩
theorem b__law_heard (T : Tops g.K g.cm mg) : Binds g.K T.fd__law_heard ["text"] [] := T.F__law_heard.binds fun _ _ _ _ _ _ us hl => match us, hl with | [_], _ => rfl
theorem ok__law_heard (T : Tops g.K g.cm mg) : FnOk P w g.K mg base (L2.CX P w) 6 T.a__law_heard T.fd__law_heard ["text"] (spOf g 1 f__law_heard) :=
  fn_ok T.F__law_heard sc__law_heard rfl fun cdv A outer s H E hr tk hp =>
  (sss_one (ss_try rfl rfl sc__law_heard.nd tk rfl (fun W1 pn xe tk hp => (sss_one (ss_ret (se_tup (sa_cons se_str (sa_cons (se_call (fnOk_plain (ok_tokens_of T)) tk (hr.mono (by decide)) rfl T.m_tokens_of T.F_tokens_of.kp (b_tokens_of T) (sa_cons (se_var (pv 0)) sa_nil)) sa_nil))))))
  (.cons (o := some 1) ⟨rfl, by decide, .inl T.mc_BadSource⟩ ⟨rfl, rfl⟩ (tc_cons T.cc_BadSource T.e_BadSource_BadSource tc_nil) (fun a oe c d pn hz hf => (sss_one (ss_ret (se_tup (sa_cons se_str (sa_cons (se_xf rfl hz hf (pv 1) (xs_cons ⟨_, T.cc_BadSource, T.x_BadSource, T.n_BadSource_line⟩ xs_nil)) (sa_cons (se_xf rfl hz hf (pv 1) (xs_cons ⟨_, T.cc_BadSource, T.x_BadSource, T.n_BadSource_place⟩ xs_nil)) (sa_cons (se_xf rfl hz hf (pv 1) (xs_cons ⟨_, T.cc_BadSource, T.x_BadSource, T.n_BadSource_word⟩ xs_nil)) sa_nil)))))))) (.cons (o := none) ⟨rfl, by decide, .inl T.mc_WorldError⟩ trivial (tc_cons T.cc_BadSource T.e_BadSource_WorldError tc_nil) (fun a oe c d pn hz hf => (sss_one (ss_ret (se_tup (sa_cons se_str (sa_cons se_int (sa_cons se_int (sa_cons se_str sa_nil)))))))) .nil))))
theorem sc__law_lexed : FnScope ["text", "tokens", "lines", "number", "line", "at", "sign", "end", "kind"] ["text"] (defScope s__law_lexed) := ⟨rfl, rfl, rfl, by decide +kernel, rfl, by decide +kernel, by decide +kernel⟩
theorem b__law_lexed (T : Tops g.K g.cm mg) : Binds g.K T.fd__law_lexed ["text"] [] := T.F__law_lexed.binds fun _ _ _ _ _ _ us hl => match us, hl with | [_], _ => rfl
theorem ok__law_lexed (T : Tops g.K g.cm mg) : FnOk P w g.K mg base (L2.CX P w) 2 T.a__law_lexed T.fd__law_lexed ["text"] (spOf g 1 f__law_lexed) :=
  fn_ok T.F__law_lexed sc__law_lexed rfl fun cdv A outer s H E hr tk hp =>
  (sss_cons (ss_set (i := 1) sc__law_lexed.nd rfl (.inl rfl) (se_lstC sa_nil))
  (sss_cons (ss_set (i := 2) sc__law_lexed.nd rfl (.inl rfl) (se_meth rfl PySem.F.plainAttrs_str PySem.F.slot_str_split PySem.F.type_str_split mt_split ms_split (se_var (pv 0)) (sa_cons se_str sa_nil)))
  (sss_cons (ss_for 1000000000 [4, 5, 6, 7, 8, 3] hp rfl (si_range1 rfl T.z_range (sa_cons (se_fnB call_len cs_len rfl T.z_len (by decide +kernel) (sa_cons (se_var (pv 2)) sa_nil)) sa_nil)) (sg_name (i := 3) sc__law_lexed.nd rfl (.inl rfl))
  (sss_cons (ss_set (i := 4) sc__law_lexed.nd rfl (.inl rfl) (se_ix rfl (se_var (pv 2)) (se_var (pv 3))))
  (sss_cons (ss_set (i := 5) sc__law_lexed.nd rfl (.inl rfl) se_int)
  (sss_one (ss_while 1000000000 [6, 7, 8] hp (st_bool (sw_and (st_cmp op_ltS os_leX (se_var (pv 5)) (se_fnB call_len cs_len rfl T.z_len (by decide +kernel) (sa_cons (se_var (pv 4)) sa_nil))) (sw_and1 (st_cmp (op_neA hr.units) os_ne (se_ix rfl (se_var (pv 4)) (se_var (pv 5))) se_str))))
  (sss_cons (ss_set (i := 6) sc__law_lexed.nd rfl (.inl rfl) (se_ix rfl (se_var (pv 4)) (se_var (pv 5))))
  (sss_cons (ss_set (i := 7) sc__law_lexed.nd rfl (.inl rfl) (se_op op_addA os_add (se_var (pv 5)) se_int))
  (sss_cons (ss_if (st_cmp (op_eqA hr.units) os_eq (se_var (pv 6)) se_str)
  (sss_cons (ss_set (i := 5) sc__law_lexed.nd rfl (.inl rfl) (se_var (pv 7)))
  (sss_one ss_continue))
  sss_nil)
  (sss_cons (ss_if (st_cmp op_in_str os_inS (se_var (pv 6)) se_str)
  (sss_one (ss_expr (se_meth rfl PySem.F.plainAttrs_list PySem.F.slot_list_append PySem.F.type_list_append mt_append ms_append (se_var (pv 1)) (sa_cons (se_tup (sa_cons se_str (sa_cons (se_var (pv 6)) (sa_cons (se_op op_addA os_add (se_var (pv 3)) se_int) (sa_cons (se_op op_addA os_add (se_var (pv 5)) se_int) sa_nil))))) sa_nil))))
  (sss_one (ss_if (st_not (st_tr rfl (se_call (fnOk_plain (ok__law_of_word T)) tk (hr.mono (by decide)) rfl T.m__law_of_word T.F__law_of_word.kp (b__law_of_word T) (sa_cons (se_var (pv 6)) sa_nil))))
  (sss_one (ss_ret (se_tup (sa_cons se_str (sa_cons (se_op op_addA os_add (se_var (pv 3)) se_int) (sa_cons (se_op op_addA os_add (se_var (pv 5)) se_int) (sa_cons se_str sa_nil)))))))
  (sss_cons (ss_set (i := 8) sc__law_lexed.nd rfl (.inl rfl) (se_ix rfl (se_tup (sa_cons se_str (sa_cons se_str sa_nil))) (se_fnT call_int1 cs_int rfl T.z_int (by decide +kernel) (sa_cons (se_cmp op_leS os_leX (se_var (pv 6)) se_str) sa_nil))))
  (sss_cons (ss_while 1000000000 [] hp (st_bool (sw_and (st_cmp op_ltS os_leX (se_var (pv 7)) (se_fnB call_len cs_len rfl T.z_len (by decide +kernel) (sa_cons (se_var (pv 4)) sa_nil))) (sw_and (st_tr rfl (se_call (fnOk_plain (ok__law_of_word T)) tk (hr.mono (by decide)) rfl T.m__law_of_word T.F__law_of_word.kp (b__law_of_word T) (sa_cons (se_ix rfl (se_var (pv 4)) (se_var (pv 7))) sa_nil))) (sw_and1 (st_bool (sw_or (st_cmp (op_eqA hr.units) os_eq (se_var (pv 8)) se_str) (sw_or1 (st_cmp op_leS os_leX (se_ix rfl (se_var (pv 4)) (se_var (pv 7))) se_str))))))))
  (sss_one (ss_set (i := 7) sc__law_lexed.nd rfl (.inl rfl) (se_op op_addA os_add (se_var (pv 7)) se_int))))
  (sss_cons (ss_if (st_cmp op_gtS os_leX (se_op op_sub os_sub (se_var (pv 7)) (se_var (pv 5))) se_int)
  (sss_one (ss_ret (se_tup (sa_cons se_str (sa_cons (se_op op_addA os_add (se_var (pv 3)) se_int) (sa_cons (se_op op_addA os_add (se_var (pv 5)) se_int) (sa_cons se_str sa_nil)))))))
  sss_nil)
  (sss_cons (ss_if (st_bool (sw_and (st_cmp (op_eqA hr.units) os_eq (se_var (pv 8)) se_str) (sw_and (st_cmp (op_eqA hr.units) os_eq (se_var (pv 6)) se_str) (sw_and1 (st_cmp op_gtS os_leX (se_op op_sub os_sub (se_var (pv 7)) (se_var (pv 5))) se_int)))))
  (sss_one (ss_ret (se_tup (sa_cons se_str (sa_cons (se_op op_addA os_add (se_var (pv 3)) se_int) (sa_cons (se_op op_addA os_add (se_var (pv 5)) se_int) (sa_cons se_str sa_nil)))))))
  sss_nil)
  (sss_one (ss_expr (se_meth rfl PySem.F.plainAttrs_list PySem.F.slot_list_append PySem.F.type_list_append mt_append ms_append (se_var (pv 1)) (sa_cons (se_tup (sa_cons (se_var (pv 8)) (sa_cons (se_slice rfl (se_var (pv 4)) (so_some (se_var (pv 5))) (so_some (se_var (pv 7)))) (sa_cons (se_op op_addA os_add (se_var (pv 3)) se_int) (sa_cons (se_op op_addA os_add (se_var (pv 5)) se_int) sa_nil))))) sa_nil)))))))))))
  (sss_one (ss_set (i := 5) sc__law_lexed.nd rfl (.inl rfl) (se_var (pv 7)))))))))))))
  (sss_one (ss_ret (se_tup (sa_cons se_str (sa_cons (se_fnT (call_tupX rfl) cs_tupX rfl T.z_tuple (by decide +kernel) (sa_cons (se_var (pv 1)) sa_nil)) sa_nil))))))))
theorem sc_law : FnScope ["script", "urn", "many", "text", "tokens", "lap", "bent", "hand", "due"] ["script"] (defScope s_law) := ⟨rfl, rfl, rfl, by decide +kernel, rfl, by decide +kernel, by decide +kernel⟩
theorem b_law (T : Tops g.K g.cm mg) : Binds g.K T.fd_law ["script"] [] := T.F_law.binds fun _ _ _ _ _ _ us hl => match us, hl with | [_], _ => rfl
theorem ok_law (T : Tops g.K g.cm mg) : FnOk P w g.K mg base (L2.CX P w) 7 T.a_law T.fd_law ["script"] (spOf g 1 f_law) :=
  fn_ok T.F_law sc_law rfl fun cdv A outer s H E hr tk hp =>
  (sss_cons (ss_set (i := 1) sc_law.nd rfl (.inl rfl) (se_call (ok__law_urn T) tk (hr.mono (by decide)) rfl T.m__law_urn T.F__law_urn.kp (b__law_urn T) (sa_cons (se_var (pv 0)) sa_nil)))
  (sss_cons (ss_set (i := 2) sc_law.nd rfl (.inl rfl) (se_op op_addA os_add se_int (se_call (fnOk_part (ok__law_take T)) tk (hr.mono (by decide)) rfl T.m__law_take T.F__law_take.kp (b__law_take T) (sa_cons (se_var (pv 1)) (sa_cons se_int (sa_cons se_int sa_nil))))))
  (sss_cons (ss_if (st_cmp (op_eqA hr.units) os_eq (se_call (fnOk_part (ok__law_take T)) tk (hr.mono (by decide)) rfl T.m__law_take T.F__law_take.kp (b__law_take T) (sa_cons (se_var (pv 1)) (sa_cons se_int (sa_cons se_int sa_nil)))) se_int)
  (sss_one (ss_set (i := 2) sc_law.nd rfl (.inl rfl) se_int))
  sss_nil)
  (sss_cons (ss_asg (se_call (fnOk_part (ok__law_text T)) tk (hr.mono (by decide)) rfl T.m__law_text T.F__law_text.kp (b__law_text T) (sa_cons (se_var (pv 1)) (sa_cons (se_var (pv 2)) (sa_cons (se_call (fnOk_part (ok__law_take T)) tk (hr.mono (by decide)) rfl T.m__law_take T.F__law_take.kp (b__law_take T) (sa_cons (se_var (pv 1)) (sa_cons se_int (sa_cons se_int sa_nil)))) sa_nil)))) (sg_tup rfl rfl (sgs_cons (sg_name (i := 3) sc_law.nd rfl (.inl rfl)) (sgs_cons (sg_name (i := 4) sc_law.nd rfl (.inl rfl)) sgs_nil))))
  (sss_cons (ss_if (st_not (st_tr rfl (se_call (fnOk_plain (ok__law_equal T)) tk (hr.mono (by decide)) rfl T.m__law_equal T.F__law_equal.kp (b__law_equal T) (sa_cons (se_call (fnOk_plain (ok__law_heard T)) tk (hr.mono (by decide)) rfl T.m__law_heard T.F__law_heard.kp (b__law_heard T) (sa_cons (se_var (pv 3)) sa_nil)) (sa_cons (se_tup (sa_cons se_str (sa_cons (se_var (pv 4)) sa_nil))) sa_nil)))))
  (sss_one (ss_ret se_bl))
  sss_nil)
  (sss_cons (ss_for 1000000000 [6, 5] hp rfl (si_range1 rfl T.z_range (sa_cons se_int sa_nil)) (sg_name (i := 5) sc_law.nd rfl (.inl rfl))
  (sss_cons (ss_set (i := 6) sc_law.nd rfl (.inl rfl) (se_call (fnOk_part (ok__law_spoilt T)) tk (hr.mono (by decide)) rfl T.m__law_spoilt T.F__law_spoilt.kp (b__law_spoilt T) (sa_cons (se_var (pv 1)) (sa_cons (se_var (pv 3)) sa_nil))))
  (sss_cons (ss_if (st_cmp op_gt os_cmp (se_var (pv 5)) se_int)
  (sss_one (ss_set (i := 6) sc_law.nd rfl (.inl rfl) (se_call (fnOk_part (ok__law_spoilt T)) tk (hr.mono (by decide)) rfl T.m__law_spoilt T.F__law_spoilt.kp (b__law_spoilt T) (sa_cons (se_var (pv 1)) (sa_cons (se_var (pv 6)) sa_nil)))))
  sss_nil)
  (sss_one (ss_if (st_not (st_tr rfl (se_call (fnOk_plain (ok__law_equal T)) tk (hr.mono (by decide)) rfl T.m__law_equal T.F__law_equal.kp (b__law_equal T) (sa_cons (se_call (fnOk_plain (ok__law_heard T)) tk (hr.mono (by decide)) rfl T.m__law_heard T.F__law_heard.kp (b__law_heard T) (sa_cons (se_var (pv 6)) sa_nil)) (sa_cons (se_call (fnOk_plain (ok__law_lexed T)) tk (hr.mono (by decide)) rfl T.m__law_lexed T.F__law_lexed.kp (b__law_lexed T) (sa_cons (se_var (pv 6)) sa_nil)) sa_nil)))))
  (sss_one (ss_ret se_bl))
  sss_nil)))))
  (sss_cons (ss_set (i := 7) sc_law.nd rfl (.inl rfl) (se_lst (sa_cons (se_tup (sa_cons se_str (sa_cons (se_tup (sa_cons se_str (sa_cons (se_tup (sa_cons (se_tup (sa_cons se_str (sa_cons se_str (sa_cons se_int (sa_cons se_int sa_nil))))) sa_nil)) sa_nil))) sa_nil))) (sa_cons (se_tup (sa_cons se_str (sa_cons (se_tup (sa_cons se_str (sa_cons se_int (sa_cons se_int (sa_cons se_str sa_nil))))) sa_nil))) (sa_cons (se_tup (sa_cons se_str (sa_cons (se_tup (sa_cons se_str (sa_cons se_int (sa_cons se_int (sa_cons se_str sa_nil))))) sa_nil))) (sa_cons (se_tup (sa_cons se_str (sa_cons (se_tup (sa_cons se_str (sa_cons se_int (sa_cons se_int (sa_cons se_str sa_nil))))) sa_nil))) sa_nil))))))
  (sss_cons (ss_set (i := 7) sc_law.nd rfl (.inl rfl) (se_op op_addA os_add (se_var (pv 7)) (se_lst (sa_cons (se_tup (sa_cons se_str (sa_cons (se_tup (sa_cons se_str (sa_cons (se_tup (sa_cons (se_tup (sa_cons se_str (sa_cons se_str (sa_cons se_int (sa_cons se_int sa_nil))))) (sa_cons (se_tup (sa_cons se_str (sa_cons se_str (sa_cons se_int (sa_cons se_int sa_nil))))) sa_nil))) sa_nil))) sa_nil))) (sa_cons (se_tup (sa_cons se_str (sa_cons (se_tup (sa_cons se_str (sa_cons (se_tup (sa_cons (se_tup (sa_cons se_str (sa_cons se_str (sa_cons se_int (sa_cons se_int sa_nil))))) (sa_cons (se_tup (sa_cons se_str (sa_cons se_str (sa_cons se_int (sa_cons se_int sa_nil))))) sa_nil))) sa_nil))) sa_nil))) (sa_cons (se_tup (sa_cons se_str (sa_cons (se_tup (sa_cons se_str (sa_cons (se_tup (sa_cons (se_tup (sa_cons se_str (sa_cons se_str (sa_cons se_int (sa_cons se_int sa_nil))))) (sa_cons (se_tup (sa_cons se_str (sa_cons se_str (sa_cons se_int (sa_cons se_int sa_nil))))) (sa_cons (se_tup (sa_cons se_str (sa_cons se_str (sa_cons se_int (sa_cons se_int sa_nil))))) sa_nil)))) sa_nil))) sa_nil))) sa_nil))))))
  (sss_cons (ss_set (i := 7) sc_law.nd rfl (.inl rfl) (se_op op_addA os_add (se_var (pv 7)) (se_lst (sa_cons (se_tup (sa_cons se_str (sa_cons (se_tup (sa_cons se_str (sa_cons (se_tup sa_nil) sa_nil))) sa_nil))) (sa_cons (se_tup (sa_cons se_str (sa_cons (se_tup (sa_cons se_str (sa_cons (se_tup sa_nil) sa_nil))) sa_nil))) (sa_cons (se_tup (sa_cons se_str (sa_cons (se_tup (sa_cons se_str (sa_cons se_int (sa_cons se_int (sa_cons se_str sa_nil))))) sa_nil))) (sa_cons (se_tup (sa_cons se_str (sa_cons (se_tup (sa_cons se_str (sa_cons se_int (sa_cons se_int (sa_cons se_str sa_nil))))) sa_nil))) (sa_cons (se_tup (sa_cons se_str (sa_cons (se_tup (sa_cons se_str (sa_cons se_int (sa_cons se_int (sa_cons se_str sa_nil))))) sa_nil))) (sa_cons (se_tup (sa_cons se_str (sa_cons (se_tup (sa_cons se_str (sa_cons se_int (sa_cons se_int (sa_cons se_str sa_nil))))) sa_nil))) (sa_cons (se_tup (sa_cons se_str (sa_cons (se_tup (sa_cons se_str (sa_cons (se_tup (sa_cons (se_tup (sa_cons se_str (sa_cons se_str (sa_cons se_int (sa_cons se_int sa_nil))))) (sa_cons (se_tup (sa_cons se_str (sa_cons se_str (sa_cons se_int (sa_cons se_int sa_nil))))) sa_nil))) sa_nil))) sa_nil))) sa_nil))))))))))
  (sss_cons (ss_for 1000000000 [6, 8] hp rfl (si_val rfl (se_var (pv 7))) (sg_tup rfl rfl (sgs_cons (sg_name (i := 6) sc_law.nd rfl (.inl rfl)) (sgs_cons (sg_name (i := 8) sc_law.nd rfl (.inl rfl)) sgs_nil)))
  (sss_one (ss_if (st_not (st_tr rfl (se_call (fnOk_plain (ok__law_equal T)) tk (hr.mono (by decide)) rfl T.m__law_equal T.F__law_equal.kp (b__law_equal T) (sa_cons (se_call (fnOk_plain (ok__law_heard T)) tk (hr.mono (by decide)) rfl T.m__law_heard T.F__law_heard.kp (b__law_heard T) (sa_cons (se_var (pv 6)) sa_nil)) (sa_cons (se_var (pv 8)) sa_nil)))))
  (sss_one (ss_ret se_bl))
  sss_nil)))
  (sss_one (ss_ret se_bl))))))))))))
end
theorem all_mk {l : PySem.W.OpenLaw} {w : World} {K : PySem.W.Frag} {h : Heap} {mg : Str → Option Value} {fa f1 f2 f3 f4 f5 f6 f7 f8 f9 f10 f11 f12 f13 f14 f15 : Addr} (X : K.In h) (G : h.Ns mainGlobals mg) (hfa : mg "law" = some (.ref fa))
    {od1 an1 od2 an2 od3 an3 od4 an4 od5 an5 od6 an6 od7 an7 od8 an8 od9 an9 od10 an10 od11 an11 od12 an12 od13 an13 od14 an14 od15 an15 : Option Addr} {sl1 sl2 sl3 sl4 sl5 sl6 sl7 sl8 sl9 sl10 sl11 sl12 sl13 sl14 sl15 : Array (Option Value)} {oc1 kV1 dc1 pm1 cd1 ct1 oc2 kV2 dc2 pm2 cd2 ct2 oc3 kV3 dc3 pm3 cd3 ct3 oc4 kV4 dc4 pm4 cd4 ct4 oc5 kV5 dc5 pm5 cd5 ct5 oc6 kV6 dc6 pm6 cd6 ct6 oc7 kV7 dc7 pm7 cd7 ct7 oc8 kV8 dc8 pm8 cd8 ct8 oc9 kV9 dc9 pm9 cd9 ct9 oc10 kV10 dc10 pm10 cd10 ct10 oc11 kV11 dc11 pm11 cd11 ct11 oc12 kV12 dc12 pm12 cd12 ct12 oc13 kV13 dc13 pm13 cd13 ct13 oc14 kV14 dc14 pm14 cd14 ct14 oc15 kV15 dc15 pm15 cd15 ct15 : Value}
    (a1 : PySem.W.nsIn K mainGlobals "_law_urn" = some (some (.ref f1))) (l1 : K.lookup f1 = some ⟨oc1, od1, .func (PySem.W.fnOf "_law_urn" "_law_urn" (defArgs s__law_urn) (defBody s__law_urn) (defScope s__law_urn) .none kV1 dc1 pm1 an1 cd1 ct1), sl1⟩) (c1 : PySem.W.codeIn K cd1 "_law_urn" = true) (k1 : PySem.W.keepIn K (.ref f1) = true)
    (a2 : PySem.W.nsIn K mainGlobals "_law_take" = some (some (.ref f2))) (l2 : K.lookup f2 = some ⟨oc2, od2, .func (PySem.W.fnOf "_law_take" "_law_take" (defArgs s__law_take) (defBody s__law_take) (defScope s__law_take) .none kV2 dc2 pm2 an2 cd2 ct2), sl2⟩) (c2 : PySem.W.codeIn K cd2 "_law_take" = true) (k2 : PySem.W.keepIn K (.ref f2) = true)
    (a3 : PySem.W.nsIn K mainGlobals "_law_gap" = some (some (.ref f3))) (l3 : K.lookup f3 = some ⟨oc3, od3, .func (PySem.W.fnOf "_law_gap" "_law_gap" (defArgs s__law_gap) (defBody s__law_gap) (defScope s__law_gap) .none kV3 dc3 pm3 an3 cd3 ct3), sl3⟩) (c3 : PySem.W.codeIn K cd3 "_law_gap" = true) (k3 : PySem.W.keepIn K (.ref f3) = true)
    (a4 : PySem.W.nsIn K mainGlobals "_law_piece" = some (some (.ref f4))) (l4 : K.lookup f4 = some ⟨oc4, od4, .func (PySem.W.fnOf "_law_piece" "_law_piece" (defArgs s__law_piece) (defBody s__law_piece) (defScope s__law_piece) .none kV4 dc4 pm4 an4 cd4 ct4), sl4⟩) (c4 : PySem.W.codeIn K cd4 "_law_piece" = true) (k4 : PySem.W.keepIn K (.ref f4) = true)
    (a5 : PySem.W.nsIn K mainGlobals "_law_of_word" = some (some (.ref f5))) (l5 : K.lookup f5 = some ⟨oc5, od5, .func (PySem.W.fnOf "_law_of_word" "_law_of_word" (defArgs s__law_of_word) (defBody s__law_of_word) (defScope s__law_of_word) .none kV5 dc5 pm5 an5 cd5 ct5), sl5⟩) (c5 : PySem.W.codeIn K cd5 "_law_of_word" = true) (k5 : PySem.W.keepIn K (.ref f5) = true)
    (a6 : PySem.W.nsIn K mainGlobals "_law_text" = some (some (.ref f6))) (l6 : K.lookup f6 = some ⟨oc6, od6, .func (PySem.W.fnOf "_law_text" "_law_text" (defArgs s__law_text) (defBody s__law_text) (defScope s__law_text) .none kV6 dc6 pm6 an6 cd6 ct6), sl6⟩) (c6 : PySem.W.codeIn K cd6 "_law_text" = true) (k6 : PySem.W.keepIn K (.ref f6) = true)
    (a7 : PySem.W.nsIn K mainGlobals "_law_equal" = some (some (.ref f7))) (l7 : K.lookup f7 = some ⟨oc7, od7, .func (PySem.W.fnOf "_law_equal" "_law_equal" (defArgs s__law_equal) (defBody s__law_equal) (defScope s__law_equal) .none kV7 dc7 pm7 an7 cd7 ct7), sl7⟩) (c7 : PySem.W.codeIn K cd7 "_law_equal" = true) (k7 : PySem.W.keepIn K (.ref f7) = true)
    (a8 : PySem.W.nsIn K mainGlobals "_law_spoilt" = some (some (.ref f8))) (l8 : K.lookup f8 = some ⟨oc8, od8, .func (PySem.W.fnOf "_law_spoilt" "_law_spoilt" (defArgs s__law_spoilt) (defBody s__law_spoilt) (defScope s__law_spoilt) .none kV8 dc8 pm8 an8 cd8 ct8), sl8⟩) (c8 : PySem.W.codeIn K cd8 "_law_spoilt" = true) (k8 : PySem.W.keepIn K (.ref f8) = true)
    (a9 : PySem.W.nsIn K mainGlobals "end_of" = some (some (.ref f9))) (l9 : K.lookup f9 = some ⟨oc9, od9, .func (PySem.W.fnOf "end_of" "end_of" (defArgs s_end_of) (defBody s_end_of) (defScope s_end_of) .none kV9 dc9 pm9 an9 cd9 ct9), sl9⟩) (c9 : PySem.W.codeIn K cd9 "end_of" = true) (k9 : PySem.W.keepIn K (.ref f9) = true)
    (a10 : PySem.W.nsIn K mainGlobals "token_at" = some (some (.ref f10))) (l10 : K.lookup f10 = some ⟨oc10, od10, .func (PySem.W.fnOf "token_at" "token_at" (defArgs s_token_at) (defBody s_token_at) (defScope s_token_at) .none kV10 dc10 pm10 an10 cd10 ct10), sl10⟩) (c10 : PySem.W.codeIn K cd10 "token_at" = true) (k10 : PySem.W.keepIn K (.ref f10) = true)
    (a11 : PySem.W.nsIn K mainGlobals "line_tokens" = some (some (.ref f11))) (l11 : K.lookup f11 = some ⟨oc11, od11, .func (PySem.W.fnOf "line_tokens" "line_tokens" (defArgs s_line_tokens) (defBody s_line_tokens) (defScope s_line_tokens) .none kV11 dc11 pm11 an11 cd11 ct11), sl11⟩) (c11 : PySem.W.codeIn K cd11 "line_tokens" = true) (k11 : PySem.W.keepIn K (.ref f11) = true)
    (a12 : PySem.W.nsIn K mainGlobals "tokens_of" = some (some (.ref f12))) (l12 : K.lookup f12 = some ⟨oc12, od12, .func (PySem.W.fnOf "tokens_of" "tokens_of" (defArgs s_tokens_of) (defBody s_tokens_of) (defScope s_tokens_of) .none kV12 dc12 pm12 an12 cd12 ct12), sl12⟩) (c12 : PySem.W.codeIn K cd12 "tokens_of" = true) (k12 : PySem.W.keepIn K (.ref f12) = true)
    (a13 : PySem.W.nsIn K mainGlobals "_law_heard" = some (some (.ref f13))) (l13 : K.lookup f13 = some ⟨oc13, od13, .func (PySem.W.fnOf "_law_heard" "_law_heard" (defArgs s__law_heard) (defBody s__law_heard) (defScope s__law_heard) .none kV13 dc13 pm13 an13 cd13 ct13), sl13⟩) (c13 : PySem.W.codeIn K cd13 "_law_heard" = true) (k13 : PySem.W.keepIn K (.ref f13) = true)
    (a14 : PySem.W.nsIn K mainGlobals "_law_lexed" = some (some (.ref f14))) (l14 : K.lookup f14 = some ⟨oc14, od14, .func (PySem.W.fnOf "_law_lexed" "_law_lexed" (defArgs s__law_lexed) (defBody s__law_lexed) (defScope s__law_lexed) .none kV14 dc14 pm14 an14 cd14 ct14), sl14⟩) (c14 : PySem.W.codeIn K cd14 "_law_lexed" = true) (k14 : PySem.W.keepIn K (.ref f14) = true)
    (a15 : PySem.W.nsIn K mainGlobals "law" = some (some (.ref f15))) (l15 : K.lookup f15 = some ⟨oc15, od15, .func (PySem.W.fnOf "law" "law" (defArgs s_law) (defBody s_law) (defScope s_law) .none kV15 dc15 pm15 an15 cd15 ct15), sl15⟩) (c15 : PySem.W.codeIn K cd15 "law" = true) (k15 : PySem.W.keepIn K (.ref f15) = true)
    {CBadSource : Addr} (a_BadSource : PySem.W.nsIn K mainGlobals "BadSource" = some (some (.ref CBadSource)))
    {nmBadSource qBadSource : Str} {NBadSource IBadSource : Addr} {bsBadSource bmBadSource subBadSource : List Value} {snBadSource : List Str} {abBadSource : Bool} {colBadSource : Option Bool} {ddBadSource odBadSource anBadSource : Option Addr} {m0BadSource m1BadSource m2BadSource m3BadSource m5BadSource : Option Value} {slBadSource : Array (Option Value)} {ocBadSource dcBadSource pmBadSource cdBadSource ctBadSource kVBadSource : Value}
    (x_BadSource : K.lookup CBadSource = some (excClassObj nmBadSource qBadSource CBadSource NBadSource bsBadSource bmBadSource true snBadSource subBadSource abBadSource colBadSource ddBadSource m0BadSource m1BadSource m2BadSource m3BadSource m5BadSource "ValueError.__new__")) (v_BadSource : PySem.HandSPX.refsVE bmBadSource = true)
    (sa_BadSource : PySem.W.findIn K (.ref CBadSource) "__setattr__" = some (some (.builtin "object.__setattr__"))) (ga_BadSource : PySem.W.findIn K (.ref CBadSource) "__getattribute__" = some (some (.builtin "BaseException.__getattribute__"))) (gg_BadSource : PySem.W.findIn K (.ref CBadSource) "__getattr__" = some none)
    (in_BadSource : PySem.W.findIn K (.ref CBadSource) "__init__" = some (some (.ref IBadSource))) (ti_BadSource : PySem.W.typeIn K (.ref IBadSource) = some (.type "function"))
    (li_BadSource : K.lookup IBadSource = some ⟨ocBadSource, odBadSource, .func (PySem.W.fnOf "__init__" "BadSource.__init__" (defArgs si_BadSource) (defBody si_BadSource) (defScope si_BadSource) .none kVBadSource dcBadSource pmBadSource anBadSource cdBadSource ctBadSource), slBadSource⟩) (ci_BadSource : PySem.W.codeIn K cdBadSource "BadSource.__init__" = true)
    (n_BadSource_line : PySem.W.findIn K (.ref CBadSource) "line" = some none)
    (n_BadSource_place : PySem.W.findIn K (.ref CBadSource) "place" = some none)
    (n_BadSource_word : PySem.W.findIn K (.ref CBadSource) "word" = some none)
    (kp_BadSource : PySem.W.keepIn K (.ref CBadSource) = true)
    (eb_BadSource : PySem.W.subIn K (.ref CBadSource) (.type "BaseException") = some true) (ty_BadSource : PySem.W.typeIn K (.ref CBadSource) = some (.type "type")) (hd_BadSource : PySem.W.hasDictIn K CBadSource = true)
    {CWorldError : Addr} (a_WorldError : PySem.W.nsIn K mainGlobals "WorldError" = some (some (.ref CWorldError)))
    (eb_WorldError : PySem.W.subIn K (.ref CWorldError) (.type "BaseException") = some true) (ty_WorldError : PySem.W.typeIn K (.ref CWorldError) = some (.type "type")) (hd_WorldError : PySem.W.hasDictIn K CWorldError = true)
    (s_BadSource_BadSource : PySem.W.subIn K (.ref CBadSource) (.ref CBadSource) = some true)
    (s_BadSource_WorldError : PySem.W.subIn K (.ref CBadSource) (.ref CWorldError) = some true)
    {tc_SIGNS : Tok} (g_SIGNS : PySem.W.nsIn K mainGlobals "SIGNS" = some (some (.str "+-:;',{}" tc_SIGNS)))
    {tc_SMALL_LETTERS : Tok} (g_SMALL_LETTERS : PySem.W.nsIn K mainGlobals "SMALL_LETTERS" = some (some (.str "abcdefghijklmnopqrstuvwxyz" tc_SMALL_LETTERS)))
    {tc_TEN_FIGURES : Tok} (g_TEN_FIGURES : PySem.W.nsIn K mainGlobals "TEN_FIGURES" = some (some (.str "0123456789" tc_TEN_FIGURES)))
    {tc_WORD_MOST : Tok} (g_WORD_MOST : PySem.W.nsIn K mainGlobals "WORD_MOST" = some (some (.int 12 tc_WORD_MOST)))
    (z0 : PySem.W.nsIn K mainGlobals "bool" = some none)
    (z1 : PySem.W.nsIn K mainGlobals "enumerate" = some none)
    (z2 : PySem.W.nsIn K mainGlobals "int" = some none)
    (z3 : PySem.W.nsIn K mainGlobals "isinstance" = some none)
    (z4 : PySem.W.nsIn K mainGlobals "len" = some none)
    (z5 : PySem.W.nsIn K mainGlobals "list" = some none)
    (z6 : PySem.W.nsIn K mainGlobals "min" = some none)
    (z7 : PySem.W.nsIn K mainGlobals "range" = some none)
    (z8 : PySem.W.nsIn K mainGlobals "str" = some none)
    (z9 : PySem.W.nsIn K mainGlobals "tuple" = some none)
    (hF : ∀ ns : List Int, ns.length ≤ 63 → (∀ z ∈ ns, Builtin.Int.intBits z ≤ 1048576) → ∃ cs, f_law [.s ns] [] = .ok (.d (.bool true)) cs) :
    ∃ fd : FuncData, (∀ (s : Shared) (v : Value), BindsTo s fd ⟨[v], []⟩ [("script", v)]) ∧ ∀ base : Heap, K.In base → base.Ns mainGlobals mg → FnOk l.prog w K mg base (L2.CX l.prog w) 7 fa fd ["script"] (spLaw K) := by
  have e := hfa.symm.trans (PySem.W.mg_of X G a15)
  cases e
  refine ⟨PySem.W.fnOf "law" "law" (defArgs s_law) (defBody s_law) (defScope s_law) .none kV15 dc15 pm15 an15 cd15 ct15, fun s v => .of_eq rfl, fun base _ _ => ?_⟩
  exact law_fn (g := { K := K, cm := fun x => (mg x).getD .none }) (ok_law (g := { K := K, cm := fun x => (mg x).getD .none }) ⟨CBadSource, PySem.W.mg_of X G a_BadSource, congrArg (Option.getD · .none) (PySem.W.mg_of X G a_BadSource), ⟨⟨_, _, _, _, _, _, _, _, _, _, _, _, _, _, _, x_BadSource, v_BadSource⟩, sa_BadSource, eb_BadSource, ty_BadSource, kp_BadSource⟩, IBadSource, in_BadSource, ti_BadSource, _, funI_mk (st := si_BadSource) ci_BadSource li_BadSource, ⟨ga_BadSource, gg_BadSource, eb_BadSource, hd_BadSource⟩, n_BadSource_line, n_BadSource_place, n_BadSource_word, CWorldError, PySem.W.mg_of X G a_WorldError, congrArg (Option.getD · .none) (PySem.W.mg_of X G a_WorldError), PySem.W.exm_ref eb_BadSource hd_BadSource ty_BadSource s_BadSource_BadSource, PySem.W.exm_ref eb_WorldError hd_WorldError ty_WorldError s_BadSource_WorldError, _, PySem.W.mg_of X G g_SIGNS, ⟨_, rfl⟩, _, PySem.W.mg_of X G g_SMALL_LETTERS, ⟨_, rfl⟩, _, PySem.W.mg_of X G g_TEN_FIGURES, ⟨_, rfl⟩, _, PySem.W.mg_of X G g_WORD_MOST, ⟨_, rfl⟩, f1, _, fun_mk (st := s__law_urn) l1 c1 k1, PySem.W.mg_of X G a1, f2, _, fun_mk (st := s__law_take) l2 c2 k2, PySem.W.mg_of X G a2, f3, _, fun_mk (st := s__law_gap) l3 c3 k3, PySem.W.mg_of X G a3, f4, _, fun_mk (st := s__law_piece) l4 c4 k4, PySem.W.mg_of X G a4, f5, _, fun_mk (st := s__law_of_word) l5 c5 k5, PySem.W.mg_of X G a5, f6, _, fun_mk (st := s__law_text) l6 c6 k6, PySem.W.mg_of X G a6, f7, _, fun_mk (st := s__law_equal) l7 c7 k7, PySem.W.mg_of X G a7, f8, _, fun_mk (st := s__law_spoilt) l8 c8 k8, PySem.W.mg_of X G a8, f9, _, fun_mk (st := s_end_of) l9 c9 k9, PySem.W.mg_of X G a9, f10, _, fun_mk (st := s_token_at) l10 c10 k10, PySem.W.mg_of X G a10, f11, _, fun_mk (st := s_line_tokens) l11 c11 k11, PySem.W.mg_of X G a11, f12, _, fun_mk (st := s_tokens_of) l12 c12 k12, PySem.W.mg_of X G a12, f13, _, fun_mk (st := s__law_heard) l13 c13 k13, PySem.W.mg_of X G a13, f14, _, fun_mk (st := s__law_lexed) l14 c14 k14, PySem.W.mg_of X G a14, fa, _, fun_mk (st := s_law) l15 c15 k15, PySem.W.mg_of X G a15, PySem.W.mg_none_of X G z0, PySem.W.mg_none_of X G z1, PySem.W.mg_none_of X G z2, PySem.W.mg_none_of X G z3, PySem.W.mg_none_of X G z4, PySem.W.mg_none_of X G z5, PySem.W.mg_none_of X G z6, PySem.W.mg_none_of X G z7, PySem.W.mg_none_of X G z8, PySem.W.mg_none_of X G z9⟩) hF
end K03
open PySem PySem.W PyProof.Rows
set_option maxRecDepth 100000 in
set_option maxHeartbeats 0 in
theorem PySem.Challenge.cw_changedalike_k03_tokens_holds : PySem.Challenge.rw_changedalike_k03_tokens.Holds := by
  w_on; o_law; k_head; (case hw => w_witness2)
  k_fill
  refine Sh.walkS (l := PySem.Challenge.rw_changedalike_k03_tokens) (k := 7) rfl rfl ⟨rfl, by decide, by decide⟩ (fun w h Y => PySem.W.kIn_of Y) ?F
  case F =>
    intro w mg fa h KX G hmg
    refine' K03.all_mk KX G hmg ?a1 ?l1 ?c1 ?k1 ?a2 ?l2 ?c2 ?k2 ?a3 ?l3 ?c3 ?k3 ?a4 ?l4 ?c4 ?k4 ?a5 ?l5 ?c5 ?k5 ?a6 ?l6 ?c6 ?k6 ?a7 ?l7 ?c7 ?k7 ?a8 ?l8 ?c8 ?k8 ?a9 ?l9 ?c9 ?k9 ?a10 ?l10 ?c10 ?k10 ?a11 ?l11 ?c11 ?k11 ?a12 ?l12 ?c12 ?k12 ?a13 ?l13 ?c13 ?k13 ?a14 ?l14 ?c14 ?k14 ?a15 ?l15 ?c15 ?k15 ?a_BadSource ?x_BadSource ?v_BadSource ?sa_BadSource ?ga_BadSource ?gg_BadSource ?in_BadSource ?ti_BadSource ?li_BadSource ?ci_BadSource ?n_BadSource_line ?n_BadSource_place ?n_BadSource_word ?kp_BadSource ?eb_BadSource ?ty_BadSource ?hd_BadSource ?a_WorldError ?eb_WorldError ?ty_WorldError ?hd_WorldError ?s_BadSource_BadSource ?s_BadSource_WorldError ?g_SIGNS ?g_SMALL_LETTERS ?g_TEN_FIGURES ?g_WORD_MOST ?z0 ?z1 ?z2 ?z3 ?z4 ?z5 ?z6 ?z7 ?z8 ?z9 K03.law_true
    (case a1 => k_is)
    (case l1 => k_is)
    (case c1 => k_is)
    (case k1 => k_is)
    (case a2 => k_is)
    (case l2 => k_is)
    (case c2 => k_is)
    (case k2 => k_is)
    (case a3 => k_is)
    (case l3 => k_is)
    (case c3 => k_is)
    (case k3 => k_is)
    (case a4 => k_is)
    (case l4 => k_is)
    (case c4 => k_is)
    (case k4 => k_is)
    (case a5 => k_is)
    (case l5 => k_is)
    (case c5 => k_is)
    (case k5 => k_is)
    (case a6 => k_is)
    (case l6 => k_is)
    (case c6 => k_is)
    (case k6 => k_is)
    (case a7 => k_is)
    (case l7 => k_is)
    (case c7 => k_is)
    (case k7 => k_is)
    (case a8 => k_is)
    (case l8 => k_is)
    (case c8 => k_is)
    (case k8 => k_is)
    (case a9 => k_is)
    (case l9 => k_is)
    (case c9 => k_is)
    (case k9 => k_is)
    (case a10 => k_is)
    (case l10 => k_is)
    (case c10 => k_is)
    (case k10 => k_is)
    (case a11 => k_is)
    (case l11 => k_is)
    (case c11 => k_is)
    (case k11 => k_is)
    (case a12 => k_is)
    (case l12 => k_is)
    (case c12 => k_is)
    (case k12 => k_is)
    (case a13 => k_is)
    (case l13 => k_is)
    (case c13 => k_is)
    (case k13 => k_is)
    (case a14 => k_is)
    (case l14 => k_is)
    (case c14 => k_is)
    (case k14 => k_is)
    (case a15 => k_is)
    (case l15 => k_is)
    (case c15 => k_is)
    (case k15 => k_is)
    (case a_BadSource => k_is)
    (case x_BadSource => k_is)
    (case v_BadSource => decide +kernel)
    (case sa_BadSource => k_is)
    (case ga_BadSource => k_is)
    (case gg_BadSource => k_is)
    (case in_BadSource => k_is)
    (case ti_BadSource => k_is)
    (case li_BadSource => k_is)
    (case ci_BadSource => k_is)
    (case n_BadSource_line => k_is)
    (case n_BadSource_place => k_is)
    (case n_BadSource_word => k_is)
    (case kp_BadSource => k_is)
    (case eb_BadSource => k_is)
    (case ty_BadSource => k_is)
    (case hd_BadSource => k_is)
    (case a_WorldError => k_is)
    (case eb_WorldError => k_is)
    (case ty_WorldError => k_is)
    (case hd_WorldError => k_is)
    (case s_BadSource_BadSource => k_is)
    (case s_BadSource_WorldError => k_is)
    (case g_SIGNS => k_is)
    (case g_SMALL_LETTERS => k_is)
    (case g_TEN_FIGURES => k_is)
    (case g_WORD_MOST => k_is)
    (case z0 => k_is)
    (case z1 => k_is)
    (case z2 => k_is)
    (case z3 => k_is)
    (case z4 => k_is)
    (case z5 => k_is)
    (case z6 => k_is)
    (case z7 => k_is)
    (case z8 => k_is)
    (case z9 => k_is)
