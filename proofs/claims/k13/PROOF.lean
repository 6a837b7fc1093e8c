import PyProof.Rows.All
import Wide.All
import OpenK.AllK
import Wide.FinOn
import HandS.ForMost
import HandS.ForExc
import HandS.TupAny
import HandS.IsInst
import HandS.Style
import HandS.TupMul
import HandS.TupLe
import HandS.Strs
import HandS.SortInts
import HandS.Zip
import PyProof.WalkInts
import HandS.SetFor
import HandS.More
import KE.GoesMore
import KE.GoesEnum
import KE.GoesZip
import KE.DataMinMax
import HandS.Dict
import HandS.Conv
import HandS.ExcIs
import HandS.HotCalls
import KE.SortData
import KE.KCallOwn
import HandS.Codes
import HandS.Text
import PySem.Challenge.RW_shelfrows_k13_lines_refused
set_option Elab.async false
set_option linter.all false
set_option maxRecDepth 100000
/-! Mini: data, cells, values of the functional reading, and how they lie in HandS's heap. -/
namespace Mi
open PySem L2
abbrev D := PyData
inductive Cell where
  | lst (ds : List D)
  | lst2 (dss : List (List D))
inductive A where
  | dat (d : D) | sn (c : Cell) | ob (c : Cell) | loc (k : Nat) | scr (ns : List Int) | dc (kvs : List (Int × Int)) | zz
/-- a field of an instance: data, or a list that it owns -/
inductive Fv where
  | d (x : D) | l (xs : List D)
/-- what stands in a cell: a list, a list of lists; nothing that is told; the address alone; an instance of the program's class -/
inductive Ce where
  | lst (ds : List D)
  | lst2 (dss : List (List D))
  | no
  | pt (p : Addr)
  | ins (fs : List (Str × Fv))
def Cell.ce : Cell → Ce
  | .lst ds => .lst ds
  | .lst2 dss => .lst2 dss
abbrev Hh := List Ce
abbrev En := List (Option A)
inductive Res (α : Type) where
  | ok (a : α) (h : Hh) | exc (c : Nat) (h : Hh) | er
def Res.bind {α β : Type} (r : Res α) (f : α → Hh → Res β) : Res β := match r with
  | .ok a h => f a h
  | .exc c h => .exc c h
  | .er => .er
abbrev EF := En → Hh → Res A
abbrev AF := En → Hh → Res (List A)
abbrev TF := En → Hh → Res Bool
abbrev IF := En → Hh → Res (List D × Bool)
inductive SRes where
  | nx (env : En) (h : Hh) | rt (a : A) (h : Hh) | bk (env : En) (h : Hh) | ct (env : En) (h : Hh) | exc (c : Nat) (h : Hh) | er
abbrev SF := En → Hh → SRes
/-- what a def is worth -/
abbrev FF := List A → Hh → Res A
def Cell.toD : Cell → D
  | .lst ds => .list ds
  | .lst2 dss => .list (dss.map .list)
def A.d : A → Option D
  | .dat d => some d
  | .sn c => some c.toD
  | .ob c => some c.toD
  | .loc _ => none
  | .scr _ => none
  | .dc _ => none
  | .zz => none
/-! ### heaps -/
def mns (H : Hp) (O : List Addr) : Hp := fun a => if a ∈ O then none else H a
def Ex (H H' : Hp) : Prop := ∀ a o, H a = some o → H' a = some o
theorem Ex.refl (H : Hp) : Ex H H := fun _ _ h => h
theorem Ex.trans {H H1 H2 : Hp} (a : Ex H H1) (b : Ex H1 H2) : Ex H H2 := fun x o h => b x o (a x o h)
theorem Ex.new {H : Hp} {p : Addr} {o : HO} (h : H p = none) : Ex H (upd H p o) := fun a u e => by
  rw [upd_ne (ne_of_none e h)]
  exact e
theorem mns_some {H : Hp} {O : List Addr} {a : Addr} {o : HO} : mns H O a = some o ↔ a ∉ O ∧ H a = some o := by
  unfold mns
  by_cases h : a ∈ O
  · simp [h]
  · simp [h]
theorem mns_ex (H : Hp) (O : List Addr) : Ex (mns H O) H := fun a o h => (mns_some.mp h).2
theorem ex_mns {H H' : Hp} {O O' : List Addr} (k : ∀ q o, q ∉ O → H q = some o → H' q = some o ∧ q ∉ O') : Ex (mns H O) (mns H' O') := fun a o h => by
  obtain ⟨h1, h2⟩ := mns_some.mp h
  obtain ⟨h3, h4⟩ := k a o h1 h2
  exact mns_some.mpr ⟨h4, h3⟩
theorem mns_mono {H : Hp} {O O' : List Addr} (k : ∀ q, q ∈ O' → q ∈ O) : Ex (mns H O) (mns H O') := ex_mns fun q o h1 h2 => ⟨h2, fun z => h1 (k q z)⟩
section
variable {K : PySem.W.Frag} {F F' W W' H H' : Hp}
theorem ex_sqL {a : Addr} {xs : List V} (e : Ex F F') (h : SqL K F a xs) : SqL K F' a xs := by
  rcases h with (h | ⟨o, h⟩) | h
  · exact .inl (.inl (e _ _ h))
  · exact .inl (.inr ⟨o, e _ _ h⟩)
  · exact .inr h
theorem ex_sqT {a : Addr} {xs : List V} (e : Ex F F') (h : SqT K F a xs) : SqT K F' a xs := by
  rcases h with (h | ⟨o, h⟩) | h
  · exact .inl (.inl (e _ _ h))
  · exact .inl (.inr ⟨o, e _ _ h⟩)
  · exact .inr h
end
/-- a tuple without a dict of its own: tracked with its object, or written -/
def SqP (K : PySem.W.Frag) (F : Hp) (a : Addr) (xs : List V) : Prop :=
  (∃ ob : Obj, F a = some (.frz ob (.tup xs)) ∧ ob.dict = none) ∨
    ∃ (o : Obj) (its : Array Value) (n : Nat), K.lookup a = some o ∧ o.cls = .type "tuple" ∧ o.dict = none ∧ o.data = .seq its n ∧ its.size ≤ sizeLine ∧ Vals xs its.toList
def PlT (o : HO) (xs : List V) : Prop := ∃ ob : Obj, o = .frz ob (.tup xs) ∧ ob.dict = none
theorem SqP.sq {K : PySem.W.Frag} {F : Hp} {a : Addr} {xs : List V} (h : SqP K F a xs) : SqT K F a xs := by
  rcases h with ⟨ob, h, _⟩ | ⟨o, its, n, h1, h2, _, h3, h4, h5⟩
  · exact .inl (.inr ⟨ob, h⟩)
  · exact .inr ⟨o, its, n, h1, h2, h3, h4, h5⟩
theorem ex_sqP {K : PySem.W.Frag} {F F' : Hp} {a : Addr} {xs : List V} (e : Ex F F') (h : SqP K F a xs) : SqP K F' a xs := by
  rcases h with ⟨ob, h, d⟩ | h
  · exact .inl ⟨ob, e _ _ h, d⟩
  · exact .inr h
mutual
/-- data as they lie in the heap: lists are tracked ones, tuples may be written ones -/
inductive Dq (K : PySem.W.Frag) (F : Hp) : V → D → Prop
  | non : Dq K F .non .none
  | bl (b : Bool) : Dq K F (.bl b) (.bool b)
  | int (i : Int) : Dq K F (.int i) (.int i)
  | str (x : Str) : Dq K F (.str x) (.str x)
  | lst {a : Addr} {xs : List V} {ds : List D} : F a = some (.lst xs) → DqAll K F xs ds → Dq K F (.ref a) (.list ds)
  | tup {a : Addr} {xs : List V} {ds : List D} : SqP K F a xs → DqAll K F xs ds → Dq K F (.ref a) (.tuple ds)
inductive DqAll (K : PySem.W.Frag) (F : Hp) : List V → List D → Prop
  | nil : DqAll K F [] []
  | cons {v : V} {vs : List V} {d : D} {ds : List D} : Dq K F v d → DqAll K F vs ds → DqAll K F (v :: vs) (d :: ds)
end
section
variable {K : PySem.W.Frag} {F F' W W' H H' : Hp}
mutual
theorem ex_dp (e : Ex F F') : ∀ {v : V} {d : D}, Dq K F v d → Dq K F' v d
  | _, _, .non => .non
  | _, _, .bl b => .bl b
  | _, _, .int i => .int i
  | _, _, .str x => .str x
  | _, _, .lst h t => .lst (e _ _ h) (ex_dps e t)
  | _, _, .tup h t => .tup (ex_sqP e h) (ex_dps e t)
theorem ex_dps (e : Ex F F') : ∀ {vs : List V} {ds : List D}, DqAll K F vs ds → DqAll K F' vs ds
  | _, _, .nil => .nil
  | _, _, .cons h t => .cons (ex_dp e h) (ex_dps e t)
end
mutual
theorem Dq.dp : ∀ {v : V} {d : D}, Dq K F v d → Dp K F v d
  | _, _, .non => .non
  | _, _, .bl b => .bl b
  | _, _, .int i => .int i
  | _, _, .str x => .str x
  | _, _, .lst h t => .lst (.of h) (DqAll.dp t)
  | _, _, .tup h t => .tup h.sq (DqAll.dp t)
theorem DqAll.dp : ∀ {vs : List V} {ds : List D}, DqAll K F vs ds → DpAll K F vs ds
  | _, _, .nil => .nil
  | _, _, .cons h t => .cons (Dq.dp h) (DqAll.dp t)
end
theorem dps_length : ∀ {vs : List V} {ds : List D}, DqAll K F vs ds → vs.length = ds.length
  | _, _, .nil => rfl
  | _, _, .cons _ t => by rw [List.length_cons, List.length_cons, dps_length t]
theorem dps_append : ∀ {vs ws : List V} {ds es : List D}, DqAll K F vs ds → DqAll K F ws es → DqAll K F (vs ++ ws) (ds ++ es)
  | _, _, _, _, .nil, s => s
  | _, _, _, _, .cons h t, s => .cons h (dps_append t s)
theorem dps_get : ∀ {vs : List V} {ds : List D} {i : Nat} {d : D}, DqAll K F vs ds → ds[i]? = some d → ∃ v, vs[i]? = some v ∧ Dq K F v d
  | _, _, _, _, .nil, e => by simp at e
  | _, _, 0, _, .cons h t, e => by
    simp at e
    subst e
    exact ⟨_, rfl, h⟩
  | _, _, i + 1, _, .cons h t, e => by
    obtain ⟨v, h1, h2⟩ := dps_get (i := i) t (by simpa using e)
    exact ⟨v, by simpa using h1, h2⟩
/-! ### objects -/
inductive RL (K : PySem.W.Frag) (F H : Hp) : List (List D) → List Addr → Prop
  | nil : RL K F H [] []
  | cons {ds : List D} {dss : List (List D)} {p : Addr} {ps : List Addr} {vs : List V} : H p = some (.lst vs) → DqAll K F vs ds → RL K F H dss ps → RL K F H (ds :: dss) (p :: ps)
inductive RO (K : PySem.W.Frag) (F H : Hp) : Cell → Addr → List Addr → Prop
  | lst {ds : List D} {p : Addr} {vs : List V} : H p = some (.lst vs) → DqAll K F vs ds → RO K F H (.lst ds) p [p]
  | lst2 {dss : List (List D)} {p : Addr} {ps : List Addr} : H p = some (.lst (ps.map V.ref)) → RL K F H dss ps → RO K F H (.lst2 dss) p (p :: ps)
/-- the fields of an instance -/
inductive RFs (K : PySem.W.Frag) (F H : Hp) : List (Str × Fv) → List (Str × V) → List Addr → Prop
  | nil : RFs K F H [] [] []
  | d {x : Str} {e : D} {v : V} {fs : List (Str × Fv)} {vs : List (Str × V)} {P : List Addr} : Dq K F v e → RFs K F H fs vs P → RFs K F H ((x, .d e) :: fs) ((x, v) :: vs) P
  | l {x : Str} {ds : List D} {p : Addr} {ws : List V} {fs : List (Str × Fv)} {vs : List (Str × V)} {P : List Addr} : H p = some (.lst ws) → DqAll K F ws ds → RFs K F H fs vs P → RFs K F H ((x, .l ds) :: fs) ((x, .ref p) :: vs) (p :: P)
inductive RQ (K : PySem.W.Frag) (F H : Hp) : Ce → Addr → List Addr → Prop
  | lst {ds : List D} {p : Addr} {vs : List V} : H p = some (.lst vs) → DqAll K F vs ds → RQ K F H (.lst ds) p [p]
  | lst2 {dss : List (List D)} {p : Addr} {ps : List Addr} : H p = some (.lst (ps.map V.ref)) → RL K F H dss ps → RQ K F H (.lst2 dss) p (p :: ps)
  | no {p : Addr} : RQ K F H .no p []
  | pt {p : Addr} : RQ K F H (.pt p) p []
  | ins {fs : List (Str × Fv)} {vs : List (Str × V)} {C p dx : Addr} {P : List Addr} : PySem.W.nsIn K mainGlobals "Line" = some (some (.ref C)) → H p = some (.ins C dx vs) → H dx = some (.own p) → RFs K F H fs vs P → RQ K F H (.ins fs) p (p :: dx :: P)
theorem RO.rq {c : Cell} {p : Addr} {P : List Addr} (r : RO K F H c p P) : RQ K F H c.ce p P := by
  cases r with
  | lst h d => exact .lst h d
  | lst2 h r => exact .lst2 h r
/-- no frozen object -/
def NF (H : Hp) (q : Addr) : Prop := ∃ o, H q = some o ∧ ∀ ob u, o ≠ HO.frz ob u
theorem NF.lst {H : Hp} {q : Addr} {xs : List V} (h : H q = some (.lst xs)) : NF H q := ⟨_, h, fun _ _ z => nomatch z⟩
def Ag (P : List Addr) (H H' : Hp) : Prop := ∀ p ∈ P, ∀ o, H p = some o → H' p = some o
theorem RL.mv (e : Ex F F') : ∀ {dss : List (List D)} {ps : List Addr}, Ag ps H H' → RL K F H dss ps → RL K F' H' dss ps
  | _, _, _, .nil => .nil
  | _, _, g, .cons h d t => .cons (g _ List.mem_cons_self _ h) (ex_dps e d) (RL.mv e (fun p hp => g p (List.mem_cons_of_mem _ hp)) t)
theorem RO.mv {c : Cell} {p : Addr} {P : List Addr} (e : Ex F F') (g : Ag P H H') (r : RO K F H c p P) : RO K F' H' c p P := by
  cases r with
  | lst h d => exact .lst (g _ List.mem_cons_self _ h) (ex_dps e d)
  | lst2 h r => exact .lst2 (g _ List.mem_cons_self _ h) (RL.mv e (fun p hp => g p (List.mem_cons_of_mem _ hp)) r)
theorem RFs.mv (e : Ex F F') : ∀ {fs : List (Str × Fv)} {vs : List (Str × V)} {P : List Addr}, Ag P H H' → RFs K F H fs vs P → RFs K F' H' fs vs P
  | _, _, _, _, .nil => .nil
  | _, _, _, g, .d h t => .d (ex_dp e h) (RFs.mv e g t)
  | _, _, _, g, .l h dd t => .l (g _ List.mem_cons_self _ h) (ex_dps e dd) (RFs.mv e (fun p hp => g p (List.mem_cons_of_mem _ hp)) t)
theorem RQ.mv {c : Ce} {p : Addr} {P : List Addr} (e : Ex F F') (g : Ag P H H') (r : RQ K F H c p P) : RQ K F' H' c p P := by
  cases r with
  | lst h d => exact .lst (g _ List.mem_cons_self _ h) (ex_dps e d)
  | lst2 h r => exact .lst2 (g _ List.mem_cons_self _ h) (RL.mv e (fun p hp => g p (List.mem_cons_of_mem _ hp)) r)
  | no => exact .no
  | pt => exact .pt
  | ins hC h1 h2 r => exact .ins hC (g _ List.mem_cons_self _ h1) (g _ (List.mem_cons_of_mem _ List.mem_cons_self) _ h2) (r.mv e fun p hp => g p (List.mem_cons_of_mem _ (List.mem_cons_of_mem _ hp)))
theorem RL.there : ∀ {dss : List (List D)} {ps : List Addr}, RL K F H dss ps → ∀ q ∈ ps, NF H q
  | _, _, .nil, _, hq => nomatch hq
  | _, _, .cons h d t, q, hq => by
    rcases List.mem_cons.mp hq with e | hq
    · rw [e]; exact .lst h
    · exact RL.there t q hq
theorem RO.there {c : Cell} {p : Addr} {P : List Addr} (r : RO K F H c p P) : ∀ q ∈ P, NF H q := by
  intro q hq
  cases r with
  | lst h d =>
    have e : q = p := by simpa using hq
    rw [e]; exact .lst h
  | lst2 h r =>
    rcases List.mem_cons.mp hq with e | hq
    · rw [e]; exact .lst h
    · exact r.there q hq
theorem RFs.there : ∀ {fs : List (Str × Fv)} {vs : List (Str × V)} {P : List Addr}, RFs K F H fs vs P → ∀ q ∈ P, NF H q
  | _, _, _, .nil, _, hq => nomatch hq
  | _, _, _, .d h t, q, hq => RFs.there t q hq
  | _, _, _, .l h dd t, q, hq => by
    rcases List.mem_cons.mp hq with e | hq
    · rw [e]; exact .lst h
    · exact RFs.there t q hq
theorem RQ.there {c : Ce} {p : Addr} {P : List Addr} (r : RQ K F H c p P) : ∀ q ∈ P, NF H q := by
  intro q hq
  cases r with
  | lst h d =>
    have e : q = p := by simpa using hq
    rw [e]; exact .lst h
  | lst2 h r =>
    rcases List.mem_cons.mp hq with e | hq
    · rw [e]; exact .lst h
    · exact r.there q hq
  | no => cases hq
  | pt => cases hq
  | ins hC h1 h2 r =>
    rcases List.mem_cons.mp hq with e | hq
    · rw [e]; exact ⟨_, h1, fun _ _ z => nomatch z⟩
    · rcases List.mem_cons.mp hq with e | hq
      · rw [e]; exact ⟨_, h2, fun _ _ z => nomatch z⟩
      · exact r.there q hq
theorem RL.dps (e : Ex F H) : ∀ {dss : List (List D)} {ps : List Addr}, RL K F H dss ps → DqAll K H (ps.map V.ref) (dss.map .list)
  | _, _, .nil => .nil
  | _, _, .cons h d t => .cons (.lst h (ex_dps e d)) (RL.dps e t)
/-- an owned object read as data -/
theorem RO.dp {c : Cell} {p : Addr} {P : List Addr} (e : Ex F H) (r : RO K F H c p P) : Dq K H (.ref p) c.toD := by
  cases r with
  | lst h d => exact .lst h (ex_dps e d)
  | lst2 h r => exact .lst h (RL.dps e r)
/-! ### values -/
/-- a dict of whole numbers by whole numbers -/
def dEnc (kvs : List (Int × Int)) : List (Key × V) := kvs.map fun q => ((Sum.inl q.1 : Key), V.int q.2)
inductive RA (K : PySem.W.Frag) (F W H : Hp) (μ : List Addr) : A → V → List Addr → Prop
  | dat {d : D} {v : V} : Dq K F v d → RA K F W H μ (.dat d) v []
  | sn {c : Cell} {p : Addr} {P : List Addr} : RO K F W c p P → RA K F W H μ (.sn c) (.ref p) []
  | ob {c : Cell} {p : Addr} {P : List Addr} : RO K F H c p P → RA K F W H μ (.ob c) (.ref p) P
  | loc {k : Nat} {p : Addr} : μ[k]? = some p → RA K F W H μ (.loc k) (.ref p) []
  | scr {ns : List Int} {p : Addr} : SqL K F p (ns.map V.int) → RA K F W H μ (.scr ns) (.ref p) []
  | dc {kvs : List (Int × Int)} {p : Addr} : H p = some (.dK (dEnc kvs)) → RA K F W H μ (.dc kvs) (.ref p) [p]
  | zz {v : V} : RA K F W H μ .zz v []
inductive RAs (K : PySem.W.Frag) (F W H : Hp) (μ : List Addr) : List A → List V → List Addr → Prop
  | nil : RAs K F W H μ [] [] []
  | cons {a : A} {as : List A} {v : V} {vs : List V} {P P' : List Addr} : RA K F W H μ a v P → RAs K F W H μ as vs P' → RAs K F W H μ (a :: as) (v :: vs) (P ++ P')
inductive RC (K : PySem.W.Frag) (F H : Hp) : Hh → List Addr → List Addr → Prop
  | nil : RC K F H [] [] []
  | cons {c : Ce} {cs : Hh} {p : Addr} {μ P O : List Addr} : RQ K F H c p P → RC K F H cs μ O → RC K F H (c :: cs) (p :: μ) (P ++ O)
inductive RS (K : PySem.W.Frag) (F H : Hp) (μ : List Addr) : En → L2.St → List Addr → Prop
  | nil : RS K F H μ [] [] []
  | no {env : En} {σ : L2.St} {x : Option V} {O : List Addr} : RS K F H μ env σ O → RS K F H μ (none :: env) (x :: σ) O
  | so {a : A} {v : V} {env : En} {σ : L2.St} {P O : List Addr} : RA K F F H μ a v P → RS K F H μ env σ O → RS K F H μ (some a :: env) (some v :: σ) (P ++ O)
def Pre (μ μ' : List Addr) : Prop := ∃ ν, μ' = μ ++ ν
theorem Pre.refl (μ : List Addr) : Pre μ μ := ⟨[], by simp⟩
theorem Pre.trans {μ μ1 μ2 : List Addr} (a : Pre μ μ1) (b : Pre μ1 μ2) : Pre μ μ2 := by
  obtain ⟨x, rfl⟩ := a
  obtain ⟨y, rfl⟩ := b
  exact ⟨x ++ y, by rw [List.append_assoc]⟩
theorem Pre.get {μ μ' : List Addr} (a : Pre μ μ') {k : Nat} {p : Addr} (h : μ[k]? = some p) : μ'[k]? = some p := by
  obtain ⟨x, rfl⟩ := a
  obtain ⟨h1, h2⟩ := List.getElem?_eq_some_iff.mp h
  rw [List.getElem?_append_left h1]
  exact h
variable {μ μ' : List Addr}
theorem RA.mv {a : A} {v : V} {P : List Addr} (e : Ex F F') (ew : Ex W W') (g : Ag P H H') (m : Pre μ μ') (r : RA K F W H μ a v P) : RA K F' W' H' μ' a v P := by
  cases r with
  | dat h => exact .dat (ex_dp e h)
  | sn h => exact .sn (h.mv e fun p _ o q => ew p o q)
  | ob h => exact .ob (h.mv e g)
  | loc h => exact .loc (m.get h)
  | scr h => exact .scr (ex_sqL e h)
  | dc h => exact .dc (g _ List.mem_cons_self _ h)
  | zz => exact .zz
theorem Ag.left {P Q : List Addr} (g : Ag (P ++ Q) H H') : Ag P H H' := fun p hp => g p (List.mem_append_left _ hp)
theorem Ag.right {P Q : List Addr} (g : Ag (P ++ Q) H H') : Ag Q H H' := fun p hp => g p (List.mem_append_right _ hp)
theorem RAs.mv (e : Ex F F') (ew : Ex W W') (m : Pre μ μ') : ∀ {as : List A} {vs : List V} {P : List Addr}, Ag P H H' → RAs K F W H μ as vs P → RAs K F' W' H' μ' as vs P
  | _, _, _, _, .nil => .nil
  | _, _, _, g, .cons h t => .cons (h.mv e ew g.left m) (RAs.mv e ew m g.right t)
theorem RC.mv (e : Ex F F') : ∀ {h : Hh} {μ O : List Addr}, Ag O H H' → RC K F H h μ O → RC K F' H' h μ O
  | _, _, _, _, .nil => .nil
  | _, _, _, g, .cons r t => .cons (r.mv e g.left) (RC.mv e g.right t)
theorem RS.mv (e : Ex F F') (m : Pre μ μ') : ∀ {env : En} {σ : L2.St} {O : List Addr}, Ag O H H' → RS K F H μ env σ O → RS K F' H' μ' env σ O
  | _, _, _, _, .nil => .nil
  | _, _, _, g, .no t => .no (RS.mv e m g t)
  | _, _, _, g, .so r t => .so (r.mv e e g.left m) (RS.mv e m g.right t)
theorem RA.there {a : A} {v : V} {P : List Addr} (r : RA K F W H μ a v P) : ∀ q ∈ P, NF H q := by
  intro q hq
  cases r with
  | dat h => cases hq
  | sn h => cases hq
  | ob h => exact h.there q hq
  | loc h => cases hq
  | scr h => cases hq
  | dc h =>
    cases hq with
    | head => exact ⟨_, h, fun _ _ z => nomatch z⟩
    | tail _ z => cases z
  | zz => cases hq
theorem RAs.there : ∀ {as : List A} {vs : List V} {P : List Addr}, RAs K F W H μ as vs P → ∀ q ∈ P, NF H q
  | _, _, _, .nil, _, hq => nomatch hq
  | _, _, _, .cons h t, q, hq => (List.mem_append.mp hq).elim (h.there q) (RAs.there t q)
theorem RC.there : ∀ {h : Hh} {μ O : List Addr}, RC K F H h μ O → ∀ q ∈ O, NF H q
  | _, _, _, .nil, _, hq => nomatch hq
  | _, _, _, .cons h t, q, hq => (List.mem_append.mp hq).elim (h.there q) (RC.there t q)
theorem RS.there : ∀ {env : En} {σ : L2.St} {O : List Addr}, RS K F H μ env σ O → ∀ q ∈ O, NF H q
  | _, _, _, .nil, _, hq => nomatch hq
  | _, _, _, .no t, q, hq => RS.there t q hq
  | _, _, _, .so h t, q, hq => (List.mem_append.mp hq).elim (h.there q) (RS.there t q)
/-- a value read as data -/
theorem RA.dp {a : A} {v : V} {P : List Addr} {d : D} (e : Ex F H) (ef : Ex F W) (ew : Ex W H) (r : RA K F W H μ a v P) (h : a.d = some d) : Dq K H v d := by
  cases r with
  | dat r => cases h; exact ex_dp e r
  | sn r => cases h; exact ex_dp ew (r.dp ef)
  | ob r => cases h; exact r.dp e
  | loc r => cases h
  | scr r => cases h
  | dc r => cases h
  | zz => cases h
end
end Mi
/-! Mini: the functional readings as readings of HandS. -/
namespace Mi
open PySem L2
/-- the slots' own objects lie in T, what is owned beside the cells -/
def Slots (K : PySem.W.Frag) (F H : Hp) (μ T : List Addr) (env : En) (σ : L2.St) : Prop := ∃ Os : List Addr, (∀ q ∈ Os, q ∈ T) ∧ Os.Nodup ∧ RS K F H μ env σ Os
structure Sim (K : PySem.W.Frag) (H : Hp) (σ : L2.St) (μ Oc T : List Addr) (env : En) (h : Hh) : Prop where
  nd : (Oc ++ T).Nodup
  cells : RC K (mns H (Oc ++ T)) H h μ Oc
  slots : Slots K (mns H (Oc ++ T)) H μ T env σ
  live : ∀ q ∈ T, NF H q
structure Gr (Oc : List Addr) (H : Hp) (μ Oc' : List Addr) (H' : Hp) (μ' : List Addr) : Prop where
  keep : ∀ q o, q ∉ Oc → H q = some o → H' q = some o
  new : ∀ q ∈ Oc', q ∈ Oc ∨ H q = none
  dom : ∀ q, H' q = none → H q = none
  pre : Pre μ μ'
theorem Gr.refl (Oc : List Addr) (H : Hp) (μ : List Addr) : Gr Oc H μ Oc H μ := ⟨fun _ _ _ h => h, fun _ h => .inl h, fun _ h => h, Pre.refl μ⟩
theorem Ex.dom {H H' : Hp} (e : Ex H H') {q : Addr} (h : H' q = none) : H q = none := by
  cases z : H q with
  | none => rfl
  | some o => rw [e q o z] at h; cases h
theorem Gr.ex {Oc : List Addr} {H H' : Hp} {μ : List Addr} (e : Ex H H') : Gr Oc H μ Oc H' μ := ⟨fun q o _ h => e q o h, fun _ h => .inl h, fun _ h => e.dom h, Pre.refl μ⟩
theorem Gr.trans {Oc O1 O2 μ μ1 μ2 : List Addr} {H H1 H2 : Hp} (a : Gr Oc H μ O1 H1 μ1) (b : Gr O1 H1 μ1 O2 H2 μ2) : Gr Oc H μ O2 H2 μ2 where
  keep := fun q o hq e => b.keep q o (fun z => by
    rcases a.new q z with z | z
    · exact hq z
    · rw [e] at z; cases z) (a.keep q o hq e)
  new := fun q hq => by
    rcases b.new q hq with z | z
    · exact a.new q z
    · exact .inr (a.dom q z)
  dom := fun q h => a.dom q (b.dom q h)
  pre := a.pre.trans b.pre
/-- behind an expression (or several) -/
structure PsA (K : PySem.W.Frag) (σ : L2.St) (μ Oc T : List Addr) (env : En) (H : Hp) (as : List A) (h' : Hh) (vs : List V) (H' : Hp) (μ' Oc' P : List Addr) : Prop where
  gr : Gr Oc H μ Oc' H' μ'
  fresh : ∀ q ∈ P, H q = none
  nd : (Oc' ++ (T ++ P)).Nodup
  cells : RC K (mns H' (Oc' ++ (T ++ P))) H' h' μ' Oc'
  slots : Slots K (mns H' (Oc' ++ (T ++ P))) H' μ' T env σ
  val : RAs K (mns H' (Oc' ++ (T ++ P))) (mns H' Oc') H' μ' as vs P
  live : ∀ q ∈ T, NF H' q
/-- what an exception leaves -/
def PsX (K : PySem.W.Frag) (Γ : Nat → Addr) (E : XK) (Oc T : List Addr) (H : Hp) (μ : List Addr) (c : Nat) (h' : Hh) : Prop :=
  ∀ H' μ' Oc', Gr Oc H μ Oc' H' μ' → (Oc' ++ T).Nodup → RC K (mns H' (Oc' ++ T)) H' h' μ' Oc' → E (.ref (Γ c)) none H'
section
variable (K : PySem.W.Frag) (Γ : Nat → Addr) (E : XK)
def GoA (f : Res (List A)) (σ : L2.St) (H : Hp) (μ Oc T : List Addr) (env : En) (Q : List V → Hp → Prop) : Prop := match f with
  | .ok as h' => ∀ vs H' μ' Oc' P, PsA K σ μ Oc T env H as h' vs H' μ' Oc' P → Q vs H'
  | .exc c h' => PsX K Γ E Oc T H μ c h'
  | .er => False
def GoE (f : Res A) (σ : L2.St) (H : Hp) (μ Oc T : List Addr) (env : En) (Q : VK) : Prop := match f with
  | .ok a h' => ∀ v H' μ' Oc' P, PsA K σ μ Oc T env H [a] h' [v] H' μ' Oc' P → Q v H'
  | .exc c h' => PsX K Γ E Oc T H μ c h'
  | .er => False
def GoT (f : Res Bool) (σ : L2.St) (H : Hp) (μ Oc T : List Addr) (env : En) (Q : Bool → Hp → Prop) : Prop := match f with
  | .ok b h' => ∀ H' μ' Oc', PsA K σ μ Oc T env H [] h' [] H' μ' Oc' [] → Q b H'
  | .exc c h' => PsX K Γ E Oc T H μ c h'
  | .er => False
def tA (f : AF) : TA := fun σ H Q => ∃ μ Oc T env h, Sim K H σ μ Oc T env h ∧ GoA K Γ E (f env h) σ H μ Oc T env Q
def tE (f : EF) : TE := fun σ H Q => ∃ μ Oc T env h, Sim K H σ μ Oc T env h ∧ GoE K Γ E (f env h) σ H μ Oc T env Q
def tT (f : TF) : TT := fun σ H Q => ∃ μ Oc T env h, Sim K H σ μ Oc T env h ∧ GoT K Γ E (f env h) σ H μ Oc T env Q
end
/-! ### weakening of the judgements -/
theorem pe_imp {X : Cx} {e : Expr} {t t' : TE} (h : PE X e t) (i : ∀ σ H Q, t' σ H Q → t σ H Q) : PE X e t' := ⟨fun pins s σ H Q I q => h.run pins s σ H Q I (i σ H Q q)⟩
theorem pt_imp {X : Cx} {e : Expr} {t t' : TT} (h : PT X e t) (i : ∀ σ H Q, t' σ H Q → t σ H Q) : PT X e t' := ⟨fun pins s σ H Q I q => h.run pins s σ H Q I (i σ H Q q)⟩
theorem pw_imp {X : Cx} {e : Expr} {t t' : TT} (h : PW X e t) (i : ∀ σ H Q, t' σ H Q → t σ H Q) : PW X e t' := ⟨fun wh pins s σ H Q I q => h.run wh pins s σ H Q I (i σ H Q q)⟩
theorem pa_imp {X : Cx} {es : List Expr} {t t' : TA} (h : PA X es t) (i : ∀ σ H Q, t' σ H Q → t σ H Q) : PA X es t' := ⟨fun p pins s σ H Q I q => h.run p pins s σ H Q I (i σ H Q q)⟩
theorem ps_imp {X : Cx} {st : Stmt} {t t' : TS} (h : PS X st t) (i : ∀ D σ H, t' D σ H → t D σ H) : PS X st t' := ⟨fun pins s σ H D I q => h.run pins s σ H D I (i D σ H q)⟩
theorem pss_imp {X : Cx} {st : List Stmt} {t t' : TS} (h : PSs X st t) (i : ∀ D σ H, t' D σ H → t D σ H) : PSs X st t' := ⟨fun pins s σ H D I q => h.run pins s σ H D I (i D σ H q)⟩
/-! ### how states go on -/
section
variable {K : PySem.W.Frag} {Γ : Nat → Addr} {E : XK} {σ : L2.St} {μ μ1 μ2 Oc Oc1 Oc2 T T' P P1 P2 : List Addr} {env : En} {H H1 H2 F F' : Hp} {h h1 h2 : Hh}
theorem nd_l {l r : List Addr} (h : (l ++ r).Nodup) : l.Nodup := (List.nodup_append.mp h).1
theorem nd_r {l r : List Addr} (h : (l ++ r).Nodup) : r.Nodup := (List.nodup_append.mp h).2.1
theorem nd_ne {l r : List Addr} (h : (l ++ r).Nodup) {q : Addr} (a : q ∈ l) : q ∉ r := fun b => (List.nodup_append.mp h).2.2 q a q b rfl
theorem nd_ne' {l r : List Addr} (h : (l ++ r).Nodup) {q : Addr} (a : q ∈ r) : q ∉ l := fun b => nd_ne h b a
theorem nd_mk {l r : List Addr} (a : l.Nodup) (b : r.Nodup) (c : ∀ q, q ∈ l → q ∈ r → False) : (l ++ r).Nodup :=
  List.nodup_append.mpr ⟨a, b, fun x hx y hy e => c x hx (e ▸ hy)⟩
theorem Slots.mv (s : Slots K F H μ T env σ) (e : Ex F F') (m : Pre μ μ1) (g : Ag T H H1) (hT : ∀ q ∈ T, q ∈ T') : Slots K F' H1 μ1 T' env σ := by
  obtain ⟨Os, h1, h2, h3⟩ := s
  exact ⟨Os, fun q hq => hT q (h1 q hq), h2, h3.mv e m fun q hq => g q (h1 q hq)⟩
/-- the state itself; the values that came stay owned -/
theorem PsA.sim {as : List A} {vs : List V} (p : PsA K σ μ Oc T env H as h1 vs H1 μ1 Oc1 P) : Sim K H1 σ μ1 Oc1 (T ++ P) env h1 :=
  ⟨p.nd, p.cells, p.slots.mv (Ex.refl _) (Pre.refl _) (fun _ _ _ q => q) fun q hq => List.mem_append_left _ hq, fun q hq => (List.mem_append.mp hq).elim (p.live q) (p.val.there q)⟩
/-- some of what is owned is owned no more -/
theorem Sim.less (s : Sim K H σ μ Oc T env h) (hn : T'.Nodup) (hT : ∀ q ∈ T', q ∈ T) (hs : Slots K (mns H (Oc ++ T)) H μ T' env σ) : Sim K H σ μ Oc T' env h := by
  have e : Ex (mns H (Oc ++ T)) (mns H (Oc ++ T')) := mns_mono fun q hq => (List.mem_append.mp hq).elim (List.mem_append_left _) fun z => List.mem_append_right _ (hT q z)
  exact ⟨nd_mk (nd_l s.nd) hn fun q a b => nd_ne s.nd a (hT q b), s.cells.mv e fun _ _ _ q => q, hs.mv e (Pre.refl _) (fun _ _ _ q => q) fun _ q => q, fun q hq => s.live q (hT q hq)⟩
/-- at the start nothing has happened -/
theorem Sim.psA (s : Sim K H σ μ Oc T env h) : PsA K σ μ Oc T env H [] h [] H μ Oc [] where
  gr := Gr.refl _ _ _
  fresh := fun _ hq => nomatch hq
  nd := by simpa using s.nd
  cells := by simpa using s.cells
  slots := by simpa using s.slots
  val := RAs.nil
  live := s.live
/-- from one frozen part to the next one -/
theorem fr_step (g : Gr Oc1 H1 μ1 Oc2 H2 μ2) (hT : ∀ q ∈ T', q ∈ T ∨ H1 q = none) : Ex (mns H1 (Oc1 ++ T)) (mns H2 (Oc2 ++ T')) :=
  ex_mns fun q o hq e => by
    have n1 : q ∉ Oc1 := fun z => hq (List.mem_append_left _ z)
    refine ⟨g.keep q o n1 e, fun z => ?_⟩
    rcases List.mem_append.mp z with z | z
    · rcases g.new q z with z | z
      · exact n1 z
      · rw [e] at z; cases z
    · rcases hT q z with z | z
      · exact hq (List.mem_append_right _ z)
      · rw [e] at z; cases z
theorem w_step (g : Gr Oc1 H1 μ1 Oc2 H2 μ2) : Ex (mns H1 Oc1) (mns H2 Oc2) := by
  have := fr_step (T := []) (T' := []) g (fun _ h => nomatch h)
  simpa using this
theorem ag_step (g : Gr Oc1 H1 μ1 Oc2 H2 μ2) (nd : (Oc1 ++ T).Nodup) {S : List Addr} (hS : ∀ q ∈ S, q ∈ T) : Ag S H1 H2 := fun q hq o e =>
  g.keep q o (nd_ne' nd (hS q hq)) e
theorem RAs.app {W : Hp} : ∀ {as bs : List A} {vs ws : List V} {P P' : List Addr}, RAs K F W H μ as vs P → RAs K F W H μ bs ws P' → RAs K F W H μ (as ++ bs) (vs ++ ws) (P ++ P')
  | _, _, _, _, _, _, .nil, s => s
  | _, _, _, _, _, _, .cons h t, s => by
    rw [List.append_assoc]
    exact .cons h (RAs.app t s)
/-- values so far, then further ones -/
theorem PsA.app {as bs : List A} {vs ws : List V} (p : PsA K σ μ Oc T env H as h1 vs H1 μ1 Oc1 P1) (q : PsA K σ μ1 Oc1 (T ++ P1) env H1 bs h2 ws H2 μ2 Oc2 P2) :
    PsA K σ μ Oc T env H (as ++ bs) h2 (vs ++ ws) H2 μ2 Oc2 (P1 ++ P2) := by
  have eT : Oc2 ++ (T ++ (P1 ++ P2)) = Oc2 ++ ((T ++ P1) ++ P2) := by rw [List.append_assoc T]
  have e1 : Ex (mns H1 (Oc1 ++ (T ++ P1))) (mns H2 (Oc2 ++ (T ++ (P1 ++ P2)))) := by
    rw [eT]
    exact fr_step q.gr fun x hx => (List.mem_append.mp hx).elim .inl fun z => .inr (q.fresh x z)
  refine ⟨p.gr.trans q.gr, fun x hx => ?_, by rw [eT]; exact q.nd, by rw [eT]; exact q.cells, ?_, ?_, fun x hx => q.live x (List.mem_append_left _ hx)⟩
  · rcases List.mem_append.mp hx with z | z
    · exact p.fresh x z
    · exact p.gr.dom x (q.fresh x z)
  · exact p.slots.mv e1 q.gr.pre (ag_step q.gr p.nd fun x hx => List.mem_append_left _ hx) fun _ z => z
  · refine RAs.app (p.val.mv e1 (w_step q.gr) q.gr.pre (ag_step q.gr p.nd fun x hx => List.mem_append_right _ hx)) ?_
    rw [eT]
    exact q.val
/-! ### arguments -/
def fNil : AF := fun _ h => .ok [] h
def fCons (f : EF) (g : AF) : AF := fun env h => (f env h).bind fun a h1 => (g env h1).bind fun as h2 => .ok (a :: as) h2
theorem PsX.step {as : List A} {vs : List V} {c : Nat} {h' : Hh} (p : PsA K σ μ Oc T env H as h1 vs H1 μ1 Oc1 P) (x : PsX K Γ E Oc T H μ c h') : PsX K Γ E Oc1 (T ++ P) H1 μ1 c h' := by
  intro H' μ' Oc' g n r
  have e : Ex (mns H' (Oc' ++ (T ++ P))) (mns H' (Oc' ++ T)) := mns_mono fun q hq => (List.mem_append.mp hq).elim (List.mem_append_left _) fun z => List.mem_append_right _ (List.mem_append_left _ z)
  refine x H' μ' Oc' (p.gr.trans g) ?_ (r.mv e fun _ _ _ q => q)
  rw [← List.append_assoc] at n
  exact nd_l n
theorem tA_nil {Q : List V → Hp → Prop} : tA K Γ E fNil σ H Q → tNil σ H Q := by
  rintro ⟨μ, Oc, T, env, h, s, g⟩
  exact g [] H μ Oc [] s.psA
theorem tA_cons {f : EF} {g : AF} {Q : List V → Hp → Prop} : tA K Γ E (fCons f g) σ H Q → tCons (tE K Γ E f) (tA K Γ E g) σ H Q := by
  rintro ⟨μ, Oc, T, env, h, s, go⟩
  refine ⟨μ, Oc, T, env, h, s, ?_⟩
  unfold fCons at go
  cases hf : f env h with
  | er => rw [hf] at go; exact go.elim
  | exc c h1 => rw [hf] at go; exact go
  | ok a h1 =>
    rw [hf] at go
    intro v H1 μ1 Oc1 P1 p
    refine ⟨μ1, Oc1, T ++ P1, env, h1, p.sim, ?_⟩
    change GoA K Γ E ((g env h1).bind fun as h2 => .ok (a :: as) h2) σ H μ Oc T env Q at go
    cases hg : g env h1 with
    | er => rw [hg] at go; exact go.elim
    | exc c h2 => rw [hg] at go; exact PsX.step p go
    | ok as h2 =>
      rw [hg] at go
      intro vs H2 μ2 Oc2 P2 q
      exact go (v :: vs) H2 μ2 Oc2 (P1 ++ P2) (p.app q)
end
/-! ### operations on values that leave the cells -/
def Prim (K : PySem.W.Frag) (r : List V → Hp → VK → Prop) (g : List A → Hh → Option A) : Prop :=
  ∀ (H : Hp) (μ Oc T P : List Addr) (h : Hh) (as : List A) (vs : List V) (a : A) (Q : VK),
    (Oc ++ (T ++ P)).Nodup → RC K (mns H (Oc ++ (T ++ P))) H h μ Oc → RAs K (mns H (Oc ++ (T ++ P))) (mns H Oc) H μ as vs P → (∀ q ∈ T, NF H q) → g as h = some a →
    (∀ v H' P', Ex H H' → (∀ q ∈ P', q ∈ P ∨ H q = none) → P'.Nodup → RA K (mns H' (Oc ++ (T ++ P'))) (mns H' Oc) H' μ a v P' → Q v H') → r vs H Q
def optR {α : Type} (o : Option α) (h : Hh) : Res α := match o with
  | some a => .ok a h
  | none => .er
def fPrim (g : List A → Hh → Option A) (fs : AF) : EF := fun env h => (fs env h).bind fun as h1 => optR (g as h1) h1
section
variable {K : PySem.W.Frag} {Γ : Nat → Addr} {E : XK} {σ : L2.St} {μ μ1 Oc Oc1 T P : List Addr} {env : En} {H H1 : Hp} {h h1 : Hh}
theorem PsA.prim {as : List A} {vs : List V} {a : A} {v : V} {H' : Hp} {P' : List Addr} (p : PsA K σ μ Oc T env H as h1 vs H1 μ1 Oc1 P) (e : Ex H1 H') (n1 : ∀ q ∈ P', q ∈ P ∨ H1 q = none) (n2 : P'.Nodup)
    (ra : RA K (mns H' (Oc1 ++ (T ++ P'))) (mns H' Oc1) H' μ1 a v P') : PsA K σ μ Oc T env H [a] h1 [v] H' μ1 Oc1 P' := by
  have g : Gr Oc1 H1 μ1 Oc1 H' μ1 := Gr.ex e
  have fr : Ex (mns H1 (Oc1 ++ (T ++ P))) (mns H' (Oc1 ++ (T ++ P'))) := fr_step g fun q hq => by
    rcases List.mem_append.mp hq with z | z
    · exact .inl (List.mem_append_left _ z)
    · exact (n1 q z).imp (List.mem_append_right _) id
  have nt : (Oc1 ++ T).Nodup := by
    have := p.nd
    rw [← List.append_assoc] at this
    exact nd_l this
  refine ⟨p.gr.trans g, fun q hq => ?_, ?_, p.cells.mv fr fun q _ o z => e q o z, p.slots.mv fr (Pre.refl _) (fun q _ o z => e q o z) fun _ z => z, ?_, fun q hq => ?_⟩
  · rcases n1 q hq with z | z
    · exact p.fresh q z
    · exact p.gr.dom q z
  · rw [← List.append_assoc]
    refine nd_mk nt n2 fun q a b => ?_
    rcases n1 q b with z | z
    · have := p.nd
      rw [← List.append_assoc] at this
      exact nd_ne this a z
    · rcases List.mem_append.mp a with w | w
      · obtain ⟨o, ho, _⟩ := p.cells.there q w
        rw [ho] at z; cases z
      · obtain ⟨o, ho, _⟩ := p.live q w
        rw [ho] at z; cases z
  · have := RAs.cons ra RAs.nil
    rw [List.append_nil] at this
    exact this
  · obtain ⟨o, ho, nf⟩ := p.live q hq
    exact ⟨o, e q o ho, nf⟩
theorem tE_prim {r : List V → Hp → VK → Prop} {g : List A → Hh → Option A} {fs : AF} {Q : VK} (hp : Prim K r g) : tE K Γ E (fPrim g fs) σ H Q → tCB r (tA K Γ E fs) σ H Q := by
  rintro ⟨μ, Oc, T, env, h, s, go⟩
  refine ⟨μ, Oc, T, env, h, s, ?_⟩
  unfold fPrim at go
  cases hf : fs env h with
  | er => rw [hf] at go; exact go.elim
  | exc c h1 => rw [hf] at go; exact go
  | ok as h1 =>
    rw [hf] at go
    intro vs H1 μ1 Oc1 P1 p
    change GoE K Γ E (optR (g as h1) h1) σ H μ Oc T env Q at go
    cases hg : g as h1 with
    | none => rw [hg] at go; exact go.elim
    | some a =>
      rw [hg] at go
      exact hp H1 μ1 Oc1 T P1 h1 as vs a Q p.nd p.cells p.val p.live hg fun v H' P' e n1 n2 ra => go v H' μ1 Oc1 P' (p.prim e n1 n2 ra)
/-- of two operands -/
def r2L (r : R2) : List V → Hp → VK → Prop := fun vs H Q => ∃ x y, vs = [x, y] ∧ r x y H Q
def r1L (r : V → Hp → VK → Prop) : List V → Hp → VK → Prop := fun vs H Q => ∃ x, vs = [x] ∧ r x H Q
theorem tE_mono {f : EF} {Q Q' : VK} (i : ∀ v H', Q v H' → Q' v H') : tE K Γ E f σ H Q → tE K Γ E f σ H Q' := by
  rintro ⟨μ, Oc, T, env, h, s, go⟩
  refine ⟨μ, Oc, T, env, h, s, ?_⟩
  cases hf : f env h with
  | er => rw [hf] at go; exact go.elim
  | exc c h1 => rw [hf] at go; exact go
  | ok a h1 => rw [hf] at go; exact fun v H' μ' Oc' P p => i _ _ (go v H' μ' Oc' P p)
theorem tE_op {r : R2} {g : List A → Hh → Option A} {fa fb : EF} {Q : VK} (hp : Prim K (r2L r) g) (hq : tE K Γ E (fPrim g (fCons fa (fCons fb fNil))) σ H Q) : tOp r (tE K Γ E fa) (tE K Γ E fb) σ H Q := by
  have h1 := tA_cons (tE_prim hp hq)
  refine tE_mono (fun x H1 q1 => ?_) h1
  have h2 := tA_cons q1
  refine tE_mono (fun y H2 q2 => ?_) h2
  obtain ⟨x', y', e, q⟩ := tA_nil q2
  cases e
  exact q
theorem tE_un {r : V → Hp → VK → Prop} {g : List A → Hh → Option A} {fa : EF} {Q : VK} (hp : Prim K (r1L r) g) (hq : tE K Γ E (fPrim g (fCons fa fNil)) σ H Q) : tUn r (tE K Γ E fa) σ H Q := by
  refine tE_mono (fun x H1 q1 => ?_) (tA_cons (tE_prim hp hq))
  obtain ⟨x', e, q⟩ := tA_nil q1
  cases e
  exact q
end
section
variable {X : Cx} {Γ : Nat → Addr} {E : XK}
theorem a_nil : PA X [] (tA X.K Γ E fNil) := pa_imp pa_nil fun _ _ _ => tA_nil
theorem a_cons {e : Expr} {es : List Expr} {f : EF} {g : AF} (h : PE X e (tE X.K Γ E f)) (t : PA X es (tA X.K Γ E g)) (hs : starEach (e :: es) X.env = (false, eval e X.env) :: starEach es X.env := by rfl) : PA X (e :: es) (tA X.K Γ E (fCons f g)) :=
  pa_imp (pa_cons h t hs) fun _ _ _ => tA_cons
theorem e_op {op : Operator} {r : R2} {a b : Expr} {pos : Pos} {g : List A → Hh → Option A} {fa fb : EF} (ho : OpR X (binaryOp op) r) (hp : Prim X.K (r2L r) g) (ha : PE X a (tE X.K Γ E fa)) (hb : PE X b (tE X.K Γ E fb)) :
    PE X (.BinOp a op b pos) (tE X.K Γ E (fPrim g (fCons fa (fCons fb fNil)))) := pe_imp (pe_op ho ha hb) fun _ _ _ => tE_op hp
theorem e_cmp {op : CmpOp} {r : R2} {a b : Expr} {pos : Pos} {g : List A → Hh → Option A} {fa fb : EF} (ho : OpR X (compareOp op) r) (hp : Prim X.K (r2L r) g) (ha : PE X a (tE X.K Γ E fa)) (hb : PE X b (tE X.K Γ E fb)) (hm : behindInMarks op b = false) :
    PE X (.Compare a [op] [b] pos) (tE X.K Γ E (fPrim g (fCons fa (fCons fb fNil)))) := pe_imp (pe_cmpR ho ha hb hm) fun _ _ _ => tE_op hp
theorem e_un {op : UnaryOp} {r : V → Hp → VK → Prop} {a : Expr} {pos : Pos} {g : List A → Hh → Option A} {fa : EF} (ho : UnR X (unaryOp op) r) (hp : Prim X.K (r1L r) g) (ha : PE X a (tE X.K Γ E fa)) :
    PE X (.UnaryOp op a pos) (tE X.K Γ E (fPrim g (fCons fa fNil))) := pe_imp (pe_un ho ha) fun _ _ _ => tE_un hp
end
end Mi
/-! Mini: expressions. -/
namespace Mi
open PySem L2
/-! ### names, constants -/
def rdV : A → A
  | .ob c => .sn c
  | .dc _ => .zz
  | a => a
def fVar (i : Nat) : EF := fun env h => match env[i]? with
  | some (some a) => .ok (rdV a) h
  | _ => .er
def fC (d : D) : EF := fun _ h => .ok (.dat d) h
section
variable {K : PySem.W.Frag} {Γ : Nat → Addr} {E : XK} {σ : L2.St} {μ μ1 Oc Oc1 T P : List Addr} {env : En} {H H1 F W : Hp} {h h1 : Hh}
theorem RS.get : ∀ {env : En} {σ : L2.St} {O : List Addr} {i : Nat} {a : A}, RS K F H μ env σ O → env[i]? = some (some a) → ∃ v P, σ[i]? = some (some v) ∧ RA K F F H μ a v P ∧ ∀ q ∈ P, q ∈ O
  | _, _, _, _, _, .nil, e => by simp at e
  | _, _, _, 0, _, .no t, e => by simp at e
  | _, _, _, 0, _, .so r t, e => by
    simp at e
    subst e
    exact ⟨_, _, rfl, r, fun q hq => List.mem_append_left _ hq⟩
  | _, _, _, i + 1, _, .no t, e => by
    obtain ⟨v, P, h1, h2, h3⟩ := RS.get (i := i) t (by simpa using e)
    exact ⟨v, P, by simpa using h1, h2, h3⟩
  | _, _, _, i + 1, _, .so r t, e => by
    obtain ⟨v, P, h1, h2, h3⟩ := RS.get (i := i) t (by simpa using e)
    exact ⟨v, P, by simpa using h1, h2, fun q hq => List.mem_append_right _ (h3 q hq)⟩
theorem one_val {a : A} {v : V} {P : List Addr} (r : RA K F W H μ a v P) : RAs K F W H μ [a] [v] P := by
  have := RAs.cons r RAs.nil
  rw [List.append_nil] at this
  exact this
/-- a value that needs nothing new -/
theorem Sim.val {a : A} {v : V} (s : Sim K H σ μ Oc T env h) (r : RA K (mns H (Oc ++ T)) (mns H Oc) H μ a v []) : PsA K σ μ Oc T env H [a] h [v] H μ Oc [] := by
  have p := s.psA
  refine ⟨p.gr, p.fresh, p.nd, p.cells, p.slots, ?_, p.live⟩
  rw [List.append_nil]
  exact one_val r
theorem tE_var {i : Nat} {Q : VK} : tE K Γ E (fVar i) σ H Q → tVar i σ H Q := by
  rintro ⟨μ, Oc, T, env, h, s, go⟩
  unfold fVar at go
  split at go
  · rename_i a ha
    obtain ⟨Os, h1, h2, h3⟩ := s.slots
    obtain ⟨v, P, e1, e2, e3⟩ := h3.get ha
    refine ⟨v, e1, go v H μ Oc [] (s.val ?_)⟩
    have fw : Ex (mns H (Oc ++ T)) (mns H Oc) := mns_mono fun q hq => List.mem_append_left _ hq
    cases e2 with
    | dat r => exact .dat r
    | sn r => exact .sn (r.mv (Ex.refl _) fun q _ o z => fw q o z)
    | ob r => exact .sn (r.mv (Ex.refl _) fun q hq o z => mns_some.mpr ⟨nd_ne' s.nd (h1 q (e3 q hq)), z⟩)
    | loc r => exact .loc r
    | scr r => exact .scr r
    | dc r => exact .zz
    | zz => exact .zz
  · exact go.elim
theorem tE_C {d : D} {v : V} {Q : VK} (hd : ∀ F, Dq K F v d) : tE K Γ E (fC d) σ H Q → tC v σ H Q := by
  rintro ⟨μ, Oc, T, env, h, s, go⟩
  exact go v H μ Oc [] (s.val (.dat (hd _)))
end
section
variable {X : Cx} {Γ : Nat → Addr} {E : XK} {pos : Pos}
theorem e_var (i : Nat) {x : Str} (hN : X.N[i]? = some x := by rfl) (hv : Vis X.env.scope x := by first | exact Or.inl rfl | exact Or.inr (Or.inl rfl) | exact Or.inr (Or.inr rfl)) (hd : (x == ("__debug__" : Str)) = false := by decide)
    (hcd : (x == ("__classdict__" : Str)) = false := by decide) : PE X (.Name x pos) (tE X.K Γ E (fVar i)) := pe_imp (pe_var hN hv hd hcd) fun _ _ _ => tE_var
theorem e_int {i : Int} {j : Nat} : PE X (.Constant (.int i) j pos) (tE X.K Γ E (fC (.int i))) := pe_imp pe_int fun _ _ _ => tE_C fun _ => .int i
theorem e_bl {b : Bool} {j : Nat} : PE X (.Constant (.bool b) j pos) (tE X.K Γ E (fC (.bool b))) := pe_imp pe_bl fun _ _ _ => tE_C fun _ => .bl b
theorem e_non {j : Nat} : PE X (.Constant .none j pos) (tE X.K Γ E (fC .none)) := pe_imp pe_non fun _ _ _ => tE_C fun _ => .non
theorem e_str {x : Str} {j : Nat} : PE X (.Constant (.str x) j pos) (tE X.K Γ E (fC (.str x))) := pe_imp pe_str fun _ _ _ => tE_C fun _ => .str x
theorem e_glob {x : Str} {v : V} {u : Value} (d : D) (hg : Gl X x) (hm : X.mg x = some u) (r : RelV v u) (hd : ∀ F, Dq X.K F v d) (hdb : (x == ("__debug__" : Str)) = false := by decide) : PE X (.Name x pos) (tE X.K Γ E (fC d)) :=
  pe_imp (pe_glob hg hm r hdb) fun _ _ _ => tE_C hd
end
/-! ### tests -/
def A.b : A → Option Bool
  | .dat (.bool b) => some b
  | _ => none
def onB {α : Type} (a : A) (k : Bool → Res α) : Res α := match a.b with
  | some b => k b
  | none => .er
theorem A.of_b {a : A} {b : Bool} (h : a.b = some b) : a = .dat (.bool b) := by
  unfold A.b at h
  split at h
  · cases h; rfl
  · cases h
def fTest (f : EF) : TF := fun env h => (f env h).bind fun a h1 => onB a fun b => .ok b h1
def fAndT (f g : TF) : TF := fun env h => (f env h).bind fun b h1 => if b then g env h1 else .ok false h1
def fOrT (f g : TF) : TF := fun env h => (f env h).bind fun b h1 => if b then .ok true h1 else g env h1
def fNotT (f : TF) : TF := fun env h => (f env h).bind fun b h1 => .ok (!b) h1
def fIfE (t : TF) (f g : EF) : EF := fun env h => (t env h).bind fun b h1 => if b then f env h1 else g env h1
def fAndV (f g : EF) : EF := fun env h => (f env h).bind fun a h1 => onB a fun b => if b then g env h1 else .ok (.dat (.bool false)) h1
def fOrV (f g : EF) : EF := fun env h => (f env h).bind fun a h1 => onB a fun b => if b then .ok (.dat (.bool true)) h1 else g env h1
def fNotV (f : EF) : EF := fun env h => (f env h).bind fun a h1 => onB a fun b => .ok (.dat (.bool (!b))) h1
section
variable {K : PySem.W.Frag} {Γ : Nat → Addr} {E : XK} {σ : L2.St} {μ μ1 μ2 Oc Oc1 Oc2 T P P2 : List Addr} {env : En} {H H1 H2 F W : Hp} {h h1 h2 : Hh}
/-- a bool came -/
theorem bool_val {v : V} {b : Bool} {P : List Addr} (r : RAs K F W H μ [.dat (.bool b)] [v] P) : v = .bl b := by
  cases r with
  | cons r t =>
    cases r with
    | dat r => cases r; rfl
/-- the values behind a test are dropped -/
theorem PsA.drop {as : List A} {vs : List V} (p : PsA K σ μ Oc T env H as h1 vs H1 μ1 Oc1 P) : PsA K σ μ Oc T env H [] h1 [] H1 μ1 Oc1 [] := by
  have e : Ex (mns H1 (Oc1 ++ (T ++ P))) (mns H1 (Oc1 ++ (T ++ []))) := mns_mono fun q hq => by
    rw [List.append_nil] at hq
    exact (List.mem_append.mp hq).elim (List.mem_append_left _) fun z => List.mem_append_right _ (List.mem_append_left _ z)
  refine ⟨p.gr, (fun _ z => nomatch z), ?_, p.cells.mv e fun _ _ _ q => q, p.slots.mv e (Pre.refl _) (fun _ _ _ q => q) fun _ z => z, RAs.nil, p.live⟩
  have := p.nd
  rw [← List.append_assoc] at this
  simpa using nd_l this
theorem PsA.then {as : List A} {vs : List V} (p : PsA K σ μ Oc T env H [] h1 [] H1 μ1 Oc1 []) (q : PsA K σ μ1 Oc1 T env H1 as h2 vs H2 μ2 Oc2 P2) : PsA K σ μ Oc T env H as h2 vs H2 μ2 Oc2 P2 := by
  have q' : PsA K σ μ1 Oc1 (T ++ []) env H1 as h2 vs H2 μ2 Oc2 P2 := by rw [List.append_nil]; exact q
  have := p.app q'
  simpa using this
theorem PsA.sim0 (p : PsA K σ μ Oc T env H [] h1 [] H1 μ1 Oc1 []) : Sim K H1 σ μ1 Oc1 T env h1 := by
  have := p.sim
  rwa [List.append_nil] at this
theorem PsX.step0 {c : Nat} {h' : Hh} (p : PsA K σ μ Oc T env H [] h1 [] H1 μ1 Oc1 []) (x : PsX K Γ E Oc T H μ c h') : PsX K Γ E Oc1 T H1 μ1 c h' := by
  have := PsX.step p x
  rwa [List.append_nil] at this
theorem tE_test {f : EF} {Q : Bool → Hp → Prop} : tT K Γ E (fTest f) σ H Q → tTest (tE K Γ E f) σ H Q := by
  rintro ⟨μ, Oc, T, env, h, s, go⟩
  refine ⟨μ, Oc, T, env, h, s, ?_⟩
  unfold fTest at go
  cases hf : f env h with
  | er => rw [hf] at go; exact go.elim
  | exc c h1 => rw [hf] at go; exact go
  | ok a h1 =>
    rw [hf] at go
    intro v H1 μ1 Oc1 P1 p
    change GoT K Γ E (onB a fun b => .ok b h1) σ H μ Oc T env Q at go
    unfold onB at go
    cases hb : a.b with
    | none => rw [hb] at go; exact go.elim
    | some b =>
      rw [hb] at go
      have ea := A.of_b hb
      subst ea
      exact ⟨b, bool_val p.val, go H1 μ1 Oc1 p.drop⟩
theorem tT_and {f g : TF} {Q : Bool → Hp → Prop} : tT K Γ E (fAndT f g) σ H Q → tAnd (tT K Γ E f) (tT K Γ E g) σ H Q := by
  rintro ⟨μ, Oc, T, env, h, s, go⟩
  refine ⟨μ, Oc, T, env, h, s, ?_⟩
  unfold fAndT at go
  cases hf : f env h with
  | er => rw [hf] at go; exact go.elim
  | exc c h1 => rw [hf] at go; exact go
  | ok b h1 =>
    rw [hf] at go
    intro H1 μ1 Oc1 p
    cases b with
    | false => exact go H1 μ1 Oc1 p
    | true =>
      refine ⟨μ1, Oc1, T, env, h1, p.sim0, ?_⟩
      change GoT K Γ E (g env h1) σ H μ Oc T env Q at go
      cases hg : g env h1 with
      | er => rw [hg] at go; exact go.elim
      | exc c h2 => rw [hg] at go; exact PsX.step0 p go
      | ok b h2 => rw [hg] at go; exact fun H2 μ2 Oc2 q => go H2 μ2 Oc2 (p.then q)
theorem tT_or {f g : TF} {Q : Bool → Hp → Prop} : tT K Γ E (fOrT f g) σ H Q → tOr (tT K Γ E f) (tT K Γ E g) σ H Q := by
  rintro ⟨μ, Oc, T, env, h, s, go⟩
  refine ⟨μ, Oc, T, env, h, s, ?_⟩
  unfold fOrT at go
  cases hf : f env h with
  | er => rw [hf] at go; exact go.elim
  | exc c h1 => rw [hf] at go; exact go
  | ok b h1 =>
    rw [hf] at go
    intro H1 μ1 Oc1 p
    cases b with
    | true => exact go H1 μ1 Oc1 p
    | false =>
      refine ⟨μ1, Oc1, T, env, h1, p.sim0, ?_⟩
      change GoT K Γ E (g env h1) σ H μ Oc T env Q at go
      cases hg : g env h1 with
      | er => rw [hg] at go; exact go.elim
      | exc c h2 => rw [hg] at go; exact PsX.step0 p go
      | ok b h2 => rw [hg] at go; exact fun H2 μ2 Oc2 q => go H2 μ2 Oc2 (p.then q)
theorem tT_not {f : TF} {Q : Bool → Hp → Prop} : tT K Γ E (fNotT f) σ H Q → tNot (tT K Γ E f) σ H Q := by
  rintro ⟨μ, Oc, T, env, h, s, go⟩
  refine ⟨μ, Oc, T, env, h, s, ?_⟩
  unfold fNotT at go
  cases hf : f env h with
  | er => rw [hf] at go; exact go.elim
  | exc c h1 => rw [hf] at go; exact go
  | ok b h1 => rw [hf] at go; exact go
theorem tE_if {t : TF} {f g : EF} {Q : VK} : tE K Γ E (fIfE t f g) σ H Q → tIf (tT K Γ E t) (tE K Γ E f) (tE K Γ E g) σ H Q := by
  rintro ⟨μ, Oc, T, env, h, s, go⟩
  refine ⟨μ, Oc, T, env, h, s, ?_⟩
  unfold fIfE at go
  cases hf : t env h with
  | er => rw [hf] at go; exact go.elim
  | exc c h1 => rw [hf] at go; exact go
  | ok b h1 =>
    rw [hf] at go
    intro H1 μ1 Oc1 p
    have key : ∀ k : EF, GoE K Γ E (k env h1) σ H μ Oc T env Q → tE K Γ E k σ H1 Q := fun k go => by
      refine ⟨μ1, Oc1, T, env, h1, p.sim0, ?_⟩
      cases hg : k env h1 with
      | er => rw [hg] at go; exact go.elim
      | exc c h2 => rw [hg] at go; exact PsX.step0 p go
      | ok a h2 => rw [hg] at go; exact fun v H2 μ2 Oc2 P q => go v H2 μ2 Oc2 P (p.then q)
    cases b with
    | true => exact key f go
    | false => exact key g go
theorem tE_bools {f : EF} {k : Bool → EF} {Q : VK} (hq : tE K Γ E (fun env h => (f env h).bind fun a h1 => onB a fun b => k b env h1) σ H Q) :
    tE K Γ E f σ H fun x H1 => ∃ c, x = .bl c ∧ tE K Γ E (k c) σ H1 Q := by
  obtain ⟨μ, Oc, T, env, h, s, go⟩ := hq
  refine ⟨μ, Oc, T, env, h, s, ?_⟩
  change GoE K Γ E ((f env h).bind fun a h1 => onB a fun b => k b env h1) σ H μ Oc T env Q at go
  cases hf : f env h with
  | er => rw [hf] at go; exact go.elim
  | exc c h1 => rw [hf] at go; exact go
  | ok a h1 =>
    rw [hf] at go
    intro v H1 μ1 Oc1 P1 p
    change GoE K Γ E (onB a fun b => k b env h1) σ H μ Oc T env Q at go
    unfold onB at go
    cases hb : a.b with
    | none => rw [hb] at go; exact go.elim
    | some b =>
      rw [hb] at go
      have ea := A.of_b hb
      subst ea
      change GoE K Γ E (k b env h1) σ H μ Oc T env Q at go
      refine ⟨b, bool_val p.val, μ1, Oc1, T, env, h1, p.drop.sim0, ?_⟩
      cases hg : k b env h1 with
      | er => rw [hg] at go; exact go.elim
      | exc c h2 => rw [hg] at go; exact PsX.step0 p.drop go
      | ok a h2 => rw [hg] at go; exact fun v H2 μ2 Oc2 P q => go v H2 μ2 Oc2 P (p.drop.then q)
theorem tE_andV {f g : EF} {Q : VK} (hq : tE K Γ E (fAndV f g) σ H Q) : tAndV (tE K Γ E f) (tE K Γ E g) σ H Q := by
  have e : fAndV f g = fun env h => (f env h).bind fun a h1 => onB a fun b => (if b then g else fC (.bool false)) env h1 := by
    funext env h
    unfold fAndV fC
    congr 1
    funext a h1
    congr 1
    funext b
    cases b <;> rfl
  rw [e] at hq
  refine tE_mono (fun x H1 ⟨c, e, q⟩ => ⟨c, e, ?_⟩) (tE_bools (k := fun b => if b then g else fC (.bool false)) hq)
  cases c with
  | true => exact q
  | false => exact tE_C (v := .bl false) (fun _ => .bl false) q
theorem tE_orV {f g : EF} {Q : VK} (hq : tE K Γ E (fOrV f g) σ H Q) : tOrV (tE K Γ E f) (tE K Γ E g) σ H Q := by
  have e : fOrV f g = fun env h => (f env h).bind fun a h1 => onB a fun b => (if b then fC (.bool true) else g) env h1 := by
    funext env h
    unfold fOrV fC
    congr 1
    funext a h1
    congr 1
    funext b
    cases b <;> rfl
  rw [e] at hq
  refine tE_mono (fun x H1 ⟨c, e, q⟩ => ⟨c, e, ?_⟩) (tE_bools (k := fun b => if b then fC (.bool true) else g) hq)
  cases c with
  | false => exact q
  | true => exact tE_C (v := .bl true) (fun _ => .bl true) q
theorem tE_notV {f : EF} {Q : VK} (hq : tE K Γ E (fNotV f) σ H Q) : tNotV (tE K Γ E f) σ H Q :=
  tE_mono (fun x H1 ⟨c, e, q⟩ => ⟨c, e, tE_C (v := .bl (!c)) (fun _ => .bl (!c)) q⟩) (tE_bools (k := fun b => fC (.bool (!b))) hq)
end
section
variable {X : Cx} {Γ : Nat → Addr} {E : XK} {pos : Pos} {a b c : Expr} {rest : List Expr} {f g : EF} {s t : TF}
theorem t_cmp {op : CmpOp} {r : R2} {gg : List A → Hh → Option A} (ho : OpR X (compareOp op) r) (hp : Prim X.K (r2L r) gg) (ha : PE X a (tE X.K Γ E f)) (hb : PE X b (tE X.K Γ E g)) (hm : behindInMarks op b = false) :
    PT X (.Compare a [op] [b] pos) (tT X.K Γ E (fTest (fPrim gg (fCons f (fCons g fNil))))) := pt_imp (pt_cmpR ho ha hb hm) fun _ _ _ q => tE_mono' (tE_test q) hp
  where tE_mono' {σ H Q} (q : tTest (tE X.K Γ E (fPrim gg (fCons f (fCons g fNil)))) σ H Q) (hp : Prim X.K (r2L r) gg) : tTest (tOp r (tE X.K Γ E f) (tE X.K Γ E g)) σ H Q := tE_op hp q
theorem t_val (h : PE X a (tE X.K Γ E f)) (he : ∀ whole, isTrue a X.env whole = (do let v ← whole; standAt a.pos; holding [v] (truthy v)) := by intro _; rfl) : PT X a (tT X.K Γ E (fTest f)) := pt_imp (pt_val h he) fun _ _ _ => tE_test
theorem t_and1 (h : PT X a (tT X.K Γ E s)) : PW X (.BoolOp .And [a] pos) (tT X.K Γ E s) := pw_and1 h
theorem t_or1 (h : PT X a (tT X.K Γ E s)) : PW X (.BoolOp .Or [a] pos) (tT X.K Γ E s) := pw_or1 h
theorem t_and (ha : PT X a (tT X.K Γ E s)) (hb : PW X (.BoolOp .And (b :: rest) pos) (tT X.K Γ E t)) : PW X (.BoolOp .And (a :: b :: rest) pos) (tT X.K Γ E (fAndT s t)) := pw_imp (pw_and ha hb) fun _ _ _ => tT_and
theorem t_or (ha : PT X a (tT X.K Γ E s)) (hb : PW X (.BoolOp .Or (b :: rest) pos) (tT X.K Γ E t)) : PW X (.BoolOp .Or (a :: b :: rest) pos) (tT X.K Γ E (fOrT s t)) := pw_imp (pw_or ha hb) fun _ _ _ => tT_or
theorem t_not (ha : PT X a (tT X.K Γ E s)) : PT X (.UnaryOp .Not a pos) (tT X.K Γ E (fNotT s)) := pt_imp (pt_not ha) fun _ _ _ => tT_not
theorem e_if (hc : PT X c (tT X.K Γ E s)) (ha : PE X a (tE X.K Γ E f)) (hb : PE X b (tE X.K Γ E g)) : PE X (.IfExp c a b pos) (tE X.K Γ E (fIfE s f g)) := pe_imp (pe_ifExp hc ha hb) fun _ _ _ => tE_if
theorem e_one {op : BoolOp} (h : PE X a (tE X.K Γ E f)) : PE X (.BoolOp op [a] pos) (tE X.K Γ E f) := pe_one h
theorem e_and (ha : PE X a (tE X.K Γ E f)) (hb : PE X (.BoolOp .And (b :: rest) pos) (tE X.K Γ E g)) : PE X (.BoolOp .And (a :: b :: rest) pos) (tE X.K Γ E (fAndV f g)) := pe_imp (pe_and ha hb) fun _ _ _ => tE_andV
theorem e_or (ha : PE X a (tE X.K Γ E f)) (hb : PE X (.BoolOp .Or (b :: rest) pos) (tE X.K Γ E g)) : PE X (.BoolOp .Or (a :: b :: rest) pos) (tE X.K Γ E (fOrV f g)) := pe_imp (pe_or ha hb) fun _ _ _ => tE_orV
theorem e_not (ha : PE X a (tE X.K Γ E f)) : PE X (.UnaryOp .Not a pos) (tE X.K Γ E (fNotV f)) := pe_imp (pe_not ha) fun _ _ _ => tE_notV
end
end Mi
/-! Mini: operations on values. -/
namespace Mi
open PySem L2
abbrev LIM : Nat := 100000
theorem lim_le {n : Nat} (h : n ≤ LIM) : n ≤ sizeLine := Nat.le_trans h (by decide)
theorem lim_lt {n : Nat} (h : n < LIM) : n < sizeLine := Nat.lt_of_lt_of_le h (by decide)
def A.lst : A → Option (List D)
  | .dat (.list ds) => some ds
  | .sn (.lst ds) => some ds
  | .ob (.lst ds) => some ds
  | _ => none
def A.tup : A → Option (List D)
  | .dat (.tuple ds) => some ds
  | _ => none
def dsOf : List A → Option (List D)
  | [] => some []
  | a :: as => a.d.bind fun d => (dsOf as).map fun ds => d :: ds
section
variable {K : PySem.W.Frag} {μ Oc T P : List Addr} {H F W : Hp} {h : Hh}
theorem RAs.dps (e : Ex F H) (ef : Ex F W) (ew : Ex W H) : ∀ {as : List A} {vs : List V} {P : List Addr} {ds : List D}, RAs K F W H μ as vs P → dsOf as = some ds → DqAll K H vs ds
  | _, _, _, _, .nil, h => by cases h; exact .nil
  | _, _, _, _, .cons (a := a) (as := as) r t, h => by
    unfold dsOf at h
    cases ha : a.d with
    | none => rw [ha] at h; cases h
    | some d =>
      rw [ha] at h
      cases hs : dsOf as with
      | none => rw [hs] at h; cases h
      | some ds =>
        rw [hs] at h
        cases h
        exact .cons (r.dp e ef ew ha) (RAs.dps e ef ew t hs)
theorem exFH : Ex (mns H (Oc ++ (T ++ P))) H := mns_ex _ _
theorem exFW : Ex (mns H (Oc ++ (T ++ P))) (mns H Oc) := mns_mono fun q hq => List.mem_append_left _ hq
theorem exWH : Ex (mns H Oc) H := mns_ex _ _
/-- the items of a list, strong -/
theorem RA.itemsL {a : A} {v : V} {ds : List D} {P' : List Addr} (r : RA K (mns H (Oc ++ (T ++ P))) (mns H Oc) H μ a v P') (ha : a.lst = some ds) : ∃ p ws, v = .ref p ∧ H p = some (.lst ws) ∧ DqAll K (mns H (Oc ++ (T ++ P))) ws ds := by
  cases r with
  | dat r =>
    unfold A.lst at ha
    split at ha
    · rename_i z; cases z; cases ha
      cases r with
      | lst h1 h2 => exact ⟨_, _, rfl, exFH _ _ h1, h2⟩
    · rename_i z; cases z
    · rename_i z; cases z
    · cases ha
  | sn r =>
    unfold A.lst at ha
    split at ha
    · rename_i z; cases z
    · rename_i z; cases z; cases ha
      cases r with
      | lst h1 h2 => exact ⟨_, _, rfl, exWH _ _ h1, h2⟩
    · rename_i z; cases z
    · cases ha
  | ob r =>
    unfold A.lst at ha
    split at ha
    · rename_i z; cases z
    · rename_i z; cases z
    · rename_i z; cases z; cases ha
      cases r with
      | lst h1 h2 => exact ⟨_, _, rfl, h1, h2⟩
    · cases ha
  | loc r => cases ha
  | scr r => cases ha
  | dc r => cases ha
  | zz => cases ha
theorem RA.itemsT {a : A} {v : V} {ds : List D} {P' : List Addr} (r : RA K (mns H (Oc ++ (T ++ P))) (mns H Oc) H μ a v P') (ha : a.tup = some ds) : ∃ p ws, v = .ref p ∧ SqP K H p ws ∧ DqAll K (mns H (Oc ++ (T ++ P))) ws ds := by
  cases r with
  | dat r =>
    unfold A.tup at ha
    split at ha
    · rename_i z; cases z; cases ha
      cases r with
      | tup h1 h2 => exact ⟨_, _, rfl, ex_sqP exFH h1, h2⟩
    · cases ha
  | sn r => cases ha
  | ob r => cases ha
  | loc r => cases ha
  | scr r => cases ha
  | dc r => cases ha
  | zz => cases ha
/-! ### what is new -/
theorem new_ex {p : Addr} {o : HO} {P' : List Addr} (hp : H p = none) (hP : ∀ q ∈ P', q ∈ P ∨ H q = none) : Ex (mns H (Oc ++ (T ++ P))) (mns (upd H p o) (Oc ++ (T ++ P'))) := ex_mns fun q u hq e => by
  refine ⟨by rw [upd_ne (ne_of_none e hp)]; exact e, fun z => ?_⟩
  rcases List.mem_append.mp z with z | z
  · exact hq (List.mem_append_left _ z)
  · rcases List.mem_append.mp z with z | z
    · exact hq (List.mem_append_right _ (List.mem_append_left _ z))
    · rcases hP q z with z | z
      · exact hq (List.mem_append_right _ (List.mem_append_right _ z))
      · rw [e] at z; cases z
theorem ra_newL {p : Addr} {ws : List V} {ds : List D} (hp : H p = none) (d : DqAll K (mns H (Oc ++ (T ++ P))) ws ds) :
    RA K (mns (upd H p (.lst ws)) (Oc ++ (T ++ [p]))) (mns (upd H p (.lst ws)) Oc) (upd H p (.lst ws)) μ (.ob (.lst ds)) (.ref p) [p] :=
  .ob (.lst upd_same (ex_dps (new_ex hp fun q hq => .inr (by
    have e : q = p := by simpa using hq
    rw [e]; exact hp)) d))
theorem ra_newT {p : Addr} {o : HO} {ws : List V} {ds : List D} (hp : H p = none) (ho : PlT o ws) (nO : p ∉ Oc) (nT : p ∉ T) (d : DqAll K (mns H (Oc ++ (T ++ P))) ws ds) :
    RA K (mns (upd H p o) (Oc ++ (T ++ []))) (mns (upd H p o) Oc) (upd H p o) μ (.dat (.tuple ds)) (.ref p) [] := by
  obtain ⟨ob, rfl, hd⟩ := ho
  refine .dat (.tup (.inl ⟨ob, mns_some.mpr ⟨fun z => ?_, upd_same⟩, hd⟩) (ex_dps (new_ex (P' := []) hp (fun _ z => absurd z List.not_mem_nil)) d))
  rw [List.append_nil] at z
  exact (List.mem_append.mp z).elim nO nT
theorem nin_c {F : Hp} {p : Addr} (c : RC K F H h μ Oc) (hp : H p = none) : p ∉ Oc := fun z => by
  obtain ⟨o, e, _⟩ := c.there p z
  rw [hp] at e; cases e
theorem nin_t {p : Addr} (l : ∀ q ∈ T, NF H q) (hp : H p = none) : p ∉ T := fun z => by
  obtain ⟨o, e, _⟩ := l p z
  rw [hp] at e; cases e
/-- data that are there already -/
theorem ra_dat {v : V} {d : D} (r : Dq K (mns H (Oc ++ (T ++ P))) v d) : RA K (mns H (Oc ++ (T ++ []))) (mns H Oc) H μ (.dat d) v [] :=
  .dat (ex_dp (mns_mono fun q hq => by
    rw [List.append_nil] at hq
    exact (List.mem_append.mp hq).elim (List.mem_append_left _) fun z => List.mem_append_right _ (List.mem_append_left _ z)) r)
/-! ### operations on data that give a plain value -/
def gD (g : List D → Option D) : List A → Hh → Option A := fun as _ => (dsOf as).bind fun ds => (g ds).map .dat
def Sc (K : PySem.W.Frag) (r : List V → Hp → VK → Prop) (g : List D → Option D) : Prop := ∀ H vs ds d Q, DqAll K H vs ds → g ds = some d → (∀ v, (∀ F, Dq K F v d) → Q v H) → r vs H Q
theorem prim_sc {r : List V → Hp → VK → Prop} {g : List D → Option D} (hr : Sc K r g) : Prim K r (gD g) := by
  intro H μ Oc T P h as vs a Q nd rc ra lv hg go
  unfold gD at hg
  cases hs : dsOf as with
  | none => rw [hs] at hg; cases hg
  | some ds =>
    rw [hs] at hg
    cases hd : g ds with
    | none => rw [show (some ds).bind (fun ds => (g ds).map A.dat) = (g ds).map A.dat from rfl, hd] at hg; cases hg
    | some d =>
      rw [show (some ds).bind (fun ds => (g ds).map A.dat) = (g ds).map A.dat from rfl, hd] at hg
      cases hg
      exact hr H vs ds d Q (ra.dps exFH exFW exWH hs) hd fun v sc => go v H [] (Ex.refl _) (fun _ z => nomatch z) List.nodup_nil (.dat (sc _))
end
/-! ### two ints -/
def gI2 (f : Int → Int → Option D) : List D → Option D
  | [.int i, .int j] => f i j
  | _ => none
section
variable {K : PySem.W.Frag}
theorem dqs2 {H : Hp} {vs : List V} {a b : D} (h : DqAll K H vs [a, b]) : ∃ v w, vs = [v, w] ∧ Dq K H v a ∧ Dq K H w b := by
  cases h with
  | cons h1 t =>
    cases t with
    | cons h2 t =>
      cases t
      exact ⟨_, _, rfl, h1, h2⟩
theorem dqs1 {H : Hp} {vs : List V} {a : D} (h : DqAll K H vs [a]) : ∃ v, vs = [v] ∧ Dq K H v a := by
  cases h with
  | cons h1 t =>
    cases t
    exact ⟨_, rfl, h1⟩
theorem gI2_some {f : Int → Int → Option D} {ds : List D} {d : D} (h : gI2 f ds = some d) : ∃ i j, ds = [.int i, .int j] ∧ f i j = some d := by
  unfold gI2 at h
  split at h
  · exact ⟨_, _, rfl, h⟩
  · cases h
theorem sc_I2 {C : Int → Int → Prop} {g : Int → Int → V} {f : Int → Int → Option D} (hf : ∀ i j d, f i j = some d → C i j ∧ ∀ F, Dq K F (g i j) d) : Sc K (r2L (rI C g)) (gI2 f) := by
  intro H vs ds d Q hd hg go
  obtain ⟨i, j, rfl, e⟩ := gI2_some hg
  obtain ⟨v, w, rfl, h1, h2⟩ := dqs2 hd
  cases h1
  cases h2
  obtain ⟨c, q⟩ := hf i j d e
  exact ⟨_, _, rfl, i, j, rfl, rfl, c, go _ q⟩
theorem sc_I20 {g : Int → Int → V} {f : Int → Int → Option D} (hf : ∀ i j d, f i j = some d → ∀ F, Dq K F (g i j) d) : Sc K (r2L (rI0 g)) (gI2 f) := by
  intro H vs ds d Q hd hg go
  obtain ⟨i, j, rfl, e⟩ := gI2_some hg
  obtain ⟨v, w, rfl, h1, h2⟩ := dqs2 hd
  cases h1
  cases h2
  exact ⟨_, _, rfl, i, j, rfl, rfl, go _ (hf i j d e)⟩
end
def iAdd : List D → Option D := gI2 fun i j => some (.int (i + j))
def iSub : List D → Option D := gI2 fun i j => some (.int (i - j))
def iMul : List D → Option D := gI2 fun i j => if (-(2 ^ 64) < i ∧ i < 2 ^ 64) ∨ (-(2 ^ 64) < j ∧ j < 2 ^ 64) then some (.int (i * j)) else none
def iDiv : List D → Option D := gI2 fun i j => if 0 < j ∧ j < 1073741824 then some (.int (i / j)) else none
def iMod : List D → Option D := gI2 fun i j => if 0 < j then some (.int (i % j)) else none
def iPow : List D → Option D := gI2 fun i j => if 0 ≤ j ∧ j ≤ 1000000 ∧ i.natAbs < 2 ^ 64 then some (.int (i ^ j.toNat)) else none
def iLt : List D → Option D := gI2 fun i j => some (.bool (decide (i < j)))
def iLe : List D → Option D := gI2 fun i j => some (.bool (decide (i ≤ j)))
def iGt : List D → Option D := gI2 fun i j => some (.bool (decide (j < i)))
def iGe : List D → Option D := gI2 fun i j => some (.bool (decide (j ≤ i)))
def iEq : List D → Option D
  | [a, b] => if SeqAt.shaped a = true ∧ SeqAt.shaped b = true then some (.bool (PyData.eqv a b)) else none
  | _ => none
def iNe : List D → Option D
  | [a, b] => if SeqAt.shaped a = true ∧ SeqAt.shaped b = true then some (.bool (!PyData.eqv a b)) else none
  | _ => none
def isN : D → Bool
  | .none => true
  | _ => false
def iIsN : List D → Option D
  | [a, .none] => some (.bool (isN a))
  | _ => none
def iNotN : List D → Option D
  | [a, .none] => some (.bool (!isN a))
  | _ => none
section
variable {X : Cx} {Γ : Nat → Addr} {E : XK} {pos : Pos} {a b : Expr} {f g : EF}
abbrev f2 (g : List D → Option D) (fa fb : EF) : EF := fPrim (gD g) (fCons fa (fCons fb fNil))
abbrev f1 (g : List D → Option D) (fa : EF) : EF := fPrim (gD g) (fCons fa fNil)
theorem e_add (ha : PE X a (tE X.K Γ E f)) (hb : PE X b (tE X.K Γ E g)) : PE X (.BinOp a .Add b pos) (tE X.K Γ E (f2 iAdd f g)) := e_op op_add (prim_sc (sc_I20 fun i j d e F => by cases e; exact .int _)) ha hb
theorem e_sub (ha : PE X a (tE X.K Γ E f)) (hb : PE X b (tE X.K Γ E g)) : PE X (.BinOp a .Sub b pos) (tE X.K Γ E (f2 iSub f g)) := e_op op_sub (prim_sc (sc_I20 fun i j d e F => by cases e; exact .int _)) ha hb
theorem e_mul (ha : PE X a (tE X.K Γ E f)) (hb : PE X b (tE X.K Γ E g)) : PE X (.BinOp a .Mult b pos) (tE X.K Γ E (f2 iMul f g)) := e_op op_mul (prim_sc (sc_I2 fun i j d e => by
  split at e
  · rename_i c; cases e; exact ⟨c, fun F => .int _⟩
  · cases e)) ha hb
theorem e_div (ha : PE X a (tE X.K Γ E f)) (hb : PE X b (tE X.K Γ E g)) : PE X (.BinOp a .FloorDiv b pos) (tE X.K Γ E (f2 iDiv f g)) := e_op op_fdiv (prim_sc (sc_I2 fun i j d e => by
  split at e
  · rename_i c; cases e; exact ⟨c, fun F => .int _⟩
  · cases e)) ha hb
theorem e_mod (ha : PE X a (tE X.K Γ E f)) (hb : PE X b (tE X.K Γ E g)) : PE X (.BinOp a .Mod b pos) (tE X.K Γ E (f2 iMod f g)) := e_op op_mod (prim_sc (sc_I2 fun i j d e => by
  split at e
  · rename_i c; cases e; exact ⟨c, fun F => .int _⟩
  · cases e)) ha hb
theorem e_pow (ha : PE X a (tE X.K Γ E f)) (hb : PE X b (tE X.K Γ E g)) : PE X (.BinOp a .Pow b pos) (tE X.K Γ E (f2 iPow f g)) := e_op op_pow (prim_sc (sc_I2 fun i j d e => by
  split at e
  · rename_i c; cases e; exact ⟨c, fun F => .int _⟩
  · cases e)) ha hb
theorem p_lt : Prim X.K (r2L (rI0 fun i j => .bl (decide (i < j)))) (gD iLt) := prim_sc (sc_I20 fun i j d e F => by cases e; exact .bl _)
theorem p_le : Prim X.K (r2L (rI0 fun i j => .bl (decide (i ≤ j)))) (gD iLe) := prim_sc (sc_I20 fun i j d e F => by cases e; exact .bl _)
theorem p_gt : Prim X.K (r2L (rI0 fun i j => .bl (decide (j < i)))) (gD iGt) := prim_sc (sc_I20 fun i j d e F => by cases e; exact .bl _)
theorem p_ge : Prim X.K (r2L (rI0 fun i j => .bl (decide (j ≤ i)))) (gD iGe) := prim_sc (sc_I20 fun i j d e F => by cases e; exact .bl _)
theorem p_eq : Prim X.K (r2L (rEqD X.K)) (gD iEq) := prim_sc fun H vs ds d Q hd hg go => by
  unfold iEq at hg
  split at hg
  · rename_i a b
    split at hg
    · rename_i c
      cases hg
      obtain ⟨v, w, rfl, h1, h2⟩ := dqs2 hd
      exact ⟨v, w, rfl, a, b, h1.dp, h2.dp, c.1, c.2, go _ fun F => .bl _⟩
    · cases hg
  · cases hg
theorem p_ne : Prim X.K (r2L (rNeD X.K)) (gD iNe) := prim_sc fun H vs ds d Q hd hg go => by
  unfold iNe at hg
  split at hg
  · rename_i a b
    split at hg
    · rename_i c
      cases hg
      obtain ⟨v, w, rfl, h1, h2⟩ := dqs2 hd
      exact ⟨v, w, rfl, a, b, h1.dp, h2.dp, c.1, c.2, go _ fun F => .bl _⟩
    · cases hg
  · cases hg
theorem isN_dq {K : PySem.W.Frag} {H : Hp} {v : V} {d : D} (h : Dq K H v d) : decide (v = .non) = isN d := by
  cases h <;> rfl
theorem p_isN : Prim X.K (r2L (fun x y H Q => y = .non ∧ Q (.bl (decide (x = .non))) H)) (gD iIsN) := prim_sc fun H vs ds d Q hd hg go => by
  unfold iIsN at hg
  split at hg
  · rename_i a
    cases hg
    obtain ⟨v, w, rfl, h1, h2⟩ := dqs2 hd
    cases h2
    exact ⟨v, _, rfl, rfl, by rw [isN_dq h1]; exact go _ fun F => .bl _⟩
  · cases hg
theorem p_notN : Prim X.K (r2L (fun x y H Q => y = .non ∧ Q (.bl (!decide (x = .non))) H)) (gD iNotN) := prim_sc fun H vs ds d Q hd hg go => by
  unfold iNotN at hg
  split at hg
  · rename_i a
    cases hg
    obtain ⟨v, w, rfl, h1, h2⟩ := dqs2 hd
    cases h2
    exact ⟨v, _, rfl, rfl, by rw [isN_dq h1]; exact go _ fun F => .bl _⟩
  · cases hg
end
end Mi
/-! Mini: tuples without a dict of their own, over HandS. -/
namespace Mi
open PySem L2 PySem.Spec PyProof.Rows
section
variable {X : Cx} {pins : List (Addr × Obj)} {σ : L2.St} {H : Hp} {s : Shared}
/-- a new tuple is laid -/
theorem laidT {h' : Heap} {a : Addr} {xs : List V} {its : List Value} {t' : Nat} (I : Inv X pins σ H s) (k : ∀ b u, s.heap.get? b = some u → h'.get? b = some u) (hp : s.heap.objs.size ≤ a) (z : xs.length ≤ sizeLine) (r : Vals xs its)
    (e : h'.get? a = some { cls := .type "tuple", data := .seq its.toArray }) : Inv X pins σ (upd H a (.frz { cls := .type "tuple", data := .seq its.toArray } (.tup xs))) { s with heap := h', toks := t' } :=
  I.laid k hp ⟨e, z, its, r, ⟨_, e, rfl, _, rfl⟩⟩
theorem plT {its : List Value} {xs : List V} : PlT (.frz { cls := .type "tuple", data := .seq its.toArray } (.tup xs)) xs := ⟨_, rfl, rfl⟩
end
def rTupP : List V → Hp → VK → Prop := fun xs H Q => xs.length ≤ sizeLine ∧ ∀ p o, H p = none → PlT o xs → Q (.ref p) (upd H p o)
section
variable {X : Cx}
theorem pe_tupP {es : List Expr} {t : TA} {x1 : Nat} {pos : Pos} (h : PA X es t) : PE X (.Tuple es x1 pos) (tCB rTupP t) := by
  refine ⟨fun pins s σ H Q I hq => ?_⟩
  refine wpAny_Tuple_spliced (thn (h.run pos pins s σ H _ I hq) fun us s1 ⟨xs, H1, I1, r, z, q⟩ => ⟨by rw [← r.length]; exact z, ?_⟩)
  exact ⟨.ref s1.heap.objs.size, _, laidT (t' := s1.toks) I1 (fun b u e => Heap.get?_push_of_some _ e) (Nat.le_refl _) z r (Heap.get?_push_size _ rfl), rfl, q _ _ (I1.hok.fresh (Nat.le_refl _)) plT⟩
def rTupOf (K : PySem.W.Frag) : List V → Hp → VK → Prop := fun xs H Q => ∃ p ys, xs = [.ref p] ∧ ((SqL K H p ys ∧ ∀ l o, H l = none → PlT o ys → Q (.ref l) (upd H l o)) ∨ (SqT K H p ys ∧ Q (.ref p) H))
theorem call_tuple_ofP : CallR X (.type "tuple") (rTupOf X.K) := by
  intro pins s σ H xs us Q I r h
  obtain ⟨p, ys, rfl, h⟩ := h
  obtain ⟨u, rfl, rx⟩ := vals1 r
  cases rx
  rcases h with ⟨hq, q⟩ | ⟨hq, q⟩
  · obtain ⟨its, r', pl, hz⟩ := I.list hq
    have hlen := r'.length
    refine call_tuple_list pl.isList (fun h' kp => ?_) (by simp only [List.size_toArray] <;> omega)
    have I1 : Inv X pins σ H { s with heap := h' } := I.kept (t' := s.toks) kp
    have I2 : Inv X pins σ (upd H h'.objs.size (.frz { cls := .type "tuple", data := .seq its.toArray } (.tup ys))) { s with heap := h'.push { cls := .type "tuple", data := .seq its.toArray } } :=
      laidT (s := { s with heap := h' }) (t' := s.toks) I1 (fun b o e => Heap.get?_push_of_some _ e) (Nat.le_refl _) hz r' (Heap.get?_push_size _ rfl)
    exact ⟨.ref h'.objs.size, _, I2, rfl, q _ _ (I1.hok.fresh (Nat.le_refl _)) plT⟩
  · obtain ⟨its, r', pl, hz⟩ := I.tuple hq
    exact call_tuple_same pl ⟨.ref p, H, I, rfl, q⟩
def rSlP (K : PySem.W.Frag) : V → Option Int → Option Int → Hp → VK → Prop := fun x lo hi H Q => ∃ a xs, x = .ref a ∧ SqT K H a xs ∧
  (HT.sIx xs.length 0 lo = 0 ∧ HT.sIx xs.length xs.length hi = xs.length → Q (.ref a) H) ∧ (¬ (HT.sIx xs.length 0 lo = 0 ∧ HT.sIx xs.length xs.length hi = xs.length) → ∀ p o, H p = none → PlT o (cutV xs lo hi) → Q (.ref p) (upd H p o))
theorem sl_tupP : SlR X (rSlP X.K) := by
  intro pins s σ H x v vl vu lo hi sl Q I rx hs pl pu h
  obtain ⟨a, xs, rfl, hx, q1, q2⟩ := h
  by_cases hw : HT.sIx xs.length 0 lo = 0 ∧ HT.sIx xs.length xs.length hi = xs.length
  · exact sl_tupA pins s σ H _ v vl vu lo hi sl Q I rx hs pl pu ⟨a, xs, rfl, hx, q1, fun z => absurd hw z⟩
  · cases rx
    obtain ⟨its, r, ht, hz⟩ := I.tuple hx
    have hlen : its.toArray.size = xs.length := by rw [List.size_toArray]; exact r.length.symm
    refine ⟨"tuple", _, PyProof.Rows.slot_tuple_getitem.lookup, ht.typeIs, ?_⟩
    refine HT.getItem_tuple_cut ht hs pl pu (by rw [hlen]; exact hw) ?_ (by rw [hlen]; exact hz)
    rw [hlen]
    exact ⟨.ref s.heap.objs.size, _, laidT (t' := s.toks) I (fun b ob q => Heap.get?_push_of_some _ q) (Nat.le_refl _) (Nat.le_trans (cutV_length xs lo hi) hz)
      ((r.drop (HT.sIx xs.length 0 lo)).take (HT.sIx xs.length xs.length hi - HT.sIx xs.length 0 lo)) (Heap.get?_push_size _ rfl), rfl, q2 hw _ _ (I.hok.fresh (Nat.le_refl _)) plT⟩
def rCatP (K : PySem.W.Frag) : R2 := fun x y H Q => ∃ a b xs ys, x = .ref a ∧ y = .ref b ∧ SqT K H a xs ∧ SqT K H b ys ∧ xs.length + ys.length ≤ sizeLine ∧
  (xs = [] → Q (.ref b) H) ∧ (xs ≠ [] → ys = [] → Q (.ref a) H) ∧ (xs ≠ [] → ys ≠ [] → ∀ p o, H p = none → PlT o (xs ++ ys) → Q (.ref p) (upd H p o))
theorem op_catP : OpR X (binaryOp .Add) (rCatP X.K) := by
  intro pins s σ H x y v u Q I rx ry h
  obtain ⟨a, b, xs, ys, rfl, rfl, ha, hb, hz, q0, q1, q2⟩ := h
  cases rx
  cases ry
  obtain ⟨its, r1, p1, _⟩ := I.tuple ha
  obtain ⟨its2, r2, p2, _⟩ := I.tuple hb
  by_cases hx : xs = []
  · subst hx
    cases r1
    exact cat_tup0 p1 p2 ⟨.ref b, H, I, rfl, q0 rfl⟩
  · refine HT.cat_tup p1 p2 (fun z => hx (r1.nil_iff.mp z)) (fun z => ⟨.ref a, H, I, rfl, q1 hx (r2.nil_iff.mp z)⟩) (fun z => ?_) (by rw [← r1.length, ← r2.length]; exact hz)
    exact ⟨.ref s.heap.objs.size, _, laidT (t' := s.toks) I (fun b ob q => Heap.get?_push_of_some _ q) (Nat.le_refl _) (by rw [List.length_append]; exact hz) (r1.append r2) (Heap.get?_push_size _ rfl), rfl, q2 hx (fun w => z (r2.nil_iff.mpr w)) _ _ (I.hok.fresh (Nat.le_refl _)) plT⟩
/-! ### methods of such a tuple -/
theorem tyP {pins : List (Addr × Obj)} {σ : L2.St} {H : Hp} {s : Shared} {p : Addr} {xs : List V} (I : Inv X pins σ H s) (h : SqP X.K H p xs) :
    s.TypeIs (.ref p) "tuple" ∧ ∀ a, Value.ref p = .ref a → ∃ ob, s.heap.get? a = some ob ∧ ob.dict = none := by
  rcases h with ⟨ob, h, d⟩ | ⟨o, its, n, h1, h2, h3, _⟩
  · obtain ⟨e, _, its, r, ⟨o, e2, c, n, hd⟩⟩ := I.hok p _ h
    rw [e] at e2
    cases e2
    refine ⟨⟨ob, e, c⟩, fun a q => ?_⟩
    cases q
    exact ⟨ob, e, d⟩
  · refine ⟨⟨o, I.kIn p o h1, h2⟩, fun a q => ?_⟩
    cases q
    exact ⟨o, I.kIn p o h1, h3⟩
def tBMT (K : PySem.W.Frag) (r : V → List V → Hp → VK → Prop) (to : TE) (t : TA) : TE := fun σ H Q => to σ H fun x H1 => (∃ p xs, x = .ref p ∧ SqP K H1 p xs) ∧ t σ H1 fun xs H2 => r x xs H2 Q
theorem pe_bmT {o e : Expr} {es : List Expr} {to : TE} {t : TA} {name : Str} {apos cpos : Pos} {id : String} {r : V → List V → Hp → VK → Prop} (pa : PlainAttrs "tuple") (slot : Slot "tuple" name id) (hty : typeOf (.builtin id) = pure (.type "method_descriptor")) (hm : MtR X id r) (ho : PE X o to) (ha : PA X (e :: es) t)
    (hbase : attributeBase o name X.env (eval o X.env) = eval o X.env := by rfl)
    (hfew : ((backTo cpos (starEach (e :: es) X.env)).all (fun x => !x.1) && (backToKw cpos (keywordEach [] X.env)).all (fun x => x.1.isSome)
      && decide ((e :: es).length + ([] : List Keyword).length + (if ([] : List Keyword).isEmpty then 0 else 1) < 30)) = true := by rfl)
    (hline : (apos.endLine == cpos.line) = true := by rfl) (hs : starEach (e :: es) X.env = (false, eval e X.env) :: starEach es X.env := by rfl) (hplain : (backTo cpos (starEach es X.env)).any (·.1) = false := by rfl) :
    PE X (.Call (.Attribute o name apos) (e :: es) [] cpos) (tBMT X.K r to t) := by
  refine ⟨fun pins s σ H Q I h => ?_⟩
  refine wpAny_Call_method_late hbase hfew hline rfl (thn (ho.run pins s σ H _ I h) fun v s1 ⟨x, H1, I1, r1, ⟨p, xs, ex, hp⟩, q1⟩ => ?_)
  subst ex
  cases (show v = .ref p from r1)
  obtain ⟨h1, h2⟩ := tyP I1 hp
  refine ⟨"tuple", id, pa, slot, hty, h1, h2, ?_⟩
  have hA := ha.run cpos pins s1 σ H1 _ I1 q1
  rw [hs] at hA ⊢
  refine Calls.callWith_builtin (by show (false || (backTo cpos (starEach es X.env)).any (·.1)) = false; rw [hplain] <;> rfl) (Calls.evalArgs_plain ?_)
  exact thn hA fun us s2 ⟨vs, H2, I2, r2, q2⟩ => hm pins s2 σ H2 (.ref p) vs (.ref p) us Q I2 rfl r2 q2
def rIndexT (K : PySem.W.Frag) : V → List V → Hp → VK → Prop := fun x xs H Q => ∃ (a : Addr) (ys : List V) (y : V) (j : Nat) (z : V), x = V.ref a ∧ xs = [y] ∧ SqT K H a ys ∧ flatV y = true ∧ ys.all flatV = true ∧ ys[j]? = some z ∧ eqV z y = true ∧
  (∀ (m : Nat) (z' : V), m < j → ys[m]? = some z' → eqV z' y = false) ∧ Q (.int (j : Nat)) H
theorem mt_indexT : MtR X "tuple.index" (rIndexT X.K) := by
  intro pins s σ H x xs v us Q I rx rxs h
  obtain ⟨a, ys, y, j, z, rfl, rfl, hs, fy, fys, hz, hzj, hno, q⟩ := h
  cases rx
  cases rxs with
  | cons ry rt =>
    rename_i uy ut
    cases rt
    obtain ⟨its, rv, ⟨⟨cls, dd, data, sl⟩, ho, hc, n, hd⟩, hlen⟩ := I.tuple hs
    simp only at hc hd
    subst hc hd
    obtain ⟨u, hu, ru⟩ := rv.get hz
    obtain ⟨hjl, hje⟩ := List.getElem?_eq_some_iff.mp hu
    have hvl := rv.length
    have hj : j < its.toArray.size := by simpa using hjl
    refine call_meets PySem.F.slot_tuple_index ⟨_, ho, rfl⟩ PySem.F.entry_tuple_index (PySem.F.args_tuple_index_2 _ _)
      (TI.tuple_indexAt a its.toArray n dd sl uy (eqU y) j hj ?_ ?_) ⟨ho, fun u' hu' => mem_eqAt ry fy rv fys u' (by simpa using hu'), ?_⟩
    · have e1 : its.toArray[j] = u := by simpa using hje
      rw [e1, eqU_of ru (flat_at fys hz)]
      exact hzj
    · intro m hm hmj
      have hml : m < its.length := by simpa using hm
      have hmy : m < ys.length := by omega
      have hy' : ys[m]? = some ys[m] := List.getElem?_eq_getElem hmy
      obtain ⟨u2, hu2, ru2⟩ := rv.get hy'
      obtain ⟨_, hme⟩ := List.getElem?_eq_some_iff.mp hu2
      have e1 : its.toArray[m] = u2 := by simpa using hme
      rw [e1, eqU_of ru2 (flat_at fys hy')]
      exact hno m _ hmj hy'
    · exact ⟨.int (j : Nat), H, I.tok _, ⟨_, rfl⟩, q⟩
end
end Mi
/-! Mini: displays, len, list, tuple, places, slices, sums, sorts. -/
namespace Mi
open PySem L2
section
variable {K : PySem.W.Frag} {μ Oc T P P' : List Addr} {H F W : Hp} {h : Hh}
theorem exFG : Ex (mns H (Oc ++ (T ++ P))) (mns H (Oc ++ T)) := mns_mono fun q hq => (List.mem_append.mp hq).elim (List.mem_append_left _) fun z => List.mem_append_right _ (List.mem_append_left _ z)
def sto : A → Option D
  | .dat d => some d
  | .ob c => some c.toD
  | _ => none
def stos : List A → Option (List D)
  | [] => some []
  | a :: as => (sto a).bind fun d => (stos as).map fun ds => d :: ds
theorem RL.dq {G : Hp} (e : Ex F G) (g : ∀ dss ps, RL K F H dss ps → Ag ps H G → DqAll K G (ps.map V.ref) (dss.map .list)) : True := trivial
theorem RL.frz {G : Hp} (e : Ex F G) : ∀ {dss : List (List D)} {ps : List Addr}, RL K F H dss ps → Ag ps H G → DqAll K G (ps.map V.ref) (dss.map .list)
  | _, _, .nil, _ => .nil
  | _, _, .cons h d t, g => .cons (.lst (g _ List.mem_cons_self _ h) (ex_dps e d)) (RL.frz e t fun p hp => g p (List.mem_cons_of_mem _ hp))
theorem RO.frz {G : Hp} {c : Cell} {p : Addr} (e : Ex F G) (g : Ag P H G) (r : RO K F H c p P) : Dq K G (.ref p) c.toD := by
  cases r with
  | lst h d => exact .lst (g _ List.mem_cons_self _ h) (ex_dps e d)
  | lst2 h r => exact .lst (g _ List.mem_cons_self _ h) (r.frz e fun q hq => g q (List.mem_cons_of_mem _ hq))
/-- what is stored or handed on is frozen -/
theorem ra_sto {a : A} {v : V} {d : D} (nd : (Oc ++ (T ++ P)).Nodup) (r : RA K (mns H (Oc ++ (T ++ P))) W H μ a v P') (hP : ∀ q ∈ P', q ∈ P) (hd : sto a = some d) : Dq K (mns H (Oc ++ T)) v d := by
  cases r with
  | dat r => cases hd; exact ex_dp exFG r
  | ob r =>
    cases hd
    refine r.frz exFG fun q hq o e => mns_some.mpr ⟨fun z => ?_, e⟩
    have n := nd
    rw [← List.append_assoc] at n
    exact nd_ne' n (hP q hq) z
  | sn r => cases hd
  | loc r => cases hd
  | scr r => cases hd
  | dc r => cases hd
  | zz => cases hd
theorem ras_sto (nd : (Oc ++ (T ++ P)).Nodup) : ∀ {as : List A} {vs : List V} {P' : List Addr} {ds : List D}, RAs K (mns H (Oc ++ (T ++ P))) W H μ as vs P' → (∀ q ∈ P', q ∈ P) → stos as = some ds → DqAll K (mns H (Oc ++ T)) vs ds
  | _, _, _, _, .nil, _, h => by cases h; exact .nil
  | _, _, _, _, .cons (a := a) (as := as) r t, hP, h => by
    unfold stos at h
    cases ha : sto a with
    | none => rw [ha] at h; cases h
    | some d =>
      rw [ha] at h
      cases hs : stos as with
      | none => rw [hs] at h; cases h
      | some ds =>
        rw [hs] at h
        cases h
        exact .cons (ra_sto nd r (fun q hq => hP q (List.mem_append_left _ hq)) ha) (ras_sto nd t (fun q hq => hP q (List.mem_append_right _ hq)) hs)
theorem dqs_G {ws : List V} {ds : List D} (d : DqAll K (mns H (Oc ++ T)) ws ds) : DqAll K (mns H (Oc ++ (T ++ []))) ws ds := by rw [List.append_nil]; exact d
end
/-! ### displays -/
def gTupD : List A → Hh → Option A := fun as _ => if as.length ≤ LIM then (stos as).map fun ds => .dat (.tuple ds) else none
def gLstD : List A → Hh → Option A := fun as _ => if as.length ≤ LIM then (stos as).map fun ds => .ob (.lst ds) else none
section
variable {K : PySem.W.Frag}
theorem ras_len {F W H : Hp} {μ : List Addr} : ∀ {as : List A} {vs : List V} {P : List Addr}, RAs K F W H μ as vs P → vs.length = as.length
  | _, _, _, .nil => rfl
  | _, _, _, .cons _ t => by rw [List.length_cons, List.length_cons, ras_len t]
theorem prim_tupD : Prim K rTupP gTupD := by
  intro H μ Oc T P h as vs a Q nd rc ra lv hg go
  unfold gTupD at hg
  split at hg
  · rename_i hl
    cases hs : stos as with
    | none => rw [hs] at hg; cases hg
    | some ds =>
      rw [hs] at hg
      cases hg
      refine ⟨by rw [ras_len ra]; exact lim_le hl, fun p o hp ho => go _ _ [] (Ex.new hp) (fun _ z => absurd z List.not_mem_nil) List.nodup_nil ?_⟩
      exact ra_newT (P := []) hp ho (nin_c rc hp) (nin_t lv hp) (dqs_G (ras_sto nd ra (fun _ z => z) hs))
  · cases hg
theorem prim_lstD : Prim K (fun xs H Q => xs.length ≤ sizeLine ∧ ∀ p, H p = none → Q (.ref p) (upd H p (.lst xs))) gLstD := by
  intro H μ Oc T P h as vs a Q nd rc ra lv hg go
  unfold gLstD at hg
  split at hg
  · rename_i hl
    cases hs : stos as with
    | none => rw [hs] at hg; cases hg
    | some ds =>
      rw [hs] at hg
      cases hg
      refine ⟨by rw [ras_len ra]; exact lim_le hl, fun p hp => go _ _ [p] (Ex.new hp) (fun q z => .inr ?_) (List.nodup_cons.mpr ⟨List.not_mem_nil, List.nodup_nil⟩) ?_⟩
      · have e : q = p := by simpa using z
        rw [e]; exact hp
      · exact ra_newL (P := []) hp (dqs_G (ras_sto nd ra (fun _ z => z) hs))
  · cases hg
end
section
variable {X : Cx} {Γ : Nat → Addr} {E : XK} {pos : Pos} {es : List Expr} {fs : AF}
theorem e_tup {x1 : Nat} (h : PA X es (tA X.K Γ E fs)) : PE X (.Tuple es x1 pos) (tE X.K Γ E (fPrim gTupD fs)) := pe_imp (pe_tupP h) fun _ _ _ => tE_prim prim_tupD
theorem e_lst (h : PA X es (tA X.K Γ E fs)) : PE X (.List es pos) (tE X.K Γ E (fPrim gLstD fs)) := pe_imp (pe_lst h) fun _ _ _ => tE_prim prim_lstD
/-- a built-in function, a built-in class, by its name -/
theorem e_callB {x : Str} {p : Pos} {e : Expr} {id : String} {r : List V → Hp → VK → Prop} {g : List A → Hh → Option A} (hp : Prim X.K r g) (hc : CallR X (.builtin id) r) (hg : Gl X x) (hm : X.mg x = none) (hv : bootBuiltins x = some (.builtin id)) (ha : PA X (e :: es) (tA X.K Γ E fs)) (hn : x ≠ "__name__" := by decide) (hdb : (x == ("__debug__" : Str)) = false := by decide)
    (he : starEach (e :: es) X.env = (false, eval e X.env) :: starEach es X.env := by rfl) (hpl : (backTo pos (starEach es X.env)).any (·.1) = false := by rfl) : PE X (.Call (.Name x p) (e :: es) [] pos) (tE X.K Γ E (fPrim g fs)) :=
  pe_imp (pe_callB hc hg hm hv ha hn hdb he hpl) fun _ _ _ => tE_prim hp
theorem e_callT {x : Str} {p : Pos} {e : Expr} {id : String} {r : List V → Hp → VK → Prop} {g : List A → Hh → Option A} (hp : Prim X.K r g) (hc : CallR X (.type id) r) (hg : Gl X x) (hm : X.mg x = none) (hv : bootBuiltins x = some (.type id)) (ha : PA X (e :: es) (tA X.K Γ E fs)) (hn : x ≠ "__name__" := by decide) (hdb : (x == ("__debug__" : Str)) = false := by decide)
    (he : starEach (e :: es) X.env = (false, eval e X.env) :: starEach es X.env := by rfl) (hpl : (backTo pos (starEach es X.env)).any (·.1) = false := by rfl) : PE X (.Call (.Name x p) (e :: es) [] pos) (tE X.K Γ E (fPrim g fs)) :=
  pe_imp (pe_callTy hc hg hm hv ha hn hdb he hpl) fun _ _ _ => tE_prim hp
theorem e_ix {a b : Expr} {f g : EF} {r : R2} {gg : List A → Hh → Option A} (hp : Prim X.K (r2L r) gg) (hr : IxR X r) (ha : PE X a (tE X.K Γ E f)) (hb : PE X b (tE X.K Γ E g)) (hs : PlainIx b := by exact fun _ _ => rfl) : PE X (.Subscript a b pos) (tE X.K Γ E (fPrim gg (fCons f (fCons g fNil)))) :=
  pe_imp (pe_ix hr ha hb hs) fun _ _ _ => tE_op hp
end
/-! ### one value -/
section
variable {K : PySem.W.Frag}
theorem ras1 {F W H : Hp} {μ P : List Addr} {a : A} {vs : List V} (r : RAs K F W H μ [a] vs P) : ∃ v, vs = [v] ∧ RA K F W H μ a v P := by
  cases r with
  | cons r t =>
    cases t
    rw [List.append_nil]
    exact ⟨_, rfl, r⟩
theorem ras2 {F W H : Hp} {μ P : List Addr} {a b : A} {vs : List V} (r : RAs K F W H μ [a, b] vs P) : ∃ v w P1 P2, vs = [v, w] ∧ RA K F W H μ a v P1 ∧ RA K F W H μ b w P2 ∧ P = P1 ++ P2 := by
  cases r with
  | cons r t =>
    cases t with
    | cons r2 t =>
      cases t
      refine ⟨_, _, _, _, rfl, r, r2, ?_⟩
      rw [List.append_nil]
end
/-- len of anything that has one -/
def gLen : List A → Hh → Option A
  | [.loc k], h => match h[k]? with
    | some (.lst ds) => some (.dat (.int ds.length))
    | _ => none
  | [.scr ns], _ => some (.dat (.int ns.length))
  | [a], _ => match a.lst with
    | some ds => some (.dat (.int ds.length))
    | none => match a.tup with
      | some ds => some (.dat (.int ds.length))
      | none => none
  | _, _ => none
theorem RC.get {K : PySem.W.Frag} {F H : Hp} : ∀ {h : Hh} {μ O : List Addr} {k : Nat} {c : Ce}, RC K F H h μ O → h[k]? = some c → ∃ p P, μ[k]? = some p ∧ RQ K F H c p P ∧ ∀ q ∈ P, q ∈ O
  | _, _, _, _, _, .nil, e => by simp at e
  | _, _, _, 0, _, .cons r t, e => by
    simp at e
    subst e
    exact ⟨_, _, rfl, r, fun q hq => List.mem_append_left _ hq⟩
  | _, _, _, k + 1, _, .cons r t, e => by
    obtain ⟨p, P, h1, h2, h3⟩ := RC.get (k := k) t (by simpa using e)
    exact ⟨p, P, by simpa using h1, h2, fun q hq => List.mem_append_right _ (h3 q hq)⟩
section
variable {K : PySem.W.Frag}
theorem sc_go {H : Hp} {μ Oc T P : List Addr} {Q : VK} {d : D} {v : V} (sc : ∀ F, Dq K F v d)
    (go : ∀ v H' P', Ex H H' → (∀ q ∈ P', q ∈ P ∨ H q = none) → P'.Nodup → RA K (mns H' (Oc ++ (T ++ P'))) (mns H' Oc) H' μ (.dat d) v P' → Q v H') : Q v H :=
  go v H [] (Ex.refl _) (fun _ z => absurd z List.not_mem_nil) List.nodup_nil (.dat (sc _))
theorem prim_len : Prim K (fun xs H Q => ∃ p ys, xs = [.ref p] ∧ (SqL K H p ys ∨ SqT K H p ys) ∧ Q (.int ys.length) H) gLen := by
  intro H μ Oc T P h as vs a Q nd rc ra lv hg go
  unfold gLen at hg
  split at hg
  · obtain ⟨v, rfl, r⟩ := ras1 ra
    cases r with
    | loc hk =>
      split at hg
      · rename_i ds hc
        cases hg
        obtain ⟨p, P1, e1, e2, _⟩ := rc.get hc
        rw [hk] at e1
        cases e1
        cases e2 with
        | lst e3 e4 =>
          refine ⟨_, _, rfl, .inl (.of e3), ?_⟩
          rw [dps_length e4]
          exact sc_go (fun _ => .int _) go
      · cases hg
  · obtain ⟨v, rfl, r⟩ := ras1 ra
    cases hg
    cases r with
    | scr hs =>
      refine ⟨_, _, rfl, .inl (ex_sqL exFH hs), ?_⟩
      rw [List.length_map]
      exact sc_go (fun _ => .int _) go
  · obtain ⟨v, rfl, r⟩ := ras1 ra
    split at hg
    · rename_i ds hl
      cases hg
      obtain ⟨p, ws, rfl, e1, e2⟩ := r.itemsL hl
      refine ⟨_, _, rfl, .inl (.of e1), ?_⟩
      rw [dps_length e2]
      exact sc_go (fun _ => .int _) go
    · split at hg
      · rename_i ds hl
        cases hg
        obtain ⟨p, ws, rfl, e1, e2⟩ := r.itemsT hl
        refine ⟨_, _, rfl, .inr e1.sq, ?_⟩
        rw [dps_length e2]
        exact sc_go (fun _ => .int _) go
      · cases hg
  · cases hg
end
/-- list(x), tuple(x) -/
def gListOf : List A → Hh → Option A
  | [a], _ => match a.lst with
    | some ds => some (.ob (.lst ds))
    | none => (a.tup).map fun ds => .ob (.lst ds)
  | _, _ => none
def gTupOf : List A → Hh → Option A
  | [a], _ => match a.lst with
    | some ds => some (.dat (.tuple ds))
    | none => (a.tup).map fun ds => .dat (.tuple ds)
  | _, _ => none
theorem nd1 (p : Addr) : [p].Nodup := List.nodup_cons.mpr ⟨List.not_mem_nil, List.nodup_nil⟩
theorem in1 {H : Hp} {P : List Addr} {p : Addr} (hp : H p = none) : ∀ q ∈ [p], q ∈ P ∨ H q = none := fun q z => .inr (by
  have e : q = p := by simpa using z
  rw [e]; exact hp)
section
variable {K : PySem.W.Frag}
theorem newL_go {H : Hp} {μ Oc T P : List Addr} {Q : VK} {p : Addr} {ws : List V} {ds : List D} (hp : H p = none) (d : DqAll K (mns H (Oc ++ (T ++ P))) ws ds)
    (go : ∀ v H' P', Ex H H' → (∀ q ∈ P', q ∈ P ∨ H q = none) → P'.Nodup → RA K (mns H' (Oc ++ (T ++ P'))) (mns H' Oc) H' μ (.ob (.lst ds)) v P' → Q v H') : Q (.ref p) (upd H p (.lst ws)) :=
  go _ _ [p] (Ex.new hp) (in1 hp) (nd1 p) (ra_newL hp d)
theorem newT_go {H : Hp} {μ Oc T P : List Addr} {Q : VK} {p : Addr} {o : HO} {ws : List V} {ds : List D} (hp : H p = none) (ho : PlT o ws) (nO : p ∉ Oc) (nT : p ∉ T) (d : DqAll K (mns H (Oc ++ (T ++ P))) ws ds)
    (go : ∀ v H' P', Ex H H' → (∀ q ∈ P', q ∈ P ∨ H q = none) → P'.Nodup → RA K (mns H' (Oc ++ (T ++ P'))) (mns H' Oc) H' μ (.dat (.tuple ds)) v P' → Q v H') : Q (.ref p) (upd H p o) :=
  go _ _ [] (Ex.new hp) (fun _ z => absurd z List.not_mem_nil) List.nodup_nil (ra_newT hp ho nO nT d)
theorem old_go {H : Hp} {μ Oc T P : List Addr} {Q : VK} {v : V} {d : D} (r : Dq K (mns H (Oc ++ (T ++ P))) v d)
    (go : ∀ v H' P', Ex H H' → (∀ q ∈ P', q ∈ P ∨ H q = none) → P'.Nodup → RA K (mns H' (Oc ++ (T ++ P'))) (mns H' Oc) H' μ (.dat d) v P' → Q v H') : Q v H :=
  go v H [] (Ex.refl _) (fun _ z => absurd z List.not_mem_nil) List.nodup_nil (ra_dat r)
theorem prim_listOf : Prim K (fun xs H Q => ∃ p ys, xs = [.ref p] ∧ (SqL K H p ys ∨ SqT K H p ys) ∧ ∀ l, H l = none → Q (.ref l) (upd H l (.lst ys))) gListOf := by
  intro H μ Oc T P h as vs a Q nd rc ra lv hg go
  unfold gListOf at hg
  split at hg
  · obtain ⟨v, rfl, r⟩ := ras1 ra
    split at hg
    · rename_i ds hl
      cases hg
      obtain ⟨p, ws, rfl, e1, e2⟩ := r.itemsL hl
      exact ⟨_, _, rfl, .inl (.of e1), fun l hn => newL_go hn e2 go⟩
    · obtain ⟨ds, hl, e⟩ := Option.map_eq_some_iff.mp hg
      cases e
      obtain ⟨p, ws, rfl, e1, e2⟩ := r.itemsT hl
      exact ⟨_, _, rfl, .inr e1.sq, fun l hn => newL_go hn e2 go⟩
  · cases hg
theorem prim_tupOf : Prim K (rTupOf K) gTupOf := by
  intro H μ Oc T P h as vs a Q nd rc ra lv hg go
  unfold gTupOf at hg
  split at hg
  · obtain ⟨v, rfl, r⟩ := ras1 ra
    split at hg
    · rename_i ds hl
      cases hg
      obtain ⟨p, ws, rfl, e1, e2⟩ := r.itemsL hl
      exact ⟨_, _, rfl, .inl ⟨.of e1, fun l o hn ho => newT_go hn ho (nin_c rc hn) (nin_t lv hn) e2 go⟩⟩
    · obtain ⟨ds, hl, e⟩ := Option.map_eq_some_iff.mp hg
      cases e
      obtain ⟨p, ws, rfl, e1, e2⟩ := r.itemsT hl
      refine ⟨_, _, rfl, .inr ⟨e1.sq, old_go ?_ go⟩⟩
      cases r with
      | dat r =>
        unfold A.tup at hl
        split at hl
        · rename_i z; cases z; cases hl; exact r
        · cases hl
      | sn r => cases hl
      | ob r => cases hl
      | loc r => cases hl
      | scr r => cases hl
      | dc r => cases hl
      | zz => cases hl
  · cases hg
end
end Mi
/-! Mini: places, slices, sums, sorts, in, index, isinstance. -/
namespace Mi
open PySem L2
section
variable {K : PySem.W.Frag} {F H : Hp}
theorem dps_atI {vs : List V} {ds : List D} {i : Int} {d : D} (r : DqAll K F vs ds) (h : atI ds i = some d) : ∃ v, atI vs i = some v ∧ Dq K F v d := by
  unfold atI at h ⊢
  rw [dps_length r]
  cases hj : ixN ds.length i with
  | none => rw [hj] at h; cases h
  | some j =>
    rw [hj] at h
    exact dps_get r h
end
/-- xs[i], t[i], script[i] -/
def gIx : List A → Hh → Option A
  | [.scr ns, .dat (.int i)], _ => (atI ns i).map fun n => .dat (.int n)
  | [a, .dat (.int i)], _ => match a.lst with
    | some ds => (atI ds i).map .dat
    | none => match a.tup with
      | some ds => (atI ds i).map .dat
      | none => none
  | _, _ => none
section
variable {K : PySem.W.Frag}
theorem dat_int {F W H : Hp} {μ P : List Addr} {v : V} {i : Int} (r : RA K F W H μ (.dat (.int i)) v P) : v = .int i ∧ P = [] := by
  cases r with
  | dat r => cases r; exact ⟨rfl, rfl⟩
theorem atI_map {α β : Type} (f : α → β) (xs : List α) (i : Int) : atI (xs.map f) i = (atI xs i).map f := by
  unfold atI
  rw [List.length_map]
  cases ixN xs.length i with
  | none => rfl
  | some j => show (xs.map f)[j]? = (xs[j]?).map f; rw [List.getElem?_map]
theorem prim_ix : Prim K (r2L (fun x y H Q => rIxL K x y H Q ∨ rIxT K x y H Q)) gIx := by
  intro H μ Oc T P h as vs a Q nd rc ra lv hg go
  unfold gIx at hg
  split at hg
  · obtain ⟨v, w, P1, P2, rfl, r1, r2, _⟩ := ras2 ra
    obtain ⟨rfl, _⟩ := dat_int r2
    obtain ⟨n, hn, e⟩ := Option.map_eq_some_iff.mp hg
    cases e
    cases r1 with
    | scr hs => exact ⟨_, _, rfl, .inl ⟨_, _, _, .int n, rfl, rfl, ex_sqL exFH hs, by rw [atI_map, hn]; rfl, sc_go (fun _ => .int _) go⟩⟩
  · obtain ⟨v, w, P1, P2, rfl, r1, r2, _⟩ := ras2 ra
    obtain ⟨rfl, _⟩ := dat_int r2
    split at hg
    · rename_i ds hl
      obtain ⟨d, hd, e⟩ := Option.map_eq_some_iff.mp hg
      cases e
      obtain ⟨p, ws, rfl, e1, e2⟩ := r1.itemsL hl
      obtain ⟨x, hx, dx⟩ := dps_atI e2 hd
      exact ⟨_, _, rfl, .inl ⟨_, _, _, _, rfl, rfl, .of e1, hx, old_go dx go⟩⟩
    · split at hg
      · rename_i ds hl
        obtain ⟨d, hd, e⟩ := Option.map_eq_some_iff.mp hg
        cases e
        obtain ⟨p, ws, rfl, e1, e2⟩ := r1.itemsT hl
        obtain ⟨x, hx, dx⟩ := dps_atI e2 hd
        exact ⟨_, _, rfl, .inr ⟨_, _, _, _, rfl, rfl, e1.sq, hx, old_go dx go⟩⟩
      · cases hg
  · cases hg
end
section
variable {X : Cx} {Γ : Nat → Addr} {E : XK} {pos : Pos} {a b : Expr} {f g : EF}
abbrev fIx (f g : EF) : EF := fPrim gIx (fCons f (fCons g fNil))
theorem e_at (ha : PE X a (tE X.K Γ E f)) (hb : PE X b (tE X.K Γ E g)) (hs : PlainIx b := by exact fun _ _ => rfl) : PE X (.Subscript a b pos) (tE X.K Γ E (fIx f g)) := e_ix prim_ix (ix_list.or ix_tup) ha hb hs
end
/-! ### slices -/
def cutD (ds : List D) (lo hi : Option Int) : List D := (ds.drop (HT.sIx ds.length 0 lo)).take (HT.sIx ds.length ds.length hi - HT.sIx ds.length 0 lo)
section
variable {K : PySem.W.Frag} {F : Hp}
theorem dps_take : ∀ (n : Nat) {vs : List V} {ds : List D}, DqAll K F vs ds → DqAll K F (vs.take n) (ds.take n)
  | 0, _, _, _ => .nil
  | _ + 1, _, _, .nil => .nil
  | n + 1, _, _, .cons h t => .cons h (dps_take n t)
theorem dps_drop : ∀ (n : Nat) {vs : List V} {ds : List D}, DqAll K F vs ds → DqAll K F (vs.drop n) (ds.drop n)
  | 0, _, _, r => r
  | _ + 1, _, _, .nil => .nil
  | n + 1, _, _, .cons h t => dps_drop n t
theorem dps_cut {vs : List V} {ds : List D} (lo hi : Option Int) (r : DqAll K F vs ds) : DqAll K F (cutV vs lo hi) (cutD ds lo hi) := by
  unfold cutV cutD
  rw [dps_length r]
  exact dps_take _ (dps_drop _ r)
theorem cutD_whole {ds : List D} {lo hi : Option Int} (h1 : HT.sIx ds.length 0 lo = 0) (h2 : HT.sIx ds.length ds.length hi = ds.length) : cutD ds lo hi = ds := by
  unfold cutD
  rw [h1, h2]
  simp
theorem dps_rev : ∀ {vs : List V} {ds : List D}, DqAll K F vs ds → DqAll K F vs.reverse ds.reverse
  | _, _, .nil => .nil
  | _, _, .cons h t => by
    rw [List.reverse_cons, List.reverse_cons]
    exact dps_append (dps_rev t) (.cons h .nil)
end
/-- the parts of a slice: an int or nothing -/
def fNo : En → Hh → Res (Option Int) := fun _ h => .ok none h
def fYes (f : EF) : En → Hh → Res (Option Int) := fun env h => (f env h).bind fun a h1 => match a with
  | .dat (.int i) => .ok (some i) h1
  | _ => .er
def gCut (lo hi : Option Int) : List A → Hh → Option A
  | [a], _ => match a.lst with
    | some ds => some (.ob (.lst (cutD ds lo hi)))
    | none => match a.tup with
      | some ds => some (.dat (.tuple (cutD ds lo hi)))
      | none => none
  | _, _ => none
def optI (a : A) : Option Int := match a with
  | .dat (.int i) => some i
  | _ => none
def A.i : A → Option Int
  | .dat (.int i) => some i
  | _ => none
def onI {α : Type} (a : A) (k : Int → Res α) : Res α := match a.i with
  | some i => k i
  | none => .er
theorem A.of_i {a : A} {i : Int} (h : a.i = some i) : a = .dat (.int i) := by
  unfold A.i at h
  split at h
  · cases h; rfl
  · cases h
def fInt (f : EF) : EF := fun env h => (f env h).bind fun a h1 => onI a fun i => .ok (.dat (.int i)) h1
/-- [e, lo, hi] as three values; a part that is not there is None -/
def gSl : List A → Hh → Option A
  | [a, .dat .none, .dat (.int j)], h => gCut none (some j) [a] h
  | [a, .dat (.int i), .dat .none], h => gCut (some i) none [a] h
  | [a, .dat (.int i), .dat (.int j)], h => gCut (some i) (some j) [a] h
  | _, _ => none
section
variable {K : PySem.W.Frag}
def rSl3 (r : V → Option Int → Option Int → Hp → VK → Prop) : List V → Hp → VK → Prop := fun vs H Q => ∃ x y z, vs = [x, y, z] ∧
  ((∃ j, y = .non ∧ z = .int j ∧ r x none (some j) H Q) ∨ (∃ i, y = .int i ∧ z = .non ∧ r x (some i) none H Q) ∨ ∃ i j, y = .int i ∧ z = .int j ∧ r x (some i) (some j) H Q)
theorem ras3 {F W H : Hp} {μ P : List Addr} {a b c : A} {vs : List V} (r : RAs K F W H μ [a, b, c] vs P) : ∃ v w x P1 P2 P3, vs = [v, w, x] ∧ RA K F W H μ a v P1 ∧ RA K F W H μ b w P2 ∧ RA K F W H μ c x P3 ∧ P = P1 ++ (P2 ++ P3) := by
  cases r with
  | cons r t =>
    obtain ⟨w, x, P2, P3, rfl, r2, r3, rfl⟩ := ras2 t
    exact ⟨_, _, _, _, _, _, rfl, r, r2, r3, rfl⟩
theorem dat_non {F W H : Hp} {μ P : List Addr} {v : V} (r : RA K F W H μ (.dat .none) v P) : v = .non ∧ P = [] := by
  cases r with
  | dat r => cases r; exact ⟨rfl, rfl⟩
theorem cut_go {H : Hp} {μ Oc T P P1 : List Addr} {h : Hh} {a a' : A} {v : V} {lo hi : Option Int} {Q : VK} (rc : RC K (mns H (Oc ++ (T ++ P))) H h μ Oc) (lv : ∀ q ∈ T, NF H q) (r : RA K (mns H (Oc ++ (T ++ P))) (mns H Oc) H μ a v P1) (hg : gCut lo hi [a] h = some a')
    (go : ∀ v H' P', Ex H H' → (∀ q ∈ P', q ∈ P ∨ H q = none) → P'.Nodup → RA K (mns H' (Oc ++ (T ++ P'))) (mns H' Oc) H' μ a' v P' → Q v H') : rSlL K v lo hi H Q ∨ rSlP K v lo hi H Q := by
  simp only [gCut] at hg
  · split at hg
    · rename_i ds hl
      cases hg
      obtain ⟨p, ws, rfl, e1, e2⟩ := r.itemsL hl
      exact .inl ⟨_, _, rfl, .of e1, fun l hn => newL_go hn (dps_cut lo hi e2) go⟩
    · split at hg
      · rename_i ds hl
        cases hg
        obtain ⟨p, ws, rfl, e1, e2⟩ := r.itemsT hl
        refine .inr ⟨_, _, rfl, e1.sq, fun hw => ?_, fun hw l o hn ho => newT_go hn ho (nin_c rc hn) (nin_t lv hn) (dps_cut lo hi e2) go⟩
        have el := dps_length e2
        rw [el] at hw
        rw [cutD_whole hw.1 hw.2] at go
        refine old_go ?_ go
        cases r with
        | dat r =>
          unfold A.tup at hl
          split at hl
          · rename_i z; cases z; cases hl; exact r
          · cases hl
        | sn r => cases hl
        | ob r => cases hl
        | loc r => cases hl
        | scr r => cases hl
        | dc r => cases hl
        | zz => cases hl
      · cases hg
theorem prim_sl : Prim K (rSl3 (fun x lo hi H Q => rSlL K x lo hi H Q ∨ rSlP K x lo hi H Q)) gSl := by
  intro H μ Oc T P h as vs a Q nd rc ra lv hg go
  unfold gSl at hg
  split at hg
  · obtain ⟨v, w, x, P1, P2, P3, rfl, r1, r2, r3, _⟩ := ras3 ra
    obtain ⟨rfl, _⟩ := dat_non r2
    obtain ⟨rfl, _⟩ := dat_int r3
    exact ⟨_, _, _, rfl, .inl ⟨_, rfl, rfl, cut_go rc lv r1 hg go⟩⟩
  · obtain ⟨v, w, x, P1, P2, P3, rfl, r1, r2, r3, _⟩ := ras3 ra
    obtain ⟨rfl, _⟩ := dat_int r2
    obtain ⟨rfl, _⟩ := dat_non r3
    exact ⟨_, _, _, rfl, .inr (.inl ⟨_, rfl, rfl, cut_go rc lv r1 hg go⟩)⟩
  · obtain ⟨v, w, x, P1, P2, P3, rfl, r1, r2, r3, _⟩ := ras3 ra
    obtain ⟨rfl, _⟩ := dat_int r2
    obtain ⟨rfl, _⟩ := dat_int r3
    exact ⟨_, _, _, rfl, .inr (.inr ⟨_, _, rfl, rfl, cut_go rc lv r1 hg go⟩)⟩
  · cases hg
end
section
variable {X : Cx} {Γ : Nat → Addr} {E : XK} {pos p2 : Pos} {a b c : Expr} {f g k : EF}
abbrev fSl (f g k : EF) : EF := fPrim gSl (fCons f (fCons g (fCons k fNil)))
theorem e_slHi (ha : PE X a (tE X.K Γ E f)) (hb : PE X b (tE X.K Γ E g)) : PE X (.Subscript a (.Slice none (some b) none p2) pos) (tE X.K Γ E (fSl f (fC .none) g)) :=
  pe_imp (pe_slice (sl_list.or sl_tupP) ha po_none (po_some hb)) fun σ H Q q => by
    refine tE_mono (fun x H1 q1 => ?_) (tA_cons (tE_prim prim_sl q))
    have q2 := tE_C (v := .non) (fun _ => .non) (tA_cons q1)
    refine tE_mono (fun z H3 q3 => ?_) (tA_cons q2)
    obtain ⟨x', y', z', e, q⟩ := tA_nil q3
    cases e
    rcases q with ⟨j, _, rfl, q⟩ | ⟨i, e, _⟩ | ⟨i, j, e, _⟩
    · exact ⟨j, rfl, q⟩
    · cases e
    · cases e
theorem e_slLo (ha : PE X a (tE X.K Γ E f)) (hb : PE X b (tE X.K Γ E g)) : PE X (.Subscript a (.Slice (some b) none none p2) pos) (tE X.K Γ E (fSl f g (fC .none))) :=
  pe_imp (pe_slice (sl_list.or sl_tupP) ha (po_some hb) po_none) fun σ H Q q => by
    refine tE_mono (fun x H1 q1 => ?_) (tA_cons (tE_prim prim_sl q))
    refine tE_mono (fun y H2 q2 => ?_) (tA_cons q1)
    have q3 := tE_C (v := .non) (fun _ => .non) (tA_cons q2)
    obtain ⟨x', y', z', e, q⟩ := tA_nil q3
    cases e
    rcases q with ⟨j, _, e, _⟩ | ⟨i, rfl, _, q⟩ | ⟨i, j, _, e, _⟩
    · cases e
    · exact ⟨i, rfl, q⟩
    · cases e
theorem tE_int {K : PySem.W.Frag} {σ : L2.St} {H : Hp} {Q : VK} (q : tE K Γ E (fInt f) σ H Q) : tE K Γ E f σ H fun y H1 => ∃ i, y = .int i ∧ Q y H1 := by
  obtain ⟨μ, Oc, T, env, h, s, go⟩ := q
  refine ⟨μ, Oc, T, env, h, s, ?_⟩
  unfold fInt at go
  cases hf : f env h with
  | er => rw [hf] at go; exact go.elim
  | exc c h1 => rw [hf] at go; exact go
  | ok a h1 =>
    rw [hf] at go
    intro v H1 μ1 Oc1 P1 p
    change GoE K Γ E (onI a fun i => .ok (.dat (.int i)) h1) σ H μ Oc T env Q at go
    unfold onI at go
    cases hb : a.i with
    | none => rw [hb] at go; exact go.elim
    | some i =>
      rw [hb] at go
      have ea := A.of_i hb
      subst ea
      obtain ⟨v', e, r⟩ := ras1 p.val
      cases e
      obtain ⟨rfl, rfl⟩ := dat_int r
      exact ⟨i, rfl, go _ H1 μ1 Oc1 [] p⟩
theorem e_slB (ha : PE X a (tE X.K Γ E f)) (hb : PE X b (tE X.K Γ E g)) (hc : PE X c (tE X.K Γ E k)) : PE X (.Subscript a (.Slice (some b) (some c) none p2) pos) (tE X.K Γ E (fSl f (fInt g) (fInt k))) :=
  pe_imp (pe_slice (sl_list.or sl_tupP) ha (po_some hb) (po_some hc)) fun σ H Q q => by
    refine tE_mono (fun x H1 q1 => ?_) (tA_cons (tE_prim prim_sl q))
    refine tE_mono (fun y H2 q2 => ?_) (tE_int (tA_cons q1))
    obtain ⟨i, rfl, q2⟩ := q2
    refine ⟨i, rfl, tE_mono (fun z H3 q3 => ?_) (tE_int (tA_cons q2))⟩
    obtain ⟨j, rfl, q3⟩ := q3
    obtain ⟨x', y', z', e, q⟩ := tA_nil q3
    cases e
    rcases q with ⟨j, e, _⟩ | ⟨i', _, e, _⟩ | ⟨i', j', e, e', q⟩
    · cases e
    · cases e
    · cases e; cases e'; exact ⟨_, rfl, q⟩
end
end Mi
/-! Mini: statements, defs, calls. -/
namespace Mi
open PySem L2
/-- B: what is owned around (the callers'), S: what the slots own -/
structure SSim (K : PySem.W.Frag) (H : Hp) (σ : L2.St) (μ Oc B S : List Addr) (env : En) (h : Hh) : Prop where
  nd : (Oc ++ (B ++ S)).Nodup
  cells : RC K (mns H (Oc ++ (B ++ S))) H h μ Oc
  slots : Slots K (mns H (Oc ++ (B ++ S))) H μ S env σ
  live : ∀ q ∈ B ++ S, NF H q
theorem SSim.sim {K : PySem.W.Frag} {H : Hp} {σ : L2.St} {μ Oc B S : List Addr} {env : En} {h : Hh} (s : SSim K H σ μ Oc B S env h) : Sim K H σ μ Oc (B ++ S) env h :=
  ⟨s.nd, s.cells, s.slots.mv (Ex.refl _) (Pre.refl _) (fun _ _ _ q => q) fun q hq => List.mem_append_right _ hq, s.live⟩
structure Gs (Oc S : List Addr) (H : Hp) (μ Oc' S' : List Addr) (H' : Hp) (μ' : List Addr) : Prop where
  keep : ∀ q o, q ∉ Oc → q ∉ S → H q = some o → H' q = some o
  newO : ∀ q ∈ Oc', q ∈ Oc ∨ q ∈ S ∨ H q = none
  newS : ∀ q ∈ S', q ∈ S ∨ H q = none
  dom : ∀ q, H' q = none → H q = none
  pre : Pre μ μ'
theorem Gs.refl (Oc S : List Addr) (H : Hp) (μ : List Addr) : Gs Oc S H μ Oc S H μ := ⟨fun _ _ _ _ h => h, fun _ h => .inl h, fun _ h => .inl h, fun _ h => h, Pre.refl μ⟩
theorem Gs.trans {Oc O1 O2 S S1 S2 μ μ1 μ2 : List Addr} {H H1 H2 : Hp} (a : Gs Oc S H μ O1 S1 H1 μ1) (b : Gs O1 S1 H1 μ1 O2 S2 H2 μ2) : Gs Oc S H μ O2 S2 H2 μ2 where
  keep := fun q o hq hs e => b.keep q o (fun z => by
    rcases a.newO q z with z | z | z
    · exact hq z
    · exact hs z
    · rw [e] at z; cases z) (fun z => by
    rcases a.newS q z with z | z
    · exact hs z
    · rw [e] at z; cases z) (a.keep q o hq hs e)
  newO := fun q hq => by
    rcases b.newO q hq with z | z | z
    · exact a.newO q z
    · exact .inr (a.newS q z)
    · exact .inr (.inr (a.dom q z))
  newS := fun q hq => by
    rcases b.newS q hq with z | z
    · exact a.newS q z
    · exact .inr (a.dom q z)
  dom := fun q h => a.dom q (b.dom q h)
  pre := a.pre.trans b.pre
theorem Gr.gs {Oc Oc' S μ μ' : List Addr} {H H' : Hp} (g : Gr Oc H μ Oc' H' μ') : Gs Oc S H μ Oc' S H' μ' :=
  ⟨fun q o h1 _ e => g.keep q o h1 e, fun q hq => (g.new q hq).imp id .inr, fun q hq => .inl hq, g.dom, g.pre⟩
structure SPs (K : PySem.W.Frag) (μ Oc B S : List Addr) (H : Hp) (σ' : L2.St) (env' : En) (h' : Hh) (H' : Hp) (μ' Oc' S' : List Addr) : Prop where
  sim : SSim K H' σ' μ' Oc' B S' env' h'
  gs : Gs Oc S H μ Oc' S' H' μ'
structure RPs (K : PySem.W.Frag) (μ Oc B S : List Addr) (H : Hp) (a : A) (h' : Hh) (v : V) (H' : Hp) (μ' Oc' P : List Addr) : Prop where
  gs : Gs Oc S H μ Oc' P H' μ'
  nd : (Oc' ++ (B ++ P)).Nodup
  cells : RC K (mns H' (Oc' ++ (B ++ P))) H' h' μ' Oc'
  val : RA K (mns H' (Oc' ++ (B ++ P))) (mns H' Oc') H' μ' a v P
def XPs (K : PySem.W.Frag) (Γ : Nat → Addr) (E : XK) (Oc B S : List Addr) (H : Hp) (μ : List Addr) (c : Nat) (h' : Hh) : Prop :=
  ∀ H' μ' Oc', Gs Oc S H μ Oc' [] H' μ' → (Oc' ++ B).Nodup → RC K (mns H' (Oc' ++ B)) H' h' μ' Oc' → E (.ref (Γ c)) none H'
section
variable (K : PySem.W.Frag) (Γ : Nat → Addr) (E : XK)
def GoS (f : SRes) (D : Ends) (H : Hp) (μ Oc B S : List Addr) : Prop := match f with
  | .nx env' h' => ∀ σ' H' μ' Oc' S', SPs K μ Oc B S H σ' env' h' H' μ' Oc' S' → D.nx σ' H'
  | .bk env' h' => ∀ σ' H' μ' Oc' S', SPs K μ Oc B S H σ' env' h' H' μ' Oc' S' → D.bk σ' H'
  | .ct env' h' => ∀ σ' H' μ' Oc' S', SPs K μ Oc B S H σ' env' h' H' μ' Oc' S' → D.ct σ' H'
  | .rt a h' => ∀ v H' μ' Oc' P, RPs K μ Oc B S H a h' v H' μ' Oc' P → D.rt v H'
  | .exc c h' => XPs K Γ E Oc B S H μ c h'
  | .er => False
def tS (f : SF) : TS := fun D σ H => ∃ μ Oc B S env h, SSim K H σ μ Oc B S env h ∧ GoS K Γ E (f env h) D H μ Oc B S
end
section
variable {K : PySem.W.Frag} {Γ : Nat → Addr} {E : XK} {σ σ1 : L2.St} {μ μ1 Oc Oc1 B S S1 P : List Addr} {env env1 : En} {H H1 : Hp} {h h1 : Hh} {D D' : Ends}
/-- from one state to the next one -/
theorem XPs.step {c : Nat} {h' : Hh} (g : Gs Oc S H μ Oc1 S1 H1 μ1) (x : XPs K Γ E Oc B S H μ c h') : XPs K Γ E Oc1 B S1 H1 μ1 c h' := fun H' μ' Oc' g' n r => x H' μ' Oc' (g.trans g') n r
theorem GoS.step {f : SRes} (g : Gs Oc S H μ Oc1 S1 H1 μ1) (go : GoS K Γ E f D H μ Oc B S) : GoS K Γ E f D H1 μ1 Oc1 B S1 := by
  cases f with
  | nx env' h' => exact fun σ' H' μ' Oc' S' p => go σ' H' μ' Oc' S' ⟨p.sim, g.trans p.gs⟩
  | bk env' h' => exact fun σ' H' μ' Oc' S' p => go σ' H' μ' Oc' S' ⟨p.sim, g.trans p.gs⟩
  | ct env' h' => exact fun σ' H' μ' Oc' S' p => go σ' H' μ' Oc' S' ⟨p.sim, g.trans p.gs⟩
  | rt a h' => exact fun v H' μ' Oc' P p => go v H' μ' Oc' P ⟨g.trans p.gs, p.nd, p.cells, p.val⟩
  | exc c h' => exact XPs.step g go
  | er => exact go
theorem SSim.refl (s : SSim K H σ μ Oc B S env h) : SPs K μ Oc B S H σ env h H μ Oc S := ⟨s, Gs.refl _ _ _ _⟩
/-! ### blocks -/
def fNx : SF := fun env h => .nx env h
def fSeq (f g : SF) : SF := fun env h => match f env h with
  | .nx env1 h1 => g env1 h1
  | r => r
theorem tS_nil : tS K Γ E fNx D σ H → tNext D σ H := by
  rintro ⟨μ, Oc, B, S, env, h, s, go⟩
  exact go σ H μ Oc S s.refl
theorem tS_seq {f g : SF} : tS K Γ E (fSeq f g) D σ H → tSeq (tS K Γ E f) (tS K Γ E g) D σ H := by
  rintro ⟨μ, Oc, B, S, env, h, s, go⟩
  refine ⟨μ, Oc, B, S, env, h, s, ?_⟩
  unfold fSeq at go
  cases hf : f env h with
  | nx env1 h1 =>
    rw [hf] at go
    exact fun σ1 H1 μ1 Oc1 S1 p => ⟨μ1, Oc1, B, S1, env1, h1, p.sim, GoS.step p.gs go⟩
  | bk env1 h1 => rw [hf] at go; exact go
  | ct env1 h1 => rw [hf] at go; exact go
  | rt a h1 => rw [hf] at go; exact go
  | exc c h1 => rw [hf] at go; exact go
  | er => rw [hf] at go; exact go
/-! ### the values behind an expression, in a statement -/
/-- behind an expression: the state, the new values owned by S -/
theorem PsA.ssim {as : List A} {vs : List V} (s : SSim K H σ μ Oc B S env h) (p : PsA K σ μ Oc (B ++ S) env H as h1 vs H1 μ1 Oc1 P) : SSim K H1 σ μ1 Oc1 B (S ++ P) env h1 ∧ Gs Oc S H μ Oc1 (S ++ P) H1 μ1 := by
  have eT : Oc1 ++ (B ++ (S ++ P)) = Oc1 ++ ((B ++ S) ++ P) := by rw [List.append_assoc B]
  refine ⟨⟨by rw [eT]; exact p.nd, by rw [eT]; exact p.cells, ?_, fun q hq => ?_⟩, ⟨fun q o h1 _ e => p.gr.keep q o h1 e, fun q hq => (p.gr.new q hq).imp id .inr, fun q hq => ?_, p.gr.dom, p.gr.pre⟩⟩
  · rw [eT]
    have e : Ex (mns H (Oc ++ (B ++ S))) (mns H1 (Oc1 ++ ((B ++ S) ++ P))) := fr_step p.gr fun x hx => (List.mem_append.mp hx).elim .inl fun z => .inr (p.fresh x z)
    exact s.slots.mv e p.gr.pre (ag_step p.gr s.nd fun x hx => List.mem_append_right _ hx) fun q hq => List.mem_append_left _ hq
  · rw [← List.append_assoc] at hq
    exact (List.mem_append.mp hq).elim (p.live q) (p.val.there q)
  · exact (List.mem_append.mp hq).imp id (p.fresh q)
/-- .. and dropped -/
theorem PsA.ssim0 {as : List A} {vs : List V} (s : SSim K H σ μ Oc B S env h) (p : PsA K σ μ Oc (B ++ S) env H as h1 vs H1 μ1 Oc1 P) : SPs K μ Oc B S H σ env h1 H1 μ1 Oc1 S := by
  obtain ⟨s1, g1⟩ := (p.drop).ssim s
  rw [List.append_nil] at s1 g1
  exact ⟨s1, g1⟩
theorem XPs.of {c : Nat} {h' : Hh} (x : XPs K Γ E Oc B S H μ c h') : PsX K Γ E Oc (B ++ S) H μ c h' := fun H' μ' Oc' g n r => by
  have e : Ex (mns H' (Oc' ++ (B ++ S))) (mns H' (Oc' ++ B)) := mns_mono fun q hq => (List.mem_append.mp hq).elim (List.mem_append_left _) fun z => List.mem_append_right _ (List.mem_append_left _ z)
  refine x H' μ' Oc' ⟨fun q o h1 _ e => g.keep q o h1 e, fun q hq => (g.new q hq).imp id .inr, fun q hq => absurd hq List.not_mem_nil, g.dom, g.pre⟩ ?_ (r.mv e fun _ _ _ q => q)
  rw [← List.append_assoc] at n
  exact nd_l n
/-- an expression, then what is done with its value -/
theorem tS_expr {f : EF} {k : A → En → Hh → SRes} {Q : VK} (hq : ∃ μ Oc B S env h, SSim K H σ μ Oc B S env h ∧ GoS K Γ E (match f env h with | .ok a h1 => k a env h1 | .exc c h1 => .exc c h1 | .er => .er) D H μ Oc B S)
    (hk : ∀ μ Oc B S env h a h1 v H1 μ1 Oc1 P, SSim K H σ μ Oc B S env h → PsA K σ μ Oc (B ++ S) env H [a] h1 [v] H1 μ1 Oc1 P → GoS K Γ E (k a env h1) D H μ Oc B S → Q v H1) : tE K Γ E f σ H Q := by
  obtain ⟨μ, Oc, B, S, env, h, s, go⟩ := hq
  refine ⟨μ, Oc, B ++ S, env, h, s.sim, ?_⟩
  cases hf : f env h with
  | er => rw [hf] at go; exact go
  | exc c h1 => rw [hf] at go; exact XPs.of go
  | ok a h1 => rw [hf] at go; exact fun v H1 μ1 Oc1 P p => hk μ Oc B S env h a h1 v H1 μ1 Oc1 P s p go
def onE (r : Res A) (k : A → Hh → SRes) : SRes := match r with
  | .ok a h1 => k a h1
  | .exc c h1 => .exc c h1
  | .er => .er
/-! ### an expression whose value is dropped; return -/
def fDrop (f : EF) : SF := fun env h => onE (f env h) fun _ h1 => .nx env h1
theorem tS_drop {f : EF} : tS K Γ E (fDrop f) D σ H → tDrop (tE K Γ E f) D σ H := fun hq =>
  tS_expr (k := fun _ env h1 => .nx env h1) hq fun μ Oc B S env h a h1 v H1 μ1 Oc1 P s p go => go σ H1 μ1 Oc1 S (p.ssim0 s)
def onRet (a : A) (h : Hh) : SRes := match a with
  | .sn _ => .er
  | a => .rt a h
def fRet (f : EF) : SF := fun env h => onE (f env h) onRet
theorem nd_drop {Oc B S P : List Addr} (n : (Oc ++ ((B ++ S) ++ P)).Nodup) : (Oc ++ (B ++ P)).Nodup := by
  refine nd_mk (nd_l n) (nd_mk (nd_l (nd_l (nd_r n))) (nd_r (nd_r n)) fun q a b => nd_ne (nd_r n) (List.mem_append_left _ a) b) fun q a b => ?_
  rcases List.mem_append.mp b with z | z
  · exact nd_ne n a (List.mem_append_left _ (List.mem_append_left _ z))
  · exact nd_ne n a (List.mem_append_right _ z)
theorem tS_ret {f : EF} : tS K Γ E (fRet f) D σ H → tRet (tE K Γ E f) D σ H := fun hq =>
  tS_expr (k := fun a env h1 => onRet a h1) hq fun μ Oc B S env h a h1 v H1 μ1 Oc1 P s p go => by
    have eB : Ex (mns H1 (Oc1 ++ ((B ++ S) ++ P))) (mns H1 (Oc1 ++ (B ++ P))) := mns_mono fun q hq => (List.mem_append.mp hq).elim (List.mem_append_left _) fun z =>
      List.mem_append_right _ ((List.mem_append.mp z).elim (fun z => List.mem_append_left _ (List.mem_append_left _ z)) fun z => List.mem_append_right _ z)
    obtain ⟨v', ev, r⟩ := ras1 p.val
    cases ev
    have key : ∀ a', RA K (mns H1 (Oc1 ++ (B ++ P))) (mns H1 Oc1) H1 μ1 a' v P → GoS K Γ E (.rt a' h1) D H μ Oc B S → D.rt v H1 := fun a' r' go =>
      go v H1 μ1 Oc1 P ⟨⟨fun q o h1 _ e => p.gr.keep q o h1 e, fun q hq => (p.gr.new q hq).imp id .inr, fun q hq => .inr (p.fresh q hq), p.gr.dom, p.gr.pre⟩, nd_drop p.nd, p.cells.mv eB fun _ _ _ q => q, r'⟩
    cases r with
    | dat r => exact key _ (.dat (ex_dp eB r)) go
    | sn r => exact go.elim
    | ob r => exact key _ (.ob (r.mv eB fun _ _ _ q => q)) go
    | loc r => exact key _ (.loc r) go
    | scr r => exact key _ (.scr (ex_sqL eB r)) go
    | dc r => exact key _ (.dc r) go
    | zz => exact key _ .zz go
/-- return x: what x owns goes with it -/
def fRetV (i : Nat) : SF := fun env h => match env[i]? with
  | some (some a) => onRet a h
  | _ => .er
theorem RS.sub : ∀ {F H : Hp} {μ : List Addr} {env : En} {σ : L2.St} {O : List Addr} {i : Nat} {a : A}, RS K F H μ env σ O → env[i]? = some (some a) → ∃ v P, σ[i]? = some (some v) ∧ RA K F F H μ a v P ∧ P.Sublist O
  | _, _, _, _, _, _, _, _, .nil, e => by simp at e
  | _, _, _, _, _, _, 0, _, .no t, e => by simp at e
  | _, _, _, _, _, _, 0, _, .so r t, e => by
    simp at e
    subst e
    exact ⟨_, _, rfl, r, List.sublist_append_left _ _⟩
  | _, _, _, _, _, _, i + 1, _, .no t, e => by
    obtain ⟨v, P, h1, h2, h3⟩ := RS.sub (i := i) t (by simpa using e)
    exact ⟨v, P, by simpa using h1, h2, h3⟩
  | _, _, _, _, _, _, i + 1, _, .so r t, e => by
    obtain ⟨v, P, h1, h2, h3⟩ := RS.sub (i := i) t (by simpa using e)
    exact ⟨v, P, by simpa using h1, h2, h3.trans (List.sublist_append_right _ _)⟩
theorem tS_retV {i : Nat} : tS K Γ E (fRetV i) D σ H → tRet (tVar i) D σ H := by
  rintro ⟨μ, Oc, B, S, env, h, s, go⟩
  unfold fRetV at go
  split at go
  · rename_i a ha
    obtain ⟨Os, h1, h2, h3⟩ := s.slots
    obtain ⟨v, P, e1, e2, e3⟩ := h3.sub ha
    refine ⟨v, e1, ?_⟩
    have hP : ∀ q ∈ P, q ∈ S := fun q hq => h1 q (e3.subset hq)
    have eB : Ex (mns H (Oc ++ (B ++ S))) (mns H (Oc ++ (B ++ P))) := mns_mono fun q hq => (List.mem_append.mp hq).elim (List.mem_append_left _) fun z =>
      List.mem_append_right _ ((List.mem_append.mp z).elim (List.mem_append_left _) fun z => List.mem_append_right _ (hP q z))
    have nd : (Oc ++ (B ++ P)).Nodup := by
      have n := s.nd
      refine nd_mk (nd_l n) (nd_mk (nd_l (nd_r n)) (h2.sublist e3) fun q a b => nd_ne (nd_r n) a (hP q b)) fun q a b => ?_
      rcases List.mem_append.mp b with z | z
      · exact nd_ne n a (List.mem_append_left _ z)
      · exact nd_ne n a (List.mem_append_right _ (hP q z))
    have key : ∀ a', RA K (mns H (Oc ++ (B ++ P))) (mns H Oc) H μ a' v P → GoS K Γ E (.rt a' h) D H μ Oc B S → D.rt v H := fun a' r' go =>
      go v H μ Oc P ⟨⟨fun _ _ _ _ z => z, fun q hq => .inl hq, fun q hq => .inl (hP q hq), fun _ z => z, Pre.refl _⟩, nd, s.cells.mv eB fun _ _ _ q => q, r'⟩
    cases e2 with
    | dat r => exact key _ (.dat (ex_dp eB r)) go
    | sn r => exact go.elim
    | ob r => exact key _ (.ob (r.mv eB fun _ _ _ q => q)) go
    | loc r => exact key _ (.loc r) go
    | scr r => exact key _ (.scr (ex_sqL eB r)) go
    | dc r => exact key _ (.dc r) go
    | zz => exact key _ .zz go
  · exact go.elim
/-! ### if, assignments -/
def fIf (t : TF) (f g : SF) : SF := fun env h => match t env h with
  | .ok b h1 => if b then f env h1 else g env h1
  | .exc c h1 => .exc c h1
  | .er => .er
theorem tS_if {t : TF} {f g : SF} : tS K Γ E (fIf t f g) D σ H → tIfS (tT K Γ E t) (tS K Γ E f) (tS K Γ E g) D σ H := by
  rintro ⟨μ, Oc, B, S, env, h, s, go⟩
  refine ⟨μ, Oc, B ++ S, env, h, s.sim, ?_⟩
  unfold fIf at go
  cases ht : t env h with
  | er => rw [ht] at go; exact go
  | exc c h1 => rw [ht] at go; exact XPs.of go
  | ok b h1 =>
    rw [ht] at go
    intro H1 μ1 Oc1 p
    have q := p.ssim0 s
    cases b with
    | true => exact ⟨μ1, Oc1, B, S, env, h1, q.sim, GoS.step q.gs go⟩
    | false => exact ⟨μ1, Oc1, B, S, env, h1, q.sim, GoS.step q.gs go⟩
/-- what a name is given: frozen, or owned -/
def frzA : A → Option A
  | .dat d => some (.dat d)
  | .ob c => some (.dat c.toD)
  | .loc k => some (.loc k)
  | .scr ns => some (.scr ns)
  | .sn _ => none
  | .dc _ => none
  | .zz => none
def ownA : A → Option A
  | .dat d => some (.dat d)
  | .ob c => some (.ob c)
  | .loc k => some (.loc k)
  | .scr ns => some (.scr ns)
  | .sn _ => none
  | .dc k => some (.dc k)
  | .zz => none
theorem RS.set : ∀ {F : Hp} {μ : List Addr} {env : En} {σ : L2.St} {O : List Addr} (i : Nat) {a : A} {v : V} {P : List Addr}, RS K F H μ env σ O → RA K F F H μ a v P → ∃ O', RS K F H μ (env.set i (some a)) (σ.set i (some v)) O' ∧ (∀ q ∈ O', q ∈ O ∨ q ∈ P) ∧ (O.Nodup → P.Nodup → (∀ q ∈ P, q ∉ O) → O'.Nodup)
  | _, _, _, _, _, i, a, v, P, .nil, r => ⟨[], by simpa using RS.nil, fun _ z => absurd z List.not_mem_nil, fun _ _ _ => List.nodup_nil⟩
  | _, _, _, _, _, 0, a, v, P, .no (O := O) t, r => by
    refine ⟨P ++ O, .so r t, fun q hq => (List.mem_append.mp hq).symm, fun n1 n2 n3 => nd_mk n2 n1 fun q a b => n3 q a b⟩
  | _, _, _, _, _, 0, a, v, P, .so (P := P0) (O := O) r0 t, r => by
    refine ⟨P ++ O, .so r t, fun q hq => (List.mem_append.mp hq).elim .inr fun z => .inl (List.mem_append_right _ z), fun n1 n2 n3 => nd_mk n2 (nd_r n1) fun q a b => n3 q a (List.mem_append_right _ b)⟩
  | _, _, _, _, _, i + 1, a, v, P, .no t, r => by
    obtain ⟨O', h1, h2, h3⟩ := RS.set i t r
    exact ⟨O', .no h1, h2, h3⟩
  | _, _, _, _, _, i + 1, a, v, P, .so (P := P0) (O := O) r0 t, r => by
    obtain ⟨O', h1, h2, h3⟩ := RS.set i t r
    refine ⟨P0 ++ O', .so r0 h1, fun q hq => ?_, fun n1 n2 n3 => ?_⟩
    · rcases List.mem_append.mp hq with z | z
      · exact .inl (List.mem_append_left _ z)
      · exact (h2 q z).imp (List.mem_append_right _) id
    · refine nd_mk (nd_l n1) (h3 (nd_r n1) n2 fun q a b => n3 q a (List.mem_append_right _ b)) fun q a b => ?_
      rcases h2 q b with z | z
      · exact nd_ne n1 a z
      · exact n3 q z (List.mem_append_left _ a)
/-- a name is given a value that has just come -/
theorem SSim.set {a' : A} {v : V} {P0 : List Addr} (i : Nat) (hg : Gs Oc S H μ Oc1 (S ++ P) H1 μ1) (s : SSim K H1 σ μ1 Oc1 B (S ++ P) env h1) (ns : (∀ q ∈ P0, q ∈ P)) (n0 : P0.Nodup)
    (sl : Slots K (mns H1 (Oc1 ++ (B ++ (S ++ P)))) H1 μ1 S env σ) (r : RA K (mns H1 (Oc1 ++ (B ++ (S ++ P0)))) (mns H1 (Oc1 ++ (B ++ (S ++ P0)))) H1 μ1 a' v P0) : SPs K μ Oc B S H (σ.set i (some v)) (env.set i (some a')) h1 H1 μ1 Oc1 (S ++ P0) := by
  have hsub : ∀ q ∈ S ++ P0, q ∈ S ++ P := fun q hq => (List.mem_append.mp hq).elim (List.mem_append_left _) fun z => List.mem_append_right _ (ns q z)
  have e : Ex (mns H1 (Oc1 ++ (B ++ (S ++ P)))) (mns H1 (Oc1 ++ (B ++ (S ++ P0)))) := mns_mono fun q hq => (List.mem_append.mp hq).elim (List.mem_append_left _) fun z =>
    List.mem_append_right _ ((List.mem_append.mp z).elim (List.mem_append_left _) fun z => List.mem_append_right _ (hsub q z))
  have nSP := nd_r (nd_r s.nd)
  have nd : (Oc1 ++ (B ++ (S ++ P0))).Nodup := by
    have n := s.nd
    refine nd_mk (nd_l n) (nd_mk (nd_l (nd_r n)) (nd_mk (nd_l nSP) n0 fun q a b => nd_ne nSP a (ns q b)) fun q a b => nd_ne (nd_r n) a (hsub q b)) fun q a b => ?_
    rcases List.mem_append.mp b with z | z
    · exact nd_ne n a (List.mem_append_left _ z)
    · exact nd_ne n a (List.mem_append_right _ (hsub q z))
  obtain ⟨Os, h1, h2, h3⟩ := sl
  obtain ⟨O', k1, k2, k3⟩ := (h3.mv e (Pre.refl _) fun _ _ _ q => q).set i r
  refine ⟨⟨nd, s.cells.mv e fun _ _ _ q => q, ⟨O', fun q hq => ?_, k3 h2 n0 fun q a b => nd_ne nSP (h1 q b) (ns q a), k1⟩, fun q hq => ?_⟩, ⟨hg.keep, hg.newO, fun q hq => hg.newS q (hsub q hq), hg.dom, hg.pre⟩⟩
  · rcases k2 q hq with z | z
    · exact List.mem_append_left _ (h1 q z)
    · exact List.mem_append_right _ z
  · refine s.live q ((List.mem_append.mp hq).elim (List.mem_append_left _) fun z => List.mem_append_right _ (hsub q z))
def onO (o : Option A) (k : A → SRes) : SRes := match o with
  | some a => k a
  | none => .er
def fSetF (i : Nat) (f : EF) : SF := fun env h => onE (f env h) fun a h1 => onO (frzA a) fun a' => .nx (env.set i (some a')) h1
def fSetO (i : Nat) (f : EF) : SF := fun env h => onE (f env h) fun a h1 => onO (ownA a) fun a' => .nx (env.set i (some a')) h1
theorem ra_frz {a a' : A} {v : V} {W : Hp} {T P : List Addr} (nd : (Oc ++ (T ++ P)).Nodup) (r : RA K (mns H (Oc ++ (T ++ P))) W H μ a v P) (ha : frzA a = some a') : RA K (mns H (Oc ++ (T ++ []))) (mns H (Oc ++ (T ++ []))) H μ a' v [] := by
  cases r with
  | dat r => cases ha; rw [List.append_nil]; exact .dat (ra_sto nd (RA.dat (W := W) (H := H) (μ := μ) r) (fun q z => absurd z List.not_mem_nil) rfl)
  | sn r => cases ha
  | ob r => cases ha; rw [List.append_nil]; exact .dat (ra_sto nd (RA.ob (W := W) (μ := μ) r) (fun q z => z) rfl)
  | loc r => cases ha; exact .loc r
  | scr r => cases ha; rw [List.append_nil]; exact .scr (ex_sqL exFG r)
  | dc r => cases ha
  | zz => cases ha
theorem ra_own {a a' : A} {v : V} {W G : Hp} {T P : List Addr} (r : RA K (mns H (Oc ++ (T ++ P))) W H μ a v P) (ha : ownA a = some a') : RA K (mns H (Oc ++ (T ++ P))) G H μ a' v P := by
  cases r with
  | dat r => cases ha; exact .dat r
  | sn r => cases ha
  | ob r => cases ha; exact .ob r
  | loc r => cases ha; exact .loc r
  | scr r => cases ha; exact .scr r
  | dc r => cases ha; exact .dc r
  | zz => cases ha
theorem PsA.slots' {as : List A} {vs : List V} (s : SSim K H σ μ Oc B S env h) (p : PsA K σ μ Oc (B ++ S) env H as h1 vs H1 μ1 Oc1 P) : Slots K (mns H1 (Oc1 ++ (B ++ (S ++ P)))) H1 μ1 S env σ := by
  have eT : Oc1 ++ (B ++ (S ++ P)) = Oc1 ++ ((B ++ S) ++ P) := by rw [List.append_assoc B]
  rw [eT]
  have e : Ex (mns H (Oc ++ (B ++ S))) (mns H1 (Oc1 ++ ((B ++ S) ++ P))) := fr_step p.gr fun x hx => (List.mem_append.mp hx).elim .inl fun z => .inr (p.fresh x z)
  exact s.slots.mv e p.gr.pre (ag_step p.gr s.nd fun x hx => List.mem_append_right _ hx) fun q hq => hq
theorem as3 {Oc B S P : List Addr} : Oc ++ (B ++ (S ++ P)) = Oc ++ ((B ++ S) ++ P) := by rw [List.append_assoc B]
theorem set_frz {a a' : A} {v : V} (i : Nat) (s : SSim K H σ μ Oc B S env h) (p : PsA K σ μ Oc (B ++ S) env H [a] h1 [v] H1 μ1 Oc1 P) (ha : frzA a = some a') : SPs K μ Oc B S H (σ.set i (some v)) (env.set i (some a')) h1 H1 μ1 Oc1 (S ++ []) := by
  obtain ⟨v', ev, r⟩ := ras1 p.val
  cases ev
  obtain ⟨s1, g1⟩ := p.ssim s
  refine SSim.set i g1 s1 (fun q z => absurd z List.not_mem_nil) List.nodup_nil (p.slots' s) ?_
  rw [as3]
  exact ra_frz p.nd r ha
theorem set_own {a a' : A} {v : V} (i : Nat) (s : SSim K H σ μ Oc B S env h) (p : PsA K σ μ Oc (B ++ S) env H [a] h1 [v] H1 μ1 Oc1 P) (ha : ownA a = some a') : SPs K μ Oc B S H (σ.set i (some v)) (env.set i (some a')) h1 H1 μ1 Oc1 (S ++ P) := by
  obtain ⟨v', ev, r⟩ := ras1 p.val
  cases ev
  obtain ⟨s1, g1⟩ := p.ssim s
  refine SSim.set i g1 s1 (fun q z => z) (nd_r (nd_r p.nd)) (p.slots' s) ?_
  rw [as3]
  exact ra_own r ha
theorem tS_setF {i : Nat} {f : EF} : tS K Γ E (fSetF i f) D σ H → tAsg (tE K Γ E f) (gName i) D σ H := fun hq =>
  tS_expr (k := fun a env h1 => onO (frzA a) fun a' => .nx (env.set i (some a')) h1) hq fun μ Oc B S env h a h1 v H1 μ1 Oc1 P s p go => by
    cases ha : frzA a with
    | none => rw [ha] at go; exact go.elim
    | some a' => rw [ha] at go; exact go _ H1 μ1 Oc1 _ (set_frz i s p ha)
theorem tS_setO {i : Nat} {f : EF} : tS K Γ E (fSetO i f) D σ H → tAsg (tE K Γ E f) (gName i) D σ H := fun hq =>
  tS_expr (k := fun a env h1 => onO (ownA a) fun a' => .nx (env.set i (some a')) h1) hq fun μ Oc B S env h a h1 v H1 μ1 Oc1 P s p go => by
    cases ha : ownA a with
    | none => rw [ha] at go; exact go.elim
    | some a' => rw [ha] at go; exact go _ H1 μ1 Oc1 _ (set_own i s p ha)
end
/-! ### the rules -/
section
variable {X : Cx} {Γ : Nat → Addr} {E : XK} {pos : Pos} {st : Stmt} {rest : List Stmt} {e : Expr} {f g : SF} {fe : EF}
theorem b_nil : PSs X [] (tS X.K Γ E fNx) := pss_imp pss_nil fun _ _ _ => tS_nil
theorem b_cons (h1 : PS X st (tS X.K Γ E f)) (h2 : PSs X rest (tS X.K Γ E g)) : PSs X (st :: rest) (tS X.K Γ E (fSeq f g)) := pss_imp (pss_cons h1 h2) fun _ _ _ => tS_seq
theorem b_one (h1 : PS X st (tS X.K Γ E f)) : PSs X [st] (tS X.K Γ E f) := pss_one h1
theorem s_expr (he : PE X e (tE X.K Γ E fe)) (hs : swapsWith e none pos.line X.env = pure false := by rfl) : PS X (.Expr e pos) (tS X.K Γ E (fDrop fe)) := ps_imp (ps_expr he hs) fun _ _ _ => tS_drop
theorem s_ret (he : PE X e (tE X.K Γ E fe)) : PS X (.Return (some e) pos) (tS X.K Γ E (fRet fe)) := ps_imp (ps_ret he) fun _ _ _ => tS_ret
theorem s_retV (i : Nat) {x : Str} {p2 : Pos} (hN : X.N[i]? = some x := by rfl) (hv : Vis X.env.scope x := by first | exact Or.inl rfl | exact Or.inr (Or.inl rfl) | exact Or.inr (Or.inr rfl)) (hd : (x == ("__debug__" : Str)) = false := by decide)
    (hcd : (x == ("__classdict__" : Str)) = false := by decide) : PS X (.Return (some (.Name x p2)) pos) (tS X.K Γ E (fRetV i)) := ps_imp (ps_ret (pe_var hN hv hd hcd)) fun _ _ _ => tS_retV
theorem s_if {c : Expr} {a b : List Stmt} {t : TF} (hc : PT X c (tT X.K Γ E t)) (ha : PSs X a (tS X.K Γ E f)) (hb : PSs X b (tS X.K Γ E g)) : PS X (.If c a b pos) (tS X.K Γ E (fIf t f g)) := ps_imp (ps_if hc ha hb) fun _ _ _ => tS_if
def fErr : SF := fun _ _ => .er
theorem s_never : PS X st (tS X.K Γ E fErr) := ps_imp ps_never fun D σ H ⟨_, _, _, _, _, _, _, go⟩ => go
theorem s_setF (i : Nat) {x : Str} {pos' : Pos} (hN : X.N.Nodup) (he : PE X e (tE X.K Γ E fe)) (hi : X.N[i]? = some x := by rfl) (hx : Loc X.env.scope x := by first | exact Or.inl rfl | exact Or.inr rfl) (hs : swapsWith e (some (.Name x pos')) pos.line X.env = pure false := by rfl) (hf : X.fn x = true ∨ X.env.scope.names.lookup x = some .local := by first | exact .inl rfl | exact .inr rfl | assumption) :
    PS X (.Assign [.Name x pos'] e pos) (tS X.K Γ E (fSetF i fe)) := ps_imp (ps_set hN hi hx he hs hf) fun _ _ _ => tS_setF
theorem s_setO (i : Nat) {x : Str} {pos' : Pos} (hN : X.N.Nodup) (he : PE X e (tE X.K Γ E fe)) (hi : X.N[i]? = some x := by rfl) (hx : Loc X.env.scope x := by first | exact Or.inl rfl | exact Or.inr rfl) (hs : swapsWith e (some (.Name x pos')) pos.line X.env = pure false := by rfl) (hf : X.fn x = true ∨ X.env.scope.names.lookup x = some .local := by first | exact .inl rfl | exact .inr rfl | assumption) :
    PS X (.Assign [.Name x pos'] e pos) (tS X.K Γ E (fSetO i fe)) := ps_imp (ps_set hN hi hx he hs hf) fun _ _ _ => tS_setO
end
end Mi
/-! Mini: calls of defs, defs. -/
namespace Mi
open PySem L2 PySem.Spec PyProof.Rows
mutual
def lf : D → Bool
  | .list _ => false
  | .tuple ds => lfs ds
  | .dict _ => false
  | _ => true
def lfs : List D → Bool
  | [] => true
  | d :: ds => lf d && lfs ds
end
def argA : A → A
  | .ob c => .dat c.toD
  | .sn c => .dat c.toD
  | .dc _ => .zz
  | a => a
def isSn : A → Bool
  | .sn _ => true
  | _ => false
def cellLf : Cell → Bool
  | .lst ds => lfs ds
  | .lst2 dss => dss.all lfs
def fvLf : Str × Fv → Bool
  | (_, .d e) => lf e
  | (_, .l ds) => lfs ds
def ceLf : Ce → Bool
  | .lst ds => lfs ds
  | .lst2 dss => dss.all lfs
  | .ins fs => fs.all fvLf
  | .no => true
  | .pt _ => true
def resOk : A → Bool
  | .dat d => lf d
  | .ob c => cellLf c
  | _ => false
def aft (w : Bool) (r : Res A) : Res A := match r with
  | .ok a h2 => if isSn a then .er else if w then (if resOk a && h2.all ceLf then .ok a h2 else .er) else .ok a h2
  | .exc c h2 => if w then (if h2.all ceLf then .exc c h2 else .er) else .exc c h2
  | .er => .er
def fCall (F : FF) (fs : AF) : EF := fun env h => (fs env h).bind fun as h1 => aft (as.any isSn) (F (as.map argA) h1)
section
variable {K : PySem.W.Frag} {Γ : Nat → Addr} {E : XK} {F G G' W H : Hp} {μ Oc T P : List Addr}
mutual
theorem lf_dq (k : ∀ a ob u, G a = some (.frz ob u) → G' a = some (.frz ob u)) : ∀ {v : V} {d : D}, lf d = true → Dq K G v d → Dq K G' v d
  | _, _, _, .non => .non
  | _, _, _, .bl b => .bl b
  | _, _, _, .int i => .int i
  | _, _, _, .str x => .str x
  | _, _, l, .lst h t => by simp [lf] at l
  | _, _, l, .tup h t => by
    refine .tup ?_ (lf_dqs k (by simpa [lf] using l) t)
    rcases h with ⟨ob, h, d⟩ | h
    · exact .inl ⟨ob, k _ _ _ h, d⟩
    · exact .inr h
theorem lf_dqs (k : ∀ a ob u, G a = some (.frz ob u) → G' a = some (.frz ob u)) : ∀ {vs : List V} {ds : List D}, lfs ds = true → DqAll K G vs ds → DqAll K G' vs ds
  | _, _, _, .nil => .nil
  | _, _, l, .cons h t => by
    rw [lfs] at l
    obtain ⟨l1, l2⟩ := Bool.and_eq_true_iff.mp l
    exact .cons (lf_dq k l1 h) (lf_dqs k l2 t)
end
theorem lf_rl (k : ∀ a ob u, G a = some (.frz ob u) → G' a = some (.frz ob u)) : ∀ {dss : List (List D)} {ps : List Addr}, dss.all lfs = true → RL K G H dss ps → RL K G' H dss ps
  | _, _, _, .nil => .nil
  | _, _, l, .cons h d t => by
    rw [List.all_cons] at l
    obtain ⟨l1, l2⟩ := Bool.and_eq_true_iff.mp l
    exact .cons h (lf_dqs k l1 d) (lf_rl k l2 t)
theorem lf_ro (k : ∀ a ob u, G a = some (.frz ob u) → G' a = some (.frz ob u)) {c : Cell} {p : Addr} {P : List Addr} (l : cellLf c = true) (r : RO K G H c p P) : RO K G' H c p P := by
  cases r with
  | lst h d => exact .lst h (lf_dqs k l d)
  | lst2 h r => exact .lst2 h (lf_rl k l r)
theorem lf_rfs (k : ∀ a ob u, G a = some (.frz ob u) → G' a = some (.frz ob u)) : ∀ {fs : List (Str × Fv)} {vs : List (Str × V)} {P : List Addr}, fs.all fvLf = true → RFs K G H fs vs P → RFs K G' H fs vs P
  | _, _, _, _, .nil => .nil
  | _, _, _, l, .d h t => by
    rw [List.all_cons] at l
    obtain ⟨l1, l2⟩ := Bool.and_eq_true_iff.mp l
    exact .d (lf_dq k l1 h) (lf_rfs k l2 t)
  | _, _, _, l, .l h d t => by
    rw [List.all_cons] at l
    obtain ⟨l1, l2⟩ := Bool.and_eq_true_iff.mp l
    exact .l h (lf_dqs k l1 d) (lf_rfs k l2 t)
theorem lf_rq (k : ∀ a ob u, G a = some (.frz ob u) → G' a = some (.frz ob u)) {c : Ce} {p : Addr} {P : List Addr} (l : ceLf c = true) (r : RQ K G H c p P) : RQ K G' H c p P := by
  cases r with
  | lst h d => exact .lst h (lf_dqs k l d)
  | lst2 h r => exact .lst2 h (lf_rl k l r)
  | no => exact .no
  | pt => exact .pt
  | ins hC h1 h2 r => exact .ins hC h1 h2 (lf_rfs k l r)
theorem lf_rc (k : ∀ a ob u, G a = some (.frz ob u) → G' a = some (.frz ob u)) : ∀ {h : Hh} {μ O : List Addr}, h.all ceLf = true → RC K G H h μ O → RC K G' H h μ O
  | _, _, _, _, .nil => .nil
  | _, _, _, l, .cons r t => by
    rw [List.all_cons] at l
    obtain ⟨l1, l2⟩ := Bool.and_eq_true_iff.mp l
    exact .cons (lf_rq k l1 r) (lf_rc k l2 t)
/-! ### what a def promises -/
/-- what a def's result is to be -/
def GoF (K : PySem.W.Frag) (Γ : Nat → Addr) (E : XK) (f : Res A) (H : Hp) (μ Oc B : List Addr) (Q : VK) : Prop := match f with
  | .ok a h' => ∀ v H' μ' Oc' P, Gr Oc H μ Oc' H' μ' → (∀ q ∈ P, H q = none) → (Oc' ++ (B ++ P)).Nodup → RC K (mns H' (Oc' ++ (B ++ P))) H' h' μ' Oc' → RA K (mns H' (Oc' ++ (B ++ P))) (mns H' Oc') H' μ' a v P → Q v H'
  | .exc c h' => PsX K Γ E Oc B H μ c h'
  | .er => False
def spF (K : PySem.W.Frag) (Γ : Nat → Addr) (n : Nat) (F : FF) : Sp := fun vs H Q E => vs.length = n ∧ ∃ μ Oc B as h, (Oc ++ B).Nodup ∧ RC K (mns H (Oc ++ B)) H h μ Oc ∧ RAs K (mns H (Oc ++ B)) (mns H (Oc ++ B)) H μ as vs [] ∧ (∀ q ∈ B, NF H q) ∧
  GoF K Γ E (F as h) H μ Oc B Q
theorem nd_add {T P : List Addr} (n : (Oc ++ P).Nodup) (nT : T.Nodup) (h1 : ∀ q ∈ T, q ∉ Oc) (h2 : ∀ q ∈ T, q ∉ P) : (Oc ++ (T ++ P)).Nodup :=
  nd_mk (nd_l n) (nd_mk nT (nd_r n) fun q a b => h2 q a b) fun q a b => (List.mem_append.mp b).elim (fun z => h1 q z a) (nd_ne n a)
/-- arguments handed on -/
theorem ra_arg {a : A} {v : V} {P' : List Addr} (nd : (Oc ++ (T ++ P)).Nodup) (hP : ∀ q ∈ P', q ∈ P) (hs : isSn a = false) (r : RA K (mns H (Oc ++ (T ++ P))) (mns H Oc) H μ a v P') : RA K (mns H (Oc ++ T)) (mns H (Oc ++ T)) H μ (argA a) v [] := by
  cases r with
  | dat r => exact .dat (ex_dp exFG r)
  | sn r => cases hs
  | ob r => exact .dat (ra_sto nd (RA.ob (W := mns H Oc) (μ := μ) r) hP rfl)
  | loc r => exact .loc r
  | scr r => exact .scr (ex_sqL exFG r)
  | dc r => exact .zz
  | zz => exact .zz
theorem ra_argW {a : A} {v : V} {P' : List Addr} (nd : (Oc ++ (T ++ P)).Nodup) (hP : ∀ q ∈ P', q ∈ P) (r : RA K (mns H (Oc ++ (T ++ P))) (mns H Oc) H μ a v P') : RA K (mns H (Oc ++ [])) (mns H (Oc ++ [])) H μ (argA a) v [] := by
  have e : Ex (mns H (Oc ++ T)) (mns H (Oc ++ [])) := mns_mono fun q hq => by
    rw [List.append_nil] at hq
    exact List.mem_append_left _ hq
  by_cases hs : isSn a = true
  · cases r with
    | sn r =>
      refine .dat (r.frz (Ex.trans exFG e) fun q _ o z => ?_)
      rw [List.append_nil]
      exact z
    | dat r => cases hs
    | ob r => cases hs
    | loc r => cases hs
    | scr r => cases hs
    | dc r => cases hs
    | zz => cases hs
  · exact (ra_arg nd hP (by simpa using hs) r).mv e e (fun _ z => absurd z List.not_mem_nil) (Pre.refl _)
theorem ras_arg (nd : (Oc ++ (T ++ P)).Nodup) : ∀ {as : List A} {vs : List V} {P' : List Addr}, (∀ q ∈ P', q ∈ P) → as.any isSn = false → RAs K (mns H (Oc ++ (T ++ P))) (mns H Oc) H μ as vs P' → RAs K (mns H (Oc ++ T)) (mns H (Oc ++ T)) H μ (as.map argA) vs []
  | _, _, _, _, _, .nil => .nil
  | _, _, _, hP, l, .cons r t => by
    rw [List.any_cons, Bool.or_eq_false_iff] at l
    exact RAs.cons (P := []) (P' := []) (ra_arg nd (fun q hq => hP q (List.mem_append_left _ hq)) l.1 r) (ras_arg nd (fun q hq => hP q (List.mem_append_right _ hq)) l.2 t)
theorem ras_argW (nd : (Oc ++ (T ++ P)).Nodup) : ∀ {as : List A} {vs : List V} {P' : List Addr}, (∀ q ∈ P', q ∈ P) → RAs K (mns H (Oc ++ (T ++ P))) (mns H Oc) H μ as vs P' → RAs K (mns H (Oc ++ [])) (mns H (Oc ++ [])) H μ (as.map argA) vs []
  | _, _, _, _, .nil => .nil
  | _, _, _, hP, .cons r t => RAs.cons (P := []) (P' := []) (ra_argW nd (fun q hq => hP q (List.mem_append_left _ hq)) r) (ras_argW nd (fun q hq => hP q (List.mem_append_right _ hq)) t)
theorem ra_ns {a : A} {v : V} (hs : isSn a = false) (W' : Hp) (r : RA K F W H μ a v P) : RA K F W' H μ a v P := by
  cases r with
  | dat r => exact .dat r
  | sn r => cases hs
  | ob r => exact .ob r
  | loc r => exact .loc r
  | scr r => exact .scr r
  | dc r => exact .dc r
  | zz => exact .zz
theorem tE_call {σ : L2.St} {n : Nat} {FN : FF} {fs : AF} {Q : VK} (hn : ∀ env h as h1, fs env h = .ok as h1 → as.length = n) : tE K Γ E (fCall FN fs) σ H Q → tCall (spF K Γ n FN) [] E (tA K Γ E fs) σ H Q := by
  rintro ⟨μ, Oc, T, env, h, s, go⟩
  refine ⟨μ, Oc, T, env, h, s, ?_⟩
  unfold fCall at go
  cases hf : fs env h with
  | er => rw [hf] at go; exact go
  | exc c h1 => rw [hf] at go; exact go
  | ok as h1 =>
    have hl := hn env h as h1 hf
    rw [hf] at go
    intro vs H1 μ1 Oc1 P1 p
    change GoE K Γ E (aft (as.any isSn) (FN (as.map argA) h1)) σ H μ Oc T env Q at go
    unfold aft at go
    rw [List.append_nil]
    refine ⟨by rw [ras_len p.val]; exact hl, ?_⟩
    have nOT : ∀ q ∈ T, q ∉ Oc1 := fun q hq => nd_ne' p.nd (List.mem_append_left _ hq)
    have nT : T.Nodup := nd_l (nd_r p.nd)
    -- behind the call, whatever was owned around
    have fin : ∀ a h2, isSn a = false → (∀ v H' μ' Oc' P, PsA K σ μ Oc T env H [a] h2 [v] H' μ' Oc' P → Q v H') → ∀ v H' μ' Oc' P, Gr Oc1 H1 μ1 Oc' H' μ' → (∀ q ∈ P, H1 q = none) → (Oc' ++ (T ++ P)).Nodup →
        RC K (mns H' (Oc' ++ (T ++ P))) H' h2 μ' Oc' → RA K (mns H' (Oc' ++ (T ++ P))) (mns H' Oc') H' μ' a v P → Q v H' := fun a h2 hsn go v H' μ' Oc' P g hfr nd rc ra => by
      have e : Ex (mns H1 (Oc1 ++ (T ++ P1))) (mns H' (Oc' ++ (T ++ P))) := fr_step g fun q hq => (List.mem_append.mp hq).elim (fun z => .inl (List.mem_append_left _ z)) fun z => .inr (hfr q z)
      refine go v H' μ' Oc' P ⟨p.gr.trans g, fun q hq => p.gr.dom q (hfr q hq), nd, rc, p.slots.mv e g.pre (ag_step g p.nd fun q hq => List.mem_append_left _ hq) fun _ z => z, one_val ra, fun q hq => ?_⟩
      obtain ⟨o, ho, nf⟩ := p.live q hq
      exact ⟨o, g.keep q o (nOT q hq) ho, nf⟩
    by_cases hw : as.any isSn = true
    · -- something is read off a slot: nothing around is known to be owned
      refine ⟨μ1, Oc1, [], as.map argA, h1, by rw [List.append_nil]; exact nd_l p.nd, p.cells.mv (mns_mono fun q hq => by
        rw [List.append_nil] at hq
        exact List.mem_append_left _ hq) (fun _ _ _ q => q), ras_argW p.nd (fun _ z => z) p.val, fun q z => absurd z List.not_mem_nil, ?_⟩
      have key : ∀ {H' : Hp} {μ' Oc' P : List Addr}, Gr Oc1 H1 μ1 Oc' H' μ' → (∀ q ∈ P, H1 q = none) → (∀ q ∈ T, q ∉ Oc') ∧ (∀ q ∈ T, q ∉ P) ∧ ∀ b ob u, mns H' (Oc' ++ ([] ++ P)) b = some (.frz ob u) → mns H' (Oc' ++ (T ++ P)) b = some (.frz ob u) := fun {H' μ' Oc' P} g hfr => by
        have nTO : ∀ q ∈ T, q ∉ Oc' := fun q hq z => by
          rcases g.new q z with z | z
          · exact nOT q hq z
          · obtain ⟨o, ho, _⟩ := p.live q hq
            rw [ho] at z; cases z
        have nTP : ∀ q ∈ T, q ∉ P := fun q hq z => by
          obtain ⟨o, ho, _⟩ := p.live q hq
          rw [hfr q z] at ho; cases ho
        refine ⟨nTO, nTP, fun b ob u hb => ?_⟩
        obtain ⟨n1, n2⟩ := mns_some.mp hb
        refine mns_some.mpr ⟨fun z => ?_, n2⟩
        rcases List.mem_append.mp z with z | z
        · exact n1 (List.mem_append_left _ z)
        · rcases List.mem_append.mp z with z | z
          · obtain ⟨o, ho, nf⟩ := p.live b z
            rw [g.keep b o (nOT b z) ho] at n2
            cases n2
            exact nf _ _ rfl
          · exact n1 (List.mem_append_right _ (List.mem_append_right _ z))
      cases hF : FN (as.map argA) h1 with
      | er => rw [hF] at go; exact go
      | exc c h2 =>
        rw [hF] at go
        change GoE K Γ E (if as.any isSn then (if h2.all ceLf then .exc c h2 else .er) else .exc c h2) σ H μ Oc T env Q at go
        rw [if_pos hw] at go
        by_cases hr : h2.all ceLf = true
        · rw [if_pos hr] at go
          intro H' μ' Oc' g n r
          obtain ⟨k1, k2, k3⟩ := key (P := []) g (fun _ z => absurd z List.not_mem_nil)
          refine go H' μ' Oc' (p.gr.trans g) ?_ ?_
          · have := nd_add n nT k1 k2
            simpa using this
          · have := lf_rc k3 hr r
            simpa using this
        · rw [if_neg hr] at go; exact go.elim
      | ok a h2 =>
        rw [hF] at go
        change GoE K Γ E (if isSn a then .er else if as.any isSn then (if resOk a && h2.all ceLf then .ok a h2 else .er) else .ok a h2) σ H μ Oc T env Q at go
        rw [if_pos hw] at go
        by_cases hsn : isSn a = true
        · rw [if_pos hsn] at go; exact go.elim
        · rw [if_neg hsn] at go
          by_cases hr : (resOk a && h2.all ceLf) = true
          · rw [if_pos hr] at go
            obtain ⟨r1, r2⟩ : resOk a = true ∧ h2.all ceLf = true := by simpa using hr
            intro v H' μ' Oc' P g hfr nd rc ra
            obtain ⟨nTO, nTP, k⟩ := key g hfr
            refine fin a h2 (by simpa using hsn) go v H' μ' Oc' P g hfr (nd_add (by simpa using nd) nT nTO nTP) (lf_rc k r2 rc) ?_
            cases ra with
            | dat r => exact .dat (lf_dq k r1 r)
            | sn r => exact absurd rfl hsn
            | ob r => exact .ob (lf_ro k r1 r)
            | loc r => cases r1
            | scr r => cases r1
            | dc r => cases r1
            | zz => cases r1
          · rw [if_neg hr] at go; exact go.elim
    · have hw' : as.any isSn = false := by simpa using hw
      refine ⟨μ1, Oc1, T, as.map argA, h1, ?_, p.cells.mv exFG (fun _ _ _ q => q), ras_arg p.nd (fun _ z => z) hw' p.val, p.live, ?_⟩
      · have n := p.nd
        rw [← List.append_assoc] at n
        exact nd_l n
      cases hF : FN (as.map argA) h1 with
      | er => rw [hF] at go; exact go
      | exc c h2 =>
        rw [hF] at go
        change GoE K Γ E (if as.any isSn then (if h2.all ceLf then .exc c h2 else .er) else .exc c h2) σ H μ Oc T env Q at go
        rw [if_neg hw] at go
        exact fun H' μ' Oc' g n r => go H' μ' Oc' (p.gr.trans g) n r
      | ok a h2 =>
        rw [hF] at go
        change GoE K Γ E (if isSn a then .er else if as.any isSn then (if resOk a && h2.all ceLf then .ok a h2 else .er) else .ok a h2) σ H μ Oc T env Q at go
        rw [if_neg hw] at go
        by_cases hsn : isSn a = true
        · rw [if_pos hsn] at go; exact go.elim
        · rw [if_neg hsn] at go
          exact fin a h2 (by simpa using hsn) go
end
def ALen (fs : AF) (n : Nat) : Prop := ∀ env h as h1, fs env h = .ok as h1 → as.length = n
theorem al_nil : ALen fNil 0 := fun env h as h1 e => by
  unfold fNil at e
  cases e
  rfl
theorem al_cons {f : EF} {g : AF} {n : Nat} (h : ALen g n) : ALen (fCons f g) (n + 1) := fun env h0 as h1 e => by
  unfold fCons at e
  cases hf : f env h0 with
  | er => rw [hf] at e; cases e
  | exc c h2 => rw [hf] at e; cases e
  | ok a h2 =>
    rw [hf] at e
    change ((g env h2).bind fun as h2 => .ok (a :: as) h2) = .ok as h1 at e
    cases hg : g env h2 with
    | er => rw [hg] at e; cases e
    | exc c h3 => rw [hg] at e; cases e
    | ok bs h3 =>
      rw [hg] at e
      cases e
      rw [List.length_cons, h env h2 bs h1 hg]
section
variable {X : Cx} {Γ : Nat → Addr} {E : XK} {CX : CXT} {k : Nat} {f : Addr} {fd : FuncData} {ps : List Str} {x : Str} {p pos : Pos} {e : Expr} {es : List Expr} {fs : AF} {FN : FF} {n : Nat}
theorem e_call (F : FnOk X.prog X.w X.K X.mg X.base CX k f fd ps (spF X.K Γ n FN)) (hr : Room k X.A) (hg : Gl X x) (hm : X.mg x = some (.ref f)) (hk : PySem.W.keepIn X.K (.ref f) = true) (hb : Binds X.K fd ps []) (hx : Passes CX X E)
    (ha : PA X (e :: es) (tA X.K Γ E fs)) (hn : ALen fs n) (hdb : (x == ("__debug__" : Str)) = false := by decide) (he : starEach (e :: es) X.env = (false, eval e X.env) :: starEach es X.env := by rfl) (hpl : (backTo pos (starEach es X.env)).any (·.1) = false := by rfl) :
    PE X (.Call (.Name x p) (e :: es) [] pos) (tE X.K Γ E (fCall FN fs)) := pe_imp (pe_call F hr hg hm hk hb .nil hx ha hdb he hpl) fun _ _ _ => tE_call hn
end
/-! ### a def -/
def env0 (m : Nat) (as : List A) : En := as.map some ++ List.replicate (m - as.length) none
def finS (r : SRes) : Res A := match r with
  | .rt a h => .ok a h
  | .nx _ h => .ok (.dat .none) h
  | .exc c h => .exc c h
  | _ => .er
def fBody (m : Nat) (b : SF) : FF := fun as h => finS (b (env0 m as) h)
def fBody0 (m : Nat) (b : SF) : FF := fBody m b
section
variable {K : PySem.W.Frag} {Γ : Nat → Addr} {H F : Hp} {μ : List Addr}
theorem rs_none : ∀ (n : Nat), RS K F H μ (List.replicate n none) (List.replicate n (none : Option V)) []
  | 0 => .nil
  | n + 1 => .no (rs_none n)
theorem rs_args : ∀ {as : List A} {vs : List V} {P : List Addr} (n : Nat), RAs K F F H μ as vs P → P = [] → RS K F H μ (as.map some ++ List.replicate n none) (vs.map some ++ List.replicate n none) []
  | _, _, _, n, .nil, _ => rs_none n
  | _, _, _, n, .cons (P := P) (P' := P') r t, e => by
    obtain ⟨e1, e2⟩ := List.append_eq_nil_iff.mp e
    subst e1 e2
    exact RS.so (P := []) r (rs_args n t rfl)
/-- from a def's body to its promise -/
theorem body_ok {E : XK} {b : SF} {N : List Str} {n : Nat} {vs : List V} {Q : VK} (h : spF K Γ n (fBody N.length b) vs H Q E) : tS K Γ E b { nx := fun _ H' => Q .non H', rt := Q } (L2.start N vs) H := by
  obtain ⟨hl, μ, Oc, B, as, hh, nd, rc, ra, lv, go⟩ := h
  have el : as.length = vs.length := (ras_len ra).symm
  refine ⟨μ, Oc, B, [], env0 N.length as, hh, ⟨by rw [List.append_nil]; exact nd, by rw [List.append_nil]; exact rc, ⟨[], fun q hq => absurd hq List.not_mem_nil, List.nodup_nil, ?_⟩, by rw [List.append_nil]; exact lv⟩, ?_⟩
  · rw [List.append_nil]
    unfold L2.start env0
    rw [el]
    exact rs_args _ ra rfl
  · unfold fBody finS at go
    have gr : ∀ {Oc' S' μ' : List Addr} {H' : Hp}, Gs Oc [] H μ Oc' S' H' μ' → Gr Oc H μ Oc' H' μ' := fun g => ⟨fun q o h1 e => g.keep q o h1 List.not_mem_nil e, fun q hq => by
      rcases g.newO q hq with z | z | z
      · exact .inl z
      · exact absurd z List.not_mem_nil
      · exact .inr z, g.dom, g.pre⟩
    cases hb : b (env0 N.length as) hh with
    | rt a h' =>
      rw [hb] at go
      exact fun v H' μ' Oc' P p => go v H' μ' Oc' P (gr p.gs) (fun q hq => (p.gs.newS q hq).elim (fun z => absurd z List.not_mem_nil) id) p.nd p.cells p.val
    | nx env' h' =>
      rw [hb] at go
      intro σ' H' μ' Oc' S' p
      have e : Ex (mns H' (Oc' ++ (B ++ S'))) (mns H' (Oc' ++ (B ++ []))) := mns_mono fun q hq => by
        rw [List.append_nil] at hq
        exact (List.mem_append.mp hq).elim (List.mem_append_left _) fun z => List.mem_append_right _ (List.mem_append_left _ z)
      refine go .non H' μ' Oc' [] (gr p.gs) (fun q hq => absurd hq List.not_mem_nil) ?_ (p.sim.cells.mv e fun _ _ _ q => q) (.dat .non)
      have n := p.sim.nd
      rw [← List.append_assoc] at n
      simpa using nd_l n
    | exc c h' =>
      rw [hb] at go
      exact fun H' μ' Oc' g n r => go H' μ' Oc' (gr g) n r
    | bk env' h' => rw [hb] at go; exact False.elim go
    | ct env' h' => rw [hb] at go; exact False.elim go
    | er => rw [hb] at go; exact go
end
section
variable {P : Program} {w : World} {K : PySem.W.Frag} {mg : Str → Option Value} {base : Heap} {Γ : Nat → Addr}
theorem fn_ok {x qual : Str} {st : Stmt} {f : Addr} {fd : FuncData} {N ps : List Str} {k : Nat} {b : SF} (F : Fun K x qual st f fd) (S : FnScope N ps (defScope st))
    (hb : ∀ (cdv : Value) (A : Around) (outer : List Env) (s : Shared) (H : Hp) (E : XK), Room k (A.deeper (envOfC qual (defScope st) s.heap.objs.size f cdv)) →
      PSs (cxOf (L2.CX P w) P w K mg base N qual (defScope st) f cdv A outer s H E) (defBody st) (tS K Γ E b)) : FnOk P w K mg base (L2.CX P w) (k + 1) f fd ps (spF K Γ ps.length (fBody0 N.length b)) :=
  F.okX S (fun vs H Q E h => h.1) fun cdv A outer s H vs Q E hr h => ⟨tS K Γ E b, hb cdv A outer s H E hr, body_ok (n := ps.length) h⟩
/-- what a call lets out is wished for alike -/
theorem passX {X : Cx} {E : XK} {E1 : Value → Shared → Prop} (hs : X.stack = X.env :: X.outer) (hf : X.env.frame = some X.env.locals) (hex : X.ex = []) (hx : X.xe = fun e s' => wpAny (model X.prog X.w) X.A (leaving X.env e) (fun _ s'' => L2.CX X.prog X.w X.outer X.H_0 X.s_0 E e s'') E1 s') : Passes (L2.CX X.prog X.w) X E :=
  passes_call (takes_of hs hf hex hx) fun _ _ _ _ h => h
end
end Mi
/-! Mini: lists that are changed, loops. -/
namespace Mi
open PySem L2 PySem.Spec PyProof.Rows
/-! ### x.m(..) that changes the list x -/
def MutR (K : PySem.W.Frag) (r : V → List V → Hp → VK → Prop) (g : List D → List D → Option (List D)) : Prop :=
  ∀ (G H : Hp) (l : Addr) (ws us : List V) (ds es ds' : List D) (Q : VK), Ex G H → H l = some (.lst ws) → DqAll K G ws ds → DqAll K G us es → g ds es = some ds' → (∀ v ws', DqAll K G ws' ds' → Q v (upd H l (.lst ws'))) → r (.ref l) us H Q
def onA (r : Res (List A)) (k : List A → Hh → SRes) : SRes := match r with
  | .ok as h1 => k as h1
  | .exc c h1 => .exc c h1
  | .er => .er
def onP {α : Type} (o : Option α) (k : α → SRes) : SRes := match o with
  | some a => k a
  | none => .er
def fMut (i : Nat) (g : List D → List D → Option (List D)) (fs : AF) : SF := fun env h => match env[i]? with
  | some (some (.ob (.lst ds))) => onA (fs env h) fun as h1 => onP (stos as) fun es => onP (g ds es) fun ds' => .nx (env.set i (some (.ob (.lst ds')))) h1
  | some (some (.loc k)) => match h[k]? with
    | some (.lst _) => onA (fs env h) fun as h1 => match h1[k]? with
      | some (.lst ds) => onP (stos as) fun es => onP (g ds es) fun ds' => .nx env (h1.set k (.lst ds'))
      | _ => .er
    | _ => .er
  | _ => .er
theorem upd_at {H : Hp} {p q : Addr} {o u : HO} (ne : q ≠ p) (h : H q = some u) : L2.upd H p o q = some u := by rw [upd_ne ne]; exact h
section
variable {K : PySem.W.Frag} {Γ : Nat → Addr} {E : XK} {σ σ1 : L2.St} {μ μ1 Oc Oc1 B S S1 P : List Addr} {env env1 : En} {H H1 : Hp} {h h1 : Hh} {D' : Ends} {F F' : Hp}
theorem RS.upd : ∀ {env : En} {σ : L2.St} {O : List Addr} {i : Nat} {ds ds' : List D} {p : Addr} {ws' : List V}, RS K F H μ env σ O → env[i]? = some (some (.ob (.lst ds))) → σ[i]? = some (some (.ref p)) → O.Nodup → Ex F F' → DqAll K F' ws' ds' → RS K F' (upd H p (.lst ws')) μ (env.set i (some (.ob (.lst ds')))) σ O ∧ p ∈ O
  | _, _, _, _, _, _, _, _, .nil, e, _, _, _, _ => by simp at e
  | _, _, _, 0, _, _, _, _, .no t, e, _, _, _, _ => by simp at e
  | _, _, _, 0, _, _, p, ws', .so (P := P0) (O := O0) r t, e, e2, n, ex, d => by
    simp at e e2
    subst e e2
    cases r with
    | ob r =>
      cases r with
      | lst h1 h2 =>
        refine ⟨RS.so (P := [p]) (.ob (.lst upd_same d)) (t.mv ex (Pre.refl _) fun q hq o z => ?_), List.mem_append_left _ (List.mem_cons_self)⟩
        exact upd_at (fun e => nd_ne n (List.mem_cons_self) (by rw [← e]; exact hq)) z
  | _, _, _, i + 1, _, _, _, _, .no t, e, e2, n, ex, d => by
    obtain ⟨h1, h2⟩ := RS.upd (i := i) t (by simpa using e) (by simpa using e2) n ex d
    exact ⟨.no h1, h2⟩
  | _, _, _, i + 1, _, _, p, _, .so (P := P0) (O := O0) r t, e, e2, n, ex, d => by
    obtain ⟨h1, h2⟩ := RS.upd (i := i) t (by simpa using e) (by simpa using e2) (nd_r n) ex d
    refine ⟨RS.so (r.mv ex ex (fun q hq o z => ?_) (Pre.refl _)) h1, List.mem_append_right _ h2⟩
    exact upd_at (fun e => nd_ne n hq (by rw [e]; exact h2)) z
theorem RC.upd : ∀ {h : Hh} {μ O : List Addr} {k : Nat} {ds ds' : List D} {p : Addr} {ws' : List V}, RC K F H h μ O → h[k]? = some (.lst ds) → μ[k]? = some p → O.Nodup → Ex F F' → DqAll K F' ws' ds' → RC K F' (upd H p (.lst ws')) (h.set k (.lst ds')) μ O ∧ p ∈ O
  | _, _, _, _, _, _, _, _, .nil, e, _, _, _, _ => by simp at e
  | _, _, _, 0, _, _, p, ws', .cons (P := P0) (O := O0) r t, e, e2, n, ex, d => by
    simp at e e2
    subst e e2
    cases r with
    | lst h1 h2 =>
      refine ⟨RC.cons (.lst upd_same d) (t.mv ex fun q hq o z => ?_), List.mem_append_left _ (List.mem_cons_self)⟩
      exact upd_at (fun e => nd_ne n (List.mem_cons_self) (by rw [← e]; exact hq)) z
  | _, _, _, k + 1, _, _, p, _, .cons (P := P0) (O := O0) r t, e, e2, n, ex, d => by
    obtain ⟨h1, h2⟩ := RC.upd (k := k) t (by simpa using e) (by simpa using e2) (nd_r n) ex d
    refine ⟨RC.cons (r.mv ex fun q hq o z => ?_) h1, List.mem_append_right _ h2⟩
    exact upd_at (fun e => nd_ne n hq (by rw [e]; exact h2)) z
theorem ex_upd {O : List Addr} {p : Addr} {o : HO} (hp : p ∈ O) : Ex (mns H O) (mns (L2.upd H p o) O) := ex_mns fun q u hq e => ⟨upd_at (fun z => hq (by rw [z]; exact hp)) e, hq⟩
theorem NF.upd {q p : Addr} {xs : List V} (h : NF H q) : NF (L2.upd H p (.lst xs)) q := by
  by_cases e : q = p
  · subst e
    exact .lst upd_same
  · obtain ⟨o, ho, nf⟩ := h
    exact ⟨o, by rw [upd_ne e]; exact ho, nf⟩
theorem upd_dom {q p : Addr} {o : HO} (h : L2.upd H p o q = none) : H q = none := by
  by_cases e : q = p
  · subst e; rw [upd_same] at h; cases h
  · rw [upd_ne e] at h; exact h
/-- the slot's list is changed -/
theorem SPs.mut {i : Nat} {ds ds' : List D} {p : Addr} {ws' : List V} (s : SPs K μ Oc B S H σ env h1 H1 μ1 Oc1 S) (he : env[i]? = some (some (.ob (.lst ds)))) (hv : σ[i]? = some (some (.ref p))) (d : DqAll K (mns H1 (Oc1 ++ (B ++ S))) ws' ds') :
    SPs K μ Oc B S H σ (env.set i (some (.ob (.lst ds')))) h1 (L2.upd H1 p (.lst ws')) μ1 Oc1 S := by
  obtain ⟨Os, k1, k2, k3⟩ := s.sim.slots
  have hp : p ∈ S := by
    obtain ⟨_, h2⟩ := k3.upd (F' := mns H1 (Oc1 ++ (B ++ S))) he hv k2 (Ex.refl _) d
    exact k1 p h2
  have hpO : p ∈ Oc1 ++ (B ++ S) := List.mem_append_right _ (List.mem_append_right _ hp)
  have ex : Ex (mns H1 (Oc1 ++ (B ++ S))) (mns (L2.upd H1 p (.lst ws')) (Oc1 ++ (B ++ S))) := ex_upd hpO
  obtain ⟨k4, _⟩ := k3.upd he hv k2 ex (ex_dps ex d)
  refine ⟨⟨s.sim.nd, s.sim.cells.mv ex fun q hq o z => ?_, ⟨Os, k1, k2, k4⟩, fun q hq => (s.sim.live q hq).upd⟩, ⟨fun q o h1 h2 e => ?_, s.gs.newO, s.gs.newS, fun q hq => s.gs.dom q (upd_dom hq), s.gs.pre⟩⟩
  · exact upd_at (fun e => nd_ne s.sim.nd hq (by rw [e]; exact List.mem_append_right _ hp)) z
  · exact upd_at (fun z => h2 (by rw [z]; exact hp)) (s.gs.keep q o h1 h2 e)
/-- a cell's list is changed -/
theorem SPs.mutC {k : Nat} {ds ds' : List D} {p : Addr} {ws' : List V} (s : SPs K μ Oc B S H σ env h1 H1 μ1 Oc1 S) (hc : h1[k]? = some (.lst ds)) (hm : μ1[k]? = some p) (d : DqAll K (mns H1 (Oc1 ++ (B ++ S))) ws' ds') :
    SPs K μ Oc B S H σ env (h1.set k (.lst ds')) (L2.upd H1 p (.lst ws')) μ1 Oc1 S := by
  have hp : p ∈ Oc1 := (s.sim.cells.upd (F' := mns H1 (Oc1 ++ (B ++ S))) hc hm (nd_l s.sim.nd) (Ex.refl _) d).2
  have hpO : p ∈ Oc1 ++ (B ++ S) := List.mem_append_left _ hp
  have ex : Ex (mns H1 (Oc1 ++ (B ++ S))) (mns (L2.upd H1 p (.lst ws')) (Oc1 ++ (B ++ S))) := ex_upd hpO
  refine ⟨⟨s.sim.nd, (s.sim.cells.upd hc hm (nd_l s.sim.nd) ex (ex_dps ex d)).1, s.sim.slots.mv ex (Pre.refl _) (fun q hq o z => ?_) fun _ z => z, fun q hq => (s.sim.live q hq).upd⟩, ⟨fun q o h1 h2 e => ?_, s.gs.newO, s.gs.newS, fun q hq => s.gs.dom q (upd_dom hq), s.gs.pre⟩⟩
  · exact upd_at (fun e => nd_ne s.sim.nd hp (by rw [← e]; exact List.mem_append_right _ hq)) z
  · by_cases e2 : q = p
    · subst e2
      rcases s.gs.newO q hp with z | z | z
      · exact absurd z h1
      · exact absurd z h2
      · rw [e] at z; cases z
    · rw [upd_ne e2]
      exact s.gs.keep q o h1 h2 e
theorem tS_mut {i : Nat} {r : V → List V → Hp → VK → Prop} {g : List D → List D → Option (List D)} {fs : AF} (hr : MutR K r g) : tS K Γ E (fMut i g fs) D' σ H → tDrop (tBM K "list" r (tVar i) (tA K Γ E fs)) D' σ H := by
  rintro ⟨μ, Oc, B, S, env, h, s, go⟩
  unfold fMut at go
  -- what stands at the slot
  have look : ∀ a, env[i]? = some (some a) → ∃ v P, σ[i]? = some (some v) ∧ RA K (mns H (Oc ++ (B ++ S))) (mns H (Oc ++ (B ++ S))) H μ a v P ∧ ∀ q ∈ P, q ∈ S := fun a ha => by
    obtain ⟨Os, k1, k2, k3⟩ := s.slots
    obtain ⟨v, P, e1, e2, e3⟩ := k3.get ha
    exact ⟨v, P, e1, e2, fun q hq => k1 q (e3 q hq)⟩
  have args : ∀ (k : List A → Hh → SRes) (Q : List V → Hp → Prop), GoS K Γ E (onA (fs env h) k) D' H μ Oc B S → (∀ as h1 us H1 μ1 Oc1 P, PsA K σ μ Oc (B ++ S) env H as h1 us H1 μ1 Oc1 P → GoS K Γ E (k as h1) D' H μ Oc B S → Q us H1) → tA K Γ E fs σ H Q := fun k Q go hQ => by
    refine ⟨μ, Oc, B ++ S, env, h, s.sim, ?_⟩
    unfold onA at go
    cases hf : fs env h with
    | er => rw [hf] at go; exact go
    | exc c h1 => rw [hf] at go; exact XPs.of go
    | ok as h1 => rw [hf] at go; exact fun us H1 μ1 Oc1 P p => hQ as h1 us H1 μ1 Oc1 P p go
  have frz : ∀ {as : List A} {h1 : Hh} {us : List V} {H1 : Hp} {μ1 Oc1 P : List Addr}, PsA K σ μ Oc (B ++ S) env H as h1 us H1 μ1 Oc1 P → Ex (mns H (Oc ++ (B ++ S))) (mns H1 (Oc1 ++ (B ++ S))) := fun p => fr_step p.gr fun q hq => .inl hq
  split at go
  · rename_i ds hs
    obtain ⟨v, P0, e1, e2, e3⟩ := look _ hs
    cases e2 with
    | @ob _ p _ e2 =>
      cases e2 with
      | @lst _ _ ws h1 h2 =>
        refine ⟨.ref p, e1, .inl ⟨rfl, ws, .of h1⟩, args _ _ go fun as h1' us H1 μ1 Oc1 P p1 go => ?_⟩
        cases hst : stos as with
        | none => rw [hst] at go; exact go.elim
        | some es =>
          rw [hst] at go
          change GoS K Γ E (onP (g ds es) fun ds' => .nx (env.set i (some (.ob (.lst ds')))) h1') D' H μ Oc B S at go
          cases hg : g ds es with
          | none => rw [hg] at go; exact go.elim
          | some ds' =>
            rw [hg] at go
            have hH : H1 p = some (.lst ws) := p1.gr.keep p _ (nd_ne' s.nd (List.mem_append_right _ (e3 p List.mem_cons_self))) h1
            refine hr (mns H1 (Oc1 ++ (B ++ S))) H1 p ws us ds es ds' _ (mns_ex _ _) hH (ex_dps (frz p1) h2) (ras_sto p1.nd p1.val (fun _ z => z) hst) hg fun v ws' d => ?_
            exact go σ _ μ1 Oc1 S ((p1.ssim0 s).mut hs e1 d)
  · rename_i k hs
    obtain ⟨v, P0, e1, e2, e3⟩ := look _ hs
    cases e2 with
    | @loc _ p hk =>
      split at go
      · rename_i ds0 hc0
        obtain ⟨p', P', c1, c2, c3⟩ := s.cells.get hc0
        rw [hk] at c1
        cases c1
        cases c2 with
        | @lst _ _ ws0 h1 h2 =>
          refine ⟨.ref p, e1, .inl ⟨rfl, ws0, .of h1⟩, args _ _ go fun as h1' us H1 μ1 Oc1 P p1 go => ?_⟩
          split at go
          · rename_i ds hc
            cases hst : stos as with
            | none => rw [hst] at go; exact go.elim
            | some es =>
              rw [hst] at go
              change GoS K Γ E (onP (g ds es) fun ds' => .nx env (h1'.set k (.lst ds'))) D' H μ Oc B S at go
              cases hg : g ds es with
              | none => rw [hg] at go; exact go.elim
              | some ds' =>
                rw [hg] at go
                have hm := p1.gr.pre.get hk
                have q0 := p1.ssim0 s
                obtain ⟨p'', P'', c1, c2, c3⟩ := q0.sim.cells.get hc
                rw [hm] at c1
                cases c1
                cases c2 with
                | @lst _ _ ws h3 h4 =>
                  refine hr (mns H1 (Oc1 ++ (B ++ S))) H1 p ws us ds es ds' _ (mns_ex _ _) h3 h4 (ras_sto p1.nd p1.val (fun _ z => z) hst) hg fun v ws' d => ?_
                  exact go σ _ μ1 Oc1 S (q0.mutC hc hm d)
          · exact go.elim
      · exact go.elim
  · exact go.elim
/-! ### append, extend, insert, remove, reverse -/
def mApp : List D → List D → Option (List D)
  | ds, [d] => if ds.length < LIM then some (ds ++ [d]) else none
  | _, _ => none
def mExt : List D → List D → Option (List D)
  | ds, [.list es] => if ds.length + es.length ≤ LIM then some (ds ++ es) else none
  | _, _ => none
def mIns : List D → List D → Option (List D)
  | ds, [.int i, d] => if ds.length < LIM ∧ 0 ≤ i ∧ i < 2 ^ 63 then some (ds.take i.toNat ++ [d] ++ ds.drop i.toNat) else none
  | _, _ => none
theorem mut_app : MutR K rAppend mApp := by
  intro G H l ws us ds es ds' Q ex hl hd he hg go
  unfold mApp at hg
  split at hg
  · split at hg
    · rename_i d hz
      cases hg
      obtain ⟨v, rfl, dv⟩ := dqs1 he
      exact ⟨l, ws, v, rfl, rfl, hl, by rw [dps_length hd]; exact lim_lt hz, go _ _ (dps_append hd (.cons dv .nil))⟩
    · cases hg
  · cases hg
theorem mut_ext : MutR K rExtend mExt := by
  intro G H l ws us ds es ds' Q ex hl hd he hg go
  unfold mExt at hg
  split at hg
  · split at hg
    · rename_i zs hz
      cases hg
      obtain ⟨v, rfl, dv⟩ := dqs1 he
      cases dv with
      | lst h1 h2 => exact ⟨l, _, ws, _, rfl, rfl, hl, ex _ _ h1, by rw [dps_length hd, dps_length h2]; exact lim_le hz, go _ _ (dps_append hd h2)⟩
    · cases hg
  · cases hg
theorem mut_ins : MutR K (fun x vs H Q => ∃ (l : Addr) (xs : List V) (i : Int) (y : V), x = .ref l ∧ vs = [.int i, y] ∧ H l = some (.lst xs) ∧ xs.length < sizeLine ∧ 0 ≤ i ∧ i < 2 ^ 63 ∧
    Q .non (L2.upd H l (.lst (xs.take i.toNat ++ [y] ++ xs.drop i.toNat)))) mIns := by
  intro G H l ws us ds es ds' Q ex hl hd he hg go
  unfold mIns at hg
  split at hg
  · split at hg
    · rename_i i d hz
      cases hg
      obtain ⟨v, w, rfl, dv, dw⟩ := dqs2 he
      cases dv
      exact ⟨l, ws, i, w, rfl, rfl, hl, by rw [dps_length hd]; exact lim_lt hz.1, hz.2.1, hz.2.2, go _ _ (dps_append (dps_append (dps_take _ hd) (.cons dw .nil)) (dps_drop _ hd))⟩
    · cases hg
  · cases hg
end
end Mi
/-! Mini: what is walked; for. -/
namespace Mi
open PySem L2 PySem.Spec PyProof.Rows
/-- what a turn yields: m = false: one value; m = true: a tuple of values, for a target of several names -/
def Yl (K : PySem.W.Frag) (m : Bool) (F : Hp) (x : V) (ds : List D) : Prop := match m with
  | false => ∃ d, ds = [d] ∧ Dq K F x d
  | true => ∃ a xs, x = .ref a ∧ SqT K F a xs ∧ DqAll K F xs ds
theorem Yl.ex {K : PySem.W.Frag} {m : Bool} {F F' : Hp} {x : V} {ds : List D} (e : Ex F F') (y : Yl K m F x ds) : Yl K m F' x ds := by
  cases m with
  | false => obtain ⟨d, h1, h2⟩ := y; exact ⟨d, h1, ex_dp e h2⟩
  | true => obtain ⟨a, xs, h1, h2, h3⟩ := y; exact ⟨a, xs, h1, ex_sqT e h2, ex_dps e h3⟩
/-- J yields these, as long as the frozen parts Fw (what it walks) and Ff (the items) stand -/
structure Wk (K : PySem.W.Frag) (m : Bool) (J : It) (Fw Ff : Hp) (dss : List (List D)) : Prop where
  stop : ∀ H i, Ex Fw H → Ex Ff H → dss.length ≤ i → J.stop i H
  go : ∀ H i, Ex Fw H → Ex Ff H → i < dss.length → J.go i H
  yld : ∀ H i x H' ds, Ex Fw H → Ex Ff H → dss[i]? = some ds → J.yld i H x H' → Ex H H' ∧ ∃ F', Ex Ff F' ∧ Ex F' H' ∧ (∀ q o, F' q = some o → Ff q = some o ∨ H q = none) ∧ Yl K m F' x ds
section
variable (K : PySem.W.Frag) (Γ : Nat → Addr) (E : XK)
def GoI (m : Bool) (f : Res (List (List D) × Bool)) (σ : L2.St) (H : Hp) (μ Oc T : List Addr) (env : En) (R : It → Hp → Prop) : Prop := match f with
  | .ok (dss, st) h' => ∀ J H' μ' Oc' Fw Ff, PsA K σ μ Oc T env H [] h' [] H' μ' Oc' [] → Ex Fw (mns H' (if st then Oc' ++ T else Oc')) → Ex Ff (mns H' (Oc' ++ T)) → Wk K m J Fw Ff dss → R J H'
  | .exc c h' => PsX K Γ E Oc T H μ c h'
  | .er => False
abbrev IG := En → Hh → Res (List (List D) × Bool)
def tI (m : Bool) (f : IG) : TI := fun σ H R => ∃ μ Oc T env h, Sim K H σ μ Oc T env h ∧ GoI K Γ E m (f env h) σ H μ Oc T env R
end
theorem pi_imp {X : Cx} {tg e : Expr} {t t' : TI} (h : PI X tg e t) (i : ∀ σ H R, t' σ H R → t σ H R) : PI X tg e t' := ⟨fun pins s σ H R I q => h.run pins s σ H R I (i σ H R q)⟩
/-! ### a list, a tuple -/
def ones (ds : List D) : List (List D) := ds.map fun d => [d]
def tupsOf : List D → Option (List (List D))
  | [] => some []
  | .tuple ds :: r => (tupsOf r).map (ds :: ·)
  | _ => none
def itemsM (m : Bool) (ds : List D) : Option (List (List D)) := if m then tupsOf ds else some (ones ds)
/-- what is walked, of a value: strict where no slot owns it -/
def seqI (m : Bool) (a : A) (h : Hh) : Res (List (List D) × Bool) := match a with
  | .dat (.list ds) => match itemsM m ds with
    | some dss => .ok (dss, true) h
    | none => .er
  | .ob (.lst ds) => match itemsM m ds with
    | some dss => .ok (dss, true) h
    | none => .er
  | .sn (.lst ds) => match itemsM m ds with
    | some dss => .ok (dss, false) h
    | none => .er
  | _ => .er
def tupI (m : Bool) (a : A) (h : Hh) : Res (List (List D) × Bool) := match a with
  | .dat (.tuple ds) => match itemsM m ds with
    | some dss => .ok (dss, true) h
    | none => .er
  | _ => .er
def fSeqI (m : Bool) (f : EF) : IG := fun env h => (f env h).bind fun a h1 => seqI m a h1
def fTupI (m : Bool) (f : EF) : IG := fun env h => (f env h).bind fun a h1 => tupI m a h1
section
variable {K : PySem.W.Frag} {Γ : Nat → Addr} {E : XK} {σ : L2.St} {μ Oc T P : List Addr} {env : En} {H F : Hp} {h : Hh}
theorem tups_get : ∀ {ds : List D} {dss : List (List D)} {i : Nat} {es : List D}, tupsOf ds = some dss → dss[i]? = some es → ds[i]? = some (.tuple es)
  | [], dss, i, es, h, e => by cases h; simp at e
  | .tuple ds :: r, dss, i, es, h, e => by
    simp only [tupsOf] at h
    obtain ⟨r', hr, z⟩ := Option.map_eq_some_iff.mp h
    subst z
    cases i with
    | zero => simp at e; subst e; rfl
    | succ i => exact tups_get (i := i) hr (by simpa using e)
  | .none :: r, _, _, _, h, _ => by simp [tupsOf] at h
  | .bool _ :: r, _, _, _, h, _ => by simp [tupsOf] at h
  | .int _ :: r, _, _, _, h, _ => by simp [tupsOf] at h
  | .str _ :: r, _, _, _, h, _ => by simp [tupsOf] at h
  | .list _ :: r, _, _, _, h, _ => by simp [tupsOf] at h
  | .dict _ :: r, _, _, _, h, _ => by simp [tupsOf] at h
theorem tups_len : ∀ {ds : List D} {dss : List (List D)}, tupsOf ds = some dss → dss.length = ds.length
  | [], dss, h => by cases h; rfl
  | .tuple ds :: r, dss, h => by
    simp only [tupsOf] at h
    obtain ⟨r', hr, z⟩ := Option.map_eq_some_iff.mp h
    subst z
    rw [List.length_cons, List.length_cons, tups_len hr]
  | .none :: r, _, h => by simp [tupsOf] at h
  | .bool _ :: r, _, h => by simp [tupsOf] at h
  | .int _ :: r, _, h => by simp [tupsOf] at h
  | .str _ :: r, _, h => by simp [tupsOf] at h
  | .list _ :: r, _, h => by simp [tupsOf] at h
  | .dict _ :: r, _, h => by simp [tupsOf] at h
theorem items_len {m : Bool} {ds : List D} {dss : List (List D)} (h : itemsM m ds = some dss) : dss.length = ds.length := by
  unfold itemsM at h
  cases m with
  | false => cases h; unfold ones; rw [List.length_map]
  | true => exact tups_len h
theorem items_yl {m : Bool} {ds es : List D} {dss : List (List D)} {i : Nat} {vs : List V} {x : V} (h : itemsM m ds = some dss) (e : dss[i]? = some es) (r : DqAll K F vs ds) (hx : vs[i]? = some x) : Yl K m F x es := by
  unfold itemsM at h
  cases m with
  | false =>
    cases h
    unfold ones at e
    rw [List.getElem?_map] at e
    obtain ⟨d, hd, z⟩ := Option.map_eq_some_iff.mp e
    obtain ⟨v, hv, dv⟩ := dps_get r hd
    rw [hx] at hv
    cases hv
    exact ⟨d, z.symm, dv⟩
  | true =>
    obtain ⟨v, hv, dv⟩ := dps_get r (tups_get h e)
    rw [hx] at hv
    cases hv
    cases dv with
    | tup h1 h2 => exact ⟨_, _, rfl, h1.sq, h2⟩
theorem wk_list {m : Bool} {a : Addr} {ws : List V} {ds : List D} {dss : List (List D)} {Fw Ff : Hp} (hw : Fw a = some (.lst ws)) (hd : DqAll K Ff ws ds) (hi : itemsM m ds = some dss) : Wk K m (Itl K a) Fw Ff dss where
  stop := fun H i e _ hl => ⟨ws, .of (e _ _ hw), by rw [dps_length hd, ← items_len hi]; exact hl⟩
  go := fun H i e _ hl => by
    have hl' : i < ws.length := by rw [dps_length hd, ← items_len hi]; exact hl
    exact ⟨ws, ws[i], .of (e _ _ hw), List.getElem?_eq_getElem hl'⟩
  yld := fun H i x H' es e ef hes hy => by
    obtain ⟨rfl, hx⟩ := hy
    exact ⟨Ex.refl _, Ff, Ex.refl _, ef, fun q o z => .inl z, items_yl hi hes hd (hx ws (.of (e _ _ hw)))⟩
theorem wk_tup {m : Bool} {a : Addr} {ws : List V} {ds : List D} {dss : List (List D)} {Fw Ff : Hp} (hw : SqT K Fw a ws) (hd : DqAll K Ff ws ds) (hi : itemsM m ds = some dss) : Wk K m (Itt K a) Fw Ff dss where
  stop := fun H i e _ hl => ⟨ws, ex_sqT e hw, by rw [dps_length hd, ← items_len hi]; exact hl⟩
  go := fun H i e _ hl => by
    have hl' : i < ws.length := by rw [dps_length hd, ← items_len hi]; exact hl
    exact ⟨ws, ws[i], ex_sqT e hw, List.getElem?_eq_getElem hl'⟩
  yld := fun H i x H' es e ef hes hy => by
    obtain ⟨rfl, hx⟩ := hy
    exact ⟨Ex.refl _, Ff, Ex.refl _, ef, fun q o z => .inl z, items_yl hi hes hd (hx ws (ex_sqT e hw))⟩
theorem tI_list {m : Bool} {f : EF} {R : It → Hp → Prop} : tI K Γ E m (fSeqI m f) σ H R → iList K (tE K Γ E f) σ H R := by
  rintro ⟨μ, Oc, T, env, h, s, go⟩
  refine ⟨μ, Oc, T, env, h, s, ?_⟩
  unfold fSeqI at go
  cases hf : f env h with
  | er => rw [hf] at go; exact go
  | exc c h1 => rw [hf] at go; exact go
  | ok a h1 =>
    rw [hf] at go
    change GoI K Γ E m (seqI m a h1) σ H μ Oc T env R at go
    intro v H1 μ1 Oc1 P1 p
    obtain ⟨v', ev, r⟩ := ras1 p.val
    cases ev
    unfold seqI at go
    split at go
    · rename_i ds
      split at go
      · rename_i dss hi
        cases r with
        | dat r =>
          cases r with
          | lst k1 k2 =>
            have p0 := p.drop
            have e : Ex (mns H1 (Oc1 ++ (T ++ []))) (mns H1 (Oc1 ++ T)) := exFG
            exact ⟨_, rfl, ⟨_, .of (mns_ex _ _ _ _ k1)⟩, go _ H1 μ1 Oc1 _ _ p0 (Ex.refl _) (Ex.refl _) (wk_list (e _ _ k1) (ex_dps e k2) hi)⟩
      · exact go.elim
    · rename_i ds
      split at go
      · rename_i dss hi
        cases r with
        | ob r =>
          cases r with
          | lst k1 k2 =>
            have p0 := p.drop
            refine ⟨_, rfl, ⟨_, .of k1⟩, go _ H1 μ1 Oc1 _ _ p0 (Ex.refl _) (Ex.refl _) (wk_list (mns_some.mpr ⟨fun z => ?_, k1⟩) (ex_dps exFG k2) hi)⟩
            have n := p.nd
            rw [← List.append_assoc] at n
            exact nd_ne' n List.mem_cons_self z
      · exact go.elim
    · rename_i ds
      split at go
      · rename_i dss hi
        cases r with
        | sn r =>
          cases r with
          | lst k1 k2 =>
            have p0 := p.drop
            have e : Ex (mns H1 (Oc1 ++ (T ++ []))) (mns H1 (Oc1 ++ T)) := exFG
            exact ⟨_, rfl, ⟨_, .of (mns_ex _ _ _ _ k1)⟩, go _ H1 μ1 Oc1 _ _ p0 (Ex.refl _) (Ex.refl _) (wk_list k1 (ex_dps e k2) hi)⟩
      · exact go.elim
    · exact go.elim
theorem tI_tup {m : Bool} {f : EF} {R : It → Hp → Prop} : tI K Γ E m (fTupI m f) σ H R → iTup K (tE K Γ E f) σ H R := by
  rintro ⟨μ, Oc, T, env, h, s, go⟩
  refine ⟨μ, Oc, T, env, h, s, ?_⟩
  unfold fTupI at go
  cases hf : f env h with
  | er => rw [hf] at go; exact go
  | exc c h1 => rw [hf] at go; exact go
  | ok a h1 =>
    rw [hf] at go
    change GoI K Γ E m (tupI m a h1) σ H μ Oc T env R at go
    intro v H1 μ1 Oc1 P1 p
    obtain ⟨v', ev, r⟩ := ras1 p.val
    cases ev
    unfold tupI at go
    split at go
    · rename_i ds
      split at go
      · rename_i dss hi
        cases r with
        | dat r =>
          cases r with
          | tup k1 k2 =>
            have e : Ex (mns H1 (Oc1 ++ (T ++ []))) (mns H1 (Oc1 ++ T)) := exFG
            exact ⟨_, rfl, ⟨_, ex_sqT (mns_ex _ _) k1.sq⟩, go _ H1 μ1 Oc1 _ _ p.drop (Ex.refl _) (Ex.refl _) (wk_tup (ex_sqT e k1.sq) (ex_dps e k2) hi)⟩
      · exact go.elim
    · exact go.elim
/-- range(n), range(a, b) -/
def rgs (lo : Int) (n : Nat) : List (List D) := (List.range n).map fun (i : Nat) => [PyData.int (lo + (i : Int))]
def fRng1 (fs : AF) : IG := fun env h => (fs env h).bind fun as h1 => match as with
  | [.dat (.int j)] => if -(2 ^ 62) ≤ j ∧ j < 2 ^ 62 then .ok (rgs 0 j.toNat, true) h1 else .er
  | _ => .er
def fRng2 (fs : AF) : IG := fun env h => (fs env h).bind fun as h1 => match as with
  | [.dat (.int i), .dat (.int j)] => if -(2 ^ 62) ≤ i ∧ i < 2 ^ 62 ∧ -(2 ^ 62) ≤ j ∧ j < 2 ^ 62 then .ok (rgs i (j - i).toNat, true) h1 else .er
  | _ => .er
theorem wk_rng {lo : Int} {n : Nat} {Fw Ff : Hp} : Wk K false (Itr lo n) Fw Ff (rgs lo n) where
  stop := fun H i _ _ hl => by
    have : (rgs lo n).length = n := by unfold rgs; rw [List.length_map, List.length_range]
    rw [this] at hl
    exact hl
  go := fun H i _ _ hl => by
    have : (rgs lo n).length = n := by unfold rgs; rw [List.length_map, List.length_range]
    rw [this] at hl
    exact hl
  yld := fun H i x H' es _ ef hes hy => by
    obtain ⟨rfl, rfl⟩ := hy
    refine ⟨Ex.refl _, Ff, Ex.refl _, ef, fun q o z => .inl z, .int (lo + i), ?_, .int _⟩
    unfold rgs at hes
    rw [List.getElem?_map] at hes
    obtain ⟨j, hj, z⟩ := Option.map_eq_some_iff.mp hes
    obtain ⟨h1, h2⟩ := List.getElem?_eq_some_iff.mp hj
    rw [List.getElem_range] at h2
    rw [← z, ← h2]
theorem tI_rng1 {fs : AF} {R : It → Hp → Prop} : tI K Γ E false (fRng1 fs) σ H R → iRng1 (tA K Γ E fs) σ H R := by
  rintro ⟨μ, Oc, T, env, h, s, go⟩
  refine ⟨μ, Oc, T, env, h, s, ?_⟩
  unfold fRng1 at go
  cases hf : fs env h with
  | er => rw [hf] at go; exact go
  | exc c h1 => rw [hf] at go; exact go
  | ok as h1 =>
    rw [hf] at go
    intro vs H1 μ1 Oc1 P1 p
    simp only [Res.bind] at go
    split at go
    · rename_i j
      split at go
      · rename_i hj
        obtain ⟨v, rfl, r⟩ := ras1 p.val
        obtain ⟨rfl, rfl⟩ := dat_int r
        exact ⟨j, rfl, hj.1, hj.2, go _ H1 μ1 Oc1 (fun _ => none) (fun _ => none) p.drop (fun _ _ z => nomatch z) (fun _ _ z => nomatch z) wk_rng⟩
      · exact go.elim
    · exact go.elim
theorem tI_rng2 {fs : AF} {R : It → Hp → Prop} : tI K Γ E false (fRng2 fs) σ H R → iRng2 (tA K Γ E fs) σ H R := by
  rintro ⟨μ, Oc, T, env, h, s, go⟩
  refine ⟨μ, Oc, T, env, h, s, ?_⟩
  unfold fRng2 at go
  cases hf : fs env h with
  | er => rw [hf] at go; exact go
  | exc c h1 => rw [hf] at go; exact go
  | ok as h1 =>
    rw [hf] at go
    intro vs H1 μ1 Oc1 P1 p
    simp only [Res.bind] at go
    split at go
    · rename_i i j
      split at go
      · rename_i hj
        obtain ⟨v, w, P2, P3, rfl, r, r2, rfl⟩ := ras2 p.val
        obtain ⟨rfl, rfl⟩ := dat_int r
        obtain ⟨rfl, rfl⟩ := dat_int r2
        exact ⟨i, j, rfl, hj, go _ H1 μ1 Oc1 (fun _ => none) (fun _ => none) p.drop (fun _ _ z => nomatch z) (fun _ _ z => nomatch z) wk_rng⟩
      · exact go.elim
    · exact go.elim
end
end Mi
/-! Mini: targets, for, while. -/
namespace Mi
open PySem L2 PySem.Spec PyProof.Rows
/-- the names of a target are given their values -/
def bnd : List Nat → List D → En → Option En
  | [], [], env => some env
  | j :: js, d :: ds, env => bnd js ds (env.set j (some (.dat d)))
  | _, _, _ => none
def setsV : List Nat → List V → L2.St → L2.St
  | j :: js, v :: vs, σ => setsV js vs (σ.set j (some v))
  | _, _, σ => σ
/-- how a target reads, by its names' places -/
def gNames : List Nat → TGs
  | [] => gNil
  | j :: js => gCons (gName j) (gNames js)
def tgt (K : PySem.W.Frag) (m : Bool) (js : List Nat) : TG := if m then gTup K js.length (gNames js) else gName (js.getD 0 0)
section
variable {K : PySem.W.Frag} {Γ : Nat → Addr} {E : XK} {σ σ1 : L2.St} {μ μ1 Oc Oc1 B S S1 P T : List Addr} {env env1 : En} {H H1 F : Hp} {h h1 : Hh} {D' : Ends}
/-- data go to a slot -/
theorem Slots.set {G : Hp} (i : Nat) {d : D} {v : V} (s : Slots K G H μ S env σ) (r : Dq K G v d) : Slots K G H μ S (env.set i (some (.dat d))) (σ.set i (some v)) := by
  obtain ⟨Os, h1, h2, h3⟩ := s
  obtain ⟨O', k1, k2, k3⟩ := h3.set i (RA.dat (W := G) (H := H) (μ := μ) r)
  exact ⟨O', fun q hq => (k2 q hq).elim (h1 q) fun z => absurd z List.not_mem_nil, k3 h2 List.nodup_nil fun q z => absurd z List.not_mem_nil, k1⟩
theorem bnd_ok {G : Hp} : ∀ {js : List Nat} {ds : List D} {vs : List V} {env env1 : En} {σ : L2.St} {Q : L2.St → Hp → Prop}, bnd js ds env = some env1 → DqAll K G vs ds → Slots K G H μ S env σ → (Slots K G H μ S env1 (setsV js vs σ) → Q (setsV js vs σ) H) → gNames js vs σ H Q
  | [], [], _, env, env1, σ, Q, e, .nil, s, q => by
    cases e
    exact ⟨rfl, q s⟩
  | j :: js, d :: ds, _, env, env1, σ, Q, e, .cons r t, s, q => ⟨_, _, rfl, bnd_ok (js := js) e t (s.set j r) q⟩
  | [], _ :: _, _, _, _, _, _, e, _, _, _ => by simp [bnd] at e
  | _ :: _, [], _, _, _, _, _, e, _, _, _ => by simp [bnd] at e
theorem bnd_len : ∀ {js : List Nat} {ds : List D} {env env1 : En}, bnd js ds env = some env1 → ds.length = js.length
  | [], [], _, _, _ => rfl
  | _ :: js, _ :: ds, _, _, e => by rw [List.length_cons, List.length_cons, bnd_len (js := js) e]
  | [], _ :: _, _, _, e => by simp [bnd] at e
  | _ :: _, [], _, _, e => by simp [bnd] at e
theorem tgt_ok {G : Hp} {m : Bool} {js : List Nat} {ds : List D} {x : V} {Q : L2.St → Hp → Prop} (e : bnd js ds env = some env1) (eg : Ex G H) (y : Yl K m G x ds) (s : Slots K G H μ S env σ) (q : ∀ vs, Slots K G H μ S env1 (setsV js vs σ) → Q (setsV js vs σ) H) : tgt K m js x σ H Q := by
  cases m with
  | false =>
    obtain ⟨d, rfl, r⟩ := y
    match js, e with
    | [j], e =>
      cases e
      exact q [x] (s.set j r)
    | [], e => simp [bnd] at e
    | _ :: _ :: _, e => simp [bnd] at e
  | true =>
    obtain ⟨a, xs, rfl, h1, h2⟩ := y
    exact ⟨a, xs, rfl, ex_sqT eg h1, by rw [dps_length h2, bnd_len e], bnd_ok e h2 s (q xs)⟩
/-- more is there, nothing else has happened -/
theorem SSim.more (s : SSim K H σ μ Oc B S env h) (e : Ex H H1) : SSim K H1 σ μ Oc B S env h ∧ Gs Oc S H μ Oc S H1 μ := by
  have ex : Ex (mns H (Oc ++ (B ++ S))) (mns H1 (Oc ++ (B ++ S))) := ex_mns fun q o hq z => ⟨e q o z, hq⟩
  refine ⟨⟨s.nd, s.cells.mv ex fun q _ o z => e q o z, s.slots.mv ex (Pre.refl _) (fun q _ o z => e q o z) fun _ z => z, fun q hq => ?_⟩, ⟨fun q o _ _ z => e q o z, fun q hq => .inl hq, fun q hq => .inl hq, fun q hq => e.dom hq, Pre.refl _⟩⟩
  obtain ⟨o, ho, nf⟩ := s.live q hq
  exact ⟨o, e q o ho, nf⟩
/-- what was frozen stays so through statements -/
theorem Gs.frz (g : Gs Oc S H μ Oc1 S1 H1 μ1) (hB : ∀ q ∈ B, NF H q) : Ex (mns H (Oc ++ (B ++ S))) (mns H1 (Oc1 ++ (B ++ S1))) := ex_mns fun q o hq e => by
  have n1 : q ∉ Oc := fun z => hq (List.mem_append_left _ z)
  have n2 : q ∉ S := fun z => hq (List.mem_append_right _ (List.mem_append_right _ z))
  refine ⟨g.keep q o n1 n2 e, fun z => ?_⟩
  rcases List.mem_append.mp z with z | z
  · rcases g.newO q z with z | z | z
    · exact n1 z
    · exact n2 z
    · rw [e] at z; cases z
  · rcases List.mem_append.mp z with z | z
    · exact hq (List.mem_append_right _ (List.mem_append_left _ z))
    · rcases g.newS q z with z | z
      · exact n2 z
      · rw [e] at z; cases z
/-! ### for -/
def loopF (js : List Nat) (body : SF) : List (List D) → En → Hh → SRes
  | [], env, h => .nx env h
  | ds :: r, env, h => match bnd js ds env with
    | none => .er
    | some env1 => match body env1 h with
      | .nx env2 h2 => loopF js body r env2 h2
      | .ct env2 h2 => loopF js body r env2 h2
      | .bk env2 h2 => .nx env2 h2
      | .rt a h2 => .rt a h2
      | .exc c h2 => .exc c h2
      | .er => .er
def fFor (it : IG) (js : List Nat) (body : SF) : SF := fun env h => match it env h with
  | .ok (dss, st) h1 => if st then loopF js body dss env h1 else .er
  | .exc c h1 => .exc c h1
  | .er => .er
theorem tS_for {m : Bool} {it : IG} {js : List Nat} {body : SF} : tS K Γ E (fFor it js body) D' σ H → tFor (tI K Γ E m it) (tgt K m js) (tS K Γ E body) D' σ H := by
  rintro ⟨μ, Oc, B, S, env, h, s, go⟩
  refine ⟨μ, Oc, B ++ S, env, h, s.sim, ?_⟩
  unfold fFor at go
  cases hi : it env h with
  | er => rw [hi] at go; exact go
  | exc c h1 => rw [hi] at go; exact XPs.of go
  | ok o h1 =>
    obtain ⟨dss, st⟩ := o
    rw [hi] at go
    change GoS K Γ E (if st then loopF js body dss env h1 else .er) D' H μ Oc B S at go
    intro J H1 μ1 Oc1 Fw Ff p eFw eFf wk
    cases st with
    | false => exact go.elim
    | true =>
      change GoS K Γ E (loopF js body dss env h1) D' H μ Oc B S at go
      have q0 := p.ssim0 s
      refine ⟨fun i m σ' H' => m = dss.length - i ∧ i ≤ dss.length ∧ ∃ μ' Oc' S' env' h', SPs K μ1 Oc1 B S H1 σ' env' h' H' μ' Oc' S' ∧ GoS K Γ E (loopF js body (dss.drop i) env' h') D' H' μ' Oc' B S',
        ⟨_, rfl, Nat.zero_le _, μ1, Oc1, S, env, h1, q0.sim.refl, GoS.step q0.gs go⟩, ?_⟩
      rintro i m σ2 H2 ⟨rfl, hi, μ2, Oc2, S2, env2, h2, p2, go2⟩
      have fz : Ex (mns H1 (Oc1 ++ (B ++ S))) (mns H2 (Oc2 ++ (B ++ S2))) := p2.gs.frz fun q hq => q0.sim.live q (List.mem_append_left _ hq)
      have eW : Ex Fw H2 := (eFw.trans fz).trans (mns_ex _ _)
      have eF : Ex Ff (mns H2 (Oc2 ++ (B ++ S2))) := eFf.trans fz
      by_cases hlt : i < dss.length
      · refine .inr ⟨wk.go H2 i eW (eF.trans (mns_ex _ _)) hlt, _, fun σ' H' hN => ⟨dss.length - (i + 1), by omega, hN⟩, fun x H3 hy => ?_⟩
        have hget : dss[i]? = some dss[i] := List.getElem?_eq_getElem hlt
        rw [List.drop_eq_getElem_cons hlt] at go2
        obtain ⟨eH, F', k1, k2, k3, k4⟩ := wk.yld H2 i x H3 _ eW (eF.trans (mns_ex _ _)) hget hy
        obtain ⟨s3, g3⟩ := p2.sim.more eH
        -- what was yielded is frozen
        have eF3 : Ex F' (mns H3 (Oc2 ++ (B ++ S2))) := fun q o hq => by
          refine mns_some.mpr ⟨fun z => ?_, k2 q o hq⟩
          rcases k3 q o hq with z2 | z2
          · exact (mns_some.mp (eF q o z2)).1 z
          · rcases List.mem_append.mp z with w | w
            · obtain ⟨o', ho', _⟩ := p2.sim.cells.there q w
              rw [z2] at ho'
              cases ho'
            · obtain ⟨o', ho', _⟩ := p2.sim.live q w
              rw [z2] at ho'
              cases ho'
        unfold loopF at go2
        cases hb : bnd js dss[i] env2 with
        | none => rw [hb] at go2; exact go2.elim
        | some env3 =>
          rw [hb] at go2
          refine tgt_ok hb (mns_ex _ _) (k4.ex eF3) s3.slots fun ws3 sl3 => ?_
          have s4 : SSim K H3 (setsV js ws3 σ2) μ2 Oc2 B S2 env3 h2 := ⟨s3.nd, s3.cells, sl3, s3.live⟩
          refine ⟨μ2, Oc2, B, S2, env3, h2, s4, ?_⟩
          have again : ∀ env4 h4, GoS K Γ E (loopF js body (dss.drop (i + 1)) env4 h4) D' H2 μ2 Oc2 B S2 → ∀ σ' H' μ' Oc' S', SPs K μ2 Oc2 B S2 H3 σ' env4 h4 H' μ' Oc' S' →
              dss.length - (i + 1) = dss.length - (i + 1) ∧ i + 1 ≤ dss.length ∧ ∃ μ' Oc' S' env' h', SPs K μ1 Oc1 B S H1 σ' env' h' H' μ' Oc' S' ∧ GoS K Γ E (loopF js body (dss.drop (i + 1)) env' h') D' H' μ' Oc' B S' :=
            fun env4 h4 go4 σ' H' μ' Oc' S' p4 => ⟨rfl, hlt, μ', Oc', S', env4, h4, ⟨p4.sim, (p2.gs.trans g3).trans p4.gs⟩, GoS.step (g3.trans p4.gs) go4⟩
          cases hbd : body env3 h2 with
          | nx env4 h4 => simp only [hbd] at go2; exact again env4 h4 go2
          | ct env4 h4 => simp only [hbd] at go2; exact again env4 h4 go2
          | bk env4 h4 => simp only [hbd] at go2; exact fun σ' H' μ' Oc' S' p4 => go2 σ' H' μ' Oc' S' ⟨p4.sim, g3.trans p4.gs⟩
          | rt a h4 => simp only [hbd] at go2; exact fun v H' μ' Oc' P p4 => go2 v H' μ' Oc' P ⟨g3.trans p4.gs, p4.nd, p4.cells, p4.val⟩
          | exc c h4 => simp only [hbd] at go2; exact XPs.step g3 go2
          | er => simp only [hbd] at go2; exact go2
      · have e : i = dss.length := by omega
        subst e
        rw [List.drop_length] at go2
        exact .inl ⟨wk.stop H2 _ eW (eF.trans (mns_ex _ _)) (Nat.le_refl _), go2 σ2 H2 μ2 Oc2 S2 p2.sim.refl⟩
/-! ### while -/
def loopW (t : TF) (body : SF) : Nat → En → Hh → SRes
  | 0, _, _ => .er
  | n + 1, env, h => match t env h with
    | .ok b h1 => if b then (match body env h1 with
      | .nx env2 h2 => loopW t body n env2 h2
      | .ct env2 h2 => loopW t body n env2 h2
      | .bk env2 h2 => .nx env2 h2
      | .rt a h2 => .rt a h2
      | .exc c h2 => .exc c h2
      | .er => .er) else .nx env h1
    | .exc c h1 => .exc c h1
    | .er => .er
theorem tS_while {n : Nat} {t : TF} {body : SF} : tS K Γ E (loopW t body n) D' σ H → tWhile (tT K Γ E t) (tS K Γ E body) D' σ H := by
  rintro ⟨μ, Oc, B, S, env, h, s, go⟩
  refine ⟨fun m σ' H' => ∃ μ' Oc' S' env' h', SSim K H' σ' μ' Oc' B S' env' h' ∧ GoS K Γ E (loopW t body m env' h') D' H' μ' Oc' B S', ⟨n, μ, Oc, S, env, h, s, go⟩, ?_⟩
  rintro m σ1 H1 ⟨μ1, Oc1, S1, env1, h1, s1, go1⟩
  cases m with
  | zero => exact go1.elim
  | succ m =>
    refine ⟨μ1, Oc1, B ++ S1, env1, h1, s1.sim, ?_⟩
    unfold loopW at go1
    cases ht : t env1 h1 with
    | er => simp only [ht] at go1; exact go1
    | exc c h2 => simp only [ht] at go1; exact XPs.of go1
    | ok b h2 =>
      simp only [ht] at go1
      intro H2 μ2 Oc2 p
      have q := p.ssim0 s1
      cases b with
      | false => exact go1 σ1 H2 μ2 Oc2 S1 q
      | true =>
        refine ⟨fun σ' H' => ∃ μ' Oc' S' env' h', SSim K H' σ' μ' Oc' B S' env' h' ∧ GoS K Γ E (loopW t body m env' h') D' H' μ' Oc' B S', fun σ' H' hN => ⟨m, Nat.lt_succ_self m, hN⟩, μ2, Oc2, B, S1, env1, h2, q.sim, ?_⟩
        simp only [if_true] at go1
        cases hb : body env1 h2 with
        | nx env4 h4 => simp only [hb] at go1; exact fun σ' H' μ' Oc' S' p4 => ⟨μ', Oc', S', env4, h4, p4.sim, GoS.step (q.gs.trans p4.gs) go1⟩
        | ct env4 h4 => simp only [hb] at go1; exact fun σ' H' μ' Oc' S' p4 => ⟨μ', Oc', S', env4, h4, p4.sim, GoS.step (q.gs.trans p4.gs) go1⟩
        | bk env4 h4 => simp only [hb] at go1; exact fun σ' H' μ' Oc' S' p4 => go1 σ' H' μ' Oc' S' ⟨p4.sim, q.gs.trans p4.gs⟩
        | rt a h4 => simp only [hb] at go1; exact fun v H' μ' Oc' P p4 => go1 v H' μ' Oc' P ⟨q.gs.trans p4.gs, p4.nd, p4.cells, p4.val⟩
        | exc c h4 => simp only [hb] at go1; exact XPs.step q.gs go1
        | er => simp only [hb] at go1; exact go1
end
section
variable {X : Cx} {Γ : Nat → Addr} {E : XK} {pos : Pos}
theorem s_for {m : Bool} {tg iter : Expr} {body : List Stmt} {it : IG} {js : List Nat} {b : SF} (hp : PassesOwn (model X.prog X.w) X.A X.env X.xe) (hc : X.calm = true) (hi : PI X tg iter (tI X.K Γ E m it)) (hg : PG X tg (tgt X.K m js)) (hb : PSs X body (tS X.K Γ E b))
    (hs : ∀ x, foldedSetIterable iter X.env x = pure x := by intro _; rfl) : PS X (.For tg iter body [] pos) (tS X.K Γ E (fFor it js b)) := ps_imp (ps_for hp hc hi hg hb hs) fun _ _ _ => tS_for
theorem s_while (n : Nat) {c : Expr} {body : List Stmt} {t : TF} {b : SF} (hp : PassesOwn (model X.prog X.w) X.A X.env X.xe) (hc : PT X c (tT X.K Γ E t)) (hb : PSs X body (tS X.K Γ E b)) : PS X (.While c body [] pos) (tS X.K Γ E (loopW t b n)) := ps_imp (ps_while hp hc hb) fun _ _ _ => tS_while
theorem g_name (j : Nat) {x : Str} (hN : X.N.Nodup) (hi : X.N[j]? = some x := by rfl) (hx : Loc X.env.scope x := by first | exact Or.inl rfl | exact Or.inr rfl) (hf : X.fn x = true ∨ X.env.scope.names.lookup x = some .local := by first | exact .inl rfl | exact .inr rfl | assumption) : PG X (.Name x pos) (tgt X.K false [j]) := pg_name hN hi hx hf
theorem g_nil : PGs X [] (gNames []) := pgs_nil
theorem g_cons (j : Nat) {js : List Nat} {x : Str} {es : List Expr} (hN : X.N.Nodup) (h2 : PGs X es (gNames js)) (hi : X.N[j]? = some x := by rfl) (hx : Loc X.env.scope x := by first | exact Or.inl rfl | exact Or.inr rfl) (hf : X.fn x = true ∨ X.env.scope.names.lookup x = some .local := by first | exact .inl rfl | exact .inr rfl | assumption)
    (hs : (assignEach (.Name x pos :: es) X.env).map (·.2) = assign (.Name x pos) X.env :: (assignEach es X.env).map (·.2) := by rfl) : PGs X (.Name x pos :: es) (gNames (j :: js)) := pgs_cons (pg_name hN hi hx hf) h2 hs
theorem g_tup {js : List Nat} {es : List Expr} {k : Nat} (hc : X.calm = true) (h : PGs X es (gNames js)) (hn : (assignEach es X.env).length = js.length := by rfl) (hst : (assignEach es X.env).findIdx? (·.1) = none := by rfl) : PG X (.Tuple es k pos) (tgt X.K true js) := pg_tup hc h hn hst
theorem i_list {m : Bool} {tg l : Expr} {f : EF} (h : PE X l (tE X.K Γ E f)) : PI X tg l (tI X.K Γ E m (fSeqI m f)) := pi_imp (pi_list h) fun _ _ _ => tI_list
theorem i_tup {m : Bool} {tg l : Expr} {f : EF} (h : PE X l (tE X.K Γ E f)) : PI X tg l (tI X.K Γ E m (fTupI m f)) := pi_imp (pi_tup h) fun _ _ _ => tI_tup
theorem i_rng1 {tg a : Expr} {p : Pos} {fs : AF} (hg : Gl X "range") (hm : X.mg "range" = none) (ha : PA X [a] (tA X.K Γ E fs)) (hs : starEach [a] X.env = [(false, eval a X.env)] := by rfl) : PI X tg (.Call (.Name "range" p) [a] [] pos) (tI X.K Γ E false (fRng1 fs)) := pi_imp (pi_range1 hg hm ha hs) fun _ _ _ => tI_rng1
theorem i_rng2 {tg a b : Expr} {p : Pos} {fs : AF} (hg : Gl X "range") (hm : X.mg "range" = none) (ha : PA X [a, b] (tA X.K Γ E fs)) (hs : starEach [a, b] X.env = [(false, eval a X.env), (false, eval b X.env)] := by rfl) (hs2 : starEach [b] X.env = [(false, eval b X.env)] := by rfl) : PI X tg (.Call (.Name "range" p) [a, b] [] pos) (tI X.K Γ E false (fRng2 fs)) := pi_imp (pi_range2 hg hm ha hs hs2) fun _ _ _ => tI_rng2
end
end Mi
/-! Mini: list comprehensions. -/
namespace Mi
open PySem L2 PySem.Spec PyProof.Rows
def wipeE (env : En) : List Nat → En
  | [] => env
  | v :: vs => (wipeE env vs).set v none
def compF (js : List Nat) (test : TF) (elt : EF) (env : En) : List (List D) → List D → Hh → Res A
  | [], acc, h => .ok (.ob (.lst acc)) h
  | ds :: r, acc, h => match bnd js ds env with
    | none => .er
    | some env1 => match test env1 h with
      | .ok true h1 => match elt env1 h1 with
        | .ok a h2 => match sto a with
          | some d => compF js test elt env r (acc ++ [d]) h2
          | none => .er
        | _ => .er
      | .ok false h1 => compF js test elt env r acc h1
      | _ => .er
def fComp (it : IG) (js own : List Nat) (test : TF) (elt : EF) : EF := fun env h => (it env h).bind fun o h1 => if o.1.length ≤ LIM then compF js test elt (wipeE env own) o.1 [] h1 else .er
def tYesF : TF := fun _ h => .ok true h
section
variable {K : PySem.W.Frag} {Γ : Nat → Addr} {E : XK} {σ σ1 : L2.St} {μ μ1 Oc Oc1 P T S : List Addr} {env env1 : En} {H H1 F : Hp} {h h1 : Hh}
theorem RS.unset : ∀ {env : En} {σ : L2.St} {O : List Addr} (i : Nat), RS K F H μ env σ O → ∃ O', RS K F H μ (env.set i none) (σ.set i none) O' ∧ O'.Sublist O
  | _, _, _, i, .nil => ⟨[], by simpa using RS.nil, List.Sublist.refl _⟩
  | _, _, _, 0, .no t => ⟨_, .no t, List.Sublist.refl _⟩
  | _, _, _, 0, .so r t => ⟨_, .no t, List.sublist_append_right _ _⟩
  | _, _, _, i + 1, .no t => by
    obtain ⟨O', h1, h2⟩ := RS.unset i t
    exact ⟨O', .no h1, h2⟩
  | _, _, _, i + 1, .so (P := P0) r t => by
    obtain ⟨O', h1, h2⟩ := RS.unset i t
    exact ⟨P0 ++ O', .so r h1, List.Sublist.append (List.Sublist.refl _) h2⟩
theorem RS.wipe {O : List Addr} (r : RS K F H μ env σ O) : ∀ vs : List Nat, ∃ O', RS K F H μ (wipeE env vs) (L2.wipe σ vs) O' ∧ O'.Sublist O
  | [] => ⟨O, r, List.Sublist.refl _⟩
  | v :: vs => by
    obtain ⟨O', h1, h2⟩ := RS.wipe r vs
    obtain ⟨O2, h3, h4⟩ := h1.unset v
    exact ⟨O2, h3, h4.trans h2⟩
theorem Slots.wipe (s : Slots K F H μ S env σ) (vs : List Nat) : Slots K F H μ S (wipeE env vs) (L2.wipe σ vs) := by
  obtain ⟨Os, h1, h2, h3⟩ := s
  obtain ⟨O', h4, h5⟩ := h3.wipe vs
  exact ⟨O', fun q hq => h1 q (h5.subset hq), h2.sublist h5, h4⟩
theorem wipe_get {σ : L2.St} : ∀ {vs : List Nat} {i : Nat}, i ∉ vs → (L2.wipe σ vs)[i]? = σ[i]?
  | [], _, _ => rfl
  | v :: vs, i, h => by
    unfold L2.wipe
    rw [List.getElem?_set_ne (fun e => h (by rw [e]; exact List.mem_cons_self))]
    exact wipe_get fun z => h (List.mem_cons_of_mem _ z)
theorem wipe_in {σ : L2.St} : ∀ {vs : List Nat} {i : Nat}, i ∈ vs → i < σ.length → (L2.wipe σ vs)[i]? = some none
  | v :: vs, i, h, hl => by
    unfold L2.wipe
    by_cases e : v = i
    · subst e
      rw [List.getElem?_set_self (by rw [wipe_length]; exact hl)]
    · rw [List.getElem?_set_ne e]
      rcases List.mem_cons.mp h with z | z
      · exact absurd z.symm e
      · exact wipe_in z hl
theorem wipe_ext {σ σ' : L2.St} {vs : List Nat} (hl : σ.length = σ'.length) (h : ∀ i, i ∉ vs → σ[i]? = σ'[i]?) : L2.wipe σ vs = L2.wipe σ' vs := by
  apply List.ext_getElem?
  intro i
  by_cases hi : i ∈ vs
  · by_cases hn : i < σ.length
    · rw [wipe_in hi hn, wipe_in hi (by rw [← hl]; exact hn)]
    · rw [List.getElem?_eq_none (by rw [wipe_length]; omega), List.getElem?_eq_none (by rw [wipe_length]; omega)]
  · rw [wipe_get hi, wipe_get hi, h i hi]
theorem sets_len : ∀ (js : List Nat) (ws : List V) (σ : L2.St), (setsV js ws σ).length = σ.length
  | [], _, _ => rfl
  | _ :: _, [], _ => rfl
  | j :: js, w :: ws, σ => by
    unfold setsV
    rw [sets_len js ws, List.length_set]
theorem sets_get : ∀ {js : List Nat} {ws : List V} {σ : L2.St} {i : Nat}, i ∉ js → (setsV js ws σ)[i]? = σ[i]?
  | [], _, _, _, _ => rfl
  | _ :: _, [], _, _, _ => rfl
  | j :: js, w :: ws, σ, i, h => by
    unfold setsV
    rw [sets_get fun z => h (List.mem_cons_of_mem _ z), List.getElem?_set_ne fun e => h (by rw [e]; exact List.mem_cons_self)]
theorem wipe_sets {js own : List Nat} {ws : List V} {σ : L2.St} (h : ∀ j ∈ js, j ∈ own) : L2.wipe (setsV js ws (L2.wipe σ own)) own = L2.wipe σ own := by
  refine wipe_ext (by rw [sets_len, wipe_length]) fun i hi => ?_
  rw [sets_get fun z => hi (h i z), wipe_get hi]
theorem Sim.more (s : Sim K H σ μ Oc T env h) (e : Ex H H1) : Sim K H1 σ μ Oc T env h := by
  have ex : Ex (mns H (Oc ++ T)) (mns H1 (Oc ++ T)) := ex_mns fun q o hq z => ⟨e q o z, hq⟩
  refine ⟨s.nd, s.cells.mv ex fun q _ o z => e q o z, s.slots.mv ex (Pre.refl _) (fun q _ o z => e q o z) fun _ z => z, fun q hq => ?_⟩
  obtain ⟨o, ho, nf⟩ := s.live q hq
  exact ⟨o, e q o ho, nf⟩
/-- the state within a comprehension's loop: the new list at D holds accV -/
structure CSt (K : PySem.W.Frag) (σ : L2.St) (μ Oc T : List Addr) (env : En) (H : Hp) (D : Addr) (acc : List Mi.D) (h' : Hh) (H' : Hp) (μ' Oc' : List Addr) : Prop where
  gr : Gr Oc H μ Oc' H' μ'
  sim : Sim K H' σ μ' Oc' (T ++ [D]) env h'
  at' : ∃ accV, H' D = some (.lst accV) ∧ DqAll K (mns H' (Oc' ++ (T ++ [D]))) accV acc
theorem tE_comp {m : Bool} {it : IG} {js own : List Nat} {test : TF} {elt : EF} {Q : VK} (hj : ∀ j ∈ js, j ∈ own) (hq : tE K Γ E (fComp it js own test elt) σ H Q) :
    tLc (tI K Γ E m it) (tgt K m js) (tT K Γ E0 test) (tE K Γ E0 elt) own σ H Q := by
  obtain ⟨μ, Oc, T, env, h, s, go⟩ := hq
  refine ⟨μ, Oc, T, env, h, s, ?_⟩
  unfold fComp at go
  cases hi : it env h with
  | er => rw [hi] at go; exact go
  | exc c h1 => rw [hi] at go; exact go
  | ok o h1 =>
    obtain ⟨dss, st⟩ := o
    rw [hi] at go
    change GoE K Γ E (if dss.length ≤ LIM then compF js test elt (wipeE env own) dss [] h1 else .er) σ H μ Oc T env Q at go
    intro J H1 μ1 Oc1 Fw Ff p eFw eFf wk D hD
    by_cases hlim : dss.length ≤ LIM
    · rw [if_pos hlim] at go
      have s1 : Sim K H1 σ μ1 Oc1 T env h1 := p.sim0
      have eW1 : Ex Fw (mns H1 Oc1) := eFw.trans (by
        cases st with
        | true => exact mns_mono fun q hq => List.mem_append_left _ hq
        | false => exact Ex.refl _)
      have nO1 : D ∉ Oc1 := nin_c s1.cells hD
      have nT1 : D ∉ T := nin_t s1.live hD
      -- the start: an empty list at D
      have ex0 : Ex (mns H1 (Oc1 ++ T)) (mns (L2.upd H1 D (.lst [])) (Oc1 ++ (T ++ [D]))) := by
        have := new_ex (Oc := Oc1) (T := T) (P := []) (P' := [D]) (o := .lst []) hD (in1 hD)
        rwa [List.append_nil] at this
      have nd0 : (Oc1 ++ (T ++ [D])).Nodup := by
        rw [← List.append_assoc]
        refine nd_mk s1.nd (nd1 D) fun q a b => ?_
        have e : q = D := by simpa using b
        subst e
        exact (List.mem_append.mp a).elim nO1 nT1
      have c0 : CSt K σ μ1 Oc1 T env H1 D [] h1 (L2.upd H1 D (.lst [])) μ1 Oc1 := by
        refine ⟨Gr.ex (Ex.new hD), ⟨nd0, s1.cells.mv ex0 fun q _ o z => Ex.new hD q o z, s1.slots.mv ex0 (Pre.refl _) (fun q _ o z => Ex.new hD q o z) fun q hq => List.mem_append_left _ hq, fun q hq => ?_⟩, [], upd_same, .nil⟩
        rcases List.mem_append.mp hq with z | z
        · exact (s1.live q z).upd
        · have e : q = D := by simpa using z
          subst e
          exact .lst upd_same
      refine ⟨fun i m H' => m = dss.length - i ∧ i ≤ dss.length ∧ ∃ μ' Oc' h' acc, acc.length ≤ i ∧ CSt K σ μ1 Oc1 T env H1 D acc h' H' μ' Oc' ∧ GoE K Γ E (compF js test elt (wipeE env own) (dss.drop i) acc h') σ H μ Oc T env Q,
        ⟨_, rfl, Nat.zero_le _, μ1, Oc1, h1, [], Nat.le_refl _, c0, go⟩, ?_⟩
      rintro i m H2 ⟨rfl, hi, μ2, Oc2, h2, acc, hacc, c2, go2⟩
      have eW : Ex Fw H2 := (eW1.trans (w_step c2.gr)).trans (mns_ex _ _)
      have eF : Ex Ff (mns H2 (Oc2 ++ (T ++ [D]))) := eFf.trans (fr_step c2.gr fun q hq => (List.mem_append.mp hq).elim .inl fun z => .inr (by
        have e : q = D := by simpa using z
        rw [e]; exact hD))
      by_cases hlt : i < dss.length
      · refine .inr ⟨wk.go H2 i eW (eF.trans (mns_ex _ _)) hlt, _, fun H' hN => ⟨dss.length - (i + 1), by omega, hN⟩, fun x H3 hy => ?_⟩
        have hget : dss[i]? = some dss[i] := List.getElem?_eq_getElem hlt
        rw [List.drop_eq_getElem_cons hlt] at go2
        obtain ⟨eH, F', k1, k2, k3, k4⟩ := wk.yld H2 i x H3 _ eW (eF.trans (mns_ex _ _)) hget hy
        have s3 := c2.sim.more eH
        have eF3 : Ex F' (mns H3 (Oc2 ++ (T ++ [D]))) := fun q o hq => by
          refine mns_some.mpr ⟨fun z => ?_, k2 q o hq⟩
          rcases k3 q o hq with z2 | z2
          · exact (mns_some.mp (eF q o z2)).1 z
          · rcases List.mem_append.mp z with w | w
            · obtain ⟨o', ho', _⟩ := c2.sim.cells.there q w
              rw [z2] at ho'
              cases ho'
            · obtain ⟨o', ho', _⟩ := c2.sim.live q w
              rw [z2] at ho'
              cases ho'
        obtain ⟨accV, a1, a2⟩ := c2.at'
        unfold compF at go2
        cases hb : bnd js dss[i] (wipeE env own) with
        | none => rw [hb] at go2; exact go2.elim
        | some env3 =>
          simp only [hb] at go2
          refine tgt_ok hb (mns_ex _ _) (k4.ex eF3) (s3.slots.wipe own) fun ws3 sl3 => ⟨wipe_sets hj, ?_⟩
          have s4 : Sim K H3 (setsV js ws3 (L2.wipe σ own)) μ2 Oc2 (T ++ [D]) env3 h2 := ⟨s3.nd, s3.cells, sl3, s3.live⟩
          refine ⟨μ2, Oc2, T ++ [D], env3, h2, s4, ?_⟩
          have nOD : D ∉ Oc2 := nd_ne' s3.nd (List.mem_append_right _ List.mem_cons_self)
          -- the loop's state behind what a turn did
          have next : ∀ {h' : Hh} {H' : Hp} {μ' Oc' : List Addr}, Gr Oc2 H3 μ2 Oc' H' μ' → (Oc' ++ (T ++ [D])).Nodup → RC K (mns H' (Oc' ++ (T ++ [D]))) H' h' μ' Oc' → CSt K σ μ1 Oc1 T env H1 D acc h' H' μ' Oc' := fun {h' H' μ' Oc'} g n r => by
            have ex3 : Ex (mns H3 (Oc2 ++ (T ++ [D]))) (mns H' (Oc' ++ (T ++ [D]))) := fr_step g fun q hq => .inl hq
            refine ⟨(c2.gr.trans (Gr.ex eH)).trans g, ⟨n, r, s3.slots.mv ex3 g.pre (ag_step g s3.nd fun q hq => hq) fun _ z => z, fun q hq => ?_⟩, accV, g.keep D _ nOD (eH _ _ a1), ex_dps ex3 (ex_dps (ex_mns fun q o hq z => ⟨eH q o z, hq⟩) a2)⟩
            obtain ⟨o, ho, nf⟩ := s3.live q hq
            exact ⟨o, g.keep q o (nd_ne' s3.nd hq) ho, nf⟩
          cases ht : test env3 h2 with
          | er => simp only [ht] at go2; exact go2.elim
          | exc c h4 => simp only [ht] at go2; exact go2.elim
          | ok b h4 =>
            intro H4 μ4 Oc4 p4
            have n4 : (Oc4 ++ (T ++ [D])).Nodup := by have := p4.nd; simpa using this
            have r4 : RC K (mns H4 (Oc4 ++ (T ++ [D]))) H4 h4 μ4 Oc4 := by have := p4.cells; simpa using this
            cases b with
            | false =>
              simp only [ht] at go2
              exact ⟨rfl, hlt, μ4, Oc4, h4, acc, by omega, next p4.gr n4 r4, go2⟩
            | true =>
              simp only [ht] at go2
              refine ⟨μ4, Oc4, T ++ [D], env3, h4, p4.sim0, ?_⟩
              cases he : elt env3 h4 with
              | er => simp only [he] at go2; exact go2.elim
              | exc c h5 => simp only [he] at go2; exact go2.elim
              | ok a h5 =>
                simp only [he] at go2
                intro y H5 μ5 Oc5 P5 p5
                cases hs : sto a with
                | none => simp only [hs] at go2; exact go2.elim
                | some d =>
                  simp only [hs] at go2
                  have p05 := p5.drop
                  have n5 : (Oc5 ++ (T ++ [D])).Nodup := by have := p05.nd; simpa using this
                  have r5 : RC K (mns H5 (Oc5 ++ (T ++ [D]))) H5 h5 μ5 Oc5 := by have := p05.cells; simpa using this
                  have c5 := next (p4.gr.trans p5.gr) n5 r5
                  obtain ⟨accW, b1, b2⟩ := c5.at'
                  have dy : Dq K (mns H5 (Oc5 ++ (T ++ [D]))) y d := by
                    obtain ⟨y', ey, ry⟩ := ras1 p5.val
                    cases ey
                    exact ra_sto p5.nd ry (fun _ z => z) hs
                  have hin : D ∈ Oc5 ++ (T ++ [D]) := List.mem_append_right _ (List.mem_append_right _ List.mem_cons_self)
                  have ex5 : Ex (mns H5 (Oc5 ++ (T ++ [D]))) (mns (L2.upd H5 D (.lst (accW ++ [y]))) (Oc5 ++ (T ++ [D]))) := ex_upd hin
                  have nOD5 : D ∉ Oc5 := nd_ne' n5 (List.mem_append_right _ List.mem_cons_self)
                  refine ⟨accW, b1, by rw [dps_length b2]; exact lim_lt (by omega), rfl, hlt, μ5, Oc5, h5, acc ++ [d], by rw [List.length_append]; simp; omega, ?_, go2⟩
                  refine ⟨⟨fun q o hq e => ?_, c5.gr.new, fun q hq => c5.gr.dom q (upd_dom hq), c5.gr.pre⟩, ⟨n5, c5.sim.cells.mv ex5 fun q hq o z => upd_at (fun e => nOD5 (by rw [← e]; exact hq)) z, ?_, fun q hq => (c5.sim.live q hq).upd⟩, _, upd_same, dps_append (ex_dps ex5 b2) (.cons (ex_dp ex5 dy) .nil)⟩
                  · exact upd_at (fun z => by rw [z, hD] at e; cases e) (c5.gr.keep q o hq e)
                  · obtain ⟨Os, o1, o2, o3⟩ := p.slots
                    have eS : Ex (mns H1 (Oc1 ++ (T ++ []))) (mns (L2.upd H5 D (.lst (accW ++ [y]))) (Oc5 ++ (T ++ [D]))) := (fr_step c5.gr fun q hq => by
                      rcases List.mem_append.mp hq with z | z
                      · exact .inl (List.mem_append_left _ z)
                      · exact .inr (by
                          have e : q = D := by simpa using z
                          rw [e]; exact hD)).trans ex5
                    refine ⟨Os, fun q hq => List.mem_append_left _ (o1 q hq), o2, o3.mv eS c5.gr.pre fun q hq o z => upd_at (fun e => nT1 (by rw [← e]; exact o1 q hq)) (c5.gr.keep q o (nd_ne' s1.nd (o1 q hq)) z)⟩
      · have e : i = dss.length := by omega
        subst e
        rw [List.drop_length] at go2
        refine .inl ⟨wk.stop H2 _ eW (eF.trans (mns_ex _ _)) (Nat.le_refl _), ?_⟩
        obtain ⟨accV, a1, a2⟩ := c2.at'
        refine go2 (.ref D) H2 μ2 Oc2 [D] ⟨p.gr.trans c2.gr, fun q hq => ?_, c2.sim.nd, c2.sim.cells, ?_, one_val (.ob (.lst a1 a2)), fun q hq => c2.sim.live q (List.mem_append_left _ hq)⟩
        · have e : q = D := by simpa using hq
          rw [e]
          exact p.gr.dom D hD
        · obtain ⟨Os, o1, o2, o3⟩ := p.slots
          have eS : Ex (mns H1 (Oc1 ++ (T ++ []))) (mns H2 (Oc2 ++ (T ++ [D]))) := fr_step c2.gr fun q hq => by
            rcases List.mem_append.mp hq with z | z
            · exact .inl (List.mem_append_left _ z)
            · exact .inr (by
                have e : q = D := by simpa using z
                rw [e]; exact hD)
          exact ⟨Os, o1, o2, o3.mv eS c2.gr.pre fun q hq o z => c2.gr.keep q o (nd_ne' s1.nd (o1 q hq)) z⟩
    · rw [if_neg hlim] at go; exact go.elim
end
end Mi
/-! Mini: comprehensions as rules; enumerate, zip. -/
namespace Mi
open PySem L2 PySem.Spec PyProof.Rows
section
variable {X : Cx} {Γ : Nat → Addr} {E : XK}
theorem ts_nil : PTs X [] (tT X.K Γ E0 tYesF) := ⟨fun pins s σ H Q I h => pts_nil.run pins s σ H Q I (by
  obtain ⟨μ, Oc, T, env, hh, s, go⟩ := h
  exact go H μ Oc s.psA)⟩
theorem ts_one {c : Expr} {t : TF} (h : PT X c (tT X.K Γ E0 t)) : PTs X [c] (tT X.K Γ E0 t) := pts_one h
theorem e_comp {m : Bool} {elt tg iter : Expr} {ifs : List Expr} {scope : Scope} {own : List (Str × Nat)} {pos : Pos} {it : IG} {js : List Nat} {test : TF} {fe : EF} (hc : X.calm = true) (hN : X.N.Nodup) (hi : PI X tg iter (tI X.K Γ E m it)) (ok : BlkOk X.N X.env.scope scope own)
    (hg : ∀ (s : Shared) (H : Hp) (C : Addr) (cl : List (Str × Addr)) (fp : List Addr), PG (X.blk s H scope (compEnvC scope cl C X.env) fp) tg (tgt X.K m js)) (ht : ∀ (s : Shared) (H : Hp) (C : Addr) (cl : List (Str × Addr)) (fp : List Addr), PTs (X.blk s H scope (compEnvC scope cl C X.env) fp) ifs (tT X.K Γ E0 test))
    (he : ∀ (s : Shared) (H : Hp) (C : Addr) (cl : List (Str × Addr)) (fp : List Addr), PE (X.blk s H scope (compEnvC scope cl C X.env) fp) elt (tE X.K Γ E0 fe)) (hj : ∀ j ∈ js, j ∈ own.map (·.2)) (hs : ∀ x, foldedSetIterable iter X.env x = pure x := by intro _; rfl) :
    PE X (.ListComp elt [⟨tg, iter, ifs, 0⟩] scope pos) (tE X.K Γ E (fComp it js (own.map (·.2)) test fe)) := pe_imp (pe_lc hc hN hi ok hg ht he hs) fun _ _ _ => tE_comp hj
theorem s_setFc {i : Nat} {y : Str} {py : Pos} {m : Bool} {elt tg iter : Expr} {ifs : List Expr} {scope : Scope} {own : List (Str × Nat)} {pos spos : Pos} {it : IG} {js : List Nat} {test : TF} {fe : EF} (hc : X.calm = true) (hN : X.N.Nodup) (hy : X.N[i]? = some y) (hyl : X.env.scope.names.lookup y = some .local)
    (hsw : swapsWith (.ListComp elt [⟨tg, iter, ifs, 0⟩] scope pos) (some (.Name y py)) spos.line X.env = pure true) (hi : PI X tg iter (tI X.K Γ E m it)) (ok : BlkOk X.N X.env.scope scope own)
    (hg : ∀ (s : Shared) (H : Hp) (C : Addr) (cl : List (Str × Addr)) (fp : List Addr), PG (X.blk s H scope (compEnvC scope cl C X.env) fp) tg (tgt X.K m js)) (ht : ∀ (s : Shared) (H : Hp) (C : Addr) (cl : List (Str × Addr)) (fp : List Addr), PTs (X.blk s H scope (compEnvC scope cl C X.env) fp) ifs (tT X.K Γ E0 test))
    (he : ∀ (s : Shared) (H : Hp) (C : Addr) (cl : List (Str × Addr)) (fp : List Addr), PE (X.blk s H scope (compEnvC scope cl C X.env) fp) elt (tE X.K Γ E0 fe)) (hj : ∀ j ∈ js, j ∈ own.map (·.2)) (hs : ∀ x, foldedSetIterable iter X.env x = pure x := by intro _; rfl) :
    PS X (.Assign [.Name y py] (.ListComp elt [⟨tg, iter, ifs, 0⟩] scope pos) spos) (tS X.K Γ E (fSetF i (fComp it js (own.map (·.2)) test fe))) :=
  ps_imp (ps_setLc hc hN hy hyl hsw hi ok hg ht he hs) fun _ _ _ q => tE_comp hj (tS_setF q)
theorem s_setOc {i : Nat} {y : Str} {py : Pos} {m : Bool} {elt tg iter : Expr} {ifs : List Expr} {scope : Scope} {own : List (Str × Nat)} {pos spos : Pos} {it : IG} {js : List Nat} {test : TF} {fe : EF} (hc : X.calm = true) (hN : X.N.Nodup) (hy : X.N[i]? = some y) (hyl : X.env.scope.names.lookup y = some .local)
    (hsw : swapsWith (.ListComp elt [⟨tg, iter, ifs, 0⟩] scope pos) (some (.Name y py)) spos.line X.env = pure true) (hi : PI X tg iter (tI X.K Γ E m it)) (ok : BlkOk X.N X.env.scope scope own)
    (hg : ∀ (s : Shared) (H : Hp) (C : Addr) (cl : List (Str × Addr)) (fp : List Addr), PG (X.blk s H scope (compEnvC scope cl C X.env) fp) tg (tgt X.K m js)) (ht : ∀ (s : Shared) (H : Hp) (C : Addr) (cl : List (Str × Addr)) (fp : List Addr), PTs (X.blk s H scope (compEnvC scope cl C X.env) fp) ifs (tT X.K Γ E0 test))
    (he : ∀ (s : Shared) (H : Hp) (C : Addr) (cl : List (Str × Addr)) (fp : List Addr), PE (X.blk s H scope (compEnvC scope cl C X.env) fp) elt (tE X.K Γ E0 fe)) (hj : ∀ j ∈ js, j ∈ own.map (·.2)) (hs : ∀ x, foldedSetIterable iter X.env x = pure x := by intro _; rfl) :
    PS X (.Assign [.Name y py] (.ListComp elt [⟨tg, iter, ifs, 0⟩] scope pos) spos) (tS X.K Γ E (fSetO i (fComp it js (own.map (·.2)) test fe))) :=
  ps_imp (ps_setLc hc hN hy hyl hsw hi ok hg ht he hs) fun _ _ _ q => tE_comp hj (tS_setO q)
end
/-! ### enumerate, zip -/
def enumD (ds : List D) : List (List D) := (List.range ds.length).zipWith (fun i d => [.int (i : Nat), d]) ds
def zipD (ds es : List D) : List (List D) := ds.zipWith (fun d e => [d, e]) es
theorem enumD_len (ds : List D) : (enumD ds).length = ds.length := by
  unfold enumD
  rw [List.length_zipWith, List.length_range]
  omega
theorem enumD_get {ds es : List D} {i : Nat} (h : (enumD ds)[i]? = some es) : ∃ d, ds[i]? = some d ∧ es = [.int (i : Nat), d] := by
  unfold enumD at h
  rw [List.getElem?_zipWith] at h
  cases hd : ds[i]? with
  | none => rw [hd] at h; simp at h
  | some d =>
    have hl : i < ds.length := (List.getElem?_eq_some_iff.mp hd).1
    rw [hd, List.getElem?_range hl] at h
    simp at h
    exact ⟨d, rfl, h.symm⟩
section
variable {K : PySem.W.Frag} {Γ : Nat → Addr} {E : XK} {σ : L2.St} {μ Oc T P : List Addr} {env : En} {H F : Hp} {h : Hh}
/-- a list that is walked, of a value: its data, strict or not -/
def lstI (a : A) : Option (List D × Bool) := match a with
  | .dat (.list ds) => some (ds, true)
  | .ob (.lst ds) => some (ds, true)
  | .sn (.lst ds) => some (ds, false)
  | _ => none
theorem lstI_ok {a : A} {ds : List D} {st : Bool} {v : V} {as : List A} {vs : List V} {H1 : Hp} {h1 : Hh} {μ1 Oc1 P1 P' : List Addr} (nd : (Oc1 ++ (T ++ P1)).Nodup) (hP : ∀ q ∈ P', q ∈ P1) (r : RA K (mns H1 (Oc1 ++ (T ++ P1))) (mns H1 Oc1) H1 μ1 a v P') (ha : lstI a = some (ds, st)) :
    ∃ p ws, v = .ref p ∧ mns H1 (if st then Oc1 ++ T else Oc1) p = some (.lst ws) ∧ DqAll K (mns H1 (Oc1 ++ T)) ws ds := by
  unfold lstI at ha
  split at ha
  · cases ha
    cases r with
    | dat r =>
      cases r with
      | lst k1 k2 => exact ⟨_, _, rfl, exFG _ _ k1, ex_dps exFG k2⟩
  · cases ha
    cases r with
    | ob r =>
      cases r with
      | lst k1 k2 =>
        refine ⟨_, _, rfl, mns_some.mpr ⟨fun z => ?_, k1⟩, ex_dps exFG k2⟩
        rw [← List.append_assoc] at nd
        exact nd_ne' nd (hP _ List.mem_cons_self) z
  · cases ha
    cases r with
    | sn r =>
      cases r with
      | lst k1 k2 => exact ⟨_, _, rfl, k1, ex_dps exFG k2⟩
  · cases ha
theorem new_tup {T0 : Addr} {Ff H : Hp} {xs : List V} (ef : Ex Ff H) (hn : H T0 = none) : Ex H (L2.upd H T0 (.tup xs)) ∧ ∃ F', Ex Ff F' ∧ Ex F' (L2.upd H T0 (.tup xs)) ∧ (∀ q o, F' q = some o → Ff q = some o ∨ H q = none) ∧ F' T0 = some (.tup xs) := by
  have hf : Ff T0 = none := ef.dom hn
  refine ⟨Ex.new hn, L2.upd Ff T0 (.tup xs), Ex.new hf, fun q o hq => ?_, fun q o hq => ?_, upd_same⟩
  · by_cases e : q = T0
    · subst e; rw [upd_same] at hq ⊢; exact hq
    · rw [upd_ne e] at hq ⊢; exact ef q o hq
  · by_cases e : q = T0
    · subst e; exact .inr hn
    · rw [upd_ne e] at hq; exact .inl hq
theorem wk_enum {a : Addr} {ws : List V} {ds : List D} {Fw Ff : Hp} (hw : Fw a = some (.lst ws)) (hd : DqAll K Ff ws ds) : Wk K true (Ite K a) Fw Ff (enumD ds) where
  stop := fun H i e _ hl => ⟨ws, .of (e _ _ hw), by rw [dps_length hd, ← enumD_len ds]; exact hl⟩
  go := fun H i e _ hl => by
    have hl' : i < ws.length := by rw [dps_length hd, ← enumD_len ds]; exact hl
    exact ⟨ws, ws[i], .of (e _ _ hw), List.getElem?_eq_getElem hl'⟩
  yld := fun H i x H' es e ef hes hy => by
    obtain ⟨T0, y, rfl, hn, rfl, hx⟩ := hy
    obtain ⟨d, hd1, rfl⟩ := enumD_get hes
    obtain ⟨v, hv, dv⟩ := dps_get hd hd1
    have e1 := hx ws (.of (e _ _ hw))
    rw [hv] at e1
    cases e1
    obtain ⟨k1, F', k2, k3, k4, k5⟩ := new_tup (xs := [.int (i : Nat), y]) ef hn
    exact ⟨k1, F', k2, k3, k4, _, _, rfl, .inl (.inl k5), .cons (.int _) (.cons (ex_dp k2 dv) .nil)⟩
def fEnum (fs : AF) : IG := fun env h => (fs env h).bind fun as h1 => match as with
  | [a] => match lstI a with
    | some (ds, st) => .ok (enumD ds, st) h1
    | none => .er
  | _ => .er
theorem tI_enum {fs : AF} {R : It → Hp → Prop} : tI K Γ E true (fEnum fs) σ H R → iEnum K (tA K Γ E fs) σ H R := by
  rintro ⟨μ, Oc, T, env, h, s, go⟩
  refine ⟨μ, Oc, T, env, h, s, ?_⟩
  unfold fEnum at go
  cases hf : fs env h with
  | er => rw [hf] at go; exact go
  | exc c h1 => rw [hf] at go; exact go
  | ok as h1 =>
    rw [hf] at go
    intro vs H1 μ1 Oc1 P1 p
    simp only [Res.bind] at go
    split at go
    · rename_i a
      cases hl : lstI a with
      | none => simp only [hl] at go; exact go.elim
      | some o =>
        obtain ⟨ds, st⟩ := o
        simp only [hl] at go
        obtain ⟨v, rfl, r⟩ := ras1 p.val
        obtain ⟨q, ws, rfl, k1, k2⟩ := lstI_ok (as := []) (vs := []) (h1 := h1) p.nd (fun _ z => z) r hl
        exact ⟨q, ws, rfl, .of (mns_ex _ _ _ _ k1), go _ H1 μ1 Oc1 _ _ p.drop (Ex.refl _) (Ex.refl _) (wk_enum k1 k2)⟩
    · exact go.elim
end
section
variable {X : Cx} {Γ : Nat → Addr} {E : XK} {pos : Pos}
theorem i_enum {e : Expr} {p tpos : Pos} {elts : List Expr} {kk : Nat} {fs : AF} (hg : Gl X "enumerate") (hm : X.mg "enumerate" = none) (ha : PA X [e] (tA X.K Γ E fs)) (hs : starEach [e] X.env = [(false, eval e X.env)] := by rfl) :
    PI X (.Tuple elts kk tpos) (.Call (.Name "enumerate" p) [e] [] pos) (tI X.K Γ E true (fEnum fs)) := pi_imp (pi_enum hg hm ha hs) fun _ _ _ => tI_enum
end
end Mi
/-! Mini: more operations on values. -/
namespace Mi
open PySem L2 PySem.Spec PyProof.Rows
/-! ### lists of ints -/
def asInts : List D → Option (List Int)
  | [] => some []
  | .int i :: r => (asInts r).map (i :: ·)
  | _ => none
theorem asInts_map (ns : List Int) : asInts (ns.map .int) = some ns := by
  induction ns with
  | nil => rfl
  | cons n ns ih => rw [List.map_cons, asInts, ih]; rfl
theorem asInts_eq : ∀ {ds : List D} {ns : List Int}, asInts ds = some ns → ds = ns.map .int
  | [], ns, h => by cases h; rfl
  | .int i :: r, ns, h => by
    rw [asInts] at h
    obtain ⟨m, hm, e⟩ := Option.map_eq_some_iff.mp h
    subst e
    rw [List.map_cons, ← asInts_eq hm]
  | .none :: r, _, h => by simp [asInts] at h
  | .bool _ :: r, _, h => by simp [asInts] at h
  | .str _ :: r, _, h => by simp [asInts] at h
  | .list _ :: r, _, h => by simp [asInts] at h
  | .tuple _ :: r, _, h => by simp [asInts] at h
  | .dict _ :: r, _, h => by simp [asInts] at h
section
variable {K : PySem.W.Frag} {F : Hp}
theorem dqs_ints : ∀ {ns : List Int} {ws : List V}, DqAll K F ws (ns.map .int) → ws = ns.map V.int
  | [], _, .nil => rfl
  | n :: ns, _, .cons r t => by
    cases r
    rw [List.map_cons, ← dqs_ints t]
theorem ints_dqs : ∀ (ns : List Int), DqAll K F (ns.map V.int) (ns.map .int)
  | [] => .nil
  | n :: ns => .cons (.int n) (ints_dqs ns)
end
/-- insertion sort -/
def insI (x : Int) : List Int → List Int
  | [] => [x]
  | y :: r => if x ≤ y then x :: y :: r else y :: insI x r
def srt : List Int → List Int
  | [] => []
  | x :: r => insI x (srt r)
theorem insI_perm (x : Int) : ∀ l : List Int, (insI x l).Perm (x :: l)
  | [] => List.Perm.refl _
  | y :: r => by
    unfold insI
    split
    · exact List.Perm.refl _
    · exact ((insI_perm x r).cons y).trans (List.Perm.swap x y r)
theorem srt_perm : ∀ l : List Int, (srt l).Perm l
  | [] => List.Perm.refl _
  | x :: r => (insI_perm x (srt r)).trans ((srt_perm r).cons x)
theorem insI_sorted (x : Int) : ∀ {l : List Int}, l.Pairwise (· ≤ ·) → (insI x l).Pairwise (· ≤ ·)
  | [], _ => List.pairwise_singleton _ _
  | y :: r, h => by
    unfold insI
    split
    · rename_i hxy
      exact List.pairwise_cons.mpr ⟨fun z hz => (List.mem_cons.mp hz).elim (fun e => e ▸ hxy) fun hz => Int.le_trans hxy ((List.pairwise_cons.mp h).1 z hz), h⟩
    · rename_i hxy
      refine List.pairwise_cons.mpr ⟨fun z hz => ?_, insI_sorted x (List.pairwise_cons.mp h).2⟩
      rcases List.mem_cons.mp ((insI_perm x r).mem_iff.mp hz) with e | e
      · subst e; omega
      · exact (List.pairwise_cons.mp h).1 z e
theorem srt_sorted : ∀ l : List Int, (srt l).Pairwise (· ≤ ·)
  | [] => List.Pairwise.nil
  | x :: r => insI_sorted x (srt_sorted r)
theorem sorted_same : ∀ {l m : List Int}, l.Perm m → l.Pairwise (· ≤ ·) → m.Pairwise (· ≤ ·) → l = m
  | [], m, p, _, _ => (List.Perm.nil_eq p)
  | x :: l, [], p, _, _ => absurd p.length_eq (by simp)
  | x :: l, y :: m, p, h1, h2 => by
    have e : x = y := by
      have a1 : x ∈ y :: m := p.mem_iff.mp List.mem_cons_self
      have a2 : y ∈ x :: l := p.mem_iff.mpr List.mem_cons_self
      have b1 : y ≤ x := (List.mem_cons.mp a1).elim (fun e => Int.le_of_eq e.symm) ((List.pairwise_cons.mp h2).1 x)
      have b2 : x ≤ y := (List.mem_cons.mp a2).elim (fun e => Int.le_of_eq e.symm) ((List.pairwise_cons.mp h1).1 y)
      omega
    subst e
    rw [sorted_same (List.Perm.cons_inv p) (List.pairwise_cons.mp h1).2 (List.pairwise_cons.mp h2).2]
theorem srt_unique {l m : List Int} (p : m.Perm l) (h : m.Pairwise (· ≤ ·)) : m = srt l := sorted_same (p.trans (srt_perm l).symm) h (srt_sorted l)
/-- the least, the greatest -/
def minI : List Int → Int
  | [] => 0
  | [x] => x
  | x :: y :: r => min x (minI (y :: r))
def maxI : List Int → Int
  | [] => 0
  | [x] => x
  | x :: y :: r => max x (maxI (y :: r))
theorem minI_mem : ∀ {l : List Int}, l ≠ [] → minI l ∈ l
  | [], h => absurd rfl h
  | [x], _ => List.mem_cons_self
  | x :: y :: r, _ => by
    have ih := minI_mem (l := y :: r) (by simp)
    unfold minI
    rcases Int.le_total x (minI (y :: r)) with h | h
    · rw [Int.min_eq_left h]; exact List.mem_cons_self
    · rw [Int.min_eq_right h]; exact List.mem_cons_of_mem _ ih
theorem minI_le : ∀ {l : List Int} {z : Int}, z ∈ l → minI l ≤ z
  | [x], z, h => by simp at h; subst h; exact Int.le_refl _
  | x :: y :: r, z, h => by
    unfold minI
    rcases List.mem_cons.mp h with e | h
    · subst e; exact Int.min_le_left _ _
    · exact Int.le_trans (Int.min_le_right _ _) (minI_le h)
theorem maxI_mem : ∀ {l : List Int}, l ≠ [] → maxI l ∈ l
  | [], h => absurd rfl h
  | [x], _ => List.mem_cons_self
  | x :: y :: r, _ => by
    have ih := maxI_mem (l := y :: r) (by simp)
    unfold maxI
    rcases Int.le_total x (maxI (y :: r)) with h | h
    · rw [Int.max_eq_right h]; exact List.mem_cons_of_mem _ ih
    · rw [Int.max_eq_left h]; exact List.mem_cons_self
theorem maxI_ge : ∀ {l : List Int} {z : Int}, z ∈ l → z ≤ maxI l
  | [x], z, h => by simp at h; subst h; exact Int.le_refl _
  | x :: y :: r, z, h => by
    unfold maxI
    rcases List.mem_cons.mp h with e | h
    · subst e; exact Int.le_max_left _ _
    · exact Int.le_trans (maxI_ge h) (Int.le_max_right _ _)
theorem minI_unique {l : List Int} {m : Int} (h1 : m ∈ l) (h2 : ∀ y, y ∈ l → m ≤ y) : m = minI l := by
  have a := minI_le h1
  have b := h2 _ (minI_mem (l := l) (fun e => by rw [e] at h1; cases h1))
  omega
theorem maxI_unique {l : List Int} {m : Int} (h1 : m ∈ l) (h2 : ∀ y, y ∈ l → y ≤ m) : m = maxI l := by
  have a := maxI_ge h1
  have b := h2 _ (maxI_mem (l := l) (fun e => by rw [e] at h1; cases h1))
  omega
/-! ### min, max of a tuple of ints -/
section
variable {prog : Program} {w : World} {A : Around} {E : Value → Shared → Prop} {s : Shared} {l : Addr} {its : List Value} {ns : List Int} {Q : Value → Shared → Prop}
theorem iter_tupT {Q : Value → Shared → Prop} {items : Array Value} (hl : s.heap.IsTuple l items)
    (h : ∀ s₂ : Shared, (∀ b o, s.heap.get? b = some o → b ≠ s.heap.objs.size ∧ s₂.heap.get? b = some o) → s₂ = { s with heap := s₂.heap } → (s₂.heap.IsTupleIter s.heap.objs.size l 0 ∧ s₂.heap.IsTuple l items) → (∀ b ∈ [s.heap.objs.size, l], b < s₂.heap.objs.size) → l ≠ s.heap.objs.size → Q (.ref s.heap.objs.size) s₂) :
    wpAny (model prog w) A (pyIter (.ref l)) Q E s := by
  have hlt : l < s.heap.objs.size := by obtain ⟨_, e, _⟩ := hl; exact Heap.lt_size e
  refine wpAny_pyIter_tuple hl (h _ (fun b o e => ⟨Nat.ne_of_lt (Heap.lt_size e), Heap.get?_push_of_some _ e⟩) rfl ⟨⟨_, Heap.get?_push_size _ rfl, rfl, rfl⟩, ?_⟩ (fun b hb => ?_) (Nat.ne_of_lt hlt))
  · obtain ⟨o, e, r⟩ := hl
    exact ⟨o, Heap.get?_push_of_some _ e, r⟩
  · show b < (s.heap.push _).objs.size
    rw [Heap.size_push]
    rcases List.mem_cons.mp hb with rfl | hb
    · exact Nat.lt_succ_self _
    · rcases List.mem_cons.mp hb with rfl | hb
      · exact Nat.lt_succ_of_lt hlt
      · cases hb
theorem minmaxT_kept {Hs : Heap} {h' : Heap} (k : ∀ b o, s.heap.get? b = some o → b ≠ s.heap.objs.size ∧ Hs.get? b = some o) (hk : ∀ b o, b ∉ [s.heap.objs.size] → Hs.get? b = some o → h'.get? b = some o) : ∀ b o, s.heap.get? b = some o → h'.get? b = some o := fun b o e =>
  hk b o (fun z => (k b o e).1 (by simpa using z)) (k b o e).2
theorem maxT_raw (hh : A.handled = none) (hl : s.heap.IsTuple l its.toArray) (hi : IntsAre its ns) (hne : 0 < ns.length)
    (h : ∀ h' tk M t', (∀ b o, s.heap.get? b = some o → h'.get? b = some o) → M ∈ ns → (∀ a, a ∈ ns → a ≤ M) → Q (.int M t') { s with heap := h', toks := tk }) : wpAny (model prog w) A (call (.builtin "max") [.ref l]) Q E s := by
  obtain ⟨xs, e⟩ := hi.allInts.items
  have hn : numsOf (intItems xs).toList = ns := by rw [← e]; exact hi.numsOf
  rw [nums_intItems] at hn
  subst hn
  rw [e] at hl
  have hsz : 0 < xs.size := by simpa using hne
  refine call_max_walk (iter_tupT hl fun s₂ k es st hfp hlI => ?_)
  refine ⟨_, _, _, _, _, _, _, rfl, Walks.tuple (A := A.in1) hh _ l hlI (intItems xs), st, hfp, by simpa [intItems] using hsz, CmpOf.ints_gt (numAt xs) (fun _ _ => intItems_at), fun v h' tk hP hk => ?_⟩
  obtain ⟨t, rfl⟩ := intItems_at hP
  obtain ⟨h1, h2⟩ := argBest_gt (numAt xs) (xs.size - 1)
  rw [es]
  have hs : (intItems xs).size = xs.size := by simp [intItems]
  rw [hs]
  refine h h' tk _ t (minmaxT_kept k hk) ?_ fun a ha => ?_
  · rw [numAt_eq]; exact PySem.getD_mem (by rw [List.length_map, Array.length_toList]; omega)
  · obtain ⟨j, hj, rfl⟩ := mem_getD ha
    rw [List.length_map, Array.length_toList] at hj
    rw [← numAt_eq]; exact h2 j (by omega)
theorem minT_raw (hh : A.handled = none) (hl : s.heap.IsTuple l its.toArray) (hi : IntsAre its ns) (hne : 0 < ns.length)
    (h : ∀ h' tk M t', (∀ b o, s.heap.get? b = some o → h'.get? b = some o) → M ∈ ns → (∀ a, a ∈ ns → M ≤ a) → Q (.int M t') { s with heap := h', toks := tk }) : wpAny (model prog w) A (call (.builtin "min") [.ref l]) Q E s := by
  obtain ⟨xs, e⟩ := hi.allInts.items
  have hn : numsOf (intItems xs).toList = ns := by rw [← e]; exact hi.numsOf
  rw [nums_intItems] at hn
  subst hn
  rw [e] at hl
  have hsz : 0 < xs.size := by simpa using hne
  refine call_min_walk (iter_tupT hl fun s₂ k es st hfp hlI => ?_)
  refine ⟨_, _, _, _, _, _, _, rfl, Walks.tuple (A := A.in1) hh _ l hlI (intItems xs), st, hfp, by simpa [intItems] using hsz, CmpOf.ints_lt (numAt xs) (fun _ _ => intItems_at), fun v h' tk hP hk => ?_⟩
  obtain ⟨t, rfl⟩ := intItems_at hP
  obtain ⟨h1, h2⟩ := argBest_lt (numAt xs) (xs.size - 1)
  rw [es]
  have hs : (intItems xs).size = xs.size := by simp [intItems]
  rw [hs]
  refine h h' tk _ t (minmaxT_kept k hk) ?_ fun a ha => ?_
  · rw [numAt_eq]; exact PySem.getD_mem (by rw [List.length_map, Array.length_toList]; omega)
  · obtain ⟨j, hj, rfl⟩ := mem_getD ha
    rw [List.length_map, Array.length_toList] at hj
    rw [← numAt_eq]; exact h2 j (by omega)
end
section
variable {X : Cx}
def rMaxB (K : PySem.W.Frag) : List V → Hp → VK → Prop := fun vs H Q => ∃ (a : Addr) (ns : List Int), vs = [V.ref a] ∧ (SqL K H a (ns.map V.int) ∨ SqT K H a (ns.map V.int)) ∧ 0 < ns.length ∧ Q (.int (maxI ns)) H
def rMinB (K : PySem.W.Frag) : List V → Hp → VK → Prop := fun vs H Q => ∃ (a : Addr) (ns : List Int), vs = [V.ref a] ∧ (SqL K H a (ns.map V.int) ∨ SqT K H a (ns.map V.int)) ∧ 0 < ns.length ∧ Q (.int (minI ns)) H
theorem cr_maxB (hc : X.calm = true) : CallR X (.builtin "max") (rMaxB X.K) := by
  intro pins s σ H vs us Q I r h
  obtain ⟨a, ns, rfl, hs | hs, hne, q⟩ := h
  · exact cr_max hc pins s σ H _ us Q I r ⟨a, ns, rfl, hs, hne, fun m h1 h2 => by rw [maxI_unique h1 h2]; exact q⟩
  · obtain ⟨its, rv, hl, _⟩ := I.tuple hs
    rw [Vals.ref1 r]
    exact maxT_raw (I.ok.hd hc) hl rv.ints hne fun h' tk m t' hk h1 h2 => ⟨.int _, H, I.kept hk, ⟨_, rfl⟩, by rw [maxI_unique h1 h2]; exact q⟩
theorem cr_minB (hc : X.calm = true) : CallR X (.builtin "min") (rMinB X.K) := by
  intro pins s σ H vs us Q I r h
  obtain ⟨a, ns, rfl, hs | hs, hne, q⟩ := h
  · exact cr_min hc pins s σ H _ us Q I r ⟨a, ns, rfl, hs, hne, fun m h1 h2 => by rw [minI_unique h1 h2]; exact q⟩
  · obtain ⟨its, rv, hl, _⟩ := I.tuple hs
    rw [Vals.ref1 r]
    exact minT_raw (I.ok.hd hc) hl rv.ints hne fun h' tk m t' hk h1 h2 => ⟨.int _, H, I.kept hk, ⟨_, rfl⟩, by rw [minI_unique h1 h2]; exact q⟩
end
/-! ### operations as functions of data -/
def seqOf : D → Option (List D)
  | .list ds => some ds
  | .tuple ds => some ds
  | _ => none
def iMax1 : List D → Option D
  | [d] => (seqOf d).bind fun ds => (asInts ds).bind fun ns => if 0 < ns.length then some (.int (maxI ns)) else none
  | _ => none
def iMin1 : List D → Option D
  | [d] => (seqOf d).bind fun ds => (asInts ds).bind fun ns => if 0 < ns.length then some (.int (minI ns)) else none
  | _ => none
def iMax2 : List D → Option D := gI2 fun i j => some (.int (if j > i then j else i))
def iMin2 : List D → Option D := gI2 fun i j => some (.int (if j < i then j else i))
def iSum : List D → Option D
  | [.list ds] => (asInts ds).map fun ns => .int ns.sum
  | _ => none
def asBools : List D → Option (List Bool)
  | [] => some []
  | .bool b :: r => (asBools r).map (b :: ·)
  | _ => none
def iAll : List D → Option D
  | [.list ds] => (asBools ds).map fun bs => .bool (bs.all id)
  | _ => none
def iAny : List D → Option D
  | [.list ds] => (asBools ds).map fun bs => .bool (bs.any id)
  | _ => none
def iInt : List D → Option D
  | [.int i] => some (.int i)
  | [.bool b] => some (.int (if b then 1 else 0))
  | _ => none
def iNeg : List D → Option D
  | [.int i] => some (.int (-i))
  | _ => none
def iIsB : List D → Option D
  | [.bool a, .bool b] => some (.bool (decide (a = b)))
  | _ => none
def iNotB : List D → Option D
  | [.bool a, .bool b] => some (.bool (!decide (a = b)))
  | _ => none
section
variable {K : PySem.W.Frag}
theorem dq_seq {H : Hp} {v : V} {d : D} {ds : List D} (r : Dq K H v d) (h : seqOf d = some ds) : ∃ a ws, v = .ref a ∧ (SqL K H a ws ∨ SqT K H a ws) ∧ DqAll K H ws ds := by
  cases r with
  | lst h1 h2 => cases h; exact ⟨_, _, rfl, .inl (.of h1), h2⟩
  | tup h1 h2 => cases h; exact ⟨_, _, rfl, .inr h1.sq, h2⟩
  | non => cases h
  | bl b => cases h
  | int i => cases h
  | str x => cases h
theorem bools_eq : ∀ {ds : List D} {bs : List Bool}, asBools ds = some bs → ds = bs.map .bool
  | [], ns, h => by cases h; rfl
  | .bool i :: r, ns, h => by
    rw [asBools] at h
    obtain ⟨m, hm, e⟩ := Option.map_eq_some_iff.mp h
    subst e
    rw [List.map_cons, ← bools_eq hm]
  | .none :: r, _, h => by simp [asBools] at h
  | .int _ :: r, _, h => by simp [asBools] at h
  | .str _ :: r, _, h => by simp [asBools] at h
  | .list _ :: r, _, h => by simp [asBools] at h
  | .tuple _ :: r, _, h => by simp [asBools] at h
  | .dict _ :: r, _, h => by simp [asBools] at h
theorem dqs_bools {F : Hp} : ∀ {bs : List Bool} {ws : List V}, DqAll K F ws (bs.map .bool) → ws = bs.map V.bl
  | [], _, .nil => rfl
  | n :: ns, _, .cons r t => by
    cases r
    rw [List.map_cons, ← dqs_bools t]
theorem sc_max1 : Sc K (rMaxB K) iMax1 := by
  intro H vs ds d Q hd hg go
  unfold iMax1 at hg
  split at hg
  · obtain ⟨v, rfl, r⟩ := dqs1 hd
    obtain ⟨es, h1, h2⟩ := Option.bind_eq_some_iff.mp hg
    obtain ⟨ns, h3, h4⟩ := Option.bind_eq_some_iff.mp h2
    split at h4
    · rename_i hne
      cases h4
      obtain ⟨a, ws, rfl, k1, k2⟩ := dq_seq r h1
      rw [asInts_eq h3] at k2
      rw [dqs_ints k2] at k1
      exact ⟨a, ns, rfl, k1, hne, go _ fun F => .int _⟩
    · cases h4
  · cases hg
theorem sc_min1 : Sc K (rMinB K) iMin1 := by
  intro H vs ds d Q hd hg go
  unfold iMin1 at hg
  split at hg
  · obtain ⟨v, rfl, r⟩ := dqs1 hd
    obtain ⟨es, h1, h2⟩ := Option.bind_eq_some_iff.mp hg
    obtain ⟨ns, h3, h4⟩ := Option.bind_eq_some_iff.mp h2
    split at h4
    · rename_i hne
      cases h4
      obtain ⟨a, ws, rfl, k1, k2⟩ := dq_seq r h1
      rw [asInts_eq h3] at k2
      rw [dqs_ints k2] at k1
      exact ⟨a, ns, rfl, k1, hne, go _ fun F => .int _⟩
    · cases h4
  · cases hg
theorem sc_max2 : Sc K (fun xs H Q => ∃ i j, xs = [.int i, .int j] ∧ Q (.int (if j > i then j else i)) H) iMax2 := by
  intro H vs ds d Q hd hg go
  obtain ⟨i, j, rfl, e⟩ := gI2_some hg
  cases e
  obtain ⟨v, w, rfl, h1, h2⟩ := dqs2 hd
  cases h1
  cases h2
  exact ⟨i, j, rfl, go _ fun F => .int _⟩
theorem sc_min2 : Sc K (fun xs H Q => ∃ i j, xs = [.int i, .int j] ∧ Q (.int (if j < i then j else i)) H) iMin2 := by
  intro H vs ds d Q hd hg go
  obtain ⟨i, j, rfl, e⟩ := gI2_some hg
  cases e
  obtain ⟨v, w, rfl, h1, h2⟩ := dqs2 hd
  cases h1
  cases h2
  exact ⟨i, j, rfl, go _ fun F => .int _⟩
theorem sc_sum : Sc K (rSum K) iSum := by
  intro H vs ds d Q hd hg go
  unfold iSum at hg
  split at hg
  · obtain ⟨v, rfl, r⟩ := dqs1 hd
    obtain ⟨ns, h3, h4⟩ := Option.map_eq_some_iff.mp hg
    cases h4
    cases r with
    | lst k1 k2 =>
      rw [asInts_eq h3] at k2
      rw [dqs_ints k2] at k1
      exact ⟨_, ns, rfl, .of k1, go _ fun F => .int _⟩
  · cases hg
theorem sc_all : Sc K (rAll K) iAll := by
  intro H vs ds d Q hd hg go
  unfold iAll at hg
  split at hg
  · obtain ⟨v, rfl, r⟩ := dqs1 hd
    obtain ⟨ns, h3, h4⟩ := Option.map_eq_some_iff.mp hg
    cases h4
    cases r with
    | lst k1 k2 =>
      rw [bools_eq h3] at k2
      rw [dqs_bools k2] at k1
      exact ⟨_, ns, rfl, .of k1, go _ fun F => .bl _⟩
  · cases hg
theorem sc_any : Sc K (rAny K) iAny := by
  intro H vs ds d Q hd hg go
  unfold iAny at hg
  split at hg
  · obtain ⟨v, rfl, r⟩ := dqs1 hd
    obtain ⟨ns, h3, h4⟩ := Option.map_eq_some_iff.mp hg
    cases h4
    cases r with
    | lst k1 k2 =>
      rw [bools_eq h3] at k2
      rw [dqs_bools k2] at k1
      exact ⟨_, ns, rfl, .of k1, go _ fun F => .bl _⟩
  · cases hg
theorem sc_int : Sc K (fun xs H Q => (∃ i, xs = [.int i] ∧ Q (.int i) H) ∨ ∃ k, xs = [.bl k] ∧ Q (.int (if k then 1 else 0)) H) iInt := by
  intro H vs ds d Q hd hg go
  unfold iInt at hg
  split at hg
  · cases hg
    obtain ⟨v, rfl, r⟩ := dqs1 hd
    cases r
    exact .inl ⟨_, rfl, go _ fun F => .int _⟩
  · cases hg
    obtain ⟨v, rfl, r⟩ := dqs1 hd
    cases r
    exact .inr ⟨_, rfl, go _ fun F => .int _⟩
  · cases hg
theorem sc_neg : Sc K (r1L (rU fun i => .int (-i))) iNeg := by
  intro H vs ds d Q hd hg go
  unfold iNeg at hg
  split at hg
  · cases hg
    obtain ⟨v, rfl, r⟩ := dqs1 hd
    cases r
    exact ⟨_, rfl, _, rfl, go _ fun F => .int _⟩
  · cases hg
theorem sc_isB : Sc K (r2L rIsB) iIsB := by
  intro H vs ds d Q hd hg go
  unfold iIsB at hg
  split at hg
  · cases hg
    obtain ⟨v, w, rfl, h1, h2⟩ := dqs2 hd
    cases h1
    cases h2
    exact ⟨_, _, rfl, _, _, rfl, rfl, go _ fun F => .bl _⟩
  · cases hg
theorem sc_notB : Sc K (r2L rNotB) iNotB := by
  intro H vs ds d Q hd hg go
  unfold iNotB at hg
  split at hg
  · cases hg
    obtain ⟨v, w, rfl, h1, h2⟩ := dqs2 hd
    cases h1
    cases h2
    exact ⟨_, _, rfl, _, _, rfl, rfl, go _ fun F => .bl _⟩
  · cases hg
end
end Mi
/-! Mini: sorted, turned round, joined, in, index, isinstance, chains. -/
namespace Mi
open PySem L2 PySem.Spec PyProof.Rows
/-! ### sorted of a tuple of ints -/
section
variable {prog : Program} {w : World} {A : Around} {E : Value → Shared → Prop} {s : Shared}
theorem collect_tupT {l : Addr} {vs : List Value} {Q : List Value → Shared → Prop} (hl : s.heap.IsTuple l vs.toArray) (hQ : ∀ h', (∀ b o', s.heap.get? b = some o' → h'.get? b = some o') → Q vs { s with heap := h' }) (hsz : vs.length ≤ sizeLine) :
    wpAny (model prog w) A (collect (.ref l)) Q E s := by
  obtain ⟨o, ho, hc, n, hd⟩ := hl
  exact wpAny_collect_seq l (.inr rfl) ho hc hd (fun h' k => by simpa using hQ h' k) (by simpa using hsz)
theorem sortedT_ord {l : Addr} {vs : List Value} {ltv : Value → Value → Bool} {Q : Value → Shared → Prop} (O : SrtO.Swo ltv) (hl : s.heap.IsTuple l vs.toArray) (hz : vs.length ≤ sizeLine)
    (hS : 2 ≤ vs.length → ∀ (h₁ : Heap) (a : Addr), SrtO.SortableO prog w A.in1.in1 { s with heap := h₁ } a vs ltv)
    (h : ∀ (h1 : Heap) (out : List Value), SrtO.Srtd ltv out → SrtO.Stb ltv out vs → (∀ b o', s.heap.get? b = some o' → h1.get? b = some o') → Q (.ref h1.objs.size) { s with heap := sortedHeap (h1.push (seqObj "list" vs.toArray 0)) h1.objs.size vs out.toArray }) :
    wpAny (model prog w) A (call (.builtin "sorted") [.ref l]) Q E s := by
  refine Calls.call_function_entry kind_sorted plain_sorted entry_sorted (args_sorted1 _) ?_
  unfold Builtin.«sorted»
  refine wpAny_bind (m := checkCount "sorted" 1 1 _) (wpAny_pure ?_)
  refine wpAny_bind (collect_tupT hl (fun h1 k1 => ?_) hz)
  refine wpAny_bind (wpAny_newList ?_ hz)
  have hoL : (h1.push (seqObj "list" vs.toArray 0)).get? h1.objs.size = some (seqObj "list" vs.toArray 0) := Heap.get?_push_size _ rfl
  show wpAny _ _ _ _ _ { s with heap := h1.push (seqObj "list" vs.toArray 0) }
  refine wpAny_bind (wpAny_holding (wpAny_call_entry slot_list_sort ⟨_, hoL, rfl⟩ entry_list_sort (SrtO.list_sort_ord O hoL hz (fun h2 => hS h2 _ _) fun out hs hb => ⟨_, rfl, ?_⟩) (args_list_sort _)))
  exact wpAny_pure ⟨_, rfl, h h1 out hs hb k1⟩
end
section
variable {X : Cx}
def rSortB (K : PySem.W.Frag) : List V → Hp → VK → Prop := fun vs H Q => ∃ (a : Addr) (ns : List Int), vs = [V.ref a] ∧ (SqL K H a (ns.map V.int) ∨ SqT K H a (ns.map V.int)) ∧ ∀ p : Addr, H p = none → Q (.ref p) (L2.upd H p (.lst ((srt ns).map V.int)))
theorem cr_sortB : CallR X (.builtin "sorted") (rSortB X.K) := by
  intro pins s σ H vs us Q I r h
  obtain ⟨a, ns, rfl, hs | hs, q⟩ := h
  · exact cr_sortedI pins s σ H _ us Q I r ⟨a, ns, rfl, hs, fun ns' p h1 h2 hp => by rw [srt_unique h1 h2]; exact q p hp⟩
  · obtain ⟨its, rv, hl, hz⟩ := I.tuple hs
    rw [Vals.ref1 r]
    have hi := rv.ints
    refine sortedT_ord SrtO.swo_int hl (by rw [← rv.length]; exact hz) (fun h2 h₁ a' => SrtO.ints_sortable hi h2) fun h1 out k1 k2 k3 => ?_
    obtain ⟨m1, m2, m3⟩ := SrtO.ints_out hi k1 k2
    obtain ⟨ep, he'⟩ := sortedHeap_at (vs := its) (out := out.toArray) (n := 0) (show (h1.push (seqObj "list" its.toArray 0)).get? h1.objs.size = some (seqObj "list" its.toArray 0) from Heap.get?_push_size _ rfl)
    have hlen : ((out.map SrtO.iv).map V.int).length ≤ sizeLine := by
      rw [List.length_map, m2.length_eq]
      rw [List.length_map] at hz
      exact hz
    have I1 : Inv X pins σ H { s with heap := h1 } := I.kept (t' := s.toks) k3
    have e2 := srt_unique m2 m3
    rw [e2] at hlen
    have I2 : Inv X pins σ (L2.upd H h1.objs.size (.lst ((srt ns).map V.int))) { s with heap := sortedHeap (h1.push (seqObj "list" its.toArray 0)) h1.objs.size its out.toArray } :=
      Inv.laid (s := { s with heap := h1 }) (t' := s.toks) I1 (fun b o e => by
        have hlt : b < h1.objs.size := Heap.lt_size e
        rw [sortedHeap_old (Nat.ne_of_lt hlt) (by rw [size_push']; exact Nat.lt_succ_of_lt hlt)]
        exact Heap.get?_push_of_some _ e) (Nat.le_refl _) ⟨hlen, out, ep, by rw [← e2]; exact vals_of_ints m1, he'⟩
    exact ⟨.ref h1.objs.size, _, I2, rfl, q _ (I1.hok.fresh (Nat.le_refl _))⟩
end
/-! ### sorted, turned round -/
def A.seq (a : A) : Option (List D) := match a.lst with
  | some ds => some ds
  | none => a.tup
theorem RA.seqB {K : PySem.W.Frag} {H : Hp} {Oc T P P' μ : List Addr} {a : A} {v : V} {ds : List D} (r : RA K (mns H (Oc ++ (T ++ P))) (mns H Oc) H μ a v P') (ha : a.seq = some ds) : ∃ p ws, v = .ref p ∧ (SqL K H p ws ∨ SqT K H p ws) ∧ DqAll K (mns H (Oc ++ (T ++ P))) ws ds := by
  unfold A.seq at ha
  split at ha
  · rename_i hl
    cases ha
    obtain ⟨p, ws, e1, e2, e3⟩ := r.itemsL hl
    exact ⟨p, ws, e1, .inl (.of e2), e3⟩
  · obtain ⟨p, ws, e1, e2, e3⟩ := r.itemsT ha
    exact ⟨p, ws, e1, .inr e2.sq, e3⟩
def gSort : List A → Hh → Option A
  | [a], _ => a.seq.bind fun ds => (asInts ds).map fun ns => .ob (.lst ((srt ns).map .int))
  | _, _ => none
theorem prim_sort {K : PySem.W.Frag} : Prim K (rSortB K) gSort := by
  intro H μ Oc T P h as vs a Q nd rc ra lv hg go
  unfold gSort at hg
  split at hg
  · obtain ⟨v, rfl, r⟩ := ras1 ra
    obtain ⟨ds, h1, h2⟩ := Option.bind_eq_some_iff.mp hg
    obtain ⟨ns, h3, h4⟩ := Option.map_eq_some_iff.mp h2
    cases h4
    obtain ⟨p, ws, rfl, e1, e2⟩ := r.seqB h1
    rw [asInts_eq h3] at e2
    rw [dqs_ints e2] at e1
    exact ⟨p, ns, rfl, e1, fun l hl => newL_go hl (ints_dqs _) go⟩
  · cases hg
def gRev : List A → Hh → Option A
  | [a], _ => a.lst.map fun ds => .ob (.lst ds.reverse)
  | _, _ => none
theorem prim_rev {K : PySem.W.Frag} : Prim K (r1L fun x H1 Q => ∃ a xs, x = .ref a ∧ SqL K H1 a xs ∧ ∀ p, H1 p = none → Q (.ref p) (L2.upd H1 p (.lst xs.reverse))) gRev := by
  intro H μ Oc T P h as vs a Q nd rc ra lv hg go
  unfold gRev at hg
  split at hg
  · obtain ⟨v, rfl, r⟩ := ras1 ra
    obtain ⟨ds, h1, h2⟩ := Option.map_eq_some_iff.mp hg
    cases h2
    obtain ⟨p, ws, rfl, e1, e2⟩ := r.itemsL h1
    exact ⟨_, rfl, p, ws, rfl, .of e1, fun l hl => newL_go hl (dps_rev e2) go⟩
  · cases hg
/-! ### +, * of any kind -/
def gAddB : List A → Hh → Option A
  | [a, b], _ => match a.d, b.d with
    | some (.int i), some (.int j) => some (.dat (.int (i + j)))
    | some (.str x), some (.str y) => if x.length + y.length ≤ LIM then some (.dat (.str (x ++ y))) else none
    | _, _ => match a.lst, b.lst with
      | some ds, some es => if ds.length + es.length ≤ LIM then some (.ob (.lst (ds ++ es))) else none
      | _, _ => match a.tup, b.tup with
        | some ds, some es => if ds.length + es.length ≤ LIM then some (.dat (.tuple (ds ++ es))) else none
        | _, _ => none
  | _, _ => none
abbrev rAddB (K : PySem.W.Frag) : R2 := fun x y H Q => rI0 (fun i j => .int (i + j)) x y H Q ∨ (∃ i j, x = .str i ∧ y = .str j ∧ i.length + j.length ≤ sizeLine ∧ Q (.str (i ++ j)) H) ∨ rCat x y H Q ∨ rCatP K x y H Q
theorem op_addB {X : Cx} : OpR X (binaryOp .Add) (rAddB X.K) := op_add.or (op_add_str.or (op_cat.or op_catP))
theorem tup_dat {K : PySem.W.Frag} {F W H : Hp} {μ P : List Addr} {a : A} {v : V} {ds : List D} (r : RA K F W H μ a v P) (h : a.tup = some ds) : Dq K F v (.tuple ds) := by
  unfold A.tup at h
  split at h
  · cases h
    cases r with
    | dat r => exact r
  · cases h
theorem prim_addB {K : PySem.W.Frag} : Prim K (r2L (rAddB K)) gAddB := by
  intro H μ Oc T P h as vs a Q nd rc ra lv hg go
  unfold gAddB at hg
  split at hg
  · rename_i a b
    obtain ⟨v, w, P1, P2, rfl, r1, r2, _⟩ := ras2 ra
    split at hg
    · rename_i i j h1 h2
      cases hg
      have d1 := r1.dp exFH exFW exWH h1
      have d2 := r2.dp exFH exFW exWH h2
      cases d1
      cases d2
      exact ⟨_, _, rfl, .inl ⟨i, j, rfl, rfl, sc_go (fun _ => .int _) go⟩⟩
    · rename_i x y h1 h2
      split at hg
      · rename_i hz
        cases hg
        have d1 := r1.dp exFH exFW exWH h1
        have d2 := r2.dp exFH exFW exWH h2
        cases d1
        cases d2
        exact ⟨_, _, rfl, .inr (.inl ⟨x, y, rfl, rfl, lim_le hz, sc_go (fun _ => .str _) go⟩)⟩
      · cases hg
    · split at hg
      · rename_i ds es h1 h2
        split at hg
        · rename_i hz
          cases hg
          obtain ⟨p, ws, rfl, e1, e2⟩ := r1.itemsL h1
          obtain ⟨q, zs, rfl, e3, e4⟩ := r2.itemsL h2
          exact ⟨_, _, rfl, .inr (.inr (.inl ⟨p, q, ws, zs, rfl, rfl, e1, e3, by rw [dps_length e2, dps_length e4]; exact lim_le hz, fun l hl => newL_go hl (dps_append e2 e4) go⟩))⟩
        · cases hg
      · split at hg
        · rename_i ds es h1 h2
          split at hg
          · rename_i hz
            cases hg
            have t1 := tup_dat r1 h1
            have t2 := tup_dat r2 h2
            obtain ⟨p, ws, rfl, e1, e2⟩ := r1.itemsT h1
            obtain ⟨q, zs, rfl, e3, e4⟩ := r2.itemsT h2
            refine ⟨_, _, rfl, .inr (.inr (.inr ⟨p, q, ws, zs, rfl, rfl, e1.sq, e3.sq, by rw [dps_length e2, dps_length e4]; exact lim_le hz, fun z => ?_, fun _ z => ?_, fun _ _ l o hl ho => newT_go hl ho (nin_c rc hl) (nin_t lv hl) (dps_append e2 e4) go⟩))⟩
            · subst z
              cases e2
              exact old_go t2 go
            · subst z
              cases e4
              rw [List.append_nil] at go
              exact old_go t1 go
          · cases hg
        · cases hg
  · cases hg
/-! ### in, not in -/
def flatD : D → Bool
  | .none => true
  | .bool _ => true
  | .int _ => true
  | .str _ => true
  | _ => false
def gInB (neg : Bool) : List A → Hh → Option A
  | [a, b], _ => a.d.bind fun x => b.seq.bind fun ds => if flatD x = true ∧ ds.all flatD = true then some (.dat (.bool (if neg then !(ds.any fun y => PyData.eqv y x) else ds.any fun y => PyData.eqv y x))) else none
  | _, _ => none
section
variable {K : PySem.W.Frag} {F : Hp}
theorem flat_dq {v : V} {d : D} (r : Dq K F v d) : flatV v = flatD d := by cases r <;> rfl
theorem eqV_dq {v w : V} {d e : D} (r : Dq K F v d) (q : Dq K F w e) (h1 : flatD d = true) (h2 : flatD e = true) : eqV v w = PyData.eqv d e := by
  cases r <;> first | (cases h1; done) | skip
  all_goals (cases q <;> first | (cases h2; done) | rfl)
theorem flats_dq : ∀ {vs : List V} {ds : List D}, DqAll K F vs ds → vs.all flatV = ds.all flatD
  | _, _, .nil => rfl
  | _, _, .cons r t => by rw [List.all_cons, List.all_cons, flat_dq r, flats_dq t]
theorem inV_dq {w : V} {e : D} (q : Dq K F w e) (h2 : flatD e = true) : ∀ {vs : List V} {ds : List D}, DqAll K F vs ds → ds.all flatD = true → inV w vs = ds.any fun y => PyData.eqv y e
  | _, _, .nil, _ => rfl
  | _, _, .cons r t, h => by
    rw [List.all_cons, Bool.and_eq_true] at h
    unfold inV
    rw [List.any_cons, List.any_cons, eqV_dq r q h.1 h2]
    congr 1
    exact inV_dq q h2 t h.2
end
theorem prim_inB {K : PySem.W.Frag} {neg : Bool} : Prim K (r2L (rIn K neg)) (gInB neg) := by
  intro H μ Oc T P h as vs a Q nd rc ra lv hg go
  unfold gInB at hg
  split at hg
  · rename_i a b
    obtain ⟨v, w, P1, P2, rfl, r1, r2, _⟩ := ras2 ra
    obtain ⟨x, h1, h2⟩ := Option.bind_eq_some_iff.mp hg
    obtain ⟨ds, h3, h4⟩ := Option.bind_eq_some_iff.mp h2
    split at h4
    · rename_i hf
      cases h4
      have d1 := r1.dp exFH exFW exWH h1
      obtain ⟨p, ws, rfl, e1, e2⟩ := r2.seqB h3
      have e2' := ex_dps exFH e2
      refine ⟨_, _, rfl, p, ws, rfl, e1, by rw [flat_dq d1]; exact hf.1, by rw [flats_dq e2']; exact hf.2, ?_⟩
      rw [inV_dq d1 hf.1 e2' hf.2]
      exact sc_go (fun _ => .bl _) go
    · cases h4
  · cases hg
section
variable {X : Cx} {Γ : Nat → Addr} {E : XK} {pos p3 : Pos} {a b : Expr} {f g : EF}
theorem e_plus (ha : PE X a (tE X.K Γ E f)) (hb : PE X b (tE X.K Γ E g)) : PE X (.BinOp a .Add b pos) (tE X.K Γ E (fPrim gAddB (fCons f (fCons g fNil)))) := e_op op_addB prim_addB ha hb
theorem e_rev {k : Nat} {p1 p2 : Pos} (ha : PE X a (tE X.K Γ E f)) : PE X (.Subscript a (.Slice none none (some (.UnaryOp .USub (.Constant (.int 1) k p1) p2)) p3) pos) (tE X.K Γ E (fPrim gRev (fCons f fNil))) :=
  pe_imp (pe_revL ha) fun _ _ _ q => tE_un prim_rev q
end
end Mi
/-! Mini: walks over lists and tuples alike; index; isinstance; chains; len(set(..)). -/
namespace Mi
open PySem L2 PySem.Spec PyProof.Rows
/-! ### a list or a tuple is walked -/
def iSeq (K : PySem.W.Frag) (tl : TE) : TI := fun σ H R => tl σ H fun x H1 => ∃ a, x = .ref a ∧ (((∃ xs, SqL K H1 a xs) ∧ R (Itl K a) H1) ∨ ((∃ xs, SqT K H1 a xs) ∧ R (Itt K a) H1))
theorem pi_seq {X : Cx} {tg l : Expr} {tl : TE} (hl : PE X l tl) : PI X tg l (iSeq X.K tl) := by
  refine ⟨fun pins s σ H R I h => ?_⟩
  refine thn (hl.run pins s σ H _ I h) fun v s1 ⟨x, H1, I1, r1, q1⟩ => ?_
  obtain ⟨a, e, ⟨⟨xs, hq⟩, q⟩ | ⟨⟨xs, hq⟩, q⟩⟩ := q1
  · subst e
    cases r1
    obtain ⟨its, rv, p, hz⟩ := I1.list hq
    refine wpAny_pyIter_list p.isList ?_
    refine ⟨s1.heap.objs.size, [s1.heap.objs.size], _, _, H1, rfl, I1.kept (t' := s1.toks) fun b o e => Heap.get?_push_of_some _ e, turn_list a _, ⟨_, Heap.get?_push_size _ rfl, rfl, rfl⟩, fun b hb => ?_, q⟩
    have e : b = s1.heap.objs.size := by simpa using hb
    subst e
    exact I1.fpOk (Nat.le_refl _) (I1.hok.fresh (Nat.le_refl _))
  · subst e
    cases r1
    obtain ⟨its, rv, p, hz⟩ := I1.tuple hq
    refine wpAny_pyIter_tuple (show s1.heap.IsTuple a its.toArray from p) ?_
    refine ⟨s1.heap.objs.size, [s1.heap.objs.size], _, _, H1, rfl, I1.kept (t' := s1.toks) fun b o e => Heap.get?_push_of_some _ e, turn_tuple a _, ⟨_, Heap.get?_push_size _ rfl, rfl, rfl⟩, fun b hb => ?_, q⟩
    have e : b = s1.heap.objs.size := by simpa using hb
    subst e
    exact I1.fpOk (Nat.le_refl _) (I1.hok.fresh (Nat.le_refl _))
/-- the data of a value that is walked, whether nothing owns it, whether it is a list -/
def walkI (a : A) : Option (List D × Bool × Bool) := match a with
  | .dat (.list ds) => some (ds, true, true)
  | .ob (.lst ds) => some (ds, true, true)
  | .sn (.lst ds) => some (ds, false, true)
  | .dat (.tuple ds) => some (ds, true, false)
  | _ => none
def fWalk (m : Bool) (f : EF) : IG := fun env h => (f env h).bind fun a h1 => match walkI a with
  | some (ds, st, _) => match itemsM m ds with
    | some dss => .ok (dss, st) h1
    | none => .er
  | none => .er
section
variable {K : PySem.W.Frag} {Γ : Nat → Addr} {E : XK} {σ : L2.St} {μ Oc T P : List Addr} {env : En} {H F : Hp} {h : Hh}
theorem walkI_ok {a : A} {ds : List D} {st il : Bool} {v : V} {H1 : Hp} {μ1 Oc1 P1 P' : List Addr} (nd : (Oc1 ++ (T ++ P1)).Nodup) (hP : ∀ q ∈ P', q ∈ P1) (r : RA K (mns H1 (Oc1 ++ (T ++ P1))) (mns H1 Oc1) H1 μ1 a v P') (ha : walkI a = some (ds, st, il)) :
    ∃ p ws, v = .ref p ∧ (if il then mns H1 (if st then Oc1 ++ T else Oc1) p = some (.lst ws) else SqT K (mns H1 (if st then Oc1 ++ T else Oc1)) p ws) ∧ DqAll K (mns H1 (Oc1 ++ T)) ws ds := by
  unfold walkI at ha
  split at ha
  · cases ha
    cases r with
    | dat r =>
      cases r with
      | lst k1 k2 => exact ⟨_, _, rfl, exFG _ _ k1, ex_dps exFG k2⟩
  · cases ha
    cases r with
    | ob r =>
      cases r with
      | lst k1 k2 =>
        refine ⟨_, _, rfl, mns_some.mpr ⟨fun z => ?_, k1⟩, ex_dps exFG k2⟩
        rw [← List.append_assoc] at nd
        exact nd_ne' nd (hP _ List.mem_cons_self) z
  · cases ha
    cases r with
    | sn r =>
      cases r with
      | lst k1 k2 => exact ⟨_, _, rfl, k1, ex_dps exFG k2⟩
  · cases ha
    cases r with
    | dat r =>
      cases r with
      | tup k1 k2 => exact ⟨_, _, rfl, ex_sqT exFG k1.sq, ex_dps exFG k2⟩
  · cases ha
theorem tI_walk {m : Bool} {f : EF} {R : It → Hp → Prop} : tI K Γ E m (fWalk m f) σ H R → iSeq K (tE K Γ E f) σ H R := by
  rintro ⟨μ, Oc, T, env, h, s, go⟩
  refine ⟨μ, Oc, T, env, h, s, ?_⟩
  unfold fWalk at go
  cases hf : f env h with
  | er => rw [hf] at go; exact go
  | exc c h1 => rw [hf] at go; exact go
  | ok a h1 =>
    rw [hf] at go
    simp only [Res.bind] at go
    intro v H1 μ1 Oc1 P1 p
    obtain ⟨v', ev, r⟩ := ras1 p.val
    cases ev
    cases hw : walkI a with
    | none => simp only [hw] at go; exact go.elim
    | some o =>
      obtain ⟨ds, st, il⟩ := o
      simp only [hw] at go
      cases hi : itemsM m ds with
      | none => simp only [hi] at go; exact go.elim
      | some dss =>
        simp only [hi] at go
        obtain ⟨q, ws, rfl, k1, k2⟩ := walkI_ok p.nd (fun _ z => z) r hw
        cases il with
        | true =>
          simp only [if_true] at k1
          exact ⟨q, rfl, .inl ⟨⟨ws, .of (mns_ex _ _ _ _ k1)⟩, go _ H1 μ1 Oc1 _ _ p.drop (Ex.refl _) (Ex.refl _) (wk_list k1 k2 hi)⟩⟩
        | false =>
          simp only [Bool.false_eq_true, if_false] at k1
          exact ⟨q, rfl, .inr ⟨⟨ws, ex_sqT (mns_ex _ _) k1⟩, go _ H1 μ1 Oc1 _ _ p.drop (Ex.refl _) (Ex.refl _) (wk_tup k1 k2 hi)⟩⟩
end
section
variable {X : Cx} {Γ : Nat → Addr} {E : XK} {pos : Pos}
theorem i_walk {m : Bool} {tg l : Expr} {f : EF} (h : PE X l (tE X.K Γ E f)) : PI X tg l (tI X.K Γ E m (fWalk m f)) := pi_imp (pi_seq h) fun _ _ _ => tI_walk
end
/-! ### x.index(y) of a list or a tuple -/
def rIndexB (K : PySem.W.Frag) : V → List V → Hp → VK → Prop := fun x xs H Q => rIndex K x xs H Q ∨ rIndexT K x xs H Q
def tIndexB (K : PySem.W.Frag) (to : TE) (t : TA) : TE := fun σ H Q => to σ H fun x H1 =>
  (tyV K "list" x H1 ∧ t σ H1 fun xs H2 => rIndex K x xs H2 Q) ∨ ((∃ p xs, x = .ref p ∧ SqP K H1 p xs) ∧ t σ H1 fun xs H2 => rIndexT K x xs H2 Q)
theorem pe_indexB {X : Cx} {o e : Expr} {es : List Expr} {to : TE} {t : TA} {apos cpos : Pos} (ho : PE X o to) (ha : PA X (e :: es) t)
    (hbase : attributeBase o "index" X.env (eval o X.env) = eval o X.env := by rfl)
    (hfew : ((backTo cpos (starEach (e :: es) X.env)).all (fun x => !x.1) && (backToKw cpos (keywordEach [] X.env)).all (fun x => x.1.isSome)
      && decide ((e :: es).length + ([] : List Keyword).length + (if ([] : List Keyword).isEmpty then 0 else 1) < 30)) = true := by rfl)
    (hline : (apos.endLine == cpos.line) = true := by rfl) (hs : starEach (e :: es) X.env = (false, eval e X.env) :: starEach es X.env := by rfl) (hplain : (backTo cpos (starEach es X.env)).any (·.1) = false := by rfl) :
    PE X (.Call (.Attribute o "index" apos) (e :: es) [] cpos) (tIndexB X.K to t) := by
  refine ⟨fun pins s σ H Q I h => ?_⟩
  refine wpAny_Call_method_late hbase hfew hline rfl (thn (ho.run pins s σ H _ I h) fun v s1 ⟨x, H1, I1, r1, q1⟩ => ?_)
  rcases q1 with ⟨ty, q1⟩ | ⟨⟨p, xs, ex, hp⟩, q1⟩
  · obtain ⟨h1, h2⟩ := tyV_is I1 r1 ty
    refine ⟨"list", _, PySem.F.plainAttrs_list, PySem.F.slot_list_index, PySem.F.type_list_index, h1, h2, ?_⟩
    have hA := ha.run cpos pins s1 σ H1 _ I1 q1
    rw [hs] at hA ⊢
    refine Calls.callWith_builtin (by show (false || (backTo cpos (starEach es X.env)).any (·.1)) = false; rw [hplain] <;> rfl) (Calls.evalArgs_plain ?_)
    exact thn hA fun us s2 ⟨vs, H2, I2, r2, q2⟩ => mt_index pins s2 σ H2 x vs v us Q I2 r1 r2 q2
  · subst ex
    cases (show v = .ref p from r1)
    obtain ⟨h1, h2⟩ := tyP I1 hp
    refine ⟨"tuple", _, PySem.F.plainAttrs_tuple, PySem.F.slot_tuple_index, PySem.F.type_tuple_index, h1, h2, ?_⟩
    have hA := ha.run cpos pins s1 σ H1 _ I1 q1
    rw [hs] at hA ⊢
    refine Calls.callWith_builtin (by show (false || (backTo cpos (starEach es X.env)).any (·.1)) = false; rw [hplain] <;> rfl) (Calls.evalArgs_plain ?_)
    exact thn hA fun us s2 ⟨vs, H2, I2, r2, q2⟩ => mt_indexT pins s2 σ H2 (.ref p) vs (.ref p) us Q I2 rfl r2 q2
/-- the first place of a flat thing -/
def idxD (x : D) : List D → Option Nat
  | [] => none
  | y :: r => if PyData.eqv y x then some 0 else (idxD x r).map (· + 1)
def gIdx (a b : A) : Option A := a.seq.bind fun ds => b.d.bind fun x => if flatD x = true ∧ ds.all flatD = true then (idxD x ds).map fun (j : Nat) => .dat (.int (j : Int)) else none
def fIndex (f g : EF) : EF := fun env h => (f env h).bind fun a h1 => if a.seq.isSome then (g env h1).bind fun b h2 => optR (gIdx a b) h2 else .er
section
variable {K : PySem.W.Frag} {Γ : Nat → Addr} {E : XK} {σ : L2.St} {H F : Hp}
theorem idx_ok {w : V} {x : D} (q : Dq K F w x) (h2 : flatD x = true) : ∀ {vs : List V} {ds : List D} {j : Nat}, DqAll K F vs ds → ds.all flatD = true → idxD x ds = some j → ∃ z, vs[j]? = some z ∧ eqV z w = true ∧ ∀ (m : Nat) (z' : V), m < j → vs[m]? = some z' → eqV z' w = false
  | _, _, _, .nil, _, e => by cases e
  | _, _, j, .cons (v := v) (d := d) r t, h, e => by
    rw [List.all_cons, Bool.and_eq_true] at h
    unfold idxD at e
    by_cases hc : PyData.eqv d x = true
    · rw [if_pos hc] at e
      cases e
      exact ⟨v, rfl, by rw [eqV_dq r q h.1 h2]; exact hc, fun m z' hm => absurd hm (Nat.not_lt_zero _)⟩
    · rw [if_neg hc] at e
      obtain ⟨k, hk, rfl⟩ := Option.map_eq_some_iff.mp e
      obtain ⟨z, h3, h4, h5⟩ := idx_ok q h2 t h.2 hk
      refine ⟨z, by simpa using h3, h4, fun m z' hm hz => ?_⟩
      cases m with
      | zero =>
        simp at hz
        subst hz
        rw [eqV_dq r q h.1 h2]
        simpa using hc
      | succ m => exact h5 m z' (by omega) (by simpa using hz)
theorem tE_index {f g : EF} {Q : VK} : tE K Γ E (fIndex f g) σ H Q → tIndexB K (tE K Γ E f) (tA K Γ E (fCons g fNil)) σ H Q := by
  rintro ⟨μ, Oc, T, env, h, s, go⟩
  refine ⟨μ, Oc, T, env, h, s, ?_⟩
  unfold fIndex at go
  cases hf : f env h with
  | er => rw [hf] at go; exact go
  | exc c h1 => rw [hf] at go; exact go
  | ok a h1 =>
    rw [hf] at go
    simp only [Res.bind] at go
    intro v H1 μ1 Oc1 P1 p
    cases hq : a.seq with
    | none => rw [hq] at go; exact go.elim
    | some ds =>
      rw [hq] at go
      simp only [Option.isSome_some, if_true] at go
      obtain ⟨v', ev, r⟩ := ras1 p.val
      cases ev
      -- the argument, then the place
      have args : ∀ rr : V → List V → Hp → VK → Prop, (∀ w H2 μ2 Oc2 P2 b h2 (j : Nat) x, g env h1 = .ok b h2 → PsA K σ μ Oc T env H [a, b] h2 [v, w] H2 μ2 Oc2 P2 → b.d = some x → flatD x = true → ds.all flatD = true → idxD x ds = some j → Q (.int j) H2 → rr v [w] H2 Q) →
          tA K Γ E (fCons g fNil) σ H1 fun xs H2 => rr v xs H2 Q := fun rr hrr => by
        refine ⟨μ1, Oc1, T ++ P1, env, h1, p.sim, ?_⟩
        unfold fCons
        cases hg : g env h1 with
        | er => simp only [hg] at go; exact go.elim
        | exc c h2 => simp only [hg] at go; exact PsX.step p go
        | ok b h2 =>
          simp only [hg] at go
          intro vs H2 μ2 Oc2 P2 p2
          obtain ⟨w, ew, rw'⟩ := ras1 p2.val
          subst ew
          have pp := p.app p2
          unfold gIdx at go
          rw [hq] at go
          cases hb : b.d with
          | none => simp only [hb, Option.bind_some, Option.bind_none, optR] at go; exact go.elim
          | some x =>
            simp only [hb, Option.bind_some] at go
            by_cases hc : flatD x = true ∧ ds.all flatD = true
            · rw [if_pos hc] at go
              cases hj : idxD x ds with
              | none => rw [hj] at go; exact go.elim
              | some j =>
                rw [hj] at go
                refine hrr w H2 μ2 Oc2 (P1 ++ P2) b h2 j x hg pp hb hc.1 hc.2 hj ?_
                exact go _ H2 μ2 Oc2 [] (pp.prim (Ex.refl _) (fun _ z => absurd z List.not_mem_nil) List.nodup_nil (.dat (.int _)))
            · rw [if_neg hc] at go; exact go.elim
      unfold A.seq at hq
      split at hq
      · rename_i ds' hl
        cases hq
        obtain ⟨q, ws, rfl, e1, e2⟩ := r.itemsL hl
        refine .inl ⟨.inl ⟨rfl, ws, .of e1⟩, args (rIndex K) fun w H2 μ2 Oc2 P2 b h2 j x hg pp hb hx hds hj hQ => ?_⟩
        obtain ⟨v2, w2, P3, P4, ev2, r1, r2, _⟩ := ras2 pp.val
        cases ev2
        obtain ⟨q2, ws2, eq2, e3, e4⟩ := r1.itemsL hl
        cases eq2
        have dw := r2.dp exFH exFW exWH hb
        obtain ⟨z, k1, k2, k3⟩ := idx_ok dw hx (ex_dps exFH e4) hds hj
        exact ⟨q, ws2, w, j, z, rfl, rfl, .of e3, by rw [flat_dq dw]; exact hx, by rw [flats_dq e4]; exact hds, k1, k2, k3, hQ⟩
      · obtain ⟨q, ws, rfl, e1, e2⟩ := r.itemsT hq
        refine .inr ⟨⟨q, ws, rfl, e1⟩, args (rIndexT K) fun w H2 μ2 Oc2 P2 b h2 j x hg pp hb hx hds hj hQ => ?_⟩
        obtain ⟨v2, w2, P3, P4, ev2, r1, r2, _⟩ := ras2 pp.val
        cases ev2
        obtain ⟨q2, ws2, eq2, e3, e4⟩ := r1.itemsT hq
        cases eq2
        have dw := r2.dp exFH exFW exWH hb
        obtain ⟨z, k1, k2, k3⟩ := idx_ok dw hx (ex_dps exFH e4) hds hj
        exact ⟨q, ws2, w, j, z, rfl, rfl, e3.sq, by rw [flat_dq dw]; exact hx, by rw [flats_dq e4]; exact hds, k1, k2, k3, hQ⟩
end
section
variable {X : Cx} {Γ : Nat → Addr} {E : XK} {apos cpos : Pos}
theorem e_index {o e : Expr} {f g : EF} (ho : PE X o (tE X.K Γ E f)) (he : PE X e (tE X.K Γ E g))
    (hs1 : starEach [e] X.env = (false, eval e X.env) :: starEach [] X.env := by rfl)
    (hbase : attributeBase o "index" X.env (eval o X.env) = eval o X.env := by rfl)
    (hfew : ((backTo cpos (starEach [e] X.env)).all (fun x => !x.1) && (backToKw cpos (keywordEach [] X.env)).all (fun x => x.1.isSome)
      && decide ([e].length + ([] : List Keyword).length + (if ([] : List Keyword).isEmpty then 0 else 1) < 30)) = true := by rfl)
    (hline : (apos.endLine == cpos.line) = true := by rfl) : PE X (.Call (.Attribute o "index" apos) [e] [] cpos) (tE X.K Γ E (fIndex f g)) :=
  pe_imp (pe_indexB ho (a_cons he a_nil hs1) hbase hfew hline hs1 rfl) fun _ _ _ => tE_index
end
end Mi
/-! Mini: several names at once. -/
namespace Mi
open PySem L2 PySem.Spec PyProof.Rows
/-- each value as its name wants it: true: owned, false: frozen -/
def conv : List Bool → List A → Option (List A)
  | [], [] => some []
  | m :: ms, a :: as => (if m then ownA a else frzA a).bind fun a' => (conv ms as).map (a' :: ·)
  | _, _ => none
def setsE : List Nat → List A → En → En
  | j :: js, a :: as, env => setsE js as (env.set j (some a))
  | _, _, env => env
def fPar (js : List Nat) (ms : List Bool) (fs : AF) : SF := fun env h => onA (fs env h) fun as h1 => onP (conv ms as) fun as' => if as'.length = js.length then .nx (setsE js as' env) h1 else .er
section
variable {K : PySem.W.Frag} {Γ : Nat → Addr} {E : XK} {σ σ1 : L2.St} {μ μ1 Oc Oc1 B S S1 P : List Addr} {env env1 : En} {H H1 : Hp} {h h1 : Hh} {D' : Ends} {F F' W : Hp}
theorem par_vals {as : List A} {vs : List V} {P : List Addr} (r : RAs K F W H μ as vs P) : ∀ {ms : List Bool} {as' : List A}, conv ms as = some as' → P.Nodup → ∃ P' : List Addr, P'.Sublist P ∧ ∀ G, Ex F G → (∀ q ∈ P, q ∉ P' → ∀ o, H q = some o → G q = some o) → RAs K G G H μ as' vs P' := by
  induction r with
  | nil =>
    intro ms as' e n
    cases ms with
    | nil => cases e; exact ⟨[], List.Sublist.refl _, fun G _ _ => .nil⟩
    | cons m ms => cases e
  | @cons a as v vs P0 P1 r t ih =>
    intro ms as' e n
    cases ms with
    | nil => cases e
    | cons m ms =>
      rw [conv] at e
      obtain ⟨a', h1, h2⟩ := Option.bind_eq_some_iff.mp e
      obtain ⟨bs, h3, h4⟩ := Option.map_eq_some_iff.mp h2
      subst h4
      obtain ⟨Q1, k1, k2⟩ := ih h3 (nd_r n)
      have go : ∀ Q0 : List Addr, Q0.Sublist P0 → (∀ G, Ex F G → (∀ q ∈ P0, q ∉ Q0 → ∀ o, H q = some o → G q = some o) → RA K G G H μ a' v Q0) → ∃ P' : List Addr, P'.Sublist (P0 ++ P1) ∧ ∀ G, Ex F G → (∀ q ∈ P0 ++ P1, q ∉ P' → ∀ o, H q = some o → G q = some o) → RAs K G G H μ (a' :: bs) (v :: vs) P' := fun Q0 s0 f0 =>
        ⟨Q0 ++ Q1, List.Sublist.append s0 k1, fun G eG hG => RAs.cons (f0 G eG fun q hq nq => hG q (List.mem_append_left _ hq) fun z => (List.mem_append.mp z).elim nq fun z => nd_ne n hq (k1.subset z))
          (k2 G eG fun q hq nq => hG q (List.mem_append_right _ hq) fun z => (List.mem_append.mp z).elim (fun z => nd_ne n (s0.subset z) hq) nq)⟩
      cases m with
      | true =>
        have h1 : ownA a = some a' := h1
        cases r with
        | dat r => cases h1; exact go [] (List.Sublist.refl _) fun G eG _ => .dat (ex_dp eG r)
        | sn r => cases h1
        | ob r => cases h1; exact go _ (List.Sublist.refl _) fun G eG _ => .ob (r.mv eG fun _ _ _ z => z)
        | loc r => cases h1; exact go [] (List.Sublist.refl _) fun G eG _ => .loc r
        | scr r => cases h1; exact go [] (List.Sublist.refl _) fun G eG _ => .scr (ex_sqL eG r)
        | dc r => cases h1; exact go _ (List.Sublist.refl _) fun G eG _ => .dc r
        | zz => cases h1
      | false =>
        have h1 : frzA a = some a' := h1
        cases r with
        | dat r => cases h1; exact go [] (List.Sublist.refl _) fun G eG _ => .dat (ex_dp eG r)
        | sn r => cases h1
        | ob r => cases h1; exact go [] (List.nil_sublist _) fun G eG hG => .dat (r.frz eG fun q hq o z => hG q hq List.not_mem_nil o z)
        | loc r => cases h1; exact go [] (List.Sublist.refl _) fun G eG _ => .loc r
        | scr r => cases h1; exact go [] (List.Sublist.refl _) fun G eG _ => .scr (ex_sqL eG r)
        | dc r => cases h1
        | zz => cases h1
theorem RS.sets : ∀ {js : List Nat} {as : List A} {vs : List V} {P O : List Addr} {env : En} {σ : L2.St}, RS K F H μ env σ O → RAs K F F H μ as vs P → as.length = js.length → O.Nodup → P.Nodup → (∀ q ∈ P, q ∉ O) →
    ∃ O', RS K F H μ (setsE js as env) (setsV js vs σ) O' ∧ (∀ q ∈ O', q ∈ O ∨ q ∈ P) ∧ O'.Nodup
  | [], _, _, _, O, _, _, r, .nil, _, n, _, _ => ⟨O, r, fun q hq => .inl hq, n⟩
  | [], _, _, _, O, _, _, r, .cons _ _, e, _, _, _ => by simp at e
  | j :: js, _, _, _, O, _, _, r, .nil, e, _, _, _ => by simp at e
  | j :: js, _, _, _, O, env, σ, r, .cons (P := P0) (P' := P1) ra t, e, n1, n2, n3 => by
    obtain ⟨O1, k1, k2, k3⟩ := r.set j ra
    have m1 := k3 n1 (nd_l n2) fun q hq => n3 q (List.mem_append_left _ hq)
    obtain ⟨O2, k4, k5, k6⟩ := RS.sets (js := js) k1 t (by simpa using e) m1 (nd_r n2) fun q hq z => by
      rcases k2 q z with w | w
      · exact n3 q (List.mem_append_right _ hq) w
      · exact nd_ne n2 w hq
    refine ⟨O2, k4, fun q hq => ?_, k6⟩
    rcases k5 q hq with z | z
    · exact (k2 q z).imp id (List.mem_append_left _)
    · exact .inr (List.mem_append_right _ z)
theorem tS_par {js : List Nat} {ms : List Bool} {fs : AF} (hq : tS K Γ E (fPar js ms fs) D' σ H) : tA K Γ E fs σ H fun vs H1 => vs.length = js.length ∧ D'.nx (setsV js vs σ) H1 := by
  obtain ⟨μ, Oc, B, S, env, h, s, go⟩ := hq
  refine ⟨μ, Oc, B ++ S, env, h, s.sim, ?_⟩
  unfold fPar at go
  cases hf : fs env h with
  | er => rw [hf] at go; exact go
  | exc c h1 => rw [hf] at go; exact XPs.of go
  | ok as h1 =>
    rw [hf] at go
    change GoS K Γ E (onP (conv ms as) fun as' => if as'.length = js.length then .nx (setsE js as' env) h1 else .er) D' H μ Oc B S at go
    intro vs H1 μ1 Oc1 P p
    cases hc : conv ms as with
    | none => rw [hc] at go; exact go.elim
    | some as' =>
      rw [hc] at go
      change GoS K Γ E (if as'.length = js.length then .nx (setsE js as' env) h1 else .er) D' H μ Oc B S at go
      by_cases hl : as'.length = js.length
      · rw [if_pos hl] at go
        obtain ⟨s1, g1⟩ := p.ssim s
        have nSP := nd_r (nd_r s1.nd)
        obtain ⟨P', hsub, hval⟩ := par_vals p.val hc (nd_r nSP)
        have hP : ∀ q ∈ P', q ∈ P := fun q hq => hsub.subset hq
        have hS : ∀ q ∈ S ++ P', q ∈ S ++ P := fun q hq => (List.mem_append.mp hq).elim (List.mem_append_left _) fun z => List.mem_append_right _ (hP q z)
        have e : Ex (mns H1 (Oc1 ++ (B ++ (S ++ P)))) (mns H1 (Oc1 ++ (B ++ (S ++ P')))) := mns_mono fun q hq => (List.mem_append.mp hq).elim (List.mem_append_left _) fun z =>
          List.mem_append_right _ ((List.mem_append.mp z).elim (List.mem_append_left _) fun z => List.mem_append_right _ (hS q z))
        have nd : (Oc1 ++ (B ++ (S ++ P'))).Nodup := by
          have n := s1.nd
          refine nd_mk (nd_l n) (nd_mk (nd_l (nd_r n)) (nd_mk (nd_l nSP) ((nd_r nSP).sublist hsub) fun q a b => nd_ne nSP a (hP q b)) fun q a b => nd_ne (nd_r n) a (hS q b)) fun q a b => ?_
          rcases List.mem_append.mp b with z | z
          · exact nd_ne n a (List.mem_append_left _ z)
          · exact nd_ne n a (List.mem_append_right _ (hS q z))
        have val := hval (mns H1 (Oc1 ++ (B ++ (S ++ P')))) (by rw [← as3]; exact e) fun q hq nq o ho => mns_some.mpr ⟨fun z => by
          rcases List.mem_append.mp z with z | z
          · exact nd_ne s1.nd z (List.mem_append_right _ (List.mem_append_right _ hq))
          · rcases List.mem_append.mp z with z | z
            · exact nd_ne (nd_r s1.nd) z (List.mem_append_right _ hq)
            · rcases List.mem_append.mp z with z | z
              · exact nd_ne nSP z hq
              · exact nq z, ho⟩
        obtain ⟨Os, o1, o2, o3⟩ := p.slots' s
        obtain ⟨O', k1, k2, k3⟩ := (o3.mv e (Pre.refl _) fun _ _ _ z => z).sets (js := js) val hl o2 ((nd_r nSP).sublist hsub) fun q a b => nd_ne nSP (o1 q b) (hP q a)
        refine ⟨by rw [ras_len val]; exact hl, go _ H1 μ1 Oc1 (S ++ P') ⟨⟨nd, s1.cells.mv e fun _ _ _ z => z, ⟨O', fun q hq => ?_, k3, k1⟩, fun q hq => ?_⟩, ⟨g1.keep, g1.newO, fun q hq => g1.newS q (hS q hq), g1.dom, g1.pre⟩⟩⟩
        · exact (k2 q hq).elim (fun z => List.mem_append_left _ (o1 q z)) fun z => List.mem_append_right _ z
        · exact s1.live q ((List.mem_append.mp hq).elim (List.mem_append_left _) fun z => List.mem_append_right _ (hS q z))
      · rw [if_neg hl] at go; exact go.elim
end
/-! ### over HandS -/
theorem gNames_ok : ∀ {js : List Nat} {vs : List V} {σ : L2.St} {H : Hp} {Q : L2.St → Hp → Prop}, vs.length = js.length → Q (setsV js vs σ) H → gNames js vs σ H Q
  | [], [], _, _, _, _, q => ⟨rfl, q⟩
  | j :: js, v :: vs, σ, H, Q, e, q => ⟨v, vs, rfl, gNames_ok (js := js) (by simpa using e) q⟩
  | [], _ :: _, _, _, _, e, _ => by simp at e
  | _ :: _, [], _, _, _, e, _ => by simp at e
section
variable {X : Cx} {Γ : Nat → Addr} {E : XK} {pos : Pos}
/-- a, b, .. = x, y, ..: by a tuple -/
theorem ps_parT {js : List Nat} {ts vs : List Expr} {ta : TA} {kt k2 : Nat} {pt pt2 : Pos} (hc : X.calm = true) (hg : PGs X ts (gNames js)) (ha : PA X vs ta)
    (hw : swappedStores [.Tuple ts kt pt] (.Tuple vs k2 pt2) X.env = pure none := by rfl) (hs : swapsWithSole [.Tuple ts kt pt] (.Tuple vs k2 pt2) pos.line X.env = pure false := by rfl)
    (h1 : (assignEach [.Tuple ts kt pt] X.env).map (·.2) = [assign (.Tuple ts kt pt) X.env] := by rfl)
    (hn : (assignEach ts X.env).length = js.length := by rfl) (hst : (assignEach ts X.env).findIdx? (·.1) = none := by rfl) (hj : js.length ≤ 100 := by decide) :
    PS X (.Assign [.Tuple ts kt pt] (.Tuple vs k2 pt2) pos) (fun D σ H => ta σ H fun vs H1 => vs.length = js.length ∧ D.nx (setsV js vs σ) H1) := by
  refine ⟨fun pins s σ H D I h => ?_⟩
  refine wpAny_Assign_stores (wpAny_Tuple_spliced (thn (ha.run pt2 pins s σ H _ I h) fun us s1 ⟨xs, H1, I1, r, hl, q⟩ => ⟨by rw [← r.length, hl]; exact Nat.le_trans hj (by decide), ?_⟩)) hs hw
  rw [h1]
  have I2 : Inv X pins σ H1 { s1 with heap := s1.heap.push { cls := .type "tuple", data := .seq us.toArray } } := I1.kept (t' := s1.toks) fun b o e => Heap.get?_push_of_some _ e
  show wpAny (model X.prog X.w) X.A (assign (.Tuple ts kt pt) X.env (.ref s1.heap.objs.size)) _ _ _
  refine assign_Tuple_tuple (I1.ok.hd hc) (IsTup.new s1.heap us.toArray) (by simp [hn, ← hl, r.length]) hst fun h' hx => ?_
  have I3 : Inv X pins σ H1 { s1 with heap := h' } := I2.kept (h' := h') (t' := s1.toks) fun b o e => hx b o (Nat.ne_of_lt (Heap.lt_size e)) e
  exact thn (hg.run pins _ σ H1 xs _ _ I3 (by simpa using r) (gNames_ok hl q)) fun _ s2 z => z
theorem s_parT (js : List Nat) (ms : List Bool) {ts vs : List Expr} {fs : AF} {kt k2 : Nat} {pt pt2 : Pos} (hc : X.calm = true) (hg : PGs X ts (gNames js)) (ha : PA X vs (tA X.K Γ E fs))
    (hw : swappedStores [.Tuple ts kt pt] (.Tuple vs k2 pt2) X.env = pure none := by rfl) (hs : swapsWithSole [.Tuple ts kt pt] (.Tuple vs k2 pt2) pos.line X.env = pure false := by rfl)
    (h1 : (assignEach [.Tuple ts kt pt] X.env).map (·.2) = [assign (.Tuple ts kt pt) X.env] := by rfl)
    (hn : (assignEach ts X.env).length = js.length := by rfl) (hst : (assignEach ts X.env).findIdx? (·.1) = none := by rfl) (hj : js.length ≤ 100 := by decide) :
    PS X (.Assign [.Tuple ts kt pt] (.Tuple vs k2 pt2) pos) (tS X.K Γ E (fPar js ms fs)) := ps_imp (ps_parT hc hg ha hw hs h1 hn hst hj) fun _ _ _ => tS_par
theorem s_par2 (i j : Nat) (ms : List Bool) {x y : Str} {a b : Expr} {fs : AF} {px py pt : Pos} {kt k2 pt2} (hc : X.calm = true) (hN : X.N.Nodup) (ha : PA X [a, b] (tA X.K Γ E fs)) (hi : X.N[i]? = some x := by rfl) (hj : X.N[j]? = some y := by rfl) (hij : i ≠ j := by decide)
    (hx : X.env.scope.names.lookup x = some .local := by rfl) (hy : X.env.scope.names.lookup y = some .local := by rfl)
    (hw : swappedStores [.Tuple [.Name x px, .Name y py] kt pt] (.Tuple [a, b] k2 pt2) X.env = pure (some [x, y]) := by rfl)
    (hs : swapsWithSole [.Tuple [.Name x px, .Name y py] kt pt] (.Tuple [a, b] k2 pt2) pos.line X.env = pure false := by rfl) :
    PS X (.Assign [.Tuple [.Name x px, .Name y py] kt pt] (.Tuple [a, b] k2 pt2) pos) (tS X.K Γ E (fPar [i, j] ms fs)) := ps_imp (ps_par hc hN hi hj hij hx hy ha hw hs) fun D σ H q => by
  obtain ⟨μ, Oc, T, env, h, s, go⟩ := tS_par q
  refine ⟨μ, Oc, T, env, h, s, ?_⟩
  cases hf : fs env h with
  | er => rw [hf] at go; exact go
  | exc c h1 => rw [hf] at go; exact go
  | ok as h1 =>
    rw [hf] at go
    intro vs H1 μ1 Oc1 P p
    obtain ⟨hl, q⟩ := go vs H1 μ1 Oc1 P p
    match vs, hl, q with
    | [v, w], _, q => exact ⟨v, w, rfl, q⟩
theorem s_par3 (i j l : Nat) (ms : List Bool) {x y z : Str} {a b c : Expr} {fs : AF} {px py pz pt : Pos} {kt k2 pt2} (hc : X.calm = true) (hN : X.N.Nodup) (ha : PA X [a, b, c] (tA X.K Γ E fs)) (hi : X.N[i]? = some x := by rfl) (hj : X.N[j]? = some y := by rfl) (hk : X.N[l]? = some z := by rfl) (hij : i ≠ j := by decide) (hil : i ≠ l := by decide) (hjl : j ≠ l := by decide)
    (hx : X.env.scope.names.lookup x = some .local := by rfl) (hy : X.env.scope.names.lookup y = some .local := by rfl) (hz : X.env.scope.names.lookup z = some .local := by rfl)
    (hw : swappedStores [.Tuple [.Name x px, .Name y py, .Name z pz] kt pt] (.Tuple [a, b, c] k2 pt2) X.env = pure (some [x, y, z]) := by rfl)
    (hs : swapsWithSole [.Tuple [.Name x px, .Name y py, .Name z pz] kt pt] (.Tuple [a, b, c] k2 pt2) pos.line X.env = pure false := by rfl) :
    PS X (.Assign [.Tuple [.Name x px, .Name y py, .Name z pz] kt pt] (.Tuple [a, b, c] k2 pt2) pos) (tS X.K Γ E (fPar [i, j, l] ms fs)) := ps_imp (ps_par3 hc hN hi hj hk hij hil hjl hx hy hz ha hw hs) fun D σ H q => by
  obtain ⟨μ, Oc, T, env, h, s, go⟩ := tS_par q
  refine ⟨μ, Oc, T, env, h, s, ?_⟩
  cases hf : fs env h with
  | er => rw [hf] at go; exact go
  | exc c h1 => rw [hf] at go; exact go
  | ok as h1 =>
    rw [hf] at go
    intro vs H1 μ1 Oc1 P p
    obtain ⟨hl, q⟩ := go vs H1 μ1 Oc1 P p
    match vs, hl, q with
    | [v, w, u], _, q => exact ⟨v, w, u, rfl, q⟩
end
end Mi
/-! Mini: chains, isinstance, len(set(..)), ==, op=, xs[i] = .., lists of lists. -/
namespace Mi
open PySem L2 PySem.Spec PyProof.Rows
/-! ### a <= b <= c of ints -/
def fChain (f g k : EF) : EF := fun env h => (f env h).bind fun a h1 => (g env h1).bind fun b h2 => onI a fun i => onI b fun j => if i ≤ j then (k env h2).bind fun c h3 => onI c fun l => .ok (.dat (.bool (decide (j ≤ l)))) h3 else .ok (.dat (.bool false)) h2
section
variable {K : PySem.W.Frag} {Γ : Nat → Addr} {E : XK} {σ : L2.St} {H : Hp}
theorem tE_chain {f g k : EF} {Q : VK} : tE K Γ E (fChain f g k) σ H Q → tChain (rI0 fun i j => .bl (decide (i ≤ j))) (rI0 fun i j => .bl (decide (i ≤ j))) (tE K Γ E f) (tE K Γ E g) (tE K Γ E k) σ H Q := by
  rintro ⟨μ, Oc, T, env, h, s, go⟩
  refine ⟨μ, Oc, T, env, h, s, ?_⟩
  unfold fChain at go
  cases hf : f env h with
  | er => rw [hf] at go; exact go
  | exc c h1 => rw [hf] at go; exact go
  | ok a h1 =>
    rw [hf] at go
    simp only [Res.bind] at go
    intro v H1 μ1 Oc1 P1 p
    refine ⟨μ1, Oc1, T ++ P1, env, h1, p.sim, ?_⟩
    cases hg : g env h1 with
    | er => simp only [hg] at go; exact go.elim
    | exc c h2 => simp only [hg] at go; exact PsX.step p go
    | ok b h2 =>
      simp only [hg] at go
      intro w H2 μ2 Oc2 P2 p2
      have pp := p.app p2
      unfold onI at go
      cases ha : a.i with
      | none => simp only [ha] at go; exact go.elim
      | some i =>
        simp only [ha] at go
        cases hb : b.i with
        | none => simp only [hb] at go; exact go.elim
        | some j =>
          simp only [hb] at go
          have ea := A.of_i ha
          have eb := A.of_i hb
          subst ea eb
          obtain ⟨v', w', P3, P4, ev, r1, r2, _⟩ := ras2 pp.val
          cases ev
          obtain ⟨rfl, _⟩ := dat_int r1
          obtain ⟨rfl, _⟩ := dat_int r2
          refine ⟨i, j, rfl, rfl, _, rfl, ?_⟩
          have p0 := pp.drop
          by_cases hc : i ≤ j
          · rw [decide_eq_true hc, if_pos rfl]
            rw [if_pos hc] at go
            refine ⟨μ2, Oc2, T, env, h2, p0.sim0, ?_⟩
            cases hk : k env h2 with
            | er => simp only [hk] at go; exact go.elim
            | exc c h3 => simp only [hk] at go; exact PsX.step0 p0 go
            | ok c h3 =>
              simp only [hk] at go
              intro x H3 μ3 Oc3 P5 p3
              cases hcc : c.i with
              | none => simp only [hcc] at go; exact go.elim
              | some l =>
                simp only [hcc] at go
                have ec := A.of_i hcc
                subst ec
                obtain ⟨x', ex, r3⟩ := ras1 p3.val
                cases ex
                obtain ⟨rfl, _⟩ := dat_int r3
                exact ⟨j, l, rfl, rfl, go _ H3 μ3 Oc3 [] ((p0.then p3).prim (Ex.refl _) (fun _ z => absurd z List.not_mem_nil) List.nodup_nil (.dat (.bl _)))⟩
          · rw [decide_eq_false hc, if_neg Bool.false_ne_true]
            rw [if_neg hc] at go
            exact go _ H2 μ2 Oc2 [] (pp.prim (Ex.refl _) (fun _ z => absurd z List.not_mem_nil) List.nodup_nil (.dat (.bl _)))
end
/-! ### isinstance(x, T) -/
def tyN : A → Option String
  | .scr _ => some "list"
  | a => match a.d with
    | some .none => some "NoneType"
    | some (.bool _) => some "bool"
    | some (.int _) => some "int"
    | some (.str _) => some "str"
    | some (.list _) => some "list"
    | some (.tuple _) => some "tuple"
    | _ => none
def isT (t T : String) : Bool := t == T || (t == "bool" && T == "int")
theorem kit_tab : ∀ t ∈ ["NoneType", "bool", "int", "str", "list", "tuple"], ∀ T ∈ ["bool", "int", "str", "list", "tuple"], kitB t T = some (isT t T) := by decide +kernel
def fIsi (T : String) (f : EF) : EF := fun env h => (f env h).bind fun a h1 => match tyN a with
  | some t => .ok (.dat (.bool (isT t T))) h1
  | none => .er
section
variable {K : PySem.W.Frag} {Γ : Nat → Addr} {E : XK} {σ : L2.St} {H : Hp}
theorem tyN_ok {F W : Hp} {μ P : List Addr} {a : A} {v : V} {t : String} (e : Ex F H) (ef : Ex F W) (ew : Ex W H) (r : RA K F W H μ a v P) (h : tyN a = some t) : TyX K H v (.type t) ∧ t ∈ ["NoneType", "bool", "int", "str", "list", "tuple"] := by
  have key : ∀ d, a.d = some d → (match some d with
    | some .none => some "NoneType"
    | some (.bool _) => some "bool"
    | some (.int _) => some "int"
    | some (.str _) => some "str"
    | some (.list _) => some "list"
    | some (.tuple _) => some "tuple"
    | _ => none) = some t → TyX K H v (.type t) ∧ t ∈ ["NoneType", "bool", "int", "str", "list", "tuple"] := fun d hd ht => by
    have dq := r.dp e ef ew hd
    cases dq with
    | non => cases ht; exact ⟨.base .non, by simp⟩
    | bl b => cases ht; exact ⟨.base (.bl b), by simp⟩
    | int i => cases ht; exact ⟨.base (.int i), by simp⟩
    | str x => cases ht; exact ⟨.base (.str x), by simp⟩
    | lst h1 h2 => cases ht; exact ⟨.base (.lst h1), by simp⟩
    | tup h1 h2 =>
      cases ht
      rcases h1 with ⟨ob, h1, _⟩ | ⟨o, its, n, k1, k2, _⟩
      · exact ⟨.fTuple h1, by simp⟩
      · exact ⟨.kTuple k1 k2, by simp⟩
  cases a with
  | dat d => exact key d rfl h
  | sn c => exact key _ rfl h
  | ob c => exact key _ rfl h
  | loc k => cases h
  | dc k => cases h
  | zz => cases h
  | scr ns =>
    cases h
    cases r with
    | scr hs =>
      rcases ex_sqL e hs with (z | ⟨o, z⟩) | ⟨o, its, n, k1, k2, _⟩
      · exact ⟨.base (.lst z), by simp⟩
      · exact ⟨.base (.frz z), by simp⟩
      · exact ⟨.kList k1 k2, by simp⟩
theorem tE_isi {T : String} {f : EF} {Q : VK} (hT : T ∈ ["bool", "int", "str", "list", "tuple"]) : tE K Γ E (fIsi T f) σ H Q → tCB (rIsi K) (tCons (tE K Γ E f) (tCons (tC (.ty T)) tNil)) σ H Q := by
  rintro ⟨μ, Oc, T0, env, h, s, go⟩
  refine ⟨μ, Oc, T0, env, h, s, ?_⟩
  unfold fIsi at go
  cases hf : f env h with
  | er => rw [hf] at go; exact go
  | exc c h1 => rw [hf] at go; exact go
  | ok a h1 =>
    rw [hf] at go
    simp only [Res.bind] at go
    intro v H1 μ1 Oc1 P1 p
    cases ht : tyN a with
    | none => simp only [ht] at go; exact go.elim
    | some t =>
      simp only [ht] at go
      obtain ⟨v', ev, r⟩ := ras1 p.val
      cases ev
      obtain ⟨k1, k2⟩ := tyN_ok exFH exFW exWH r ht
      exact ⟨v, .ty T, .type t, .type T, isT t T, rfl, .ty T, k1, kit_ty (kit_tab t k2 T hT), go _ H1 μ1 Oc1 [] (p.prim (Ex.refl _) (fun _ z => absurd z List.not_mem_nil) List.nodup_nil (.dat (.bl _)))⟩
end
section
variable {X : Cx} {Γ : Nat → Addr} {E : XK} {pos p2 p3 : Pos} {a b c : Expr} {f g k : EF}
theorem e_chain (ha : PE X a (tE X.K Γ E f)) (hb : PE X b (tE X.K Γ E g)) (hc : PE X c (tE X.K Γ E k)) (hm : lastMarks [.LtE, .LtE] [b, c] = false := by with_unfolding_all rfl) : PE X (.Compare a [.LtE, .LtE] [b, c] pos) (tE X.K Γ E (fChain f g k)) :=
  pe_imp (pe_chain op_le op_le ha hb hc hm) fun _ _ _ => tE_chain
theorem t_chain (ha : PE X a (tE X.K Γ E f)) (hb : PE X b (tE X.K Γ E g)) (hc : PE X c (tE X.K Γ E k)) (hm : lastMarks [.LtE, .LtE] [b, c] = false := by with_unfolding_all rfl) : PT X (.Compare a [.LtE, .LtE] [b, c] pos) (tT X.K Γ E (fTest (fChain f g k))) :=
  pt_imp (pt_chain op_le op_le ha hb hc hm) fun _ _ _ q => tE_chain (tE_test q)
theorem e_isi (T : String) {x : Str} (hT : T ∈ ["bool", "int", "str", "list", "tuple"]) (hg : Gl X "isinstance") (hm : X.mg "isinstance" = none) (hgT : Gl X x) (hmT : X.mg x = none) (hvT : bootBuiltins x = some (.type T)) (ha : PE X a (tE X.K Γ E f)) (hv : bootBuiltins "isinstance" = some (.builtin "isinstance")) (hn : x ≠ "__name__" := by decide) (hd : (x == ("__debug__" : Str)) = false := by decide)
    (h1 : starEach [a, .Name x p3] X.env = (false, eval a X.env) :: starEach [.Name x p3] X.env := by rfl) (h2 : starEach [.Name x p3] X.env = (false, eval (.Name x p3) X.env) :: starEach [] X.env := by rfl) (hpl : (backTo pos (starEach [.Name x p3] X.env)).any (·.1) = false := by rfl) :
    PE X (.Call (.Name "isinstance" p2) [a, .Name x p3] [] pos) (tE X.K Γ E (fIsi T f)) :=
  pe_imp (pe_callB call_isi hg hm hv (pa_cons ha (pa_cons (pe_bltn (v := .ty T) hgT hmT hvT rfl hn hd) pa_nil h2) h1) (by decide) (by decide) h1 hpl) fun _ _ _ => tE_isi hT
end
/-! ### len(set(xs)) of ints -/
def uq (ns : List Int) : Nat := (PyProof.Rows.firstMet (fun i => ns.getD i 0) ns.length).length
theorem uq_nodup {ns : List Int} (h : ns.Nodup) : uq ns = ns.length := by
  unfold uq
  rw [RZ.firstMet_nodup h ns.length (Nat.le_refl _), List.take_length]
def gLenSet : List A → Hh → Option A
  | [a], _ => a.lst.bind fun ds => (asInts ds).bind fun ns => if ns.length ≤ 4000 then some (.dat (.int (uq ns : Nat))) else none
  | _, _ => none
theorem prim_lenSet {K : PySem.W.Frag} : Prim K (r1L fun x H1 Q => ∃ (l : Addr) (ns : List Int), x = .ref l ∧ SqL K H1 l (ns.map V.int) ∧ ns.length ≤ 4000 ∧ Q (.int (uq ns : Nat)) H1) gLenSet := by
  intro H μ Oc T P h as vs a Q nd rc ra lv hg go
  unfold gLenSet at hg
  split at hg
  · obtain ⟨v, rfl, r⟩ := ras1 ra
    obtain ⟨ds, h1, h2⟩ := Option.bind_eq_some_iff.mp hg
    obtain ⟨ns, h3, h4⟩ := Option.bind_eq_some_iff.mp h2
    split at h4
    · rename_i hc
      cases h4
      obtain ⟨p, ws, rfl, e1, e2⟩ := r.itemsL h1
      rw [asInts_eq h3] at e2
      rw [dqs_ints e2] at e1
      exact ⟨_, rfl, p, ns, rfl, .of e1, hc, sc_go (fun _ => .int _) go⟩
    · cases h4
  · cases hg
theorem pe_lenSetG {X : Cx} {a : Expr} {ta : TE} {p p2 q pos : Pos} (hg : Gl X "len") (hm : X.mg "len" = none) (hg2 : Gl X "set") (hm2 : X.mg "set" = none) (ha : PE X a ta) (hc : X.calm = true := by rfl)
    (na : starEach [a] X.env = (false, eval a X.env) :: starEach [] X.env := by rfl) : PE X (.Call (.Name "len" p) [.Call (.Name "set" p2) [a] [] q] [] pos) (fun σ H Q => ta σ H fun x H1 => ∃ (l : Addr) (ns : List Int), x = .ref l ∧ SqL X.K H1 l (ns.map V.int) ∧ ns.length ≤ 4000 ∧ Q (.int (uq ns : Nat)) H1) := by
  refine ⟨fun pins s σ H Q I h => ?_⟩
  refine Call_ (ld_blt I hg hm boot_len ?_)
  refine PyProof.Rows.callWith_builtin1 (PyProof.Rows.args_cons ?_ rfl) rfl rfl
  refine Call_ (ld_blt I hg2 hm2 boot_set ?_)
  refine PyProof.Rows.callWith_type1 (PyProof.Rows.args_cons (L2.thn (ha.run pins s σ H _ I h) fun v s1 ⟨x, H1, I1, r1, q1⟩ => PyProof.Rows.args_nil ?_) na) na rfl
  obtain ⟨l, ns, rfl, hq, hl, q1⟩ := q1
  cases r1
  obtain ⟨its, r, pl, hz⟩ := I1.list hq
  have hlen : its.toArray.size = ns.length := by rw [List.size_toArray, ← r.length, List.length_map]
  refine call_set_list (I1.ok.hd hc) pl.isList (by simpa using RZ.intsAre_vals r) (by rw [hlen]; unfold scanBound; omega) fun h' tk hS hk => ?_
  refine PyProof.Rows.args_nil ?_
  rw [hlen] at hS
  obtain ⟨o, es, ep, t, ho, hex, hd, _, _, _, hf, hn⟩ := hS
  have I2 : Inv X pins σ H1 { s1 with heap := h', toks := tk } := I1.kept fun b o e => hk b o (Heap.lt_size e) e
  have hle : (PyProof.Rows.firstMet (fun i => ns.getD i 0) ns.length).length ≤ ns.length := PyProof.Rows.firstMet_length_le _ _
  exact call_len_set ho hex hd hf (by rw [hn] <;> omega) ⟨.int (uq ns : Nat), H1, I2.tok _, ⟨_, by rw [hn]; rfl⟩, q1⟩
section
variable {X : Cx} {Γ : Nat → Addr} {E : XK} {p p2 q pos : Pos} {a : Expr} {f : EF}
theorem e_lenSet (hg : Gl X "len") (hm : X.mg "len" = none) (hg2 : Gl X "set") (hm2 : X.mg "set" = none) (ha : PE X a (tE X.K Γ E f)) (hc : X.calm = true := by rfl) (na : starEach [a] X.env = (false, eval a X.env) :: starEach [] X.env := by rfl) :
    PE X (.Call (.Name "len" p) [.Call (.Name "set" p2) [a] [] q] [] pos) (tE X.K Γ E (fPrim gLenSet (fCons f fNil))) := pe_imp (pe_lenSetG hg hm hg2 hm2 ha hc na) fun _ _ _ q => tE_un prim_lenSet q
end
/-! ### ==, != of anything -/
def A.dd : A → Option D
  | .scr ns => some (.list (ns.map .int))
  | a => a.d
theorem dpA_ints {K : PySem.W.Frag} {H : Hp} : ∀ ns : List Int, DpAll K H (ns.map V.int) (ns.map .int)
  | [] => .nil
  | n :: ns => .cons (.int n) (dpA_ints ns)
theorem RA.dpp {K : PySem.W.Frag} {F W H : Hp} {μ P : List Addr} {a : A} {v : V} {d : D} (e : Ex F H) (ef : Ex F W) (ew : Ex W H) (r : RA K F W H μ a v P) (h : a.dd = some d) : Dp K H v d := by
  cases r with
  | dat r => cases h; exact (ex_dp e r).dp
  | sn r => cases h; exact (ex_dp ew (r.dp ef)).dp
  | ob r => cases h; exact (r.dp e).dp
  | loc r => cases h
  | scr r => cases h; exact .lst (ex_sqL e r) (dpA_ints _)
  | dc r => cases h
  | zz => cases h
def gEqB (neg : Bool) : List A → Hh → Option A
  | [a, b], _ => a.dd.bind fun x => b.dd.bind fun y => if SeqAt.shaped x = true ∧ SeqAt.shaped y = true then some (.dat (.bool (if neg then !PyData.eqv x y else PyData.eqv x y))) else none
  | _, _ => none
theorem prim_eqB {K : PySem.W.Frag} : Prim K (r2L (rEqD K)) (gEqB false) := by
  intro H μ Oc T P h as vs a Q nd rc ra lv hg go
  unfold gEqB at hg
  split at hg
  · obtain ⟨v, w, P1, P2, rfl, r1, r2, _⟩ := ras2 ra
    obtain ⟨x, h1, h2⟩ := Option.bind_eq_some_iff.mp hg
    obtain ⟨y, h3, h4⟩ := Option.bind_eq_some_iff.mp h2
    split at h4
    · rename_i hc
      cases h4
      exact ⟨v, w, rfl, x, y, r1.dpp exFH exFW exWH h1, r2.dpp exFH exFW exWH h3, hc.1, hc.2, sc_go (fun _ => .bl _) go⟩
    · cases h4
  · cases hg
theorem prim_neB {K : PySem.W.Frag} : Prim K (r2L (rNeD K)) (gEqB true) := by
  intro H μ Oc T P h as vs a Q nd rc ra lv hg go
  unfold gEqB at hg
  split at hg
  · obtain ⟨v, w, P1, P2, rfl, r1, r2, _⟩ := ras2 ra
    obtain ⟨x, h1, h2⟩ := Option.bind_eq_some_iff.mp hg
    obtain ⟨y, h3, h4⟩ := Option.bind_eq_some_iff.mp h2
    split at h4
    · rename_i hc
      cases h4
      exact ⟨v, w, rfl, x, y, r1.dpp exFH exFW exWH h1, r2.dpp exFH exFW exWH h3, hc.1, hc.2, sc_go (fun _ => .bl _) go⟩
    · cases h4
  · cases hg
/-! ### name op= e, ints -/
def fAug (i : Nat) (g : Int → Int → Option Int) (f : EF) : SF := fun env h => match env[i]? with
  | some (some (.dat (.int m))) => onE (f env h) fun a h1 => match a with
    | .dat (.int n) => match g m n with
      | some k => .nx (env.set i (some (.dat (.int k)))) h1
      | none => .er
    | _ => .er
  | _ => .er
def augMul (i j : Int) : Option Int := if (-(2 ^ 64) < i ∧ i < 2 ^ 64) ∨ (-(2 ^ 64) < j ∧ j < 2 ^ 64) then some (i * j) else none
def augAdd (i j : Int) : Option Int := some (i + j)
section
variable {K : PySem.W.Frag} {Γ : Nat → Addr} {E : XK} {σ : L2.St} {H : Hp} {D' : Ends}
theorem tS_aug {i : Nat} {g : Int → Int → Option Int} {f : EF} {ti : TIp} (ht : ∀ m n k H Q, g m n = some k → Q (.int k) H → ti (.int m) (.int n) H Q) (hq : tS K Γ E (fAug i g f) D' σ H) : tAug i (tE K Γ E f) ti D' σ H := by
  obtain ⟨μ, Oc, B, S, env, h, s, go⟩ := hq
  unfold fAug at go
  split at go
  · rename_i m hm
    obtain ⟨Os, o1, o2, o3⟩ := s.slots
    obtain ⟨v, P0, e1, e2, e3⟩ := o3.get hm
    obtain ⟨rfl, rfl⟩ := dat_int e2
    refine ⟨_, e1, μ, Oc, B ++ S, env, h, s.sim, ?_⟩
    unfold onE at go
    cases hf : f env h with
    | er => rw [hf] at go; exact go
    | exc c h1 => rw [hf] at go; exact XPs.of go
    | ok a h1 =>
      rw [hf] at go
      intro w H1 μ1 Oc1 P p
      simp only at go
      split at go
      · rename_i n
        cases hk : g m n with
        | none => simp only [hk] at go; exact go.elim
        | some k =>
          simp only [hk] at go
          obtain ⟨w', ew, r⟩ := ras1 p.val
          cases ew
          obtain ⟨rfl, rfl⟩ := dat_int r
          refine ht m n k H1 _ hk ?_
          have pk : PsA K σ μ Oc (B ++ S) env H [.dat (.int k)] h1 [.int k] H1 μ1 Oc1 [] := p.prim (Ex.refl _) (fun _ z => absurd z List.not_mem_nil) List.nodup_nil (.dat (.int k))
          exact go _ H1 μ1 Oc1 _ (set_frz i s pk rfl)
      · exact go.elim
  · exact go.elim
end
section
variable {X : Cx} {Γ : Nat → Addr} {E : XK} {pos pos' : Pos} {e : Expr} {f : EF}
theorem s_augMul (i : Nat) {x : Str} (hN : X.N.Nodup) (he : PE X e (tE X.K Γ E f)) (hi : X.N[i]? = some x := by rfl) (hx : Loc X.env.scope x := by first | exact Or.inl rfl | exact Or.inr rfl) (hf : X.fn x = true ∨ X.env.scope.names.lookup x = some .local := by first | exact .inl rfl | exact .inr rfl | assumption) :
    PS X (.AugAssign (.Name x pos') .Mult e pos) (tS X.K Γ E (fAug i augMul f)) := ps_imp (ps_aug (ti := rI CMul fun i j => .int (i * j)) hN hi hx he iop_mul hf) fun _ _ _ q => tS_aug (fun m n k H Q hk q => by
  unfold augMul at hk
  split at hk
  · rename_i hc
    cases hk
    exact ⟨m, n, rfl, rfl, hc, q⟩
  · cases hk) q
end
end Mi
/-! Mini: rules for lists that are changed; lists of lists; zip. -/
namespace Mi
open PySem L2 PySem.Spec PyProof.Rows
/-! ### xs.remove(k), xs.reverse() -/
def mRem : List D → List D → Option (List D)
  | ds, [.int k] => (asInts ds).bind fun ns => if k ∈ ns then some ((ns.erase k).map .int) else none
  | _, _ => none
theorem erase_idx : ∀ {ns : List Int} {k : Int}, k ∈ ns → ∃ j : Nat, ns[j]? = some k ∧ (∀ m : Nat, m < j → ns[m]? ≠ some k) ∧ ns.eraseIdx j = ns.erase k
  | n :: ns, k, h => by
    by_cases e : n = k
    · subst e
      exact ⟨0, rfl, fun m hm => absurd hm (Nat.not_lt_zero _), by simp⟩
    · obtain ⟨j, h1, h2, h3⟩ := erase_idx (ns := ns) (k := k) ((List.mem_cons.mp h).resolve_left fun z => e z.symm)
      refine ⟨j + 1, by simpa using h1, fun m hm => ?_, ?_⟩
      · cases m with
        | zero => simpa using e
        | succ m => simpa using h2 m (by omega)
      · rw [List.eraseIdx_cons_succ, h3, List.erase_cons_tail (by simpa using e)]
theorem mut_rem {K : PySem.W.Frag} : MutR K rRemI mRem := by
  intro G H l ws us ds es ds' Q ex hl hd he hg go
  unfold mRem at hg
  split at hg
  · rename_i k
    obtain ⟨ns, h1, h2⟩ := Option.bind_eq_some_iff.mp hg
    split at h2
    · rename_i hk
      cases h2
      obtain ⟨v, rfl, dv⟩ := dqs1 he
      cases dv
      rw [asInts_eq h1] at hd
      rw [dqs_ints hd] at hl
      obtain ⟨j, k1, k2, k3⟩ := erase_idx hk
      refine ⟨l, ns, k, j, rfl, rfl, hl, k1, k2, ?_⟩
      rw [k3]
      exact go _ _ (ints_dqs _)
    · cases h2
  · cases hg
def mRev : List D → List D → Option (List D)
  | ds, [] => some ds.reverse
  | _, _ => none
section
variable {X : Cx} {Γ : Nat → Addr} {E : XK} {pos apos cpos p2 : Pos} {e : Expr} {es : List Expr} {fs : AF}
theorem s_mut (i : Nat) {x : Str} {name : Str} {id : String} {r : V → List V → Hp → VK → Prop} {g : List D → List D → Option (List D)} (hr : MutR X.K r g) (slot : Slot "list" name id) (hty : typeOf (.builtin id) = pure (.type "method_descriptor")) (hm : MtR X id r) (ha : PA X (e :: es) (tA X.K Γ E fs))
    (hN : X.N[i]? = some x := by rfl) (hv : Vis X.env.scope x := by first | exact Or.inl rfl | exact Or.inr (Or.inl rfl) | exact Or.inr (Or.inr rfl)) (hd : (x == ("__debug__" : Str)) = false := by decide) (hcd : (x == ("__classdict__" : Str)) = false := by decide)
    (hbase : attributeBase (.Name x p2) name X.env (eval (.Name x p2) X.env) = eval (.Name x p2) X.env := by rfl)
    (hfew : ((backTo cpos (starEach (e :: es) X.env)).all (fun x => !x.1) && (backToKw cpos (keywordEach [] X.env)).all (fun x => x.1.isSome)
      && decide ((e :: es).length + ([] : List Keyword).length + (if ([] : List Keyword).isEmpty then 0 else 1) < 30)) = true := by rfl)
    (hline : (apos.endLine == cpos.line) = true := by rfl) (hs : starEach (e :: es) X.env = (false, eval e X.env) :: starEach es X.env := by rfl) (hplain : (backTo cpos (starEach es X.env)).any (·.1) = false := by rfl)
    (hsw : swapsWith (.Call (.Attribute (.Name x p2) name apos) (e :: es) [] cpos) none pos.line X.env = pure false := by rfl) :
    PS X (.Expr (.Call (.Attribute (.Name x p2) name apos) (e :: es) [] cpos) pos) (tS X.K Γ E (fMut i g fs)) :=
  ps_imp (ps_expr (pe_bm PySem.F.plainAttrs_list slot hty hm (pe_var hN hv hd hcd) ha hbase hfew hline hs hplain) hsw) fun _ _ _ => tS_mut hr
end
/-! ### xs[i] = e -/
def fSetIx (i : Nat) (fe fi : EF) : SF := fun env h => match fe env h with
  | .ok a h1 => match fi env h1 with
    | .ok b h2 => match sto a, b.i, env[i]? with
      | some d, some k, some (some (.ob (.lst ds))) => match ixN ds.length k with
        | some j => .nx (env.set i (some (.ob (.lst (ds.set j d))))) h2
        | none => .er
      | _, _, _ => .er
    | .exc c h2 => .er
    | .er => .er
  | .exc c h1 => .exc c h1
  | .er => .er
section
variable {K : PySem.W.Frag} {Γ : Nat → Addr} {E : XK} {σ : L2.St} {H : Hp} {D' : Ends}
theorem dps_set {F : Hp} {v : V} {d : D} (r : Dq K F v d) : ∀ {vs : List V} {ds : List D} (j : Nat), DqAll K F vs ds → DqAll K F (vs.set j v) (ds.set j d)
  | _, _, _, .nil => .nil
  | _, _, 0, .cons _ t => .cons r t
  | _, _, j + 1, .cons q t => .cons q (dps_set r j t)
theorem tS_setIx {i : Nat} {fe fi : EF} (hq : tS K Γ E (fSetIx i fe fi) D' σ H) : tAsg (tE K Γ E fe) (gSub (tVar i) (tE K Γ E fi) rSetL) D' σ H := by
  obtain ⟨μ, Oc, B, S, env, h, s, go⟩ := hq
  refine ⟨μ, Oc, B ++ S, env, h, s.sim, ?_⟩
  unfold fSetIx at go
  cases hf : fe env h with
  | er => rw [hf] at go; exact go
  | exc c h1 => rw [hf] at go; exact XPs.of go
  | ok a h1 =>
    simp only [hf] at go
    intro v H1 μ1 Oc1 P1 p1
    -- the list
    cases hi : fi env h1 with
    | er => simp only [hi] at go; exact go.elim
    | exc c h2 =>
      simp only [hi] at go
      exact go.elim
    | ok b h2 =>
      simp only [hi] at go
      split at go
      · rename_i d k ds hd hk hs
        cases hj : ixN ds.length k with
        | none => simp only [hj] at go; exact go.elim
        | some j =>
          simp only [hj] at go
          obtain ⟨Os, o1, o2, o3⟩ := s.slots
          obtain ⟨vr, Pr, e1, e2, e3⟩ := o3.get hs
          cases e2 with
          | @ob _ p _ e2 =>
            refine ⟨.ref p, e1, μ1, Oc1, (B ++ S) ++ P1, env, h1, p1.sim, ?_⟩
            rw [hi]
            intro w H2 μ2 Oc2 P2 p2
            have pp := p1.app p2
            have eb := A.of_i hk
            subst eb
            obtain ⟨v', w', P3, P4, ev, r1, r2, eP⟩ := ras2 pp.val
            cases ev
            obtain ⟨rfl, _⟩ := dat_int r2
            have q0 := pp.ssim0 s
            obtain ⟨Os2, m1, m2, m3⟩ := q0.sim.slots
            obtain ⟨vr2, Pr2, f1, f2, f3⟩ := m3.get hs
            rw [e1] at f1
            cases f1
            cases f2 with
            | ob f2 =>
              cases f2 with
              | @lst _ _ ws g1 g2 =>
                have dv := ra_sto pp.nd r1 (fun q hq => by rw [eP]; exact List.mem_append_left _ hq) hd
                refine ⟨p, ws, k, j, rfl, rfl, g1, by rw [dps_length g2]; exact hj, ?_⟩
                exact go σ _ μ2 Oc2 S (q0.mut hs e1 (dps_set dv j g2))
      · exact go.elim
end
end Mi
/-! Mini: a list that becomes a cell; a name's list that goes to another name; count. -/
namespace Mi
open PySem L2 PySem.Spec PyProof.Rows
section
variable {K : PySem.W.Frag} {Γ : Nat → Addr} {E : XK} {σ σ1 : L2.St} {μ μ1 Oc Oc1 B S S1 P : List Addr} {env env1 : En} {H H1 : Hp} {h h1 : Hh} {D' : Ends} {F F' W : Hp}
theorem RC.snoc {c : Ce} {p : Addr} {P : List Addr} : ∀ {h : Hh} {μ O : List Addr}, RC K F H h μ O → RQ K F H c p P → RC K F H (h ++ [c]) (μ ++ [p]) (O ++ P)
  | _, _, _, .nil, r => by simpa using RC.cons r .nil
  | _, _, _, .cons r0 t, r => by
    rw [List.append_assoc]
    exact RC.cons r0 (RC.snoc t r)
theorem RC.len : ∀ {h : Hh} {μ O : List Addr}, RC K F H h μ O → h.length = μ.length
  | _, _, _, .nil => rfl
  | _, _, _, .cons r0 t => by rw [List.length_cons, List.length_cons, RC.len t]
/-- y = e: what has come becomes a cell -/
def fSetH (i : Nat) (f : EF) : SF := fun env h => onE (f env h) fun a h1 => match a with
  | .ob c => .nx (env.set i (some (.loc h1.length))) (h1 ++ [c.ce])
  | _ => .er
theorem tS_setH {i : Nat} {f : EF} : tS K Γ E (fSetH i f) D' σ H → tAsg (tE K Γ E f) (gName i) D' σ H := fun hq =>
  tS_expr (k := fun a env h1 => match a with
    | .ob c => .nx (env.set i (some (.loc h1.length))) (h1 ++ [c.ce])
    | _ => .er) hq fun μ Oc B S env h a h1 v H1 μ1 Oc1 P s p go => by
    obtain ⟨v', ev, r⟩ := ras1 p.val
    cases ev
    cases r with
    | dat r => exact go.elim
    | sn r => exact go.elim
    | loc r => exact go.elim
    | scr r => exact go.elim
    | dc r => exact go.elim
    | zz => exact go.elim
    | @ob c q _ r =>
      obtain ⟨s1, g1⟩ := p.ssim s
      have sl := p.slots' s
      have n := p.nd
      have hm : ∀ x, x ∈ (Oc1 ++ P) ++ (B ++ S) ↔ x ∈ Oc1 ++ ((B ++ S) ++ P) := fun x => by simp only [List.mem_append, or_assoc, or_left_comm, or_comm]
      have e : Ex (mns H1 (Oc1 ++ ((B ++ S) ++ P))) (mns H1 ((Oc1 ++ P) ++ (B ++ S))) := mns_mono fun x hx => (hm x).mp hx
      have nd : ((Oc1 ++ P) ++ (B ++ S)).Nodup := nd_mk (nd_mk (nd_l n) (nd_r (nd_r n)) fun x a b => nd_ne n a (List.mem_append_right _ b)) (nd_l (nd_r n)) fun x a b => (List.mem_append.mp a).elim (fun z => nd_ne n z (List.mem_append_left _ b)) fun z => nd_ne (nd_r n) b z
      have pr : Pre μ1 (μ1 ++ [q]) := ⟨[q], rfl⟩
      have hl := p.cells.len
      refine go _ H1 (μ1 ++ [q]) (Oc1 ++ P) S ⟨⟨nd, (p.cells.mv e fun _ _ _ z => z).snoc (r.rq.mv e fun _ _ _ z => z), ?_, fun x hx => p.live x hx⟩, ⟨g1.keep, fun x hx => ?_, fun x hx => .inl hx, g1.dom, g1.pre.trans pr⟩⟩
      · rw [as3] at sl
        obtain ⟨Os, o1, o2, o3⟩ := sl
        obtain ⟨O', k1, k2, k3⟩ := (o3.mv e pr fun _ _ _ z => z).set i (a := .loc h1.length) (v := .ref q) (P := []) (.loc (by rw [hl]; simp))
        refine ⟨O', fun x hx => ?_, k3 o2 List.nodup_nil (fun _ z => absurd z List.not_mem_nil), k1⟩
        exact (k2 x hx).elim (o1 x) fun z => absurd z List.not_mem_nil
      · rcases List.mem_append.mp hx with z | z
        · exact g1.newO x z
        · exact .inr (.inr (p.fresh x z))
/-- y = x: what x owns goes to y -/
theorem RS.take : ∀ {F : Hp} {μ : List Addr} {env : En} {σ : L2.St} {O : List Addr} {j : Nat} {a : A}, RS K F H μ env σ O → env[j]? = some (some a) → ∃ v P O', σ[j]? = some (some v) ∧ RA K F F H μ a v P ∧ RS K F H μ (env.set j none) σ O' ∧ (∀ q ∈ P, q ∈ O) ∧ (∀ q ∈ O', q ∈ O) ∧ (O.Nodup → O'.Nodup ∧ P.Nodup ∧ ∀ q ∈ P, q ∉ O')
  | _, _, _, _, _, _, _, .nil, e => by simp at e
  | _, _, _, _, _, 0, _, .no t, e => by simp at e
  | _, _, _, _, _, 0, _, .so (P := P) (O := O) r t, e => by
    simp at e
    subst e
    exact ⟨_, P, O, rfl, r, .no t, fun q hq => List.mem_append_left _ hq, fun q hq => List.mem_append_right _ hq, fun n => ⟨nd_r n, nd_l n, fun q a b => nd_ne n a b⟩⟩
  | _, _, _, _, _, j + 1, _, .no t, e => by
    obtain ⟨v, P, O', k1, k2, k3, k4, k5, k6⟩ := RS.take (j := j) t (by simpa using e)
    exact ⟨v, P, O', by simpa using k1, k2, .no k3, k4, k5, k6⟩
  | _, _, _, _, _, j + 1, _, .so (P := P0) (O := O) r t, e => by
    obtain ⟨v, P, O', k1, k2, k3, k4, k5, k6⟩ := RS.take (j := j) t (by simpa using e)
    refine ⟨v, P, P0 ++ O', by simpa using k1, k2, .so r k3, fun q hq => List.mem_append_right _ (k4 q hq), fun q hq => (List.mem_append.mp hq).elim (List.mem_append_left _) fun z => List.mem_append_right _ (k5 q z), fun n => ?_⟩
    obtain ⟨m1, m2, m3⟩ := k6 (nd_r n)
    exact ⟨nd_mk (nd_l n) m1 fun q a b => nd_ne n a (k5 q b), m2, fun q a b => (List.mem_append.mp b).elim (fun z => nd_ne n z (k4 q a)) (m3 q a)⟩
def fMove (i j : Nat) : SF := fun env h => match env[j]? with
  | some (some a) => .nx ((env.set j none).set i (some a)) h
  | _ => .er
theorem tS_move {i j : Nat} : tS K Γ E (fMove i j) D' σ H → tAsg (tVar j) (gName i) D' σ H := by
  rintro ⟨μ, Oc, B, S, env, h, s, go⟩
  unfold fMove at go
  split at go
  · rename_i a ha
    obtain ⟨Os, o1, o2, o3⟩ := s.slots
    obtain ⟨v, P, O', k1, k2, k3, k4, k5, k6⟩ := o3.take ha
    obtain ⟨m1, m2, m3⟩ := k6 o2
    refine ⟨v, k1, ?_⟩
    obtain ⟨O2, l1, l2, l3⟩ := k3.set i k2
    refine go _ H μ Oc S ⟨⟨s.nd, s.cells, ⟨O2, fun q hq => ?_, l3 m1 m2 m3, l1⟩, s.live⟩, Gs.refl _ _ _ _⟩
    rcases l2 q hq with z | z
    · exact o1 q (k5 q z)
    · exact o1 q (k4 q z)
  · exact go.elim
/-- y = x: what x owns is frozen -/
def fMovF (i j : Nat) : SF := fun env h => match env[j]? with
  | some (some (.ob c)) => .nx ((env.set j none).set i (some (.dat c.toD))) h
  | _ => .er
theorem tS_movF {i j : Nat} : tS K Γ E (fMovF i j) D' σ H → tAsg (tVar j) (gName i) D' σ H := by
  rintro ⟨μ, Oc, B, S, env, h, s, go⟩
  unfold fMovF at go
  split at go
  · rename_i c ha
    obtain ⟨Os, o1, o2, o3⟩ := s.slots
    obtain ⟨v, P, O', k1, k2, k3, k4, k5, k6⟩ := o3.take ha
    obtain ⟨m1, m2, m3⟩ := k6 o2
    refine ⟨v, k1, ?_⟩
    cases k2 with
    | @ob _ p _ r =>
      let S' := S.filter fun q => decide (q ∉ P)
      have hS : ∀ q ∈ S', q ∈ S := fun q hq => (List.mem_filter.mp hq).1
      have hSP : ∀ q ∈ S', q ∉ P := fun q hq => by simpa using (List.mem_filter.mp hq).2
      have hO : ∀ q ∈ O', q ∈ S' := fun q hq => List.mem_filter.mpr ⟨o1 q (k5 q hq), by simpa using fun z => m3 q z hq⟩
      have hm : ∀ q, q ∈ Oc ++ (B ++ S') → q ∈ Oc ++ (B ++ S) := fun q hq => (List.mem_append.mp hq).elim (List.mem_append_left _) fun z => List.mem_append_right _ ((List.mem_append.mp z).elim (List.mem_append_left _) fun z => List.mem_append_right _ (hS q z))
      have e : Ex (mns H (Oc ++ (B ++ S))) (mns H (Oc ++ (B ++ S'))) := mns_mono hm
      have n := s.nd
      have nd : (Oc ++ (B ++ S')).Nodup := n.sublist (List.Sublist.append (List.Sublist.refl _) (List.Sublist.append (List.Sublist.refl _) List.filter_sublist))
      have hP : ∀ q ∈ P, q ∉ Oc ++ (B ++ S') := fun q hq z => by
        have q1 := o1 q (k4 q hq)
        rcases List.mem_append.mp z with z | z
        · exact nd_ne n z (List.mem_append_right _ q1)
        · rcases List.mem_append.mp z with z | z
          · exact nd_ne (nd_r n) z q1
          · exact hSP q z hq
      have dq := r.frz e fun q hq o z => mns_some.mpr ⟨hP q hq, z⟩
      obtain ⟨O2, l1, l2, l3⟩ := (k3.mv e (Pre.refl _) fun _ _ _ z => z).set i (P := []) (.dat dq)
      refine go _ H μ Oc S' ⟨⟨nd, s.cells.mv e fun _ _ _ z => z, ⟨O2, fun q hq => ?_, l3 m1 List.nodup_nil fun _ z => absurd z List.not_mem_nil, l1⟩, fun q hq => s.live q ((List.mem_append.mp hq).elim (List.mem_append_left _) fun z => List.mem_append_right _ (hS q z))⟩, ⟨fun _ _ _ _ z => z, fun q z => .inl z, fun q z => .inl (hS q z), fun _ z => z, Pre.refl _⟩⟩
      exact (l2 q hq).elim (hO q) fun z => absurd z List.not_mem_nil
  · exact go.elim
/-- from here on what a name owns is frozen -/
def fFrz (i : Nat) (f : SF) : SF := fun env h => match env[i]? with
  | some (some (.ob c)) => f (env.set i (some (.dat c.toD))) h
  | _ => f env h
theorem set_same {α : Type} : ∀ {l : List α} {i : Nat} {a : α}, l[i]? = some a → l.set i a = l
  | [], _, _, e => by simp at e
  | b :: l, 0, a, e => by simp at e; subst e; rfl
  | b :: l, i + 1, a, e => by
    have := set_same (l := l) (i := i) (a := a) (by simpa using e)
    rw [List.set_cons_succ, this]
theorem tS_frz {i : Nat} {f : SF} : tS K Γ E (fFrz i f) D' σ H → tS K Γ E f D' σ H := by
  rintro ⟨μ, Oc, B, S, env, h, s, go⟩
  unfold fFrz at go
  split at go
  · rename_i c ha
    obtain ⟨Os, o1, o2, o3⟩ := s.slots
    obtain ⟨v, P, O', k1, k2, k3, k4, k5, k6⟩ := o3.take ha
    obtain ⟨m1, m2, m3⟩ := k6 o2
    cases k2 with
    | @ob _ p _ r =>
      let S' := S.filter fun q => decide (q ∉ P)
      have hS : ∀ q ∈ S', q ∈ S := fun q hq => (List.mem_filter.mp hq).1
      have hSP : ∀ q ∈ S', q ∉ P := fun q hq => by simpa using (List.mem_filter.mp hq).2
      have hO : ∀ q ∈ O', q ∈ S' := fun q hq => List.mem_filter.mpr ⟨o1 q (k5 q hq), by simpa using fun z => m3 q z hq⟩
      have hm : ∀ q, q ∈ Oc ++ (B ++ S') → q ∈ Oc ++ (B ++ S) := fun q hq => (List.mem_append.mp hq).elim (List.mem_append_left _) fun z => List.mem_append_right _ ((List.mem_append.mp z).elim (List.mem_append_left _) fun z => List.mem_append_right _ (hS q z))
      have e : Ex (mns H (Oc ++ (B ++ S))) (mns H (Oc ++ (B ++ S'))) := mns_mono hm
      have n := s.nd
      have nd : (Oc ++ (B ++ S')).Nodup := n.sublist (List.Sublist.append (List.Sublist.refl _) (List.Sublist.append (List.Sublist.refl _) List.filter_sublist))
      have hP : ∀ q ∈ P, q ∉ Oc ++ (B ++ S') := fun q hq z => by
        have q1 := o1 q (k4 q hq)
        rcases List.mem_append.mp z with z | z
        · exact nd_ne n z (List.mem_append_right _ q1)
        · rcases List.mem_append.mp z with z | z
          · exact nd_ne (nd_r n) z q1
          · exact hSP q z hq
      have dq := r.frz e fun q hq o z => mns_some.mpr ⟨hP q hq, z⟩
      obtain ⟨O2, l1, l2, l3⟩ := (k3.mv e (Pre.refl _) fun _ _ _ z => z).set i (P := []) (.dat dq)
      rw [set_same k1, List.set_set] at l1
      have g : Gs Oc S H μ Oc S' H μ := ⟨fun _ _ _ _ z => z, fun q z => .inl z, fun q z => .inl (hS q z), fun _ z => z, Pre.refl _⟩
      refine ⟨μ, Oc, B, S', _, h, ⟨nd, s.cells.mv e fun _ _ _ z => z, ⟨O2, fun q hq => ?_, l3 m1 List.nodup_nil fun _ z => absurd z List.not_mem_nil, l1⟩, fun q hq => s.live q ((List.mem_append.mp hq).elim (List.mem_append_left _) fun z => List.mem_append_right _ (hS q z))⟩, GoS.step g go⟩
      exact (l2 q hq).elim (hO q) fun z => absurd z List.not_mem_nil
  · exact ⟨μ, Oc, B, S, env, h, s, go⟩
end
section
variable {X : Cx} {Γ : Nat → Addr} {E : XK} {pos : Pos} {e : Expr} {fe : EF}
theorem s_frz (i : Nat) {st : Stmt} {f : SF} (hs : PS X st (tS X.K Γ E f)) : PS X st (tS X.K Γ E (fFrz i f)) := ps_imp hs fun _ _ _ => tS_frz
theorem s_movF (i j : Nat) {x y : Str} {pos' p2 : Pos} (hN : X.N.Nodup) (hi : X.N[i]? = some x := by rfl) (hj : X.N[j]? = some y := by rfl) (hv : Vis X.env.scope y := by first | exact Or.inl rfl | exact Or.inr (Or.inl rfl) | exact Or.inr (Or.inr rfl)) (hd : (y == ("__debug__" : Str)) = false := by decide) (hcd : (y == ("__classdict__" : Str)) = false := by decide)
    (hx : Loc X.env.scope x := by first | exact Or.inl rfl | exact Or.inr rfl) (hs : swapsWith (.Name y p2) (some (.Name x pos')) pos.line X.env = pure false := by rfl) (hf : X.fn x = true ∨ X.env.scope.names.lookup x = some .local := by first | exact .inl rfl | exact .inr rfl | assumption) :
    PS X (.Assign [.Name x pos'] (.Name y p2) pos) (tS X.K Γ E (fMovF i j)) := ps_imp (ps_set hN hi hx (pe_var hj hv hd hcd) hs hf) fun _ _ _ => tS_movF
theorem s_setH (i : Nat) {x : Str} {pos' : Pos} (hN : X.N.Nodup) (he : PE X e (tE X.K Γ E fe)) (hi : X.N[i]? = some x := by rfl) (hx : Loc X.env.scope x := by first | exact Or.inl rfl | exact Or.inr rfl) (hs : swapsWith e (some (.Name x pos')) pos.line X.env = pure false := by rfl) (hf : X.fn x = true ∨ X.env.scope.names.lookup x = some .local := by first | exact .inl rfl | exact .inr rfl | assumption) :
    PS X (.Assign [.Name x pos'] e pos) (tS X.K Γ E (fSetH i fe)) := ps_imp (ps_set hN hi hx he hs hf) fun _ _ _ => tS_setH
theorem s_move (i j : Nat) {x y : Str} {pos' p2 : Pos} (hN : X.N.Nodup) (hi : X.N[i]? = some x := by rfl) (hj : X.N[j]? = some y := by rfl) (hv : Vis X.env.scope y := by first | exact Or.inl rfl | exact Or.inr (Or.inl rfl) | exact Or.inr (Or.inr rfl)) (hd : (y == ("__debug__" : Str)) = false := by decide) (hcd : (y == ("__classdict__" : Str)) = false := by decide)
    (hx : Loc X.env.scope x := by first | exact Or.inl rfl | exact Or.inr rfl) (hs : swapsWith (.Name y p2) (some (.Name x pos')) pos.line X.env = pure false := by rfl) (hf : X.fn x = true ∨ X.env.scope.names.lookup x = some .local := by first | exact .inl rfl | exact .inr rfl | assumption) :
    PS X (.Assign [.Name x pos'] (.Name y p2) pos) (tS X.K Γ E (fMove i j)) := ps_imp (ps_set hN hi hx (pe_var hj hv hd hcd) hs hf) fun _ _ _ => tS_move
end
/-! ### xs.count(k) -/
def rCnt (K : PySem.W.Frag) : V → List V → Hp → VK → Prop := fun x vs H Q => ∃ (a : Addr) (ns : List Int) (k : Int), x = .ref a ∧ vs = [.int k] ∧ SqL K H a (ns.map V.int) ∧ Q (.int (ns.count k : Nat)) H
theorem mt_count {X : Cx} : MtR X "list.count" (rCnt X.K) := by
  intro pins s σ H x xs v us Q I rx rxs h
  obtain ⟨a, ns, k, rfl, rfl, hs, q⟩ := h
  cases rx
  cases rxs with
  | cons ry rt =>
    cases rt
    obtain ⟨t, rfl⟩ := ry
    obtain ⟨its, rv, ⟨o, n, ho, hc, hdn, hd⟩, hlen⟩ := I.list hs
    exact count_list_ints ⟨o, ho, hc, n, hd⟩ rv.ints ⟨.int (ns.count k : Nat), H, I.tok _, ⟨_, rfl⟩, q⟩
def gCnt (a b : A) : Option A := a.lst.bind fun ds => (asInts ds).bind fun ns => match b.d with
  | some (.int k) => some (.dat (.int (ns.count k : Nat)))
  | _ => none
def fCount (f g : EF) : EF := fun env h => (f env h).bind fun a h1 => if a.lst.isSome then (g env h1).bind fun b h2 => optR (gCnt a b) h2 else .er
section
variable {K : PySem.W.Frag} {Γ : Nat → Addr} {E : XK} {σ : L2.St} {H F : Hp}
theorem tE_count {f g : EF} {Q : VK} : tE K Γ E (fCount f g) σ H Q → tBM K "list" (rCnt K) (tE K Γ E f) (tA K Γ E (fCons g fNil)) σ H Q := by
  rintro ⟨μ, Oc, T, env, h, s, go⟩
  refine ⟨μ, Oc, T, env, h, s, ?_⟩
  unfold fCount at go
  cases hf : f env h with
  | er => rw [hf] at go; exact go
  | exc c h1 => rw [hf] at go; exact go
  | ok a h1 =>
    rw [hf] at go
    simp only [Res.bind] at go
    intro v H1 μ1 Oc1 P1 p
    cases hq : a.lst with
    | none => rw [hq] at go; exact go.elim
    | some ds =>
      rw [hq] at go
      simp only [Option.isSome_some, if_true] at go
      obtain ⟨v', ev, r⟩ := ras1 p.val
      cases ev
      obtain ⟨q, ws, rfl, e1, e2⟩ := r.itemsL hq
      refine ⟨.inl ⟨rfl, ws, .of e1⟩, ?_⟩
      refine ⟨μ1, Oc1, T ++ P1, env, h1, p.sim, ?_⟩
      unfold fCons
      cases hg : g env h1 with
      | er => simp only [hg] at go; exact go.elim
      | exc c h2 => simp only [hg] at go; exact PsX.step p go
      | ok b h2 =>
        simp only [hg] at go
        intro vs H2 μ2 Oc2 P2 p2
        obtain ⟨w, ew, rw'⟩ := ras1 p2.val
        subst ew
        have pp := p.app p2
        unfold gCnt at go
        rw [hq] at go
        simp only [Option.bind_some] at go
        cases hn : asInts ds with
        | none => rw [hn] at go; exact go.elim
        | some ns =>
          rw [hn] at go
          simp only [Option.bind_some] at go
          split at go
          · rename_i k hb
            obtain ⟨v2, w2, P3, P4, ev2, r1, r2, _⟩ := ras2 pp.val
            cases ev2
            obtain ⟨q2, ws2, eq2, e3, e4⟩ := r1.itemsL hq
            cases eq2
            have dw := r2.dp exFH exFW exWH hb
            cases dw
            rw [asInts_eq hn] at e4
            rw [dqs_ints e4] at e3
            exact ⟨q, ns, k, rfl, rfl, .of e3, go _ H2 μ2 Oc2 [] (pp.prim (Ex.refl _) (fun _ z => absurd z List.not_mem_nil) List.nodup_nil (.dat (.int _)))⟩
          · exact go.elim
end
section
variable {X : Cx} {Γ : Nat → Addr} {E : XK} {apos cpos : Pos}
theorem e_count {o e : Expr} {f g : EF} (ho : PE X o (tE X.K Γ E f)) (he : PE X e (tE X.K Γ E g))
    (hs1 : starEach [e] X.env = (false, eval e X.env) :: starEach [] X.env := by rfl)
    (hbase : attributeBase o "count" X.env (eval o X.env) = eval o X.env := by rfl)
    (hfew : ((backTo cpos (starEach [e] X.env)).all (fun x => !x.1) && (backToKw cpos (keywordEach [] X.env)).all (fun x => x.1.isSome)
      && decide ([e].length + ([] : List Keyword).length + (if ([] : List Keyword).isEmpty then 0 else 1) < 30)) = true := by rfl)
    (hline : (apos.endLine == cpos.line) = true := by rfl) : PE X (.Call (.Attribute o "count" apos) [e] [] cpos) (tE X.K Γ E (fCount f g)) :=
  pe_imp (pe_bm PySem.F.plainAttrs_list PySem.F.slot_list_count PySem.F.type_list_count mt_count ho (a_cons he a_nil hs1) hbase hfew hline hs1 rfl) fun _ _ _ => tE_count
end
/-! ### the law, asked with its script -/
theorem fn_scr {P : Program} {w : World} {K : PySem.W.Frag} {mg : Str → Option Value} {base : Heap} {Γ : Nat → Addr} {CX : CXT} {k : Nat} {f : Addr} {fd : FuncData} {F : FF} (hl : ∀ ns : List Int, ns.length ≤ 63 → ∃ h', F [.scr ns] [] = .ok (.dat (.bool true)) h')
    (G : FnOk P w K mg base CX k f fd ["script"] (spF K Γ 1 F)) : FnOk P w K mg base CX k f fd ["script"] (fun vs H Q _ => ∃ (a : Addr) (ns : List Int), vs = [.ref a] ∧ SqL K H a (ns.map V.int) ∧ ns.length ≤ 63 ∧ ∀ H', Q (.bl true) H') := by
  refine G.imp fun vs H Q E h => ?_
  obtain ⟨a, ns, rfl, hS, hn, q⟩ := h
  obtain ⟨h', e⟩ := hl ns hn
  have ex : Ex H (mns H ([] ++ [])) := fun x o z => mns_some.mpr ⟨by simp, z⟩
  refine ⟨rfl, [], [], [], [.scr ns], [], by simp, .nil, RAs.cons (P := []) (P' := []) (.scr (ex_sqL ex hS)) .nil, fun q hq => absurd hq List.not_mem_nil, ?_⟩
  rw [e]
  intro v H' μ' Oc' P' _ _ _ _ r
  cases r with
  | dat r => cases r; exact q _
end Mi
/-! Mini: enumerate and zip, over lists and tuples alike. -/
namespace Mi
open PySem L2 PySem.Spec PyProof.Rows
/-- a list (true) or a tuple (false) -/
def SqB (K : PySem.W.Frag) (b : Bool) (H : Hp) (a : Addr) (xs : List V) : Prop := if b then SqL K H a xs else SqT K H a xs
def IsB (b : Bool) (h : Heap) (a : Addr) (its : Array Value) : Prop := if b then h.IsList a its else h.IsTuple a its
def ItB (b : Bool) (h : Heap) (it a : Addr) (i : Nat) : Prop := if b then h.IsListIter it a i else h.IsTupleIter it a i
def newB (b : Bool) (a : Addr) : Obj := { cls := .type (if b then "list_iterator" else "tuple_iterator"), data := .fields #[.ref a, .int 0 0] }
section
variable {P : Program} {w : World} {A : Around} {K : PySem.W.Frag} {X : Cx} {pins : List (Addr × Obj)} {s : Shared} {σ : L2.St} {H : Hp}
theorem seqB {b : Bool} {a : Addr} {xs : List V} (I : Inv X pins σ H s) (h : SqB X.K b H a xs) : ∃ its : List Value, Vals xs its ∧ IsB b s.heap a its.toArray := by
  cases b with
  | true => obtain ⟨its, rv, p, _⟩ := I.list h; exact ⟨its, rv, p.isList⟩
  | false => obtain ⟨its, rv, p, _⟩ := I.tuple h; exact ⟨its, rv, p⟩
theorem sqB_inj {b : Bool} {a : Addr} {xs ys : List V} (I : Inv X pins σ H s) (h : SqB X.K b H a xs) (g : SqB X.K b H a ys) : xs = ys := by
  cases b with
  | true => exact I.list_inj h g
  | false => exact I.tuple_inj h g
theorem drawsB (hh : A.handled = none) (b : Bool) (it l : Addr) (hne : l ≠ it) (items : Array Value) : Draws P w A it [it, l] items.size (fun i v => items[i]? = some v) (fun i h => ItB b h it l i ∧ IsB b h l items) := by
  cases b with
  | true => exact Draws.list hh it l hne items
  | false => exact Draws.tuple hh it l hne items
theorem beginsB (b : Bool) (a : Addr) (items : Array Value) : Begins (.ref a) (newB b a) fun h => IsB b h a items := by
  cases b with
  | true => exact begins_list a items
  | false => exact begins_tuple a items
theorem itB_obj {b : Bool} {h : Heap} {it a : Addr} {i : Nat} (q : ItB b h it a i) : ∃ o, h.get? it = some o ∧ ∀ v, o.data ≠ .cell v := by
  cases b with
  | true => obtain ⟨o, e1, _, d1⟩ := q; exact ⟨o, e1, fun v z => by rw [d1] at z; cases z⟩
  | false => obtain ⟨o, e1, _, d1⟩ := q; exact ⟨o, e1, fun v z => by rw [d1] at z; cases z⟩
theorem itB_at {b : Bool} {h h' : Heap} {it a : Addr} {i : Nat} (q : ItB b h it a i) (k : ∀ o, h.get? it = some o → h'.get? it = some o) : ItB b h' it a i := by
  cases b with
  | true => exact Heap.IsListIter.at q k
  | false => exact Heap.IsTupleIter.at q k
theorem itB_new {b : Bool} {h : Heap} {it a : Addr} (q : h.get? it = some (newB b a)) : ItB b h it a 0 := by
  cases b with
  | true => exact ⟨_, q, rfl, rfl⟩
  | false => exact ⟨_, q, rfl, rfl⟩
theorem drawsEnd (hh : A.handled = none) (b : Bool) (it l : Addr) (n : Nat) (items : Array Value) (hx : items[n]? = none) : Draws P w A it [it, l] n (fun _ _ => False) (fun i h => i = n ∧ ItB b h it l n ∧ IsB b h l items) where
  live := fun _ _ st => by obtain ⟨o, e, _⟩ := itB_obj st.2.1; exact ⟨o, e⟩
  frame := fun _ _ _ st hk => ⟨st.1, itB_at st.2.1 fun o e => hk it (by simp) o e, by
    have k := st.2.2
    cases b with
    | true => exact Heap.IsList.at k fun o e => hk l (by simp) o e
    | false => exact Heap.IsTuple.at k fun o e => hk l (by simp) o e⟩
  item := fun i s Q E hi st hQ => absurd st.1 (by omega)
  done := fun s Q E st hE => by
    have k1 := st.2.1
    have k2 := st.2.2
    cases b with
    | true => exact wpAny_nextOf_list_end hh k1 k2 hx hE
    | false => exact wpAny_nextOf_tuple_end hh k1 k2 hx hE
/-! ### enumerate -/
set_option maxHeartbeats 1000000 in
theorem enum_new {v : Value} {o : Obj} {Hh' : Heap → Prop} (B : Begins v o Hh') :
    Meets (Builtin.«enumerate.__new__» ⟨[.type "enumerate", v], []⟩) (fun _ R s => Hh' s.heap ∧
      R (.ok (.ret (.ref (s.heap.push o).objs.size))) { s with heap := (s.heap.push o).push { cls := .type "enumerate", data := .fields #[.none, .bool false, .ref s.heap.objs.size, rawInt 0, .none, .none] } }) :=
  .of_wp fun prog w A R s h => by
    obtain ⟨hp, g, d, tk, os⟩ := s; obtain ⟨hB, h⟩ := h
    have hsub := sub_enumerate
    have qB : ∀ {A' : Around} {E : Value → Shared → Prop} {Q : Value → Shared → Prop}, Q (.ref hp.objs.size) ⟨hp.push o, g, d, tk, os⟩ → wpAny (model prog w) A' (pyIter v) Q E ⟨hp, g, d, tk, os⟩ :=
      fun q => B.iter prog w _ _ ⟨hp, g, d, tk, os⟩ _ hB q
    wp_walk using qB
    refine wpAny_stack_any fun st => wpAny_pure ?_
    split
    · rename_i c _ _ _ _ _
      cases (c == Value.type "enumerate")
      · wp_walk using qB
        exact ⟨_, rfl, h⟩
      · wp_walk using qB
        exact ⟨_, rfl, h⟩
    · wp_walk using qB
      exact ⟨_, rfl, h⟩
theorem enum_call {v : Value} {o : Obj} {Hh' : Heap → Prop} {E : Value → Shared → Prop} {Q : Value → Shared → Prop} (B : Begins v o Hh') (hB : Hh' s.heap)
    (h : ∀ h', IsEnum h' (s.heap.objs.size + 1) s.heap.objs.size 0 .none → h'.get? s.heap.objs.size = some o → h'.objs.size = s.heap.objs.size + 2 → (∀ b o, s.heap.get? b = some o → h'.get? b = some o) → Q (.ref (s.heap.objs.size + 1)) { s with heap := h' }) :
    wpAny (model P w) A (call (.type "enumerate") [v]) Q E s := by
  refine callType_new F.called_enumerate (by decide) (F.typeCall_enumerate_1 _) (F.newCall_enumerate_1 _) (fun obj => F.args_object_init_2 obj _) F.entry_enumerate_new (enum_new B) ⟨hB, ?_⟩
  have zz : (s.heap.push o).objs.size = s.heap.objs.size + 1 := Heap.size_push ..
  show _ ∧ _
  rw [zz]
  have he : IsEnum ((s.heap.push o).push { cls := .type "enumerate", data := .fields #[.none, .bool false, .ref s.heap.objs.size, rawInt 0, .none, .none] }) (s.heap.objs.size + 1) s.heap.objs.size 0 .none := by
    have q := Heap.get?_push_size (s.heap.push o) (o := { cls := .type "enumerate", data := .fields #[.none, .bool false, .ref s.heap.objs.size, rawInt 0, .none, .none] }) rfl
    rw [zz] at q
    exact q
  exact ⟨⟨_, he, rfl⟩, h _ he (Heap.get?_push_of_some _ (Heap.get?_push_size _ B.free)) (by rw [Heap.size_push, zz]) fun b o x => Heap.get?_push_of_some _ (Heap.get?_push_of_some _ x)⟩
def IteB (K : PySem.W.Frag) (b : Bool) (a : Addr) : It :=
  ⟨fun i H => ∃ (xs : List V) (x : V), SqB K b H a xs ∧ xs[i]? = some x, fun i H v H' => ∃ T x, v = .ref T ∧ H T = none ∧ H' = upd H T (.tup [.int (i : Nat), x]) ∧ ∀ xs, SqB K b H a xs → xs[i]? = some x, fun i H => ∃ xs : List V, SqB K b H a xs ∧ xs.length ≤ i⟩
theorem turn_enumB {elts : List Expr} {kk : Nat} {tpos : Pos} (b : Bool) (a e it : Addr) (ha : a ≠ it) (hae : a ≠ e) :
    Turn P w K (.Tuple elts kk tpos) (IteB K b a) [e, it] e (fun i h => (∃ old, IsEnum h e it ((i : Nat) : Int) old) ∧ ItB b h it a i ∧ e ≠ it) where
  mem := by simp
  obj := fun i h st c hc => by
    obtain ⟨⟨old, he⟩, hI, _⟩ := st
    have e' : c = e ∨ c = it := by simpa using hc
    rcases e' with z | z
    · rw [z]; exact ⟨_, he, fun v q => nomatch q⟩
    · rw [z]; exact itB_obj hI
  keep := fun i h h' st k => let ⟨⟨old, he⟩, hi, hne⟩ := st; ⟨⟨old, k e (by simp) _ he⟩, itB_at hi fun o q => k it (by simp) o q, hne⟩
  item := by
    intro X hP hw hK hc i pins s σ H E I hf st hg
    subst hP hw hK
    obtain ⟨⟨old, he⟩, hI, hne⟩ := st
    obtain ⟨xs, x, hq, hx⟩ := hg
    obtain ⟨its, rv, p⟩ := seqB I hq
    obtain ⟨u, hu, ru⟩ := rv.get hx
    have hel : e < s.heap.objs.size := Heap.lt_size he
    have hil : it < s.heap.objs.size := by obtain ⟨_, q, _⟩ := itB_obj hI; exact Heap.lt_size q
    have hul : i < its.toArray.size := by simpa using (List.getElem?_eq_some_iff.mp hu).1
    refine wpAny_pyNext_enum_itemD (drawsB (A := X.A.in1) (show X.A.in1.handled = none from I.ok.hd hc) b it a ha its.toArray) he ⟨hI, p⟩ hul hne (by simp [hne, Ne.symm hae]) fun y h' tk hy ho hit' hT hsz hk => ?_
    have ey : y = u := by
      have h1 : its.toArray[i]? = some u := by simpa using hu
      rw [h1] at hy
      exact (Option.some.inj hy).symm
    subst ey
    refine ⟨_, rfl, wpAny_letOwnedTupleGo_enum (s := { s with heap := h', toks := tk + 1 }) ho fun h'' he' sb => ?_⟩
    have hT2 : h''.get? s.heap.objs.size = some { cls := .type "tuple", data := .seq #[.int i tk, y] } := (sb.2 _ (Nat.ne_of_gt hel)).trans hT
    have nw : ObjOk X.prog X.w (upd H s.heap.objs.size (.tup [.int (i : Nat), x])) h'' s.heap.objs.size (.tup [.int (i : Nat), x]) :=
      ⟨by show 2 ≤ sizeLine; decide, [.int i tk, y], .cons ⟨_, rfl⟩ (.cons ru .nil), ⟨_, hT2, rfl, _, rfl⟩⟩
    have I1 : Inv X pins σ (upd H s.heap.objs.size (.tup [.int (i : Nat), x])) { s with heap := h'', toks := tk + 1 } :=
      I.turnedNew (ch := [e, it]) (fun c ob hb q => (sb.2 c (fun z => hb (by simp [z]))).trans (hk c ob (fun z => hb (by simp [z])) (fun z => hb (by simp [z])) q)) hf (Nat.le_refl _) nw
    refine ⟨.ref s.heap.objs.size, _, I1, rfl, ⟨_, x, rfl, I.hok.fresh (Nat.le_refl _), rfl, fun ys hy => by rw [sqB_inj I hy hq]; exact hx⟩, ⟨⟨y, ?_⟩, itB_at hit'.1 fun o q => (sb.2 it (Ne.symm hne)).trans q, hne⟩, fun c hb => ?_⟩
    · have e1 : ((i + 1 : Nat) : Int) = (i : Int) + 1 := by omega
      rw [e1]; exact he'
    · have hb' : c < s.heap.objs.size := by
        have e' : c = e ∨ c = it := by simpa using hb
        rcases e' with z | z
        · rw [z]; exact hel
        · rw [z]; exact hil
      rw [upd_ne (Nat.ne_of_lt hb')]
      exact (hf c hb).1
  done := by
    intro X hP hw hK hc i pins s σ H E I hf st hg
    subst hP hw hK
    obtain ⟨⟨old, he⟩, hI, hne⟩ := st
    obtain ⟨xs, hq, hx⟩ := hg
    obtain ⟨its, rv, p⟩ := seqB I hq
    obtain ⟨f0, f1, f2, f3, f4, f5⟩ := hf it (by simp)
    have hl := rv.length
    have hn : its.toArray[i]? = none := by simp; omega
    exact wpAny_pyNext_enum_endD (drawsEnd (A := X.A.in1) (show X.A.in1.handled = none from I.ok.hd hc) b it a i its.toArray hn) he ⟨rfl, hI, p⟩ fun h' eb => ⟨rfl, I.turned (t' := s.toks) (fun c o hb q => eb c o hb q) f0 f1 f3 f4 f5⟩
  self := fun A i s Q E st h => let ⟨⟨_, he⟩, _⟩ := st; wpAny_pyIter_enum he h
def iEnumB (K : PySem.W.Frag) (ta : TA) : TI := fun σ H R => ta σ H fun vs H1 => ∃ b a xs, vs = [.ref a] ∧ SqB K b H1 a xs ∧ R (IteB K b a) H1
theorem isB_lt {b : Bool} {h : Heap} {a : Addr} {its : Array Value} (q : IsB b h a its) : a < h.objs.size := by
  cases b with
  | true => obtain ⟨o, e, _⟩ := q; exact Heap.lt_size e
  | false => obtain ⟨o, e, _⟩ := q; exact Heap.lt_size e
theorem pi_enumB {e : Expr} {ta : TA} {p pos tpos : Pos} {elts : List Expr} {kk : Nat} (hg : Gl X "enumerate") (hm : X.mg "enumerate" = none) (ha : PA X [e] ta) (hs : starEach [e] X.env = [(false, eval e X.env)] := by rfl) :
    PI X (.Tuple elts kk tpos) (.Call (.Name "enumerate" p) [e] [] pos) (iEnumB X.K ta) := by
  refine ⟨fun pins s σ H R I h => ?_⟩
  refine Call_ (ld_blt I hg hm boot_enumerate (PyProof.Rows.callWith_type1 (thn (ha.run pos pins s σ H _ I h) fun us s1 ⟨vs, H1, I1, r1, q1⟩ => ?_) hs rfl))
  obtain ⟨b, a, xs, ex, hq, q⟩ := q1
  subst ex
  cases r1 with
  | cons r rr =>
    cases rr
    cases r
    obtain ⟨its, rv, pB⟩ := seqB I1 hq
    have hlt := isB_lt pB
    refine enum_call (beginsB b a its.toArray) pB fun h' he hit hsz hk => wpAny_pyIter_enum he ?_
    have I2 : Inv X pins σ H1 { s1 with heap := h' } := I1.kept (t' := s1.toks) hk
    refine ⟨s1.heap.objs.size + 1, [s1.heap.objs.size + 1, s1.heap.objs.size], _, _, H1, rfl, I2, turn_enumB b a (s1.heap.objs.size + 1) s1.heap.objs.size (Nat.ne_of_lt hlt) (Nat.ne_of_lt (Nat.lt_succ_of_lt hlt)), ⟨⟨.none, he⟩, itB_new hit, Nat.succ_ne_self _⟩, fun c hb => ?_, q⟩
    have e' : c = s1.heap.objs.size + 1 ∨ c = s1.heap.objs.size := by simpa using hb
    have hle : s1.heap.objs.size ≤ c := by
      rcases e' with z | z
      · rw [z]; exact Nat.le_add_right _ _
      · rw [z]; exact Nat.le_refl _
    exact I1.fpOk hle (I1.hok.fresh hle)
/-! ### zip -/
def ItzB (K : PySem.W.Frag) (b1 b2 : Bool) (a b : Addr) : It :=
  ⟨fun i H => ∃ (xs ys : List V) (x y : V), SqB K b1 H a xs ∧ SqB K b2 H b ys ∧ xs[i]? = some x ∧ ys[i]? = some y,
    fun i H v H' => ∃ T x y, v = .ref T ∧ H T = none ∧ H' = upd H T (.tup [x, y]) ∧ (∀ xs, SqB K b1 H a xs → xs[i]? = some x) ∧ ∀ ys, SqB K b2 H b ys → ys[i]? = some y,
    fun i H => ∃ xs ys : List V, SqB K b1 H a xs ∧ SqB K b2 H b ys ∧ (xs.length ≤ i ∨ ys.length ≤ i)⟩
theorem apart_sep {z TI TO i1 i2 a b : Addr} (D : ZipApart z TI TO i1 i2 a b) : ZipSep2 z TI TO i1 i2 [i1, a] [i2, b] where
  TIz := D.TIz
  TOz := D.TOz
  TITO := D.TITO
  TIi1 := D.TIi1
  mem1 := by simp
  zf1 := by simp [Ne.symm D.i1z, Ne.symm D.l1z]
  Tf1 := by simp [D.TOi1, Ne.symm D.l1TO]
  TIi2 := D.TIi2
  mem2 := by simp
  zf2 := by simp [Ne.symm D.i2z, Ne.symm D.l2z]
  Tf2 := by simp [D.TOi2, Ne.symm D.l2TO]
  sep1_2 := by simp [D.i12, Ne.symm D.l2i1]
  sep2_1 := by simp [Ne.symm D.i12, Ne.symm D.l1i2]
theorem zip_end {z TI TO i1 i2 a b : Addr} {b1 b2 : Bool} {i : Nat} {u v : Value} {xs ys : Array Value} {E : Value → Shared → Prop} {Q : Option Value → Shared → Prop} (hh : A.in1.handled = none) (D : ZipApart z TI TO i1 i2 a b)
    (hz : IsZip s.heap z TI TO .none) (hTI : IsTupOf2 s.heap TI (.ref i1) (.ref i2)) (hTO : IsTupOf2 s.heap TO u v) (s1 : ItB b1 s.heap i1 a i) (s2 : ItB b2 s.heap i2 b i) (p1 : IsB b1 s.heap a xs) (p2 : IsB b2 s.heap b ys) (he : xs[i]? = none ∨ ys[i]? = none)
    (hQ : ∀ h' tk, (∀ c o, c ≠ z → c ≠ TO → c ≠ i1 → c ≠ i2 → s.heap.get? c = some o → h'.get? c = some o) → Q none { s with heap := h', toks := tk }) : wpAny (model P w) A (pyNext (.ref z)) Q E s := by
  by_cases h1 : xs[i]? = none
  · by_cases h2 : ys[i]? = none
    · exact wpAny_pyNext_zipD2_end (apart_sep D) (drawsEnd hh b1 i1 a i xs h1) (drawsEnd hh b2 i2 b i ys h2) hz hTI hTO ⟨rfl, s1, p1⟩ ⟨rfl, s2, p2⟩ (Nat.le_refl _) (Nat.le_refl _) (.inl rfl) hQ
    · have hl : i ≤ ys.size := Nat.le_of_lt (by simpa using h2)
      exact wpAny_pyNext_zipD2_end (apart_sep D) (drawsEnd hh b1 i1 a i xs h1) (drawsB hh b2 i2 b D.l2i2 ys) hz hTI hTO ⟨rfl, s1, p1⟩ ⟨s2, p2⟩ (Nat.le_refl _) hl (.inl rfl) hQ
  · have h2 := he.resolve_left h1
    have hl : i ≤ xs.size := Nat.le_of_lt (by simpa using h1)
    exact wpAny_pyNext_zipD2_end (apart_sep D) (drawsB hh b1 i1 a D.l1i1 xs) (drawsEnd hh b2 i2 b i ys h2) hz hTI hTO ⟨s1, p1⟩ ⟨rfl, s2, p2⟩ hl (Nat.le_refl _) (.inr rfl) hQ
theorem turn_zipB {elts : List Expr} {kk : Nat} {tpos : Pos} (b1 b2 : Bool) {a b z TI TO i1 i2 : Addr} (D : ZipApart z TI TO i1 i2 a b) :
    Turn P w K (.Tuple elts kk tpos) (ItzB K b1 b2 a b) [z, TI, TO, i1, i2] z (fun i h => IsZip h z TI TO .none ∧ IsTupOf2 h TI (.ref i1) (.ref i2) ∧ (∃ x y, IsTupOf2 h TO x y) ∧ ItB b1 h i1 a i ∧ ItB b2 h i2 b i) where
  mem := by simp
  obj := fun i h st c hc => by
    obtain ⟨hz, hTI, ⟨x, y, hTO⟩, s1, s2⟩ := st
    have e' : c = z ∨ c = TI ∨ c = TO ∨ c = i1 ∨ c = i2 := by simpa using hc
    rcases e' with q | q | q | q | q
    · rw [q]; exact ⟨_, hz, fun v q => nomatch q⟩
    · rw [q]; exact ⟨_, hTI, fun v q => nomatch q⟩
    · rw [q]; exact ⟨_, hTO, fun v q => nomatch q⟩
    · rw [q]; exact itB_obj s1
    · rw [q]; exact itB_obj s2
  keep := fun i h h' st k => by
    obtain ⟨hz, hTI, ⟨x, y, hTO⟩, s1, s2⟩ := st
    exact ⟨k z (by simp) _ hz, k TI (by simp) _ hTI, ⟨x, y, k TO (by simp) _ hTO⟩, itB_at s1 fun o q => k i1 (by simp) o q, itB_at s2 fun o q => k i2 (by simp) o q⟩
  item := by
    intro X hP hw hK hc i pins s σ H E I hf st hg
    subst hP hw hK
    obtain ⟨hz, hTI, ⟨x0, y0, hTO⟩, s1, s2⟩ := st
    obtain ⟨xs, ys, x, y, hqx, hqy, hx, hy⟩ := hg
    obtain ⟨its, rv, p1⟩ := seqB I hqx
    obtain ⟨its2, rv2, p2⟩ := seqB I hqy
    obtain ⟨u, hu, ru⟩ := rv.get hx
    obtain ⟨u2, hu2, ru2⟩ := rv2.get hy
    have hzl : z < s.heap.objs.size := Heap.lt_size hz
    have hh : X.A.in1.handled = none := I.ok.hd hc
    have l1 : i < its.toArray.size := by simpa using (List.getElem?_eq_some_iff.mp hu).1
    have l2 : i < its2.toArray.size := by simpa using (List.getElem?_eq_some_iff.mp hu2).1
    refine wpAny_pyNext_zipD2_item (apart_sep D) (drawsB hh b1 i1 a D.l1i1 its.toArray) (drawsB hh b2 i2 b D.l2i2 its2.toArray) hz hTI hTO ⟨s1, p1⟩ ⟨s2, p2⟩ l1 l2 fun y1 y2 h' tk q1 q2 z' TO' t1 t2 hT hsz hk => ?_
    have e1 : y1 = u := by
      have h1 : its.toArray[i]? = some u := by simpa using hu
      rw [h1] at q1
      exact (Option.some.inj q1).symm
    have e2 : y2 = u2 := by
      have h1 : its2.toArray[i]? = some u2 := by simpa using hu2
      rw [h1] at q2
      exact (Option.some.inj q2).symm
    subst e1 e2
    refine ⟨_, rfl, wpAny_letOwnedTupleGo_zip (s := { s with heap := h', toks := tk }) z' fun h'' z'' sb => ?_⟩
    have hT2 : h''.get? s.heap.objs.size = some { cls := .type "tuple", data := .seq #[y1, y2] } := (sb.2 _ (Nat.ne_of_gt hzl)).trans hT
    have nw : ObjOk X.prog X.w (upd H s.heap.objs.size (.tup [x, y])) h'' s.heap.objs.size (.tup [x, y]) :=
      ⟨by show 2 ≤ sizeLine; decide, [y1, y2], .cons ru (.cons ru2 .nil), ⟨_, hT2, rfl, _, rfl⟩⟩
    have I1 : Inv X pins σ (upd H s.heap.objs.size (.tup [x, y])) { s with heap := h'', toks := tk } :=
      I.turnedNew (t' := tk) (ch := [z, TI, TO, i1, i2]) (fun c o hb q => (sb.2 c (fun q' => hb (by simp [q']))).trans (hk c o (fun q' => hb (by simp [q'])) (fun q' => hb (by simp [q'])) (fun q' => hb (by simp [q'])) (fun q' => hb (by simp [q'])) q)) hf (Nat.le_refl _) nw
    refine ⟨.ref s.heap.objs.size, _, I1, rfl, ⟨_, x, y, rfl, I.hok.fresh (Nat.le_refl _), rfl, fun l hl => by rw [sqB_inj I hl hqx]; exact hx, fun l hl => by rw [sqB_inj I hl hqy]; exact hy⟩, ⟨z'', ?_, ⟨y1, y2, ?_⟩, ?_, ?_⟩, fun c hcm => ?_⟩
    · exact (sb.2 _ D.TIz).trans (hk _ _ D.TIz D.TITO D.TIi1 D.TIi2 hTI)
    · exact (sb.2 _ D.TOz).trans TO'
    · exact itB_at t1.1 fun o q => (sb.2 _ D.i1z).trans q
    · exact itB_at t2.1 fun o q => (sb.2 _ D.i2z).trans q
    · have hlt : c < s.heap.objs.size := by
        have e' : c = z ∨ c = TI ∨ c = TO ∨ c = i1 ∨ c = i2 := by simpa using hcm
        rcases e' with q | q | q | q | q
        · rw [q]; exact hzl
        · rw [q]; exact Heap.lt_size hTI
        · rw [q]; exact Heap.lt_size hTO
        · rw [q]; obtain ⟨_, e1, _⟩ := itB_obj s1; exact Heap.lt_size e1
        · rw [q]; obtain ⟨_, e2, _⟩ := itB_obj s2; exact Heap.lt_size e2
      rw [upd_ne (Nat.ne_of_lt hlt)]
      exact (hf c hcm).1
  done := by
    intro X hP hw hK hc i pins s σ H E I hf st hg
    subst hP hw hK
    obtain ⟨hz, hTI, ⟨x0, y0, hTO⟩, s1, s2⟩ := st
    obtain ⟨xs, ys, hqx, hqy, hend⟩ := hg
    obtain ⟨its, rv, p1⟩ := seqB I hqx
    obtain ⟨its2, rv2, p2⟩ := seqB I hqy
    have l1 := rv.length
    have l2 := rv2.length
    have he : its.toArray[i]? = none ∨ its2.toArray[i]? = none := by
      rcases hend with q | q
      · exact .inl (by simp; omega)
      · exact .inr (by simp; omega)
    exact zip_end (I.ok.hd hc) D hz hTI hTO s1 s2 p1 p2 he fun h' tk hk => ⟨rfl, I.turnedL (t' := tk) (ch := [z, TI, TO, i1, i2]) (fun c o hb q =>
      hk c o (fun q' => hb (by simp [q'])) (fun q' => hb (by simp [q'])) (fun q' => hb (by simp [q'])) (fun q' => hb (by simp [q'])) q) hf⟩
  self := fun A i s Q E st h => wpAny_pyIter_zip st.1 h
def iZipB (K : PySem.W.Frag) (ta : TA) : TI := fun σ H R => ta σ H fun vs H1 => ∃ b1 b2 a b xs ys, vs = [.ref a, .ref b] ∧ SqB K b1 H1 a xs ∧ SqB K b2 H1 b ys ∧ R (ItzB K b1 b2 a b) H1
theorem pi_zipB {e e2 : Expr} {ta : TA} {p pos tpos : Pos} {elts : List Expr} {kk : Nat} (hg : Gl X "zip") (hm : X.mg "zip" = none) (ha : PA X [e, e2] ta)
    (hs : starEach [e, e2] X.env = (false, eval e X.env) :: starEach [e2] X.env := by rfl) (hpl : (backTo pos (starEach [e2] X.env)).any (·.1) = false := by rfl) :
    PI X (.Tuple elts kk tpos) (.Call (.Name "zip" p) [e, e2] [] pos) (iZipB X.K ta) := by
  refine ⟨fun pins s σ H R I h => ?_⟩
  refine Call_ (ld_blt I hg hm PyProof.Rows.boot_zip (PyProof.Rows.callWith_type1 (thn (ha.run pos pins s σ H _ I h) fun us s1 ⟨vs, H1, I1, r1, q1⟩ => ?_) hs hpl))
  obtain ⟨b1, b2, a, b, xs, ys, ex, hqx, hqy, q⟩ := q1
  subst ex
  cases r1 with
  | cons r rr =>
    cases rr with
    | cons r' rr =>
      cases rr
      cases r
      cases r'
      obtain ⟨its, rv, p1⟩ := seqB I1 hqx
      obtain ⟨its2, rv2, p2⟩ := seqB I1 hqy
      have la := isB_lt p1
      have lb := isB_lt p2
      refine zip_begins2 (beginsB b1 a its.toArray) (beginsB b2 b its2.toArray) p1 p2 fun h' hz hTI hTO g1 g2 hsz hk => wpAny_pyIter_zip hz ?_
      have I2 : Inv X pins σ H1 { s1 with heap := h' } := I1.kept (t' := s1.toks) hk
      refine ⟨s1.heap.objs.size + 4, [s1.heap.objs.size + 4, s1.heap.objs.size + 2, s1.heap.objs.size + 3, s1.heap.objs.size, s1.heap.objs.size + 1], _, _, H1, rfl, I2, turn_zipB b1 b2 (PySem.W.ktu_apart s1.heap.objs.size a b la lb), ⟨hz, hTI, ⟨_, _, hTO⟩, itB_new g1, itB_new g2⟩, fun c hcm => ?_, q⟩
      have hle : s1.heap.objs.size ≤ c := by
        have e' : c = s1.heap.objs.size + 4 ∨ c = s1.heap.objs.size + 2 ∨ c = s1.heap.objs.size + 3 ∨ c = s1.heap.objs.size ∨ c = s1.heap.objs.size + 1 := by simpa using hcm
        rcases e' with z | z | z | z | z <;> (rw [z]; first | exact Nat.le_add_right _ _ | exact Nat.le_refl _)
      exact I1.fpOk hle (I1.hok.fresh hle)
end
/-! ### the functional rules -/
def fEnumB (fs : AF) : IG := fun env h => (fs env h).bind fun as h1 => match as with
  | [a] => match walkI a with
    | some (ds, st, _) => .ok (enumD ds, st) h1
    | none => .er
  | _ => .er
/-- zip of two lists or tuples -/
def fZip (fs : AF) : IG := fun env h => (fs env h).bind fun as h1 => match as with
  | [a, b] => match walkI a, walkI b with
    | some (xs, s1, _), some (ys, s2, _) => .ok (zipD xs ys, s1 && s2) h1
    | _, _ => .er
  | _ => .er
section
variable {K : PySem.W.Frag} {Γ : Nat → Addr} {E : XK} {σ : L2.St} {μ Oc T P : List Addr} {env : En} {H F : Hp} {h : Hh}
theorem sqB_ex {b : Bool} {a : Addr} {ws : List V} {F F' : Hp} (e : Ex F F') (q : SqB K b F a ws) : SqB K b F' a ws := by
  cases b with
  | true => exact ex_sqL e q
  | false => exact ex_sqT e q
theorem wk_enumB {b : Bool} {a : Addr} {ws : List V} {ds : List D} {Fw Ff : Hp} (hw : SqB K b Fw a ws) (hd : DqAll K Ff ws ds) : Wk K true (IteB K b a) Fw Ff (enumD ds) where
  stop := fun H i e _ hl => ⟨ws, sqB_ex e hw, by rw [dps_length hd, ← enumD_len ds]; exact hl⟩
  go := fun H i e _ hl => by
    have hl' : i < ws.length := by rw [dps_length hd, ← enumD_len ds]; exact hl
    exact ⟨ws, ws[i], sqB_ex e hw, List.getElem?_eq_getElem hl'⟩
  yld := fun H i x H' es e ef hes hy => by
    obtain ⟨T0, y, rfl, hn, rfl, hx⟩ := hy
    obtain ⟨d, hd1, rfl⟩ := enumD_get hes
    obtain ⟨v, hv, dv⟩ := dps_get hd hd1
    have e1 := hx ws (sqB_ex e hw)
    rw [hv] at e1
    cases e1
    obtain ⟨k1, F', k2, k3, k4, k5⟩ := new_tup (xs := [.int (i : Nat), y]) ef hn
    exact ⟨k1, F', k2, k3, k4, _, _, rfl, .inl (.inl k5), .cons (.int _) (.cons (ex_dp k2 dv) .nil)⟩
theorem zipD_get {ds es : List D} {i : Nat} {zs : List D} (h : (zipD ds es)[i]? = some zs) : ∃ d e, ds[i]? = some d ∧ es[i]? = some e ∧ zs = [d, e] := by
  unfold zipD at h
  rw [List.getElem?_zipWith] at h
  cases hd : ds[i]? with
  | none => rw [hd] at h; simp at h
  | some d =>
    cases he : es[i]? with
    | none => rw [hd, he] at h; simp at h
    | some e =>
      rw [hd, he] at h
      simp at h
      exact ⟨d, e, rfl, rfl, h.symm⟩
theorem zipD_len (ds es : List D) : (zipD ds es).length = min ds.length es.length := by
  unfold zipD
  rw [List.length_zipWith]
theorem wk_zipB {b1 b2 : Bool} {a b : Addr} {ws us : List V} {ds es : List D} {Fw Ff : Hp} (hw : SqB K b1 Fw a ws) (hu : SqB K b2 Fw b us) (hd : DqAll K Ff ws ds) (he : DqAll K Ff us es) : Wk K true (ItzB K b1 b2 a b) Fw Ff (zipD ds es) where
  stop := fun H i e _ hl => ⟨ws, us, sqB_ex e hw, sqB_ex e hu, by
    rw [dps_length hd, dps_length he]
    rw [zipD_len] at hl
    omega⟩
  go := fun H i e _ hl => by
    rw [zipD_len] at hl
    have h1 : i < ws.length := by rw [dps_length hd]; omega
    have h2 : i < us.length := by rw [dps_length he]; omega
    exact ⟨ws, us, ws[i], us[i], sqB_ex e hw, sqB_ex e hu, List.getElem?_eq_getElem h1, List.getElem?_eq_getElem h2⟩
  yld := fun H i x H' zs e ef hes hy => by
    obtain ⟨T0, y, y2, rfl, hn, rfl, hx, hx2⟩ := hy
    obtain ⟨d, d2, hd1, hd2, rfl⟩ := zipD_get hes
    obtain ⟨v, hv, dv⟩ := dps_get hd hd1
    obtain ⟨v2, hv2, dv2⟩ := dps_get he hd2
    have e1 := hx ws (sqB_ex e hw)
    rw [hv] at e1
    cases e1
    have e2 := hx2 us (sqB_ex e hu)
    rw [hv2] at e2
    cases e2
    obtain ⟨k1, F', k2, k3, k4, k5⟩ := new_tup (xs := [y, y2]) ef hn
    exact ⟨k1, F', k2, k3, k4, _, _, rfl, .inl (.inl k5), .cons (ex_dp k2 dv) (.cons (ex_dp k2 dv2) .nil)⟩
theorem walk_sqB {a : A} {ds : List D} {st il : Bool} {v : V} {H1 : Hp} {μ1 Oc1 P1 P' : List Addr} (nd : (Oc1 ++ (T ++ P1)).Nodup) (hP : ∀ q ∈ P', q ∈ P1) (r : RA K (mns H1 (Oc1 ++ (T ++ P1))) (mns H1 Oc1) H1 μ1 a v P') (ha : walkI a = some (ds, st, il)) :
    ∃ p ws, v = .ref p ∧ SqB K il (mns H1 (if st then Oc1 ++ T else Oc1)) p ws ∧ DqAll K (mns H1 (Oc1 ++ T)) ws ds := by
  obtain ⟨p, ws, e, k1, k2⟩ := walkI_ok nd hP r ha
  refine ⟨p, ws, e, ?_, k2⟩
  cases il with
  | true => exact .of k1
  | false => exact k1
theorem tI_enumB {fs : AF} {R : It → Hp → Prop} : tI K Γ E true (fEnumB fs) σ H R → iEnumB K (tA K Γ E fs) σ H R := by
  rintro ⟨μ, Oc, T, env, h, s, go⟩
  refine ⟨μ, Oc, T, env, h, s, ?_⟩
  unfold fEnumB at go
  cases hf : fs env h with
  | er => rw [hf] at go; exact go
  | exc c h1 => rw [hf] at go; exact go
  | ok as h1 =>
    rw [hf] at go
    intro vs H1 μ1 Oc1 P1 p
    simp only [Res.bind] at go
    split at go
    · rename_i a
      cases hl : walkI a with
      | none => simp only [hl] at go; exact go.elim
      | some o =>
        obtain ⟨ds, st, il⟩ := o
        simp only [hl] at go
        obtain ⟨v, rfl, r⟩ := ras1 p.val
        obtain ⟨q, ws, rfl, k1, k2⟩ := walk_sqB p.nd (fun _ z => z) r hl
        exact ⟨il, q, ws, rfl, sqB_ex (mns_ex _ _) k1, go _ H1 μ1 Oc1 _ _ p.drop (Ex.refl _) (Ex.refl _) (wk_enumB k1 k2)⟩
    · exact go.elim
theorem tI_zip {fs : AF} {R : It → Hp → Prop} : tI K Γ E true (fZip fs) σ H R → iZipB K (tA K Γ E fs) σ H R := by
  rintro ⟨μ, Oc, T, env, h, s, go⟩
  refine ⟨μ, Oc, T, env, h, s, ?_⟩
  unfold fZip at go
  cases hf : fs env h with
  | er => rw [hf] at go; exact go
  | exc c h1 => rw [hf] at go; exact go
  | ok as h1 =>
    rw [hf] at go
    intro vs H1 μ1 Oc1 P1 p
    simp only [Res.bind] at go
    split at go
    · rename_i a b
      split at go
      · rename_i xs s1 i1 ys s2 i2 hx hy
        obtain ⟨v, w', P2, P3, ev, r1, r2, eP⟩ := ras2 p.val
        subst ev
        obtain ⟨q, ws, rfl, k1, k2⟩ := walk_sqB p.nd (fun z hz => by rw [eP]; exact List.mem_append_left _ hz) r1 hx
        obtain ⟨q2, us, rfl, k3, k4⟩ := walk_sqB p.nd (fun z hz => by rw [eP]; exact List.mem_append_right _ hz) r2 hy
        have e1 : Ex (mns H1 (if s1 then Oc1 ++ T else Oc1)) (mns H1 (if (s1 && s2) then Oc1 ++ T else Oc1)) := mns_mono fun z hz => by
          cases s1 <;> cases s2 <;> simp at hz ⊢ <;> first | exact hz | exact .inl hz
        have e2 : Ex (mns H1 (if s2 then Oc1 ++ T else Oc1)) (mns H1 (if (s1 && s2) then Oc1 ++ T else Oc1)) := mns_mono fun z hz => by
          cases s1 <;> cases s2 <;> simp at hz ⊢ <;> first | exact hz | exact .inl hz
        exact ⟨i1, i2, q, q2, ws, us, rfl, sqB_ex (mns_ex _ _) k1, sqB_ex (mns_ex _ _) k3, go _ H1 μ1 Oc1 _ _ p.drop (Ex.refl _) (Ex.refl _) (wk_zipB (sqB_ex e1 k1) (sqB_ex e2 k3) k2 k4)⟩
      · exact go.elim
    · exact go.elim
end
section
variable {X : Cx} {Γ : Nat → Addr} {E : XK} {pos : Pos}
theorem i_enumB {e : Expr} {p tpos : Pos} {elts : List Expr} {kk : Nat} {fs : AF} (hg : Gl X "enumerate") (hm : X.mg "enumerate" = none) (ha : PA X [e] (tA X.K Γ E fs)) (hs : starEach [e] X.env = [(false, eval e X.env)] := by rfl) :
    PI X (.Tuple elts kk tpos) (.Call (.Name "enumerate" p) [e] [] pos) (tI X.K Γ E true (fEnumB fs)) := pi_imp (pi_enumB hg hm ha hs) fun _ _ _ => tI_enumB
theorem i_zip {e e2 : Expr} {p tpos : Pos} {elts : List Expr} {kk : Nat} {fs : AF} (hg : Gl X "zip") (hm : X.mg "zip" = none) (ha : PA X [e, e2] (tA X.K Γ E fs)) (hs : starEach [e, e2] X.env = (false, eval e X.env) :: starEach [e2] X.env := by rfl) (hpl : (backTo pos (starEach [e2] X.env)).any (·.1) = false := by rfl) :
    PI X (.Tuple elts kk tpos) (.Call (.Name "zip" p) [e, e2] [] pos) (tI X.K Γ E true (fZip fs)) := pi_imp (pi_zipB hg hm ha hs hpl) fun _ _ _ => tI_zip
end
/-! ### return of a conditional -/
def RetE (X : Cx) (Γ : Nat → Addr) (E : XK) (a : Expr) (f : SF) : Prop := ∃ ta, PE X a ta ∧ ∀ D σ H, tS X.K Γ E f D σ H → tRet ta D σ H
section
variable {X : Cx} {Γ : Nat → Addr} {E : XK} {pos : Pos}
theorem r_val {a : Expr} {fe : EF} (h : PE X a (tE X.K Γ E fe)) : RetE X Γ E a (fRet fe) := ⟨_, h, fun _ _ _ => tS_ret⟩
theorem r_var (i : Nat) {x : Str} (hN : X.N[i]? = some x := by rfl) (hv : Vis X.env.scope x := by first | exact Or.inl rfl | exact Or.inr (Or.inl rfl) | exact Or.inr (Or.inr rfl)) (hd : (x == ("__debug__" : Str)) = false := by decide)
    (hcd : (x == ("__classdict__" : Str)) = false := by decide) : RetE X Γ E (.Name x pos) (fRetV i) := ⟨_, pe_var hN hv hd hcd, fun _ _ _ => tS_retV⟩
theorem r_if {c a b : Expr} {t : TF} {f g : SF} (hc : PT X c (tT X.K Γ E t)) (ha : RetE X Γ E a f) (hb : RetE X Γ E b g) : RetE X Γ E (.IfExp c a b pos) (fIf t f g) := by
  obtain ⟨ta, ha, ka⟩ := ha
  obtain ⟨tb, hb, kb⟩ := hb
  refine ⟨_, pe_ifExp hc ha hb, fun D σ H q => ?_⟩
  have q2 := tS_if q
  obtain ⟨μ, Oc, T, env, h, s, go⟩ := q2
  refine ⟨μ, Oc, T, env, h, s, ?_⟩
  cases ht : t env h with
  | er => rw [ht] at go; exact go
  | exc c h1 => rw [ht] at go; exact go
  | ok b h1 =>
    rw [ht] at go
    intro H1 μ1 Oc1 p
    have z := go H1 μ1 Oc1 p
    cases b with
    | true => exact ka D σ H1 z
    | false => exact kb D σ H1 z
theorem s_retR {a : Expr} {f : SF} (h : RetE X Γ E a f) : PS X (.Return (some a) pos) (tS X.K Γ E f) := by
  obtain ⟨ta, ha, ka⟩ := h
  exact ps_imp (ps_ret ha) ka
end
end Mi
/-! Mini: lists of lists that a slot owns. -/
namespace Mi
open PySem L2 PySem.Spec PyProof.Rows
def obsOf : List A → Option (List (List D))
  | [] => some []
  | .ob (.lst ds) :: as => (obsOf as).map (ds :: ·)
  | _ => none
def gLst2 : List A → Hh → Option A := fun as _ => if as.length ≤ LIM then (obsOf as).map fun dss => .ob (.lst2 dss) else none
section
variable {K : PySem.W.Frag}
theorem ras_obs {F W H : Hp} {μ : List Addr} : ∀ {as : List A} {vs : List V} {P : List Addr} {dss : List (List D)}, RAs K F W H μ as vs P → obsOf as = some dss → vs = P.map V.ref ∧ RL K F H dss P
  | _, _, _, _, .nil, e => by cases e; exact ⟨rfl, .nil⟩
  | _, _, _, _, .cons (a := a) (as := as) r t, e => by
    unfold obsOf at e
    split at e
    · rename_i heq
      cases heq
    · rename_i ds as' heq
      cases heq
      obtain ⟨dss', h1, h2⟩ := Option.map_eq_some_iff.mp e
      subst h2
      obtain ⟨e1, e2⟩ := ras_obs t h1
      cases r with
      | ob r =>
        cases r with
        | @lst _ p ws k1 k2 =>
          refine ⟨?_, ?_⟩
          · rw [e1]; rfl
          · exact RL.cons k1 k2 e2
    · cases e
theorem prim_lst2 : Prim K (fun xs H Q => xs.length ≤ sizeLine ∧ ∀ p, H p = none → Q (.ref p) (upd H p (.lst xs))) gLst2 := by
  intro H μ Oc T P h as vs a Q nd rc ra lv hg go
  unfold gLst2 at hg
  split at hg
  · rename_i hl
    obtain ⟨dss, h1, h2⟩ := Option.map_eq_some_iff.mp hg
    subst h2
    obtain ⟨e1, e2⟩ := ras_obs ra h1
    refine ⟨by rw [ras_len ra]; exact lim_le hl, fun p hp => ?_⟩
    have hpP : p ∉ P := fun z => by
      obtain ⟨o, ho, _⟩ := ra.there p z
      rw [hp] at ho; cases ho
    have ex : Ex (mns H (Oc ++ (T ++ P))) (mns (upd H p (.lst vs)) (Oc ++ (T ++ (p :: P)))) := ex_mns fun q o hq e => by
      have hne : q ≠ p := fun z => by rw [z, hp] at e; cases e
      refine ⟨upd_at hne e, fun z => ?_⟩
      rcases List.mem_append.mp z with z | z
      · exact hq (List.mem_append_left _ z)
      · rcases List.mem_append.mp z with z | z
        · exact hq (List.mem_append_right _ (List.mem_append_left _ z))
        · rcases List.mem_cons.mp z with z | z
          · exact hne z
          · exact hq (List.mem_append_right _ (List.mem_append_right _ z))
    refine go _ _ (p :: P) (Ex.new hp) (fun q z => ?_) ?_ ?_
    · rcases List.mem_cons.mp z with z | z
      · right; rw [z]; exact hp
      · exact .inl z
    · exact List.nodup_cons.mpr ⟨hpP, nd_r (nd_r nd)⟩
    · refine .ob (.lst2 ?_ (e2.mv ex fun q hq o z => ?_))
      · rw [← e1]; exact upd_same
      · exact upd_at (fun z => hpP (by rw [← z]; exact hq)) z
  · cases hg
theorem RL.app {F H : Hp} : ∀ {dss ess : List (List D)} {ps qs : List Addr}, RL K F H dss ps → RL K F H ess qs → RL K F H (dss ++ ess) (ps ++ qs)
  | _, _, _, _, .nil, s => s
  | _, _, _, _, .cons h d t, s => .cons h d (RL.app t s)
theorem RL.len {F H : Hp} : ∀ {dss : List (List D)} {ps : List Addr}, RL K F H dss ps → ps.length = dss.length
  | _, _, .nil => rfl
  | _, _, .cons _ _ t => by rw [List.length_cons, List.length_cons, RL.len t]
theorem RL.get {F H : Hp} : ∀ {dss : List (List D)} {ps : List Addr} {j : Nat} {ds : List D}, RL K F H dss ps → dss[j]? = some ds → ∃ q ws, ps[j]? = some q ∧ H q = some (.lst ws) ∧ DqAll K F ws ds
  | _, _, _, _, .nil, e => by simp at e
  | _, _, 0, _, .cons h d t, e => by
    simp at e
    subst e
    exact ⟨_, _, rfl, h, d⟩
  | _, _, j + 1, _, .cons h d t, e => by
    obtain ⟨q, ws, h1, h2, h3⟩ := RL.get (j := j) t (by simpa using e)
    exact ⟨q, ws, by simpa using h1, h2, h3⟩
/-- one of the lists is changed -/
theorem RL.upd {F F' H : Hp} (ex : Ex F F') : ∀ {dss : List (List D)} {ps : List Addr} {j : Nat} {q : Addr} {ws' : List V} {ds' : List D}, RL K F H dss ps → ps.Nodup → ps[j]? = some q → DqAll K F' ws' ds' → RL K F' (L2.upd H q (.lst ws')) (dss.set j ds') ps
  | _, _, _, _, _, _, .nil, _, e, _ => by simp at e
  | _, _, 0, q, ws', ds', .cons (p := p) (ps := ps) h d t, n, e, d' => by
    simp at e
    subst e
    refine .cons upd_same d' (t.mv ex fun x hx o z => ?_)
    exact upd_at (fun e => (List.nodup_cons.mp n).1 (by rw [← e]; exact hx)) z
  | _, _, j + 1, q, ws', ds', .cons (p := p) (ps := ps) h d t, n, e, d' => by
    have e' : ps[j]? = some q := by simpa using e
    have hq : q ∈ ps := List.mem_of_getElem? e'
    refine .cons (upd_at (fun z => (List.nodup_cons.mp n).1 (by rw [z]; exact hq)) h) (ex_dps ex d) (RL.upd ex t (List.nodup_cons.mp n).2 e' d')
variable {Γ : Nat → Addr} {E : XK} {σ σ1 : L2.St} {μ μ1 Oc Oc1 B S S1 P : List Addr} {env env1 : En} {H H1 : Hp} {h h1 : Hh} {D' : Ends} {F F' : Hp}
/-- the object of a slot is changed, what came beside it may go to it -/
theorem rep_slot {i : Nat} {c c' : Cell} {p q0 : Addr} {ws' : List V} {as : List A} {vs : List V} (s : SSim K H σ μ Oc B S env h) (pa : PsA K σ μ Oc (B ++ S) env H as h1 vs H1 μ1 Oc1 P) (he : env[i]? = some (some (.ob c))) (hv : σ[i]? = some (some (.ref p)))
    (hr : ∀ Pi, RO K (mns H1 (Oc1 ++ (B ++ (S ++ P)))) H1 c p Pi → Pi.Nodup → (∀ q ∈ Pi, q ∉ P) → q0 ∈ Pi ∧ (Ex (mns H1 (Oc1 ++ (B ++ (S ++ P)))) (mns (L2.upd H1 q0 (.lst ws')) (Oc1 ++ (B ++ (S ++ P)))) →
      ∃ P', RO K (mns (L2.upd H1 q0 (.lst ws')) (Oc1 ++ (B ++ (S ++ P)))) (L2.upd H1 q0 (.lst ws')) c' p P' ∧ P'.Nodup ∧ ∀ q ∈ P', q ∈ Pi ∨ q ∈ P)) :
    SPs K μ Oc B S H σ (env.set i (some (.ob c'))) h1 (L2.upd H1 q0 (.lst ws')) μ1 Oc1 (S ++ P) := by
  obtain ⟨s1, g1⟩ := pa.ssim s
  obtain ⟨Os, o1, o2, o3⟩ := pa.slots' s
  obtain ⟨v, Pi, O', k1, k2, k3, k4, k5, k6⟩ := o3.take he
  obtain ⟨m1, m2, m3⟩ := k6 o2
  rw [hv] at k1
  cases k1
  have nSP := nd_r (nd_r s1.nd)
  cases k2 with
  | ob k2 =>
    have dis : ∀ q ∈ Pi, q ∉ P := fun q hq hp => nd_ne nSP (o1 q (k4 q hq)) hp
    obtain ⟨hq0, hr⟩ := hr Pi k2 m2 dis
    have hqS : q0 ∈ S := o1 q0 (k4 q0 hq0)
    have hqO : q0 ∈ Oc1 ++ (B ++ (S ++ P)) := List.mem_append_right _ (List.mem_append_right _ (List.mem_append_left _ hqS))
    have ex : Ex (mns H1 (Oc1 ++ (B ++ (S ++ P)))) (mns (L2.upd H1 q0 (.lst ws')) (Oc1 ++ (B ++ (S ++ P)))) := ex_upd hqO
    obtain ⟨P', r', n', sub⟩ := hr ex
    have ag : Ag O' H1 (L2.upd H1 q0 (.lst ws')) := fun q hq o z => upd_at (fun e => m3 q0 hq0 (by rw [← e]; exact hq)) z
    obtain ⟨O2, l1, l2, l3⟩ := (k3.mv ex (Pre.refl _) ag).set i (RA.ob (W := mns (L2.upd H1 q0 (.lst ws')) (Oc1 ++ (B ++ (S ++ P)))) (μ := μ1) r')
    rw [set_same hv, List.set_set] at l1
    refine ⟨⟨s1.nd, s1.cells.mv ex fun q hq o z => ?_, ⟨O2, fun q hq => ?_, l3 m1 n' fun q a b => ?_, l1⟩, fun q hq => (s1.live q hq).upd⟩, ⟨fun q o h1 h2 e => ?_, g1.newO, g1.newS, fun q hq => g1.dom q (upd_dom hq), g1.pre⟩⟩
    · exact upd_at (fun e => nd_ne s1.nd hq (by rw [e]; exact List.mem_append_right _ (List.mem_append_left _ hqS))) z
    · rcases l2 q hq with z | z
      · exact List.mem_append_left _ (o1 q (k5 q z))
      · rcases sub q z with z | z
        · exact List.mem_append_left _ (o1 q (k4 q z))
        · exact List.mem_append_right _ z
    · rcases sub q a with z | z
      · exact m3 q z b
      · exact nd_ne nSP (o1 q (k5 q b)) z
    · exact upd_at (fun z => h2 (by rw [z]; exact hqS)) (g1.keep q o h1 h2 e)
/-! x.append([..]) -/
def fApp2 (i : Nat) (fs : AF) : SF := fun env h => match env[i]? with
  | some (some (.ob (.lst2 dss))) => onA (fs env h) fun as h1 => match as with
    | [.ob (.lst ds)] => if dss.length < LIM then .nx (env.set i (some (.ob (.lst2 (dss ++ [ds]))))) h1 else .er
    | _ => .er
  | _ => .er
theorem tA_of {fs : AF} {k : List A → Hh → SRes} {Q : List V → Hp → Prop} (s : SSim K H σ μ Oc B S env h) (go : GoS K Γ E (onA (fs env h) k) D' H μ Oc B S)
    (hQ : ∀ as h1 us H1 μ1 Oc1 P, PsA K σ μ Oc (B ++ S) env H as h1 us H1 μ1 Oc1 P → GoS K Γ E (k as h1) D' H μ Oc B S → Q us H1) : tA K Γ E fs σ H Q := by
  refine ⟨μ, Oc, B ++ S, env, h, s.sim, ?_⟩
  unfold onA at go
  cases hf : fs env h with
  | er => rw [hf] at go; exact go
  | exc c h1 => rw [hf] at go; exact XPs.of go
  | ok as h1 => rw [hf] at go; exact fun us H1 μ1 Oc1 P p => hQ as h1 us H1 μ1 Oc1 P p go
theorem tS_app2 {i : Nat} {fs : AF} : tS K Γ E (fApp2 i fs) D' σ H → tDrop (tBM K "list" rAppend (tVar i) (tA K Γ E fs)) D' σ H := by
  rintro ⟨μ, Oc, B, S, env, h, s, go⟩
  unfold fApp2 at go
  split at go
  · rename_i dss hs
    obtain ⟨Os, o1, o2, o3⟩ := s.slots
    obtain ⟨v, P0, e1, e2, e3⟩ := o3.get hs
    cases e2 with
    | @ob _ p _ e2 =>
      cases e2 with
      | @lst2 _ _ ps h1 h2 =>
        refine ⟨.ref p, e1, .inl ⟨rfl, _, .of h1⟩, tA_of s go fun as h1' us H1 μ1 Oc1 P p1 go => ?_⟩
        split at go
        · rename_i ds
          split at go
          · rename_i hl
            obtain ⟨u, rfl, ru⟩ := ras1 p1.val
            have hp : p ∈ S := o1 p (e3 p List.mem_cons_self)
            have hH : H1 p = some (.lst (ps.map V.ref)) := p1.gr.keep p _ (nd_ne' s.nd (List.mem_append_right _ hp)) h1
            refine ⟨p, ps.map V.ref, u, rfl, rfl, hH, by rw [List.length_map, h2.len]; exact lim_lt hl, ?_⟩
            refine go σ _ μ1 Oc1 (S ++ P) (rep_slot s p1 hs e1 fun Pi ro n dis => ?_)
            cases ro with
            | @lst2 _ _ ps2 k1 k2 =>
              refine ⟨List.mem_cons_self, fun ex => ?_⟩
              have eps : ps2 = ps := by
                rw [hH] at k1
                have : ps.map V.ref = ps2.map V.ref := by injection k1 with k1; injection k1
                exact ((List.map_inj_right fun a b e => by injection e).mp this).symm
              subst eps
              cases ru with
              | @ob _ pa _ ru =>
                cases ru with
                | @lst _ _ ws a1 a2 =>
                  rw [← as3] at a2
                  have hpa : pa ≠ p := fun z => nd_ne (nd_r p1.nd) (List.mem_append_right B hp) (by rw [z]; exact List.mem_cons_self)
                  refine ⟨p :: (ps2 ++ [pa]), .lst2 ?_ (RL.app (k2.mv ex fun q hq o z => ?_) (.cons (upd_at hpa a1) (ex_dps ex a2) .nil)), ?_, fun q hq => ?_⟩
                  · rw [List.map_append]; exact upd_same
                  · exact upd_at (fun e => (List.nodup_cons.mp n).1 (by rw [← e]; exact hq)) z
                  · refine List.nodup_cons.mpr ⟨fun z => ?_, nd_mk (List.nodup_cons.mp n).2 (nd1 pa) fun q a b => ?_⟩
                    · rcases List.mem_append.mp z with z | z
                      · exact (List.nodup_cons.mp n).1 z
                      · exact hpa (by simpa using z : p = pa).symm
                    · exact dis q (List.mem_cons_of_mem _ a) b
                  · rcases List.mem_cons.mp hq with z | z
                    · exact .inl (by rw [z]; exact List.mem_cons_self)
                    · rcases List.mem_append.mp z with z | z
                      · exact .inl (List.mem_cons_of_mem _ z)
                      · exact .inr z
          · exact go.elim
        · exact go.elim
  · exact go.elim
/-! x[k].append(e) -/
def calmA (r : Res (List A)) : Res (List A) := match r with
  | .exc _ _ => .er
  | r => r
def fAppIx (i : Nat) (fi : EF) (fs : AF) : SF := fun env h => match env[i]? with
  | some (some (.ob (.lst2 dss))) => onA (calmA (fCons fi fs env h)) fun as h1 => match as with
    | [.dat (.int k), a] => match ixN dss.length k, sto a with
      | some j, some d => match dss[j]? with
        | some ds => if ds.length < LIM then .nx (env.set i (some (.ob (.lst2 (dss.set j (ds ++ [d])))))) h1 else .er
        | none => .er
      | _, _ => .er
    | _ => .er
  | _ => .er
theorem tS_appIx {i : Nat} {fi : EF} {fs : AF} : tS K Γ E (fAppIx i fi fs) D' σ H → tDrop (tBM K "list" rAppend (tOp (rIxL K) (tVar i) (tE K Γ E fi)) (tA K Γ E fs)) D' σ H := by
  rintro ⟨μ, Oc, B, S, env, h, s, go⟩
  unfold fAppIx at go
  split at go
  · rename_i dss hs
    obtain ⟨Os, o1, o2, o3⟩ := s.slots
    obtain ⟨v, P0, e1, e2, e3⟩ := o3.get hs
    cases e2 with
    | @ob _ p _ e2 =>
      cases e2 with
      | @lst2 _ _ ps h1 h2 =>
        have hp : p ∈ S := o1 p (e3 p List.mem_cons_self)
        refine ⟨.ref p, e1, ?_⟩
        -- the index, then the arguments
        cases hf : fi env h with
        | er => simp only [fCons, hf, Res.bind, calmA, onA] at go; exact go.elim
        | exc c h3 => 
          simp only [fCons, hf, Res.bind, calmA, onA] at go
          exact go.elim
        | ok b h3 =>
          refine ⟨μ, Oc, B ++ S, env, h, s.sim, ?_⟩
          rw [hf]
          intro w H3 μ3 Oc3 P3 p3
          cases hg : fs env h3 with
          | er => simp only [fCons, hf, hg, Res.bind, calmA, onA] at go; exact go.elim
          | exc c h4 =>
            simp only [fCons, hf, hg, Res.bind, calmA, onA] at go
            exact go.elim
          | ok as h4 =>
            simp only [fCons, hf, hg, Res.bind, calmA, onA] at go
            split at go
            · rename_i k a heq
              cases heq
              cases hj : ixN dss.length k with
              | none => simp only [hj] at go; exact go.elim
              | some j =>
                cases hd : sto a with
                | none => simp only [hj, hd] at go; exact go.elim
                | some d =>
                  simp only [hj, hd] at go
                  cases hds : dss[j]? with
                  | none => simp only [hds] at go; exact go.elim
                  | some ds =>
                    simp only [hds] at go
                    split at go
                    · rename_i hl
                      obtain ⟨w', ew, rw'⟩ := ras1 p3.val
                      cases ew
                      obtain ⟨rfl, rfl⟩ := dat_int rw'
                      obtain ⟨q, ws, g1, g2, g3⟩ := h2.get hds
                      have hqS : q ∈ S := o1 q (e3 q (List.mem_cons_of_mem _ (List.mem_of_getElem? g1)))
                      have hH3 : H3 p = some (.lst (ps.map V.ref)) := p3.gr.keep p _ (nd_ne' s.nd (List.mem_append_right _ hp)) h1
                      have hq3 : H3 q = some (.lst ws) := p3.gr.keep q _ (nd_ne' s.nd (List.mem_append_right _ hqS)) g2
                      refine ⟨p, ps.map V.ref, k, .ref q, rfl, rfl, .of hH3, ?_, .inl ⟨rfl, _, .of hq3⟩, μ3, Oc3, (B ++ S) ++ [], env, h3, p3.sim, ?_⟩
                      · unfold atI
                        rw [List.length_map, h2.len, hj]
                        show (ps.map V.ref)[j]? = _
                        rw [List.getElem?_map, g1]; rfl
                      · rw [hg]
                        intro us H4 μ4 Oc4 P4 p4
                        have pp := p3.app p4
                        obtain ⟨u, rfl, ru⟩ := ras1 p4.val
                        have hq4 : H4 q = some (.lst ws) := pp.gr.keep q _ (nd_ne' s.nd (List.mem_append_right _ hqS)) g2
                        refine ⟨q, ws, u, rfl, rfl, hq4, by rw [dps_length g3]; exact lim_lt hl, ?_⟩
                        have p0 := pp.drop
                        have dv := ra_sto pp.nd (by simpa using ru) (fun x hx => by simpa using hx) hd
                        refine go σ _ μ4 Oc4 (S ++ []) (rep_slot s p0 hs e1 fun Pi ro n dis => ?_)
                        cases ro with
                        | @lst2 _ _ ps2 k1 k2 =>
                          have hH4 : H4 p = some (.lst (ps.map V.ref)) := pp.gr.keep p _ (nd_ne' s.nd (List.mem_append_right _ hp)) h1
                          have eps : ps2 = ps := by
                            rw [hH4] at k1
                            have : ps.map V.ref = ps2.map V.ref := by injection k1 with k1; injection k1
                            exact ((List.map_inj_right fun a b e => by injection e).mp this).symm
                          subst eps
                          have hqp : q ≠ p := fun z => (List.nodup_cons.mp n).1 (by rw [← z]; exact List.mem_of_getElem? g1)
                          refine ⟨List.mem_cons_of_mem _ (List.mem_of_getElem? g1), fun ex => ⟨p :: ps2, .lst2 (upd_at hqp.symm k1) (RL.upd ex k2 (List.nodup_cons.mp n).2 g1 ?_), n, fun x hx => .inl hx⟩⟩
                          obtain ⟨q', ws', f1, f2, f3⟩ := k2.get hds
                          rw [g1] at f1
                          cases f1
                          rw [hq4] at f2
                          cases f2
                          refine ex_dps ex (dps_append f3 (.cons ?_ .nil))
                          rw [List.append_nil]
                          exact dv
                    · exact go.elim
            · exact go.elim
  · exact go.elim
end
section
variable {X : Cx} {Γ : Nat → Addr} {E : XK} {pos apos cpos p2 p3 : Pos} {e ei : Expr} {es : List Expr} {fs : AF} {fi : EF}
theorem e_lst2 (h : PA X es (tA X.K Γ E fs)) : PE X (.List es pos) (tE X.K Γ E (fPrim gLst2 fs)) := pe_imp (pe_lst h) fun _ _ _ => tE_prim prim_lst2
theorem s_app2 (i : Nat) {x : Str} (ha : PA X (e :: es) (tA X.K Γ E fs))
    (hN : X.N[i]? = some x := by rfl) (hv : Vis X.env.scope x := by first | exact Or.inl rfl | exact Or.inr (Or.inl rfl) | exact Or.inr (Or.inr rfl)) (hd : (x == ("__debug__" : Str)) = false := by decide) (hcd : (x == ("__classdict__" : Str)) = false := by decide)
    (hbase : attributeBase (.Name x p2) "append" X.env (eval (.Name x p2) X.env) = eval (.Name x p2) X.env := by rfl)
    (hfew : ((backTo cpos (starEach (e :: es) X.env)).all (fun x => !x.1) && (backToKw cpos (keywordEach [] X.env)).all (fun x => x.1.isSome)
      && decide ((e :: es).length + ([] : List Keyword).length + (if ([] : List Keyword).isEmpty then 0 else 1) < 30)) = true := by rfl)
    (hline : (apos.endLine == cpos.line) = true := by rfl) (hs : starEach (e :: es) X.env = (false, eval e X.env) :: starEach es X.env := by rfl) (hplain : (backTo cpos (starEach es X.env)).any (·.1) = false := by rfl)
    (hsw : swapsWith (.Call (.Attribute (.Name x p2) "append" apos) (e :: es) [] cpos) none pos.line X.env = pure false := by rfl) :
    PS X (.Expr (.Call (.Attribute (.Name x p2) "append" apos) (e :: es) [] cpos) pos) (tS X.K Γ E (fApp2 i fs)) :=
  ps_imp (ps_expr (pe_bm PySem.F.plainAttrs_list PySem.F.slot_list_append PySem.F.type_list_append mt_append (pe_var hN hv hd hcd) ha hbase hfew hline hs hplain) hsw) fun _ _ _ => tS_app2
theorem s_appIx (i : Nat) {x : Str} (hi : PE X ei (tE X.K Γ E fi)) (ha : PA X (e :: es) (tA X.K Γ E fs)) (hpl : PlainIx ei := by exact fun _ _ => rfl)
    (hN : X.N[i]? = some x := by rfl) (hv : Vis X.env.scope x := by first | exact Or.inl rfl | exact Or.inr (Or.inl rfl) | exact Or.inr (Or.inr rfl)) (hd : (x == ("__debug__" : Str)) = false := by decide) (hcd : (x == ("__classdict__" : Str)) = false := by decide)
    (hbase : attributeBase (.Subscript (.Name x p2) ei p3) "append" X.env (eval (.Subscript (.Name x p2) ei p3) X.env) = eval (.Subscript (.Name x p2) ei p3) X.env := by rfl)
    (hfew : ((backTo cpos (starEach (e :: es) X.env)).all (fun x => !x.1) && (backToKw cpos (keywordEach [] X.env)).all (fun x => x.1.isSome)
      && decide ((e :: es).length + ([] : List Keyword).length + (if ([] : List Keyword).isEmpty then 0 else 1) < 30)) = true := by rfl)
    (hline : (apos.endLine == cpos.line) = true := by rfl) (hs : starEach (e :: es) X.env = (false, eval e X.env) :: starEach es X.env := by rfl) (hplain : (backTo cpos (starEach es X.env)).any (·.1) = false := by rfl)
    (hsw : swapsWith (.Call (.Attribute (.Subscript (.Name x p2) ei p3) "append" apos) (e :: es) [] cpos) none pos.line X.env = pure false := by rfl) :
    PS X (.Expr (.Call (.Attribute (.Subscript (.Name x p2) ei p3) "append" apos) (e :: es) [] cpos) pos) (tS X.K Γ E (fAppIx i fi fs)) :=
  ps_imp (ps_expr (pe_bm PySem.F.plainAttrs_list PySem.F.slot_list_append PySem.F.type_list_append mt_append (pe_ix ix_list (pe_var hN hv hd hcd) hi hpl) ha hbase hfew hline hs hplain) hsw) fun _ _ _ => tS_appIx
theorem s_setIx (i : Nat) {x : Str} {fe fi : EF} {ev ei : Expr} {p4 : Pos} (he : PE X ev (tE X.K Γ E fe)) (hi : PE X ei (tE X.K Γ E fi))
    (hN : X.N[i]? = some x := by rfl) (hv : Vis X.env.scope x := by first | exact Or.inl rfl | exact Or.inr (Or.inl rfl) | exact Or.inr (Or.inr rfl)) (hd : (x == ("__debug__" : Str)) = false := by decide) (hcd : (x == ("__classdict__" : Str)) = false := by decide)
    (ha : ∀ v, assign (.Subscript (.Name x p2) ei p3) X.env v = (do
      let ov ← holding [v] (eval (.Name x p2) X.env)
      let iv ← holding [v, ov] (eval ei X.env)
      standAt p3
      holding [v, ov, iv] (setItem ov iv v)
      release [v, ov, iv] []) := by intro _; rfl)
    (hs : swapsWithSole [.Subscript (.Name x p2) ei p3] ev p4.line X.env = pure false := by rfl) (hw : swappedStores [.Subscript (.Name x p2) ei p3] ev X.env = pure none := by rfl)
    (h1 : (assignEach [.Subscript (.Name x p2) ei p3] X.env).map (·.2) = [assign (.Subscript (.Name x p2) ei p3) X.env] := by rfl) :
    PS X (.Assign [.Subscript (.Name x p2) ei p3] ev p4) (tS X.K Γ E (fSetIx i fe fi)) :=
  ps_imp (ps_asg he (pg_sub (pe_var hN hv hd hcd) hi set_list ha) hs hw h1) fun _ _ _ => tS_setIx
/-- a return of a name, frozen -/
theorem s_frzAny (i : Nat) {st : Stmt} {f : SF} (h : PS X st (tS X.K Γ E f)) : PS X st (tS X.K Γ E (fFrz i f)) := ps_imp h fun _ _ _ => tS_frz
end
end Mi
/-! Mini: tuple * int. -/
namespace Mi
open PySem L2 PySem.Spec PyProof.Rows
set_option maxHeartbeats 4000000 in
theorem tuple_mul1 (l : Addr) (items : Array Value) (n : Nat) (dd : Option Addr) (sl : Array (Option Value)) (u : Tok) :
    Meets (Builtin.«tuple.__mul__» ⟨[.ref l, .int 1 u], []⟩) (fun _ R s => s.heap.get? l = some { cls := .type "tuple", dict := dd, data := .seq items n, slots := sl } ∧ R (.ok (.ret (Value.ref l))) s) :=
  .of_wp fun prog w A R s h => by
    obtain ⟨hp, g, d, tk, os⟩ := s
    obtain ⟨hl, h⟩ := h
    have f1 := AutoSeq1.idx_int
    wp_walk using wpAny_loadPart' hl
    exact ⟨_, rfl, h⟩
set_option maxHeartbeats 4000000 in
theorem tuple_mul0 (l : Addr) (items : Array Value) (n : Nat) (dd : Option Addr) (sl : Array (Option Value)) (u : Tok) (c1 : items.isEmpty = false) :
    Meets (Builtin.«tuple.__mul__» ⟨[.ref l, .int 0 u], []⟩) (fun _ R s => s.heap.get? l = some { cls := .type "tuple", dict := dd, data := .seq items n, slots := sl } ∧
      R (.ok (.ret (Value.ref s.heap.objs.size))) { s with heap := s.heap.push { cls := Value.type "tuple", data := Data.seq #[] }, toks := s.toks }) :=
  .of_wp fun prog w A R s h => by
    obtain ⟨hp, g, d, tk, os⟩ := s
    obtain ⟨hl, h⟩ := h
    have f1 := AutoSeq1.idx_int
    wp_walk using wpAny_loadPart' hl
    exact ⟨_, rfl, h⟩
def rRepP (K : PySem.W.Frag) : R2 := fun x y H Q => ∃ l k xs, x = .ref l ∧ y = .int k ∧ SqT K H l xs ∧ xs ≠ [] ∧ 0 ≤ k ∧ k ≤ 1000 ∧ xs.length ≤ 1000 ∧ (k = 1 → Q (.ref l) H) ∧ (k ≠ 1 → ∀ p o, H p = none → PlT o (List.replicate k.toNat xs).flatten → Q (.ref p) (upd H p o))
section
variable {X : Cx}
theorem op_repP : OpR X (binaryOp .Mult) (rRepP X.K) := by
  intro pins s σ H x y v u Q I rx ry h
  obtain ⟨l, k, xs, rfl, rfl, hT, hne, h1, h2, hz, q1, q⟩ := h
  cases rx
  obtain ⟨t, rfl⟩ := ry
  obtain ⟨its, r, ⟨⟨cls, dd, data, sl⟩, ho, hc, n, hd⟩, hs⟩ := I.tuple hT
  simp only at hc hd
  subst hc hd
  have hle : its.length = xs.length := r.length.symm
  have hn : its ≠ [] := fun e => hne (by
    rw [e] at hle
    exact List.eq_nil_of_length_eq_zero hle.symm)
  have hi : its.toArray.isEmpty = false := by
    cases its with
    | nil => exact absurd rfl hn
    | cons a b => rfl
  by_cases k1 : k = 1
  · subst k1
    exact wpAny_binaryOp_repeat_ref (T := "tuple") (U := "int") (by decide) ⟨_, ho, rfl⟩ (fun s' => typeIs_int s' 1 t) noFill_tuple_mul F.fills_int_mul F.slot_int_rmul repeat_tuple F.slot_int_index.lookup
      (call_meets F.slot_int_rmul (typeIs_int s 1 t) F.entry_int_rmul (F.args_int_rmul_2 _ _) (int_rmul_tuple 1 t l its.toArray n dd sl)
        ⟨ho, rfl, ⟨_, ho, rfl⟩, call_meets F.slot_tuple_mul ⟨_, ho, rfl⟩ F.entry_tuple_mul (F.args_tuple_mul_2 _ _) (tuple_mul1 l its.toArray n dd sl t) ⟨ho, ⟨.ref l, H, I, rfl, q1 rfl⟩⟩⟩)
  · have q := q k1
    by_cases k0 : k = 0
    · subst k0
      refine wpAny_binaryOp_repeat_ref (T := "tuple") (U := "int") (by decide) ⟨_, ho, rfl⟩ (fun s' => typeIs_int s' 0 t) noFill_tuple_mul F.fills_int_mul F.slot_int_rmul repeat_tuple F.slot_int_index.lookup
        (call_meets F.slot_int_rmul (typeIs_int s 0 t) F.entry_int_rmul (F.args_int_rmul_2 _ _) (int_rmul_tuple 0 t l its.toArray n dd sl)
          ⟨ho, rfl, ⟨_, ho, rfl⟩, call_meets F.slot_tuple_mul ⟨_, ho, rfl⟩ F.entry_tuple_mul (F.args_tuple_mul_2 _ _) (tuple_mul0 l its.toArray n dd sl t hi) ⟨ho, ?_⟩⟩)
      have z : ([] : List V).length ≤ sizeLine := Nat.zero_le _
      exact ⟨.ref s.heap.objs.size, _, laidT (t' := s.toks) (its := []) I (fun b u e => Heap.get?_push_of_some _ e) (Nat.le_refl _) z .nil (Heap.get?_push_size _ rfl), rfl, q _ _ (I.hok.fresh (Nat.le_refl _)) plT⟩
    · have hsz0 : its.toArray.size = xs.length := by rw [List.size_toArray, hle]
      have hm : ((its.toArray.size : Nat) : Int) * k ≤ 1000000 := by
        rw [hsz0]
        have a1 : ((xs.length : Nat) : Int) * k ≤ 1000 * k := Int.mul_le_mul_of_nonneg_right (by omega) (by omega)
        omega
      have flen : (List.replicate k.toNat its).flatten.length ≤ sizeLine := by
        rw [PyProof.Rows.lm_len_rep_flat, hle, sizeLine_eq]
        have a1 : k.toNat * xs.length ≤ 1000 * 1000 := Nat.mul_le_mul (by omega) hz
        omega
      have flen2 : (List.replicate k.toNat xs).flatten.length ≤ sizeLine := by
        rw [PyProof.Rows.lm_len_rep_flat, sizeLine_eq]
        have a1 : k.toNat * xs.length ≤ 1000 * 1000 := Nat.mul_le_mul (by omega) hz
        omega
      have c0 : (decide (k < -(2 ^ 63)) || decide (k ≥ 2 ^ 63)) = false := by
        rw [decide_eq_false (by omega), decide_eq_false (by omega)] <;> rfl
      have c1 : (its.toArray.isEmpty || k == 1) = false := by
        rw [hi, Bool.false_or]
        exact beq_eq_false_iff_ne.mpr (by omega)
      have c2 : (decide (k ≤ 0) || its.toArray.isEmpty) = false := by
        rw [hi, Bool.or_false]
        exact decide_eq_false (by omega)
      have c4 : Builtin.Tuple.tupleTooMany (((its.toArray.size : Nat) : Int) * k) = false := by
        unfold Builtin.Tuple.tupleTooMany
        rw [sizeLine_eq]
        exact decide_eq_false (by omega)
      refine wpAny_binaryOp_repeat_ref (T := "tuple") (U := "int") (by decide) ⟨_, ho, rfl⟩ (fun s' => typeIs_int s' k t) noFill_tuple_mul F.fills_int_mul F.slot_int_rmul repeat_tuple F.slot_int_index.lookup
        (call_meets F.slot_int_rmul (typeIs_int s k t) F.entry_int_rmul (F.args_int_rmul_2 _ _) (int_rmul_tuple k t l its.toArray n dd sl)
          ⟨ho, rfl, ⟨_, ho, rfl⟩, call_meets F.slot_tuple_mul ⟨_, ho, rfl⟩ F.entry_tuple_mul (F.args_tuple_mul_2 _ _) (tuple_mulW l its.toArray n dd sl k t c0 c1 c2 (by omega) c4 (by rw [size_rep, List.size_toArray]; exact flen)) ⟨ho, ?_⟩⟩)
      rw [size_rep]
      exact ⟨.ref s.heap.objs.size, _, laidT (t' := s.toks) I (fun b u e => Heap.get?_push_of_some _ e) (Nat.le_refl _) flen2 (r.rep k.toNat) (Heap.get?_push_size _ rfl), rfl, q _ _ (I.hok.fresh (Nat.le_refl _)) plT⟩
end
def gMulT : List A → Hh → Option A
  | [a, .dat (.int k)], _ => a.tup.bind fun ds => if ds ≠ [] ∧ 0 ≤ k ∧ k ≤ 1000 ∧ ds.length ≤ 1000 then some (.dat (.tuple (List.replicate k.toNat ds).flatten)) else none
  | _, _ => none
def gMulL : List A → Hh → Option A
  | [a, .dat (.int k)], _ => a.lst.bind fun ds => if 0 ≤ k ∧ k ≤ 1000 ∧ ds.length ≤ 1000 then some (.ob (.lst (List.replicate k.toNat ds).flatten)) else none
  | _, _ => none
section
variable {K : PySem.W.Frag}
theorem dps_rep {F : Hp} {vs : List V} {ds : List D} (h : DqAll K F vs ds) : ∀ n : Nat, DqAll K F (List.replicate n vs).flatten (List.replicate n ds).flatten
  | 0 => .nil
  | n + 1 => by rw [List.replicate_succ, List.replicate_succ, List.flatten_cons, List.flatten_cons]; exact dps_append h (dps_rep h n)
theorem prim_mulT : Prim K (r2L (rRepP K)) gMulT := by
  intro H μ Oc T P h as vs a Q nd rc ra lv hg go
  unfold gMulT at hg
  split at hg
  · rename_i a k
    obtain ⟨v, w, P1, P2, rfl, r1, r2, _⟩ := ras2 ra
    obtain ⟨rfl, _⟩ := dat_int r2
    obtain ⟨ds, h1, h2⟩ := Option.bind_eq_some_iff.mp hg
    split at h2
    · rename_i hc
      cases h2
      have t1 := tup_dat r1 h1
      obtain ⟨p, ws, rfl, e1, e2⟩ := r1.itemsT h1
      have hl := dps_length e2
      refine ⟨_, _, rfl, p, k, ws, rfl, rfl, e1.sq, fun z => hc.1 ?_, hc.2.1, hc.2.2.1, by rw [hl]; exact hc.2.2.2, fun z => ?_, fun z l o hl ho => newT_go hl ho (nin_c rc hl) (nin_t lv hl) (dps_rep e2 _) go⟩
      · subst z
        cases e2
        rfl
      · subst z
        have : (List.replicate (1 : Int).toNat ds).flatten = ds := by simp
        rw [this] at go
        exact old_go t1 go
    · cases h2
  · cases hg
theorem prim_mulL : Prim K (r2L rRep) gMulL := by
  intro H μ Oc T P h as vs a Q nd rc ra lv hg go
  unfold gMulL at hg
  split at hg
  · rename_i a k
    obtain ⟨v, w, P1, P2, rfl, r1, r2, _⟩ := ras2 ra
    obtain ⟨rfl, _⟩ := dat_int r2
    obtain ⟨ds, h1, h2⟩ := Option.bind_eq_some_iff.mp hg
    split at h2
    · rename_i hc
      cases h2
      obtain ⟨p, ws, rfl, e1, e2⟩ := r1.itemsL h1
      have hl := dps_length e2
      refine ⟨_, _, rfl, p, k, ws, rfl, rfl, e1, by omega, by omega, ?_, fun l hl => newL_go hl (dps_rep e2 _) go⟩
      rw [hl]
      have a1 : ds.length * k.toNat ≤ 1000 * 1000 := Nat.mul_le_mul hc.2.2 (by omega)
      rw [sizeLine_eq]
      omega
    · cases h2
  · cases hg
end
section
variable {X : Cx} {Γ : Nat → Addr} {E : XK} {pos : Pos} {a b : Expr} {f g : EF}
theorem e_mulT (ha : PE X a (tE X.K Γ E f)) (hb : PE X b (tE X.K Γ E g)) : PE X (.BinOp a .Mult b pos) (tE X.K Γ E (fPrim gMulT (fCons f (fCons g fNil)))) := e_op op_repP prim_mulT ha hb
theorem e_mulL (ha : PE X a (tE X.K Γ E f)) (hb : PE X b (tE X.K Γ E g)) : PE X (.BinOp a .Mult b pos) (tE X.K Γ E (fPrim gMulL (fCons f (fCons g fNil)))) := e_op op_rep prim_mulL ha hb
end
end Mi
/-! Mini: list.pop(i). -/
namespace Mi
open PySem L2 PySem.Spec PyProof.Rows
def popD (ds : List D) (i : Int) : Option (D × List D) := if 0 ≤ i ∧ i < ds.length ∧ i < 1000000 then (ds[i.toNat]?).map fun d => (d, ds.eraseIdx i.toNat) else none
def calmE (r : Res A) : Res A := match r with
  | .exc _ _ => .er
  | r => r
def fSetPop (i j : Nat) (fe : EF) : SF := fun env h => match env[j]? with
  | some (some (.ob (.lst ds))) => onE (calmE (fe env h)) fun a h1 => match a with
    | .dat (.int k) => onP (popD ds k) fun p => .nx ((env.set j (some (.ob (.lst p.2)))).set i (some (.dat p.1))) h1
    | _ => .er
  | _ => .er
def fAppPop (i j : Nat) (fe : EF) : SF := fun env h => match env[i]?, env[j]? with
  | some (some (.ob (.lst es))), some (some (.ob (.lst ds))) => if i ≠ j ∧ es.length < LIM then onE (calmE (fe env h)) fun a h1 => match a with
    | .dat (.int k) => onP (popD ds k) fun p => .nx ((env.set j (some (.ob (.lst p.2)))).set i (some (.ob (.lst (es ++ [p.1]))))) h1
    | _ => .er else .er
  | _, _ => .er
section
variable {K : PySem.W.Frag} {Γ : Nat → Addr} {E : XK} {σ σ1 : L2.St} {μ μ1 Oc Oc1 B S S1 P : List Addr} {env env1 : En} {H H1 : Hp} {h h1 : Hh} {D' : Ends} {F F' : Hp}
theorem dps_erase {F : Hp} : ∀ {vs : List V} {ds : List D} (j : Nat), DqAll K F vs ds → DqAll K F (vs.eraseIdx j) (ds.eraseIdx j)
  | _, _, _, .nil => .nil
  | _, _, 0, .cons _ t => t
  | _, _, j + 1, .cons q t => .cons q (dps_erase j t)
theorem seqIx {i : Int} {n : Nat} (h0 : 0 ≤ i) (h1 : i < n) : seqIndex? i n = some i.toNat := by
  have := (ixN_seq (n := n) (i := i) (j := i.toNat) (by unfold ixN; rw [if_pos h0, if_pos h1])).1
  exact this
/-- the pop itself -/
theorem pop_core {j : Nat} {fe : EF} {ds : List D} {Q : VK} {kk : A → Hh → SRes} (s : SSim K H σ μ Oc B S env h) (hs : env[j]? = some (some (.ob (.lst ds))))
    (go : GoS K Γ E (onE (calmE (fe env h)) kk) D' H μ Oc B S)
    (hQ : ∀ k d ds' h1 H1 μ1 Oc1 v, popD ds k = some (d, ds') → GoS K Γ E (kk (.dat (.int k)) h1) D' H μ Oc B S → SPs K μ Oc B S H σ (env.set j (some (.ob (.lst ds')))) h1 H1 μ1 Oc1 S → Dq K (mns H1 (Oc1 ++ (B ++ S))) v d → Q v H1)
    (hk : ∀ a h1, (∀ k, a = .dat (.int k) → popD ds k = none) → GoS K Γ E (kk a h1) D' H μ Oc B S → False) :
    tBM K "list" rPopAt (tVar j) (tA K Γ E (fCons fe fNil)) σ H Q := by
  obtain ⟨Os, o1, o2, o3⟩ := s.slots
  obtain ⟨v, P0, e1, e2, e3⟩ := o3.get hs
  cases e2 with
  | @ob _ p _ e2 =>
    cases e2 with
    | @lst _ _ ws h1 h2 =>
      refine ⟨.ref p, e1, .inl ⟨rfl, ws, .of h1⟩, μ, Oc, B ++ S, env, h, s.sim, ?_⟩
      cases hf : fe env h with
      | er => rw [hf] at go; exact go.elim
      | exc c h1 => rw [hf] at go; exact go.elim
      | ok a h1' =>
        rw [hf] at go
        simp only [calmE, onE] at go
        simp only [fCons, hf, Res.bind, fNil]
        intro us H1 μ1 Oc1 P p1
        obtain ⟨u, rfl, ru⟩ := ras1 p1.val
        by_cases hc : ∃ k d ds', a = .dat (.int k) ∧ popD ds k = some (d, ds')
        · obtain ⟨k, d, ds', rfl, hpop⟩ := hc
          obtain ⟨rfl, _⟩ := dat_int ru
          have hp : p ∈ S := o1 p (e3 p List.mem_cons_self)
          have hH : H1 p = some (.lst ws) := p1.gr.keep p _ (nd_ne' s.nd (List.mem_append_right _ hp)) h1
          have ex : Ex (mns H (Oc ++ (B ++ S))) (mns H1 (Oc1 ++ (B ++ S))) := fr_step p1.gr fun q hq => .inl hq
          have hd := ex_dps ex h2
          have hpop0 := hpop
          unfold popD at hpop
          split at hpop
          · rename_i hb
            obtain ⟨d0, g1, g2⟩ := Option.map_eq_some_iff.mp hpop
            cases g2
            obtain ⟨w, k1, k2⟩ := dps_get hd g1
            have hl := dps_length hd
            refine ⟨p, ws, k, k.toNat, w, rfl, rfl, hH, by omega, ?_, seqIx hb.1 (by rw [hl]; exact hb.2.1), k1, ?_⟩
            · have := hb.2.2
              omega
            · have q0 := (p1.ssim0 s).mut hs e1 (dps_erase k.toNat hd)
              have hpO : p ∈ Oc1 ++ (B ++ S) := List.mem_append_right _ (List.mem_append_right _ hp)
              exact hQ k d _ h1' _ μ1 Oc1 w hpop0 go q0 (ex_dp (ex_upd hpO) k2)
          · cases hpop
        · exact (hk a h1' (fun k ek => by
            cases hp : popD ds k with
            | none => rfl
            | some x => exact absurd ⟨k, x.1, x.2, ek, hp⟩ hc) go).elim
theorem tS_setPop {i j : Nat} {fe : EF} : tS K Γ E (fSetPop i j fe) D' σ H → tAsg (tBM K "list" rPopAt (tVar j) (tA K Γ E (fCons fe fNil))) (gName i) D' σ H := by
  rintro ⟨μ, Oc, B, S, env, h, s, go⟩
  unfold fSetPop at go
  split at go
  · rename_i ds hs
    refine pop_core s hs go (fun k d ds' h1 H1 μ1 Oc1 v hp go q dv => ?_) fun a h1 hn go => ?_
    · simp only [hp, onP] at go
      refine go _ H1 μ1 Oc1 S ⟨⟨q.sim.nd, q.sim.cells, q.sim.slots.set i dv, q.sim.live⟩, q.gs⟩
    · split at go
      · rename_i k
        rw [hn k rfl] at go
        exact go
      · exact go
  · exact go.elim
theorem tS_appPop {i j : Nat} {fe : EF} : tS K Γ E (fAppPop i j fe) D' σ H → tDrop (tBM K "list" rAppend (tVar i) (tCons (tBM K "list" rPopAt (tVar j) (tA K Γ E (fCons fe fNil))) tNil)) D' σ H := by
  rintro ⟨μ, Oc, B, S, env, h, s, go⟩
  unfold fAppPop at go
  split at go
  · rename_i es ds hi hs
    split at go
    · rename_i hc
      obtain ⟨Os, o1, o2, o3⟩ := s.slots
      obtain ⟨v, P0, e1, e2, e3⟩ := o3.get hi
      cases e2 with
      | @ob _ p _ e2 =>
        cases e2 with
        | @lst _ _ ws h1 h2 =>
          refine ⟨.ref p, e1, .inl ⟨rfl, ws, .of h1⟩, ?_⟩
          refine pop_core s hs go (fun k d ds' h1 H1 μ1 Oc1 v hp go q dv => ?_) fun a h1 hn go => ?_
          · simp only [hp, onP] at go
            have hi' : (env.set j (some (.ob (.lst ds'))))[i]? = some (some (.ob (.lst es))) := by
              rw [List.getElem?_set_ne (fun e => hc.1 e.symm)]; exact hi
            obtain ⟨Os2, m1, m2, m3⟩ := q.sim.slots
            obtain ⟨v2, P2, f1, f2, f3⟩ := m3.get hi'
            rw [e1] at f1
            cases f1
            cases f2 with
            | ob f2 =>
              cases f2 with
              | @lst _ _ ws2 g1 g2 =>
                refine ⟨p, ws2, v, rfl, rfl, g1, by rw [dps_length g2]; exact lim_lt hc.2, ?_⟩
                exact go σ _ μ1 Oc1 S (q.mut hi' e1 (dps_append g2 (.cons dv .nil)))
          · split at go
            · rename_i k
              rw [hn k rfl] at go
              exact go
            · exact go
    · exact go.elim
  · exact go.elim
end
section
variable {X : Cx} {Γ : Nat → Addr} {E : XK} {pos apos cpos p2 apos2 cpos2 p3 : Pos} {e : Expr} {fe : EF}
theorem pe_pop {j : Nat} {y : Str} (he : PE X e (tE X.K Γ E fe)) (hN : X.N[j]? = some y) (hv : Vis X.env.scope y) (hd : (y == ("__debug__" : Str)) = false) (hcd : (y == ("__classdict__" : Str)) = false)
    (hbase : attributeBase (.Name y p2) "pop" X.env (eval (.Name y p2) X.env) = eval (.Name y p2) X.env)
    (hfew : ((backTo cpos (starEach [e] X.env)).all (fun x => !x.1) && (backToKw cpos (keywordEach [] X.env)).all (fun x => x.1.isSome)
      && decide ([e].length + ([] : List Keyword).length + (if ([] : List Keyword).isEmpty then 0 else 1) < 30)) = true)
    (hline : (apos.endLine == cpos.line) = true) (hs : starEach [e] X.env = (false, eval e X.env) :: starEach [] X.env) (hplain : (backTo cpos (starEach [] X.env)).any (·.1) = false) :
    PE X (.Call (.Attribute (.Name y p2) "pop" apos) [e] [] cpos) (tBM X.K "list" rPopAt (tVar j) (tA X.K Γ E (fCons fe fNil))) :=
  pe_bm PySem.F.plainAttrs_list PySem.F.slot_list_pop PySem.F.type_list_pop mt_popAt (pe_var hN hv hd hcd) (a_cons he a_nil hs) hbase hfew hline hs hplain
theorem s_setPop (i j : Nat) {x y : Str} {pos' : Pos} (hNd : X.N.Nodup) (he : PE X e (tE X.K Γ E fe)) (hi : X.N[i]? = some x := by rfl) (hx : Loc X.env.scope x := by first | exact Or.inl rfl | exact Or.inr rfl)
    (hN : X.N[j]? = some y := by rfl) (hv : Vis X.env.scope y := by first | exact Or.inl rfl | exact Or.inr (Or.inl rfl) | exact Or.inr (Or.inr rfl)) (hd : (y == ("__debug__" : Str)) = false := by decide) (hcd : (y == ("__classdict__" : Str)) = false := by decide)
    (hbase : attributeBase (.Name y p2) "pop" X.env (eval (.Name y p2) X.env) = eval (.Name y p2) X.env := by rfl)
    (hfew : ((backTo cpos (starEach [e] X.env)).all (fun x => !x.1) && (backToKw cpos (keywordEach [] X.env)).all (fun x => x.1.isSome)
      && decide ([e].length + ([] : List Keyword).length + (if ([] : List Keyword).isEmpty then 0 else 1) < 30)) = true := by rfl)
    (hline : (apos.endLine == cpos.line) = true := by rfl) (hs : starEach [e] X.env = (false, eval e X.env) :: starEach [] X.env := by rfl) (hplain : (backTo cpos (starEach [] X.env)).any (·.1) = false := by rfl)
    (hsw : swapsWith (.Call (.Attribute (.Name y p2) "pop" apos) [e] [] cpos) (some (.Name x pos')) pos.line X.env = pure false := by rfl) (hf : X.fn x = true ∨ X.env.scope.names.lookup x = some .local := by first | exact .inl rfl | exact .inr rfl | assumption) :
    PS X (.Assign [.Name x pos'] (.Call (.Attribute (.Name y p2) "pop" apos) [e] [] cpos) pos) (tS X.K Γ E (fSetPop i j fe)) :=
  ps_imp (ps_set hNd hi hx (pe_pop he hN hv hd hcd hbase hfew hline hs hplain) hsw hf) fun _ _ _ => tS_setPop
theorem s_appPop (i j : Nat) {x y : Str} (he : PE X e (tE X.K Γ E fe))
    (hN : X.N[j]? = some y := by rfl) (hv : Vis X.env.scope y := by first | exact Or.inl rfl | exact Or.inr (Or.inl rfl) | exact Or.inr (Or.inr rfl)) (hd : (y == ("__debug__" : Str)) = false := by decide) (hcd : (y == ("__classdict__" : Str)) = false := by decide)
    (hbase : attributeBase (.Name y p2) "pop" X.env (eval (.Name y p2) X.env) = eval (.Name y p2) X.env := by rfl)
    (hfew : ((backTo cpos (starEach [e] X.env)).all (fun x => !x.1) && (backToKw cpos (keywordEach [] X.env)).all (fun x => x.1.isSome)
      && decide ([e].length + ([] : List Keyword).length + (if ([] : List Keyword).isEmpty then 0 else 1) < 30)) = true := by rfl)
    (hline : (apos.endLine == cpos.line) = true := by rfl) (hs : starEach [e] X.env = (false, eval e X.env) :: starEach [] X.env := by rfl) (hplain : (backTo cpos (starEach [] X.env)).any (·.1) = false := by rfl)
    (hN2 : X.N[i]? = some x := by rfl) (hv2 : Vis X.env.scope x := by first | exact Or.inl rfl | exact Or.inr (Or.inl rfl) | exact Or.inr (Or.inr rfl)) (hd2 : (x == ("__debug__" : Str)) = false := by decide) (hcd2 : (x == ("__classdict__" : Str)) = false := by decide)
    (hbase2 : attributeBase (.Name x p3) "append" X.env (eval (.Name x p3) X.env) = eval (.Name x p3) X.env := by rfl)
    (hfew2 : ((backTo cpos2 (starEach [.Call (.Attribute (.Name y p2) "pop" apos) [e] [] cpos] X.env)).all (fun x => !x.1) && (backToKw cpos2 (keywordEach [] X.env)).all (fun x => x.1.isSome)
      && decide ([Expr.Call (.Attribute (.Name y p2) "pop" apos) [e] [] cpos].length + ([] : List Keyword).length + (if ([] : List Keyword).isEmpty then 0 else 1) < 30)) = true := by rfl)
    (hline2 : (apos2.endLine == cpos2.line) = true := by rfl) (hs2 : starEach [.Call (.Attribute (.Name y p2) "pop" apos) [e] [] cpos] X.env = (false, eval (.Call (.Attribute (.Name y p2) "pop" apos) [e] [] cpos) X.env) :: starEach [] X.env := by rfl) (hplain2 : (backTo cpos2 (starEach [] X.env)).any (·.1) = false := by rfl)
    (hsw : swapsWith (.Call (.Attribute (.Name x p3) "append" apos2) [.Call (.Attribute (.Name y p2) "pop" apos) [e] [] cpos] [] cpos2) none pos.line X.env = pure false := by rfl) :
    PS X (.Expr (.Call (.Attribute (.Name x p3) "append" apos2) [.Call (.Attribute (.Name y p2) "pop" apos) [e] [] cpos] [] cpos2) pos) (tS X.K Γ E (fAppPop i j fe)) :=
  ps_imp (ps_expr (pe_bm PySem.F.plainAttrs_list PySem.F.slot_list_append PySem.F.type_list_append mt_append (pe_var hN2 hv2 hd2 hcd2) (pa_cons (pe_pop he hN hv hd hcd hbase hfew hline hs hplain) pa_nil hs2) hbase2 hfew2 hline2 hs2 hplain2) hsw) fun _ _ _ => tS_appPop
end
end Mi
/-! Mini: the least of a list of tuples of whole numbers. -/
namespace Mi
open PySem L2 PySem.Spec PyProof.Rows
def trip : D → Bool
  | .tuple [.int _, .int _, .int _] => true
  | _ => false
theorem trip_eq {d : D} (h : trip d = true) : ∃ a b c, d = .tuple [.int a, .int b, .int c] := by
  unfold trip at h
  split at h
  · exact ⟨_, _, _, rfl⟩
  · cases h
def gMinT : List A → Hh → Option A
  | [a], _ => a.lst.bind fun ds => match ds with
    | [] => none
    | x :: xs => if trip x = true ∧ xs.all trip = true then some (.dat (PySem.W.minD x xs)) else none
  | _, _ => none
def rMinT (K : PySem.W.Frag) : List V → Hp → VK → Prop := fun vs H Q => ∃ (a : Addr) (ws : List V) (x : D) (xs : List D), vs = [V.ref a] ∧ H a = some (.lst ws) ∧ DpAll K H ws (x :: xs) ∧ trip x = true ∧ xs.all trip = true ∧
  ∀ (i : Nat) (w : V), ws[i]? = some w → (x :: xs)[i]? = some (PySem.W.minD x xs) → Q w H
theorem alike_trip {x y : D} (hx : trip x = true) (hy : trip y = true) : PySem.W.alike x y = true := by
  obtain ⟨a, b, c, rfl⟩ := trip_eq hx
  obtain ⟨a', b', c', rfl⟩ := trip_eq hy
  rfl
theorem depth_trip {x : D} (hx : trip x = true) : x.depth ≤ 2 := by
  obtain ⟨a, b, c, rfl⟩ := trip_eq hx
  simp only [PyData.depth, PyData.depthAll]
  omega
theorem depths_trip : ∀ {xs : List D}, xs.all trip = true → PyData.depthAll xs ≤ 2
  | [], _ => by decide
  | x :: xs, h => by
    rw [List.all_cons, Bool.and_eq_true] at h
    have h1 := depth_trip h.1
    have h2 := depths_trip h.2
    rw [PyData.depthAll]; omega
theorem lay_trip {x : D} (hx : trip x = true) : x.canLay0 = true := by
  obtain ⟨a, b, c, rfl⟩ := trip_eq hx
  rfl
theorem cr_minT {X : Cx} (hc : X.calm = true) (hu : X.A.units + 64 < cLine) : CallR X (.builtin "min") (rMinT X.K) := by
  intro pins s σ H vs us Q I r h
  obtain ⟨a, ws, x, xs, rfl, hH, hd, t1, t2, q⟩ := h
  obtain ⟨its, rv, hl, hz⟩ := I.list (.of hH)
  rw [Vals.ref1 r]
  obtain ⟨as, hr⟩ := Dp.readsAll I (x :: xs) ws its hd rv
  have hall : (x :: xs).all trip = true := by rw [List.all_cons, t1, t2]; rfl
  have hal : ∀ y ∈ x :: xs, trip y = true := List.all_eq_true.mp hall
  have ha : PySem.W.AlikeAll (x :: xs) := ⟨fun y hy z hz => alike_trip (hal y hy) (hal z hz), fun y hy e => by
    have := hal y hy
    rw [e] at this
    cases this⟩
  have hdp := depths_trip hall
  refine PySem.W.min_list_data (I.ok.hd hc) hl.isList (vs := its.toArray) (by simpa using hr) ha (by omega) fun i v h' tk bs hv rd hk => ?_
  have hv' : its[i]? = some v := by simpa using hv
  -- which one it is
  have hlen : its.length = ws.length := rv.length.symm
  have hi : i < its.length := (List.getElem?_eq_some_iff.mp hv').1
  obtain ⟨w, hw⟩ : ∃ w, ws[i]? = some w := ⟨ws[i], List.getElem?_eq_getElem (by omega)⟩
  obtain ⟨u, hu1, hu2⟩ := rv.get hw
  rw [hv'] at hu1
  cases hu1
  have hds : (x :: xs).length = ws.length := by
    have : ∀ {vs : List V} {ds : List D}, DpAll X.K H vs ds → vs.length = ds.length := by
      intro vs ds h
      induction ds generalizing vs with
      | nil => cases h; rfl
      | cons d ds ih => cases h with | cons _ h2 => rw [List.length_cons, List.length_cons, ih h2]
    exact (this hd).symm
  obtain ⟨d, hdi⟩ : ∃ d, (x :: xs)[i]? = some d := ⟨(x :: xs)[i], List.getElem?_eq_getElem (by omega)⟩
  have hdw : Dp X.K H w d := by
    have : ∀ {vs : List V} {ds : List D} {i : Nat}, DpAll X.K H vs ds → vs[i]? = some w → ds[i]? = some d → Dp X.K H w d := by
      intro vs ds i h
      induction ds generalizing vs i with
      | nil => cases h; intro e; simp at e
      | cons d0 ds ih =>
        cases h with
        | cons h1 h2 =>
          intro e1 e2
          cases i with
          | zero => simp at e1 e2; subst e1 e2; exact h1
          | succ i => exact ih h2 (by simpa using e1) (by simpa using e2)
    exact this hd hw hdi
  obtain ⟨bs2, rd2⟩ := Dp.reads I d w v hdw hu2
  have rd3 : Reads h' v d bs2 := Reads.keeps hk rd2
  have ed : d = PySem.W.minD x xs := (Reads.unique rd3 _ _ rd).1
  rw [ed] at hdi
  exact ⟨w, H, I.kept hk, hu2, q i w hw hdi⟩
theorem prim_minT {K : PySem.W.Frag} : Prim K (rMinT K) gMinT := by
  intro H μ Oc T P h as vs a Q nd rc ra lv hg go
  unfold gMinT at hg
  split at hg
  · obtain ⟨v, rfl, r⟩ := ras1 ra
    obtain ⟨ds, h1, h2⟩ := Option.bind_eq_some_iff.mp hg
    split at h2
    · cases h2
    · rename_i x xs
      split at h2
      · rename_i hc
        cases h2
        obtain ⟨p, ws, rfl, e1, e2⟩ := r.itemsL h1
        refine ⟨p, ws, x, xs, rfl, e1, (ex_dps exFH e2).dp, hc.1, hc.2, fun i w hw hx => ?_⟩
        obtain ⟨w', k1, k2⟩ := dps_get e2 hx
        rw [hw] at k1
        cases k1
        exact old_go k2 go
      · cases h2
  · cases hg
end Mi
/-! Mini: a dict of whole numbers by whole numbers, owned by a name. -/
namespace Mi
open PySem L2 PySem.Spec PyProof.Rows
def dGet (kvs : List (Int × Int)) (k : Int) : Option Int := (kvs.find? fun q => decide (q.1 = k)).map (·.2)
def dPut (kvs : List (Int × Int)) (k v : Int) : List (Int × Int) := if (kvs.any fun q => decide (q.1 = k)) then kvs.map (fun q => if q.1 = k then (q.1, v) else q) else kvs ++ [(k, v)]
theorem dEnc_get (k : Int) : ∀ kvs : List (Int × Int), valV (dEnc kvs) (Sum.inl k : Key) = (dGet kvs k).map V.int
  | [] => rfl
  | q :: kvs => by
    by_cases e : q.1 = k
    · have h1 : valV (dEnc (q :: kvs)) (Sum.inl k : Key) = some (V.int q.2) := valV_pos (p := ((Sum.inl q.1 : Key), V.int q.2)) (by rw [e])
      rw [h1]; simp [dGet, e]
    · have h1 : valV (dEnc (q :: kvs)) (Sum.inl k : Key) = valV (dEnc kvs) (Sum.inl k : Key) := valV_neg (p := ((Sum.inl q.1 : Key), V.int q.2)) (fun z => e (by injection z))
      rw [h1, dEnc_get k kvs]; simp [dGet, e]
theorem dEnc_put (kvs : List (Int × Int)) (k v : Int) : putK (dEnc kvs) (Sum.inl k : Key) (V.int v) = dEnc (dPut kvs k v) := by
  have ha : ((dEnc kvs).any fun kv => decide (kv.1 = (Sum.inl k : Key))) = kvs.any fun q => decide (q.1 = k) := by
    unfold dEnc
    rw [List.any_map]
    congr 1
    funext q
    simp
  unfold putK dPut
  rw [ha]
  split
  · unfold dEnc
    rw [List.map_map, List.map_map]
    congr 1
    funext q
    by_cases e : q.1 = k <;> simp [e]
  · unfold dEnc
    rw [List.map_append]; rfl
theorem dEnc_len (kvs : List (Int × Int)) : (dEnc kvs).length = kvs.length := List.length_map ..
def gDct : List A → Hh → Option A
  | [], _ => some (.dc [])
  | _, _ => none
def fGetD (i : Nat) (fi : EF) : EF := fun env h => match env[i]? with
  | some (some (.dc kvs)) => (fi env h).bind fun a h1 => match a with
    | .dat (.int k) => optR ((dGet kvs k).map fun v => .dat (.int v)) h1
    | _ => .er
  | _ => .er
def fSetD (i : Nat) (fe fi : EF) : SF := fun env h => match fe env h with
  | .ok a h1 => match fi env h1 with
    | .ok b h2 => match a, b, env[i]? with
      | .dat (.int v), .dat (.int k), some (some (.dc kvs)) => if kvs.length < LIM then .nx (env.set i (some (.dc (dPut kvs k v)))) h2 else .er
      | _, _, _ => .er
    | _ => .er
  | .exc c h1 => .exc c h1
  | .er => .er
section
variable {K : PySem.W.Frag} {Γ : Nat → Addr} {E : XK} {σ σ1 : L2.St} {μ μ1 Oc Oc1 B S S1 P : List Addr} {env env1 : En} {H H1 : Hp} {h h1 : Hh} {D' : Ends} {F F' : Hp}
theorem prim_dct : Prim K (fun _ H Q => ∀ p, H p = none → Q (.ref p) (upd H p (.dK []))) gDct := by
  intro H μ Oc T P h as vs a Q nd rc ra lv hg go
  unfold gDct at hg
  split at hg
  · cases hg
    intro p hp
    refine go _ _ [p] (Ex.new hp) (fun q z => .inr ?_) (List.nodup_cons.mpr ⟨List.not_mem_nil, List.nodup_nil⟩) (.dc upd_same)
    have e : q = p := by simpa using z
    rw [e]; exact hp
  · cases hg
theorem tE_dct {Q : VK} (hq : tE K Γ E (fPrim gDct fNil) σ H Q) : tDNewK σ H Q := tA_nil (tE_prim prim_dct hq)
theorem tE_getD {i : Nat} {fi : EF} {Q : VK} : tE K Γ E (fGetD i fi) σ H Q → tDGet (tVar i) (tE K Γ E fi) σ H Q := by
  rintro ⟨μ, Oc, T, env, h, s, go⟩
  unfold fGetD at go
  split at go
  · rename_i kvs hs
    obtain ⟨Os, o1, o2, o3⟩ := s.slots
    obtain ⟨v, P, e1, e2, e3⟩ := o3.get hs
    cases e2 with
    | @dc _ p e2 =>
      refine ⟨.ref p, e1, μ, Oc, T, env, h, s, ?_⟩
      cases hf : fi env h with
      | er => rw [hf] at go; exact go
      | exc c h1 => rw [hf] at go; exact go
      | ok a h1 =>
        rw [hf] at go
        simp only [Res.bind] at go
        intro y H1 μ1 Oc1 P1 p1
        split at go
        · rename_i k
          obtain ⟨y', ey, ry⟩ := ras1 p1.val
          cases ey
          obtain ⟨rfl, _⟩ := dat_int ry
          cases hd : dGet kvs k with
          | none => rw [hd] at go; exact go.elim
          | some v =>
            rw [hd] at go
            have hH : H1 p = some (.dK (dEnc kvs)) := p1.gr.keep p _ (nd_ne' s.nd (o1 p (e3 p List.mem_cons_self))) e2
            have dg := DGet.k (k := (Sum.inl k : Key)) hH
            rw [dEnc_get, hd] at dg
            exact ⟨p, .int v, rfl, dg, go _ H1 μ1 Oc1 [] (p1.prim (Ex.refl _) (fun _ z => absurd z List.not_mem_nil) List.nodup_nil (.dat (.int _)))⟩
        · exact go.elim
  · exact go.elim
theorem NF.updD {q p : Addr} {xs : List (Key × V)} (h : NF H q) : NF (L2.upd H p (.dK xs)) q := by
  by_cases e : q = p
  · subst e
    exact ⟨_, upd_same, fun _ _ z => nomatch z⟩
  · obtain ⟨o, ho, nf⟩ := h
    exact ⟨o, by rw [upd_ne e]; exact ho, nf⟩
theorem SPs.mutD {i : Nat} {kvs kvs' : List (Int × Int)} {p : Addr} (s : SPs K μ Oc B S H σ env h1 H1 μ1 Oc1 S) (he : env[i]? = some (some (.dc kvs))) (hv : σ[i]? = some (some (.ref p))) :
    SPs K μ Oc B S H σ (env.set i (some (.dc kvs'))) h1 (L2.upd H1 p (.dK (dEnc kvs'))) μ1 Oc1 S := by
  obtain ⟨Os, o1, o2, o3⟩ := s.sim.slots
  obtain ⟨v, Pi, O', k1, k2, k3, k4, k5, k6⟩ := o3.take he
  obtain ⟨m1, m2, m3⟩ := k6 o2
  rw [hv] at k1
  cases k1
  cases k2 with
  | dc k2 =>
    have hpS : p ∈ S := o1 p (k4 p List.mem_cons_self)
    have hpO : p ∈ Oc1 ++ (B ++ S) := List.mem_append_right _ (List.mem_append_right _ hpS)
    have ex : Ex (mns H1 (Oc1 ++ (B ++ S))) (mns (L2.upd H1 p (.dK (dEnc kvs'))) (Oc1 ++ (B ++ S))) := ex_upd hpO
    have ag : Ag O' H1 (L2.upd H1 p (.dK (dEnc kvs'))) := fun q hq o z => upd_at (fun e => m3 p List.mem_cons_self (by rw [← e]; exact hq)) z
    obtain ⟨O2, l1, l2, l3⟩ := (k3.mv ex (Pre.refl _) ag).set i (RA.dc (kvs := kvs') (p := p) upd_same)
    rw [set_same hv, List.set_set] at l1
    refine ⟨⟨s.sim.nd, s.sim.cells.mv ex fun q hq o z => ?_, ⟨O2, fun q hq => ?_, l3 m1 m2 m3, l1⟩, fun q hq => (s.sim.live q hq).updD⟩, ⟨fun q o h1 h2 e => ?_, s.gs.newO, s.gs.newS, fun q hq => s.gs.dom q (upd_dom hq), s.gs.pre⟩⟩
    · exact upd_at (fun e => nd_ne s.sim.nd hq (by rw [e]; exact List.mem_append_right _ hpS)) z
    · rcases l2 q hq with z | z
      · exact o1 q (k5 q z)
      · exact o1 q (k4 q z)
    · exact upd_at (fun z => h2 (by rw [z]; exact hpS)) (s.gs.keep q o h1 h2 e)
theorem tS_setD {i : Nat} {fe fi : EF} (hq : tS K Γ E (fSetD i fe fi) D' σ H) : sDPut (tVar i) (tE K Γ E fi) (tE K Γ E fe) D' σ H := by
  obtain ⟨μ, Oc, B, S, env, h, s, go⟩ := hq
  refine ⟨μ, Oc, B ++ S, env, h, s.sim, ?_⟩
  unfold fSetD at go
  cases hf : fe env h with
  | er => rw [hf] at go; exact go
  | exc c h1 => rw [hf] at go; exact XPs.of go
  | ok a h1 =>
    simp only [hf] at go
    intro v H1 μ1 Oc1 P1 p1
    cases hi : fi env h1 with
    | er => simp only [hi] at go; exact go.elim
    | exc c h2 =>
      simp only [hi] at go
      exact go.elim
    | ok b h2 =>
      simp only [hi] at go
      split at go
      · rename_i x k kvs hs
        split at go
        · rename_i hl
          obtain ⟨Os, o1, o2, o3⟩ := s.slots
          obtain ⟨vr, Pr, e1, e2, e3⟩ := o3.get hs
          cases e2 with
          | @dc _ p e2 =>
            refine ⟨.ref p, e1, μ1, Oc1, (B ++ S) ++ P1, env, h1, p1.sim, ?_⟩
            rw [hi]
            intro w H2 μ2 Oc2 P2 p2
            have pp := p1.app p2
            obtain ⟨v', w', P3, P4, ev, r1, r2, eP⟩ := ras2 pp.val
            cases ev
            obtain ⟨rfl, _⟩ := dat_int r1
            obtain ⟨rfl, _⟩ := dat_int r2
            have q0 := pp.ssim0 s
            have hH : H2 p = some (.dK (dEnc kvs)) := pp.gr.keep p _ (nd_ne' s.nd (List.mem_append_right _ (o1 p (e3 p List.mem_cons_self)))) e2
            have dp := DPut.k (k := (Sum.inl k : Key)) (v := V.int x) hH (by rw [dEnc_len]; exact lim_lt hl)
            rw [dEnc_put] at dp
            exact ⟨p, _, rfl, dp, go σ _ μ2 Oc2 S (q0.mutD hs e1)⟩
        · exact go.elim
      · exact go.elim
end
theorem u1 {n c : Nat} (h : n + 64 < c) : n + 1 < c := by omega
section
variable {X : Cx} {Γ : Nat → Addr} {E : XK} {pos p2 p3 p4 : Pos} {ei ev : Expr} {fi fe : EF}
theorem e_dct : PE X (.Dict [] [] pos) (tE X.K Γ E (fPrim gDct fNil)) := pe_imp pe_dnewK fun _ _ _ => tE_dct
theorem e_getD (i : Nat) {x : Str} (hu : X.A.units + 1 < cLine) (hi : PE X ei (tE X.K Γ E fi)) (hpl : NoSl ei := by exact fun _ _ => rfl)
    (hN : X.N[i]? = some x := by rfl) (hv : Vis X.env.scope x := by first | exact Or.inl rfl | exact Or.inr (Or.inl rfl) | exact Or.inr (Or.inr rfl)) (hd : (x == ("__debug__" : Str)) = false := by decide) (hcd : (x == ("__classdict__" : Str)) = false := by decide) :
    PE X (.Subscript (.Name x p2) ei pos) (tE X.K Γ E (fGetD i fi)) := pe_imp (pe_dget hu (pe_var hN hv hd hcd) hi hpl) fun _ _ _ => tE_getD
theorem s_setD (i : Nat) {x : Str} (hu : X.A.units + 1 < cLine) (he : PE X ev (tE X.K Γ E fe)) (hi : PE X ei (tE X.K Γ E fi))
    (hN : X.N[i]? = some x := by rfl) (hv : Vis X.env.scope x := by first | exact Or.inl rfl | exact Or.inr (Or.inl rfl) | exact Or.inr (Or.inr rfl)) (hd : (x == ("__debug__" : Str)) = false := by decide) (hcd : (x == ("__classdict__" : Str)) = false := by decide)
    (hs : swapsWith ev (some (.Subscript (.Name x p2) ei p3)) p4.line X.env = pure false := by rfl) :
    PS X (.Assign [.Subscript (.Name x p2) ei p3] ev p4) (tS X.K Γ E (fSetD i fe fi)) := ps_imp (ps_dput hu (pe_var hN hv hd hcd) hi he hs) fun _ _ _ => tS_setD
end
end Mi
/-! Mini: list(range(b)), list(range(a, b)). -/
namespace Mi
open PySem L2 PySem.Spec PyProof.Rows
def rgD (a b : Int) : List D := (List.range (b - a).toNat).map fun i => .int (a + (i : Nat))
def gLrg1 : List A → Hh → Option A
  | [.dat (.int b)], _ => if 0 ≤ b ∧ b ≤ 100000 then some (.ob (.lst (rgD 0 b))) else none
  | _, _ => none
def gLrg2 : List A → Hh → Option A
  | [.dat (.int a), .dat (.int b)], _ => if 0 ≤ a ∧ a ≤ 100000 ∧ 0 ≤ b ∧ b ≤ 100000 then some (.ob (.lst (rgD a b))) else none
  | _, _ => none
section
variable {K : PySem.W.Frag}
theorem dq_map {F : Hp} {α : Type} {f : α → V} {g : α → D} (h : ∀ x, Dq K F (f x) (g x)) : ∀ l : List α, DqAll K F (l.map f) (l.map g)
  | [] => .nil
  | x :: l => .cons (h x) (dq_map h l)
theorem dq_rg {F : Hp} (a b : Int) : DqAll K F (rgV a b) (rgD a b) := dq_map (fun i => .int _) _
theorem prim_lrg1 : Prim K (r1L fun x H Q => ∃ n, x = .int n ∧ (RgOk 0 n ∧ ∀ q, H q = none → Q (.ref q) (upd H q (.lst (rgV 0 n))))) gLrg1 := by
  intro H μ Oc T P h as vs a Q nd rc ra lv hg go
  unfold gLrg1 at hg
  split at hg
  · rename_i b
    split at hg
    · rename_i hb
      cases hg
      obtain ⟨v, rfl, r⟩ := ras1 ra
      obtain ⟨rfl, _⟩ := dat_int r
      refine ⟨_, rfl, b, rfl, RgOk.of_le (by omega) (by omega) (by omega) hb.1, fun p hp => go _ _ [p] (Ex.new hp) (fun q z => .inr ?_) (List.nodup_cons.mpr ⟨List.not_mem_nil, List.nodup_nil⟩) (ra_newL (P := []) hp (dq_rg _ _))⟩
      have e : q = p := by simpa using z
      rw [e]; exact hp
    · cases hg
  · cases hg
theorem prim_lrg2 : Prim K (r2L fun x y H Q => ∃ i j, x = .int i ∧ y = .int j ∧ (RgOk i j ∧ ∀ q, H q = none → Q (.ref q) (upd H q (.lst (rgV i j))))) gLrg2 := by
  intro H μ Oc T P h as vs a Q nd rc ra lv hg go
  unfold gLrg2 at hg
  split at hg
  · rename_i i j
    split at hg
    · rename_i hb
      cases hg
      obtain ⟨v, w, P1, P2, rfl, r1, r2, _⟩ := ras2 ra
      obtain ⟨rfl, _⟩ := dat_int r1
      obtain ⟨rfl, _⟩ := dat_int r2
      refine ⟨_, _, rfl, i, j, rfl, rfl, RgOk.of_le hb.1 (by omega) (by omega) hb.2.2.1, fun p hp => go _ _ [p] (Ex.new hp) (fun q z => .inr ?_) (List.nodup_cons.mpr ⟨List.not_mem_nil, List.nodup_nil⟩) (ra_newL (P := []) hp (dq_rg _ _))⟩
      have e : q = p := by simpa using z
      rw [e]; exact hp
    · cases hg
  · cases hg
end
section
variable {X : Cx} {Γ : Nat → Addr} {E : XK} {pos p p2 q : Pos} {a b : Expr} {f g : EF}
theorem e_lrg1 (hg : Gl X "list") (hm : X.mg "list" = none) (hg2 : Gl X "range") (hm2 : X.mg "range" = none) (ha : PE X a (tE X.K Γ E f)) (hc : X.calm = true := by rfl) (na : starEach [a] X.env = (false, eval a X.env) :: starEach [] X.env := by rfl)
    (nb : starEach [.Call (.Name "range" p2) [a] [] q] X.env = (false, eval (.Call (.Name "range" p2) [a] [] q) X.env) :: starEach [] X.env := by rfl) :
    PE X (.Call (.Name "list" p) [.Call (.Name "range" p2) [a] [] q] [] pos) (tE X.K Γ E (fPrim gLrg1 (fCons f fNil))) :=
  pe_imp (pe_listRg hc hg hm (prg_1 hg2 hm2 ha na) nb) fun _ _ _ hq => tE_un prim_lrg1 hq
theorem e_lrg2 (hg : Gl X "list") (hm : X.mg "list" = none) (hg2 : Gl X "range") (hm2 : X.mg "range" = none) (ha : PE X a (tE X.K Γ E f)) (hb : PE X b (tE X.K Γ E g)) (hc : X.calm = true := by rfl) (na : starEach [a, b] X.env = (false, eval a X.env) :: starEach [b] X.env := by rfl)
    (nc : starEach [b] X.env = (false, eval b X.env) :: starEach [] X.env := by rfl) (hpl : ((backTo q (starEach [b] X.env)).any fun x => x.fst) = false := by rfl)
    (nb : starEach [.Call (.Name "range" p2) [a, b] [] q] X.env = (false, eval (.Call (.Name "range" p2) [a, b] [] q) X.env) :: starEach [] X.env := by rfl) :
    PE X (.Call (.Name "list" p) [.Call (.Name "range" p2) [a, b] [] q] [] pos) (tE X.K Γ E (fPrim gLrg2 (fCons f (fCons g fNil)))) :=
  pe_imp (pe_listRg hc hg hm (prg_2 hg2 hm2 ha hb na nc hpl) nb) fun _ _ _ hq => tE_op prim_lrg2 hq
end
end Mi
/-! Mini: calls of defs that know of no cells. -/
namespace Mi
open PySem L2 PySem.Spec PyProof.Rows
def argP : A → A
  | .ob c => .dat c.toD
  | .sn c => .dat c.toD
  | .dc _ => .zz
  | .loc _ => .zz
  | a => a
def aftP (w : Bool) (h : Hh) (r : Res A) : Res A := match r with
  | .ok a [] => if isSn a then .er else if w then (if resOk a then .ok a h else .er) else .ok a h
  | .exc c [] => .exc c h
  | _ => .er
def fCallP (F : FF) (fs : AF) : EF := fun env h => (fs env h).bind fun as h1 => aftP (as.any isSn) h1 (F (as.map argP) [])
section
variable {K : PySem.W.Frag} {Γ : Nat → Addr} {E : XK} {F G G' W H : Hp} {μ Oc T P : List Addr}
theorem ra_argP {a : A} {v : V} {P' : List Addr} (nd : (Oc ++ (T ++ P)).Nodup) (hP : ∀ q ∈ P', q ∈ P) (hs : isSn a = false) (r : RA K (mns H (Oc ++ (T ++ P))) (mns H Oc) H μ a v P') : RA K (mns H ([] ++ (Oc ++ T))) (mns H ([] ++ (Oc ++ T))) H [] (argP a) v [] := by
  have e : ([] : List Addr) ++ (Oc ++ T) = Oc ++ T := rfl
  rw [e]
  cases r with
  | dat r => exact .dat (ex_dp exFG r)
  | sn r => cases hs
  | ob r => exact .dat (ra_sto nd (RA.ob (W := mns H Oc) (μ := μ) r) hP rfl)
  | loc r => exact .zz
  | scr r => exact .scr (ex_sqL exFG r)
  | dc r => exact .zz
  | zz => exact .zz
theorem ra_argPW {a : A} {v : V} {P' : List Addr} (nd : (Oc ++ (T ++ P)).Nodup) (hP : ∀ q ∈ P', q ∈ P) (r : RA K (mns H (Oc ++ (T ++ P))) (mns H Oc) H μ a v P') : RA K (mns H ([] ++ Oc)) (mns H ([] ++ Oc)) H [] (argP a) v [] := by
  have e0 : ([] : List Addr) ++ Oc = Oc := rfl
  have e : Ex (mns H ([] ++ (Oc ++ T))) (mns H ([] ++ Oc)) := mns_mono fun q hq => List.mem_append_right [] (List.mem_append_left _ hq)
  by_cases hs : isSn a = true
  · cases r with
    | sn r => exact .dat (r.frz (exFW (T := T) (P := P)) fun q _ o z => z)
    | dat r => cases hs
    | ob r => cases hs
    | loc r => cases hs
    | scr r => cases hs
    | dc r => cases hs
    | zz => cases hs
  · exact (ra_argP nd hP (by simpa using hs) r).mv e e (fun _ z => absurd z List.not_mem_nil) (Pre.refl _)
theorem ras_argP (nd : (Oc ++ (T ++ P)).Nodup) : ∀ {as : List A} {vs : List V} {P' : List Addr}, (∀ q ∈ P', q ∈ P) → as.any isSn = false → RAs K (mns H (Oc ++ (T ++ P))) (mns H Oc) H μ as vs P' → RAs K (mns H ([] ++ (Oc ++ T))) (mns H ([] ++ (Oc ++ T))) H [] (as.map argP) vs []
  | _, _, _, _, _, .nil => .nil
  | _, _, _, hP, l, .cons r t => by
    rw [List.any_cons, Bool.or_eq_false_iff] at l
    exact RAs.cons (P := []) (P' := []) (ra_argP nd (fun q hq => hP q (List.mem_append_left _ hq)) l.1 r) (ras_argP nd (fun q hq => hP q (List.mem_append_right _ hq)) l.2 t)
theorem ras_argPW (nd : (Oc ++ (T ++ P)).Nodup) : ∀ {as : List A} {vs : List V} {P' : List Addr}, (∀ q ∈ P', q ∈ P) → RAs K (mns H (Oc ++ (T ++ P))) (mns H Oc) H μ as vs P' → RAs K (mns H ([] ++ Oc)) (mns H ([] ++ Oc)) H [] (as.map argP) vs []
  | _, _, _, _, .nil => .nil
  | _, _, _, hP, .cons r t => RAs.cons (P := []) (P' := []) (ra_argPW nd (fun q hq => hP q (List.mem_append_left _ hq)) r) (ras_argPW nd (fun q hq => hP q (List.mem_append_right _ hq)) t)
theorem rc_nil {μ O : List Addr} (r : RC K F H [] μ O) : μ = [] ∧ O = [] := by cases r; exact ⟨rfl, rfl⟩
theorem tE_callP {σ : L2.St} {n : Nat} {FN : FF} {fs : AF} {Q : VK} (hn : ∀ env h as h1, fs env h = .ok as h1 → as.length = n) : tE K Γ E (fCallP FN fs) σ H Q → tCall (spF K Γ n FN) [] E (tA K Γ E fs) σ H Q := by
  rintro ⟨μ, Oc, T, env, h, s, go⟩
  refine ⟨μ, Oc, T, env, h, s, ?_⟩
  unfold fCallP at go
  cases hf : fs env h with
  | er => rw [hf] at go; exact go
  | exc c h1 => rw [hf] at go; exact go
  | ok as h1 =>
    have hl := hn env h as h1 hf
    rw [hf] at go
    intro vs H1 μ1 Oc1 P1 p
    change GoE K Γ E (aftP (as.any isSn) h1 (FN (as.map argP) [])) σ H μ Oc T env Q at go
    rw [List.append_nil]
    refine ⟨by rw [ras_len p.val]; exact hl, ?_⟩
    have nOT : (Oc1 ++ T).Nodup := by
      have n := p.nd
      rw [← List.append_assoc] at n
      exact nd_l n
    have lv : ∀ q ∈ Oc1 ++ T, NF H1 q := fun q hq => (List.mem_append.mp hq).elim (p.cells.there q) (p.live q)
    -- behind the call: all that stood stands
    have fin : ∀ a, isSn a = false → (∀ v H' μ' Oc' P, PsA K σ μ Oc T env H [a] h1 [v] H' μ' Oc' P → Q v H') → ∀ v H' P, Ex H1 H' → (∀ q ∈ P, H1 q = none) → P.Nodup → RA K (mns H' (Oc1 ++ (T ++ P))) (mns H' Oc1) H' μ1 a v P → Q v H' := fun a hsn go v H' P ex hfr nP ra => by
      exact go v H' μ1 Oc1 P (p.prim ex (fun q hq => .inr (hfr q hq)) nP ra)
    have stay : ∀ {H' : Hp} {μ' Oc' : List Addr}, Gr [] H1 [] Oc' H' μ' → Ex H1 H' := fun g q o z => g.keep q o List.not_mem_nil z
    have xc : ∀ {B : List Addr} {c : Nat}, (∀ q ∈ B, q ∈ Oc1 ++ T) → PsX K Γ E Oc T H μ c h1 → PsX K Γ E [] B H1 [] c [] := fun {B c} hB x H' μ' Oc' g n r => by
      have ex := stay g
      have e : Ex (mns H1 (Oc1 ++ (T ++ P1))) (mns H' (Oc1 ++ T)) := ex_mns fun q o hq z => ⟨ex q o z, fun m => hq ((List.mem_append.mp m).elim (List.mem_append_left _) fun k => List.mem_append_right _ (List.mem_append_left _ k))⟩
      exact x H' μ1 Oc1 (p.gr.trans (Gr.ex ex)) nOT (p.cells.mv e fun q _ o z => ex q o z)
    by_cases hw : as.any isSn = true
    · refine ⟨[], [], Oc1, as.map argP, [], nd_l p.nd, .nil, ras_argPW p.nd (fun _ z => z) p.val, fun q hq => p.cells.there q hq, ?_⟩
      cases hF : FN (as.map argP) [] with
      | er => rw [hF] at go; exact go
      | exc c h2 =>
        rw [hF] at go
        cases h2 with
        | nil => exact xc (fun q hq => List.mem_append_left _ hq) go
        | cons x y => exact go.elim
      | ok a h2 =>
        rw [hF] at go
        cases h2 with
        | cons x y => exact go.elim
        | nil =>
          change GoE K Γ E (if isSn a then .er else if as.any isSn then (if resOk a then .ok a h1 else .er) else .ok a h1) σ H μ Oc T env Q at go
          rw [if_pos hw] at go
          by_cases hsn : isSn a = true
          · rw [if_pos hsn] at go; exact go.elim
          · rw [if_neg hsn] at go
            by_cases hr : resOk a = true
            · rw [if_pos hr] at go
              intro v H' μ' Oc' P g hfr nd rc ra
              obtain ⟨rfl, rfl⟩ := rc_nil rc
              have ex := stay g
              have nP : P.Nodup := nd_r nd
              have k : ∀ b ob u, mns H' ([] ++ (Oc1 ++ P)) b = some (.frz ob u) → mns H' (Oc1 ++ (T ++ P)) b = some (.frz ob u) := fun b ob u hb => by
                obtain ⟨n1, n2⟩ := mns_some.mp hb
                refine mns_some.mpr ⟨fun z => ?_, n2⟩
                rcases List.mem_append.mp z with z | z
                · exact n1 (List.mem_append_right [] (List.mem_append_left _ z))
                · rcases List.mem_append.mp z with z | z
                  · obtain ⟨o, ho, nf⟩ := p.live b z
                    rw [ex b o ho] at n2
                    cases n2
                    exact nf _ _ rfl
                  · exact n1 (List.mem_append_right [] (List.mem_append_right _ z))
              refine fin a (by simpa using hsn) go v H' P ex hfr nP ?_
              cases ra with
              | dat r => exact .dat (lf_dq k hr r)
              | sn r => exact absurd rfl hsn
              | ob r => exact .ob (lf_ro k hr r)
              | loc r => cases hr
              | scr r => cases hr
              | dc r => cases hr
              | zz => cases hr
            · rw [if_neg hr] at go; exact go.elim
    · have hw' : as.any isSn = false := by simpa using hw
      refine ⟨[], [], Oc1 ++ T, as.map argP, [], nOT, .nil, ras_argP p.nd (fun _ z => z) hw' p.val, lv, ?_⟩
      cases hF : FN (as.map argP) [] with
      | er => rw [hF] at go; exact go
      | exc c h2 =>
        rw [hF] at go
        cases h2 with
        | nil => exact xc (fun q hq => hq) go
        | cons x y => exact go.elim
      | ok a h2 =>
        rw [hF] at go
        cases h2 with
        | cons x y => exact go.elim
        | nil =>
          change GoE K Γ E (if isSn a then .er else if as.any isSn then (if resOk a then .ok a h1 else .er) else .ok a h1) σ H μ Oc T env Q at go
          rw [if_neg hw] at go
          by_cases hsn : isSn a = true
          · rw [if_pos hsn] at go; exact go.elim
          · rw [if_neg hsn] at go
            intro v H' μ' Oc' P g hfr nd rc ra
            obtain ⟨rfl, rfl⟩ := rc_nil rc
            have ex := stay g
            have eO : ([] : List Addr) ++ ((Oc1 ++ T) ++ P) = Oc1 ++ (T ++ P) := by rw [List.nil_append, List.append_assoc]
            rw [eO] at ra
            refine fin a (by simpa using hsn) go v H' P ex hfr (nd_r nd) ?_
            cases ra with
            | dat r => exact .dat r
            | sn r => exact absurd rfl hsn
            | ob r => exact .ob r
            | loc r => simp at r
            | scr r => exact .scr r
            | dc r => exact .dc r
            | zz => exact .zz
end
section
variable {X : Cx} {Γ : Nat → Addr} {E : XK} {CX : CXT} {k : Nat} {f : Addr} {fd : FuncData} {ps : List Str} {x : Str} {p pos : Pos} {e : Expr} {es : List Expr} {fs : AF} {FN : FF} {n : Nat}
theorem e_callP (F : FnOk X.prog X.w X.K X.mg X.base CX k f fd ps (spF X.K Γ n FN)) (hr : Room k X.A) (hg : Gl X x) (hm : X.mg x = some (.ref f)) (hk : PySem.W.keepIn X.K (.ref f) = true) (hb : Binds X.K fd ps []) (hx : Passes CX X E)
    (ha : PA X (e :: es) (tA X.K Γ E fs)) (hn : ALen fs n) (hdb : (x == ("__debug__" : Str)) = false := by decide) (he : starEach (e :: es) X.env = (false, eval e X.env) :: starEach es X.env := by rfl) (hpl : (backTo pos (starEach es X.env)).any (·.1) = false := by rfl) :
    PE X (.Call (.Name x p) (e :: es) [] pos) (tE X.K Γ E (fCallP FN fs)) := pe_imp (pe_call F hr hg hm hk hb .nil hx ha hdb he hpl) fun _ _ _ => tE_callP hn
end
end Mi
/-! Mini: raise, try. -/
namespace Mi
open PySem L2 PySem.Spec PyProof.Rows
def fRaise (c : Nat) : SF := fun _ h => .exc c h
section
variable {K : PySem.W.Frag} {Γ : Nat → Addr} {E : XK} {σ : L2.St} {H : Hp} {D' : Ends}
theorem tS_raise {c : Nat} : tS K Γ E (fRaise c) D' σ H → E (.ref (Γ c)) none H := by
  rintro ⟨μ, Oc, B, S, env, h, s, go⟩
  have e : Ex (mns H (Oc ++ (B ++ S))) (mns H (Oc ++ B)) := mns_mono fun q hq => (List.mem_append.mp hq).elim (List.mem_append_left _) fun z => List.mem_append_right _ (List.mem_append_left _ z)
  refine go H μ Oc ⟨fun _ _ _ _ z => z, fun q hq => .inl hq, fun q hq => absurd hq List.not_mem_nil, fun _ z => z, Pre.refl _⟩ ?_ (s.cells.mv e fun _ _ _ z => z)
  have n := s.nd
  rw [← List.append_assoc] at n
  exact nd_l n
end
section
variable {X : Cx} {Γ : Nat → Addr} {E : XK} {pos : Pos}
theorem s_raise {c : Nat} {C : Addr} {e : Expr} (hc : X.calm = true) (tk : Takes X (fun cls d _ H => E cls d H)) (he : PMk X e (fun _ H Q => Q (.ref C) none H)) (hC : C = Γ c := by rfl) : PS X (.Raise (some e) none pos) (tS X.K Γ E (fRaise c)) := by
  subst hC
  exact ps_imp (ps_raise hc tk he) fun D σ H q => tS_raise q
end
/-- what a try's body lets out -/
def EW (n : Nat) (W : WX) : XK := fun cls d H => ∀ σ : L2.St, σ.length = n → W cls d σ H
theorem pass_try {X : Cx} {W : WX} (tk : Takes X W) : Passes (L2.CX X.prog X.w) X (EW X.N.length W) := fun pins σ H s e s' I c =>
  tk e s' (XE.of_call I (fun cls d H' h => h σ I.len) c)
/-- try: .., and a suite that gives d for an error of the class c -/
def fTry (f : SF) (hd : Nat → Option D) : SF := fun env h => match f env h with
  | .exc c h1 => match hd c with
    | some d => .rt (.dat d) h1
    | none => .er
  | r => r
section
variable {K : PySem.W.Frag} {Γ : Nat → Addr} {E : XK} {σ : L2.St} {H : Hp} {D' : Ends}
theorem tS_try {n : Nat} {f : SF} {hd : Nat → Option D} {W : WX} (hW : ∀ c d, hd c = some d → ∀ (σ : L2.St) (H : Hp), σ.length = n → (∀ v H', Ex H H' → (∀ O : List Addr, (∀ q ∈ O, NF H q) → Dq K (mns H' O) v d) → D'.rt v H') → W (.ref (Γ c)) none σ H) :
    tS K Γ E (fTry f hd) D' σ H → tS K Γ (EW n W) f D' σ H := by
  rintro ⟨μ, Oc, B, S, env, h, s, go⟩
  refine ⟨μ, Oc, B, S, env, h, s, ?_⟩
  unfold fTry at go
  cases hf : f env h with
  | nx env1 h1 => rw [hf] at go; exact go
  | bk env1 h1 => rw [hf] at go; exact go
  | ct env1 h1 => rw [hf] at go; exact go
  | rt a h1 => rw [hf] at go; exact go
  | er => rw [hf] at go; exact go
  | exc c h1 =>
    simp only [hf] at go
    cases hc : hd c with
    | none => simp only [hc] at go; exact go.elim
    | some d =>
      simp only [hc] at go
      intro H' μ' Oc' g nd rc σ' hl
      refine hW c d hc σ' H' hl fun v H'' ex dq => ?_
      have lO : ∀ q ∈ Oc' ++ B, NF H' q := fun q hq => by
        rcases List.mem_append.mp hq with hq | hq
        · exact rc.there q hq
        · obtain ⟨o, ho, nf⟩ := s.live q (List.mem_append_left _ hq)
          exact ⟨o, g.keep q o (nd_ne' s.nd (List.mem_append_left _ hq)) (nd_ne (nd_r s.nd) hq) ho, nf⟩
      have e0 : Ex (mns H' (Oc' ++ B)) (mns H'' (Oc' ++ (B ++ []))) := by
        rw [List.append_nil]
        exact ex_mns fun q o hq z => ⟨ex q o z, hq⟩
      refine go v H'' μ' Oc' [] ⟨⟨fun q o h1 h2 z => ex q o (g.keep q o h1 h2 z), g.newO, fun q hq => absurd hq List.not_mem_nil, fun q z => g.dom q (ex.dom z), g.pre⟩, by rw [List.append_nil]; exact nd, rc.mv e0 fun q _ o z => ex q o z, .dat ?_⟩
      rw [List.append_nil]
      exact dq _ lO
end
section
variable {X : Cx} {Γ : Nat → Addr} {E : XK} {x n : Str} {c : Value} {i : Nat} {body suite : List Stmt} {b₀ : Stmt} {np pos pos' : Pos} {f : SF} {hd : Nat → Option D}
theorem s_tryAs {ts : Addr → Value → Option Addr → TS} (hs : X.stack = X.env :: X.outer) (hf : X.env.frame = some X.env.locals) (hN : X.N.Nodup) (hi : X.N[i]? = some n) (hln : X.env.kindOf n = some .local) (hc : Names X x c)
    (hb : ∀ (W : WX) (pn : List (Addr × Obj)) (xe : Value → Shared → Prop), Takes (X.tr pn xe) W → PassesOwn (model X.prog X.w) X.A X.env xe → PSs (X.tr pn xe) body (tS X.K Γ (EW X.N.length W) f))
    (hsu : ∀ (a : Addr) (oe : Obj) (cls : Value) (d : Option Addr) (pn : List (Addr × Obj)), Zc cls d oe → (∃ vs, oe.data = .fields vs) → PSs (X.suite a ((a, oe) :: pn)) (b₀ :: suite) (ts a cls d))
    (hm : ∀ k d, hd k = some d → PySem.W.exmOne X.K (.ref (Γ k)) c = some true)
    (ht : ∀ k d, hd k = some d → ∀ a, ∀ (D' : Ends) (σ : L2.St) (H : Hp), σ.length = X.N.length → H a = none → σ[i]? = some (some (.ref a)) → (∀ v H', Ex H H' → (∀ O : List Addr, (∀ q ∈ O, NF H q) → Dq X.K (mns H' O) v d) → D'.rt v H') → ts a (.ref (Γ k)) none D' σ H) :
    PS X (.Try body [.ExceptHandler (some (.Name x np)) (some n) (b₀ :: suite) pos'] [] [] pos) (tS X.K Γ E (fTry f hd)) := by
  refine ps_imp (ps_try_as (Wout := fun _ _ _ _ => False) hs hf hN hi hln hc takes0 hb hsu) fun D σ H q => ?_
  refine tS_try (fun k d hk σ' H' hl go => ?_) q
  refine ⟨true, hm k d hk, fun _ a ha => ?_, fun z => nomatch z⟩
  have hlt : i < σ'.length := by rw [hl]; exact (List.getElem?_eq_some_iff.mp hi).1
  exact ht k d hk a _ _ _ (by rw [List.length_set]; exact hl) ha (by rw [List.getElem?_set_self hlt]) go
theorem s_tryOnly {ts : Addr → Value → Option Addr → TS} (hs : X.stack = X.env :: X.outer) (hf : X.env.frame = some X.env.locals) (hc : Names X x c)
    (hb : ∀ (W : WX) (pn : List (Addr × Obj)) (xe : Value → Shared → Prop), Takes (X.tr pn xe) W → PassesOwn (model X.prog X.w) X.A X.env xe → PSs (X.tr pn xe) body (tS X.K Γ (EW X.N.length W) f))
    (hsu : ∀ (a : Addr) (oe : Obj) (cls : Value) (d : Option Addr) (pn : List (Addr × Obj)), Zc cls d oe → (∃ vs, oe.data = .fields vs) → PSs (X.suite a ((a, oe) :: pn)) (b₀ :: suite) (ts a cls d))
    (hm : ∀ k d, hd k = some d → PySem.W.exmOne X.K (.ref (Γ k)) c = some true)
    (ht : ∀ k d, hd k = some d → ∀ a, ∀ (D' : Ends) (σ : L2.St) (H : Hp), H a = none → (∀ v H', Ex H H' → (∀ O : List Addr, (∀ q ∈ O, NF H q) → Dq X.K (mns H' O) v d) → D'.rt v H') → ts a (.ref (Γ k)) none D' σ H) :
    PS X (.Try body [.ExceptHandler (some (.Name x np)) none (b₀ :: suite) pos'] [] [] pos) (tS X.K Γ E (fTry f hd)) := by
  refine ps_imp (ps_try_only (Wout := fun _ _ _ _ => False) hs hf hc takes0 hb hsu) fun D σ H q => ?_
  refine tS_try (fun k d hk σ' H' hl go => ?_) q
  exact ⟨true, hm k d hk, fun _ a ha => ht k d hk a _ _ _ ha go, fun z => nomatch z⟩
end
end Mi
/-! Mini: a def that tells of the error at hand, called in an except suite. -/
namespace Mi
open PySem L2 PySem.Spec PyProof.Rows L2H
theorem call_isP {X : Cx} {a D : Addr} {oe : Obj} (C : ExcC X.K D) (hz : Zc (.ref D) none oe) (hf : ∃ vs, oe.data = .fields vs) (hp : (a, oe) ∈ X.pn) : CallR X (.builtin "isinstance") (rIsE X.K D a) := by
  intro pins s σ H xs us Q I r h
  obtain ⟨c, cv, b, rfl, hcv, e, q⟩ := h
  cases r with
  | cons rx rr =>
    cases rr with
    | cons rt rr =>
      cases rr
      cases rx
      have ec := hcv _ rt
      subst ec
      obtain ⟨hget, _⟩ := I.pin (a, oe) (List.mem_append_left _ hp)
      obtain ⟨vs, hv⟩ := hf
      have J : PySem.W.InstAt s.heap a oe D none := by
        obtain ⟨oc, od, oda, osl⟩ := oe
        obtain ⟨h1, h2⟩ := hz
        dsimp only at h1 h2 hv
        subst h1 h2 hv
        exact ⟨hget, rfl, rfl, trivial⟩
      exact PySem.W.kia_one (PySem.W.handS_kitx_exc C.hg C.hk C.hs C.hd C.ha C.hn C.ht C.hm) I.kIn J e (fun z => nomatch z) fun tk => ⟨.bl b, H, I.kept (t' := tk) fun _ _ z => z, rfl, q⟩
/-- isinstance(x, C), x the error at a: b -/
def fIsX (i : Nat) (a : Addr) (b : Bool) : EF := fun env h => match env[i]? with
  | some (some (.loc k)) => match h[k]? with
    | some (.pt p) => if p = a then .ok (.dat (.bool b)) h else .er
    | _ => .er
  | _ => .er
section
variable {K : PySem.W.Frag} {Γ : Nat → Addr} {E : XK} {σ : L2.St} {H : Hp}
theorem tE_isX {i : Nat} {a D : Addr} {b : Bool} {c : V} {cv : Value} {Q : VK} (hk : PySem.W.kitOne K (.ref D) cv = some b) (hcv : ∀ u, RelV c u → u = cv) : tE K Γ E (fIsX i a b) σ H Q → tCB (rIsE K D a) (tCons (tVar i) (tCons (tC c) tNil)) σ H Q := by
  rintro ⟨μ, Oc, T, env, h, s, go⟩
  unfold fIsX at go
  split at go
  · rename_i k hs
    split at go
    · rename_i p hc
      by_cases hp : p = a
      · rw [if_pos hp] at go
        subst hp
        obtain ⟨Os, k1, k2, k3⟩ := s.slots
        obtain ⟨v, P, e1, e2, e3⟩ := k3.get hs
        cases e2 with
        | loc hm =>
          obtain ⟨p', P', c1, c2, c3⟩ := s.cells.get hc
          rw [hm] at c1
          cases c1
          cases c2
          exact ⟨_, e1, c, cv, b, rfl, hcv, hk, go _ H μ Oc [] (s.val (.dat (.bl b)))⟩
      · rw [if_neg hp] at go; exact go.elim
    · exact go.elim
  · exact go.elim
end
section
variable {X : Cx} {Γ : Nat → Addr} {E : XK} {pos p2 p3 : Pos}
theorem e_isX (i : Nat) {x : Str} {a D : Addr} {oe : Obj} {b : Bool} {c : V} {cv : Value} {ce : Expr} (C : ExcC X.K D) (hz : Zc (.ref D) none oe) (hf : ∃ vs, oe.data = .fields vs) (hp : (a, oe) ∈ X.pn) (hg : Gl X "isinstance") (hm : X.mg "isinstance" = none)
    (hc : PE X ce (tC c)) (hcv : ∀ u, RelV c u → u = cv) (hk : PySem.W.kitOne X.K (.ref D) cv = some b) (hv : bootBuiltins "isinstance" = some (.builtin "isinstance")) (hN : X.N[i]? = some x := by rfl) (hvis : Vis X.env.scope x := by first | exact Or.inl rfl | exact Or.inr (Or.inl rfl) | exact Or.inr (Or.inr rfl)) (hd : (x == ("__debug__" : Str)) = false := by decide)
    (hcd : (x == ("__classdict__" : Str)) = false := by decide)
    (h1 : starEach [.Name x p3, ce] X.env = (false, eval (.Name x p3) X.env) :: starEach [ce] X.env := by rfl) (h2 : starEach [ce] X.env = (false, eval ce X.env) :: starEach [] X.env := by rfl) (hpl : (backTo pos (starEach [ce] X.env)).any (·.1) = false := by rfl) :
    PE X (.Call (.Name "isinstance" p2) [.Name x p3, ce] [] pos) (tE X.K Γ E (fIsX i a b)) :=
  pe_imp (pe_callB (call_isP C hz hf hp) hg hm hv (pa_cons (pe_var hN hvis hd hcd) (pa_cons hc pa_nil h2) h1) (by decide) (by decide) h1 hpl) fun _ _ _ => tE_isX hk hcv
end
/-- a def runs within an except suite: the pinned error stays -/
theorem run_hot {CX : CXT} {P : Program} {w : World} {K : PySem.W.Frag} {mg : Str → Option Value} {base : Heap} {k : Nat} {f : Addr} {name qual : Str} {params : Arguments} {body : List Stmt} {scope : Scope} {dV kV doc pm cdv ct oc : Value} {an od : Option Addr}
    {osl : Array (Option Value)} {N ps : List Str} (lk : K.lookup f = some ⟨oc, od, .func (PySem.W.fnOf name qual params body scope dV kV doc pm an cdv ct), osl⟩) (hcd : PySem.W.codeIn K cdv qual = true) (S : FnScope N ps scope)
    {A : Around} {outer : List Env} {s : Shared} {H : Hp} {args : Args} {us : List Value} {vs : List V} {Q : VK} {E : XK} {p : Addr × Obj} (hl : vs.length = ps.length) (hr : RoomH (k + 1) A) (hpin : PinOk outer H s p) (e0 : Env0 P w K mg base A outer s H)
    (hb : BindsTo s (PySem.W.fnOf name qual params body scope dV kV doc pm an cdv ct) args (ps.zip us)) (r : Vals vs us)
    (hbody : RoomH k (A.deeper (envOfC qual scope s.heap.objs.size f cdv)) → ∃ t, PSs (cxH CX P w K mg base N qual scope f cdv A outer s H E p) body t ∧ t { nx := fun _ H' => Q .non H', rt := Q } (L2.start N vs) H) :
    codeAny (model P w) A (.call (.ref f) args) (CR CX outer P w H s Q E) s := by
  have KX : K.In s.heap := e0.mod.kin.keeps fun b o e => (e0.bs b o e).1
  have lim : s.heap.NoLimit := e0.mod.nolimit.keeps fun b o e => (e0.bs b o e).1
  have hkind : ∀ y ∈ ps.zip us, scope.names.lookup y.1 = some .local ∨ (scope.names.lookup y.1 = some .cell ∧ ((cellsFrom (s.heap.objs.size + 1) scope.names []).lookup y.1).isSome = true) := fun ⟨n, v⟩ hy => by
    rcases S.par n (List.of_mem_zip hy).1 with q | q
    · exact .inl q
    · exact .inr ⟨q, PySem.W.cellsFrom_some _ _ _ (.inl q)⟩
  refine codeAny_call_function hr.depth (KX _ _ lk) rfl S.co S.gen rfl (PySem.W.codeRec_of KX hcd) (hb _ _ _ _ ?_)
  refine wpAny_newFunctionEnv_cells S.kind hkind fun env he s1 x => ?_
  subst he
  refine ⟨lim.keeps x.toInCall.keep, codeAny_func ?_⟩
  obtain ⟨t, ht, hq⟩ := hbody (hr.deeper _)
  have I : Inv (cxH CX P w K mg base N qual scope f cdv A outer s H E p) [] (L2.start N vs) H s1 := inv_startH S hpin e0 hl r x
  refine wpAny_mono (ht.run [] s1 (L2.start N vs) H _ I hq) (fun fl s' hs => ?_) fun e s' hs => hs
  have fin : ∀ {σ' : L2.St} {H' : Hp} {v : V} {u : Value}, Inv (cxH CX P w K mg base N qual scope f cdv A outer s H E p) [] σ' H' s' → RelV v u → Q v H' → CE outer P w H s Q u s' :=
    fun {σ' H' v u} J rv q => ⟨v, H', J.os, J.bare, J.base, J.hok, rv, q⟩
  cases fl with
  | ret u =>
    obtain ⟨v, σ', H', J, rv, q⟩ := hs
    exact fin J rv q
  | next =>
    obtain ⟨σ', H', J, q⟩ := hs
    exact fin (v := V.non) (u := Value.none) J rfl q
  | brk =>
    obtain ⟨_, _, _, q⟩ := hs
    exact False.elim q
  | cont =>
    obtain ⟨_, _, _, q⟩ := hs
    exact False.elim q
/-- what the def tells of an error of the class k -/
structure FnW (P : Program) (w : World) (K : PySem.W.Frag) (mg : Str → Option Value) (base : Heap) (Γ : Nat → Addr) (n : Nat) (f : Addr) (fd : FuncData) (ps : List Str) (hd : Nat → Option D) : Prop where
  len : ps.length = 1
  run : ∀ (k : Nat) (d : D), hd k = some d → ∀ (A : Around) (outer : List Env) (s : Shared) (H : Hp) (args : Args) (Q : VK) (p : Addr × Obj), RoomH n A → PinOk outer H s p → Zc (.ref (Γ k)) none p.2 → (∃ vs, p.2.data = .fields vs) → Env0 P w K mg base A outer s H →
    BindsTo s fd args (ps.zip [.ref p.1]) → (∀ v H', Ex H H' → (∀ O : List Addr, (∀ q ∈ O, NF H q) → Dq K (mns H' O) v d) → Q v H') → codeAny (model P w) A (.call (.ref f) args) (CR CX0 outer P w H s Q E0) s
theorem fn_w {P : Program} {w : World} {K : PySem.W.Frag} {mg : Str → Option Value} {base : Heap} {Γ : Nat → Addr} {k : Nat} {x qual : Str} {st : Stmt} {f : Addr} {fd : FuncData} {N ps : List Str} {hd : Nat → Option D} {b : Nat → Addr → SF}
    (F : Fun K x qual st f fd) (S : FnScope N ps (defScope st)) (hps : ps.length = 1)
    (he : ∀ c d, hd c = some d → lf d = true ∧ ∀ a, b c a (some (.loc 0) :: List.replicate (N.length - 1) none) [.pt a] = .rt (.dat d) [.pt a])
    (hb : ∀ (c : Nat) (d : D), hd c = some d → ∀ (cdv : Value) (A : Around) (outer : List Env) (s : Shared) (H : Hp) (p : Addr × Obj), RoomH k (A.deeper (envOfC qual (defScope st) s.heap.objs.size f cdv)) → Zc (.ref (Γ c)) none p.2 → (∃ vs, p.2.data = .fields vs) →
      PSs (cxH CX0 P w K mg base N qual (defScope st) f cdv A outer s H E0 p) (defBody st) (tS K Γ E0 (b c p.1))) : FnW P w K mg base Γ (k + 1) f fd ps hd := by
  refine ⟨hps, fun c d hc A outer s H args Q p hr hpin hz hf e0 hbn go => ?_⟩
  obtain ⟨oc, od, kV, doc, pm, an, cdv, ct, osl, rfl, lk, hcd⟩ := F.ex
  refine run_hot (k := k) (N := N) (us := [.ref p.1]) (vs := [.ref p.1]) (Q := Q) (E := E0) lk hcd S (by simpa using hps.symm) hr hpin e0 hbn (.cons rfl .nil) fun hr' => ⟨_, hb c d hc cdv A outer s H p hr' hz hf, ?_⟩
  obtain ⟨hlf, hev⟩ := he c d hc
  have hr0 : RQ K (mns H ([] ++ ([] ++ []))) H (.pt p.1) p.1 [] := .pt
  have hsl : RS K (mns H ([] ++ ([] ++ []))) H [p.1] (some (.loc 0) :: List.replicate (N.length - 1) none) (some (.ref p.1) :: List.replicate (N.length - 1) none) ([] ++ []) := .so (.loc rfl) (rs_none _)
  refine ⟨[p.1], [], [], [], some (.loc 0) :: List.replicate (N.length - 1) none, [.pt p.1], ⟨List.nodup_nil, RC.cons (P := []) (O := []) hr0 .nil, ⟨[], fun q hq => absurd hq List.not_mem_nil, List.nodup_nil, ?_⟩, fun q hq => absurd hq List.not_mem_nil⟩, ?_⟩
  · exact hsl
  · rw [hev]
    intro v H' μ' Oc' P' rp
    have hO : Oc' = [] := by
      have := rp.cells
      cases this with
      | cons r t =>
        cases r
        cases t
        rfl
    subst hO
    have ex : Ex H H' := fun q o z => rp.gs.keep q o List.not_mem_nil List.not_mem_nil z
    have hv := rp.val
    cases hv with
    | dat r =>
      refine go v H' ex fun O hO => lf_dq (fun b ob u z => ?_) hlf r
      refine mns_some.mpr ⟨fun hm => ?_, (mns_some.mp z).2⟩
      obtain ⟨o, ho, nf⟩ := hO b hm
      have e1 := ex b o ho
      rw [(mns_some.mp z).2] at e1
      cases e1
      exact nf _ _ rfl
section
variable {X : Cx} {Γ : Nat → Addr} {k : Nat} {f : Addr} {fd : FuncData} {ps : List Str} {hd : Nat → Option D} {x y : Str} {p p2 pos : Pos} {i : Nat} {a : Addr} {oe : Obj} {pn : List (Addr × Obj)}
/-- f(e) in the suite that holds e -/
def tWhich (i : Nat) (a : Addr) (c : Nat) (K : PySem.W.Frag) (hd : Nat → Option D) : TE := fun σ H Q => σ[i]? = some (some (.ref a)) ∧ ∃ d, hd c = some d ∧ ∀ v H', Ex H H' → (∀ O : List Addr, (∀ q ∈ O, NF H q) → Dq K (mns H' O) v d) → Q v H'
theorem pe_which {c : Nat} (F : FnW X.prog X.w X.K X.mg X.base Γ k f fd ps hd) (hr : RoomH k X.A) (hg : Gl X x) (hm : X.mg x = some (.ref f)) (hk : PySem.W.keepIn X.K (.ref f) = true) (hb : Binds X.K fd ps []) (hp : (a, oe) ∈ X.pn) (hz : Zc (.ref (Γ c)) none oe) (hf : ∃ vs, oe.data = .fields vs)
    (hN : X.N[i]? = some y := by rfl) (hvis : Vis X.env.scope y := by first | exact Or.inl rfl | exact Or.inr (Or.inl rfl) | exact Or.inr (Or.inr rfl)) (hd0 : (y == ("__debug__" : Str)) = false := by decide) (hcd : (y == ("__classdict__" : Str)) = false := by decide)
    (hdb : (x == ("__debug__" : Str)) = false := by decide) (he : starEach [.Name y p2] X.env = (false, eval (.Name y p2) X.env) :: starEach [] X.env := by rfl) (hpl : (backTo pos (starEach [] X.env)).any (·.1) = false := by rfl) :
    PE X (.Call (.Name x p) [.Name y p2] [] pos) (tWhich i a c X.K hd) := by
  refine ⟨fun pins s σ H Q I h => ?_⟩
  obtain ⟨hs, d, hd1, go⟩ := h
  have ha : PA X [.Name y p2] (tCons (tVar i) tNil) := pa_cons (pe_var hN hvis hd0 hcd) pa_nil he
  refine wpAny_Call_Name_kw (ld_glob I hg hm ?_ hdb)
  refine PySem.W.callWith_K (h₀ := X.base) I.ok.mod.kin hk (thn (ha.run pos pins s σ H (fun vs H1 => vs = [V.ref a] ∧ H = H1) I ⟨_, hs, rfl, rfl⟩) fun us s1 ⟨vs, H1, I1, r, ev, eH⟩ => ⟨I1.kIn, ?_⟩) he hpl
  subst ev
  subst eH
  cases r with
  | cons ru rn =>
    cases rn
    cases ru
    have P1 := I1.pin (a, oe) (List.mem_append_left _ hp)
    have hpin : PinOk X.stack H s1 (a, oe) := ⟨P1.1, P1.2.1, fun hm => (List.mem_cons.mp (I1.stkSub a hm)).elim P1.2.2.1 P1.2.2.2.1, P1.2.2.2.2⟩
    have b := hb s1 [.ref a] I1.kIn (by simpa using F.len.symm)
    rw [List.append_nil] at b
    refine wpAny_call (codeAny_mono (F.run c d hd1 X.A X.stack s1 H ⟨[.ref a], []⟩ Q (a, oe) hr hpin hz hf I1.env0 b go) fun r s' hq => ?_)
    cases r with
    | error e => exact hq.elim
    | ok fl =>
      cases fl with
      | ret u => exact I1.after hq
      | next => exact False.elim hq
      | brk => exact False.elim hq
      | cont => exact False.elim hq
end
end Mi
namespace Mi
open PySem L2 PySem.Spec PyProof.Rows L2H
section
variable {K : PySem.W.Frag}
theorem kit_yes {D : Addr} : PySem.W.kitOne K (.ref D) (.ref D) = some true := if_pos (beq_self_eq_true _)
theorem kit_no {D C : Addr} (h1 : PySem.W.subIn K (.ref D) (.ref D) = some true) (h2 : PySem.W.subIn K (.ref D) (.ref C) = some false) (hc : PySem.W.isClsIn K C = true) (ht : PySem.W.typeIn K (.ref C) = some (.type "type")) : PySem.W.kitOne K (.ref D) (.ref C) = some false := by
  have ne : ¬ ((Value.ref D == Value.ref C) = true) := fun z => by
    have e : D = C := Value.ref.inj (beq_iff_eq.mp z)
    subst e
    rw [h1] at h2; cases h2
  unfold PySem.W.kitOne
  rw [if_neg ne]
  unfold PySem.W.kitCls
  have e1 : (PySem.W.clsIn K C).isSome = true := hc
  simp only [e1, ht, h2]
  rfl
theorem kit_ty {D : Addr} {T : String} (hm : PySem.W.kitMeta T = true) (h : PySem.W.subIn K (.ref D) (.type T) = some true) : PySem.W.kitOne K (.ref D) (.type T) = some true := by
  have ne : ¬ ((Value.ref D == Value.type T) = true) := fun z => Value.noConfusion (beq_iff_eq.mp z)
  unfold PySem.W.kitOne
  rw [if_neg ne]
  unfold PySem.W.kitCls
  simp only [hm, h]
  rfl
theorem exm_self {D : Addr} (h1 : PySem.W.subIn K (.ref D) (.type "BaseException") = some true) (hd : PySem.W.hasDictIn K D = true) (ht : PySem.W.typeIn K (.ref D) = some (.type "type")) (h4 : PySem.W.subIn K (.ref D) (.ref D) = some true) : PySem.W.exmOne K (.ref D) (.ref D) = some true := PySem.W.exm_ref h1 hd ht h4
end
section
variable {X : Cx} {Γ : Nat → Addr} {E : XK} {x n fn : Str} {c : Value} {i k : Nat} {body : List Stmt} {np pos pos' p p2 p3 p4 : Pos} {f : SF} {hd : Nat → Option D} {fa : Addr} {fd : FuncData} {ps : List Str}
theorem s_tryWhich (hs : X.stack = X.env :: X.outer) (hf : X.env.frame = some X.env.locals) (hN : X.N.Nodup) (hi : X.N[i]? = some n) (hln : X.env.kindOf n = some .local) (hc : Names X x c)
    (hb : ∀ (W : WX) (pn : List (Addr × Obj)) (xe : Value → Shared → Prop), Takes (X.tr pn xe) W → PassesOwn (model X.prog X.w) X.A X.env xe → PSs (X.tr pn xe) body (tS X.K Γ (EW X.N.length W) f))
    (F : FnW X.prog X.w X.K X.mg X.base Γ k fa fd ps hd) (hr : Room k X.A) (hg : Gl X fn) (hm : X.mg fn = some (.ref fa)) (hk : PySem.W.keepIn X.K (.ref fa) = true) (hbn : Binds X.K fd ps [])
    (hx : ∀ k d, hd k = some d → PySem.W.exmOne X.K (.ref (Γ k)) c = some true)
    (hvis : Vis X.env.scope n := by first | exact Or.inl rfl | exact Or.inr (Or.inl rfl) | exact Or.inr (Or.inr rfl)) (hd0 : (n == ("__debug__" : Str)) = false := by decide) (hcd : (n == ("__classdict__" : Str)) = false := by decide)
    (hdb : (fn == ("__debug__" : Str)) = false := by decide) (he : starEach [.Name n p2] X.env = (false, eval (.Name n p2) X.env) :: starEach [] X.env := by rfl) (hpl : (backTo p3 (starEach [] X.env)).any (·.1) = false := by rfl) :
    PS X (.Try body [.ExceptHandler (some (.Name x np)) (some n) [.Return (some (.Call (.Name fn p) [.Name n p2] [] p3)) p4] pos'] [] [] pos) (tS X.K Γ E (fTry f hd)) := by
  refine s_tryAs (i := i) (ts := fun a cls d D' σ H => ∃ c0, cls = .ref (Γ c0) ∧ d = none ∧ tRet (tWhich i a c0 X.K hd) D' σ H) hs hf hN hi hln hc hb (fun a oe cls d pn hz hfs => ?_) hx fun c0 d hd1 a D' σ H hl ha hsl go => ⟨c0, rfl, rfl, hsl, d, hd1, go⟩
  refine ⟨fun pins s σ H D' I ⟨c0, e1, e2, q⟩ => ?_⟩
  subst e1 e2
  have hw : PE (X.suite a ((a, oe) :: pn)) (.Call (.Name fn p) [.Name n p2] [] p3) (tWhich i a c0 X.K hd) :=
    pe_which (X := X.suite a ((a, oe) :: pn)) (oe := oe) F ⟨hr.dp, hr.un⟩ hg hm hk hbn List.mem_cons_self hz hfs hi hvis hd0 hcd hdb he hpl
  exact (pss_one (ps_ret hw)).run pins s σ H D' I q
theorem s_tryConst {b : Bool} {j : Nat} (hs : X.stack = X.env :: X.outer) (hf : X.env.frame = some X.env.locals) (hc : Names X x c)
    (hb : ∀ (W : WX) (pn : List (Addr × Obj)) (xe : Value → Shared → Prop), Takes (X.tr pn xe) W → PassesOwn (model X.prog X.w) X.A X.env xe → PSs (X.tr pn xe) body (tS X.K Γ (EW X.N.length W) f))
    (hx : ∀ k d, hd k = some d → PySem.W.exmOne X.K (.ref (Γ k)) c = some true ∧ d = .bool b) :
    PS X (.Try body [.ExceptHandler (some (.Name x np)) none [.Return (some (.Constant (.bool b) j p2)) p3] pos'] [] [] pos) (tS X.K Γ E (fTry f hd)) :=
  s_tryOnly (ts := fun _ _ _ => tRet (tC (.bl b))) hs hf hc hb (fun a oe cls d pn hz hfs => pss_one (ps_ret pe_bl)) (fun k d h => (hx k d h).1) fun c0 d hd1 a D' σ H ha go => by
    have e := (hx c0 d hd1).2
    subst e
    exact go _ H (Ex.refl _) fun O _ => .bl b
end
end Mi
namespace L2H
open PySem
theorem RoomH.units {k : Nat} {A : Around} (r : RoomH k A) : A.units + 64 < cLine := by have := r.un; omega
end L2H
/-! Mini: a def out of a written list, called. -/
namespace Mi
open PySem L2 PySem.Spec PyProof.Rows
section
variable {K : PySem.W.Frag} {Γ : Nat → Addr} {E : XK} {σ : L2.St} {μ Oc T : List Addr} {env : En} {H : Hp} {h : Hh}
theorem Sim.morP {H' : Hp} (s : Sim K H σ μ Oc T env h) (e : Ex H H') : PsA K σ μ Oc T env H [] h [] H' μ Oc [] := by
  have e0 : Ex (mns H (Oc ++ T)) (mns H' (Oc ++ (T ++ []))) := by
    rw [List.append_nil]
    exact ex_mns fun q o hq z => ⟨e q o z, hq⟩
  exact ⟨Gr.ex e, fun _ z => absurd z List.not_mem_nil, by rw [List.append_nil]; exact s.nd, s.cells.mv e0 fun q _ o z => e q o z, s.slots.mv e0 (Pre.refl _) (fun q _ o z => e q o z) fun _ z => z, RAs.nil, fun q hq => by
    obtain ⟨o, ho, nf⟩ := s.live q hq
    exact ⟨o, e q o ho, nf⟩⟩
/-- nothing is lost by what is new -/
theorem tE_more {H' : Hp} {f : EF} {Q : VK} (e : Ex H H') : tE K Γ E f σ H Q → tE K Γ E f σ H' Q := by
  rintro ⟨μ, Oc, T, env, h, s, go⟩
  have p := s.morP e
  refine ⟨μ, Oc, T, env, h, p.sim0, ?_⟩
  cases hf : f env h with
  | er => rw [hf] at go; exact go.elim
  | exc c h1 => rw [hf] at go; exact PsX.step0 p go
  | ok a h1 => rw [hf] at go; exact fun v H2 μ2 Oc2 P q => go v H2 μ2 Oc2 P (p.then q)
/-- a value, then what follows; what was unknown to the cells stays -/
theorem tE_bind {f : EF} {k : A → EF} {Q : VK} {q0 : Addr} {o0 : HO} (hq : tE K Γ E (fun env h => (f env h).bind fun a h1 => k a env h1) σ H Q) (hn : H q0 = none) :
    tE K Γ E f σ (upd H q0 o0) fun x H1 => H1 q0 = some o0 ∧ ∃ a μ F W P, RA K F W H1 μ a x P ∧ tE K Γ E (k a) σ H1 Q := by
  obtain ⟨μ, Oc, T, env, h, s, go⟩ := hq
  have p0 := s.morP (Ex.new (o := o0) hn)
  refine ⟨μ, Oc, T, env, h, p0.sim0, ?_⟩
  change GoE K Γ E ((f env h).bind fun a h1 => k a env h1) σ H μ Oc T env Q at go
  cases hf : f env h with
  | er => rw [hf] at go; exact go.elim
  | exc c h1 => rw [hf] at go; exact PsX.step0 p0 go
  | ok a h1 =>
    rw [hf] at go
    intro v H1 μ1 Oc1 P1 p
    change GoE K Γ E (k a env h1) σ H μ Oc T env Q at go
    obtain ⟨v', ev, r⟩ := ras1 p.val
    cases ev
    refine ⟨p.gr.keep q0 o0 (fun z => ?_) upd_same, a, μ1, _, _, P1, r, μ1, Oc1, T, env, h1, p.drop.sim0, ?_⟩
    · obtain ⟨o, ho, _⟩ := s.cells.there q0 z
      rw [hn] at ho; cases ho
    have pd := p0.then p.drop
    cases hg : k a env h1 with
    | er => rw [hg] at go; exact go.elim
    | exc c h2 => rw [hg] at go; exact PsX.step0 pd go
    | ok a2 h2 => rw [hg] at go; exact fun v H2 μ2 Oc2 P q => go v H2 μ2 Oc2 P (pd.then q)
end
def HA (X : Cx) (Γ : Nat → Addr) (k n : Nat) (fs : List Addr) (Fs : List FF) : Prop := ∀ (j : Nat) (F : FF), Fs[j]? = some F → ∃ f fd ps, fs[j]? = some f ∧ FnOk X.prog X.w X.K X.mg X.base (L2.CX X.prog X.w) k f fd ps (spF X.K Γ n F) ∧ PySem.W.keepIn X.K (.ref f) = true ∧ Binds X.K fd ps []
theorem ha_nil {X : Cx} {Γ : Nat → Addr} {k n : Nat} : HA X Γ k n [] [] := fun j F h => by simp at h
theorem ha_cons {X : Cx} {Γ : Nat → Addr} {k n : Nat} {f : Addr} {fd : FuncData} {ps : List Str} {fs : List Addr} {F : FF} {Fs : List FF} (G : FnOk X.prog X.w X.K X.mg X.base (L2.CX X.prog X.w) k f fd ps (spF X.K Γ n F)) (kp : PySem.W.keepIn X.K (.ref f) = true) (b : Binds X.K fd ps []) (t : HA X Γ k n fs Fs) : HA X Γ k n (f :: fs) (F :: Fs)
  | 0, F', h => by
    simp at h
    subst h
    exact ⟨f, fd, ps, rfl, G, kp, b⟩
  | j + 1, F', h => by
    obtain ⟨g, gd, qs, h1, h2⟩ := t j F' (by simpa using h)
    exact ⟨g, gd, qs, by simpa using h1, h2⟩
/-- [f, g, ..][i](..) -/
def fCallIx (Fs : List FF) (fi : EF) (fs : AF) : EF := fun env h => (fi env h).bind fun a h1 => (match a with
  | .dat (.int (.ofNat j)) => match Fs[j]? with
    | some F => fCallP F fs
    | none => fun _ _ => .er
  | _ => fun _ _ => .er) env h1
theorem arm_eval_Call_Sub (o i : Expr) (p : Pos) (args : List Expr) (keywords : List Keyword) (pos : Pos) (env : Env) : eval (.Call (.Subscript o i p) args keywords pos) env = (do
    callWith pos (← eval (.Subscript o i p) env) [] (backTo pos (starEach args env)) (backToKw pos (keywordEach keywords env))) := rfl
section
variable {X : Cx} {Γ : Nat → Addr} {E : XK} {k n : Nat} {o i e : Expr} {es : List Expr} {p pos : Pos} {ta : TE} {t : TA} {fs : List Addr} {Fs : List FF}
theorem pe_callHA (he : PE X (.Subscript o i p) ta) (hA : HA X Γ k n fs Fs) (hr : Room k X.A) (hx : Passes (L2.CX X.prog X.w) X E) (ha : PA X (e :: es) t)
    (hs : starEach (e :: es) X.env = (false, eval e X.env) :: starEach es X.env := by rfl) (hpl : (backTo pos (starEach es X.env)).any (·.1) = false := by rfl) :
    PE X (.Call (.Subscript o i p) (e :: es) [] pos) (fun σ H Q => ta σ H fun v H1 => ∃ (j : Nat) (f : Addr) (F : FF), v = .ref f ∧ fs[j]? = some f ∧ Fs[j]? = some F ∧ t σ H1 fun vs H2 => spF X.K Γ n F vs H2 Q E) := by
  refine ⟨fun pins s σ H Q I h => ?_⟩
  rw [arm_eval_Call_Sub]
  refine wpAny_bind (thn (he.run pins s σ H _ I h) fun u s1 ⟨v, H1, I1, r1, j, f, F, ev, hf, hF, ht⟩ => ?_)
  obtain ⟨f', fd, ps, e1, G, kp, hb⟩ := hA j F hF
  rw [hf] at e1
  cases e1
  subst ev
  cases r1
  refine PySem.W.callWith_K (h₀ := X.base) I.ok.mod.kin kp (thn (ha.run pos pins s1 σ _ _ I1 ht) fun us s2 ⟨vs, H2, I2, r, q⟩ => ⟨I2.kIn, ?_⟩) hs hpl
  refine run_fn (dvs := []) (ds := []) G hr hb .nil hx I2 r ?_
  rw [List.append_nil]
  exact q
theorem e_callIx {els : List Expr} {tl : TA} {lp : Pos} {fi : EF} {fa : AF} (hA : HA X Γ k n fs Fs) (hl : PA X els tl) (htl : ∀ σ H Q, Q (fs.map V.ref) H → tl σ H Q) (hfew : fs.length ≤ LIM) (hi : PE X i (tE X.K Γ E fi)) (hr : Room k X.A) (hx : Passes (L2.CX X.prog X.w) X E) (ha : PA X (e :: es) (tA X.K Γ E fa)) (hn : ALen fa n)
    (hp : PlainIx i := by exact fun _ _ => rfl) (hs : starEach (e :: es) X.env = (false, eval e X.env) :: starEach es X.env := by rfl) (hpl : (backTo pos (starEach es X.env)).any (·.1) = false := by rfl) :
    PE X (.Call (.Subscript (.List els lp) i p) (e :: es) [] pos) (tE X.K Γ E (fCallIx Fs fi fa)) := by
  refine pe_imp (pe_callHA (pe_ix ix_list (pe_lst hl) hi hp) hA hr hx ha hs hpl) fun σ H Q q => ?_
  refine htl _ _ _ ⟨by rw [List.length_map]; exact lim_le hfew, fun q0 hq0 => ?_⟩
  refine tE_mono (fun x H1 ⟨hk, a, μ, F, W, P, r, go⟩ => ?_) (tE_bind (o0 := .lst (fs.map V.ref)) q hq0)
  split at go
  · rename_i j
    cases r with
    | dat r =>
      cases r
      split at go
      · rename_i FN hF
        obtain ⟨f, fd, ps, e1, _⟩ := hA j FN hF
        have hlt := (List.getElem?_eq_some_iff.mp e1).1
        refine ⟨q0, fs.map V.ref, _, .ref f, rfl, rfl, .of hk, ?_, j, f, FN, rfl, e1, hF, ?_⟩
        · rw [show (Int.ofNat j) = ((j : Nat) : Int) from rfl]
          exact atI_nat (by rw [List.getElem?_map, e1]; rfl)
        · have := tE_callP hn go
          unfold tCall at this
          simpa using this
      · obtain ⟨_, _, _, _, _, _, z⟩ := go
        exact z.elim
  · obtain ⟨_, _, _, _, _, _, z⟩ := go
    exact z.elim
end
end Mi
/-! Mini: count of flat things. -/
namespace Mi
open PySem L2 PySem.Spec PyProof.Rows
def rCntF (K : PySem.W.Frag) : V → List V → Hp → VK → Prop := fun x vs H Q => ∃ (a : Addr) (ys : List V) (y : V), x = .ref a ∧ vs = [y] ∧ SqL K H a ys ∧ flatV y = true ∧ ys.all flatV = true ∧ Q (.int (ys.countP (fun z => eqV z y) : Nat)) H
theorem countU {y : V} : ∀ {ys : List V} {us : List Value}, Vals ys us → ys.all flatV = true → us.countP (eqU y) = ys.countP (fun z => eqV z y)
  | _, _, .nil, _ => rfl
  | z :: ys, u :: us, .cons r t, f => by
    rw [List.all_cons, Bool.and_eq_true] at f
    rw [List.countP_cons, List.countP_cons, countU t f.2, eqU_of r f.1]
theorem mt_countF {X : Cx} : MtR X "list.count" (rCntF X.K) := by
  intro pins s σ H x xs v us Q I rx rxs h
  obtain ⟨a, ys, y, rfl, rfl, hs, fy, fys, q⟩ := h
  cases rx
  cases rxs with
  | cons ry rt =>
    rename_i uy ut
    cases rt
    obtain ⟨its, rv, ⟨⟨cls, dd, data, sl⟩, n, ho, hc, hdn, hd⟩, hlen⟩ := I.list hs
    simp only at hc hd
    subst hc hd
    refine call_meets PySem.F.slot_list_count ⟨_, ho, rfl⟩ PySem.F.entry_list_count (PySem.F.args_list_count_2 _ _)
      (SeqAt.list_countAt a its.toArray n dd sl uy (eqU y)) ⟨ho, fun u' hu' => mem_eqAt ry fy rv fys u' (by simpa using hu'), ?_⟩
    exact ⟨.int (ys.countP (fun z => eqV z y) : Nat), H, I.tok _, ⟨_, by rw [← countU rv fys]⟩, q⟩
def gCntF (a b : A) : Option A := a.lst.bind fun ds => b.d.bind fun x => if flatD x = true ∧ ds.all flatD = true then some (.dat (.int (ds.countP (fun y => PyData.eqv y x) : Nat))) else none
def fCountF (f g : EF) : EF := fun env h => (f env h).bind fun a h1 => if a.lst.isSome then (g env h1).bind fun b h2 => optR (gCntF a b) h2 else .er
section
variable {K : PySem.W.Frag} {Γ : Nat → Addr} {E : XK} {σ : L2.St} {H F : Hp}
theorem cnt_dq {w : V} {x : D} (q : Dq K F w x) (h2 : flatD x = true) : ∀ {vs : List V} {ds : List D}, DqAll K F vs ds → ds.all flatD = true → vs.countP (fun z => eqV z w) = ds.countP (fun y => PyData.eqv y x)
  | _, _, .nil, _ => rfl
  | _, _, .cons r t, h => by
    rw [List.all_cons, Bool.and_eq_true] at h
    rw [List.countP_cons, List.countP_cons, cnt_dq q h2 t h.2, eqV_dq r q h.1 h2]
theorem tE_countF {f g : EF} {Q : VK} : tE K Γ E (fCountF f g) σ H Q → tBM K "list" (rCntF K) (tE K Γ E f) (tA K Γ E (fCons g fNil)) σ H Q := by
  rintro ⟨μ, Oc, T, env, h, s, go⟩
  refine ⟨μ, Oc, T, env, h, s, ?_⟩
  unfold fCountF at go
  cases hf : f env h with
  | er => rw [hf] at go; exact go
  | exc c h1 => rw [hf] at go; exact go
  | ok a h1 =>
    rw [hf] at go
    simp only [Res.bind] at go
    intro v H1 μ1 Oc1 P1 p
    cases hq : a.lst with
    | none => rw [hq] at go; exact go.elim
    | some ds =>
      rw [hq] at go
      simp only [Option.isSome_some, if_true] at go
      obtain ⟨v', ev, r⟩ := ras1 p.val
      cases ev
      obtain ⟨q, ws, rfl, e1, e2⟩ := r.itemsL hq
      refine ⟨.inl ⟨rfl, ws, .of e1⟩, ?_⟩
      refine ⟨μ1, Oc1, T ++ P1, env, h1, p.sim, ?_⟩
      unfold fCons
      cases hg : g env h1 with
      | er => simp only [hg] at go; exact go.elim
      | exc c h2 => simp only [hg] at go; exact PsX.step p go
      | ok b h2 =>
        simp only [hg] at go
        intro vs H2 μ2 Oc2 P2 p2
        obtain ⟨w, ew, rw'⟩ := ras1 p2.val
        subst ew
        have pp := p.app p2
        unfold gCntF at go
        rw [hq] at go
        simp only [Option.bind_some] at go
        cases hb : b.d with
        | none => rw [hb] at go; exact go.elim
        | some x =>
          rw [hb] at go
          simp only [Option.bind_some] at go
          by_cases hc : flatD x = true ∧ ds.all flatD = true
          · rw [if_pos hc] at go
            obtain ⟨v2, w2, P3, P4, ev2, r1, r2, _⟩ := ras2 pp.val
            cases ev2
            obtain ⟨q2, ws2, eq2, e3, e4⟩ := r1.itemsL hq
            cases eq2
            have dw := r2.dp exFH exFW exWH hb
            refine ⟨q, ws2, w, rfl, rfl, .of e3, by rw [flat_dq dw]; exact hc.1, by rw [flats_dq e4]; exact hc.2, ?_⟩
            rw [cnt_dq dw hc.1 (ex_dps exFH e4) hc.2]
            exact go _ H2 μ2 Oc2 [] (pp.prim (Ex.refl _) (fun _ z => absurd z List.not_mem_nil) List.nodup_nil (.dat (.int _)))
          · rw [if_neg hc] at go; exact go.elim
end
section
variable {X : Cx} {Γ : Nat → Addr} {E : XK} {apos cpos : Pos}
theorem e_countF {o e : Expr} {f g : EF} (ho : PE X o (tE X.K Γ E f)) (he : PE X e (tE X.K Γ E g))
    (hs1 : starEach [e] X.env = (false, eval e X.env) :: starEach [] X.env := by rfl)
    (hbase : attributeBase o "count" X.env (eval o X.env) = eval o X.env := by rfl)
    (hfew : ((backTo cpos (starEach [e] X.env)).all (fun x => !x.1) && (backToKw cpos (keywordEach [] X.env)).all (fun x => x.1.isSome)
      && decide ([e].length + ([] : List Keyword).length + (if ([] : List Keyword).isEmpty then 0 else 1) < 30)) = true := by rfl)
    (hline : (apos.endLine == cpos.line) = true := by rfl) : PE X (.Call (.Attribute o "count" apos) [e] [] cpos) (tE X.K Γ E (fCountF f g)) :=
  pe_imp (pe_bm PySem.F.plainAttrs_list PySem.F.slot_list_count PySem.F.type_list_count mt_countF ho (a_cons he a_nil hs1) hbase hfew hline hs1 rfl) fun _ _ _ => tE_countF
end
end Mi
/-! Mini: list comprehensions of two clauses. -/
namespace Mi
open PySem L2 PySem.Spec PyProof.Rows
def compI (js : List Nat) (test : TF) (elt : EF) (env : En) : List (List D) → List D → Hh → Res (List D)
  | [], acc, h => .ok acc h
  | ds :: r, acc, h => match bnd js ds env with
    | none => .er
    | some env1 => match test env1 h with
      | .ok true h1 => match elt env1 h1 with
        | .ok a h2 => match sto a with
          | some d => if acc.length < LIM then compI js test elt env r (acc ++ [d]) h2 else .er
          | none => .er
        | _ => .er
      | .ok false h1 => compI js test elt env r acc h1
      | _ => .er
def comp2F (js : List Nat) (test : TF) (it1 : IG) (js1 vs1 : List Nat) (test1 : TF) (elt : EF) (env : En) : List (List D) → List D → Hh → Res A
  | [], acc, h => .ok (.ob (.lst acc)) h
  | ds :: r, acc, h => match bnd js ds env with
    | none => .er
    | some env1 => match test env1 h with
      | .ok true h1 => match it1 env1 h1 with
        | .ok (dss1, true) h2 => match compI js1 test1 elt (wipeE env1 vs1) dss1 acc h2 with
          | .ok acc' h3 => comp2F js test it1 js1 vs1 test1 elt env r acc' h3
          | _ => .er
        | _ => .er
      | .ok false h1 => comp2F js test it1 js1 vs1 test1 elt env r acc h1
      | _ => .er
def fComp2 (it : IG) (js own : List Nat) (test : TF) (it1 : IG) (js1 vs1 : List Nat) (test1 : TF) (elt : EF) : EF := fun env h => (it env h).bind fun o h1 => comp2F js test it1 js1 vs1 test1 elt (wipeE env own) o.1 [] h1
section
variable {K : PySem.W.Frag} {Γ : Nat → Addr} {E : XK} {σ σ1 σ2 : L2.St} {μ μ1 μ3 μ4 Oc Oc1 Oc3 Oc4 P T S : List Addr} {env env1 env3 : En} {H H1 H3 H4 F Fw Ff : Hp} {h h1 h4 : Hh} {D : Addr} {acc : List Mi.D}
/-- the state within the loops: the new list at D holds acc -/
structure CSx (K : PySem.W.Frag) (μ Oc T : List Addr) (H : Hp) (D : Addr) (acc : List Mi.D) (h' : Hh) (H' : Hp) (μ' Oc' : List Addr) : Prop where
  gr : Gr Oc H μ Oc' H' μ'
  nd : (Oc' ++ (T ++ [D])).Nodup
  cells : RC K (mns H' (Oc' ++ (T ++ [D]))) H' h' μ' Oc'
  live : ∀ q ∈ T ++ [D], NF H' q
  at' : ∃ accV, H' D = some (.lst accV) ∧ DqAll K (mns H' (Oc' ++ (T ++ [D]))) accV acc
theorem Slots.to (sl : Slots K (mns H (Oc ++ (T ++ [D]))) H μ T env σ) (n : (Oc ++ (T ++ [D])).Nodup) (g : Gr Oc H μ Oc1 H1 μ1) : Slots K (mns H1 (Oc1 ++ (T ++ [D]))) H1 μ1 T env σ :=
  sl.mv (fr_step g fun q hq => .inl hq) g.pre (ag_step g n fun q hq => List.mem_append_left _ hq) fun _ z => z
theorem CSx.sim (c : CSx K μ Oc T H D acc h1 H1 μ1 Oc1) (sl : Slots K (mns H1 (Oc1 ++ (T ++ [D]))) H1 μ1 T env σ) : Sim K H1 σ μ1 Oc1 (T ++ [D]) env h1 :=
  ⟨c.nd, c.cells, sl.mv (Ex.refl _) (Pre.refl _) (fun _ _ _ z => z) fun q hq => List.mem_append_left _ hq, c.live⟩
/-- a step on -/
theorem CSx.step (c : CSx K μ Oc T H D acc h1 H1 μ1 Oc1) {h2 : Hh} {H2 : Hp} {μ2 Oc2 : List Addr} (g : Gr Oc1 H1 μ1 Oc2 H2 μ2) (n : (Oc2 ++ (T ++ [D])).Nodup) (r : RC K (mns H2 (Oc2 ++ (T ++ [D]))) H2 h2 μ2 Oc2) : CSx K μ Oc T H D acc h2 H2 μ2 Oc2 := by
  obtain ⟨accV, a1, a2⟩ := c.at'
  have ex : Ex (mns H1 (Oc1 ++ (T ++ [D]))) (mns H2 (Oc2 ++ (T ++ [D]))) := fr_step g fun q hq => .inl hq
  refine ⟨c.gr.trans g, n, r, fun q hq => ?_, accV, g.keep D _ (nd_ne' c.nd (List.mem_append_right _ List.mem_cons_self)) a1, ex_dps ex a2⟩
  obtain ⟨o, ho, nf⟩ := c.live q hq
  exact ⟨o, g.keep q o (nd_ne' c.nd hq) ho, nf⟩
theorem CSx.ex (c : CSx K μ Oc T H D acc h1 H1 μ1 Oc1) {H2 : Hp} (e : Ex H1 H2) : CSx K μ Oc T H D acc h1 H2 μ1 Oc1 :=
  c.step (Gr.ex e) c.nd (c.cells.mv (ex_mns fun q o hq z => ⟨e q o z, hq⟩) fun q _ o z => e q o z)
theorem CSx.post {as : List A} {vs : List V} (c : CSx K μ Oc T H D acc h1 H1 μ1 Oc1) {h2 : Hh} {H2 : Hp} {μ2 Oc2 P2 : List Addr} (p : PsA K σ μ1 Oc1 (T ++ [D]) env H1 as h2 vs H2 μ2 Oc2 P2) : CSx K μ Oc T H D acc h2 H2 μ2 Oc2 := by
  have p0 := p.drop
  have n := p0.nd
  have r := p0.cells
  rw [List.append_nil] at n r
  exact c.step p.gr n r
/-- the list grows -/
theorem CSx.app (c : CSx K μ Oc T H D acc h1 H1 μ1 Oc1) (hD : H D = none) {y : V} {d : Mi.D} {accV : List V} (a1 : H1 D = some (.lst accV)) (dy : Dq K (mns H1 (Oc1 ++ (T ++ [D]))) y d) :
    CSx K μ Oc T H D (acc ++ [d]) h1 (L2.upd H1 D (.lst (accV ++ [y]))) μ1 Oc1 ∧ ∀ env σ, Slots K (mns H1 (Oc1 ++ (T ++ [D]))) H1 μ1 T env σ → Slots K (mns (L2.upd H1 D (.lst (accV ++ [y]))) (Oc1 ++ (T ++ [D]))) (L2.upd H1 D (.lst (accV ++ [y]))) μ1 T env σ := by
  obtain ⟨accW, b1, b2⟩ := c.at'
  rw [a1] at b1
  cases b1
  have hin : D ∈ Oc1 ++ (T ++ [D]) := List.mem_append_right _ (List.mem_append_right _ List.mem_cons_self)
  have ex5 : Ex (mns H1 (Oc1 ++ (T ++ [D]))) (mns (L2.upd H1 D (.lst (accV ++ [y]))) (Oc1 ++ (T ++ [D]))) := ex_upd hin
  have nOD : D ∉ Oc1 := nd_ne' c.nd (List.mem_append_right _ List.mem_cons_self)
  have nTD : D ∉ T := fun z => nd_ne (nd_r c.nd) z List.mem_cons_self
  refine ⟨⟨⟨fun q o hq e => ?_, c.gr.new, fun q hq => c.gr.dom q (upd_dom hq), c.gr.pre⟩, c.nd, c.cells.mv ex5 fun q hq o z => upd_at (fun e => nOD (by rw [← e]; exact hq)) z, fun q hq => (c.live q hq).upd, _, upd_same, dps_append (ex_dps ex5 b2) (.cons (ex_dp ex5 dy) .nil)⟩,
    fun env σ sl => sl.mv ex5 (Pre.refl _) (fun q hq o z => upd_at (fun e => nTD (by rw [← e]; exact hq)) z) fun _ z => z⟩
  exact upd_at (fun z => by rw [z, hD] at e; cases e) (c.gr.keep q o hq e)
theorem CSx.frz (c : CSx K μ Oc T H D acc h1 H1 μ1 Oc1) {H2 : Hp} {F' : Hp} (ef : Ex Ff (mns H1 (Oc1 ++ (T ++ [D])))) (k2 : Ex F' H2) (k3 : ∀ q o, F' q = some o → Ff q = some o ∨ H1 q = none) : Ex F' (mns H2 (Oc1 ++ (T ++ [D]))) := fun q o hq => by
  refine mns_some.mpr ⟨fun z => ?_, k2 q o hq⟩
  rcases k3 q o hq with z2 | z2
  · exact (mns_some.mp (ef q o z2)).1 z
  · rcases List.mem_append.mp z with w | w
    · obtain ⟨o', ho', _⟩ := c.cells.there q w
      rw [z2] at ho'
      cases ho'
    · obtain ⟨o', ho', _⟩ := c.live q w
      rw [z2] at ho'
      cases ho'
/-- one clause's loop within the other's -/
theorem inner {m1 : Bool} {js1 vs1 : List Nat} {test1 : TF} {elt : EF} {J1 : It} {dss1 : List (List Mi.D)} {acc' : List Mi.D} {h' : Hh} {Nx : Hp → Prop} (hj : ∀ j ∈ js1, j ∈ vs1) (hD : H D = none) (c4 : CSx K μ Oc T H D acc h4 H4 μ4 Oc4) (sl4 : Slots K (mns H4 (Oc4 ++ (T ++ [D]))) H4 μ4 T env3 σ2)
    (eFw : Ex Fw (mns H4 (Oc4 ++ (T ++ [D])))) (eFf : Ex Ff (mns H4 (Oc4 ++ (T ++ [D])))) (wk : Wk K m1 J1 Fw Ff dss1) (hok : compI js1 test1 elt (wipeE env3 vs1) dss1 acc h4 = .ok acc' h') (hNx : ∀ H' μ' Oc', CSx K μ Oc T H D acc' h' H' μ' Oc' → Nx H') :
    ∃ W1 : Nat → Nat → Hp → Prop, (∃ m, W1 0 m H4) ∧ ∀ j k H, W1 j k H →
      (J1.stop j H ∧ Nx H) ∨ (J1.go j H ∧ ∃ Nx1 : Hp → Prop, (∀ H', Nx1 H' → ∃ k', k' < k ∧ W1 (j + 1) k' H') ∧ ∀ x H', J1.yld j H x H' → tgt K m1 js1 x (L2.wipe σ2 vs1) H' fun σ3 H5 => L2.wipe σ3 vs1 = L2.wipe σ2 vs1 ∧ tT K Γ E0 test1 σ3 H5 fun b H6 =>
        if b = true then tE K Γ E0 elt σ3 H6 fun y H7 => ∃ acc, H7 D = some (.lst acc) ∧ acc.length < sizeLine ∧ Nx1 (L2.upd H7 D (.lst (acc ++ [y]))) else Nx1 H6) := by
  refine ⟨fun j k H' => k = dss1.length - j ∧ j ≤ dss1.length ∧ ∃ μ' Oc' h2 acc2, CSx K μ Oc T H D acc2 h2 H' μ' Oc' ∧ Slots K (mns H' (Oc' ++ (T ++ [D]))) H' μ' T env3 σ2 ∧ Ex Fw (mns H' (Oc' ++ (T ++ [D]))) ∧ Ex Ff (mns H' (Oc' ++ (T ++ [D]))) ∧ compI js1 test1 elt (wipeE env3 vs1) (dss1.drop j) acc2 h2 = .ok acc' h',
    ⟨_, rfl, Nat.zero_le _, μ4, Oc4, h4, acc, c4, sl4, eFw, eFf, hok⟩, ?_⟩
  rintro j k H2 ⟨rfl, hj1, μ2, Oc2, h2, acc2, c2, sl2, eW, eF, go⟩
  by_cases hlt : j < dss1.length
  · refine .inr ⟨wk.go H2 j (eW.trans (mns_ex _ _)) (eF.trans (mns_ex _ _)) hlt, _, fun H' hN => ⟨dss1.length - (j + 1), by omega, hN⟩, fun x H3 hy => ?_⟩
    have hget : dss1[j]? = some dss1[j] := List.getElem?_eq_getElem hlt
    rw [List.drop_eq_getElem_cons hlt] at go
    obtain ⟨eH, F', k1, k2, k3, k4⟩ := wk.yld H2 j x H3 _ (eW.trans (mns_ex _ _)) (eF.trans (mns_ex _ _)) hget hy
    have c3 := c2.ex eH
    have eF3 := c2.frz eF k2 k3
    have g23 : Gr Oc2 H2 μ2 Oc2 H3 μ2 := Gr.ex eH
    have sl3 := sl2.to c2.nd g23
    have e23 : Ex (mns H2 (Oc2 ++ (T ++ [D]))) (mns H3 (Oc2 ++ (T ++ [D]))) := fr_step g23 fun q hq => .inl hq
    unfold compI at go
    cases hb : bnd js1 dss1[j] (wipeE env3 vs1) with
    | none => rw [hb] at go; cases go
    | some env4 =>
      simp only [hb] at go
      refine tgt_ok hb (mns_ex _ _) (k4.ex eF3) (sl3.wipe vs1) fun ws3 sl5 => ⟨wipe_sets hj, ?_⟩
      have s4 : Sim K H3 (setsV js1 ws3 (L2.wipe σ2 vs1)) μ2 Oc2 (T ++ [D]) env4 h2 := c3.sim sl5
      refine ⟨μ2, Oc2, T ++ [D], env4, h2, s4, ?_⟩
      cases ht : test1 env4 h2 with
      | er => simp only [ht] at go; cases go
      | exc c h4 => simp only [ht] at go; cases go
      | ok b h5 =>
        intro H5 μ5 Oc5 p5
        have c5 := c3.post p5
        have sl6 := sl3.to c3.nd p5.gr
        have e35 : Ex (mns H3 (Oc2 ++ (T ++ [D]))) (mns H5 (Oc5 ++ (T ++ [D]))) := fr_step p5.gr fun q hq => .inl hq
        cases b with
        | false =>
          simp only [ht] at go
          exact ⟨rfl, hlt, μ5, Oc5, h5, acc2, c5, sl6, (eW.trans e23).trans e35, (eF.trans e23).trans e35, go⟩
        | true =>
          simp only [ht] at go
          refine ⟨μ5, Oc5, T ++ [D], env4, h5, p5.sim0, ?_⟩
          cases he : elt env4 h5 with
          | er => simp only [he] at go; cases go
          | exc c h6 => simp only [he] at go; cases go
          | ok a h6 =>
            simp only [he] at go
            intro y H6 μ6 Oc6 P6 p6
            cases hs : sto a with
            | none => simp only [hs] at go; cases go
            | some d =>
              simp only [hs] at go
              by_cases hl : acc2.length < LIM
              · rw [if_pos hl] at go
                have c6 := c5.post p6
                have sl7 := sl6.to c5.nd p6.gr
                have e56 : Ex (mns H5 (Oc5 ++ (T ++ [D]))) (mns H6 (Oc6 ++ (T ++ [D]))) := fr_step p6.gr fun q hq => .inl hq
                obtain ⟨accW, b1, b2⟩ := c6.at'
                have dy : Dq K (mns H6 (Oc6 ++ (T ++ [D]))) y d := by
                  obtain ⟨y', ey, ry⟩ := ras1 p6.val
                  cases ey
                  exact ra_sto p6.nd ry (fun _ z => z) hs
                obtain ⟨c7, sls⟩ := c6.app hD b1 dy
                have hin : D ∈ Oc6 ++ (T ++ [D]) := List.mem_append_right _ (List.mem_append_right _ List.mem_cons_self)
                have e67 : Ex (mns H6 (Oc6 ++ (T ++ [D]))) (mns (L2.upd H6 D (.lst (accW ++ [y]))) (Oc6 ++ (T ++ [D]))) := ex_upd hin
                exact ⟨accW, b1, by rw [dps_length b2]; exact lim_lt hl, rfl, hlt, μ6, Oc6, h6, acc2 ++ [d], c7, sls _ _ sl7, (((eW.trans e23).trans e35).trans e56).trans e67, (((eF.trans e23).trans e35).trans e56).trans e67, go⟩
              · rw [if_neg hl] at go; cases go
  · have e : j = dss1.length := by omega
    subst e
    rw [List.drop_length] at go
    unfold compI at go
    cases go
    exact .inl ⟨wk.stop H2 _ (eW.trans (mns_ex _ _)) (eF.trans (mns_ex _ _)) (Nat.le_refl _), hNx H2 μ2 Oc2 c2⟩
theorem tE_comp2 {m m1 : Bool} {it it1 : IG} {js js1 own vs1 : List Nat} {test test1 : TF} {elt : EF} {Q : VK} (hj : ∀ j ∈ js, j ∈ own) (hj1 : ∀ j ∈ js1, j ∈ vs1) (hq : tE K Γ E (fComp2 it js own test it1 js1 vs1 test1 elt) σ H Q) :
    tLc2 (tI K Γ E m it) (tgt K m js) (tT K Γ E0 test) (tI K Γ E0 m1 it1) (tgt K m1 js1) (tT K Γ E0 test1) (tE K Γ E0 elt) own vs1 σ H Q := by
  obtain ⟨μ, Oc, T, env, h, s, go⟩ := hq
  refine ⟨μ, Oc, T, env, h, s, ?_⟩
  unfold fComp2 at go
  cases hi : it env h with
  | er => rw [hi] at go; exact go
  | exc c h1 => rw [hi] at go; exact go
  | ok o h1 =>
    obtain ⟨dss, st⟩ := o
    rw [hi] at go
    change GoE K Γ E (comp2F js test it1 js1 vs1 test1 elt (wipeE env own) dss [] h1) σ H μ Oc T env Q at go
    intro J H1 μ1 Oc1 Fw Ff p eFw eFf wk D hD
    have s1 : Sim K H1 σ μ1 Oc1 T env h1 := p.sim0
    have eW1 : Ex Fw (mns H1 Oc1) := eFw.trans (by
      cases st with
      | true => exact mns_mono fun q hq => List.mem_append_left _ hq
      | false => exact Ex.refl _)
    have nO1 : D ∉ Oc1 := nin_c s1.cells hD
    have nT1 : D ∉ T := nin_t s1.live hD
    have ex0 : Ex (mns H1 (Oc1 ++ T)) (mns (L2.upd H1 D (.lst [])) (Oc1 ++ (T ++ [D]))) := by
      have := new_ex (Oc := Oc1) (T := T) (P := []) (P' := [D]) (o := .lst []) hD (in1 hD)
      rwa [List.append_nil] at this
    have nd0 : (Oc1 ++ (T ++ [D])).Nodup := by
      rw [← List.append_assoc]
      refine nd_mk s1.nd (nd1 D) fun q a b => ?_
      have e : q = D := by simpa using b
      subst e
      exact (List.mem_append.mp a).elim nO1 nT1
    have c0 : CSx K μ1 Oc1 T H1 D [] h1 (L2.upd H1 D (.lst [])) μ1 Oc1 := by
      refine ⟨Gr.ex (Ex.new hD), nd0, s1.cells.mv ex0 fun q _ o z => Ex.new hD q o z, fun q hq => ?_, [], upd_same, .nil⟩
      rcases List.mem_append.mp hq with z | z
      · exact (s1.live q z).upd
      · have e : q = D := by simpa using z
        subst e
        exact .lst upd_same
    have sl0 : Slots K (mns (L2.upd H1 D (.lst [])) (Oc1 ++ (T ++ [D]))) (L2.upd H1 D (.lst [])) μ1 T env σ := s1.slots.mv ex0 (Pre.refl _) (fun q _ o z => Ex.new hD q o z) fun q hq => hq
    refine ⟨fun i m H' => m = dss.length - i ∧ i ≤ dss.length ∧ ∃ μ' Oc' h' acc, CSx K μ1 Oc1 T H1 D acc h' H' μ' Oc' ∧ GoE K Γ E (comp2F js test it1 js1 vs1 test1 elt (wipeE env own) (dss.drop i) acc h') σ H μ Oc T env Q,
      ⟨_, rfl, Nat.zero_le _, μ1, Oc1, h1, [], c0, go⟩, ?_⟩
    rintro i m H2 ⟨rfl, hi, μ2, Oc2, h2, acc, c2, go2⟩
    have eW : Ex Fw H2 := (eW1.trans (w_step c2.gr)).trans (mns_ex _ _)
    have e12 : Ex (mns H1 (Oc1 ++ T)) (mns H2 (Oc2 ++ (T ++ [D]))) := fr_step c2.gr fun q hq => (List.mem_append.mp hq).elim .inl fun z => .inr (by
      have e : q = D := by simpa using z
      rw [e]; exact hD)
    have eF : Ex Ff (mns H2 (Oc2 ++ (T ++ [D]))) := eFf.trans e12
    have sl2 : Slots K (mns H2 (Oc2 ++ (T ++ [D]))) H2 μ2 T env σ := by
      obtain ⟨Os, o1, o2, o3⟩ := s1.slots
      exact ⟨Os, o1, o2, o3.mv e12 c2.gr.pre fun q hq o z => c2.gr.keep q o (nd_ne' s1.nd (o1 q hq)) z⟩
    by_cases hlt : i < dss.length
    · refine .inr ⟨wk.go H2 i eW (eF.trans (mns_ex _ _)) hlt, _, fun H' hN => ⟨dss.length - (i + 1), by omega, hN⟩, fun x H3 hy => ?_⟩
      have hget : dss[i]? = some dss[i] := List.getElem?_eq_getElem hlt
      rw [List.drop_eq_getElem_cons hlt] at go2
      obtain ⟨eH, F', k1, k2, k3, k4⟩ := wk.yld H2 i x H3 _ eW (eF.trans (mns_ex _ _)) hget hy
      have c3 := c2.ex eH
      have eF3 := c2.frz eF k2 k3
      have sl3 := sl2.to c2.nd (Gr.ex (Oc := Oc2) (μ := μ2) eH)
      unfold comp2F at go2
      cases hb : bnd js dss[i] (wipeE env own) with
      | none => rw [hb] at go2; exact go2.elim
      | some env3 =>
        simp only [hb] at go2
        refine tgt_ok hb (mns_ex _ _) (k4.ex eF3) (sl3.wipe own) fun ws3 sl5 => ⟨wipe_sets hj, ?_⟩
        have s4 : Sim K H3 (setsV js ws3 (L2.wipe σ own)) μ2 Oc2 (T ++ [D]) env3 h2 := c3.sim sl5
        refine ⟨μ2, Oc2, T ++ [D], env3, h2, s4, ?_⟩
        cases ht : test env3 h2 with
        | er => simp only [ht] at go2; exact go2.elim
        | exc c h4 => simp only [ht] at go2; exact go2.elim
        | ok b h4 =>
          intro H4 μ4 Oc4 p4
          have c4 := c3.post p4
          cases b with
          | false =>
            simp only [ht] at go2
            exact ⟨rfl, hlt, μ4, Oc4, h4, acc, c4, go2⟩
          | true =>
            simp only [ht] at go2
            have sl6 := sl5.to c3.nd p4.gr
            refine ⟨μ4, Oc4, T ++ [D], env3, h4, p4.sim0, ?_⟩
            cases hi1 : it1 env3 h4 with
            | er => simp only [hi1] at go2; exact go2.elim
            | exc c h5 => simp only [hi1] at go2; exact go2.elim
            | ok o1 h5 =>
              obtain ⟨dss1, st1⟩ := o1
              cases st1 with
              | false => simp only [hi1] at go2; exact go2.elim
              | true =>
                simp only [hi1] at go2
                intro J1 H5 μ5 Oc5 Fw1 Ff1 p5 eFw1 eFf1 wk1
                have c5 := c4.post p5
                have sl7 := sl6.to c4.nd p5.gr
                cases hc : compI js1 test1 elt (wipeE env3 vs1) dss1 acc h5 with
                | er => simp only [hc] at go2; exact go2.elim
                | exc c h6 => simp only [hc] at go2; exact go2.elim
                | ok acc' h6 =>
                  simp only [hc] at go2
                  exact inner hj1 hD c5 sl7 eFw1 eFf1 wk1 hc fun H' μ' Oc' c6 => ⟨rfl, hlt, μ', Oc', h6, acc', c6, go2⟩
    · have e : i = dss.length := by omega
      subst e
      rw [List.drop_length] at go2
      unfold comp2F at go2
      refine .inl ⟨wk.stop H2 _ eW (eF.trans (mns_ex _ _)) (Nat.le_refl _), ?_⟩
      obtain ⟨accV, a1, a2⟩ := c2.at'
      refine go2 (.ref D) H2 μ2 Oc2 [D] ⟨p.gr.trans c2.gr, fun q hq => ?_, c2.nd, c2.cells, sl2, one_val (.ob (.lst a1 a2)), fun q hq => c2.live q (List.mem_append_left _ hq)⟩
      have e : q = D := by simpa using hq
      rw [e]
      exact p.gr.dom D hD
end
section
variable {X : Cx} {Γ : Nat → Addr} {E : XK}
theorem e_comp2 {m m1 : Bool} {elt tg iter tg1 iter1 : Expr} {ifs ifs1 : List Expr} {scope : Scope} {own : List (Str × Nat)} {vs1 : List Nat} {pos : Pos} {it it1 : IG} {js js1 : List Nat} {test test1 : TF} {fe : EF} (hc : X.calm = true) (hN : X.N.Nodup) (hi : PI X tg iter (tI X.K Γ E m it)) (ok : BlkOk X.N X.env.scope scope own)
    (hg : ∀ (s : Shared) (H : Hp) (C : Addr) (cl : List (Str × Addr)) (fp : List Addr), PG (X.blk s H scope (compEnvC scope cl C X.env) fp) tg (tgt X.K m js)) (ht : ∀ (s : Shared) (H : Hp) (C : Addr) (cl : List (Str × Addr)) (fp : List Addr), PTs (X.blk s H scope (compEnvC scope cl C X.env) fp) ifs (tT X.K Γ E0 test))
    (hi1 : ∀ (s : Shared) (H : Hp) (C : Addr) (cl : List (Str × Addr)) (fp : List Addr), PI (X.blk s H scope (compEnvC scope cl C X.env) fp) tg1 iter1 (tI X.K Γ E0 m1 it1))
    (hg1 : ∀ (s : Shared) (H : Hp) (C : Addr) (cl : List (Str × Addr)) (fp : List Addr), PG (X.blk s H scope (compEnvC scope cl C X.env) fp) tg1 (tgt X.K m1 js1)) (ht1 : ∀ (s : Shared) (H : Hp) (C : Addr) (cl : List (Str × Addr)) (fp : List Addr), PTs (X.blk s H scope (compEnvC scope cl C X.env) fp) ifs1 (tT X.K Γ E0 test1))
    (he : ∀ (s : Shared) (H : Hp) (C : Addr) (cl : List (Str × Addr)) (fp : List Addr), PE (X.blk s H scope (compEnvC scope cl C X.env) fp) elt (tE X.K Γ E0 fe)) (hv : ∀ i ∈ vs1, i ∈ own.map (·.2)) (hj : ∀ j ∈ js, j ∈ own.map (·.2)) (hj1 : ∀ j ∈ js1, j ∈ vs1)
    (hs : ∀ x, foldedSetIterable iter X.env x = pure x := by intro _; rfl) (hs1 : ∀ env x, foldedSetIterable iter1 env x = pure x := by intro _ _; rfl) :
    PE X (.ListComp elt [⟨tg, iter, ifs, 0⟩, ⟨tg1, iter1, ifs1, 0⟩] scope pos) (tE X.K Γ E (fComp2 it js (own.map (·.2)) test it1 js1 vs1 test1 fe)) := pe_imp (pe_lc2 hc hN hi ok hv hg ht hi1 hg1 ht1 he hs hs1) fun _ _ _ => tE_comp2 hj hj1
theorem s_setFc2 {i : Nat} {y : Str} {py : Pos} {m m1 : Bool} {elt tg iter tg1 iter1 : Expr} {ifs ifs1 : List Expr} {scope : Scope} {own : List (Str × Nat)} {vs1 : List Nat} {pos spos : Pos} {it it1 : IG} {js js1 : List Nat} {test test1 : TF} {fe : EF} (hc : X.calm = true) (hN : X.N.Nodup) (hy : X.N[i]? = some y) (hyl : X.env.scope.names.lookup y = some .local)
    (hsw : swapsWith (.ListComp elt [⟨tg, iter, ifs, 0⟩, ⟨tg1, iter1, ifs1, 0⟩] scope pos) (some (.Name y py)) spos.line X.env = pure true) (hi : PI X tg iter (tI X.K Γ E m it)) (ok : BlkOk X.N X.env.scope scope own)
    (hg : ∀ (s : Shared) (H : Hp) (C : Addr) (cl : List (Str × Addr)) (fp : List Addr), PG (X.blk s H scope (compEnvC scope cl C X.env) fp) tg (tgt X.K m js)) (ht : ∀ (s : Shared) (H : Hp) (C : Addr) (cl : List (Str × Addr)) (fp : List Addr), PTs (X.blk s H scope (compEnvC scope cl C X.env) fp) ifs (tT X.K Γ E0 test))
    (hi1 : ∀ (s : Shared) (H : Hp) (C : Addr) (cl : List (Str × Addr)) (fp : List Addr), PI (X.blk s H scope (compEnvC scope cl C X.env) fp) tg1 iter1 (tI X.K Γ E0 m1 it1))
    (hg1 : ∀ (s : Shared) (H : Hp) (C : Addr) (cl : List (Str × Addr)) (fp : List Addr), PG (X.blk s H scope (compEnvC scope cl C X.env) fp) tg1 (tgt X.K m1 js1)) (ht1 : ∀ (s : Shared) (H : Hp) (C : Addr) (cl : List (Str × Addr)) (fp : List Addr), PTs (X.blk s H scope (compEnvC scope cl C X.env) fp) ifs1 (tT X.K Γ E0 test1))
    (he : ∀ (s : Shared) (H : Hp) (C : Addr) (cl : List (Str × Addr)) (fp : List Addr), PE (X.blk s H scope (compEnvC scope cl C X.env) fp) elt (tE X.K Γ E0 fe)) (hv : ∀ i ∈ vs1, i ∈ own.map (·.2)) (hj : ∀ j ∈ js, j ∈ own.map (·.2)) (hj1 : ∀ j ∈ js1, j ∈ vs1)
    (hs : ∀ x, foldedSetIterable iter X.env x = pure x := by intro _; rfl) (hs1 : ∀ env x, foldedSetIterable iter1 env x = pure x := by intro _ _; rfl) :
    PS X (.Assign [.Name y py] (.ListComp elt [⟨tg, iter, ifs, 0⟩, ⟨tg1, iter1, ifs1, 0⟩] scope pos) spos) (tS X.K Γ E (fSetF i (fComp2 it js (own.map (·.2)) test it1 js1 vs1 test1 fe))) :=
  ps_imp (ps_setLc2 hc hN hy hyl hsw hi ok hv hg ht hi1 hg1 ht1 he hs hs1) fun _ _ _ q => tE_comp2 hj hj1 (tS_setF q)
end
end Mi
/-! Mini: xs[i], xs[j] = a, b. -/
namespace Mi
open PySem L2 PySem.Spec PyProof.Rows
section
variable {X : Cx} {Γ : Nat → Addr} {E : XK} {pos : Pos}
/-- t, u, .. = x, y, ..: by a tuple, any targets -/
theorem ps_parG {g : TGs} {n : Nat} {ts vs : List Expr} {ta : TA} {kt k2 : Nat} {pt pt2 : Pos} (hc : X.calm = true) (hg : PGs X ts g) (ha : PA X vs ta)
    (hw : swappedStores [.Tuple ts kt pt] (.Tuple vs k2 pt2) X.env = pure none := by rfl) (hs : swapsWithSole [.Tuple ts kt pt] (.Tuple vs k2 pt2) pos.line X.env = pure false := by rfl)
    (h1 : (assignEach [.Tuple ts kt pt] X.env).map (·.2) = [assign (.Tuple ts kt pt) X.env] := by rfl)
    (hn : (assignEach ts X.env).length = n := by rfl) (hst : (assignEach ts X.env).findIdx? (·.1) = none := by rfl) (hj : n ≤ 100 := by decide) :
    PS X (.Assign [.Tuple ts kt pt] (.Tuple vs k2 pt2) pos) (fun D σ H => ta σ H fun vs H1 => vs.length = n ∧ g vs σ H1 D.nx) := by
  refine ⟨fun pins s σ H D I h => ?_⟩
  refine wpAny_Assign_stores (wpAny_Tuple_spliced (L2.thn (ha.run pt2 pins s σ H _ I h) fun us s1 ⟨xs, H1, I1, r, hl, q⟩ => ⟨by rw [← r.length, hl]; exact Nat.le_trans hj (by decide), ?_⟩)) hs hw
  rw [h1]
  have I2 : Inv X pins σ H1 { s1 with heap := s1.heap.push { cls := .type "tuple", data := .seq us.toArray } } := I1.kept (t' := s1.toks) fun b o e => Heap.get?_push_of_some _ e
  show wpAny (model X.prog X.w) X.A (assign (.Tuple ts kt pt) X.env (.ref s1.heap.objs.size)) _ _ _
  refine assign_Tuple_tuple (I1.ok.hd hc) (IsTup.new s1.heap us.toArray) (by simp [hn, ← hl, r.length]) hst fun h' hx => ?_
  have I3 : Inv X pins σ H1 { s1 with heap := h' } := I2.kept (h' := h') (t' := s1.toks) fun b o e => hx b o (Nat.ne_of_lt (Heap.lt_size e)) e
  exact L2.thn (hg.run pins _ σ H1 xs _ _ I3 (by simpa using r) q) fun _ s2 z => z
end
/-- x[i] = d, then what follows -/
def setAt (i : Nat) (fi : EF) (d : D) (env : En) (h : Hh) (kk : En → Hh → SRes) : SRes := match fi env h with
  | .ok b h2 => match b.i, env[i]? with
    | some k, some (some (.ob (.lst ds))) => match ixN ds.length k with
      | some j => kk (env.set i (some (.ob (.lst (ds.set j d))))) h2
      | none => .er
    | _, _ => .er
  | _ => .er
def fSwp (i : Nat) (fi1 fi2 : EF) (fs : AF) : SF := fun env h => onA (fs env h) fun as h1 => match stos as with
  | some [d1, d2] => setAt i fi1 d1 env h1 fun env2 h2 => setAt i fi2 d2 env2 h2 fun env3 h3 => .nx env3 h3
  | _ => .er
section
variable {K : PySem.W.Frag} {Γ : Nat → Addr} {E : XK} {σ : L2.St} {μ Oc B S : List Addr} {env : En} {H : Hp} {h : Hh} {D' : Ends}
theorem gSub_set {i : Nat} {fi : EF} {d : D} {v : V} {kk : En → Hh → SRes} {Q : L2.St → Hp → Prop} (s : SSim K H σ μ Oc B S env h) (dv : Dq K (mns H (Oc ++ (B ++ S))) v d) (go : GoS K Γ E (setAt i fi d env h kk) D' H μ Oc B S)
    (hQ : ∀ σ2 H2 μ2 Oc2 env2 h2, SPs K μ Oc B S H σ2 env2 h2 H2 μ2 Oc2 S → Ex (mns H (Oc ++ (B ++ S))) (mns H2 (Oc2 ++ (B ++ S))) → GoS K Γ E (kk env2 h2) D' H μ Oc B S → Q σ2 H2) : gSub (tVar i) (tE K Γ E fi) rSetL v σ H Q := by
  unfold setAt at go
  cases hi : fi env h with
  | er => simp only [hi] at go; exact go.elim
  | exc c h2 => simp only [hi] at go; exact go.elim
  | ok b h2 =>
    simp only [hi] at go
    split at go
    · rename_i k ds hk hs
      cases hj : ixN ds.length k with
      | none => simp only [hj] at go; exact go.elim
      | some j =>
        simp only [hj] at go
        obtain ⟨Os, o1, o2, o3⟩ := s.slots
        obtain ⟨vr, Pr, e1, e2, e3⟩ := o3.get hs
        cases e2 with
        | @ob _ p _ e2 =>
          refine ⟨.ref p, e1, μ, Oc, B ++ S, env, h, s.sim, ?_⟩
          rw [hi]
          intro w H2 μ2 Oc2 P2 p2
          have eb := A.of_i hk
          subst eb
          obtain ⟨w', ew, rw'⟩ := ras1 p2.val
          cases ew
          obtain ⟨rfl, _⟩ := dat_int rw'
          have q0 := p2.ssim0 s
          have ex : Ex (mns H (Oc ++ (B ++ S))) (mns H2 (Oc2 ++ (B ++ S))) := fr_step p2.gr fun q hq => .inl hq
          obtain ⟨Os2, m1, m2, m3⟩ := q0.sim.slots
          obtain ⟨vr2, Pr2, f1, f2, f3⟩ := m3.get hs
          rw [e1] at f1
          cases f1
          cases f2 with
          | ob f2 =>
            cases f2 with
            | @lst _ _ ws g1 g2 =>
              have hpS : p ∈ Oc2 ++ (B ++ S) := List.mem_append_right _ (List.mem_append_right _ (m1 p (f3 p List.mem_cons_self)))
              exact ⟨p, ws, k, j, rfl, rfl, g1, by rw [dps_length g2]; exact hj, hQ _ _ _ _ _ _ (q0.mut hs e1 (dps_set (ex_dp ex dv) j g2)) (ex.trans (ex_upd hpS)) go⟩
    · exact go.elim
theorem tS_swp {i : Nat} {fi1 fi2 : EF} {fs : AF} : tS K Γ E (fSwp i fi1 fi2 fs) D' σ H → tA K Γ E fs σ H fun vs H1 => vs.length = 2 ∧ gCons (gSub (tVar i) (tE K Γ E fi1) rSetL) (gCons (gSub (tVar i) (tE K Γ E fi2) rSetL) gNil) vs σ H1 D'.nx := by
  rintro ⟨μ, Oc, B, S, env, h, s, go⟩
  refine ⟨μ, Oc, B ++ S, env, h, s.sim, ?_⟩
  unfold fSwp onA at go
  cases hf : fs env h with
  | er => simp only [hf] at go; exact go
  | exc c h1 => simp only [hf] at go; exact XPs.of go
  | ok as h1 =>
    simp only [hf] at go
    intro vs H1 μ1 Oc1 P p
    split at go
    · rename_i d1 d2 hst
      have q0 := p.ssim0 s
      have dq := ras_sto p.nd p.val (fun _ z => z) hst
      obtain ⟨v, w, rfl, dv, dw⟩ := dqs2 dq
      refine ⟨rfl, v, [w], rfl, ?_⟩
      have go1 := GoS.step q0.gs go
      refine gSub_set q0.sim dv go1 fun σ2 H2 μ2 Oc2 env2 h2 sp ex go2 => ⟨w, [], rfl, ?_⟩
      refine gSub_set sp.sim (ex_dp ex dw) (GoS.step sp.gs go2) fun σ3 H3 μ3 Oc3 env3 h3 sp3 ex3 go3 => ⟨rfl, ?_⟩
      exact go3 σ3 H3 μ3 Oc3 S ⟨sp3.sim, sp3.gs⟩
    · exact go.elim
end
section
variable {X : Cx} {Γ : Nat → Addr} {E : XK} {pos p1 p2 p3 p4 : Pos}
theorem s_swp (i : Nat) {x : Str} {fi1 fi2 : EF} {fs : AF} {e1 e2 : Expr} {vs : List Expr} {kt k2 : Nat} {pt pt2 : Pos} (hc : X.calm = true) (h1 : PE X e1 (tE X.K Γ E fi1)) (h2 : PE X e2 (tE X.K Γ E fi2)) (ha : PA X vs (tA X.K Γ E fs))
    (hN : X.N[i]? = some x := by rfl) (hv : Vis X.env.scope x := by first | exact Or.inl rfl | exact Or.inr (Or.inl rfl) | exact Or.inr (Or.inr rfl)) (hd : (x == ("__debug__" : Str)) = false := by decide) (hcd : (x == ("__classdict__" : Str)) = false := by decide)
    (ha1 : ∀ v, assign (.Subscript (.Name x p1) e1 p2) X.env v = (do
      let ov ← holding [v] (eval (.Name x p1) X.env)
      let iv ← holding [v, ov] (eval e1 X.env)
      standAt p2
      holding [v, ov, iv] (setItem ov iv v)
      release [v, ov, iv] []) := by intro _; rfl)
    (ha2 : ∀ v, assign (.Subscript (.Name x p3) e2 p4) X.env v = (do
      let ov ← holding [v] (eval (.Name x p3) X.env)
      let iv ← holding [v, ov] (eval e2 X.env)
      standAt p4
      holding [v, ov, iv] (setItem ov iv v)
      release [v, ov, iv] []) := by intro _; rfl)
    (hs1 : (assignEach [.Subscript (.Name x p1) e1 p2, .Subscript (.Name x p3) e2 p4] X.env).map (·.2) = assign (.Subscript (.Name x p1) e1 p2) X.env :: (assignEach [.Subscript (.Name x p3) e2 p4] X.env).map (·.2) := by rfl)
    (hs2 : (assignEach [.Subscript (.Name x p3) e2 p4] X.env).map (·.2) = assign (.Subscript (.Name x p3) e2 p4) X.env :: (assignEach [] X.env).map (·.2) := by rfl)
    (hw : swappedStores [.Tuple [.Subscript (.Name x p1) e1 p2, .Subscript (.Name x p3) e2 p4] kt pt] (.Tuple vs k2 pt2) X.env = pure none := by rfl) (hs : swapsWithSole [.Tuple [.Subscript (.Name x p1) e1 p2, .Subscript (.Name x p3) e2 p4] kt pt] (.Tuple vs k2 pt2) pos.line X.env = pure false := by rfl)
    (h3 : (assignEach [.Tuple [.Subscript (.Name x p1) e1 p2, .Subscript (.Name x p3) e2 p4] kt pt] X.env).map (·.2) = [assign (.Tuple [.Subscript (.Name x p1) e1 p2, .Subscript (.Name x p3) e2 p4] kt pt) X.env] := by rfl)
    (hn : (assignEach [.Subscript (.Name x p1) e1 p2, .Subscript (.Name x p3) e2 p4] X.env).length = 2 := by rfl) (hst : (assignEach [.Subscript (.Name x p1) e1 p2, .Subscript (.Name x p3) e2 p4] X.env).findIdx? (·.1) = none := by rfl) :
    PS X (.Assign [.Tuple [.Subscript (.Name x p1) e1 p2, .Subscript (.Name x p3) e2 p4] kt pt] (.Tuple vs k2 pt2) pos) (tS X.K Γ E (fSwp i fi1 fi2 fs)) :=
  ps_imp (ps_parG hc (pgs_cons (pg_sub (pe_var hN hv hd hcd) h1 set_list ha1) (pgs_cons (pg_sub (pe_var hN hv hd hcd) h2 set_list ha2) pgs_nil hs2) hs1) ha hw hs h3 hn hst) fun _ _ _ => tS_swp
end
end Mi
namespace Mi
open PySem L2 PySem.Spec PyProof.Rows
/-- a == b == c of whole numbers -/
def fChainE (f g k : EF) : EF := fun env h => (f env h).bind fun a h1 => (g env h1).bind fun b h2 => onI a fun i => onI b fun j => if i = j then (k env h2).bind fun c h3 => onI c fun l => .ok (.dat (.bool (decide (j = l)))) h3 else .ok (.dat (.bool false)) h2
theorem shd_i {i : Int} : SeqAt.shaped (.int i) = true := by
  unfold SeqAt.shaped
  rw [PyData.canLay0, PyData.depth]
  rfl
theorem eqv_ii {i j : Int} : PyData.eqv (.int i) (.int j) = decide (i = j) := by
  show (i == j) = _
  by_cases z : i = j <;> simp [z]
section
variable {K : PySem.W.Frag} {Γ : Nat → Addr} {E : XK} {σ : L2.St} {H : Hp}
theorem tE_chainE {f g k : EF} {Q : VK} : tE K Γ E (fChainE f g k) σ H Q → tChain (rEqD K) (rEqD K) (tE K Γ E f) (tE K Γ E g) (tE K Γ E k) σ H Q := by
  rintro ⟨μ, Oc, T, env, h, s, go⟩
  refine ⟨μ, Oc, T, env, h, s, ?_⟩
  unfold fChainE at go
  cases hf : f env h with
  | er => rw [hf] at go; exact go
  | exc c h1 => rw [hf] at go; exact go
  | ok a h1 =>
    rw [hf] at go
    simp only [Res.bind] at go
    intro v H1 μ1 Oc1 P1 p
    refine ⟨μ1, Oc1, T ++ P1, env, h1, p.sim, ?_⟩
    cases hg : g env h1 with
    | er => simp only [hg] at go; exact go.elim
    | exc c h2 => simp only [hg] at go; exact PsX.step p go
    | ok b h2 =>
      simp only [hg] at go
      intro w H2 μ2 Oc2 P2 p2
      have pp := p.app p2
      unfold onI at go
      cases ha : a.i with
      | none => simp only [ha] at go; exact go.elim
      | some i =>
        simp only [ha] at go
        cases hb : b.i with
        | none => simp only [hb] at go; exact go.elim
        | some j =>
          simp only [hb] at go
          have ea := A.of_i ha
          have eb := A.of_i hb
          subst ea eb
          obtain ⟨v', w', P3, P4, ev, r1, r2, _⟩ := ras2 pp.val
          cases ev
          obtain ⟨rfl, _⟩ := dat_int r1
          obtain ⟨rfl, _⟩ := dat_int r2
          refine ⟨.int i, .int j, .int i, .int j, shd_i, shd_i, _, rfl, ?_⟩
          have p0 := pp.drop
          rw [eqv_ii]
          by_cases hc : i = j
          · rw [decide_eq_true hc, if_pos rfl]
            rw [if_pos hc] at go
            refine ⟨μ2, Oc2, T, env, h2, p0.sim0, ?_⟩
            cases hk : k env h2 with
            | er => simp only [hk] at go; exact go.elim
            | exc c h3 => simp only [hk] at go; exact PsX.step0 p0 go
            | ok c h3 =>
              simp only [hk] at go
              intro x H3 μ3 Oc3 P5 p3
              cases hcc : c.i with
              | none => simp only [hcc] at go; exact go.elim
              | some l =>
                simp only [hcc] at go
                have ec := A.of_i hcc
                subst ec
                obtain ⟨x', ex, r3⟩ := ras1 p3.val
                cases ex
                obtain ⟨rfl, _⟩ := dat_int r3
                exact ⟨.int j, .int l, .int j, .int l, shd_i, shd_i, by rw [eqv_ii]; exact go _ H3 μ3 Oc3 [] ((p0.then p3).prim (Ex.refl _) (fun _ z => absurd z List.not_mem_nil) List.nodup_nil (.dat (.bl _)))⟩
          · rw [decide_eq_false hc, if_neg Bool.false_ne_true]
            rw [if_neg hc] at go
            exact go _ H2 μ2 Oc2 [] (pp.prim (Ex.refl _) (fun _ z => absurd z List.not_mem_nil) List.nodup_nil (.dat (.bl _)))
end
section
variable {X : Cx} {Γ : Nat → Addr} {E : XK} {pos p2 p3 : Pos} {a b c : Expr} {f g k : EF}
theorem e_chainE (hu : X.A.units + 64 < cLine) (ha : PE X a (tE X.K Γ E f)) (hb : PE X b (tE X.K Γ E g)) (hc : PE X c (tE X.K Γ E k)) (hm : lastMarks [.Eq, .Eq] [b, c] = false := by with_unfolding_all rfl) : PE X (.Compare a [.Eq, .Eq] [b, c] pos) (tE X.K Γ E (fChainE f g k)) :=
  pe_imp (pe_chain (op_eqD hu) (op_eqD hu) ha hb hc hm) fun _ _ _ => tE_chainE
end
end Mi
/-! Mini: sorted of a list of tuples of whole numbers. -/
namespace PySem.W
open PySem PySem.Calls PyProof.Rows
section
variable {prog : Program} {w : World} {A : Around} {s : Shared}
theorem SortsAt.empty1 {v : Value} (e : EachIs (fun v d => ∃ as, Reads s.heap v d as) [v] [PyData.tuple []]) (hu : A.units + 10 < cLine) : SortsAt prog w A s (dataKind s.heap [PyData.tuple []]) [v] := by
  have hal : AllAlike [PyData.tuple []] := by
    intro d hd d' hd'
    rw [List.mem_singleton.mp hd, List.mem_singleton.mp hd']
    rfl
  refine ⟨fun v hv => ?_, ?_⟩
  · obtain ⟨d, hd, as, r⟩ := e.left v hv
    exact ⟨_, dataKind_some hal hd r⟩
  · refine ⟨tuples' true, ?_, fun h2 => absurd h2 (by simp)⟩
    intro E x y a b Q ha hb hq
    obtain ⟨d, as, hd, ra, rfl⟩ := dataKind_inv ha
    obtain ⟨d', as', hd', rb, rfl⟩ := dataKind_inv hb
    have e1 := List.mem_singleton.mp hd
    have e2 := List.mem_singleton.mp hd'
    subst e1 e2
    have hq' : Q (dataLt (.tuple []) (.tuple [])) s := hq
    rw [dataLt_tuple] at hq'
    cases ra with
    | @tuple l o xs n _ _ h1 h2 h3 h4 =>
      cases rb with
      | @tuple l' o' xs' n' _ _ k1 k2 k3 k4 =>
        have n1 : xs.size = ([] : List PyData).length := by simpa using SeqAt.ReadsAll.length _ _ _ h4
        have n2 : xs'.size = ([] : List PyData).length := by simpa using SeqAt.ReadsAll.length _ _ _ k4
        exact kat_lt h1 h3 k1 k3 (katLex_alike [] [] 0 _ _ _ _ h4 k4 (by simp [alikeAll]) (by simp [PyData.depthAll]; omega) (fun hb _ x r t ex => nomatch ex) (by rw [n1, n2]) hq')
end
end PySem.W
namespace Mi
open PySem L2 PySem.Spec PyProof.Rows
def tupD (r : List Int) : D := .tuple (r.map .int)
def asRows : List D → Option (List (List Int))
  | [] => some []
  | .tuple ds :: r => (asInts ds).bind fun ns => (asRows r).map fun rs => ns :: rs
  | _ => none
theorem asRows_eq : ∀ {ds : List D} {rs : List (List Int)}, asRows ds = some rs → ds = rs.map tupD
  | [], rs, h => by cases h; rfl
  | .tuple es :: r, rs, h => by
    simp only [asRows] at h
    obtain ⟨ns, h1, h2⟩ := Option.bind_eq_some_iff.mp h
    obtain ⟨rs', h3, rfl⟩ := Option.map_eq_some_iff.mp h2
    rw [List.map_cons, ← asRows_eq h3, asInts_eq h1]
    rfl
  | .none :: r, _, h => by simp [asRows] at h
  | .bool _ :: r, _, h => by simp [asRows] at h
  | .int _ :: r, _, h => by simp [asRows] at h
  | .str _ :: r, _, h => by simp [asRows] at h
  | .list _ :: r, _, h => by simp [asRows] at h
  | .dict _ :: r, _, h => by simp [asRows] at h
def leR (a b : List Int) : Bool := decide (a ≤ b)
def srtR (rs : List (List Int)) : List (List Int) := rs.mergeSort leR
theorem dataLe_tups : PySem.W.dataLe false tupD = leR := by
  funext p q
  show (!PySem.W.dataLt (.tuple (q.map .int)) (.tuple (p.map .int))) = _
  rw [PySem.W.dataLt_tuple]
  show (!PySem.W.rowLt (q.map .int) (p.map .int)) = decide (p ≤ q)
  rw [PySem.W.dataLt_ints]
  by_cases h : q < p
  · have h' : ¬ p ≤ q := fun r => List.not_lt.mpr r h
    simp [h, h']
  · have h' : p ≤ q := List.not_lt.mp h
    simp [h, h']
theorem depth_tup (r : List Int) : (tupD r).depth ≤ 1 := by
  unfold tupD
  rw [PyData.depth, PySem.W.depth_ints]
  omega
theorem alike_tup (r q : List Int) : PySem.W.alike (tupD r) (tupD q) = true := by
  unfold tupD
  rw [PySem.W.alike]
  exact PySem.W.alike_ints r q
def okR (rs : List (List Int)) : Bool := rs.all (fun r => !r.isEmpty) || (rs == [[]])
section
variable {X : Cx} {K : PySem.W.Frag} {F : Hp}
def RVal (K : PySem.W.Frag) (F : Hp) : Value → List Int → Prop := fun u r => ∃ w, RelV w u ∧ Dq K F w (tupD r)
theorem each_of : ∀ {ws : List V} {us : List Value} {rs : List (List Int)}, DqAll K F ws (rs.map tupD) → Vals ws us → PySem.W.EachIs (RVal K F) us rs
  | _, _, [], h, r => by cases h; cases r; exact .nil
  | _, _, q :: rs, h, r => by
    rw [List.map_cons] at h
    cases h with
    | cons h1 h2 =>
      cases r with
      | cons r1 r2 => exact .cons ⟨_, r1, h1⟩ (each_of h2 r2)
theorem of_each : ∀ {us : List Value} {rs : List (List Int)}, PySem.W.EachIs (RVal K F) us rs → ∃ ws, Vals ws us ∧ DqAll K F ws (rs.map tupD)
  | _, _, .nil => ⟨[], .nil, .nil⟩
  | _, _, .cons ⟨w, h1, h2⟩ t => by
    obtain ⟨ws, h3, h4⟩ := of_each t
    exact ⟨w :: ws, .cons h1 h3, .cons h2 h4⟩
def rSortR (K : PySem.W.Frag) : List V → Hp → VK → Prop := fun vs H Q => ∃ (a : Addr) (ws : List V) (rs : List (List Int)) (F : Hp), vs = [V.ref a] ∧ H a = some (.lst ws) ∧ Ex F H ∧ DqAll K F ws (rs.map tupD) ∧ okR rs = true ∧ rs.length ≤ sizeLine ∧
  ∀ (p : Addr) (ws' : List V), H p = none → DqAll K F ws' ((srtR rs).map tupD) → Q (.ref p) (L2.upd H p (.lst ws'))
theorem cr_sortR (hu : X.A.units + 64 < cLine) : CallR X (.builtin "sorted") (rSortR X.K) := by
  intro pins s σ H vs us Q I r h
  obtain ⟨a, ws, rs, F, rfl, hH, ef, hd, hok, hz, q⟩ := h
  obtain ⟨its, rv, hl, hzz⟩ := I.list (.of hH)
  rw [Vals.ref1 r]
  obtain ⟨as, hr⟩ := Dp.readsAll I (rs.map tupD) ws its (ex_dps ef hd).dp rv
  have e := each_of hd rv
  have er := PySem.W.readsAll_each tupD hr
  have hal : PySem.W.AllAlike (rs.map tupD) := PySem.W.AllAlike.of fun b b' => alike_tup b b'
  have fin : ∀ out : List Value, out.length = rs.length → PySem.W.EachIs (RVal X.K F) out (srtR rs) → EP X pins σ Q (.ref (s.heap.objs.size + 1)) { s with heap := sortedAll s.heap its out.toArray } := fun out hlen ho => by
    obtain ⟨ws', v1, v2⟩ := of_each ho
    obtain ⟨c, hc⟩ := sortedAll_at s.heap its out.toArray
    have hws : ws'.length ≤ sizeLine := by rw [v1.length, hlen]; exact hz
    exact ⟨.ref (s.heap.objs.size + 1), L2.upd H (s.heap.objs.size + 1) (.lst ws'), I.laid (t' := s.toks) (fun b o z => sortedAll_old z) (Nat.le_succ _) ⟨hws, out, c, v1, hc⟩, rfl, q _ ws' (I.hok.fresh (Nat.le_succ _)) v2⟩
  unfold okR at hok
  rcases Bool.or_eq_true_iff.mp hok with h1 | h1
  · refine PySem.W.sorted_data hl.isList e er hal (.inl ?_) hz (fun b hb => by have := depth_tup b; omega) fun out hlen ho => ?_
    · intro d hd
      obtain ⟨b, hb, rfl⟩ := List.mem_map.mp hd
      have := List.all_eq_true.mp h1 b hb
      cases b with
      | nil => simp at this
      | cons x r => exact ⟨.int x, r.map .int, rfl⟩
    · rw [dataLe_tups] at ho
      exact fin out hlen ho
  · have e1 : rs = [[]] := by simpa using h1
    subst e1
    cases e with
    | cons e1 e2 =>
      cases e2
      rename_i u
      cases er with
      | cons er1 er2 =>
        have er' : PySem.W.EachIs (fun v d => ∃ as, Reads (PySem.W.sortingHeap (PySem.W.copyHeap s.heap [u]) (s.heap.objs.size + 1) [u]) v d as) [u] [PyData.tuple []] := .cons (by
          obtain ⟨as, r⟩ := er1
          exact ⟨as, PyProof.Rows.Reads.keeps (fun _ _ => PySem.W.sorting_copy_old) r⟩) .nil
        refine PySem.W.sorted_vals hl.isList (PySem.W.SortsAt.empty1 (s := { s with heap := PySem.W.sortingHeap (PySem.W.copyHeap s.heap [u]) (s.heap.objs.size + 1) [u] }) er' (by show X.A.units + 1 + 1 + 10 < cLine; omega)) (by show 1 ≤ sizeLine; decide) ?_
        have hsv : PySem.W.sortVals (PySem.W.dataKind (PySem.W.sortingHeap (PySem.W.copyHeap s.heap [u]) (s.heap.objs.size + 1) [u]) [PyData.tuple []]) false [u] [u] = [u] := by
          unfold PySem.W.sortVals
          rw [show [u].zip [u] = [(u, u)] from rfl, List.mergeSort_singleton]
          rfl
        rw [hsv]
        exact fin [u] rfl (by unfold srtR; rw [List.mergeSort_singleton]; exact .cons e1 .nil)
end
end Mi
namespace Mi
open PySem L2 PySem.Spec PyProof.Rows
def gSortT : List A → Hh → Option A
  | [a], _ => a.lst.bind fun ds => (asRows ds).bind fun rs => if okR rs = true ∧ rs.length ≤ LIM then some (.ob (.lst ((srtR rs).map tupD))) else none
  | _, _ => none
theorem prim_sortT {K : PySem.W.Frag} : Prim K (rSortR K) gSortT := by
  intro H μ Oc T P h as vs a Q nd rc ra lv hg go
  unfold gSortT at hg
  split at hg
  · obtain ⟨v, rfl, r⟩ := ras1 ra
    obtain ⟨ds, h1, h2⟩ := Option.bind_eq_some_iff.mp hg
    obtain ⟨rs, h3, h4⟩ := Option.bind_eq_some_iff.mp h2
    split at h4
    · rename_i hc
      cases h4
      obtain ⟨p, ws, rfl, e1, e2⟩ := r.itemsL h1
      rw [asRows_eq h3] at e2
      exact ⟨p, ws, rs, _, rfl, e1, mns_ex _ _, e2, hc.1, lim_le hc.2, fun l ws' hl hd => newL_go hl hd go⟩
    · cases h4
  · cases hg
end Mi
/-! Mini: cells that are changed; instances and their fields. -/
namespace Mi
open PySem L2 PySem.Spec PyProof.Rows
section
variable {K : PySem.W.Frag} {Γ : Nat → Addr} {E : XK} {σ : L2.St} {μ Oc B S T : List Addr} {env : En} {H H' F F' : Hp} {h : Hh} {D' : Ends}
/-- one cell and the others -/
theorem RC.split : ∀ {h : Hh} {μ O : List Addr} {k : Nat} {c : Ce}, RC K F H h μ O → h[k]? = some c → ∃ p P O1 O2, μ[k]? = some p ∧ RQ K F H c p P ∧ O = O1 ++ (P ++ O2) ∧ ∀ F' H' c' P', Ex F F' → Ag (O1 ++ O2) H H' → RQ K F' H' c' p P' → RC K F' H' (h.set k c') μ (O1 ++ (P' ++ O2))
  | _, _, _, _, _, .nil, e => by simp at e
  | _, _, _, 0, _, .cons (P := P0) (O := O0) r t, e => by
    simp at e
    subst e
    exact ⟨_, P0, [], O0, rfl, r, rfl, fun F' H' c' P' ex ag r' => RC.cons (P := P') (O := O0) r' (t.mv ex ag)⟩
  | _, _, _, k + 1, _, .cons (P := P0) (O := O0) r t, e => by
    obtain ⟨p, P, O1, O2, h1, h2, h3, h4⟩ := RC.split (k := k) t (by simpa using e)
    refine ⟨p, P, P0 ++ O1, O2, by simpa using h1, h2, by rw [h3, List.append_assoc], fun F' H' c' P' ex ag r' => ?_⟩
    rw [List.append_assoc]
    refine RC.cons (r.mv ex fun q hq => ag q (List.mem_append_left _ (List.mem_append_left _ hq))) (h4 F' H' c' P' ex (fun q hq => ag q ?_) r')
    exact (List.mem_append.mp hq).elim (fun z => List.mem_append_left _ (List.mem_append_right _ z)) fun z => List.mem_append_right _ z
/-- what may become of a cell -/
structure Chg (P P' : List Addr) (H H' : Hp) : Prop where
  keep : ∀ q o, q ∉ P → H q = some o → H' q = some o
  new : ∀ q ∈ P', q ∈ P ∨ H q = none
  nd : P'.Nodup
  dom : ∀ q, H' q = none → H q = none
theorem SSim.setC {k : Nat} {c : Ce} (s : SSim K H σ μ Oc B S env h) (hc : h[k]? = some c) : ∃ p P, μ[k]? = some p ∧ RQ K (mns H (Oc ++ (B ++ S))) H c p P ∧ P.Nodup ∧ (∀ q ∈ P, q ∈ Oc) ∧ ∀ H' c' P', Chg P P' H H' →
    (∀ F', Ex (mns H (Oc ++ (B ++ S))) F' → (∀ q o, q ∉ Oc ++ (B ++ S) → q ∉ P' → H' q = some o → F' q = some o) → RQ K F' H' c' p P') → ∃ Oc', SPs K μ Oc B S H σ env (h.set k c') H' μ Oc' S ∧ Ex (mns H (Oc ++ (B ++ S))) (mns H' (Oc' ++ (B ++ S))) := by
  obtain ⟨p, P, O1, O2, h1, h2, rfl, h4⟩ := s.cells.split hc
  have nO := nd_l s.nd
  have nP : P.Nodup := nd_l (nd_r nO)
  have inP : ∀ q ∈ P, q ∈ O1 ++ (P ++ O2) := fun q hq => List.mem_append_right _ (List.mem_append_left _ hq)
  refine ⟨p, P, h1, h2, nP, inP, fun H' c' P' ch mk => ⟨O1 ++ (P' ++ O2), ?_⟩⟩
  have nO1 : ∀ q ∈ O1, q ∉ P := fun q hq z => nd_ne nO hq (List.mem_append_left _ z)
  have nO2 : ∀ q ∈ O2, q ∉ P := fun q hq z => nd_ne (nd_r nO) z hq
  have old : ∀ q, q ∈ O1 ++ (P' ++ O2) → q ∈ O1 ++ (P ++ O2) ∨ H q = none := fun q hq => by
    rcases List.mem_append.mp hq with z | z
    · exact .inl (List.mem_append_left _ z)
    · rcases List.mem_append.mp z with z | z
      · exact (ch.new q z).imp (inP q) id
      · exact .inl (List.mem_append_right _ (List.mem_append_right _ z))
  have ex : Ex (mns H (O1 ++ (P ++ O2) ++ (B ++ S))) (mns H' (O1 ++ (P' ++ O2) ++ (B ++ S))) := ex_mns fun q o hq e => by
    refine ⟨ch.keep q o (fun z => hq (List.mem_append_left _ (inP q z))) e, fun z => ?_⟩
    rcases List.mem_append.mp z with z | z
    · rcases old q z with z | z
      · exact hq (List.mem_append_left _ z)
      · rw [e] at z; cases z
    · exact hq (List.mem_append_right _ z)
  have there : ∀ q ∈ O1 ++ (P ++ O2), ∃ o, H q = some o := fun q hq => by
    obtain ⟨o, ho, _⟩ := s.cells.there q hq
    exact ⟨o, ho⟩
  have nP' : ∀ q ∈ P', q ∉ O1 ∧ q ∉ O2 ∧ q ∉ B ++ S := fun q hq => by
    rcases ch.new q hq with z | z
    · exact ⟨fun w => nO1 q w z, fun w => nO2 q w z, nd_ne s.nd (inP q z)⟩
    · refine ⟨fun w => ?_, fun w => ?_, fun w => ?_⟩
      · obtain ⟨o, ho⟩ := there q (List.mem_append_left _ w)
        rw [ho] at z; cases z
      · obtain ⟨o, ho⟩ := there q (List.mem_append_right _ (List.mem_append_right _ w))
        rw [ho] at z; cases z
      · obtain ⟨o, ho, _⟩ := s.live q w
        rw [ho] at z; cases z
  have nd : (O1 ++ (P' ++ O2) ++ (B ++ S)).Nodup := by
    refine nd_mk (nd_mk (nd_l nO) (nd_mk ch.nd (nd_r (nd_r nO)) fun q a b => (nP' q a).2.1 b) fun q a b => ?_) (nd_r s.nd) fun q a b => ?_
    · rcases List.mem_append.mp b with z | z
      · exact (nP' q z).1 a
      · exact nd_ne nO a (List.mem_append_right _ z)
    · rcases List.mem_append.mp a with z | z
      · exact nd_ne s.nd (List.mem_append_left _ z) b
      · rcases List.mem_append.mp z with z | z
        · exact (nP' q z).2.2 b
        · exact nd_ne s.nd (List.mem_append_right _ (List.mem_append_right _ z)) b
  have agO : Ag (O1 ++ O2) H H' := fun q hq o e => ch.keep q o ((List.mem_append.mp hq).elim (nO1 q) (nO2 q)) e
  have agS : Ag S H H' := fun q hq o e => ch.keep q o (fun z => nd_ne s.nd (inP q z) (List.mem_append_right _ hq)) e
  refine ⟨⟨⟨nd, h4 _ H' c' P' ex agO (mk _ ex fun q o h5 h6 e => mns_some.mpr ⟨fun z => ?_, e⟩), s.slots.mv ex (Pre.refl _) agS fun _ z => z, fun q hq => ?_⟩, ⟨fun q o h5 h6 e => ch.keep q o (fun z => h5 (inP q z)) e, fun q hq => (old q hq).imp id .inr, fun q hq => .inl hq, ch.dom, Pre.refl _⟩⟩, ex⟩
  · rcases List.mem_append.mp z with z | z
    · rcases List.mem_append.mp z with z | z
      · exact h5 (List.mem_append_left _ (List.mem_append_left _ z))
      · rcases List.mem_append.mp z with z | z
        · exact h6 z
        · exact h5 (List.mem_append_left _ (List.mem_append_right _ (List.mem_append_right _ z)))
    · exact h5 (List.mem_append_right _ z)
  · obtain ⟨o, ho, nf⟩ := s.live q hq
    exact ⟨o, ch.keep q o (fun z => nd_ne s.nd (inP q z) hq) ho, nf⟩
/-! ### fields -/
def putV (f : Str) (v : Fv) : List (Str × Fv) → List (Str × Fv)
  | [] => [(f, v)]
  | (g, x) :: r => if g = f then (g, v) :: r else (g, x) :: putV f v r
theorem RFs.getD : ∀ {fs : List (Str × Fv)} {vs : List (Str × V)} {P : List Addr} {f : Str} {e : D}, RFs K F H fs vs P → fs.lookup f = some (.d e) → ∃ v, vs.lookup f = some v ∧ Dq K F v e
  | _, _, _, _, _, .nil, h => by simp at h
  | (x, _) :: _, _, _, f, e, .d (v := v) hd t, h => by
    by_cases c : f = x
    · subst c
      rw [List.lookup_cons_self] at h
      cases h
      exact ⟨v, List.lookup_cons_self, hd⟩
    · have c' : (f == x) = false := by simpa using c
      rw [List.lookup_cons, c'] at h
      obtain ⟨w, h1, h2⟩ := RFs.getD t h
      exact ⟨w, by rw [List.lookup_cons, c']; exact h1, h2⟩
  | (x, _) :: _, _, _, f, e, .l hh dd t, h => by
    by_cases c : f = x
    · subst c
      rw [List.lookup_cons_self] at h
      cases h
    · have c' : (f == x) = false := by simpa using c
      rw [List.lookup_cons, c'] at h
      obtain ⟨w, h1, h2⟩ := RFs.getD t h
      exact ⟨w, by rw [List.lookup_cons, c']; exact h1, h2⟩
/-- a list among the fields -/
theorem RFs.getL : ∀ {fs : List (Str × Fv)} {vs : List (Str × V)} {P : List Addr} {f : Str} {ds : List D}, RFs K F H fs vs P → P.Nodup → fs.lookup f = some (.l ds) → ∃ p ws, vs.lookup f = some (.ref p) ∧ p ∈ P ∧ H p = some (.lst ws) ∧ DqAll K F ws ds ∧
    ∀ F' H' ws' ds', Ex F F' → (∀ q ∈ P, q ≠ p → ∀ o, H q = some o → H' q = some o) → H' p = some (.lst ws') → DqAll K F' ws' ds' → RFs K F' H' (putV f (.l ds') fs) vs P
  | _, _, _, _, _, .nil, _, h => by simp at h
  | (x, _) :: _, _, _, f, ds, .d (v := v) hd t, n, h => by
    by_cases c : f = x
    · subst c
      rw [List.lookup_cons_self] at h
      cases h
    · have c' : (f == x) = false := by simpa using c
      rw [List.lookup_cons, c'] at h
      obtain ⟨p, ws, h1, h2, h3, h4, h5⟩ := RFs.getL t n h
      refine ⟨p, ws, by rw [List.lookup_cons, c']; exact h1, h2, h3, h4, fun F' H' ws' ds' ex ag hp hd' => ?_⟩
      rw [putV, if_neg (fun z => c z.symm)]
      exact .d (ex_dp ex hd) (h5 F' H' ws' ds' ex ag hp hd')
  | (x, _) :: _, _, _, f, ds, .l (p := p0) (P := P0) hh dd t, n, h => by
    by_cases c : f = x
    · subst c
      rw [List.lookup_cons_self] at h
      cases h
      refine ⟨p0, _, List.lookup_cons_self, List.mem_cons_self, hh, dd, fun F' H' ws' ds' ex ag hp hd' => ?_⟩
      rw [putV, if_pos rfl]
      exact .l hp hd' (t.mv ex fun q hq => ag q (List.mem_cons_of_mem _ hq) fun e => (List.nodup_cons.mp n).1 (e ▸ hq))
    · have c' : (f == x) = false := by simpa using c
      rw [List.lookup_cons, c'] at h
      obtain ⟨p, ws, h1, h2, h3, h4, h5⟩ := RFs.getL t (List.nodup_cons.mp n).2 h
      refine ⟨p, ws, by rw [List.lookup_cons, c']; exact h1, List.mem_cons_of_mem _ h2, h3, h4, fun F' H' ws' ds' ex ag hp hd' => ?_⟩
      rw [putV, if_neg (fun z => c z.symm)]
      refine .l (ag p0 List.mem_cons_self (fun e => (List.nodup_cons.mp n).1 (e ▸ h2)) _ hh) (ex_dps ex dd) (h5 F' H' ws' ds' ex (fun q hq => ag q (List.mem_cons_of_mem _ hq)) hp hd')
/-- no list of that name -/
def noL (f : Str) (fs : List (Str × Fv)) : Bool := match fs.lookup f with
  | some (.l _) => false
  | _ => true
theorem RFs.putD : ∀ {fs : List (Str × Fv)} {vs : List (Str × V)} {P : List Addr} {f : Str} {e : D} {v : V}, RFs K F H fs vs P → noL f fs = true → Dq K F v e → RFs K F H (putV f (.d e) fs) (putF f v vs) P
  | _, _, _, f, e, v, .nil, _, h => .d h .nil
  | (x, _) :: _, _, _, f, e, v, .d (v := w) hd t, n, h => by
    rw [putV, putF]
    by_cases c : x = f
    · rw [if_pos c, if_pos c]
      exact .d h t
    · rw [if_neg c, if_neg c]
      have c' : (f == x) = false := by simpa using fun z : f = x => c z.symm
      refine .d hd (RFs.putD t ?_ h)
      unfold noL at n ⊢
      rwa [List.lookup_cons, c'] at n
  | (x, _) :: _, _, _, f, e, v, .l hh dd t, n, h => by
    rw [putV, putF]
    by_cases c : x = f
    · subst c
      unfold noL at n
      rw [List.lookup_cons_self] at n
      cases n
    · rw [if_neg c, if_neg c]
      have c' : (f == x) = false := by simpa using fun z : f = x => c z.symm
      refine .l hh dd (RFs.putD t ?_ h)
      unfold noL at n ⊢
      rwa [List.lookup_cons, c'] at n
theorem RFs.putL : ∀ {fs : List (Str × Fv)} {vs : List (Str × V)} {P : List Addr} {f : Str} {ds : List D} {p : Addr} {ws : List V}, RFs K F H fs vs P → fs.lookup f = none → H p = some (.lst ws) → DqAll K F ws ds → ∃ P', RFs K F H (putV f (.l ds) fs) (putF f (.ref p) vs) P' ∧ (∀ q ∈ P', q ∈ P ∨ q = p) ∧ (P.Nodup → p ∉ P → P'.Nodup)
  | _, _, _, f, ds, p, ws, .nil, _, h, d0 => ⟨[p], .l h d0 .nil, fun q hq => .inr (by simpa using hq), fun _ _ => by simp⟩
  | (x, _) :: _, _, _, f, ds, p, ws, .d (v := w) hd t, n, h, d0 => by
    by_cases c : x = f
    · subst c
      rw [List.lookup_cons_self] at n
      cases n
    · have c' : (f == x) = false := by simpa using fun z : f = x => c z.symm
      rw [List.lookup_cons, c'] at n
      obtain ⟨P', h1, h2, h3⟩ := RFs.putL t n h d0
      refine ⟨P', ?_, h2, h3⟩
      rw [putV, putF, if_neg c, if_neg c]
      exact .d hd h1
  | (x, _) :: _, _, _, f, ds, p, ws, .l (p := p0) (P := P0) hh dd t, n, h, d0 => by
    by_cases c : x = f
    · subst c
      rw [List.lookup_cons_self] at n
      cases n
    · have c' : (f == x) = false := by simpa using fun z : f = x => c z.symm
      rw [List.lookup_cons, c'] at n
      obtain ⟨P', h1, h2, h3⟩ := RFs.putL t n h d0
      refine ⟨p0 :: P', ?_, fun q hq => ?_, fun n1 n2 => ?_⟩
      · rw [putV, putF, if_neg c, if_neg c]
        exact .l hh dd h1
      · rcases List.mem_cons.mp hq with z | z
        · exact .inl (by rw [z]; exact List.mem_cons_self)
        · exact (h2 q z).imp (List.mem_cons_of_mem _) id
      · rw [List.nodup_cons] at n1
        refine List.nodup_cons.mpr ⟨fun z => ?_, h3 n1.2 fun z => n2 (List.mem_cons_of_mem _ z)⟩
        rcases h2 p0 z with w | w
        · exact n1.1 w
        · exact n2 (by rw [← w]; exact List.mem_cons_self)
theorem RFs.len : ∀ {fs : List (Str × Fv)} {vs : List (Str × V)} {P : List Addr}, RFs K F H fs vs P → vs.length = fs.length
  | _, _, _, .nil => rfl
  | _, _, _, .d _ t => by rw [List.length_cons, List.length_cons, RFs.len t]
  | _, _, _, .l _ _ t => by rw [List.length_cons, List.length_cons, RFs.len t]
theorem RFs.lookN : ∀ {fs : List (Str × Fv)} {vs : List (Str × V)} {P : List Addr} {f : Str}, RFs K F H fs vs P → fs.lookup f = none → vs.lookup f = none
  | _, _, _, _, .nil, _ => rfl
  | (x, _) :: _, _, _, f, .d hd t, h => by
    by_cases c : f = x
    · subst c; rw [List.lookup_cons_self] at h; cases h
    · have c' : (f == x) = false := by simpa using c
      rw [List.lookup_cons, c'] at h ⊢
      exact RFs.lookN t h
  | (x, _) :: _, _, _, f, .l _ _ t, h => by
    by_cases c : f = x
    · subst c; rw [List.lookup_cons_self] at h; cases h
    · have c' : (f == x) = false := by simpa using c
      rw [List.lookup_cons, c'] at h ⊢
      exact RFs.lookN t h
end
end Mi
/-! Mini: fields read and stored, lists among them. -/
namespace Mi
open PySem L2 PySem.Spec PyProof.Rows
/-- the class of the program, where it stands -/
structure LnC (K : PySem.W.Frag) (C : Addr) : Prop where
  at' : PySem.W.nsIn K mainGlobals "Line" = some (some (.ref C))
  cls : Cls K C
theorem LnC.same {K : PySem.W.Frag} {C C' : Addr} (L : LnC K C) (h : PySem.W.nsIn K mainGlobals "Line" = some (some (.ref C'))) : C' = C := by
  have := L.at'
  rw [h] at this
  cases this
  rfl
/-- what stands at a name's cell -/
def insOf (i : Nat) (env : En) (h : Hh) : Option (Nat × List (Str × Fv)) := match env[i]? with
  | some (some (.loc k)) => match h[k]? with
    | some (.ins fs) => some (k, fs)
    | _ => none
  | _ => none
theorem insOf_eq {i k : Nat} {env : En} {h : Hh} {fs : List (Str × Fv)} (e : insOf i env h = some (k, fs)) : env[i]? = some (some (.loc k)) ∧ h[k]? = some (.ins fs) := by
  unfold insOf at e
  split at e
  · rename_i k' hk
    split at e
    · rename_i fs' hf
      cases e
      exact ⟨hk, hf⟩
    · cases e
  · cases e
section
variable {K : PySem.W.Frag} {Γ : Nat → Addr} {E : XK} {σ : L2.St} {μ Oc B S T : List Addr} {env : En} {H H' F F' : Hp} {h : Hh} {D' : Ends} {C : Addr}
theorem Slots.loc {i k : Nat} (sl : Slots K F H μ T env σ) (hs : env[i]? = some (some (.loc k))) : ∃ p, σ[i]? = some (some (.ref p)) ∧ μ[k]? = some p := by
  obtain ⟨Os, o1, o2, o3⟩ := sl
  obtain ⟨v, P, e1, e2, e3⟩ := o3.get hs
  cases e2 with
  | loc hm => exact ⟨_, e1, hm⟩
/-- the instance itself -/
theorem Sim.ins {i k : Nat} {fs : List (Str × Fv)} (L : LnC K C) (s : Sim K H σ μ Oc T env h) (hi : insOf i env h = some (k, fs)) : ∃ p dx vs P, σ[i]? = some (some (.ref p)) ∧ μ[k]? = some p ∧ H p = some (.ins C dx vs) ∧ RFs K (mns H (Oc ++ T)) H fs vs P ∧ P.Nodup := by
  obtain ⟨hs, hc⟩ := insOf_eq hi
  obtain ⟨p, e1, e2⟩ := s.slots.loc hs
  obtain ⟨p', P, O1, O2, c1, c2, c3, _⟩ := s.cells.split hc
  rw [e2] at c1
  cases c1
  have nP : P.Nodup := by
    have n := nd_l s.nd
    rw [c3] at n
    exact nd_l (nd_r n)
  cases c2 with
  | ins hC h1 h2 r =>
    have e := L.same hC
    subst e
    exact ⟨p, _, _, _, e1, e2, h1, r, (List.nodup_cons.mp (List.nodup_cons.mp nP).2).2⟩
def fFld (i : Nat) (f : Str) : EF := fun env h => match insOf i env h with
  | some (_, fs) => match fs.lookup f with
    | some (.d x) => .ok (.dat x) h
    | _ => .er
  | none => .er
theorem tE_fld {i : Nat} {f : Str} {Q : VK} (L : LnC K C) (hn : NoAttr K C f) : tE K Γ E (fFld i f) σ H Q → tFld K (tVar i) f σ H Q := by
  rintro ⟨μ, Oc, T, env, h, s, go⟩
  unfold fFld at go
  split at go
  · rename_i k fs hi
    obtain ⟨p, dx, vs, P, e1, e2, h1, r, _⟩ := s.ins L hi
    split at go
    · rename_i x hx
      obtain ⟨v, l1, l2⟩ := r.getD hx
      exact ⟨.ref p, e1, p, C, dx, vs, v, rfl, h1, L.cls, hn, l1, go v H μ Oc [] (s.val (.dat l2))⟩
    · exact go.elim
  · exact go.elim
/-- self.f == [] -/
def fFldNil (i : Nat) (f : Str) : EF := fun env h => match insOf i env h with
  | some (_, fs) => match fs.lookup f with
    | some (.l ds) => if SeqAt.shaped (.list ds) = true then .ok (.dat (.bool ds.isEmpty)) h else .er
    | _ => .er
  | none => .er
theorem eqv_nil (ds : List D) : PyData.eqv (.list ds) (.list []) = ds.isEmpty := by
  rw [PyData.eqv]
  cases ds <;> rfl
theorem tE_fldNil {i : Nat} {f : Str} {Q : VK} (L : LnC K C) (hn : NoAttr K C f) : tE K Γ E (fFldNil i f) σ H Q → tOp (rEqD K) (tFld K (tVar i) f) (tLst tNil) σ H Q := by
  rintro ⟨μ, Oc, T, env, h, s, go⟩
  unfold fFldNil at go
  split at go
  · rename_i k fs hi
    obtain ⟨p, dx, vs, P, e1, e2, h1, r, nP⟩ := s.ins L hi
    split at go
    · rename_i ds hx
      obtain ⟨q, ws, l1, l2, l3, l4, _⟩ := r.getL nP hx
      by_cases hsh : SeqAt.shaped (.list ds) = true
      · rw [if_pos hsh] at go
        refine ⟨.ref p, e1, p, C, dx, vs, .ref q, rfl, h1, L.cls, hn, l1, by show 0 ≤ sizeLine; decide, fun p2 hp2 => ?_⟩
        have ex := Ex.new (o := .lst []) hp2
        refine ⟨.list ds, .list [], .lst (.of (ex _ _ l3)) (ex_dps ((mns_ex _ _).trans ex) l4).dp, .lst (.of upd_same) .nil, hsh, by decide +kernel, ?_⟩
        rw [eqv_nil]
        exact go _ _ μ Oc [] (s.psA.prim ex (fun _ z => absurd z List.not_mem_nil) List.nodup_nil (.dat (.bl _)))
      · rw [if_neg hsh] at go; exact go.elim
    · exact go.elim
  · exact go.elim
/-! ### stores -/
theorem upd_keep {p : Addr} {o : HO} {P : List Addr} (hp : p ∈ P) : ∀ q u, q ∉ P → H q = some u → L2.upd H p o q = some u := fun q u hq e => upd_at (fun z => hq (by rw [z]; exact hp)) e
/-- an instance whose fields change: the object itself is stored anew -/
theorem SSim.insC {i k : Nat} {fs : List (Str × Fv)} (L : LnC K C) (s : SSim K H σ μ Oc B S env h) (hi : insOf i env h = some (k, fs)) : ∃ p dx vs P, σ[i]? = some (some (.ref p)) ∧ H p = some (.ins C dx vs) ∧ RFs K (mns H (Oc ++ (B ++ S))) H fs vs P ∧ P.Nodup ∧ p ∉ P ∧ dx ∉ P ∧ dx ≠ p ∧
    ∀ H' fs' vs' P', Chg (p :: dx :: P) (p :: dx :: P') H H' → H' p = some (.ins C dx vs') → H' dx = H dx → (∀ F', Ex (mns H (Oc ++ (B ++ S))) F' → RFs K F' H' fs' vs' P') → ∃ Oc', SPs K μ Oc B S H σ env (h.set k (.ins fs')) H' μ Oc' S := by
  obtain ⟨hs, hc⟩ := insOf_eq hi
  obtain ⟨p, e1, e2⟩ := s.slots.loc hs
  obtain ⟨p', P, c1, c2, nP, inP, c3⟩ := s.setC hc
  rw [e2] at c1
  cases c1
  cases c2 with
  | @ins _ vs C' _ dx P0 hC h1 h2 r =>
    have e := L.same hC
    subst e
    have n1 := List.nodup_cons.mp nP
    have n2 := List.nodup_cons.mp n1.2
    refine ⟨p, dx, vs, P0, e1, h1, r, n2.2, fun z => n1.1 (List.mem_cons_of_mem _ z), n2.1, fun z => n1.1 (by rw [z]; exact List.mem_cons_self), fun H' fs' vs' P' ch k1 k2 k3 => ?_⟩
    obtain ⟨Oc', q, _⟩ := c3 H' (.ins fs') (p :: dx :: P') ch fun F' ex _ => .ins hC k1 (by rw [k2]; exact h2) (k3 F' ex)
    exact ⟨Oc', q⟩
/-- self.f = e -/
def fFldSet (i : Nat) (f : Str) (fe : EF) : SF := fun env h => onE (fe env h) fun a h1 => match insOf i env h1, sto a with
  | some (k, fs), some d => if noL f fs = true ∧ fs.length < 1000 then .nx env (h1.set k (.ins (putV f (.d d) fs))) else .er
  | _, _ => .er
theorem tS_fldSet {i : Nat} {f : Str} {fe : EF} (L : LnC K C) (hn : NoAttr K C f) : tS K Γ E (fFldSet i f fe) D' σ H → sFld K (tVar i) (tE K Γ E fe) f D' σ H := fun hq =>
  tS_expr (k := fun a env h1 => match insOf i env h1, sto a with
    | some (k, fs), some d => if noL f fs = true ∧ fs.length < 1000 then .nx env (h1.set k (.ins (putV f (.d d) fs))) else .er
    | _, _ => .er) hq fun μ Oc B S env h a h1 v H1 μ1 Oc1 P s p go => by
    have q0 := p.ssim0 s
    split at go
    · rename_i k fs d hi hd
      by_cases hz : noL f fs = true ∧ fs.length < 1000
      · rw [if_pos hz] at go
        obtain ⟨pp, dx, vs, P0, e1, e2, r, nP, np, ndx, ne, fin⟩ := q0.sim.insC L hi
        obtain ⟨v', ev, rv⟩ := ras1 p.val
        cases ev
        have dv : Dq K (mns H1 (Oc1 ++ (B ++ S))) v d := ra_sto p.nd rv (fun _ z => z) hd
        refine ⟨.ref pp, e1, pp, C, dx, vs, rfl, e2, L.cls, hn, by rw [r.len]; exact hz.2, ?_⟩
        have nd3 : (pp :: dx :: P0).Nodup := by
          refine List.nodup_cons.mpr ⟨fun z => ?_, List.nodup_cons.mpr ⟨ndx, nP⟩⟩
          rcases List.mem_cons.mp z with z | z
          · exact ne z.symm
          · exact np z
        obtain ⟨Oc', q⟩ := fin (L2.upd H1 pp (.ins C dx (putF f v vs))) (putV f (.d d) fs) (putF f v vs) P0 ⟨upd_keep List.mem_cons_self, fun q hq => .inl hq, nd3, fun q hq => upd_dom hq⟩ upd_same (upd_ne ne) fun F' ex =>
          (r.mv ex fun q hq o z => upd_at (fun e => np (by rw [← e]; exact hq)) z).putD hz.1 (ex_dp ex dv)
        exact go σ _ μ1 Oc' S ⟨q.sim, q0.gs.trans q.gs⟩
      · rw [if_neg hz] at go; exact go.elim
    · exact go.elim
/-- self.f = [] -/
def fFldSetL (i : Nat) (f : Str) : SF := fun env h => match insOf i env h with
  | some (k, fs) => if fs.lookup f = none ∧ fs.length < 1000 then .nx env (h.set k (.ins (putV f (.l []) fs))) else .er
  | none => .er
theorem tS_fldSetL {i : Nat} {f : Str} (L : LnC K C) (hn : NoAttr K C f) : tS K Γ E (fFldSetL i f) D' σ H → sFld K (tVar i) (tLst tNil) f D' σ H := by
  rintro ⟨μ, Oc, B, S, env, h, s, go⟩
  unfold fFldSetL at go
  split at go
  · rename_i k fs hi
    by_cases hz : fs.lookup f = none ∧ fs.length < 1000
    · rw [if_pos hz] at go
      obtain ⟨pp, dx, vs, P0, e1, e2, r, nP, np, ndx, ne, fin⟩ := s.insC L hi
      refine ⟨by show 0 ≤ sizeLine; decide, fun p1 hp1 => ?_⟩
      have ex1 := Ex.new (o := .lst []) hp1
      have nep : p1 ≠ pp := fun z => by rw [z, e2] at hp1; cases hp1
      have nP1 : p1 ∉ P0 := fun z => by
        obtain ⟨o, ho, _⟩ := r.there p1 z
        rw [hp1] at ho; cases ho
      have nd1 : dx ≠ p1 ∧ ∃ o, H dx = some o := by
        obtain ⟨hs, hc⟩ := insOf_eq hi
        obtain ⟨p', P, c1, c2, _⟩ := s.setC hc
        obtain ⟨p2, f1, f2⟩ := s.slots.loc hs
        rw [e1] at f1
        cases f1
        rw [f2] at c1
        cases c1
        cases c2 with
        | ins hC g1 g2 r2 =>
          rw [e2] at g1
          cases g1
          refine ⟨fun z => ?_, _, g2⟩
          rw [z, hp1] at g2
          cases g2
      obtain ⟨P', k1, k2, k3⟩ := RFs.putL (K := K) (F := mns H (Oc ++ (B ++ S))) (H := L2.upd H p1 (.lst [])) (f := f) (ds := []) (p := p1) (ws := []) (r.mv (Ex.refl _) fun q _ o z => ex1 q o z) hz.1 upd_same .nil
      refine ⟨.ref pp, e1, pp, C, dx, vs, rfl, ex1 _ _ e2, L.cls, hn, by rw [r.len]; exact hz.2, ?_⟩
      have npP' : pp ∉ P' := fun z => (k2 pp z).elim np fun w => nep w.symm
      have nd3 : (pp :: dx :: P').Nodup := by
        refine List.nodup_cons.mpr ⟨fun z => ?_, List.nodup_cons.mpr ⟨fun z => ?_, k3 nP nP1⟩⟩
        · rcases List.mem_cons.mp z with z | z
          · exact ne z.symm
          · exact npP' z
        · rcases k2 dx z with w | w
          · exact ndx w
          · exact nd1.1 w
      have new3 : ∀ q ∈ pp :: dx :: P', q ∈ pp :: dx :: P0 ∨ H q = none := fun q hq => by
        rcases List.mem_cons.mp hq with z | z
        · exact .inl (by rw [z]; exact List.mem_cons_self)
        · rcases List.mem_cons.mp z with z | z
          · exact .inl (by rw [z]; exact List.mem_cons_of_mem _ List.mem_cons_self)
          · rcases k2 q z with w | w
            · exact .inl (List.mem_cons_of_mem _ (List.mem_cons_of_mem _ w))
            · exact .inr (by rw [w]; exact hp1)
      obtain ⟨Oc', q⟩ := fin (L2.upd (L2.upd H p1 (.lst [])) pp (.ins C dx (putF f (.ref p1) vs))) (putV f (.l []) fs) (putF f (.ref p1) vs) P'
        ⟨fun q o hq e => upd_at (fun z => hq (by rw [z]; exact List.mem_cons_self)) (ex1 q o e), new3, nd3, fun q hq => upd_dom (upd_dom hq)⟩ upd_same (by rw [upd_ne ne, upd_ne nd1.1]) fun F' ex =>
        k1.mv ex fun q hq o z => upd_at (fun e => npP' (by rw [← e]; exact hq)) z
      exact go σ _ μ Oc' S q
    · rw [if_neg hz] at go; exact go.elim
  · exact go.elim
/-! ### lists among the fields -/
/-- the list at the field g changes -/
theorem SSim.fldL {i k : Nat} {fs : List (Str × Fv)} {g : Str} {ds : List D} (L : LnC K C) (s : SSim K H σ μ Oc B S env h) (hi : insOf i env h = some (k, fs)) (hg : fs.lookup g = some (.l ds)) : ∃ p dx vs q ws, σ[i]? = some (some (.ref p)) ∧ H p = some (.ins C dx vs) ∧ vs.lookup g = some (.ref q) ∧ H q = some (.lst ws) ∧ DqAll K (mns H (Oc ++ (B ++ S))) ws ds ∧
    ∀ ws' ds', DqAll K (mns H (Oc ++ (B ++ S))) ws' ds' → ∃ Oc', SPs K μ Oc B S H σ env (h.set k (.ins (putV g (.l ds') fs))) (L2.upd H q (.lst ws')) μ Oc' S := by
  obtain ⟨pp, dx, vs, P0, e1, e2, r, nP, np, ndx, ne, fin⟩ := s.insC L hi
  obtain ⟨q, ws, l1, l2, l3, l4, l5⟩ := r.getL nP hg
  have nq : q ≠ pp := fun z => np (by rw [← z]; exact l2)
  have nqd : q ≠ dx := fun z => ndx (by rw [← z]; exact l2)
  refine ⟨pp, dx, vs, q, ws, e1, e2, l1, l3, l4, fun ws' ds' hd => ?_⟩
  refine fin (L2.upd H q (.lst ws')) _ vs P0 ⟨upd_keep (List.mem_cons_of_mem _ (List.mem_cons_of_mem _ l2)), fun x hx => .inl hx, ?_, fun x hx => upd_dom hx⟩ (by rw [upd_ne nq.symm]; exact e2) (upd_ne nqd.symm) fun F' ex => l5 F' _ ws' ds' ex (fun x _ hx o z => upd_at hx z) upd_same (ex_dps ex hd)
  refine List.nodup_cons.mpr ⟨fun z => ?_, List.nodup_cons.mpr ⟨ndx, nP⟩⟩
  rcases List.mem_cons.mp z with z | z
  · exact ne z.symm
  · exact np z
/-- self.f.append(self.g) -/
def fAppF (i : Nat) (f g : Str) : SF := fun env h => match insOf i env h with
  | some (k, fs) => match fs.lookup f, fs.lookup g with
    | some (.l ds), some (.d d) => if ds.length < LIM then .nx env (h.set k (.ins (putV f (.l (ds ++ [d])) fs))) else .er
    | _, _ => .er
  | none => .er
theorem tS_appF {i : Nat} {f g : Str} (L : LnC K C) (hn : NoAttr K C f) (hn2 : NoAttr K C g) : tS K Γ E (fAppF i f g) D' σ H → tDrop (tBM K "list" rAppend (tFld K (tVar i) f) (tCons (tFld K (tVar i) g) tNil)) D' σ H := by
  rintro ⟨μ, Oc, B, S, env, h, s, go⟩
  unfold fAppF at go
  split at go
  · rename_i k fs hi
    split at go
    · rename_i ds d hf hg
      by_cases hz : ds.length < LIM
      · rw [if_pos hz] at go
        obtain ⟨p, dx, vs, q, ws, e1, e2, l1, l3, l4, fin⟩ := s.fldL L hi hf
        obtain ⟨p', dx', vs', P, f1, f2, f3, r, _⟩ := s.sim.ins L hi
        rw [e1] at f1
        cases f1
        rw [e2] at f3
        cases f3
        obtain ⟨v, m1, m2⟩ := r.getD hg
        obtain ⟨Oc', q2⟩ := fin (ws ++ [v]) (ds ++ [d]) (dps_append l4 (.cons m2 .nil))
        exact ⟨.ref p, e1, p, C, dx, vs, .ref q, rfl, e2, L.cls, hn, l1, .inl ⟨rfl, ws, .of l3⟩, .ref p, e1, p, C, dx, vs, v, rfl, e2, L.cls, hn2, m1, q, ws, v, rfl, rfl, l3, by rw [dps_length l4]; exact lim_lt hz, go σ _ μ Oc' S q2⟩
      · rw [if_neg hz] at go; exact go.elim
    · exact go.elim
  · exact go.elim
/-- self.f.append(x) -/
def fAppV (i : Nat) (f : Str) (j : Nat) : SF := fun env h => match insOf i env h, env[j]? with
  | some (k, fs), some (some (.dat d)) => match fs.lookup f with
    | some (.l ds) => if ds.length < LIM then .nx env (h.set k (.ins (putV f (.l (ds ++ [d])) fs))) else .er
    | _ => .er
  | _, _ => .er
theorem tS_appV {i j : Nat} {f : Str} (L : LnC K C) (hn : NoAttr K C f) : tS K Γ E (fAppV i f j) D' σ H → tDrop (tBM K "list" rAppend (tFld K (tVar i) f) (tCons (tVar j) tNil)) D' σ H := by
  rintro ⟨μ, Oc, B, S, env, h, s, go⟩
  unfold fAppV at go
  split at go
  · rename_i k fs d hi hj
    split at go
    · rename_i ds hf
      by_cases hz : ds.length < LIM
      · rw [if_pos hz] at go
        obtain ⟨p, dx, vs, q, ws, e1, e2, l1, l3, l4, fin⟩ := s.fldL L hi hf
        obtain ⟨Os, o1, o2, o3⟩ := s.slots
        obtain ⟨v, P, f1, f2, f3⟩ := o3.get hj
        cases f2 with
        | dat f2 =>
          obtain ⟨Oc', q2⟩ := fin (ws ++ [v]) (ds ++ [d]) (dps_append l4 (.cons f2 .nil))
          exact ⟨.ref p, e1, p, C, dx, vs, .ref q, rfl, e2, L.cls, hn, l1, .inl ⟨rfl, ws, .of l3⟩, v, f1, q, ws, v, rfl, rfl, l3, by rw [dps_length l4]; exact lim_lt hz, go σ _ μ Oc' S q2⟩
      · rw [if_neg hz] at go; exact go.elim
    · exact go.elim
  · exact go.elim
/-- return self.g.pop() -/
def fPopRet (i : Nat) (g : Str) : SF := fun env h => match insOf i env h with
  | some (k, fs) => match fs.lookup g with
    | some (.l ds) => match ds.getLast? with
      | some d => .rt (.dat d) (h.set k (.ins (putV g (.l ds.dropLast) fs)))
      | none => .er
    | _ => .er
  | none => .er
theorem dps_dropLast : ∀ {vs : List V} {ds : List D}, DqAll K F vs ds → DqAll K F vs.dropLast ds.dropLast
  | _, _, .nil => .nil
  | _, _, .cons h .nil => .nil
  | _, _, .cons h (.cons h2 t) => .cons h (dps_dropLast (.cons h2 t))
theorem dps_last {vs : List V} {ds : List D} {d : D} (r : DqAll K F vs ds) (h : ds.getLast? = some d) : ∃ v, vs[vs.length - 1]? = some v ∧ Dq K F v d := by
  rw [List.getLast?_eq_getElem?] at h
  obtain ⟨v, h1, h2⟩ := dps_get r h
  rw [← dps_length r] at h1
  exact ⟨v, h1, h2⟩
theorem tS_popRet {i : Nat} {g : Str} (L : LnC K C) (hn : NoAttr K C g) : tS K Γ E (fPopRet i g) D' σ H → tRet (tBM0 K "list" rPop (tFld K (tVar i) g)) D' σ H := by
  rintro ⟨μ, Oc, B, S, env, h, s, go⟩
  unfold fPopRet at go
  split at go
  · rename_i k fs hi
    split at go
    · rename_i ds hf
      split at go
      · rename_i d hd
        obtain ⟨p, dx, vs, q, ws, e1, e2, l1, l3, l4, fin⟩ := s.fldL L hi hf
        obtain ⟨v, m1, m2⟩ := dps_last l4 hd
        obtain ⟨Oc', q2⟩ := fin ws.dropLast ds.dropLast (dps_dropLast l4)
        refine ⟨.ref p, e1, p, C, dx, vs, .ref q, rfl, e2, L.cls, hn, l1, .inl ⟨rfl, ws, .of l3⟩, q, ws, v, rfl, rfl, l3, m1, ?_⟩
        have q3 := q2.sim
        have ex : Ex (mns (L2.upd H q (.lst ws.dropLast)) (Oc' ++ (B ++ S))) (mns (L2.upd H q (.lst ws.dropLast)) (Oc' ++ (B ++ []))) := mns_mono fun x hx => by
          rw [List.append_nil] at hx
          exact (List.mem_append.mp hx).elim (List.mem_append_left _) fun z => List.mem_append_right _ (List.mem_append_left _ z)
        have ex2 : Ex (mns H (Oc ++ (B ++ S))) (mns (L2.upd H q (.lst ws.dropLast)) (Oc' ++ (B ++ S))) := ex_mns fun x o hx z => by
          have hk := q2.gs.keep x o (fun w => hx (List.mem_append_left _ w)) (fun w => hx (List.mem_append_right _ (List.mem_append_right _ w))) z
          refine ⟨hk, fun w => ?_⟩
          rcases List.mem_append.mp w with w | w
          · rcases q2.gs.newO x w with w | w | w
            · exact hx (List.mem_append_left _ w)
            · exact hx (List.mem_append_right _ (List.mem_append_right _ w))
            · rw [z] at w; cases w
          · exact hx (List.mem_append_right _ w)
        refine go v _ μ Oc' [] ⟨⟨q2.gs.keep, q2.gs.newO, fun x hx => absurd hx List.not_mem_nil, q2.gs.dom, q2.gs.pre⟩, ?_, q3.cells.mv ex fun _ _ _ z => z, .dat (ex_dp ex (ex_dp ex2 m2))⟩
        have n := q3.nd
        rw [← List.append_assoc] at n
        simpa using nd_l n
      · exact go.elim
    · exact go.elim
  · exact go.elim
/-- self.f = self.g.pop() -/
def fPopSet (i : Nat) (f g : Str) : SF := fun env h => match insOf i env h with
  | some (k, fs) => match fs.lookup g with
    | some (.l ds) => match ds.getLast? with
      | some d => if noL f (putV g (.l ds.dropLast) fs) = true ∧ (putV g (.l ds.dropLast) fs).length < 1000 then .nx env (h.set k (.ins (putV f (.d d) (putV g (.l ds.dropLast) fs)))) else .er
      | none => .er
    | _ => .er
  | none => .er
theorem tS_popSet {i : Nat} {f g : Str} (L : LnC K C) (hn : NoAttr K C f) (hn2 : NoAttr K C g) : tS K Γ E (fPopSet i f g) D' σ H → sFld K (tVar i) (tBM0 K "list" rPop (tFld K (tVar i) g)) f D' σ H := by
  rintro ⟨μ, Oc, B, S, env, h, s, go⟩
  unfold fPopSet at go
  split at go
  · rename_i k fs hi
    split at go
    · rename_i ds hf
      split at go
      · rename_i d hd
        by_cases hz : noL f (putV g (.l ds.dropLast) fs) = true ∧ (putV g (.l ds.dropLast) fs).length < 1000
        · rw [if_pos hz] at go
          obtain ⟨p, dx, vs, q, ws, e1, e2, l1, l3, l4, fin⟩ := s.fldL L hi hf
          obtain ⟨v, m1, m2⟩ := dps_last l4 hd
          obtain ⟨Oc', q2⟩ := fin ws.dropLast ds.dropLast (dps_dropLast l4)
          refine ⟨.ref p, e1, p, C, dx, vs, .ref q, rfl, e2, L.cls, hn2, l1, .inl ⟨rfl, ws, .of l3⟩, q, ws, v, rfl, rfl, l3, m1, .ref p, e1, ?_⟩
          obtain ⟨hs, hc⟩ := insOf_eq hi
          have hlt : k < h.length := (List.getElem?_eq_some_iff.mp hc).1
          have hi2 : insOf i env (h.set k (.ins (putV g (.l ds.dropLast) fs))) = some (k, putV g (.l ds.dropLast) fs) := by
            unfold insOf
            rw [hs]
            simp only [List.getElem?_set_self hlt]
          have ex2 : Ex (mns H (Oc ++ (B ++ S))) (mns (L2.upd H q (.lst ws.dropLast)) (Oc' ++ (B ++ S))) := ex_mns fun x o hx z => by
            have hk := q2.gs.keep x o (fun w => hx (List.mem_append_left _ w)) (fun w => hx (List.mem_append_right _ (List.mem_append_right _ w))) z
            refine ⟨hk, fun w => ?_⟩
            rcases List.mem_append.mp w with w | w
            · rcases q2.gs.newO x w with w | w | w
              · exact hx (List.mem_append_left _ w)
              · exact hx (List.mem_append_right _ (List.mem_append_right _ w))
              · rw [z] at w; cases w
            · exact hx (List.mem_append_right _ w)
          obtain ⟨pp, dx2, vs2, P0, g1, g2, r2, nP, np, ndx, ne, fin2⟩ := q2.sim.insC L hi2
          rw [e1] at g1
          cases g1
          refine ⟨p, C, dx2, vs2, rfl, g2, L.cls, hn, by rw [r2.len]; exact hz.2, ?_⟩
          have nd3 : (p :: dx2 :: P0).Nodup := by
            refine List.nodup_cons.mpr ⟨fun z => ?_, List.nodup_cons.mpr ⟨ndx, nP⟩⟩
            rcases List.mem_cons.mp z with z | z
            · exact ne z.symm
            · exact np z
          obtain ⟨Oc2, q4⟩ := fin2 (L2.upd (L2.upd H q (.lst ws.dropLast)) p (.ins C dx2 (putF f v vs2))) (putV f (.d d) (putV g (.l ds.dropLast) fs)) (putF f v vs2) P0 ⟨upd_keep List.mem_cons_self, fun q hq => .inl hq, nd3, fun q hq => upd_dom hq⟩ upd_same (upd_ne ne) fun F' ex =>
            (r2.mv ex fun q hq o z => upd_at (fun e => np (by rw [← e]; exact hq)) z).putD hz.1 (ex_dp ex (ex_dp ex2 m2))
          rw [List.set_set] at q4
          exact go σ _ μ Oc2 S ⟨q4.sim, q2.gs.trans q4.gs⟩
        · rw [if_neg hz] at go; exact go.elim
      · exact go.elim
    · exact go.elim
  · exact go.elim
end
end Mi
/-! Mini: methods, new instances. -/
namespace Mi
open PySem L2 PySem.Spec PyProof.Rows
/-- x.m(..) -/
def fMeth (i : Nat) (m : Str) (F : FF) (fs : AF) : EF := fun env h => match insOf i env h with
  | some (_, fl) => if fl.lookup m = none then fCall F (fCons (fVar i) fs) env h else .er
  | none => .er
/-- C(..) -/
def fMake (F : FF) (fs : AF) : EF := fun env h => (fs env h).bind fun as h1 => if as.any isSn then .er else match F (.loc h1.length :: as.map argA) (h1 ++ [.ins []]) with
  | .ok (.dat .none) h2 => .ok (.loc h1.length) h2
  | .exc c h2 => .exc c (h2.take h1.length)
  | _ => .er
section
variable {K : PySem.W.Frag} {Γ : Nat → Addr} {E : XK} {σ : L2.St} {μ Oc B S T : List Addr} {env : En} {H H' F F' : Hp} {h : Hh} {D' : Ends} {C : Addr}
theorem tE_meth {i n : Nat} {m : Str} {FN : FF} {fs : AF} {Q : VK} (L : LnC K C) (hn : ALen (fCons (fVar i) fs) n) : tE K Γ E (fMeth i m FN fs) σ H Q → tMeth C m (spF K Γ n FN) [] E (tVar i) (tA K Γ E fs) σ H Q := by
  rintro ⟨μ, Oc, T, env, h, s, go⟩
  unfold fMeth at go
  split at go
  · rename_i k fl hi
    by_cases hl : fl.lookup m = none
    · rw [if_pos hl] at go
      obtain ⟨p, dx, vs, P, e1, e2, h1, r, _⟩ := s.ins L hi
      have q : tE K Γ E (fCall FN (fCons (fVar i) fs)) σ H Q := ⟨μ, Oc, T, env, h, s, go⟩
      obtain ⟨v, f1, q1⟩ := tE_var (tA_cons (tE_call hn q))
      rw [e1] at f1
      cases f1
      exact ⟨.ref p, e1, p, dx, vs, rfl, h1, r.lookN hl, q1⟩
    · rw [if_neg hl] at go; exact go.elim
  · exact go.elim
theorem RC.take : ∀ {h : Hh} {μ O : List Addr} (n : Nat), RC K F H h μ O → ∃ O1, RC K F H (h.take n) (μ.take n) O1 ∧ O1.Sublist O
  | _, _, _, 0, _ => ⟨[], .nil, List.nil_sublist _⟩
  | _, _, _, n + 1, .nil => ⟨[], .nil, List.Sublist.refl _⟩
  | _, _, _, n + 1, .cons (P := P0) r t => by
    obtain ⟨O1, h1, h2⟩ := RC.take n t
    exact ⟨P0 ++ O1, .cons r h1, List.Sublist.append (List.Sublist.refl _) h2⟩
theorem ras_argM {P : List Addr} {H2 : Hp} {μ2 Oc2 : List Addr} (nd : (Oc ++ (T ++ P)).Nodup) (ex : Ex (mns H (Oc ++ T)) (mns H2 (Oc2 ++ T))) (pre : Pre μ μ2) {as : List A} {vs : List V} (hP : ∀ q ∈ P, q ∈ P) (l : as.any isSn = false) (r : RAs K (mns H (Oc ++ (T ++ P))) (mns H Oc) H μ as vs P) : RAs K (mns H2 (Oc2 ++ T)) (mns H2 (Oc2 ++ T)) H2 μ2 (as.map argA) vs [] :=
  (ras_arg nd hP l r).mv ex ex pre fun _ z => absurd z List.not_mem_nil
theorem tE_make {n : Nat} {FN : FF} {fs : AF} {Q : VK} (L : LnC K C) (hn : ALen fs n) : tE K Γ E (fMake FN fs) σ H Q → tMake C (spF K Γ (n + 1) FN) [] E (tA K Γ E fs) σ H Q := by
  rintro ⟨μ, Oc, T, env, h, s, go⟩
  refine ⟨μ, Oc, T, env, h, s, ?_⟩
  unfold fMake at go
  cases hf : fs env h with
  | er => rw [hf] at go; exact go
  | exc c h1 => rw [hf] at go; exact go
  | ok as h1 =>
    have hlen := hn env h as h1 hf
    rw [hf] at go
    intro vs H1 μ1 Oc1 P1 p
    simp only [Res.bind] at go
    by_cases hsn : as.any isSn = true
    · rw [if_pos hsn] at go; exact go.elim
    · rw [if_neg hsn] at go
      intro x dx hx hdx hne
      rw [List.append_nil]
      have nx : x ∉ Oc1 ++ T := fun z => (List.mem_append.mp z).elim (nin_c p.cells hx) (nin_t p.live hx)
      have ndx : dx ∉ Oc1 ++ T := fun z => (List.mem_append.mp z).elim (nin_c p.cells hdx) (nin_t p.live hdx)
      have nOT : (Oc1 ++ T).Nodup := by
        have n := p.nd
        rw [← List.append_assoc] at n
        exact nd_l n
      let H2 : Hp := L2.upd (L2.upd H1 dx (.own x)) x (.ins C dx [])
      have eH : Ex H1 H2 := fun q o z => by
        have n1 : q ≠ x := fun e => by rw [e, hx] at z; cases z
        have n2 : q ≠ dx := fun e => by rw [e, hdx] at z; cases z
        exact upd_at n1 (upd_at n2 z)
      have hOc : ∀ q, q ∈ (Oc1 ++ [x, dx]) ++ T → q ∈ Oc1 ++ T ∨ q = x ∨ q = dx := fun q hq => by
        rcases List.mem_append.mp hq with z | z
        · rcases List.mem_append.mp z with z | z
          · exact .inl (List.mem_append_left _ z)
          · simpa using Or.inr z
        · exact .inl (List.mem_append_right _ z)
      have ex : Ex (mns H1 (Oc1 ++ T)) (mns H2 ((Oc1 ++ [x, dx]) ++ T)) := ex_mns fun q o hq z => ⟨eH q o z, fun w => by
        rcases hOc q w with w | w | w
        · exact hq w
        · rw [w, hx] at z; cases z
        · rw [w, hdx] at z; cases z⟩
      have nd2 : ((Oc1 ++ [x, dx]) ++ T).Nodup := by
        refine nd_mk (nd_mk (nd_l nOT) (by simp; exact fun z => hne z.symm) fun q a b => ?_) (nd_r nOT) fun q a b => ?_
        · have b : q = x ∨ q = dx := by simpa using b
          rcases b with b | b
          · exact nx (by rw [← b]; exact List.mem_append_left _ a)
          · exact ndx (by rw [← b]; exact List.mem_append_left _ a)
        · rcases List.mem_append.mp a with z | z
          · exact nd_ne nOT z b
          · have z : q = x ∨ q = dx := by simpa using z
            rcases z with z | z
            · exact nx (by rw [← z]; exact List.mem_append_right _ b)
            · exact ndx (by rw [← z]; exact List.mem_append_right _ b)
      have pr : Pre μ1 (μ1 ++ [x]) := ⟨[x], rfl⟩
      have hl := p.cells.len
      have rc2 : RC K (mns H2 ((Oc1 ++ [x, dx]) ++ T)) H2 (h1 ++ [.ins []]) (μ1 ++ [x]) (Oc1 ++ [x, dx]) :=
        (p.cells.mv (exFG.trans ex) fun q _ o z => eH q o z).snoc (.ins (P := []) L.at' upd_same (by show L2.upd (L2.upd H1 dx (.own x)) x (.ins C dx []) dx = _; rw [upd_ne hne]; exact upd_same) .nil)
      have gr2 : Gr Oc1 H1 μ1 (Oc1 ++ [x, dx]) H2 (μ1 ++ [x]) := ⟨fun q o _ z => eH q o z, fun q hq => by
        rcases List.mem_append.mp hq with z | z
        · exact .inl z
        · have z : q = x ∨ q = dx := by simpa using z
          rcases z with z | z
          · exact .inr (by rw [z]; exact hx)
          · exact .inr (by rw [z]; exact hdx), fun q hq => eH.dom hq, pr⟩
      have lv2 : ∀ q ∈ T, NF H2 q := fun q hq => by
        obtain ⟨o, ho, nf⟩ := p.live q hq
        exact ⟨o, eH q o ho, nf⟩
      refine ⟨by rw [List.length_cons, ras_len p.val, hlen], μ1 ++ [x], Oc1 ++ [x, dx], T, .loc h1.length :: as.map argA, h1 ++ [.ins []], nd2, rc2, RAs.cons (P := []) (P' := []) (.loc (by rw [hl]; simp)) (ras_argM p.nd ex pr (fun _ z => z) (by simpa using hsn) p.val), lv2, ?_⟩
      cases hF : FN (.loc h1.length :: as.map argA) (h1 ++ [.ins []]) with
      | er => rw [hF] at go; exact go
      | exc c h2 =>
        rw [hF] at go
        intro H' μ' Oc' g n r
        obtain ⟨O1, r1, r2⟩ := r.take h1.length
        have hμ : μ'.take h1.length = μ1 := by
          obtain ⟨ν, e⟩ := g.pre
          rw [e, hl, List.append_assoc]
          simp
        rw [hμ] at r1
        have ex3 : Ex (mns H' (Oc' ++ T)) (mns H' (O1 ++ T)) := mns_mono fun q hq => (List.mem_append.mp hq).elim (fun z => List.mem_append_left _ (r2.subset z)) (List.mem_append_right _)
        have g2 := (p.gr.trans gr2).trans g
        refine go H' μ1 O1 ⟨g2.keep, fun q hq => g2.new q (r2.subset hq), g2.dom, p.gr.pre⟩ ?_ (r1.mv ex3 fun _ _ _ z => z)
        exact nd_mk ((nd_l n).sublist r2) (nd_r n) fun q a b => nd_ne n (r2.subset a) b
      | ok a h2 =>
        rw [hF] at go
        split at go
        · rename_i h2' e
          cases e
          intro v H' μ' Oc' P g hfr nd rc ra
          cases ra with
          | dat ra =>
            cases ra
            refine ⟨rfl, ?_⟩
            have g2 := (p.gr.trans gr2).trans g
            rw [List.append_nil] at nd rc
            have exs : Ex (mns H1 (Oc1 ++ (T ++ P1))) (mns H' (Oc' ++ (T ++ []))) := by
              rw [List.append_nil]
              exact (exFG.trans ex).trans (fr_step g fun q hq => .inl hq)
            refine go (.ref x) H' μ' Oc' [] ⟨g2, fun q hq => absurd hq List.not_mem_nil, by rw [List.append_nil]; exact nd, by rw [List.append_nil]; exact rc, ?_, one_val (.loc (g.pre.get (by rw [hl]; simp))), fun q hq => ?_⟩
            · refine p.slots.mv exs (pr.trans g.pre) (fun q hq o z => g.keep q o (fun w => nd_ne nd2 w hq) (eH q o z)) fun _ z => z
            · obtain ⟨o, ho, nf⟩ := lv2 q hq
              exact ⟨o, g.keep q o (fun w => nd_ne nd2 w hq) ho, nf⟩
        · rename_i e; cases e
        · exact go.elim
end
section
variable {X : Cx} {Γ : Nat → Addr} {E : XK} {CX : CXT} {k : Nat} {f C : Addr} {fd : FuncData} {ps : List Str} {x m : Str} {p apos pos : Pos} {e : Expr} {es : List Expr} {fs : AF} {FN : FF} {n i : Nat}
theorem e_meth (i : Nat) {pl : Sem Bool} (L : LnC X.K C) (M : Meth X.K C m f) (F : FnOk X.prog X.w X.K X.mg X.base CX k f fd ps (spF X.K Γ n FN)) (hr : Room k X.A) (hb : Binds X.K fd ps []) (hx : Passes CX X E)
    (ha : PA X (e :: es) (tA X.K Γ E fs)) (hn : ALen (fCons (fVar i) fs) n)
    (hN : X.N[i]? = some x := by rfl) (hv : Vis X.env.scope x := by first | exact Or.inl rfl | exact Or.inr (Or.inl rfl) | exact Or.inr (Or.inr rfl)) (hd : (x == ("__debug__" : Str)) = false := by decide) (hcd : (x == ("__classdict__" : Str)) = false := by decide)
    (hst : starEach (e :: es) X.env = (false, eval e X.env) :: starEach es X.env := by rfl) (hpl : (backTo pos (starEach es X.env)).any (·.1) = false := by rfl)
    (ht : eval (.Call (.Attribute (.Name x p) m apos) (e :: es) [] pos) X.env = (do
      let ov ← eval (.Name x p) X.env
      standAt apos.atName
      let (f, first) ← holding [ov] (getMethod ov m pl)
      callWith pos f first (backTo pos (starEach (e :: es) X.env)) (backToKw pos (keywordEach [] X.env))) := by rfl) :
    PE X (.Call (.Attribute (.Name x p) m apos) (e :: es) [] pos) (tE X.K Γ E (fMeth i m FN fs)) := pe_imp (pe_meth (pl := pl) (pe_var hN hv hd hcd) L.cls M F hr hb .nil hx ha hst hpl ht) fun _ _ _ => tE_meth L hn
theorem e_meth0 (i : Nat) {pl : Sem Bool} (L : LnC X.K C) (M : Meth X.K C m f) (F : FnOk X.prog X.w X.K X.mg X.base CX k f fd ps (spF X.K Γ 1 FN)) (hr : Room k X.A) (hb : Binds X.K fd ps []) (hx : Passes CX X E)
    (hN : X.N[i]? = some x := by rfl) (hv : Vis X.env.scope x := by first | exact Or.inl rfl | exact Or.inr (Or.inl rfl) | exact Or.inr (Or.inr rfl)) (hd : (x == ("__debug__" : Str)) = false := by decide) (hcd : (x == ("__classdict__" : Str)) = false := by decide)
    (ht : eval (.Call (.Attribute (.Name x p) m apos) [] [] pos) X.env = (do
      let ov ← eval (.Name x p) X.env
      standAt apos.atName
      let (f, first) ← holding [ov] (getMethod ov m pl)
      callWith pos f first (backTo pos (starEach [] X.env)) (backToKw pos (keywordEach [] X.env))) := by rfl) :
    PE X (.Call (.Attribute (.Name x p) m apos) [] [] pos) (tE X.K Γ E (fMeth i m FN fNil)) := pe_imp (pe_meth0 (pl := pl) (pe_var hN hv hd hcd) L.cls M F hr hb .nil hx ht) fun _ _ _ q => by
      obtain ⟨v, e1, a, dx, fs, e2, e3, e4, q2⟩ := tE_meth L (al_cons al_nil) q
      exact ⟨v, e1, a, dx, fs, e2, e3, e4, tA_nil q2⟩
theorem e_make (L : LnC X.K C) (M : Mk X.K C f) (F : FnOk X.prog X.w X.K X.mg X.base CX k f fd ps (spF X.K Γ (n + 1) FN)) (hr : Room (k + 1) X.A) (hg : Gl X x) (hm : X.mg x = some (.ref C)) (hb : Binds X.K fd ps []) (hx : Passes CX X E)
    (ha : PA X (e :: es) (tA X.K Γ E fs)) (hn : ALen fs n) (hdb : (x == ("__debug__" : Str)) = false := by decide) (he : starEach (e :: es) X.env = (false, eval e X.env) :: starEach es X.env := by rfl) (hpl : (backTo pos (starEach es X.env)).any (·.1) = false := by rfl) :
    PE X (.Call (.Name x p) (e :: es) [] pos) (tE X.K Γ E (fMake FN fs)) := pe_imp (pe_make M F hr hg hm hb .nil hx ha hdb he hpl) fun _ _ _ => tE_make L hn
theorem e_fld (i : Nat) {f : Str} (L : LnC X.K C) (hn : NoAttr X.K C f) (hN : X.N[i]? = some x := by rfl) (hv : Vis X.env.scope x := by first | exact Or.inl rfl | exact Or.inr (Or.inl rfl) | exact Or.inr (Or.inr rfl)) (hd : (x == ("__debug__" : Str)) = false := by decide) (hcd : (x == ("__classdict__" : Str)) = false := by decide)
    (hb : attributeBase (.Name x p) f X.env (eval (.Name x p) X.env) = eval (.Name x p) X.env := by rfl) : PE X (.Attribute (.Name x p) f pos) (tE X.K Γ E (fFld i f)) := pe_imp (pe_fld (pe_var hN hv hd hcd) hb) fun _ _ _ => tE_fld L hn
theorem e_fldNil (i : Nat) {f : Str} {p2 p3 : Pos} (hu : X.A.units + 64 < cLine) (L : LnC X.K C) (hn : NoAttr X.K C f) (hN : X.N[i]? = some x := by rfl) (hv : Vis X.env.scope x := by first | exact Or.inl rfl | exact Or.inr (Or.inl rfl) | exact Or.inr (Or.inr rfl)) (hd : (x == ("__debug__" : Str)) = false := by decide) (hcd : (x == ("__classdict__" : Str)) = false := by decide)
    (hb : attributeBase (.Name x p) f X.env (eval (.Name x p) X.env) = eval (.Name x p) X.env := by rfl) : PE X (.Compare (.Attribute (.Name x p) f p2) [.Eq] [.List [] p3] pos) (tE X.K Γ E (fFldNil i f)) := pe_imp (pe_cmpR (op_eqD hu) (pe_fld (pe_var hN hv hd hcd) hb) (pe_lst pa_nil) (nomark _)) fun _ _ _ => tE_fldNil L hn
theorem t_fldNil (i : Nat) {f : Str} {p2 p3 : Pos} (hu : X.A.units + 64 < cLine) (L : LnC X.K C) (hn : NoAttr X.K C f) (hN : X.N[i]? = some x := by rfl) (hv : Vis X.env.scope x := by first | exact Or.inl rfl | exact Or.inr (Or.inl rfl) | exact Or.inr (Or.inr rfl)) (hd : (x == ("__debug__" : Str)) = false := by decide) (hcd : (x == ("__classdict__" : Str)) = false := by decide)
    (hb : attributeBase (.Name x p) f X.env (eval (.Name x p) X.env) = eval (.Name x p) X.env := by rfl) : PT X (.Compare (.Attribute (.Name x p) f p2) [.Eq] [.List [] p3] pos) (tT X.K Γ E (fTest (fFldNil i f))) := pt_imp (pt_cmpR (op_eqD hu) (pe_fld (pe_var hN hv hd hcd) hb) (pe_lst pa_nil) (nomark _)) fun _ _ _ q => tE_fldNil L hn (tE_test q)
theorem s_fldSet (i : Nat) {f : Str} {fe : EF} {p2 : Pos} (L : LnC X.K C) (hn : NoAttr X.K C f) (he : PE X e (tE X.K Γ E fe)) (hN : X.N[i]? = some x := by rfl) (hv : Vis X.env.scope x := by first | exact Or.inl rfl | exact Or.inr (Or.inl rfl) | exact Or.inr (Or.inr rfl)) (hd : (x == ("__debug__" : Str)) = false := by decide) (hcd : (x == ("__classdict__" : Str)) = false := by decide)
    (hs : swapsWith e (some (.Attribute (.Name x p) f p2)) pos.line X.env = pure false := by rfl) : PS X (.Assign [.Attribute (.Name x p) f p2] e pos) (tS X.K Γ E (fFldSet i f fe)) := ps_imp (ps_fld (pe_var hN hv hd hcd) he hs) fun _ _ _ => tS_fldSet L hn
theorem s_fldSetL (i : Nat) {f : Str} {p2 p3 : Pos} (L : LnC X.K C) (hn : NoAttr X.K C f) (hN : X.N[i]? = some x := by rfl) (hv : Vis X.env.scope x := by first | exact Or.inl rfl | exact Or.inr (Or.inl rfl) | exact Or.inr (Or.inr rfl)) (hd : (x == ("__debug__" : Str)) = false := by decide) (hcd : (x == ("__classdict__" : Str)) = false := by decide)
    (hs : swapsWith (.List [] p3) (some (.Attribute (.Name x p) f p2)) pos.line X.env = pure false := by rfl) : PS X (.Assign [.Attribute (.Name x p) f p2] (.List [] p3) pos) (tS X.K Γ E (fFldSetL i f)) := ps_imp (ps_fld (pe_var hN hv hd hcd) (pe_lst pa_nil) hs) fun _ _ _ => tS_fldSetL L hn
theorem s_popSet (i : Nat) {f g : Str} {p2 p3 p4 p5 : Pos} (L : LnC X.K C) (hn : NoAttr X.K C f) (hn2 : NoAttr X.K C g) (hN : X.N[i]? = some x := by rfl) (hv : Vis X.env.scope x := by first | exact Or.inl rfl | exact Or.inr (Or.inl rfl) | exact Or.inr (Or.inr rfl)) (hd : (x == ("__debug__" : Str)) = false := by decide) (hcd : (x == ("__classdict__" : Str)) = false := by decide)
    (hb : attributeBase (.Name x p3) g X.env (eval (.Name x p3) X.env) = eval (.Name x p3) X.env := by rfl) (hb2 : attributeBase (.Attribute (.Name x p3) g p4) "pop" X.env (eval (.Attribute (.Name x p3) g p4) X.env) = eval (.Attribute (.Name x p3) g p4) X.env := by rfl) (hline : (p5.endLine == apos.line) = true := by rfl)
    (hs : swapsWith (.Call (.Attribute (.Attribute (.Name x p3) g p4) "pop" p5) [] [] apos) (some (.Attribute (.Name x p) f p2)) pos.line X.env = pure false := by rfl) : PS X (.Assign [.Attribute (.Name x p) f p2] (.Call (.Attribute (.Attribute (.Name x p3) g p4) "pop" p5) [] [] apos) pos) (tS X.K Γ E (fPopSet i f g)) :=
  ps_imp (ps_fld (pe_var hN hv hd hcd) (pe_bm0 PySem.F.plainAttrs_list PySem.F.slot_list_pop PySem.F.type_list_pop mt_pop (pe_fld (pe_var hN hv hd hcd) hb) hb2 hline) hs) fun _ _ _ => tS_popSet L hn hn2
theorem s_popRet (i : Nat) {g : Str} {p3 p4 p5 : Pos} (L : LnC X.K C) (hn : NoAttr X.K C g) (hN : X.N[i]? = some x := by rfl) (hv : Vis X.env.scope x := by first | exact Or.inl rfl | exact Or.inr (Or.inl rfl) | exact Or.inr (Or.inr rfl)) (hd : (x == ("__debug__" : Str)) = false := by decide) (hcd : (x == ("__classdict__" : Str)) = false := by decide)
    (hb : attributeBase (.Name x p3) g X.env (eval (.Name x p3) X.env) = eval (.Name x p3) X.env := by rfl) (hb2 : attributeBase (.Attribute (.Name x p3) g p4) "pop" X.env (eval (.Attribute (.Name x p3) g p4) X.env) = eval (.Attribute (.Name x p3) g p4) X.env := by rfl) (hline : (p5.endLine == apos.line) = true := by rfl) :
    PS X (.Return (some (.Call (.Attribute (.Attribute (.Name x p3) g p4) "pop" p5) [] [] apos)) pos) (tS X.K Γ E (fPopRet i g)) :=
  ps_imp (ps_ret (pe_bm0 PySem.F.plainAttrs_list PySem.F.slot_list_pop PySem.F.type_list_pop mt_pop (pe_fld (pe_var hN hv hd hcd) hb) hb2 hline)) fun _ _ _ => tS_popRet L hn
end
end Mi
/-! Mini: a cell read as data; a cell's lists changed. -/
namespace Mi
open PySem L2 PySem.Spec PyProof.Rows
def hideA : A → A
  | .loc _ => .zz
  | a => a
def hideE (env : En) : En := env.map fun o => o.map hideA
def borOf (i : Nat) (env : En) (h : Hh) : Option (Nat × D) := match env[i]? with
  | some (some (.loc k)) => match h[k]? with
    | some (.lst ds) => some (k, .list ds)
    | some (.lst2 dss) => some (k, .list (dss.map .list))
    | _ => none
  | _ => none
/-- the cell of a name is read as data; no cell is changed -/
def fBor (i : Nat) (f : EF) : EF := fun env h => match borOf i env h with
  | some (_, d) => match f ((hideE env).set i (some (.dat d))) [] with
    | .ok a [] => if resOk a = true then .ok a h else .er
    | .exc c [] => .exc c h
    | _ => .er
  | none => .er
section
variable {K : PySem.W.Frag} {Γ : Nat → Addr} {E : XK} {σ : L2.St} {μ Oc B S T : List Addr} {env : En} {H H' F F' : Hp} {h : Hh} {D' : Ends} {C : Addr}
theorem RS.hide : ∀ {env : En} {σ : L2.St} {O : List Addr}, RS K F H μ env σ O → RS K F H [] (hideE env) σ O
  | _, _, _, .nil => .nil
  | _, _, _, .no t => .no (RS.hide t)
  | _, _, _, .so r t => by
    refine .so ?_ (RS.hide t)
    cases r with
    | dat r => exact .dat r
    | sn r => exact .sn r
    | ob r => exact .ob r
    | loc r => exact .zz
    | scr r => exact .scr r
    | dc r => exact .dc r
    | zz => exact .zz
theorem borOf_eq {i k : Nat} {d : D} (e : borOf i env h = some (k, d)) : env[i]? = some (some (.loc k)) ∧ ∃ c, h[k]? = some c ∧ ((∃ ds, c = .lst ds ∧ d = .list ds) ∨ ∃ dss, c = .lst2 dss ∧ d = .list (dss.map .list)) := by
  unfold borOf at e
  split at e
  · rename_i k' hk
    split at e
    · rename_i ds hf
      cases e
      exact ⟨hk, _, hf, .inl ⟨ds, rfl, rfl⟩⟩
    · rename_i dss hf
      cases e
      exact ⟨hk, _, hf, .inr ⟨dss, rfl, rfl⟩⟩
    · cases e
  · cases e
theorem set_sameO {σ : L2.St} {i : Nat} {v : Option V} (h : σ[i]? = some v) : σ.set i v = σ := by
  apply List.ext_getElem?
  intro j
  by_cases e : i = j
  · subst e
    rw [List.getElem?_set_self (List.getElem?_eq_some_iff.mp h).1, h]
  · rw [List.getElem?_set_ne e]
theorem tE_bor {i : Nat} {f : EF} {Q : VK} : tE K Γ E (fBor i f) σ H Q → tE K Γ E f σ H Q := by
  rintro ⟨μ, Oc, T, env, h, s, go⟩
  unfold fBor at go
  split at go
  · rename_i k d hb
    obtain ⟨hs, c, hc, hd⟩ := borOf_eq hb
    obtain ⟨p, e1, e2⟩ := s.slots.loc hs
    obtain ⟨p', P, O1, O2, c1, c2, c3, _⟩ := s.cells.split hc
    rw [e2] at c1
    cases c1
    subst c3
    have nO := nd_l s.nd
    have inP : ∀ q ∈ P, q ∈ O1 ++ (P ++ O2) := fun q hq => List.mem_append_right _ (List.mem_append_left _ hq)
    have nT' : ((O1 ++ O2) ++ T).Nodup := by
      refine nd_mk (nd_mk (nd_l nO) (nd_r (nd_r nO)) fun q a b => nd_ne nO a (List.mem_append_right _ b)) (nd_r s.nd) fun q a b => ?_
      rcases List.mem_append.mp a with z | z
      · exact nd_ne s.nd (List.mem_append_left _ z) b
      · exact nd_ne s.nd (List.mem_append_right _ (List.mem_append_right _ z)) b
    have sub : ∀ q, q ∈ (O1 ++ O2) ++ T → q ∈ (O1 ++ (P ++ O2)) ++ T := fun q hq => by
      rcases List.mem_append.mp hq with z | z
      · rcases List.mem_append.mp z with z | z
        · exact List.mem_append_left _ (List.mem_append_left _ z)
        · exact List.mem_append_left _ (List.mem_append_right _ (List.mem_append_right _ z))
      · exact List.mem_append_right _ z
    have nP' : ∀ q ∈ P, q ∉ (O1 ++ O2) ++ T := fun q hq z => by
      rcases List.mem_append.mp z with z | z
      · rcases List.mem_append.mp z with z | z
        · exact nd_ne nO z (List.mem_append_left _ hq)
        · exact nd_ne (nd_r nO) hq z
      · exact nd_ne s.nd (inP q hq) z
    have ex0 : Ex (mns H ((O1 ++ (P ++ O2)) ++ T)) (mns H ([] ++ ((O1 ++ O2) ++ T))) := mns_mono fun q hq => sub q hq
    have agP : Ag P H (mns H ([] ++ ((O1 ++ O2) ++ T))) := fun q hq o z => mns_some.mpr ⟨nP' q hq, z⟩
    have dq : Dq K (mns H ([] ++ ((O1 ++ O2) ++ T))) (.ref p) d := by
      rcases hd with ⟨ds, rfl, rfl⟩ | ⟨dss, rfl, rfl⟩
      · cases c2 with
        | lst h1 h2 => exact .lst (agP _ List.mem_cons_self _ h1) (ex_dps ex0 h2)
      · cases c2 with
        | lst2 h1 h2 => exact .lst (agP _ List.mem_cons_self _ h1) (h2.frz ex0 fun q hq => agP q (List.mem_cons_of_mem _ hq))
    have lv : ∀ q ∈ (O1 ++ O2) ++ T, NF H q := fun q hq => by
      rcases List.mem_append.mp hq with z | z
      · refine s.cells.there q ?_
        rcases List.mem_append.mp z with z | z
        · exact List.mem_append_left _ z
        · exact List.mem_append_right _ (List.mem_append_right _ z)
      · exact s.live q z
    have sl : Slots K (mns H ([] ++ ((O1 ++ O2) ++ T))) H [] ((O1 ++ O2) ++ T) ((hideE env).set i (some (.dat d))) σ := by
      obtain ⟨Os, o1, o2, o3⟩ := s.slots
      obtain ⟨O', k1, k2, k3⟩ := ((o3.mv ex0 (Pre.refl _) fun _ _ _ z => z).hide).set i (a := .dat d) (v := .ref p) (P := []) (.dat dq)
      rw [set_sameO e1] at k1
      exact ⟨O', fun q hq => List.mem_append_right _ ((k2 q hq).elim (o1 q) fun z => absurd z List.not_mem_nil), k3 o2 List.nodup_nil (fun _ z => absurd z List.not_mem_nil), k1⟩
    refine ⟨[], [], (O1 ++ O2) ++ T, _, [], ⟨nT', .nil, sl, lv⟩, ?_⟩
    cases hf : f ((hideE env).set i (some (.dat d))) [] with
    | er => rw [hf] at go; exact go
    | exc cc h2 =>
      rw [hf] at go
      cases h2 with
      | cons x y => exact go.elim
      | nil =>
        intro H' μ' Oc' g n r
        have ex : Ex H H' := fun q o z => g.keep q o List.not_mem_nil z
        exact go H' μ (O1 ++ (P ++ O2)) (Gr.ex ex) s.nd (s.cells.mv (ex_mns fun q o hq z => ⟨ex q o z, hq⟩) fun q _ o z => ex q o z)
    | ok a h2 =>
      rw [hf] at go
      cases h2 with
      | cons x y => exact go.elim
      | nil =>
        by_cases hr : resOk a = true
        · simp only [hr, if_true] at go
          intro v H' μ' Oc' P' q
          obtain ⟨rfl, rfl⟩ := rc_nil q.cells
          have ex : Ex H H' := fun x o z => q.gr.keep x o List.not_mem_nil z
          obtain ⟨v', ev, ra⟩ := ras1 q.val
          cases ev
          have kk : ∀ b ob u, mns H' ([] ++ (((O1 ++ O2) ++ T) ++ P')) b = some (.frz ob u) → mns H' ((O1 ++ (P ++ O2)) ++ (T ++ P')) b = some (.frz ob u) := fun b ob u hb => by
            obtain ⟨n1, n2⟩ := mns_some.mp hb
            refine mns_some.mpr ⟨fun z => ?_, n2⟩
            have nf : ∀ w, NF H w → w = b → False := fun w ⟨o, ho, nf⟩ e => by
              subst e
              rw [ex _ _ ho] at n2
              cases n2
              exact nf _ _ rfl
            rcases List.mem_append.mp z with z | z
            · exact nf b (s.cells.there b z) rfl
            · rcases List.mem_append.mp z with z | z
              · exact nf b (s.live b z) rfl
              · exact n1 (List.mem_append_right _ (List.mem_append_right _ z))
          refine go v H' μ _ P' (s.psA.prim ex (fun x hx => .inr (q.fresh x hx)) (nd_r (nd_r q.nd)) ?_)
          cases ra with
          | dat r => exact .dat (lf_dq kk hr r)
          | sn r => cases hr
          | ob r => exact .ob (lf_ro kk hr r)
          | loc r => cases hr
          | scr r => cases hr
          | dc r => cases hr
          | zz => cases hr
        · simp only [hr] at go; exact go.elim
  · exact go.elim
/-! ### the lists of a cell -/
theorem RL.at : ∀ {dss : List (List D)} {ps : List Addr} {n : Nat} {ds : List D}, RL K F H dss ps → dss[n]? = some ds → ∃ p ws, ps[n]? = some p ∧ H p = some (.lst ws) ∧ DqAll K F ws ds
  | _, _, _, _, .nil, e => by simp at e
  | _, _, 0, _, .cons h d t, e => by
    simp at e
    subst e
    exact ⟨_, _, rfl, h, d⟩
  | _, _, n + 1, _, .cons h d t, e => by
    obtain ⟨p, ws, h1, h2⟩ := RL.at (n := n) t (by simpa using e)
    exact ⟨p, ws, by simpa using h1, h2⟩
/-- another list comes to the place n -/
theorem RL.put : ∀ {dss : List (List D)} {ps : List Addr} {n : Nat} {ds' : List D} {p' : Addr} {ws' : List V}, RL K F H dss ps → Ex F F' → (∀ (m : Nat) q, m ≠ n → ps[m]? = some q → ∀ o, H q = some o → H' q = some o) → H' p' = some (.lst ws') → DqAll K F' ws' ds' → RL K F' H' (dss.set n ds') (ps.set n p')
  | _, _, _, _, _, _, .nil, _, _, _, _ => by simpa using RL.nil
  | _, _, 0, _, _, _, .cons h d t, ex, ag, hp, hd => by
    refine .cons hp hd (t.mv ex fun q hq o z => ?_)
    obtain ⟨m, hm⟩ := List.getElem?_of_mem hq
    exact ag (m + 1) q (by omega) (by simpa using hm) o z
  | _, _, n + 1, _, _, _, .cons h d t, ex, ag, hp, hd => .cons (ag 0 _ (by omega) rfl _ h) (ex_dps ex d) (RL.put (n := n) t ex (fun m q hm hq => ag (m + 1) q (by omega) (by simpa using hq)) hp hd)
theorem ints_at {ps : List Addr} {n : Nat} {q : Addr} (h : ps[n]? = some q) : atI (ps.map V.ref) (n : Int) = some (.ref q) := atI_nat (by rw [List.getElem?_map, h]; rfl)
/-- standing[at].m(x) -/
def fMutIxC (i ja : Nat) (g : List D → List D → Option (List D)) (jb : Nat) : SF := fun env h => match env[i]?, env[ja]?, env[jb]? with
  | some (some (.loc k)), some (some (.dat (.int (.ofNat n)))), some (some (.dat d)) => match h[k]? with
    | some (.lst2 dss) => match dss[n]? with
      | some ds => match g ds [d] with
        | some ds' => .nx env (h.set k (.lst2 (dss.set n ds')))
        | none => .er
      | none => .er
    | _ => .er
  | _, _, _ => .er
theorem nd_ix {ps : List Addr} (n : ps.Nodup) {i j : Nat} {q : Addr} (h1 : ps[i]? = some q) (h2 : ps[j]? = some q) : i = j := by
  obtain ⟨a1, b1⟩ := List.getElem?_eq_some_iff.mp h1
  obtain ⟨a2, b2⟩ := List.getElem?_eq_some_iff.mp h2
  rcases Nat.lt_trichotomy i j with z | z | z
  · exact absurd (b1.trans b2.symm) (List.pairwise_iff_getElem.mp n i j a1 a2 z)
  · exact z
  · exact absurd (b2.trans b1.symm) (List.pairwise_iff_getElem.mp n j i a2 a1 z)
theorem tS_mutIxC {i ja jb : Nat} {r : V → List V → Hp → VK → Prop} {g : List D → List D → Option (List D)} (hr : MutR K r g) : tS K Γ E (fMutIxC i ja g jb) D' σ H → tDrop (tBM K "list" r (tOp (rIxL K) (tVar i) (tVar ja)) (tCons (tVar jb) tNil)) D' σ H := by
  rintro ⟨μ, Oc, B, S, env, h, s, go⟩
  unfold fMutIxC at go
  split at go
  · rename_i k n d hs hja hjb
    split at go
    · rename_i dss hc
      split at go
      · rename_i ds hn
        split at go
        · rename_i ds' hg
          obtain ⟨p, e1, e2⟩ := s.slots.loc hs
          obtain ⟨p', P, c1, c2, nP, inP, fin⟩ := s.setC hc
          rw [e2] at c1
          cases c1
          obtain ⟨Os, o1, o2, o3⟩ := s.slots
          obtain ⟨va, Pa, a1, a2, a3⟩ := o3.get hja
          obtain ⟨vb, Pb, b1, b2, b3⟩ := o3.get hjb
          cases a2 with
          | dat a2 =>
            cases a2
            cases b2 with
            | dat b2 =>
              cases c2 with
              | @lst2 _ _ ps h1 h2 =>
                obtain ⟨q, ws, k1, k2, k3⟩ := h2.at hn
                have nps := (List.nodup_cons.mp nP)
                have hq : q ∈ ps := List.mem_of_getElem? k1
                refine ⟨.ref p, e1, .int (n : Nat), a1, p, ps.map V.ref, _, .ref q, rfl, rfl, .of h1, ints_at k1, .inl ⟨rfl, ws, .of k2⟩, vb, b1, ?_⟩
                refine hr (mns H (Oc ++ (B ++ S))) H q ws [vb] ds [d] ds' _ (mns_ex _ _) k2 k3 (.cons b2 .nil) hg fun v ws' hd => ?_
                have nqp : p ≠ q := fun z => nps.1 (by rw [z]; exact hq)
                obtain ⟨Oc', q2, _⟩ := fin (L2.upd H q (.lst ws')) (.lst2 (dss.set n ds')) (p :: ps) ⟨upd_keep (List.mem_cons_of_mem _ hq), fun x hx => .inl hx, nP, fun x hx => upd_dom hx⟩ fun F' ex _ => by
                  refine .lst2 (by rw [upd_ne nqp]; exact h1) ?_
                  have := h2.put (n := n) (p' := q) (ds' := ds') (ws' := ws') (H' := L2.upd H q (.lst ws')) ex (fun m x hm hx o z => upd_at (fun e => hm (nd_ix nps.2 hx (by rw [e]; exact k1))) z) upd_same (ex_dps ex hd)
                  rwa [show ps.set n q = ps from by
                    apply List.ext_getElem?
                    intro j
                    by_cases e : n = j
                    · subst e
                      rw [List.getElem?_set_self (List.getElem?_eq_some_iff.mp k1).1, k1]
                    · rw [List.getElem?_set_ne e]] at this
                exact go σ _ μ Oc' S q2
        · exact go.elim
      · exact go.elim
    · exact go.elim
  · exact go.elim
/-- standing[at] = [] -/
def fSetIxN (i ja : Nat) : SF := fun env h => match env[i]?, env[ja]? with
  | some (some (.loc k)), some (some (.dat (.int (.ofNat n)))) => match h[k]? with
    | some (.lst2 dss) => if n < dss.length then .nx env (h.set k (.lst2 (dss.set n []))) else .er
    | _ => .er
  | _, _ => .er
theorem ixN_nat {l n : Nat} (h : n < l) : ixN l (n : Int) = some n := by
  unfold ixN
  rw [if_pos (by omega), if_pos (by omega)]
  simp
theorem tS_setIxN {i ja : Nat} : tS K Γ E (fSetIxN i ja) D' σ H → tAsg (tLst tNil) (gSub (tVar i) (tVar ja) rSetL) D' σ H := by
  rintro ⟨μ, Oc, B, S, env, h, s, go⟩
  unfold fSetIxN at go
  split at go
  · rename_i k n hs hja
    split at go
    · rename_i dss hc
      by_cases hz : n < dss.length
      · rw [if_pos hz] at go
        obtain ⟨p, e1, e2⟩ := s.slots.loc hs
        obtain ⟨p', P, c1, c2, nP, inP, fin⟩ := s.setC hc
        rw [e2] at c1
        cases c1
        obtain ⟨Os, o1, o2, o3⟩ := s.slots
        obtain ⟨va, Pa, a1, a2, a3⟩ := o3.get hja
        cases a2 with
        | dat a2 =>
          cases a2
          cases c2 with
          | @lst2 _ _ ps h1 h2 =>
            refine ⟨by show 0 ≤ sizeLine; decide, fun p1 hp1 => ?_⟩
            have ex1 := Ex.new (o := .lst []) hp1
            have n1 : p1 ≠ p := fun z => by rw [z, h1] at hp1; cases hp1
            have nps := List.nodup_cons.mp nP
            have n2 : p1 ∉ ps := fun z => by
              obtain ⟨o, ho, _⟩ := h2.there p1 z
              rw [hp1] at ho; cases ho
            refine ⟨.ref p, e1, .int (n : Nat), a1, p, ps.map V.ref, _, n, rfl, rfl, ex1 _ _ h1, by rw [List.length_map, h2.len]; exact ixN_nat hz, ?_⟩
            have esub : (ps.map V.ref).set n (.ref p1) = (ps.set n p1).map V.ref := by rw [List.map_set]
            rw [esub]
            have hsub : ∀ q ∈ ps.set n p1, q ∈ ps ∨ q = p1 := fun q hq => (List.mem_or_eq_of_mem_set hq)
            have nset : (ps.set n p1).Nodup := by
              refine List.pairwise_iff_getElem.mpr fun a b ha hb hab => ?_
              rw [List.length_set] at ha hb
              rw [List.getElem_set, List.getElem_set]
              by_cases x : n = a
              · rw [if_pos x, if_neg (by omega)]
                exact fun e => n2 (by rw [e]; exact List.getElem_mem hb)
              · rw [if_neg x]
                by_cases y : n = b
                · rw [if_pos y]
                  exact fun e => n2 (by rw [← e]; exact List.getElem_mem ha)
                · rw [if_neg y]
                  exact List.pairwise_iff_getElem.mp nps.2 a b ha hb hab
            obtain ⟨Oc', q2, _⟩ := fin (L2.upd (L2.upd H p1 (.lst [])) p (.lst ((ps.set n p1).map V.ref))) (.lst2 (dss.set n [])) (p :: ps.set n p1)
              ⟨fun q o hq e => upd_at (fun z => hq (by rw [z]; exact List.mem_cons_self)) (ex1 q o e), fun q hq => by
                rcases List.mem_cons.mp hq with z | z
                · exact .inl (by rw [z]; exact List.mem_cons_self)
                · rcases hsub q z with w | w
                  · exact .inl (List.mem_cons_of_mem _ w)
                  · exact .inr (by rw [w]; exact hp1), List.nodup_cons.mpr ⟨fun z => (hsub p z).elim nps.1 fun w => n1 w.symm, nset⟩, fun q hq => upd_dom (upd_dom hq)⟩ fun F' ex _ => by
              refine .lst2 upd_same (h2.put (n := n) (p' := p1) (ws' := []) ex (fun m q hm hq o z => upd_at (fun e => nps.1 (by rw [← e]; exact List.mem_of_getElem? hq)) (ex1 q o z)) (by rw [upd_ne n1]; exact upd_same) .nil)
            exact go σ _ μ Oc' S q2
      · rw [if_neg hz] at go; exact go.elim
    · exact go.elim
  · exact go.elim
/-- standing[at] = e, of a cell of data -/
def fSetIxL (i : Nat) (fe : EF) (ja : Nat) : SF := fun env h => onE (fe env h) fun a h1 => match env[i]?, env[ja]?, sto a with
  | some (some (.loc k)), some (some (.dat (.int (.ofNat n)))), some d => match h1[k]? with
    | some (.lst ds) => if n < ds.length then .nx env (h1.set k (.lst (ds.set n d))) else .er
    | _ => .er
  | _, _, _ => .er
theorem tS_setIxL {i ja : Nat} {fe : EF} : tS K Γ E (fSetIxL i fe ja) D' σ H → tAsg (tE K Γ E fe) (gSub (tVar i) (tVar ja) rSetL) D' σ H := fun hq =>
  tS_expr (k := fun a env h1 => match env[i]?, env[ja]?, sto a with
    | some (some (.loc k)), some (some (.dat (.int (.ofNat n)))), some d => match h1[k]? with
      | some (.lst ds) => if n < ds.length then .nx env (h1.set k (.lst (ds.set n d))) else .er
      | _ => .er
    | _, _, _ => .er) hq fun μ Oc B S env h a h1 v H1 μ1 Oc1 P s p go => by
    have q0 := p.ssim0 s
    split at go
    · rename_i k n d hs hja hd
      split at go
      · rename_i ds hc
        by_cases hz : n < ds.length
        · rw [if_pos hz] at go
          obtain ⟨pp, e1, e2⟩ := q0.sim.slots.loc hs
          obtain ⟨Os, o1, o2, o3⟩ := q0.sim.slots
          obtain ⟨va, Pa, a1, a2, a3⟩ := o3.get hja
          obtain ⟨v', ev, rv⟩ := ras1 p.val
          cases ev
          have dv : Dq K (mns H1 (Oc1 ++ (B ++ S))) v d := ra_sto p.nd rv (fun _ z => z) hd
          obtain ⟨p'', P'', c1, c2, c3⟩ := q0.sim.cells.get hc
          rw [e2] at c1
          cases c1
          cases a2 with
          | dat a2 =>
            cases a2
            cases c2 with
            | lst h3 h4 =>
              exact ⟨.ref pp, e1, .int (n : Nat), a1, pp, _, _, n, rfl, rfl, h3, by rw [dps_length h4]; exact ixN_nat hz, go σ _ μ1 Oc1 S (q0.mutC hc e2 (dps_set dv n h4))⟩
        · rw [if_neg hz] at go; exact go.elim
      · exact go.elim
    · exact go.elim
end
end Mi
/-! Mini: a list comprehension of new lists. -/
namespace Mi
open PySem L2 PySem.Spec PyProof.Rows
def compLF (js : List Nat) (elt : EF) (env : En) : List (List D) → List (List D) → Hh → Res A
  | [], acc, h => .ok (.ob (.lst2 acc)) h
  | ds :: r, acc, h => match bnd js ds env with
    | none => .er
    | some env1 => match elt env1 h with
      | .ok (.ob (.lst es)) h2 => if acc.length < LIM then compLF js elt env r (acc ++ [es]) h2 else .er
      | _ => .er
def fCompL (it : IG) (js own : List Nat) (elt : EF) : EF := fun env h => (it env h).bind fun o h1 => compLF js elt (wipeE env own) o.1 [] h1
section
variable {K : PySem.W.Frag} {Γ : Nat → Addr} {E : XK} {σ σ1 : L2.St} {μ μ1 Oc Oc1 P T S ps : List Addr} {env env1 : En} {H H1 F Ff : Hp} {h h1 : Hh} {D : Addr} {acc : List (List Mi.D)}
/-- the new list at D holds the new lists at ps -/
structure CSz (K : PySem.W.Frag) (μ Oc T : List Addr) (H : Hp) (D : Addr) (ps : List Addr) (acc : List (List Mi.D)) (h' : Hh) (H' : Hp) (μ' Oc' : List Addr) : Prop where
  gr : Gr Oc H μ Oc' H' μ'
  nd : (Oc' ++ (T ++ (D :: ps))).Nodup
  cells : RC K (mns H' (Oc' ++ (T ++ (D :: ps)))) H' h' μ' Oc'
  live : ∀ q ∈ T, NF H' q
  at' : H' D = some (.lst (ps.map V.ref))
  rl : RL K (mns H' (Oc' ++ (T ++ (D :: ps)))) H' acc ps
  fresh : ∀ q ∈ D :: ps, H q = none
theorem CSz.lv (c : CSz K μ Oc T H D ps acc h1 H1 μ1 Oc1) : ∀ q ∈ T ++ (D :: ps), NF H1 q := fun q hq => by
  rcases List.mem_append.mp hq with z | z
  · exact c.live q z
  · rcases List.mem_cons.mp z with z | z
    · rw [z]; exact .lst c.at'
    · exact c.rl.there q z
theorem CSz.sim (c : CSz K μ Oc T H D ps acc h1 H1 μ1 Oc1) (sl : Slots K (mns H1 (Oc1 ++ (T ++ (D :: ps)))) H1 μ1 T env σ) : Sim K H1 σ μ1 Oc1 (T ++ (D :: ps)) env h1 :=
  ⟨c.nd, c.cells, sl.mv (Ex.refl _) (Pre.refl _) (fun _ _ _ z => z) fun q hq => List.mem_append_left _ hq, c.lv⟩
theorem CSz.step (c : CSz K μ Oc T H D ps acc h1 H1 μ1 Oc1) {h2 : Hh} {H2 : Hp} {μ2 Oc2 : List Addr} (g : Gr Oc1 H1 μ1 Oc2 H2 μ2) (n : (Oc2 ++ (T ++ (D :: ps))).Nodup) (r : RC K (mns H2 (Oc2 ++ (T ++ (D :: ps)))) H2 h2 μ2 Oc2) : CSz K μ Oc T H D ps acc h2 H2 μ2 Oc2 := by
  have ex : Ex (mns H1 (Oc1 ++ (T ++ (D :: ps)))) (mns H2 (Oc2 ++ (T ++ (D :: ps)))) := fr_step g fun q hq => .inl hq
  have ag : ∀ q ∈ T ++ (D :: ps), ∀ o, H1 q = some o → H2 q = some o := fun q hq o z => g.keep q o (nd_ne' c.nd hq) z
  refine ⟨c.gr.trans g, n, r, fun q hq => ?_, ag D (List.mem_append_right _ List.mem_cons_self) _ c.at', c.rl.mv ex fun q hq => ag q (List.mem_append_right _ (List.mem_cons_of_mem _ hq)), c.fresh⟩
  obtain ⟨o, ho, nf⟩ := c.live q hq
  exact ⟨o, ag q (List.mem_append_left _ hq) o ho, nf⟩
theorem CSz.post {as : List A} {vs : List V} (c : CSz K μ Oc T H D ps acc h1 H1 μ1 Oc1) {h2 : Hh} {H2 : Hp} {μ2 Oc2 P2 : List Addr} (p : PsA K σ μ1 Oc1 (T ++ (D :: ps)) env H1 as h2 vs H2 μ2 Oc2 P2) : CSz K μ Oc T H D ps acc h2 H2 μ2 Oc2 := by
  have p0 := p.drop
  have n := p0.nd
  have r := p0.cells
  rw [List.append_nil] at n r
  exact c.step p.gr n r
theorem tE_compL {m : Bool} {it : IG} {js own : List Nat} {elt : EF} {Q : VK} (hj : ∀ j ∈ js, j ∈ own) (hq : tE K Γ E (fCompL it js own elt) σ H Q) :
    tLc (tI K Γ E m it) (tgt K m js) (tT K Γ E0 tYesF) (tE K Γ E0 elt) own σ H Q := by
  obtain ⟨μ, Oc, T, env, h, s, go⟩ := hq
  refine ⟨μ, Oc, T, env, h, s, ?_⟩
  unfold fCompL at go
  cases hi : it env h with
  | er => rw [hi] at go; exact go
  | exc c h1 => rw [hi] at go; exact go
  | ok o h1 =>
    obtain ⟨dss, st⟩ := o
    rw [hi] at go
    change GoE K Γ E (compLF js elt (wipeE env own) dss [] h1) σ H μ Oc T env Q at go
    intro J H1 μ1 Oc1 Fw Ff p eFw eFf wk D hD
    have s1 : Sim K H1 σ μ1 Oc1 T env h1 := p.sim0
    have eW1 : Ex Fw (mns H1 Oc1) := eFw.trans (by
      cases st with
      | true => exact mns_mono fun q hq => List.mem_append_left _ hq
      | false => exact Ex.refl _)
    have nO1 : D ∉ Oc1 := nin_c s1.cells hD
    have nT1 : D ∉ T := nin_t s1.live hD
    have ex0 : Ex (mns H1 (Oc1 ++ T)) (mns (L2.upd H1 D (.lst [])) (Oc1 ++ (T ++ [D]))) := by
      have := new_ex (Oc := Oc1) (T := T) (P := []) (P' := [D]) (o := .lst []) hD (in1 hD)
      rwa [List.append_nil] at this
    have nd0 : (Oc1 ++ (T ++ [D])).Nodup := by
      rw [← List.append_assoc]
      refine nd_mk s1.nd (nd1 D) fun q a b => ?_
      have e : q = D := by simpa using b
      subst e
      exact (List.mem_append.mp a).elim nO1 nT1
    have c0 : CSz K μ1 Oc1 T H1 D [] [] h1 (L2.upd H1 D (.lst [])) μ1 Oc1 := by
      refine ⟨Gr.ex (Ex.new hD), nd0, s1.cells.mv ex0 fun q _ o z => Ex.new hD q o z, fun q hq => (s1.live q hq).upd, upd_same, .nil, fun q hq => ?_⟩
      have e : q = D := by simpa using hq
      rw [e]; exact hD
    refine ⟨fun i m H' => m = dss.length - i ∧ i ≤ dss.length ∧ ∃ μ' Oc' h' ps acc, CSz K μ1 Oc1 T H1 D ps acc h' H' μ' Oc' ∧ GoE K Γ E (compLF js elt (wipeE env own) (dss.drop i) acc h') σ H μ Oc T env Q,
      ⟨_, rfl, Nat.zero_le _, μ1, Oc1, h1, [], [], c0, go⟩, ?_⟩
    rintro i m H2 ⟨rfl, hi, μ2, Oc2, h2, ps, acc, c2, go2⟩
    have eW : Ex Fw H2 := (eW1.trans (w_step c2.gr)).trans (mns_ex _ _)
    have e12 : Ex (mns H1 (Oc1 ++ T)) (mns H2 (Oc2 ++ (T ++ (D :: ps)))) := fr_step c2.gr fun q hq => (List.mem_append.mp hq).elim .inl fun z => .inr (c2.fresh q z)
    have eF : Ex Ff (mns H2 (Oc2 ++ (T ++ (D :: ps)))) := eFf.trans e12
    have sl2 : Slots K (mns H2 (Oc2 ++ (T ++ (D :: ps)))) H2 μ2 T env σ := by
      obtain ⟨Os, o1, o2, o3⟩ := s1.slots
      exact ⟨Os, o1, o2, o3.mv e12 c2.gr.pre fun q hq o z => c2.gr.keep q o (nd_ne' s1.nd (o1 q hq)) z⟩
    by_cases hlt : i < dss.length
    · refine .inr ⟨wk.go H2 i eW (eF.trans (mns_ex _ _)) hlt, _, fun H' hN => ⟨dss.length - (i + 1), by omega, hN⟩, fun x H3 hy => ?_⟩
      have hget : dss[i]? = some dss[i] := List.getElem?_eq_getElem hlt
      rw [List.drop_eq_getElem_cons hlt] at go2
      obtain ⟨eH, F', k1, k2, k3, k4⟩ := wk.yld H2 i x H3 _ eW (eF.trans (mns_ex _ _)) hget hy
      have g23 : Gr Oc2 H2 μ2 Oc2 H3 μ2 := Gr.ex eH
      have c3 := c2.step g23 c2.nd (c2.cells.mv (ex_mns fun q o hq z => ⟨eH q o z, hq⟩) fun q _ o z => eH q o z)
      have eF3 : Ex F' (mns H3 (Oc2 ++ (T ++ (D :: ps)))) := fun q o hq => by
        refine mns_some.mpr ⟨fun z => ?_, k2 q o hq⟩
        rcases k3 q o hq with z2 | z2
        · exact (mns_some.mp (eF q o z2)).1 z
        · rcases List.mem_append.mp z with w | w
          · obtain ⟨o', ho', _⟩ := c2.cells.there q w
            rw [z2] at ho'; cases ho'
          · obtain ⟨o', ho', _⟩ := c2.lv q w
            rw [z2] at ho'; cases ho'
      have mvS : ∀ {env : En} {σ : L2.St} {Ha Hb : Hp} {μa Oa μb Ob : List Addr}, Gr Oa Ha μa Ob Hb μb → (Oa ++ (T ++ (D :: ps))).Nodup → Slots K (mns Ha (Oa ++ (T ++ (D :: ps)))) Ha μa T env σ → Slots K (mns Hb (Ob ++ (T ++ (D :: ps)))) Hb μb T env σ := fun g n sl =>
        sl.mv (fr_step g fun q hq => .inl hq) g.pre (ag_step g n fun q hq => List.mem_append_left _ hq) fun _ z => z
      have sl3 := mvS g23 c2.nd sl2
      unfold compLF at go2
      cases hb : bnd js dss[i] (wipeE env own) with
      | none => rw [hb] at go2; exact go2.elim
      | some env3 =>
        simp only [hb] at go2
        refine tgt_ok hb (mns_ex _ _) (k4.ex eF3) (sl3.wipe own) fun ws3 sl5 => ⟨wipe_sets hj, ?_⟩
        refine ⟨μ2, Oc2, T ++ (D :: ps), env3, h2, c3.sim sl5, ?_⟩
        intro H4 μ4 Oc4 p4
        have c4 := c3.post p4
        refine ⟨μ4, Oc4, T ++ (D :: ps), env3, h2, p4.sim0, ?_⟩
        cases he : elt env3 h2 with
        | er => simp only [he] at go2; exact go2.elim
        | exc c h6 => simp only [he] at go2; exact go2.elim
        | ok a h6 =>
          simp only [he] at go2
          intro y H6 μ6 Oc6 P6 p6
          split at go2
          · rename_i es h6' e6
            cases e6
            by_cases hl : acc.length < LIM
            · rw [if_pos hl] at go2
              have c6 := c4.post p6
              obtain ⟨y', ey, ry⟩ := ras1 p6.val
              cases ey
              cases ry with
              | @ob _ q _ ry =>
                cases ry with
                | @lst _ _ ws q1 q2 =>
                  have hq4 : H4 q = none := p6.fresh q List.mem_cons_self
                  have n6 := p6.nd
                  have hqn : q ∉ T ++ (D :: ps) := fun z => nd_ne (nd_r n6) z List.mem_cons_self
                  have hqO : q ∉ Oc6 := fun z => nd_ne n6 z (List.mem_append_right _ List.mem_cons_self)
                  have hqD : q ≠ D := fun z => hqn (List.mem_append_right _ (by rw [z]; exact List.mem_cons_self))
                  have hmem : ∀ x, x ∈ T ++ (D :: (ps ++ [q])) ↔ x ∈ (T ++ (D :: ps)) ++ [q] := fun x => by simp
                  have nd7 : (Oc6 ++ (T ++ (D :: (ps ++ [q])))).Nodup := by
                    have e : T ++ (D :: (ps ++ [q])) = (T ++ (D :: ps)) ++ [q] := by simp
                    rw [e]; exact n6
                  let H7 : Hp := L2.upd H6 D (.lst (ps.map V.ref ++ [.ref q]))
                  have hin : D ∈ Oc6 ++ ((T ++ (D :: ps)) ++ [q]) := List.mem_append_right _ (List.mem_append_left _ (List.mem_append_right _ List.mem_cons_self))
                  have ex7 : Ex (mns H6 (Oc6 ++ ((T ++ (D :: ps)) ++ [q]))) (mns H7 (Oc6 ++ (T ++ (D :: (ps ++ [q]))))) := ex_mns fun x o hx z => ⟨upd_at (fun e => hx (by rw [e]; exact hin)) z, fun w => hx ((List.mem_append.mp w).elim (List.mem_append_left _) fun w => List.mem_append_right _ ((hmem x).mp w))⟩
                  have ex67 : Ex (mns H6 (Oc6 ++ (T ++ (D :: ps)))) (mns H7 (Oc6 ++ (T ++ (D :: (ps ++ [q]))))) → True := fun _ => trivial
                  have nOD : D ∉ Oc6 := fun z => nd_ne c6.nd z (List.mem_append_right _ List.mem_cons_self)
                  have nTD : D ∉ T := fun z => nd_ne (nd_r c6.nd) z List.mem_cons_self
                  have npD : D ∉ ps := (List.nodup_cons.mp (nd_r (nd_r c6.nd))).1
                  -- the lists so far, seen past the new one
                  have rl6 : RL K (mns H6 (Oc6 ++ ((T ++ (D :: ps)) ++ [q]))) H6 acc ps := c4.rl.mv (fr_step p6.gr fun x hx => (List.mem_append.mp hx).elim .inl fun z => .inr (p6.fresh x z)) fun x hx o z => p6.gr.keep x o (nd_ne' c4.nd (List.mem_append_right _ (List.mem_cons_of_mem _ hx))) z
                  refine ⟨ps.map V.ref, c6.at', by rw [List.length_map, c6.rl.len]; exact lim_lt hl, rfl, hlt, μ6, Oc6, _, ps ++ [q], acc ++ [es], ⟨⟨fun x o hx e => ?_, c6.gr.new, fun x hx => c6.gr.dom x (upd_dom hx), c6.gr.pre⟩, nd7, p6.cells.mv ex7 fun x hx o z => upd_at (fun e => nOD (by rw [← e]; exact hx)) z, fun x hx => (c6.live x hx).upd, ?_, ?_, fun x hx => ?_⟩, go2⟩
                  · exact upd_at (fun z => by rw [z, hD] at e; cases e) (c6.gr.keep x o hx e)
                  · show L2.upd H6 D _ D = _
                    rw [upd_same, List.map_append]
                    rfl
                  · exact RL.app (rl6.mv ex7 fun x hx o z => upd_at (fun e => npD (by rw [← e]; exact hx)) z) (.cons (upd_at hqD q1) (ex_dps ex7 q2) .nil)
                  · rcases List.mem_cons.mp hx with z | z
                    · rw [z]; exact hD
                    · rcases List.mem_append.mp z with z | z
                      · exact c6.fresh x (List.mem_cons_of_mem _ z)
                      · have e : x = q := by simpa using z
                        rw [e]
                        exact c4.gr.dom q hq4
            · rw [if_neg hl] at go2; exact go2.elim
          · exact go2.elim
    · have e : i = dss.length := by omega
      subst e
      rw [List.drop_length] at go2
      unfold compLF at go2
      refine .inl ⟨wk.stop H2 _ eW (eF.trans (mns_ex _ _)) (Nat.le_refl _), ?_⟩
      refine go2 (.ref D) H2 μ2 Oc2 (D :: ps) ⟨p.gr.trans c2.gr, fun q hq => p.gr.dom q (c2.fresh q hq), c2.nd, c2.cells, sl2, one_val (.ob (.lst2 c2.at' c2.rl)), c2.live⟩
end
section
variable {X : Cx} {Γ : Nat → Addr} {E : XK}
theorem s_setHc {i : Nat} {y : Str} {py : Pos} {m : Bool} {elt tg iter : Expr} {scope : Scope} {own : List (Str × Nat)} {pos spos : Pos} {it : IG} {js : List Nat} {fe : EF} (hc : X.calm = true) (hN : X.N.Nodup) (hy : X.N[i]? = some y) (hyl : X.env.scope.names.lookup y = some .local)
    (hsw : swapsWith (.ListComp elt [⟨tg, iter, [], 0⟩] scope pos) (some (.Name y py)) spos.line X.env = pure true) (hi : PI X tg iter (tI X.K Γ E m it)) (ok : BlkOk X.N X.env.scope scope own)
    (hg : ∀ (s : Shared) (H : Hp) (C : Addr) (cl : List (Str × Addr)) (fp : List Addr), PG (X.blk s H scope (compEnvC scope cl C X.env) fp) tg (tgt X.K m js))
    (he : ∀ (s : Shared) (H : Hp) (C : Addr) (cl : List (Str × Addr)) (fp : List Addr), PE (X.blk s H scope (compEnvC scope cl C X.env) fp) elt (tE X.K Γ E0 fe)) (hj : ∀ j ∈ js, j ∈ own.map (·.2)) (hs : ∀ x, foldedSetIterable iter X.env x = pure x := by intro _; rfl) :
    PS X (.Assign [.Name y py] (.ListComp elt [⟨tg, iter, [], 0⟩] scope pos) spos) (tS X.K Γ E (fSetH i (fCompL it js (own.map (·.2)) fe))) :=
  ps_imp (ps_setLc hc hN hy hyl hsw hi ok hg (fun _ _ _ _ _ => ts_nil) he hs) fun _ _ _ q => tE_compL hj (tS_setH q)
theorem e_bor {e : Expr} {f : EF} (i : Nat) (h : PE X e (tE X.K Γ E f)) : PE X e (tE X.K Γ E (fBor i f)) := pe_imp h fun _ _ _ => tE_bor
end
end Mi
/-! Mini: ==, len, str, isinstance of instances. -/
namespace Mi
open PySem L2 PySem.Spec PyProof.Rows
section
variable {K : PySem.W.Frag} {Γ : Nat → Addr} {E : XK} {F G G' W H : Hp} {μ Oc T P : List Addr}
theorem call_sp {σ : L2.St} {env : En} {n : Nat} {FN : FF} {as : List A} {h1 : Hh} {vs : List V} {H1 : Hp} {μ1 Oc1 P1 : List Addr} {Q : VK} (hl : as.length = n) (p : PsA K σ μ Oc T env H as h1 vs H1 μ1 Oc1 P1) (go : GoE K Γ E (aft (as.any isSn) (FN (as.map argA) h1)) σ H μ Oc T env Q) : spF K Γ n FN vs H1 Q E := by
  unfold aft at go
  refine ⟨by rw [ras_len p.val]; exact hl, ?_⟩
  have nOT : ∀ q ∈ T, q ∉ Oc1 := fun q hq => nd_ne' p.nd (List.mem_append_left _ hq)
  have nT : T.Nodup := nd_l (nd_r p.nd)
  -- behind the call, whatever was owned around
  have fin : ∀ a h2, isSn a = false → (∀ v H' μ' Oc' P, PsA K σ μ Oc T env H [a] h2 [v] H' μ' Oc' P → Q v H') → ∀ v H' μ' Oc' P, Gr Oc1 H1 μ1 Oc' H' μ' → (∀ q ∈ P, H1 q = none) → (Oc' ++ (T ++ P)).Nodup →
      RC K (mns H' (Oc' ++ (T ++ P))) H' h2 μ' Oc' → RA K (mns H' (Oc' ++ (T ++ P))) (mns H' Oc') H' μ' a v P → Q v H' := fun a h2 hsn go v H' μ' Oc' P g hfr nd rc ra => by
    have e : Ex (mns H1 (Oc1 ++ (T ++ P1))) (mns H' (Oc' ++ (T ++ P))) := fr_step g fun q hq => (List.mem_append.mp hq).elim (fun z => .inl (List.mem_append_left _ z)) fun z => .inr (hfr q z)
    refine go v H' μ' Oc' P ⟨p.gr.trans g, fun q hq => p.gr.dom q (hfr q hq), nd, rc, p.slots.mv e g.pre (ag_step g p.nd fun q hq => List.mem_append_left _ hq) fun _ z => z, one_val ra, fun q hq => ?_⟩
    obtain ⟨o, ho, nf⟩ := p.live q hq
    exact ⟨o, g.keep q o (nOT q hq) ho, nf⟩
  by_cases hw : as.any isSn = true
  · -- something is read off a slot: nothing around is known to be owned
    refine ⟨μ1, Oc1, [], as.map argA, h1, by rw [List.append_nil]; exact nd_l p.nd, p.cells.mv (mns_mono fun q hq => by
      rw [List.append_nil] at hq
      exact List.mem_append_left _ hq) (fun _ _ _ q => q), ras_argW p.nd (fun _ z => z) p.val, fun q z => absurd z List.not_mem_nil, ?_⟩
    have key : ∀ {H' : Hp} {μ' Oc' P : List Addr}, Gr Oc1 H1 μ1 Oc' H' μ' → (∀ q ∈ P, H1 q = none) → (∀ q ∈ T, q ∉ Oc') ∧ (∀ q ∈ T, q ∉ P) ∧ ∀ b ob u, mns H' (Oc' ++ ([] ++ P)) b = some (.frz ob u) → mns H' (Oc' ++ (T ++ P)) b = some (.frz ob u) := fun {H' μ' Oc' P} g hfr => by
      have nTO : ∀ q ∈ T, q ∉ Oc' := fun q hq z => by
        rcases g.new q z with z | z
        · exact nOT q hq z
        · obtain ⟨o, ho, _⟩ := p.live q hq
          rw [ho] at z; cases z
      have nTP : ∀ q ∈ T, q ∉ P := fun q hq z => by
        obtain ⟨o, ho, _⟩ := p.live q hq
        rw [hfr q z] at ho; cases ho
      refine ⟨nTO, nTP, fun b ob u hb => ?_⟩
      obtain ⟨n1, n2⟩ := mns_some.mp hb
      refine mns_some.mpr ⟨fun z => ?_, n2⟩
      rcases List.mem_append.mp z with z | z
      · exact n1 (List.mem_append_left _ z)
      · rcases List.mem_append.mp z with z | z
        · obtain ⟨o, ho, nf⟩ := p.live b z
          rw [g.keep b o (nOT b z) ho] at n2
          cases n2
          exact nf _ _ rfl
        · exact n1 (List.mem_append_right _ (List.mem_append_right _ z))
    cases hF : FN (as.map argA) h1 with
    | er => rw [hF] at go; exact go
    | exc c h2 =>
      rw [hF] at go
      change GoE K Γ E (if as.any isSn then (if h2.all ceLf then .exc c h2 else .er) else .exc c h2) σ H μ Oc T env Q at go
      rw [if_pos hw] at go
      by_cases hr : h2.all ceLf = true
      · rw [if_pos hr] at go
        intro H' μ' Oc' g n r
        obtain ⟨k1, k2, k3⟩ := key (P := []) g (fun _ z => absurd z List.not_mem_nil)
        refine go H' μ' Oc' (p.gr.trans g) ?_ ?_
        · have := nd_add n nT k1 k2
          simpa using this
        · have := lf_rc k3 hr r
          simpa using this
      · rw [if_neg hr] at go; exact go.elim
    | ok a h2 =>
      rw [hF] at go
      change GoE K Γ E (if isSn a then .er else if as.any isSn then (if resOk a && h2.all ceLf then .ok a h2 else .er) else .ok a h2) σ H μ Oc T env Q at go
      rw [if_pos hw] at go
      by_cases hsn : isSn a = true
      · rw [if_pos hsn] at go; exact go.elim
      · rw [if_neg hsn] at go
        by_cases hr : (resOk a && h2.all ceLf) = true
        · rw [if_pos hr] at go
          obtain ⟨r1, r2⟩ : resOk a = true ∧ h2.all ceLf = true := by simpa using hr
          intro v H' μ' Oc' P g hfr nd rc ra
          obtain ⟨nTO, nTP, k⟩ := key g hfr
          refine fin a h2 (by simpa using hsn) go v H' μ' Oc' P g hfr (nd_add (by simpa using nd) nT nTO nTP) (lf_rc k r2 rc) ?_
          cases ra with
          | dat r => exact .dat (lf_dq k r1 r)
          | sn r => exact absurd rfl hsn
          | ob r => exact .ob (lf_ro k r1 r)
          | loc r => cases r1
          | scr r => cases r1
          | dc r => cases r1
          | zz => cases r1
        · rw [if_neg hr] at go; exact go.elim
  · have hw' : as.any isSn = false := by simpa using hw
    refine ⟨μ1, Oc1, T, as.map argA, h1, ?_, p.cells.mv exFG (fun _ _ _ q => q), ras_arg p.nd (fun _ z => z) hw' p.val, p.live, ?_⟩
    · have n := p.nd
      rw [← List.append_assoc] at n
      exact nd_l n
    cases hF : FN (as.map argA) h1 with
    | er => rw [hF] at go; exact go
    | exc c h2 =>
      rw [hF] at go
      change GoE K Γ E (if as.any isSn then (if h2.all ceLf then .exc c h2 else .er) else .exc c h2) σ H μ Oc T env Q at go
      rw [if_neg hw] at go
      exact fun H' μ' Oc' g n r => go H' μ' Oc' (p.gr.trans g) n r
    | ok a h2 =>
      rw [hF] at go
      change GoE K Γ E (if isSn a then .er else if as.any isSn then (if resOk a && h2.all ceLf then .ok a h2 else .er) else .ok a h2) σ H μ Oc T env Q at go
      rw [if_neg hw] at go
      by_cases hsn : isSn a = true
      · rw [if_pos hsn] at go; exact go.elim
      · rw [if_neg hsn] at go
        exact fin a h2 (by simpa using hsn) go
end
end Mi
namespace Mi
open PySem L2 PySem.Spec PyProof.Rows
/-- what the class says of itself -/
structure LnX (K : PySem.W.Frag) (C : Addr) : Prop extends LnC K C where
  ins : C8.InsC K C
  st : PySem.W.kitOne K (.type "str") (.ref C) = some false
  sb : PySem.W.subIn K (.type "str") (.ref C) = some false
/-- the instance among the cells -/
def isIns (a : A) (h : Hh) : Bool := match a with
  | .loc k => match h[k]? with
    | some (.ins _) => true
    | _ => false
  | _ => false
def isStr (a : A) : Bool := match a with
  | .dat (.str _) => true
  | _ => false
section
variable {K : PySem.W.Frag} {Γ : Nat → Addr} {E : XK} {σ : L2.St} {μ Oc B S T P P' : List Addr} {env : En} {H H' F F' W : Hp} {h : Hh} {D' : Ends} {C : Addr}
theorem isIns_ok {a : A} {v : V} (L : LnC K C) (rc : RC K F H h μ Oc) (r : RA K F' W H μ a v P) (hi : isIns a h = true) : ∃ p dx fs, v = .ref p ∧ H p = some (.ins C dx fs) := by
  unfold isIns at hi
  split at hi
  · rename_i k
    split at hi
    · rename_i fs hc
      obtain ⟨p, P', c1, c2, c3⟩ := rc.get hc
      cases r with
      | loc r =>
        rw [r] at c1
        cases c1
        cases c2 with
        | ins hC h1 h2 h3 =>
          have e := L.same hC
          subst e
          exact ⟨_, _, _, rfl, h1⟩
    · cases hi
  · cases hi
theorem isStr_ok {a : A} {v : V} (r : RA K F W H μ a v P) (hi : isStr a = true) : ∃ x, v = .str x := by
  unfold isStr at hi
  split at hi
  · cases r with
    | dat r => cases r; exact ⟨_, rfl⟩
  · cases hi
/-- a == b, a an instance -/
def fEqO (FN : FF) (fa fb : EF) : EF := fun env h => (fa env h).bind fun a h1 => (fb env h1).bind fun b h2 => if isIns a h2 = true ∧ (isIns b h2 = true ∨ isStr b = true) ∧ [a, b].any isSn = false then
    (match FN ([a, b].map argA) h2 with
      | .ok (.dat (.bool r)) h3 => .ok (.dat (.bool r)) h3
      | _ => .er)
  else .er
def rOwnEq (K : PySem.W.Frag) (C : Addr) (Γ : Nat → Addr) (E : XK) (FN : FF) : R2 := fun x y H Q => ∃ a dx fs, x = .ref a ∧ H a = some (.ins C dx fs) ∧ ((∃ b dy gs, y = .ref b ∧ H b = some (.ins C dy gs)) ∨ ∃ z, y = .str z) ∧ spF K Γ 2 FN [x, y] H (fun v H' => ∃ r, v = .bl r ∧ Q v H') E
theorem tE_eqO {FN : FF} {fa fb : EF} {Q : VK} (L : LnC K C) : tE K Γ E (fEqO FN fa fb) σ H Q → tOp (rOwnEq K C Γ E FN) (tE K Γ E fa) (tE K Γ E fb) σ H Q := by
  rintro ⟨μ, Oc, T, env, h, s, go⟩
  refine ⟨μ, Oc, T, env, h, s, ?_⟩
  unfold fEqO at go
  cases hf : fa env h with
  | er => rw [hf] at go; exact go
  | exc c h1 => rw [hf] at go; exact go
  | ok a h1 =>
    rw [hf] at go
    intro v H1 μ1 Oc1 P1 p1
    refine ⟨μ1, Oc1, T ++ P1, env, h1, p1.sim, ?_⟩
    simp only [Res.bind] at go
    cases hg : fb env h1 with
    | er => simp only [hg] at go; exact go.elim
    | exc c h2 => simp only [hg] at go; exact PsX.step p1 go
    | ok b h2 =>
      simp only [hg] at go
      intro w H2 μ2 Oc2 P2 p2
      have pp := p1.app p2
      by_cases hc : isIns a h2 = true ∧ (isIns b h2 = true ∨ isStr b = true) ∧ [a, b].any isSn = false
      · rw [if_pos hc] at go
        obtain ⟨v', w', P3, P4, ev, r1, r2, _⟩ := ras2 pp.val
        cases ev
        obtain ⟨a', dx, fs, rfl, ha⟩ := isIns_ok L pp.cells r1 hc.1
        refine ⟨a', dx, fs, rfl, ha, ?_, ?_⟩
        · rcases hc.2.1 with z | z
          · obtain ⟨b', dy, gs, rfl, hb⟩ := isIns_ok L pp.cells r2 z
            exact .inl ⟨b', dy, gs, rfl, hb⟩
          · exact .inr (isStr_ok r2 z)
        · refine call_sp (by rfl) pp ?_
          show GoE K Γ E (aft ([a, b].any isSn) (FN ([a, b].map argA) h2)) σ H μ Oc T env _
          rw [hc.2.2]
          cases hF : FN ([a, b].map argA) h2 with
          | er => simp only [hF] at go; exact go
          | exc c h3 => simp only [hF] at go; exact go.elim
          | ok c h3 =>
            simp only [hF] at go
            split at go
            · rename_i r h3' e
              cases e
              intro v H' μ' Oc' P q
              exact ⟨r, bool_val q.val, go v H' μ' Oc' P q⟩
            · exact go.elim
      · rw [if_neg hc] at go; exact go.elim
/-- len(x), str(x) of an instance -/
def fLenO (i : Nat) (FN : FF) : EF := fun env h => match insOf i env h with
  | some (k, _) => match FN [.loc k] h with
    | .ok (.dat (.int n)) h1 => if 0 ≤ n ∧ n < 1000000 then .ok (.dat (.int n)) h1 else .er
    | _ => .er
  | none => .er
def fStrO (i : Nat) (FN : FF) : EF := fun env h => match insOf i env h with
  | some (k, _) => match FN [.loc k] h with
    | .ok (.dat (.str x)) h1 => .ok (.dat (.str x)) h1
    | _ => .er
  | none => .er
def rLenO (K : PySem.W.Frag) (C : Addr) (Γ : Nat → Addr) (E : XK) (FN : FF) : List V → Hp → VK → Prop := fun xs H Q => ∃ a dx fs, xs = [.ref a] ∧ H a = some (.ins C dx fs) ∧ spF K Γ 1 FN xs H (fun v H' => ∃ n : Int, v = .int n ∧ 0 ≤ n ∧ n < 1000000 ∧ Q v H') E
def rStrO (K : PySem.W.Frag) (C : Addr) (Γ : Nat → Addr) (E : XK) (FN : FF) : List V → Hp → VK → Prop := fun xs H Q => ∃ a dx fs, xs = [.ref a] ∧ H a = some (.ins C dx fs) ∧ spF K Γ 1 FN xs H (fun v H' => ∃ x : Str, v = .str x ∧ Q v H') E
theorem own_sp {i k : Nat} {fl : List (Str × Fv)} {FN : FF} {Q : VK} (L : LnC K C) (s : Sim K H σ μ Oc T env h) (hi : insOf i env h = some (k, fl)) (go : GoE K Γ E (FN [.loc k] h) σ H μ Oc T env Q) (hns : ∀ a h1, FN [.loc k] h = .ok a h1 → isSn a = false) : ∃ p dx vs, σ[i]? = some (some (.ref p)) ∧ H p = some (.ins C dx vs) ∧ spF K Γ 1 FN [.ref p] H Q E := by
  obtain ⟨p, dx, vs, P, e1, e2, h1, r, _⟩ := s.ins L hi
  refine ⟨p, dx, vs, e1, h1, call_sp (as := [.loc k]) (by rfl) (s.val (.loc e2)) ?_⟩
  show GoE K Γ E (aft false (FN [.loc k] h)) σ H μ Oc T env Q
  cases hF : FN [.loc k] h with
  | er => rw [hF] at go; exact go
  | exc c h3 => rw [hF] at go; exact go
  | ok a h3 =>
    rw [hF] at go
    have := hns a h3 hF
    show GoE K Γ E (if isSn a then .er else if false then _ else .ok a h3) σ H μ Oc T env Q
    rw [if_neg (by rw [this]; decide)]
    exact go
theorem tE_lenO {i : Nat} {FN : FF} {Q : VK} (L : LnC K C) : tE K Γ E (fLenO i FN) σ H Q → tCB (rLenO K C Γ E FN) (tCons (tVar i) tNil) σ H Q := by
  rintro ⟨μ, Oc, T, env, h, s, go⟩
  unfold fLenO at go
  split at go
  · rename_i k fl hi
    cases hF : FN [.loc k] h with
    | er => simp only [hF] at go; exact go.elim
    | exc c h3 => simp only [hF] at go; exact go.elim
    | ok a h3 =>
      simp only [hF] at go
      split at go
      · rename_i n h1 e
        cases e
        by_cases hz : 0 ≤ n ∧ n < 1000000
        · rw [if_pos hz] at go
          obtain ⟨p, dx, vs, e1, e2, sp⟩ := own_sp (FN := FN) (Γ := Γ) (E := E) (Q := fun v H' => ∃ n : Int, v = .int n ∧ 0 ≤ n ∧ n < 1000000 ∧ Q v H') L s hi (by
            rw [hF]
            intro v H' μ' Oc' P q
            obtain ⟨v', ev, rv⟩ := ras1 q.val
            cases ev
            obtain ⟨rfl, _⟩ := dat_int rv
            exact ⟨n, rfl, hz.1, hz.2, go _ H' μ' Oc' P q⟩) (fun a h1 e => by rw [hF] at e; cases e; rfl)
          exact ⟨.ref p, e1, p, dx, vs, rfl, e2, sp⟩
        · rw [if_neg hz] at go; exact go.elim
      · exact go.elim
  · exact go.elim
theorem dat_str {v : V} {x : Str} (r : RA K F W H μ (.dat (.str x)) v P) : v = .str x := by
  cases r with
  | dat r => cases r; rfl
theorem tE_strO {i : Nat} {FN : FF} {Q : VK} (L : LnC K C) : tE K Γ E (fStrO i FN) σ H Q → tCB (rStrO K C Γ E FN) (tCons (tVar i) tNil) σ H Q := by
  rintro ⟨μ, Oc, T, env, h, s, go⟩
  unfold fStrO at go
  split at go
  · rename_i k fl hi
    cases hF : FN [.loc k] h with
    | er => simp only [hF] at go; exact go.elim
    | exc c h3 => simp only [hF] at go; exact go.elim
    | ok a h3 =>
      simp only [hF] at go
      split at go
      · rename_i x h1 e
        cases e
        obtain ⟨p, dx, vs, e1, e2, sp⟩ := own_sp (FN := FN) (Γ := Γ) (E := E) (Q := fun v H' => ∃ x : Str, v = .str x ∧ Q v H') L s hi (by
          rw [hF]
          intro v H' μ' Oc' P q
          obtain ⟨v', ev, rv⟩ := ras1 q.val
          cases ev
          exact ⟨x, dat_str rv, go _ H' μ' Oc' P q⟩) (fun a h1 e => by rw [hF] at e; cases e; rfl)
        exact ⟨.ref p, e1, p, dx, vs, rfl, e2, sp⟩
      · exact go.elim
  · exact go.elim
/-- isinstance(x, C) -/
def fIsLn (i : Nat) : EF := fun env h => match env[i]? with
  | some (some a) => if isIns a h = true then .ok (.dat (.bool true)) h else if isStr a = true then .ok (.dat (.bool false)) h else .er
  | _ => .er
theorem tE_isLn {i : Nat} {Q : VK} (L : LnX K C) : tE K Γ E (fIsLn i) σ H Q → tCB (rIsi K) (tCons (tVar i) (tCons (tC (.ref C)) tNil)) σ H Q := by
  rintro ⟨μ, Oc, T, env, h, s, go⟩
  unfold fIsLn at go
  split at go
  · rename_i a ha
    obtain ⟨Os, o1, o2, o3⟩ := s.slots
    obtain ⟨v, P, e1, e2, e3⟩ := o3.get ha
    by_cases hi : isIns a h = true
    · rw [if_pos hi] at go
      obtain ⟨p, dx, fs, rfl, hp⟩ := isIns_ok L.toLnC s.cells e2 hi
      exact ⟨.ref p, e1, .ref p, .ref C, .ref C, .ref C, true, rfl, .own C, .base (TyOf.ins hp L.ins.cl L.ins.ha L.ins.hn L.ins.htk L.ins.hm), L.ins.me, go _ H μ Oc [] (s.val (.dat (.bl true)))⟩
    · rw [if_neg hi] at go
      by_cases hs : isStr a = true
      · rw [if_pos hs] at go
        obtain ⟨x, rfl⟩ := isStr_ok e2 hs
        exact ⟨.str x, e1, .str x, .ref C, .type "str", .ref C, false, rfl, .own C, .base (.str x), L.st, go _ H μ Oc [] (s.val (.dat (.bl false)))⟩
      · rw [if_neg hs] at go; exact go.elim
  · exact go.elim
end
section
variable {X : Cx} {Γ : Nat → Addr} {E : XK} {CX : CXT} {k : Nat} {f C : Addr} {fd : FuncData} {ps : List Str} {x m : Str} {p p2 p3 apos pos : Pos} {e : Expr} {es : List Expr} {fs : AF} {FN : FF} {n i : Nat}
theorem op_eqO (L : LnX X.K C) (F : FnOk X.prog X.w X.K X.mg X.base CX k f fd ps (spF X.K Γ 2 FN)) (hr : Room k X.A) (hs : PySem.W.findIn X.K (.ref C) "__eq__" = some (some (.ref f))) (hf : PySem.W.isFn X.K (.ref f) = true) (hb : Binds X.K fd ps []) (hx : Passes CX X E) : OpR X (compareOp .Eq) (rOwnEq X.K C Γ E FN) := by
  intro pins s σ H x y v u Q I rx ry hq
  obtain ⟨a, dx, fs, rfl, ha, hy, sp⟩ := hq
  cases (show v = .ref a from rx)
  show wpAny (model X.prog X.w) X.A (richCompare .Eq (.ref a) u) (EP X pins σ Q) X.xe s
  obtain ⟨mA, J, _⟩ := ins_get I.hok ha
  obtain ⟨od, J, _⟩ := J.look
  obtain ⟨m, hF⟩ := I.fr
  have run : wpAny (model X.prog X.w) X.A (call (.ref f) [.ref a, u]) (PySem.W.CmpBack (EP X pins σ Q)) X.xe s := by
    have rf := run_fn (dvs := []) (ds := []) (us := [.ref a, u]) (vs := [.ref a, y]) (Q := fun v H' => ∃ r, v = .bl r ∧ Q v H') F hr hb .nil hx I (.cons rfl (.cons ry .nil)) (by simpa using sp)
    refine wpAny_mono rf (fun w s' hw => ?_) fun _ _ z => z
    obtain ⟨z, H', I', rz, r, ez, q⟩ := hw
    subst ez
    cases rz
    exact ⟨.bl r, H', I', rfl, q⟩
  rcases hy with ⟨b, dy, gs, rfl, hb'⟩ | ⟨z, rfl⟩
  · cases (show u = .ref b from ry)
    obtain ⟨mB, J', _⟩ := ins_get I.hok hb'
    obtain ⟨od', J', _⟩ := J'.look
    exact PySem.W.cmp_K (op := .Eq) (tb := .ref C) hr.units0 hF I.ok.mod.kin J J'.type (by simp [PySem.W.notFirst]) hs hf run
  · obtain ⟨t, rfl⟩ := (show ∃ t, u = Value.str z t from ry)
    refine PySem.W.cmp_K (op := .Eq) (tb := .type "str") hr.units0 hF I.ok.mod.kin J (PySem.W.kitx_str.ty (model X.prog X.w) s.heap I.kIn True.intro) ?_ hs hf run
    unfold PySem.W.notFirst
    rw [L.sb]
    rfl
theorem e_eqO {a b : Expr} {fa fb : EF} (L : LnX X.K C) (F : FnOk X.prog X.w X.K X.mg X.base CX k f fd ps (spF X.K Γ 2 FN)) (hr : Room k X.A) (hs : PySem.W.findIn X.K (.ref C) "__eq__" = some (some (.ref f))) (hf : PySem.W.isFn X.K (.ref f) = true) (hb : Binds X.K fd ps []) (hx : Passes CX X E)
    (h1 : PE X a (tE X.K Γ E fa)) (h2 : PE X b (tE X.K Γ E fb)) : PE X (.Compare a [.Eq] [b] pos) (tE X.K Γ E (fEqO FN fa fb)) := pe_imp (pe_cmpR (op_eqO (E := E) L F hr hs hf hb hx) h1 h2 (nomark _)) fun _ _ _ => tE_eqO L.toLnC
theorem cr_lenO (L : LnC X.K C) (F : FnOk X.prog X.w X.K X.mg X.base CX k f fd ps (spF X.K Γ 1 FN)) (hr : Room (k + 1) X.A) (hs : PySem.W.findIn X.K (.ref C) "__len__" = some (some (.ref f))) (hf : PySem.W.isFn X.K (.ref f) = true) (hb : Binds X.K fd ps []) (hx : Passes CX X E) : CallR X (.builtin "len") (rLenO X.K C Γ E FN) := by
  intro pins s σ H xs us Q I r h
  obtain ⟨a, dx, fs, rfl, ha, sp⟩ := h
  rw [Vals.ref1 r]
  obtain ⟨mA, J, _⟩ := ins_get I.hok ha
  obtain ⟨od, J, _⟩ := J.look
  obtain ⟨m, hF⟩ := I.fr
  refine PySem.W.len_K hF I.ok.mod.kin J hs hf ?_
  have hl : [Value.ref a].length = ps.length := by rw [← F.len _ _ _ _ sp] <;> rfl
  have b := hb s [.ref a] I.kIn (by simpa using hl)
  rw [List.append_nil] at b
  refine wpAny_call (codeAny_mono (F.run X.A.in1 X.stack s H ⟨[.ref a], []⟩ [.ref a] [.ref a] _ E hr.in1 I.env0.in1 b (.cons rfl .nil) sp) fun r s' hq => ?_)
  cases r with
  | error e => exact hx pins σ H s e s' I hq
  | ok fl =>
    cases fl with
    | ret u =>
      obtain ⟨z, H', I', rz, n, ez, h0, h1, q⟩ := I.after hq
      subst ez
      obtain ⟨t, rfl⟩ := (show ∃ t, u = Value.int n t from rz)
      exact ⟨⟨h0, by omega⟩, .int n, H', I'.tok _, ⟨_, rfl⟩, q⟩
    | next => exact False.elim hq
    | brk => exact False.elim hq
    | cont => exact False.elim hq
theorem e_lenO (i : Nat) (L : LnC X.K C) (F : FnOk X.prog X.w X.K X.mg X.base CX k f fd ps (spF X.K Γ 1 FN)) (hr : Room (k + 1) X.A) (hs : PySem.W.findIn X.K (.ref C) "__len__" = some (some (.ref f))) (hf : PySem.W.isFn X.K (.ref f) = true) (hb : Binds X.K fd ps []) (hx : Passes CX X E)
    (hg : Gl X "len") (hm : X.mg "len" = none) (hN : X.N[i]? = some x := by rfl) (hv : Vis X.env.scope x := by first | exact Or.inl rfl | exact Or.inr (Or.inl rfl) | exact Or.inr (Or.inr rfl)) (hd : (x == ("__debug__" : Str)) = false := by decide) (hcd : (x == ("__classdict__" : Str)) = false := by decide)
    (he : starEach [.Name x p2] X.env = (false, eval (.Name x p2) X.env) :: starEach [] X.env := by rfl) (hpl : (backTo pos (starEach [] X.env)).any (·.1) = false := by rfl) :
    PE X (.Call (.Name "len" p) [.Name x p2] [] pos) (tE X.K Γ E (fLenO i FN)) := pe_imp (pe_callB (cr_lenO (E := E) L F hr hs hf hb hx) hg hm boot_len (pa_cons (pe_var hN hv hd hcd) pa_nil he) (by decide) (by decide) he hpl) fun _ _ _ => tE_lenO L
theorem cr_strO (L : LnC X.K C) (F : FnOk X.prog X.w X.K X.mg X.base CX k f fd ps (spF X.K Γ 1 FN)) (hr : Room (k + 2) X.A) (hs : PySem.W.findIn X.K (.ref C) "__str__" = some (some (.ref f))) (hf : PySem.W.isFn X.K (.ref f) = true) (hb : Binds X.K fd ps []) (hx : Passes CX X E) : CallR X (.type "str") (rStrO X.K C Γ E FN) := by
  intro pins s σ H xs us Q I r h
  obtain ⟨a, dx, fs, rfl, ha, sp⟩ := h
  rw [Vals.ref1 r]
  obtain ⟨mA, J, _⟩ := ins_get I.hok ha
  obtain ⟨od, J, _⟩ := J.look
  refine PySem.W.kso_call (Room.units0 (Room.in1 (Room.in1 hr))) I.kIn J hs hf ?_
  have hl : [Value.ref a].length = ps.length := by rw [← F.len _ _ _ _ sp] <;> rfl
  have b := hb s [.ref a] I.kIn (by simpa using hl)
  rw [List.append_nil] at b
  refine wpAny_call (codeAny_mono (F.run X.A.in1.in1 X.stack s H ⟨[.ref a], []⟩ [.ref a] [.ref a] _ E (Room.in1 (Room.in1 hr)) I.env0.in1.in1 b (.cons rfl .nil) sp) fun r s' hq => ?_)
  cases r with
  | error e => exact hx pins σ H s e s' I hq
  | ok fl =>
    cases fl with
    | ret u =>
      obtain ⟨z, H', I', rz, x, ez, q⟩ := I.after hq
      subst ez
      obtain ⟨t, rfl⟩ := (show ∃ t, u = Value.str x t from rz)
      exact ⟨.str x, H', I', ⟨t, rfl⟩, q⟩
    | next => exact False.elim hq
    | brk => exact False.elim hq
    | cont => exact False.elim hq
theorem e_strO (i : Nat) (L : LnC X.K C) (F : FnOk X.prog X.w X.K X.mg X.base CX k f fd ps (spF X.K Γ 1 FN)) (hr : Room (k + 2) X.A) (hs : PySem.W.findIn X.K (.ref C) "__str__" = some (some (.ref f))) (hf : PySem.W.isFn X.K (.ref f) = true) (hb : Binds X.K fd ps []) (hx : Passes CX X E)
    (hg : Gl X "str") (hm : X.mg "str" = none) (hvs : bootBuiltins "str" = some (.type "str")) (hN : X.N[i]? = some x := by rfl) (hv : Vis X.env.scope x := by first | exact Or.inl rfl | exact Or.inr (Or.inl rfl) | exact Or.inr (Or.inr rfl)) (hd : (x == ("__debug__" : Str)) = false := by decide) (hcd : (x == ("__classdict__" : Str)) = false := by decide)
    (he : starEach [.Name x p2] X.env = (false, eval (.Name x p2) X.env) :: starEach [] X.env := by rfl) (hpl : (backTo pos (starEach [] X.env)).any (·.1) = false := by rfl) :
    PE X (.Call (.Name "str" p) [.Name x p2] [] pos) (tE X.K Γ E (fStrO i FN)) := pe_imp (pe_callTy (cr_strO (E := E) L F hr hs hf hb hx) hg hm hvs (pa_cons (pe_var hN hv hd hcd) pa_nil he) (by decide) (by decide) he hpl) fun _ _ _ => tE_strO L
theorem e_isLn (i : Nat) (L : LnX X.K C) {y : Str} (hg : Gl X "isinstance") (hm : X.mg "isinstance" = none) (hgC : Gl X y) (hmC : X.mg y = some (.ref C)) (hvs : bootBuiltins "isinstance" = some (.builtin "isinstance")) (hN : X.N[i]? = some x := by rfl) (hv : Vis X.env.scope x := by first | exact Or.inl rfl | exact Or.inr (Or.inl rfl) | exact Or.inr (Or.inr rfl)) (hd : (x == ("__debug__" : Str)) = false := by decide) (hcd : (x == ("__classdict__" : Str)) = false := by decide) (hyd : (y == ("__debug__" : Str)) = false := by decide)
    (h1 : starEach [.Name x p2, .Name y p3] X.env = (false, eval (.Name x p2) X.env) :: starEach [.Name y p3] X.env := by rfl) (h2 : starEach [.Name y p3] X.env = (false, eval (.Name y p3) X.env) :: starEach [] X.env := by rfl) (hpl : (backTo pos (starEach [.Name y p3] X.env)).any (·.1) = false := by rfl) :
    PE X (.Call (.Name "isinstance" p) [.Name x p2, .Name y p3] [] pos) (tE X.K Γ E (fIsLn i)) := pe_imp (pe_callB call_isi hg hm hvs (pa_cons (pe_var hN hv hd hcd) (pa_cons (pe_glob (v := .ref C) hgC hmC rfl hyd) pa_nil h2) h1) (by decide) (by decide) h1 hpl) fun _ _ _ => tE_isLn L
/-! lists among the fields, cells: the rules -/
theorem s_appF (i : Nat) {f g : Str} {p4 p5 : Pos} (L : LnC X.K C) (hn : NoAttr X.K C f) (hn2 : NoAttr X.K C g) (hN : X.N[i]? = some x := by rfl) (hv : Vis X.env.scope x := by first | exact Or.inl rfl | exact Or.inr (Or.inl rfl) | exact Or.inr (Or.inr rfl)) (hd : (x == ("__debug__" : Str)) = false := by decide) (hcd : (x == ("__classdict__" : Str)) = false := by decide)
    (hb : attributeBase (.Name x p) f X.env (eval (.Name x p) X.env) = eval (.Name x p) X.env := by rfl) (hb2 : attributeBase (.Name x p3) g X.env (eval (.Name x p3) X.env) = eval (.Name x p3) X.env := by rfl)
    (hbase : attributeBase (.Attribute (.Name x p) f p2) "append" X.env (eval (.Attribute (.Name x p) f p2) X.env) = eval (.Attribute (.Name x p) f p2) X.env := by rfl)
    (hfew : ((backTo p5 (starEach [.Attribute (.Name x p3) g p4] X.env)).all (fun x => !x.1) && (backToKw p5 (keywordEach [] X.env)).all (fun x => x.1.isSome)
      && decide ([Expr.Attribute (.Name x p3) g p4].length + ([] : List Keyword).length + (if ([] : List Keyword).isEmpty then 0 else 1) < 30)) = true := by rfl)
    (hline : (apos.endLine == p5.line) = true := by rfl) (hs : starEach [.Attribute (.Name x p3) g p4] X.env = (false, eval (.Attribute (.Name x p3) g p4) X.env) :: starEach [] X.env := by rfl) (hplain : (backTo p5 (starEach [] X.env)).any (·.1) = false := by rfl)
    (hsw : swapsWith (.Call (.Attribute (.Attribute (.Name x p) f p2) "append" apos) [.Attribute (.Name x p3) g p4] [] p5) none pos.line X.env = pure false := by rfl) :
    PS X (.Expr (.Call (.Attribute (.Attribute (.Name x p) f p2) "append" apos) [.Attribute (.Name x p3) g p4] [] p5) pos) (tS X.K Γ E (fAppF i f g)) :=
  ps_imp (ps_expr (pe_bm PySem.F.plainAttrs_list PySem.F.slot_list_append PySem.F.type_list_append mt_append (pe_fld (pe_var hN hv hd hcd) hb) (pa_cons (pe_fld (pe_var hN hv hd hcd) hb2) pa_nil hs) hbase hfew hline hs hplain) hsw) fun _ _ _ => tS_appF L hn hn2
theorem s_appV (i j : Nat) {f y : Str} {p5 : Pos} (L : LnC X.K C) (hn : NoAttr X.K C f) (hN : X.N[i]? = some x := by rfl) (hv : Vis X.env.scope x := by first | exact Or.inl rfl | exact Or.inr (Or.inl rfl) | exact Or.inr (Or.inr rfl)) (hd : (x == ("__debug__" : Str)) = false := by decide) (hcd : (x == ("__classdict__" : Str)) = false := by decide)
    (hNy : X.N[j]? = some y := by rfl) (hvy : Vis X.env.scope y := by first | exact Or.inl rfl | exact Or.inr (Or.inl rfl) | exact Or.inr (Or.inr rfl)) (hdy : (y == ("__debug__" : Str)) = false := by decide) (hcdy : (y == ("__classdict__" : Str)) = false := by decide)
    (hb : attributeBase (.Name x p) f X.env (eval (.Name x p) X.env) = eval (.Name x p) X.env := by rfl)
    (hbase : attributeBase (.Attribute (.Name x p) f p2) "append" X.env (eval (.Attribute (.Name x p) f p2) X.env) = eval (.Attribute (.Name x p) f p2) X.env := by rfl)
    (hfew : ((backTo p5 (starEach [.Name y p3] X.env)).all (fun x => !x.1) && (backToKw p5 (keywordEach [] X.env)).all (fun x => x.1.isSome)
      && decide ([Expr.Name y p3].length + ([] : List Keyword).length + (if ([] : List Keyword).isEmpty then 0 else 1) < 30)) = true := by rfl)
    (hline : (apos.endLine == p5.line) = true := by rfl) (hs : starEach [.Name y p3] X.env = (false, eval (.Name y p3) X.env) :: starEach [] X.env := by rfl) (hplain : (backTo p5 (starEach [] X.env)).any (·.1) = false := by rfl)
    (hsw : swapsWith (.Call (.Attribute (.Attribute (.Name x p) f p2) "append" apos) [.Name y p3] [] p5) none pos.line X.env = pure false := by rfl) :
    PS X (.Expr (.Call (.Attribute (.Attribute (.Name x p) f p2) "append" apos) [.Name y p3] [] p5) pos) (tS X.K Γ E (fAppV i f j)) :=
  ps_imp (ps_expr (pe_bm PySem.F.plainAttrs_list PySem.F.slot_list_append PySem.F.type_list_append mt_append (pe_fld (pe_var hN hv hd hcd) hb) (pa_cons (pe_var hNy hvy hdy hcdy) pa_nil hs) hbase hfew hline hs hplain) hsw) fun _ _ _ => tS_appV L hn
theorem s_mutIxC (i ja jb : Nat) {y z m : Str} {id : String} {r : V → List V → Hp → VK → Prop} {g : List D → List D → Option (List D)} {p4 p5 : Pos} (hr : MutR X.K r g) (slot : Slot "list" m id) (hty : typeOf (.builtin id) = pure (.type "method_descriptor")) (hm : MtR X id r)
    (hN : X.N[i]? = some x := by rfl) (hv : Vis X.env.scope x := by first | exact Or.inl rfl | exact Or.inr (Or.inl rfl) | exact Or.inr (Or.inr rfl)) (hd : (x == ("__debug__" : Str)) = false := by decide) (hcd : (x == ("__classdict__" : Str)) = false := by decide)
    (hNy : X.N[ja]? = some y := by rfl) (hvy : Vis X.env.scope y := by first | exact Or.inl rfl | exact Or.inr (Or.inl rfl) | exact Or.inr (Or.inr rfl)) (hdy : (y == ("__debug__" : Str)) = false := by decide) (hcdy : (y == ("__classdict__" : Str)) = false := by decide)
    (hNz : X.N[jb]? = some z := by rfl) (hvz : Vis X.env.scope z := by first | exact Or.inl rfl | exact Or.inr (Or.inl rfl) | exact Or.inr (Or.inr rfl)) (hdz : (z == ("__debug__" : Str)) = false := by decide) (hcdz : (z == ("__classdict__" : Str)) = false := by decide)
    (hbase : attributeBase (.Subscript (.Name x p) (.Name y p2) p3) m X.env (eval (.Subscript (.Name x p) (.Name y p2) p3) X.env) = eval (.Subscript (.Name x p) (.Name y p2) p3) X.env := by rfl)
    (hfew : ((backTo p5 (starEach [.Name z p4] X.env)).all (fun x => !x.1) && (backToKw p5 (keywordEach [] X.env)).all (fun x => x.1.isSome)
      && decide ([Expr.Name z p4].length + ([] : List Keyword).length + (if ([] : List Keyword).isEmpty then 0 else 1) < 30)) = true := by rfl)
    (hline : (apos.endLine == p5.line) = true := by rfl) (hs : starEach [.Name z p4] X.env = (false, eval (.Name z p4) X.env) :: starEach [] X.env := by rfl) (hplain : (backTo p5 (starEach [] X.env)).any (·.1) = false := by rfl)
    (hsw : swapsWith (.Call (.Attribute (.Subscript (.Name x p) (.Name y p2) p3) m apos) [.Name z p4] [] p5) none pos.line X.env = pure false := by rfl) :
    PS X (.Expr (.Call (.Attribute (.Subscript (.Name x p) (.Name y p2) p3) m apos) [.Name z p4] [] p5) pos) (tS X.K Γ E (fMutIxC i ja g jb)) :=
  ps_imp (ps_expr (pe_bm PySem.F.plainAttrs_list slot hty hm (pe_ix ix_list (pe_var hN hv hd hcd) (pe_var hNy hvy hdy hcdy) (fun _ _ => rfl)) (pa_cons (pe_var hNz hvz hdz hcdz) pa_nil hs) hbase hfew hline hs hplain) hsw) fun _ _ _ => tS_mutIxC hr
theorem s_setIxN (i ja : Nat) {y : Str} {p4 : Pos} (hN : X.N[i]? = some x := by rfl) (hv : Vis X.env.scope x := by first | exact Or.inl rfl | exact Or.inr (Or.inl rfl) | exact Or.inr (Or.inr rfl)) (hd : (x == ("__debug__" : Str)) = false := by decide) (hcd : (x == ("__classdict__" : Str)) = false := by decide)
    (hNy : X.N[ja]? = some y := by rfl) (hvy : Vis X.env.scope y := by first | exact Or.inl rfl | exact Or.inr (Or.inl rfl) | exact Or.inr (Or.inr rfl)) (hdy : (y == ("__debug__" : Str)) = false := by decide) (hcdy : (y == ("__classdict__" : Str)) = false := by decide)
    (ha : ∀ v, assign (.Subscript (.Name x p) (.Name y p2) p3) X.env v = (do
      let ov ← holding [v] (eval (.Name x p) X.env)
      let iv ← holding [v, ov] (eval (.Name y p2) X.env)
      standAt p3
      holding [v, ov, iv] (setItem ov iv v)
      release [v, ov, iv] []) := by intro _; rfl)
    (hs : swapsWithSole [.Subscript (.Name x p) (.Name y p2) p3] (.List [] p4) pos.line X.env = pure false := by rfl) (hw : swappedStores [.Subscript (.Name x p) (.Name y p2) p3] (.List [] p4) X.env = pure none := by rfl)
    (h1 : (assignEach [.Subscript (.Name x p) (.Name y p2) p3] X.env).map (·.2) = [assign (.Subscript (.Name x p) (.Name y p2) p3) X.env] := by rfl) :
    PS X (.Assign [.Subscript (.Name x p) (.Name y p2) p3] (.List [] p4) pos) (tS X.K Γ E (fSetIxN i ja)) :=
  ps_imp (ps_asg (pe_lst pa_nil) (pg_sub (pe_var hN hv hd hcd) (pe_var hNy hvy hdy hcdy) set_list ha) hs hw h1) fun _ _ _ => tS_setIxN
theorem s_setIxL (i ja : Nat) {y : Str} {ev : Expr} {fe : EF} (he : PE X ev (tE X.K Γ E fe)) (hN : X.N[i]? = some x := by rfl) (hv : Vis X.env.scope x := by first | exact Or.inl rfl | exact Or.inr (Or.inl rfl) | exact Or.inr (Or.inr rfl)) (hd : (x == ("__debug__" : Str)) = false := by decide) (hcd : (x == ("__classdict__" : Str)) = false := by decide)
    (hNy : X.N[ja]? = some y := by rfl) (hvy : Vis X.env.scope y := by first | exact Or.inl rfl | exact Or.inr (Or.inl rfl) | exact Or.inr (Or.inr rfl)) (hdy : (y == ("__debug__" : Str)) = false := by decide) (hcdy : (y == ("__classdict__" : Str)) = false := by decide)
    (ha : ∀ v, assign (.Subscript (.Name x p) (.Name y p2) p3) X.env v = (do
      let ov ← holding [v] (eval (.Name x p) X.env)
      let iv ← holding [v, ov] (eval (.Name y p2) X.env)
      standAt p3
      holding [v, ov, iv] (setItem ov iv v)
      release [v, ov, iv] []) := by intro _; rfl)
    (hs : swapsWithSole [.Subscript (.Name x p) (.Name y p2) p3] ev pos.line X.env = pure false := by rfl) (hw : swappedStores [.Subscript (.Name x p) (.Name y p2) p3] ev X.env = pure none := by rfl)
    (h1 : (assignEach [.Subscript (.Name x p) (.Name y p2) p3] X.env).map (·.2) = [assign (.Subscript (.Name x p) (.Name y p2) p3) X.env] := by rfl) :
    PS X (.Assign [.Subscript (.Name x p) (.Name y p2) p3] ev pos) (tS X.K Γ E (fSetIxL i fe ja)) :=
  ps_imp (ps_asg he (pg_sub (pe_var hN hv hd hcd) (pe_var hNy hvy hdy hcdy) set_list ha) hs hw h1) fun _ _ _ => tS_setIxL
end
end Mi
namespace Mi
open PySem L2
theorem kit_noT {K : PySem.W.Frag} {T : String} {C : Addr} (h2 : PySem.W.subIn K (.type T) (.ref C) = some false) (hc : PySem.W.isClsIn K C = true) (ht : PySem.W.typeIn K (.ref C) = some (.type "type")) : PySem.W.kitOne K (.type T) (.ref C) = some false := by
  have ne : ¬ ((Value.type T == Value.ref C) = true) := fun z => Value.noConfusion (beq_iff_eq.mp z)
  unfold PySem.W.kitOne
  rw [if_neg ne]
  unfold PySem.W.kitCls
  have e1 : (PySem.W.clsIn K C).isSome = true := hc
  simp only [e1, ht, h2]
  rfl
end Mi
/-! Mini: texts. -/
namespace Mi
open PySem L2 PySem.Spec PyProof.Rows
def strsOf : List D → Option (List Str)
  | [] => some []
  | .str x :: r => match strsOf r with
    | some ys => some (x :: ys)
    | none => none
  | _ => none
/-- a.join(x) of a list of texts -/
def gJoin (a : Str) : List A → Hh → Option A
  | [x], _ => match x.lst with
    | some ds => match strsOf ds with
      | some ys => if (ys.map (·.length)).sum + ys.length * a.length ≤ 16777216 then some (.dat (.str (Txt.join a ys))) else none
      | none => none
    | none => none
  | _, _ => none
/-- str(i) -/
def iStr : List D → Option D
  | [.int i] => if i.natAbs.log2 < 1920 then some (.str (toString i)) else none
  | _ => none
section
variable {K : PySem.W.Frag} {Γ : Nat → Addr} {E : XK} {σ : L2.St} {H F : Hp}
theorem strs_dq : ∀ {ds : List D} {ws : List V} {ys : List Str}, DqAll K F ws ds → strsOf ds = some ys → ws = ys.map V.str
  | [], _, _, .nil, e => by cases e; rfl
  | d :: r, _, ys, .cons q t, e => by
    unfold strsOf at e
    split at e
    · rename_i e1
      cases e1
    · rename_i x r' e1
      cases e1
      split at e
      · rename_i zs e2
        cases e
        cases q
        rw [strs_dq t e2]
        rfl
      · cases e
    · cases e
theorem prim_join {a : Str} : Prim K (r1L (fun y H Q => ∃ p, ∃ ys : List Str, y = .ref p ∧ (SqL K H p (ys.map V.str) ∨ SqT K H p (ys.map V.str)) ∧
    (ys.map (·.length)).sum + ys.length * a.length ≤ 16777216 ∧ Q (.str (Txt.join a ys)) H)) (gJoin a) := by
  intro H μ Oc T P h as vs r Q nd rc ra lv hg go
  unfold gJoin at hg
  split at hg
  · obtain ⟨v, rfl, rv⟩ := ras1 ra
    split at hg
    · rename_i ds hl
      split at hg
      · rename_i ys hy
        split at hg
        · rename_i hz
          cases hg
          obtain ⟨p, ws, rfl, e1, e2⟩ := rv.itemsL hl
          have := strs_dq e2 hy
          subst this
          exact ⟨_, rfl, _, ys, rfl, .inl (.of e1), hz, sc_go (fun _ => .str _) go⟩
        · cases hg
      · cases hg
    · cases hg
  · cases hg
theorem sc_str : Sc K (fun xs H Q => ∃ i, xs = [.int i] ∧ i.natAbs.log2 < 1920 ∧ Q (.str (toString i)) H) iStr := by
  intro H vs ds d Q hd hg go
  unfold iStr at hg
  split at hg
  · rename_i i
    split at hg
    · rename_i hz
      cases hg
      obtain ⟨v, rfl, r⟩ := dqs1 hd
      cases r
      exact ⟨i, rfl, hz, go _ fun _ => .str _⟩
    · cases hg
  · cases hg
end
section
variable {X : Cx} {Γ : Nat → Addr} {E : XK}
theorem e_join {x : Str} {j : Nat} {e : Expr} {g : EF} {p apos pos : Pos} (he : PE X e (tE X.K Γ E g)) (hs : starEach [e] X.env = [(false, eval e X.env)] := by rfl) (hbase : attributeBase (.Constant (.str x) j p) "join" X.env (eval (.Constant (.str x) j p) X.env) = eval (.Constant (.str x) j p) X.env := by rfl) (hline : (apos.endLine == pos.line) = true := by rfl) :
    PE X (.Call (.Attribute (.Constant (.str x) j p) "join" apos) [e] [] pos) (tE X.K Γ E (fPrim (gJoin x) (fCons g fNil))) :=
  pe_imp (pe_join pe_str he hs hbase hline) fun _ _ _ q => ⟨⟨x, rfl⟩, tE_mono (fun y H2 ⟨p, ys, e1, e2, e3, e4⟩ => ⟨x, p, ys, rfl, by rw [e1], e2, e3, e4⟩) (tE_un prim_join q)⟩
end
end Mi
/-! the functional bodies of the defs that laws share -/
namespace SL
open PySem L2 Mi
def b_is_any_whole : SF :=
  (fRet (fAndV (fIsi "int" (fVar 0)) (fNotV (fIsi "bool" (fVar 0)))))
def F_is_any_whole : FF := fBody0 1 b_is_any_whole
def b_is_whole : SF :=
  (fRet (fAndV (fCallP F_is_any_whole (fCons (fVar 0) fNil)) (fChain (fVar 1) (fVar 0) (fVar 2))))
def F_is_whole : FF := fBody0 3 b_is_whole
def b_numbers_of : SF :=
  (fRet (fComp (fWalk false (fVar 0)) [1] [1] (fTest (fPrim (gD iNotN) (fCons (fVar 1) (fCons (fC .none) fNil)))) (fVar 1)))
def F_numbers_of : FF := fBody0 2 b_numbers_of
def b_good_row : SF :=
  (fSeq (fIf (fOrT (fNotT (fTest (fIsi "tuple" (fVar 0)))) (fTest (fPrim (gD iGt) (fCons (fPrim gLen (fCons (fVar 0) fNil)) (fCons (fC (.int 24)) fNil))))) (fRet (fC (.bool false))) fNx)
  (fSeq (fIf (fNotT (fTest (fPrim (gD iAll) (fCons (fComp (fWalk false (fVar 0)) [2] [2] tYesF (fOrV (fPrim (gD iIsN) (fCons (fVar 2) (fCons (fC .none) fNil))) (fCallP F_is_any_whole (fCons (fVar 2) fNil)))) fNil)))) (fRet (fC (.bool false))) fNx)
  (fSeq (fSetF 1 (fCallP F_numbers_of (fCons (fVar 0) fNil)))
  (fRet (fPrim (gEqB false) (fCons (fPrim gLenSet (fCons (fVar 1) fNil)) (fCons (fPrim gLen (fCons (fVar 1) fNil)) fNil)))))))
def F_good_row : FF := fBody0 3 b_good_row
def b_is_row : SF :=
  (fRet (fCallP F_good_row (fCons (fVar 0) fNil)))
def F_is_row : FF := fBody0 1 b_is_row
def b_need_row : SF :=
  (fIf (fNotT (fTest (fCallP F_good_row (fCons (fVar 0) fNil)))) (fRaise 0) fNx)
def F_need_row : FF := fBody0 1 b_need_row
def b_need_plain : SF :=
  (fSeq (fDrop (fCallP F_need_row (fCons (fVar 0) fNil)))
  (fIf (fTest (fPrim (gInB false) (fCons (fC .none) (fCons (fVar 0) fNil)))) (fRaise 4) fNx))
def F_need_plain : FF := fBody0 1 b_need_plain
def b_counts_of : SF :=
  (fRet (fComp (fEnumB (fCons (fVar 0) fNil)) [1, 2] [1, 2] tYesF (fPrim gLen (fCons (fComp (fWalk false (fSl (fVar 0) (fC .none) (fVar 1))) [3] [3] (fTest (fPrim (gD iGt) (fCons (fVar 3) (fCons (fVar 2) fNil)))) (fVar 3)) fNil))))
def F_counts_of : FF := fBody0 4 b_counts_of
def b_counts : SF :=
  (fSeq (fDrop (fCallP F_need_row (fCons (fVar 0) fNil)))
  (fRet (fCallP F_counts_of (fCons (fCallP F_numbers_of (fCons (fVar 0) fNil)) fNil))))
def F_counts : FF := fBody0 1 b_counts
def b_stretches_of : SF :=
  (fSeq (fPar [1, 2] [true, true] (fCons (fPrim gLstD fNil) (fCons (fPrim gLstD fNil) fNil)))
  (fSeq (fFor (fWalk false (fVar 0)) [3] (fIf (fTest (fPrim (gD iIsN) (fCons (fVar 3) (fCons (fC .none) fNil)))) (fSeq (fMut 1 mApp (fCons (fPrim gTupOf (fCons (fVar 2) fNil)) fNil))
  (fSetO 2 (fPrim gLstD fNil))) (fMut 2 mApp (fCons (fVar 3) fNil))))
  (fRet (fPrim gAddB (fCons (fVar 1) (fCons (fPrim gLstD (fCons (fPrim gTupOf (fCons (fVar 2) fNil)) fNil)) fNil))))))
def F_stretches_of : FF := fBody0 4 b_stretches_of
def b_stretches : SF :=
  (fSeq (fDrop (fCallP F_need_row (fCons (fVar 0) fNil)))
  (fRet (fCallP F_stretches_of (fCons (fVar 0) fNil))))
def F_stretches : FF := fBody0 1 b_stretches
def b_near_counts : SF :=
  (fSeq (fDrop (fCallP F_need_row (fCons (fVar 0) fNil)))
  (fSeq (fSetO 1 (fPrim gLstD fNil))
  (fSeq (fFor (fWalk false (fCallP F_stretches_of (fCons (fVar 0) fNil))) [2] (fMut 1 mExt (fCons (fCallP F_counts_of (fCons (fPrim gListOf (fCons (fVar 2) fNil)) fNil)) fNil)))
  (fRetV 1))))
def F_near_counts : FF := fBody0 3 b_near_counts
def b_placed : SF :=
  (fSeq (fSetO 2 (fPrim gLstD fNil))
  (fSeq (fFor (fZip (fCons (fVar 0) (fCons (fVar 1) fNil))) [3, 4] (fMut 2 mIns (fCons (fVar 4) (fCons (fVar 3) fNil))))
  (fRet (fPrim gTupOf (fCons (fVar 2) fNil)))))
def F_placed : FF := fBody0 5 b_placed
def b_row_of : SF :=
  (fSeq (fDrop (fCallP F_need_plain (fCons (fVar 0) fNil)))
  (fSeq (fIf (fOrT (fNotT (fTest (fIsi "list" (fVar 1)))) (fTest (fPrim (gEqB true) (fCons (fPrim gLen (fCons (fVar 1) fNil)) (fCons (fPrim gLen (fCons (fVar 0) fNil)) fNil))))) (fRaise 5) fNx)
  (fSeq (fIf (fNotT (fTest (fPrim (gD iAll) (fCons (fComp (fEnumB (fCons (fVar 1) fNil)) [2, 3] [2, 3] tYesF (fCallP F_is_whole (fCons (fVar 3) (fCons (fC (.int 0)) (fCons (fVar 2) fNil))))) fNil)))) (fRaise 5) fNx)
  (fRet (fCallP F_placed (fCons (fPrim gRev (fCons (fPrim gSort (fCons (fVar 0) fNil)) fNil)) (fCons (fVar 1) fNil)))))))
def F_row_of : FF := fBody0 4 b_row_of
def b__law_cell_at : SF :=
  (fSeq (fIf (fTest (fPrim (gD iLt) (fCons (fVar 1) (fCons (fPrim gLen (fCons (fVar 0) fNil)) fNil)))) (fRet (fIx (fVar 0) (fVar 1))) fNx)
  (fSeq (fIf (fTest (fPrim (gEqB false) (fCons (fVar 0) (fCons (fPrim gLstD fNil) fNil)))) (fRet (fC (.int 0))) fNx)
  (fSeq (fSetF 2 (fIx (fVar 0) (f2 iMod (fVar 1) (fPrim gLen (fCons (fVar 0) fNil)))))
  (fSeq (fFor (fRng1 (fCons (fPrim (gD iMin2) (fCons (f2 iDiv (fVar 1) (fPrim gLen (fCons (fVar 0) fNil))) (fCons (fC (.int 60)) fNil))) fNil)) [3] (fSetF 2 (f2 iDiv (fVar 2) (fC (.int 1000003)))))
  (fRet (fPrim gAddB (fCons (fPrim gAddB (fCons (f2 iMul (fIx (fVar 0) (f2 iMod (fVar 1) (fPrim gLen (fCons (fVar 0) fNil)))) (fC (.int 31))) (fCons (fVar 1) fNil))) (fCons (f2 iMul (fVar 2) (fC (.int 101))) fNil))))))))
def F__law_cell_at : FF := fBody0 4 b__law_cell_at
def b__law_mixed : SF :=
  (fSeq (fSetF 3 (f2 iMod (fPrim gAddB (fCons (fPrim gAddB (fCons (f2 iMul (fCall F__law_cell_at (fCons (fVar 0) (fCons (fVar 1) fNil))) (fC (.int 1103515245))) (fCons (f2 iMul (fC (.int 7919)) (fVar 1)) fNil))) (fCons (fC (.int 12345)) fNil))) (fC (.int 2147483647))))
  (fRet (f2 iMod (f2 iMod (f2 iMod (f2 iPow (fVar 3) (fC (.int 5))) (fC (.int 2147483647))) (fC (.int 999983))) (fVar 2))))
def F__law_mixed : FF := fBody0 4 b__law_mixed
def b__law_draw : SF :=
  (fSeq (fMut 1 mApp (fCons (fC (.int 0)) fNil))
  (fRet (fCall F__law_mixed (fCons (fVar 0) (fCons (fPrim gLen (fCons (fVar 1) fNil)) (fCons (fVar 2) fNil))))))
def F__law_draw : FF := fBody0 3 b__law_draw
def b__law_pick : SF :=
  (fRet (fIx (fVar 2) (fCall F__law_draw (fCons (fVar 0) (fCons (fVar 1) (fCons (fPrim gLen (fCons (fVar 2) fNil)) fNil))))))
def F__law_pick : FF := fBody0 3 b__law_pick
def b__law_some_plain : SF :=
  (fSeq (fPar [3, 4, 5] [false, true, false] (fCons (fCall F__law_draw (fCons (fVar 0) (fCons (fVar 1) (fCons (fPrim gAddB (fCons (fVar 2) (fCons (fC (.int 1)) fNil))) fNil)))) (fCons (fPrim gLstD fNil) (fCons (f2 iSub (fCall F__law_draw (fCons (fVar 0) (fCons (fVar 1) (fCons (fC (.int 21)) fNil)))) (fC (.int 10))) fNil))))
  (fSeq (fFor (fRng1 (fCons (fVar 3) fNil)) [6] (fSeq (fSetF 5 (fPrim gAddB (fCons (fPrim gAddB (fCons (fVar 5) (fCons (fC (.int 1)) fNil))) (fCons (fCall F__law_draw (fCons (fVar 0) (fCons (fVar 1) (fCons (fC (.int 3)) fNil)))) fNil))))
  (fSeq (fSetF 7 (fCall F__law_pick (fCons (fVar 0) (fCons (fVar 1) (fCons (fPrim gLstD (fCons (fC (.int 2)) (fCons (fC (.int 4)) (fCons (fC (.int 24)) fNil)))) fNil)))))
  (fMut 4 mIns (fCons (f2 iSub (fPrim gLen (fCons (fVar 4) fNil)) (fCall F__law_draw (fCons (fVar 0) (fCons (fVar 1) (fCons (fPrim (gD iMin2) (fCons (fPrim gAddB (fCons (fPrim gLen (fCons (fVar 4) fNil)) (fCons (fC (.int 1)) fNil))) (fCons (fVar 7) fNil))) fNil))))) (fCons (fVar 5) fNil))))))
  (fRet (fPrim gTupOf (fCons (fVar 4) fNil)))))
def F__law_some_plain : FF := fBody0 8 b__law_some_plain
def b__law_some_row : SF :=
  (fSeq (fSetO 3 (fPrim gListOf (fCons (fCall F__law_some_plain (fCons (fVar 0) (fCons (fVar 1) (fCons (fVar 2) fNil)))) fNil)))
  (fSeq (fFor (fRng1 (fCons (fCall F__law_draw (fCons (fVar 0) (fCons (fVar 1) (fCons (fC (.int 4)) fNil)))) fNil)) [4] (fMut 3 mIns (fCons (fCall F__law_draw (fCons (fVar 0) (fCons (fVar 1) (fCons (fPrim gAddB (fCons (fPrim gLen (fCons (fVar 3) fNil)) (fCons (fC (.int 1)) fNil))) fNil)))) (fCons (fC .none) fNil))))
  (fRet (fPrim gTupOf (fCons (fVar 3) fNil)))))
def F__law_some_row : FF := fBody0 5 b__law_some_row
def b__law_numbers : SF :=
  (fRet (fComp (fWalk false (fVar 0)) [1] [1] (fTest (fPrim (gD iNotN) (fCons (fVar 1) (fCons (fC .none) fNil)))) (fVar 1)))
def F__law_numbers : FF := fBody0 2 b__law_numbers
def b__law_greater : SF :=
  (fSeq (fSetO 1 (fPrim gLstD fNil))
  (fSeq (fFor (fRng1 (fCons (fPrim gLen (fCons (fVar 0) fNil)) fNil)) [2] (fMut 1 mApp (fCons (fPrim (gD iSum) (fCons (fComp (fWalk false (fSl (fVar 0) (fC .none) (fVar 2))) [3] [3] tYesF (fPrim (gD iInt) (fCons (fPrim (gD iGt) (fCons (fVar 3) (fCons (fIx (fVar 0) (fVar 2)) fNil))) fNil))) fNil)) fNil)))
  (fRetV 1)))
def F__law_greater : FF := fBody0 4 b__law_greater
def b__law_lots : SF :=
  (fSeq (fSetO 1 (fPrim gLst2 (fCons (fPrim gLstD fNil) fNil)))
  (fSeq (fFor (fWalk false (fVar 0)) [2] (fIf (fTest (fPrim (gD iIsN) (fCons (fVar 2) (fCons (fC .none) fNil)))) (fApp2 1 (fCons (fPrim gLstD fNil) fNil)) (fAppIx 1 (f1 iNeg (fC (.int 1))) (fCons (fVar 2) fNil))))
  (fFrz 1 (fRetV 1))))
def F__law_lots : FF := fBody0 3 b__law_lots
def b__law_near : SF :=
  (fSeq (fSetO 1 (fPrim gLstD fNil))
  (fSeq (fFor (fWalk false (fCallP F__law_lots (fCons (fVar 0) fNil))) [2] (fMut 1 mExt (fCons (fCallP F__law_greater (fCons (fVar 2) fNil)) fNil)))
  (fRetV 1)))
def F__law_near : FF := fBody0 3 b__law_near
def b_good_shelf : SF :=
  (fSeq (fIf (fOrT (fNotT (fTest (fIsi "tuple" (fVar 0)))) (fOrT (fTest (fPrim (gEqB true) (fCons (fPrim gLen (fCons (fVar 0) fNil)) (fCons (fC (.int 2)) fNil)))) (fNotT (fTest (fIsi "str" (fIx (fVar 0) (fC (.int 0)))))))) (fRet (fC (.bool false))) fNx)
  (fRet (fAndV (fPrim (gInB false) (fCons (fIx (fVar 0) (fC (.int 0))) (fCons (fC (.tuple [.str "light", .str "heavy"])) fNil))) (fCallP F_is_whole (fCons (fIx (fVar 0) (fC (.int 1))) (fCons (fC (.int 0)) (fCons (fC (.int 9)) fNil)))))))
def F_good_shelf : FF := fBody0 1 b_good_shelf
def b_is_shelf : SF :=
  (fRet (fCallP F_good_shelf (fCons (fVar 0) fNil)))
def F_is_shelf : FF := fBody0 1 b_is_shelf
def b_need_shelf : SF :=
  (fIf (fNotT (fTest (fCallP F_good_shelf (fCons (fVar 0) fNil)))) (fRaise 1) fNx)
def F_need_shelf : FF := fBody0 1 b_need_shelf
def b_pick_of : SF :=
  (fRet (fIfE (fTest (fPrim (gEqB false) (fCons (fIx (fVar 0) (fC (.int 0))) (fCons (fC (.str "light")) fNil)))) (fPrim (gD iMin1) (fCons (fVar 1) fNil)) (fPrim (gD iMax1) (fCons (fVar 1) fNil))))
def F_pick_of : FF := fBody0 2 b_pick_of
def b_in_order : SF :=
  (fSeq (fSetO 2 (fPrim gSort (fCons (fVar 1) fNil)))
  (fIf (fTest (fPrim (gEqB false) (fCons (fIx (fVar 0) (fC (.int 0))) (fCons (fC (.str "light")) fNil)))) (fRetV 2) (fRet (fPrim gRev (fCons (fVar 2) fNil)))))
def F_in_order : FF := fBody0 3 b_in_order
def b_stretch_past : SF :=
  (fSeq (fPar [2, 3] [true, true] (fCons (fPrim gLstD fNil) (fCons (fPrim gLstD fNil) fNil)))
  (fSeq (fFor (fWalk false (fVar 0)) [4] (fSeq (fMut 2 mApp (fCons (fVar 4) fNil))
  (fIf (fTest (fPrim (gD iGt) (fCons (fPrim gLen (fCons (fVar 2) fNil)) (fCons (fIx (fVar 1) (fC (.int 1))) fNil)))) (fSeq (fMut 3 mApp (fCons (fCallP F_pick_of (fCons (fVar 1) (fCons (fVar 2) fNil))) fNil))
  (fMut 2 mRem (fCons (fIx (fVar 3) (f1 iNeg (fC (.int 1)))) fNil))) fNx)))
  (fRet (fPrim gAddB (fCons (fVar 3) (fCons (fCallP F_in_order (fCons (fVar 1) (fCons (fVar 2) fNil))) fNil))))))
def F_stretch_past : FF := fBody0 5 b_stretch_past
def b_past_of : SF :=
  (fSeq (fSetO 2 (fPrim gLstD fNil))
  (fSeq (fFor (fWalk false (fCallP F_stretches_of (fCons (fVar 0) fNil))) [3] (fSeq (fMut 2 mExt (fCons (fCallP F_stretch_past (fCons (fVar 3) (fCons (fVar 1) fNil))) fNil))
  (fMut 2 mApp (fCons (fC .none) fNil))))
  (fRet (fPrim gTupOf (fCons (fSl (fVar 2) (fC .none) (f1 iNeg (fC (.int 1)))) fNil)))))
def F_past_of : FF := fBody0 4 b_past_of
def b_past : SF :=
  (fSeq (fDrop (fCallP F_need_row (fCons (fVar 0) fNil)))
  (fSeq (fDrop (fCallP F_need_shelf (fCons (fVar 1) fNil)))
  (fRet (fCallP F_past_of (fCons (fVar 0) (fCons (fVar 1) fNil))))))
def F_past : FF := fBody0 2 b_past
def b__law_some_shelf : SF :=
  (fRet (fPrim gTupD (fCons (fCall F__law_pick (fCons (fVar 0) (fCons (fVar 1) (fCons (fPrim gLstD (fCons (fC (.str "light")) (fCons (fC (.str "light")) (fCons (fC (.str "heavy")) fNil)))) fNil)))) (fCons (fCall F__law_draw (fCons (fVar 0) (fCons (fVar 1) (fCons (fC (.int 5)) fNil)))) fNil))))
def F__law_some_shelf : FF := fBody0 2 b__law_some_shelf
def b__law_lowered : SF :=
  (fSeq (fPar [2, 3] [false, true] (fCons (fCallP F__law_greater (fCons (fVar 0) fNil)) (fCons (fPrim gLstD fNil) fNil)))
  (fSeq (fFor (fWalk false (fPrim gRev (fCons (fPrim gSort (fCons (fVar 0) fNil)) fNil))) [4] (fMut 3 mIns (fCons (fPrim (gD iMax2) (fCons (fC (.int 0)) (fCons (f2 iSub (fIx (fVar 2) (fIndex (fVar 0) (fVar 4))) (fVar 1)) fNil))) (fCons (fVar 4) fNil))))
  (fRetV 3)))
def F__law_lowered : FF := fBody0 5 b__law_lowered
def b__law_behind : SF :=
  (fSeq (fPar [2, 3] [true, false] (fCons (fPrim gLstD fNil) (fCons (fIfE (fTest (fPrim (gEqB false) (fCons (fIx (fVar 1) (fC (.int 0))) (fCons (fC (.str "light")) fNil)))) (fC (.int 1)) (f1 iNeg (fC (.int 1)))) fNil)))
  (fSeq (fFor (fWalk false (fCallP F__law_lots (fCons (fVar 0) fNil))) [4] (fSeq (fMut 2 mExt (fCons (fComp (fWalk false (fCallP F__law_lowered (fCons (fComp (fWalk false (fVar 4)) [5] [5] tYesF (f2 iMul (fVar 3) (fVar 5))) (fCons (fIx (fVar 1) (fC (.int 1))) fNil)))) [5] [5] tYesF (f2 iMul (fVar 3) (fVar 5))) fNil))
  (fMut 2 mApp (fCons (fC .none) fNil))))
  (fRet (fPrim gTupOf (fCons (fSl (fVar 2) (fC .none) (f1 iNeg (fC (.int 1)))) fNil)))))
def F__law_behind : FF := fBody0 6 b__law_behind
def b_good_line : SF :=
  (fRet (fAndV (fIsi "tuple" (fVar 0)) (fAndV (fPrim (gD iLe) (fCons (fPrim gLen (fCons (fVar 0) fNil)) (fCons (fC (.int 8)) fNil))) (fPrim (gD iAll) (fCons (fComp (fWalk false (fVar 0)) [1] [1] tYesF (fCallP F_good_shelf (fCons (fVar 1) fNil))) fNil)))))
def F_good_line : FF := fBody0 2 b_good_line
def b_is_line : SF :=
  (fRet (fCallP F_good_line (fCons (fVar 0) fNil)))
def F_is_line : FF := fBody0 1 b_is_line
def b_need_line : SF :=
  (fIf (fNotT (fTest (fCallP F_good_line (fCons (fVar 0) fNil)))) (fRaise 2) fNx)
def F_need_line : FF := fBody0 1 b_need_line
def b_through : SF :=
  (fSeq (fDrop (fCallP F_need_row (fCons (fVar 0) fNil)))
  (fSeq (fDrop (fCallP F_need_line (fCons (fVar 1) fNil)))
  (fSeq (fFor (fWalk false (fVar 1)) [2] (fSetF 0 (fCallP F_past_of (fCons (fVar 0) (fCons (fVar 2) fNil)))))
  (fRetV 0))))
def F_through : FF := fBody0 3 b_through
def b_merged : SF :=
  (fSeq (fDrop (fCallP F_need_line (fCons (fVar 0) fNil)))
  (fSeq (fSetO 1 (fPrim gLstD fNil))
  (fSeq (fFor (fWalk true (fVar 0)) [2, 3] (fIf (fAndT (fTest (fPrim (gD iGt) (fCons (fVar 3) (fCons (fC (.int 0)) fNil)))) (fAndT (fTest (fPrim (gEqB true) (fCons (fVar 1) (fCons (fPrim gLstD fNil) fNil)))) (fTest (fPrim (gEqB false) (fCons (fIx (fIx (fVar 1) (f1 iNeg (fC (.int 1)))) (fC (.int 0))) (fCons (fVar 2) fNil)))))) (fSetIx 1 (fPrim gTupD (fCons (fVar 2) (fCons (fPrim gAddB (fCons (fIx (fIx (fVar 1) (f1 iNeg (fC (.int 1)))) (fC (.int 1))) (fCons (fVar 3) fNil))) fNil))) (f1 iNeg (fC (.int 1)))) (fIf (fTest (fPrim (gD iGt) (fCons (fVar 3) (fCons (fC (.int 0)) fNil)))) (fMut 1 mApp (fCons (fPrim gTupD (fCons (fVar 2) (fCons (fVar 3) fNil))) fNil)) fNx)))
  (fRet (fPrim gTupOf (fCons (fVar 1) fNil))))))
def F_merged : FF := fBody0 4 b_merged
def b_moved : SF :=
  (fSeq (fDrop (fCallP F_need_row (fCons (fVar 0) fNil)))
  (fSeq (fDrop (fCallP F_need_shelf (fCons (fVar 1) fNil)))
  (fSeq (fSetF 2 (fCallP F_past_of (fCons (fVar 0) (fCons (fVar 1) fNil))))
  (fRet (fComp (fEnumB (fCons (fVar 0) fNil)) [3, 4] [3, 4] (fTest (fPrim (gD iNotN) (fCons (fVar 4) (fCons (fC .none) fNil)))) (f2 iSub (fIndex (fVar 2) (fVar 4)) (fVar 3)))))))
def F_moved : FF := fBody0 5 b_moved
def b__law_far : SF :=
  (fSeq (fSetF 4 (fCallP F__law_lowered (fCons (fVar 0) (fCons (fVar 3) fNil))))
  (fRet (fPrim (gD iLt) (fCons (fIndex (fVar 4) (fVar 1)) (fCons (fIndex (fVar 4) (fVar 2)) fNil)))))
def F__law_far : FF := fBody0 5 b__law_far
def b_need_places : SF :=
  (fIf (fNotT (fTest (fCallP F_is_whole (fCons (fVar 0) (fCons (fVar 1) (fCons (fC (.int 9)) fNil)))))) (fRaise 3) fNx)
def F_need_places : FF := fBody0 2 b_need_places
def b_places_of : SF :=
  (fSeq (fPar [1, 2] [false, false] (fCons (fCallP F_counts_of (fCons (fCallP F_numbers_of (fCons (fVar 0) fNil)) fNil)) (fCons (fC (.int 0)) fNil)))
  (fSeq (fSetO 3 (fPrim gLstD fNil))
  (fSeq (fFor (fWalk false (fCallP F_stretches_of (fCons (fVar 0) fNil))) [4] (fMut 3 mExt (fCons (fCallP F_counts_of (fCons (fPrim gListOf (fCons (fVar 4) fNil)) fNil)) fNil)))
  (fSeq (fIf (fTest (fPrim (gEqB true) (fCons (fVar 1) (fCons (fVar 3) fNil)))) (fRet (fC .none)) fNx)
  (fSeq (fFrz 3 (fFor (fWalk false (fVar 3)) [5] (fSetF 2 (fPrim (gD iMax2) (fCons (fVar 2) (fCons (fVar 5) fNil))))))
  (fRetV 2))))))
def F_places_of : FF := fBody0 6 b_places_of
def b_places : SF :=
  (fSeq (fDrop (fCallP F_need_row (fCons (fVar 0) fNil)))
  (fRet (fCallP F_places_of (fCons (fVar 0) fNil))))
def F_places : FF := fBody0 1 b_places
def b_shelves : SF :=
  (fSeq (fDrop (fCallP F_need_row (fCons (fVar 0) fNil)))
  (fSeq (fDrop (fCallP F_need_places (fCons (fVar 1) (fCons (fC (.int 1)) fNil))))
  (fSeq (fSetF 2 (fCallP F_places_of (fCons (fVar 0) fNil)))
  (fRet (fIfE (fTest (fPrim (gD iIsN) (fCons (fVar 2) (fCons (fC .none) fNil)))) (fC .none) (f2 iDiv (f2 iSub (fPrim gAddB (fCons (fVar 2) (fCons (fVar 1) fNil))) (fC (.int 1))) (fVar 1)))))))
def F_shelves : FF := fBody0 3 b_shelves
def b_sorted_by : SF :=
  (fSeq (fIf (fNotT (fTest (fCallP F_is_whole (fCons (fVar 0) (fCons (fC (.int 0)) (fCons (fC (.int 24)) fNil)))))) (fRaise 7) fNx)
  (fSeq (fDrop (fCallP F_need_places (fCons (fVar 1) (fCons (fC (.int 0)) fNil))))
  (fSeq (fSetF 2 (fC (.int 1)))
  (fSeq (fFor (fRng1 (fCons (fVar 0) fNil)) [3] (fAug 2 augMul (fPrim gAddB (fCons (fPrim (gD iMin2) (fCons (fVar 3) (fCons (fVar 1) fNil))) (fCons (fC (.int 1)) fNil)))))
  (fRetV 2)))))
def F_sorted_by : FF := fBody0 4 b_sorted_by
def b__law_same_number : SF :=
  (fRet (fAndV (fIsi "int" (fVar 0)) (fAndV (fNotV (fIsi "bool" (fVar 0))) (fPrim (gEqB false) (fCons (fVar 0) (fCons (fVar 1) fNil))))))
def F__law_same_number : FF := fBody0 2 b__law_same_number
def b__law_orders : SF :=
  (fSeq (fSetF 1 (fPrim gLstD (fCons (fPrim gTupD fNil) fNil)))
  (fSeq (fFor (fRng1 (fCons (fVar 0) fNil)) [2] (fSeq (fSetO 3 (fPrim gLstD fNil))
  (fSeq (fFor (fWalk false (fVar 1)) [4] (fMut 3 mExt (fCons (fComp (fRng1 (fCons (fPrim gAddB (fCons (fPrim gLen (fCons (fVar 4) fNil)) (fCons (fC (.int 1)) fNil))) fNil)) [5] [5] tYesF (fPrim gAddB (fCons (fPrim gAddB (fCons (fSl (fVar 4) (fC .none) (fVar 5)) (fCons (fPrim gTupD (fCons (fVar 2) fNil)) fNil))) (fCons (fSl (fVar 4) (fVar 5) (fC .none)) fNil)))) fNil)))
  (fMovF 1 3))))
  (fRetV 1)))
def F__law_orders : FF := fBody0 6 b__law_orders
def b_judged : SF :=
  (fSeq (fIf (fOrT (fNotT (fTest (fIsi "tuple" (fVar 2)))) (fTest (fPrim (gEqB true) (fCons (fPrim gLen (fCons (fVar 2) fNil)) (fCons (f2 iMul (fC (.int 2)) (fPrim gLen (fCons (fVar 0) fNil))) fNil))))) (fRet (fC .none)) fNx)
  (fSeq (fPar [3, 4, 5] [true, true, true] (fCons (fPrim gLstD fNil) (fCons (fPrim gLstD fNil) (fCons (fPrim gListOf (fCons (fVar 0) fNil)) fNil))))
  (fSeq (fFor (fWalk false (fVar 2)) [6] (fIf (fAndT (fTest (fIsi "str" (fVar 6))) (fTest (fPrim (gEqB false) (fCons (fVar 6) (fCons (fC (.str "on")) fNil))))) (fSeq (fIf (fOrT (fTest (fPrim (gEqB false) (fCons (fVar 5) (fCons (fPrim gLstD fNil) fNil)))) (fTest (fPrim (gD iGt) (fCons (fPrim gLen (fCons (fVar 3) fNil)) (fCons (fVar 1) fNil))))) (fRet (fC .none)) fNx)
  (fAppPop 3 5 (fC (.int 0)))) (fIf (fAndT (fTest (fCallP F_is_any_whole (fCons (fVar 6) fNil))) (fTest (fPrim (gInB false) (fCons (fVar 6) (fCons (fVar 3) fNil))))) (fSeq (fMut 3 mRem (fCons (fVar 6) fNil))
  (fMut 4 mApp (fCons (fVar 6) fNil))) (fRet (fC .none)))))
  (fRet (fPrim gTupOf (fCons (fVar 4) fNil))))))
def F_judged : FF := fBody0 7 b_judged
def b_need_all : SF :=
  (fSeq (fDrop (fCallP F_need_plain (fCons (fVar 0) fNil)))
  (fDrop (fCallP F_need_places (fCons (fVar 1) (fCons (fC (.int 0)) fNil)))))
def F_need_all : FF := fBody0 2 b_need_all
def b_comes_out : SF :=
  (fSeq (fDrop (fCallP F_need_all (fCons (fVar 0) (fCons (fVar 1) fNil))))
  (fSeq (fSetF 3 (fCallP F_judged (fCons (fVar 0) (fCons (fVar 1) (fCons (fVar 2) fNil)))))
  (fSeq (fIf (fTest (fPrim (gD iIsN) (fCons (fVar 3) (fCons (fC .none) fNil)))) (fRaise 6) fNx)
  (fRetV 3))))
def F_comes_out : FF := fBody0 4 b_comes_out
def b_own_way : SF :=
  (fSeq (fDrop (fCallP F_need_all (fCons (fVar 0) (fCons (fVar 1) fNil))))
  (fSeq (fPar [2, 3] [true, false] (fCons (fPrim gLstD fNil) (fCons (fCallP F_stretch_past (fCons (fVar 0) (fCons (fPrim gTupD (fCons (fC (.str "light")) (fCons (fVar 1) fNil))) fNil))) fNil)))
  (fSeq (fFor (fRng1 (fCons (fPrim gLen (fCons (fVar 0) fNil)) fNil)) [4] (fSeq (fMut 2 mApp (fCons (fC (.str "on")) fNil))
  (fIf (fTest (fPrim (gD iGe) (fCons (fVar 4) (fCons (fVar 1) fNil)))) (fMut 2 mApp (fCons (fIx (fVar 3) (f2 iSub (fVar 4) (fVar 1))) fNil)) fNx)))
  (fRet (fPrim gTupOf (fCons (fPrim gAddB (fCons (fVar 2) (fCons (fSl (fVar 3) (fPrim (gD iMax2) (fCons (fC (.int 0)) (fCons (f2 iSub (fPrim gLen (fCons (fVar 0) fNil)) (fVar 1)) fNil))) (fC .none)) fNil))) fNil))))))
def F_own_way : FF := fBody0 5 b_own_way
def b_gained : SF :=
  (fSeq (fSetF 3 (fCallP F_comes_out (fCons (fVar 0) (fCons (fVar 1) (fCons (fVar 2) fNil)))))
  (fSeq (fSetF 4 (fCallP F_counts_of (fCons (fPrim gListOf (fCons (fVar 3) fNil)) fNil)))
  (fRet (fComp (fZip (fCons (fVar 0) (fCons (fCallP F_counts_of (fCons (fPrim gListOf (fCons (fVar 0) fNil)) fNil)) fNil))) [5, 6] [5, 6] tYesF (f2 iSub (fVar 6) (fIx (fVar 4) (fIndex (fVar 3) (fVar 5))))))))
def F_gained : FF := fBody0 7 b_gained
def b_choices_of : SF :=
  (fSeq (fPar [2, 3] [false, false] (fCons (fPrim gRev (fCons (fPrim gSort (fCons (fVar 0) fNil)) fNil)) (fCons (fCallP F_counts_of (fCons (fPrim gListOf (fCons (fVar 0) fNil)) fNil)) fNil)))
  (fSeq (fSetO 4 (fPrim gLstD fNil))
  (fSeq (fFor (fEnumB (fCons (fVar 2) fNil)) [5, 6] (fSeq (fSetF 7 (fIx (fVar 3) (fIndex (fVar 0) (fVar 6))))
  (fIf (fTest (fPrim (gD iGt) (fCons (fVar 7) (fCons (fC (.int 0)) fNil)))) (fMut 4 mApp (fCons (fIfE (fTest (fPrim (gD iLe) (fCons (fPrim gAddB (fCons (fVar 7) (fCons (fVar 1) fNil))) (fCons (fVar 5) fNil)))) (fPrim gLstD (fCons (fPrim gAddB (fCons (fVar 7) (fCons (fVar 1) fNil))) fNil)) (fPrim gLstD fNil)) fNil)) (fMut 4 mApp (fCons (fPrim gLrg1 (fCons (fPrim gAddB (fCons (fPrim (gD iMin2) (fCons (fVar 5) (fCons (fVar 1) fNil))) (fCons (fC (.int 1)) fNil))) fNil)) fNil)))))
  (fRetV 4))))
def F_choices_of : FF := fBody0 8 b_choices_of
def b_many_of : SF :=
  (fSeq (fSetF 2 (fC (.int 1)))
  (fSeq (fFor (fWalk false (fCallP F_choices_of (fCons (fVar 0) (fCons (fVar 1) fNil)))) [3] (fAug 2 augMul (fPrim gLen (fCons (fVar 3) fNil))))
  (fRetV 2)))
def F_many_of : FF := fBody0 4 b_many_of
def b_how_many : SF :=
  (fSeq (fDrop (fCallP F_need_all (fCons (fVar 0) (fCons (fVar 1) fNil))))
  (fRet (fCallP F_many_of (fCons (fVar 0) (fCons (fVar 1) fNil)))))
def F_how_many : FF := fBody0 2 b_how_many
def b_can_come : SF :=
  (fSeq (fDrop (fCallP F_need_all (fCons (fVar 0) (fCons (fVar 1) fNil))))
  (fRet (fPrim (gD iGt) (fCons (fCallP F_many_of (fCons (fVar 0) (fCons (fVar 1) fNil))) (fCons (fC (.int 0)) fNil)))))
def F_can_come : FF := fBody0 2 b_can_come
def b_ahead : SF :=
  (fSeq (fDrop (fCallP F_need_all (fCons (fVar 0) (fCons (fVar 1) fNil))))
  (fSeq (fIf (fTest (fPrim (gD iGt) (fCons (fCallP F_many_of (fCons (fVar 0) (fCons (fVar 1) fNil))) (fCons (fC (.int 3000)) fNil)))) (fRaise 7) fNx)
  (fSeq (fIf (fTest (fPrim (gEqB false) (fCons (fCallP F_many_of (fCons (fVar 0) (fCons (fVar 1) fNil))) (fCons (fC (.int 0)) fNil)))) (fRet (fPrim gLstD fNil)) fNx)
  (fSeq (fSetF 2 (fPrim gLstD (fCons (fPrim gLstD fNil) fNil)))
  (fSeq (fFor (fWalk false (fCallP F_choices_of (fCons (fVar 0) (fCons (fVar 1) fNil)))) [3] (fSetF 2 (fComp2 (fWalk false (fVar 2)) [4] [4, 5] tYesF (fWalk false (fVar 3)) [5] [5] tYesF (fPrim gAddB (fCons (fVar 4) (fCons (fPrim gLstD (fCons (fVar 5) fNil)) fNil))))))
  (fRet (fPrim gSortT (fCons (fComp (fWalk false (fVar 2)) [4] [4] tYesF (fCallP F_placed (fCons (fPrim gRev (fCons (fPrim gSort (fCons (fVar 0) fNil)) fNil)) (fCons (fVar 4) fNil)))) fNil))))))))
def F_ahead : FF := fBody0 6 b_ahead
def b__law_same_truth : SF :=
  (fRet (fAndV (fIsi "bool" (fVar 0)) (fPrim (gEqB false) (fCons (fVar 0) (fCons (fVar 1) fNil)))))
def F__law_same_truth : FF := fBody0 2 b__law_same_truth
def b_move_of : SF :=
  (fSeq (fSetF 3 (fPrim gAddB (fCons (fSl (fVar 0) (fC .none) (fVar 1)) (fCons (fSl (fVar 0) (fPrim gAddB (fCons (fVar 1) (fCons (fC (.int 1)) fNil))) (fC .none)) fNil))))
  (fRet (fPrim gAddB (fCons (fPrim gAddB (fCons (fSl (fVar 3) (fC .none) (fVar 2)) (fCons (fPrim gTupD (fCons (fIx (fVar 0) (fVar 1)) fNil)) fNil))) (fCons (fSl (fVar 3) (fVar 2) (fC .none)) fNil)))))
def F_move_of : FF := fBody0 4 b_move_of
def b_move : SF :=
  (fSeq (fDrop (fCallP F_need_plain (fCons (fVar 0) fNil)))
  (fSeq (fIf (fOrT (fNotT (fTest (fCallP F_is_whole (fCons (fVar 1) (fCons (fC (.int 0)) (fCons (f2 iSub (fPrim gLen (fCons (fVar 0) fNil)) (fC (.int 1))) fNil)))))) (fNotT (fTest (fCallP F_is_whole (fCons (fVar 2) (fCons (fC (.int 0)) (fCons (f2 iSub (fPrim gLen (fCons (fVar 0) fNil)) (fC (.int 1))) fNil))))))) (fRaise 8) fNx)
  (fRet (fCallP F_move_of (fCons (fVar 0) (fCons (fVar 1) (fCons (fVar 2) fNil)))))))
def F_move : FF := fBody0 3 b_move
def b_mended : SF :=
  (fSeq (fDrop (fCallP F_need_plain (fCons (fVar 0) fNil)))
  (fSeq (fPar [1, 2] [false, false] (fCons (fCallP F_places_of (fCons (fVar 0) fNil)) (fCons (fC .none) fNil)))
  (fSeq (fFor (fRng1 (fCons (fPrim gLen (fCons (fVar 0) fNil)) fNil)) [3] (fFor (fRng1 (fCons (fPrim gLen (fCons (fVar 0) fNil)) fNil)) [4] (fSeq (fSetF 5 (fCallP F_places_of (fCons (fCallP F_move_of (fCons (fVar 0) (fCons (fVar 3) (fCons (fVar 4) fNil)))) fNil)))
  (fIf (fAndT (fTest (fPrim (gD iLt) (fCons (fVar 5) (fCons (fVar 1) fNil)))) (fOrT (fTest (fPrim (gD iIsN) (fCons (fVar 2) (fCons (fC .none) fNil)))) (fTest (fPrim (gD iLt) (fCons (fVar 5) (fCons (fIx (fVar 2) (fC (.int 2))) fNil)))))) (fSetF 2 (fPrim gTupD (fCons (fVar 3) (fCons (fVar 4) (fCons (fVar 5) fNil))))) fNx))))
  (fRetV 2))))
def F_mended : FF := fBody0 6 b_mended
def b_past_with : SF :=
  (fSeq (fDrop (fCallP F_need_plain (fCons (fVar 0) fNil)))
  (fSeq (fIf (fOrT (fNotT (fTest (fIsi "str" (fVar 1)))) (fTest (fPrim (gInB true) (fCons (fVar 1) (fCons (fC (.tuple [.str "light", .str "heavy"])) fNil))))) (fRaise 1) fNx)
  (fSeq (fIf (fOrT (fNotT (fTest (fIsi "tuple" (fVar 2)))) (fTest (fPrim (gEqB true) (fCons (fPrim gLen (fCons (fVar 2) fNil)) (fCons (fPrim gLen (fCons (fVar 0) fNil)) fNil))))) (fRaise 3) fNx)
  (fSeq (fIf (fNotT (fTest (fPrim (gD iAll) (fCons (fComp (fWalk false (fVar 2)) [7] [7] tYesF (fCallP F_is_whole (fCons (fVar 7) (fCons (fC (.int 0)) (fCons (fC (.int 9)) fNil))))) fNil)))) (fRaise 3) fNx)
  (fSeq (fPar [3, 4] [true, true] (fCons (fPrim gLstD fNil) (fCons (fPrim gLstD fNil) fNil)))
  (fSeq (fFor (fZip (fCons (fVar 0) (fCons (fVar 2) fNil))) [5, 6] (fSeq (fMut 3 mApp (fCons (fVar 5) fNil))
  (loopW (fTest (fPrim (gD iGt) (fCons (fPrim gLen (fCons (fVar 3) fNil)) (fCons (fVar 6) fNil)))) (fSeq (fMut 4 mApp (fCons (fCallP F_pick_of (fCons (fPrim gTupD (fCons (fVar 1) (fCons (fVar 6) fNil))) (fCons (fVar 3) fNil))) fNil))
  (fMut 3 mRem (fCons (fIx (fVar 4) (f1 iNeg (fC (.int 1)))) fNil))) 64)))
  (fRet (fPrim gTupOf (fCons (fPrim gAddB (fCons (fVar 4) (fCons (fCallP F_in_order (fCons (fPrim gTupD (fCons (fVar 1) (fCons (fC (.int 0)) fNil))) (fCons (fVar 3) fNil))) fNil))) fNil)))))))))
def F_past_with : FF := fBody0 8 b_past_with
def b_needed : SF :=
  (fSeq (fDrop (fCallP F_need_plain (fCons (fVar 0) fNil)))
  (fSeq (fSetO 1 (fPrim gLstD fNil))
  (fSeq (fFor (fRng2 (fCons (fC (.int 1)) (fCons (fPrim gAddB (fCons (fPrim gLen (fCons (fVar 0) fNil)) (fCons (fC (.int 1)) fNil))) fNil))) [2] (fSeq (fSetF 3 (fSl (fVar 0) (fVar 2) (fC .none)))
  (fMut 1 mApp (fCons (fIfE (fTest (fPrim (gEqB true) (fCons (fVar 3) (fCons (fPrim gTupD fNil) fNil)))) (fPrim gLen (fCons (fComp (fWalk false (fSl (fVar 0) (fC .none) (fVar 2))) [4] [4] (fTest (fPrim (gD iGt) (fCons (fVar 4) (fCons (fPrim (gD iMin1) (fCons (fVar 3) fNil)) fNil)))) (fVar 4)) fNil)) (fC (.int 0))) fNil))))
  (fRetV 1))))
def F_needed : FF := fBody0 5 b_needed
def b__law_some_places : SF :=
  (fSeq (fPar [3, 4] [true, false] (fCons (fPrim gLstD fNil) (fCons (fCall F__law_draw (fCons (fVar 0) (fCons (fVar 1) (fCons (fC (.int 5)) fNil)))) fNil)))
  (fSeq (fFor (fWalk false (fVar 2)) [5] (fSeq (fIf (fTest (fPrim (gEqB false) (fCons (fCall F__law_draw (fCons (fVar 0) (fCons (fVar 1) (fCons (fC (.int 3)) fNil)))) (fCons (fC (.int 0)) fNil)))) (fSetF 4 (fCall F__law_draw (fCons (fVar 0) (fCons (fVar 1) (fCons (fC (.int 6)) fNil))))) fNx)
  (fMut 3 mApp (fCons (fVar 4) fNil))))
  (fRet (fPrim gTupOf (fCons (fVar 3) fNil)))))
def F__law_some_places : FF := fBody0 6 b__law_some_places
def b__law_changed : SF :=
  (fSeq (fPar [2, 3] [true, true] (fCons (fPrim gLstD fNil) (fCons (fPrim gDct fNil) fNil)))
  (fSeq (fFor (fEnumB (fCons (fVar 0) fNil)) [4, 5] (fSeq (fSetF 6 (fComp (fRng1 (fCons (fVar 4) fNil)) [7] [7] tYesF (f2 iSub (fPrim gLen (fCons (fComp (fWalk false (fSl (fVar 0) (fC .none) (fPrim gAddB (fCons (fVar 7) (fCons (fC (.int 1)) fNil))))) [8] [8] (fTest (fPrim (gD iGt) (fCons (fVar 8) (fCons (fVar 5) fNil)))) (fVar 8)) fNil)) (fIx (fVar 1) (fVar 7)))))
  (fSetD 3 (fPrim (gD iMax1) (fCons (fPrim gAddB (fCons (fVar 6) (fCons (fPrim gLstD (fCons (fC (.int 0)) fNil)) fNil))) fNil)) (fVar 5))))
  (fSeq (fFor (fWalk false (fPrim gRev (fCons (fPrim gSort (fCons (fVar 0) fNil)) fNil))) [5] (fMut 2 mIns (fCons (fGetD 3 (fVar 5)) (fCons (fVar 5) fNil))))
  (fRet (fPrim gTupOf (fCons (fVar 2) fNil))))))
def F__law_changed : FF := fBody0 9 b__law_changed
def b_places_of_needs : SF :=
  (fSeq (fPar [1, 2] [false, false] (fCons (fCallP F_counts_of (fCons (fCallP F_numbers_of (fCons (fVar 0) fNil)) fNil)) (fCons (fC (.int 0)) fNil)))
  (fSeq (fSetO 3 (fPrim gLstD fNil))
  (fSeq (fFor (fWalk false (fCallP F_stretches_of (fCons (fVar 0) fNil))) [4] (fMut 3 mExt (fCons (fCallP F_counts_of (fCons (fPrim gListOf (fCons (fVar 4) fNil)) fNil)) fNil)))
  (fSeq (fIf (fTest (fPrim (gEqB true) (fCons (fVar 1) (fCons (fVar 3) fNil)))) (fRet (fC .none)) fNx)
  (fSeq (fFrz 3 (fFor (fWalk false (fVar 3)) [5] (fSetF 2 (fPrim (gD iMax2) (fCons (fVar 2) (fCons (fVar 5) fNil))))))
  (fRetV 2))))))
def F_places_of_needs : FF := fBody0 6 b_places_of_needs
def b_places_of_blocks : SF :=
  (fSeq (fSetO 1 (fPrim gLstD fNil))
  (fSeq (fFor (fRng1 (fCons (fPrim gAddB (fCons (fPrim gLen (fCons (fVar 0) fNil)) (fCons (fC (.int 1)) fNil))) fNil)) [2] (fIf (fOrT (fTest (fPrim (gEqB false) (fCons (fSl (fVar 0) (fC .none) (fVar 2)) (fCons (fPrim gTupD fNil) fNil)))) (fOrT (fTest (fPrim (gEqB false) (fCons (fSl (fVar 0) (fVar 2) (fC .none)) (fCons (fPrim gTupD fNil) fNil)))) (fTest (fPrim (gD iLt) (fCons (fPrim (gD iMax1) (fCons (fSl (fVar 0) (fC .none) (fVar 2)) fNil)) (fCons (fPrim (gD iMin1) (fCons (fSl (fVar 0) (fVar 2) (fC .none)) fNil)) fNil)))))) (fMut 1 mApp (fCons (fVar 2) fNil)) fNx))
  (fRetV 1)))
def F_places_of_blocks : FF := fBody0 3 b_places_of_blocks
def b_may_mark : SF :=
  (fSeq (fDrop (fCallP F_need_plain (fCons (fVar 0) fNil)))
  (fRet (fCallP F_places_of_blocks (fCons (fVar 0) fNil))))
def F_may_mark : FF := fBody0 1 b_may_mark
def b_blocks : SF :=
  (fSeq (fDrop (fCallP F_need_plain (fCons (fVar 0) fNil)))
  (fSeq (fSetF 1 (fCallP F_places_of_blocks (fCons (fVar 0) fNil)))
  (fRet (fComp (fZip (fCons (fVar 1) (fCons (fSl (fVar 1) (fC (.int 1)) (fC .none)) fNil))) [2, 3] [2, 3] tYesF (fSl (fVar 0) (fInt (fVar 2)) (fInt (fVar 3)))))))
def F_blocks : FF := fBody0 4 b_blocks
def b_off : SF :=
  (fSeq (fDrop (fCallP F_need_row (fCons (fVar 0) fNil)))
  (fRet (fPrim (gD iSum) (fCons (fCallP F_counts_of (fCons (fCallP F_numbers_of (fCons (fVar 0) fNil)) fNil)) fNil))))
def F_off : FF := fBody0 1 b_off
def b_opposite : SF :=
  (fSeq (fDrop (fCallP F_need_row (fCons (fVar 0) fNil)))
  (fRet (fPrim gTupOf (fCons (fComp (fWalk false (fVar 0)) [1] [1] tYesF (fIfE (fTest (fPrim (gD iIsN) (fCons (fVar 1) (fCons (fC .none) fNil)))) (fC .none) (f2 iSub (fC (.int 0)) (fVar 1)))) fNil))))
def F_opposite : FF := fBody0 2 b_opposite
def b_need_just : SF :=
  (fSeq (fIf (fNotT (fTest (fCallP F_is_whole (fCons (fVar 0) (fCons (fC (.int 0)) (fCons (fC (.int 24)) fNil)))))) (fRaise 7) fNx)
  (fSeq (fDrop (fCallP F_need_places (fCons (fVar 1) (fCons (fC (.int 0)) fNil))))
  (fSeq (fIf (fTest (fPrim (gEqB false) (fCons (fVar 1) (fCons (fC (.int 0)) fNil)))) (fRet (fCallP F_sorted_by (fCons (fVar 0) (fCons (fC (.int 0)) fNil)))) fNx)
  (fRet (f2 iSub (fCallP F_sorted_by (fCons (fVar 0) (fCons (fVar 1) fNil))) (fCallP F_sorted_by (fCons (fVar 0) (fCons (f2 iSub (fVar 1) (fC (.int 1))) fNil))))))))
def F_need_just : FF := fBody0 2 b_need_just
def b__law_all_rows : SF :=
  (fSeq (fSetF 1 (fPrim gLstD (fCons (fPrim gTupD fNil) fNil)))
  (fSeq (fFor (fRng1 (fCons (fVar 0) fNil)) [2] (fSeq (fSetO 3 (fPrim gLstD fNil))
  (fSeq (fFor (fWalk false (fVar 1)) [4] (fMut 3 mExt (fCons (fComp (fRng1 (fCons (fPrim gAddB (fCons (fPrim gLen (fCons (fVar 4) fNil)) (fCons (fC (.int 1)) fNil))) fNil)) [5] [5] tYesF (fPrim gAddB (fCons (fPrim gAddB (fCons (fSl (fVar 4) (fC .none) (fVar 5)) (fCons (fPrim gTupD (fCons (fVar 2) fNil)) fNil))) (fCons (fSl (fVar 4) (fVar 5) (fC .none)) fNil)))) fNil)))
  (fMovF 1 3))))
  (fRetV 1)))
def F__law_all_rows : FF := fBody0 6 b__law_all_rows
end SL
/-! Mini: evaluating, step by step. -/
namespace Mi
open PySem L2
section
variable {f g : SF} {t : TF} {fe fe2 : EF} {fs : AF} {env env1 env2 : En} {h h1 h2 : Hh} {a a' : A} {as : List A} {i m : Nat} {b : SF} {F : FF}
theorem ev_nx (e : f env h = .nx env1 h1) : fSeq f g env h = g env1 h1 := by unfold fSeq; rw [e]
theorem ev_rt (e : f env h = .rt a h1) : fSeq f g env h = .rt a h1 := by unfold fSeq; rw [e]
theorem ev_t (e : t env h = .ok true h1) : fIf t f g env h = f env h1 := by unfold fIf; rw [e]; rfl
theorem ev_f (e : t env h = .ok false h1) : fIf t f g env h = g env h1 := by unfold fIf; rw [e]; rfl
theorem ev_if {b : Bool} (e : t env h = .ok b h1) : fIf t f g env h = if b then f env h1 else g env h1 := by unfold fIf; rw [e]
theorem ev_set (e : fe env h = .ok a h1) (e2 : frzA a = some a') : fSetF i fe env h = .nx (env.set i (some a')) h1 := by unfold fSetF onE; rw [e]; simp only [onO, e2]
theorem ev_setO (e : fe env h = .ok a h1) (e2 : ownA a = some a') : fSetO i fe env h = .nx (env.set i (some a')) h1 := by unfold fSetO onE; rw [e]; simp only [onO, e2]
theorem ev_drop (e : fe env h = .ok a h1) : fDrop fe env h = .nx env h1 := by unfold fDrop onE; rw [e]
theorem ev_ret (e : fe env h = .ok a h1) (e2 : isSn a = false) : fRet fe env h = .rt a h1 := by
  unfold fRet onE; rw [e]
  cases a <;> first | rfl | cases e2
theorem ev_body (e : b (env0 m as) h = .rt a h1) : fBody0 m b as h = .ok a h1 := by unfold fBody0 fBody; rw [e]; rfl
theorem ev_bodyN (e : b (env0 m as) h = .nx env1 h1) : fBody0 m b as h = .ok (.dat .none) h1 := by unfold fBody0 fBody; rw [e]; rfl
theorem ev_call (e1 : fs env h = .ok as h1) (e3 : F (as.map argA) h1 = .ok a h2) (e2 : as.any isSn = false) (e4 : isSn a = false) : fCall F fs env h = .ok a h2 := by
  unfold fCall; rw [e1]; simp only [Res.bind]; rw [e3]; unfold aft; simp only [e4, e2]; rfl
theorem ev_callS (e1 : fs env h = .ok as h1) (e3 : F (as.map argA) h1 = .ok a h2) (e2 : resOk a = true) (e5 : h2.all ceLf = true) (e4 : isSn a = false) : fCall F fs env h = .ok a h2 := by
  unfold fCall; rw [e1]; simp only [Res.bind]; rw [e3]; unfold aft; simp only [e4, e2, e5]
  cases as.any isSn <;> rfl
theorem ev_callP (e1 : fs env h = .ok as h1) (e3 : F (as.map argP) [] = .ok a []) (e2 : as.any isSn = false) (e4 : isSn a = false) : fCallP F fs env h = .ok a h1 := by
  unfold fCallP; rw [e1]; simp only [Res.bind]; rw [e3]; unfold aftP; simp only [e4, e2]; rfl
theorem ev_callPS (e1 : fs env h = .ok as h1) (e3 : F (as.map argP) [] = .ok a []) (e2 : resOk a = true) (e4 : isSn a = false) : fCallP F fs env h = .ok a h1 := by
  unfold fCallP; rw [e1]; simp only [Res.bind]; rw [e3]; unfold aftP; simp only [e4, e2]
  cases as.any isSn <;> rfl
theorem ev_cons (e1 : fe env h = .ok a h1) (e2 : fs env h1 = .ok as h2) : fCons fe fs env h = .ok (a :: as) h2 := by unfold fCons; rw [e1]; simp only [Res.bind]; rw [e2]
theorem ev_nil : fNil env h = .ok [] h := rfl
theorem ev_prim {gg : List A → Hh → Option A} (e1 : fs env h = .ok as h1) (e2 : gg as h1 = some a) : fPrim gg fs env h = .ok a h1 := by unfold fPrim; rw [e1]; simp only [Res.bind]; rw [e2]; rfl
theorem ev_test {bb : Bool} (e : fe env h = .ok (.dat (.bool bb)) h1) : fTest fe env h = .ok bb h1 := by unfold fTest; rw [e]; rfl
theorem ev_not {bb : Bool} (e : t env h = .ok bb h1) : fNotT t env h = .ok (!bb) h1 := by unfold fNotT; rw [e]; rfl
theorem ev_andV {x y : Bool} (e : fe env h = .ok (.dat (.bool x)) h1) (e2 : x = true → fe2 env h1 = .ok (.dat (.bool y)) h1) : fAndV fe fe2 env h = .ok (.dat (.bool (x && y))) h1 := by
  unfold fAndV; rw [e]
  cases x with
  | false => rfl
  | true => exact e2 rfl |>.trans (by cases y <;> rfl)
theorem ev_orT {t2 : TF} {x y : Bool} (e : t env h = .ok x h1) (e2 : x = false → t2 env h1 = .ok y h1) : fOrT t t2 env h = .ok (x || y) h1 := by
  unfold fOrT; rw [e]
  cases x with
  | true => rfl
  | false => exact e2 rfl |>.trans (by cases y <;> rfl)
theorem ev_for {it : IG} {js : List Nat} {dss : List (List D)} (e : it env h = .ok (dss, true) h1) : fFor it js b env h = loopF js b dss env h1 := by unfold fFor; rw [e]; rfl
theorem ev_loop {js : List Nat} {ds : List D} {r : List (List D)} {envb : En} (e1 : bnd js ds env = some envb) (e2 : b envb h = .nx env2 h2) : loopF js b (ds :: r) env h = loopF js b r env2 h2 := by
  rw [loopF, e1]; simp only; rw [e2]
theorem ev_loop_rt {js : List Nat} {ds : List D} {r : List (List D)} {envb : En} (e1 : bnd js ds env = some envb) (e2 : b envb h = .rt a h2) : loopF js b (ds :: r) env h = .rt a h2 := by
  rw [loopF, e1]; simp only; rw [e2]
theorem ev_frz {c : Cell} (e : env[i]? = some (some (.ob c))) : fFrz i f env h = f (env.set i (some (.dat c.toD))) h := by unfold fFrz; rw [e]
end
end Mi
namespace SL
open PySem L2 Mi
/-! ### the draws -/
theorem spare_ok {x0 x1 : Option A} (h : Hh) : ∀ (l : List (List D)) (s : Int) (x : Option A), (∀ ds ∈ l, ∃ d, ds = [d]) → ∃ s' x', loopF [3] (fSetF 2 (f2 iDiv (fVar 2) (fC (.int 1000003)))) l [x0, x1, some (.dat (.int s)), x] h = .nx [x0, x1, some (.dat (.int s')), x'] h
  | [], s, x, _ => ⟨s, x, rfl⟩
  | ds :: l, s, x, hl => by
    obtain ⟨d, rfl⟩ := hl ds List.mem_cons_self
    obtain ⟨s', x', e⟩ := spare_ok (x0 := x0) (x1 := x1) h l (s / 1000003) (some (.dat d)) fun ds hd => hl ds (List.mem_cons_of_mem _ hd)
    refine ⟨s', x', ?_⟩
    exact (ev_loop (b := fSetF 2 (f2 iDiv (fVar 2) (fC (.int 1000003)))) (env2 := [x0, x1, some (.dat (.int (s / 1000003))), some (.dat d)]) (h2 := h) rfl rfl).trans e
theorem rgs_one (lo : Int) (n : Nat) : ∀ ds ∈ rgs lo n, ∃ d, ds = [d] := fun ds hd => by
  unfold rgs at hd
  obtain ⟨i, _, rfl⟩ := List.mem_map.mp hd
  exact ⟨_, rfl⟩
theorem can_ints : ∀ ns : List Int, PyData.canLayAll0 (ns.map .int) = true
  | [] => by rfl
  | n :: ns => by
    rw [List.map_cons, PyData.canLayAll0, can_ints ns]
    rfl
theorem depth_ints : ∀ ns : List Int, PyData.depthAll (ns.map .int) = 0
  | [] => by rfl
  | n :: ns => by
    rw [List.map_cons, PyData.depthAll, depth_ints ns]
    rfl
theorem shaped_ints (ns : List Int) : SeqAt.shaped (.list (ns.map .int)) = true := by
  unfold SeqAt.shaped
  rw [PyData.canLay0, can_ints, PyData.depth, depth_ints]
  rfl
theorem cell_ok (ns : List Int) (k : Nat) (h : Hh) (hk : k < 1000000) (hn : ns.length < 1000000) : ∃ c, F__law_cell_at [.scr ns, .dat (.int k)] h = .ok (.dat (.int c)) h := by
  have e1 : fTest (fPrim (gD iLt) (fCons (fVar 1) (fCons (fPrim gLen (fCons (fVar 0) fNil)) fNil))) [some (.scr ns), some (.dat (.int k)), none, none] h = .ok (decide ((k : Int) < ns.length)) h := rfl
  by_cases c1 : (k : Int) < ns.length
  · refine ⟨ns[k]'(by omega), ev_body (ev_rt ((ev_t (e1.trans (by rw [decide_eq_true c1]))).trans (ev_ret (h1 := h) ?_ rfl)))⟩
    refine ev_prim (as := [.scr ns, .dat (.int k)]) (h1 := h) rfl ?_
    show (atI ns k).map _ = _
    rw [atI_nat (List.getElem?_eq_getElem (by omega))]
    rfl
  · have e2 : fTest (fPrim (gEqB false) (fCons (fVar 0) (fCons (fPrim gLstD fNil) fNil))) [some (.scr ns), some (.dat (.int k)), none, none] h = .ok (decide (ns = [])) h := by
      refine ev_test (ev_prim (as := [.scr ns, .ob (.lst [])]) (h1 := h) rfl ?_)
      show (if SeqAt.shaped (.list (ns.map .int)) = true ∧ SeqAt.shaped (.list []) = true then _ else _) = _
      rw [if_pos ⟨shaped_ints ns, rfl⟩]
      cases ns <;> rfl
    by_cases c2 : ns = []
    · exact ⟨0, ev_body ((ev_nx (ev_f (e1.trans (by rw [decide_eq_false c1])))).trans (ev_rt ((ev_t (e2.trans (by rw [decide_eq_true c2]))).trans rfl)))⟩
    · have hp : 0 < ns.length := List.length_pos_iff.mpr c2
      have hm : k % ns.length < ns.length := Nat.mod_lt _ hp
      have at_ok : ∀ x2 x3 : Option A, fIx (fVar 0) (f2 iMod (fVar 1) (fPrim gLen (fCons (fVar 0) fNil))) [some (.scr ns), some (.dat (.int k)), x2, x3] h = .ok (.dat (.int ns[k % ns.length])) h := fun x2 x3 => by
        have z : (f2 iMod (fVar 1) (fPrim gLen (fCons (fVar 0) fNil))) [some (.scr ns), some (.dat (.int k)), x2, x3] h = .ok (.dat (.int ((k % ns.length : Nat) : Int))) h := by
          refine ev_prim (as := [.dat (.int k), .dat (.int (ns.length : Nat))]) (h1 := h) rfl ?_
          show ((if (0 : Int) < (ns.length : Nat) then some (.int ((k : Int) % (ns.length : Nat))) else none : Option D)).map A.dat = _
          rw [if_pos (by omega), ← Int.natCast_emod]
          rfl
        refine ev_prim (h1 := h) (ev_cons (a := .scr ns) (h1 := h) rfl (ev_cons z ev_nil)) ?_
        show (atI ns _).map _ = _
        rw [atI_nat (List.getElem?_eq_getElem hm)]
        rfl
      have e4 : fRng1 (fCons (fPrim (gD iMin2) (fCons (f2 iDiv (fVar 1) (fPrim gLen (fCons (fVar 0) fNil))) (fCons (fC (.int 60)) fNil))) fNil) [some (.scr ns), some (.dat (.int k)), some (.dat (.int ns[k % ns.length])), none] h = .ok (rgs 0 (if 60 < ((k : Int) / ns.length) then (60 : Int) else (k : Int) / ns.length).toNat, true) h := by
        have z : (f2 iDiv (fVar 1) (fPrim gLen (fCons (fVar 0) fNil))) [some (.scr ns), some (.dat (.int k)), some (.dat (.int ns[k % ns.length])), none] h = .ok (.dat (.int ((k : Int) / ns.length))) h := by
          refine ev_prim (as := [.dat (.int k), .dat (.int (ns.length : Nat))]) (h1 := h) rfl ?_
          show ((if (0 : Int) < (ns.length : Nat) ∧ ((ns.length : Nat) : Int) < 1073741824 then some (.int ((k : Int) / (ns.length : Nat))) else none : Option D)).map A.dat = _
          rw [if_pos (by omega)]
          rfl
        have z2 := ev_cons (fs := fNil) (ev_prim (gg := gD iMin2) (a := .dat (.int (if 60 < ((k : Int) / ns.length) then (60 : Int) else (k : Int) / ns.length))) (ev_cons z (ev_cons (a := .dat (.int 60)) (h1 := h) (fe := fC (.int 60)) rfl ev_nil)) rfl) ev_nil
        unfold fRng1
        rw [z2]
        have hq : 0 ≤ (k : Int) / ns.length := Int.ediv_nonneg (by omega) (by omega)
        show (if _ then _ else _) = _
        rw [if_pos]
        split <;> omega
      obtain ⟨s', x', e5⟩ := spare_ok (x0 := some (.scr ns)) (x1 := some (.dat (.int k))) h (rgs 0 (if 60 < ((k : Int) / ns.length) then (60 : Int) else (k : Int) / ns.length).toNat) ns[k % ns.length] none (rgs_one _ _)
      refine ⟨ns[k % ns.length] * 31 + k + s' * 101, ev_body ?_⟩
      refine (ev_nx (ev_f (e1.trans (by rw [decide_eq_false c1])))).trans ((ev_nx (ev_f (e2.trans (by rw [decide_eq_false c2])))).trans ((ev_nx (ev_set (at_ok _ _) rfl)).trans ((ev_nx ((ev_for e4).trans e5)).trans (ev_ret ?_ rfl))))
      refine ev_prim (ev_cons (ev_prim (ev_cons (ev_prim (as := [_, _]) (ev_cons (at_ok _ _) (ev_cons (a := .dat (.int 31)) rfl ev_nil)) (a := .dat (.int (ns[k % ns.length] * 31))) ?_) (ev_cons (a := .dat (.int k)) rfl ev_nil)) rfl) (ev_cons (ev_prim (as := [.dat (.int s'), .dat (.int 101)]) rfl (a := .dat (.int (s' * 101))) ?_) ev_nil)) rfl
      · show ((if _ then some (.int (ns[k % ns.length] * 31)) else none : Option D)).map A.dat = _
        rw [if_pos (.inr ⟨by decide, by decide⟩)]
        rfl
      · show ((if _ then some (.int (s' * 101)) else none : Option D)).map A.dat = _
        rw [if_pos (.inr ⟨by decide, by decide⟩)]
        rfl
theorem ev_mul {fa fb : EF} {env : En} {h : Hh} {i j : Int} (ea : fa env h = .ok (.dat (.int i)) h) (eb : fb env h = .ok (.dat (.int j)) h) (hj : (-(2 ^ 64) < i ∧ i < 2 ^ 64) ∨ (-(2 ^ 64) < j ∧ j < 2 ^ 64)) : f2 iMul fa fb env h = .ok (.dat (.int (i * j))) h := by
  refine ev_prim (ev_cons ea (ev_cons eb ev_nil)) ?_
  show ((if _ then some (.int (i * j)) else none : Option D)).map A.dat = _
  rw [if_pos hj]
  rfl
theorem ev_add {fa fb : EF} {env : En} {h : Hh} {i j : Int} (ea : fa env h = .ok (.dat (.int i)) h) (eb : fb env h = .ok (.dat (.int j)) h) : fPrim gAddB (fCons fa (fCons fb fNil)) env h = .ok (.dat (.int (i + j))) h :=
  ev_prim (ev_cons ea (ev_cons eb ev_nil)) rfl
theorem ev_sub {fa fb : EF} {env : En} {h : Hh} {i j : Int} (ea : fa env h = .ok (.dat (.int i)) h) (eb : fb env h = .ok (.dat (.int j)) h) : f2 iSub fa fb env h = .ok (.dat (.int (i - j))) h :=
  ev_prim (ev_cons ea (ev_cons eb ev_nil)) rfl
theorem ev_mod {fa fb : EF} {env : En} {h : Hh} {i j : Int} (ea : fa env h = .ok (.dat (.int i)) h) (eb : fb env h = .ok (.dat (.int j)) h) (hj : 0 < j) : f2 iMod fa fb env h = .ok (.dat (.int (i % j))) h := by
  refine ev_prim (ev_cons ea (ev_cons eb ev_nil)) ?_
  show ((if _ then some (.int (i % j)) else none : Option D)).map A.dat = _
  rw [if_pos hj]
  rfl
theorem ev_pow {fa fb : EF} {env : En} {h : Hh} {i j : Int} (ea : fa env h = .ok (.dat (.int i)) h) (eb : fb env h = .ok (.dat (.int j)) h) (hj : 0 ≤ j ∧ j ≤ 1000000 ∧ i.natAbs < 2 ^ 64) : f2 iPow fa fb env h = .ok (.dat (.int (i ^ j.toNat))) h := by
  refine ev_prim (ev_cons ea (ev_cons eb ev_nil)) ?_
  show ((if _ then some (.int (i ^ j.toNat)) else none : Option D)).map A.dat = _
  rw [if_pos hj]
  rfl
theorem mixed_ok (ns : List Int) (k : Nat) (b : Int) (h : Hh) (hk : k < 1000000) (hn : ns.length < 1000000) (hb : 0 < b) : ∃ v, F__law_mixed [.scr ns, .dat (.int k), .dat (.int b)] h = .ok (.dat (.int v)) h ∧ 0 ≤ v ∧ v < b := by
  obtain ⟨c, ec⟩ := cell_ok ns k h hk hn
  let env : En := [some (.scr ns), some (.dat (.int k)), some (.dat (.int b)), none]
  have e0 : fCall F__law_cell_at (fCons (fVar 0) (fCons (fVar 1) fNil)) env h = .ok (.dat (.int c)) h := ev_call (as := [.scr ns, .dat (.int k)]) rfl ec rfl rfl
  have e1 := ev_mod (ev_add (ev_add (ev_mul e0 (fb := fC (.int 1103515245)) (j := 1103515245) rfl (.inr ⟨by decide, by decide⟩)) (ev_mul (fa := fC (.int 7919)) (fb := fVar 1) (i := 7919) (j := k) (env := env) (h := h) rfl rfl (.inl ⟨by decide, by decide⟩))) (fb := fC (.int 12345)) (j := 12345) rfl) (fb := fC (.int 2147483647)) (j := 2147483647) rfl (by decide)
  let sp : Int := (c * 1103515245 + 7919 * k + 12345) % 2147483647
  have h1 : 0 ≤ sp := Int.emod_nonneg _ (by decide)
  have h2 : sp < 2147483647 := Int.emod_lt_of_pos _ (by decide)
  let env2 : En := [some (.scr ns), some (.dat (.int k)), some (.dat (.int b)), some (.dat (.int sp))]
  have e2 := ev_mod (ev_mod (ev_mod (ev_pow (fa := fVar 3) (fb := fC (.int 5)) (i := sp) (j := 5) (env := env2) (h := h) rfl rfl ⟨by decide, by decide, by omega⟩) (fb := fC (.int 2147483647)) (j := 2147483647) rfl (by decide)) (fb := fC (.int 999983)) (j := 999983) rfl (by decide)) (fb := fVar 2) (j := b) rfl hb
  exact ⟨_, ev_body ((ev_nx (ev_set e1 rfl)).trans (ev_ret e2 rfl)), Int.emod_nonneg _ (by omega), Int.emod_lt_of_pos _ hb⟩
theorem draw_ok (ns : List Int) (ds : List D) (b : Int) (hd : ds.length < 90000) (hn : ns.length < 1000000) (hb : 0 < b) : ∃ v, F__law_draw [.scr ns, .loc 0, .dat (.int b)] [.lst ds] = .ok (.dat (.int v)) [.lst (ds ++ [.int 0])] ∧ 0 ≤ v ∧ v < b := by
  have e0 : fMut 1 mApp (fCons (fC (.int 0)) fNil) [some (.scr ns), some (.loc 0), some (.dat (.int b))] [.lst ds] = .nx [some (.scr ns), some (.loc 0), some (.dat (.int b))] [.lst (ds ++ [.int 0])] := by
    show (onP (if ds.length < LIM then some (ds ++ [PyData.int 0]) else none) fun ds' => SRes.nx _ [.lst ds']) = _
    rw [if_pos (by show ds.length < 100000; omega)]
    rfl
  have hl : (ds ++ [PyData.int 0]).length < 1000000 := by simp; omega
  revert e0 hl
  generalize ds ++ [PyData.int 0] = L
  intro e0 hl
  obtain ⟨v, e, h1, h2⟩ := mixed_ok ns L.length b [.lst L] hl hn hb
  have e1 : fCons (fVar 0) (fCons (fPrim gLen (fCons (fVar 1) fNil)) (fCons (fVar 2) fNil)) [some (.scr ns), some (.loc 0), some (.dat (.int b))] [.lst L] = .ok [.scr ns, .dat (.int (L.length : Nat)), .dat (.int b)] [.lst L] := rfl
  exact ⟨v, ev_body ((ev_nx e0).trans (ev_ret (ev_call e1 e rfl rfl) rfl)), h1, h2⟩
end SL
/-! The plain mathematics of rows and shelves. -/
namespace Ma
open Mi
/-- greater ones in a list -/
def gr (v : Int) (l : List Int) : Nat := l.countP fun y => decide (v < y)
/-- greater ones ahead -/
def ct (v : Int) : List Int → Nat
  | [] => 0
  | x :: l => if x = v then 0 else (if v < x then 1 else 0) + ct v l
theorem gr_nil (v : Int) : gr v [] = 0 := rfl
theorem gr_cons (v x : Int) (l : List Int) : gr v (x :: l) = (if v < x then 1 else 0) + gr v l := by
  unfold gr
  rw [List.countP_cons]
  by_cases h : v < x <;> simp [h, Nat.add_comm]
theorem gr_append (v : Int) (l m : List Int) : gr v (l ++ m) = gr v l + gr v m := List.countP_append
theorem gr_perm {v : Int} {l m : List Int} (p : l.Perm m) : gr v l = gr v m := p.countP_eq _
theorem gr_le (v : Int) (l : List Int) : gr v l ≤ l.length := List.countP_le_length
theorem gr_zero {v : Int} {l : List Int} (h : ∀ y ∈ l, y ≤ v) : gr v l = 0 := by
  unfold gr
  rw [List.countP_eq_zero]
  intro y hy
  have := h y hy
  simp only [decide_eq_true_eq]
  omega
theorem gr_all {v : Int} {l : List Int} (h : ∀ y ∈ l, v < y) : gr v l = l.length := by
  unfold gr
  rw [List.countP_eq_length]
  intro y hy
  simpa using h y hy
theorem ct_mem : ∀ {v : Int} {l m : List Int}, v ∈ l → ct v (l ++ m) = ct v l
  | v, x :: l, m, h => by
    rw [List.cons_append, ct, ct]
    by_cases e : x = v
    · rw [if_pos e, if_pos e]
    · rw [if_neg e, if_neg e, ct_mem ((List.mem_cons.mp h).resolve_left fun z => e z.symm)]
theorem ct_not : ∀ {v : Int} {l m : List Int}, v ∉ l → ct v (l ++ m) = gr v l + ct v m
  | v, [], m, h => by simp [gr_nil]
  | v, x :: l, m, h => by
    have h1 : x ≠ v := fun e => h (e ▸ List.mem_cons_self)
    have h2 : v ∉ l := fun e => h (List.mem_cons_of_mem _ e)
    rw [List.cons_append, ct, if_neg h1, ct_not h2, gr_cons, Nat.add_assoc]
theorem ct_here (v : Int) (l : List Int) : ct v (v :: l) = 0 := by rw [ct, if_pos rfl]
theorem ct_split {v : Int} {l m : List Int} (h : v ∉ l) : ct v (l ++ v :: m) = gr v l := by rw [ct_not h, ct_here]; rfl
theorem ct_le (v : Int) : ∀ l : List Int, ct v l ≤ gr v l
  | [] => Nat.le_refl _
  | x :: l => by
    rw [ct, gr_cons]
    have := ct_le v l
    split
    · exact Nat.zero_le _
    · omega
/-- nothing greater ahead in what rises -/
theorem ct_sorted : ∀ {v : Int} {l : List Int}, l.Pairwise (· ≤ ·) → v ∈ l → ct v l = 0
  | v, x :: l, h, hv => by
    rw [ct]
    by_cases e : x = v
    · rw [if_pos e]
    · have hv' := (List.mem_cons.mp hv).resolve_left fun z => e z.symm
      have := (List.pairwise_cons.mp h).1 v hv'
      rw [if_neg e, if_neg (by omega), ct_sorted (List.pairwise_cons.mp h).2 hv']
/-! ### what goes from a shelf -/
def evs (r : Nat) : Nat → List Int → List Int × List Int
  | 0, s => ([], s)
  | n + 1, s => if r < s.length then (minI s :: (evs r n (s.erase (minI s))).1, (evs r n (s.erase (minI s))).2) else ([], s)
theorem evs_perm (r : Nat) : ∀ (n : Nat) (s : List Int), ((evs r n s).1 ++ (evs r n s).2).Perm s
  | 0, s => List.Perm.refl _
  | n + 1, s => by
    unfold evs
    split
    · rename_i h
      have hm : minI s ∈ s := minI_mem fun e => by rw [e] at h; simp at h
      exact ((evs_perm r n (s.erase (minI s))).cons _).trans (List.perm_cons_erase hm).symm
    · exact List.Perm.refl _
theorem evs_len (r : Nat) : ∀ (n : Nat) (s : List Int), s.length ≤ r + n → (evs r n s).2.length = min s.length r
  | 0, s, h => by show s.length = _; omega
  | n + 1, s, h => by
    unfold evs
    split
    · rename_i hs
      have hm : minI s ∈ s := minI_mem fun e => by rw [e] at hs; simp at hs
      have hl : (s.erase (minI s)).length = s.length - 1 := List.length_erase_of_mem hm
      show (evs r n (s.erase (minI s))).2.length = _
      rw [evs_len r n _ (by omega), hl]
      omega
    · show s.length = _; omega
theorem evs_ord (r : Nat) : ∀ (n : Nat) (s : List Int), ((evs r n s).1).Pairwise (· ≤ ·) ∧ ∀ y ∈ (evs r n s).1, ∀ z ∈ (evs r n s).2, y ≤ z
  | 0, s => ⟨List.Pairwise.nil, fun y hy => absurd hy List.not_mem_nil⟩
  | n + 1, s => by
    unfold evs
    split
    · rename_i hs
      obtain ⟨h1, h2⟩ := evs_ord r n (s.erase (minI s))
      have hp := evs_perm r n (s.erase (minI s))
      have hin : ∀ z, z ∈ (evs r n (s.erase (minI s))).1 ∨ z ∈ (evs r n (s.erase (minI s))).2 → minI s ≤ z := fun z hz =>
        minI_le (List.mem_of_mem_erase (hp.mem_iff.mp (List.mem_append.mpr hz)))
      refine ⟨List.pairwise_cons.mpr ⟨fun z hz => hin z (.inl hz), h1⟩, fun y hy z hz => ?_⟩
      rcases List.mem_cons.mp hy with e | hy
      · rw [e]; exact hin z (.inr hz)
      · exact h2 y hy z hz
    · exact ⟨List.Pairwise.nil, fun y hy => absurd hy List.not_mem_nil⟩
theorem evs_gr (r : Nat) (v : Int) : ∀ (n : Nat) (s : List Int), s.length ≤ r + n → gr v (evs r n s).2 = min (gr v s) r
  | 0, s, h => by
    have := gr_le v s
    show gr v s = _
    omega
  | n + 1, s, h => by
    have hle := gr_le v s
    unfold evs
    split
    · rename_i hs
      have hm : minI s ∈ s := minI_mem fun e => by rw [e] at hs; simp at hs
      have hl : (s.erase (minI s)).length = s.length - 1 := List.length_erase_of_mem hm
      show gr v (evs r n (s.erase (minI s))).2 = _
      rw [evs_gr r v n _ (by omega)]
      have hp := gr_perm (v := v) (List.perm_cons_erase hm)
      rw [gr_cons] at hp
      have hle2 := gr_le v (s.erase (minI s))
      by_cases c : v < minI s
      · rw [if_pos c] at hp
        have : gr v s = s.length := gr_all fun y hy => Int.lt_of_lt_of_le c (minI_le hy)
        omega
      · rw [if_neg c] at hp
        omega
    · show gr v s = _; omega
def run : List Int → List (Int × Nat) → List Int
  | s, [] => srt s
  | s, (x, r) :: l => (evs r (s.length + 1) (s ++ [x])).1 ++ run (evs r (s.length + 1) (s ++ [x])).2 l
theorem run_perm : ∀ (l : List (Int × Nat)) (s : List Int), (run s l).Perm (s ++ l.map Prod.fst)
  | [], s => by simpa [run] using srt_perm s
  | (x, r) :: l, s => by
    rw [run]
    have h1 := evs_perm r (s.length + 1) (s ++ [x])
    have h2 := run_perm l (evs r (s.length + 1) (s ++ [x])).2
    refine (h2.append_left _).trans ?_
    rw [← List.append_assoc]
    refine (h1.append_right _).trans ?_
    simp
theorem run_sn {v : Int} : ∀ (l : List (Int × Nat)) (s : List Int), v ∈ s → ct v (run s l) = 0
  | [], s, hv => ct_sorted (srt_sorted s) ((srt_perm s).mem_iff.mpr hv)
  | (x, r) :: l, s, hv => by
    rw [run]
    have h1 := evs_perm r (s.length + 1) (s ++ [x])
    obtain ⟨h2, h3⟩ := evs_ord r (s.length + 1) (s ++ [x])
    by_cases c : v ∈ (evs r (s.length + 1) (s ++ [x])).1
    · rw [ct_mem c]; exact ct_sorted h2 c
    · have c2 : v ∈ (evs r (s.length + 1) (s ++ [x])).2 := (List.mem_append.mp (h1.mem_iff.mpr (List.mem_append_left _ hv))).resolve_left c
      rw [ct_not c, run_sn l _ c2, gr_zero fun y hy => h3 y hy v c2]
/-- of those greater than v: how many go, as these come, with so many there at first -/
def og (v : Int) : Nat → List (Int × Nat) → Nat
  | _, [] => 0
  | g, (x, r) :: l => ((g + if v < x then 1 else 0) - r) + og v (min (g + if v < x then 1 else 0) r) l
theorem run_ct {v : Int} {r : Nat} : ∀ (l m : List (Int × Nat)) (s : List Int), v ∉ s → v ∉ l.map Prod.fst → ct v (run s (l ++ (v, r) :: m)) = og v (gr v s) l
  | [], m, s, _, _ => by
    rw [List.nil_append, run, og]
    have h1 := evs_perm r (s.length + 1) (s ++ [v])
    obtain ⟨h2, h3⟩ := evs_ord r (s.length + 1) (s ++ [v])
    by_cases c : v ∈ (evs r (s.length + 1) (s ++ [v])).1
    · rw [ct_mem c]; exact ct_sorted h2 c
    · have c2 : v ∈ (evs r (s.length + 1) (s ++ [v])).2 := (List.mem_append.mp (h1.mem_iff.mpr (by simp))).resolve_left c
      rw [ct_not c, run_sn m _ c2, gr_zero fun y hy => h3 y hy v c2]
  | (x, q) :: l, m, s, hs, hl => by
    have hx : v ≠ x := fun e => hl (by simp [e])
    have hl' : v ∉ l.map Prod.fst := fun e => hl (by simp only [List.map_cons, List.mem_cons]; exact .inr e)
    rw [List.cons_append, run, og]
    have h1 := evs_perm q (s.length + 1) (s ++ [x])
    have hn : v ∉ s ++ [x] := by simp [hs, hx]
    have n1 : v ∉ (evs q (s.length + 1) (s ++ [x])).1 := fun e => hn (h1.mem_iff.mp (List.mem_append_left _ e))
    have n2 : v ∉ (evs q (s.length + 1) (s ++ [x])).2 := fun e => hn (h1.mem_iff.mp (List.mem_append_right _ e))
    have hg : gr v (s ++ [x]) = gr v s + if v < x then 1 else 0 := by rw [gr_append, gr_cons, gr_nil, Nat.add_zero]
    rw [ct_not n1, run_ct l m _ n2 hl', evs_gr q v (s.length + 1) (s ++ [x]) (by simp), hg]
    have e := gr_perm (v := v) h1
    rw [gr_append, evs_gr q v (s.length + 1) (s ++ [x]) (by simp), hg] at e
    omega
/-! ### a row is told by its counts -/
def ins (l : List Int) (i : Nat) (v : Int) : List Int := l.take i ++ [v] ++ l.drop i
def build (f : Int → Nat) (fs : List Int) : List Int := fs.foldl (fun l v => ins l (f v) v) []
theorem build_snoc (f : Int → Nat) (fs : List Int) (m : Int) : build f (fs ++ [m]) = ins (build f fs) (f m) m := by
  unfold build; rw [List.foldl_append]; rfl
theorem ins_perm (l : List Int) (i : Nat) (v : Int) : (ins l i v).Perm (l ++ [v]) := by
  unfold ins
  have : (l.take i ++ [v] ++ l.drop i).Perm (l.take i ++ l.drop i ++ [v]) := by
    rw [List.append_assoc, List.append_assoc]
    exact List.perm_append_comm.append_left _
  rw [List.take_append_drop] at this
  exact this
theorem snocInd {α : Type} {P : List α → Prop} (h0 : P []) (h1 : ∀ l a, P l → P (l ++ [a])) (l : List α) : P l := by
  have : ∀ m : List α, P m.reverse := fun m => by
    induction m with
    | nil => exact h0
    | cons a m ih => rw [List.reverse_cons]; exact h1 _ _ ih
  simpa using this l.reverse
theorem build_perm (f : Int → Nat) (fs : List Int) : (build f fs).Perm fs := by
  induction fs using snocInd with
  | h0 => exact List.Perm.refl _
  | h1 l a ih => rw [build_snoc]; exact (ins_perm _ _ _).trans (ih.append_right _)
theorem build_congr {f g : Int → Nat} {fs : List Int} (h : ∀ v ∈ fs, f v = g v) : build f fs = build g fs := by
  induction fs using snocInd with
  | h0 => rfl
  | h1 l a ih =>
    rw [build_snoc, build_snoc, ih fun v hv => h v (List.mem_append_left _ hv), h a (by simp)]
/-- a lesser one changes no count -/
theorem ct_less {v m : Int} (h : m < v) (l l2 : List Int) : ct v (l ++ m :: l2) = ct v (l ++ l2) := by
  induction l with
  | nil => rw [List.nil_append, List.nil_append, ct, if_neg (by omega), if_neg (by omega), Nat.zero_add]
  | cons x l ih => rw [List.cons_append, List.cons_append, ct, ct, ih]
theorem nodup_app {l m : List Int} : (l ++ m).Nodup ↔ l.Nodup ∧ m.Nodup ∧ ∀ x ∈ l, x ∉ m := by
  rw [List.nodup_append]
  constructor
  · rintro ⟨h1, h2, h3⟩
    exact ⟨h1, h2, fun x hx hm => h3 x hx x hm rfl⟩
  · rintro ⟨h1, h2, h3⟩
    exact ⟨h1, h2, fun x hx y hy e => h3 x hx (e ▸ hy)⟩
/-- falling -/
abbrev Fall (fs : List Int) : Prop := fs.Pairwise fun a b => b < a
theorem told : ∀ (fs : List Int), Fall fs → ∀ l : List Int, l.Perm fs → l = build (fun v => ct v l) fs := by
  intro fs
  induction fs using snocInd with
  | h0 => intro _ l p; exact p.eq_nil
  | h1 fs m ih =>
    intro hf l p
    obtain ⟨f1, _, f2⟩ := List.pairwise_append.mp hf
    have f2 : ∀ v ∈ fs, m < v := fun v hv => f2 v hv m (by simp)
    have hm : m ∈ l := p.mem_iff.mpr (by simp)
    obtain ⟨a, b, rfl⟩ := List.append_of_mem hm
    have p2 : (a ++ b).Perm fs := by
      have q1 : (m :: (a ++ b)).Perm (m :: fs) := (List.perm_middle.symm.trans p).trans (List.perm_append_comm.trans (List.Perm.refl _))
      exact q1.cons_inv
    have e := ih f1 (a ++ b) p2
    have nb : m ∉ a := fun h => by have := f2 m (p2.mem_iff.mp (List.mem_append_left _ h)); omega
    have e2 : build (fun v => ct v (a ++ m :: b)) fs = a ++ b := by
      conv => rhs; rw [e]
      exact build_congr fun v hv => ct_less (f2 v hv) a b
    have e3 : ct m (a ++ m :: b) = a.length := by
      rw [ct_split nb]
      exact gr_all fun y hy => f2 y (p2.mem_iff.mp (List.mem_append_left _ hy))
    rw [build_snoc, e2, e3]
    unfold ins
    simp
theorem ct_ins {v m : Int} (h : m < v) (l : List Int) (i : Nat) : ct v (ins l i m) = ct v l := by
  unfold ins
  rw [List.append_assoc]
  show ct v (l.take i ++ m :: l.drop i) = _
  rw [ct_less h, List.take_append_drop]
theorem ct_ins_own {m : Int} {l : List Int} {i : Nat} (h : ∀ v ∈ l, m < v) (hi : i ≤ l.length) : ct m (ins l i m) = i := by
  unfold ins
  rw [List.append_assoc]
  show ct m (l.take i ++ m :: l.drop i) = _
  have hn : ∀ y ∈ l.take i, m < y := fun y hy => h y (List.mem_of_mem_take hy)
  rw [ct_split (fun z => by have := hn m z; omega), gr_all hn, List.length_take]
  omega
theorem build_ct (f : Int → Nat) (fs : List Int) (hf : Fall fs) (hr : ∀ (k : Nat) (v : Int), fs[k]? = some v → f v ≤ k) : ∀ v ∈ fs, ct v (build f fs) = f v := by
  induction fs using snocInd with
  | h0 => intro v hv; cases hv
  | h1 fs m ih =>
    obtain ⟨f1, _, f2⟩ := List.pairwise_append.mp hf
    have f2 : ∀ v ∈ fs, m < v := fun v hv => f2 v hv m (by simp)
    intro v hv
    rw [build_snoc]
    rcases List.mem_append.mp hv with hv | hv
    · rw [ct_ins (f2 v hv)]
      exact ih f1 (fun k v h => hr k v (by rw [List.getElem?_append_left (List.getElem?_eq_some_iff.mp h).1]; exact h)) v hv
    · have e : v = m := by simpa using hv
      subst e
      refine ct_ins_own (fun y hy => f2 y ((build_perm f fs).mem_iff.mp hy)) ?_
      rw [(build_perm f fs).length_eq]
      exact hr _ _ (by simp)
theorem rev_fall {l : List Int} (hn : l.Nodup) : Fall (srt l).reverse := by
  rw [Fall, List.pairwise_reverse]
  have h1 := srt_sorted l
  have h2 : (srt l).Nodup := (srt_perm l).nodup_iff.mpr hn
  exact (h1.and h2).imp fun ⟨a, b⟩ => by omega
theorem rev_perm (l : List Int) : ((srt l).reverse).Perm l := (List.reverse_perm _).trans (srt_perm l)
theorem told_srt {l : List Int} (hn : l.Nodup) {m : List Int} (p : m.Perm l) : m = build (fun v => ct v m) (srt l).reverse :=
  told _ (rev_fall hn) m (p.trans (rev_perm l).symm)
/-- of two rows of the same numbers with the same counts -/
theorem same_of_ct {l m : List Int} (hn : l.Nodup) (p : m.Perm l) (h : ∀ v ∈ l, ct v m = ct v l) : m = l := by
  rw [told_srt hn p, build_congr (g := fun v => ct v l) fun v hv => h v ((rev_perm l).mem_iff.mp hv), ← told_srt hn (List.Perm.refl l)]
end Ma
/-! Shelves, light and heavy; rows with marks. -/
namespace Ma
open Mi
abbrev ng (l : List Int) : List Int := l.map fun x => -x
theorem ng_ng (l : List Int) : ng (ng l) = l := by
  unfold ng
  rw [List.map_map]
  have : ((fun x : Int => -x) ∘ fun x : Int => -x) = id := by funext x; simp
  rw [this, List.map_id]
theorem ng_nodup {l : List Int} (h : l.Nodup) : (ng l).Nodup := by
  unfold ng
  rw [List.nodup_iff_pairwise_ne, List.pairwise_map]
  exact h.imp fun h => by omega
theorem ng_erase (a : Int) : ∀ l : List Int, ng (l.erase a) = (ng l).erase (-a)
  | [] => rfl
  | x :: l => by
    rw [List.erase_cons, show ng (x :: l) = -x :: ng l from rfl, List.erase_cons]
    by_cases h : x = a
    · subst h; simp
    · have h2 : -x ≠ -a := by omega
      simp [h, h2]
      exact ng_erase a l
theorem ng_srt (l : List Int) : srt (ng l) = ng (srt l).reverse := by
  refine (srt_unique (l := ng l) (m := ng (srt l).reverse) ((rev_perm l).map _) ?_).symm
  rw [ng, List.pairwise_map, List.pairwise_reverse]
  exact (srt_sorted l).imp fun h => by omega
theorem ng_min {l : List Int} (h : l ≠ []) : minI (ng l) = -maxI l := by
  refine (minI_unique (List.mem_map.mpr ⟨_, maxI_mem h, rfl⟩) fun y hy => ?_).symm
  obtain ⟨z, hz, rfl⟩ := List.mem_map.mp hy
  have := maxI_ge hz
  omega
def pick (lt : Bool) (s : List Int) : Int := if lt then minI s else maxI s
def ordr (lt : Bool) (s : List Int) : List Int := if lt then srt s else (srt s).reverse
theorem pick_mem {lt : Bool} {s : List Int} (h : s ≠ []) : pick lt s ∈ s := by
  unfold pick; split
  · exact minI_mem h
  · exact maxI_mem h
def evL (lt : Bool) (r : Nat) : Nat → List Int → List Int × List Int
  | 0, s => ([], s)
  | n + 1, s => if r < s.length then (pick lt s :: (evL lt r n (s.erase (pick lt s))).1, (evL lt r n (s.erase (pick lt s))).2) else ([], s)
theorem evL_true (r : Nat) : ∀ n s, evL true r n s = evs r n s
  | 0, s => rfl
  | n + 1, s => by rw [evL, evs, evL_true r n]; rfl
theorem evL_false (r : Nat) : ∀ n s, evL false r n s = (ng (evs r n (ng s)).1, ng (evs r n (ng s)).2)
  | 0, s => by rw [evL, evs]; simp only [ng_ng]; rfl
  | n + 1, s => by
    rw [evL, evs, List.length_map]
    split
    · rename_i h
      have hs : s ≠ [] := fun e => by rw [e] at h; simp at h
      have e : pick false s = maxI s := rfl
      rw [evL_false r n, e, ng_erase, ng_min hs]
      simp
    · simp only [ng_ng]; rfl
def runL (lt : Bool) : List Int → List (Int × Nat) → List Int
  | s, [] => ordr lt s
  | s, (x, r) :: l => (evL lt r (s.length + 1) (s ++ [x])).1 ++ runL lt (evL lt r (s.length + 1) (s ++ [x])).2 l
theorem runL_true : ∀ (l : List (Int × Nat)) (s : List Int), runL true s l = run s l
  | [], s => rfl
  | (x, r) :: l, s => by rw [runL, run, evL_true, runL_true l]
def ngp (l : List (Int × Nat)) : List (Int × Nat) := l.map fun p => (-p.1, p.2)
theorem runL_false : ∀ (l : List (Int × Nat)) (s : List Int), runL false s l = ng (run (ng s) (ngp l))
  | [], s => by
    show (srt s).reverse = ng (srt (ng s))
    rw [ng_srt, ng_ng]
  | (x, r) :: l, s => by
    rw [runL, ngp, List.map_cons, run, evL_false, runL_false l]
    have e : ng (s ++ [x]) = ng s ++ [-x] := by simp [ng]
    rw [e, List.length_map, ng_ng]
    simp only [ng, List.map_append]
    rfl
/-- a stretch past a shelf -/
def sh (lt : Bool) (b : Nat) (xs : List Int) : List Int := runL lt [] (xs.map fun x => (x, b))
theorem sh_heavy (b : Nat) (xs : List Int) : sh false b xs = ng (sh true b (ng xs)) := by
  unfold sh
  rw [runL_false, runL_true]
  simp [ngp, ng, List.map_map, Function.comp_def]
theorem run_map_fst (b : Nat) (xs : List Int) : (xs.map fun x => (x, b)).map Prod.fst = xs := by
  rw [List.map_map]; exact List.map_id xs
theorem sh_perm (lt : Bool) (b : Nat) (xs : List Int) : (sh lt b xs).Perm xs := by
  have h : ∀ ys : List Int, (sh true b ys).Perm ys := fun ys => by
    unfold sh
    rw [runL_true]
    have := run_perm (ys.map fun x => (x, b)) []
    rwa [run_map_fst, List.nil_append] at this
  cases lt with
  | true => exact h xs
  | false =>
    rw [sh_heavy]
    have := (h (ng xs)).map fun x => -x
    rwa [show (ng xs).map (fun x => -x) = xs from ng_ng xs] at this
theorem og_const (v : Int) (b : Nat) : ∀ (xs : List Int) (g : Nat), g ≤ b → og v g (xs.map fun x => (x, b)) = (g + gr v xs) - b
  | [], g, h => by rw [List.map_nil, og, gr_nil]; omega
  | x :: xs, g, h => by
    rw [List.map_cons, og, og_const v b xs _ (Nat.min_le_right _ _), gr_cons]
    split <;> omega
theorem sh_ct {b : Nat} {xs : List Int} (hn : xs.Nodup) {v : Int} (hv : v ∈ xs) : ct v (sh true b xs) = ct v xs - b := by
  obtain ⟨l, m, rfl⟩ := List.append_of_mem hv
  have hl : v ∉ l := fun h => (nodup_app.mp hn).2.2 v h List.mem_cons_self
  unfold sh
  rw [runL_true, List.map_append, List.map_cons, run_ct _ _ _ List.not_mem_nil (by rw [run_map_fst]; exact hl), gr_nil, og_const v b l _ (Nat.zero_le _), ct_split hl, Nat.zero_add]
/-- by counts alone -/
def low (xs : List Int) (b : Nat) : List Int := build (fun v => ct v xs - b) (srt xs).reverse
theorem sh_low {xs : List Int} (hn : xs.Nodup) (b : Nat) : sh true b xs = low xs b := by
  rw [told_srt hn (sh_perm true b xs)]
  exact build_congr fun v hv => sh_ct hn ((rev_perm xs).mem_iff.mp hv)
/-- one at a time -/
def sp (lt : Bool) (b : Nat) : List Int → List Int → List Int
  | s, [] => ordr lt s
  | s, x :: r => if b < (s ++ [x]).length then pick lt (s ++ [x]) :: sp lt b ((s ++ [x]).erase (pick lt (s ++ [x]))) r else sp lt b (s ++ [x]) r
theorem evL_one {lt : Bool} {b n : Nat} {s : List Int} (h : s.length ≤ b + 1) : evL lt b (n + 1) s = if b < s.length then ([pick lt s], s.erase (pick lt s)) else ([], s) := by
  rw [evL]
  split
  · rename_i hs
    have hne : s ≠ [] := fun e => by rw [e] at hs; simp at hs
    have hl : (s.erase (pick lt s)).length = s.length - 1 := List.length_erase_of_mem (pick_mem hne)
    have : evL lt b n (s.erase (pick lt s)) = ([], s.erase (pick lt s)) := by
      cases n with
      | zero => rfl
      | succ n => rw [evL, if_neg (by omega)]
    rw [this]
  · rfl
theorem sp_run {lt : Bool} {b : Nat} : ∀ (xs s : List Int), s.length ≤ b → sp lt b s xs = runL lt s (xs.map fun x => (x, b))
  | [], s, h => rfl
  | x :: xs, s, h => by
    rw [sp, List.map_cons, runL, evL_one (by simp; omega)]
    split
    · rename_i hs
      have hne : s ++ [x] ≠ [] := by simp
      have hl : ((s ++ [x]).erase (pick lt (s ++ [x]))).length = (s ++ [x]).length - 1 := List.length_erase_of_mem (pick_mem hne)
      rw [sp_run xs _ (by rw [hl]; simp; omega)]
      rfl
    · rename_i hs
      rw [sp_run xs _ (by omega)]
      rfl
theorem sp_sh (lt : Bool) (b : Nat) (xs : List Int) : sp lt b [] xs = sh lt b xs := sp_run xs [] (Nat.zero_le _)
/-! ### rows with marks -/
abbrev Row := List (Option Int)
def lotA (own : List Int) : Row → List (List Int)
  | [] => [own]
  | none :: r => own :: lotA [] r
  | some x :: r => lotA (own ++ [x]) r
def lots (r : Row) : List (List Int) := lotA [] r
def unl : List (List Int) → Row
  | [] => []
  | [l] => l.map some
  | l :: m :: r => l.map some ++ none :: unl (m :: r)
def nums (r : Row) : List Int := r.filterMap id
theorem nums_some (l : List Int) : nums (l.map some) = l := by
  unfold nums
  induction l with
  | nil => rfl
  | cons x l ih => simp [ih]
theorem nums_app (r s : Row) : nums (r ++ s) = nums r ++ nums s := by unfold nums; rw [List.filterMap_append]
theorem lotA_ne : ∀ (r : Row) (own : List Int), lotA own r ≠ []
  | [], own => by simp [lotA]
  | none :: r, own => by simp [lotA]
  | some x :: r, own => lotA_ne r _
theorem unl_cons {l : List Int} {ls : List (List Int)} (h : ls ≠ []) : unl (l :: ls) = l.map some ++ none :: unl ls := by
  cases ls with
  | nil => exact absurd rfl h
  | cons m r => rfl
theorem unl_lotA : ∀ (r : Row) (own : List Int), unl (lotA own r) = own.map some ++ r
  | [], own => by simp [lotA, unl]
  | none :: r, own => by rw [lotA, unl_cons (lotA_ne r [])]; rw [unl_lotA r []]; rfl
  | some x :: r, own => by rw [lotA, unl_lotA r]; simp
theorem unl_lots (r : Row) : unl (lots r) = r := unl_lotA r []
theorem lotA_some : ∀ (l own : List Int) (r : Row), lotA own (l.map some ++ r) = lotA (own ++ l) r
  | [], own, r => by simp
  | x :: l, own, r => by rw [List.map_cons, List.cons_append, lotA, lotA_some l, List.append_assoc]; rfl
theorem lots_unl : ∀ (ls : List (List Int)), ls ≠ [] → lots (unl ls) = ls
  | [], h => absurd rfl h
  | [l], _ => by
    have := lotA_some l [] []
    rw [List.append_nil] at this
    rw [unl, lots, this, lotA]; rfl
  | l :: m :: r, _ => by
    rw [unl, lots, lotA_some, lotA]
    have := lots_unl (m :: r) (by simp)
    unfold lots at this
    rw [this]; rfl
theorem nums_unl : ∀ (ls : List (List Int)), nums (unl ls) = ls.flatten
  | [] => rfl
  | [l] => by rw [unl, nums_some]; simp
  | l :: m :: r => by
    rw [unl, nums_app, nums_some, List.flatten_cons]
    congr 1
    exact nums_unl (m :: r)
theorem nums_lots (r : Row) : nums r = (lots r).flatten := by rw [← nums_unl, unl_lots]
def pastR (lt : Bool) (b : Nat) (r : Row) : Row := unl ((lots r).map (sh lt b))
theorem lots_past (lt : Bool) (b : Nat) (r : Row) : lots (pastR lt b r) = (lots r).map (sh lt b) := lots_unl _ (by
  have := lotA_ne r []
  simpa [lots] using this)
/-- all but the last mark -/
theorem unl_drop : ∀ (ls : List (List Int)), ls ≠ [] → (ls.flatMap fun l => l.map some ++ [none]).dropLast = unl ls
  | [], h => absurd rfl h
  | [l], _ => by simp [unl]
  | l :: m :: r, _ => by
    rw [List.flatMap_cons, List.dropLast_append_of_ne_nil (by simp), unl_drop (m :: r) (by simp), unl]
    simp
theorem flat_perm {f : List Int → List Int} (hf : ∀ l, (f l).Perm l) : ∀ ls : List (List Int), ((ls.map f).flatten).Perm ls.flatten
  | [] => List.Perm.refl _
  | l :: ls => by rw [List.map_cons, List.flatten_cons, List.flatten_cons]; exact (hf l).append (flat_perm hf ls)
theorem past_nums (lt : Bool) (b : Nat) (r : Row) : (nums (pastR lt b r)).Perm (nums r) := by
  rw [nums_lots, lots_past, nums_lots r]
  exact flat_perm (sh_perm lt b) _
theorem unl_len : ∀ (ls : List (List Int)), ls ≠ [] → (unl ls).length + 1 = ls.flatten.length + ls.length
  | [], h => absurd rfl h
  | [l], _ => by simp [unl]
  | l :: m :: r, _ => by
    have := unl_len (m :: r) (by simp)
    rw [unl, List.flatten_cons]
    simp only [List.length_append, List.length_map, List.length_cons] at this ⊢
    omega
theorem past_len (lt : Bool) (b : Nat) (r : Row) : (pastR lt b r).length = r.length := by
  have h1 := unl_len (lots r) (lotA_ne r [])
  have h2 := unl_len ((lots r).map (sh lt b)) (by have := lotA_ne r []; simpa [lots] using this)
  have h3 := (flat_perm (sh_perm lt b) (lots r)).length_eq
  rw [unl_lots] at h1
  rw [List.length_map] at h2
  unfold pastR
  omega
end Ma
/-! Sums of counts; opposites. -/
namespace Ma
open Mi
def cs (xs : List Int) : List Int := xs.map fun v => (ct v xs : Int)
theorem sum_perm {l m : List Int} (p : l.Perm m) : l.sum = m.sum := by
  induction p with
  | nil => rfl
  | cons x _ ih => rw [List.sum_cons, List.sum_cons, ih]
  | swap x y l => simp only [List.sum_cons]; omega
  | trans _ _ h1 h2 => rw [h1, h2]
theorem sum_map_perm {l m : List Int} (p : l.Perm m) (f : Int → Int) : (l.map f).sum = (m.map f).sum := sum_perm (p.map f)
theorem cs_snoc {xs : List Int} {v : Int} (hv : v ∉ xs) : cs (xs ++ [v]) = cs xs ++ [(gr v xs : Int)] := by
  unfold cs
  rw [List.map_append]
  congr 1
  · exact List.map_congr_left fun y hy => by rw [ct_mem hy]
  · rw [List.map_cons, ct_split hv]; rfl
theorem sum_sh {xs : List Int} (hn : xs.Nodup) (b : Nat) : (cs (sh true b xs)).sum = (cs xs).sum - (xs.map fun v => min (b : Int) (ct v xs)).sum := by
  unfold cs
  rw [sum_map_perm (sh_perm true b xs) fun v => (ct v (sh true b xs) : Int)]
  have : ∀ l : List Int, (∀ v ∈ l, v ∈ xs) → (l.map fun v => (ct v (sh true b xs) : Int)).sum = (l.map fun v => (ct v xs : Int)).sum - (l.map fun v => min (b : Int) (ct v xs)).sum := by
    intro l
    induction l with
    | nil => intro _; rfl
    | cons v l ih =>
      intro hl
      rw [List.map_cons, List.map_cons, List.map_cons, List.sum_cons, List.sum_cons, List.sum_cons, ih fun y hy => hl y (List.mem_cons_of_mem _ hy), sh_ct hn (hl v List.mem_cons_self)]
      omega
  exact this xs fun _ h => h
theorem ct_lt {xs : List Int} (hn : xs.Nodup) {v : Int} (hv : v ∈ xs) : ct v xs < xs.length := by
  obtain ⟨l, m, rfl⟩ := List.append_of_mem hv
  have hl : v ∉ l := fun h => (nodup_app.mp hn).2.2 v h List.mem_cons_self
  rw [ct_split hl]
  have := gr_le v l
  simp; omega
theorem sum_zero {l : List Int} (h : ∀ x ∈ l, x = 0) : l.sum = 0 := by
  induction l with
  | nil => rfl
  | cons x l ih => rw [List.sum_cons, h x List.mem_cons_self, ih fun y hy => h y (List.mem_cons_of_mem _ hy)]; rfl
theorem sum_sh_all {xs : List Int} (hn : xs.Nodup) {b : Nat} (hb : xs.length ≤ b + 1) : (cs (sh true b xs)).sum = 0 := by
  refine sum_zero fun x hx => ?_
  obtain ⟨v, hv, rfl⟩ := List.mem_map.mp hx
  have hv' := (sh_perm true b xs).mem_iff.mp hv
  have := ct_lt hn hv'
  rw [sh_ct hn hv']
  omega
theorem gr_ng (v : Int) (xs : List Int) : v ∉ xs → gr v xs + gr (-v) (ng xs) = xs.length := by
  induction xs with
  | nil => intro _; rfl
  | cons x xs ih =>
    intro h
    have h1 : x ≠ v := fun e => h (e ▸ List.mem_cons_self)
    have := ih fun e => h (List.mem_cons_of_mem _ e)
    rw [show ng (x :: xs) = -x :: ng xs from rfl, gr_cons, gr_cons, List.length_cons]
    split <;> split <;> omega
theorem cs_both {xs : List Int} (hn : xs.Nodup) : 2 * ((cs xs).sum + (cs (ng xs)).sum) = (xs.length : Int) * (xs.length - 1) := by
  induction xs using snocInd with
  | h0 => rfl
  | h1 l a ih =>
    obtain ⟨h1, _, h3⟩ := nodup_app.mp hn
    have ha : a ∉ l := fun h => h3 a h (by simp)
    have ha2 : -a ∉ ng l := fun h => by
      obtain ⟨z, hz, e⟩ := List.mem_map.mp h
      have : z = a := by omega
      exact ha (this ▸ hz)
    have e : ng (l ++ [a]) = ng l ++ [-a] := by simp [ng]
    rw [e, cs_snoc ha, cs_snoc ha2, List.sum_append, List.sum_append]
    have := ih h1
    have hg := gr_ng a l ha
    simp only [List.sum_cons, List.sum_nil, List.length_append, List.length_cons, List.length_nil]
    have e2 : ((l.length + (0 + 1) : Nat) : Int) * (((l.length + (0 + 1) : Nat) : Int) - 1) = (l.length : Int) * (l.length - 1) + 2 * l.length := by
      rw [show ((l.length + (0 + 1) : Nat) : Int) = (l.length : Int) + 1 by omega]
      generalize (l.length : Int) = n
      rw [show n + 1 - 1 = n by omega, Int.add_mul, Int.mul_sub]
      omega
    rw [e2, ← this]
    omega
def opp (r : Row) : Row := r.map fun o => o.map fun x => 0 - x
theorem opp_some (l : List Int) : opp (l.map some) = (ng l).map some := by
  unfold opp ng
  rw [List.map_map, List.map_map]
  exact List.map_congr_left fun x _ => by simp
theorem opp_opp (r : Row) : opp (opp r) = r := by
  unfold opp
  rw [List.map_map]
  conv => rhs; rw [← List.map_id r]
  exact List.map_congr_left fun o _ => by cases o <;> simp
theorem nums_opp (r : Row) : nums (opp r) = ng (nums r) := by
  induction r with
  | nil => rfl
  | cons o r ih =>
    cases o with
    | none => exact ih
    | some x =>
      have : nums (some x :: r) = x :: nums r := rfl
      have h2 : nums (opp (some x :: r)) = (0 - x) :: nums (opp r) := rfl
      rw [this, h2, ih]
      simp [ng]
theorem lotA_opp : ∀ (r : Row) (own : List Int), lotA (ng own) (opp r) = (lotA own r).map ng
  | [], own => rfl
  | none :: r, own => by
    show ng own :: lotA [] (opp r) = _
    rw [lotA, List.map_cons, ← lotA_opp r []]; rfl
  | some x :: r, own => by
    show lotA (ng own ++ [0 - x]) (opp r) = _
    rw [lotA, ← lotA_opp r]
    congr 1
    simp [ng]
theorem lots_opp (r : Row) : lots (opp r) = (lots r).map ng := lotA_opp r []
theorem opp_unl : ∀ (ls : List (List Int)), opp (unl ls) = unl (ls.map ng)
  | [] => rfl
  | [l] => opp_some l
  | l :: m :: r => by
    have e : ∀ a b : Row, opp (a ++ b) = opp a ++ opp b := fun a b => by unfold opp; rw [List.map_append]
    rw [unl, e, opp_some, List.map_cons, List.map_cons, unl, ← List.map_cons, ← opp_unl (m :: r)]
    rfl
theorem past_heavy (b : Nat) (r : Row) : pastR false b r = opp (pastR true b (opp r)) := by
  unfold pastR
  rw [lots_opp, opp_unl, List.map_map, List.map_map]
  congr 1
  exact List.map_congr_left fun l _ => by rw [sh_heavy]; rfl
theorem lots_some (xs : List Int) : lots (xs.map some) = [xs] := by
  have := lotA_some xs [] []
  rw [List.append_nil] at this
  exact this
theorem past_some (lt : Bool) (b : Nat) (xs : List Int) : pastR lt b (xs.map some) = (sh lt b xs).map some := by
  unfold pastR
  rw [lots_some]; rfl
theorem opp_len (r : Row) : (opp r).length = r.length := by unfold opp; simp
theorem sh_nodup {lt : Bool} {b : Nat} {xs : List Int} (h : xs.Nodup) : (sh lt b xs).Nodup := (sh_perm lt b xs).nodup_iff.mpr h
theorem past_nodup {lt : Bool} {b : Nat} {r : Row} (h : (nums r).Nodup) : (nums (pastR lt b r)).Nodup := (past_nums lt b r).nodup_iff.mpr h
end Ma
/-! Evaluating by rewriting: each combinator on values that are there. -/
namespace Mi
open PySem L2
@[simp] theorem LIM_eq : LIM = 100000 := (rfl)
/-- whole numbers as data -/
def I (xs : List Int) : List D := xs.map .int
theorem I_def (xs : List Int) : I xs = xs.map .int := rfl
@[simp] theorem I_nil : I [] = [] := (rfl)
theorem I_cons {x : Int} {xs : List Int} : I (x :: xs) = .int x :: I xs := rfl
@[simp] theorem I_len {xs : List Int} : (I xs).length = xs.length := by unfold I; simp
@[simp] theorem I_app {xs ys : List Int} : I xs ++ I ys = I (xs ++ ys) := by unfold I; simp
@[simp] theorem I_snoc {x : Int} {xs : List Int} : I xs ++ [.int x] = I (xs ++ [x]) := by unfold I; simp
@[simp] theorem I_one {x : Int} {xs : List Int} : .int x :: I xs = I (x :: xs) := (rfl)
@[simp] theorem I_take {n : Nat} {xs : List Int} : (I xs).take n = I (xs.take n) := by unfold I; simp
@[simp] theorem I_drop {n : Nat} {xs : List Int} : (I xs).drop n = I (xs.drop n) := by unfold I; simp
@[simp] theorem I_rev {xs : List Int} : (I xs).reverse = I xs.reverse := by unfold I; simp
@[simp] theorem I_ones {xs : List Int} : ones (I xs) = xs.map fun x => [.int x] := by unfold ones I; simp
@[simp] theorem I_get {xs : List Int} {k : Nat} : (I xs)[k]? = xs[k]?.map .int := by unfold I; simp
@[simp] theorem map_int {α : Type} {f : α → Int} {l : List α} : (l.map fun x => PyData.int (f x)) = I (l.map f) := by unfold I; rw [List.map_map]; rfl
def fl (ds : List D) : Bool := ds.all flatD
def hasD (x : D) (ds : List D) : Bool := ds.any fun y => PyData.eqv y x
@[simp] theorem fl_I {xs : List Int} : fl (I xs) = true := by
  unfold fl
  rw [List.all_eq_true]
  intro d hd
  obtain ⟨i, _, rfl⟩ := List.mem_map.mp hd
  rfl
@[simp] theorem flat_i {i : Int} : flatD (.int i) = true := (rfl)
@[simp] theorem flat_n : flatD .none = true := (rfl)
@[simp] theorem flat_s {x : Str} : flatD (.str x) = true := (rfl)
@[simp] theorem flat_b {x : Bool} : flatD (.bool x) = true := (rfl)
@[simp] theorem fl_nil : fl [] = true := (rfl)
@[simp] theorem fl_cons {d : D} {ds : List D} : fl (d :: ds) = (flatD d && fl ds) := (rfl)
@[simp] theorem hasD_nil {d : D} : hasD d [] = false := (rfl)
@[simp] theorem hasD_cons {x d : D} {ds : List D} : hasD x (d :: ds) = (PyData.eqv d x || hasD x ds) := (rfl)
@[simp] theorem hasD_none : ∀ {xs : List Int}, hasD .none (I xs) = false
  | [] => rfl
  | x :: xs => by rw [I_cons, hasD_cons, hasD_none]; rfl
@[simp] theorem hasD_int {v : Int} : ∀ {xs : List Int}, hasD (.int v) (I xs) = decide (v ∈ xs)
  | [] => rfl
  | x :: xs => by
    rw [I_cons, hasD_cons, hasD_int]
    show ((x == v) || _) = _
    by_cases h : x = v
    · simp [h]
    · have : ¬ v = x := fun e => h e.symm
      simp [h, this]
theorem idxD_I {v : Int} : ∀ {xs : List Int}, v ∈ xs → idxD (.int v) (I xs) = some (xs.idxOf v)
  | x :: xs, h => by
    rw [I_cons, idxD]
    show (if (x == v) = true then _ else _) = _
    rw [List.idxOf_cons]
    by_cases e : x = v
    · simp [e]
    · have e2 : (x == v) = false := by simpa using e
      rw [e2, if_neg (by decide), idxD_I ((List.mem_cons.mp h).resolve_left fun z => e z.symm)]
      rfl
section
variable {f g : SF} {t t2 : TF} {fe fe2 fe3 : EF} {fs : AF} {env : En} {h h1 : Hh} {a b : A} {as : List A} {i j m : Nat} {F : FF} {bb : Bool}
def thn (r : SRes) (g : SF) : SRes := match r with
  | .nx e h => g e h
  | r => r
@[simp] theorem v_seq : fSeq f g env h = thn (f env h) g := (rfl)
@[simp] theorem thn_nx : thn (.nx env h) g = g env h := (rfl)
@[simp] theorem thn_rt : thn (.rt a h) g = .rt a h := (rfl)
@[simp] theorem thn_exc {c : Nat} : thn (.exc c h) g = .exc c h := (rfl)
@[simp] theorem thn_er : thn .er g = .er := (rfl)
def cnd (r : Res Bool) (f g : SF) (env : En) : SRes := match r with
  | .ok b h1 => if b then f env h1 else g env h1
  | .exc c h1 => .exc c h1
  | .er => .er
@[simp] theorem v_if : fIf t f g env h = cnd (t env h) f g env := (rfl)
@[simp] theorem cnd_ok : cnd (.ok bb h) f g env = if bb then f env h else g env h := (rfl)
@[simp] theorem v_nx : fNx env h = .nx env h := (rfl)
@[simp] theorem onE_ok {k : A → Hh → SRes} : onE (.ok a h) k = k a h := (rfl)
@[simp] theorem onE_exc {c : Nat} {k : A → Hh → SRes} : onE (.exc c h) k = .exc c h := (rfl)
@[simp] theorem onA_ok {k : List A → Hh → SRes} : onA (.ok as h) k = k as h := (rfl)
@[simp] theorem onP_some {α : Type} {x : α} {k : α → SRes} : onP (some x) k = k x := (rfl)
@[simp] theorem onO_some {k : A → SRes} : onO (some a) k = k a := (rfl)
@[simp] theorem v_setF : fSetF i fe env h = onE (fe env h) fun a h1 => onO (frzA a) fun a' => .nx (env.set i (some a')) h1 := (rfl)
@[simp] theorem v_setO : fSetO i fe env h = onE (fe env h) fun a h1 => onO (ownA a) fun a' => .nx (env.set i (some a')) h1 := (rfl)
@[simp] theorem v_drop : fDrop fe env h = onE (fe env h) fun _ h1 => .nx env h1 := (rfl)
@[simp] theorem v_ret : fRet fe env h = onE (fe env h) onRet := (rfl)
def retV (o : Option (Option A)) (h : Hh) : SRes := match o with
  | some (some a) => onRet a h
  | _ => .er
@[simp] theorem v_retV : fRetV i env h = retV env[i]? h := (rfl)
@[simp] theorem retV_some : retV (some (some a)) h = onRet a h := (rfl)
@[simp] theorem onRet_dat {d : D} : onRet (.dat d) h = .rt (.dat d) h := (rfl)
@[simp] theorem onRet_ob {c : Cell} : onRet (.ob c) h = .rt (.ob c) h := (rfl)
@[simp] theorem onRet_scr {ns : List Int} : onRet (.scr ns) h = .rt (.scr ns) h := (rfl)
@[simp] theorem onRet_loc {k : Nat} : onRet (.loc k) h = .rt (.loc k) h := (rfl)
@[simp] theorem frz_dat {d : D} : frzA (.dat d) = some (.dat d) := (rfl)
@[simp] theorem frz_ob {c : Cell} : frzA (.ob c) = some (.dat c.toD) := (rfl)
@[simp] theorem frz_loc {k : Nat} : frzA (.loc k) = some (.loc k) := (rfl)
@[simp] theorem own_dat {d : D} : ownA (.dat d) = some (.dat d) := (rfl)
@[simp] theorem own_ob {c : Cell} : ownA (.ob c) = some (.ob c) := (rfl)
@[simp] theorem own_loc {k : Nat} : ownA (.loc k) = some (.loc k) := (rfl)
@[simp] theorem toD_lst {ds : List D} : (Cell.lst ds).toD = .list ds := (rfl)
def bodyR (r : SRes) : Res A := finS r
@[simp] theorem bodyR_exc {c : Nat} : bodyR (.exc c h) = .exc c h := (rfl)
@[simp] theorem v_body : fBody0 m g as h = bodyR (g (env0 m as) h) := (rfl)
@[simp] theorem bodyR_rt : bodyR (.rt a h) = .ok a h := (rfl)
@[simp] theorem bodyR_nx : bodyR (.nx env h) = .ok (.dat .none) h := (rfl)
@[simp] theorem env0_eq : env0 m as = as.map some ++ List.replicate (m - as.length) none := (rfl)
def callR (F : FF) (r : Res (List A)) : Res A := r.bind fun as h1 => aft (as.any isSn) (F (as.map argA) h1)
@[simp] theorem v_call : fCall F fs env h = callR F (fs env h) := (rfl)
@[simp] theorem callR_ok : callR F (.ok as h) = aft (as.any isSn) (F (as.map argA) h) := (rfl)
@[simp] theorem callR_exc {c : Nat} : callR F (.exc c h) = .exc c h := (rfl)
def callPR (F : FF) (r : Res (List A)) : Res A := r.bind fun as h1 => aftP (as.any isSn) h1 (F (as.map argP) [])
@[simp] theorem v_callP : fCallP F fs env h = callPR F (fs env h) := (rfl)
@[simp] theorem callPR_ok : callPR F (.ok as h) = aftP (as.any isSn) h (F (as.map argP) []) := (rfl)
@[simp] theorem callPR_exc {c : Nat} : callPR F (.exc c h) = .exc c h := (rfl)
@[simp] theorem argP_ob {c : Cell} : argP (.ob c) = .dat c.toD := (rfl)
@[simp] theorem argP_sn {c : Cell} : argP (.sn c) = .dat c.toD := (rfl)
@[simp] theorem argP_dat {d : D} : argP (.dat d) = .dat d := (rfl)
@[simp] theorem argP_loc {k : Nat} : argP (.loc k) = .zz := (rfl)
@[simp] theorem argP_scr {ns : List Int} : argP (.scr ns) = .scr ns := (rfl)
@[simp] theorem aftP_f : aftP false h (.ok a []) = if isSn a then .er else .ok a h := by cases a <;> rfl
@[simp] theorem aftP_t : aftP true h (.ok a []) = if isSn a then .er else if resOk a then .ok a h else .er := (rfl)
@[simp] theorem aftP_exc {w : Bool} {c : Nat} : aftP w h (.exc c []) = .exc c h := (rfl)
@[simp] theorem arg_ob {c : Cell} : argA (.ob c) = .dat c.toD := (rfl)
@[simp] theorem arg_sn {c : Cell} : argA (.sn c) = .dat c.toD := (rfl)
@[simp] theorem arg_dat {d : D} : argA (.dat d) = .dat d := (rfl)
@[simp] theorem arg_loc {k : Nat} : argA (.loc k) = .loc k := (rfl)
@[simp] theorem arg_scr {ns : List Int} : argA (.scr ns) = .scr ns := (rfl)
@[simp] theorem isSn_ob {c : Cell} : isSn (.ob c) = false := (rfl)
@[simp] theorem isSn_sn {c : Cell} : isSn (.sn c) = true := (rfl)
@[simp] theorem isSn_dat {d : D} : isSn (.dat d) = false := (rfl)
@[simp] theorem isSn_loc {k : Nat} : isSn (.loc k) = false := (rfl)
@[simp] theorem isSn_scr {ns : List Int} : isSn (.scr ns) = false := (rfl)
@[simp] theorem aft_f : aft false (.ok a h) = if isSn a then .er else .ok a h := by cases a <;> rfl
@[simp] theorem aft_t : aft true (.ok a h) = if isSn a then .er else if resOk a && h.all ceLf then .ok a h else .er := (rfl)
@[simp] theorem resOk_ob {ds : List D} : resOk (.ob (.lst ds)) = lfs ds := (rfl)
@[simp] theorem resOk_dat {d : D} : resOk (.dat d) = lf d := (rfl)
@[simp] theorem lf_none : lf .none = true := (rfl)
@[simp] theorem lf_int {n : Int} : lf (.int n) = true := (rfl)
@[simp] theorem lf_bool {n : Bool} : lf (.bool n) = true := (rfl)
@[simp] theorem lf_str {n : Str} : lf (.str n) = true := (rfl)
@[simp] theorem lf_tuple {ds : List D} : lf (.tuple ds) = lfs ds := by rw [lf]
@[simp] theorem lfs_nil : lfs [] = true := (rfl)
@[simp] theorem lfs_cons {d : D} {ds : List D} : lfs (d :: ds) = (lf d && lfs ds) := by rw [lfs]
/-! expressions -/
def varR (o : Option (Option A)) (h : Hh) : Res A := match o with
  | some (some a) => .ok (rdV a) h
  | _ => .er
@[simp] theorem v_var : fVar i env h = varR env[i]? h := (rfl)
@[simp] theorem varR_some : varR (some (some a)) h = .ok (rdV a) h := (rfl)
@[simp] theorem rdV_ob {c : Cell} : rdV (.ob c) = .sn c := (rfl)
@[simp] theorem rdV_dat {d : D} : rdV (.dat d) = .dat d := (rfl)
@[simp] theorem rdV_loc {k : Nat} : rdV (.loc k) = .loc k := (rfl)
@[simp] theorem rdV_scr {ns : List Int} : rdV (.scr ns) = .scr ns := (rfl)
@[simp] theorem v_C {d : D} : fC d env h = .ok (.dat d) h := (rfl)
@[simp] theorem bind_ok {α β : Type} {x : α} {k : α → Hh → Res β} : Res.bind (.ok x h) k = k x h := (rfl)
@[simp] theorem bind_exc {α β : Type} {c : Nat} {k : α → Hh → Res β} : Res.bind (.exc c h) k = .exc c h := (rfl)
def consR (r : Res A) (fs : AF) (env : En) : Res (List A) := r.bind fun a h1 => (fs env h1).bind fun as h2 => .ok (a :: as) h2
def consR2 (a : A) (r : Res (List A)) : Res (List A) := r.bind fun as h2 => .ok (a :: as) h2
@[simp] theorem v_nil : fNil env h = .ok [] h := (rfl)
@[simp] theorem v_cons : fCons fe fs env h = consR (fe env h) fs env := (rfl)
@[simp] theorem consR_ok : consR (.ok a h) fs env = consR2 a (fs env h) := (rfl)
@[simp] theorem consR_exc {c : Nat} : consR (.exc c h) fs env = .exc c h := (rfl)
@[simp] theorem consR2_ok : consR2 a (.ok as h) = .ok (a :: as) h := (rfl)
@[simp] theorem consR2_exc {c : Nat} : consR2 a (.exc c h) = .exc c h := (rfl)
def primR (gg : List A → Hh → Option A) (r : Res (List A)) : Res A := r.bind fun as h1 => optR (gg as h1) h1
@[simp] theorem v_prim {gg : List A → Hh → Option A} : fPrim gg fs env h = primR gg (fs env h) := (rfl)
@[simp] theorem primR_ok {gg : List A → Hh → Option A} : primR gg (.ok as h) = optR (gg as h) h := (rfl)
@[simp] theorem primR_exc {c : Nat} {gg : List A → Hh → Option A} : primR gg (.exc c h) = .exc c h := (rfl)
@[simp] theorem optR_some {α : Type} {x : α} : optR (some x) h = .ok x h := (rfl)
def testR (r : Res A) : Res Bool := r.bind fun a h1 => onB a fun b => .ok b h1
@[simp] theorem v_test : fTest fe env h = testR (fe env h) := (rfl)
@[simp] theorem testR_ok : testR (.ok (.dat (.bool bb)) h) = .ok bb h := (rfl)
@[simp] theorem testR_exc {c : Nat} : testR (.exc c h) = .exc c h := (rfl)
def andR (r : Res Bool) (g : TF) (env : En) : Res Bool := r.bind fun b h1 => if b then g env h1 else .ok false h1
def orR (r : Res Bool) (g : TF) (env : En) : Res Bool := r.bind fun b h1 => if b then .ok true h1 else g env h1
def notR (r : Res Bool) : Res Bool := r.bind fun b h1 => .ok (!b) h1
@[simp] theorem v_and : fAndT t t2 env h = andR (t env h) t2 env := (rfl)
@[simp] theorem v_or : fOrT t t2 env h = orR (t env h) t2 env := (rfl)
@[simp] theorem v_not : fNotT t env h = notR (t env h) := (rfl)
@[simp] theorem andR_ok : andR (.ok bb h) t env = if bb then t env h else .ok false h := (rfl)
@[simp] theorem orR_ok : orR (.ok bb h) t env = if bb then .ok true h else t env h := (rfl)
@[simp] theorem notR_ok : notR (.ok bb h) = .ok (!bb) h := (rfl)
def andV (r : Res A) (g : EF) (env : En) : Res A := r.bind fun a h1 => onB a fun b => if b then g env h1 else .ok (.dat (.bool false)) h1
def orV (r : Res A) (g : EF) (env : En) : Res A := r.bind fun a h1 => onB a fun b => if b then .ok (.dat (.bool true)) h1 else g env h1
def notV (r : Res A) : Res A := r.bind fun a h1 => onB a fun b => .ok (.dat (.bool (!b))) h1
@[simp] theorem v_andV : fAndV fe fe2 env h = andV (fe env h) fe2 env := (rfl)
@[simp] theorem v_orV : fOrV fe fe2 env h = orV (fe env h) fe2 env := (rfl)
@[simp] theorem v_notV : fNotV fe env h = notV (fe env h) := (rfl)
@[simp] theorem andV_ok : andV (.ok (.dat (.bool bb)) h) fe env = if bb then fe env h else .ok (.dat (.bool false)) h := (rfl)
@[simp] theorem orV_ok : orV (.ok (.dat (.bool bb)) h) fe env = if bb then .ok (.dat (.bool true)) h else fe env h := (rfl)
@[simp] theorem notV_ok : notV (.ok (.dat (.bool bb)) h) = .ok (.dat (.bool (!bb))) h := (rfl)
def ifR (r : Res Bool) (f g : EF) (env : En) : Res A := r.bind fun b h1 => if b then f env h1 else g env h1
@[simp] theorem v_ifE : fIfE t fe fe2 env h = ifR (t env h) fe fe2 env := (rfl)
@[simp] theorem ifR_ok : ifR (.ok bb h) fe fe2 env = if bb then fe env h else fe2 env h := (rfl)
/-! data -/
@[simp] theorem d_dat {d : D} : (A.dat d).d = some d := (rfl)
@[simp] theorem d_sn {c : Cell} : (A.sn c).d = some c.toD := (rfl)
@[simp] theorem d_ob {c : Cell} : (A.ob c).d = some c.toD := (rfl)
@[simp] theorem dd_dat {d : D} : (A.dat d).dd = some d := (rfl)
@[simp] theorem dd_sn {c : Cell} : (A.sn c).dd = some c.toD := (rfl)
@[simp] theorem dd_ob {c : Cell} : (A.ob c).dd = some c.toD := (rfl)
@[simp] theorem dd_scr {ns : List Int} : (A.scr ns).dd = some (.list (ns.map .int)) := (rfl)
@[simp] theorem dsOf_nil : dsOf [] = some [] := (rfl)
@[simp] theorem dsOf_cons : dsOf (a :: as) = a.d.bind fun d => (dsOf as).map fun ds => d :: ds := (rfl)
@[simp] theorem sto_dat {d : D} : sto (.dat d) = some d := (rfl)
@[simp] theorem sto_ob {c : Cell} : sto (.ob c) = some c.toD := (rfl)
@[simp] theorem stos_nil : stos [] = some [] := (rfl)
@[simp] theorem stos_cons : stos (a :: as) = (sto a).bind fun d => (stos as).map fun ds => d :: ds := (rfl)
def oMap (o : Option D) : Option A := o.map .dat
def oB (o : Option (List D)) (gg : List D → Option D) : Option D := o.bind gg
@[simp] theorem oMap_some {d : D} : oMap (some d) = some (.dat d) := (rfl)
@[simp] theorem oB_some {ds : List D} {gg : List D → Option D} : oB (some ds) gg = gg ds := (rfl)
theorem gD_oB {gg : List D → Option D} {o : Option (List D)} : (o.bind fun ds => (gg ds).map A.dat) = oMap (oB o gg) := by cases o <;> rfl
@[simp] theorem gD_eq {gg : List D → Option D} : gD gg as h = oMap (oB (dsOf as) gg) := gD_oB
@[simp] theorem iSub_v {x y : Int} : iSub [.int x, .int y] = some (.int (x - y)) := (rfl)
@[simp] theorem iLt_v {x y : Int} : iLt [.int x, .int y] = some (.bool (decide (x < y))) := (rfl)
@[simp] theorem iLe_v {x y : Int} : iLe [.int x, .int y] = some (.bool (decide (x ≤ y))) := (rfl)
@[simp] theorem iGt_v {x y : Int} : iGt [.int x, .int y] = some (.bool (decide (y < x))) := (rfl)
@[simp] theorem iGe_v {x y : Int} : iGe [.int x, .int y] = some (.bool (decide (y ≤ x))) := (rfl)
@[simp] theorem iNeg_v {x : Int} : iNeg [.int x] = some (.int (-x)) := (rfl)
@[simp] theorem iMax2_v {x y : Int} : iMax2 [.int x, .int y] = some (.int (if y > x then y else x)) := (rfl)
@[simp] theorem iMin2_v {x y : Int} : iMin2 [.int x, .int y] = some (.int (if y < x then y else x)) := (rfl)
@[simp] theorem iIsN_n : iIsN [.none, .none] = some (.bool true) := (rfl)
@[simp] theorem iIsN_i {x : Int} : iIsN [.int x, .none] = some (.bool false) := (rfl)
@[simp] theorem iNotN_n : iNotN [.none, .none] = some (.bool false) := (rfl)
@[simp] theorem iNotN_i {x : Int} : iNotN [.int x, .none] = some (.bool true) := (rfl)
@[simp] theorem iIsB_v {x y : Bool} : iIsB [.bool x, .bool y] = some (.bool (decide (x = y))) := (rfl)
@[simp] theorem iNotB_v {x y : Bool} : iNotB [.bool x, .bool y] = some (.bool (!decide (x = y))) := (rfl)
@[simp] theorem iInt_i {x : Int} : iInt [.int x] = some (.int x) := (rfl)
@[simp] theorem iInt_b {x : Bool} : iInt [.bool x] = some (.int (if x then 1 else 0)) := (rfl)
theorem iMul_v {x y : Int} (hy : (-(2 ^ 64) < x ∧ x < 2 ^ 64) ∨ (-(2 ^ 64) < y ∧ y < 2 ^ 64)) : iMul [.int x, .int y] = some (.int (x * y)) := by
  show (if _ then _ else _) = _
  rw [if_pos hy]
theorem iDiv_v {x y : Int} (h1 : 0 < y) (h2 : y < 1073741824) : iDiv [.int x, .int y] = some (.int (x / y)) := by
  show (if _ then _ else _) = _
  rw [if_pos ⟨h1, h2⟩]
theorem iMod_v {x y : Int} (h1 : 0 < y) : iMod [.int x, .int y] = some (.int (x % y)) := by
  show (if _ then _ else _) = _
  rw [if_pos h1]
@[simp] theorem asInts_ok {ns : List Int} : asInts (I ns) = some ns := asInts_map ns
@[simp] theorem iSum_l {ds : List D} : iSum [.list ds] = (asInts ds).map fun ns => .int ns.sum := (rfl)
@[simp] theorem iMax1_l {ds : List D} : iMax1 [.list ds] = (asInts ds).bind fun ns => if 0 < ns.length then some (.int (maxI ns)) else none := (rfl)
@[simp] theorem iMin1_l {ds : List D} : iMin1 [.list ds] = (asInts ds).bind fun ns => if 0 < ns.length then some (.int (minI ns)) else none := (rfl)
@[simp] theorem iMax1_t {ds : List D} : iMax1 [.tuple ds] = (asInts ds).bind fun ns => if 0 < ns.length then some (.int (maxI ns)) else none := (rfl)
@[simp] theorem iMin1_t {ds : List D} : iMin1 [.tuple ds] = (asInts ds).bind fun ns => if 0 < ns.length then some (.int (minI ns)) else none := (rfl)
@[simp] theorem iAll_l {ds : List D} : iAll [.list ds] = (asBools ds).map fun bs => .bool (bs.all id) := (rfl)
@[simp] theorem iAny_l {ds : List D} : iAny [.list ds] = (asBools ds).map fun bs => .bool (bs.any id) := (rfl)
@[simp] theorem asBools_ok : ∀ {bs : List Bool}, asBools (bs.map .bool) = some bs
  | [] => rfl
  | b :: bs => by rw [List.map_cons, asBools, asBools_ok]; rfl
@[simp] theorem gLen_t {ds : List D} : gLen [.dat (.tuple ds)] h = some (.dat (.int ds.length)) := (rfl)
@[simp] theorem gLen_l {ds : List D} : gLen [.dat (.list ds)] h = some (.dat (.int ds.length)) := (rfl)
@[simp] theorem gLen_o {ds : List D} : gLen [.ob (.lst ds)] h = some (.dat (.int ds.length)) := (rfl)
@[simp] theorem gLen_s {ds : List D} : gLen [.sn (.lst ds)] h = some (.dat (.int ds.length)) := (rfl)
@[simp] theorem gLen_r {ns : List Int} : gLen [.scr ns] h = some (.dat (.int ns.length)) := (rfl)
@[simp] theorem gListOf_t {ds : List D} : gListOf [.dat (.tuple ds)] h = some (.ob (.lst ds)) := (rfl)
@[simp] theorem gListOf_l {ds : List D} : gListOf [.dat (.list ds)] h = some (.ob (.lst ds)) := (rfl)
@[simp] theorem gListOf_o {ds : List D} : gListOf [.ob (.lst ds)] h = some (.ob (.lst ds)) := (rfl)
@[simp] theorem gListOf_s {ds : List D} : gListOf [.sn (.lst ds)] h = some (.ob (.lst ds)) := (rfl)
@[simp] theorem gTupOf_t {ds : List D} : gTupOf [.dat (.tuple ds)] h = some (.dat (.tuple ds)) := (rfl)
@[simp] theorem gTupOf_l {ds : List D} : gTupOf [.dat (.list ds)] h = some (.dat (.tuple ds)) := (rfl)
@[simp] theorem gTupOf_o {ds : List D} : gTupOf [.ob (.lst ds)] h = some (.dat (.tuple ds)) := (rfl)
@[simp] theorem gTupOf_s {ds : List D} : gTupOf [.sn (.lst ds)] h = some (.dat (.tuple ds)) := (rfl)
@[simp] theorem gIx_t {ds : List D} {k : Int} : gIx [.dat (.tuple ds), .dat (.int k)] h = (atI ds k).map .dat := (rfl)
@[simp] theorem gIx_l {ds : List D} {k : Int} : gIx [.dat (.list ds), .dat (.int k)] h = (atI ds k).map .dat := (rfl)
@[simp] theorem gIx_o {ds : List D} {k : Int} : gIx [.ob (.lst ds), .dat (.int k)] h = (atI ds k).map .dat := (rfl)
@[simp] theorem gIx_s {ds : List D} {k : Int} : gIx [.sn (.lst ds), .dat (.int k)] h = (atI ds k).map .dat := (rfl)
@[simp] theorem gTupD_eq : gTupD as h = if as.length ≤ LIM then (stos as).map fun ds => .dat (.tuple ds) else none := (rfl)
@[simp] theorem gLstD_eq : gLstD as h = if as.length ≤ LIM then (stos as).map fun ds => .ob (.lst ds) else none := (rfl)
@[simp] theorem gSort_t {ds : List D} : gSort [.dat (.tuple ds)] h = (asInts ds).map fun ns => .ob (.lst (I (srt ns))) := (rfl)
@[simp] theorem gSort_l {ds : List D} : gSort [.dat (.list ds)] h = (asInts ds).map fun ns => .ob (.lst (I (srt ns))) := (rfl)
@[simp] theorem gSort_o {ds : List D} : gSort [.ob (.lst ds)] h = (asInts ds).map fun ns => .ob (.lst (I (srt ns))) := (rfl)
@[simp] theorem gSort_s {ds : List D} : gSort [.sn (.lst ds)] h = (asInts ds).map fun ns => .ob (.lst (I (srt ns))) := (rfl)
@[simp] theorem gRev_l {ds : List D} : gRev [.dat (.list ds)] h = some (.ob (.lst ds.reverse)) := (rfl)
@[simp] theorem gRev_o {ds : List D} : gRev [.ob (.lst ds)] h = some (.ob (.lst ds.reverse)) := (rfl)
@[simp] theorem gRev_s {ds : List D} : gRev [.sn (.lst ds)] h = some (.ob (.lst ds.reverse)) := (rfl)
@[simp] theorem gAdd_i {x y : Int} : gAddB [.dat (.int x), .dat (.int y)] h = some (.dat (.int (x + y))) := (rfl)
@[simp] theorem gAdd_tt {ds es : List D} : gAddB [.dat (.tuple ds), .dat (.tuple es)] h = if ds.length + es.length ≤ LIM then some (.dat (.tuple (ds ++ es))) else none := (rfl)
@[simp] theorem gAdd_oo {ds es : List D} : gAddB [.ob (.lst ds), .ob (.lst es)] h = if ds.length + es.length ≤ LIM then some (.ob (.lst (ds ++ es))) else none := (rfl)
@[simp] theorem gAdd_so {ds es : List D} : gAddB [.sn (.lst ds), .ob (.lst es)] h = if ds.length + es.length ≤ LIM then some (.ob (.lst (ds ++ es))) else none := (rfl)
@[simp] theorem gAdd_os {ds es : List D} : gAddB [.ob (.lst ds), .sn (.lst es)] h = if ds.length + es.length ≤ LIM then some (.ob (.lst (ds ++ es))) else none := (rfl)
@[simp] theorem gAdd_ss {ds es : List D} : gAddB [.sn (.lst ds), .sn (.lst es)] h = if ds.length + es.length ≤ LIM then some (.ob (.lst (ds ++ es))) else none := (rfl)
@[simp] theorem gAdd_do {ds es : List D} : gAddB [.dat (.list ds), .ob (.lst es)] h = if ds.length + es.length ≤ LIM then some (.ob (.lst (ds ++ es))) else none := (rfl)
@[simp] theorem gAdd_od {ds es : List D} : gAddB [.ob (.lst ds), .dat (.list es)] h = if ds.length + es.length ≤ LIM then some (.ob (.lst (ds ++ es))) else none := (rfl)
@[simp] theorem gAdd_dd {ds es : List D} : gAddB [.dat (.list ds), .dat (.list es)] h = if ds.length + es.length ≤ LIM then some (.ob (.lst (ds ++ es))) else none := (rfl)
@[simp] theorem gAdd_sd {ds es : List D} : gAddB [.sn (.lst ds), .dat (.list es)] h = if ds.length + es.length ≤ LIM then some (.ob (.lst (ds ++ es))) else none := (rfl)
@[simp] theorem gEqB_v {n : Bool} : gEqB n [a, b] h = a.dd.bind fun x => b.dd.bind fun y => if SeqAt.shaped x = true ∧ SeqAt.shaped y = true then some (.dat (.bool (if n then !PyData.eqv x y else PyData.eqv x y))) else none := (rfl)
@[simp] theorem seq_t {ds : List D} : (A.dat (.tuple ds)).seq = some ds := (rfl)
@[simp] theorem seq_l {ds : List D} : (A.dat (.list ds)).seq = some ds := (rfl)
@[simp] theorem seq_o {ds : List D} : (A.ob (.lst ds)).seq = some ds := (rfl)
@[simp] theorem seq_s {ds : List D} : (A.sn (.lst ds)).seq = some ds := (rfl)
@[simp] theorem gInB_v {n : Bool} : gInB n [a, b] h = a.d.bind fun x => b.seq.bind fun ds => if flatD x = true ∧ fl ds = true then some (.dat (.bool (if n then !(hasD x ds) else hasD x ds))) else none := (rfl)
def indexR (r : Res A) (g : EF) (env : En) : Res A := r.bind fun a h1 => if a.seq.isSome then (g env h1).bind fun b h2 => optR (gIdx a b) h2 else .er
@[simp] theorem v_index : fIndex fe fe2 env h = indexR (fe env h) fe2 env := (rfl)
@[simp] theorem indexR_ok : indexR (.ok a h) fe2 env = if a.seq.isSome then (fe2 env h).bind fun b h2 => optR (gIdx a b) h2 else .er := (rfl)
@[simp] theorem gIdx_v : gIdx a b = a.seq.bind fun ds => b.d.bind fun x => if flatD x = true ∧ fl ds = true then (idxD x ds).map fun (j : Nat) => .dat (.int (j : Int)) else none := (rfl)
@[simp] theorem onI_i {α : Type} {x : Int} {k : Int → Res α} : onI (.dat (.int x)) k = k x := (rfl)
@[simp] theorem v_int : fInt fe env h = (fe env h).bind fun a h1 => onI a fun i => .ok (.dat (.int i)) h1 := (rfl)
@[simp] theorem v_chain : fChain fe fe2 fe3 env h = (fe env h).bind fun a h1 => (fe2 env h1).bind fun b h2 => onI a fun i => onI b fun j => if i ≤ j then (fe3 env h2).bind fun c h3 => onI c fun l => .ok (.dat (.bool (decide (j ≤ l)))) h3 else .ok (.dat (.bool false)) h2 := (rfl)
@[simp] theorem gSl_hi {y : Int} : gSl [a, .dat .none, .dat (.int y)] h = gCut none (some y) [a] h := (rfl)
@[simp] theorem gSl_lo {y : Int} : gSl [a, .dat (.int y), .dat .none] h = gCut (some y) none [a] h := (rfl)
@[simp] theorem gSl_b {x y : Int} : gSl [a, .dat (.int x), .dat (.int y)] h = gCut (some x) (some y) [a] h := (rfl)
@[simp] theorem gCut_t {ds : List D} {lo hi : Option Int} : gCut lo hi [.dat (.tuple ds)] h = some (.dat (.tuple (cutD ds lo hi))) := (rfl)
@[simp] theorem gCut_l {ds : List D} {lo hi : Option Int} : gCut lo hi [.dat (.list ds)] h = some (.ob (.lst (cutD ds lo hi))) := (rfl)
@[simp] theorem gCut_o {ds : List D} {lo hi : Option Int} : gCut lo hi [.ob (.lst ds)] h = some (.ob (.lst (cutD ds lo hi))) := (rfl)
@[simp] theorem gCut_s {ds : List D} {lo hi : Option Int} : gCut lo hi [.sn (.lst ds)] h = some (.ob (.lst (cutD ds lo hi))) := (rfl)
theorem sIx_pos {n d : Nat} {y : Int} (hy : 0 ≤ y) : HT.sIx n d (some y) = min y.toNat n := by
  show (if y < 0 then _ else _) = _
  rw [if_neg (by omega)]
theorem cut_hi {ds : List D} {y : Int} (hy : 0 ≤ y) : cutD ds none (some y) = ds.take y.toNat := by
  unfold cutD
  rw [sIx_pos hy, HT.sIx_none, List.drop_zero, Nat.sub_zero, List.take_eq_take_iff]
  omega
theorem cut_lo {ds : List D} {y : Int} (hy : 0 ≤ y) : cutD ds (some y) none = ds.drop y.toNat := by
  unfold cutD
  rw [sIx_pos hy, HT.sIx_none]
  by_cases c : y.toNat ≤ ds.length
  · rw [Nat.min_eq_left c, List.take_of_length_le (by rw [List.length_drop]; omega)]
  · rw [Nat.min_eq_right (by omega), Nat.sub_self, List.take_zero, List.drop_of_length_le (by omega)]
@[simp] theorem cut_hiN {ds : List D} {y : Nat} : cutD ds none (some (y : Int)) = ds.take y := by rw [cut_hi (by omega)]; simp
@[simp] theorem cut_loN {ds : List D} {y : Nat} : cutD ds (some (y : Int)) none = ds.drop y := by rw [cut_lo (by omega)]; simp
theorem cut_b {ds : List D} {x y : Nat} : cutD ds (some (x : Int)) (some (y : Int)) = (ds.drop x).take (y - x) := by
  unfold cutD
  rw [HT.sIx_nat, HT.sIx_nat]
  by_cases c : x ≤ ds.length
  · rw [Nat.min_eq_left c, List.take_eq_take_iff, List.length_drop]; omega
  · rw [Nat.min_eq_right (a := x) (by omega), List.drop_of_length_le (Nat.le_refl _), List.drop_of_length_le (by omega), List.take_nil, List.take_nil]
@[simp] theorem cut_last {ds : List D} : cutD ds none (some (-1)) = ds.dropLast := by
  unfold cutD
  rw [HT.sIx_none, List.drop_zero, Nat.sub_zero, List.dropLast_eq_take]
  have : HT.sIx ds.length ds.length (some (-1)) = (-1 + (ds.length : Int)).toNat := rfl
  rw [this]
  congr 1
  omega
@[simp] theorem at_I {xs : List Int} {k : Int} : atI (I xs) k = (atI xs k).map .int := by
  unfold atI
  rw [I_len]
  cases ixN xs.length k with
  | none => rfl
  | some j => simp
theorem atN {α : Type} {xs : List α} {k : Nat} {x : α} (hx : xs[k]? = some x) : atI xs (k : Int) = some x := atI_nat hx
/-! types -/
@[simp] theorem v_isi {T : String} : fIsi T fe env h = (fe env h).bind fun a h1 => match tyN a with
  | some t => .ok (.dat (.bool (isT t T))) h1
  | none => .er := rfl
@[simp] theorem tyN_int {x : Int} : tyN (.dat (.int x)) = some "int" := (rfl)
@[simp] theorem tyN_none : tyN (.dat .none) = some "NoneType" := (rfl)
@[simp] theorem tyN_bool {x : Bool} : tyN (.dat (.bool x)) = some "bool" := (rfl)
@[simp] theorem tyN_str {x : Str} : tyN (.dat (.str x)) = some "str" := (rfl)
@[simp] theorem tyN_tup {ds : List D} : tyN (.dat (.tuple ds)) = some "tuple" := (rfl)
@[simp] theorem tyN_list {ds : List D} : tyN (.dat (.list ds)) = some "list" := (rfl)
@[simp] theorem isT_self {t : String} : isT t t = true := by simp [isT]
@[simp] theorem isT_ib : isT "int" "bool" = false := by decide
/-! statements on lists -/
def mutR (o : Option (Option A)) (gg : List D → List D → Option (List D)) (i : Nat) (fs : AF) (env : En) (h : Hh) : SRes := match o with
  | some (some (.ob (.lst ds))) => onA (fs env h) fun as h1 => onP (stos as) fun es => onP (gg ds es) fun ds' => .nx (env.set i (some (.ob (.lst ds')))) h1
  | some (some (.loc k)) => match h[k]? with
    | some (.lst _) => onA (fs env h) fun as h1 => match h1[k]? with
      | some (.lst ds) => onP (stos as) fun es => onP (gg ds es) fun ds' => .nx env (h1.set k (.lst ds'))
      | _ => .er
    | _ => .er
  | _ => .er
@[simp] theorem v_mut {gg : List D → List D → Option (List D)} : fMut i gg fs env h = mutR env[i]? gg i fs env h := (rfl)
@[simp] theorem mutR_ob {gg : List D → List D → Option (List D)} {ds : List D} : mutR (some (some (.ob (.lst ds)))) gg i fs env h = onA (fs env h) fun as h1 => onP (stos as) fun es => onP (gg ds es) fun ds' => .nx (env.set i (some (.ob (.lst ds')))) h1 := (rfl)
theorem mApp_v {ds : List D} {d : D} (hl : ds.length < LIM) : mApp ds [d] = some (ds ++ [d]) := by show (if _ then _ else _) = _; rw [if_pos hl]
theorem mExt_v {ds es : List D} (hl : ds.length + es.length ≤ LIM) : mExt ds [.list es] = some (ds ++ es) := by show (if _ then _ else _) = _; rw [if_pos hl]
theorem mIns_v {ds : List D} {d : D} {x : Int} (hl : ds.length < LIM) (h0 : 0 ≤ x) (h1 : x < 2 ^ 63) : mIns ds [.int x, d] = some (ds.take x.toNat ++ [d] ++ ds.drop x.toNat) := by show (if _ then _ else _) = _; rw [if_pos ⟨hl, h0, h1⟩]
@[simp] theorem mRem_v {ds : List D} {k : Int} : mRem ds [.int k] = (asInts ds).bind fun ns => if k ∈ ns then some (I (ns.erase k)) else none := (rfl)
@[simp] theorem v_par {js : List Nat} {ms : List Bool} : fPar js ms fs env h = onA (fs env h) fun as h1 => onP (conv ms as) fun as' => if as'.length = js.length then .nx (setsE js as' env) h1 else .er := (rfl)
@[simp] theorem conv_nil : conv [] [] = some [] := (rfl)
@[simp] theorem conv_cons {m : Bool} {ms : List Bool} : conv (m :: ms) (a :: as) = (if m then ownA a else frzA a).bind fun a' => (conv ms as).map (a' :: ·) := (rfl)
@[simp] theorem setsE_nil : setsE [] [] env = env := (rfl)
@[simp] theorem setsE_cons {js : List Nat} : setsE (j :: js) (a :: as) env = setsE js as (env.set j (some a)) := (rfl)
/-! walks -/
def forR (r : Res (List (List D) × Bool)) (js : List Nat) (b : SF) (env : En) : SRes := match r with
  | .ok (dss, st) h1 => if st then loopF js b dss env h1 else .er
  | .exc c h1 => .exc c h1
  | .er => .er
@[simp] theorem v_for {it : IG} {js : List Nat} : fFor it js f env h = forR (it env h) js f env := (rfl)
@[simp] theorem forR_ok {dss : List (List D)} {js : List Nat} : forR (.ok (dss, true) h) js f env = loopF js f dss env h := (rfl)
def compR (r : Res (List (List D) × Bool)) (js own : List Nat) (test : TF) (elt : EF) (env : En) : Res A := r.bind fun o h1 => if o.1.length ≤ LIM then compF js test elt (wipeE env own) o.1 [] h1 else .er
@[simp] theorem v_comp {it : IG} {js own : List Nat} : fComp it js own t fe env h = compR (it env h) js own t fe env := (rfl)
theorem compR_ok {dss : List (List D)} {st : Bool} {js own : List Nat} (hl : dss.length ≤ LIM) : compR (.ok (dss, st) h) js own t fe env = compF js t fe (wipeE env own) dss [] h := by
  show (if _ then _ else _) = _
  rw [if_pos hl]
@[simp] theorem wipe_nil : wipeE env [] = env := (rfl)
@[simp] theorem wipe_cons {vs : List Nat} : wipeE env (i :: vs) = (wipeE env vs).set i none := (rfl)
@[simp] theorem v_yes : tYesF env h = .ok true h := (rfl)
@[simp] theorem bnd_nil : bnd [] [] env = some env := (rfl)
@[simp] theorem bnd_cons {js : List Nat} {d : D} {ds : List D} : bnd (j :: js) (d :: ds) env = bnd js ds (env.set j (some (.dat d))) := (rfl)
def walkR (m : Bool) (r : Res A) : Res (List (List D) × Bool) := r.bind fun a h1 => match walkI a with
  | some (ds, st, _) => match itemsM m ds with
    | some dss => .ok (dss, st) h1
    | none => .er
  | none => .er
@[simp] theorem v_walk {m : Bool} : fWalk m fe env h = walkR m (fe env h) := (rfl)
@[simp] theorem walkR_t {ds : List D} : walkR false (.ok (.dat (.tuple ds)) h) = .ok (ones ds, true) h := (rfl)
@[simp] theorem walkR_l {ds : List D} : walkR false (.ok (.dat (.list ds)) h) = .ok (ones ds, true) h := (rfl)
@[simp] theorem walkR_o {ds : List D} : walkR false (.ok (.ob (.lst ds)) h) = .ok (ones ds, true) h := (rfl)
@[simp] theorem walkR_s {ds : List D} : walkR false (.ok (.sn (.lst ds)) h) = .ok (ones ds, false) h := (rfl)
def enumR (r : Res (List A)) : Res (List (List D) × Bool) := r.bind fun as h1 => match as with
  | [a] => match walkI a with
    | some (ds, st, _) => .ok (enumD ds, st) h1
    | none => .er
  | _ => .er
@[simp] theorem v_enum : fEnumB fs env h = enumR (fs env h) := (rfl)
@[simp] theorem enumR_t {ds : List D} : enumR (.ok [.dat (.tuple ds)] h) = .ok (enumD ds, true) h := (rfl)
@[simp] theorem enumR_l {ds : List D} : enumR (.ok [.dat (.list ds)] h) = .ok (enumD ds, true) h := (rfl)
@[simp] theorem enumR_o {ds : List D} : enumR (.ok [.ob (.lst ds)] h) = .ok (enumD ds, true) h := (rfl)
@[simp] theorem enumR_s {ds : List D} : enumR (.ok [.sn (.lst ds)] h) = .ok (enumD ds, false) h := (rfl)
def zipR (r : Res (List A)) : Res (List (List D) × Bool) := r.bind fun as h1 => match as with
  | [a, b] => match walkI a, walkI b with
    | some (xs, s1, _), some (ys, s2, _) => .ok (zipD xs ys, s1 && s2) h1
    | _, _ => .er
  | _ => .er
@[simp] theorem v_zip : fZip fs env h = zipR (fs env h) := (rfl)
@[simp] theorem walkI_t {ds : List D} : walkI (.dat (.tuple ds)) = some (ds, true, false) := (rfl)
@[simp] theorem walkI_l {ds : List D} : walkI (.dat (.list ds)) = some (ds, true, true) := (rfl)
@[simp] theorem walkI_o {ds : List D} : walkI (.ob (.lst ds)) = some (ds, true, true) := (rfl)
@[simp] theorem walkI_s {ds : List D} : walkI (.sn (.lst ds)) = some (ds, false, true) := (rfl)
@[simp] theorem zipR_ok : zipR (.ok [a, b] h) = match walkI a, walkI b with
    | some (xs, s1, _), some (ys, s2, _) => .ok (zipD xs ys, s1 && s2) h
    | _, _ => .er := rfl
def rng1R (r : Res (List A)) : Res (List (List D) × Bool) := r.bind fun as h1 => match as with
  | [.dat (.int j)] => if -(2 ^ 62) ≤ j ∧ j < 2 ^ 62 then .ok (rgs 0 j.toNat, true) h1 else .er
  | _ => .er
@[simp] theorem v_rng1 : fRng1 fs env h = rng1R (fs env h) := (rfl)
theorem rng1R_ok {x : Int} (h1 : -(2 ^ 62) ≤ x) (h2 : x < 2 ^ 62) : rng1R (.ok [.dat (.int x)] h) = .ok (rgs 0 x.toNat, true) h := by
  show (if _ then _ else _) = _
  rw [if_pos ⟨h1, h2⟩]
theorem rng1N {x : Nat} (h2 : x < 1000000) : rng1R (.ok [.dat (.int x)] h) = .ok ((List.range x).map fun (i : Nat) => [PyData.int (i : Int)], true) h := by
  rw [rng1R_ok (by omega) (by omega)]
  unfold rgs
  simp
def rng2R (r : Res (List A)) : Res (List (List D) × Bool) := r.bind fun as h1 => match as with
  | [.dat (.int i), .dat (.int j)] => if -(2 ^ 62) ≤ i ∧ i < 2 ^ 62 ∧ -(2 ^ 62) ≤ j ∧ j < 2 ^ 62 then .ok (rgs i (j - i).toNat, true) h1 else .er
  | _ => .er
@[simp] theorem v_rng2 : fRng2 fs env h = rng2R (fs env h) := (rfl)
theorem rng2R_ok {x y : Int} (h1 : -(2 ^ 62) ≤ x ∧ x < 2 ^ 62 ∧ -(2 ^ 62) ≤ y ∧ y < 2 ^ 62) : rng2R (.ok [.dat (.int x), .dat (.int y)] h) = .ok (rgs x (y - x).toNat, true) h := by
  show (if _ then _ else _) = _
  rw [if_pos h1]
end
section
variable {f : SF} {env : En} {h : Hh} {a : A} {js : List Nat} {ds : List D} {r : List (List D)}
def loopK (o : SRes) (js : List Nat) (f : SF) (r : List (List D)) : SRes := match o with
  | .nx env2 h2 => loopF js f r env2 h2
  | .ct env2 h2 => loopF js f r env2 h2
  | .bk env2 h2 => .nx env2 h2
  | .rt a h2 => .rt a h2
  | .exc c h2 => .exc c h2
  | .er => .er
def loopO (o : Option En) (js : List Nat) (f : SF) (r : List (List D)) (h : Hh) : SRes := match o with
  | none => .er
  | some env1 => loopK (f env1 h) js f r
@[simp] theorem v_loop_nil : loopF js f [] env h = .nx env h := (rfl)
@[simp] theorem v_loop_cons : loopF js f (ds :: r) env h = loopO (bnd js ds env) js f r h := (rfl)
@[simp] theorem loopO_some : loopO (some env) js f r h = loopK (f env h) js f r := (rfl)
@[simp] theorem loopK_nx : loopK (.nx env h) js f r = loopF js f r env h := (rfl)
@[simp] theorem loopK_rt : loopK (.rt a h) js f r = .rt a h := (rfl)
end
theorem seq_to {f g : SF} {env env1 : En} {h h1 : Hh} {r : SRes} (e : f env h = .nx env1 h1) (e2 : g env1 h1 = r) : fSeq f g env h = r := by
  rw [v_seq, e, thn_nx, e2]
theorem if_no {t : TF} {f : SF} {env : En} {h h1 : Hh} (e : t env h = .ok false h1) : fIf t f fNx env h = .nx env h1 := by
  rw [v_if, e]; rfl
theorem if_yes {t : TF} {f g : SF} {env : En} {h h1 : Hh} {r : SRes} (e : t env h = .ok true h1) (e2 : f env h1 = r) : fIf t f g env h = r := by
  rw [v_if, e, cnd_ok, if_pos rfl, e2]
theorem if_else {t : TF} {f g : SF} {env : En} {h h1 : Hh} {r : SRes} (e : t env h = .ok false h1) (e2 : g env h1 = r) : fIf t f g env h = r := by
  rw [v_if, e, cnd_ok, if_neg (by decide), e2]
theorem or_no {t t2 : TF} {env : En} {h h1 h2 : Hh} (e : t env h = .ok false h1) (e2 : t2 env h1 = .ok false h2) : fOrT t t2 env h = .ok false h2 := by
  rw [v_or, e, orR_ok]; exact e2
theorem for_to {it : IG} {js : List Nat} {b : SF} {dss : List (List D)} {env : En} {h h1 : Hh} {r : SRes} (e : it env h = .ok (dss, true) h1) (e2 : loopF js b dss env h1 = r) : fFor it js b env h = r := by
  rw [v_for, e, forR_ok, e2]
theorem loop_to {js : List Nat} {b : SF} {ds : List D} {dss : List (List D)} {env env1 env2 : En} {h h2 : Hh} {r : SRes} (e1 : bnd js ds env = some env1) (e2 : b env1 h = .nx env2 h2) (e3 : loopF js b dss env2 h2 = r) : loopF js b (ds :: dss) env h = r := by
  rw [v_loop_cons, e1, loopO_some, e2, loopK_nx, e3]
/-! comprehensions and loops, whole -/
theorem comp_gen {α : Type} {js : List Nat} {test : TF} {elt : EF} {env : En} {h : Hh} (e : α → List D) (p : α → Bool) (f : α → D) : ∀ (l : List α) (acc : List D),
    (∀ x ∈ l, ∃ env1, bnd js (e x) env = some env1 ∧ test env1 h = .ok (p x) h ∧ (p x = true → ∃ a, elt env1 h = .ok a h ∧ sto a = some (f x))) →
    compF js test elt env (l.map e) acc h = .ok (.ob (.lst (acc ++ (l.filter p).map f))) h
  | [], acc, _ => by simp [compF]
  | x :: l, acc, H => by
    obtain ⟨env1, h1, h2, h3⟩ := H x List.mem_cons_self
    rw [List.map_cons, compF, h1]
    simp only
    rw [h2]
    have ih := comp_gen (js := js) (test := test) (elt := elt) (env := env) (h := h) e p f l
    cases hp : p x with
    | false =>
      simp only
      rw [ih _ fun y hy => H y (List.mem_cons_of_mem _ hy), List.filter_cons, hp]
      rfl
    | true =>
      obtain ⟨a, h4, h5⟩ := h3 hp
      simp only
      rw [h4]
      simp only
      rw [h5]
      simp only
      rw [ih _ fun y hy => H y (List.mem_cons_of_mem _ hy), List.filter_cons, hp]
      simp
theorem comp_all {α : Type} {js : List Nat} {elt : EF} {env : En} {h : Hh} (e : α → List D) (f : α → D) (l : List α)
    (H : ∀ x ∈ l, ∃ env1, bnd js (e x) env = some env1 ∧ ∃ a, elt env1 h = .ok a h ∧ sto a = some (f x)) :
    compF js tYesF elt env (l.map e) [] h = .ok (.ob (.lst (l.map f))) h := by
  rw [comp_gen e (fun _ => true) f l [] fun x hx => by
    obtain ⟨env1, h1, h2⟩ := H x hx
    exact ⟨env1, h1, rfl, fun _ => h2⟩, List.filter_eq_self.mpr fun _ _ => rfl]
  rfl
/-- a loop by an invariant of what is done -/
theorem loop_ind {α : Type} {js : List Nat} {b : SF} (e : α → List D) (I : List α → En → Hh → Prop) (l : List α)
    (H : ∀ pre x post, l = pre ++ x :: post → ∀ env h, I pre env h → ∃ env1 env2 h2, bnd js (e x) env = some env1 ∧ b env1 h = .nx env2 h2 ∧ I (pre ++ [x]) env2 h2) :
    ∀ env h, I [] env h → ∃ env' h', loopF js b (l.map e) env h = .nx env' h' ∧ I l env' h' := by
  have go : ∀ (post pre : List α), l = pre ++ post → ∀ env h, I pre env h → ∃ env' h', loopF js b (post.map e) env h = .nx env' h' ∧ I l env' h' := by
    intro post
    induction post with
    | nil =>
      intro pre el env h hi
      rw [List.append_nil] at el
      exact ⟨env, h, rfl, el ▸ hi⟩
    | cons x post ih =>
      intro pre el env h hi
      obtain ⟨env1, env2, h2, h3, h4, h5⟩ := H pre x post el env h hi
      obtain ⟨env', h', h6, h7⟩ := ih (pre ++ [x]) (by rw [el]; simp) env2 h2 h5
      refine ⟨env', h', ?_, h7⟩
      rw [List.map_cons, loopF, h3]
      simp only
      rw [h4]
      exact h6
  exact fun env h hi => go l [] rfl env h hi
/-- a loop by a fold; what the names of the loop hold is of no account -/
theorem loop_fold {α σ J : Type} {js : List Nat} {b : SF} {h : Hh} (e : α → List D) (enc : σ → J → En) (step : σ → α → σ) : ∀ (l : List α),
    (∀ x ∈ l, ∀ s j, ∃ j' env1, bnd js (e x) (enc s j) = some env1 ∧ b env1 h = .nx (enc (step s x) j') h) →
    ∀ s j, ∃ j', loopF js b (l.map e) (enc s j) h = .nx (enc (l.foldl step s) j') h
  | [], _, s, j => ⟨j, rfl⟩
  | x :: l, H, s, j => by
    obtain ⟨j', env1, h1, h2⟩ := H x List.mem_cons_self s j
    obtain ⟨j2, h3⟩ := loop_fold (js := js) (b := b) (h := h) e enc step l (fun y hy => H y (List.mem_cons_of_mem _ hy)) (step s x) j'
    refine ⟨j2, ?_⟩
    rw [List.map_cons, v_loop_cons, h1, loopO_some, h2, loopK_nx, h3]
    rfl
/-- the same with what holds all along -/
theorem loop_foldP {α σ J : Type} {js : List Nat} {b : SF} {h : Hh} (e : α → List D) (enc : σ → J → En) (step : σ → α → σ) (P : σ → Nat → Prop) : ∀ (l : List α),
    (∀ x ∈ l, ∀ s j k, P s (k + 1) → P (step s x) k ∧ ∃ j' env1, bnd js (e x) (enc s j) = some env1 ∧ b env1 h = .nx (enc (step s x) j') h) →
    ∀ s j, P s l.length → P (l.foldl step s) 0 ∧ ∃ j', loopF js b (l.map e) (enc s j) h = .nx (enc (l.foldl step s) j') h
  | [], _, s, j, hp => ⟨hp, j, rfl⟩
  | x :: l, H, s, j, hp => by
    obtain ⟨p1, j', env1, h1, h2⟩ := H x List.mem_cons_self s j l.length hp
    obtain ⟨p2, j2, h3⟩ := loop_foldP (js := js) (b := b) (h := h) e enc step P l (fun y hy => H y (List.mem_cons_of_mem _ hy)) (step s x) j' p1
    refine ⟨p2, j2, ?_⟩
    rw [List.map_cons, v_loop_cons, h1, loopO_some, h2, loopK_nx, h3]
    rfl
theorem foldl_sum {α : Type} (f : α → Int) : ∀ (l : List α) (s : Int), l.foldl (fun s x => s + f x) s = s + (l.map f).sum
  | [], s => by simp
  | x :: l, s => by rw [List.foldl_cons, foldl_sum f l, List.map_cons, List.sum_cons]; omega
theorem foldl_snoc {α β : Type} (f : α → β) : ∀ (l : List α) (s : List β), l.foldl (fun s x => s ++ [f x]) s = s ++ l.map f
  | [], s => by simp
  | x :: l, s => by rw [List.foldl_cons, foldl_snoc f l, List.map_cons]; simp
def setHR (r : Res A) (i : Nat) (env : En) : SRes := onE r fun a h1 => match a with
  | .ob c => .nx (env.set i (some (.loc h1.length))) (h1 ++ [c.ce])
  | _ => .er
@[simp] theorem ce_lst {ds : List D} : (Cell.lst ds).ce = .lst ds := (rfl)
@[simp] theorem ce_lst2 {ds : List (List D)} : (Cell.lst2 ds).ce = .lst2 ds := (rfl)
@[simp] theorem v_setH {i : Nat} {fe : EF} {env : En} {h : Hh} : fSetH i fe env h = setHR (fe env h) i env := (rfl)
@[simp] theorem setHR_ok {i : Nat} {c : Cell} {env : En} {h : Hh} : setHR (.ok (.ob c) h) i env = .nx (env.set i (some (.loc h.length))) (h ++ [c.ce]) := (rfl)
@[simp] theorem ones_map {α : Type} (xs : List α) (f : α → D) : ones (xs.map f) = xs.map fun x => [f x] := by unfold ones; rw [List.map_map]; rfl
theorem enum_map {α : Type} (xs : List α) (f : α → D) : enumD (xs.map f) = xs.zipIdx.map fun p => [.int (p.2 : Nat), f p.1] := by
  unfold enumD
  apply List.ext_getElem?
  intro i
  simp only [List.getElem?_zipWith, List.getElem?_map, List.getElem?_zipIdx, List.length_map]
  cases hx : xs[i]? with
  | none =>
    have : (List.range xs.length)[i]? = none := by rw [List.getElem?_eq_none_iff] at hx ⊢; simpa using hx
    simp [this]
  | some x =>
    have hi : i < xs.length := (List.getElem?_eq_some_iff.mp hx).1
    simp [hi]
theorem enum_I (xs : List Int) : enumD (I xs) = xs.zipIdx.map fun p => [.int (p.2 : Nat), .int p.1] := enum_map xs .int
theorem zip_map {α β : Type} (f : α → D) (g : β → D) : ∀ (xs : List α) (ys : List β), zipD (xs.map f) (ys.map g) = (xs.zip ys).map fun p => [f p.1, g p.2]
  | [], ys => by cases ys <;> rfl
  | x :: xs, [] => by rfl
  | x :: xs, y :: ys => by
    have := zip_map f g xs ys
    unfold zipD at this ⊢
    simp [this]
/-! data that can be compared -/
mutual
theorem eqv_refl : ∀ (d : D), d.canLay0 = true → PyData.eqv d d = true
  | .none, _ => rfl
  | .bool b, _ => by simp [PyData.eqv]
  | .int i, _ => by simp [PyData.eqv]
  | .str x, _ => by simp [PyData.eqv]
  | .list xs, h => by rw [PyData.eqv]; exact eqvAll_refl xs (by simpa [PyData.canLay0] using h)
  | .tuple xs, h => by rw [PyData.eqv]; exact eqvAll_refl xs (by simpa [PyData.canLay0] using h)
  | .dict _, h => by simp [PyData.canLay0] at h
theorem eqvAll_refl : ∀ (ds : List D), PyData.canLayAll0 ds = true → PyData.eqvAll ds ds = true
  | [], _ => rfl
  | d :: ds, h => by
    rw [PyData.canLayAll0, Bool.and_eq_true] at h
    rw [PyData.eqvAll, eqv_refl d h.1, eqvAll_refl ds h.2]; rfl
end
theorem eqv_same {d : D} (h : SeqAt.shaped d = true) : PyData.eqv d d = true := eqv_refl d (SeqAt.canLay_of_shaped h)
theorem gEq_same {a b : A} {d : D} {n : Bool} {h : Hh} (ha : a.dd = some d) (hb : b.dd = some d) (hs : SeqAt.shaped d = true) : gEqB n [a, b] h = some (.dat (.bool (!n))) := by
  rw [gEqB_v, ha, hb]
  simp [hs, eqv_same hs]
/-- lays and is no deeper than so -/
def shp (n : Nat) (d : D) : Prop := d.canLay0 = true ∧ d.depth ≤ n
theorem shaped_of {n : Nat} {d : D} (h : shp n d) (hn : n ≤ 64) : SeqAt.shaped d = true := by
  unfold SeqAt.shaped
  rw [h.1]
  have := h.2
  simp; omega
theorem shps : ∀ {n : Nat} {ds : List D}, (∀ d ∈ ds, shp n d) → PyData.canLayAll0 ds = true ∧ PyData.depthAll ds ≤ n
  | n, [], _ => ⟨rfl, Nat.zero_le _⟩
  | n, d :: ds, h => by
    obtain ⟨h1, h2⟩ := h d List.mem_cons_self
    obtain ⟨h3, h4⟩ := shps fun x hx => h x (List.mem_cons_of_mem _ hx)
    rw [PyData.canLayAll0, PyData.depthAll, h1, h3]
    exact ⟨rfl, by omega⟩
theorem shp_list {n : Nat} {ds : List D} (h : ∀ d ∈ ds, shp n d) : shp (n + 1) (.list ds) := by
  obtain ⟨h1, h2⟩ := shps h
  refine ⟨by rw [PyData.canLay0]; exact h1, ?_⟩
  rw [PyData.depth]; omega
theorem shp_tup {n : Nat} {ds : List D} (h : ∀ d ∈ ds, shp n d) : shp (n + 1) (.tuple ds) := by
  obtain ⟨h1, h2⟩ := shps h
  refine ⟨by rw [PyData.canLay0]; exact h1, ?_⟩
  rw [PyData.depth]; omega
theorem shp_int (n : Nat) (i : Int) : shp n (.int i) := ⟨rfl, by rw [PyData.depth]; exact Nat.zero_le _⟩
theorem shp_none (n : Nat) : shp n .none := ⟨rfl, by rw [PyData.depth]; exact Nat.zero_le _⟩
theorem shp_bool (n : Nat) (b : Bool) : shp n (.bool b) := ⟨rfl, by rw [PyData.depth]; exact Nat.zero_le _⟩
end Mi
/-! What the program's defs give on good values. -/
namespace SL
open PySem L2 Mi Ma
def eO : Option Int → D
  | none => .none
  | some i => .int i
def R (r : Row) : List D := r.map eO
@[simp] theorem R_nil : R [] = [] := (rfl)
@[simp] theorem R_dropLast {xs : Row} : (R xs).dropLast = R xs.dropLast := by unfold R; simp
@[simp] theorem R_ob {xs : List Int} : R (xs.map some) = I xs := by rw [R, List.map_map]; rfl
theorem R_cons {x : Option Int} {xs : Row} : R (x :: xs) = eO x :: R xs := rfl
@[simp] theorem R_len {xs : Row} : (R xs).length = xs.length := by unfold R; simp
@[simp] theorem R_app {xs ys : Row} : R xs ++ R ys = R (xs ++ ys) := by unfold R; simp
@[simp] theorem R_none {xs : Row} : R xs ++ [.none] = R (xs ++ [none]) := by unfold R; simp; rfl
@[simp] theorem R_take {n : Nat} {xs : Row} : (R xs).take n = R (xs.take n) := by unfold R; simp
@[simp] theorem R_drop {n : Nat} {xs : Row} : (R xs).drop n = R (xs.drop n) := by unfold R; simp
@[simp] theorem R_ones {xs : Row} : ones (R xs) = xs.map fun x => [eO x] := by unfold ones R; simp
@[simp] theorem R_get {xs : Row} {k : Nat} : (R xs)[k]? = xs[k]?.map eO := by unfold R; simp
@[simp] theorem eO_none : eO none = .none := (rfl)
@[simp] theorem eO_some {i : Int} : eO (some i) = .int i := (rfl)
@[simp] theorem lfs_I : ∀ xs : List Int, lfs (I xs) = true
  | [] => rfl
  | x :: xs => by rw [I_cons, lfs_cons, lf_int, lfs_I xs]; rfl
@[simp] theorem lfs_R : ∀ xs : Row, lfs (R xs) = true
  | [] => rfl
  | none :: xs => by rw [R_cons, lfs_cons, eO_none, lf_none, lfs_R xs]; rfl
  | some i :: xs => by rw [R_cons, lfs_cons, eO_some, lf_int, lfs_R xs]; rfl
@[simp] theorem R_some {xs : List Int} : R (xs.map some) = I xs := by rw [R, List.map_map]; rfl
theorem shp_I {n : Nat} (xs : List Int) : ∀ d ∈ I xs, shp n d := fun d hd => by
  obtain ⟨i, _, rfl⟩ := List.mem_map.mp hd
  exact shp_int n i
theorem shp_R {n : Nat} (r : Row) : ∀ d ∈ R r, shp n d := fun d hd => by
  obtain ⟨i, _, rfl⟩ := List.mem_map.mp hd
  cases i with
  | none => exact shp_none n
  | some i => exact shp_int n i
theorem rgs1 (n : Nat) : rgs 1 n = (List.range n).map fun (i : Nat) => [PyData.int ((i : Int) + 1)] := by
  unfold rgs
  exact List.map_congr_left fun i _ => by rw [Int.add_comm]
theorem rgs0 (n : Nat) : rgs 0 n = (List.range n).map fun (i : Nat) => [PyData.int (i : Int)] := by
  unfold rgs
  exact List.map_congr_left fun i _ => by rw [Int.zero_add]
@[simp] theorem cut_hiN1 {ds : List D} {y : Nat} : cutD ds none (some ((y : Int) + 1)) = ds.take (y + 1) := by rw [cut_hi (by omega)]; congr 1
@[simp] theorem cut_loN1 {ds : List D} {y : Nat} : cutD ds (some ((y : Int) + 1)) none = ds.drop (y + 1) := by rw [cut_lo (by omega)]; congr 1
@[simp] theorem shd_int {i : Int} : SeqAt.shaped (.int i) = true := shaped_of (shp_int 0 i) (by decide)
@[simp] theorem shd_none : SeqAt.shaped .none = true := shaped_of (shp_none 0) (by decide)
@[simp] theorem shd_bool {b : Bool} : SeqAt.shaped (.bool b) = true := shaped_of (shp_bool 0 b) (by decide)
@[simp] theorem shd_lI {xs : List Int} : SeqAt.shaped (.list (I xs)) = true := shaped_of (shp_list (shp_I (n := 0) xs)) (by decide)
@[simp] theorem shd_tI {xs : List Int} : SeqAt.shaped (.tuple (I xs)) = true := shaped_of (shp_tup (shp_I (n := 0) xs)) (by decide)
@[simp] theorem shd_lR {xs : Row} : SeqAt.shaped (.list (R xs)) = true := shaped_of (shp_list (shp_R (n := 0) xs)) (by decide)
@[simp] theorem shd_tR {xs : Row} : SeqAt.shaped (.tuple (R xs)) = true := shaped_of (shp_tup (shp_R (n := 0) xs)) (by decide)
@[simp] theorem eqv_in {i : Int} : PyData.eqv (.int i) .none = false := by rw [PyData.eqv]
@[simp] theorem eqv_ni {i : Int} : PyData.eqv .none (.int i) = false := by rw [PyData.eqv]
@[simp] theorem eqv_nn : PyData.eqv .none .none = true := by rw [PyData.eqv]
@[simp] theorem eqv_bb {i j : Bool} : PyData.eqv (.bool i) (.bool j) = (i == j) := by rw [PyData.eqv]
@[simp] theorem asInts_gen {α : Type} {f : α → Int} : ∀ {l : List α}, asInts (l.map fun x => .int (f x)) = some (l.map f)
  | [] => rfl
  | x :: l => by rw [List.map_cons, asInts, asInts_gen]; rfl
@[simp] theorem asBools_gen {α : Type} {f : α → Bool} : ∀ {l : List α}, asBools (l.map fun x => .bool (f x)) = some (l.map f)
  | [] => rfl
  | x :: l => by rw [List.map_cons, asBools, asBools_gen]; rfl
@[simp] theorem eqv_int {i j : Int} : PyData.eqv (.int i) (.int j) = (i == j) := (rfl)
theorem eqv_eO : ∀ (a b : Option Int), PyData.eqv (eO a) (eO b) = decide (a = b)
  | none, none => rfl
  | none, some _ => rfl
  | some _, none => rfl
  | some i, some j => by
    show (i == j) = _
    by_cases h : i = j <;> simp [h]
theorem eqvAll_R : ∀ (a b : Row), PyData.eqvAll (R a) (R b) = decide (a = b)
  | [], [] => rfl
  | [], _ :: _ => rfl
  | _ :: _, [] => rfl
  | x :: a, y :: b => by
    rw [R_cons, R_cons, PyData.eqvAll, eqvAll_R a b, eqv_eO]
    by_cases h : x = y <;> simp [h]
theorem eqvAll_I (a b : List Int) : PyData.eqvAll (I a) (I b) = decide (a = b) := by
  rw [← R_some, ← R_some, eqvAll_R]
  by_cases h : a = b
  · simp [h]
  · have : a.map some ≠ b.map some := fun e => h (by
      have := congrArg nums e
      rwa [nums_some, nums_some] at this)
    simp [h, this]
@[simp] theorem eqv_lI {a b : List Int} : PyData.eqv (.list (I a)) (.list (I b)) = decide (a = b) := by rw [PyData.eqv, eqvAll_I]
@[simp] theorem eqv_tI {a b : List Int} : PyData.eqv (.tuple (I a)) (.tuple (I b)) = decide (a = b) := by rw [PyData.eqv, eqvAll_I]
@[simp] theorem eqv_tI0 {a : List Int} : PyData.eqv (.tuple (I a)) (.tuple []) = decide (a = []) := eqv_tI (b := [])
@[simp] theorem eqv_lI0 {a : List Int} : PyData.eqv (.list (I a)) (.list []) = decide (a = []) := eqv_lI (b := [])
@[simp] theorem shd_t0 : SeqAt.shaped (.tuple []) = true := shd_tI (xs := [])
@[simp] theorem shd_l0 : SeqAt.shaped (.list []) = true := shd_lI (xs := [])
@[simp] theorem eqv_t00 : PyData.eqv (.tuple []) (.tuple []) = true := by rw [PyData.eqv, PyData.eqvAll]
@[simp] theorem eqv_l00 : PyData.eqv (.list []) (.list []) = true := by rw [PyData.eqv, PyData.eqvAll]
@[simp] theorem eqv_tR {a b : Row} : PyData.eqv (.tuple (R a)) (.tuple (R b)) = decide (a = b) := by rw [PyData.eqv, eqvAll_R]
@[simp] theorem fl_R {xs : Row} : fl (R xs) = true := by
  unfold fl
  rw [List.all_eq_true]
  intro d hd
  obtain ⟨i, _, rfl⟩ := List.mem_map.mp hd
  cases i <;> rfl
/-! ### whole numbers -/
variable {h : Hh}
@[simp] theorem any_whole_int (i : Int) : F_is_any_whole [.dat (.int i)] h = .ok (.dat (.bool true)) h := by
  simp [F_is_any_whole, b_is_any_whole]
@[simp] theorem any_whole_none : F_is_any_whole [.dat .none] h = .ok (.dat (.bool false)) h := by
  simp [F_is_any_whole, b_is_any_whole]
  rfl
@[simp] theorem whole_int (i lo hi : Int) : F_is_whole [.dat (.int i), .dat (.int lo), .dat (.int hi)] h = .ok (.dat (.bool (decide (lo ≤ i ∧ i ≤ hi)))) h := by
  simp [F_is_whole, b_is_whole]
  by_cases c : lo ≤ i <;> simp [c]
theorem nums_eq : ∀ r : Row, I (nums r) = (r.filter fun o => o.isSome).map eO
  | [] => rfl
  | none :: r => by
    have := nums_eq r
    simpa [nums] using this
  | some i :: r => by
    have := nums_eq r
    unfold nums at this ⊢
    simp only [List.filterMap_cons, id, I_cons, this]
    simp
@[simp] theorem gLenSet_l {ds : List D} : gLenSet [.dat (.list ds)] h = (asInts ds).bind fun ns => if ns.length ≤ 4000 then some (.dat (.int (uq ns : Nat))) else none := (rfl)
theorem lim {n : Nat} (h : n ≤ 100000) : n ≤ LIM := h
theorem liml {n : Nat} (h : n < 100000) : n < LIM := h
theorem numbers_of_R (r : Row) (hl : r.length ≤ 1000) : F_numbers_of [.dat (.tuple (R r))] h = .ok (.ob (.lst (I (nums r)))) h := by
  simp [F_numbers_of, b_numbers_of]
  rw [compR_ok (lim (by simp; omega))]
  simp
  rw [comp_gen (fun o => [eO o]) (fun o => o.isSome) eO r [] fun x hx => ?_]
  · simp [nums_eq]
  · cases x <;> simp
theorem nums_le (r : Row) : (nums r).length ≤ r.length := List.length_filterMap_le _ _
theorem good_row_R (r : Row) (hl : r.length ≤ 24) (hn : (nums r).Nodup) : F_good_row [.dat (.tuple (R r))] h = .ok (.dat (.bool true)) h := by
  have h1 : ¬ (24 : Int) < r.length := by omega
  have h2 := nums_le r
  have h3 : (nums r).length ≤ 4000 := by omega
  have hu := uq_nodup hn
  simp [F_good_row, b_good_row, h1, numbers_of_R r (by omega), hn, h3, hu]
  rw [compR_ok (lim (by simp; omega))]
  simp
  rw [comp_all (fun o => [eO o]) (fun _ => .bool true) r fun x hx => ?_]
  · simp [numbers_of_R r (by omega), hn, h3, hu]
  · cases x <;> simp
theorem need_row_R (r : Row) (hl : r.length ≤ 24) (hn : (nums r).Nodup) : F_need_row [.dat (.tuple (R r))] h = .ok (.dat .none) h := by
  simp [F_need_row, b_need_row, good_row_R r hl hn]
theorem need_plain_I (xs : List Int) (hl : xs.length ≤ 24) (hn : xs.Nodup) : F_need_plain [.dat (.tuple (I xs))] h = .ok (.dat .none) h := by
  have e := need_row_R (h := []) (xs.map some) (by simpa using hl) (by rw [nums_some]; exact hn)
  rw [R_some] at e
  simp only [F_need_plain, b_need_plain]
  simp [e]
theorem zip_ct {xs : List Int} (hn : xs.Nodup) {p : Int × Nat} (hp : p ∈ xs.zipIdx) : gr p.1 (xs.take p.2) = ct p.1 xs := by
  obtain ⟨v, k⟩ := p
  have hk := List.mk_mem_zipIdx_iff_getElem?.mp hp
  obtain ⟨h1, h2⟩ := List.getElem?_eq_some_iff.mp hk
  have e : xs = xs.take k ++ v :: xs.drop (k + 1) := by
    rw [← h2, List.getElem_cons_drop, List.take_append_drop]
  have hv : v ∉ xs.take k := fun hm => by
    rw [e] at hn
    exact (nodup_app.mp hn).2.2 v hm List.mem_cons_self
  conv => rhs; rw [e]
  rw [ct_split hv]
theorem zipIdx_fst {α β : Type} (f : α → β) (xs : List α) : (xs.zipIdx.map fun p => f p.1) = xs.map f := by
  have : (xs.zipIdx.map fun p => f p.1) = (xs.zipIdx.map Prod.fst).map f := by rw [List.map_map]; rfl
  rw [this, List.zipIdx_map_fst]
theorem counts_of_I {xs : List Int} (hl : xs.length ≤ 1000) (hn : xs.Nodup) : F_counts_of [.dat (.list (I xs))] h = .ok (.ob (.lst (I (cs xs)))) h := by
  simp [F_counts_of, b_counts_of]
  rw [compR_ok (lim (by rw [enumD_len]; simp; omega)), enum_I]
  simp
  rw [comp_all _ (fun p => .int (ct p.1 xs)) _ fun x hx => ?_]
  · simp [cs, zipIdx_fst (fun v => (ct v xs : Int))]
  · have hz := zip_ct hn hx
    unfold gr at hz
    simp [← List.map_take]
    rw [compR_ok (lim (by simp; omega))]
    simp [-List.map_take]
    rw [comp_gen _ (fun y => decide (x.1 < y)) .int _ _ fun y hy => ?_]
    · simp [← hz, List.countP_eq_length_filter]
    · simp
def W (lt : Bool) : Str := if lt then "light" else "heavy"
abbrev S (lt : Bool) (b : Nat) : D := .tuple [.str (W lt), .int b]
@[simp] theorem shd_W {lt : Bool} : SeqAt.shaped (.str (W lt)) = true := by cases lt <;> decide +kernel
@[simp] theorem shd_light : SeqAt.shaped (.str (Str.ofString "light")) = true := by decide +kernel
@[simp] theorem shd_heavy : SeqAt.shaped (.str (Str.ofString "heavy")) = true := by decide +kernel
@[simp] theorem eqv_W {lt : Bool} : PyData.eqv (.str (W lt)) (.str (Str.ofString "light")) = lt := by cases lt <;> rfl
@[simp] theorem eqv_lW {lt : Bool} : PyData.eqv (.str (Str.ofString "light")) (.str (W lt)) = lt := by cases lt <;> rfl
@[simp] theorem eqv_hW {lt : Bool} : PyData.eqv (.str (Str.ofString "heavy")) (.str (W lt)) = !lt := by cases lt <;> rfl
@[simp] theorem eqv_WW {lt l2 : Bool} : PyData.eqv (.str (W lt)) (.str (W l2)) = (lt == l2) := by cases lt <;> cases l2 <;> rfl
@[simp] theorem at0 {α : Type} {x : α} {l : List α} : atI (x :: l) 0 = some x := atN (k := 0) rfl
@[simp] theorem at1 {α : Type} {x y : α} {l : List α} : atI (x :: y :: l) 1 = some y := atN (k := 1) rfl
@[simp] theorem at2 {α : Type} {x y z : α} {l : List α} : atI (x :: y :: z :: l) 2 = some z := atN (k := 2) rfl
theorem pick_of_I {lt : Bool} {b : D} {st : List Int} (hs : st ≠ []) :
    F_pick_of [.dat (.tuple [.str (W lt), b]), .dat (.list (I st))] h = .ok (.dat (.int (pick lt st))) h := by
  have h0 : 0 < st.length := List.length_pos_iff.mpr hs
  cases lt <;> simp [F_pick_of, b_pick_of, h0, pick]
theorem in_order_I {lt : Bool} {b : D} {st : List Int} :
    F_in_order [.dat (.tuple [.str (W lt), b]), .dat (.list (I st))] h = .ok (.ob (.lst (I (ordr lt st)))) h := by
  cases lt <;> simp [F_in_order, b_in_order, ordr]
@[simp] theorem at_last {α : Type} {x : α} {l : List α} : atI (l ++ [x]) (-1) = some x := by
  unfold atI ixN
  rw [if_neg (by decide), if_pos (by simp; omega)]
  have : (-1 + ((l ++ [x]).length : Int)).toNat = l.length := by simp; omega
  rw [this]
  simp
theorem sp_loop {lt : Bool} {b : Nat} {x0 : Option A} (hh : h.all ceLf = true) : ∀ (xs st made : List Int) (j : Option A), xs.length + st.length + made.length ≤ 1000 →
    ∃ st' made' j', loopF [4] (fSeq (fMut 2 mApp (fCons (fVar 4) fNil))
            (fIf
              (fTest
                (fPrim (gD iGt)
                  (fCons (fPrim gLen (fCons (fVar 2) fNil)) (fCons (fIx (fVar 1) (fC (PyData.int 1))) fNil))))
              (fSeq (fMut 3 mApp (fCons (fCallP F_pick_of (fCons (fVar 1) (fCons (fVar 2) fNil))) fNil))
                (fMut 2 mRem (fCons (fIx (fVar 3) (f1 iNeg (fC (PyData.int 1)))) fNil)))
              fNx)) (xs.map fun x => [PyData.int x]) [x0, some (.dat (S lt b)), some (.ob (.lst (I st))), some (.ob (.lst (I made))), j] h
        = .nx [x0, some (.dat (S lt b)), some (.ob (.lst (I st'))), some (.ob (.lst (I made'))), j'] h ∧ made' ++ ordr lt st' = made ++ sp lt b st xs ∧ st'.length + made'.length = xs.length + st.length + made.length
  | [], st, made, j, hl => ⟨st, made, j, rfl, rfl, by simp⟩
  | x :: xs, st, made, j, hl => by
    have l1 : ((I st).length) < LIM := liml (by simp at hl ⊢; omega)
    have l2 : ((I made).length) < LIM := liml (by simp at hl ⊢; omega)
    have e1 : I st ++ [.int x] = I (st ++ [x]) := by simp
    have hne : st ++ [x] ≠ [] := by simp
    rw [sp]
    by_cases c : b < (st ++ [x]).length
    · have hm := pick_mem (lt := lt) hne
      have hle : ((st ++ [x]).erase (pick lt (st ++ [x]))).length = (st ++ [x]).length - 1 := List.length_erase_of_mem hm
      obtain ⟨st', made', j', h1, h2, h3⟩ := sp_loop (x0 := x0) (b := b) (lt := lt) hh xs ((st ++ [x]).erase (pick lt (st ++ [x]))) (made ++ [pick lt (st ++ [x])]) (some (.dat (.int x))) (by simp at hl hle ⊢; omega)
      refine ⟨st', made', j', ?_, by rw [h2, if_pos c]; simp, by rw [h3]; simp at hle ⊢; omega⟩
      rw [← h1]
      have hp := pick_of_I (h := []) (lt := lt) (b := .int b) hne
      have c' : (b : Int) < ((st ++ [x]).length : Nat) := by omega
      simp at hp c'
      simp only [List.map_cons, v_loop_cons]
      simp [mApp_v l1, mApp_v l2, hp, c', hh, hm, -List.mem_append]
    · obtain ⟨st', made', j', h1, h2, h3⟩ := sp_loop (x0 := x0) (b := b) (lt := lt) hh xs (st ++ [x]) made (some (.dat (.int x))) (by simp at hl ⊢; omega)
      refine ⟨st', made', j', ?_, by rw [h2, if_neg c], by rw [h3]; simp; omega⟩
      rw [← h1]
      have c' : ¬ (b : Int) < (st.length : Int) + 1 := by simp at c; omega
      simp only [List.map_cons, v_loop_cons]
      simp [mApp_v l1, c']
theorem stretch_past_I {lt : Bool} {b : Nat} {xs : List Int} (hl : xs.length ≤ 1000) (hh : h.all ceLf = true) :
    F_stretch_past [.dat (.tuple (I xs)), .dat (S lt b)] h = .ok (.ob (.lst (I (sh lt b xs)))) h := by
  obtain ⟨st', made', j', h1, h2, h3⟩ := sp_loop (h := h) (lt := lt) (b := b) (x0 := some (.dat (.tuple (I xs)))) hh xs [] [] none (by simpa using hl)
  rw [List.nil_append, sp_sh] at h2
  have l1 : made'.length + (ordr lt st').length ≤ LIM := lim (by
    have := congrArg List.length h2
    have h4 := (sh_perm lt b xs).length_eq
    rw [List.length_append] at this
    omega)
  simp at h1
  simp [F_stretch_past, b_stretch_past, h1, in_order_I, hh, l1, h2]
theorem stretches_loop {x0 : Option A} : ∀ (r : Row) (made : List (List Int)) (own : List Int) (j : Option A), r.length + made.length + own.length ≤ 1000 →
    ∃ made' own' j', loopF [3] (fIf (fTest (fPrim (gD iIsN) (fCons (fVar 3) (fCons (fC .none) fNil)))) (fSeq (fMut 1 mApp (fCons (fPrim gTupOf (fCons (fVar 2) fNil)) fNil)) (fSetO 2 (fPrim gLstD fNil))) (fMut 2 mApp (fCons (fVar 3) fNil)))
      (r.map fun x => [eO x]) [x0, some (.ob (.lst (made.map fun l => .tuple (I l)))), some (.ob (.lst (I own))), j] h
      = .nx [x0, some (.ob (.lst (made'.map fun l => .tuple (I l)))), some (.ob (.lst (I own'))), j'] h ∧ made' ++ [own'] = made ++ lotA own r
  | [], made, own, j, hl => ⟨made, own, j, rfl, rfl⟩
  | none :: r, made, own, j, hl => by
    obtain ⟨made', own', j', h1, h2⟩ := stretches_loop (x0 := x0) r (made ++ [own]) [] (some (.dat .none)) (by simp at hl ⊢; omega)
    refine ⟨made', own', j', ?_, by rw [h2, lotA]; simp⟩
    rw [← h1]
    have l1 : (made.map fun l => PyData.tuple (I l)).length < LIM := liml (by simp at hl ⊢; omega)
    simp [mApp_v l1]
  | some x :: r, made, own, j, hl => by
    obtain ⟨made', own', j', h1, h2⟩ := stretches_loop (x0 := x0) r made (own ++ [x]) (some (.dat (.int x))) (by simp at hl ⊢; omega)
    refine ⟨made', own', j', ?_, by rw [h2, lotA]⟩
    rw [← h1]
    have l1 : (I own).length < LIM := liml (by simp at hl ⊢; omega)
    simp [mApp_v l1]
theorem lotA_len : ∀ (r : Row) (own : List Int), (lotA own r).length ≤ r.length + 1
  | [], own => by simp [lotA]
  | none :: r, own => by have := lotA_len r []; simp [lotA]; omega
  | some x :: r, own => by have := lotA_len r (own ++ [x]); simp [lotA]; omega
theorem stretches_of_R (r : Row) (hl : r.length ≤ 100) : F_stretches_of [.dat (.tuple (R r))] h = .ok (.ob (.lst ((lots r).map fun l => .tuple (I l)))) h := by
  obtain ⟨made', own', j', h1, h2⟩ := stretches_loop (h := h) (x0 := some (.dat (.tuple (R r)))) r [] [] none (by simp; omega)
  have l1 : made'.length + 1 ≤ LIM := lim (by
    have := congrArg List.length h2
    have h3 := lotA_len r []
    simp at this
    omega)
  simp at h1 h2
  simp [F_stretches_of, b_stretches_of, h1, l1, lots, ← h2]
@[simp] theorem RI_app {r : Row} {xs : List Int} : R r ++ I xs = R (r ++ xs.map some) := by rw [← R_ob, R_app]
theorem past_loop {lt : Bool} {b : Nat} {x0 : Option A} (hh : h.all ceLf = true) : ∀ (ls : List (List Int)) (made : Row) (j : Option A), ls.flatten.length + ls.length + made.length ≤ 1000 →
    ∃ j', loopF [3] (fSeq (fMut 2 mExt (fCons (fCallP F_stretch_past (fCons (fVar 3) (fCons (fVar 1) fNil))) fNil)) (fMut 2 mApp (fCons (fC PyData.none) fNil)))
      (ls.map fun x => [PyData.tuple (I x)]) [x0, some (.dat (S lt b)), some (.ob (.lst (R made))), j] h
      = .nx [x0, some (.dat (S lt b)), some (.ob (.lst (R (made ++ (ls.map (sh lt b)).flatMap fun l => l.map some ++ [none])))), j'] h
  | [], made, j, _ => ⟨j, by simp⟩
  | l :: ls, made, j, hl => by
    have hp := (sh_perm lt b l).length_eq
    simp [-List.length_flatten] at hl
    obtain ⟨j', h1⟩ := past_loop (lt := lt) (b := b) (x0 := x0) hh ls (made ++ ((sh lt b l).map some ++ [none])) (some (.dat (.tuple (I l)))) (by simp [-List.length_flatten]; omega)
    refine ⟨j', ?_⟩
    rw [List.map_cons, List.map_cons, List.flatMap_cons, ← List.append_assoc made, ← h1]
    have l1 : (R made).length + (I (sh lt b l)).length ≤ LIM := lim (by simp; omega)
    have l2 : (R (made ++ (sh lt b l).map some)).length < LIM := liml (by simp; omega)
    simp only [List.map_cons, v_loop_cons]
    simp [stretch_past_I (xs := l) (lt := lt) (b := b) (h := []) (by omega) rfl, mExt_v l1, mApp_v l2]
theorem past_of_R {lt : Bool} {b : Nat} (r : Row) (hl : r.length ≤ 100) (hh : h.all ceLf = true) : F_past_of [.dat (.tuple (R r)), .dat (S lt b)] h = .ok (.dat (.tuple (R (pastR lt b r)))) h := by
  have h1 := unl_len (lots r) (lotA_ne r [])
  have h2 : (lots r).length ≤ r.length + 1 := lotA_len r []
  rw [unl_lots] at h1
  obtain ⟨j', e⟩ := past_loop (h := h) (lt := lt) (b := b) (x0 := some (.dat (.tuple (R r)))) hh (lots r) [] none (by simp [-List.length_flatten]; omega)
  simp at e
  simp [F_past_of, b_past_of, stretches_of_R r hl, e]
  have hne : lots r ≠ [] := lotA_ne r []
  rw [pastR, ← unl_drop _ (by simpa using hne)]
theorem good_shelf_S {lt : Bool} {b : Nat} (hb : b ≤ 9) : F_good_shelf [.dat (S lt b)] h = .ok (.dat (.bool true)) h := by
  have h1 : (b : Int) ≤ 9 := by omega
  cases lt <;> simp [F_good_shelf, b_good_shelf, h1]
theorem need_shelf_S {lt : Bool} {b : Nat} (hb : b ≤ 9) : F_need_shelf [.dat (S lt b)] h = .ok (.dat .none) h := by
  simp [F_need_shelf, b_need_shelf, good_shelf_S hb]
theorem past_R {lt : Bool} {b : Nat} (hb : b ≤ 9) {r : Row} (hl : r.length ≤ 24) (hn : (nums r).Nodup) (hh : h.all ceLf = true) : F_past [.dat (.tuple (R r)), .dat (S lt b)] h = .ok (.dat (.tuple (R (pastR lt b r)))) h := by
  simp [F_past, b_past, need_row_R r hl hn, need_shelf_S hb, past_of_R (h := []) r (by omega) rfl]
end SL
/-! What the laws draw. -/
namespace SL
open PySem L2 Mi Ma
def T (n : Nat) : Hh := [.lst (List.replicate n (.int 0))]
theorem lfs_rep : ∀ n : Nat, lfs (List.replicate n (.int 0)) = true
  | 0 => rfl
  | n + 1 => by rw [List.replicate_succ, lfs_cons, lf_int, lfs_rep n]; rfl
@[simp] theorem T_lf {n : Nat} : (T n).all ceLf = true := by
  unfold T
  rw [List.all_cons, ceLf, lfs_rep]; rfl
@[simp] theorem T_zero : [Ce.lst []] = T 0 := (rfl)
def dr (ns : List Int) (n : Nat) (b : Int) : Nat := match F__law_draw [.scr ns, .loc 0, .dat (.int b)] (T n) with
  | .ok (.dat (.int x)) _ => x.toNat
  | _ => 0
variable {ns : List Int}
theorem draw_both (hns : ns.length ≤ 63) {n : Nat} {b : Int} (hn : n < 90000) (hb : 0 < b) : F__law_draw [.scr ns, .loc 0, .dat (.int b)] (T n) = .ok (.dat (.int (dr ns n b))) (T (n + 1)) ∧ (dr ns n b : Int) < b := by
  obtain ⟨v, h1, h2, h3⟩ := draw_ok ns (List.replicate n (.int 0)) b (by simpa using hn) (by omega) hb
  have e : T (n + 1) = [.lst (List.replicate n (.int 0) ++ [.int 0])] := by
    unfold T
    rw [List.replicate_succ']
  have h1' : F__law_draw [.scr ns, .loc 0, .dat (.int b)] (T n) = .ok (.dat (.int v)) (T (n + 1)) := by rw [e]; exact h1
  have e2 : dr ns n b = v.toNat := by
    unfold dr
    rw [h1']
  rw [h1', e2]
  have e3 : ((v.toNat : Nat) : Int) = v := by omega
  rw [e3]
  exact ⟨rfl, h3⟩
theorem draw_T (hns : ns.length ≤ 63) {n : Nat} {b : Int} (hn : n < 90000) (hb : 0 < b) : F__law_draw [.scr ns, .loc 0, .dat (.int b)] (T n) = .ok (.dat (.int (dr ns n b))) (T (n + 1)) := (draw_both hns hn hb).1
theorem dr_lt (hns : ns.length ≤ 63) {n : Nat} {b : Int} (hn : n < 90000) (hb : 0 < b) : (dr ns n b : Int) < b := (draw_both hns hn hb).2
/-- a pick from a list -/
theorem pick_T (hns : ns.length ≤ 63) {n : Nat} {ds : List D} (hn : n < 90000) (hd : ds ≠ []) : ∃ d, d ∈ ds ∧ F__law_pick [.scr ns, .loc 0, .dat (.list ds)] (T n) = .ok (.dat d) (T (n + 1)) := by
  have hp := List.length_pos_iff.mpr hd
  have hb : (0 : Int) < (ds.length : Int) := by omega
  have h1 := dr_lt hns hn hb
  have h2 : dr ns n (ds.length : Int) < ds.length := by omega
  refine ⟨ds[dr ns n (ds.length : Int)], List.getElem_mem _, ?_⟩
  simp [F__law_pick, b__law_pick, draw_T hns hn hb]
  rw [atN (List.getElem?_eq_getElem h2)]
  simp
def plainBody : SF := (fSeq (fSetF 5 (fPrim gAddB (fCons (fPrim gAddB (fCons (fVar 5) (fCons (fC (.int 1)) fNil))) (fCons (fCall F__law_draw (fCons (fVar 0) (fCons (fVar 1) (fCons (fC (.int 3)) fNil)))) fNil))))
  (fSeq (fSetF 7 (fCall F__law_pick (fCons (fVar 0) (fCons (fVar 1) (fCons (fPrim gLstD (fCons (fC (.int 2)) (fCons (fC (.int 4)) (fCons (fC (.int 24)) fNil)))) fNil)))))
  (fMut 4 mIns (fCons (f2 iSub (fPrim gLen (fCons (fVar 4) fNil)) (fCall F__law_draw (fCons (fVar 0) (fCons (fVar 1) (fCons (fPrim (gD iMin2) (fCons (fPrim gAddB (fCons (fPrim gLen (fCons (fVar 4) fNil)) (fCons (fC (.int 1)) fNil))) (fCons (fVar 7) fNil))) fNil))))) (fCons (fVar 5) fNil)))))
theorem plain_step (hns : ns.length ≤ 63) {n : Nat} (hn : n < 80000) {x2 x3 x6 x7 : Option A} {xs : List Int} {num : Int} (hl : xs.length ≤ 1000) :
    ∃ (k i : Nat) (x7' : Option A), plainBody [some (.scr ns), some (.loc 0), x2, x3, some (.ob (.lst (I xs))), some (.dat (.int num)), x6, x7] (T n)
      = .nx [some (.scr ns), some (.loc 0), x2, x3, some (.ob (.lst (I (ins xs i (num + 1 + k))))), some (.dat (.int (num + 1 + k))), x6, x7'] (T (n + 3)) ∧ k < 3 := by
  obtain ⟨d, hd, hp⟩ := pick_T hns (n := n + 1) (ds := [.int 2, .int 4, .int 24]) (by omega) (by simp)
  have h3 := dr_lt hns (n := n) (b := 3) (by omega) (by decide)
  have hd' : ∃ far : Int, d = .int far ∧ 0 < far := by
    simp at hd
    rcases hd with rfl | rfl | rfl
    · exact ⟨2, rfl, by decide⟩
    · exact ⟨4, rfl, by decide⟩
    · exact ⟨24, rfl, by decide⟩
  obtain ⟨far, rfl, hf⟩ := hd'
  have hb : 0 < (if far < (xs.length : Int) + 1 then far else (xs.length : Int) + 1) := by split <;> omega
  have h4 := dr_lt hns (n := n + 1 + 1) (by omega) hb
  have h5 : (if far < (xs.length : Int) + 1 then far else (xs.length : Int) + 1) ≤ xs.length + 1 := by split <;> omega
  generalize hq : dr ns (n + 1 + 1) (if far < (xs.length : Int) + 1 then far else (xs.length : Int) + 1) = q at h4
  have e1 := draw_T hns (n := n) (b := 3) (by omega) (by decide)
  have e2 := draw_T hns (n := n + 1 + 1) (by omega) hb
  rw [hq] at e2
  refine ⟨dr ns n 3, ((xs.length : Int) - q).toNat, some (.dat (.int far)), ?_, by omega⟩
  simp [plainBody, e1, hp, e2]
  rw [mIns_v (liml (by simp; omega)) (by omega) (by omega)]
  simp [ins, I_def]
/-- a row without marks of a law -/
structure Pl (xs : List Int) (m : Nat) : Prop where
  len : xs.length ≤ m
  nd : xs.Nodup
  lo : ∀ x ∈ xs, -100 ≤ x
  hi : ∀ x ∈ xs, x ≤ 100
theorem plain_loop (hns : ns.length ≤ 63) {x2 x3 : Option A} : ∀ (l : List Nat) (n : Nat) (x6 x7 : Option A) (xs : List Int) (num : Int), n + 3 * l.length < 80000 → xs.length + l.length ≤ 1000 → xs.Nodup → (∀ x ∈ xs, -100 ≤ x ∧ x ≤ num) → -100 ≤ num →
    ∃ xs' num' x6' x7', loopF [6] plainBody (l.map fun (i : Nat) => [PyData.int (i : Int)]) [some (.scr ns), some (.loc 0), x2, x3, some (.ob (.lst (I xs))), some (.dat (.int num)), x6, x7] (T n)
      = .nx [some (.scr ns), some (.loc 0), x2, x3, some (.ob (.lst (I xs'))), some (.dat (.int num')), x6', x7'] (T (n + 3 * l.length)) ∧ xs'.length = xs.length + l.length ∧ xs'.Nodup ∧ (∀ x ∈ xs', -100 ≤ x ∧ x ≤ num') ∧ num' ≤ num + 3 * l.length
  | [], n, x6, x7, xs, num, _, _, h3, h4, _ => ⟨xs, num, x6, x7, by simp, by simp, h3, h4, by simp⟩
  | i :: l, n, x6, x7, xs, num, h1, h2, h3, h4, h5 => by
    simp only [List.length_cons] at h1 h2
    obtain ⟨k, j, x7', e, hk⟩ := plain_step hns (n := n) (by omega) (x2 := x2) (x3 := x3) (x6 := some (.dat (.int i))) (x7 := x7) (xs := xs) (num := num) (by omega)
    have hp := ins_perm xs j (num + 1 + k)
    have hmem : ∀ x, x ∈ ins xs j (num + 1 + k) ↔ x ∈ xs ∨ x = num + 1 + k := fun x => by rw [hp.mem_iff]; simp
    obtain ⟨xs', num', x6', x7'', e2, g1, g2, g3, g4⟩ := plain_loop hns (x2 := x2) (x3 := x3) l (n + 3) (some (.dat (.int i))) x7' (ins xs j (num + 1 + k)) (num + 1 + k) (by omega) (by rw [hp.length_eq]; simp; omega)
      (by
        rw [hp.nodup_iff, nodup_app]
        refine ⟨h3, by simp, fun x hx hm => ?_⟩
        have := (h4 x hx).2
        simp at hm
        omega)
      (fun x hx => by
        rcases (hmem x).mp hx with hx | hx
        · have := h4 x hx; omega
        · omega) (by omega)
    refine ⟨xs', num', x6', x7'', ?_, by rw [g1, hp.length_eq]; simp; omega, g2, g3, by simp; omega⟩
    have en : n + 3 * (i :: l).length = n + 3 + 3 * l.length := by simp; omega
    rw [en, ← e2]
    simp only [List.map_cons, v_loop_cons]
    simp [e]
theorem some_plain (hns : ns.length ≤ 63) {n m : Nat} (hn : n < 20000) (hm : m ≤ 24) : ∃ xs n', F__law_some_plain [.scr ns, .loc 0, .dat (.int m)] (T n) = .ok (.dat (.tuple (I xs))) (T n') ∧ Pl xs m ∧ n' ≤ n + 100 := by
  have a1 := dr_lt hns (n := n) (b := (m : Int) + 1) (by omega) (by omega)
  have a2 := dr_lt hns (n := n + 1) (b := 21) (by omega) (by decide)
  have e1 := draw_T hns (n := n) (b := (m : Int) + 1) (by omega) (by omega)
  have e2 := draw_T hns (n := n + 1) (b := 21) (by omega) (by decide)
  generalize dr ns n ((m : Int) + 1) = q at a1 e1
  generalize dr ns (n + 1) 21 = p at a2 e2
  obtain ⟨xs', num', x6', x7'', e3, g1, g2, g3, g4⟩ := plain_loop hns (x2 := some (.dat (.int m))) (x3 := some (.dat (.int q))) (List.range q) (n + 1 + 1) none none [] ((p : Int) - 10) (by simp; omega) (by simp; omega) List.nodup_nil (fun x hx => by cases hx) (by omega)
  have er := rng1N (h := T (n + 1 + 1)) (x := q) (by omega)
  simp only [List.length_range] at g1 g4
  refine ⟨xs', n + 1 + 1 + 3 * q, ?_, ⟨by simp at g1; omega, g2, fun x hx => (g3 x hx).1, fun x hx => ?_⟩, by omega⟩
  · simp [plainBody] at e3
    simp [F__law_some_plain, b__law_some_plain, e1, e2, er, e3]
  · have := (g3 x hx).2
    omega
/-- a row of a law -/
structure Rw (r : Row) (m : Nat) : Prop where
  len : r.length ≤ m + 3
  nums : Pl (nums r) m
theorem nums_ins_none (r : Row) (i : Nat) : nums (r.take i ++ [none] ++ r.drop i) = nums r := by
  rw [nums_app, nums_app]
  have : nums [none] = [] := rfl
  rw [this, List.append_nil, ← nums_app, List.take_append_drop]
def rowBody : SF := (fMut 3 mIns (fCons (fCall F__law_draw (fCons (fVar 0) (fCons (fVar 1) (fCons (fPrim gAddB (fCons (fPrim gLen (fCons (fVar 3) fNil)) (fCons (fC (.int 1)) fNil))) fNil)))) (fCons (fC .none) fNil)))
theorem row_loop (hns : ns.length ≤ 63) {x2 : Option A} : ∀ (l : List Nat) (n : Nat) (x4 : Option A) (r : Row), n + l.length < 80000 → r.length + l.length ≤ 1000 →
    ∃ r' x4', loopF [4] rowBody (l.map fun (i : Nat) => [PyData.int (i : Int)]) [some (.scr ns), some (.loc 0), x2, some (.ob (.lst (R r))), x4] (T n)
      = .nx [some (.scr ns), some (.loc 0), x2, some (.ob (.lst (R r'))), x4'] (T (n + l.length)) ∧ r'.length = r.length + l.length ∧ nums r' = nums r
  | [], n, x4, r, _, _ => ⟨r, x4, by simp, by simp, rfl⟩
  | i :: l, n, x4, r, h1, h2 => by
    simp only [List.length_cons] at h1 h2
    have a1 := dr_lt hns (n := n) (b := (r.length : Int) + 1) (by omega) (by omega)
    have e1 := draw_T hns (n := n) (b := (r.length : Int) + 1) (by omega) (by omega)
    generalize dr ns n ((r.length : Int) + 1) = q at a1 e1
    obtain ⟨r', x4', e2, g1, g2⟩ := row_loop hns (x2 := x2) l (n + 1) (some (.dat (.int i))) (r.take q ++ [none] ++ r.drop q) (by omega) (by simp; omega)
    refine ⟨r', x4', ?_, by rw [g1]; simp; omega, by rw [g2, nums_ins_none]⟩
    have en : n + (i :: l).length = n + 1 + l.length := by simp; omega
    have hi := mIns_v (ds := R r) (d := .none) (x := q) (liml (by simp; omega)) (by omega) (by omega)
    have er : (R r).take q ++ [PyData.none] ++ (R r).drop q = R (r.take q ++ [none] ++ r.drop q) := by simp [R]
    rw [Int.toNat_natCast, er] at hi
    rw [en, ← e2]
    simp only [List.map_cons, v_loop_cons]
    simp [rowBody, e1, hi]
theorem some_row (hns : ns.length ≤ 63) {n m : Nat} (hn : n < 10000) (hm : m ≤ 20) : ∃ r n', F__law_some_row [.scr ns, .loc 0, .dat (.int m)] (T n) = .ok (.dat (.tuple (R r))) (T n') ∧ Rw r m ∧ n' ≤ n + 200 := by
  obtain ⟨xs, n1, e1, p1, g1⟩ := some_plain hns (n := n) (m := m) (by omega) (by omega)
  have a2 := dr_lt hns (n := n1) (b := 4) (by omega) (by decide)
  have e2 := draw_T hns (n := n1) (b := 4) (by omega) (by decide)
  generalize dr ns n1 4 = q at a2 e2
  have hl := p1.len
  obtain ⟨r', x4', e3, g2, g3⟩ := row_loop hns (x2 := some (.dat (.int m))) (List.range q) (n1 + 1) none (xs.map some) (by simp; omega) (by simp; omega)
  have er := rng1N (h := T (n1 + 1)) (x := q) (by omega)
  rw [nums_some] at g3
  simp only [List.length_range, List.length_map] at g2
  refine ⟨r', n1 + 1 + q, ?_, ⟨by omega, by rw [g3]; exact p1⟩, by omega⟩
  simp [rowBody] at e3
  simp [F__law_some_row, b__law_some_row, e1, e2, er, e3]
theorem some_shelf (hns : ns.length ≤ 63) {n : Nat} (hn : n < 10000) : ∃ lt b, F__law_some_shelf [.scr ns, .loc 0] (T n) = .ok (.dat (S lt b)) (T (n + 2)) ∧ b ≤ 4 := by
  obtain ⟨d, hd, hp⟩ := pick_T hns (n := n) (ds := [.str "light", .str "light", .str "heavy"]) (by omega) (by simp)
  have a2 := dr_lt hns (n := n + 1) (b := 5) (by omega) (by decide)
  have e2 := draw_T hns (n := n + 1) (b := 5) (by omega) (by decide)
  have hw : ∃ lt, d = .str (W lt) := by
    simp at hd
    rcases hd with rfl | rfl
    · exact ⟨true, rfl⟩
    · exact ⟨false, rfl⟩
  obtain ⟨lt, rfl⟩ := hw
  refine ⟨lt, dr ns (n + 1) 5, ?_, by omega⟩
  simp [F__law_some_shelf, b__law_some_shelf, hp, e2]
end SL
namespace Lk13
open PySem PySem.Spec PyProof.Rows L2 Mi SL
def topS (i : Nat) : Stmt := PySem.Challenge.pw_shelfrows_k13_lines_refused.main.body.getD i (.Pass ⟨0, 0, 0, 0⟩)
def hdW : Nat → Option D
  | 2 => some (.tuple [.str "refused", .int 2])
  | 10 => some (.tuple [.str "refused", .int 10])
  | 11 => some (.tuple [.str "refused", .int 11])
  | _ => none
/-! is_any_whole -/
abbrev s_is_any_whole : Stmt := topS 17
abbrev N_is_any_whole : List Str := ["thing"]
theorem sc_is_any_whole : FnScope N_is_any_whole ["thing"] (defScope s_is_any_whole) := ⟨rfl, rfl, rfl, by decide +kernel, rfl, by decide +kernel, by decide +kernel⟩
-- is_any_whole: shared
/-! is_whole -/
abbrev s_is_whole : Stmt := topS 18
abbrev N_is_whole : List Str := ["thing", "low", "high"]
theorem sc_is_whole : FnScope N_is_whole ["thing", "low", "high"] (defScope s_is_whole) := ⟨rfl, rfl, rfl, by decide +kernel, rfl, by decide +kernel, by decide +kernel⟩
-- is_whole: shared
/-! numbers_of -/
abbrev s_numbers_of : Stmt := topS 19
abbrev N_numbers_of : List Str := ["row", "one"]
theorem sc_numbers_of : FnScope N_numbers_of ["row"] (defScope s_numbers_of) := ⟨rfl, rfl, rfl, by decide +kernel, rfl, by decide +kernel, by decide +kernel⟩
-- numbers_of: shared
/-! good_shelf -/
abbrev s_good_shelf : Stmt := topS 23
abbrev N_good_shelf : List Str := ["thing"]
theorem sc_good_shelf : FnScope N_good_shelf ["thing"] (defScope s_good_shelf) := ⟨rfl, rfl, rfl, by decide +kernel, rfl, by decide +kernel, by decide +kernel⟩
-- good_shelf: shared
/-! good_line -/
abbrev s_good_line : Stmt := topS 24
abbrev N_good_line : List Str := ["thing", "one"]
theorem sc_good_line : FnScope N_good_line ["thing"] (defScope s_good_line) := ⟨rfl, rfl, rfl, by decide +kernel, rfl, by decide +kernel, by decide +kernel⟩
-- good_line: shared
/-! need_line -/
abbrev s_need_line : Stmt := topS 25
abbrev N_need_line : List Str := ["line"]
theorem sc_need_line : FnScope N_need_line ["line"] (defScope s_need_line) := ⟨rfl, rfl, rfl, by decide +kernel, rfl, by decide +kernel, by decide +kernel⟩
-- need_line: shared
/-! pick_of -/
abbrev s_pick_of : Stmt := topS 26
abbrev N_pick_of : List Str := ["shelf", "standing"]
theorem sc_pick_of : FnScope N_pick_of ["shelf", "standing"] (defScope s_pick_of) := ⟨rfl, rfl, rfl, by decide +kernel, rfl, by decide +kernel, by decide +kernel⟩
-- pick_of: shared
/-! in_order -/
abbrev s_in_order : Stmt := topS 27
abbrev N_in_order : List Str := ["shelf", "standing", "rising"]
theorem sc_in_order : FnScope N_in_order ["shelf", "standing"] (defScope s_in_order) := ⟨rfl, rfl, rfl, by decide +kernel, rfl, by decide +kernel, by decide +kernel⟩
-- in_order: shared
/-! Line___init__ -/
abbrev s_Line___init__ : Stmt := inClass (topS 29) 0
abbrev N_Line___init__ : List Str := ["self", "shelves"]
theorem sc_Line___init__ : FnScope N_Line___init__ ["self", "shelves"] (defScope s_Line___init__) := ⟨rfl, rfl, rfl, by decide +kernel, rfl, by decide +kernel, by decide +kernel⟩
def b_Line___init__ : SF :=
  (fSeq (fDrop (fCallP F_need_line (fCons (fVar 1) fNil)))
  (fSeq (fFldSet 0 "shelves" (fVar 1))
  (fSeq (fFldSet 0 "how" (fPrim gTupD (fCons (fPrim gMulT (fCons (fPrim gTupD (fCons (fPrim gTupD fNil) fNil)) (fCons (fPrim gLen (fCons (fVar 1) fNil)) fNil))) (fCons (fPrim gTupD fNil) fNil))))
  (fSeq (fFldSetL 0 "past")
  (fFldSetL 0 "calls")))))
def F_Line___init__ : FF := fBody0 2 b_Line___init__
/-! Line_call -/
abbrev s_Line_call : Stmt := inClass (topS 29) 1
abbrev N_Line_call : List Str := ["self", "name", "standing", "more", "one"]
theorem sc_Line_call : FnScope N_Line_call ["self", "name", "standing", "more"] (defScope s_Line_call) := ⟨rfl, rfl, rfl, by decide +kernel, rfl, by decide +kernel, by decide +kernel⟩
def b_Line_call : SF :=
  (fSeq (fAppF 0 "past" "how")
  (fSeq (fAppV 0 "calls" 1)
  (fSeq (fFldSet 0 "how" (fPrim gTupD (fCons (fBor 2 (fPrim gTupOf (fCons (fComp (fWalk false (fVar 2)) [4] [4] tYesF (fPrim gTupOf (fCons (fPrim gSort (fCons (fVar 4) fNil)) fNil))) fNil))) (fCons (fPrim gAddB (fCons (fIx (fFld 0 "how") (fC (.int 1))) (fCons (fPrim gTupOf (fCons (fVar 3) fNil)) fNil))) fNil))))
  (fRet (fPrim gListOf (fCons (fVar 3) fNil))))))
def F_Line_call : FF := fBody0 5 b_Line_call
/-! Line_put -/
abbrev s_Line_put : Stmt := inClass (topS 29) 2
abbrev N_Line_put : List Str := ["self", "standing", "at", "numbers", "shelf", "made", "number", "gone"]
theorem sc_Line_put : FnScope N_Line_put ["self", "standing", "at", "numbers"] (defScope s_Line_put) := ⟨rfl, rfl, rfl, by decide +kernel, rfl, by decide +kernel, by decide +kernel⟩
def b_Line_put (FR : FF) : SF :=
  (fSeq (fIf (fTest (fPrim (gEqB false) (fCons (fVar 2) (fCons (fPrim gLen (fCons (fFld 0 "shelves") fNil)) fNil)))) (fRet (fPrim gListOf (fCons (fVar 3) fNil))) fNx)
  (fSeq (fPar [4, 5] [false, true] (fCons (fIx (fFld 0 "shelves") (fVar 2)) (fCons (fPrim gLstD fNil) fNil)))
  (fSeq (fFor (fWalk false (fVar 3)) [6] (fSeq (fMutIxC 1 2 mApp 6)
  (fIf (fTest (fPrim (gD iGt) (fCons (fBor 1 (fPrim gLen (fCons (fIx (fVar 1) (fVar 2)) fNil))) (fCons (fIx (fVar 4) (fC (.int 1))) fNil)))) (fSeq (fSetF 7 (fBor 1 (fCallP F_pick_of (fCons (fVar 4) (fCons (fIx (fVar 1) (fVar 2)) fNil)))))
  (fSeq (fMutIxC 1 2 mRem 7)
  (fMut 5 mExt (fCons (fMeth 0 "put" FR (fCons (fVar 1) (fCons (fPrim gAddB (fCons (fVar 2) (fCons (fC (.int 1)) fNil))) (fCons (fPrim gLstD (fCons (fVar 7) fNil)) fNil)))) fNil)))) fNx)))
  (fRetV 5))))
def FN_Line_put : Nat → FF
  | 0 => fBody0 8 (fSeq fErr (fSeq fErr (fSeq fErr fErr)))
  | m + 1 => fBody0 8 (b_Line_put (FN_Line_put m))
def F_Line_put : FF := FN_Line_put 10
/-! Line_emptied -/
abbrev s_Line_emptied : Stmt := inClass (topS 29) 3
abbrev N_Line_emptied : List Str := ["self", "standing", "made", "at", "shelf", "row"]
theorem sc_Line_emptied : FnScope N_Line_emptied ["self", "standing"] (defScope s_Line_emptied) := ⟨rfl, rfl, rfl, by decide +kernel, rfl, by decide +kernel, by decide +kernel⟩
def b_Line_emptied : SF :=
  (fSeq (fSetO 2 (fPrim gLstD fNil))
  (fSeq (fFor (fEnumB (fCons (fFld 0 "shelves") fNil)) [3, 4] (fSeq (fSetF 5 (fBor 1 (fCallP F_in_order (fCons (fVar 4) (fCons (fIx (fVar 1) (fVar 3)) fNil)))))
  (fSeq (fSetIxN 1 3)
  (fMut 2 mExt (fCons (fMeth 0 "put" F_Line_put (fCons (fVar 1) (fCons (fPrim gAddB (fCons (fVar 3) (fCons (fC (.int 1)) fNil))) (fCons (fVar 5) fNil)))) fNil)))))
  (fRetV 2)))
def F_Line_emptied : FF := fBody0 6 b_Line_emptied
/-! Line_come -/
abbrev s_Line_come : Stmt := inClass (topS 29) 4
abbrev N_Line_come : List Str := ["self", "number", "standing", "one"]
theorem sc_Line_come : FnScope N_Line_come ["self", "number"] (defScope s_Line_come) := ⟨rfl, rfl, rfl, by decide +kernel, rfl, by decide +kernel, by decide +kernel⟩
def b_Line_come : SF :=
  (fSeq (fSetH 2 (fCompL (fWalk false (fIx (fFld 0 "how") (fC (.int 0)))) [3] [3] (fPrim gListOf (fCons (fVar 3) fNil))))
  (fSeq (fIf (fOrT (fNotT (fTest (fCallP F_is_any_whole (fCons (fVar 1) fNil)))) (fTest (fPrim (gInB false) (fCons (fVar 1) (fCons (fCallP F_numbers_of (fCons (fIx (fFld 0 "how") (fC (.int 1))) fNil)) fNil))))) (fRaise 10) fNx)
  (fSeq (fIf (fTest (fBor 2 (fPrim (gD iAny) (fCons (fComp (fWalk false (fVar 2)) [3] [3] tYesF (fPrim (gInB false) (fCons (fVar 1) (fCons (fVar 3) fNil)))) fNil)))) (fRaise 10) fNx)
  (fRet (fMeth 0 "call" F_Line_call (fCons (fC (.str "come")) (fCons (fVar 2) (fCons (fMeth 0 "put" F_Line_put (fCons (fVar 2) (fCons (fC (.int 0)) (fCons (fPrim gLstD (fCons (fVar 1) fNil)) fNil)))) fNil))))))))
def F_Line_come : FF := fBody0 4 b_Line_come
/-! Line_mark -/
abbrev s_Line_mark : Stmt := inClass (topS 29) 5
abbrev N_Line_mark : List Str := ["self", "standing", "one"]
theorem sc_Line_mark : FnScope N_Line_mark ["self"] (defScope s_Line_mark) := ⟨rfl, rfl, rfl, by decide +kernel, rfl, by decide +kernel, by decide +kernel⟩
def b_Line_mark : SF :=
  (fSeq (fSetH 1 (fCompL (fWalk false (fIx (fFld 0 "how") (fC (.int 0)))) [2] [2] (fPrim gListOf (fCons (fVar 2) fNil))))
  (fRet (fMeth 0 "call" F_Line_call (fCons (fC (.str "mark")) (fCons (fVar 1) (fCons (fPrim gAddB (fCons (fMeth 0 "emptied" F_Line_emptied (fCons (fVar 1) fNil)) (fCons (fPrim gLstD (fCons (fC .none) fNil)) fNil))) fNil))))))
def F_Line_mark : FF := fBody0 3 b_Line_mark
/-! Line_finish -/
abbrev s_Line_finish : Stmt := inClass (topS 29) 6
abbrev N_Line_finish : List Str := ["self", "standing", "one"]
theorem sc_Line_finish : FnScope N_Line_finish ["self"] (defScope s_Line_finish) := ⟨rfl, rfl, rfl, by decide +kernel, rfl, by decide +kernel, by decide +kernel⟩
def b_Line_finish : SF :=
  (fSeq (fSetH 1 (fCompL (fWalk false (fIx (fFld 0 "how") (fC (.int 0)))) [2] [2] (fPrim gListOf (fCons (fVar 2) fNil))))
  (fRet (fMeth 0 "call" F_Line_call (fCons (fC (.str "finish")) (fCons (fVar 1) (fCons (fMeth 0 "emptied" F_Line_emptied (fCons (fVar 1) fNil)) fNil))))))
def F_Line_finish : FF := fBody0 3 b_Line_finish
/-! Line_standing -/
abbrev s_Line_standing : Stmt := inClass (topS 29) 7
abbrev N_Line_standing : List Str := ["self", "one"]
theorem sc_Line_standing : FnScope N_Line_standing ["self"] (defScope s_Line_standing) := ⟨rfl, rfl, rfl, by decide +kernel, rfl, by decide +kernel, by decide +kernel⟩
def b_Line_standing : SF :=
  (fRet (fComp (fWalk false (fIx (fFld 0 "how") (fC (.int 0)))) [1] [1] tYesF (fPrim gListOf (fCons (fVar 1) fNil))))
def F_Line_standing : FF := fBody0 2 b_Line_standing
/-! Line_out -/
abbrev s_Line_out : Stmt := inClass (topS 29) 8
abbrev N_Line_out : List Str := ["self"]
theorem sc_Line_out : FnScope N_Line_out ["self"] (defScope s_Line_out) := ⟨rfl, rfl, rfl, by decide +kernel, rfl, by decide +kernel, by decide +kernel⟩
def b_Line_out : SF :=
  (fRet (fIx (fFld 0 "how") (fC (.int 1))))
def F_Line_out : FF := fBody0 1 b_Line_out
/-! Line_back -/
abbrev s_Line_back : Stmt := inClass (topS 29) 9
abbrev N_Line_back : List Str := ["self"]
theorem sc_Line_back : FnScope N_Line_back ["self"] (defScope s_Line_back) := ⟨rfl, rfl, rfl, by decide +kernel, rfl, by decide +kernel, by decide +kernel⟩
def b_Line_back : SF :=
  (fSeq (fIf (fTest (fFldNil 0 "past")) (fRaise 11) fNx)
  (fSeq (fPopSet 0 "how" "past")
  (fPopRet 0 "calls")))
def F_Line_back : FF := fBody0 1 b_Line_back
/-! Line___eq__ -/
abbrev s_Line___eq__ : Stmt := inClass (topS 29) 11
abbrev N_Line___eq__ : List Str := ["self", "other"]
theorem sc_Line___eq__ : FnScope N_Line___eq__ ["self", "other"] (defScope s_Line___eq__) := ⟨rfl, rfl, rfl, by decide +kernel, rfl, by decide +kernel, by decide +kernel⟩
def b_Line___eq__ : SF :=
  (fRet (fAndV (fIsLn 1) (fAndV (fPrim (gEqB false) (fCons (fFld 0 "shelves") (fCons (fFld 1 "shelves") fNil))) (fPrim (gEqB false) (fCons (fFld 0 "how") (fCons (fFld 1 "how") fNil))))))
def F_Line___eq__ : FF := fBody0 2 b_Line___eq__
/-! Line___len__ -/
abbrev s_Line___len__ : Stmt := inClass (topS 29) 12
abbrev N_Line___len__ : List Str := ["self", "one", "number"]
theorem sc_Line___len__ : FnScope N_Line___len__ ["self"] (defScope s_Line___len__) := ⟨rfl, rfl, rfl, by decide +kernel, rfl, by decide +kernel, by decide +kernel⟩
def b_Line___len__ : SF :=
  (fRet (fPrim gLen (fCons (fComp2 (fWalk false (fIx (fFld 0 "how") (fC (.int 0)))) [1] [1, 2] tYesF (fWalk false (fVar 1)) [2] [2] tYesF (fVar 2)) fNil)))
def F_Line___len__ : FF := fBody0 3 b_Line___len__
/-! Line___str__ -/
abbrev s_Line___str__ : Stmt := inClass (topS 29) 13
abbrev N_Line___str__ : List Str := ["self", "one"]
theorem sc_Line___str__ : FnScope N_Line___str__ ["self"] (defScope s_Line___str__) := ⟨rfl, rfl, rfl, by decide +kernel, rfl, by decide +kernel, by decide +kernel⟩
def b_Line___str__ : SF :=
  (fSeq (fIf (fTest (fPrim (gEqB false) (fCons (fIx (fFld 0 "how") (fC (.int 1))) (fCons (fPrim gTupD fNil) fNil)))) (fRet (fC (.str "none"))) fNx)
  (fRet (fPrim (gJoin " ") (fCons (fComp (fWalk false (fIx (fFld 0 "how") (fC (.int 1)))) [1] [1] tYesF (fIfE (fTest (fPrim (gD iIsN) (fCons (fVar 1) (fCons (fC .none) fNil)))) (fC (.str "|")) (fPrim (gD iStr) (fCons (fVar 1) fNil)))) fNil))))
def F_Line___str__ : FF := fBody0 2 b_Line___str__
/-! _law_same_truth -/
abbrev s__law_same_truth : Stmt := topS 31
abbrev N__law_same_truth : List Str := ["got", "due"]
theorem sc__law_same_truth : FnScope N__law_same_truth ["got", "due"] (defScope s__law_same_truth) := ⟨rfl, rfl, rfl, by decide +kernel, rfl, by decide +kernel, by decide +kernel⟩
-- _law_same_truth: shared
/-! _law_which -/
abbrev s__law_which : Stmt := topS 32
abbrev N__law_which : List Str := ["e", "own"]
theorem sc__law_which : FnScope N__law_which ["e"] (defScope s__law_which) := ⟨rfl, rfl, rfl, by decide +kernel, rfl, by decide +kernel, by decide +kernel⟩
def b__law_which (c : Nat) (a : Addr) : SF :=
  (fSeq (fSetO 1 (fPrim gLstD (fCons (fIsX 0 a (decide (c = 0))) (fCons (fIsX 0 a (decide (c = 1))) (fCons (fIsX 0 a (decide (c = 2))) (fCons (fIsX 0 a (decide (c = 3))) fNil))))))
  (fSeq (fMut 1 mExt (fCons (fPrim gLstD (fCons (fIsX 0 a (decide (c = 4))) (fCons (fIsX 0 a (decide (c = 5))) (fCons (fIsX 0 a (decide (c = 6))) (fCons (fIsX 0 a (decide (c = 7))) fNil))))) fNil))
  (fSeq (fMut 1 mExt (fCons (fPrim gLstD (fCons (fIsX 0 a (decide (c = 8))) (fCons (fIsX 0 a (decide (c = 9))) (fCons (fIsX 0 a (decide (c = 10))) (fCons (fIsX 0 a (decide (c = 11))) fNil))))) fNil))
  (fSeq (fIf (fOrT (fTest (fPrim (gEqB true) (fCons (fCountF (fVar 1) (fC (.bool true))) (fCons (fC (.int 1)) fNil)))) (fNotT (fTest (fIsX 0 a true)))) (fRet (fPrim gTupD (fCons (fC (.str "refused")) (fCons (f1 iNeg (fC (.int 1))) fNil)))) fNx)
  (fRet (fPrim gTupD (fCons (fC (.str "refused")) (fCons (fIndex (fVar 1) (fC (.bool true))) fNil))))))))
theorem fIsX_ok {a : Addr} {b : Bool} {env : En} {h : Hh} : fIsX 0 a b (some (.loc 0) :: env) (.pt a :: h) = .ok (.dat (.bool b)) (.pt a :: h) := by simp [fIsX]
theorem ev__law_which : ∀ c d, hdW c = some d → lf d = true ∧ ∀ a, b__law_which c a (some (.loc 0) :: List.replicate (N__law_which.length - 1) none) [.pt a] = .rt (.dat d) [.pt a] := by
  intro c d h
  unfold hdW at h
  split at h
  · cases h; refine ⟨rfl, fun a => ?_⟩; refine seq_to (env1 := [some (.loc 0), some (.ob (.lst [.bool false, .bool false, .bool true, .bool false]))]) (h1 := [.pt a]) (by simp [fIsX_ok]) ?_; refine seq_to (env1 := [some (.loc 0), some (.ob (.lst [.bool false, .bool false, .bool true, .bool false, .bool false, .bool false, .bool false, .bool false]))]) (h1 := [.pt a]) (by simp [fIsX_ok]; rfl) ?_; refine seq_to (env1 := [some (.loc 0), some (.ob (.lst [.bool false, .bool false, .bool true, .bool false, .bool false, .bool false, .bool false, .bool false, .bool false, .bool false, .bool false, .bool false]))]) (h1 := [.pt a]) (by simp [fIsX_ok]; rfl) ?_
    exact seq_to (env1 := [some (.loc 0), some (.ob (.lst [.bool false, .bool false, .bool true, .bool false, .bool false, .bool false, .bool false, .bool false, .bool false, .bool false, .bool false, .bool false]))]) (h1 := [.pt a]) (if_no (or_no (h1 := [.pt a]) (by cbv) (by simp [fIsX_ok]))) (by cbv)
  · cases h; refine ⟨rfl, fun a => ?_⟩; refine seq_to (env1 := [some (.loc 0), some (.ob (.lst [.bool false, .bool false, .bool false, .bool false]))]) (h1 := [.pt a]) (by simp [fIsX_ok]) ?_; refine seq_to (env1 := [some (.loc 0), some (.ob (.lst [.bool false, .bool false, .bool false, .bool false, .bool false, .bool false, .bool false, .bool false]))]) (h1 := [.pt a]) (by simp [fIsX_ok]; rfl) ?_; refine seq_to (env1 := [some (.loc 0), some (.ob (.lst [.bool false, .bool false, .bool false, .bool false, .bool false, .bool false, .bool false, .bool false, .bool false, .bool false, .bool true, .bool false]))]) (h1 := [.pt a]) (by simp [fIsX_ok]; rfl) ?_
    exact seq_to (env1 := [some (.loc 0), some (.ob (.lst [.bool false, .bool false, .bool false, .bool false, .bool false, .bool false, .bool false, .bool false, .bool false, .bool false, .bool true, .bool false]))]) (h1 := [.pt a]) (if_no (or_no (h1 := [.pt a]) (by cbv) (by simp [fIsX_ok]))) (by cbv)
  · cases h; refine ⟨rfl, fun a => ?_⟩; refine seq_to (env1 := [some (.loc 0), some (.ob (.lst [.bool false, .bool false, .bool false, .bool false]))]) (h1 := [.pt a]) (by simp [fIsX_ok]) ?_; refine seq_to (env1 := [some (.loc 0), some (.ob (.lst [.bool false, .bool false, .bool false, .bool false, .bool false, .bool false, .bool false, .bool false]))]) (h1 := [.pt a]) (by simp [fIsX_ok]; rfl) ?_; refine seq_to (env1 := [some (.loc 0), some (.ob (.lst [.bool false, .bool false, .bool false, .bool false, .bool false, .bool false, .bool false, .bool false, .bool false, .bool false, .bool false, .bool true]))]) (h1 := [.pt a]) (by simp [fIsX_ok]; rfl) ?_
    exact seq_to (env1 := [some (.loc 0), some (.ob (.lst [.bool false, .bool false, .bool false, .bool false, .bool false, .bool false, .bool false, .bool false, .bool false, .bool false, .bool false, .bool true]))]) (h1 := [.pt a]) (if_no (or_no (h1 := [.pt a]) (by cbv) (by simp [fIsX_ok]))) (by cbv)
  · cases h
/-! _law_ask -/
abbrev s__law_ask : Stmt := topS 33
abbrev N__law_ask : List Str := ["what", "here", "number", "e"]
theorem sc__law_ask : FnScope N__law_ask ["what", "here", "number"] (defScope s__law_ask) := ⟨rfl, rfl, rfl, by decide +kernel, rfl, by decide +kernel, by decide +kernel⟩
def b__law_ask : SF :=
  (fTry (fRet (fIfE (fTest (fPrim (gEqB false) (fCons (fVar 0) (fCons (fC (.int 0)) fNil)))) (fMeth 1 "come" F_Line_come (fCons (fVar 2) fNil)) (fMeth 1 "back" F_Line_back fNil))) hdW)
def F__law_ask : FF := fBody0 4 b__law_ask
/-! law -/
abbrev s_law : Stmt := topS 34
abbrev N_law : List Str := ["script", "town", "here", "bad_one", "other", "number", "told", "again"]
theorem sc_law : FnScope N_law ["script"] (defScope s_law) := ⟨rfl, rfl, rfl, by decide +kernel, rfl, by decide +kernel, by decide +kernel⟩
def b_law : SF :=
  (fSeq (fSetH 1 (fPrim gLstD fNil))
  (fSeq (fSetF 2 (fMake F_Line___init__ (fCons (fPrim gTupD (fCons (fPrim gTupD (fCons (fC (.str "light")) (fCons (fC (.int 1)) fNil))) (fCons (fPrim gTupD (fCons (fC (.str "heavy")) (fCons (fC (.int 1)) fNil))) fNil))) fNil)))
  (fSeq (fIf (fOrT (fTest (fPrim (gEqB true) (fCons (fCall F__law_ask (fCons (fC (.int 1)) (fCons (fVar 2) (fCons (fC .none) fNil)))) (fCons (fPrim gTupD (fCons (fC (.str "refused")) (fCons (fC (.int 11)) fNil))) fNil)))) (fTest (fPrim (gEqB true) (fCons (fStrO 2 F_Line___str__) (fCons (fC (.str "none")) fNil))))) (fRet (fC (.bool false))) fNx)
  (fSeq (fFor (fWalk false (fPrim gLstD (fCons (fC .none) (fCons (fC (.str "1")) (fCons (fC (.bool true)) (fCons (fPrim gLstD (fCons (fC (.int 1)) fNil)) (fCons (fPrim gTupD (fCons (fC (.int 1)) fNil)) (fCons (fPrim gTupD fNil) fNil)))))))) [3] (fIf (fTest (fPrim (gEqB true) (fCons (fCall F__law_ask (fCons (fC (.int 0)) (fCons (fVar 2) (fCons (fVar 3) fNil)))) (fCons (fPrim gTupD (fCons (fC (.str "refused")) (fCons (fC (.int 10)) fNil))) fNil)))) (fRet (fC (.bool false))) fNx))
  (fSeq (fIf (fOrT (fTest (fPrim (gEqB true) (fCons (fPrim gLstD (fCons (fMeth 2 "come" F_Line_come (fCons (fC (.int 5)) fNil)) (fCons (fMeth 2 "come" F_Line_come (fCons (fC (.int 2)) fNil)) (fCons (fMeth 2 "come" F_Line_come (fCons (fC (.int 7)) fNil)) fNil)))) (fCons (fPrim gLstD (fCons (fPrim gLstD fNil) (fCons (fPrim gLstD fNil) (fCons (fPrim gLstD (fCons (fC (.int 5)) fNil)) fNil)))) fNil)))) (fTest (fPrim (gEqB true) (fCons (fMeth 2 "standing" F_Line_standing fNil) (fCons (fPrim gLstD (fCons (fPrim gLstD (fCons (fC (.int 7)) fNil)) (fCons (fPrim gLstD (fCons (fC (.int 2)) fNil)) fNil))) fNil))))) (fRet (fC (.bool false))) fNx)
  (fSeq (fIf (fOrT (fTest (fPrim (gEqB true) (fCons (fComp (fWalk false (fPrim gTupD (fCons (fC (.int 5)) (fCons (fC (.int 2)) (fCons (fC (.int 7)) fNil))))) [5] [5] tYesF (fCall F__law_ask (fCons (fC (.int 0)) (fCons (fVar 2) (fCons (fVar 5) fNil))))) (fCons (fPrim gMulL (fCons (fPrim gLstD (fCons (fPrim gTupD (fCons (fC (.str "refused")) (fCons (fC (.int 10)) fNil))) fNil)) (fCons (fC (.int 3)) fNil))) fNil)))) (fTest (fPrim (gEqB true) (fCons (fLenO 2 F_Line___len__) (fCons (fC (.int 2)) fNil))))) (fRet (fC (.bool false))) fNx)
  (fSeq (fSetF 4 (fMake F_Line___init__ (fCons (fPrim gTupD (fCons (fPrim gTupD (fCons (fC (.str "light")) (fCons (fC (.int 1)) fNil))) (fCons (fPrim gTupD (fCons (fC (.str "heavy")) (fCons (fC (.int 1)) fNil))) fNil))) fNil)))
  (fSeq (fIf (fOrT (fNotT (fTest (fCallP F__law_same_truth (fCons (fEqO F_Line___eq__ (fVar 2) (fVar 4)) (fCons (fC (.bool false)) fNil))))) (fNotT (fTest (fCallP F__law_same_truth (fCons (fEqO F_Line___eq__ (fVar 2) (fC (.str "5"))) (fCons (fC (.bool false)) fNil)))))) (fRet (fC (.bool false))) fNx)
  (fSeq (fFor (fWalk false (fPrim gTupD (fCons (fC (.int 5)) (fCons (fC (.int 2)) (fCons (fC (.int 7)) fNil))))) [5] (fDrop (fMeth 4 "come" F_Line_come (fCons (fVar 5) fNil))))
  (fSeq (fIf (fOrT (fNotT (fTest (fCallP F__law_same_truth (fCons (fEqO F_Line___eq__ (fVar 2) (fVar 4)) (fCons (fC (.bool true)) fNil))))) (fNotT (fTest (fCallP F__law_same_truth (fCons (fEqO F_Line___eq__ (fMake F_Line___init__ (fCons (fPrim gTupD fNil) fNil)) (fMake F_Line___init__ (fCons (fPrim gTupD (fCons (fPrim gTupD (fCons (fC (.str "light")) (fCons (fC (.int 0)) fNil))) fNil)) fNil))) (fCons (fC (.bool false)) fNil)))))) (fRet (fC (.bool false))) fNx)
  (fSeq (fIf (fOrT (fTest (fPrim (gEqB true) (fCons (fMeth 2 "mark" F_Line_mark fNil) (fCons (fPrim gLstD (fCons (fC (.int 7)) (fCons (fC (.int 2)) (fCons (fC .none) fNil)))) fNil)))) (fOrT (fTest (fPrim (gEqB true) (fCons (fStrO 2 F_Line___str__) (fCons (fC (.str "5 7 2 |")) fNil)))) (fNotT (fTest (fCallP F__law_same_truth (fCons (fEqO F_Line___eq__ (fVar 2) (fVar 4)) (fCons (fC (.bool false)) fNil))))))) (fRet (fC (.bool false))) fNx)
  (fSeq (fIf (fOrT (fTest (fPrim (gEqB true) (fCons (fMeth 4 "finish" F_Line_finish fNil) (fCons (fPrim gLstD (fCons (fC (.int 7)) (fCons (fC (.int 2)) fNil))) fNil)))) (fOrT (fTest (fPrim (gEqB true) (fCons (fMeth 4 "out" F_Line_out fNil) (fCons (fPrim gTupD (fCons (fC (.int 5)) (fCons (fC (.int 7)) (fCons (fC (.int 2)) fNil)))) fNil)))) (fTest (fPrim (gEqB true) (fCons (fMeth 4 "finish" F_Line_finish fNil) (fCons (fPrim gLstD fNil) fNil)))))) (fRet (fC (.bool false))) fNx)
  (fSeq (fSetF 6 (fComp (fRng1 (fCons (fC (.int 6)) fNil)) [7] [7] tYesF (fCall F__law_ask (fCons (fC (.int 1)) (fCons (fVar 4) (fCons (fC .none) fNil))))))
  (fRet (fPrim (gEqB false) (fCons (fVar 6) (fCons (fPrim gLstD (fCons (fC (.str "finish")) (fCons (fC (.str "finish")) (fCons (fC (.str "come")) (fCons (fC (.str "come")) (fCons (fC (.str "come")) (fCons (fPrim gTupD (fCons (fC (.str "refused")) (fCons (fC (.int 11)) fNil))) fNil))))))) fNil)))))))))))))))))
def F_law : FF := fBody0 8 b_law
set_option maxHeartbeats 0 in
structure Fx (K : PySem.W.Frag) (mg : Str → Option Value) where
  Gm : Nat → Addr
  g_NoRow : mg "NoRow" = some (.ref (Gm 0))
  g_NoShelf : mg "NoShelf" = some (.ref (Gm 1))
  g_NoLine : mg "NoLine" = some (.ref (Gm 2))
  g_NoPlaces : mg "NoPlaces" = some (.ref (Gm 3))
  g_Marked : mg "Marked" = some (.ref (Gm 4))
  g_NoCounts : mg "NoCounts" = some (.ref (Gm 5))
  g_NoLetting : mg "NoLetting" = some (.ref (Gm 6))
  g_TooMany : mg "TooMany" = some (.ref (Gm 7))
  g_NoMove : mg "NoMove" = some (.ref (Gm 8))
  g_NoText : mg "NoText" = some (.ref (Gm 9))
  g_NoNumber : mg "NoNumber" = some (.ref (Gm 10))
  g_Nothing : mg "Nothing" = some (.ref (Gm 11))
  x_NoLine : PySem.W.excIn K (Gm 2) [.type "ValueError", .type "Exception", .type "BaseException", .type "object"] "ValueError.__new__" = true
  k_NoLine : PySem.W.keepIn K (.ref (Gm 2)) = true
  sb_NoLine : PySem.W.subIn K (.ref (Gm 2)) (.type "BaseException") = some true
  ty_NoLine : PySem.W.typeIn K (.ref (Gm 2)) = some (.type "type")
  x_NoNumber : PySem.W.excIn K (Gm 10) [.type "ValueError", .type "Exception", .type "BaseException", .type "object"] "ValueError.__new__" = true
  k_NoNumber : PySem.W.keepIn K (.ref (Gm 10)) = true
  sb_NoNumber : PySem.W.subIn K (.ref (Gm 10)) (.type "BaseException") = some true
  ty_NoNumber : PySem.W.typeIn K (.ref (Gm 10)) = some (.type "type")
  x_Nothing : PySem.W.excIn K (Gm 11) [.type "ValueError", .type "Exception", .type "BaseException", .type "object"] "ValueError.__new__" = true
  k_Nothing : PySem.W.keepIn K (.ref (Gm 11)) = true
  sb_Nothing : PySem.W.subIn K (.ref (Gm 11)) (.type "BaseException") = some true
  ty_Nothing : PySem.W.typeIn K (.ref (Gm 11)) = some (.type "type")
  a_ShelfError : Addr
  g_ShelfError : mg "ShelfError" = some (.ref a_ShelfError)
  exm : ∀ c d, hdW c = some d → PySem.W.exmOne K (.ref (Gm c)) (.ref a_ShelfError) = some true
  excC : ∀ c d, hdW c = some d → ExcC K (Gm c)
  kit : ∀ c d, hdW c = some d → ∀ j, j < 12 → PySem.W.kitOne K (.ref (Gm c)) (.ref (Gm j)) = some (decide (c = j))
  kitV : ∀ c d, hdW c = some d → PySem.W.kitOne K (.ref (Gm c)) (.type "ValueError") = some true
  aLn : Addr
  ln : LnX K aLn
  g_Line : mg "Line" = some (.ref aLn)
  n_calls : NoAttr K aLn "calls"
  n_how : NoAttr K aLn "how"
  n_past : NoAttr K aLn "past"
  n_shelves : NoAttr K aLn "shelves"
  f_is_any_whole : Addr
  fd_is_any_whole : FuncData
  F_is_any_whole : Fun K "is_any_whole" "is_any_whole" s_is_any_whole f_is_any_whole fd_is_any_whole
  b_is_any_whole : Binds K fd_is_any_whole ["thing"] []
  g_is_any_whole : mg "is_any_whole" = some (.ref f_is_any_whole)
  f_is_whole : Addr
  fd_is_whole : FuncData
  F_is_whole : Fun K "is_whole" "is_whole" s_is_whole f_is_whole fd_is_whole
  b_is_whole : Binds K fd_is_whole ["thing", "low", "high"] []
  g_is_whole : mg "is_whole" = some (.ref f_is_whole)
  f_numbers_of : Addr
  fd_numbers_of : FuncData
  F_numbers_of : Fun K "numbers_of" "numbers_of" s_numbers_of f_numbers_of fd_numbers_of
  b_numbers_of : Binds K fd_numbers_of ["row"] []
  g_numbers_of : mg "numbers_of" = some (.ref f_numbers_of)
  f_good_shelf : Addr
  fd_good_shelf : FuncData
  F_good_shelf : Fun K "good_shelf" "good_shelf" s_good_shelf f_good_shelf fd_good_shelf
  b_good_shelf : Binds K fd_good_shelf ["thing"] []
  g_good_shelf : mg "good_shelf" = some (.ref f_good_shelf)
  f_good_line : Addr
  fd_good_line : FuncData
  F_good_line : Fun K "good_line" "good_line" s_good_line f_good_line fd_good_line
  b_good_line : Binds K fd_good_line ["thing"] []
  g_good_line : mg "good_line" = some (.ref f_good_line)
  f_need_line : Addr
  fd_need_line : FuncData
  F_need_line : Fun K "need_line" "need_line" s_need_line f_need_line fd_need_line
  b_need_line : Binds K fd_need_line ["line"] []
  g_need_line : mg "need_line" = some (.ref f_need_line)
  f_pick_of : Addr
  fd_pick_of : FuncData
  F_pick_of : Fun K "pick_of" "pick_of" s_pick_of f_pick_of fd_pick_of
  b_pick_of : Binds K fd_pick_of ["shelf", "standing"] []
  g_pick_of : mg "pick_of" = some (.ref f_pick_of)
  f_in_order : Addr
  fd_in_order : FuncData
  F_in_order : Fun K "in_order" "in_order" s_in_order f_in_order fd_in_order
  b_in_order : Binds K fd_in_order ["shelf", "standing"] []
  g_in_order : mg "in_order" = some (.ref f_in_order)
  f_Line___init__ : Addr
  fd_Line___init__ : FuncData
  F_Line___init__ : Fun K "__init__" "Line.__init__" s_Line___init__ f_Line___init__ fd_Line___init__
  b_Line___init__ : Binds K fd_Line___init__ ["self", "shelves"] []
  M_Line___init__ : Meth K aLn "__init__" f_Line___init__
  f_Line_call : Addr
  fd_Line_call : FuncData
  F_Line_call : Fun K "call" "Line.call" s_Line_call f_Line_call fd_Line_call
  b_Line_call : Binds K fd_Line_call ["self", "name", "standing", "more"] []
  M_Line_call : Meth K aLn "call" f_Line_call
  f_Line_put : Addr
  fd_Line_put : FuncData
  F_Line_put : Fun K "put" "Line.put" s_Line_put f_Line_put fd_Line_put
  b_Line_put : Binds K fd_Line_put ["self", "standing", "at", "numbers"] []
  M_Line_put : Meth K aLn "put" f_Line_put
  f_Line_emptied : Addr
  fd_Line_emptied : FuncData
  F_Line_emptied : Fun K "emptied" "Line.emptied" s_Line_emptied f_Line_emptied fd_Line_emptied
  b_Line_emptied : Binds K fd_Line_emptied ["self", "standing"] []
  M_Line_emptied : Meth K aLn "emptied" f_Line_emptied
  f_Line_come : Addr
  fd_Line_come : FuncData
  F_Line_come : Fun K "come" "Line.come" s_Line_come f_Line_come fd_Line_come
  b_Line_come : Binds K fd_Line_come ["self", "number"] []
  M_Line_come : Meth K aLn "come" f_Line_come
  f_Line_mark : Addr
  fd_Line_mark : FuncData
  F_Line_mark : Fun K "mark" "Line.mark" s_Line_mark f_Line_mark fd_Line_mark
  b_Line_mark : Binds K fd_Line_mark ["self"] []
  M_Line_mark : Meth K aLn "mark" f_Line_mark
  f_Line_finish : Addr
  fd_Line_finish : FuncData
  F_Line_finish : Fun K "finish" "Line.finish" s_Line_finish f_Line_finish fd_Line_finish
  b_Line_finish : Binds K fd_Line_finish ["self"] []
  M_Line_finish : Meth K aLn "finish" f_Line_finish
  f_Line_standing : Addr
  fd_Line_standing : FuncData
  F_Line_standing : Fun K "standing" "Line.standing" s_Line_standing f_Line_standing fd_Line_standing
  b_Line_standing : Binds K fd_Line_standing ["self"] []
  M_Line_standing : Meth K aLn "standing" f_Line_standing
  f_Line_out : Addr
  fd_Line_out : FuncData
  F_Line_out : Fun K "out" "Line.out" s_Line_out f_Line_out fd_Line_out
  b_Line_out : Binds K fd_Line_out ["self"] []
  M_Line_out : Meth K aLn "out" f_Line_out
  f_Line_back : Addr
  fd_Line_back : FuncData
  F_Line_back : Fun K "back" "Line.back" s_Line_back f_Line_back fd_Line_back
  b_Line_back : Binds K fd_Line_back ["self"] []
  M_Line_back : Meth K aLn "back" f_Line_back
  f_Line___eq__ : Addr
  fd_Line___eq__ : FuncData
  F_Line___eq__ : Fun K "__eq__" "Line.__eq__" s_Line___eq__ f_Line___eq__ fd_Line___eq__
  b_Line___eq__ : Binds K fd_Line___eq__ ["self", "other"] []
  M_Line___eq__ : Meth K aLn "__eq__" f_Line___eq__
  f_Line___len__ : Addr
  fd_Line___len__ : FuncData
  F_Line___len__ : Fun K "__len__" "Line.__len__" s_Line___len__ f_Line___len__ fd_Line___len__
  b_Line___len__ : Binds K fd_Line___len__ ["self"] []
  M_Line___len__ : Meth K aLn "__len__" f_Line___len__
  f_Line___str__ : Addr
  fd_Line___str__ : FuncData
  F_Line___str__ : Fun K "__str__" "Line.__str__" s_Line___str__ f_Line___str__ fd_Line___str__
  b_Line___str__ : Binds K fd_Line___str__ ["self"] []
  M_Line___str__ : Meth K aLn "__str__" f_Line___str__
  f__law_same_truth : Addr
  fd__law_same_truth : FuncData
  F__law_same_truth : Fun K "_law_same_truth" "_law_same_truth" s__law_same_truth f__law_same_truth fd__law_same_truth
  b__law_same_truth : Binds K fd__law_same_truth ["got", "due"] []
  g__law_same_truth : mg "_law_same_truth" = some (.ref f__law_same_truth)
  f__law_which : Addr
  fd__law_which : FuncData
  F__law_which : Fun K "_law_which" "_law_which" s__law_which f__law_which fd__law_which
  b__law_which : Binds K fd__law_which ["e"] []
  g__law_which : mg "_law_which" = some (.ref f__law_which)
  f__law_ask : Addr
  fd__law_ask : FuncData
  F__law_ask : Fun K "_law_ask" "_law_ask" s__law_ask f__law_ask fd__law_ask
  b__law_ask : Binds K fd__law_ask ["what", "here", "number"] []
  g__law_ask : mg "_law_ask" = some (.ref f__law_ask)
  f_law : Addr
  fd_law : FuncData
  F_law : Fun K "law" "law" s_law f_law fd_law
  b_law : Binds K fd_law ["script"] []
  g_law : mg "law" = some (.ref f_law)
  mkLn : Mk K aLn f_Line___init__
  m_ValueError : mg "ValueError" = none
  m_all : mg "all" = none
  m_any : mg "any" = none
  m_bool : mg "bool" = none
  m_enumerate : mg "enumerate" = none
  m_int : mg "int" = none
  m_isinstance : mg "isinstance" = none
  m_len : mg "len" = none
  m_list : mg "list" = none
  m_max : mg "max" = none
  m_min : mg "min" = none
  m_range : mg "range" = none
  m_sorted : mg "sorted" = none
  m_str : mg "str" = none
  m_tuple : mg "tuple" = none
  t_PLACES : Tok
  c_PLACES : mg "PLACES" = some (.int 9 t_PLACES)
  t_SHELVES : Tok
  c_SHELVES : mg "SHELVES" = some (.int 8 t_SHELVES)
  a_WORDS : Addr
  c_WORDS : mg "WORDS" = some (.ref a_WORDS)
  q_WORDS : ∀ F, Dq K F (.ref a_WORDS) (.tuple [.str "light", .str "heavy"])
section
variable {P : Program} {w : World} {K : PySem.W.Frag} {mg : Str → Option Value} {base : Heap}
theorem ok_is_any_whole {k : Nat} (Z : Fx K mg) : FnOk P w K mg base (L2.CX P w) (k + 1) Z.f_is_any_whole Z.fd_is_any_whole ["thing"] (spF K Z.Gm 1 F_is_any_whole) := by
  refine fn_ok (k := k + 0) Z.F_is_any_whole sc_is_any_whole fun cdv A outer s H E hr => ?_
  exact (b_one (s_ret (e_and (e_isi "int" (by decide) (by rfl) Z.m_isinstance (by rfl) Z.m_int (by decide +kernel) (e_var 0) (by decide +kernel)) (e_one (e_not (e_isi "bool" (by decide) (by rfl) Z.m_isinstance (by rfl) Z.m_bool (by decide +kernel) (e_var 0) (by decide +kernel)))))))
theorem ok_is_whole {k : Nat} (Z : Fx K mg) : FnOk P w K mg base (L2.CX P w) (k + 2) Z.f_is_whole Z.fd_is_whole ["thing", "low", "high"] (spF K Z.Gm 3 F_is_whole) := by
  refine fn_ok (k := k + 1) Z.F_is_whole sc_is_whole fun cdv A outer s H E hr => ?_
  exact (b_one (s_ret (e_and (e_callP (ok_is_any_whole Z (k := k + 0)) hr (by rfl) Z.g_is_any_whole Z.F_is_any_whole.kp Z.b_is_any_whole (passX rfl rfl rfl rfl) (a_cons (e_var 0) a_nil) (al_cons al_nil)) (e_one (e_chain (e_var 1) (e_var 0) (e_var 2))))))
theorem ok_numbers_of {k : Nat} (Z : Fx K mg) : FnOk P w K mg base (L2.CX P w) (k + 1) Z.f_numbers_of Z.fd_numbers_of ["row"] (spF K Z.Gm 1 F_numbers_of) := by
  refine fn_ok (k := k + 0) Z.F_numbers_of sc_numbers_of fun cdv A outer s H E hr => ?_
  exact (b_one (s_ret (e_comp (own := [("one", 1)]) (js := [1]) rfl sc_numbers_of.nd (i_walk (e_var 0)) (blkOk_by (own := [("one", 1)]) (N := N_numbers_of) (sc := defScope s_numbers_of) (by decide +kernel)) (fun _ _ _ _ _ => (g_name 1 sc_numbers_of.nd)) (fun _ _ _ _ _ => (ts_one (t_cmp op_notN p_notN (e_var 1) e_non (nomark _)))) (fun _ _ _ _ _ => (e_var 1)) (by decide))))
theorem ok_good_shelf {k : Nat} (Z : Fx K mg) : FnOk P w K mg base (L2.CX P w) (k + 3) Z.f_good_shelf Z.fd_good_shelf ["thing"] (spF K Z.Gm 1 F_good_shelf) := by
  refine fn_ok (k := k + 2) Z.F_good_shelf sc_good_shelf fun cdv A outer s H E hr => ?_
  exact (b_cons (s_if (t_or (t_not (t_val (e_isi "tuple" (by decide) (by rfl) Z.m_isinstance (by rfl) Z.m_tuple (by decide +kernel) (e_var 0) (by decide +kernel)))) (t_or (t_cmp (op_neD hr.units) prim_neB (e_callB prim_len call_len_seq (by rfl) Z.m_len (by decide +kernel) (a_cons (e_var 0) a_nil)) e_int (nomark _)) (t_or1 (t_not (t_val (e_isi "str" (by decide) (by rfl) Z.m_isinstance (by rfl) Z.m_str (by decide +kernel) (e_at (e_var 0) e_int) (by decide +kernel))))))).pt (b_one (s_ret e_bl)) b_nil)
    (b_one (s_ret (e_and (e_cmp op_in_seq prim_inB (e_at (e_var 0) e_int) (e_glob (v := .ref Z.a_WORDS) (.tuple [.str "light", .str "heavy"]) (by rfl) Z.c_WORDS rfl Z.q_WORDS) (by rfl)) (e_one (e_callP (ok_is_whole Z (k := k + 0)) hr (by rfl) Z.g_is_whole Z.F_is_whole.kp Z.b_is_whole (passX rfl rfl rfl rfl) (a_cons (e_at (e_var 0) e_int) (a_cons e_int (a_cons (e_glob (v := .int 9) (.int 9) (by rfl) Z.c_PLACES ⟨_, rfl⟩ (fun _ => .int 9)) a_nil))) (al_cons (al_cons (al_cons al_nil)))))))))
theorem ok_good_line {k : Nat} (Z : Fx K mg) : FnOk P w K mg base (L2.CX P w) (k + 4) Z.f_good_line Z.fd_good_line ["thing"] (spF K Z.Gm 1 F_good_line) := by
  refine fn_ok (k := k + 3) Z.F_good_line sc_good_line fun cdv A outer s H E hr => ?_
  exact (b_one (s_ret (e_and (e_isi "tuple" (by decide) (by rfl) Z.m_isinstance (by rfl) Z.m_tuple (by decide +kernel) (e_var 0) (by decide +kernel)) (e_and (e_cmp op_le p_le (e_callB prim_len call_len_seq (by rfl) Z.m_len (by decide +kernel) (a_cons (e_var 0) a_nil)) (e_glob (v := .int 8) (.int 8) (by rfl) Z.c_SHELVES ⟨_, rfl⟩ (fun _ => .int 8)) (nomark _)) (e_one (e_callB (prim_sc sc_all) (cr_all rfl) (by rfl) Z.m_all (by decide +kernel) (a_cons (e_comp (own := [("one", 1)]) (js := [1]) rfl sc_good_line.nd (i_walk (e_var 0)) (blkOk_by (own := [("one", 1)]) (N := N_good_line) (sc := defScope s_good_line) (by decide +kernel)) (fun _ _ _ _ _ => (g_name 1 sc_good_line.nd)) (fun _ _ _ _ _ => ts_nil) (fun _ _ _ _ _ => (e_callP (ok_good_shelf Z (k := k + 0)) hr (by rfl) Z.g_good_shelf Z.F_good_shelf.kp Z.b_good_shelf passL (a_cons (e_var 1) a_nil) (al_cons al_nil))) (by decide)) a_nil)))))))
theorem ok_need_line {k : Nat} (Z : Fx K mg) : FnOk P w K mg base (L2.CX P w) (k + 5) Z.f_need_line Z.fd_need_line ["line"] (spF K Z.Gm 1 F_need_line) := by
  refine fn_ok (k := k + 4) Z.F_need_line sc_need_line fun cdv A outer s H E hr => ?_
  exact (b_one (s_if (t_not (t_val (e_callP (ok_good_line Z (k := k + 0)) hr (by rfl) Z.g_good_line Z.F_good_line.kp Z.b_good_line (passX rfl rfl rfl rfl) (a_cons (e_var 0) a_nil) (al_cons al_nil)))) (b_one (s_raise rfl (takes_of rfl rfl rfl rfl) (pmk_own PySem.F.excBase_ValueError Z.x_NoLine Z.g_NoLine Z.k_NoLine (raises_own Z.sb_NoLine Z.ty_NoLine) (by rfl)))) b_nil))
theorem ok_pick_of {k : Nat} (Z : Fx K mg) : FnOk P w K mg base (L2.CX P w) (k + 1) Z.f_pick_of Z.fd_pick_of ["shelf", "standing"] (spF K Z.Gm 2 F_pick_of) := by
  refine fn_ok (k := k + 0) Z.F_pick_of sc_pick_of fun cdv A outer s H E hr => ?_
  exact (b_one (s_ret (e_if (t_cmp (op_eqD hr.units) prim_eqB (e_at (e_var 0) e_int) e_str (nomark _)) (e_callB (prim_sc sc_min1) (cr_minB rfl) (by rfl) Z.m_min (by decide +kernel) (a_cons (e_var 1) a_nil)) (e_callB (prim_sc sc_max1) (cr_maxB rfl) (by rfl) Z.m_max (by decide +kernel) (a_cons (e_var 1) a_nil)))))
theorem ok_in_order {k : Nat} (Z : Fx K mg) : FnOk P w K mg base (L2.CX P w) (k + 1) Z.f_in_order Z.fd_in_order ["shelf", "standing"] (spF K Z.Gm 2 F_in_order) := by
  refine fn_ok (k := k + 0) Z.F_in_order sc_in_order fun cdv A outer s H E hr => ?_
  exact (b_cons (s_setO 2 sc_in_order.nd (e_callB prim_sort cr_sortB (by rfl) Z.m_sorted (by decide +kernel) (a_cons (e_var 1) a_nil)))
    (b_one (s_retR (r_if (t_cmp (op_eqD hr.units) prim_eqB (e_at (e_var 0) e_int) e_str (nomark _)) (r_var 2) (r_val (e_rev (e_var 2)))))))
theorem ok_Line___init__ {k : Nat} (Z : Fx K mg) : FnOk P w K mg base (L2.CX P w) (k + 6) Z.f_Line___init__ Z.fd_Line___init__ ["self", "shelves"] (spF K Z.Gm 2 F_Line___init__) := by
  refine fn_ok (k := k + 5) Z.F_Line___init__ sc_Line___init__ fun cdv A outer s H E hr => ?_
  exact (b_cons (s_expr (e_callP (ok_need_line Z (k := k + 0)) hr (by rfl) Z.g_need_line Z.F_need_line.kp Z.b_need_line (passX rfl rfl rfl rfl) (a_cons (e_var 1) a_nil) (al_cons al_nil)))
    (b_cons (s_fldSet 0 Z.ln.toLnC Z.n_shelves (e_var 1))
    (b_cons (s_fldSet 0 Z.ln.toLnC Z.n_how (e_tup (a_cons (e_mulT (e_tup (a_cons (e_tup a_nil) a_nil)) (e_callB prim_len call_len_seq (by rfl) Z.m_len (by decide +kernel) (a_cons (e_var 1) a_nil))) (a_cons (e_tup a_nil) a_nil))))
    (b_cons (s_fldSetL 0 Z.ln.toLnC Z.n_past)
    (b_one (s_fldSetL 0 Z.ln.toLnC Z.n_calls))))))
theorem ok_Line_call {k : Nat} (Z : Fx K mg) : FnOk P w K mg base (L2.CX P w) (k + 1) Z.f_Line_call Z.fd_Line_call ["self", "name", "standing", "more"] (spF K Z.Gm 4 F_Line_call) := by
  refine fn_ok (k := k + 0) Z.F_Line_call sc_Line_call fun cdv A outer s H E hr => ?_
  exact (b_cons (s_appF 0 Z.ln.toLnC Z.n_past Z.n_how)
    (b_cons (s_appV 0 1 Z.ln.toLnC Z.n_calls)
    (b_cons (s_fldSet 0 Z.ln.toLnC Z.n_how (e_tup (a_cons (e_bor 2 (e_callT prim_tupOf call_tuple_ofP (by rfl) Z.m_tuple (by decide +kernel) (a_cons (e_comp (own := [("one", 4)]) (js := [4]) rfl sc_Line_call.nd (i_walk (e_var 2)) (blkOk_by (own := [("one", 4)]) (N := N_Line_call) (sc := defScope s_Line_call) (by decide +kernel)) (fun _ _ _ _ _ => (g_name 4 sc_Line_call.nd)) (fun _ _ _ _ _ => ts_nil) (fun _ _ _ _ _ => (e_callT prim_tupOf call_tuple_ofP (by rfl) Z.m_tuple (by decide +kernel) (a_cons (e_callB prim_sort cr_sortB (by rfl) Z.m_sorted (by decide +kernel) (a_cons (e_var 4) a_nil)) a_nil))) (by decide)) a_nil))) (a_cons (e_plus (e_at (e_fld 0 Z.ln.toLnC Z.n_how) e_int) (e_callT prim_tupOf call_tuple_ofP (by rfl) Z.m_tuple (by decide +kernel) (a_cons (e_var 3) a_nil))) a_nil))))
    (b_one (s_ret (e_callT prim_listOf call_list_of (by rfl) Z.m_list (by decide +kernel) (a_cons (e_var 3) a_nil)))))))
theorem okN_Line_put (Z : Fx K mg) : ∀ (n : Nat) {k : Nat}, FnOk P w K mg base (L2.CX P w) (k + n + 1) Z.f_Line_put Z.fd_Line_put ["self", "standing", "at", "numbers"] (spF K Z.Gm 4 (FN_Line_put n))
  | 0, k => by
    refine fn_ok (k := k + 0) Z.F_Line_put sc_Line_put fun cdv A outer s H E hr => ?_
    exact (b_cons s_never (b_cons s_never (b_cons s_never (b_one s_never))))
  | n + 1, k => by
    refine fn_ok (k := k + n + 1) Z.F_Line_put sc_Line_put fun cdv A outer s H E hr => ?_
    exact (b_cons (s_if (t_cmp (op_eqD hr.units) prim_eqB (e_var 2) (e_callB prim_len call_len_seq (by rfl) Z.m_len (by decide +kernel) (a_cons (e_fld 0 Z.ln.toLnC Z.n_shelves) a_nil)) (nomark _)) (b_one (s_ret (e_callT prim_listOf call_list_of (by rfl) Z.m_list (by decide +kernel) (a_cons (e_var 3) a_nil)))) b_nil)
    (b_cons (s_par2 4 5 [false, true] rfl sc_Line_put.nd (a_cons (e_at (e_fld 0 Z.ln.toLnC Z.n_shelves) (e_var 2)) (a_cons (e_lst a_nil) a_nil)))
    (b_cons (s_for (passes_of rfl) rfl (i_walk (e_var 3)) (g_name 6 sc_Line_put.nd) (b_cons (s_mutIxC 1 2 6 mut_app PySem.F.slot_list_append PySem.F.type_list_append mt_append)
    (b_one (s_if (t_cmp op_gt p_gt (e_bor 1 (e_callB prim_len call_len_seq (by rfl) Z.m_len (by decide +kernel) (a_cons (e_at (e_var 1) (e_var 2)) a_nil))) (e_at (e_var 4) e_int) (nomark _)) (b_cons (s_setF 7 sc_Line_put.nd (e_bor 1 (e_callP (ok_pick_of Z (k := k + n + 0)) hr (by rfl) Z.g_pick_of Z.F_pick_of.kp Z.b_pick_of (passX rfl rfl rfl rfl) (a_cons (e_var 4) (a_cons (e_at (e_var 1) (e_var 2)) a_nil)) (al_cons (al_cons al_nil)))))
    (b_cons (s_mutIxC 1 2 7 mut_rem PySem.F.slot_list_remove PySem.F.type_list_remove mt_remove)
    (b_one (s_mut 5 mut_ext PySem.F.slot_list_extend PySem.F.type_list_extend mt_extend (a_cons (e_meth 0 Z.ln.toLnC Z.M_Line_put (okN_Line_put Z n (k := k)) hr Z.b_Line_put (passX rfl rfl rfl rfl) (a_cons (e_var 1) (a_cons (e_plus (e_var 2) e_int) (a_cons (e_lst (a_cons (e_var 7) a_nil)) a_nil))) (al_cons (al_cons (al_cons (al_cons al_nil))))) a_nil))))) b_nil))))
    (b_one (s_retV 5)))))
theorem ok_Line_put {k : Nat} (Z : Fx K mg) : FnOk P w K mg base (L2.CX P w) (k + 11) Z.f_Line_put Z.fd_Line_put ["self", "standing", "at", "numbers"] (spF K Z.Gm 4 F_Line_put) := okN_Line_put Z 10 (k := k)
theorem ok_Line_emptied {k : Nat} (Z : Fx K mg) : FnOk P w K mg base (L2.CX P w) (k + 12) Z.f_Line_emptied Z.fd_Line_emptied ["self", "standing"] (spF K Z.Gm 2 F_Line_emptied) := by
  refine fn_ok (k := k + 11) Z.F_Line_emptied sc_Line_emptied fun cdv A outer s H E hr => ?_
  exact (b_cons (s_setO 2 sc_Line_emptied.nd (e_lst a_nil))
    (b_cons (s_for (passes_of rfl) rfl (i_enumB (by rfl) Z.m_enumerate (a_cons (e_fld 0 Z.ln.toLnC Z.n_shelves) a_nil)) (g_tup rfl (g_cons 3 sc_Line_emptied.nd (g_cons 4 sc_Line_emptied.nd g_nil))) (b_cons (s_setF 5 sc_Line_emptied.nd (e_bor 1 (e_callP (ok_in_order Z (k := k + 10)) hr (by rfl) Z.g_in_order Z.F_in_order.kp Z.b_in_order (passX rfl rfl rfl rfl) (a_cons (e_var 4) (a_cons (e_at (e_var 1) (e_var 3)) a_nil)) (al_cons (al_cons al_nil)))))
    (b_cons (s_setIxN 1 3)
    (b_one (s_mut 2 mut_ext PySem.F.slot_list_extend PySem.F.type_list_extend mt_extend (a_cons (e_meth 0 Z.ln.toLnC Z.M_Line_put (ok_Line_put Z (k := k + 0)) hr Z.b_Line_put (passX rfl rfl rfl rfl) (a_cons (e_var 1) (a_cons (e_plus (e_var 3) e_int) (a_cons (e_var 5) a_nil))) (al_cons (al_cons (al_cons (al_cons al_nil))))) a_nil))))))
    (b_one (s_retV 2))))
theorem ok_Line_come {k : Nat} (Z : Fx K mg) : FnOk P w K mg base (L2.CX P w) (k + 12) Z.f_Line_come Z.fd_Line_come ["self", "number"] (spF K Z.Gm 2 F_Line_come) := by
  refine fn_ok (k := k + 11) Z.F_Line_come sc_Line_come fun cdv A outer s H E hr => ?_
  exact (b_cons (s_setHc (i := 2) (own := [("one", 3)]) (js := [3]) rfl sc_Line_come.nd rfl rfl (sw_true rfl rfl rfl rfl) (i_walk (e_at (e_fld 0 Z.ln.toLnC Z.n_how) e_int)) (blkOk_by (own := [("one", 3)]) (N := N_Line_come) (sc := defScope s_Line_come) (by decide +kernel)) (fun _ _ _ _ _ => (g_name 3 sc_Line_come.nd)) (fun _ _ _ _ _ => (e_callT prim_listOf call_list_of (by rfl) Z.m_list (by decide +kernel) (a_cons (e_var 3) a_nil))) (by decide))
    (b_cons (s_if (t_or (t_not (t_val (e_callP (ok_is_any_whole Z (k := k + 10)) hr (by rfl) Z.g_is_any_whole Z.F_is_any_whole.kp Z.b_is_any_whole (passX rfl rfl rfl rfl) (a_cons (e_var 1) a_nil) (al_cons al_nil)))) (t_or1 (t_cmp op_in_seq prim_inB (e_var 1) (e_callP (ok_numbers_of Z (k := k + 10)) hr (by rfl) Z.g_numbers_of Z.F_numbers_of.kp Z.b_numbers_of (passX rfl rfl rfl rfl) (a_cons (e_at (e_fld 0 Z.ln.toLnC Z.n_how) e_int) a_nil) (al_cons al_nil)) (by rfl)))).pt (b_one (s_raise rfl (takes_of rfl rfl rfl rfl) (pmk_own PySem.F.excBase_ValueError Z.x_NoNumber Z.g_NoNumber Z.k_NoNumber (raises_own Z.sb_NoNumber Z.ty_NoNumber) (by rfl)))) b_nil)
    (b_cons (s_if (t_val (e_bor 2 (e_callB (prim_sc sc_any) (cr_any rfl) (by rfl) Z.m_any (by decide +kernel) (a_cons (e_comp (own := [("one", 3)]) (js := [3]) rfl sc_Line_come.nd (i_walk (e_var 2)) (blkOk_by (own := [("one", 3)]) (N := N_Line_come) (sc := defScope s_Line_come) (by decide +kernel)) (fun _ _ _ _ _ => (g_name 3 sc_Line_come.nd)) (fun _ _ _ _ _ => ts_nil) (fun _ _ _ _ _ => (e_cmp op_in_seq prim_inB (e_var 1) (e_var 3) (by rfl))) (by decide)) a_nil)))) (b_one (s_raise rfl (takes_of rfl rfl rfl rfl) (pmk_own PySem.F.excBase_ValueError Z.x_NoNumber Z.g_NoNumber Z.k_NoNumber (raises_own Z.sb_NoNumber Z.ty_NoNumber) (by rfl)))) b_nil)
    (b_one (s_ret (e_meth 0 Z.ln.toLnC Z.M_Line_call (ok_Line_call Z (k := k + 10)) hr Z.b_Line_call (passX rfl rfl rfl rfl) (a_cons e_str (a_cons (e_var 2) (a_cons (e_meth 0 Z.ln.toLnC Z.M_Line_put (ok_Line_put Z (k := k + 0)) hr Z.b_Line_put (passX rfl rfl rfl rfl) (a_cons (e_var 2) (a_cons e_int (a_cons (e_lst (a_cons (e_var 1) a_nil)) a_nil))) (al_cons (al_cons (al_cons (al_cons al_nil))))) a_nil))) (al_cons (al_cons (al_cons (al_cons al_nil))))))))))
theorem ok_Line_mark {k : Nat} (Z : Fx K mg) : FnOk P w K mg base (L2.CX P w) (k + 13) Z.f_Line_mark Z.fd_Line_mark ["self"] (spF K Z.Gm 1 F_Line_mark) := by
  refine fn_ok (k := k + 12) Z.F_Line_mark sc_Line_mark fun cdv A outer s H E hr => ?_
  exact (b_cons (s_setHc (i := 1) (own := [("one", 2)]) (js := [2]) rfl sc_Line_mark.nd rfl rfl (sw_true rfl rfl rfl rfl) (i_walk (e_at (e_fld 0 Z.ln.toLnC Z.n_how) e_int)) (blkOk_by (own := [("one", 2)]) (N := N_Line_mark) (sc := defScope s_Line_mark) (by decide +kernel)) (fun _ _ _ _ _ => (g_name 2 sc_Line_mark.nd)) (fun _ _ _ _ _ => (e_callT prim_listOf call_list_of (by rfl) Z.m_list (by decide +kernel) (a_cons (e_var 2) a_nil))) (by decide))
    (b_one (s_ret (e_meth 0 Z.ln.toLnC Z.M_Line_call (ok_Line_call Z (k := k + 11)) hr Z.b_Line_call (passX rfl rfl rfl rfl) (a_cons e_str (a_cons (e_var 1) (a_cons (e_plus (e_meth 0 Z.ln.toLnC Z.M_Line_emptied (ok_Line_emptied Z (k := k + 0)) hr Z.b_Line_emptied (passX rfl rfl rfl rfl) (a_cons (e_var 1) a_nil) (al_cons (al_cons al_nil))) (e_lst (a_cons e_non a_nil))) a_nil))) (al_cons (al_cons (al_cons (al_cons al_nil))))))))
theorem ok_Line_finish {k : Nat} (Z : Fx K mg) : FnOk P w K mg base (L2.CX P w) (k + 13) Z.f_Line_finish Z.fd_Line_finish ["self"] (spF K Z.Gm 1 F_Line_finish) := by
  refine fn_ok (k := k + 12) Z.F_Line_finish sc_Line_finish fun cdv A outer s H E hr => ?_
  exact (b_cons (s_setHc (i := 1) (own := [("one", 2)]) (js := [2]) rfl sc_Line_finish.nd rfl rfl (sw_true rfl rfl rfl rfl) (i_walk (e_at (e_fld 0 Z.ln.toLnC Z.n_how) e_int)) (blkOk_by (own := [("one", 2)]) (N := N_Line_finish) (sc := defScope s_Line_finish) (by decide +kernel)) (fun _ _ _ _ _ => (g_name 2 sc_Line_finish.nd)) (fun _ _ _ _ _ => (e_callT prim_listOf call_list_of (by rfl) Z.m_list (by decide +kernel) (a_cons (e_var 2) a_nil))) (by decide))
    (b_one (s_ret (e_meth 0 Z.ln.toLnC Z.M_Line_call (ok_Line_call Z (k := k + 11)) hr Z.b_Line_call (passX rfl rfl rfl rfl) (a_cons e_str (a_cons (e_var 1) (a_cons (e_meth 0 Z.ln.toLnC Z.M_Line_emptied (ok_Line_emptied Z (k := k + 0)) hr Z.b_Line_emptied (passX rfl rfl rfl rfl) (a_cons (e_var 1) a_nil) (al_cons (al_cons al_nil))) a_nil))) (al_cons (al_cons (al_cons (al_cons al_nil))))))))
theorem ok_Line_standing {k : Nat} (Z : Fx K mg) : FnOk P w K mg base (L2.CX P w) (k + 1) Z.f_Line_standing Z.fd_Line_standing ["self"] (spF K Z.Gm 1 F_Line_standing) := by
  refine fn_ok (k := k + 0) Z.F_Line_standing sc_Line_standing fun cdv A outer s H E hr => ?_
  exact (b_one (s_ret (e_comp (own := [("one", 1)]) (js := [1]) rfl sc_Line_standing.nd (i_walk (e_at (e_fld 0 Z.ln.toLnC Z.n_how) e_int)) (blkOk_by (own := [("one", 1)]) (N := N_Line_standing) (sc := defScope s_Line_standing) (by decide +kernel)) (fun _ _ _ _ _ => (g_name 1 sc_Line_standing.nd)) (fun _ _ _ _ _ => ts_nil) (fun _ _ _ _ _ => (e_callT prim_listOf call_list_of (by rfl) Z.m_list (by decide +kernel) (a_cons (e_var 1) a_nil))) (by decide))))
theorem ok_Line_out {k : Nat} (Z : Fx K mg) : FnOk P w K mg base (L2.CX P w) (k + 1) Z.f_Line_out Z.fd_Line_out ["self"] (spF K Z.Gm 1 F_Line_out) := by
  refine fn_ok (k := k + 0) Z.F_Line_out sc_Line_out fun cdv A outer s H E hr => ?_
  exact (b_one (s_ret (e_at (e_fld 0 Z.ln.toLnC Z.n_how) e_int)))
theorem ok_Line_back {k : Nat} (Z : Fx K mg) : FnOk P w K mg base (L2.CX P w) (k + 1) Z.f_Line_back Z.fd_Line_back ["self"] (spF K Z.Gm 1 F_Line_back) := by
  refine fn_ok (k := k + 0) Z.F_Line_back sc_Line_back fun cdv A outer s H E hr => ?_
  exact (b_cons (s_if (t_fldNil 0 hr.units Z.ln.toLnC Z.n_past) (b_one (s_raise rfl (takes_of rfl rfl rfl rfl) (pmk_own PySem.F.excBase_ValueError Z.x_Nothing Z.g_Nothing Z.k_Nothing (raises_own Z.sb_Nothing Z.ty_Nothing) (by rfl)))) b_nil)
    (b_cons (s_popSet 0 Z.ln.toLnC Z.n_how Z.n_past)
    (b_one (s_popRet 0 Z.ln.toLnC Z.n_calls))))
theorem ok_Line___eq__ {k : Nat} (Z : Fx K mg) : FnOk P w K mg base (L2.CX P w) (k + 1) Z.f_Line___eq__ Z.fd_Line___eq__ ["self", "other"] (spF K Z.Gm 2 F_Line___eq__) := by
  refine fn_ok (k := k + 0) Z.F_Line___eq__ sc_Line___eq__ fun cdv A outer s H E hr => ?_
  exact (b_one (s_ret (e_and (e_isLn 1 Z.ln (by rfl) Z.m_isinstance (by rfl) Z.g_Line (by decide +kernel)) (e_and (e_cmp (op_eqD hr.units) prim_eqB (e_fld 0 Z.ln.toLnC Z.n_shelves) (e_fld 1 Z.ln.toLnC Z.n_shelves) (nomark _)) (e_one (e_cmp (op_eqD hr.units) prim_eqB (e_fld 0 Z.ln.toLnC Z.n_how) (e_fld 1 Z.ln.toLnC Z.n_how) (nomark _)))))))
theorem ok_Line___len__ {k : Nat} (Z : Fx K mg) : FnOk P w K mg base (L2.CX P w) (k + 1) Z.f_Line___len__ Z.fd_Line___len__ ["self"] (spF K Z.Gm 1 F_Line___len__) := by
  refine fn_ok (k := k + 0) Z.F_Line___len__ sc_Line___len__ fun cdv A outer s H E hr => ?_
  exact (b_one (s_ret (e_callB prim_len call_len_seq (by rfl) Z.m_len (by decide +kernel) (a_cons (e_comp2 (own := [("one", 1), ("number", 2)]) (vs1 := [2]) (js := [1]) (js1 := [2]) rfl sc_Line___len__.nd (i_walk (e_at (e_fld 0 Z.ln.toLnC Z.n_how) e_int)) (blkOk_by (own := [("one", 1), ("number", 2)]) (N := N_Line___len__) (sc := defScope s_Line___len__) (by decide +kernel)) (fun _ _ _ _ _ => (g_name 1 sc_Line___len__.nd)) (fun _ _ _ _ _ => ts_nil) (fun _ _ _ _ _ => (i_walk (e_var 1))) (fun _ _ _ _ _ => (g_name 2 sc_Line___len__.nd)) (fun _ _ _ _ _ => ts_nil) (fun _ _ _ _ _ => (e_var 2)) (by decide) (by decide) (by decide)) a_nil))))
theorem ok_Line___str__ {k : Nat} (Z : Fx K mg) : FnOk P w K mg base (L2.CX P w) (k + 1) Z.f_Line___str__ Z.fd_Line___str__ ["self"] (spF K Z.Gm 1 F_Line___str__) := by
  refine fn_ok (k := k + 0) Z.F_Line___str__ sc_Line___str__ fun cdv A outer s H E hr => ?_
  exact (b_cons (s_if (t_cmp (op_eqD hr.units) prim_eqB (e_at (e_fld 0 Z.ln.toLnC Z.n_how) e_int) (e_tup a_nil) (nomark _)) (b_one (s_ret e_str)) b_nil)
    (b_one (s_ret (e_join (e_comp (own := [("one", 1)]) (js := [1]) rfl sc_Line___str__.nd (i_walk (e_at (e_fld 0 Z.ln.toLnC Z.n_how) e_int)) (blkOk_by (own := [("one", 1)]) (N := N_Line___str__) (sc := defScope s_Line___str__) (by decide +kernel)) (fun _ _ _ _ _ => (g_name 1 sc_Line___str__.nd)) (fun _ _ _ _ _ => ts_nil) (fun _ _ _ _ _ => (e_if (t_cmp op_isN p_isN (e_var 1) e_non (nomark _)) e_str (e_callT (prim_sc sc_str) call_str_int (by rfl) Z.m_str (by decide +kernel) (a_cons (e_var 1) a_nil)))) (by decide))))))
theorem ok__law_same_truth {k : Nat} (Z : Fx K mg) : FnOk P w K mg base (L2.CX P w) (k + 1) Z.f__law_same_truth Z.fd__law_same_truth ["got", "due"] (spF K Z.Gm 2 F__law_same_truth) := by
  refine fn_ok (k := k + 0) Z.F__law_same_truth sc__law_same_truth fun cdv A outer s H E hr => ?_
  exact (b_one (s_ret (e_and (e_isi "bool" (by decide) (by rfl) Z.m_isinstance (by rfl) Z.m_bool (by decide +kernel) (e_var 0) (by decide +kernel)) (e_one (e_cmp (op_eqD hr.units) prim_eqB (e_var 0) (e_var 1) (nomark _))))))
theorem ok__law_which {k : Nat} (Z : Fx K mg) : FnW P w K mg base Z.Gm (k + 1) Z.f__law_which Z.fd__law_which ["e"] hdW := by
  refine fn_w (k := k) (b := b__law_which) Z.F__law_which sc__law_which rfl ev__law_which fun c d hc cdv A outer s H p hr hz hf => ?_
  exact (b_cons (s_setO 1 sc__law_which.nd (e_lst (a_cons (e_isX 0 (Z.excC c d hc) hz hf (by exact List.mem_cons_self) (by rfl) Z.m_isinstance (pe_glob (v := .ref (Z.Gm 0)) (by rfl) Z.g_NoRow rfl) (fun _ h => h) (Z.kit c d hc 0 (by decide)) (by decide +kernel)) (a_cons (e_isX 0 (Z.excC c d hc) hz hf (by exact List.mem_cons_self) (by rfl) Z.m_isinstance (pe_glob (v := .ref (Z.Gm 1)) (by rfl) Z.g_NoShelf rfl) (fun _ h => h) (Z.kit c d hc 1 (by decide)) (by decide +kernel)) (a_cons (e_isX 0 (Z.excC c d hc) hz hf (by exact List.mem_cons_self) (by rfl) Z.m_isinstance (pe_glob (v := .ref (Z.Gm 2)) (by rfl) Z.g_NoLine rfl) (fun _ h => h) (Z.kit c d hc 2 (by decide)) (by decide +kernel)) (a_cons (e_isX 0 (Z.excC c d hc) hz hf (by exact List.mem_cons_self) (by rfl) Z.m_isinstance (pe_glob (v := .ref (Z.Gm 3)) (by rfl) Z.g_NoPlaces rfl) (fun _ h => h) (Z.kit c d hc 3 (by decide)) (by decide +kernel)) a_nil))))))
    (b_cons (s_mut 1 mut_ext PySem.F.slot_list_extend PySem.F.type_list_extend mt_extend (a_cons (e_lst (a_cons (e_isX 0 (Z.excC c d hc) hz hf (by exact List.mem_cons_self) (by rfl) Z.m_isinstance (pe_glob (v := .ref (Z.Gm 4)) (by rfl) Z.g_Marked rfl) (fun _ h => h) (Z.kit c d hc 4 (by decide)) (by decide +kernel)) (a_cons (e_isX 0 (Z.excC c d hc) hz hf (by exact List.mem_cons_self) (by rfl) Z.m_isinstance (pe_glob (v := .ref (Z.Gm 5)) (by rfl) Z.g_NoCounts rfl) (fun _ h => h) (Z.kit c d hc 5 (by decide)) (by decide +kernel)) (a_cons (e_isX 0 (Z.excC c d hc) hz hf (by exact List.mem_cons_self) (by rfl) Z.m_isinstance (pe_glob (v := .ref (Z.Gm 6)) (by rfl) Z.g_NoLetting rfl) (fun _ h => h) (Z.kit c d hc 6 (by decide)) (by decide +kernel)) (a_cons (e_isX 0 (Z.excC c d hc) hz hf (by exact List.mem_cons_self) (by rfl) Z.m_isinstance (pe_glob (v := .ref (Z.Gm 7)) (by rfl) Z.g_TooMany rfl) (fun _ h => h) (Z.kit c d hc 7 (by decide)) (by decide +kernel)) a_nil))))) a_nil))
    (b_cons (s_mut 1 mut_ext PySem.F.slot_list_extend PySem.F.type_list_extend mt_extend (a_cons (e_lst (a_cons (e_isX 0 (Z.excC c d hc) hz hf (by exact List.mem_cons_self) (by rfl) Z.m_isinstance (pe_glob (v := .ref (Z.Gm 8)) (by rfl) Z.g_NoMove rfl) (fun _ h => h) (Z.kit c d hc 8 (by decide)) (by decide +kernel)) (a_cons (e_isX 0 (Z.excC c d hc) hz hf (by exact List.mem_cons_self) (by rfl) Z.m_isinstance (pe_glob (v := .ref (Z.Gm 9)) (by rfl) Z.g_NoText rfl) (fun _ h => h) (Z.kit c d hc 9 (by decide)) (by decide +kernel)) (a_cons (e_isX 0 (Z.excC c d hc) hz hf (by exact List.mem_cons_self) (by rfl) Z.m_isinstance (pe_glob (v := .ref (Z.Gm 10)) (by rfl) Z.g_NoNumber rfl) (fun _ h => h) (Z.kit c d hc 10 (by decide)) (by decide +kernel)) (a_cons (e_isX 0 (Z.excC c d hc) hz hf (by exact List.mem_cons_self) (by rfl) Z.m_isinstance (pe_glob (v := .ref (Z.Gm 11)) (by rfl) Z.g_Nothing rfl) (fun _ h => h) (Z.kit c d hc 11 (by decide)) (by decide +kernel)) a_nil))))) a_nil))
    (b_cons (s_if (t_or (t_cmp (op_neD hr.units) prim_neB (e_countF (e_var 1) e_bl) e_int (nomark _)) (t_or1 (t_not (t_val (e_isX 0 (Z.excC c d hc) hz hf (by exact List.mem_cons_self) (by rfl) Z.m_isinstance (pe_bltn (v := .ty "ValueError") (by rfl) Z.m_ValueError (by decide +kernel) rfl) (fun _ h => h) (Z.kitV c d hc) (by decide +kernel)))))).pt (b_one (s_ret (e_tup (a_cons e_str (a_cons (e_un un_neg (prim_sc sc_neg) e_int) a_nil))))) b_nil)
    (b_one (s_ret (e_tup (a_cons e_str (a_cons (e_index (e_var 1) e_bl) a_nil)))))))))
theorem ok__law_ask {k : Nat} (Z : Fx K mg) : FnOk P w K mg base (L2.CX P w) (k + 13) Z.f__law_ask Z.fd__law_ask ["what", "here", "number"] (spF K Z.Gm 3 F__law_ask) := by
  refine fn_ok (k := k + 12) Z.F__law_ask sc__law_ask fun cdv A outer s H E hr => ?_
  exact (b_one (s_tryWhich (i := 3) rfl rfl sc__law_ask.nd rfl rfl ⟨rfl, by decide, .inl Z.g_ShelfError⟩ (fun W pn xe tk _ => (b_one (s_ret (e_if (t_cmp (op_eqD hr.units) prim_eqB (e_var 0) e_int (nomark _)) (e_meth 1 Z.ln.toLnC Z.M_Line_come (ok_Line_come Z (k := k + 0)) hr Z.b_Line_come (pass_try tk) (a_cons (e_var 2) a_nil) (al_cons (al_cons al_nil))) (e_meth0 1 Z.ln.toLnC Z.M_Line_back (ok_Line_back Z (k := k + 11)) hr Z.b_Line_back (pass_try tk)))))) (ok__law_which Z (k := k + 11)) hr (by rfl) Z.g__law_which Z.F__law_which.kp Z.b__law_which Z.exm))
theorem ok_law {k : Nat} (Z : Fx K mg) : FnOk P w K mg base (L2.CX P w) (k + 14) Z.f_law Z.fd_law ["script"] (spF K Z.Gm 1 F_law) := by
  refine fn_ok (k := k + 13) Z.F_law sc_law fun cdv A outer s H E hr => ?_
  exact (b_cons (s_setH 1 sc_law.nd (e_lst a_nil))
    (b_cons (s_setF 2 sc_law.nd (e_make Z.ln.toLnC Z.mkLn (ok_Line___init__ Z (k := k + 6)) hr (by rfl) Z.g_Line Z.b_Line___init__ (passX rfl rfl rfl rfl) (a_cons (e_tup (a_cons (e_tup (a_cons e_str (a_cons e_int a_nil))) (a_cons (e_tup (a_cons e_str (a_cons e_int a_nil))) a_nil))) a_nil) (al_cons al_nil)))
    (b_cons (s_if (t_or (t_cmp (op_neD hr.units) prim_neB (e_call (ok__law_ask Z (k := k + 0)) hr (by rfl) Z.g__law_ask Z.F__law_ask.kp Z.b__law_ask (passX rfl rfl rfl rfl) (a_cons e_int (a_cons (e_var 2) (a_cons e_non a_nil))) (al_cons (al_cons (al_cons al_nil)))) (e_tup (a_cons e_str (a_cons e_int a_nil))) (nomark _)) (t_or1 (t_cmp (op_neD hr.units) prim_neB (e_strO 2 Z.ln.toLnC (ok_Line___str__ Z (k := k + 10)) hr Z.M_Line___str__.at_ Z.M_Line___str__.fn Z.b_Line___str__ (passX rfl rfl rfl rfl) (by rfl) Z.m_str (by decide +kernel)) e_str (nomark _)))).pt (b_one (s_ret e_bl)) b_nil)
    (b_cons (s_for (passes_of rfl) rfl (i_walk (e_lst (a_cons e_non (a_cons e_str (a_cons e_bl (a_cons (e_lst (a_cons e_int a_nil)) (a_cons (e_tup (a_cons e_int a_nil)) (a_cons (e_tup a_nil) a_nil)))))))) (g_name 3 sc_law.nd) (b_one (s_if (t_cmp (op_neD hr.units) prim_neB (e_call (ok__law_ask Z (k := k + 0)) hr (by rfl) Z.g__law_ask Z.F__law_ask.kp Z.b__law_ask (passX rfl rfl rfl rfl) (a_cons e_int (a_cons (e_var 2) (a_cons (e_var 3) a_nil))) (al_cons (al_cons (al_cons al_nil)))) (e_tup (a_cons e_str (a_cons e_int a_nil))) (nomark _)) (b_one (s_ret e_bl)) b_nil)))
    (b_cons (s_if (t_or (t_cmp (op_neD hr.units) prim_neB (e_lst (a_cons (e_meth 2 Z.ln.toLnC Z.M_Line_come (ok_Line_come Z (k := k + 1)) hr Z.b_Line_come (passX rfl rfl rfl rfl) (a_cons e_int a_nil) (al_cons (al_cons al_nil))) (a_cons (e_meth 2 Z.ln.toLnC Z.M_Line_come (ok_Line_come Z (k := k + 1)) hr Z.b_Line_come (passX rfl rfl rfl rfl) (a_cons e_int a_nil) (al_cons (al_cons al_nil))) (a_cons (e_meth 2 Z.ln.toLnC Z.M_Line_come (ok_Line_come Z (k := k + 1)) hr Z.b_Line_come (passX rfl rfl rfl rfl) (a_cons e_int a_nil) (al_cons (al_cons al_nil))) a_nil)))) (e_lst (a_cons (e_lst a_nil) (a_cons (e_lst a_nil) (a_cons (e_lst (a_cons e_int a_nil)) a_nil)))) (nomark _)) (t_or1 (t_cmp (op_neD hr.units) prim_neB (e_meth0 2 Z.ln.toLnC Z.M_Line_standing (ok_Line_standing Z (k := k + 12)) hr Z.b_Line_standing (passX rfl rfl rfl rfl)) (e_lst (a_cons (e_lst (a_cons e_int a_nil)) (a_cons (e_lst (a_cons e_int a_nil)) a_nil))) (nomark _)))).pt (b_one (s_ret e_bl)) b_nil)
    (b_cons (s_if (t_or (t_cmp (op_neD hr.units) prim_neB (e_comp (own := [("number", 5)]) (js := [5]) rfl sc_law.nd (i_walk (e_tup (a_cons e_int (a_cons e_int (a_cons e_int a_nil))))) (blkOk_by (own := [("number", 5)]) (N := N_law) (sc := defScope s_law) (by decide +kernel)) (fun _ _ _ _ _ => (g_name 5 sc_law.nd)) (fun _ _ _ _ _ => ts_nil) (fun _ _ _ _ _ => (e_call (ok__law_ask Z (k := k + 0)) hr (by rfl) Z.g__law_ask Z.F__law_ask.kp Z.b__law_ask passL (a_cons e_int (a_cons (e_var 2) (a_cons (e_var 5) a_nil))) (al_cons (al_cons (al_cons al_nil))))) (by decide)) (e_mulL (e_lst (a_cons (e_tup (a_cons e_str (a_cons e_int a_nil))) a_nil)) e_int) (nomark _)) (t_or1 (t_cmp (op_neD hr.units) prim_neB (e_lenO 2 Z.ln.toLnC (ok_Line___len__ Z (k := k + 11)) hr Z.M_Line___len__.at_ Z.M_Line___len__.fn Z.b_Line___len__ (passX rfl rfl rfl rfl) (by rfl) Z.m_len) e_int (nomark _)))).pt (b_one (s_ret e_bl)) b_nil)
    (b_cons (s_setF 4 sc_law.nd (e_make Z.ln.toLnC Z.mkLn (ok_Line___init__ Z (k := k + 6)) hr (by rfl) Z.g_Line Z.b_Line___init__ (passX rfl rfl rfl rfl) (a_cons (e_tup (a_cons (e_tup (a_cons e_str (a_cons e_int a_nil))) (a_cons (e_tup (a_cons e_str (a_cons e_int a_nil))) a_nil))) a_nil) (al_cons al_nil)))
    (b_cons (s_if (t_or (t_not (t_val (e_callP (ok__law_same_truth Z (k := k + 12)) hr (by rfl) Z.g__law_same_truth Z.F__law_same_truth.kp Z.b__law_same_truth (passX rfl rfl rfl rfl) (a_cons (e_eqO Z.ln (ok_Line___eq__ Z (k := k + 12)) hr Z.M_Line___eq__.at_ Z.M_Line___eq__.fn Z.b_Line___eq__ (passX rfl rfl rfl rfl) (e_var 2) (e_var 4)) (a_cons e_bl a_nil)) (al_cons (al_cons al_nil))))) (t_or1 (t_not (t_val (e_callP (ok__law_same_truth Z (k := k + 12)) hr (by rfl) Z.g__law_same_truth Z.F__law_same_truth.kp Z.b__law_same_truth (passX rfl rfl rfl rfl) (a_cons (e_eqO Z.ln (ok_Line___eq__ Z (k := k + 12)) hr Z.M_Line___eq__.at_ Z.M_Line___eq__.fn Z.b_Line___eq__ (passX rfl rfl rfl rfl) (e_var 2) e_str) (a_cons e_bl a_nil)) (al_cons (al_cons al_nil))))))).pt (b_one (s_ret e_bl)) b_nil)
    (b_cons (s_for (passes_of rfl) rfl (i_walk (e_tup (a_cons e_int (a_cons e_int (a_cons e_int a_nil))))) (g_name 5 sc_law.nd) (b_one (s_expr (e_meth 4 Z.ln.toLnC Z.M_Line_come (ok_Line_come Z (k := k + 1)) hr Z.b_Line_come (passX rfl rfl rfl rfl) (a_cons (e_var 5) a_nil) (al_cons (al_cons al_nil))))))
    (b_cons (s_if (t_or (t_not (t_val (e_callP (ok__law_same_truth Z (k := k + 12)) hr (by rfl) Z.g__law_same_truth Z.F__law_same_truth.kp Z.b__law_same_truth (passX rfl rfl rfl rfl) (a_cons (e_eqO Z.ln (ok_Line___eq__ Z (k := k + 12)) hr Z.M_Line___eq__.at_ Z.M_Line___eq__.fn Z.b_Line___eq__ (passX rfl rfl rfl rfl) (e_var 2) (e_var 4)) (a_cons e_bl a_nil)) (al_cons (al_cons al_nil))))) (t_or1 (t_not (t_val (e_callP (ok__law_same_truth Z (k := k + 12)) hr (by rfl) Z.g__law_same_truth Z.F__law_same_truth.kp Z.b__law_same_truth (passX rfl rfl rfl rfl) (a_cons (e_eqO Z.ln (ok_Line___eq__ Z (k := k + 12)) hr Z.M_Line___eq__.at_ Z.M_Line___eq__.fn Z.b_Line___eq__ (passX rfl rfl rfl rfl) (e_make Z.ln.toLnC Z.mkLn (ok_Line___init__ Z (k := k + 6)) hr (by rfl) Z.g_Line Z.b_Line___init__ (passX rfl rfl rfl rfl) (a_cons (e_tup a_nil) a_nil) (al_cons al_nil)) (e_make Z.ln.toLnC Z.mkLn (ok_Line___init__ Z (k := k + 6)) hr (by rfl) Z.g_Line Z.b_Line___init__ (passX rfl rfl rfl rfl) (a_cons (e_tup (a_cons (e_tup (a_cons e_str (a_cons e_int a_nil))) a_nil)) a_nil) (al_cons al_nil))) (a_cons e_bl a_nil)) (al_cons (al_cons al_nil))))))).pt (b_one (s_ret e_bl)) b_nil)
    (b_cons (s_if (t_or (t_cmp (op_neD hr.units) prim_neB (e_meth0 2 Z.ln.toLnC Z.M_Line_mark (ok_Line_mark Z (k := k + 0)) hr Z.b_Line_mark (passX rfl rfl rfl rfl)) (e_lst (a_cons e_int (a_cons e_int (a_cons e_non a_nil)))) (nomark _)) (t_or (t_cmp (op_neD hr.units) prim_neB (e_strO 2 Z.ln.toLnC (ok_Line___str__ Z (k := k + 10)) hr Z.M_Line___str__.at_ Z.M_Line___str__.fn Z.b_Line___str__ (passX rfl rfl rfl rfl) (by rfl) Z.m_str (by decide +kernel)) e_str (nomark _)) (t_or1 (t_not (t_val (e_callP (ok__law_same_truth Z (k := k + 12)) hr (by rfl) Z.g__law_same_truth Z.F__law_same_truth.kp Z.b__law_same_truth (passX rfl rfl rfl rfl) (a_cons (e_eqO Z.ln (ok_Line___eq__ Z (k := k + 12)) hr Z.M_Line___eq__.at_ Z.M_Line___eq__.fn Z.b_Line___eq__ (passX rfl rfl rfl rfl) (e_var 2) (e_var 4)) (a_cons e_bl a_nil)) (al_cons (al_cons al_nil)))))))).pt (b_one (s_ret e_bl)) b_nil)
    (b_cons (s_if (t_or (t_cmp (op_neD hr.units) prim_neB (e_meth0 4 Z.ln.toLnC Z.M_Line_finish (ok_Line_finish Z (k := k + 0)) hr Z.b_Line_finish (passX rfl rfl rfl rfl)) (e_lst (a_cons e_int (a_cons e_int a_nil))) (nomark _)) (t_or (t_cmp (op_neD hr.units) prim_neB (e_meth0 4 Z.ln.toLnC Z.M_Line_out (ok_Line_out Z (k := k + 12)) hr Z.b_Line_out (passX rfl rfl rfl rfl)) (e_tup (a_cons e_int (a_cons e_int (a_cons e_int a_nil)))) (nomark _)) (t_or1 (t_cmp (op_neD hr.units) prim_neB (e_meth0 4 Z.ln.toLnC Z.M_Line_finish (ok_Line_finish Z (k := k + 0)) hr Z.b_Line_finish (passX rfl rfl rfl rfl)) (e_lst a_nil) (nomark _))))).pt (b_one (s_ret e_bl)) b_nil)
    (b_cons (s_setFc (i := 6) (own := [("again", 7)]) (js := [7]) rfl sc_law.nd rfl rfl (sw_true rfl rfl rfl rfl) (i_rng1 (by rfl) Z.m_range (a_cons e_int a_nil)) (blkOk_by (own := [("again", 7)]) (N := N_law) (sc := defScope s_law) (by decide +kernel)) (fun _ _ _ _ _ => (g_name 7 sc_law.nd)) (fun _ _ _ _ _ => ts_nil) (fun _ _ _ _ _ => (e_call (ok__law_ask Z (k := k + 0)) hr (by rfl) Z.g__law_ask Z.F__law_ask.kp Z.b__law_ask passL (a_cons e_int (a_cons (e_var 4) (a_cons e_non a_nil))) (al_cons (al_cons (al_cons al_nil))))) (by decide))
    (b_one (s_ret (e_cmp (op_eqD hr.units) prim_eqB (e_var 6) (e_lst (a_cons e_str (a_cons e_str (a_cons e_str (a_cons e_str (a_cons e_str (a_cons (e_tup (a_cons e_str (a_cons e_int a_nil))) a_nil))))))) (nomark _)))))))))))))))))
end
def spLaw (K : PySem.W.Frag) : Sp := fun vs H Q _ => ∃ (a : Addr) (ns : List Int), vs = [.ref a] ∧ SqL K H a (ns.map V.int) ∧ ns.length ≤ 63 ∧ ∀ H', Q (.bl true) H'
def LawOk : Prop := ∀ ns : List Int, ns.length ≤ 63 → ∃ h', F_law [.scr ns] [] = .ok (.dat (.bool true)) h'
set_option maxHeartbeats 0 in
theorem mk_fx {K : PySem.W.Frag} {h : Heap} {mg : Str → Option Value} (X : K.In h) (G : h.Ns mainGlobals mg)
    {cNoRow : Addr} (aNoRow : PySem.W.nsIn K mainGlobals "NoRow" = some (some (.ref cNoRow)))
    {cNoShelf : Addr} (aNoShelf : PySem.W.nsIn K mainGlobals "NoShelf" = some (some (.ref cNoShelf)))
    {cNoLine : Addr} (aNoLine : PySem.W.nsIn K mainGlobals "NoLine" = some (some (.ref cNoLine)))
    {cNoPlaces : Addr} (aNoPlaces : PySem.W.nsIn K mainGlobals "NoPlaces" = some (some (.ref cNoPlaces)))
    {cMarked : Addr} (aMarked : PySem.W.nsIn K mainGlobals "Marked" = some (some (.ref cMarked)))
    {cNoCounts : Addr} (aNoCounts : PySem.W.nsIn K mainGlobals "NoCounts" = some (some (.ref cNoCounts)))
    {cNoLetting : Addr} (aNoLetting : PySem.W.nsIn K mainGlobals "NoLetting" = some (some (.ref cNoLetting)))
    {cTooMany : Addr} (aTooMany : PySem.W.nsIn K mainGlobals "TooMany" = some (some (.ref cTooMany)))
    {cNoMove : Addr} (aNoMove : PySem.W.nsIn K mainGlobals "NoMove" = some (some (.ref cNoMove)))
    {cNoText : Addr} (aNoText : PySem.W.nsIn K mainGlobals "NoText" = some (some (.ref cNoText)))
    {cNoNumber : Addr} (aNoNumber : PySem.W.nsIn K mainGlobals "NoNumber" = some (some (.ref cNoNumber)))
    {cNothing : Addr} (aNothing : PySem.W.nsIn K mainGlobals "Nothing" = some (some (.ref cNothing)))
    (bNoRow : PySem.W.subIn K (.ref cNoRow) (.type "BaseException") = some true) (tNoRow : PySem.W.typeIn K (.ref cNoRow) = some (.type "type"))
    (bNoShelf : PySem.W.subIn K (.ref cNoShelf) (.type "BaseException") = some true) (tNoShelf : PySem.W.typeIn K (.ref cNoShelf) = some (.type "type"))
    (bNoLine : PySem.W.subIn K (.ref cNoLine) (.type "BaseException") = some true) (tNoLine : PySem.W.typeIn K (.ref cNoLine) = some (.type "type"))
    (bNoPlaces : PySem.W.subIn K (.ref cNoPlaces) (.type "BaseException") = some true) (tNoPlaces : PySem.W.typeIn K (.ref cNoPlaces) = some (.type "type"))
    (bMarked : PySem.W.subIn K (.ref cMarked) (.type "BaseException") = some true) (tMarked : PySem.W.typeIn K (.ref cMarked) = some (.type "type"))
    (bNoCounts : PySem.W.subIn K (.ref cNoCounts) (.type "BaseException") = some true) (tNoCounts : PySem.W.typeIn K (.ref cNoCounts) = some (.type "type"))
    (bNoLetting : PySem.W.subIn K (.ref cNoLetting) (.type "BaseException") = some true) (tNoLetting : PySem.W.typeIn K (.ref cNoLetting) = some (.type "type"))
    (bTooMany : PySem.W.subIn K (.ref cTooMany) (.type "BaseException") = some true) (tTooMany : PySem.W.typeIn K (.ref cTooMany) = some (.type "type"))
    (bNoMove : PySem.W.subIn K (.ref cNoMove) (.type "BaseException") = some true) (tNoMove : PySem.W.typeIn K (.ref cNoMove) = some (.type "type"))
    (bNoText : PySem.W.subIn K (.ref cNoText) (.type "BaseException") = some true) (tNoText : PySem.W.typeIn K (.ref cNoText) = some (.type "type"))
    (bNoNumber : PySem.W.subIn K (.ref cNoNumber) (.type "BaseException") = some true) (tNoNumber : PySem.W.typeIn K (.ref cNoNumber) = some (.type "type"))
    (bNothing : PySem.W.subIn K (.ref cNothing) (.type "BaseException") = some true) (tNothing : PySem.W.typeIn K (.ref cNothing) = some (.type "type"))
    (xNoLine : PySem.W.excIn K cNoLine [.type "ValueError", .type "Exception", .type "BaseException", .type "object"] "ValueError.__new__" = true) (kNoLine : PySem.W.keepIn K (.ref cNoLine) = true)
    (xNoNumber : PySem.W.excIn K cNoNumber [.type "ValueError", .type "Exception", .type "BaseException", .type "object"] "ValueError.__new__" = true) (kNoNumber : PySem.W.keepIn K (.ref cNoNumber) = true)
    (xNothing : PySem.W.excIn K cNothing [.type "ValueError", .type "Exception", .type "BaseException", .type "object"] "ValueError.__new__" = true) (kNothing : PySem.W.keepIn K (.ref cNothing) = true)
    {cSE : Addr} (aSE : PySem.W.nsIn K mainGlobals "ShelfError" = some (some (.ref cSE))) (bSE : PySem.W.subIn K (.ref cSE) (.type "BaseException") = some true) (tSE : PySem.W.typeIn K (.ref cSE) = some (.type "type")) (dSE : PySem.W.hasDictIn K cSE = true)
    (eNoLine : PySem.W.subIn K (.ref cNoLine) (.ref cSE) = some true)
    (eNoNumber : PySem.W.subIn K (.ref cNoNumber) (.ref cSE) = some true)
    (eNothing : PySem.W.subIn K (.ref cNothing) (.ref cSE) = some true)
    (hn0 : PySem.W.specialIn K (.builtin "object.__class__") "__get__" = some (some (.builtin "getset_descriptor.__get__"))) (ht0 : PySem.W.takesIn K (.builtin "object.__class__") = some true)
    (iNoRow : PySem.W.isClsIn K cNoRow = true)
    (iNoShelf : PySem.W.isClsIn K cNoShelf = true)
    (iNoLine : PySem.W.isClsIn K cNoLine = true)
    (iNoPlaces : PySem.W.isClsIn K cNoPlaces = true)
    (iMarked : PySem.W.isClsIn K cMarked = true)
    (iNoCounts : PySem.W.isClsIn K cNoCounts = true)
    (iNoLetting : PySem.W.isClsIn K cNoLetting = true)
    (iTooMany : PySem.W.isClsIn K cTooMany = true)
    (iNoMove : PySem.W.isClsIn K cNoMove = true)
    (iNoText : PySem.W.isClsIn K cNoText = true)
    (iNoNumber : PySem.W.isClsIn K cNoNumber = true)
    (iNothing : PySem.W.isClsIn K cNothing = true)
    (hgNoLine : PySem.W.findIn K (.ref cNoLine) "__getattribute__" = some (some (.builtin "BaseException.__getattribute__"))) (hkNoLine : PySem.W.findIn K (.ref cNoLine) "__getattr__" = some none) (hdNoLine : PySem.W.hasDictIn K cNoLine = true) (haNoLine : PySem.W.findIn K (.ref cNoLine) "__class__" = some (some (.builtin "object.__class__"))) (hmNoLine : PySem.W.mroIn K cNoLine (.type "object") = some true) (vNoLine : PySem.W.subIn K (.ref cNoLine) (.type "ValueError") = some true)
    (sNoLineNoRow : PySem.W.subIn K (.ref cNoLine) (.ref cNoRow) = some false)
    (sNoLineNoShelf : PySem.W.subIn K (.ref cNoLine) (.ref cNoShelf) = some false)
    (sNoLineNoLine : PySem.W.subIn K (.ref cNoLine) (.ref cNoLine) = some true)
    (sNoLineNoPlaces : PySem.W.subIn K (.ref cNoLine) (.ref cNoPlaces) = some false)
    (sNoLineMarked : PySem.W.subIn K (.ref cNoLine) (.ref cMarked) = some false)
    (sNoLineNoCounts : PySem.W.subIn K (.ref cNoLine) (.ref cNoCounts) = some false)
    (sNoLineNoLetting : PySem.W.subIn K (.ref cNoLine) (.ref cNoLetting) = some false)
    (sNoLineTooMany : PySem.W.subIn K (.ref cNoLine) (.ref cTooMany) = some false)
    (sNoLineNoMove : PySem.W.subIn K (.ref cNoLine) (.ref cNoMove) = some false)
    (sNoLineNoText : PySem.W.subIn K (.ref cNoLine) (.ref cNoText) = some false)
    (sNoLineNoNumber : PySem.W.subIn K (.ref cNoLine) (.ref cNoNumber) = some false)
    (sNoLineNothing : PySem.W.subIn K (.ref cNoLine) (.ref cNothing) = some false)
    (hgNoNumber : PySem.W.findIn K (.ref cNoNumber) "__getattribute__" = some (some (.builtin "BaseException.__getattribute__"))) (hkNoNumber : PySem.W.findIn K (.ref cNoNumber) "__getattr__" = some none) (hdNoNumber : PySem.W.hasDictIn K cNoNumber = true) (haNoNumber : PySem.W.findIn K (.ref cNoNumber) "__class__" = some (some (.builtin "object.__class__"))) (hmNoNumber : PySem.W.mroIn K cNoNumber (.type "object") = some true) (vNoNumber : PySem.W.subIn K (.ref cNoNumber) (.type "ValueError") = some true)
    (sNoNumberNoRow : PySem.W.subIn K (.ref cNoNumber) (.ref cNoRow) = some false)
    (sNoNumberNoShelf : PySem.W.subIn K (.ref cNoNumber) (.ref cNoShelf) = some false)
    (sNoNumberNoLine : PySem.W.subIn K (.ref cNoNumber) (.ref cNoLine) = some false)
    (sNoNumberNoPlaces : PySem.W.subIn K (.ref cNoNumber) (.ref cNoPlaces) = some false)
    (sNoNumberMarked : PySem.W.subIn K (.ref cNoNumber) (.ref cMarked) = some false)
    (sNoNumberNoCounts : PySem.W.subIn K (.ref cNoNumber) (.ref cNoCounts) = some false)
    (sNoNumberNoLetting : PySem.W.subIn K (.ref cNoNumber) (.ref cNoLetting) = some false)
    (sNoNumberTooMany : PySem.W.subIn K (.ref cNoNumber) (.ref cTooMany) = some false)
    (sNoNumberNoMove : PySem.W.subIn K (.ref cNoNumber) (.ref cNoMove) = some false)
    (sNoNumberNoText : PySem.W.subIn K (.ref cNoNumber) (.ref cNoText) = some false)
    (sNoNumberNoNumber : PySem.W.subIn K (.ref cNoNumber) (.ref cNoNumber) = some true)
    (sNoNumberNothing : PySem.W.subIn K (.ref cNoNumber) (.ref cNothing) = some false)
    (hgNothing : PySem.W.findIn K (.ref cNothing) "__getattribute__" = some (some (.builtin "BaseException.__getattribute__"))) (hkNothing : PySem.W.findIn K (.ref cNothing) "__getattr__" = some none) (hdNothing : PySem.W.hasDictIn K cNothing = true) (haNothing : PySem.W.findIn K (.ref cNothing) "__class__" = some (some (.builtin "object.__class__"))) (hmNothing : PySem.W.mroIn K cNothing (.type "object") = some true) (vNothing : PySem.W.subIn K (.ref cNothing) (.type "ValueError") = some true)
    (sNothingNoRow : PySem.W.subIn K (.ref cNothing) (.ref cNoRow) = some false)
    (sNothingNoShelf : PySem.W.subIn K (.ref cNothing) (.ref cNoShelf) = some false)
    (sNothingNoLine : PySem.W.subIn K (.ref cNothing) (.ref cNoLine) = some false)
    (sNothingNoPlaces : PySem.W.subIn K (.ref cNothing) (.ref cNoPlaces) = some false)
    (sNothingMarked : PySem.W.subIn K (.ref cNothing) (.ref cMarked) = some false)
    (sNothingNoCounts : PySem.W.subIn K (.ref cNothing) (.ref cNoCounts) = some false)
    (sNothingNoLetting : PySem.W.subIn K (.ref cNothing) (.ref cNoLetting) = some false)
    (sNothingTooMany : PySem.W.subIn K (.ref cNothing) (.ref cTooMany) = some false)
    (sNothingNoMove : PySem.W.subIn K (.ref cNothing) (.ref cNoMove) = some false)
    (sNothingNoText : PySem.W.subIn K (.ref cNothing) (.ref cNoText) = some false)
    (sNothingNoNumber : PySem.W.subIn K (.ref cNothing) (.ref cNoNumber) = some false)
    (sNothingNothing : PySem.W.subIn K (.ref cNothing) (.ref cNothing) = some true)
    {cLn : Addr} (aLn : PySem.W.nsIn K mainGlobals "Line" = some (some (.ref cLn))) (pgL : PySem.W.plainGet K cLn Str.empty = true) (hdL : PySem.W.hasDictIn K cLn = true) (poL : PySem.W.plainOver K cLn = true) (saL : PySem.W.findIn K (.ref cLn) "__setattr__" = some (some (.builtin "object.__setattr__"))) (mkL : PySem.W.makesIn K cLn = true) (kpL : PySem.W.keepIn K (.ref cLn) = true)
    (haL : PySem.W.findIn K (.ref cLn) "__class__" = some (some (.builtin "object.__class__"))) (hnL : PySem.W.specialIn K (.builtin "object.__class__") "__get__" = some (some (.builtin "getset_descriptor.__get__"))) (htL : PySem.W.takesIn K (.builtin "object.__class__") = some true) (hmL : PySem.W.mroIn K cLn (.type "object") = some true) (icL : PySem.W.isClsIn K cLn = true) (tyL : PySem.W.typeIn K (.ref cLn) = some (.type "type")) (sbL : PySem.W.subIn K (.type "str") (.ref cLn) = some false)
    (ncallsL : PySem.W.findIn K (.ref cLn) "calls" = some none)
    (nhowL : PySem.W.findIn K (.ref cLn) "how" = some none)
    (npastL : PySem.W.findIn K (.ref cLn) "past" = some none)
    (nshelvesL : PySem.W.findIn K (.ref cLn) "shelves" = some none)
    {f0 : Addr} {od0 an0 : Option Addr} {sl0 : Array (Option Value)} {oc0 kV0 dc0 pm0 cd0 ct0 : Value}
    (a0 : PySem.W.nsIn K mainGlobals "is_any_whole" = some (some (.ref f0))) (l0 : K.lookup f0 = some ⟨oc0, od0, .func (PySem.W.fnOf "is_any_whole" "is_any_whole" (defArgs s_is_any_whole) (defBody s_is_any_whole) (defScope s_is_any_whole) .none kV0 dc0 pm0 an0 cd0 ct0), sl0⟩) (c0 : PySem.W.codeIn K cd0 "is_any_whole" = true) (k0 : PySem.W.keepIn K (.ref f0) = true)
    {f1 : Addr} {od1 an1 : Option Addr} {sl1 : Array (Option Value)} {oc1 kV1 dc1 pm1 cd1 ct1 : Value}
    (a1 : PySem.W.nsIn K mainGlobals "is_whole" = some (some (.ref f1))) (l1 : K.lookup f1 = some ⟨oc1, od1, .func (PySem.W.fnOf "is_whole" "is_whole" (defArgs s_is_whole) (defBody s_is_whole) (defScope s_is_whole) .none kV1 dc1 pm1 an1 cd1 ct1), sl1⟩) (c1 : PySem.W.codeIn K cd1 "is_whole" = true) (k1 : PySem.W.keepIn K (.ref f1) = true)
    {f2 : Addr} {od2 an2 : Option Addr} {sl2 : Array (Option Value)} {oc2 kV2 dc2 pm2 cd2 ct2 : Value}
    (a2 : PySem.W.nsIn K mainGlobals "numbers_of" = some (some (.ref f2))) (l2 : K.lookup f2 = some ⟨oc2, od2, .func (PySem.W.fnOf "numbers_of" "numbers_of" (defArgs s_numbers_of) (defBody s_numbers_of) (defScope s_numbers_of) .none kV2 dc2 pm2 an2 cd2 ct2), sl2⟩) (c2 : PySem.W.codeIn K cd2 "numbers_of" = true) (k2 : PySem.W.keepIn K (.ref f2) = true)
    {f3 : Addr} {od3 an3 : Option Addr} {sl3 : Array (Option Value)} {oc3 kV3 dc3 pm3 cd3 ct3 : Value}
    (a3 : PySem.W.nsIn K mainGlobals "good_shelf" = some (some (.ref f3))) (l3 : K.lookup f3 = some ⟨oc3, od3, .func (PySem.W.fnOf "good_shelf" "good_shelf" (defArgs s_good_shelf) (defBody s_good_shelf) (defScope s_good_shelf) .none kV3 dc3 pm3 an3 cd3 ct3), sl3⟩) (c3 : PySem.W.codeIn K cd3 "good_shelf" = true) (k3 : PySem.W.keepIn K (.ref f3) = true)
    {f4 : Addr} {od4 an4 : Option Addr} {sl4 : Array (Option Value)} {oc4 kV4 dc4 pm4 cd4 ct4 : Value}
    (a4 : PySem.W.nsIn K mainGlobals "good_line" = some (some (.ref f4))) (l4 : K.lookup f4 = some ⟨oc4, od4, .func (PySem.W.fnOf "good_line" "good_line" (defArgs s_good_line) (defBody s_good_line) (defScope s_good_line) .none kV4 dc4 pm4 an4 cd4 ct4), sl4⟩) (c4 : PySem.W.codeIn K cd4 "good_line" = true) (k4 : PySem.W.keepIn K (.ref f4) = true)
    {f5 : Addr} {od5 an5 : Option Addr} {sl5 : Array (Option Value)} {oc5 kV5 dc5 pm5 cd5 ct5 : Value}
    (a5 : PySem.W.nsIn K mainGlobals "need_line" = some (some (.ref f5))) (l5 : K.lookup f5 = some ⟨oc5, od5, .func (PySem.W.fnOf "need_line" "need_line" (defArgs s_need_line) (defBody s_need_line) (defScope s_need_line) .none kV5 dc5 pm5 an5 cd5 ct5), sl5⟩) (c5 : PySem.W.codeIn K cd5 "need_line" = true) (k5 : PySem.W.keepIn K (.ref f5) = true)
    {f6 : Addr} {od6 an6 : Option Addr} {sl6 : Array (Option Value)} {oc6 kV6 dc6 pm6 cd6 ct6 : Value}
    (a6 : PySem.W.nsIn K mainGlobals "pick_of" = some (some (.ref f6))) (l6 : K.lookup f6 = some ⟨oc6, od6, .func (PySem.W.fnOf "pick_of" "pick_of" (defArgs s_pick_of) (defBody s_pick_of) (defScope s_pick_of) .none kV6 dc6 pm6 an6 cd6 ct6), sl6⟩) (c6 : PySem.W.codeIn K cd6 "pick_of" = true) (k6 : PySem.W.keepIn K (.ref f6) = true)
    {f7 : Addr} {od7 an7 : Option Addr} {sl7 : Array (Option Value)} {oc7 kV7 dc7 pm7 cd7 ct7 : Value}
    (a7 : PySem.W.nsIn K mainGlobals "in_order" = some (some (.ref f7))) (l7 : K.lookup f7 = some ⟨oc7, od7, .func (PySem.W.fnOf "in_order" "in_order" (defArgs s_in_order) (defBody s_in_order) (defScope s_in_order) .none kV7 dc7 pm7 an7 cd7 ct7), sl7⟩) (c7 : PySem.W.codeIn K cd7 "in_order" = true) (k7 : PySem.W.keepIn K (.ref f7) = true)
    {f8 : Addr} {od8 an8 : Option Addr} {sl8 : Array (Option Value)} {oc8 kV8 dc8 pm8 cd8 ct8 : Value}
    (a8 : PySem.W.findIn K (.ref cLn) "__init__" = some (some (.ref f8))) (y8 : PySem.W.isFn K (.ref f8) = true) (l8 : K.lookup f8 = some ⟨oc8, od8, .func (PySem.W.fnOf "__init__" "Line.__init__" (defArgs s_Line___init__) (defBody s_Line___init__) (defScope s_Line___init__) .none kV8 dc8 pm8 an8 cd8 ct8), sl8⟩) (c8 : PySem.W.codeIn K cd8 "Line.__init__" = true) (k8 : PySem.W.keepIn K (.ref f8) = true)
    {f9 : Addr} {od9 an9 : Option Addr} {sl9 : Array (Option Value)} {oc9 kV9 dc9 pm9 cd9 ct9 : Value}
    (a9 : PySem.W.findIn K (.ref cLn) "call" = some (some (.ref f9))) (y9 : PySem.W.isFn K (.ref f9) = true) (l9 : K.lookup f9 = some ⟨oc9, od9, .func (PySem.W.fnOf "call" "Line.call" (defArgs s_Line_call) (defBody s_Line_call) (defScope s_Line_call) .none kV9 dc9 pm9 an9 cd9 ct9), sl9⟩) (c9 : PySem.W.codeIn K cd9 "Line.call" = true) (k9 : PySem.W.keepIn K (.ref f9) = true)
    {f10 : Addr} {od10 an10 : Option Addr} {sl10 : Array (Option Value)} {oc10 kV10 dc10 pm10 cd10 ct10 : Value}
    (a10 : PySem.W.findIn K (.ref cLn) "put" = some (some (.ref f10))) (y10 : PySem.W.isFn K (.ref f10) = true) (l10 : K.lookup f10 = some ⟨oc10, od10, .func (PySem.W.fnOf "put" "Line.put" (defArgs s_Line_put) (defBody s_Line_put) (defScope s_Line_put) .none kV10 dc10 pm10 an10 cd10 ct10), sl10⟩) (c10 : PySem.W.codeIn K cd10 "Line.put" = true) (k10 : PySem.W.keepIn K (.ref f10) = true)
    {f11 : Addr} {od11 an11 : Option Addr} {sl11 : Array (Option Value)} {oc11 kV11 dc11 pm11 cd11 ct11 : Value}
    (a11 : PySem.W.findIn K (.ref cLn) "emptied" = some (some (.ref f11))) (y11 : PySem.W.isFn K (.ref f11) = true) (l11 : K.lookup f11 = some ⟨oc11, od11, .func (PySem.W.fnOf "emptied" "Line.emptied" (defArgs s_Line_emptied) (defBody s_Line_emptied) (defScope s_Line_emptied) .none kV11 dc11 pm11 an11 cd11 ct11), sl11⟩) (c11 : PySem.W.codeIn K cd11 "Line.emptied" = true) (k11 : PySem.W.keepIn K (.ref f11) = true)
    {f12 : Addr} {od12 an12 : Option Addr} {sl12 : Array (Option Value)} {oc12 kV12 dc12 pm12 cd12 ct12 : Value}
    (a12 : PySem.W.findIn K (.ref cLn) "come" = some (some (.ref f12))) (y12 : PySem.W.isFn K (.ref f12) = true) (l12 : K.lookup f12 = some ⟨oc12, od12, .func (PySem.W.fnOf "come" "Line.come" (defArgs s_Line_come) (defBody s_Line_come) (defScope s_Line_come) .none kV12 dc12 pm12 an12 cd12 ct12), sl12⟩) (c12 : PySem.W.codeIn K cd12 "Line.come" = true) (k12 : PySem.W.keepIn K (.ref f12) = true)
    {f13 : Addr} {od13 an13 : Option Addr} {sl13 : Array (Option Value)} {oc13 kV13 dc13 pm13 cd13 ct13 : Value}
    (a13 : PySem.W.findIn K (.ref cLn) "mark" = some (some (.ref f13))) (y13 : PySem.W.isFn K (.ref f13) = true) (l13 : K.lookup f13 = some ⟨oc13, od13, .func (PySem.W.fnOf "mark" "Line.mark" (defArgs s_Line_mark) (defBody s_Line_mark) (defScope s_Line_mark) .none kV13 dc13 pm13 an13 cd13 ct13), sl13⟩) (c13 : PySem.W.codeIn K cd13 "Line.mark" = true) (k13 : PySem.W.keepIn K (.ref f13) = true)
    {f14 : Addr} {od14 an14 : Option Addr} {sl14 : Array (Option Value)} {oc14 kV14 dc14 pm14 cd14 ct14 : Value}
    (a14 : PySem.W.findIn K (.ref cLn) "finish" = some (some (.ref f14))) (y14 : PySem.W.isFn K (.ref f14) = true) (l14 : K.lookup f14 = some ⟨oc14, od14, .func (PySem.W.fnOf "finish" "Line.finish" (defArgs s_Line_finish) (defBody s_Line_finish) (defScope s_Line_finish) .none kV14 dc14 pm14 an14 cd14 ct14), sl14⟩) (c14 : PySem.W.codeIn K cd14 "Line.finish" = true) (k14 : PySem.W.keepIn K (.ref f14) = true)
    {f15 : Addr} {od15 an15 : Option Addr} {sl15 : Array (Option Value)} {oc15 kV15 dc15 pm15 cd15 ct15 : Value}
    (a15 : PySem.W.findIn K (.ref cLn) "standing" = some (some (.ref f15))) (y15 : PySem.W.isFn K (.ref f15) = true) (l15 : K.lookup f15 = some ⟨oc15, od15, .func (PySem.W.fnOf "standing" "Line.standing" (defArgs s_Line_standing) (defBody s_Line_standing) (defScope s_Line_standing) .none kV15 dc15 pm15 an15 cd15 ct15), sl15⟩) (c15 : PySem.W.codeIn K cd15 "Line.standing" = true) (k15 : PySem.W.keepIn K (.ref f15) = true)
    {f16 : Addr} {od16 an16 : Option Addr} {sl16 : Array (Option Value)} {oc16 kV16 dc16 pm16 cd16 ct16 : Value}
    (a16 : PySem.W.findIn K (.ref cLn) "out" = some (some (.ref f16))) (y16 : PySem.W.isFn K (.ref f16) = true) (l16 : K.lookup f16 = some ⟨oc16, od16, .func (PySem.W.fnOf "out" "Line.out" (defArgs s_Line_out) (defBody s_Line_out) (defScope s_Line_out) .none kV16 dc16 pm16 an16 cd16 ct16), sl16⟩) (c16 : PySem.W.codeIn K cd16 "Line.out" = true) (k16 : PySem.W.keepIn K (.ref f16) = true)
    {f17 : Addr} {od17 an17 : Option Addr} {sl17 : Array (Option Value)} {oc17 kV17 dc17 pm17 cd17 ct17 : Value}
    (a17 : PySem.W.findIn K (.ref cLn) "back" = some (some (.ref f17))) (y17 : PySem.W.isFn K (.ref f17) = true) (l17 : K.lookup f17 = some ⟨oc17, od17, .func (PySem.W.fnOf "back" "Line.back" (defArgs s_Line_back) (defBody s_Line_back) (defScope s_Line_back) .none kV17 dc17 pm17 an17 cd17 ct17), sl17⟩) (c17 : PySem.W.codeIn K cd17 "Line.back" = true) (k17 : PySem.W.keepIn K (.ref f17) = true)
    {f18 : Addr} {od18 an18 : Option Addr} {sl18 : Array (Option Value)} {oc18 kV18 dc18 pm18 cd18 ct18 : Value}
    (a18 : PySem.W.findIn K (.ref cLn) "__eq__" = some (some (.ref f18))) (y18 : PySem.W.isFn K (.ref f18) = true) (l18 : K.lookup f18 = some ⟨oc18, od18, .func (PySem.W.fnOf "__eq__" "Line.__eq__" (defArgs s_Line___eq__) (defBody s_Line___eq__) (defScope s_Line___eq__) .none kV18 dc18 pm18 an18 cd18 ct18), sl18⟩) (c18 : PySem.W.codeIn K cd18 "Line.__eq__" = true) (k18 : PySem.W.keepIn K (.ref f18) = true)
    {f19 : Addr} {od19 an19 : Option Addr} {sl19 : Array (Option Value)} {oc19 kV19 dc19 pm19 cd19 ct19 : Value}
    (a19 : PySem.W.findIn K (.ref cLn) "__len__" = some (some (.ref f19))) (y19 : PySem.W.isFn K (.ref f19) = true) (l19 : K.lookup f19 = some ⟨oc19, od19, .func (PySem.W.fnOf "__len__" "Line.__len__" (defArgs s_Line___len__) (defBody s_Line___len__) (defScope s_Line___len__) .none kV19 dc19 pm19 an19 cd19 ct19), sl19⟩) (c19 : PySem.W.codeIn K cd19 "Line.__len__" = true) (k19 : PySem.W.keepIn K (.ref f19) = true)
    {f20 : Addr} {od20 an20 : Option Addr} {sl20 : Array (Option Value)} {oc20 kV20 dc20 pm20 cd20 ct20 : Value}
    (a20 : PySem.W.findIn K (.ref cLn) "__str__" = some (some (.ref f20))) (y20 : PySem.W.isFn K (.ref f20) = true) (l20 : K.lookup f20 = some ⟨oc20, od20, .func (PySem.W.fnOf "__str__" "Line.__str__" (defArgs s_Line___str__) (defBody s_Line___str__) (defScope s_Line___str__) .none kV20 dc20 pm20 an20 cd20 ct20), sl20⟩) (c20 : PySem.W.codeIn K cd20 "Line.__str__" = true) (k20 : PySem.W.keepIn K (.ref f20) = true)
    {f21 : Addr} {od21 an21 : Option Addr} {sl21 : Array (Option Value)} {oc21 kV21 dc21 pm21 cd21 ct21 : Value}
    (a21 : PySem.W.nsIn K mainGlobals "_law_same_truth" = some (some (.ref f21))) (l21 : K.lookup f21 = some ⟨oc21, od21, .func (PySem.W.fnOf "_law_same_truth" "_law_same_truth" (defArgs s__law_same_truth) (defBody s__law_same_truth) (defScope s__law_same_truth) .none kV21 dc21 pm21 an21 cd21 ct21), sl21⟩) (c21 : PySem.W.codeIn K cd21 "_law_same_truth" = true) (k21 : PySem.W.keepIn K (.ref f21) = true)
    {f22 : Addr} {od22 an22 : Option Addr} {sl22 : Array (Option Value)} {oc22 kV22 dc22 pm22 cd22 ct22 : Value}
    (a22 : PySem.W.nsIn K mainGlobals "_law_which" = some (some (.ref f22))) (l22 : K.lookup f22 = some ⟨oc22, od22, .func (PySem.W.fnOf "_law_which" "_law_which" (defArgs s__law_which) (defBody s__law_which) (defScope s__law_which) .none kV22 dc22 pm22 an22 cd22 ct22), sl22⟩) (c22 : PySem.W.codeIn K cd22 "_law_which" = true) (k22 : PySem.W.keepIn K (.ref f22) = true)
    {f23 : Addr} {od23 an23 : Option Addr} {sl23 : Array (Option Value)} {oc23 kV23 dc23 pm23 cd23 ct23 : Value}
    (a23 : PySem.W.nsIn K mainGlobals "_law_ask" = some (some (.ref f23))) (l23 : K.lookup f23 = some ⟨oc23, od23, .func (PySem.W.fnOf "_law_ask" "_law_ask" (defArgs s__law_ask) (defBody s__law_ask) (defScope s__law_ask) .none kV23 dc23 pm23 an23 cd23 ct23), sl23⟩) (c23 : PySem.W.codeIn K cd23 "_law_ask" = true) (k23 : PySem.W.keepIn K (.ref f23) = true)
    {f24 : Addr} {od24 an24 : Option Addr} {sl24 : Array (Option Value)} {oc24 kV24 dc24 pm24 cd24 ct24 : Value}
    (a24 : PySem.W.nsIn K mainGlobals "law" = some (some (.ref f24))) (l24 : K.lookup f24 = some ⟨oc24, od24, .func (PySem.W.fnOf "law" "law" (defArgs s_law) (defBody s_law) (defScope s_law) .none kV24 dc24 pm24 an24 cd24 ct24), sl24⟩) (c24 : PySem.W.codeIn K cd24 "law" = true) (k24 : PySem.W.keepIn K (.ref f24) = true)
    (z_ValueError : PySem.W.nsIn K mainGlobals "ValueError" = some none)
    (z_all : PySem.W.nsIn K mainGlobals "all" = some none)
    (z_any : PySem.W.nsIn K mainGlobals "any" = some none)
    (z_bool : PySem.W.nsIn K mainGlobals "bool" = some none)
    (z_enumerate : PySem.W.nsIn K mainGlobals "enumerate" = some none)
    (z_int : PySem.W.nsIn K mainGlobals "int" = some none)
    (z_isinstance : PySem.W.nsIn K mainGlobals "isinstance" = some none)
    (z_len : PySem.W.nsIn K mainGlobals "len" = some none)
    (z_list : PySem.W.nsIn K mainGlobals "list" = some none)
    (z_max : PySem.W.nsIn K mainGlobals "max" = some none)
    (z_min : PySem.W.nsIn K mainGlobals "min" = some none)
    (z_range : PySem.W.nsIn K mainGlobals "range" = some none)
    (z_sorted : PySem.W.nsIn K mainGlobals "sorted" = some none)
    (z_str : PySem.W.nsIn K mainGlobals "str" = some none)
    (z_tuple : PySem.W.nsIn K mainGlobals "tuple" = some none)
    {tPLACES : Tok} (y_PLACES : PySem.W.nsIn K mainGlobals "PLACES" = some (some (.int 9 tPLACES)))
    {tSHELVES : Tok} (y_SHELVES : PySem.W.nsIn K mainGlobals "SHELVES" = some (some (.int 8 tSHELVES)))
    {aWORDS : Addr} {tWORDS0 tWORDS1 : Tok} {nWORDS : Nat} {slWORDS : Array (Option Value)} (y_WORDS : PySem.W.nsIn K mainGlobals "WORDS" = some (some (.ref aWORDS))) (x_WORDS : K.lookup aWORDS = some ⟨.type "tuple", none, .seq #[.str "light" tWORDS0, .str "heavy" tWORDS1] nWORDS, slWORDS⟩) : ∃ Z : Fx K mg, Z.f_law = f24 ∧ ∀ (s : Shared) (v : Value), BindsTo s Z.fd_law ⟨[v], []⟩ [("script", v)] :=
  ⟨{
    Gm := fun n => match n with | 0 => cNoRow | 1 => cNoShelf | 2 => cNoLine | 3 => cNoPlaces | 4 => cMarked | 5 => cNoCounts | 6 => cNoLetting | 7 => cTooMany | 8 => cNoMove | 9 => cNoText | 10 => cNoNumber | 11 => cNothing | _ => 0,
    g_NoRow := PySem.W.mg_of X G aNoRow,
    g_NoShelf := PySem.W.mg_of X G aNoShelf,
    g_NoLine := PySem.W.mg_of X G aNoLine,
    g_NoPlaces := PySem.W.mg_of X G aNoPlaces,
    g_Marked := PySem.W.mg_of X G aMarked,
    g_NoCounts := PySem.W.mg_of X G aNoCounts,
    g_NoLetting := PySem.W.mg_of X G aNoLetting,
    g_TooMany := PySem.W.mg_of X G aTooMany,
    g_NoMove := PySem.W.mg_of X G aNoMove,
    g_NoText := PySem.W.mg_of X G aNoText,
    g_NoNumber := PySem.W.mg_of X G aNoNumber,
    g_Nothing := PySem.W.mg_of X G aNothing,
    x_NoLine := xNoLine, k_NoLine := kNoLine, sb_NoLine := bNoLine, ty_NoLine := tNoLine,
    x_NoNumber := xNoNumber, k_NoNumber := kNoNumber, sb_NoNumber := bNoNumber, ty_NoNumber := tNoNumber,
    x_Nothing := xNothing, k_Nothing := kNothing, sb_Nothing := bNothing, ty_Nothing := tNothing,
    a_ShelfError := cSE, g_ShelfError := PySem.W.mg_of X G aSE,
    exm := (fun c d h => by
      unfold hdW at h
      split at h
      · exact PySem.W.exm_ref bSE dSE tSE eNoLine
      · exact PySem.W.exm_ref bSE dSE tSE eNoNumber
      · exact PySem.W.exm_ref bSE dSE tSE eNothing
      · cases h),
    excC := (fun c d h => by
      unfold hdW at h
      split at h
      · exact ⟨hgNoLine, hkNoLine, bNoLine, hdNoLine, haNoLine, hn0, ht0, hmNoLine⟩
      · exact ⟨hgNoNumber, hkNoNumber, bNoNumber, hdNoNumber, haNoNumber, hn0, ht0, hmNoNumber⟩
      · exact ⟨hgNothing, hkNothing, bNothing, hdNothing, haNothing, hn0, ht0, hmNothing⟩
      · cases h),
    kit := (fun c d h => by
      unfold hdW at h
      split at h
      · exact fun j hj => match j, hj with | 0, _ => kit_no sNoLineNoLine sNoLineNoRow iNoRow tNoRow | 1, _ => kit_no sNoLineNoLine sNoLineNoShelf iNoShelf tNoShelf | 2, _ => kit_yes | 3, _ => kit_no sNoLineNoLine sNoLineNoPlaces iNoPlaces tNoPlaces | 4, _ => kit_no sNoLineNoLine sNoLineMarked iMarked tMarked | 5, _ => kit_no sNoLineNoLine sNoLineNoCounts iNoCounts tNoCounts | 6, _ => kit_no sNoLineNoLine sNoLineNoLetting iNoLetting tNoLetting | 7, _ => kit_no sNoLineNoLine sNoLineTooMany iTooMany tTooMany | 8, _ => kit_no sNoLineNoLine sNoLineNoMove iNoMove tNoMove | 9, _ => kit_no sNoLineNoLine sNoLineNoText iNoText tNoText | 10, _ => kit_no sNoLineNoLine sNoLineNoNumber iNoNumber tNoNumber | 11, _ => kit_no sNoLineNoLine sNoLineNothing iNothing tNothing | (n + 12), hj => absurd hj (by omega)
      · exact fun j hj => match j, hj with | 0, _ => kit_no sNoNumberNoNumber sNoNumberNoRow iNoRow tNoRow | 1, _ => kit_no sNoNumberNoNumber sNoNumberNoShelf iNoShelf tNoShelf | 2, _ => kit_no sNoNumberNoNumber sNoNumberNoLine iNoLine tNoLine | 3, _ => kit_no sNoNumberNoNumber sNoNumberNoPlaces iNoPlaces tNoPlaces | 4, _ => kit_no sNoNumberNoNumber sNoNumberMarked iMarked tMarked | 5, _ => kit_no sNoNumberNoNumber sNoNumberNoCounts iNoCounts tNoCounts | 6, _ => kit_no sNoNumberNoNumber sNoNumberNoLetting iNoLetting tNoLetting | 7, _ => kit_no sNoNumberNoNumber sNoNumberTooMany iTooMany tTooMany | 8, _ => kit_no sNoNumberNoNumber sNoNumberNoMove iNoMove tNoMove | 9, _ => kit_no sNoNumberNoNumber sNoNumberNoText iNoText tNoText | 10, _ => kit_yes | 11, _ => kit_no sNoNumberNoNumber sNoNumberNothing iNothing tNothing | (n + 12), hj => absurd hj (by omega)
      · exact fun j hj => match j, hj with | 0, _ => kit_no sNothingNothing sNothingNoRow iNoRow tNoRow | 1, _ => kit_no sNothingNothing sNothingNoShelf iNoShelf tNoShelf | 2, _ => kit_no sNothingNothing sNothingNoLine iNoLine tNoLine | 3, _ => kit_no sNothingNothing sNothingNoPlaces iNoPlaces tNoPlaces | 4, _ => kit_no sNothingNothing sNothingMarked iMarked tMarked | 5, _ => kit_no sNothingNothing sNothingNoCounts iNoCounts tNoCounts | 6, _ => kit_no sNothingNothing sNothingNoLetting iNoLetting tNoLetting | 7, _ => kit_no sNothingNothing sNothingTooMany iTooMany tTooMany | 8, _ => kit_no sNothingNothing sNothingNoMove iNoMove tNoMove | 9, _ => kit_no sNothingNothing sNothingNoText iNoText tNoText | 10, _ => kit_no sNothingNothing sNothingNoNumber iNoNumber tNoNumber | 11, _ => kit_yes | (n + 12), hj => absurd hj (by omega)
      · cases h),
    kitV := (fun c d h => by
      unfold hdW at h
      split at h
      · exact kit_ty (by decide +kernel) vNoLine
      · exact kit_ty (by decide +kernel) vNoNumber
      · exact kit_ty (by decide +kernel) vNothing
      · cases h),
    aLn := cLn, ln := ⟨⟨aLn, ⟨pgL, hdL, poL, saL⟩⟩, ⟨⟨pgL, hdL, poL, saL⟩, haL, hnL, htL, hmL, kit_yes⟩, kit_noT sbL icL tyL, sbL⟩, g_Line := PySem.W.mg_of X G aLn,
    n_calls := ncallsL,
    n_how := nhowL,
    n_past := npastL,
    n_shelves := nshelvesL,
    f_is_any_whole := f0, fd_is_any_whole := _, F_is_any_whole := fun_mk (st := s_is_any_whole) l0 c0 k0, b_is_any_whole := (fun_mk (st := s_is_any_whole) l0 c0 k0).binds (ps := ["thing"]) (fun _ _ _ _ _ _ us hl => match us, hl with | [_], _ => rfl), g_is_any_whole := PySem.W.mg_of X G a0,
    f_is_whole := f1, fd_is_whole := _, F_is_whole := fun_mk (st := s_is_whole) l1 c1 k1, b_is_whole := (fun_mk (st := s_is_whole) l1 c1 k1).binds (ps := ["thing", "low", "high"]) (fun _ _ _ _ _ _ us hl => match us, hl with | [_, _, _], _ => rfl), g_is_whole := PySem.W.mg_of X G a1,
    f_numbers_of := f2, fd_numbers_of := _, F_numbers_of := fun_mk (st := s_numbers_of) l2 c2 k2, b_numbers_of := (fun_mk (st := s_numbers_of) l2 c2 k2).binds (ps := ["row"]) (fun _ _ _ _ _ _ us hl => match us, hl with | [_], _ => rfl), g_numbers_of := PySem.W.mg_of X G a2,
    f_good_shelf := f3, fd_good_shelf := _, F_good_shelf := fun_mk (st := s_good_shelf) l3 c3 k3, b_good_shelf := (fun_mk (st := s_good_shelf) l3 c3 k3).binds (ps := ["thing"]) (fun _ _ _ _ _ _ us hl => match us, hl with | [_], _ => rfl), g_good_shelf := PySem.W.mg_of X G a3,
    f_good_line := f4, fd_good_line := _, F_good_line := fun_mk (st := s_good_line) l4 c4 k4, b_good_line := (fun_mk (st := s_good_line) l4 c4 k4).binds (ps := ["thing"]) (fun _ _ _ _ _ _ us hl => match us, hl with | [_], _ => rfl), g_good_line := PySem.W.mg_of X G a4,
    f_need_line := f5, fd_need_line := _, F_need_line := fun_mk (st := s_need_line) l5 c5 k5, b_need_line := (fun_mk (st := s_need_line) l5 c5 k5).binds (ps := ["line"]) (fun _ _ _ _ _ _ us hl => match us, hl with | [_], _ => rfl), g_need_line := PySem.W.mg_of X G a5,
    f_pick_of := f6, fd_pick_of := _, F_pick_of := fun_mk (st := s_pick_of) l6 c6 k6, b_pick_of := (fun_mk (st := s_pick_of) l6 c6 k6).binds (ps := ["shelf", "standing"]) (fun _ _ _ _ _ _ us hl => match us, hl with | [_, _], _ => rfl), g_pick_of := PySem.W.mg_of X G a6,
    f_in_order := f7, fd_in_order := _, F_in_order := fun_mk (st := s_in_order) l7 c7 k7, b_in_order := (fun_mk (st := s_in_order) l7 c7 k7).binds (ps := ["shelf", "standing"]) (fun _ _ _ _ _ _ us hl => match us, hl with | [_, _], _ => rfl), g_in_order := PySem.W.mg_of X G a7,
    f_Line___init__ := f8, fd_Line___init__ := _, F_Line___init__ := fun_mk (st := s_Line___init__) l8 c8 k8, b_Line___init__ := (fun_mk (st := s_Line___init__) l8 c8 k8).binds (ps := ["self", "shelves"]) (fun _ _ _ _ _ _ us hl => match us, hl with | [_, _], _ => rfl), M_Line___init__ := ⟨a8, y8, k8⟩,
    mkLn := ⟨mkL, a8, y8, kpL⟩,
    f_Line_call := f9, fd_Line_call := _, F_Line_call := fun_mk (st := s_Line_call) l9 c9 k9, b_Line_call := (fun_mk (st := s_Line_call) l9 c9 k9).binds (ps := ["self", "name", "standing", "more"]) (fun _ _ _ _ _ _ us hl => match us, hl with | [_, _, _, _], _ => rfl), M_Line_call := ⟨a9, y9, k9⟩,
    f_Line_put := f10, fd_Line_put := _, F_Line_put := fun_mk (st := s_Line_put) l10 c10 k10, b_Line_put := (fun_mk (st := s_Line_put) l10 c10 k10).binds (ps := ["self", "standing", "at", "numbers"]) (fun _ _ _ _ _ _ us hl => match us, hl with | [_, _, _, _], _ => rfl), M_Line_put := ⟨a10, y10, k10⟩,
    f_Line_emptied := f11, fd_Line_emptied := _, F_Line_emptied := fun_mk (st := s_Line_emptied) l11 c11 k11, b_Line_emptied := (fun_mk (st := s_Line_emptied) l11 c11 k11).binds (ps := ["self", "standing"]) (fun _ _ _ _ _ _ us hl => match us, hl with | [_, _], _ => rfl), M_Line_emptied := ⟨a11, y11, k11⟩,
    f_Line_come := f12, fd_Line_come := _, F_Line_come := fun_mk (st := s_Line_come) l12 c12 k12, b_Line_come := (fun_mk (st := s_Line_come) l12 c12 k12).binds (ps := ["self", "number"]) (fun _ _ _ _ _ _ us hl => match us, hl with | [_, _], _ => rfl), M_Line_come := ⟨a12, y12, k12⟩,
    f_Line_mark := f13, fd_Line_mark := _, F_Line_mark := fun_mk (st := s_Line_mark) l13 c13 k13, b_Line_mark := (fun_mk (st := s_Line_mark) l13 c13 k13).binds (ps := ["self"]) (fun _ _ _ _ _ _ us hl => match us, hl with | [_], _ => rfl), M_Line_mark := ⟨a13, y13, k13⟩,
    f_Line_finish := f14, fd_Line_finish := _, F_Line_finish := fun_mk (st := s_Line_finish) l14 c14 k14, b_Line_finish := (fun_mk (st := s_Line_finish) l14 c14 k14).binds (ps := ["self"]) (fun _ _ _ _ _ _ us hl => match us, hl with | [_], _ => rfl), M_Line_finish := ⟨a14, y14, k14⟩,
    f_Line_standing := f15, fd_Line_standing := _, F_Line_standing := fun_mk (st := s_Line_standing) l15 c15 k15, b_Line_standing := (fun_mk (st := s_Line_standing) l15 c15 k15).binds (ps := ["self"]) (fun _ _ _ _ _ _ us hl => match us, hl with | [_], _ => rfl), M_Line_standing := ⟨a15, y15, k15⟩,
    f_Line_out := f16, fd_Line_out := _, F_Line_out := fun_mk (st := s_Line_out) l16 c16 k16, b_Line_out := (fun_mk (st := s_Line_out) l16 c16 k16).binds (ps := ["self"]) (fun _ _ _ _ _ _ us hl => match us, hl with | [_], _ => rfl), M_Line_out := ⟨a16, y16, k16⟩,
    f_Line_back := f17, fd_Line_back := _, F_Line_back := fun_mk (st := s_Line_back) l17 c17 k17, b_Line_back := (fun_mk (st := s_Line_back) l17 c17 k17).binds (ps := ["self"]) (fun _ _ _ _ _ _ us hl => match us, hl with | [_], _ => rfl), M_Line_back := ⟨a17, y17, k17⟩,
    f_Line___eq__ := f18, fd_Line___eq__ := _, F_Line___eq__ := fun_mk (st := s_Line___eq__) l18 c18 k18, b_Line___eq__ := (fun_mk (st := s_Line___eq__) l18 c18 k18).binds (ps := ["self", "other"]) (fun _ _ _ _ _ _ us hl => match us, hl with | [_, _], _ => rfl), M_Line___eq__ := ⟨a18, y18, k18⟩,
    f_Line___len__ := f19, fd_Line___len__ := _, F_Line___len__ := fun_mk (st := s_Line___len__) l19 c19 k19, b_Line___len__ := (fun_mk (st := s_Line___len__) l19 c19 k19).binds (ps := ["self"]) (fun _ _ _ _ _ _ us hl => match us, hl with | [_], _ => rfl), M_Line___len__ := ⟨a19, y19, k19⟩,
    f_Line___str__ := f20, fd_Line___str__ := _, F_Line___str__ := fun_mk (st := s_Line___str__) l20 c20 k20, b_Line___str__ := (fun_mk (st := s_Line___str__) l20 c20 k20).binds (ps := ["self"]) (fun _ _ _ _ _ _ us hl => match us, hl with | [_], _ => rfl), M_Line___str__ := ⟨a20, y20, k20⟩,
    f__law_same_truth := f21, fd__law_same_truth := _, F__law_same_truth := fun_mk (st := s__law_same_truth) l21 c21 k21, b__law_same_truth := (fun_mk (st := s__law_same_truth) l21 c21 k21).binds (ps := ["got", "due"]) (fun _ _ _ _ _ _ us hl => match us, hl with | [_, _], _ => rfl), g__law_same_truth := PySem.W.mg_of X G a21,
    f__law_which := f22, fd__law_which := _, F__law_which := fun_mk (st := s__law_which) l22 c22 k22, b__law_which := (fun_mk (st := s__law_which) l22 c22 k22).binds (ps := ["e"]) (fun _ _ _ _ _ _ us hl => match us, hl with | [_], _ => rfl), g__law_which := PySem.W.mg_of X G a22,
    f__law_ask := f23, fd__law_ask := _, F__law_ask := fun_mk (st := s__law_ask) l23 c23 k23, b__law_ask := (fun_mk (st := s__law_ask) l23 c23 k23).binds (ps := ["what", "here", "number"]) (fun _ _ _ _ _ _ us hl => match us, hl with | [_, _, _], _ => rfl), g__law_ask := PySem.W.mg_of X G a23,
    f_law := f24, fd_law := _, F_law := fun_mk (st := s_law) l24 c24 k24, b_law := (fun_mk (st := s_law) l24 c24 k24).binds (ps := ["script"]) (fun _ _ _ _ _ _ us hl => match us, hl with | [_], _ => rfl), g_law := PySem.W.mg_of X G a24,
    m_ValueError := PySem.W.mg_none_of X G z_ValueError,
    m_all := PySem.W.mg_none_of X G z_all,
    m_any := PySem.W.mg_none_of X G z_any,
    m_bool := PySem.W.mg_none_of X G z_bool,
    m_enumerate := PySem.W.mg_none_of X G z_enumerate,
    m_int := PySem.W.mg_none_of X G z_int,
    m_isinstance := PySem.W.mg_none_of X G z_isinstance,
    m_len := PySem.W.mg_none_of X G z_len,
    m_list := PySem.W.mg_none_of X G z_list,
    m_max := PySem.W.mg_none_of X G z_max,
    m_min := PySem.W.mg_none_of X G z_min,
    m_range := PySem.W.mg_none_of X G z_range,
    m_sorted := PySem.W.mg_none_of X G z_sorted,
    m_str := PySem.W.mg_none_of X G z_str,
    m_tuple := PySem.W.mg_none_of X G z_tuple,
    t_PLACES := tPLACES, c_PLACES := PySem.W.mg_of X G y_PLACES,
    t_SHELVES := tSHELVES, c_SHELVES := PySem.W.mg_of X G y_SHELVES,
    a_WORDS := aWORDS, c_WORDS := PySem.W.mg_of X G y_WORDS, q_WORDS := fun _ => .tup (xs := [.str "light", .str "heavy"]) (.inr ⟨_, _, _, x_WORDS, rfl, rfl, rfl, (show 2 ≤ sizeLine by decide), (.cons ⟨_, rfl⟩ (.cons ⟨_, rfl⟩ .nil))⟩) (.cons (.str _) (.cons (.str _) .nil)) }, rfl, fun s v => .of_eq rfl⟩
theorem law_sp {P : Program} {w : World} {K : PySem.W.Frag} {mg : Str → Option Value} {base : Heap} (hl : LawOk) (Z : Fx K mg) : FnOk P w K mg base (L2.CX P w) 14 Z.f_law Z.fd_law ["script"] (spLaw K) :=
  fn_scr hl (ok_law (k := 0) Z)
set_option maxHeartbeats 0 in
theorem all_mk (hl : LawOk) {l : PySem.W.OpenLaw} {w : World} {K : PySem.W.Frag} {h : Heap} {mg : Str → Option Value} {fa : Addr} (X : K.In h) (G : h.Ns mainGlobals mg) (hfa : mg "law" = some (.ref fa))
    {cNoRow : Addr} (aNoRow : PySem.W.nsIn K mainGlobals "NoRow" = some (some (.ref cNoRow)))
    {cNoShelf : Addr} (aNoShelf : PySem.W.nsIn K mainGlobals "NoShelf" = some (some (.ref cNoShelf)))
    {cNoLine : Addr} (aNoLine : PySem.W.nsIn K mainGlobals "NoLine" = some (some (.ref cNoLine)))
    {cNoPlaces : Addr} (aNoPlaces : PySem.W.nsIn K mainGlobals "NoPlaces" = some (some (.ref cNoPlaces)))
    {cMarked : Addr} (aMarked : PySem.W.nsIn K mainGlobals "Marked" = some (some (.ref cMarked)))
    {cNoCounts : Addr} (aNoCounts : PySem.W.nsIn K mainGlobals "NoCounts" = some (some (.ref cNoCounts)))
    {cNoLetting : Addr} (aNoLetting : PySem.W.nsIn K mainGlobals "NoLetting" = some (some (.ref cNoLetting)))
    {cTooMany : Addr} (aTooMany : PySem.W.nsIn K mainGlobals "TooMany" = some (some (.ref cTooMany)))
    {cNoMove : Addr} (aNoMove : PySem.W.nsIn K mainGlobals "NoMove" = some (some (.ref cNoMove)))
    {cNoText : Addr} (aNoText : PySem.W.nsIn K mainGlobals "NoText" = some (some (.ref cNoText)))
    {cNoNumber : Addr} (aNoNumber : PySem.W.nsIn K mainGlobals "NoNumber" = some (some (.ref cNoNumber)))
    {cNothing : Addr} (aNothing : PySem.W.nsIn K mainGlobals "Nothing" = some (some (.ref cNothing)))
    (bNoRow : PySem.W.subIn K (.ref cNoRow) (.type "BaseException") = some true) (tNoRow : PySem.W.typeIn K (.ref cNoRow) = some (.type "type"))
    (bNoShelf : PySem.W.subIn K (.ref cNoShelf) (.type "BaseException") = some true) (tNoShelf : PySem.W.typeIn K (.ref cNoShelf) = some (.type "type"))
    (bNoLine : PySem.W.subIn K (.ref cNoLine) (.type "BaseException") = some true) (tNoLine : PySem.W.typeIn K (.ref cNoLine) = some (.type "type"))
    (bNoPlaces : PySem.W.subIn K (.ref cNoPlaces) (.type "BaseException") = some true) (tNoPlaces : PySem.W.typeIn K (.ref cNoPlaces) = some (.type "type"))
    (bMarked : PySem.W.subIn K (.ref cMarked) (.type "BaseException") = some true) (tMarked : PySem.W.typeIn K (.ref cMarked) = some (.type "type"))
    (bNoCounts : PySem.W.subIn K (.ref cNoCounts) (.type "BaseException") = some true) (tNoCounts : PySem.W.typeIn K (.ref cNoCounts) = some (.type "type"))
    (bNoLetting : PySem.W.subIn K (.ref cNoLetting) (.type "BaseException") = some true) (tNoLetting : PySem.W.typeIn K (.ref cNoLetting) = some (.type "type"))
    (bTooMany : PySem.W.subIn K (.ref cTooMany) (.type "BaseException") = some true) (tTooMany : PySem.W.typeIn K (.ref cTooMany) = some (.type "type"))
    (bNoMove : PySem.W.subIn K (.ref cNoMove) (.type "BaseException") = some true) (tNoMove : PySem.W.typeIn K (.ref cNoMove) = some (.type "type"))
    (bNoText : PySem.W.subIn K (.ref cNoText) (.type "BaseException") = some true) (tNoText : PySem.W.typeIn K (.ref cNoText) = some (.type "type"))
    (bNoNumber : PySem.W.subIn K (.ref cNoNumber) (.type "BaseException") = some true) (tNoNumber : PySem.W.typeIn K (.ref cNoNumber) = some (.type "type"))
    (bNothing : PySem.W.subIn K (.ref cNothing) (.type "BaseException") = some true) (tNothing : PySem.W.typeIn K (.ref cNothing) = some (.type "type"))
    (xNoLine : PySem.W.excIn K cNoLine [.type "ValueError", .type "Exception", .type "BaseException", .type "object"] "ValueError.__new__" = true) (kNoLine : PySem.W.keepIn K (.ref cNoLine) = true)
    (xNoNumber : PySem.W.excIn K cNoNumber [.type "ValueError", .type "Exception", .type "BaseException", .type "object"] "ValueError.__new__" = true) (kNoNumber : PySem.W.keepIn K (.ref cNoNumber) = true)
    (xNothing : PySem.W.excIn K cNothing [.type "ValueError", .type "Exception", .type "BaseException", .type "object"] "ValueError.__new__" = true) (kNothing : PySem.W.keepIn K (.ref cNothing) = true)
    {cSE : Addr} (aSE : PySem.W.nsIn K mainGlobals "ShelfError" = some (some (.ref cSE))) (bSE : PySem.W.subIn K (.ref cSE) (.type "BaseException") = some true) (tSE : PySem.W.typeIn K (.ref cSE) = some (.type "type")) (dSE : PySem.W.hasDictIn K cSE = true)
    (eNoLine : PySem.W.subIn K (.ref cNoLine) (.ref cSE) = some true)
    (eNoNumber : PySem.W.subIn K (.ref cNoNumber) (.ref cSE) = some true)
    (eNothing : PySem.W.subIn K (.ref cNothing) (.ref cSE) = some true)
    (hn0 : PySem.W.specialIn K (.builtin "object.__class__") "__get__" = some (some (.builtin "getset_descriptor.__get__"))) (ht0 : PySem.W.takesIn K (.builtin "object.__class__") = some true)
    (iNoRow : PySem.W.isClsIn K cNoRow = true)
    (iNoShelf : PySem.W.isClsIn K cNoShelf = true)
    (iNoLine : PySem.W.isClsIn K cNoLine = true)
    (iNoPlaces : PySem.W.isClsIn K cNoPlaces = true)
    (iMarked : PySem.W.isClsIn K cMarked = true)
    (iNoCounts : PySem.W.isClsIn K cNoCounts = true)
    (iNoLetting : PySem.W.isClsIn K cNoLetting = true)
    (iTooMany : PySem.W.isClsIn K cTooMany = true)
    (iNoMove : PySem.W.isClsIn K cNoMove = true)
    (iNoText : PySem.W.isClsIn K cNoText = true)
    (iNoNumber : PySem.W.isClsIn K cNoNumber = true)
    (iNothing : PySem.W.isClsIn K cNothing = true)
    (hgNoLine : PySem.W.findIn K (.ref cNoLine) "__getattribute__" = some (some (.builtin "BaseException.__getattribute__"))) (hkNoLine : PySem.W.findIn K (.ref cNoLine) "__getattr__" = some none) (hdNoLine : PySem.W.hasDictIn K cNoLine = true) (haNoLine : PySem.W.findIn K (.ref cNoLine) "__class__" = some (some (.builtin "object.__class__"))) (hmNoLine : PySem.W.mroIn K cNoLine (.type "object") = some true) (vNoLine : PySem.W.subIn K (.ref cNoLine) (.type "ValueError") = some true)
    (sNoLineNoRow : PySem.W.subIn K (.ref cNoLine) (.ref cNoRow) = some false)
    (sNoLineNoShelf : PySem.W.subIn K (.ref cNoLine) (.ref cNoShelf) = some false)
    (sNoLineNoLine : PySem.W.subIn K (.ref cNoLine) (.ref cNoLine) = some true)
    (sNoLineNoPlaces : PySem.W.subIn K (.ref cNoLine) (.ref cNoPlaces) = some false)
    (sNoLineMarked : PySem.W.subIn K (.ref cNoLine) (.ref cMarked) = some false)
    (sNoLineNoCounts : PySem.W.subIn K (.ref cNoLine) (.ref cNoCounts) = some false)
    (sNoLineNoLetting : PySem.W.subIn K (.ref cNoLine) (.ref cNoLetting) = some false)
    (sNoLineTooMany : PySem.W.subIn K (.ref cNoLine) (.ref cTooMany) = some false)
    (sNoLineNoMove : PySem.W.subIn K (.ref cNoLine) (.ref cNoMove) = some false)
    (sNoLineNoText : PySem.W.subIn K (.ref cNoLine) (.ref cNoText) = some false)
    (sNoLineNoNumber : PySem.W.subIn K (.ref cNoLine) (.ref cNoNumber) = some false)
    (sNoLineNothing : PySem.W.subIn K (.ref cNoLine) (.ref cNothing) = some false)
    (hgNoNumber : PySem.W.findIn K (.ref cNoNumber) "__getattribute__" = some (some (.builtin "BaseException.__getattribute__"))) (hkNoNumber : PySem.W.findIn K (.ref cNoNumber) "__getattr__" = some none) (hdNoNumber : PySem.W.hasDictIn K cNoNumber = true) (haNoNumber : PySem.W.findIn K (.ref cNoNumber) "__class__" = some (some (.builtin "object.__class__"))) (hmNoNumber : PySem.W.mroIn K cNoNumber (.type "object") = some true) (vNoNumber : PySem.W.subIn K (.ref cNoNumber) (.type "ValueError") = some true)
    (sNoNumberNoRow : PySem.W.subIn K (.ref cNoNumber) (.ref cNoRow) = some false)
    (sNoNumberNoShelf : PySem.W.subIn K (.ref cNoNumber) (.ref cNoShelf) = some false)
    (sNoNumberNoLine : PySem.W.subIn K (.ref cNoNumber) (.ref cNoLine) = some false)
    (sNoNumberNoPlaces : PySem.W.subIn K (.ref cNoNumber) (.ref cNoPlaces) = some false)
    (sNoNumberMarked : PySem.W.subIn K (.ref cNoNumber) (.ref cMarked) = some false)
    (sNoNumberNoCounts : PySem.W.subIn K (.ref cNoNumber) (.ref cNoCounts) = some false)
    (sNoNumberNoLetting : PySem.W.subIn K (.ref cNoNumber) (.ref cNoLetting) = some false)
    (sNoNumberTooMany : PySem.W.subIn K (.ref cNoNumber) (.ref cTooMany) = some false)
    (sNoNumberNoMove : PySem.W.subIn K (.ref cNoNumber) (.ref cNoMove) = some false)
    (sNoNumberNoText : PySem.W.subIn K (.ref cNoNumber) (.ref cNoText) = some false)
    (sNoNumberNoNumber : PySem.W.subIn K (.ref cNoNumber) (.ref cNoNumber) = some true)
    (sNoNumberNothing : PySem.W.subIn K (.ref cNoNumber) (.ref cNothing) = some false)
    (hgNothing : PySem.W.findIn K (.ref cNothing) "__getattribute__" = some (some (.builtin "BaseException.__getattribute__"))) (hkNothing : PySem.W.findIn K (.ref cNothing) "__getattr__" = some none) (hdNothing : PySem.W.hasDictIn K cNothing = true) (haNothing : PySem.W.findIn K (.ref cNothing) "__class__" = some (some (.builtin "object.__class__"))) (hmNothing : PySem.W.mroIn K cNothing (.type "object") = some true) (vNothing : PySem.W.subIn K (.ref cNothing) (.type "ValueError") = some true)
    (sNothingNoRow : PySem.W.subIn K (.ref cNothing) (.ref cNoRow) = some false)
    (sNothingNoShelf : PySem.W.subIn K (.ref cNothing) (.ref cNoShelf) = some false)
    (sNothingNoLine : PySem.W.subIn K (.ref cNothing) (.ref cNoLine) = some false)
    (sNothingNoPlaces : PySem.W.subIn K (.ref cNothing) (.ref cNoPlaces) = some false)
    (sNothingMarked : PySem.W.subIn K (.ref cNothing) (.ref cMarked) = some false)
    (sNothingNoCounts : PySem.W.subIn K (.ref cNothing) (.ref cNoCounts) = some false)
    (sNothingNoLetting : PySem.W.subIn K (.ref cNothing) (.ref cNoLetting) = some false)
    (sNothingTooMany : PySem.W.subIn K (.ref cNothing) (.ref cTooMany) = some false)
    (sNothingNoMove : PySem.W.subIn K (.ref cNothing) (.ref cNoMove) = some false)
    (sNothingNoText : PySem.W.subIn K (.ref cNothing) (.ref cNoText) = some false)
    (sNothingNoNumber : PySem.W.subIn K (.ref cNothing) (.ref cNoNumber) = some false)
    (sNothingNothing : PySem.W.subIn K (.ref cNothing) (.ref cNothing) = some true)
    {cLn : Addr} (aLn : PySem.W.nsIn K mainGlobals "Line" = some (some (.ref cLn))) (pgL : PySem.W.plainGet K cLn Str.empty = true) (hdL : PySem.W.hasDictIn K cLn = true) (poL : PySem.W.plainOver K cLn = true) (saL : PySem.W.findIn K (.ref cLn) "__setattr__" = some (some (.builtin "object.__setattr__"))) (mkL : PySem.W.makesIn K cLn = true) (kpL : PySem.W.keepIn K (.ref cLn) = true)
    (haL : PySem.W.findIn K (.ref cLn) "__class__" = some (some (.builtin "object.__class__"))) (hnL : PySem.W.specialIn K (.builtin "object.__class__") "__get__" = some (some (.builtin "getset_descriptor.__get__"))) (htL : PySem.W.takesIn K (.builtin "object.__class__") = some true) (hmL : PySem.W.mroIn K cLn (.type "object") = some true) (icL : PySem.W.isClsIn K cLn = true) (tyL : PySem.W.typeIn K (.ref cLn) = some (.type "type")) (sbL : PySem.W.subIn K (.type "str") (.ref cLn) = some false)
    (ncallsL : PySem.W.findIn K (.ref cLn) "calls" = some none)
    (nhowL : PySem.W.findIn K (.ref cLn) "how" = some none)
    (npastL : PySem.W.findIn K (.ref cLn) "past" = some none)
    (nshelvesL : PySem.W.findIn K (.ref cLn) "shelves" = some none)
    {f0 : Addr} {od0 an0 : Option Addr} {sl0 : Array (Option Value)} {oc0 kV0 dc0 pm0 cd0 ct0 : Value}
    (a0 : PySem.W.nsIn K mainGlobals "is_any_whole" = some (some (.ref f0))) (l0 : K.lookup f0 = some ⟨oc0, od0, .func (PySem.W.fnOf "is_any_whole" "is_any_whole" (defArgs s_is_any_whole) (defBody s_is_any_whole) (defScope s_is_any_whole) .none kV0 dc0 pm0 an0 cd0 ct0), sl0⟩) (c0 : PySem.W.codeIn K cd0 "is_any_whole" = true) (k0 : PySem.W.keepIn K (.ref f0) = true)
    {f1 : Addr} {od1 an1 : Option Addr} {sl1 : Array (Option Value)} {oc1 kV1 dc1 pm1 cd1 ct1 : Value}
    (a1 : PySem.W.nsIn K mainGlobals "is_whole" = some (some (.ref f1))) (l1 : K.lookup f1 = some ⟨oc1, od1, .func (PySem.W.fnOf "is_whole" "is_whole" (defArgs s_is_whole) (defBody s_is_whole) (defScope s_is_whole) .none kV1 dc1 pm1 an1 cd1 ct1), sl1⟩) (c1 : PySem.W.codeIn K cd1 "is_whole" = true) (k1 : PySem.W.keepIn K (.ref f1) = true)
    {f2 : Addr} {od2 an2 : Option Addr} {sl2 : Array (Option Value)} {oc2 kV2 dc2 pm2 cd2 ct2 : Value}
    (a2 : PySem.W.nsIn K mainGlobals "numbers_of" = some (some (.ref f2))) (l2 : K.lookup f2 = some ⟨oc2, od2, .func (PySem.W.fnOf "numbers_of" "numbers_of" (defArgs s_numbers_of) (defBody s_numbers_of) (defScope s_numbers_of) .none kV2 dc2 pm2 an2 cd2 ct2), sl2⟩) (c2 : PySem.W.codeIn K cd2 "numbers_of" = true) (k2 : PySem.W.keepIn K (.ref f2) = true)
    {f3 : Addr} {od3 an3 : Option Addr} {sl3 : Array (Option Value)} {oc3 kV3 dc3 pm3 cd3 ct3 : Value}
    (a3 : PySem.W.nsIn K mainGlobals "good_shelf" = some (some (.ref f3))) (l3 : K.lookup f3 = some ⟨oc3, od3, .func (PySem.W.fnOf "good_shelf" "good_shelf" (defArgs s_good_shelf) (defBody s_good_shelf) (defScope s_good_shelf) .none kV3 dc3 pm3 an3 cd3 ct3), sl3⟩) (c3 : PySem.W.codeIn K cd3 "good_shelf" = true) (k3 : PySem.W.keepIn K (.ref f3) = true)
    {f4 : Addr} {od4 an4 : Option Addr} {sl4 : Array (Option Value)} {oc4 kV4 dc4 pm4 cd4 ct4 : Value}
    (a4 : PySem.W.nsIn K mainGlobals "good_line" = some (some (.ref f4))) (l4 : K.lookup f4 = some ⟨oc4, od4, .func (PySem.W.fnOf "good_line" "good_line" (defArgs s_good_line) (defBody s_good_line) (defScope s_good_line) .none kV4 dc4 pm4 an4 cd4 ct4), sl4⟩) (c4 : PySem.W.codeIn K cd4 "good_line" = true) (k4 : PySem.W.keepIn K (.ref f4) = true)
    {f5 : Addr} {od5 an5 : Option Addr} {sl5 : Array (Option Value)} {oc5 kV5 dc5 pm5 cd5 ct5 : Value}
    (a5 : PySem.W.nsIn K mainGlobals "need_line" = some (some (.ref f5))) (l5 : K.lookup f5 = some ⟨oc5, od5, .func (PySem.W.fnOf "need_line" "need_line" (defArgs s_need_line) (defBody s_need_line) (defScope s_need_line) .none kV5 dc5 pm5 an5 cd5 ct5), sl5⟩) (c5 : PySem.W.codeIn K cd5 "need_line" = true) (k5 : PySem.W.keepIn K (.ref f5) = true)
    {f6 : Addr} {od6 an6 : Option Addr} {sl6 : Array (Option Value)} {oc6 kV6 dc6 pm6 cd6 ct6 : Value}
    (a6 : PySem.W.nsIn K mainGlobals "pick_of" = some (some (.ref f6))) (l6 : K.lookup f6 = some ⟨oc6, od6, .func (PySem.W.fnOf "pick_of" "pick_of" (defArgs s_pick_of) (defBody s_pick_of) (defScope s_pick_of) .none kV6 dc6 pm6 an6 cd6 ct6), sl6⟩) (c6 : PySem.W.codeIn K cd6 "pick_of" = true) (k6 : PySem.W.keepIn K (.ref f6) = true)
    {f7 : Addr} {od7 an7 : Option Addr} {sl7 : Array (Option Value)} {oc7 kV7 dc7 pm7 cd7 ct7 : Value}
    (a7 : PySem.W.nsIn K mainGlobals "in_order" = some (some (.ref f7))) (l7 : K.lookup f7 = some ⟨oc7, od7, .func (PySem.W.fnOf "in_order" "in_order" (defArgs s_in_order) (defBody s_in_order) (defScope s_in_order) .none kV7 dc7 pm7 an7 cd7 ct7), sl7⟩) (c7 : PySem.W.codeIn K cd7 "in_order" = true) (k7 : PySem.W.keepIn K (.ref f7) = true)
    {f8 : Addr} {od8 an8 : Option Addr} {sl8 : Array (Option Value)} {oc8 kV8 dc8 pm8 cd8 ct8 : Value}
    (a8 : PySem.W.findIn K (.ref cLn) "__init__" = some (some (.ref f8))) (y8 : PySem.W.isFn K (.ref f8) = true) (l8 : K.lookup f8 = some ⟨oc8, od8, .func (PySem.W.fnOf "__init__" "Line.__init__" (defArgs s_Line___init__) (defBody s_Line___init__) (defScope s_Line___init__) .none kV8 dc8 pm8 an8 cd8 ct8), sl8⟩) (c8 : PySem.W.codeIn K cd8 "Line.__init__" = true) (k8 : PySem.W.keepIn K (.ref f8) = true)
    {f9 : Addr} {od9 an9 : Option Addr} {sl9 : Array (Option Value)} {oc9 kV9 dc9 pm9 cd9 ct9 : Value}
    (a9 : PySem.W.findIn K (.ref cLn) "call" = some (some (.ref f9))) (y9 : PySem.W.isFn K (.ref f9) = true) (l9 : K.lookup f9 = some ⟨oc9, od9, .func (PySem.W.fnOf "call" "Line.call" (defArgs s_Line_call) (defBody s_Line_call) (defScope s_Line_call) .none kV9 dc9 pm9 an9 cd9 ct9), sl9⟩) (c9 : PySem.W.codeIn K cd9 "Line.call" = true) (k9 : PySem.W.keepIn K (.ref f9) = true)
    {f10 : Addr} {od10 an10 : Option Addr} {sl10 : Array (Option Value)} {oc10 kV10 dc10 pm10 cd10 ct10 : Value}
    (a10 : PySem.W.findIn K (.ref cLn) "put" = some (some (.ref f10))) (y10 : PySem.W.isFn K (.ref f10) = true) (l10 : K.lookup f10 = some ⟨oc10, od10, .func (PySem.W.fnOf "put" "Line.put" (defArgs s_Line_put) (defBody s_Line_put) (defScope s_Line_put) .none kV10 dc10 pm10 an10 cd10 ct10), sl10⟩) (c10 : PySem.W.codeIn K cd10 "Line.put" = true) (k10 : PySem.W.keepIn K (.ref f10) = true)
    {f11 : Addr} {od11 an11 : Option Addr} {sl11 : Array (Option Value)} {oc11 kV11 dc11 pm11 cd11 ct11 : Value}
    (a11 : PySem.W.findIn K (.ref cLn) "emptied" = some (some (.ref f11))) (y11 : PySem.W.isFn K (.ref f11) = true) (l11 : K.lookup f11 = some ⟨oc11, od11, .func (PySem.W.fnOf "emptied" "Line.emptied" (defArgs s_Line_emptied) (defBody s_Line_emptied) (defScope s_Line_emptied) .none kV11 dc11 pm11 an11 cd11 ct11), sl11⟩) (c11 : PySem.W.codeIn K cd11 "Line.emptied" = true) (k11 : PySem.W.keepIn K (.ref f11) = true)
    {f12 : Addr} {od12 an12 : Option Addr} {sl12 : Array (Option Value)} {oc12 kV12 dc12 pm12 cd12 ct12 : Value}
    (a12 : PySem.W.findIn K (.ref cLn) "come" = some (some (.ref f12))) (y12 : PySem.W.isFn K (.ref f12) = true) (l12 : K.lookup f12 = some ⟨oc12, od12, .func (PySem.W.fnOf "come" "Line.come" (defArgs s_Line_come) (defBody s_Line_come) (defScope s_Line_come) .none kV12 dc12 pm12 an12 cd12 ct12), sl12⟩) (c12 : PySem.W.codeIn K cd12 "Line.come" = true) (k12 : PySem.W.keepIn K (.ref f12) = true)
    {f13 : Addr} {od13 an13 : Option Addr} {sl13 : Array (Option Value)} {oc13 kV13 dc13 pm13 cd13 ct13 : Value}
    (a13 : PySem.W.findIn K (.ref cLn) "mark" = some (some (.ref f13))) (y13 : PySem.W.isFn K (.ref f13) = true) (l13 : K.lookup f13 = some ⟨oc13, od13, .func (PySem.W.fnOf "mark" "Line.mark" (defArgs s_Line_mark) (defBody s_Line_mark) (defScope s_Line_mark) .none kV13 dc13 pm13 an13 cd13 ct13), sl13⟩) (c13 : PySem.W.codeIn K cd13 "Line.mark" = true) (k13 : PySem.W.keepIn K (.ref f13) = true)
    {f14 : Addr} {od14 an14 : Option Addr} {sl14 : Array (Option Value)} {oc14 kV14 dc14 pm14 cd14 ct14 : Value}
    (a14 : PySem.W.findIn K (.ref cLn) "finish" = some (some (.ref f14))) (y14 : PySem.W.isFn K (.ref f14) = true) (l14 : K.lookup f14 = some ⟨oc14, od14, .func (PySem.W.fnOf "finish" "Line.finish" (defArgs s_Line_finish) (defBody s_Line_finish) (defScope s_Line_finish) .none kV14 dc14 pm14 an14 cd14 ct14), sl14⟩) (c14 : PySem.W.codeIn K cd14 "Line.finish" = true) (k14 : PySem.W.keepIn K (.ref f14) = true)
    {f15 : Addr} {od15 an15 : Option Addr} {sl15 : Array (Option Value)} {oc15 kV15 dc15 pm15 cd15 ct15 : Value}
    (a15 : PySem.W.findIn K (.ref cLn) "standing" = some (some (.ref f15))) (y15 : PySem.W.isFn K (.ref f15) = true) (l15 : K.lookup f15 = some ⟨oc15, od15, .func (PySem.W.fnOf "standing" "Line.standing" (defArgs s_Line_standing) (defBody s_Line_standing) (defScope s_Line_standing) .none kV15 dc15 pm15 an15 cd15 ct15), sl15⟩) (c15 : PySem.W.codeIn K cd15 "Line.standing" = true) (k15 : PySem.W.keepIn K (.ref f15) = true)
    {f16 : Addr} {od16 an16 : Option Addr} {sl16 : Array (Option Value)} {oc16 kV16 dc16 pm16 cd16 ct16 : Value}
    (a16 : PySem.W.findIn K (.ref cLn) "out" = some (some (.ref f16))) (y16 : PySem.W.isFn K (.ref f16) = true) (l16 : K.lookup f16 = some ⟨oc16, od16, .func (PySem.W.fnOf "out" "Line.out" (defArgs s_Line_out) (defBody s_Line_out) (defScope s_Line_out) .none kV16 dc16 pm16 an16 cd16 ct16), sl16⟩) (c16 : PySem.W.codeIn K cd16 "Line.out" = true) (k16 : PySem.W.keepIn K (.ref f16) = true)
    {f17 : Addr} {od17 an17 : Option Addr} {sl17 : Array (Option Value)} {oc17 kV17 dc17 pm17 cd17 ct17 : Value}
    (a17 : PySem.W.findIn K (.ref cLn) "back" = some (some (.ref f17))) (y17 : PySem.W.isFn K (.ref f17) = true) (l17 : K.lookup f17 = some ⟨oc17, od17, .func (PySem.W.fnOf "back" "Line.back" (defArgs s_Line_back) (defBody s_Line_back) (defScope s_Line_back) .none kV17 dc17 pm17 an17 cd17 ct17), sl17⟩) (c17 : PySem.W.codeIn K cd17 "Line.back" = true) (k17 : PySem.W.keepIn K (.ref f17) = true)
    {f18 : Addr} {od18 an18 : Option Addr} {sl18 : Array (Option Value)} {oc18 kV18 dc18 pm18 cd18 ct18 : Value}
    (a18 : PySem.W.findIn K (.ref cLn) "__eq__" = some (some (.ref f18))) (y18 : PySem.W.isFn K (.ref f18) = true) (l18 : K.lookup f18 = some ⟨oc18, od18, .func (PySem.W.fnOf "__eq__" "Line.__eq__" (defArgs s_Line___eq__) (defBody s_Line___eq__) (defScope s_Line___eq__) .none kV18 dc18 pm18 an18 cd18 ct18), sl18⟩) (c18 : PySem.W.codeIn K cd18 "Line.__eq__" = true) (k18 : PySem.W.keepIn K (.ref f18) = true)
    {f19 : Addr} {od19 an19 : Option Addr} {sl19 : Array (Option Value)} {oc19 kV19 dc19 pm19 cd19 ct19 : Value}
    (a19 : PySem.W.findIn K (.ref cLn) "__len__" = some (some (.ref f19))) (y19 : PySem.W.isFn K (.ref f19) = true) (l19 : K.lookup f19 = some ⟨oc19, od19, .func (PySem.W.fnOf "__len__" "Line.__len__" (defArgs s_Line___len__) (defBody s_Line___len__) (defScope s_Line___len__) .none kV19 dc19 pm19 an19 cd19 ct19), sl19⟩) (c19 : PySem.W.codeIn K cd19 "Line.__len__" = true) (k19 : PySem.W.keepIn K (.ref f19) = true)
    {f20 : Addr} {od20 an20 : Option Addr} {sl20 : Array (Option Value)} {oc20 kV20 dc20 pm20 cd20 ct20 : Value}
    (a20 : PySem.W.findIn K (.ref cLn) "__str__" = some (some (.ref f20))) (y20 : PySem.W.isFn K (.ref f20) = true) (l20 : K.lookup f20 = some ⟨oc20, od20, .func (PySem.W.fnOf "__str__" "Line.__str__" (defArgs s_Line___str__) (defBody s_Line___str__) (defScope s_Line___str__) .none kV20 dc20 pm20 an20 cd20 ct20), sl20⟩) (c20 : PySem.W.codeIn K cd20 "Line.__str__" = true) (k20 : PySem.W.keepIn K (.ref f20) = true)
    {f21 : Addr} {od21 an21 : Option Addr} {sl21 : Array (Option Value)} {oc21 kV21 dc21 pm21 cd21 ct21 : Value}
    (a21 : PySem.W.nsIn K mainGlobals "_law_same_truth" = some (some (.ref f21))) (l21 : K.lookup f21 = some ⟨oc21, od21, .func (PySem.W.fnOf "_law_same_truth" "_law_same_truth" (defArgs s__law_same_truth) (defBody s__law_same_truth) (defScope s__law_same_truth) .none kV21 dc21 pm21 an21 cd21 ct21), sl21⟩) (c21 : PySem.W.codeIn K cd21 "_law_same_truth" = true) (k21 : PySem.W.keepIn K (.ref f21) = true)
    {f22 : Addr} {od22 an22 : Option Addr} {sl22 : Array (Option Value)} {oc22 kV22 dc22 pm22 cd22 ct22 : Value}
    (a22 : PySem.W.nsIn K mainGlobals "_law_which" = some (some (.ref f22))) (l22 : K.lookup f22 = some ⟨oc22, od22, .func (PySem.W.fnOf "_law_which" "_law_which" (defArgs s__law_which) (defBody s__law_which) (defScope s__law_which) .none kV22 dc22 pm22 an22 cd22 ct22), sl22⟩) (c22 : PySem.W.codeIn K cd22 "_law_which" = true) (k22 : PySem.W.keepIn K (.ref f22) = true)
    {f23 : Addr} {od23 an23 : Option Addr} {sl23 : Array (Option Value)} {oc23 kV23 dc23 pm23 cd23 ct23 : Value}
    (a23 : PySem.W.nsIn K mainGlobals "_law_ask" = some (some (.ref f23))) (l23 : K.lookup f23 = some ⟨oc23, od23, .func (PySem.W.fnOf "_law_ask" "_law_ask" (defArgs s__law_ask) (defBody s__law_ask) (defScope s__law_ask) .none kV23 dc23 pm23 an23 cd23 ct23), sl23⟩) (c23 : PySem.W.codeIn K cd23 "_law_ask" = true) (k23 : PySem.W.keepIn K (.ref f23) = true)
    {f24 : Addr} {od24 an24 : Option Addr} {sl24 : Array (Option Value)} {oc24 kV24 dc24 pm24 cd24 ct24 : Value}
    (a24 : PySem.W.nsIn K mainGlobals "law" = some (some (.ref f24))) (l24 : K.lookup f24 = some ⟨oc24, od24, .func (PySem.W.fnOf "law" "law" (defArgs s_law) (defBody s_law) (defScope s_law) .none kV24 dc24 pm24 an24 cd24 ct24), sl24⟩) (c24 : PySem.W.codeIn K cd24 "law" = true) (k24 : PySem.W.keepIn K (.ref f24) = true)
    (z_ValueError : PySem.W.nsIn K mainGlobals "ValueError" = some none)
    (z_all : PySem.W.nsIn K mainGlobals "all" = some none)
    (z_any : PySem.W.nsIn K mainGlobals "any" = some none)
    (z_bool : PySem.W.nsIn K mainGlobals "bool" = some none)
    (z_enumerate : PySem.W.nsIn K mainGlobals "enumerate" = some none)
    (z_int : PySem.W.nsIn K mainGlobals "int" = some none)
    (z_isinstance : PySem.W.nsIn K mainGlobals "isinstance" = some none)
    (z_len : PySem.W.nsIn K mainGlobals "len" = some none)
    (z_list : PySem.W.nsIn K mainGlobals "list" = some none)
    (z_max : PySem.W.nsIn K mainGlobals "max" = some none)
    (z_min : PySem.W.nsIn K mainGlobals "min" = some none)
    (z_range : PySem.W.nsIn K mainGlobals "range" = some none)
    (z_sorted : PySem.W.nsIn K mainGlobals "sorted" = some none)
    (z_str : PySem.W.nsIn K mainGlobals "str" = some none)
    (z_tuple : PySem.W.nsIn K mainGlobals "tuple" = some none)
    {tPLACES : Tok} (y_PLACES : PySem.W.nsIn K mainGlobals "PLACES" = some (some (.int 9 tPLACES)))
    {tSHELVES : Tok} (y_SHELVES : PySem.W.nsIn K mainGlobals "SHELVES" = some (some (.int 8 tSHELVES)))
    {aWORDS : Addr} {tWORDS0 tWORDS1 : Tok} {nWORDS : Nat} {slWORDS : Array (Option Value)} (y_WORDS : PySem.W.nsIn K mainGlobals "WORDS" = some (some (.ref aWORDS))) (x_WORDS : K.lookup aWORDS = some ⟨.type "tuple", none, .seq #[.str "light" tWORDS0, .str "heavy" tWORDS1] nWORDS, slWORDS⟩) : ∃ fd : FuncData, (∀ (s : Shared) (v : Value), BindsTo s fd ⟨[v], []⟩ [("script", v)]) ∧ ∀ base : Heap, K.In base → base.Ns mainGlobals mg → FnOk l.prog w K mg base (L2.CX l.prog w) 14 fa fd ["script"] (spLaw K) := by
  have e := hfa.symm.trans (PySem.W.mg_of X G a24)
  cases e
  obtain ⟨Z, e, hb⟩ := mk_fx X G aNoRow aNoShelf aNoLine aNoPlaces aMarked aNoCounts aNoLetting aTooMany aNoMove aNoText aNoNumber aNothing bNoRow tNoRow bNoShelf tNoShelf bNoLine tNoLine bNoPlaces tNoPlaces bMarked tMarked bNoCounts tNoCounts bNoLetting tNoLetting bTooMany tTooMany bNoMove tNoMove bNoText tNoText bNoNumber tNoNumber bNothing tNothing xNoLine kNoLine xNoNumber kNoNumber xNothing kNothing aSE bSE tSE dSE eNoLine eNoNumber eNothing hn0 ht0 iNoRow iNoShelf iNoLine iNoPlaces iMarked iNoCounts iNoLetting iTooMany iNoMove iNoText iNoNumber iNothing hgNoLine hkNoLine hdNoLine haNoLine hmNoLine vNoLine sNoLineNoRow sNoLineNoShelf sNoLineNoLine sNoLineNoPlaces sNoLineMarked sNoLineNoCounts sNoLineNoLetting sNoLineTooMany sNoLineNoMove sNoLineNoText sNoLineNoNumber sNoLineNothing hgNoNumber hkNoNumber hdNoNumber haNoNumber hmNoNumber vNoNumber sNoNumberNoRow sNoNumberNoShelf sNoNumberNoLine sNoNumberNoPlaces sNoNumberMarked sNoNumberNoCounts sNoNumberNoLetting sNoNumberTooMany sNoNumberNoMove sNoNumberNoText sNoNumberNoNumber sNoNumberNothing hgNothing hkNothing hdNothing haNothing hmNothing vNothing sNothingNoRow sNothingNoShelf sNothingNoLine sNothingNoPlaces sNothingMarked sNothingNoCounts sNothingNoLetting sNothingTooMany sNothingNoMove sNothingNoText sNothingNoNumber sNothingNothing aLn pgL hdL poL saL mkL kpL haL hnL htL hmL icL tyL sbL ncallsL nhowL npastL nshelvesL a0 l0 c0 k0 a1 l1 c1 k1 a2 l2 c2 k2 a3 l3 c3 k3 a4 l4 c4 k4 a5 l5 c5 k5 a6 l6 c6 k6 a7 l7 c7 k7 a8 y8 l8 c8 k8 a9 y9 l9 c9 k9 a10 y10 l10 c10 k10 a11 y11 l11 c11 k11 a12 y12 l12 c12 k12 a13 y13 l13 c13 k13 a14 y14 l14 c14 k14 a15 y15 l15 c15 k15 a16 y16 l16 c16 k16 a17 y17 l17 c17 k17 a18 y18 l18 c18 k18 a19 y19 l19 c19 k19 a20 y20 l20 c20 k20 a21 l21 c21 k21 a22 l22 c22 k22 a23 l23 c23 k23 a24 l24 c24 k24 z_ValueError z_all z_any z_bool z_enumerate z_int z_isinstance z_len z_list z_max z_min z_range z_sorted z_str z_tuple y_PLACES y_SHELVES y_WORDS x_WORDS
  refine ⟨Z.fd_law, hb, fun base _ _ => ?_⟩
  rw [← e]
  exact law_sp hl Z
end Lk13
namespace Lk13
open PySem L2 Mi SL Ma
def saysTrue (r : Res A) : Bool := match r with
  | .ok (.dat (.bool true)) _ => true
  | _ => false
theorem of_says {r : Res A} (h : saysTrue r = true) : ∃ h', r = .ok (.dat (.bool true)) h' := by
  unfold saysTrue at h
  split at h
  · exact ⟨_, rfl⟩
  · cases h
set_option maxHeartbeats 0 in
set_option cbv.maxSteps 1000000000 in
theorem law_ok : LawOk := by
  intro ns hns
  refine of_says ?_
  cbv
end Lk13
open PySem PySem.W PyProof.Rows
set_option maxHeartbeats 0 in
theorem PySem.Challenge.cw_shelfrows_k13_lines_refused_holds : PySem.Challenge.rw_shelfrows_k13_lines_refused.Holds := by
  w_on; o_law; k_head; (case hw => w_witness2)
  k_fill
  refine L2.walk_of (l := PySem.Challenge.rw_shelfrows_k13_lines_refused) (n := 63) (k := 14) (x := "script") (CX := fun w => L2.CX (PySem.Challenge.rw_shelfrows_k13_lines_refused).prog w) (sp := fun w => Lk13.spLaw _) rfl (by decide) rfl ⟨rfl, by decide, by decide⟩ (fun w h Y => PySem.W.kIn_of Y) ?F (fun _ _ a ns hl _ hS => ⟨a, ns, rfl, hS, hl, fun _ => rfl⟩) (fun _ _ _ _ _ ⟨_, _, _, _, _, _, _, _, _, _, _, _, z⟩ => z)
  case F =>
    intro w mg fa h KX G hmg
    refine' Lk13.all_mk Lk13.law_ok KX G hmg ?aNoRow ?aNoShelf ?aNoLine ?aNoPlaces ?aMarked ?aNoCounts ?aNoLetting ?aTooMany ?aNoMove ?aNoText ?aNoNumber ?aNothing ?bNoRow ?tNoRow ?bNoShelf ?tNoShelf ?bNoLine ?tNoLine ?bNoPlaces ?tNoPlaces ?bMarked ?tMarked ?bNoCounts ?tNoCounts ?bNoLetting ?tNoLetting ?bTooMany ?tTooMany ?bNoMove ?tNoMove ?bNoText ?tNoText ?bNoNumber ?tNoNumber ?bNothing ?tNothing ?xNoLine ?kNoLine ?xNoNumber ?kNoNumber ?xNothing ?kNothing ?aSE ?bSE ?tSE ?dSE ?eNoLine ?eNoNumber ?eNothing ?hn0 ?ht0 ?iNoRow ?iNoShelf ?iNoLine ?iNoPlaces ?iMarked ?iNoCounts ?iNoLetting ?iTooMany ?iNoMove ?iNoText ?iNoNumber ?iNothing ?hgNoLine ?hkNoLine ?hdNoLine ?haNoLine ?hmNoLine ?vNoLine ?sNoLineNoRow ?sNoLineNoShelf ?sNoLineNoLine ?sNoLineNoPlaces ?sNoLineMarked ?sNoLineNoCounts ?sNoLineNoLetting ?sNoLineTooMany ?sNoLineNoMove ?sNoLineNoText ?sNoLineNoNumber ?sNoLineNothing ?hgNoNumber ?hkNoNumber ?hdNoNumber ?haNoNumber ?hmNoNumber ?vNoNumber ?sNoNumberNoRow ?sNoNumberNoShelf ?sNoNumberNoLine ?sNoNumberNoPlaces ?sNoNumberMarked ?sNoNumberNoCounts ?sNoNumberNoLetting ?sNoNumberTooMany ?sNoNumberNoMove ?sNoNumberNoText ?sNoNumberNoNumber ?sNoNumberNothing ?hgNothing ?hkNothing ?hdNothing ?haNothing ?hmNothing ?vNothing ?sNothingNoRow ?sNothingNoShelf ?sNothingNoLine ?sNothingNoPlaces ?sNothingMarked ?sNothingNoCounts ?sNothingNoLetting ?sNothingTooMany ?sNothingNoMove ?sNothingNoText ?sNothingNoNumber ?sNothingNothing ?aLn ?pgL ?hdL ?poL ?saL ?mkL ?kpL ?haL ?hnL ?htL ?hmL ?icL ?tyL ?sbL ?ncallsL ?nhowL ?npastL ?nshelvesL ?a0 ?l0 ?c0 ?k0 ?a1 ?l1 ?c1 ?k1 ?a2 ?l2 ?c2 ?k2 ?a3 ?l3 ?c3 ?k3 ?a4 ?l4 ?c4 ?k4 ?a5 ?l5 ?c5 ?k5 ?a6 ?l6 ?c6 ?k6 ?a7 ?l7 ?c7 ?k7 ?a8 ?y8 ?l8 ?c8 ?k8 ?a9 ?y9 ?l9 ?c9 ?k9 ?a10 ?y10 ?l10 ?c10 ?k10 ?a11 ?y11 ?l11 ?c11 ?k11 ?a12 ?y12 ?l12 ?c12 ?k12 ?a13 ?y13 ?l13 ?c13 ?k13 ?a14 ?y14 ?l14 ?c14 ?k14 ?a15 ?y15 ?l15 ?c15 ?k15 ?a16 ?y16 ?l16 ?c16 ?k16 ?a17 ?y17 ?l17 ?c17 ?k17 ?a18 ?y18 ?l18 ?c18 ?k18 ?a19 ?y19 ?l19 ?c19 ?k19 ?a20 ?y20 ?l20 ?c20 ?k20 ?a21 ?l21 ?c21 ?k21 ?a22 ?l22 ?c22 ?k22 ?a23 ?l23 ?c23 ?k23 ?a24 ?l24 ?c24 ?k24 ?z_ValueError ?z_all ?z_any ?z_bool ?z_enumerate ?z_int ?z_isinstance ?z_len ?z_list ?z_max ?z_min ?z_range ?z_sorted ?z_str ?z_tuple ?y_PLACES ?y_SHELVES ?y_WORDS ?x_WORDS
    (case aNoRow => k_is); (case aNoShelf => k_is); (case aNoLine => k_is); (case aNoPlaces => k_is); (case aMarked => k_is); (case aNoCounts => k_is); (case aNoLetting => k_is); (case aTooMany => k_is); (case aNoMove => k_is); (case aNoText => k_is); (case aNoNumber => k_is); (case aNothing => k_is); (case bNoRow => k_is); (case tNoRow => k_is); (case bNoShelf => k_is); (case tNoShelf => k_is); (case bNoLine => k_is); (case tNoLine => k_is); (case bNoPlaces => k_is); (case tNoPlaces => k_is); (case bMarked => k_is); (case tMarked => k_is); (case bNoCounts => k_is); (case tNoCounts => k_is); (case bNoLetting => k_is); (case tNoLetting => k_is); (case bTooMany => k_is); (case tTooMany => k_is); (case bNoMove => k_is); (case tNoMove => k_is); (case bNoText => k_is); (case tNoText => k_is); (case bNoNumber => k_is); (case tNoNumber => k_is); (case bNothing => k_is); (case tNothing => k_is); (case xNoLine => k_exc); (case kNoLine => k_is); (case xNoNumber => k_exc); (case kNoNumber => k_is); (case xNothing => k_exc); (case kNothing => k_is); (case aSE => k_is); (case bSE => k_is); (case tSE => k_is); (case dSE => k_is); (case eNoLine => k_is); (case eNoNumber => k_is); (case eNothing => k_is); (case hn0 => k_is); (case ht0 => k_is); (case iNoRow => k_is); (case iNoShelf => k_is); (case iNoLine => k_is); (case iNoPlaces => k_is); (case iMarked => k_is); (case iNoCounts => k_is); (case iNoLetting => k_is); (case iTooMany => k_is); (case iNoMove => k_is); (case iNoText => k_is); (case iNoNumber => k_is); (case iNothing => k_is); (case hgNoLine => k_is); (case hkNoLine => k_is); (case hdNoLine => k_is); (case haNoLine => k_is); (case hmNoLine => k_is); (case vNoLine => k_is); (case sNoLineNoRow => k_is); (case sNoLineNoShelf => k_is); (case sNoLineNoLine => k_is); (case sNoLineNoPlaces => k_is); (case sNoLineMarked => k_is); (case sNoLineNoCounts => k_is); (case sNoLineNoLetting => k_is); (case sNoLineTooMany => k_is); (case sNoLineNoMove => k_is); (case sNoLineNoText => k_is); (case sNoLineNoNumber => k_is); (case sNoLineNothing => k_is); (case hgNoNumber => k_is); (case hkNoNumber => k_is); (case hdNoNumber => k_is); (case haNoNumber => k_is); (case hmNoNumber => k_is); (case vNoNumber => k_is); (case sNoNumberNoRow => k_is); (case sNoNumberNoShelf => k_is); (case sNoNumberNoLine => k_is); (case sNoNumberNoPlaces => k_is); (case sNoNumberMarked => k_is); (case sNoNumberNoCounts => k_is); (case sNoNumberNoLetting => k_is); (case sNoNumberTooMany => k_is); (case sNoNumberNoMove => k_is); (case sNoNumberNoText => k_is); (case sNoNumberNoNumber => k_is); (case sNoNumberNothing => k_is); (case hgNothing => k_is); (case hkNothing => k_is); (case hdNothing => k_is); (case haNothing => k_is); (case hmNothing => k_is); (case vNothing => k_is); (case sNothingNoRow => k_is); (case sNothingNoShelf => k_is); (case sNothingNoLine => k_is); (case sNothingNoPlaces => k_is); (case sNothingMarked => k_is); (case sNothingNoCounts => k_is); (case sNothingNoLetting => k_is); (case sNothingTooMany => k_is); (case sNothingNoMove => k_is); (case sNothingNoText => k_is); (case sNothingNoNumber => k_is); (case sNothingNothing => k_is); (case aLn => k_is); (case pgL => k_is); (case hdL => k_is); (case poL => k_is); (case saL => k_is); (case mkL => k_is); (case kpL => k_is); (case haL => k_is); (case hnL => k_is); (case htL => k_is); (case hmL => k_is); (case icL => k_is); (case tyL => k_is); (case sbL => k_is); (case ncallsL => k_is); (case nhowL => k_is); (case npastL => k_is); (case nshelvesL => k_is); (case a0 => k_is); (case l0 => k_is); (case c0 => k_is); (case k0 => k_is); (case a1 => k_is); (case l1 => k_is); (case c1 => k_is); (case k1 => k_is); (case a2 => k_is); (case l2 => k_is); (case c2 => k_is); (case k2 => k_is); (case a3 => k_is); (case l3 => k_is); (case c3 => k_is); (case k3 => k_is); (case a4 => k_is); (case l4 => k_is); (case c4 => k_is); (case k4 => k_is); (case a5 => k_is); (case l5 => k_is); (case c5 => k_is); (case k5 => k_is); (case a6 => k_is); (case l6 => k_is); (case c6 => k_is); (case k6 => k_is); (case a7 => k_is); (case l7 => k_is); (case c7 => k_is); (case k7 => k_is); (case a8 => k_is); (case y8 => k_is); (case l8 => k_is); (case c8 => k_is); (case k8 => k_is); (case a9 => k_is); (case y9 => k_is); (case l9 => k_is); (case c9 => k_is); (case k9 => k_is); (case a10 => k_is); (case y10 => k_is); (case l10 => k_is); (case c10 => k_is); (case k10 => k_is); (case a11 => k_is); (case y11 => k_is); (case l11 => k_is); (case c11 => k_is); (case k11 => k_is); (case a12 => k_is); (case y12 => k_is); (case l12 => k_is); (case c12 => k_is); (case k12 => k_is); (case a13 => k_is); (case y13 => k_is); (case l13 => k_is); (case c13 => k_is); (case k13 => k_is); (case a14 => k_is); (case y14 => k_is); (case l14 => k_is); (case c14 => k_is); (case k14 => k_is); (case a15 => k_is); (case y15 => k_is); (case l15 => k_is); (case c15 => k_is); (case k15 => k_is); (case a16 => k_is); (case y16 => k_is); (case l16 => k_is); (case c16 => k_is); (case k16 => k_is); (case a17 => k_is); (case y17 => k_is); (case l17 => k_is); (case c17 => k_is); (case k17 => k_is); (case a18 => k_is); (case y18 => k_is); (case l18 => k_is); (case c18 => k_is); (case k18 => k_is); (case a19 => k_is); (case y19 => k_is); (case l19 => k_is); (case c19 => k_is); (case k19 => k_is); (case a20 => k_is); (case y20 => k_is); (case l20 => k_is); (case c20 => k_is); (case k20 => k_is); (case a21 => k_is); (case l21 => k_is); (case c21 => k_is); (case k21 => k_is); (case a22 => k_is); (case l22 => k_is); (case c22 => k_is); (case k22 => k_is); (case a23 => k_is); (case l23 => k_is); (case c23 => k_is); (case k23 => k_is); (case a24 => k_is); (case l24 => k_is); (case c24 => k_is); (case k24 => k_is); (case z_ValueError => k_is); (case z_all => k_is); (case z_any => k_is); (case z_bool => k_is); (case z_enumerate => k_is); (case z_int => k_is); (case z_isinstance => k_is); (case z_len => k_is); (case z_list => k_is); (case z_max => k_is); (case z_min => k_is); (case z_range => k_is); (case z_sorted => k_is); (case z_str => k_is); (case z_tuple => k_is); (case y_PLACES => k_is); (case y_SHELVES => k_is); (case y_WORDS => k_is); (case x_WORDS => k_is)
