import PyProof.Rows.All
import Wide.All
import OpenK.AllK
import Wide.FinOn
import HandS.ForMost
import HandS.Lambda
import HandS.Iter
import HandS.TupAny
import HandS.TupMul
import HandS.Deep
import HandS.TupLe
import HandS.Small
import HandS.Conv
import HandS.IsInst
import HandS.MakeKwOnly
import PyProof.ListStr
import HandS.DictTup
import HandS.TupLen
import HandS.Style
import KE.SortData
import KE.KDictPairs
import KE.KDictDisplayH
import KE.GoesEnum
import PyProof.CollectStr
import KE.KTupSum
import HandS.SetFor
import HandS.Strs
import KE.DataMinMax
import KE.KExcIs
import HandS.ExcInit
import HandS.ExcField
import HandS.ExcIs
import HandS.WordsExc
import HandS.EndTab
import HandS.DeepEq
import HandS.Codes
import PyProof.StrOps2
import PyProof.MinMaxWalk
import PyProof.EnumMake
import PyProof.SeqI3
import KE.GoesMore
import PySem.Challenge.RW_piletables_k56_whole_ready_standings
set_option Elab.async false
set_option linter.all false
set_option maxRecDepth 100000
/-! DI1: data without a heap, and how it lies in the abstract heap of HandS; the state of a def's frame over data. -/
namespace L2.DI
open PySem PySem.Spec PyProof.Rows

/-- a text by its codes -/
def mk (l : List Nat) : Str := ⟨l.toArray⟩
theorem mk_cps (l : List Nat) : (mk l).cps.toList = l := rfl
theorem mk_of (x : Str) : mk x.cps.toList = x := by cases x; simp [mk]
theorem mk_len (l : List Nat) : (mk l).length = l.length := by simp [mk, Str.length]
theorem mk_inj {l m : List Nat} (h : mk l = mk m) : l = m := by
  have := congrArg (fun x : Str => x.cps.toList) h
  simpa [mk] using this

/-- every sign is an ASCII one -/
def asc (l : List Nat) : Bool := l.all (· < 128)
inductive D where
  | non | bl (b : Bool) | int (i : Int) | str (l : List Nat)
  | tup (ds : List D) | lst (ds : List D) | ktp (ds : List D) | kls (ds : List D)
  | dK (kvs : List (Key × D)) | dT (kvs : List (List Key × D))
  | obj (t : Nat) (ds : List D)
  | adr (a : Addr)
  | fnc (k : Nat)
  deriving Inhabited

/-- own classes by number: instances; exceptions -/
structure CT where
  K : PySem.W.Frag
  cls : Nat → Option Addr
  xcl : Nat → Option Addr
def fieldNames : Nat → List Str
  | 0 => ["many", "piles", "height", "rule", "parts"]
  | 1 => ["table", "standing", "goal", "number", "block", "parts"]
  | _ => []

mutual
inductive Rep (W : CT) (G : Hp) : D → V → Prop
  | non : Rep W G .non .non
  | bl (b : Bool) : Rep W G (.bl b) (.bl b)
  | int (i : Int) : Rep W G (.int i) (.int i)
  | str (l : List Nat) (h : asc l = true) : Rep W G (.str l) (.str (mk l))
  | tup {a : Addr} {xs : List V} {ds : List D} (h : G a = some (.tup xs)) (r : Reps W G ds xs) : Rep W G (.tup ds) (.ref a)
  | ktp {a : Addr} {xs : List V} {ds : List D} (h : ∀ H, SqT W.K H a xs) (r : Reps W G ds xs) : Rep W G (.ktp ds) (.ref a)
  | lst {a : Addr} {xs : List V} {ds : List D} (h : G a = some (.lst xs)) (r : Reps W G ds xs) : Rep W G (.lst ds) (.ref a)
  | kls {a : Addr} {xs : List V} {ds : List D} (h : SqL W.K G a xs) (r : Reps W G ds xs) : Rep W G (.kls ds) (.ref a)
  | dK {a : Addr} {xs : List (Key × V)} {ds : List (Key × D)} (h : G a = some (.dK xs)) (k : ds.map (·.1) = xs.map (·.1)) (r : Reps W G (ds.map (·.2)) (xs.map (·.2))) : Rep W G (.dK ds) (.ref a)
  | dT {a : Addr} {xs : List (List Key × V)} {ds : List (List Key × D)} (h : G a = some (.dT xs)) (k : ds.map (·.1) = xs.map (·.1)) (r : Reps W G (ds.map (·.2)) (xs.map (·.2))) : Rep W G (.dT ds) (.ref a)
  | obj {t : Nat} {a C dx : Addr} {fs : List (Str × V)} {ds : List D} (hc : W.cls t = some C) (h : G a = some (.ins C dx fs)) (k : fs.map (·.1) = (fieldNames t).take ds.length) (r : Reps W G ds (fs.map (·.2))) : Rep W G (.obj t ds) (.ref a)
  | adr (a : Addr) : Rep W G (.adr a) (.ref a)
  | fnc {k : Nat} {a : Addr} (h : W.xcl (100 + k) = some a) : Rep W G (.fnc k) (.ref a)
inductive Reps (W : CT) (G : Hp) : List D → List V → Prop
  | nil : Reps W G [] []
  | cons {d : D} {v : V} {ds : List D} {vs : List V} (h : Rep W G d v) (t : Reps W G ds vs) : Reps W G (d :: ds) (v :: vs)
end

theorem sameT {K : PySem.W.Frag} {H H' : Hp} {a : Addr} {xs : List V} (e : Same H H') (h : SqT K H a xs) : SqT K H' a xs := by
  rcases h with (h | ⟨o, h⟩) | h
  · exact .inl (.inl (e _ _ h))
  · exact .inl (.inr ⟨o, e _ _ h⟩)
  · exact .inr h

mutual
theorem Rep.mono {W : CT} {G G' : Hp} (e : Same G G') : ∀ {d : D} {v : V}, Rep W G d v → Rep W G' d v
  | _, _, .non => .non
  | _, _, .bl b => .bl b
  | _, _, .int i => .int i
  | _, _, .str l h => .str l h
  | _, _, .tup h r => .tup (e _ _ h) (Reps.mono e r)
  | _, _, .ktp h r => .ktp h (Reps.mono e r)
  | _, _, .lst h r => .lst (e _ _ h) (Reps.mono e r)
  | _, _, .kls h r => .kls (e.seq h) (Reps.mono e r)
  | _, _, .dK h k r => .dK (e _ _ h) k (Reps.mono e r)
  | _, _, .dT h k r => .dT (e _ _ h) k (Reps.mono e r)
  | _, _, .obj hc h k r => .obj hc (e _ _ h) k (Reps.mono e r)
  | _, _, .adr a => .adr a
  | _, _, .fnc h => .fnc h
theorem Reps.mono {W : CT} {G G' : Hp} (e : Same G G') : ∀ {ds : List D} {vs : List V}, Reps W G ds vs → Reps W G' ds vs
  | _, _, .nil => .nil
  | _, _, .cons h t => .cons (Rep.mono e h) (Reps.mono e t)
end

/-- all but tables stay -/
def SameN (G G' : Hp) : Prop := ∀ a o, G a = some o → (∀ ps, o ≠ .tbl ps) → G' a = some o
theorem SameN.seqL {K : PySem.W.Frag} {H H' : Hp} {a : Addr} {xs : List V} (e : SameN H H') (h : SqL K H a xs) : SqL K H' a xs := by
  rcases h with (h | ⟨o, h⟩) | h
  · exact .inl (.inl (e _ _ h fun _ z => nomatch z))
  · exact .inl (.inr ⟨o, e _ _ h fun _ z => nomatch z⟩)
  · exact .inr h
mutual
theorem Rep.monoN {W : CT} {G G' : Hp} (e : SameN G G') : ∀ {d : D} {v : V}, Rep W G d v → Rep W G' d v
  | _, _, .non => .non
  | _, _, .bl b => .bl b
  | _, _, .int i => .int i
  | _, _, .str l h => .str l h
  | _, _, .tup h r => .tup (e _ _ h fun _ z => nomatch z) (Reps.monoN e r)
  | _, _, .ktp h r => .ktp h (Reps.monoN e r)
  | _, _, .lst h r => .lst (e _ _ h fun _ z => nomatch z) (Reps.monoN e r)
  | _, _, .kls h r => .kls (e.seqL h) (Reps.monoN e r)
  | _, _, .dK h k r => .dK (e _ _ h fun _ z => nomatch z) k (Reps.monoN e r)
  | _, _, .dT h k r => .dT (e _ _ h fun _ z => nomatch z) k (Reps.monoN e r)
  | _, _, .obj hc h k r => .obj hc (e _ _ h fun _ z => nomatch z) k (Reps.monoN e r)
  | _, _, .adr a => .adr a
  | _, _, .fnc h => .fnc h
theorem Reps.monoN {W : CT} {G G' : Hp} (e : SameN G G') : ∀ {ds : List D} {vs : List V}, Reps W G ds vs → Reps W G' ds vs
  | _, _, .nil => .nil
  | _, _, .cons h t => .cons (Rep.monoN e h) (Reps.monoN e t)
end
section
variable {W : CT} {G : Hp}
theorem Reps.length : ∀ {ds : List D} {vs : List V}, Reps W G ds vs → ds.length = vs.length
  | _, _, .nil => rfl
  | _, _, .cons _ t => by simp [Reps.length t]
theorem Reps.append : ∀ {ds es : List D} {vs us : List V}, Reps W G ds vs → Reps W G es us → Reps W G (ds ++ es) (vs ++ us)
  | _, _, _, _, .nil, h => h
  | _, _, _, _, .cons h t, h' => .cons h (Reps.append t h')
theorem Reps.snoc {ds : List D} {vs : List V} {d : D} {v : V} (h : Reps W G ds vs) (r : Rep W G d v) : Reps W G (ds ++ [d]) (vs ++ [v]) := h.append (.cons r .nil)
theorem Reps.get : ∀ {ds : List D} {vs : List V} (i : Nat), Reps W G ds vs → (∀ d, ds[i]? = some d → ∃ v, vs[i]? = some v ∧ Rep W G d v) ∧ (ds[i]? = none → vs[i]? = none)
  | _, _, i, .nil => ⟨fun d h => by simp at h, fun _ => by simp⟩
  | _, _, 0, .cons h t => ⟨fun d e => by simp at e; subst e; exact ⟨_, rfl, h⟩, fun e => by simp at e⟩
  | _, _, i + 1, .cons h t => by simpa using Reps.get i t
theorem Reps.getV : ∀ {ds : List D} {vs : List V} (i : Nat), Reps W G ds vs → (∀ v, vs[i]? = some v → ∃ d, ds[i]? = some d ∧ Rep W G d v)
  | _, _, i, .nil => fun d h => by simp at h
  | _, _, 0, .cons h t => fun v e => by simp at e; subst e; exact ⟨_, rfl, h⟩
  | _, _, i + 1, .cons h t => by simpa using Reps.getV i t
theorem Reps.take : ∀ {ds : List D} {vs : List V} (n : Nat), Reps W G ds vs → Reps W G (ds.take n) (vs.take n)
  | _, _, 0, _ => by simpa using .nil
  | _, _, _ + 1, .nil => by simpa using .nil
  | _, _, n + 1, .cons h t => by simpa using .cons h (Reps.take n t)
theorem Reps.drop : ∀ {ds : List D} {vs : List V} (n : Nat), Reps W G ds vs → Reps W G (ds.drop n) (vs.drop n)
  | _, _, 0, h => h
  | _, _, _ + 1, .nil => by simpa using .nil
  | _, _, n + 1, .cons h t => by simpa using Reps.drop n t
theorem Reps.set : ∀ {ds : List D} {vs : List V} (n : Nat) {d : D} {v : V}, Reps W G ds vs → Rep W G d v → Reps W G (ds.set n d) (vs.set n v)
  | _, _, _, _, _, .nil, _ => .nil
  | _, _, 0, _, _, .cons h t, r => .cons r t
  | _, _, n + 1, _, _, .cons h t, r => .cons h (Reps.set n t r)
theorem Reps.eraseIdx : ∀ {ds : List D} {vs : List V} (n : Nat), Reps W G ds vs → Reps W G (ds.eraseIdx n) (vs.eraseIdx n)
  | _, _, _, .nil => .nil
  | _, _, 0, .cons h t => t
  | _, _, n + 1, .cons h t => .cons h (Reps.eraseIdx n t)
theorem Reps.dropLast {ds : List D} {vs : List V} (h : Reps W G ds vs) : Reps W G ds.dropLast vs.dropLast := by
  rw [List.dropLast_eq_take, List.dropLast_eq_take, h.length]; exact h.take _
theorem Reps.rep {ds : List D} {vs : List V} (h : Reps W G ds vs) : ∀ n : Nat, Reps W G (List.replicate n ds).flatten (List.replicate n vs).flatten
  | 0 => .nil
  | n + 1 => by rw [List.replicate_succ, List.replicate_succ, List.flatten_cons, List.flatten_cons]; exact h.append (h.rep n)
end

/-! ### what is handed on -/
inductive Out (α : Type) where
  | ok (a : α)
  | ex (c : Nat) (fs : List D)
  | st
def Out.bind {α β : Type} : Out α → (α → Out β) → Out β
  | .ok a, f => f a
  | .ex c fs, _ => .ex c fs
  | .st, _ => .st
instance : Monad Out where
  pure := .ok
  bind := Out.bind
@[simp] theorem ok_bind {α β : Type} (a : α) (f : α → Out β) : (Out.ok a >>= f) = f a := rfl
@[simp] theorem ex_bind {α β : Type} (c : Nat) (fs : List D) (f : α → Out β) : (Out.ex c fs >>= f) = .ex c fs := rfl
@[simp] theorem st_bind {α β : Type} (f : α → Out β) : (Out.st >>= f) = .st := rfl
@[simp] theorem pure_ok {α : Type} (a : α) : (pure a : Out α) = .ok a := rfl

/-- a slot: nothing known; a value that never changes; a list or dict of the frame's own -/
inductive SV where | no | im (d : D) | ow (c : D)
/-- a value come out: one that never changes; a new list or dict that nobody else has; the one of slot i -/
inductive RV where | im (d : D) | fr (c : D) | bo (i : Nat)
abbrev DS := List SV
abbrev SE := DS → Out (RV × DS)
abbrev ST := DS → Out (Bool × DS)
inductive Fl where | nx | rt (r : RV) | bk | ct
abbrev SS := DS → Out (Fl × DS)

inductive CRep (W : CT) (G : Hp) : D → HO → Prop
  | lst {xs : List V} {ds : List D} (r : Reps W G ds xs) : CRep W G (.lst ds) (.lst xs)
  | dK {xs : List (Key × V)} {ds : List (Key × D)} (k : ds.map (·.1) = xs.map (·.1)) (r : Reps W G (ds.map (·.2)) (xs.map (·.2))) : CRep W G (.dK ds) (.dK xs)
  | dT {xs : List (List Key × V)} {ds : List (List Key × D)} (k : ds.map (·.1) = xs.map (·.1)) (r : Reps W G (ds.map (·.2)) (xs.map (·.2))) : CRep W G (.dT ds) (.dT xs)
  | ins {t : Nat} {C dx : Addr} {fs : List (Str × V)} {ds : List D} (hc : W.cls t = some C) (k : fs.map (·.1) = (fieldNames t).take ds.length) (r : Reps W G ds (fs.map (·.2))) : CRep W G (.obj t ds) (.ins C dx fs)
theorem CRep.mono {W : CT} {G G' : Hp} (e : Same G G') {c : D} {o : HO} : CRep W G c o → CRep W G' c o
  | .lst r => .lst (r.mono e)
  | .dK k r => .dK k (r.mono e)
  | .dT k r => .dT k (r.mono e)
  | .ins hc k r => .ins hc k (r.mono e)
theorem CRep.monoN {W : CT} {G G' : Hp} (e : SameN G G') {c : D} {o : HO} : CRep W G c o → CRep W G' c o
  | .lst r => .lst (r.monoN e)
  | .dK k r => .dK k (r.monoN e)
  | .dT k r => .dT k (r.monoN e)
  | .ins hc k r => .ins hc k (r.monoN e)
theorem CRep.rep {W : CT} {G : Hp} {c : D} {o : HO} {a : Addr} (h : G a = some o) : CRep W G c o → Rep W G c (.ref a)
  | .lst r => .lst h r
  | .dK k r => .dK h k r
  | .dT k r => .dT h k r
  | .ins hc k r => .obj hc h k r

/-- no tuple -/
def NT (o : HO) : Prop := ∀ xs, o ≠ .tup xs
theorem CRep.nt {W : CT} {G : Hp} {c : D} {o : HO} (h : CRep W G c o) : NT o := fun xs e => by subst e; cases h
/-- .. nor a table of code objects, nor anything else that is told by a predicate -/
def NX (o : HO) : Prop := (∀ ps, o ≠ .tbl ps) ∧ ∀ φ, o ≠ .ext φ
theorem CRep.nx {W : CT} {G : Hp} {c : D} {o : HO} (h : CRep W G c o) : NX o := by cases h <;> exact ⟨fun _ e => (nomatch e), fun _ e => (nomatch e)⟩
/-- the tables of code objects T stand; no table is fixed -/
def TbO (T : List (Addr × Str)) (B H G : Hp) : Prop := LamX.Tabs T H ∧ (T ≠ [] → (∀ b ps, B b ≠ some (.tbl ps)) ∧ ∀ b ps, G b ≠ some (.tbl ps))
theorem TbO.nil {B H G : Hp} : TbO [] B H G := ⟨fun _ h => (nomatch h), fun h => absurd rfl h⟩
section
variable {T : List (Addr × Str)} {B H H' G : Hp} {a : Addr} {o o' : HO}
theorem TbO.at (t : TbO T B H G) {p : Addr × Str} (hp : p ∈ T) : ∃ ps, H p.1 = some (.tbl ps) := by
  obtain ⟨ps, h, _⟩ := t.1 p hp
  exact ⟨ps, h⟩
theorem TbO.ne (t : TbO T B H G) {p : Addr × Str} (hp : p ∈ T) (h : H a = some o) (n : ∀ ps, o ≠ .tbl ps) : p.1 ≠ a := fun e => by
  obtain ⟨ps, q⟩ := t.at hp
  rw [e, h] at q
  exact n ps (Option.some.inj q)
theorem noTbl_upd {G : Hp} {a : Addr} {o : HO} (h : ∀ b ps, G b ≠ some (.tbl ps)) (n : ∀ ps, o ≠ .tbl ps) : ∀ b ps, upd G a o b ≠ some (.tbl ps) := fun b ps e => by
  by_cases z : b = a
  · rw [z, upd_same] at e; exact n ps (Option.some.inj e)
  · rw [upd_ne z] at e; exact h b ps e
theorem TbO.up (t : TbO T B H G) (e : ∀ b o, H b = some o → H' b = some o) : TbO T B H' G := ⟨t.1.ext e, t.2⟩
theorem TbO.up0 (t : TbO T B H G) (h : H a = none) : TbO T B (upd H a o) G := t.up fun b u e => by rw [upd_ne (ne_of_none e h)]; exact e
theorem TbO.lay (t : TbO T B H G) (h : H a = none) (n : ∀ ps, o ≠ .tbl ps) : TbO T B (upd H a o) (upd G a o) := ⟨(t.up0 h).1, fun z => ⟨(t.2 z).1, noTbl_upd (t.2 z).2 n⟩⟩
theorem TbO.frz (t : TbO T B H G) (n : ∀ ps, o' ≠ .tbl ps) : TbO T B H (upd G a o') := ⟨t.1, fun z => ⟨(t.2 z).1, noTbl_upd (t.2 z).2 n⟩⟩
theorem TbO.wr (t : TbO T B H G) (h : H a = some o) (n : NX o) : TbO T B (upd H a o') G := by
  refine ⟨fun p hp => ?_, t.2⟩
  obtain ⟨ps, h1, h2, h3⟩ := t.1 p hp
  refine ⟨ps, by rw [upd_ne (t.ne hp h n.1)]; exact h1, h2, fun pos cv hc => ?_⟩
  obtain ⟨c, e1, e2⟩ := h3 pos cv hc
  refine ⟨c, e1, ?_⟩
  have : c ≠ a := fun e => by
    rw [e, h] at e2
    exact n.2 _ (Option.some.inj e2)
  rw [upd_ne this]; exact e2
end
/-- what a callee has fixed, but for tables -/
def noT (G G' : Hp) : Hp := fun b => match G' b with
  | some (.tbl _) => G b
  | o => o
theorem noT_N {G G' : Hp} : SameN G' (noT G G') := fun a o h n => by
  unfold noT
  rw [h]
  cases o <;> first | rfl | exact absurd rfl (n _)
theorem noT_none {G G' : Hp} {b : Addr} (h : G' b = none) : noT G G' b = none := by unfold noT; rw [h]
theorem noT_same {G G' : Hp} (e : Same G G') : Same G (noT G G') := fun b o h => by
  have q := e b o h
  unfold noT
  rw [q]
  cases o <;> first | rfl | exact h
theorem noT_le {G G' : Hp} (e : Same G G') : Same (noT G G') G' := fun b o h => by
  unfold noT at h
  cases q : G' b with
  | none => rw [q] at h; cases h
  | some u =>
    rw [q] at h
    cases u with
    | tbl ps =>
      have h' : G b = some o := h
      rw [← q]; exact e b o h'
    | _ => exact h
theorem noT_tbl {G G' : Hp} {b : Addr} {ps : Array Value} (h : noT G G' b = some (.tbl ps)) : G b = some (.tbl ps) := by
  unfold noT at h
  cases q : G' b with
  | none => rw [q] at h; cases h
  | some u =>
    rw [q] at h
    cases u with
    | tbl ps => exact h
    | _ => cases h
/-- fixed through a def: the classes, the heap at its entry, what was known of it, the wish of exceptions -/
structure Fx where
  W : CT
  B : Hp
  G0 : Hp
  E : XK
  hot : Bool
  T : List (Addr × Str)

structure SOk (F : Fx) (δ : DS) (σ : St) (H G : Hp) : Prop where
  len : δ.length = σ.length
  bh : Same F.B H
  g0 : Same F.G0 G
  gh : Same G H
  gn : ∀ a o, F.B a = some o → NT o → F.G0 a = none → G a = none
  im : ∀ (i : Nat) (d : D), δ[i]? = some (.im d) → ∃ v, σ[i]? = some (some v) ∧ Rep F.W G d v
  ow : ∀ (i : Nat) (c : D), δ[i]? = some (.ow c) → ∃ a o, σ[i]? = some (some (.ref a)) ∧ H a = some o ∧ CRep F.W G c o ∧ G a = none ∧ F.B a = none
  ne : ∀ (i j : Nat) (a : Addr) (c c' : D), δ[i]? = some (.ow c) → δ[j]? = some (.ow c') → σ[i]? = some (some (.ref a)) → σ[j]? = some (some (.ref a)) → i = j
  tt : TbO F.T F.B H G

/-- how a value that has come out lies -/
def RVOk (F : Fx) (δ : DS) (σ : St) (H G : Hp) : RV → V → Prop
  | .im d, v => Rep F.W G d v
  | .fr c, v => ∃ a o, v = .ref a ∧ H a = some o ∧ CRep F.W G c o ∧ G a = none ∧ F.B a = none ∧ ∀ (i : Nat) (c' : D), δ[i]? = some (.ow c') → σ[i]? ≠ some (some (.ref a))
  | .bo i, v => (∃ c, δ[i]? = some (.ow c)) ∧ σ[i]? = some (some v)

def xname : Nat → Str
  | 10 => "index"
  | _ => "given"
/-- an exception of an own class goes out: its class's number, what it keeps -/
def XAll (F : Fx) (c : Nat) (fs : List D) : Prop := F.hot = true ∧
  ∀ (H' G' : Hp) (C : Addr), F.W.xcl c = some C → Same F.B H' → Same F.G0 G' → Same G' H' → (∀ a o, F.B a = some o → NT o → F.G0 a = none → G' a = none) →
    (fs = [] → F.E (.ref C) none H') ∧ ∀ f dx v, fs = [f] → H' dx = some (.xd [(xname c, v)]) → Rep F.W G' f v → F.E (.ref C) (some dx) H'

def SatE (F : Fx) (o : Out (RV × DS)) (σ : St) (G : Hp) (Q : VK) : Prop := match o with
  | .ok (r, δ') => ∀ v H' G', SOk F δ' σ H' G' → Same G G' → RVOk F δ' σ H' G' r v → Q v H'
  | .ex c fs => XAll F c fs
  | .st => False
def tE (F : Fx) (s : SE) : TE := fun σ H Q => ∃ δ G, SOk F δ σ H G ∧ SatE F (s δ) σ G Q
def SatT (F : Fx) (o : Out (Bool × DS)) (σ : St) (G : Hp) (Q : Bool → Hp → Prop) : Prop := match o with
  | .ok (b, δ') => ∀ H' G', SOk F δ' σ H' G' → Same G G' → Q b H'
  | .ex c fs => XAll F c fs
  | .st => False
def tT (F : Fx) (s : ST) : TT := fun σ H Q => ∃ δ G, SOk F δ σ H G ∧ SatT F (s δ) σ G Q

/-! ### the state's steps -/
section
variable {F : Fx} {δ : DS} {σ : St} {H G : Hp}
theorem same_upd {H H' : Hp} {p : Addr} {o : HO} (e : Same H H') (hp : H' p = none) : Same H (upd H' p o) := fun b u h => by
  rw [upd_ne (ne_of_none (e b u h) hp)]; exact e b u h
theorem same_upd0 {H : Hp} {p : Addr} {o : HO} (hp : H p = none) : Same H (upd H p o) := same_upd (Same.refl H) hp
theorem same_updG {G H : Hp} {p : Addr} {o : HO} (e : Same G H) : Same (upd G p o) (upd H p o) := fun b u h => by
  by_cases hb : b = p
  · subst hb; rw [upd_same] at h ⊢; exact h
  · rw [upd_ne hb] at h ⊢; exact e b u h
theorem SOk.fresh (S : SOk F δ σ H G) {p : Addr} (hp : H p = none) : G p = none := S.gh.free hp
/-- a new object that never changes -/
theorem SOk.laid (S : SOk F δ σ H G) {p : Addr} (hp : H p = none) (o : HO) (ho : ∀ ps, o ≠ .tbl ps := by intro _ z; cases z) : SOk F δ σ (upd H p o) (upd G p o) where
  len := S.len
  bh := same_upd S.bh hp
  g0 := same_upd S.g0 (S.fresh hp)
  gh := same_updG S.gh
  gn := fun a o hb nt h0 => by
    have : a ≠ p := fun e => by rw [e, S.bh.free hp] at hb; cases hb
    rw [upd_ne this]; exact S.gn a o hb nt h0
  im := fun i d e => by
    obtain ⟨v, h1, h2⟩ := S.im i d e
    exact ⟨v, h1, h2.mono (same_upd0 (S.fresh hp))⟩
  ow := fun i c e => by
    obtain ⟨a, o', h1, h2, h3, h4, h5⟩ := S.ow i c e
    have ne : a ≠ p := ne_of_none h2 hp
    exact ⟨a, o', h1, by rw [upd_ne ne]; exact h2, h3.mono (same_upd0 (S.fresh hp)), by rw [upd_ne ne]; exact h4, h5⟩
  ne := S.ne
  tt := S.tt.lay hp ho
/-- a new object that may change, or that is forgotten -/
theorem SOk.made (S : SOk F δ σ H G) {p : Addr} (hp : H p = none) (o : HO) : SOk F δ σ (upd H p o) G where
  len := S.len
  bh := same_upd S.bh hp
  g0 := S.g0
  gh := same_upd S.gh hp
  gn := S.gn
  im := S.im
  ow := fun i c e => by
    obtain ⟨a, o', h1, h2, h3, h4, h5⟩ := S.ow i c e
    exact ⟨a, o', h1, by rw [upd_ne (ne_of_none h2 hp)]; exact h2, h3, h4, h5⟩
  ne := S.ne
  tt := S.tt.up0 hp
theorem SOk.notOwn (S : SOk F δ σ H G) {p : Addr} (hp : H p = none) : ∀ (i : Nat) (c' : D), δ[i]? = some (.ow c') → σ[i]? ≠ some (some (.ref p)) := fun i c e h => by
  obtain ⟨a, o, h1, h2, _⟩ := S.ow i c e
  rw [h1] at h; cases h; rw [hp] at h2; cases h2
/-- a new list or dict comes out -/
theorem SOk.fresh_rv (S : SOk F δ σ H G) {p : Addr} (hp : H p = none) {c : D} {o : HO} (r : CRep F.W G c o) : RVOk F δ σ (upd H p o) G (.fr c) (.ref p) :=
  ⟨p, o, rfl, upd_same, r, S.fresh hp, S.bh.free hp, S.notOwn hp⟩
theorem SOk.laidA (S : SOk F δ σ H G) {p : Addr} (hp : H p = none) (o : HO) : ∃ G', SOk F δ σ (upd H p o) G' ∧ Same G G' ∧ SameN (upd G p o) G' ∧ ∀ b, upd G p o b = none → G' b = none := by
  by_cases h : ∀ ps, o ≠ .tbl ps
  · exact ⟨_, S.laid hp o h, same_upd0 (S.fresh hp), fun _ _ q _ => q, fun _ q => q⟩
  · have h : ∃ ps, o = .tbl ps := Classical.byContradiction fun z => h fun ps e => z ⟨ps, e⟩
    obtain ⟨ps, rfl⟩ := h
    refine ⟨_, S.made hp _, Same.refl _, fun b u q n => ?_, fun b q => ?_⟩
    · by_cases e : b = p
      · rw [e, upd_same] at q; cases q; exact absurd rfl (n _)
      · rw [upd_ne e] at q; exact q
    · by_cases e : b = p
      · rw [e]; exact S.fresh hp
      · rw [upd_ne e] at q; exact q
/-- what came out as new never changes from now on -/
theorem SOk.freeze (S : SOk F δ σ H G) {c : D} {v : V} (r : RVOk F δ σ H G (.fr c) v) : ∃ G', SOk F δ σ H G' ∧ Same G G' ∧ Rep F.W G' c v := by
  obtain ⟨a, o, rfl, h1, h2, h3, h4, h5⟩ := r
  refine ⟨upd G a o, ⟨S.len, S.bh, same_upd S.g0 h3, fun b u e => ?_, fun b ob hb nt h0 => ?_, fun i d e => ?_, fun i c' e => ?_, S.ne, S.tt.frz h2.nx.1⟩, same_upd0 h3, (h2.mono (same_upd0 h3)).rep upd_same⟩
  · by_cases hb : b = a
    · subst hb; rw [upd_same] at e; cases e; exact h1
    · rw [upd_ne hb] at e; exact S.gh b u e
  · have : b ≠ a := fun e => by rw [e, h4] at hb; cases hb
    rw [upd_ne this]; exact S.gn b ob hb nt h0
  · obtain ⟨v, q1, q2⟩ := S.im i d e
    exact ⟨v, q1, q2.mono (same_upd0 h3)⟩
  · obtain ⟨b, o', q1, q2, q3, q4, q5⟩ := S.ow i c' e
    have ne : b ≠ a := fun z => h5 i c' e (by rw [q1, z])
    exact ⟨b, o', q1, q2, q3.mono (same_upd0 h3), by rw [upd_ne ne]; exact q4, q5⟩
theorem get_set {α : Type} {l : List α} {i j : Nat} {x y : α} (h : (l.set i x)[j]? = some y) : (i = j ∧ y = x) ∨ (i ≠ j ∧ l[j]? = some y) := by
  rw [List.getElem?_set] at h
  by_cases e : i = j
  · rw [if_pos e] at h
    split at h
    · cases h; exact .inl ⟨e, rfl⟩
    · cases h
  · rw [if_neg e] at h; exact .inr ⟨e, h⟩
/-- a slot gets a value that never changes -/
theorem SOk.setIm (S : SOk F δ σ H G) (i : Nat) {d : D} {v : V} (r : Rep F.W G d v) : SOk F (δ.set i (.im d)) (σ.set i (some v)) H G where
  len := by rw [List.length_set, List.length_set]; exact S.len
  bh := S.bh
  g0 := S.g0
  gh := S.gh
  gn := S.gn
  im := fun j d' e => by
    have hl : j < δ.length := by
      have := (List.getElem?_eq_some_iff.mp e).1
      rwa [List.length_set] at this
    rcases get_set e with ⟨rfl, z⟩ | ⟨hn, z⟩
    · cases z
      exact ⟨v, by rw [List.getElem?_set, if_pos rfl, if_pos (by rw [← S.len]; exact hl)], r⟩
    · obtain ⟨u, h1, h2⟩ := S.im j d' z
      exact ⟨u, by rw [List.getElem?_set_ne hn]; exact h1, h2⟩
  ow := fun j c e => by
    rcases get_set e with ⟨rfl, z⟩ | ⟨hn, z⟩
    · cases z
    · obtain ⟨a, o, h1, h2⟩ := S.ow j c z
      exact ⟨a, o, by rw [List.getElem?_set_ne hn]; exact h1, h2⟩
  ne := fun j k a c c' e1 e2 h1 h2 => by
    rcases get_set e1 with ⟨rfl, z⟩ | ⟨n1, z1⟩
    · cases z
    · rcases get_set e2 with ⟨rfl, z⟩ | ⟨n2, z2⟩
      · cases z
      · rw [List.getElem?_set_ne n1] at h1
        rw [List.getElem?_set_ne n2] at h2
        exact S.ne j k a c c' z1 z2 h1 h2
  tt := S.tt
/-- a slot gets a new list or dict -/
theorem SOk.setFr (S : SOk F δ σ H G) (i : Nat) {c : D} {v : V} (r : RVOk F δ σ H G (.fr c) v) : SOk F (δ.set i (.ow c)) (σ.set i (some v)) H G := by
  obtain ⟨a, o, rfl, r1, r2, r3, r4, r5⟩ := r
  refine ⟨by rw [List.length_set, List.length_set]; exact S.len, S.bh, S.g0, S.gh, S.gn, fun j d' e => ?_, fun j c' e => ?_, fun j k b c1 c2 e1 e2 h1 h2 => ?_, S.tt⟩
  · rcases get_set e with ⟨rfl, z⟩ | ⟨hn, z⟩
    · cases z
    · obtain ⟨u, h1, h2⟩ := S.im j d' z
      exact ⟨u, by rw [List.getElem?_set_ne hn]; exact h1, h2⟩
  · have hl : j < δ.length := by
      have := (List.getElem?_eq_some_iff.mp e).1
      rwa [List.length_set] at this
    rcases get_set e with ⟨rfl, z⟩ | ⟨hn, z⟩
    · cases z
      exact ⟨a, o, by rw [List.getElem?_set, if_pos rfl, if_pos (by rw [← S.len]; exact hl)], r1, r2, r3, r4⟩
    · obtain ⟨b, o', h1, h2⟩ := S.ow j c' z
      exact ⟨b, o', by rw [List.getElem?_set_ne hn]; exact h1, h2⟩
  · rcases get_set e1 with ⟨rfl, z1⟩ | ⟨n1, z1⟩
    · rcases get_set e2 with ⟨rfl, z2⟩ | ⟨n2, z2⟩
      · rfl
      · exfalso
        rw [List.getElem?_set, if_pos rfl] at h1
        split at h1
        · cases h1
          rw [List.getElem?_set_ne n2] at h2
          exact r5 k c2 z2 h2
        · cases h1
    · rcases get_set e2 with ⟨rfl, z2⟩ | ⟨n2, z2⟩
      · exfalso
        rw [List.getElem?_set, if_pos rfl] at h2
        split at h2
        · cases h2
          rw [List.getElem?_set_ne n1] at h1
          exact r5 j c1 z1 h1
        · cases h2
      · rw [List.getElem?_set_ne n1] at h1
        rw [List.getElem?_set_ne n2] at h2
        exact S.ne j k b c1 c2 z1 z2 h1 h2
/-- a slot is forgotten -/
theorem SOk.forget (S : SOk F δ σ H G) (i : Nat) : SOk F (δ.set i .no) σ H G where
  len := by rw [List.length_set]; exact S.len
  bh := S.bh
  g0 := S.g0
  gh := S.gh
  gn := S.gn
  im := fun j d e => by
    rcases get_set e with ⟨rfl, z⟩ | ⟨hn, z⟩
    · cases z
    · exact S.im j d z
  ow := fun j c e => by
    rcases get_set e with ⟨rfl, z⟩ | ⟨hn, z⟩
    · cases z
    · exact S.ow j c z
  ne := fun j k a c c' e1 e2 h1 h2 => by
    rcases get_set e1 with ⟨rfl, z⟩ | ⟨n1, z1⟩
    · cases z
    · rcases get_set e2 with ⟨rfl, z⟩ | ⟨n2, z2⟩
      · cases z
      · exact S.ne j k a c c' z1 z2 h1 h2
  tt := S.tt
/-- the list or dict of a slot changes -/
theorem SOk.write (S : SOk F δ σ H G) {i : Nat} {c c' : D} {a : Addr} {o' : HO} (hi : δ[i]? = some (.ow c)) (ha : σ[i]? = some (some (.ref a))) (r : CRep F.W G c' o') : SOk F (δ.set i (.ow c')) σ (upd H a o') G := by
  obtain ⟨a', o, h1, h2, h3, h4, h5⟩ := S.ow i c hi
  have ea : a' = a := by rw [h1] at ha; exact V.ref.inj (Option.some.inj (Option.some.inj ha))
  subst ea
  refine ⟨by rw [List.length_set]; exact S.len, fun b u e => ?_, S.g0, fun b u e => ?_, S.gn, fun j d e => ?_, fun j c1 e => ?_, fun j k b c1 c2 e1 e2 q1 q2 => ?_, S.tt.wr h2 h3.nx⟩
  · have : b ≠ a' := fun z => by rw [z, h5] at e; cases e
    rw [upd_ne this]; exact S.bh b u e
  · have : b ≠ a' := fun z => by rw [z, h4] at e; cases e
    rw [upd_ne this]; exact S.gh b u e
  · rcases get_set e with ⟨rfl, z⟩ | ⟨hn, z⟩
    · cases z
    · exact S.im j d z
  · rcases get_set e with ⟨rfl, z⟩ | ⟨hn, z⟩
    · cases z
      exact ⟨a', o', h1, upd_same, r, h4, h5⟩
    · obtain ⟨b, u, q1, q2, q3⟩ := S.ow j c1 z
      have nb : b ≠ a' := fun zz => hn (S.ne i j a' c c1 hi z h1 (by rw [q1, zz]))
      exact ⟨b, u, q1, by rw [upd_ne nb]; exact q2, q3⟩
  · have f : ∀ {j : Nat} {c1 : D}, (δ.set i (.ow c'))[j]? = some (.ow c1) → ∃ c2, δ[j]? = some (.ow c2) := fun {j c1} e => by
      rcases get_set e with ⟨rfl, _⟩ | ⟨_, z⟩
      · exact ⟨c, hi⟩
      · exact ⟨c1, z⟩
    obtain ⟨c3, e3⟩ := f e1
    obtain ⟨c4, e4⟩ := f e2
    exact S.ne j k b c3 c4 e3 e4 q1 q2
/-- a slot's own list goes out of the frame's hands -/
theorem SOk.moved (S : SOk F δ σ H G) {i : Nat} {c : D} (hi : δ[i]? = some (.ow c)) {v : V} (hv : σ[i]? = some (some v)) : RVOk F (δ.set i .no) σ H G (.fr c) v := by
  obtain ⟨a, o, h1, h2, h3, h4, h5⟩ := S.ow i c hi
  rw [h1] at hv; cases hv
  refine ⟨a, o, rfl, h2, h3, h4, h5, fun j c' e q => ?_⟩
  rcases get_set e with ⟨rfl, z⟩ | ⟨hn, z⟩
  · cases z
  · exact hn (S.ne i j a c c' hi z h1 q)
/-- a slot's own list never changes from now on -/
theorem SOk.freezeSlot (S : SOk F δ σ H G) {i : Nat} {c : D} (hi : δ[i]? = some (.ow c)) {v : V} (hv : σ[i]? = some (some v)) : ∃ G', SOk F (δ.set i (.im c)) σ H G' ∧ Same G G' ∧ Rep F.W G' c v := by
  obtain ⟨G', S', e, r⟩ := (S.forget i).freeze (S.moved hi hv)
  refine ⟨G', ?_, e, r⟩
  have q := S'.setIm i r
  have e1 : (δ.set i SV.no).set i (.im c) = δ.set i (.im c) := List.set_set ..
  have e2 : σ.set i (some v) = σ := by
    apply List.ext_getElem?
    intro j
    rw [List.getElem?_set]
    split
    · rename_i h; subst h; rw [hv]; split
      · rfl
      · rename_i h; exact absurd (List.getElem?_eq_some_iff.mp hv).1 h
    · rfl
  rw [e1, e2] at q
  exact q
/-- a tuple that stands may be held as one that never changes -/
theorem SOk.hold (S : SOk F δ σ H G) {b : Addr} {xs : List V} (hb : H b = some (.tup xs)) : SOk F δ σ H (upd G b (.tup xs)) ∧ Same G (upd G b (.tup xs)) := by
  have e : Same G (upd G b (.tup xs)) := fun a o h => by
    by_cases q : a = b
    · subst q
      have := S.gh _ _ h
      rw [hb] at this; cases this
      exact upd_same
    · rw [upd_ne q]; exact h
  refine ⟨⟨S.len, S.bh, S.g0.trans e, fun a o h => ?_, fun a o ha nt h0 => ?_, fun i d h => ?_, fun i c h => ?_, S.ne, S.tt.frz fun _ z => nomatch z⟩, e⟩
  · by_cases q : a = b
    · subst q; rw [upd_same] at h; cases h; exact hb
    · rw [upd_ne q] at h; exact S.gh a o h
  · have : a ≠ b := fun q => by
      subst q
      have := S.bh _ _ ha
      rw [hb] at this; cases this
      exact nt xs rfl
    rw [upd_ne this]; exact S.gn a o ha nt h0
  · obtain ⟨v, h1, h2⟩ := S.im i d h
    exact ⟨v, h1, h2.mono e⟩
  · obtain ⟨a, o, h1, h2, h3, h4, h5⟩ := S.ow i c h
    have : a ≠ b := fun q => by
      subst q
      rw [hb] at h2; cases h2
      exact h3.nt xs rfl
    exact ⟨a, o, h1, h2, h3.mono e, by rw [upd_ne this]; exact h4, h5⟩
end
end L2.DI

/-! DI2: expressions over data: names, constants, operands, displays, calls of own defs, and/or/not/if. -/
namespace L2.DI
open PySem PySem.Spec PyProof.Rows

theorem _root_.L2.PE.imp {X : Cx} {e : Expr} {t t' : TE} (h : PE X e t) (i : ∀ σ H Q, t' σ H Q → t σ H Q) : PE X e t' := ⟨fun pins s σ H Q I w => h.run pins s σ H Q I (i σ H Q w)⟩
theorem _root_.L2.PT.imp {X : Cx} {e : Expr} {t t' : TT} (h : PT X e t) (i : ∀ σ H Q, t' σ H Q → t σ H Q) : PT X e t' := ⟨fun pins s σ H Q I w => h.run pins s σ H Q I (i σ H Q w)⟩
theorem _root_.L2.PW.imp {X : Cx} {e : Expr} {t t' : TT} (h : PW X e t) (i : ∀ σ H Q, t' σ H Q → t σ H Q) : PW X e t' := ⟨fun wh pins s σ H Q I w => h.run wh pins s σ H Q I (i σ H Q w)⟩
theorem _root_.L2.PA.imp {X : Cx} {e : List Expr} {t t' : TA} (h : PA X e t) (i : ∀ σ H Q, t' σ H Q → t σ H Q) : PA X e t' := ⟨fun pos pins s σ H Q I w => h.run pos pins s σ H Q I (i σ H Q w)⟩

structure DE (F : Fx) (X : Cx) (e : Expr) (s : SE) : Prop where
  pe : PE X e (tE F s)
structure DT (F : Fx) (X : Cx) (e : Expr) (s : ST) : Prop where
  pt : PT X e (tT F s)
structure DW (F : Fx) (X : Cx) (e : Expr) (s : ST) : Prop where
  pw : PW X e (tT F s)

section
variable {F : Fx} {X : Cx}

/-! ### names and constants -/
def sVar (i : Nat) : SE := fun δ => match δ[i]? with
  | some (.im d) => .ok (.im d, δ)
  | some (.ow _) => .ok (.bo i, δ)
  | _ => .st
theorem de_var (i : Nat) {x : Str} {pos : Pos} (hN : X.N[i]? = some x := by rfl) (hv : Vis X.env.scope x := by first | exact Or.inl rfl | exact Or.inr (Or.inl rfl) | exact Or.inr (Or.inr rfl)) (hd : (x == ("__debug__" : Str)) = false := by decide)
    (hcd : (x == ("__classdict__" : Str)) = false := by decide) : DE F X (.Name x pos) (sVar i) := by
  refine ⟨(pe_var hN hv hd hcd).imp fun σ H Q ⟨δ, G, S, h⟩ => ?_⟩
  unfold sVar at h
  split at h
  · rename_i d e
    obtain ⟨v, h1, h2⟩ := S.im i d e
    exact ⟨v, h1, h v H G S (Same.refl _) h2⟩
  · rename_i c e
    obtain ⟨a, o, h1, _⟩ := S.ow i c e
    exact ⟨_, h1, h _ H G S (Same.refl _) ⟨⟨c, e⟩, h1⟩⟩
  · exact h.elim

def sCst (d : D) : SE := fun δ => .ok (.im d, δ)
theorem cst_imp {d : D} {v : V} (r : ∀ G, Rep F.W G d v) (σ : St) (H : Hp) (Q : VK) : tE F (sCst d) σ H Q → tC v σ H Q := fun ⟨δ, G, S, h⟩ => h v H G S (Same.refl _) (r G)
theorem de_int {i : Int} {j pos} : DE F X (.Constant (.int i) j pos) (sCst (.int i)) := ⟨pe_int.imp (cst_imp fun _ => .int i)⟩
theorem de_bl {b : Bool} {j pos} : DE F X (.Constant (.bool b) j pos) (sCst (.bl b)) := ⟨pe_bl.imp (cst_imp fun _ => .bl b)⟩
theorem de_non {j pos} : DE F X (.Constant .none j pos) (sCst .non) := ⟨pe_non.imp (cst_imp fun _ => .non)⟩
theorem de_str {x : Str} {j pos} (l : List Nat) (hl : x = mk l := by rfl) (ha : asc l = true := by decide) : DE F X (.Constant (.str x) j pos) (sCst (.str l)) := by
  subst hl; exact ⟨pe_str.imp (cst_imp fun _ => .str l ha)⟩
/-- a constant of the module -/
theorem de_glob {x : Str} {v : V} {u : Value} {d : D} {pos : Pos} (hg : Gl X x) (hm : X.mg x = some u) (r : RelV v u) (q : ∀ G, Rep F.W G d v) (hd : (x == ("__debug__" : Str)) = false := by decide) : DE F X (.Name x pos) (sCst d) :=
  ⟨(pe_glob hg hm r hd).imp (cst_imp q)⟩

/-! ### operands: read where they stand -/
def opd (o : Out (RV × DS)) : Out (RV × DS) := match o with
  | .ok (.fr c, δ) => .ok (.im c, δ)
  | o => o
/-- what an operand stands for when it is used -/
def look (δ : DS) : RV → Out D
  | .im d => .ok d
  | .fr c => .ok c
  | .bo i => match δ[i]? with
    | some (.ow c) => .ok c
    | _ => .st
def OpOk (F : Fx) (σ : St) (G : Hp) : RV → V → Prop
  | .im d, v => Rep F.W G d v
  | .fr _, _ => False
  | .bo i, v => σ[i]? = some (some v)
theorem OpOk.mono {σ : St} {G G' : Hp} (e : Same G G') : ∀ {r : RV} {v : V}, OpOk F σ G r v → OpOk F σ G' r v
  | .im _, _, h => Rep.mono e h
  | .bo _, _, h => h
/-- data that lie somewhere: at the top perhaps in a list or dict that may change -/
inductive VRep (W : CT) (G H : Hp) : D → V → Prop
  | of {d : D} {v : V} (h : Rep W G d v) : VRep W G H d v
  | ow {c : D} {a : Addr} {o : HO} (h : H a = some o) (r : CRep W G c o) : VRep W G H c (.ref a)
theorem opd_ok {o : Out (RV × DS)} {σ : St} {G : Hp} {Q : VK} {R : RV → V → DS → Hp → Hp → Prop}
    (h : match opd o with
      | .ok (r, δ') => ∀ v H' G', SOk F δ' σ H' G' → Same G G' → OpOk F σ G' r v → Q v H'
      | .ex c fs => XAll F c fs
      | .st => False) : SatE F o σ G Q := by
  cases o with
  | ok p =>
    obtain ⟨r, δ'⟩ := p
    intro v H' G' S e q
    cases r with
    | im d => exact h v H' G' S e q
    | fr c =>
      obtain ⟨G2, S2, e2, r2⟩ := S.freeze q
      exact h v H' G2 S2 (e.trans e2) r2
    | bo i => exact h v H' G' S e q.2
  | ex c fs => exact h
  | st => exact h
theorem look_ok {δ : DS} {σ : St} {H G : Hp} (S : SOk F δ σ H G) {r : RV} {v : V} {d : D} (q : OpOk F σ G r v) (h : look δ r = .ok d) : VRep F.W G H d v := by
  cases r with
  | im d' => cases h; exact .of q
  | fr c => exact q.elim
  | bo i =>
    dsimp only [look] at h
    split at h
    · rename_i c e
      cases h
      obtain ⟨a, o, h1, h2, h3, _⟩ := S.ow i d e
      have q' : σ[i]? = some (some v) := q
      rw [h1] at q'; cases q'
      exact .ow h2 h3
    · cases h
theorem look_case {δ : DS} {r : RV} : (∃ d, look δ r = .ok d) ∨ look δ r = .st := by
  cases r with
  | im d => exact .inl ⟨d, rfl⟩
  | fr c => exact .inl ⟨c, rfl⟩
  | bo i =>
    dsimp only [look]
    split
    · exact .inl ⟨_, rfl⟩
    · exact .inr rfl

/-! ### a value made of what stands, at once -/
/-- the end of an operation that changes nothing that stood: its answer o -/
def SatV (F : Fx) (o : Out RV) (δ : DS) (σ : St) (G : Hp) (Q : VK) : Prop := SatE F (o >>= fun r => .ok (r, δ)) σ G Q
theorem SatV.im {d : D} {δ : DS} {σ : St} {H G : Hp} {Q : VK} (h : SatV F (.ok (.im d)) δ σ G Q) (S : SOk F δ σ H G) {v : V} (r : Rep F.W G d v) : Q v H := h v H G S (Same.refl _) r
theorem SatV.imNew {d : D} {δ : DS} {σ : St} {H G : Hp} {Q : VK} (h : SatV F (.ok (.im d)) δ σ G Q) (S : SOk F δ σ H G) {p : Addr} (hp : H p = none) {o : HO} {v : V} (r : Rep F.W (upd G p o) d v) (ho : ∀ ps, o ≠ .tbl ps := by intro _ z; cases z) : Q v (upd H p o) :=
  h v _ _ (S.laid hp o ho) (same_upd0 (S.fresh hp)) r
theorem SatV.fr {c : D} {δ : DS} {σ : St} {H G : Hp} {Q : VK} (h : SatV F (.ok (.fr c)) δ σ G Q) (S : SOk F δ σ H G) {p : Addr} (hp : H p = none) {o : HO} (r : CRep F.W G c o) : Q (.ref p) (upd H p o) :=
  h _ _ _ (S.made hp o) (Same.refl _) (S.fresh_rv hp r)

/-- an operation of two values -/
def Op2 (X : Cx) (F : Fx) (r : R2) (f : D → D → Out RV) : Prop :=
  ∀ (δ : DS) (σ : St) (H G : Hp) (d1 d2 : D) (x y : V) (Q : VK), SOk F δ σ H G → VRep F.W G H d1 x → VRep F.W G H d2 y → SatV F (f d1 d2) δ σ G Q → r x y H Q
def sBin (f : D → D → Out RV) (a b : SE) : SE := fun δ => do
  let (ra, δ1) ← opd (a δ)
  let (rb, δ2) ← opd (b δ1)
  let da ← look δ2 ra
  let db ← look δ2 rb
  let r ← f da db
  .ok (r, δ2)
theorem bin_imp {r : R2} {f : D → D → Out RV} (ho : Op2 X F r f) (a b : SE) (σ : St) (H : Hp) (Q : VK) : tE F (sBin f a b) σ H Q → tOp r (tE F a) (tE F b) σ H Q := by
  rintro ⟨δ, G, S, h⟩
  refine ⟨δ, G, S, opd_ok (R := fun _ _ _ _ _ => True) ?_⟩
  unfold sBin at h
  cases e1 : opd (a δ) with
  | st => rw [e1] at h; exact h
  | ex c fs => rw [e1] at h; exact h
  | ok p =>
    obtain ⟨ra, δ1⟩ := p
    rw [e1] at h
    intro x H1 G1 S1 g1 q1
    refine ⟨δ1, G1, S1, opd_ok (R := fun _ _ _ _ _ => True) ?_⟩
    simp only [ok_bind] at h
    cases e2 : opd (b δ1) with
    | st => rw [e2] at h; exact h
    | ex c fs => rw [e2] at h; exact h
    | ok p =>
      obtain ⟨rb, δ2⟩ := p
      rw [e2] at h
      intro y H2 G2 S2 g2 q2
      simp only [ok_bind] at h
      rcases look_case (δ := δ2) (r := ra) with ⟨da, ea⟩ | ea
      · rcases look_case (δ := δ2) (r := rb) with ⟨db, eb⟩ | eb
        · rw [ea, eb] at h
          simp only [ok_bind] at h
          refine ho δ2 σ H2 G2 da db x y Q S2 (look_ok S2 (q1.mono g2) ea) (look_ok S2 q2 eb) ?_
          unfold SatV
          cases ef : f da db with
          | st => rw [ef] at h; exact h
          | ex c fs => rw [ef] at h; exact h
          | ok r =>
            rw [ef] at h
            exact fun v H' G' S' g' r' => h v H' G' S' ((g1.trans g2).trans g') r'
        · rw [ea, eb] at h; exact h.elim
      · rw [ea] at h; exact h.elim
theorem de_bin {fo : Operator} {r : R2} {f : D → D → Out RV} {a b : Expr} {sa sb : SE} {pos : Pos} (hr : OpR X (binaryOp fo) r) (ho : Op2 X F r f) (ha : DE F X a sa) (hb : DE F X b sb) : DE F X (.BinOp a fo b pos) (sBin f sa sb) :=
  ⟨(pe_op hr ha.pe hb.pe).imp fun σ H Q h => bin_imp ho sa sb σ H Q h⟩
theorem de_cmp {fo : CmpOp} {r : R2} {f : D → D → Out RV} {a b : Expr} {sa sb : SE} {pos : Pos} (hr : OpR X (compareOp fo) r) (ho : Op2 X F r f) (ha : DE F X a sa) (hb : DE F X b sb) (hm : behindInMarks fo b = false) : DE F X (.Compare a [fo] [b] pos) (sBin f sa sb) :=
  ⟨(pe_cmpR hr ha.pe hb.pe hm).imp fun σ H Q h => bin_imp ho sa sb σ H Q h⟩
theorem de_ix {r : R2} {f : D → D → Out RV} {a b : Expr} {sa sb : SE} {pos : Pos} (hr : IxR X r) (ho : Op2 X F r f) (ha : DE F X a sa) (hb : DE F X b sb) (hs : PlainIx b) : DE F X (.Subscript a b pos) (sBin f sa sb) :=
  ⟨(pe_ix hr ha.pe hb.pe hs).imp fun σ H Q h => bin_imp ho sa sb σ H Q h⟩
end
end L2.DI

/-! DI3: argument lists, displays, and/or/not/if, attributes, calls of built-ins and of own defs. -/
namespace L2.DI
open PySem PySem.Spec PyProof.Rows

/-! ### argument lists whose items are read where they stand -/
abbrev SA := DS → Out (List RV × DS)
inductive OpsOk (F : Fx) (σ : St) (G : Hp) : List RV → List V → Prop
  | nil : OpsOk F σ G [] []
  | cons {r : RV} {v : V} {rs : List RV} {vs : List V} (h : OpOk F σ G r v) (t : OpsOk F σ G rs vs) : OpsOk F σ G (r :: rs) (v :: vs)
def SatA (F : Fx) (o : Out (List RV × DS)) (σ : St) (G : Hp) (Q : List V → Hp → Prop) : Prop := match o with
  | .ok (rs, δ') => ∀ vs H' G', SOk F δ' σ H' G' → Same G G' → OpsOk F σ G' rs vs → Q vs H'
  | .ex c fs => XAll F c fs
  | .st => False
def tA (F : Fx) (s : SA) : TA := fun σ H Q => ∃ δ G, SOk F δ σ H G ∧ SatA F (s δ) σ G Q
structure DA (F : Fx) (X : Cx) (es : List Expr) (s : SA) : Prop where
  pa : PA X es (tA F s)
def sNil : SA := fun δ => .ok ([], δ)
def sCons (a : SE) (s : SA) : SA := fun δ => do
  let (r, δ1) ← opd (a δ)
  let (rs, δ2) ← s δ1
  .ok (r :: rs, δ2)
/-! .. whose items never change from now on -/
abbrev SF := DS → Out (List D × DS)
def SatF (F : Fx) (o : Out (List D × DS)) (σ : St) (G : Hp) (Q : List V → Hp → Prop) : Prop := match o with
  | .ok (ds, δ') => ∀ vs H' G', SOk F δ' σ H' G' → Same G G' → Reps F.W G' ds vs → Q vs H'
  | .ex c fs => XAll F c fs
  | .st => False
def tF (F : Fx) (s : SF) : TA := fun σ H Q => ∃ δ G, SOk F δ σ H G ∧ SatF F (s δ) σ G Q
structure DF (F : Fx) (X : Cx) (es : List Expr) (s : SF) : Prop where
  pa : PA X es (tF F s)
def fNil : SF := fun δ => .ok ([], δ)
/-- an own list or dict that goes out never changes from now on -/
def frz (o : Out (RV × DS)) : Out (D × DS) := match o with
  | .ok (.im d, δ) => .ok (d, δ)
  | .ok (.fr c, δ) => .ok (c, δ)
  | .ok (.bo i, δ) => (match δ[i]? with
    | some (.ow c) => .ok (c, δ.set i (.im c))
    | _ => .st)
  | .ex c fs => .ex c fs
  | .st => .st
def fCons (a : SE) (s : SF) : SF := fun δ => do
  let (d, δ1) ← frz (a δ)
  let (ds, δ2) ← s δ1
  .ok (d :: ds, δ2)
section
variable {F : Fx} {X : Cx}
theorem frz_ok {o : Out (RV × DS)} {σ : St} {G : Hp} {Q : VK}
    (h : match frz o with
      | .ok (d, δ') => ∀ v H' G', SOk F δ' σ H' G' → Same G G' → Rep F.W G' d v → Q v H'
      | .ex c fs => XAll F c fs
      | .st => False) : SatE F o σ G Q := by
  cases o with
  | ok p =>
    obtain ⟨r, δ'⟩ := p
    intro v H' G' S e q
    cases r with
    | im d => exact h v H' G' S e q
    | fr c =>
      obtain ⟨G2, S2, e2, r2⟩ := S.freeze q
      exact h v H' G2 S2 (e.trans e2) r2
    | bo i =>
      obtain ⟨⟨c, hc⟩, hv⟩ := q
      obtain ⟨G2, S2, e2, r2⟩ := S.freezeSlot hc hv
      dsimp only [frz] at h
      rw [hc] at h
      exact h v H' G2 S2 (e.trans e2) r2
  | ex c fs => exact h
  | st => exact h
theorem da_nil : DA F X [] sNil := ⟨pa_nil.imp fun σ H Q ⟨δ, G, S, h⟩ => h [] H G S (Same.refl _) .nil⟩
theorem OpsOk.mono {σ : St} {G G' : Hp} (e : Same G G') : ∀ {rs : List RV} {vs : List V}, OpsOk F σ G rs vs → OpsOk F σ G' rs vs
  | _, _, .nil => .nil
  | _, _, .cons h t => .cons (h.mono e) (t.mono e)
theorem da_cons {e : Expr} {es : List Expr} {a : SE} {s : SA} (ha : DE F X e a) (hs : DA F X es s) (hst : starEach (e :: es) X.env = (false, eval e X.env) :: starEach es X.env := by rfl) : DA F X (e :: es) (sCons a s) := by
  refine ⟨(pa_cons ha.pe hs.pa hst).imp fun σ H Q ⟨δ, G, S, h⟩ => ⟨δ, G, S, opd_ok (R := fun _ _ _ _ _ => True) ?_⟩⟩
  unfold sCons at h
  cases e1 : opd (a δ) with
  | st => rw [e1] at h; exact h
  | ex c fs => rw [e1] at h; exact h
  | ok p =>
    obtain ⟨r, δ1⟩ := p
    rw [e1] at h
    intro x H1 G1 S1 g1 q1
    simp only [ok_bind] at h
    refine ⟨δ1, G1, S1, ?_⟩
    cases e2 : s δ1 with
    | st => rw [e2] at h; exact h
    | ex c fs => rw [e2] at h; exact h
    | ok p =>
      obtain ⟨rs, δ2⟩ := p
      rw [e2] at h
      intro vs H2 G2 S2 g2 q2
      exact h (x :: vs) H2 G2 S2 (g1.trans g2) (.cons (q1.mono g2) q2)
theorem df_nil : DF F X [] fNil := ⟨pa_nil.imp fun σ H Q ⟨δ, G, S, h⟩ => h [] H G S (Same.refl _) .nil⟩
theorem df_cons {e : Expr} {es : List Expr} {a : SE} {s : SF} (ha : DE F X e a) (hs : DF F X es s) (hst : starEach (e :: es) X.env = (false, eval e X.env) :: starEach es X.env := by rfl) : DF F X (e :: es) (fCons a s) := by
  refine ⟨(pa_cons ha.pe hs.pa hst).imp fun σ H Q ⟨δ, G, S, h⟩ => ⟨δ, G, S, frz_ok ?_⟩⟩
  unfold fCons at h
  cases e1 : frz (a δ) with
  | st => rw [e1] at h; exact h
  | ex c fs => rw [e1] at h; exact h
  | ok p =>
    obtain ⟨r, δ1⟩ := p
    rw [e1] at h
    intro x H1 G1 S1 g1 q1
    simp only [ok_bind] at h
    refine ⟨δ1, G1, S1, ?_⟩
    cases e2 : s δ1 with
    | st => rw [e2] at h; exact h
    | ex c fs => rw [e2] at h; exact h
    | ok p =>
      obtain ⟨rs, δ2⟩ := p
      rw [e2] at h
      intro vs H2 G2 S2 g2 q2
      exact h (x :: vs) H2 G2 S2 (g1.trans g2) (.cons (q1.mono g2) q2)

/-! ### displays -/
def LIM : Nat := 16777216
theorem lim_eq : sizeLine = LIM := sizeLine_eq
def sTup (s : SF) : SE := fun δ => do
  let (ds, δ1) ← s δ
  if ds.length ≤ LIM then .ok (.im (.tup ds), δ1) else .st
def sLst (s : SF) : SE := fun δ => do
  let (ds, δ1) ← s δ
  if ds.length ≤ LIM then .ok (.fr (.lst ds), δ1) else .st
theorem de_tup {es : List Expr} {s : SF} {x1} {pos : Pos} (h : DF F X es s) : DE F X (.Tuple es x1 pos) (sTup s) := by
  refine ⟨(pe_tup h.pa).imp fun σ H Q ⟨δ, G, S, w⟩ => ⟨δ, G, S, ?_⟩⟩
  unfold sTup at w
  cases e1 : s δ with
  | st => rw [e1] at w; exact w
  | ex c fs => rw [e1] at w; exact w
  | ok p =>
    obtain ⟨ds, δ1⟩ := p
    rw [e1] at w
    intro vs H' G' S' g q
    simp only [ok_bind] at w
    split at w
    · rename_i hl
      refine ⟨by rw [← q.length, lim_eq]; exact hl, fun p hp => ?_⟩
      exact w _ _ _ (S'.laid hp (.tup vs)) (g.trans (same_upd0 (S'.fresh hp))) (.tup upd_same (q.mono (same_upd0 (S'.fresh hp))))
    · exact w.elim
theorem de_lst {es : List Expr} {s : SF} {pos : Pos} (h : DF F X es s) : DE F X (.List es pos) (sLst s) := by
  refine ⟨(pe_lst h.pa).imp fun σ H Q ⟨δ, G, S, w⟩ => ⟨δ, G, S, ?_⟩⟩
  unfold sLst at w
  cases e1 : s δ with
  | st => rw [e1] at w; exact w
  | ex c fs => rw [e1] at w; exact w
  | ok p =>
    obtain ⟨ds, δ1⟩ := p
    rw [e1] at w
    intro vs H' G' S' g q
    simp only [ok_bind] at w
    split at w
    · rename_i hl
      refine ⟨by rw [← q.length, lim_eq]; exact hl, fun p hp => ?_⟩
      exact w _ _ _ (S'.made hp (.lst vs)) g (S'.fresh_rv hp (.lst q))
    · exact w.elim

/-! ### calls of built-ins -/
inductive VReps (W : CT) (G H : Hp) : List D → List V → Prop
  | nil : VReps W G H [] []
  | cons {d : D} {v : V} {ds : List D} {vs : List V} (h : VRep W G H d v) (t : VReps W G H ds vs) : VReps W G H (d :: ds) (v :: vs)
def looks (δ : DS) : List RV → Out (List D)
  | [] => .ok []
  | r :: rs => do
    let d ← look δ r
    let ds ← looks δ rs
    .ok (d :: ds)
theorem looks_case {δ : DS} : ∀ {rs : List RV}, (∃ ds, looks δ rs = .ok ds) ∨ looks δ rs = .st
  | [] => .inl ⟨[], rfl⟩
  | r :: rs => by
    unfold looks
    rcases look_case (δ := δ) (r := r) with ⟨d, e⟩ | e
    · rcases looks_case (δ := δ) (rs := rs) with ⟨ds, e'⟩ | e'
      · exact .inl ⟨d :: ds, by rw [e, e']; rfl⟩
      · exact .inr (by rw [e, e']; rfl)
    · exact .inr (by rw [e]; rfl)
theorem looks_ok {δ : DS} {σ : St} {H G : Hp} (S : SOk F δ σ H G) : ∀ {rs : List RV} {vs : List V} {ds : List D}, OpsOk F σ G rs vs → looks δ rs = .ok ds → VReps F.W G H ds vs
  | _, _, _, .nil, h => by cases h; exact .nil
  | r :: rs, v :: vs, ds, .cons q t, h => by
    unfold looks at h
    rcases look_case (δ := δ) (r := r) with ⟨d, e⟩ | e
    · rcases looks_case (δ := δ) (rs := rs) with ⟨ds', e'⟩ | e'
      · rw [e, e'] at h
        cases h
        exact .cons (look_ok S q e) (looks_ok S t e')
      · rw [e, e'] at h; cases h
    · rw [e] at h; cases h
def CallOk (F : Fx) (r : List V → Hp → VK → Prop) (f : List D → Out RV) : Prop :=
  ∀ (δ : DS) (σ : St) (H G : Hp) (ds : List D) (vs : List V) (Q : VK), SOk F δ σ H G → VReps F.W G H ds vs → SatV F (f ds) δ σ G Q → r vs H Q
def sCall (f : List D → Out RV) (s : SA) : SE := fun δ => do
  let (rs, δ1) ← s δ
  let ds ← looks δ1 rs
  let r ← f ds
  .ok (r, δ1)
theorem call_imp {r : List V → Hp → VK → Prop} {f : List D → Out RV} (ho : CallOk F r f) (s : SA) (σ : St) (H : Hp) (Q : VK) : tE F (sCall f s) σ H Q → tCB r (tA F s) σ H Q := by
  rintro ⟨δ, G, S, h⟩
  refine ⟨δ, G, S, ?_⟩
  unfold sCall at h
  cases e1 : s δ with
  | st => rw [e1] at h; exact h
  | ex c fs => rw [e1] at h; exact h
  | ok p =>
    obtain ⟨rs, δ1⟩ := p
    rw [e1] at h
    intro vs H1 G1 S1 g1 q1
    simp only [ok_bind] at h
    rcases looks_case (δ := δ1) (rs := rs) with ⟨ds, ea⟩ | ea
    · rw [ea] at h
      refine ho δ1 σ H1 G1 ds vs Q S1 (looks_ok S1 q1 ea) ?_
      simp only [ok_bind] at h
      unfold SatV
      cases ef : f ds with
      | st => rw [ef] at h; exact h
      | ex c fs => rw [ef] at h; exact h
      | ok r =>
        rw [ef] at h
        exact fun v H' G' S' g' r' => h v H' G' S' (g1.trans g') r'
    · rw [ea] at h; exact h.elim
theorem de_callB {id : String} {r : List V → Hp → VK → Prop} {f : List D → Out RV} {x : Str} {p pos : Pos} {e : Expr} {es : List Expr} {s : SA} (hc : CallR X (.builtin id) r) (ho : CallOk F r f) (hg : Gl X x) (hm : X.mg x = none) (hv : bootBuiltins x = some (.builtin id)) (ha : DA F X (e :: es) s)
    (hn : x ≠ "__name__" := by decide) (hdb : (x == ("__debug__" : Str)) = false := by decide) (he : starEach (e :: es) X.env = (false, eval e X.env) :: starEach es X.env := by rfl) (hpl : (backTo pos (starEach es X.env)).any (·.1) = false := by rfl) :
    DE F X (.Call (.Name x p) (e :: es) [] pos) (sCall f s) := ⟨(pe_callB hc hg hm hv ha.pa hn hdb he hpl).imp fun σ H Q h => call_imp ho s σ H Q h⟩
theorem de_callTy {T : String} {r : List V → Hp → VK → Prop} {f : List D → Out RV} {x : Str} {p pos : Pos} {e : Expr} {es : List Expr} {s : SA} (hc : CallR X (.type T) r) (ho : CallOk F r f) (hg : Gl X x) (hm : X.mg x = none) (hv : bootBuiltins x = some (.type T)) (ha : DA F X (e :: es) s)
    (hn : x ≠ "__name__" := by decide) (hdb : (x == ("__debug__" : Str)) = false := by decide) (he : starEach (e :: es) X.env = (false, eval e X.env) :: starEach es X.env := by rfl) (hpl : (backTo pos (starEach es X.env)).any (·.1) = false := by rfl) :
    DE F X (.Call (.Name x p) (e :: es) [] pos) (sCall f s) := ⟨(pe_callTy hc hg hm hv ha.pa hn hdb he hpl).imp fun σ H Q h => call_imp ho s σ H Q h⟩

/-! ### calls of own defs -/
/-- the end of a call: H, G ahead of it -/
def SatR (W : CT) (hot : Bool) (B G0 : Hp) (o : Out RV) (Q : VK) (E : XK) : Prop := match o with
  | .ok r => ∀ v H' G', Same B H' → Same G0 G' → Same G' H' → (∀ a o, B a = some o → NT o → G0 a = none → G' a = none) →
      (match r with
        | .im d => Rep W G' d v
        | .fr c => ∃ a o, v = V.ref a ∧ H' a = some o ∧ CRep W G' c o ∧ G' a = none ∧ B a = none
        | .bo _ => False) → Q v H'
  | .ex c fs => XAll ⟨W, B, G0, E, hot, []⟩ c fs
  | .st => False
/-- a def's promise: n parameters, handed in as data that never change -/
def spD (W : CT) (hot : Bool) (n : Nat) (sem : List D → Out RV) : Sp := fun vs H Q E => vs.length = n ∧ ∃ ds G, Same G H ∧ Reps W G ds vs ∧ SatR W hot H G (sem ds) Q E
def sOwn (sem : List D → Out RV) (s : SF) : SE := fun δ => do
  let (ds, δ1) ← s δ
  let r ← sem ds
  (match r with
    | .bo _ => .st
    | r => .ok (r, δ1))
theorem SOk.after {δ : DS} {σ : St} {H G H' G' : Hp} (S : SOk F δ σ H G) (h1 : Same H H') (h2 : Same G G') (h3 : Same G' H') (h4 : ∀ a o, H a = some o → NT o → G a = none → G' a = none) (h5 : ∀ b ps, G' b = some (.tbl ps) → G b = some (.tbl ps)) : SOk F δ σ H' G' where
  len := S.len
  bh := S.bh.trans h1
  g0 := S.g0.trans h2
  gh := h3
  gn := fun a o hb nt h0 => h4 a o (S.bh _ _ hb) nt (S.gn a o hb nt h0)
  im := fun i d e => by
    obtain ⟨v, q1, q2⟩ := S.im i d e
    exact ⟨v, q1, q2.mono h2⟩
  ow := fun i c e => by
    obtain ⟨a, o, q1, q2, q3, q4, q5⟩ := S.ow i c e
    exact ⟨a, o, q1, h1 _ _ q2, q3.mono h2, h4 a o q2 q3.nt q4, q5⟩
  ne := S.ne
  tt := ⟨S.tt.1.ext h1, fun z => ⟨(S.tt.2 z).1, fun b ps e => (S.tt.2 z).2 b ps (h5 b ps e)⟩⟩
theorem SOk.afterN {δ : DS} {σ : St} {H G H' G' : Hp} (S : SOk F δ σ H G) (h1 : Same H H') (h2 : Same G G') (h3 : Same G' H') (h4 : ∀ a o, H a = some o → NT o → G a = none → G' a = none) : SOk F δ σ H' (noT G G') :=
  S.after h1 (noT_same h2) ((noT_le h2).trans h3) (fun a o q nt n => noT_none (h4 a o q nt n)) fun _ _ e => noT_tbl e
theorem XAll.up {δ : DS} {σ : St} {H G : Hp} {c : Nat} {fs : List D} (S : SOk F δ σ H G) (h : XAll F c fs) : XAll ⟨F.W, H, G, F.E, F.hot, []⟩ c fs :=
  ⟨h.1, fun H' G' C hC h1 h2 h3 h4 => h.2 H' G' C hC (S.bh.trans h1) (S.g0.trans h2) h3 fun a o hb nt h0 => h4 a o (S.bh _ _ hb) nt (S.gn a o hb nt h0)⟩
theorem own_imp {n : Nat} {sem : List D → Out RV} {s : SF} (σ : St) (H : Hp) (Q : VK) (hn : ∀ δ ds δ', s δ = .ok (ds, δ') → ds.length = n) : tE F (sOwn sem s) σ H Q → tCall (spD F.W F.hot n sem) [] F.E (tF F s) σ H Q := by
  rintro ⟨δ, G, S, h⟩
  refine ⟨δ, G, S, ?_⟩
  unfold sOwn at h
  cases e1 : s δ with
  | st => rw [e1] at h; exact h
  | ex c fs => rw [e1] at h; exact h
  | ok p =>
    obtain ⟨ds, δ1⟩ := p
    rw [e1] at h
    intro vs H1 G1 S1 g1 q1
    simp only [ok_bind] at h
    rw [List.append_nil]
    refine ⟨by rw [← q1.length]; exact hn _ _ _ e1, ds, G1, S1.gh, q1, ?_⟩
    cases e2 : sem ds with
    | st => rw [e2] at h; exact h
    | ex c fs => rw [e2] at h; exact XAll.up S1 h
    | ok r =>
      rw [e2] at h
      intro v H2 G2 k1 k2 k3 k4 k5
      have S2 := S1.afterN k1 k2 k3 k4
      cases r with
      | im d => exact h v H2 _ S2 (g1.trans (noT_same k2)) (k5.monoN noT_N)
      | fr c =>
        obtain ⟨a, o, rfl, z1, z2, z3, z4⟩ := k5
        refine h _ H2 _ S2 (g1.trans (noT_same k2)) ⟨a, o, rfl, z1, z2.monoN noT_N, noT_none z3, S1.bh.free z4, fun i c' ei q => ?_⟩
        obtain ⟨b, o', y1, y2, _⟩ := S1.ow i c' ei
        rw [y1] at q
        cases q
        rw [z4] at y2; cases y2
      | bo i => exact h.elim
/-- how many arguments come out -/
def SF.Many (s : SF) (n : Nat) : Prop := ∀ δ ds δ', s δ = .ok (ds, δ') → ds.length = n
theorem many_nil : SF.Many fNil 0 := fun _ _ _ h => by cases h; rfl
theorem many_cons {a : SE} {s : SF} {n : Nat} (h : SF.Many s n) : SF.Many (fCons a s) (n + 1) := fun δ ds δ' e => by
  unfold fCons at e
  cases e1 : frz (a δ) with
  | st => rw [e1] at e; cases e
  | ex c fs => rw [e1] at e; cases e
  | ok p =>
    rw [e1] at e
    simp only [ok_bind] at e
    cases e2 : s p.2 with
    | st => rw [e2] at e; cases e
    | ex c fs => rw [e2] at e; cases e
    | ok q =>
      rw [e2] at e
      cases e
      simp [h _ _ _ e2]
theorem de_own {k : Nat} {f : Addr} {fd : FuncData} {ps : List Str} {n : Nat} {sem : List D → Out RV} {x : Str} {p pos : Pos} {e : Expr} {es : List Expr} {s : SF} {CX : CXT} (Fn : FnOk X.prog X.w X.K X.mg X.base CX k f fd ps (spD F.W F.hot n sem)) (hr : Room k X.A) (hg : Gl X x) (hm : X.mg x = some (.ref f)) (hk : PySem.W.keepIn X.K (.ref f) = true) (hb : Binds X.K fd ps [])
    (hx : Passes CX X F.E) (hn : SF.Many s n) (ha : DF F X (e :: es) s) (hdb : (x == ("__debug__" : Str)) = false := by decide) (he : starEach (e :: es) X.env = (false, eval e X.env) :: starEach es X.env := by rfl) (hpl : (backTo pos (starEach es X.env)).any (·.1) = false := by rfl) :
    DE F X (.Call (.Name x p) (e :: es) [] pos) (sOwn sem s) := ⟨(pe_call Fn hr hg hm hk hb .nil hx ha.pa hdb he hpl).imp fun σ H Q h => own_imp σ H Q hn h⟩

/-! ### and, or, not, if -/
def sAnd (a b : SE) : SE := fun δ => do
  let (r, δ1) ← opd (a δ)
  (match r with
    | .im (.bl true) => b δ1
    | .im (.bl false) => .ok (.im (.bl false), δ1)
    | _ => .st)
def sOr (a b : SE) : SE := fun δ => do
  let (r, δ1) ← opd (a δ)
  (match r with
    | .im (.bl true) => .ok (.im (.bl true), δ1)
    | .im (.bl false) => b δ1
    | _ => .st)
def sNot (a : SE) : SE := fun δ => do
  let (r, δ1) ← opd (a δ)
  (match r with
    | .im (.bl b) => .ok (.im (.bl (!b)), δ1)
    | _ => .st)
theorem satE_trans {o : Out (RV × DS)} {σ : St} {G G' : Hp} {Q : VK} (e : Same G G') (h : SatE F o σ G Q) : SatE F o σ G' Q := by
  cases o with
  | st => exact h
  | ex c fs => exact h
  | ok p => exact fun v H' G2 S g r => h v H' G2 S (e.trans g) r
theorem de_and {a b : Expr} {rest : List Expr} {pos : Pos} {sa sb : SE} (ha : DE F X a sa) (hb : DE F X (.BoolOp .And (b :: rest) pos) sb) : DE F X (.BoolOp .And (a :: b :: rest) pos) (sAnd sa sb) := by
  refine ⟨(pe_and ha.pe hb.pe).imp fun σ H Q ⟨δ, G, S, h⟩ => ⟨δ, G, S, opd_ok (R := fun _ _ _ _ _ => True) ?_⟩⟩
  unfold sAnd at h
  cases e1 : opd (sa δ) with
  | st => rw [e1] at h; exact h
  | ex c fs => rw [e1] at h; exact h
  | ok p =>
    obtain ⟨r, δ1⟩ := p
    rw [e1] at h
    intro x H1 G1 S1 g1 q1
    simp only [ok_bind] at h
    split at h
    · cases q1
      exact ⟨true, rfl, iteT ⟨δ1, G1, S1, satE_trans g1 h⟩⟩
    · cases q1
      exact ⟨false, rfl, iteF (h _ H1 G1 S1 g1 (.bl false))⟩
    · exact h.elim
theorem de_or {a b : Expr} {rest : List Expr} {pos : Pos} {sa sb : SE} (ha : DE F X a sa) (hb : DE F X (.BoolOp .Or (b :: rest) pos) sb) : DE F X (.BoolOp .Or (a :: b :: rest) pos) (sOr sa sb) := by
  refine ⟨(pe_or ha.pe hb.pe).imp fun σ H Q ⟨δ, G, S, h⟩ => ⟨δ, G, S, opd_ok (R := fun _ _ _ _ _ => True) ?_⟩⟩
  unfold sOr at h
  cases e1 : opd (sa δ) with
  | st => rw [e1] at h; exact h
  | ex c fs => rw [e1] at h; exact h
  | ok p =>
    obtain ⟨r, δ1⟩ := p
    rw [e1] at h
    intro x H1 G1 S1 g1 q1
    simp only [ok_bind] at h
    split at h
    · cases q1
      exact ⟨true, rfl, iteT (h _ H1 G1 S1 g1 (.bl true))⟩
    · cases q1
      exact ⟨false, rfl, iteF ⟨δ1, G1, S1, satE_trans g1 h⟩⟩
    · exact h.elim
theorem de_one {op} {a : Expr} {pos : Pos} {s : SE} (h : DE F X a s) : DE F X (.BoolOp op [a] pos) s := ⟨pe_one h.pe⟩
theorem de_not {a : Expr} {pos : Pos} {s : SE} (ha : DE F X a s) : DE F X (.UnaryOp .Not a pos) (sNot s) := by
  refine ⟨(pe_not ha.pe).imp fun σ H Q ⟨δ, G, S, h⟩ => ⟨δ, G, S, opd_ok (R := fun _ _ _ _ _ => True) ?_⟩⟩
  unfold sNot at h
  cases e1 : opd (s δ) with
  | st => rw [e1] at h; exact h
  | ex c fs => rw [e1] at h; exact h
  | ok p =>
    obtain ⟨r, δ1⟩ := p
    rw [e1] at h
    intro x H1 G1 S1 g1 q1
    simp only [ok_bind] at h
    split at h
    · cases q1
      exact ⟨_, rfl, h _ H1 G1 S1 g1 (.bl _)⟩
    · exact h.elim

/-! ### tests -/
/-- an expression whose value is a bool, as a test -/
def tVal (a : SE) : ST := fun δ => do
  let (r, δ1) ← opd (a δ)
  (match r with
    | .im (.bl b) => .ok (b, δ1)
    | _ => .st)
theorem tval_imp (a : SE) (σ : St) (H : Hp) (Q : Bool → Hp → Prop) : tT F (tVal a) σ H Q → tB (tE F a) σ H Q := by
  rintro ⟨δ, G, S, h⟩
  refine ⟨δ, G, S, opd_ok (R := fun _ _ _ _ _ => True) ?_⟩
  unfold tVal at h
  cases e1 : opd (a δ) with
  | st => rw [e1] at h; exact h
  | ex c fs => rw [e1] at h; exact h
  | ok p =>
    obtain ⟨r, δ1⟩ := p
    rw [e1] at h
    intro x H1 G1 S1 g1 q1
    simp only [ok_bind] at h
    split at h
    · cases q1
      exact ⟨_, rfl, h H1 G1 S1 g1⟩
    · exact h.elim
theorem dt_val {e : Expr} {a : SE} (h : DE F X e a) (he : ∀ whole, isTrue e X.env whole = (do let v ← whole; standAt e.pos; holding [v] (truthy v)) := by intro _; rfl) : DT F X e (tVal a) := ⟨(pt_val h.pe he).imp (tval_imp a)⟩
theorem dt_cmp {fo : CmpOp} {r : R2} {f : D → D → Out RV} {a b : Expr} {sa sb : SE} {pos : Pos} (hr : OpR X (compareOp fo) r) (ho : Op2 X F r f) (ha : DE F X a sa) (hb : DE F X b sb) (hm : behindInMarks fo b = false) : DT F X (.Compare a [fo] [b] pos) (tVal (sBin f sa sb)) :=
  ⟨(pt_cmpR hr ha.pe hb.pe hm).imp fun σ H Q h => by
    have z := tval_imp (F := F) (sBin f sa sb) σ H Q h
    exact bin_imp ho sa sb σ H _ z⟩
def tNt (s : ST) : ST := fun δ => do
  let (b, δ1) ← s δ
  .ok (!b, δ1)
def tAn (s u : ST) : ST := fun δ => do
  let (b, δ1) ← s δ
  if b = true then u δ1 else .ok (false, δ1)
def tOo (s u : ST) : ST := fun δ => do
  let (b, δ1) ← s δ
  if b = true then .ok (true, δ1) else u δ1
theorem satT_trans {o : Out (Bool × DS)} {σ : St} {G G' : Hp} {Q : Bool → Hp → Prop} (e : Same G G') (h : SatT F o σ G Q) : SatT F o σ G' Q := by
  cases o with
  | st => exact h
  | ex c fs => exact h
  | ok p => exact fun H' G2 S g => h H' G2 S (e.trans g)
theorem dt_not {a : Expr} {pos : Pos} {s : ST} (ha : DT F X a s) : DT F X (.UnaryOp .Not a pos) (tNt s) := by
  refine ⟨(pt_not ha.pt).imp fun σ H Q ⟨δ, G, S, h⟩ => ⟨δ, G, S, ?_⟩⟩
  unfold tNt at h
  cases e1 : s δ with
  | st => rw [e1] at h; exact h
  | ex c fs => rw [e1] at h; exact h
  | ok p => rw [e1] at h; exact h
theorem tan_imp {s u : ST} (σ : St) (H : Hp) (Q : Bool → Hp → Prop) : tT F (tAn s u) σ H Q → tAnd (tT F s) (tT F u) σ H Q := by
  rintro ⟨δ, G, S, h⟩
  refine ⟨δ, G, S, ?_⟩
  unfold tAn at h
  cases e1 : s δ with
  | st => rw [e1] at h; exact h
  | ex c fs => rw [e1] at h; exact h
  | ok p =>
    obtain ⟨b, δ1⟩ := p
    rw [e1] at h
    intro H1 G1 S1 g1
    simp only [ok_bind] at h
    cases b with
    | true => rw [if_pos rfl] at h; exact iteT ⟨δ1, G1, S1, satT_trans g1 h⟩
    | false => rw [if_neg Bool.false_ne_true] at h; exact iteF (h H1 G1 S1 g1)
theorem too_imp {s u : ST} (σ : St) (H : Hp) (Q : Bool → Hp → Prop) : tT F (tOo s u) σ H Q → tOr (tT F s) (tT F u) σ H Q := by
  rintro ⟨δ, G, S, h⟩
  refine ⟨δ, G, S, ?_⟩
  unfold tOo at h
  cases e1 : s δ with
  | st => rw [e1] at h; exact h
  | ex c fs => rw [e1] at h; exact h
  | ok p =>
    obtain ⟨b, δ1⟩ := p
    rw [e1] at h
    intro H1 G1 S1 g1
    simp only [ok_bind] at h
    cases b with
    | true => rw [if_pos rfl] at h; exact iteT (h H1 G1 S1 g1)
    | false => rw [if_neg Bool.false_ne_true] at h; exact iteF ⟨δ1, G1, S1, satT_trans g1 h⟩
theorem dw_and1 {a : Expr} {pos : Pos} {s : ST} (h : DT F X a s) : DW F X (.BoolOp .And [a] pos) s := ⟨pw_and1 h.pt⟩
theorem dw_or1 {a : Expr} {pos : Pos} {s : ST} (h : DT F X a s) : DW F X (.BoolOp .Or [a] pos) s := ⟨pw_or1 h.pt⟩
theorem dw_and {a b : Expr} {rest : List Expr} {pos : Pos} {s u : ST} (ha : DT F X a s) (hb : DW F X (.BoolOp .And (b :: rest) pos) u) : DW F X (.BoolOp .And (a :: b :: rest) pos) (tAn s u) := ⟨(pw_and ha.pt hb.pw).imp tan_imp⟩
theorem dw_or {a b : Expr} {rest : List Expr} {pos : Pos} {s u : ST} (ha : DT F X a s) (hb : DW F X (.BoolOp .Or (b :: rest) pos) u) : DW F X (.BoolOp .Or (a :: b :: rest) pos) (tOo s u) := ⟨(pw_or ha.pt hb.pw).imp too_imp⟩
theorem dt_w {e : Expr} {s : ST} (h : DW F X e s) : DT F X e s := ⟨h.pw.pt⟩
def sIf (t : ST) (a b : SE) : SE := fun δ => do
  let (c, δ1) ← t δ
  if c = true then a δ1 else b δ1
theorem de_if {c a b : Expr} {t : ST} {sa sb : SE} {pos : Pos} (hc : DT F X c t) (ha : DE F X a sa) (hb : DE F X b sb) : DE F X (.IfExp c a b pos) (sIf t sa sb) := by
  refine ⟨(pe_ifExp hc.pt ha.pe hb.pe).imp fun σ H Q ⟨δ, G, S, h⟩ => ⟨δ, G, S, ?_⟩⟩
  unfold sIf at h
  cases e1 : t δ with
  | st => rw [e1] at h; exact h
  | ex c fs => rw [e1] at h; exact h
  | ok p =>
    obtain ⟨d, δ1⟩ := p
    rw [e1] at h
    intro H1 G1 S1 g1
    simp only [ok_bind] at h
    cases d with
    | true => rw [if_pos rfl] at h; exact iteT ⟨δ1, G1, S1, satE_trans g1 h⟩
    | false => rw [if_neg Bool.false_ne_true] at h; exact iteF ⟨δ1, G1, S1, satE_trans g1 h⟩
end
end L2.DI

/-! DI4: statements over data: blocks, if, return, stores, for, while; list comprehensions. -/
namespace L2.DI
open PySem PySem.Spec PyProof.Rows

/-- the first slot still holds what was handed in there -/
def P0 (p : Option Addr) (σ : St) : Prop := ∀ a, p = some a → σ[0]? = some (some (.ref a))
def SatS (p : Option Addr) (F : Fx) (o : Out (Fl × DS)) (G : Hp) (D : Ends) : Prop := match o with
  | .ok (.nx, δ') => ∀ σ' H' G', SOk F δ' σ' H' G' → Same G G' → P0 p σ' → D.nx σ' H'
  | .ok (.bk, δ') => ∀ σ' H' G', SOk F δ' σ' H' G' → Same G G' → P0 p σ' → D.bk σ' H'
  | .ok (.ct, δ') => ∀ σ' H' G', SOk F δ' σ' H' G' → Same G G' → P0 p σ' → D.ct σ' H'
  | .ok (.rt r, δ') => ∀ v σ' H' G', SOk F δ' σ' H' G' → Same G G' → P0 p σ' → RVOk F δ' σ' H' G' r v → D.rt v H'
  | .ex c fs => XAll F c fs
  | .st => False
theorem satS_trans {p : Option Addr} {F : Fx} {o : Out (Fl × DS)} {G G' : Hp} {D : Ends} (e : Same G G') (h : SatS p F o G D) : SatS p F o G' D := by
  cases o with
  | st => exact h
  | ex c fs => exact h
  | ok q =>
    obtain ⟨f, δ'⟩ := q
    cases f with
    | nx => exact fun σ' H' G2 S g => h σ' H' G2 S (e.trans g)
    | bk => exact fun σ' H' G2 S g => h σ' H' G2 S (e.trans g)
    | ct => exact fun σ' H' G2 S g => h σ' H' G2 S (e.trans g)
    | rt r => exact fun v σ' H' G2 S g => h v σ' H' G2 S (e.trans g)
def tS (p : Option Addr) (F : Fx) (s : SS) : TS := fun D σ H => ∃ δ G, SOk F δ σ H G ∧ P0 p σ ∧ SatS p F (s δ) G D
theorem P0.set {p : Option Addr} {σ : St} {i : Nat} {v : Option V} (h : P0 p σ) (hi : i = 0 → p = none) : P0 p (σ.set i v) := fun a e => by
  by_cases z : i = 0
  · rw [hi z] at e; cases e
  · rw [List.getElem?_set_ne z]; exact h a e
theorem _root_.L2.PS.imp {X : Cx} {e : Stmt} {t t' : TS} (h : PS X e t) (i : ∀ D σ H, t' D σ H → t D σ H) : PS X e t' := ⟨fun pins s σ H D I w => h.run pins s σ H D I (i D σ H w)⟩
theorem _root_.L2.PSs.imp {X : Cx} {e : List Stmt} {t t' : TS} (h : PSs X e t) (i : ∀ D σ H, t' D σ H → t D σ H) : PSs X e t' := ⟨fun pins s σ H D I w => h.run pins s σ H D I (i D σ H w)⟩
theorem _root_.L2.PG.imp {X : Cx} {e : Expr} {t t' : TG} (h : PG X e t) (i : ∀ v σ H Q, t' v σ H Q → t v σ H Q) : PG X e t' := ⟨fun pins s σ H v u Q I r w => h.run pins s σ H v u Q I r (i v σ H Q w)⟩
theorem _root_.L2.PGs.imp {X : Cx} {e : List Expr} {t t' : TGs} (h : PGs X e t) (i : ∀ v σ H Q, t' v σ H Q → t v σ H Q) : PGs X e t' := ⟨fun pins s σ H v u Q I r w => h.run pins s σ H v u Q I r (i v σ H Q w)⟩
theorem _root_.L2.PI.imp {X : Cx} {g e : Expr} {t t' : TI} (h : PI X g e t) (i : ∀ σ H R, t' σ H R → t σ H R) : PI X g e t' := ⟨fun pins s σ H R I w => h.run pins s σ H R I (i σ H R w)⟩
structure DSt (p : Option Addr) (F : Fx) (X : Cx) (e : Stmt) (s : SS) : Prop where
  ps : PS X e (tS p F s)
structure DSs (p : Option Addr) (F : Fx) (X : Cx) (e : List Stmt) (s : SS) : Prop where
  pss : PSs X e (tS p F s)

/-! ### blocks -/
def sNx : SS := fun δ => .ok (.nx, δ)
def sSeq (a b : SS) : SS := fun δ => do
  let (f, δ1) ← a δ
  (match f with
    | .nx => b δ1
    | f => .ok (f, δ1))
def sIfs (t : ST) (a b : SS) : SS := fun δ => do
  let (c, δ1) ← t δ
  if c = true then a δ1 else b δ1
def sRet (a : SE) : SS := fun δ => do
  let (r, δ1) ← a δ
  .ok (.rt r, δ1)
def sRetN : SS := fun δ => .ok (.rt (.im .non), δ)
def sDrop (a : SE) : SS := fun δ => do
  let (_, δ1) ← a δ
  .ok (.nx, δ1)
/-- a value comes to stand in slot i -/
def put (i : Nat) (r : RV) (δ : DS) : Out DS := match r with
  | .im d => .ok (δ.set i (.im d))
  | .fr c => .ok (δ.set i (.ow c))
  | .bo j => (match δ[j]? with
    | some (.ow c) => .ok ((δ.set j .no).set i (.ow c))
    | _ => .st)
def sSet (i : Nat) (a : SE) : SS := fun δ => do
  let (r, δ1) ← a δ
  let δ2 ← put i r δ1
  .ok (.nx, δ2)
section
variable {F : Fx} {X : Cx} {pos : Pos} {pz : Option Addr}
theorem dss_nil : DSs pz F X [] sNx := ⟨pss_nil.imp fun D σ H ⟨δ, G, S, z0, h⟩ => h σ H G S (Same.refl _) z0⟩
theorem dss_cons {st : Stmt} {rest : List Stmt} {a b : SS} (h1 : DSt pz F X st a) (h2 : DSs pz F X rest b) : DSs pz F X (st :: rest) (sSeq a b) := by
  refine ⟨(pss_cons h1.ps h2.pss).imp fun D σ H ⟨δ, G, S, z0, h⟩ => ⟨δ, G, S, z0, ?_⟩⟩
  unfold sSeq at h
  cases e1 : a δ with
  | st => rw [e1] at h; exact h
  | ex c fs => rw [e1] at h; exact h
  | ok p =>
    obtain ⟨f, δ1⟩ := p
    rw [e1] at h
    simp only [ok_bind] at h
    cases f with
    | nx => exact fun σ' H' G' S' g z1 => ⟨δ1, G', S', z1, satS_trans g h⟩
    | rt r => exact h
    | bk => exact h
    | ct => exact h
theorem dss_one {st : Stmt} {a : SS} (h1 : DSt pz F X st a) : DSs pz F X [st] a := ⟨pss_one h1.ps⟩
theorem ds_if {c : Expr} {a b : List Stmt} {t : ST} {sa sb : SS} (hc : DT F X c t) (ha : DSs pz F X a sa) (hb : DSs pz F X b sb) : DSt pz F X (.If c a b pos) (sIfs t sa sb) := by
  refine ⟨(ps_if hc.pt ha.pss hb.pss).imp fun D σ H ⟨δ, G, S, z0, h⟩ => ⟨δ, G, S, ?_⟩⟩
  unfold sIfs at h
  cases e1 : t δ with
  | st => rw [e1] at h; exact h
  | ex c fs => rw [e1] at h; exact h
  | ok p =>
    obtain ⟨d, δ1⟩ := p
    rw [e1] at h
    intro H1 G1 S1 g1
    simp only [ok_bind] at h
    cases d with
    | true => rw [if_pos rfl] at h; exact iteT ⟨δ1, G1, S1, z0, satS_trans g1 h⟩
    | false => rw [if_neg Bool.false_ne_true] at h; exact iteF ⟨δ1, G1, S1, z0, satS_trans g1 h⟩
theorem ds_ret {e : Expr} {a : SE} (h : DE F X e a) : DSt pz F X (.Return (some e) pos) (sRet a) := by
  refine ⟨(ps_ret h.pe).imp fun D σ H ⟨δ, G, S, z0, h⟩ => ⟨δ, G, S, ?_⟩⟩
  unfold sRet at h
  cases e1 : a δ with
  | st => rw [e1] at h; exact h
  | ex c fs => rw [e1] at h; exact h
  | ok p =>
    rw [e1] at h
    exact fun v H' G' S' g r => h v σ H' G' S' g z0 r
theorem ds_retN : DSt pz F X (.Return none pos) sRetN := ⟨ps_retN.imp fun D σ H ⟨δ, G, S, z0, h⟩ => h _ σ H G S (Same.refl _) z0 .non⟩
theorem ds_pass : DSt pz F X (.Pass pos) sNx := ⟨ps_pass.imp fun D σ H ⟨δ, G, S, z0, h⟩ => h σ H G S (Same.refl _) z0⟩
theorem ds_break : DSt pz F X (.Break pos) (fun δ => .ok (.bk, δ)) := ⟨ps_break.imp fun D σ H ⟨δ, G, S, z0, h⟩ => h σ H G S (Same.refl _) z0⟩
theorem ds_continue : DSt pz F X (.Continue pos) (fun δ => .ok (.ct, δ)) := ⟨ps_continue.imp fun D σ H ⟨δ, G, S, z0, h⟩ => h σ H G S (Same.refl _) z0⟩
theorem ds_doc {x j p pos'} : DSt pz F X (.Expr (.Constant (.str x) j p) pos') sNx := ⟨ps_doc.imp fun D σ H ⟨δ, G, S, z0, h⟩ => h σ H G S (Same.refl _) z0⟩
theorem ds_expr {e : Expr} {a : SE} (h : DE F X e a) (hs : swapsWith e none pos.line X.env = pure false := by rfl) : DSt pz F X (.Expr e pos) (sDrop a) := by
  refine ⟨(ps_expr h.pe hs).imp fun D σ H ⟨δ, G, S, z0, h⟩ => ⟨δ, G, S, ?_⟩⟩
  unfold sDrop at h
  cases e1 : a δ with
  | st => rw [e1] at h; exact h
  | ex c fs => rw [e1] at h; exact h
  | ok p =>
    rw [e1] at h
    exact fun v H' G' S' g r => h σ H' G' S' g z0
theorem put_ok {i : Nat} {r : RV} {δ δ' : DS} {σ : St} {H G : Hp} {v : V} (S : SOk F δ σ H G) (q : RVOk F δ σ H G r v) (h : put i r δ = .ok δ') : SOk F δ' (σ.set i (some v)) H G := by
  cases r with
  | im d => cases h; exact S.setIm i q
  | fr c => cases h; exact S.setFr i q
  | bo j =>
    obtain ⟨⟨c, hc⟩, hv⟩ := q
    dsimp only [put] at h
    rw [hc] at h
    cases h
    exact (S.forget j).setFr i (S.moved hc hv)
theorem put_case {i : Nat} {r : RV} {δ : DS} : (∃ δ', put i r δ = .ok δ') ∨ put i r δ = .st := by
  cases r with
  | im d => exact .inl ⟨_, rfl⟩
  | fr c => exact .inl ⟨_, rfl⟩
  | bo j =>
    dsimp only [put]
    split
    · exact .inl ⟨_, rfl⟩
    · exact .inr rfl
theorem set_imp {i : Nat} (hi0 : i = 0 → pz = none) (a : SE) (D : Ends) (σ : St) (H : Hp) : tS pz F (sSet i a) D σ H → tAsg (tE F a) (gName i) D σ H := by
  rintro ⟨δ, G, S, z0, h⟩
  refine ⟨δ, G, S, ?_⟩
  unfold sSet at h
  cases e1 : a δ with
  | st => rw [e1] at h; exact h
  | ex c fs => rw [e1] at h; exact h
  | ok p =>
    obtain ⟨r, δ1⟩ := p
    rw [e1] at h
    intro v H' G' S' g q
    simp only [ok_bind] at h
    rcases put_case (i := i) (r := r) (δ := δ1) with ⟨δ2, e2⟩ | e2
    · rw [e2] at h
      exact h _ H' G' (put_ok S' q e2) g (z0.set hi0)
    · rw [e2] at h; exact h.elim
theorem ds_set {i : Nat} {x : Str} {e : Expr} {a : SE} {pos' : Pos} (hN : X.N.Nodup) (h : DE F X e a) (hi : X.N[i]? = some x := by rfl) (hx : Loc X.env.scope x := by first | exact Or.inl rfl | exact Or.inr rfl) (hs : swapsWith e (some (.Name x pos')) pos.line X.env = pure false := by rfl)
    (hf : X.fn x = true ∨ X.env.scope.names.lookup x = some .local := by first | exact .inl rfl | exact .inr rfl) (hi0 : i = 0 → pz = none := by first | exact fun _ => rfl | exact fun z => absurd z (by decide)) : DSt pz F X (.Assign [.Name x pos'] e pos) (sSet i a) := ⟨(ps_set hN hi hx h.pe hs hf).imp (set_imp hi0 a)⟩

/-! ### targets -/
abbrev SG := D → DS → Out DS
abbrev SGs := List D → DS → Out DS
/-- only the slots at ts differ -/
def Only (ts : List Nat) (σ σ' : St) : Prop := σ'.length = σ.length ∧ ∀ i, i ∉ ts → σ'[i]? = σ[i]?
theorem Only.refl (ts : List Nat) (σ : St) : Only ts σ σ := ⟨rfl, fun _ _ => rfl⟩
theorem Only.trans {ts us : List Nat} {σ σ1 σ2 : St} (a : Only ts σ σ1) (b : Only us σ1 σ2) : Only (ts ++ us) σ σ2 := ⟨b.1.trans a.1, fun i h => by
  rw [List.mem_append, not_or] at h
  rw [b.2 i h.2, a.2 i h.1]⟩
def SatG (F : Fx) (o : Out DS) (ts : List Nat) (σ : St) (G : Hp) (Q : St → Hp → Prop) : Prop := match o with
  | .ok δ' => ∀ σ' H' G', SOk F δ' σ' H' G' → Same G G' → Only ts σ σ' → Q σ' H'
  | .ex c fs => XAll F c fs
  | .st => False
def tG (F : Fx) (g : SG) (ts : List Nat) : TG := fun v σ H Q => ∃ δ G d, SOk F δ σ H G ∧ Rep F.W G d v ∧ SatG F (g d δ) ts σ G Q
def tGs (F : Fx) (g : SGs) (ts : List Nat) : TGs := fun vs σ H Q => ∃ δ G ds, SOk F δ σ H G ∧ Reps F.W G ds vs ∧ SatG F (g ds δ) ts σ G Q
structure DG (F : Fx) (X : Cx) (e : Expr) (g : SG) (ts : List Nat) : Prop where
  pg : PG X e (tG F g ts)
structure DGs (F : Fx) (X : Cx) (es : List Expr) (g : SGs) (ts : List Nat) : Prop where
  pgs : PGs X es (tGs F g ts)
def gNm (i : Nat) : SG := fun d δ => .ok (δ.set i (.im d))
def gsNil : SGs := fun ds δ => match ds with
  | [] => .ok δ
  | _ => .st
def gsCons (g : SG) (gs : SGs) : SGs := fun ds δ => match ds with
  | d :: r => (do
    let δ1 ← g d δ
    gs r δ1)
  | [] => .st
def gTp (n : Nat) (gs : SGs) : SG := fun d δ => match d with
  | .tup ds => if ds.length = n then gs ds δ else .st
  | _ => .st
theorem dg_name {i : Nat} {x : Str} (hN : X.N.Nodup) (hi : X.N[i]? = some x := by rfl) (hx : Loc X.env.scope x := by first | exact Or.inl rfl | exact Or.inr rfl) (hf : X.fn x = true ∨ X.env.scope.names.lookup x = some .local := by first | exact .inl rfl | exact .inr rfl) :
    DG F X (.Name x pos) (gNm i) [i] := ⟨(pg_name hN hi hx hf).imp fun v σ H Q ⟨δ, G, d, S, r, h⟩ => h _ H G (S.setIm i r) (Same.refl _) ⟨List.length_set .., fun j hj => by
      rw [List.getElem?_set_ne fun e => hj (by rw [e]; exact List.mem_singleton.mpr rfl)]⟩⟩
theorem dgs_nil : DGs F X [] gsNil [] := ⟨pgs_nil.imp fun vs σ H Q ⟨δ, G, ds, S, r, h⟩ => by
  unfold gsNil at h
  split at h
  · cases r; exact ⟨rfl, h σ H G S (Same.refl _) (Only.refl _ _)⟩
  · exact h.elim⟩
theorem dgs_cons {e : Expr} {es : List Expr} {g : SG} {gs : SGs} {ts us : List Nat} (h1 : DG F X e g ts) (h2 : DGs F X es gs us) (hs : (assignEach (e :: es) X.env).map (·.2) = assign e X.env :: (assignEach es X.env).map (·.2) := by rfl) : DGs F X (e :: es) (gsCons g gs) (ts ++ us) := by
  refine ⟨(pgs_cons h1.pg h2.pgs hs).imp fun vs σ H Q ⟨δ, G, ds, S, r, h⟩ => ?_⟩
  unfold gsCons at h
  split at h
  · rename_i d rr
    cases r with
    | cons q t =>
      refine ⟨_, _, rfl, δ, G, _, S, q, ?_⟩
      cases e1 : g d δ with
      | st => rw [e1] at h; exact h
      | ex c fs => rw [e1] at h; exact h
      | ok δ1 =>
        rw [e1] at h
        simp only [ok_bind] at h
        intro σ1 H1 G1 S1 g1 o1
        refine ⟨δ1, G1, _, S1, t.mono g1, ?_⟩
        cases e2 : gs rr δ1 with
        | st => rw [e2] at h; exact h
        | ex c fs => rw [e2] at h; exact h
        | ok δ2 =>
          rw [e2] at h
          exact fun σ2 H2 G2 S2 g2 o2 => h σ2 H2 G2 S2 (g1.trans g2) (o1.trans o2)
  · exact h.elim
theorem dg_tup {es : List Expr} {k : Nat} {gs : SGs} {n : Nat} {ts : List Nat} (hK : F.W.K = X.K) (hc : X.calm = true) (h : DGs F X es gs ts) (hn : (assignEach es X.env).length = n := by rfl) (hst : (assignEach es X.env).findIdx? (·.1) = none := by rfl) :
    DG F X (.Tuple es k pos) (gTp n gs) ts := by
  refine ⟨(pg_tup hc h.pgs hn hst).imp fun v σ H Q ⟨δ, G, d, S, r, h⟩ => ?_⟩
  unfold gTp at h
  split at h
  · split at h
    · rename_i ds hl
      cases r with
      | @tup a xs _ q t =>
        exact ⟨_, xs, rfl, by rw [← hK]; exact .inl (.inl (S.gh _ _ q)), by rw [← t.length]; exact hl, δ, G, ds, S, t, h⟩
    · exact h.elim
  · exact h.elim
theorem P0.only {ts : List Nat} {σ σ' : St} (h : P0 pz σ) (o : Only ts σ σ') (hi : 0 ∈ ts → pz = none) : P0 pz σ' := fun a e => by
  by_cases z : 0 ∈ ts
  · rw [hi z] at e; cases e
  · rw [o.2 0 z]; exact h a e
/-- target = value, a value that never changes from now on -/
def sAsg (a : SE) (g : SG) : SS := fun δ => do
  let (d, δ1) ← frz (a δ)
  let δ2 ← g d δ1
  .ok (.nx, δ2)
theorem ds_asg {tg e : Expr} {a : SE} {g : SG} {ts : List Nat} (h : DE F X e a) (hg : DG F X tg g ts) (hs : swapsWithSole [tg] e pos.line X.env = pure false := by rfl) (hw : swappedStores [tg] e X.env = pure none := by rfl)
    (h1 : (assignEach [tg] X.env).map (·.2) = [assign tg X.env] := by rfl) (hi0 : 0 ∈ ts → pz = none := by first | exact fun _ => rfl | exact fun z => absurd z (by decide)) : DSt pz F X (.Assign [tg] e pos) (sAsg a g) := by
  refine ⟨(ps_asg h.pe hg.pg hs hw h1).imp fun D σ H ⟨δ, G, S, z0, h⟩ => ⟨δ, G, S, frz_ok ?_⟩⟩
  unfold sAsg at h
  cases e1 : frz (a δ) with
  | st => rw [e1] at h; exact h
  | ex c fs => rw [e1] at h; exact h
  | ok p =>
    obtain ⟨d, δ1⟩ := p
    rw [e1] at h
    simp only [ok_bind] at h
    intro v H1 G1 S1 g1 r1
    refine ⟨δ1, G1, d, S1, r1, ?_⟩
    cases e2 : g d δ1 with
    | st => rw [e2] at h; exact h
    | ex c fs => rw [e2] at h; exact h
    | ok δ2 =>
      rw [e2] at h
      exact fun σ' H' G' S' g o => h σ' H' G' S' (g1.trans g) (z0.only o hi0)
end

/-! ### what is walked -/
abbrev SI := DS → Out (List D × DS)
structure ItOk (W : CT) (Gs : Hp) (J : It) (ds : List D) : Prop where
  stop : ∀ i G H, Same Gs G → Same G H → ds.length ≤ i → J.stop i H
  go : ∀ i d G H, Same Gs G → Same G H → ds[i]? = some d → J.go i H
  yld : ∀ i d G H x H', Same Gs G → Same G H → ds[i]? = some d → J.yld i H x H' → (H' = H ∧ Rep W G d x) ∨ ∃ p o, H p = none ∧ H' = upd H p o ∧ Rep W (upd G p o) d x
def SatI (F : Fx) (o : Out (List D × DS)) (σ : St) (G : Hp) (R : It → Hp → Prop) : Prop := match o with
  | .ok (ds, δ') => ∀ J H' G', SOk F δ' σ H' G' → Same G G' → ItOk F.W G' J ds → R J H'
  | .ex c fs => XAll F c fs
  | .st => False
def tI (F : Fx) (s : SI) : TI := fun σ H R => ∃ δ G, SOk F δ σ H G ∧ SatI F (s δ) σ G R
structure DI_ (F : Fx) (X : Cx) (tg e : Expr) (s : SI) : Prop where
  pi : PI X tg e (tI F s)
theorem list_it {W : CT} {Gs : Hp} {a : Addr} {xs : List V} {ds : List D} (h : SqL W.K Gs a xs) (r : Reps W Gs ds xs) : ItOk W Gs (Itl W.K a) ds where
  stop := fun i G H e1 e2 hl => ⟨xs, e2.seq (e1.seq h), by rw [← r.length]; exact hl⟩
  go := fun i d G H e1 e2 hd => by
    obtain ⟨v, hv, _⟩ := (r.get i).1 d hd
    exact ⟨xs, v, e2.seq (e1.seq h), hv⟩
  yld := fun i d G H x H' e1 e2 hd y => by
    obtain ⟨v, hv, q⟩ := (r.get i).1 d hd
    obtain ⟨rfl, y⟩ := y
    have := y xs (e2.seq (e1.seq h))
    rw [hv] at this; cases this
    exact .inl ⟨rfl, q.mono e1⟩
theorem tup_it {W : CT} {Gs : Hp} {a : Addr} {xs : List V} {ds : List D} (h : SqT W.K Gs a xs) (r : Reps W Gs ds xs) : ItOk W Gs (Itt W.K a) ds where
  stop := fun i G H e1 e2 hl => ⟨xs, sameT e2 (sameT e1 h), by rw [← r.length]; exact hl⟩
  go := fun i d G H e1 e2 hd => by
    obtain ⟨v, hv, _⟩ := (r.get i).1 d hd
    exact ⟨xs, v, sameT e2 (sameT e1 h), hv⟩
  yld := fun i d G H x H' e1 e2 hd y => by
    obtain ⟨v, hv, q⟩ := (r.get i).1 d hd
    obtain ⟨rfl, y⟩ := y
    have := y xs (sameT e2 (sameT e1 h))
    rw [hv] at this; cases this
    exact .inl ⟨rfl, q.mono e1⟩
theorem rng_it {W : CT} {Gs : Hp} (lo : Int) (n : Nat) : ItOk W Gs (Itr lo n) ((List.range n).map fun k : Nat => D.int (lo + k)) where
  stop := fun i G H e1 e2 hl => by
    show n ≤ i
    simpa using hl
  go := fun i d G H e1 e2 hd => by
    have := (List.getElem?_eq_some_iff.mp hd).1
    show i < n
    simpa using this
  yld := fun i d G H x H' e1 e2 hd y => by
    obtain ⟨rfl, rfl⟩ := y
    rw [List.getElem?_map] at hd
    have hi : i < n := by
      by_cases h : i < n
      · exact h
      · rw [List.getElem?_eq_none (by simpa using h)] at hd; cases hd
    rw [List.getElem?_range hi] at hd
    cases hd
    exact .inl ⟨rfl, .int _⟩
theorem str_it {W : CT} {Gs : Hp} (l : List Nat) (ha : asc l = true) : ItOk W Gs (Its (mk l)) (l.map fun c => D.str [c]) where
  stop := fun i G H e1 e2 hl => by
    show (mk l).cps.size ≤ i
    simpa [mk] using hl
  go := fun i d G H e1 e2 hd => by
    have := (List.getElem?_eq_some_iff.mp hd).1
    show i < (mk l).cps.size
    simpa [mk] using this
  yld := fun i d G H x H' e1 e2 hd y => by
    obtain ⟨rfl, c, hc, rfl⟩ := y
    have hc' : l[i]? = some c := by simpa [mk] using hc
    rw [List.getElem?_map, hc'] at hd
    cases hd
    exact .inl ⟨rfl, .str [c] (by
      have := List.all_eq_true.mp ha c (List.mem_of_getElem? hc')
      show ([c].all fun x => decide (x < 128)) = true
      rw [List.all_cons, List.all_nil, Bool.and_true]; exact this)⟩
/-- a list, a tuple, a text, whichever comes -/
def iAny (K : PySem.W.Frag) (tl : TE) : TI := fun σ H R => tl σ H fun x H1 => (∃ a xs, x = .ref a ∧ SqL K H1 a xs ∧ R (Itl K a) H1) ∨ (∃ a xs, x = .ref a ∧ SqT K H1 a xs ∧ R (Itt K a) H1) ∨ ∃ z, x = .str z ∧ R (Its z) H1
theorem pi_any {X : Cx} {tg l : Expr} {tl : TE} (hl : PE X l tl) : PI X tg l (iAny X.K tl) := by
  refine ⟨fun pins s σ H R I h => thn (hl.run pins s σ H _ I h) fun v s1 q => ?_⟩
  obtain ⟨x, H1, I1, r1, ⟨a, xs, rfl, hq, q⟩ | ⟨a, xs, rfl, hq, q⟩ | ⟨z, rfl, q⟩⟩ := q
  · obtain rfl : v = Value.ref a := r1
    obtain ⟨its, rv, p, hz⟩ := I1.list hq
    exact wpAny_pyIter_list p.isList (pi_one (tk := s1.toks) I1 _ (turn_list a _) ⟨_, Heap.get?_push_size _ rfl, rfl, rfl⟩ q)
  · obtain rfl : v = Value.ref a := r1
    obtain ⟨its, rv, p, hz⟩ := I1.tuple hq
    exact wpAny_pyIter_tuple (show s1.heap.IsTuple a its.toArray from p) (pi_one (tk := s1.toks) I1 _ (turn_tuple a _) ⟨_, Heap.get?_push_size _ rfl, rfl, rfl⟩ q)
  · obtain ⟨t, rfl⟩ := r1
    by_cases ha : z.cps.all (· < 128) = true
    · exact wpAny_pyIter_ascii ha (pi_one (tk := s1.toks) I1 _ (turn_str _ z t "str_ascii_iterator" (.inl rfl)) ⟨_, Heap.get?_push_size _ rfl, rfl, rfl⟩ q)
    · exact wpAny_pyIter_wide (by simpa using ha) (pi_one (tk := s1.toks) I1 _ (turn_str _ z t "str_iterator" (.inr rfl)) ⟨_, Heap.get?_push_size _ rfl, rfl, rfl⟩ q)
/-- what a value yields -/
def items : D → Out (List D)
  | .lst ds => .ok ds
  | .tup ds => .ok ds
  | .ktp ds => .ok ds
  | .kls ds => .ok ds
  | .str l => .ok (l.map fun c => D.str [c])
  | _ => .st
def sIter (a : SE) : SI := fun δ => do
  let (d, δ1) ← frz (a δ)
  let ds ← items d
  .ok (ds, δ1)
section
variable {F : Fx} {X : Cx} {pos : Pos} {pz : Option Addr}
theorem di_iter {tg e : Expr} {a : SE} (hK : F.W.K = X.K) (h : DE F X e a) : DI_ F X tg e (sIter a) := by
  refine ⟨(pi_any h.pe).imp fun σ H R ⟨δ, G, S, h⟩ => ⟨δ, G, S, frz_ok ?_⟩⟩
  unfold sIter at h
  cases e1 : frz (a δ) with
  | st => rw [e1] at h; exact h
  | ex c fs => rw [e1] at h; exact h
  | ok p =>
    obtain ⟨d, δ1⟩ := p
    rw [e1] at h
    simp only [ok_bind] at h
    intro v H1 G1 S1 g1 r1
    rw [← hK]
    cases r1 with
    | lst q t => exact .inl ⟨_, _, rfl, .inl (.inl (S1.gh _ _ q)), h _ H1 G1 S1 g1 (list_it (.inl (.inl q)) t)⟩
    | tup q t => exact .inr (.inl ⟨_, _, rfl, .inl (.inl (S1.gh _ _ q)), h _ H1 G1 S1 g1 (tup_it (.inl (.inl q)) t)⟩)
    | kls q t => exact .inl ⟨_, _, rfl, S1.gh.seq q, h _ H1 G1 S1 g1 (list_it q t)⟩
    | ktp q t => exact .inr (.inl ⟨_, _, rfl, q _, h _ H1 G1 S1 g1 (tup_it (q _) t)⟩)
    | str l ha => exact .inr (.inr ⟨_, rfl, h _ H1 G1 S1 g1 (str_it l ha)⟩)
    | non => exact h.elim
    | bl b => exact h.elim
    | int i => exact h.elim
    | dK _ _ _ => exact h.elim
    | dT _ _ _ => exact h.elim
    | obj _ _ _ _ => exact h.elim
    | adr _ => exact h.elim
    | fnc _ => exact h.elim
noncomputable def small (i : Int) : Bool := @decide (-(2 ^ 62) ≤ i ∧ i < 2 ^ 62) (Classical.propDecidable _)
noncomputable def sRange1 (s : SA) : SI := fun δ => do
  let (rs, δ1) ← s δ
  (match rs with
    | [.im (.int j)] => if small j = true then .ok ((List.range j.toNat).map fun k : Nat => D.int (0 + k), δ1) else .st
    | _ => .st)
noncomputable def sRange2 (s : SA) : SI := fun δ => do
  let (rs, δ1) ← s δ
  (match rs with
    | [.im (.int i), .im (.int j)] => if small i = true ∧ small j = true then .ok ((List.range (j - i).toNat).map fun k : Nat => D.int (i + k), δ1) else .st
    | _ => .st)
theorem small_of {i : Int} (h : small i = true) : -(2 ^ 62) ≤ i ∧ i < 2 ^ 62 := @of_decide_eq_true _ (Classical.propDecidable _) h
theorem small_mk {i : Int} (h : -(2 ^ 62) ≤ i) (h2 : i < 2 ^ 62) : small i = true := @decide_eq_true _ (Classical.propDecidable _) ⟨h, h2⟩
theorem di_range1 {tg a : Expr} {s : SA} {p : Pos} (hg : Gl X "range") (hm : X.mg "range" = none) (h : DA F X [a] s) (hs : starEach [a] X.env = [(false, eval a X.env)] := by rfl) : DI_ F X tg (.Call (.Name "range" p) [a] [] pos) (sRange1 s) := by
  refine ⟨(pi_range1 hg hm h.pa hs).imp fun σ H R ⟨δ, G, S, h⟩ => ⟨δ, G, S, ?_⟩⟩
  unfold sRange1 at h
  cases e1 : s δ with
  | st => rw [e1] at h; exact h
  | ex c fs => rw [e1] at h; exact h
  | ok p =>
    obtain ⟨rs, δ1⟩ := p
    rw [e1] at h
    simp only [ok_bind] at h
    intro vs H1 G1 S1 g1 q1
    split at h
    · split at h
      · rename_i hj
        cases q1 with
        | cons q t =>
          cases q; cases t
          obtain ⟨h1, h2⟩ := small_of hj
          exact ⟨_, rfl, h1, h2, h _ H1 G1 S1 g1 (rng_it 0 _)⟩
      · exact h.elim
    · exact h.elim
theorem di_range2 {tg a b : Expr} {s : SA} {p : Pos} (hg : Gl X "range") (hm : X.mg "range" = none) (h : DA F X [a, b] s) (hs : starEach [a, b] X.env = [(false, eval a X.env), (false, eval b X.env)] := by rfl) (hs2 : starEach [b] X.env = [(false, eval b X.env)] := by rfl) :
    DI_ F X tg (.Call (.Name "range" p) [a, b] [] pos) (sRange2 s) := by
  refine ⟨(pi_range2 hg hm h.pa hs hs2).imp fun σ H R ⟨δ, G, S, h⟩ => ⟨δ, G, S, ?_⟩⟩
  unfold sRange2 at h
  cases e1 : s δ with
  | st => rw [e1] at h; exact h
  | ex c fs => rw [e1] at h; exact h
  | ok p =>
    obtain ⟨rs, δ1⟩ := p
    rw [e1] at h
    simp only [ok_bind] at h
    intro vs H1 G1 S1 g1 q1
    split at h
    · split at h
      · rename_i hj
        cases q1 with
        | cons q t =>
          cases t with
          | cons q' t' =>
            cases q; cases q'; cases t'
            obtain ⟨h1, h2⟩ := small_of hj.1
            obtain ⟨h3, h4⟩ := small_of hj.2
            exact ⟨_, _, rfl, ⟨h1, h2, h3, h4⟩, h _ H1 G1 S1 g1 (rng_it _ _)⟩
      · exact h.elim
    · exact h.elim

/-! ### for, while -/
def loop (g : SG) (body : SS) : List D → SS
  | [], δ => .ok (.nx, δ)
  | d :: ds, δ => do
    let δ1 ← g d δ
    let (f, δ2) ← body δ1
    (match f with
      | .nx => loop g body ds δ2
      | .ct => loop g body ds δ2
      | .bk => .ok (.nx, δ2)
      | .rt r => .ok (.rt r, δ2))
def sFor (s : SI) (g : SG) (body : SS) : SS := fun δ => do
  let (ds, δ1) ← s δ
  loop g body ds δ1
/-- a state that a step of a walk has reached -/
theorem SOk.step {δ : DS} {σ : St} {H G Gs : Hp} {J : It} {ds : List D} {i : Nat} {d : D} {x : V} {H' : Hp} (S : SOk F δ σ H G) (I : ItOk F.W Gs J ds) (e : Same Gs G) (hd : ds[i]? = some d) (y : J.yld i H x H') :
    ∃ G', SOk F δ σ H' G' ∧ Same G G' ∧ Rep F.W G' d x := by
  rcases I.yld i d G H x H' e S.gh hd y with ⟨rfl, r⟩ | ⟨p, o, hp, rfl, r⟩
  · exact ⟨G, S, Same.refl _, r⟩
  · obtain ⟨G', S', g, n, _⟩ := S.laidA hp o
    exact ⟨_, S', g, r.monoN n⟩
theorem ds_for {tg iter : Expr} {body : List Stmt} {s : SI} {g : SG} {ts : List Nat} {b : SS} (hp : PassesOwn (model X.prog X.w) X.A X.env X.xe) (hc : X.calm = true) (hi : DI_ F X tg iter s) (hg : DG F X tg g ts) (hb : DSs pz F X body b)
    (hs : ∀ x, foldedSetIterable iter X.env x = pure x := by intro _; rfl) (hi0 : 0 ∈ ts → pz = none := by first | exact fun _ => rfl | exact fun z => absurd z (by decide)) : DSt pz F X (.For tg iter body [] pos) (sFor s g b) := by
  refine ⟨(ps_for hp hc hi.pi hg.pg hb.pss hs).imp fun D σ H ⟨δ, G, S, z0, h⟩ => ⟨δ, G, S, ?_⟩⟩
  unfold sFor at h
  cases e1 : s δ with
  | st => rw [e1] at h; exact h
  | ex c fs => rw [e1] at h; exact h
  | ok p =>
    obtain ⟨ds, δ1⟩ := p
    rw [e1] at h
    simp only [ok_bind] at h
    intro J H1 G1 S1 g1 I
    refine ⟨fun i m σ H => ∃ δ G, SOk F δ σ H G ∧ Same G1 G ∧ m = ds.length - i ∧ P0 pz σ ∧ SatS pz F (loop g b (ds.drop i) δ) G D, ⟨_, δ1, G1, S1, Same.refl _, rfl, z0, satS_trans g1 h⟩, ?_⟩
    rintro i m σ2 H2 ⟨δ2, G2, S2, g2, rfl, z2, w⟩
    cases hd : ds[i]? with
    | none =>
      have hl : ds.length ≤ i := List.getElem?_eq_none_iff.mp hd
      rw [List.drop_eq_nil_of_le hl] at w
      exact .inl ⟨I.stop i G2 H2 g2 S2.gh hl, w σ2 H2 G2 S2 (Same.refl _) z2⟩
    | some d =>
      have hl : i < ds.length := (List.getElem?_eq_some_iff.mp hd).1
      have hdr : ds.drop i = d :: ds.drop (i + 1) := by
        rw [List.drop_eq_getElem_cons hl]
        congr 1
        exact (List.getElem?_eq_some_iff.mp hd).2
      rw [hdr] at w
      unfold loop at w
      refine .inr ⟨I.go i d G2 H2 g2 S2.gh hd, fun σ' H' => ∃ δ G, SOk F δ σ' H' G ∧ Same G1 G ∧ P0 pz σ' ∧ SatS pz F (loop g b (ds.drop (i + 1)) δ) G D, fun σ' H' ⟨δ', G', S', g', z', w'⟩ => ⟨ds.length - (i + 1), by omega, δ', G', S', g', rfl, z', w'⟩, fun x H' y => ?_⟩
      obtain ⟨G3, S3, g3, r3⟩ := S2.step I g2 hd y
      refine ⟨δ2, G3, d, S3, r3, ?_⟩
      cases e2 : g d δ2 with
      | st => rw [e2] at w; exact w
      | ex c fs => rw [e2] at w; exact w
      | ok δ3 =>
        rw [e2] at w
        simp only [ok_bind] at w
        intro σ4 H4 G4 S4 g4 o4
        refine ⟨δ3, G4, S4, z2.only o4 hi0, ?_⟩
        cases e3 : b δ3 with
        | st => rw [e3] at w; exact w
        | ex c fs => rw [e3] at w; exact w
        | ok p =>
          obtain ⟨f, δ4⟩ := p
          rw [e3] at w
          simp only [ok_bind] at w
          have gg := g3.trans g4
          cases f with
          | nx => exact fun σ5 H5 G5 S5 g5 z5 => ⟨δ4, G5, S5, (g2.trans gg).trans g5, z5, satS_trans (gg.trans g5) w⟩
          | ct => exact fun σ5 H5 G5 S5 g5 z5 => ⟨δ4, G5, S5, (g2.trans gg).trans g5, z5, satS_trans (gg.trans g5) w⟩
          | bk => exact fun σ5 H5 G5 S5 g5 => w σ5 H5 G5 S5 (gg.trans g5)
          | rt r => exact fun v σ5 H5 G5 S5 g5 z5 q => w v σ5 H5 G5 S5 (gg.trans g5) z5 q

/-- while: up to n turns -/
def turns (t : ST) (body : SS) : Nat → SS
  | 0, _ => .st
  | n + 1, δ => do
    let (b, δ1) ← t δ
    if b = true then (do
      let (f, δ2) ← body δ1
      (match f with
        | .nx => turns t body n δ2
        | .ct => turns t body n δ2
        | .bk => .ok (.nx, δ2)
        | .rt r => .ok (.rt r, δ2)))
    else .ok (.nx, δ1)
open Classical in
noncomputable def sWhile (t : ST) (body : SS) : SS := fun δ => if h : ∃ n, turns t body n δ ≠ .st then turns t body (choose h) δ else .st
theorem turns_more (t : ST) (body : SS) : ∀ (n : Nat) (δ : DS), turns t body n δ ≠ .st → turns t body (n + 1) δ = turns t body n δ
  | 0, δ, h => absurd rfl h
  | n + 1, δ, h => by
    rw [turns, turns] at *
    cases e1 : t δ with
    | st => rfl
    | ex c fs => rfl
    | ok p =>
      obtain ⟨b, δ1⟩ := p
      rw [e1] at h
      simp only [ok_bind] at h ⊢
      cases b with
      | false => rfl
      | true =>
        rw [if_pos rfl] at h ⊢
        rw [if_pos rfl]
        cases e2 : body δ1 with
        | st => rfl
        | ex c fs => rfl
        | ok p =>
          obtain ⟨f, δ2⟩ := p
          rw [e2] at h
          simp only [ok_bind] at h ⊢
          cases f with
          | nx => exact turns_more t body n δ2 h
          | ct => exact turns_more t body n δ2 h
          | bk => rfl
          | rt r => rfl
theorem turns_le (t : ST) (body : SS) {n m : Nat} (hm : n ≤ m) (δ : DS) (h : turns t body n δ ≠ .st) : turns t body m δ = turns t body n δ := by
  induction hm with
  | refl => rfl
  | step hm ih => rw [turns_more t body _ δ (by rw [ih]; exact h), ih]
theorem while_eq {t : ST} {body : SS} (n : Nat) {δ : DS} (h : turns t body n δ ≠ .st) : sWhile t body δ = turns t body n δ := by
  unfold sWhile
  have hx : ∃ n, turns t body n δ ≠ .st := ⟨n, h⟩
  rw [dif_pos hx]
  have h1 := turns_le t body (Nat.le_max_left n (Classical.choose hx)) δ h
  have h2 := turns_le t body (Nat.le_max_right n (Classical.choose hx)) δ (Classical.choose_spec hx)
  rw [← h1, h2]
theorem ds_while {c : Expr} {body : List Stmt} {t : ST} {b : SS} (hp : PassesOwn (model X.prog X.w) X.A X.env X.xe) (hc : DT F X c t) (hb : DSs pz F X body b) : DSt pz F X (.While c body [] pos) (sWhile t b) := by
  refine ⟨(ps_while hp hc.pt hb.pss).imp fun D σ H ⟨δ, G, S, z0, h⟩ => ?_⟩
  have hx : ∃ n, turns t b n δ ≠ .st := by
    apply Classical.byContradiction
    intro q
    unfold sWhile at h
    rw [dif_neg q] at h
    exact h
  obtain ⟨n, hn⟩ := hx
  rw [while_eq n hn] at h
  refine ⟨fun m σ H => ∃ δ G, SOk F δ σ H G ∧ P0 pz σ ∧ SatS pz F (turns t b m δ) G D, ⟨n, δ, G, S, z0, h⟩, ?_⟩
  rintro m σ2 H2 ⟨δ2, G2, S2, z2, w⟩
  cases m with
  | zero => exact w.elim
  | succ m =>
    refine ⟨δ2, G2, S2, ?_⟩
    unfold turns at w
    cases e1 : t δ2 with
    | st => rw [e1] at w; exact w
    | ex c fs => rw [e1] at w; exact w
    | ok p =>
      obtain ⟨d, δ3⟩ := p
      rw [e1] at w
      simp only [ok_bind] at w
      intro H3 G3 S3 g3
      cases d with
      | false => exact iteF (w σ2 H3 G3 S3 g3 z2)
      | true =>
        rw [if_pos rfl] at w
        refine iteT ⟨fun σ' H' => ∃ δ G, SOk F δ σ' H' G ∧ P0 pz σ' ∧ SatS pz F (turns t b m δ) G D, fun σ' H' ⟨δ', G', S', z', w'⟩ => ⟨m, Nat.lt_succ_self m, δ', G', S', z', w'⟩, δ3, G3, S3, z2, ?_⟩
        cases e2 : b δ3 with
        | st => rw [e2] at w; exact w
        | ex c fs => rw [e2] at w; exact w
        | ok p =>
          obtain ⟨f, δ4⟩ := p
          rw [e2] at w
          simp only [ok_bind] at w
          cases f with
          | nx => exact fun σ5 H5 G5 S5 g5 z5 => ⟨δ4, G5, S5, z5, satS_trans (g3.trans g5) w⟩
          | ct => exact fun σ5 H5 G5 S5 g5 z5 => ⟨δ4, G5, S5, z5, satS_trans (g3.trans g5) w⟩
          | bk => exact fun σ5 H5 G5 S5 g5 => w σ5 H5 G5 S5 (g3.trans g5)
          | rt r => exact fun v σ5 H5 G5 S5 g5 z5 q => w v σ5 H5 G5 S5 (g3.trans g5) z5 q
end
end L2.DI

/-! DI5: list comprehensions; several names stored at once. -/
namespace L2.DI
open PySem PySem.Spec PyProof.Rows

section
variable {F : Fx} {X : Cx} {δ : DS} {σ : St} {H G : Hp}
/-- the same, another ground: an object that stays as it is while something else is worked out -/
theorem SOk.pin (S : SOk F δ σ H G) {p : Addr} {o : HO} (h1 : H p = some o) (h2 : G p = none) (h3 : ∀ (i : Nat) (c' : D), δ[i]? = some (.ow c') → σ[i]? ≠ some (some (.ref p))) (E : XK) (hot : Bool) (ho : ∀ ps, o ≠ .tbl ps := by intro _ z; cases z) : SOk ⟨F.W, upd F.B p o, F.G0, E, hot, F.T⟩ δ σ H G where
  len := S.len
  bh := fun b u e => by
    by_cases hb : b = p
    · subst hb
      have e' : upd F.B b o b = some u := e
      rw [upd_same] at e'; cases e'; exact h1
    · have e' : upd F.B p o b = some u := e
      rw [upd_ne hb] at e'; exact S.bh b u e'
  g0 := S.g0
  gh := S.gh
  gn := fun a ob hb nt h0 => by
    by_cases e : a = p
    · rw [e]; exact h2
    · have hb' : upd F.B p o a = some ob := hb
      rw [upd_ne e] at hb'; exact S.gn a ob hb' nt h0
  im := S.im
  ow := fun i c e => by
    obtain ⟨a, o', q1, q2, q3, q4, q5⟩ := S.ow i c e
    have ne : a ≠ p := fun z => h3 i c e (by rw [q1, z])
    exact ⟨a, o', q1, q2, q3, q4, by show upd F.B p o a = none; rw [upd_ne ne]; exact q5⟩
  ne := S.ne
  tt := ⟨S.tt.1, fun z => ⟨noTbl_upd (S.tt.2 z).1 ho, (S.tt.2 z).2⟩⟩
theorem SOk.unpin {p : Addr} {o : HO} {E : XK} {hot : Bool} (hB : F.B p = none) (S : SOk ⟨F.W, upd F.B p o, F.G0, E, hot, F.T⟩ δ σ H G) : SOk F δ σ H G where
  len := S.len
  bh := fun b u e => S.bh b u (show upd F.B p o b = some u by rw [upd_ne (ne_of_none e hB)]; exact e)
  g0 := S.g0
  gh := S.gh
  gn := fun a ob hb nt h0 => S.gn a ob (show upd F.B p o a = some ob by
    rw [upd_ne (ne_of_none hb hB)]; exact hb) nt h0
  im := S.im
  ow := fun i c e => by
    obtain ⟨a, o', q1, q2, q3, q4, q5⟩ := S.ow i c e
    have q5' : upd F.B p o a = none := q5
    refine ⟨a, o', q1, q2, q3, q4, ?_⟩
    by_cases z : a = p
    · rw [z, upd_same] at q5'; cases q5'
    · rw [upd_ne z] at q5'; exact q5'
  ne := S.ne
  tt := ⟨S.tt.1, fun z => ⟨fun b ps e => (S.tt.2 z).1 b ps (by
    show upd F.B p o b = _
    rw [upd_ne (ne_of_none e hB)]; exact e), (S.tt.2 z).2⟩⟩
theorem SOk.pinned {p : Addr} {o : HO} {E : XK} {hot : Bool} (S : SOk ⟨F.W, upd F.B p o, F.G0, E, hot, F.T⟩ δ σ H G) (h0 : F.G0 p = none) (nt : NT o) : H p = some o ∧ G p = none ∧ ∀ (i : Nat) (c' : D), δ[i]? = some (.ow c') → σ[i]? ≠ some (some (.ref p)) := by
  refine ⟨S.bh p o (show upd F.B p o p = some o from upd_same), S.gn p o (show upd F.B p o p = some o from upd_same) nt h0, fun i c e z => ?_⟩
  obtain ⟨a, o', q1, _, _, _, q5⟩ := S.ow i c e
  rw [q1] at z; cases z
  have q5' : upd F.B p o p = none := q5
  rw [upd_same] at q5'; cases q5'

/-! ### a comprehension's own names -/
def wipeD (δ : DS) : List Nat → DS
  | [] => δ
  | v :: vs => (wipeD δ vs).set v .no
theorem wipe_out {σ : St} {i : Nat} : ∀ {vs : List Nat}, i ∉ vs → (wipe σ vs)[i]? = σ[i]?
  | [], _ => rfl
  | v :: vs, h => by
    rw [List.mem_cons, not_or] at h
    unfold wipe
    rw [List.getElem?_set_ne (fun e => h.1 e.symm)]
    exact wipe_out h.2
theorem wipe_in {σ : St} {i : Nat} : ∀ {vs : List Nat}, i ∈ vs → (wipe σ vs)[i]? = if i < σ.length then some none else none
  | [], h => nomatch h
  | v :: vs, h => by
    unfold wipe
    by_cases e : v = i
    · subst e
      rw [List.getElem?_set, if_pos rfl, wipe_length]
    · rw [List.getElem?_set_ne e]
      rcases List.mem_cons.mp h with z | z
      · exact absurd z.symm e
      · exact wipe_in z
theorem wipeD_len (δ : DS) : ∀ vs : List Nat, (wipeD δ vs).length = δ.length
  | [] => rfl
  | v :: vs => by unfold wipeD; rw [List.length_set, wipeD_len δ vs]
theorem wipeD_some {δ : DS} {i : Nat} {x : SV} (hx : x ≠ .no) : ∀ {vs : List Nat}, (wipeD δ vs)[i]? = some x → δ[i]? = some x ∧ i ∉ vs
  | [], h => ⟨h, by simp⟩
  | v :: vs, h => by
    unfold wipeD at h
    rcases get_set h with ⟨_, e⟩ | ⟨hn, h⟩
    · exact absurd e hx
    · obtain ⟨h1, h2⟩ := wipeD_some hx h
      exact ⟨h1, by rw [List.mem_cons, not_or]; exact ⟨fun e => hn e.symm, h2⟩⟩
theorem SOk.wiped (S : SOk F δ σ H G) (vs : List Nat) : SOk F (wipeD δ vs) (wipe σ vs) H G where
  len := by rw [wipeD_len, wipe_length]; exact S.len
  bh := S.bh
  g0 := S.g0
  gh := S.gh
  gn := S.gn
  im := fun i d e => by
    obtain ⟨h1, h2⟩ := wipeD_some (by intro z; cases z) e
    rw [wipe_out h2]; exact S.im i d h1
  ow := fun i c e => by
    obtain ⟨h1, h2⟩ := wipeD_some (by intro z; cases z) e
    rw [wipe_out h2]; exact S.ow i c h1
  ne := fun i j a c c' e1 e2 h1 h2 => by
    obtain ⟨z1, y1⟩ := wipeD_some (by intro z; cases z) e1
    obtain ⟨z2, y2⟩ := wipeD_some (by intro z; cases z) e2
    rw [wipe_out y1] at h1
    rw [wipe_out y2] at h2
    exact S.ne i j a c c' z1 z2 h1 h2
  tt := S.tt
theorem SOk.unwiped {vs : List Nat} (S : SOk F δ (wipe σ vs) H G) : SOk F δ σ H G where
  len := by have := S.len; rw [wipe_length] at this; exact this
  bh := S.bh
  g0 := S.g0
  gh := S.gh
  gn := S.gn
  im := fun i d e => by
    obtain ⟨v, h1, h2⟩ := S.im i d e
    exact ⟨v, (wipe_some h1).1, h2⟩
  ow := fun i c e => by
    obtain ⟨a, o, h1, h2⟩ := S.ow i c e
    exact ⟨a, o, (wipe_some h1).1, h2⟩
  ne := fun i j a c c' e1 e2 h1 h2 => by
    obtain ⟨b, o, y1, _⟩ := S.ow i c e1
    obtain ⟨b', o', y2, _⟩ := S.ow j c' e2
    have z1 := (wipe_some y1).1
    have z2 := (wipe_some y2).1
    rw [z1] at h1; cases h1
    rw [z2] at h2; cases h2
    exact S.ne i j _ c c' e1 e2 y1 y2
  tt := S.tt
theorem only_wipe {ts vs : List Nat} {σ2 : St} (o : Only ts (wipe σ vs) σ2) (hs : ∀ i ∈ ts, i ∈ vs) : wipe σ2 vs = wipe σ vs := by
  apply List.ext_getElem?
  intro i
  by_cases h : i ∈ vs
  · rw [wipe_in h, wipe_in h, o.1, wipe_length]
  · rw [wipe_out h, wipe_out h, o.2 i fun z => h (hs i z), wipe_out h]

/-! ### [e for target in iter if ..] -/
structure DTs (F : Fx) (X : Cx) (es : List Expr) (s : ST) : Prop where
  pts : PTs X es (tT F s)
def tTrue : ST := fun δ => .ok (true, δ)
theorem dts_nil : DTs F X [] tTrue := ⟨⟨fun pins s σ H Q I ⟨δ, G, S, h⟩ => pts_nil.run pins s σ H Q I (h H G S (Same.refl _))⟩⟩
theorem dts_one {c : Expr} {t : ST} (h : DT F X c t) : DTs F X [c] t := ⟨pts_one h.pt⟩
def lcs (vs : List Nat) (g : SG) (t : ST) (e : SE) : List D → DS → List D → Out (List D × DS)
  | [], δ, acc => .ok (acc, δ)
  | d :: ds, δ, acc => do
    let δ1 ← g d δ
    let (b, δ2) ← t δ1
    if b = true then (do
      let (x, δ3) ← frz (e δ2)
      if acc.length < LIM then lcs vs g t e ds (wipeD δ3 vs) (acc ++ [x]) else .st)
    else lcs vs g t e ds (wipeD δ2 vs) acc
def noEx {α : Type} : Out α → Out α
  | .ex _ _ => .st
  | o => o
def sLc (s : SI) (vs : List Nat) (g : SG) (t : ST) (e : SE) : SE := fun δ => do
  let (ds, δ1) ← s δ
  let (acc, δ2) ← noEx (lcs vs g t e ds (wipeD δ1 vs) [])
  .ok (.fr (.lst acc), δ2)
/-- the ground of a comprehension's block -/
abbrev cB (F : Fx) (B' : Hp) : Fx := ⟨F.W, B', F.G0, F.E, false, F.T⟩
theorem bind_ok {α β : Type} {o : Out α} {f : α → Out β} {b : β} (h : (o >>= f) = .ok b) : ∃ a, o = .ok a ∧ f a = .ok b := by
  cases o with
  | ok a => exact ⟨a, rfl, h⟩
  | ex c fs => cases h
  | st => cases h
theorem noEx_ok {α : Type} {o : Out α} {a : α} (h : noEx o = .ok a) : o = .ok a := by
  cases o with
  | ok b => exact h
  | ex c fs => cases h
  | st => cases h
theorem lc_imp {s : SI} {vs ts : List Nat} {g : SG} {t : ST} {e : SE} {tg : TG} {tt : TT} {te : TE} {wi : TI} (hwi : ∀ σ H R, tI F s σ H R → wi σ H R)
    (hg : ∀ B' v σ H Q, tG (cB F B') g ts v σ H Q → tg v σ H Q) (ht : ∀ B' σ H Q, tT (cB F B') t σ H Q → tt σ H Q) (he : ∀ B' σ H Q, tE (cB F B') e σ H Q → te σ H Q) (hs : ∀ i ∈ ts, i ∈ vs)
    (σ : St) (H : Hp) (Q : VK) : tE F (sLc s vs g t e) σ H Q → tLc wi tg tt te vs σ H Q := by
  rintro ⟨δ, G, S, h⟩
  refine hwi σ H _ ⟨δ, G, S, ?_⟩
  unfold sLc at h
  cases e1 : s δ with
  | st => rw [e1] at h; exact h
  | ex c fs => rw [e1] at h; exact h
  | ok p =>
    obtain ⟨ds, δ1⟩ := p
    rw [e1] at h
    simp only [ok_bind] at h
    intro J H1 G1 S1 g1 I D hD
    cases e2 : noEx (lcs vs g t e ds (wipeD δ1 vs) []) with
    | st => rw [e2] at h; exact h.elim
    | ex c fs =>
      exfalso
      cases q : lcs vs g t e ds (wipeD δ1 vs) [] <;> rw [q] at e2 <;> cases e2
    | ok p =>
      obtain ⟨out, δ'⟩ := p
      rw [e2] at h
      have run := noEx_ok e2
      have hBD : F.B D = none := S1.bh.free hD
      have hG0 : F.G0 D = none := S1.g0.free (S1.fresh hD)
      refine ⟨fun i m H => ∃ δ G acc av, SOk F δ (wipe σ vs) H G ∧ Same G1 G ∧ H D = some (.lst av) ∧ Reps F.W G acc av ∧ G D = none ∧ (∀ (i : Nat) (c' : DI.D), δ[i]? = some (.ow c') → (wipe σ vs)[i]? ≠ some (some (.ref D))) ∧
        m = ds.length - i ∧ lcs vs g t e (ds.drop i) δ acc = .ok (out, δ'), ⟨_, wipeD δ1 vs, G1, [], [], (S1.made hD _).wiped vs, Same.refl _, upd_same, .nil, S1.fresh hD, ?_, rfl, run⟩, ?_⟩
      · exact fun i c' q z => S1.notOwn hD i c' (wipeD_some (by intro z; cases z) q).1 (wipe_some z).1
      rintro i m H2 ⟨δ2, G2, acc, av, S2, g2, d1, d2, d3, d4, rfl, w⟩
      cases hd : ds[i]? with
      | none =>
        have hl : ds.length ≤ i := List.getElem?_eq_none_iff.mp hd
        rw [List.drop_eq_nil_of_le hl] at w
        cases w
        refine .inl ⟨I.stop i G2 H2 g2 S2.gh hl, h _ H2 G2 S2.unwiped (g1.trans g2) ⟨D, _, rfl, d1, .lst d2, d3, hBD, fun i c' q z => ?_⟩⟩
        obtain ⟨b, o', y1, _⟩ := S2.ow i c' q
        have := (wipe_some y1).1
        rw [this] at z; cases z
        exact d4 i c' q y1
      | some d =>
        have hl : i < ds.length := (List.getElem?_eq_some_iff.mp hd).1
        have hdr : ds.drop i = d :: ds.drop (i + 1) := by
          rw [List.drop_eq_getElem_cons hl]
          congr 1
          exact (List.getElem?_eq_some_iff.mp hd).2
        rw [hdr] at w
        unfold lcs at w
        obtain ⟨δ3, w1, w⟩ := bind_ok w
        obtain ⟨⟨b, δ4⟩, w2, w⟩ := bind_ok w
        refine .inr ⟨I.go i d G2 H2 g2 S2.gh hd, fun H' => ∃ δ G acc av, SOk F δ (wipe σ vs) H' G ∧ Same G1 G ∧ H' D = some (.lst av) ∧ Reps F.W G acc av ∧ G D = none ∧ (∀ (i : Nat) (c' : DI.D), δ[i]? = some (.ow c') → (wipe σ vs)[i]? ≠ some (some (.ref D))) ∧
          lcs vs g t e (ds.drop (i + 1)) δ acc = .ok (out, δ'), fun H' ⟨δ', G', a', v', z1, z2, z3, z4, z5, z6, z7⟩ => ⟨ds.length - (i + 1), by omega, δ', G', a', v', z1, z2, z3, z4, z5, z6, rfl, z7⟩, fun x H' y => ?_⟩
        have d1' : H' D = some (.lst av) := by
          rcases I.yld i d G2 H2 x H' g2 S2.gh hd y with ⟨rfl, _⟩ | ⟨p, o, hp, rfl, _⟩
          · exact d1
          · rw [upd_ne (ne_of_none d1 hp)]; exact d1
        obtain ⟨G3, S3, g3, r3, d33⟩ : ∃ G3, SOk F δ2 (wipe σ vs) H' G3 ∧ Same G2 G3 ∧ Rep F.W G3 d x ∧ G3 D = none := by
          rcases I.yld i d G2 H2 x H' g2 S2.gh hd y with ⟨rfl, r⟩ | ⟨p, o, hp, rfl, r⟩
          · exact ⟨G2, S2, Same.refl _, r, d3⟩
          · obtain ⟨G', S', g', n, nn⟩ := S2.laidA hp o
            exact ⟨_, S', g', r.monoN n, nn D (by rw [upd_ne (ne_of_none d1 hp)]; exact d3)⟩
        refine hg (upd F.B D (.lst av)) x _ _ _ ⟨δ2, G3, d, S3.pin d1' d33 d4 F.E false, r3, ?_⟩
        rw [w1]
        intro σ4 H4 G4 S4 g4 o4
        have hw := only_wipe o4 hs
        refine ⟨hw, ht (upd F.B D (.lst av)) _ _ _ ⟨δ3, G4, S4, ?_⟩⟩
        rw [w2]
        intro H5 G5 S5 g5
        cases b with
        | false =>
          dsimp only at w
          rw [if_neg Bool.false_ne_true] at w
          obtain ⟨p1, p2, p3⟩ := S5.pinned hG0 (fun _ z => by cases z)
          refine iteF ⟨wipeD δ4 vs, G5, acc, av, ?_, (g2.trans (g3.trans g4)).trans g5, p1, d2.mono ((g3.trans g4).trans g5), p2, fun i c' q z => ?_, w⟩
          · have := (S5.unpin hBD).wiped vs
            rw [hw] at this
            exact this
          · obtain ⟨q1, q2⟩ := wipeD_some (by intro z; cases z) q
            rw [← hw, wipe_out q2] at z
            exact p3 i c' q1 z
        | true =>
          dsimp only at w
          rw [if_pos rfl] at w
          obtain ⟨⟨x', δ5⟩, w3, w⟩ := bind_ok w
          refine iteT (he (upd F.B D (.lst av)) _ _ _ ⟨δ4, G5, S5, frz_ok ?_⟩)
          rw [w3]
          intro v6 H6 G6 S6 g6 r6
          obtain ⟨p1, p2, p3⟩ := S6.pinned hG0 (fun _ z => by cases z)
          have gg := ((g3.trans g4).trans g5).trans g6
          dsimp only at w
          split at w
          · rename_i hlim
            have S6' := S6.unpin hBD
            refine ⟨av, p1, by rw [← d2.length, lim_eq]; exact hlim, wipeD δ5 vs, G6, acc ++ [x'], av ++ [v6], ?_, g2.trans gg, upd_same, (d2.mono gg).snoc r6, p2, fun i c' q z => ?_, w⟩
            · have z := S6'.wiped vs
              rw [hw] at z
              refine ⟨z.len, fun b u eb => ?_, z.g0, fun b u eb => ?_, z.gn, z.im, fun i c ei => ?_, z.ne, z.tt.wr p1 ⟨fun _ z => (nomatch z), fun _ z => (nomatch z)⟩⟩
              · rw [upd_ne (ne_of_none eb hBD)]; exact z.bh b u eb
              · rw [upd_ne (ne_of_none eb p2)]; exact z.gh b u eb
              · obtain ⟨a, o, y1, y2, y3⟩ := z.ow i c ei
                have ne : a ≠ D := fun zz => by
                  obtain ⟨q1, q2⟩ := wipeD_some (by intro z; cases z) ei
                  rw [← hw, wipe_out q2, zz] at y1
                  exact p3 i c q1 y1
                exact ⟨a, o, y1, by rw [upd_ne ne]; exact y2, y3⟩
            · obtain ⟨q1, q2⟩ := wipeD_some (by intro z; cases z) q
              rw [← hw, wipe_out q2] at z
              exact p3 i c' q1 z
          · cases w
theorem de_lc {elt tg iter : Expr} {ifs : List Expr} {scope : Scope} {own : List (Str × Nat)} {pos : Pos} {s : SI} {g : SG} {ts : List Nat} {t : ST} {e : SE} (hc : X.calm = true) (hN : X.N.Nodup) (hi : DI_ F X tg iter s) (ok : BlkOk X.N X.env.scope scope own)
    (hg : ∀ (B' : Hp) (s : Shared) (H : Hp) (C : Addr) (cl : List (Str × Addr)) (fp : List Addr), DG (cB F B') (X.blk s H scope (compEnvC scope cl C X.env) fp) tg g ts)
    (ht : ∀ (B' : Hp) (s : Shared) (H : Hp) (C : Addr) (cl : List (Str × Addr)) (fp : List Addr), DTs (cB F B') (X.blk s H scope (compEnvC scope cl C X.env) fp) ifs t)
    (he : ∀ (B' : Hp) (s : Shared) (H : Hp) (C : Addr) (cl : List (Str × Addr)) (fp : List Addr), DE (cB F B') (X.blk s H scope (compEnvC scope cl C X.env) fp) elt e) (hs : ∀ i ∈ ts, i ∈ own.map (·.2)) (hf : ∀ x, foldedSetIterable iter X.env x = pure x := by intro _; rfl) :
    DE F X (.ListComp elt [⟨tg, iter, ifs, 0⟩] scope pos) (sLc s (own.map (·.2)) g t e) := by
  refine ⟨(pe_lc (g := fun v σ H Q => ∃ B', tG (cB F B') g ts v σ H Q) (tt := fun σ H Q => ∃ B', tT (cB F B') t σ H Q) (te := fun σ H Q => ∃ B', tE (cB F B') e σ H Q) hc hN hi.pi ok (fun s H C cl fp => ?_) (fun s H C cl fp => ?_) (fun s H C cl fp => ?_) hf).imp
    (lc_imp (fun _ _ _ h => h) (fun B' _ _ _ _ h => ⟨B', h⟩) (fun B' _ _ _ h => ⟨B', h⟩) (fun B' _ _ _ h => ⟨B', h⟩) hs)⟩
  · exact ⟨fun pins s2 σ H2 v u Q I r ⟨B', w⟩ => (hg B' s H C cl fp).pg.run pins s2 σ H2 v u Q I r w⟩
  · exact ⟨fun pins s2 σ H2 Q I ⟨B', w⟩ => (ht B' s H C cl fp).pts.run pins s2 σ H2 Q I w⟩
  · exact ⟨fun pins s2 σ H2 Q I ⟨B', w⟩ => (he B' s H C cl fp).pe.run pins s2 σ H2 Q I w⟩
/-- name = [..] on one line -/
theorem ds_setLc {pz : Option Addr} {i : Nat} {y : Str} {py : Pos} {elt tg iter : Expr} {ifs : List Expr} {scope : Scope} {own : List (Str × Nat)} {pos spos : Pos} {s : SI} {g : SG} {ts : List Nat} {t : ST} {e : SE} (hc : X.calm = true) (hN : X.N.Nodup) (hy : X.N[i]? = some y) (hyl : X.env.scope.names.lookup y = some .local)
    (hsw : swapsWith (.ListComp elt [⟨tg, iter, ifs, 0⟩] scope pos) (some (.Name y py)) spos.line X.env = pure true) (hi : DI_ F X tg iter s) (ok : BlkOk X.N X.env.scope scope own)
    (hg : ∀ (B' : Hp) (s : Shared) (H : Hp) (C : Addr) (cl : List (Str × Addr)) (fp : List Addr), DG (cB F B') (X.blk s H scope (compEnvC scope cl C X.env) fp) tg g ts)
    (ht : ∀ (B' : Hp) (s : Shared) (H : Hp) (C : Addr) (cl : List (Str × Addr)) (fp : List Addr), DTs (cB F B') (X.blk s H scope (compEnvC scope cl C X.env) fp) ifs t)
    (he : ∀ (B' : Hp) (s : Shared) (H : Hp) (C : Addr) (cl : List (Str × Addr)) (fp : List Addr), DE (cB F B') (X.blk s H scope (compEnvC scope cl C X.env) fp) elt e) (hs : ∀ i ∈ ts, i ∈ own.map (·.2)) (hf : ∀ x, foldedSetIterable iter X.env x = pure x := by intro _; rfl) (hi0 : i = 0 → pz = none := by first | exact fun _ => rfl | exact fun z => absurd z (by decide)) :
    DSt pz F X (.Assign [.Name y py] (.ListComp elt [⟨tg, iter, ifs, 0⟩] scope pos) spos) (sSet i (sLc s (own.map (·.2)) g t e)) := by
  refine ⟨(ps_setLc (g := fun v σ H Q => ∃ B', tG (cB F B') g ts v σ H Q) (tt := fun σ H Q => ∃ B', tT (cB F B') t σ H Q) (te := fun σ H Q => ∃ B', tE (cB F B') e σ H Q) hc hN hy hyl hsw hi.pi ok (fun s H C cl fp => ?_) (fun s H C cl fp => ?_) (fun s H C cl fp => ?_) hf).imp
    fun D σ H h => lc_imp (fun _ _ _ h => h) (fun B' _ _ _ _ h => ⟨B', h⟩) (fun B' _ _ _ h => ⟨B', h⟩) (fun B' _ _ _ h => ⟨B', h⟩) hs σ H _ (set_imp hi0 _ D σ H h)⟩
  · exact ⟨fun pins s2 σ H2 v u Q I r ⟨B', w⟩ => (hg B' s H C cl fp).pg.run pins s2 σ H2 v u Q I r w⟩
  · exact ⟨fun pins s2 σ H2 Q I ⟨B', w⟩ => (ht B' s H C cl fp).pts.run pins s2 σ H2 Q I w⟩
  · exact ⟨fun pins s2 σ H2 Q I ⟨B', w⟩ => (he B' s H C cl fp).pe.run pins s2 σ H2 Q I w⟩
end
end L2.DI

/-! DI6: the operations over data. -/
namespace L2.DI
open PySem PySem.Spec PyProof.Rows

/-! ### data as the library's -/
mutual
def toPy : D → PyData
  | .non => .none
  | .bl b => .bool b
  | .int i => .int i
  | .str l => .str (mk l)
  | .tup ds => .tuple (toPys ds)
  | .lst ds => .list (toPys ds)
  | .ktp _ => .none
  | .kls _ => .none
  | .dK _ => .none
  | .dT _ => .none
  | .obj _ _ => .none
  | .adr _ => .none
  | .fnc _ => .none
def toPys : List D → List PyData
  | [] => []
  | d :: ds => toPy d :: toPys ds
end
mutual
/-- no dicts, no instances -/
def plain : D → Bool
  | .tup ds => plains ds
  | .lst ds => plains ds
  | .ktp _ => false
  | .kls _ => false
  | .dK _ => false
  | .dT _ => false
  | .obj _ _ => false
  | .adr _ => false
  | .fnc _ => false
  | _ => true
def plains : List D → Bool
  | [] => true
  | d :: ds => plain d && plains ds
end
mutual
def dep : D → Nat
  | .tup ds => deps ds + 1
  | .lst ds => deps ds + 1
  | _ => 0
def deps : List D → Nat
  | [] => 0
  | d :: ds => max (dep d) (deps ds)
end
mutual
def eqD : D → D → Bool
  | .non, .non => true
  | .bl a, .bl b => a == b
  | .bl a, .int j => (if a then 1 else 0) == j
  | .int i, .bl b => i == (if b then 1 else 0)
  | .int i, .int j => i == j
  | .str x, .str y => x == y
  | .lst xs, .lst ys => eqDs xs ys
  | .tup xs, .tup ys => eqDs xs ys
  | _, _ => false
def eqDs : List D → List D → Bool
  | [], [] => true
  | x :: xs, y :: ys => eqD x y && eqDs xs ys
  | _, _ => false
end
theorem mk_beq (a b : List Nat) : (mk a == mk b) = (a == b) := by
  by_cases h : a = b
  · subst h; simp
  · rw [beq_eq_false_iff_ne.mpr h]
    exact beq_eq_false_iff_ne.mpr fun e => h (mk_inj e)
mutual
theorem eqv_toPy : ∀ d e : D, plain d = true → plain e = true → PyData.eqv (toPy d) (toPy e) = eqD d e
  | .non, e, _, h => by cases e <;> first | rfl | simp [plain] at h | simp [toPy, PyData.eqv, eqD]
  | .bl a, e, _, h => by cases e <;> first | rfl | simp [plain] at h | simp [toPy, PyData.eqv, eqD]
  | .int a, e, _, h => by cases e <;> first | rfl | simp [plain] at h | simp [toPy, PyData.eqv, eqD]
  | .str a, e, _, h => by
    cases e with
    | str b =>
      rw [toPy, toPy, PyData.eqv, eqD]
      exact mk_beq a b
    | ktp _ => simp [plain] at h
    | kls _ => simp [plain] at h
    | dK _ => simp [plain] at h
    | dT _ => simp [plain] at h
    | obj _ _ => simp [plain] at h
    | adr _ => simp [plain] at h
    | fnc _ => simp [plain] at h
    | _ => simp [toPy, PyData.eqv, eqD]
  | .tup ds, e, hd, h => by
    cases e with
    | tup es =>
      rw [toPy, toPy, PyData.eqv, eqD]
      exact eqv_toPys ds es (by simpa [plain] using hd) (by simpa [plain] using h)
    | ktp _ => simp [plain] at h
    | kls _ => simp [plain] at h
    | dK _ => simp [plain] at h
    | dT _ => simp [plain] at h
    | obj _ _ => simp [plain] at h
    | adr _ => simp [plain] at h
    | fnc _ => simp [plain] at h
    | _ => simp [toPy, PyData.eqv, eqD]
  | .lst ds, e, hd, h => by
    cases e with
    | lst es =>
      rw [toPy, toPy, PyData.eqv, eqD]
      exact eqv_toPys ds es (by simpa [plain] using hd) (by simpa [plain] using h)
    | ktp _ => simp [plain] at h
    | kls _ => simp [plain] at h
    | dK _ => simp [plain] at h
    | dT _ => simp [plain] at h
    | obj _ _ => simp [plain] at h
    | adr _ => simp [plain] at h
    | fnc _ => simp [plain] at h
    | _ => simp [toPy, PyData.eqv, eqD]
  | .ktp _, e, h, _ => by simp [plain] at h
  | .kls _, e, h, _ => by simp [plain] at h
  | .dK _, e, h, _ => by simp [plain] at h
  | .dT _, e, h, _ => by simp [plain] at h
  | .obj _ _, e, h, _ => by simp [plain] at h
  | .adr _, e, h, _ => by simp [plain] at h
  | .fnc _, e, h, _ => by simp [plain] at h
theorem eqv_toPys : ∀ ds es : List D, plains ds = true → plains es = true → PyData.eqvAll (toPys ds) (toPys es) = eqDs ds es
  | [], [], _, _ => by simp [toPys, PyData.eqvAll, eqDs]
  | [], _ :: _, _, _ => by simp [toPys, PyData.eqvAll, eqDs]
  | _ :: _, [], _, _ => by simp [toPys, PyData.eqvAll, eqDs]
  | d :: ds, e :: es, h1, h2 => by
    simp only [plains, Bool.and_eq_true] at h1 h2
    rw [toPys, toPys, PyData.eqvAll, eqDs, eqv_toPy d e h1.1 h2.1, eqv_toPys ds es h1.2 h2.2]
end
mutual
theorem dep_toPy : ∀ d : D, (toPy d).depth = dep d
  | .non => by simp [toPy, PyData.depth, dep]
  | .bl _ => by simp [toPy, PyData.depth, dep]
  | .int _ => by simp [toPy, PyData.depth, dep]
  | .str _ => by simp [toPy, PyData.depth, dep]
  | .tup ds => by simp only [toPy, PyData.depth, dep]; rw [dep_toPys ds]
  | .lst ds => by simp only [toPy, PyData.depth, dep]; rw [dep_toPys ds]
  | .ktp _ => by simp [toPy, PyData.depth, dep]
  | .kls _ => by simp [toPy, PyData.depth, dep]
  | .dK _ => by simp [toPy, PyData.depth, dep]
  | .dT _ => by simp [toPy, PyData.depth, dep]
  | .obj _ _ => by simp [toPy, PyData.depth, dep]
  | .adr _ => by simp [toPy, PyData.depth, dep]
  | .fnc _ => by simp [toPy, PyData.depth, dep]
theorem dep_toPys : ∀ ds : List D, PyData.depthAll (toPys ds) = deps ds
  | [] => by simp [toPys, PyData.depthAll, deps]
  | d :: ds => by simp only [toPys, PyData.depthAll, deps]; rw [dep_toPy d, dep_toPys ds]
end
mutual
theorem Rep.dp {W : CT} {G : Hp} : ∀ {d : D} {v : V}, Rep W G d v → plain d = true → Dp W.K G v (toPy d) ∧ (toPy d).canLay0 = true
  | _, _, .non, _ => ⟨.non, by simp [toPy, PyData.canLay0]⟩
  | _, _, .bl b, _ => ⟨.bl b, by simp [toPy, PyData.canLay0]⟩
  | _, _, .int i, _ => ⟨.int i, by simp [toPy, PyData.canLay0]⟩
  | _, _, .str l h, _ => ⟨.str _, by
    have e : PyData.canLay0 (toPy (.str l)) = l.all (fun c => decide (c < 0x110000)) := by
      simp [toPy, PyData.canLay0, PyData.strOk, mk]
    rw [e]
    refine List.all_eq_true.mpr fun c hc => ?_
    have := of_decide_eq_true (List.all_eq_true.mp h c hc)
    exact decide_eq_true (by omega)⟩
  | _, _, .tup h r, p => by
    obtain ⟨q1, q2⟩ := Reps.dp r (by simpa [plain] using p)
    exact ⟨.tup (.inl (.inl h)) q1, by simpa [toPy, PyData.canLay0] using q2⟩
  | _, _, .lst h r, p => by
    obtain ⟨q1, q2⟩ := Reps.dp r (by simpa [plain] using p)
    exact ⟨.lst (.inl (.inl h)) q1, by simpa [toPy, PyData.canLay0] using q2⟩
  | _, _, .ktp _ _, p => by simp [plain] at p
  | _, _, .kls _ _, p => by simp [plain] at p
  | _, _, .dK _ _ _, p => by simp [plain] at p
  | _, _, .dT _ _ _, p => by simp [plain] at p
  | _, _, .obj _ _ _ _, p => by simp [plain] at p
theorem Reps.dp {W : CT} {G : Hp} : ∀ {ds : List D} {vs : List V}, Reps W G ds vs → plains ds = true → DpAll W.K G vs (toPys ds) ∧ PyData.canLayAll0 (toPys ds) = true
  | _, _, .nil, _ => ⟨.nil, by simp [toPys, PyData.canLayAll0]⟩
  | _, _, .cons h t, p => by
    simp only [plains, Bool.and_eq_true] at p
    obtain ⟨q1, q2⟩ := Rep.dp h p.1
    obtain ⟨q3, q4⟩ := Reps.dp t p.2
    exact ⟨.cons q1 q3, by simp [toPys, PyData.canLayAll0, q2, q4]⟩
end
mutual
theorem dp_mono {K : PySem.W.Frag} {G G' : Hp} (e : Same G G') : ∀ {v : V} {d : PyData}, Dp K G v d → Dp K G' v d
  | _, _, .non => .non
  | _, _, .bl b => .bl b
  | _, _, .int i => .int i
  | _, _, .str x => .str x
  | _, _, .lst h r => .lst (e.seq h) (dps_mono e r)
  | _, _, .tup h r => .tup (sameT e h) (dps_mono e r)
theorem dps_mono {K : PySem.W.Frag} {G G' : Hp} (e : Same G G') : ∀ {vs : List V} {ds : List PyData}, DpAll K G vs ds → DpAll K G' vs ds
  | _, _, .nil => .nil
  | _, _, .cons h t => .cons (dp_mono e h) (dps_mono e t)
end

/-! ### how an operand lies -/
theorem VRep.non {W : CT} {G H : Hp} {v : V} (h : VRep W G H .non v) : v = .non := by
  cases h with
  | of h => cases h; rfl
  | ow h r => cases r
theorem VRep.bl {W : CT} {G H : Hp} {b : Bool} {v : V} (h : VRep W G H (.bl b) v) : v = .bl b := by
  cases h with
  | of h => cases h; rfl
  | ow h r => cases r
theorem VRep.int {W : CT} {G H : Hp} {i : Int} {v : V} (h : VRep W G H (.int i) v) : v = .int i := by
  cases h with
  | of h => cases h; rfl
  | ow h r => cases r
theorem VRep.str {W : CT} {G H : Hp} {l : List Nat} {v : V} (h : VRep W G H (.str l) v) : v = .str (mk l) ∧ asc l = true := by
  cases h with
  | of h => cases h; exact ⟨rfl, by assumption⟩
  | ow h r => cases r
theorem VRep.lst {W : CT} {G H : Hp} {ds : List D} {v : V} (e : Same G H) (h : VRep W G H (.lst ds) v) : ∃ a xs, v = .ref a ∧ H a = some (.lst xs) ∧ Reps W G ds xs := by
  cases h with
  | of h => cases h with
    | lst h r => exact ⟨_, _, rfl, e _ _ h, r⟩
  | ow h r => cases r with
    | lst r => exact ⟨_, _, rfl, h, r⟩
theorem VRep.tup {W : CT} {G H : Hp} {ds : List D} {v : V} (e : Same G H) (h : VRep W G H (.tup ds) v) : ∃ a xs, v = .ref a ∧ G a = some (.tup xs) ∧ Reps W G ds xs := by
  cases h with
  | of h => cases h with
    | tup h r => exact ⟨_, _, rfl, h, r⟩
  | ow h r => cases r
theorem VRep.im {W : CT} {G H : Hp} {d : D} {v : V} (h : VRep W G H d v) (hd : match d with | .lst _ => False | .dK _ => False | .dT _ => False | .obj _ _ => False | _ => True) : Rep W G d v := by
  cases h with
  | of h => exact h
  | ow h r => cases r <;> exact hd.elim
theorem VRep.dp {W : CT} {G H : Hp} {d : D} {v : V} (e : Same G H) (h : VRep W G H d v) (p : plain d = true) : Dp W.K H v (toPy d) ∧ (toPy d).canLay0 = true := by
  cases h with
  | of h =>
    obtain ⟨q1, q2⟩ := h.dp p
    exact ⟨dp_mono e q1, q2⟩
  | ow h r =>
    cases r with
    | lst r =>
      obtain ⟨q1, q2⟩ := r.dp (by simpa [plain] using p)
      exact ⟨.lst (.inl (.inl h)) (dps_mono e q1), by simpa [toPy, PyData.canLay0] using q2⟩
    | dK _ _ => simp [plain] at p
    | dT _ _ => simp [plain] at p
    | ins _ _ _ => simp [plain] at p

section
variable {F : Fx} {X : Cx}
theorem Op2.or {r r' : R2} {f : D → D → Out RV} (h : ∀ (δ : DS) (σ : St) (H G : Hp) (d1 d2 : D) (x y : V) (Q : VK), SOk F δ σ H G → VRep F.W G H d1 x → VRep F.W G H d2 y → SatV F (f d1 d2) δ σ G Q → r x y H Q ∨ r' x y H Q) : Op2 X F (fun x y H Q => r x y H Q ∨ r' x y H Q) f := h
theorem asc_append {a b : List Nat} (h1 : asc a = true) (h2 : asc b = true) : asc (a ++ b) = true := by
  unfold asc at *; rw [List.all_append, h1, h2]; rfl
theorem mk_append (a b : List Nat) : mk a ++ mk b = mk (a ++ b) := by
  show (⟨a.toArray ++ b.toArray⟩ : Str) = ⟨(a ++ b).toArray⟩
  simp

/-! ### + - * // % ** -/
def fAdd : D → D → Out RV
  | .int i, .int j => .ok (.im (.int (i + j)))
  | .str a, .str b => if a.length + b.length ≤ LIM then .ok (.im (.str (a ++ b))) else .st
  | .lst a, .lst b => if a.length + b.length ≤ LIM then .ok (.fr (.lst (a ++ b))) else .st
  | .tup a, .tup b => if a.length + b.length ≤ LIM then .ok (.im (.tup (a ++ b))) else .st
  | _, _ => .st
theorem r_add : OpR X (binaryOp .Add) (fun x y H Q => (rI0 fun i j => V.int (i + j)) x y H Q ∨ (∃ i j, x = .str i ∧ y = .str j ∧ i.length + j.length ≤ sizeLine ∧ Q (.str (i ++ j)) H) ∨ rCat x y H Q ∨ rCatA X.K x y H Q) := OpR.or op_add (OpR.or op_add_str (OpR.or op_cat op_catA))
theorem o_add (hK : F.W.K = X.K) : Op2 X F (fun x y H Q => (rI0 fun i j => V.int (i + j)) x y H Q ∨ (∃ i j, x = .str i ∧ y = .str j ∧ i.length + j.length ≤ sizeLine ∧ Q (.str (i ++ j)) H) ∨ rCat x y H Q ∨ rCatA X.K x y H Q) fAdd := by
  intro δ σ H G d1 d2 x y Q S h1 h2 h
  cases d1 <;> cases d2 <;> (try exact False.elim h)
  case int.int i j =>
    obtain rfl := h1.int
    obtain rfl := h2.int
    exact .inl ⟨_, _, rfl, rfl, SatV.im h S (.int _)⟩
  case str.str a b =>
    unfold fAdd at h
    dsimp only at h
    by_cases hl : a.length + b.length ≤ LIM
    · rw [if_pos hl] at h
      obtain ⟨rfl, a1⟩ := h1.str
      obtain ⟨rfl, a2⟩ := h2.str
      refine .inr (.inl ⟨_, _, rfl, rfl, by rw [mk_len, mk_len, lim_eq]; exact hl, ?_⟩)
      rw [mk_append]
      exact h.im S (.str _ (asc_append a1 a2))
    · rw [if_neg hl] at h; exact False.elim h
  case lst.lst a b =>
    unfold fAdd at h
    dsimp only at h
    by_cases hl : a.length + b.length ≤ LIM
    · rw [if_pos hl] at h
      obtain ⟨a, xs, rfl, q1, r1⟩ := h1.lst S.gh
      obtain ⟨b, ys, rfl, q2, r2⟩ := h2.lst S.gh
      exact .inr (.inr (.inl ⟨_, _, _, _, rfl, rfl, q1, q2, by rw [← r1.length, ← r2.length, lim_eq]; exact hl, fun p hp => h.fr S hp (.lst (r1.append r2))⟩))
    · rw [if_neg hl] at h; exact False.elim h
  case tup.tup a b =>
    unfold fAdd at h
    dsimp only at h
    by_cases hl : a.length + b.length ≤ LIM
    · rw [if_pos hl] at h
      obtain ⟨a, xs, rfl, q1, r1⟩ := h1.tup S.gh
      obtain ⟨b, ys, rfl, q2, r2⟩ := h2.tup S.gh
      refine .inr (.inr (.inr ⟨_, _, _, _, rfl, rfl, .inl (.inl (S.gh _ _ q1)), .inl (.inl (S.gh _ _ q2)), by rw [← r1.length, ← r2.length, lim_eq]; exact hl, fun e => ?_, fun _ e => ?_, fun _ _ p hp => ?_⟩))
      · subst e
        cases r1
        exact h.im S (.tup q2 r2)
      · subst e
        cases r2
        rw [List.append_nil] at h
        exact h.im S (.tup q1 r1)
      · exact h.imNew S hp (.tup upd_same ((r1.append r2).mono (same_upd0 (S.fresh hp))))
    · rw [if_neg hl] at h; exact False.elim h
/-- an operation of two ints -/
def fI (c : Int → Int → Bool) (g : Int → Int → D) : D → D → Out RV
  | .int i, .int j => if c i j = true then .ok (.im (g i j)) else .st
  | _, _ => .st
theorem o_I {c : Int → Int → Bool} {C : Int → Int → Prop} {g : Int → Int → D} {gv : Int → Int → V} (hc : ∀ i j, c i j = true → C i j) (hg : ∀ W G i j, Rep W G (g i j) (gv i j)) : Op2 X F (rI C gv) (fI c g) := by
  intro δ σ H G d1 d2 x y Q S h1 h2 h
  cases d1 <;> cases d2 <;> (try exact False.elim h)
  case int.int i j =>
    unfold fI at h
    dsimp only at h
    by_cases hl : c i j = true
    · rw [if_pos hl] at h
      obtain rfl := h1.int
      obtain rfl := h2.int
      exact ⟨_, _, rfl, rfl, hc _ _ hl, h.im S (hg _ _ _ _)⟩
    · rw [if_neg hl] at h; exact False.elim h
def fI0 (g : Int → Int → D) : D → D → Out RV
  | .int i, .int j => .ok (.im (g i j))
  | _, _ => .st
theorem o_I0 {g : Int → Int → D} {gv : Int → Int → V} (hg : ∀ W G i j, Rep W G (g i j) (gv i j)) : Op2 X F (rI0 gv) (fI0 g) := by
  intro δ σ H G d1 d2 x y Q S h1 h2 h
  cases d1 <;> cases d2 <;> (try exact False.elim h)
  case int.int i j =>
    obtain rfl := h1.int
    obtain rfl := h2.int
    exact ⟨_, _, rfl, rfl, SatV.im h S (hg _ _ _ _)⟩
def fSub : D → D → Out RV := fI0 fun i j => .int (i - j)
theorem o_sub : Op2 X F (rI0 fun i j => V.int (i - j)) fSub := o_I0 fun _ _ _ _ => .int _
def fFdiv : D → D → Out RV := fI (fun _ j => decide (0 < j ∧ j < 1073741824)) fun i j => .int (i / j)
theorem o_fdiv : Op2 X F (rI CDiv fun i j => V.int (i / j)) fFdiv := o_I (fun _ j h => (of_decide_eq_true h : 0 < j ∧ j < 1073741824)) fun _ _ _ _ => .int _
def fMod : D → D → Out RV := fI (fun _ j => decide (0 < j)) fun i j => .int (i % j)
theorem o_mod : Op2 X F (rI (fun _ j => 0 < j) fun i j => V.int (i % j)) fMod := o_I (fun _ j h => (of_decide_eq_true h : 0 < j)) fun _ _ _ _ => .int _
def fPow : D → D → Out RV := fI (fun i j => decide (0 ≤ j ∧ j ≤ 1000000 ∧ i.natAbs < 2 ^ 64)) fun i j => .int (i ^ j.toNat)
theorem o_pow : Op2 X F (rI CPow fun i j => V.int (i ^ j.toNat)) fPow := o_I (fun i j h => (of_decide_eq_true h : 0 ≤ j ∧ j ≤ 1000000 ∧ i.natAbs < 2 ^ 64)) fun _ _ _ _ => .int _
noncomputable def smallM (i j : Int) : Bool := @decide ((-(2 ^ 64) < i ∧ i < 2 ^ 64) ∨ (-(2 ^ 64) < j ∧ j < 2 ^ 64)) (Classical.propDecidable _)
theorem smallM_of {i j : Int} (h : smallM i j = true) : (-(2 ^ 64) < i ∧ i < 2 ^ 64) ∨ (-(2 ^ 64) < j ∧ j < 2 ^ 64) := @of_decide_eq_true _ (Classical.propDecidable _) h
theorem smallM_mk {i j : Int} (h : (-(2 ^ 64) < i ∧ i < 2 ^ 64) ∨ (-(2 ^ 64) < j ∧ j < 2 ^ 64)) : smallM i j = true := @decide_eq_true _ (Classical.propDecidable _) h
noncomputable def fMul : D → D → Out RV
  | .int i, .int j => if smallM i j = true then .ok (.im (.int (i * j))) else .st
  | .lst a, .int k => if -(2 ^ 63) ≤ k ∧ k < 2 ^ 63 ∧ a.length * k.toNat ≤ LIM then .ok (.fr (.lst (List.replicate k.toNat a).flatten)) else .st
  | .tup a, .int k => if a ≠ [] ∧ 2 ≤ k ∧ k ≤ 1000 ∧ a.length ≤ 1000 then .ok (.im (.tup (List.replicate k.toNat a).flatten)) else .st
  | _, _ => .st
theorem r_mul : OpR X (binaryOp .Mult) (fun x y H Q => (rI CMul fun i j => V.int (i * j)) x y H Q ∨ rRep x y H Q ∨ rRepT X.K x y H Q) := OpR.or op_mul (OpR.or op_rep op_repT)
theorem o_mul (hK : F.W.K = X.K) : Op2 X F (fun x y H Q => (rI CMul fun i j => V.int (i * j)) x y H Q ∨ rRep x y H Q ∨ rRepT X.K x y H Q) fMul := by
  intro δ σ H G d1 d2 x y Q S h1 h2 h
  cases d1 <;> cases d2 <;> (try exact False.elim h)
  case int.int i j =>
    unfold fMul at h
    dsimp only at h
    by_cases hl : smallM i j = true
    · rw [if_pos hl] at h
      obtain rfl := h1.int
      obtain rfl := h2.int
      exact .inl ⟨_, _, rfl, rfl, smallM_of hl, h.im S (.int _)⟩
    · rw [if_neg hl] at h; exact False.elim h
  case lst.int a k =>
    unfold fMul at h
    dsimp only at h
    by_cases hl : -(2 ^ 63) ≤ k ∧ k < 2 ^ 63 ∧ a.length * k.toNat ≤ LIM
    · rw [if_pos hl] at h
      obtain ⟨a, xs, rfl, q1, r1⟩ := h1.lst S.gh
      obtain rfl := h2.int
      exact .inr (.inl ⟨_, _, _, rfl, rfl, q1, hl.1, hl.2.1, by rw [← r1.length, lim_eq]; exact hl.2.2, fun p hp => h.fr S hp (.lst (r1.rep _))⟩)
    · rw [if_neg hl] at h; exact False.elim h
  case tup.int a k =>
    unfold fMul at h
    dsimp only at h
    by_cases hl : a ≠ [] ∧ 2 ≤ k ∧ k ≤ 1000 ∧ a.length ≤ 1000
    · rw [if_pos hl] at h
      obtain ⟨a, xs, rfl, q1, r1⟩ := h1.tup S.gh
      obtain rfl := h2.int
      refine .inr (.inr ⟨_, _, _, rfl, rfl, (.inl (.inl (S.gh _ _ q1))), fun e => hl.1 ?_, hl.2.1, hl.2.2.1, by rw [← r1.length]; exact hl.2.2.2, fun p hp => ?_⟩)
      · subst e; cases r1; rfl
      · exact h.imNew S hp (.tup upd_same ((r1.rep _).mono (same_upd0 (S.fresh hp))))
    · rw [if_neg hl] at h; exact False.elim h

/-! ### == != < <= > >= in is -/
def fEq (neg : Bool) (d e : D) : Out RV := if (plain d && plain e && (decide (dep d ≤ 60) || decide (dep e ≤ 60))) = true then .ok (.im (.bl (xor neg (eqD d e)))) else .st
def rEqD2 (K : PySem.W.Frag) (neg : Bool) : R2 := fun x y H Q => ∃ d e, Dp K H x d ∧ Dp K H y e ∧ d.canLay0 = true ∧ e.canLay0 = true ∧ min d.depth e.depth ≤ 60 ∧ Q (.bl (xor neg (PyData.eqv d e))) H
theorem r_eq (hu : X.A.units + 64 < cLine) : OpR X (compareOp .Eq) (rEqD2 X.K false) := by
  intro pins s σ H x y v u Q I rx ry ⟨d, e, hd, he, c1, c2, hm, q⟩
  obtain ⟨as, r1⟩ := Dp.reads I d x v hd rx
  obtain ⟨bs, r2⟩ := Dp.reads I e y u he ry
  exact SeqAt.compareEq_reads r1 r2 c1 c2 (by omega) ⟨.bl _, H, I, rfl, by simpa using q⟩
theorem r_ne (hu : X.A.units + 64 < cLine) : OpR X (compareOp .NotEq) (rEqD2 X.K true) := by
  intro pins s σ H x y v u Q I rx ry ⟨d, e, hd, he, c1, c2, hm, q⟩
  obtain ⟨as, r1⟩ := Dp.reads I d x v hd rx
  obtain ⟨bs, r2⟩ := Dp.reads I e y u he ry
  exact SeqAt.compareNe_reads r1 r2 c1 c2 (by omega) ⟨.bl _, H, I, rfl, by simpa using q⟩
theorem o_eq (hK : F.W.K = X.K) (neg : Bool) : Op2 X F (rEqD2 X.K neg) (fEq neg) := by
  intro δ σ H G d1 d2 x y Q S h1 h2 h
  unfold fEq at h
  by_cases hc : (plain d1 && plain d2 && (decide (dep d1 ≤ 60) || decide (dep d2 ≤ 60))) = true
  · rw [if_pos hc] at h
    rw [Bool.and_eq_true, Bool.and_eq_true, Bool.or_eq_true, decide_eq_true_eq, decide_eq_true_eq] at hc
    obtain ⟨⟨p1, p2⟩, hd⟩ := hc
    obtain ⟨q1, c1⟩ := h1.dp S.gh p1
    obtain ⟨q2, c2⟩ := h2.dp S.gh p2
    refine ⟨_, _, by rw [← hK]; exact q1, by rw [← hK]; exact q2, c1, c2, by rw [dep_toPy, dep_toPy]; omega, ?_⟩
    rw [eqv_toPy _ _ p1 p2]
    exact h.im S (.bl _)
  · rw [if_neg hc] at h; exact False.elim h
def fCmp (ci : Int → Int → Bool) (cs : List Nat → List Nat → Bool) : D → D → Out RV
  | .int i, .int j => .ok (.im (.bl (ci i j)))
  | .str a, .str b => .ok (.im (.bl (cs a b)))
  | _, _ => .st
theorem o_cmp {ci : Int → Int → Bool} {cs : List Nat → List Nat → Bool} : Op2 X F (fun x y H Q => rI0 (fun i j => .bl (ci i j)) x y H Q ∨ ∃ i j, x = .str i ∧ y = .str j ∧ Q (.bl (cs i.cps.toList j.cps.toList)) H) (fCmp ci cs) := by
  intro δ σ H G d1 d2 x y Q S h1 h2 h
  cases d1 <;> cases d2 <;> (try exact False.elim h)
  case int.int i j =>
    obtain rfl := h1.int
    obtain rfl := h2.int
    exact .inl ⟨_, _, rfl, rfl, SatV.im h S (.bl _)⟩
  case str.str a b =>
    obtain ⟨rfl, _⟩ := h1.str
    obtain ⟨rfl, _⟩ := h2.str
    exact .inr ⟨_, _, rfl, rfl, SatV.im h S (.bl _)⟩
def fLt : D → D → Out RV := fCmp (fun i j => decide (i < j)) fun a b => decide (a < b)
def fLe : D → D → Out RV := fCmp (fun i j => decide (i ≤ j)) fun a b => !decide (b < a)
def fGt : D → D → Out RV := fCmp (fun i j => decide (j < i)) fun a b => decide (b < a)
def fGe : D → D → Out RV := fCmp (fun i j => decide (j ≤ i)) fun a b => !decide (a < b)
theorem r_lt : OpR X (compareOp .Lt) (fun x y H Q => rI0 (fun i j => .bl (decide (i < j))) x y H Q ∨ ∃ i j, x = .str i ∧ y = .str j ∧ Q (.bl (decide (i.cps.toList < j.cps.toList))) H) := OpR.or op_lt op_lt_str
theorem r_le : OpR X (compareOp .LtE) (fun x y H Q => rI0 (fun i j => .bl (decide (i ≤ j))) x y H Q ∨ ∃ i j, x = .str i ∧ y = .str j ∧ Q (.bl (!decide (j.cps.toList < i.cps.toList))) H) := OpR.or op_le op_le_str
theorem r_gt : OpR X (compareOp .Gt) (fun x y H Q => rI0 (fun i j => .bl (decide (j < i))) x y H Q ∨ ∃ i j, x = .str i ∧ y = .str j ∧ Q (.bl (decide (j.cps.toList < i.cps.toList))) H) := OpR.or op_gt op_gt_str
theorem r_ge : OpR X (compareOp .GtE) (fun x y H Q => rI0 (fun i j => .bl (decide (j ≤ i))) x y H Q ∨ ∃ i j, x = .str i ∧ y = .str j ∧ Q (.bl (!decide (i.cps.toList < j.cps.toList))) H) := OpR.or op_ge op_ge_str
/-- is None, is not None; is True, is False -/
def isSc : D → Bool
  | .non => true
  | _ => false
def fIs (neg : Bool) : D → D → Out RV
  | d, .non => .ok (.im (.bl (xor neg (isSc d))))
  | .bl a, .bl b => .ok (.im (.bl (xor neg (a == b))))
  | _, _ => .st
def rIs (neg : Bool) : R2 := fun x y H Q => (y = .non ∧ Q (.bl (xor neg (decide (x = .non)))) H) ∨ ∃ a b, x = .bl a ∧ y = .bl b ∧ Q (.bl (xor neg (decide (a = b)))) H
theorem r_is : OpR X (compareOp .Is) (rIs false) := by
  intro pins s σ H x y v u Q I rx ry h
  refine (OpR.or op_isN op_is_bl) pins s σ H x y v u Q I rx ry ?_
  rcases h with ⟨e, q⟩ | ⟨a, b, e1, e2, q⟩
  · exact .inl ⟨e, by simpa using q⟩
  · exact .inr ⟨a, b, e1, e2, by simpa using q⟩
theorem r_isnot : OpR X (compareOp .IsNot) (rIs true) := by
  intro pins s σ H x y v u Q I rx ry h
  refine (OpR.or op_notN op_isnot_bl) pins s σ H x y v u Q I rx ry ?_
  rcases h with ⟨e, q⟩ | ⟨a, b, e1, e2, q⟩
  · exact .inl ⟨e, by simpa using q⟩
  · exact .inr ⟨a, b, e1, e2, by simpa using q⟩
theorem VRep.isNon {W : CT} {G H : Hp} {d : D} {v : V} (h : VRep W G H d v) : decide (v = .non) = isSc d := by
  cases h with
  | of h => cases h <;> rfl
  | ow h r => cases r <;> rfl
theorem o_is (neg : Bool) : Op2 X F (rIs neg) (fIs neg) := by
  intro δ σ H G d1 d2 x y Q S h1 h2 h
  have hn : d2 = .non → rIs neg x y H Q := fun e => by
    subst e
    obtain rfl := h2.non
    refine .inl ⟨rfl, ?_⟩
    rw [h1.isNon]
    have h' : SatV F (.ok (.im (.bl (xor neg (isSc d1))))) δ σ G Q := by cases d1 <;> exact h
    exact h'.im S (.bl _)
  cases d2 <;> (try exact hn rfl) <;> cases d1 <;> (try exact False.elim h)
  case bl.bl b a =>
    obtain rfl := h1.bl
    obtain rfl := h2.bl
    refine .inr ⟨_, _, rfl, rfl, ?_⟩
    have := SatV.im h S (.bl _)
    rw [← Bool.beq_eq_decide_eq]
    exact this
end
end L2.DI

/-! DI7: in, places, slices, fields, dicts; what changes an own list or dict. -/
namespace L2.DI
open PySem PySem.Spec PyProof.Rows

/-! ### keys and tables -/
def keyOf : D → Option Key
  | .int i => some (.inl i)
  | .str l => some (.inr (mk l))
  | _ => none
def keysOf : List D → Option (List Key)
  | [] => some []
  | d :: ds => match keyOf d, keysOf ds with
    | some k, some ks => some (k :: ks)
    | _, _ => none
theorem keyOf_rep {W : CT} {G H : Hp} {d : D} {v : V} {k : Key} (h : VRep W G H d v) (e : keyOf d = some k) : v = kV k := by
  cases d with
  | int i => cases e; exact h.int
  | str l => cases e; exact h.str.1
  | _ => cases e
theorem keysOf_rep {W : CT} {G : Hp} : ∀ {ds : List D} {vs : List V} {ks : List Key}, Reps W G ds vs → keysOf ds = some ks → vs = ks.map kV
  | _, _, _, .nil, e => by cases e; rfl
  | d :: ds, v :: vs, ks, .cons h t, e => by
    unfold keysOf at e
    cases e1 : keyOf d with
    | none => rw [e1] at e; cases e
    | some k =>
      cases e2 : keysOf ds with
      | none => rw [e1, e2] at e; cases e
      | some ks' =>
        rw [e1, e2] at e
        cases e
        rw [List.map_cons, keyOf_rep (H := G) (.of h) e1, keysOf_rep t e2]
section
variable {κ : Type} [DecidableEq κ]
def lk (kvs : List (κ × D)) (k : κ) : Option D := (kvs.find? fun kv => decide (kv.1 = k)).map (·.2)
def ptD (kvs : List (κ × D)) (k : κ) (v : D) : List (κ × D) :=
  if (kvs.any fun kv => decide (kv.1 = k)) = true then kvs.map (fun kv => if kv.1 = k then (kv.1, v) else kv) else kvs ++ [(k, v)]
/-- a table of data, and how it lies -/
def TRep (W : CT) (G : Hp) (ds : List (κ × D)) (xs : List (κ × V)) : Prop := ds.map (·.1) = xs.map (·.1) ∧ Reps W G (ds.map (·.2)) (xs.map (·.2))
theorem TRep.cons_inv {W : CT} {G : Hp} {d : κ × D} {ds : List (κ × D)} {x : κ × V} {xs : List (κ × V)} (h : TRep W G (d :: ds) (x :: xs)) : d.1 = x.1 ∧ Rep W G d.2 x.2 ∧ TRep W G ds xs := by
  obtain ⟨h1, h2⟩ := h
  rw [List.map_cons, List.map_cons] at h1 h2
  cases h2 with
  | cons a b => exact ⟨(List.cons.inj h1).1, a, (List.cons.inj h1).2, b⟩
theorem TRep.look {W : CT} {G : Hp} (k : κ) : ∀ {ds : List (κ × D)} {xs : List (κ × V)}, TRep W G ds xs → (∀ d, lk ds k = some d → ∃ v, valV xs k = some v ∧ Rep W G d v) ∧ (lk ds k = none → valV xs k = none)
  | [], [], _ => ⟨fun d e => (by cases e), fun _ => rfl⟩
  | [], _ :: _, h => by cases h.1
  | _ :: _, [], h => by cases h.1
  | d :: ds, x :: xs, h => by
    obtain ⟨h1, h2, h3⟩ := h.cons_inv
    obtain ⟨i1, i2⟩ := TRep.look k h3
    by_cases e : x.1 = k
    · refine ⟨fun d' q => ?_, fun q => ?_⟩
      · unfold lk at q
        rw [List.find?_cons, show decide (d.1 = k) = true from decide_eq_true (h1.trans e)] at q
        cases q
        exact ⟨_, valV_pos e, h2⟩
      · unfold lk at q
        rw [List.find?_cons, show decide (d.1 = k) = true from decide_eq_true (h1.trans e)] at q
        cases q
    · have e' : decide (d.1 = k) = false := decide_eq_false (by rw [h1]; exact e)
      refine ⟨fun d' q => ?_, fun q => ?_⟩
      · rw [valV_neg e]
        refine i1 d' ?_
        unfold lk at q ⊢
        rw [List.find?_cons, e'] at q
        exact q
      · rw [valV_neg e]
        refine i2 ?_
        unfold lk at q ⊢
        rw [List.find?_cons, e'] at q
        exact q
theorem TRep.cons {W : CT} {G : Hp} {k : κ} {d : D} {v : V} {ds : List (κ × D)} {xs : List (κ × V)} (h : Rep W G d v) (t : TRep W G ds xs) : TRep W G ((k, d) :: ds) ((k, v) :: xs) :=
  ⟨by rw [List.map_cons, List.map_cons, t.1], .cons h t.2⟩
theorem TRep.append {W : CT} {G : Hp} {ds es : List (κ × D)} {xs ys : List (κ × V)} (h : TRep W G ds xs) (t : TRep W G es ys) : TRep W G (ds ++ es) (xs ++ ys) :=
  ⟨by rw [List.map_append, List.map_append, h.1, t.1], by rw [List.map_append, List.map_append]; exact h.2.append t.2⟩
theorem TRep.repl {W : CT} {G : Hp} (k : κ) {d : D} {v : V} (r : Rep W G d v) : ∀ {ds : List (κ × D)} {xs : List (κ × V)}, TRep W G ds xs → TRep W G (ds.map fun kv => if kv.1 = k then (kv.1, d) else kv) (xs.map fun kv => if kv.1 = k then (kv.1, v) else kv)
  | [], [], _ => ⟨rfl, .nil⟩
  | [], _ :: _, h => by cases h.1
  | _ :: _, [], h => by cases h.1
  | a :: ds, x :: xs, h => by
    obtain ⟨h1, h2, h3⟩ := h.cons_inv
    have ih := TRep.repl k r h3
    rw [List.map_cons, List.map_cons]
    obtain ⟨a1, a2⟩ := a
    obtain ⟨x1, x2⟩ := x
    cases h1
    by_cases e : a1 = k
    · rw [if_pos e, if_pos e]; exact ih.cons r
    · rw [if_neg e, if_neg e]; exact ih.cons h2
theorem TRep.put {W : CT} {G : Hp} (k : κ) {d : D} {v : V} (r : Rep W G d v) {ds : List (κ × D)} {xs : List (κ × V)} (h : TRep W G ds xs) : TRep W G (ptD ds k d) (putK xs k v) := by
  have e : (ds.any fun kv => decide (kv.1 = k)) = (xs.any fun kv => decide (kv.1 = k)) := by
    have e1 : (ds.any fun kv => decide (kv.1 = k)) = (ds.map (·.1)).any fun x => decide (x = k) := by rw [List.any_map]; rfl
    have e2 : (xs.any fun kv => decide (kv.1 = k)) = (xs.map (·.1)).any fun x => decide (x = k) := by rw [List.any_map]; rfl
    rw [e1, e2, h.1]
  unfold ptD putK
  rw [e]
  split
  · exact h.repl k r
  · exact h.append (TRep.cons r ⟨rfl, .nil⟩)
theorem TRep.length {W : CT} {G : Hp} {ds : List (κ × D)} {xs : List (κ × V)} (h : TRep W G ds xs) : ds.length = xs.length := by
  have := h.2.length
  simpa using this
theorem TRep.mono {W : CT} {G G' : Hp} (e : Same G G') {ds : List (κ × D)} {xs : List (κ × V)} (h : TRep W G ds xs) : TRep W G' ds xs := ⟨h.1, h.2.mono e⟩
end
theorem VRep.dK {W : CT} {G H : Hp} {ds : List (Key × D)} {v : V} (e : Same G H) (h : VRep W G H (.dK ds) v) : ∃ a xs, v = .ref a ∧ H a = some (.dK xs) ∧ TRep W G ds xs := by
  cases h with
  | of h => cases h with
    | dK h k r => exact ⟨_, _, rfl, e _ _ h, k, r⟩
  | ow h r => cases r with
    | dK k r => exact ⟨_, _, rfl, h, k, r⟩
theorem VRep.dT {W : CT} {G H : Hp} {ds : List (List Key × D)} {v : V} (e : Same G H) (h : VRep W G H (.dT ds) v) : ∃ a xs, v = .ref a ∧ H a = some (.dT xs) ∧ TRep W G ds xs := by
  cases h with
  | of h => cases h with
    | dT h k r => exact ⟨_, _, rfl, e _ _ h, k, r⟩
  | ow h r => cases r with
    | dT k r => exact ⟨_, _, rfl, h, k, r⟩
theorem VRep.kls {W : CT} {G H : Hp} {ds : List D} {v : V} (e : Same G H) (h : VRep W G H (.kls ds) v) : ∃ a xs, v = .ref a ∧ SqL W.K H a xs ∧ Reps W G ds xs := by
  cases h with
  | of h => cases h with
    | kls h r => exact ⟨_, _, rfl, e.seq h, r⟩
  | ow h r => cases r
theorem VRep.ktp {W : CT} {G H : Hp} {ds : List D} {v : V} (h : VRep W G H (.ktp ds) v) : ∃ a xs, v = .ref a ∧ SqT W.K H a xs ∧ Reps W G ds xs := by
  cases h with
  | of h => cases h with
    | ktp h r => exact ⟨_, _, rfl, h _, r⟩
  | ow h r => cases r
/-- what a dict holds: at a key of data -/
def dget (c k : D) : Out (Option D) := match c with
  | .dK kvs => (match keyOf k with
    | some k => .ok (lk kvs k)
    | none => .st)
  | .dT kvs => (match k with
    | .tup ds => (match keysOf ds with
      | some ks => .ok (lk kvs ks)
      | none => .st)
    | _ => .st)
  | _ => .st
theorem dget_ok {W : CT} {G H : Hp} (e : Same G H) {c k : D} {x y : V} (h1 : VRep W G H c x) (h2 : VRep W G H k y) {o : Option D} (h : dget c k = .ok o) :
    ∃ a ov, x = .ref a ∧ DGet H a y ov ∧ (∀ d, o = some d → ∃ v, ov = some v ∧ Rep W G d v) ∧ (o = none → ov = none) := by
  cases c with
  | dK kvs =>
    obtain ⟨a, xs, rfl, q, t⟩ := h1.dK e
    unfold dget at h
    dsimp only at h
    cases ek : keyOf k with
    | none => rw [ek] at h; cases h
    | some k' =>
      rw [ek] at h
      cases h
      obtain rfl := keyOf_rep h2 ek
      obtain ⟨i1, i2⟩ := t.look k'
      exact ⟨a, _, rfl, DGet.k q, i1, i2⟩
  | dT kvs =>
    obtain ⟨a, xs, rfl, q, t⟩ := h1.dT e
    unfold dget at h
    cases k with
    | tup ds =>
      dsimp only at h
      cases ek : keysOf ds with
      | none => rw [ek] at h; cases h
      | some ks =>
        rw [ek] at h
        cases h
        obtain ⟨b, ys, rfl, z, r⟩ := h2.tup e
        obtain rfl := keysOf_rep r ek
        obtain ⟨i1, i2⟩ := t.look ks
        exact ⟨a, _, rfl, DGet.t q (e _ _ z), i1, i2⟩
    | _ => cases h
  | _ => cases h

section
variable {F : Fx} {X : Cx} {pos : Pos}
/-! ### in -/
def fIn (neg : Bool) (d c : D) : Out RV := match c with
  | .str l => (match d with
    | .str [x] => .ok (.im (.bl (xor neg (decide (x ∈ l)))))
    | _ => .st)
  | .lst es => if (plain d && plains es && decide (dep d ≤ 60)) = true then .ok (.im (.bl (xor neg (es.any fun z => eqD z d)))) else .st
  | .tup es => if (plain d && plains es && decide (dep d ≤ 60)) = true then .ok (.im (.bl (xor neg (es.any fun z => eqD z d)))) else .st
  | .ktp es => if (plain d && plains es && decide (dep d ≤ 60)) = true then .ok (.im (.bl (xor neg (es.any fun z => eqD z d)))) else .st
  | c => (do
    let o ← dget c d
    .ok (.im (.bl (xor neg o.isSome))))
def rInA (K : PySem.W.Frag) (neg : Bool) : R2 := fun x y H Q =>
  (∃ (c : Nat) (z : Str), x = .str ⟨#[c]⟩ ∧ y = .str z ∧ Q (.bl (xor neg (decide (c ∈ z.cps.toList)))) H) ∨
  (∃ d ds, Dp K H x d ∧ (Dp K H y (.list ds) ∨ Dp K H y (.tuple ds)) ∧ d.canLay0 = true ∧ PyData.canLayAll0 ds = true ∧ d.depth ≤ 60 ∧ Q (.bl (xor neg (ds.any fun z => PyData.eqv z d))) H) ∨
  ∃ a o, y = .ref a ∧ DGet H a x o ∧ Q (.bl (xor neg o.isSome)) H
theorem r_in (hu : X.A.units + 64 < cLine) : OpR X (compareOp .In) (rInA X.K false) := by
  intro pins s σ H x y v u Q I rx ry h
  rcases h with ⟨c, z, e1, e2, q⟩ | ⟨d, ds, hd, he, c1, c2, hm, q⟩ | ⟨a, o, rfl, g, q⟩
  · exact op_in_sign pins s σ H x y v u Q I rx ry ⟨c, z, e1, e2, by simpa using q⟩
  · obtain ⟨as, r1⟩ := Dp.reads I d x v hd rx
    rcases he with he | he
    · obtain ⟨bs, r2⟩ := Dp.reads I _ y u he ry
      exact SeqAt.in_list_reads r2 r1 c2 c1 (by omega) ⟨.bl _, H, I, rfl, by simpa using q⟩
    · obtain ⟨bs, r2⟩ := Dp.reads I _ y u he ry
      exact SeqAt.in_tuple_reads r2 r1 c2 c1 (by omega) ⟨.bl _, H, I, rfl, by simpa using q⟩
  · obtain rfl : u = Value.ref a := ry
    exact d_in (by omega) I g rx fun s3 I3 => ⟨.bl o.isSome, H, I3, rfl, by simpa using q⟩
theorem r_notin (hu : X.A.units + 64 < cLine) : OpR X (compareOp .NotIn) (rInA X.K true) := by
  intro pins s σ H x y v u Q I rx ry h
  rcases h with ⟨c, z, e1, e2, q⟩ | ⟨d, ds, hd, he, c1, c2, hm, q⟩ | ⟨a, o, rfl, g, q⟩
  · exact op_notIn_sign pins s σ H x y v u Q I rx ry ⟨c, z, e1, e2, by simpa using q⟩
  · obtain ⟨as, r1⟩ := Dp.reads I d x v hd rx
    rcases he with he | he
    · obtain ⟨bs, r2⟩ := Dp.reads I _ y u he ry
      exact SeqAt.notIn_list_reads r2 r1 c2 c1 (by omega) ⟨.bl _, H, I, rfl, by simpa using q⟩
    · obtain ⟨bs, r2⟩ := Dp.reads I _ y u he ry
      exact SeqAt.notIn_tuple_reads r2 r1 c2 c1 (by omega) ⟨.bl _, H, I, rfl, by simpa using q⟩
  · obtain rfl : u = Value.ref a := ry
    exact d_notIn (by omega) I g rx fun s3 I3 => ⟨.bl (!o.isSome), H, I3, rfl, by simpa using q⟩
theorem any_toPy {d : D} (hd : plain d = true) : ∀ {es : List D}, plains es = true → ((toPys es).any fun z => PyData.eqv z (toPy d)) = es.any fun z => eqD z d
  | [], _ => rfl
  | e :: es, h => by
    simp only [plains, Bool.and_eq_true] at h
    rw [toPys, List.any_cons, List.any_cons, any_toPy hd h.2, eqv_toPy e d h.1 hd]
theorem o_in (hK : F.W.K = X.K) (neg : Bool) : Op2 X F (rInA X.K neg) (fIn neg) := by
  intro δ σ H G d1 d2 x y Q S h1 h2 h
  have seq : ∀ es : List D, (Dp X.K H y (.list (toPys es)) ∨ Dp X.K H y (.tuple (toPys es))) ∧ PyData.canLayAll0 (toPys es) = true ∨ plains es = false → SatV F (if (plain d1 && plains es && decide (dep d1 ≤ 60)) = true then .ok (.im (.bl (xor neg (es.any fun z => eqD z d1)))) else .st) δ σ G Q → rInA X.K neg x y H Q := by
    intro es he h
    by_cases hc : (plain d1 && plains es && decide (dep d1 ≤ 60)) = true
    · rw [if_pos hc] at h
      rw [Bool.and_eq_true, Bool.and_eq_true, decide_eq_true_eq] at hc
      obtain ⟨⟨p1, p2⟩, hd⟩ := hc
      rcases he with ⟨he, c2⟩ | he
      · obtain ⟨q1, c1⟩ := h1.dp S.gh p1
        refine .inr (.inl ⟨_, _, by rw [← hK]; exact q1, he, c1, c2, by rw [dep_toPy]; exact hd, ?_⟩)
        rw [any_toPy p1 p2]
        exact h.im S (.bl _)
      · rw [he] at p2; cases p2
    · rw [if_neg hc] at h; exact False.elim h
  have dct : SatV F (dget d2 d1 >>= fun o => .ok (.im (.bl (xor neg o.isSome)))) δ σ G Q → rInA X.K neg x y H Q := fun h => by
    cases e : dget d2 d1 with
    | st => rw [e] at h; exact False.elim h
    | ex c fs =>
      exfalso
      unfold dget at e
      split at e
      · split at e <;> cases e
      · split at e
        · split at e <;> cases e
        · cases e
      · cases e
    | ok o =>
      rw [e] at h
      obtain ⟨a, ov, rfl, g, i1, i2⟩ := dget_ok S.gh h2 h1 e
      have eo : ov.isSome = o.isSome := by
        cases o with
        | none => rw [i2 rfl]; rfl
        | some d => obtain ⟨v, e, _⟩ := i1 d rfl; rw [e]; rfl
      refine .inr (.inr ⟨a, ov, rfl, g, ?_⟩)
      rw [eo]
      exact SatV.im h S (.bl _)
  cases d2 with
  | str l =>
    cases d1 with
    | str c =>
      match c, h1, h with
      | [], _, h => exact False.elim h
      | [c], h1, h =>
        obtain ⟨rfl, _⟩ := h1.str
        obtain ⟨rfl, _⟩ := h2.str
        exact .inl ⟨c, _, rfl, rfl, SatV.im h S (.bl _)⟩
      | _ :: _ :: _, _, h => exact False.elim h
    | _ => exact False.elim h
  | lst es =>
    refine seq es ?_ h
    cases hp : plains es with
    | false => exact .inr rfl
    | true =>
      obtain ⟨q, c⟩ := h2.dp S.gh (by simpa [plain] using hp)
      exact .inl ⟨.inl (by rw [← hK]; simpa [toPy] using q), by simpa [toPy, PyData.canLay0] using c⟩
  | tup es =>
    refine seq es ?_ h
    cases hp : plains es with
    | false => exact .inr rfl
    | true =>
      obtain ⟨q, c⟩ := h2.dp S.gh (by simpa [plain] using hp)
      exact .inl ⟨.inr (by rw [← hK]; simpa [toPy] using q), by simpa [toPy, PyData.canLay0] using c⟩
  | ktp es =>
    refine seq es ?_ h
    cases hp : plains es with
    | false => exact .inr rfl
    | true =>
      obtain ⟨a, xs, rfl, q, r⟩ := h2.ktp
      obtain ⟨q1, q2⟩ := r.dp hp
      exact .inl ⟨.inr (.tup (by rw [← hK]; exact q) (by rw [← hK]; exact dps_mono S.gh q1)), q2⟩
  | dK kvs => exact dct h
  | dT kvs => exact dct h
  | non => exact False.elim h
  | bl b => exact False.elim h
  | int i => exact False.elim h
  | obj t ds => exact False.elim h
  | adr a => exact False.elim h
  | fnc k => exact False.elim h
  | kls ds => exact False.elim h
end
end L2.DI

/-! DI8: places, slices, fields, chains, stores, methods of an own list, built-in calls. -/
namespace L2.DI
open PySem PySem.Spec PyProof.Rows

theorem Reps.nth {W : CT} {G : Hp} {ds : List D} {vs : List V} (r : Reps W G ds vs) {i : Int} {d : D} (h : atI ds i = some d) : ∃ v, atI vs i = some v ∧ Rep W G d v := by
  unfold atI at h ⊢
  rw [← r.length]
  cases e : ixN ds.length i with
  | none => rw [e] at h; cases h
  | some j =>
    rw [e] at h
    exact (r.get j).1 d h
theorem asc_of {l : List Nat} (h : asc l = true) {c : Nat} (hc : c ∈ l) : asc [c] = true := by
  have := List.all_eq_true.mp h c hc
  show ([c].all fun x => decide (x < 128)) = true
  rw [List.all_cons, List.all_nil, Bool.and_true]; exact this
theorem atI_mem {α : Type} {xs : List α} {i : Int} {v : α} (h : atI xs i = some v) : v ∈ xs := by
  obtain ⟨j, _, e, _⟩ := atI_get h
  exact List.mem_of_getElem? e

section
variable {F : Fx} {X : Cx} {pos : Pos}
/-! ### places -/
def fIx (d i : D) : Out RV := match d with
  | .lst ds => (match i with
    | .int i => (match atI ds i with
      | some e => .ok (.im e)
      | none => .st)
    | _ => .st)
  | .tup ds => (match i with
    | .int i => (match atI ds i with
      | some e => .ok (.im e)
      | none => .st)
    | _ => .st)
  | .ktp ds => (match i with
    | .int i => (match atI ds i with
      | some e => .ok (.im e)
      | none => .st)
    | _ => .st)
  | .kls ds => (match i with
    | .int i => (match atI ds i with
      | some e => .ok (.im e)
      | none => .st)
    | _ => .st)
  | .str l => (match i with
    | .int i => if l.length ≤ LIM then (match atI l i with
      | some c => .ok (.im (.str [c]))
      | none => .st) else .st
    | _ => .st)
  | d => (do
    let o ← dget d i
    (match o with
      | some e => .ok (.im e)
      | none => .st))
def rIxA (K : PySem.W.Frag) : R2 := fun x y H Q => rIx K x y H Q ∨ ∃ a v, x = .ref a ∧ DGet H a y (some v) ∧ Q v H
theorem r_ix (hu : X.A.units + 64 < cLine) : IxR X (rIxA X.K) := by
  intro value slice pins s σ H x y v u Q I rx ry h hs
  rcases h with h | ⟨a, w, rfl, g, q⟩
  · exact ix_seq value slice pins s σ H x y v u Q I rx ry h hs
  · obtain rfl : v = Value.ref a := rx
    exact tail_any (dict_typeIs I g) PySem.F.slot_dict_getitem.lookup (d_getItem (by omega) I g ry fun w' s' I' r' => ⟨w, H, I', r', q⟩) hs
theorem o_ix (hK : F.W.K = X.K) : Op2 X F (rIxA X.K) fIx := by
  intro δ σ H G d1 d2 x y Q S h1 h2 h
  have dct : SatV F (dget d1 d2 >>= fun o => (match o with
      | some e => Out.ok (RV.im e)
      | none => .st)) δ σ G Q → rIxA X.K x y H Q := fun h => by
    cases e : dget d1 d2 with
    | st => rw [e] at h; exact False.elim h
    | ex c fs =>
      exfalso
      unfold dget at e
      split at e
      · split at e <;> cases e
      · split at e
        · split at e <;> cases e
        · cases e
      · cases e
    | ok o =>
      rw [e] at h
      obtain ⟨a, ov, rfl, g, i1, i2⟩ := dget_ok S.gh h1 h2 e
      cases o with
      | none => exact False.elim h
      | some d =>
        obtain ⟨v, ev, r⟩ := i1 d rfl
        subst ev
        exact .inr ⟨a, v, rfl, g, SatV.im h S r⟩
  cases d1 with
  | lst ds =>
    cases d2 <;> (try exact False.elim h)
    case int i =>
      unfold fIx at h
      dsimp only at h
      cases e : atI ds i with
      | none => rw [e] at h; exact False.elim h
      | some d =>
        rw [e] at h
        obtain ⟨a, xs, rfl, q, r⟩ := h1.lst S.gh
        obtain rfl := h2.int
        obtain ⟨v, hv, rv⟩ := r.nth e
        exact .inl (.inl ⟨_, _, _, _, rfl, rfl, .inl (.inl q), hv, SatV.im h S rv⟩)
  | tup ds =>
    cases d2 <;> (try exact False.elim h)
    case int i =>
      unfold fIx at h
      dsimp only at h
      cases e : atI ds i with
      | none => rw [e] at h; exact False.elim h
      | some d =>
        rw [e] at h
        obtain ⟨a, xs, rfl, q, r⟩ := h1.tup S.gh
        obtain rfl := h2.int
        obtain ⟨v, hv, rv⟩ := r.nth e
        exact .inl (.inr (.inl ⟨_, _, _, _, rfl, rfl, .inl (.inl (S.gh _ _ q)), hv, SatV.im h S rv⟩))
  | ktp ds =>
    cases d2 <;> (try exact False.elim h)
    case int i =>
      unfold fIx at h
      dsimp only at h
      cases e : atI ds i with
      | none => rw [e] at h; exact False.elim h
      | some d =>
        rw [e] at h
        obtain ⟨a, xs, rfl, q, r⟩ := h1.ktp
        obtain rfl := h2.int
        obtain ⟨v, hv, rv⟩ := r.nth e
        exact .inl (.inr (.inl ⟨_, _, _, _, rfl, rfl, by rw [← hK]; exact q, hv, SatV.im h S rv⟩))
  | kls ds =>
    cases d2 <;> (try exact False.elim h)
    case int i =>
      unfold fIx at h
      dsimp only at h
      cases e : atI ds i with
      | none => rw [e] at h; exact False.elim h
      | some d =>
        rw [e] at h
        obtain ⟨a, xs, rfl, q, r⟩ := h1.kls S.gh
        obtain rfl := h2.int
        obtain ⟨v, hv, rv⟩ := r.nth e
        exact .inl (.inl ⟨_, _, _, _, rfl, rfl, by rw [← hK]; exact q, hv, SatV.im h S rv⟩)
  | str l =>
    cases d2 <;> (try exact False.elim h)
    case int i =>
      unfold fIx at h
      dsimp only at h
      by_cases hl : l.length ≤ LIM
      · rw [if_pos hl] at h
        cases e : atI l i with
        | none => rw [e] at h; exact False.elim h
        | some c =>
          rw [e] at h
          obtain ⟨rfl, ha⟩ := h1.str
          obtain rfl := h2.int
          exact .inl (.inr (.inr ⟨_, _, c, rfl, rfl, by rw [mk_len, lim_eq]; exact hl, e, SatV.im h S (.str [c] (asc_of ha (atI_mem e)))⟩))
      · rw [if_neg hl] at h; exact False.elim h
  | dK kvs => exact dct h
  | dT kvs => exact dct h
  | non => exact False.elim h
  | bl b => exact False.elim h
  | int i => exact False.elim h
  | obj t ds => exact False.elim h
  | adr a => exact False.elim h
  | fnc k => exact False.elim h

/-! ### slices -/
def cut {α : Type} (xs : List α) (lo hi : Option Int) : List α := (xs.drop (HT.sIx xs.length 0 lo)).take (HT.sIx xs.length xs.length hi - HT.sIx xs.length 0 lo)
abbrev SO := DS → Out (Option Int × DS)
def SatO (F : Fx) (o : Out (Option Int × DS)) (σ : St) (G : Hp) (Q : Option Int → Hp → Prop) : Prop := match o with
  | .ok (b, δ') => ∀ H' G', SOk F δ' σ H' G' → Same G G' → Q b H'
  | .ex c fs => XAll F c fs
  | .st => False
structure DO_ (F : Fx) (X : Cx) (e : Option Expr) (s : SO) : Prop where
  po : PO X e (fun σ H Q => ∃ δ G, SOk F δ σ H G ∧ SatO F (s δ) σ G Q)
def oNo : SO := fun δ => .ok (none, δ)
def oYes (a : SE) : SO := fun δ => do
  let (r, δ1) ← opd (a δ)
  (match r with
    | .im (.int i) => .ok (some i, δ1)
    | _ => .st)
theorem do_no : DO_ F X none oNo := ⟨⟨fun pins s σ H Q I ⟨δ, G, S, h⟩ => po_none.run pins s σ H Q I (h H G S (Same.refl _))⟩⟩
theorem do_yes {e : Expr} {a : SE} (h : DE F X e a) : DO_ F X (some e) (oYes a) := ⟨⟨fun pins s σ H Q I ⟨δ, G, S, w⟩ => (po_some h.pe).run pins s σ H Q I ⟨δ, G, S, opd_ok (R := fun _ _ _ _ _ => True) (by
  unfold oYes at w
  cases e1 : opd (a δ) with
  | st => rw [e1] at w; exact w
  | ex c fs => rw [e1] at w; exact w
  | ok p =>
    obtain ⟨r, δ1⟩ := p
    rw [e1] at w
    intro x H1 G1 S1 g1 q1
    simp only [ok_bind] at w
    split at w
    · cases q1
      exact ⟨_, rfl, w H1 G1 S1 g1⟩
    · exact w.elim)⟩⟩⟩
def fSl (d : D) (lo hi : Option Int) : Out RV := match d with
  | .lst ds => .ok (.fr (.lst (cut ds lo hi)))
  | .kls ds => .ok (.fr (.lst (cut ds lo hi)))
  | .tup ds => .ok (.im (.tup (cut ds lo hi)))
  | .str l => if l.length ≤ LIM then .ok (.im (.str (cut l lo hi))) else .st
  | _ => .st
def sSl (a : SE) (lo hi : SO) : SE := fun δ => do
  let (ra, δ1) ← opd (a δ)
  let (l, δ2) ← lo δ1
  let (u, δ3) ← hi δ2
  let d ← look δ3 ra
  let r ← fSl d l u
  .ok (r, δ3)
def rSlAny (K : PySem.W.Frag) : V → Option Int → Option Int → Hp → VK → Prop := fun x lo hi H Q => rSlL K x lo hi H Q ∨ rSlA K x lo hi H Q ∨ rSlS x lo hi H Q
theorem r_sl : SlR X (rSlAny X.K) := SlR.or sl_list (SlR.or sl_tupA sl_str)
theorem cut_all {α : Type} (xs : List α) {lo hi : Option Int} (h1 : HT.sIx xs.length 0 lo = 0) (h2 : HT.sIx xs.length xs.length hi = xs.length) : cut xs lo hi = xs := by
  unfold cut; rw [h1, h2]; simp
theorem asc_cut {l : List Nat} (h : asc l = true) (lo hi : Option Int) : asc (cut l lo hi) = true := by
  refine List.all_eq_true.mpr fun c hc => List.all_eq_true.mp h c ?_
  exact List.mem_of_mem_drop (List.mem_of_mem_take hc)
theorem Reps.cut {W : CT} {G : Hp} {ds : List D} {vs : List V} (r : Reps W G ds vs) (lo hi : Option Int) : Reps W G (DI.cut ds lo hi) (cutV vs lo hi) := by
  unfold DI.cut cutV
  rw [← r.length]
  exact (r.drop _).take _
theorem de_sl {e : Expr} {lo hi : Option Expr} {a : SE} {sl sh : SO} {p2} (hK : F.W.K = X.K) (ha : DE F X e a) (hl : DO_ F X lo sl) (hh : DO_ F X hi sh) : DE F X (.Subscript e (.Slice lo hi none p2) pos) (sSl a sl sh) := by
  refine ⟨(pe_slice r_sl ha.pe hl.po hh.po).imp fun σ H Q ⟨δ, G, S, w⟩ => ⟨δ, G, S, opd_ok (R := fun _ _ _ _ _ => True) ?_⟩⟩
  unfold sSl at w
  cases e1 : opd (a δ) with
  | st => rw [e1] at w; exact w
  | ex c fs => rw [e1] at w; exact w
  | ok p =>
    obtain ⟨ra, δ1⟩ := p
    rw [e1] at w
    intro x H1 G1 S1 g1 q1
    simp only [ok_bind] at w
    refine ⟨δ1, G1, S1, ?_⟩
    cases e2 : sl δ1 with
    | st => rw [e2] at w; exact w
    | ex c fs => rw [e2] at w; exact w
    | ok p =>
      obtain ⟨l, δ2⟩ := p
      rw [e2] at w
      intro H2 G2 S2 g2
      simp only [ok_bind] at w
      refine ⟨δ2, G2, S2, ?_⟩
      cases e3 : sh δ2 with
      | st => rw [e3] at w; exact w
      | ex c fs => rw [e3] at w; exact w
      | ok p =>
        obtain ⟨u, δ3⟩ := p
        rw [e3] at w
        intro H3 G3 S3 g3
        simp only [ok_bind] at w
        rcases look_case (δ := δ3) (r := ra) with ⟨d, ed⟩ | ed
        · rw [ed] at w
          simp only [ok_bind] at w
          have v := look_ok S3 (q1.mono (g2.trans g3)) ed
          have gg := (g1.trans g2).trans g3
          have w' : SatV F (fSl d l u) δ3 σ G3 Q := satE_trans gg w
          cases d <;> (try exact False.elim w')
          case lst ds =>
            obtain ⟨b, xs, rfl, q, r⟩ := v.lst S3.gh
            exact .inl ⟨_, _, rfl, .inl (.inl q), fun p hp => SatV.fr w' S3 hp (.lst (r.cut l u))⟩
          case kls ds =>
            obtain ⟨b, xs, rfl, q, r⟩ := v.kls S3.gh
            exact .inl ⟨_, _, rfl, by rw [← hK]; exact q, fun p hp => SatV.fr w' S3 hp (.lst (r.cut l u))⟩
          case tup ds =>
            obtain ⟨b, xs, rfl, q, r⟩ := v.tup S3.gh
            refine .inr (.inl ⟨_, _, rfl, .inl (.inl (S3.gh _ _ q)), fun hw => ?_, fun _ p hp => ?_⟩)
            · have w2 : SatV F (.ok (.im (.tup (cut ds l u)))) δ3 σ G3 Q := w'
              rw [cut_all ds (by rw [r.length]; exact hw.1) (by rw [r.length]; exact hw.2)] at w2
              exact w2.im S3 (.tup q r)
            · exact SatV.imNew w' S3 hp (.tup upd_same ((r.cut l u).mono (same_upd0 (S3.fresh hp))))
          case str z =>
            unfold fSl at w'
            dsimp only at w'
            by_cases hz : z.length ≤ LIM
            · rw [if_pos hz] at w'
              obtain ⟨rfl, ha⟩ := v.str
              refine .inr (.inr ⟨_, rfl, by rw [mk_len, lim_eq]; exact hz, ?_⟩)
              have e : cutS (mk z) l u = mk (cut z l u) := by
                unfold cutS cut
                rw [mk_len]
                rfl
              rw [e]
              exact w'.im S3 (.str _ (asc_cut ha l u))
            · rw [if_neg hz] at w'; exact False.elim w'
        · rw [ed] at w; exact w.elim

/-! ### fields -/
structure WOk (W : CT) : Prop where
  cl : ∀ t C, W.cls t = some C → Cls W.K C
  no : ∀ t C, W.cls t = some C → ∀ f ∈ fieldNames t, NoAttr W.K C f
def fieldOf : List Str → Str → List D → Option D
  | n :: ns, f, d :: ds => if f = n then some d else fieldOf ns f ds
  | _, _, _ => none
theorem field_ok {W : CT} {G : Hp} {f : Str} {d : D} : ∀ {ns : List Str} {fs : List (Str × V)} {ds : List D}, fs.map (·.1) = ns.take ds.length → Reps W G ds (fs.map (·.2)) → fieldOf ns f ds = some d → ∃ v, fs.lookup f = some v ∧ Rep W G d v ∧ f ∈ ns
  | [], _, ds, _, _, h => by cases ds <;> cases h
  | n :: ns, _, [], _, _, h => by cases h
  | n :: ns, [], d' :: ds, e, r, _ => by cases r
  | n :: ns, p :: fs, d' :: ds, e, r, h => by
    rw [List.map_cons] at e r
    rw [List.length_cons, List.take_succ_cons] at e
    cases r with
    | cons r t =>
      unfold fieldOf at h
      by_cases q : f = n
      · rw [if_pos q] at h
        cases h
        refine ⟨p.2, ?_, r, by rw [q]; exact List.mem_cons_self⟩
        have : (f == p.1) = true := by rw [q, ← (List.cons.inj e).1]; exact beq_self_eq_true _
        unfold List.lookup
        rw [this]
      · rw [if_neg q] at h
        obtain ⟨v, i1, i2, i3⟩ := field_ok (List.cons.inj e).2 t h
        refine ⟨v, ?_, i2, List.mem_cons_of_mem _ i3⟩
        have : (f == p.1) = false := beq_eq_false_iff_ne.mpr (by rw [(List.cons.inj e).1]; exact q)
        unfold List.lookup
        rw [this]
        exact i1
theorem VRep.obj {W : CT} {G H : Hp} {t : Nat} {ds : List D} {v : V} (e : Same G H) (h : VRep W G H (.obj t ds) v) : ∃ a C dx fs, v = .ref a ∧ W.cls t = some C ∧ H a = some (.ins C dx fs) ∧ fs.map (·.1) = (fieldNames t).take ds.length ∧ Reps W G ds (fs.map (·.2)) := by
  cases h with
  | of h => cases h with
    | obj hc h k r => exact ⟨_, _, _, _, rfl, hc, e _ _ h, k, r⟩
  | ow h r => cases r with
    | ins hc k r => exact ⟨_, _, _, _, rfl, hc, h, k, r⟩
def sAttr (f : Str) (a : SE) : SE := fun δ => do
  let (r, δ1) ← opd (a δ)
  let o ← look δ1 r
  (match o with
    | .obj t ds => (match fieldOf (fieldNames t) f ds with
      | some d => .ok (.im d, δ1)
      | none => .st)
    | _ => .st)
theorem de_attr {e : Expr} {f : Str} {a : SE} (hK : F.W.K = X.K) (hW : WOk F.W) (h : DE F X e a) (hb : attributeBase e f X.env (eval e X.env) = eval e X.env := by rfl) : DE F X (.Attribute e f pos) (sAttr f a) := by
  refine ⟨(pe_fld h.pe hb).imp fun σ H Q ⟨δ, G, S, w⟩ => ⟨δ, G, S, opd_ok (R := fun _ _ _ _ _ => True) ?_⟩⟩
  unfold sAttr at w
  cases e1 : opd (a δ) with
  | st => rw [e1] at w; exact w
  | ex c fs => rw [e1] at w; exact w
  | ok p =>
    obtain ⟨r, δ1⟩ := p
    rw [e1] at w
    intro x H1 G1 S1 g1 q1
    simp only [ok_bind] at w
    rcases look_case (δ := δ1) (r := r) with ⟨o, eo⟩ | eo
    · rw [eo] at w
      simp only [ok_bind] at w
      split at w
      · split at w
        · rename_i hf
          obtain ⟨b, C, dx, fs, rfl, hc, hh, k, r⟩ := (look_ok S1 q1 eo).obj S1.gh
          obtain ⟨v, i1, i2, i3⟩ := field_ok k r hf
          exact ⟨b, C, dx, fs, v, rfl, hh, by rw [← hK]; exact hW.cl _ C hc, by rw [← hK]; exact hW.no _ C hc f i3, i1, w v H1 G1 S1 g1 i2⟩
        · exact w.elim
      · exact w.elim
    · rw [eo] at w; exact w.elim

/-! ### a < b < c -/
def sChain (f f' : D → D → Out RV) (a b c : SE) : SE := fun δ => do
  let (ra, δ1) ← opd (a δ)
  let (rb, δ2) ← opd (b δ1)
  let da ← look δ2 ra
  let db ← look δ2 rb
  let r ← f da db
  (match r with
    | .im (.bl true) => (do
      let (rc, δ3) ← opd (c δ2)
      let db' ← look δ3 rb
      let dc ← look δ3 rc
      let r' ← f' db' dc
      .ok (r', δ3))
    | .im (.bl false) => .ok (.im (.bl false), δ2)
    | _ => .st)
theorem chain_imp {r r' : R2} {f f' : D → D → Out RV} (ho : Op2 X F r f) (ho' : Op2 X F r' f') (a b c : SE) (σ : St) (H : Hp) (Q : VK) : tE F (sChain f f' a b c) σ H Q → tChain r r' (tE F a) (tE F b) (tE F c) σ H Q := by
  rintro ⟨δ, G, S, h⟩
  refine ⟨δ, G, S, opd_ok (R := fun _ _ _ _ _ => True) ?_⟩
  unfold sChain at h
  cases e1 : opd (a δ) with
  | st => rw [e1] at h; exact h
  | ex c fs => rw [e1] at h; exact h
  | ok p =>
    obtain ⟨ra, δ1⟩ := p
    rw [e1] at h
    intro x H1 G1 S1 g1 q1
    refine ⟨δ1, G1, S1, opd_ok (R := fun _ _ _ _ _ => True) ?_⟩
    simp only [ok_bind] at h
    cases e2 : opd (b δ1) with
    | st => rw [e2] at h; exact h
    | ex c fs => rw [e2] at h; exact h
    | ok p =>
      obtain ⟨rb, δ2⟩ := p
      rw [e2] at h
      intro y H2 G2 S2 g2 q2
      simp only [ok_bind] at h
      rcases look_case (δ := δ2) (r := ra) with ⟨da, ea⟩ | ea
      · rcases look_case (δ := δ2) (r := rb) with ⟨db, eb⟩ | eb
        · rw [ea, eb] at h
          simp only [ok_bind] at h
          refine ho δ2 σ H2 G2 da db x y _ S2 (look_ok S2 (q1.mono g2) ea) (look_ok S2 q2 eb) ?_
          have gg := g1.trans g2
          cases ef : f da db with
          | st => rw [ef] at h; exact h
          | ex c fs => rw [ef] at h; exact h
          | ok r =>
            rw [ef] at h
            simp only [ok_bind] at h
            show SatE F (.ok (r, δ2)) σ G2 _
            intro z H3 G3 S3 g3 q3
            split at h
            · obtain rfl : z = V.bl true := by cases q3; rfl
              refine ⟨true, rfl, iteT ⟨δ2, G3, S3, opd_ok (R := fun _ _ _ _ _ => True) ?_⟩⟩
              cases e3 : opd (c δ2) with
              | st => rw [e3] at h; exact h
              | ex c fs => rw [e3] at h; exact h
              | ok p =>
                obtain ⟨rc, δ3⟩ := p
                rw [e3] at h
                intro w H4 G4 S4 g4 q4
                simp only [ok_bind] at h
                rcases look_case (δ := δ3) (r := rb) with ⟨db', eb'⟩ | eb'
                · rcases look_case (δ := δ3) (r := rc) with ⟨dc, ec⟩ | ec
                  · rw [eb', ec] at h
                    simp only [ok_bind] at h
                    refine ho' δ3 σ H4 G4 db' dc y w Q S4 (look_ok S4 (q2.mono (g3.trans g4)) eb') (look_ok S4 q4 ec) ?_
                    unfold SatV
                    cases ef' : f' db' dc with
                    | st => rw [ef'] at h; exact h
                    | ex c fs => rw [ef'] at h; exact h
                    | ok r' =>
                      rw [ef'] at h
                      exact fun v H' G' S' g' r'' => h v H' G' S' (((gg.trans g3).trans g4).trans g') r''
                  · rw [eb', ec] at h; exact h.elim
                · rw [eb'] at h; exact h.elim
            · obtain rfl : z = V.bl false := by cases q3; rfl
              exact ⟨false, rfl, iteF (h _ H3 G3 S3 (gg.trans g3) (.bl false))⟩
            · exact h.elim
        · rw [ea, eb] at h; exact h.elim
      · rw [ea] at h; exact h.elim
theorem de_chain {op op' : CmpOp} {r r' : R2} {f f' : D → D → Out RV} {a b c : Expr} {sa sb sc : SE} (hr : OpR X (compareOp op) r) (ho : Op2 X F r f) (hr' : OpR X (compareOp op') r') (ho' : Op2 X F r' f') (ha : DE F X a sa) (hb : DE F X b sb) (hc : DE F X c sc)
    (hm : lastMarks [op, op'] [b, c] = false := by with_unfolding_all rfl) : DE F X (.Compare a [op, op'] [b, c] pos) (sChain f f' sa sb sc) := ⟨(pe_chain hr hr' ha.pe hb.pe hc.pe hm).imp (chain_imp ho ho' sa sb sc)⟩
theorem dt_chain {op op' : CmpOp} {r r' : R2} {f f' : D → D → Out RV} {a b c : Expr} {sa sb sc : SE} (hr : OpR X (compareOp op) r) (ho : Op2 X F r f) (hr' : OpR X (compareOp op') r') (ho' : Op2 X F r' f') (ha : DE F X a sa) (hb : DE F X b sb) (hc : DE F X c sc)
    (hm : lastMarks [op, op'] [b, c] = false := by with_unfolding_all rfl) : DT F X (.Compare a [op, op'] [b, c] pos) (tVal (sChain f f' sa sb sc)) := ⟨(pt_chain hr hr' ha.pe hb.pe hc.pe hm).imp fun σ H Q h => chain_imp ho ho' sa sb sc σ H _ (tval_imp _ σ H Q h)⟩
/-- - a -/
def sNeg (a : SE) : SE := fun δ => do
  let (r, δ1) ← opd (a δ)
  (match r with
    | .im (.int i) => .ok (.im (.int (-i)), δ1)
    | _ => .st)
theorem de_neg {e : Expr} {a : SE} (h : DE F X e a) : DE F X (.UnaryOp .USub e pos) (sNeg a) := by
  refine ⟨(pe_un un_neg h.pe).imp fun σ H Q ⟨δ, G, S, w⟩ => ⟨δ, G, S, opd_ok (R := fun _ _ _ _ _ => True) ?_⟩⟩
  unfold sNeg at w
  cases e1 : opd (a δ) with
  | st => rw [e1] at w; exact w
  | ex c fs => rw [e1] at w; exact w
  | ok p =>
    obtain ⟨r, δ1⟩ := p
    rw [e1] at w
    intro x H1 G1 S1 g1 q1
    simp only [ok_bind] at w
    split at w
    · cases q1
      exact ⟨_, rfl, w _ H1 G1 S1 g1 (.int _)⟩
    · exact w.elim
end
end L2.DI

/-! DI9: what changes an own list or dict; built-in calls. -/
namespace L2.DI
open PySem PySem.Spec PyProof.Rows

section
variable {F : Fx} {X : Cx} {pos : Pos}
/-! ### o.append(e), o.extend(e), o.pop(), o.pop(e): o the own list of slot i -/
/-- a method of the own list of slot i, its one argument frozen -/
def sOwn1 (i : Nat) (f : List D → D → Option (RV × List D)) (a : SE) : SE := fun δ => match δ[i]? with
  | some (.ow (.lst _)) => (do
    let (d, δ1) ← frz (a δ)
    (match δ1[i]? with
      | some (.ow (.lst ds)) => (match f ds d with
        | some (r, ds') => .ok (r, δ1.set i (.ow (.lst ds')))
        | none => .st)
      | _ => .st))
  | _ => .st
theorem nil_args {es : List D} {W : CT} {G : Hp} {vs : List V} {d : D} (h : Reps W G [d] vs) : ∃ v, vs = [v] ∧ Rep W G d v := by
  cases h with
  | cons h t => cases t; exact ⟨_, rfl, h⟩
/-- by its rule: what the list is behind it, what comes out -/
theorem own1_imp {i : Nat} {r : V → List V → Hp → VK → Prop} {f : List D → D → Option (RV × List D)} (T : String) (hT : T = "list")
    (hr : ∀ (δ : DS) (σ : St) (H G : Hp) (l : Addr) (xs : List V) (ds ds' : List D) (d : D) (v : V) (rv : RV) (Q : VK), SOk F δ σ H G → H l = some (.lst xs) → Reps F.W G ds xs → Rep F.W G d v → f ds d = some (rv, ds') →
      (∀ w xs', Reps F.W G ds' xs' → (∀ c, rv ≠ .fr c) → (∀ j, rv ≠ .bo j) → (∀ e, rv = .im e → Rep F.W G e w) → Q w (upd H l (.lst xs'))) → r (.ref l) [v] H Q)
    (hf : ∀ ds d rv ds', f ds d = some (rv, ds') → ∃ e, rv = .im e)
    (a : SE) (σ : St) (H : Hp) (Q : VK) : tE F (sOwn1 i f a) σ H Q → tBM F.W.K T r (tVar i) (tF F (fCons a fNil)) σ H Q := by
  subst hT
  rintro ⟨δ, G, S, h⟩
  unfold sOwn1 at h
  cases ei : δ[i]? with
  | none => rw [ei] at h; exact False.elim h
  | some sv =>
    rw [ei] at h
    cases sv with
    | no => exact False.elim h
    | im d => exact False.elim h
    | ow c =>
      cases c <;> (try exact False.elim h)
      case lst ds0 =>
        dsimp only at h
        obtain ⟨l, o, h1, h2, h3, h4, h5⟩ := S.ow i _ ei
        cases h3 with
        | lst r3 =>
          refine ⟨.ref l, h1, .inl ⟨rfl, _, .inl (.inl h2)⟩, δ, G, S, ?_⟩
          unfold fCons
          cases e1 : frz (a δ) with
          | st => rw [e1] at h; exact h
          | ex c fs => rw [e1] at h; exact h
          | ok p =>
            obtain ⟨d, δ1⟩ := p
            rw [e1] at h
            simp only [ok_bind, fNil] at h ⊢
            intro vs H1 G1 S1 g1 q1
            obtain ⟨v, rfl, rv⟩ := nil_args (es := []) q1
            split at h
            · rename_i ds ei1
              cases ef : f ds d with
              | none => rw [ef] at h; exact False.elim h
              | some p =>
                obtain ⟨r', ds'⟩ := p
                rw [ef] at h
                dsimp only at h
                obtain ⟨l', o', k1, k2, k3, k4, k5⟩ := S1.ow i _ ei1
                rw [h1] at k1
                cases k1
                cases k3 with
                | lst r4 =>
                  obtain ⟨e, rfl⟩ := hf _ _ _ _ ef
                  refine hr δ1 σ H1 G1 l _ ds ds' d v _ Q S1 k2 r4 rv ef fun w xs' rr _ _ hw => ?_
                  exact h w _ G1 (S1.write ei1 h1 (.lst rr)) g1 (hw e rfl)
            · exact False.elim h
theorem de_own1 {i : Nat} {id : String} {name x : Str} {p apos cpos : Pos} {e : Expr} {r : V → List V → Hp → VK → Prop} {f : List D → D → Option (RV × List D)} {a : SE} (hK : F.W.K = X.K) (slot : Slot "list" name id) (hty : typeOf (.builtin id) = pure (.type "method_descriptor")) (hm : MtR X id r)
    (hr : ∀ (δ : DS) (σ : St) (H G : Hp) (l : Addr) (xs : List V) (ds ds' : List D) (d : D) (v : V) (rv : RV) (Q : VK), SOk F δ σ H G → H l = some (.lst xs) → Reps F.W G ds xs → Rep F.W G d v → f ds d = some (rv, ds') →
      (∀ w xs', Reps F.W G ds' xs' → (∀ c, rv ≠ .fr c) → (∀ j, rv ≠ .bo j) → (∀ e, rv = .im e → Rep F.W G e w) → Q w (upd H l (.lst xs'))) → r (.ref l) [v] H Q)
    (hf : ∀ ds d rv ds', f ds d = some (rv, ds') → ∃ e, rv = .im e) (ho : PE X (.Name x p) (tVar i)) (ha : DE F X e a)
    (hbase : attributeBase (.Name x p) name X.env (eval (.Name x p) X.env) = eval (.Name x p) X.env := by rfl)
    (hfew : ((backTo cpos (starEach [e] X.env)).all (fun x => !x.1) && (backToKw cpos (keywordEach [] X.env)).all (fun x => x.1.isSome)
      && decide (([e] : List Expr).length + ([] : List Keyword).length + (if ([] : List Keyword).isEmpty then 0 else 1) < 30)) = true := by rfl)
    (hline : (apos.endLine == cpos.line) = true := by rfl) (hs : starEach [e] X.env = (false, eval e X.env) :: starEach [] X.env := by rfl) (hplain : (backTo cpos (starEach [] X.env)).any (·.1) = false := by rfl) :
    DE F X (.Call (.Attribute (.Name x p) name apos) [e] [] cpos) (sOwn1 i f a) :=
  ⟨(pe_bm PySem.F.plainAttrs_list slot hty hm ho (df_cons ha df_nil hs).pa hbase hfew hline hs hplain).imp fun σ H Q h => by
    rw [← hK]; exact own1_imp "list" rfl hr hf a σ H Q h⟩
def fApp (ds : List D) (d : D) : Option (RV × List D) := if ds.length < LIM then some (.im .non, ds ++ [d]) else none
theorem de_append {i : Nat} {x : Str} {p apos cpos : Pos} {e : Expr} {a : SE} (hK : F.W.K = X.K) (ho : PE X (.Name x p) (tVar i)) (ha : DE F X e a)
    (hbase : attributeBase (.Name x p) "append" X.env (eval (.Name x p) X.env) = eval (.Name x p) X.env := by rfl)
    (hfew : ((backTo cpos (starEach [e] X.env)).all (fun x => !x.1) && (backToKw cpos (keywordEach [] X.env)).all (fun x => x.1.isSome)
      && decide (([e] : List Expr).length + ([] : List Keyword).length + (if ([] : List Keyword).isEmpty then 0 else 1) < 30)) = true := by rfl)
    (hline : (apos.endLine == cpos.line) = true := by rfl) (hs : starEach [e] X.env = (false, eval e X.env) :: starEach [] X.env := by rfl) (hplain : (backTo cpos (starEach [] X.env)).any (·.1) = false := by rfl) :
    DE F X (.Call (.Attribute (.Name x p) "append" apos) [e] [] cpos) (sOwn1 i fApp a) := by
  refine de_own1 hK PySem.F.slot_list_append PySem.F.type_list_append mt_append (fun δ σ H G l xs ds ds' d v rv Q S hl r rd hf k => ?_) (fun ds d rv ds' h => ?_) ho ha hbase hfew hline hs hplain
  · unfold fApp at hf
    split at hf
    · rename_i hlt
      cases hf
      exact ⟨l, xs, v, rfl, rfl, hl, by rw [← r.length, lim_eq]; exact hlt, k _ _ (r.snoc rd) (fun c z => by cases z) (fun j z => by cases z) fun e z => by cases z; exact .non⟩
    · cases hf
  · unfold fApp at h
    split at h
    · cases h; exact ⟨_, rfl⟩
    · cases h
def fExt (ds : List D) (d : D) : Option (RV × List D) := match d with
  | .lst es => if ds.length + es.length ≤ LIM then some (.im .non, ds ++ es) else none
  | _ => none
theorem de_extend {i : Nat} {x : Str} {p apos cpos : Pos} {e : Expr} {a : SE} (hK : F.W.K = X.K) (ho : PE X (.Name x p) (tVar i)) (ha : DE F X e a)
    (hbase : attributeBase (.Name x p) "extend" X.env (eval (.Name x p) X.env) = eval (.Name x p) X.env := by rfl)
    (hfew : ((backTo cpos (starEach [e] X.env)).all (fun x => !x.1) && (backToKw cpos (keywordEach [] X.env)).all (fun x => x.1.isSome)
      && decide (([e] : List Expr).length + ([] : List Keyword).length + (if ([] : List Keyword).isEmpty then 0 else 1) < 30)) = true := by rfl)
    (hline : (apos.endLine == cpos.line) = true := by rfl) (hs : starEach [e] X.env = (false, eval e X.env) :: starEach [] X.env := by rfl) (hplain : (backTo cpos (starEach [] X.env)).any (·.1) = false := by rfl) :
    DE F X (.Call (.Attribute (.Name x p) "extend" apos) [e] [] cpos) (sOwn1 i fExt a) := by
  refine de_own1 hK PySem.F.slot_list_extend PySem.F.type_list_extend mt_extend (fun δ σ H G l xs ds ds' d v rv Q S hl r rd hf k => ?_) (fun ds d rv ds' h => ?_) ho ha hbase hfew hline hs hplain
  · unfold fExt at hf
    split at hf
    · split at hf
      · rename_i es hlt
        cases hf
        cases rd with
        | lst hb rb =>
          exact ⟨l, _, xs, _, rfl, rfl, hl, S.gh _ _ hb, by rw [← r.length, ← rb.length, lim_eq]; exact hlt, k _ _ (r.append rb) (fun c z => by cases z) (fun j z => by cases z) fun e z => by cases z; exact .non⟩
      · cases hf
    · cases hf
  · unfold fExt at h
    split at h
    · split at h
      · cases h; exact ⟨_, rfl⟩
      · cases h
    · cases h
def fPopAt (ds : List D) (d : D) : Option (RV × List D) := match d with
  | .int i => if -(2 ^ 63) ≤ i ∧ i < 2 ^ 63 then (match seqIndex? i ds.length with
    | some k => (match ds[k]? with
      | some e => some (.im e, ds.eraseIdx k)
      | none => none)
    | none => none) else none
  | _ => none
theorem de_popAt {i : Nat} {x : Str} {p apos cpos : Pos} {e : Expr} {a : SE} (hK : F.W.K = X.K) (ho : PE X (.Name x p) (tVar i)) (ha : DE F X e a)
    (hbase : attributeBase (.Name x p) "pop" X.env (eval (.Name x p) X.env) = eval (.Name x p) X.env := by rfl)
    (hfew : ((backTo cpos (starEach [e] X.env)).all (fun x => !x.1) && (backToKw cpos (keywordEach [] X.env)).all (fun x => x.1.isSome)
      && decide (([e] : List Expr).length + ([] : List Keyword).length + (if ([] : List Keyword).isEmpty then 0 else 1) < 30)) = true := by rfl)
    (hline : (apos.endLine == cpos.line) = true := by rfl) (hs : starEach [e] X.env = (false, eval e X.env) :: starEach [] X.env := by rfl) (hplain : (backTo cpos (starEach [] X.env)).any (·.1) = false := by rfl) :
    DE F X (.Call (.Attribute (.Name x p) "pop" apos) [e] [] cpos) (sOwn1 i fPopAt a) := by
  refine de_own1 hK PySem.F.slot_list_pop PySem.F.type_list_pop mt_popAt (fun δ σ H G l xs ds ds' d v rv Q S hl r rd hf k => ?_) (fun ds d rv ds' h => ?_) ho ha hbase hfew hline hs hplain
  · unfold fPopAt at hf
    split at hf
    · split at hf
      · rename_i i hb
        split at hf
        · rename_i k' ek
          split at hf
          · rename_i e ee
            cases hf
            cases rd
            obtain ⟨w, ew, rw'⟩ := (r.get k').1 _ ee
            exact ⟨l, xs, i, k', w, rfl, rfl, hl, hb.1, hb.2, by rw [← r.length]; exact ek, ew, k _ _ (r.eraseIdx k') (fun c z => by cases z) (fun j z => by cases z) fun e z => by cases z; exact rw'⟩
          · cases hf
        · cases hf
      · cases hf
    · cases hf
  · unfold fPopAt at h
    split at h
    · split at h
      · split at h
        · split at h
          · cases h; exact ⟨_, rfl⟩
          · cases h
        · cases h
      · cases h
    · cases h

/-! ### o[e] = .. -/
/-- the own list of slot i, as a target -/
def gIx (i : Nat) (b : SE) : SG := fun d δ => match δ[i]? with
  | some (.ow (.lst _)) => (do
    let (r, δ1) ← opd (b δ)
    (match r with
      | .im (.int k) => (match δ1[i]? with
        | some (.ow (.lst ds)) => (match ixN ds.length k with
          | some j => .ok (δ1.set i (.ow (.lst (ds.set j d))))
          | none => .st)
        | _ => .st)
      | _ => .st))
  | _ => .st
theorem dg_ix {i : Nat} {x : Str} {p pos' : Pos} {e : Expr} {b : SE} (ho : PE X (.Name x p) (tVar i)) (hb : DE F X e b)
    (ha : ∀ v, assign (.Subscript (.Name x p) e pos') X.env v = (do
      let ov ← holding [v] (eval (.Name x p) X.env)
      let iv ← holding [v, ov] (eval e X.env)
      standAt pos'
      holding [v, ov, iv] (setItem ov iv v)
      release [v, ov, iv] []) := by intro _; rfl) : DG F X (.Subscript (.Name x p) e pos') (gIx i b) [] := by
  refine ⟨(pg_sub ho hb.pe set_list ha).imp fun v σ H Q ⟨δ, G, d, S, rd, h⟩ => ?_⟩
  unfold gIx at h
  cases ei : δ[i]? with
  | none => rw [ei] at h; exact False.elim h
  | some sv =>
    rw [ei] at h
    cases sv with
    | no => exact False.elim h
    | im d => exact False.elim h
    | ow c =>
      cases c <;> (try exact False.elim h)
      case lst ds0 =>
        dsimp only at h
        obtain ⟨l, o, h1, h2, h3, h4, h5⟩ := S.ow i _ ei
        refine ⟨.ref l, h1, δ, G, S, opd_ok (R := fun _ _ _ _ _ => True) ?_⟩
        cases e1 : opd (b δ) with
        | st => rw [e1] at h; exact h
        | ex c fs => rw [e1] at h; exact h
        | ok pr =>
          obtain ⟨r, δ1⟩ := pr
          rw [e1] at h
          simp only [ok_bind] at h
          intro y H1 G1 S1 g1 q1
          split at h
          · rename_i k
            cases q1
            split at h
            · rename_i ds ei1
              split at h
              · rename_i j ej
                obtain ⟨l', o', k1, k2, k3, k4, k5⟩ := S1.ow i _ ei1
                rw [h1] at k1
                cases k1
                cases k3 with
                | lst r4 =>
                  refine ⟨l, _, k, j, rfl, rfl, k2, by rw [← r4.length]; exact ej, ?_⟩
                  exact h σ _ G1 (S1.write ei1 h1 (.lst (r4.set j (rd.mono g1)))) g1 (Only.refl _ _)
              · exact False.elim h
            · exact False.elim h
          · exact False.elim h

/-! ### d[e] = v: d the own dict of slot i -/
def dput (c k v : D) : Out D := match c with
  | .dK kvs => (match keyOf k with
    | some k => if kvs.length < LIM then .ok (.dK (ptD kvs k v)) else .st
    | none => .st)
  | .dT kvs => (match k with
    | .tup ds => (match keysOf ds with
      | some ks => if kvs.length < LIM then .ok (.dT (ptD kvs ks v)) else .st
      | none => .st)
    | _ => .st)
  | _ => .st
def sPut (i : Nat) (b v : SE) : SS := fun δ => do
  let (dv, δ1) ← frz (v δ)
  (match δ1[i]? with
    | some (.ow _) => (do
      let (r, δ2) ← opd (b δ1)
      let k ← look δ2 r
      (match δ2[i]? with
        | some (.ow c) => (do
          let c' ← dput c k dv
          .ok (.nx, δ2.set i (.ow c')))
        | _ => .st))
    | _ => .st)
theorem dput_ok {W : CT} {G H : Hp} (e : Same G H) {c k d c' : D} {a : Addr} {o : HO} {y v : V} (ha : H a = some o) (h1 : CRep W G c o) (h2 : VRep W G H k y) (rd : Rep W G d v) (h : dput c k d = .ok c') : ∃ o', DPut H a y v (upd H a o') ∧ CRep W G c' o' := by
  cases h1 with
  | lst r => cases h
  | ins _ _ _ => cases h
  | @dK xs kvs k1 r =>
    unfold dput at h
    dsimp only at h
    cases ek : keyOf k with
    | none => rw [ek] at h; cases h
    | some k' =>
      rw [ek] at h
      dsimp only at h
      split at h
      · rename_i hl
        cases h
        obtain rfl := keyOf_rep h2 ek
        have t : TRep W G kvs xs := ⟨k1, r⟩
        have t' := t.put k' rd
        exact ⟨_, DPut.k ha (by rw [← t.length, lim_eq]; exact hl), .dK t'.1 t'.2⟩
      · cases h
  | @dT xs kvs k1 r =>
    unfold dput at h
    cases k with
    | tup ds =>
      dsimp only at h
      cases ek : keysOf ds with
      | none => rw [ek] at h; cases h
      | some ks =>
        rw [ek] at h
        dsimp only at h
        split at h
        · rename_i hl
          cases h
          obtain ⟨b, ys, rfl, z, rr⟩ := h2.tup e
          obtain rfl := keysOf_rep rr ek
          have t : TRep W G kvs xs := ⟨k1, r⟩
          have t' := t.put ks rd
          exact ⟨_, DPut.t ha (e _ _ z) (by rw [← t.length, lim_eq]; exact hl), .dT t'.1 t'.2⟩
        · cases h
    | _ => cases h
theorem dput_case {c k d : D} : (∃ c', dput c k d = .ok c') ∨ dput c k d = .st := by
  unfold dput
  split
  · split
    · split
      · exact .inl ⟨_, rfl⟩
      · exact .inr rfl
    · exact .inr rfl
  · split
    · split
      · split
        · exact .inl ⟨_, rfl⟩
        · exact .inr rfl
      · exact .inr rfl
    · exact .inr rfl
  · exact .inr rfl
theorem ds_put {pz : Option Addr} {i : Nat} {x : Str} {p pos' : Pos} {e v : Expr} {b sv : SE} (hu : X.A.units + 1 < cLine) (ho : PE X (.Name x p) (tVar i)) (hb : DE F X e b) (hv : DE F X v sv) (hs : swapsWith v (some (.Subscript (.Name x p) e pos')) pos.line X.env = pure false := by rfl) :
    DSt pz F X (.Assign [.Subscript (.Name x p) e pos'] v pos) (sPut i b sv) := by
  refine ⟨(ps_dput hu ho hb.pe hv.pe hs).imp fun D σ H ⟨δ, G, S, z0, h⟩ => ⟨δ, G, S, frz_ok ?_⟩⟩
  unfold sPut at h
  cases e1 : frz (sv δ) with
  | st => rw [e1] at h; exact h
  | ex c fs => rw [e1] at h; exact h
  | ok p =>
    obtain ⟨dv, δ1⟩ := p
    rw [e1] at h
    simp only [ok_bind] at h
    intro u H1 G1 S1 g1 r1
    split at h
    · rename_i c0 ei
      obtain ⟨l, o, h1, h2, h3, h4, h5⟩ := S1.ow i _ ei
      refine ⟨.ref l, h1, δ1, G1, S1, opd_ok (R := fun _ _ _ _ _ => True) ?_⟩
      cases e2 : opd (b δ1) with
      | st => rw [e2] at h; exact h
      | ex c fs => rw [e2] at h; exact h
      | ok p =>
        obtain ⟨r, δ2⟩ := p
        rw [e2] at h
        simp only [ok_bind] at h
        intro y H2 G2 S2 g2 q2
        rcases look_case (δ := δ2) (r := r) with ⟨k, ek⟩ | ek
        · rw [ek] at h
          simp only [ok_bind] at h
          split at h
          · rename_i c ei2
            obtain ⟨l', o', k1, k2, k3, k4, k5⟩ := S2.ow i _ ei2
            rw [h1] at k1
            cases k1
            rcases dput_case (c := c) (k := k) (d := dv) with ⟨c', ec⟩ | ec
            · rw [ec] at h
              obtain ⟨o2, d2, r2⟩ := dput_ok S2.gh k2 k3 (look_ok S2 q2 ek) (r1.mono g2) ec
              exact ⟨l, _, rfl, d2, h σ _ G2 (S2.write ei2 h1 r2) (g1.trans g2) z0⟩
            · rw [ec] at h; exact False.elim h
          · exact False.elim h
        · rw [ek] at h; exact False.elim h
    · exact False.elim h
/-- {} -/
def sDnK : SE := fun δ => .ok (.fr (.dK []), δ)
def sDnT : SE := fun δ => .ok (.fr (.dT []), δ)
theorem de_dnK : DE F X (.Dict [] [] pos) sDnK := ⟨pe_dnewK.imp fun σ H Q ⟨δ, G, S, h⟩ p hp => SatV.fr (c := .dK []) h S hp (.dK rfl .nil)⟩
theorem de_dnT : DE F X (.Dict [] [] pos) sDnT := ⟨pe_dnewT.imp fun σ H Q ⟨δ, G, S, h⟩ p hp => SatV.fr (c := .dT []) h S hp (.dT rfl .nil)⟩
/-- c.get(k), c a dict wherever it stands -/
def isDct : D → Bool
  | .dK _ => true
  | .dT _ => true
  | _ => false
def sGet1 (a b : SE) : SE := fun δ => do
  let (ra, δ1) ← opd (a δ)
  let c1 ← look δ1 ra
  if isDct c1 = true then (do
    let (rb, δ2) ← opd (b δ1)
    let c ← look δ2 ra
    let k ← look δ2 rb
    let o ← dget c k
    .ok (.im (o.getD .non), δ2)) else .st
theorem isD_of {W : CT} {G H : Hp} (e : Same G H) {c : D} {x : V} (h : VRep W G H c x) (hc : isDct c = true) : ∃ a, x = .ref a ∧ IsD H a := by
  cases c with
  | dK kvs => obtain ⟨a, xs, rfl, q, _⟩ := h.dK e; exact ⟨a, rfl, .inl ⟨_, .inl q⟩⟩
  | dT kvs => obtain ⟨a, xs, rfl, q, _⟩ := h.dT e; exact ⟨a, rfl, .inr ⟨_, .inl q⟩⟩
  | _ => cases hc
theorem dget_case {c k : D} : (∃ o, dget c k = .ok o) ∨ dget c k = .st := by
  unfold dget
  split
  · split
    · exact .inl ⟨_, rfl⟩
    · exact .inr rfl
  · split
    · split
      · exact .inl ⟨_, rfl⟩
      · exact .inr rfl
    · exact .inr rfl
  · exact .inr rfl
theorem de_get1 {o e : Expr} {apos cpos : Pos} {a b : SE} (hu : X.A.units + 1 < cLine) (ha : DE F X o a) (hb : DE F X e b) (m : M1 X o "get" apos e cpos) : DE F X (.Call (.Attribute o "get" apos) [e] [] cpos) (sGet1 a b) := by
  refine ⟨(pe_dget1 hu ha.pe hb.pe m).imp fun σ H Q ⟨δ, G, S, h⟩ => ⟨δ, G, S, opd_ok (R := fun _ _ _ _ _ => True) ?_⟩⟩
  unfold sGet1 at h
  cases e1 : opd (a δ) with
  | st => rw [e1] at h; exact h
  | ex c fs => rw [e1] at h; exact h
  | ok p =>
    obtain ⟨ra, δ1⟩ := p
    rw [e1] at h
    simp only [ok_bind] at h
    intro x H1 G1 S1 g1 q1
    rcases look_case (δ := δ1) (r := ra) with ⟨c1, ec1⟩ | ec1
    · rw [ec1] at h
      simp only [ok_bind] at h
      by_cases hc : isDct c1 = true
      · rw [if_pos hc] at h
        obtain ⟨l, rfl, hd⟩ := isD_of S1.gh (look_ok S1 q1 ec1) hc
        refine ⟨l, rfl, hd, δ1, G1, S1, opd_ok (R := fun _ _ _ _ _ => True) ?_⟩
        cases e2 : opd (b δ1) with
        | st => rw [e2] at h; exact h
        | ex c fs => rw [e2] at h; exact h
        | ok p =>
          obtain ⟨rb, δ2⟩ := p
          rw [e2] at h
          simp only [ok_bind] at h
          intro y H2 G2 S2 g2 q2
          rcases look_case (δ := δ2) (r := ra) with ⟨c, ec⟩ | ec
          · rcases look_case (δ := δ2) (r := rb) with ⟨k, ek⟩ | ek
            · rw [ec, ek] at h
              simp only [ok_bind] at h
              rcases dget_case (c := c) (k := k) with ⟨o, eo⟩ | eo
              · rw [eo] at h
                obtain ⟨l', ov, el, g, i1, i2⟩ := dget_ok S2.gh (look_ok S2 (q1.mono g2) ec) (look_ok S2 q2 ek) eo
                cases el
                refine ⟨ov, g, ?_⟩
                cases o with
                | none => rw [i2 rfl]; exact h _ H2 G2 S2 (g1.trans g2) .non
                | some d =>
                  obtain ⟨v, ev, r⟩ := i1 d rfl
                  rw [ev]
                  exact h _ H2 G2 S2 (g1.trans g2) r
              · rw [eo] at h; exact False.elim h
            · rw [ec, ek] at h; exact False.elim h
          · rw [ec] at h; exact False.elim h
      · rw [if_neg hc] at h; exact False.elim h
    · rw [ec1] at h; exact False.elim h
end
end L2.DI

/-! DIA: defs whose first argument changes; new instances; the rule of a def; several names stored at once. -/
namespace L2.DI
open PySem PySem.Spec PyProof.Rows

/-- without a -/
def wo (H : Hp) (a : Addr) : Hp := fun b => if b = a then none else H b
theorem wo_at {H : Hp} {a : Addr} : wo H a a = none := by unfold wo; rw [if_pos rfl]
theorem wo_ne {H : Hp} {a b : Addr} (h : b ≠ a) : wo H a b = H b := by unfold wo; rw [if_neg h]
theorem wo_some {H : Hp} {a b : Addr} {o : HO} (h : wo H a b = some o) : b ≠ a ∧ H b = some o := by
  by_cases e : b = a
  · rw [e, wo_at] at h; cases h
  · rw [wo_ne e] at h; exact ⟨e, h⟩
theorem TbO.wo {T : List (Addr × Str)} {B H G : Hp} {a : Addr} {o : HO} (t : TbO T B H G) (h : H a = some o) (n : NX o) : LamX.Tabs T (DI.wo H a) := fun p hp => by
  obtain ⟨ps, h1, h2, h3⟩ := t.1 p hp
  refine ⟨ps, by rw [wo_ne (t.ne hp h n.1)]; exact h1, h2, fun pos cv hc => ?_⟩
  obtain ⟨c, e1, e2⟩ := h3 pos cv hc
  refine ⟨c, e1, ?_⟩
  have : c ≠ a := fun e => by
    rw [e, h] at e2
    exact n.2 _ (Option.some.inj e2)
  rw [wo_ne this]; exact e2
/-- the end of a call whose first argument stands at a -/
def SatB (W : CT) (hot : Bool) (a : Addr) (B G0 : Hp) (o : Out (RV × D)) (Q : VK) (E : XK) : Prop := match o with
  | .ok (r, c') => ∀ v H' G' o', Same B H' → Same G0 G' → Same G' H' → (∀ b ob, B b = some ob → NT ob → G0 b = none → G' b = none) → H' a = some o' → CRep W G' c' o' → G' a = none →
      (match r with
        | .im d => Rep W G' d v
        | .fr c => ∃ p o, v = V.ref p ∧ H' p = some o ∧ CRep W G' c o ∧ G' p = none ∧ B p = none ∧ p ≠ a
        | .bo _ => False) → Q v H'
  | .ex c fs => XAll ⟨W, B, G0, E, hot, []⟩ c fs
  | .st => False
/-- a def's promise: its first argument is a list, a dict, an instance that it may change -/
def spB (W : CT) (hot : Bool) (n : Nat) (sem : D → List D → Out (RV × D)) : Sp := fun vs H Q E => vs.length = n ∧ ∃ a o c vs' ds G, vs = .ref a :: vs' ∧ H a = some o ∧ CRep W G c o ∧ G a = none ∧ Same G H ∧ Reps W G ds vs' ∧ SatB W hot a (wo H a) G (sem c ds) Q E
section
variable {F : Fx} {X : Cx} {pos : Pos} {δ : DS} {σ : St} {H G : Hp}
theorem SOk.afterB (S : SOk F δ σ H G) {i : Nat} {c c' : D} {a : Addr} {H' G' : Hp} {o' : HO} (hi : δ[i]? = some (.ow c)) (ha : σ[i]? = some (some (.ref a))) (h1 : Same (wo H a) H') (h2 : Same G G') (h3 : Same G' H') (h4 : ∀ b ob, wo H a b = some ob → NT ob → G b = none → G' b = none)
    (h5 : H' a = some o') (h6 : CRep F.W G' c' o') (h7 : G' a = none) (h8 : ∀ b ps, G' b = some (.tbl ps) → G b = some (.tbl ps)) : SOk F (δ.set i (.ow c')) σ H' G' := by
  obtain ⟨a', o, q1, q2, q3, q4, q5⟩ := S.ow i c hi
  have ea : a' = a := by rw [q1] at ha; exact V.ref.inj (Option.some.inj (Option.some.inj ha))
  subst ea
  have other : ∀ {j : Nat} {c1 : D} {b : Addr}, i ≠ j → δ[j]? = some (.ow c1) → σ[j]? = some (some (.ref b)) → b ≠ a' := fun {j c1 b} hn e hb z => hn (S.ne i j a' c c1 hi e q1 (by rw [hb, z]))
  refine ⟨by rw [List.length_set]; exact S.len, fun b u e => ?_, S.g0.trans h2, h3, fun b ob hb nt h0 => ?_, fun j d e => ?_, fun j c1 e => ?_, fun j k b c1 c2 e1 e2 y1 y2 => ?_, ⟨(S.tt.wo q2 q3.nx).ext h1, fun z => ⟨(S.tt.2 z).1, fun b ps e => (S.tt.2 z).2 b ps (h8 b ps e)⟩⟩⟩
  · have : b ≠ a' := fun z => by rw [z, q5] at e; cases e
    exact h1 b u (by rw [wo_ne this]; exact S.bh b u e)
  · have : b ≠ a' := fun z => by rw [z, q5] at hb; cases hb
    exact h4 b ob (by rw [wo_ne this]; exact S.bh b ob hb) nt (S.gn b ob hb nt h0)
  · rcases get_set e with ⟨rfl, z⟩ | ⟨hn, z⟩
    · cases z
    · obtain ⟨v, y1, y2⟩ := S.im j d z
      exact ⟨v, y1, y2.mono h2⟩
  · rcases get_set e with ⟨rfl, z⟩ | ⟨hn, z⟩
    · cases z
      exact ⟨a', o', q1, h5, h6, h7, q5⟩
    · obtain ⟨b, u, y1, y2, y3, y4, y5⟩ := S.ow j c1 z
      have nb := other hn z y1
      exact ⟨b, u, y1, h1 b u (by rw [wo_ne nb]; exact y2), y3.mono h2, h4 b u (by rw [wo_ne nb]; exact y2) y3.nt y4, y5⟩
  · have f : ∀ {j : Nat} {c1 : D}, (δ.set i (.ow c'))[j]? = some (.ow c1) → ∃ c2, δ[j]? = some (.ow c2) := fun {j c1} e => by
      rcases get_set e with ⟨rfl, _⟩ | ⟨_, z⟩
      · exact ⟨c, hi⟩
      · exact ⟨c1, z⟩
    obtain ⟨c3, e3⟩ := f e1
    obtain ⟨c4, e4⟩ := f e2
    exact S.ne j k b c3 c4 e3 e4 y1 y2
theorem SOk.afterBN (S : SOk F δ σ H G) {i : Nat} {c c' : D} {a : Addr} {H' G' : Hp} {o' : HO} (hi : δ[i]? = some (.ow c)) (ha : σ[i]? = some (some (.ref a))) (h1 : Same (wo H a) H') (h2 : Same G G') (h3 : Same G' H') (h4 : ∀ b ob, wo H a b = some ob → NT ob → G b = none → G' b = none)
    (h5 : H' a = some o') (h6 : CRep F.W G' c' o') (h7 : G' a = none) : SOk F (δ.set i (.ow c')) σ H' (noT G G') :=
  S.afterB hi ha h1 (noT_same h2) ((noT_le h2).trans h3) (fun b ob q nt n => noT_none (h4 b ob q nt n)) h5 (h6.monoN noT_N) (noT_none h7) fun _ _ e => noT_tbl e
/-- f(o, ..): o the own thing of slot i -/
def sOwnB (sem : D → List D → Out (RV × D)) (i : Nat) (s : SF) : SE := fun δ => match δ[i]? with
  | some (.ow _) => (do
    let (ds, δ1) ← s δ
    (match δ1[i]? with
      | some (.ow c) => (do
        let (r, c') ← sem c ds
        (match r with
          | .bo _ => .st
          | r => .ok (r, δ1.set i (.ow c'))))
      | _ => .st))
  | _ => .st
theorem XAll.upB {c : Nat} {fs : List D} {a : Addr} (S : SOk F δ σ H G) (hB : F.B a = none) (h : XAll F c fs) : XAll ⟨F.W, wo H a, G, F.E, F.hot, []⟩ c fs := by
  have k : ∀ b u, F.B b = some u → wo H a b = some u := fun b u e => by
    have : b ≠ a := fun z => by rw [z, hB] at e; cases e
    rw [wo_ne this]; exact S.bh b u e
  exact ⟨h.1, fun H' G' C hC h1 h2 h3 h4 => h.2 H' G' C hC (fun b u e => h1 b u (k b u e)) (S.g0.trans h2) h3 fun b ob hb nt h0 => h4 b ob (k b ob hb) nt (S.gn b ob hb nt h0)⟩
theorem ownB_imp {i n : Nat} {sem : D → List D → Out (RV × D)} {s : SF} (σ : St) (H : Hp) (Q : VK) (hn : SF.Many s n) : tE F (sOwnB sem i s) σ H Q → tCall (spB F.W F.hot (n + 1) sem) [] F.E (tCons (tVar i) (tF F s)) σ H Q := by
  rintro ⟨δ, G, S, h⟩
  unfold sOwnB at h
  cases ei : δ[i]? with
  | none => rw [ei] at h; exact False.elim h
  | some sv =>
    rw [ei] at h
    cases sv with
    | no => exact False.elim h
    | im d => exact False.elim h
    | ow c0 =>
      dsimp only at h
      obtain ⟨a, o, h1, h2, h3, h4, h5⟩ := S.ow i _ ei
      refine ⟨.ref a, h1, δ, G, S, ?_⟩
      cases e1 : s δ with
      | st => rw [e1] at h; exact h
      | ex c fs => rw [e1] at h; exact h
      | ok p =>
        obtain ⟨ds, δ1⟩ := p
        rw [e1] at h
        simp only [ok_bind] at h
        intro vs H1 G1 S1 g1 q1
        split at h
        · rename_i c ei1
          obtain ⟨a', o', k1, k2, k3, k4, k5⟩ := S1.ow i _ ei1
          rw [h1] at k1
          cases k1
          refine ⟨by rw [List.append_nil, List.length_cons, ← q1.length, hn _ _ _ e1], a, o', c, vs, ds, G1, by rw [List.append_nil], k2, k3, k4, S1.gh, q1, ?_⟩
          cases e2 : sem c ds with
          | st => rw [e2] at h; exact h
          | ex c fs => rw [e2] at h; exact XAll.upB S1 k5 h
          | ok p =>
            obtain ⟨r, c'⟩ := p
            rw [e2] at h
            simp only [ok_bind] at h
            intro v H2 G2 o2 y1 y2 y3 y4 y5 y6 y7 y8
            have S2 := S1.afterBN ei1 h1 y1 y2 y3 y4 y5 y6 y7
            cases r with
            | im d => exact h v H2 _ S2 (g1.trans (noT_same y2)) (Rep.monoN noT_N y8)
            | fr c2 =>
              obtain ⟨b, o3, rfl, z1, z2, z3, z4, z5⟩ := y8
              have hH : H1 b = none := by rw [wo_ne z5] at z4; exact z4
              refine h _ H2 _ S2 (g1.trans (noT_same y2)) ⟨b, o3, rfl, z1, z2.monoN noT_N, noT_none z3, S1.bh.free hH, fun j c3 ej q => ?_⟩
              have : ∃ c4, δ1[j]? = some (.ow c4) := by
                rcases get_set ej with ⟨rfl, _⟩ | ⟨_, z⟩
                · exact ⟨c, ei1⟩
                · exact ⟨c3, z⟩
              obtain ⟨c4, e4⟩ := this
              obtain ⟨b2, o4, w1, w2, _⟩ := S1.ow j c4 e4
              rw [w1] at q; cases q
              rw [hH] at w2; cases w2
            | bo j => exact h.elim
        · exact False.elim h
theorem de_ownB {k : Nat} {f : Addr} {fd : FuncData} {ps : List Str} {i n : Nat} {sem : D → List D → Out (RV × D)} {x y : Str} {p py : Pos} {es : List Expr} {s : SF} {CX : CXT} (Fn : FnOk X.prog X.w X.K X.mg X.base CX k f fd ps (spB F.W F.hot (n + 1) sem)) (hr : Room k X.A) (hg : Gl X x) (hm : X.mg x = some (.ref f)) (hk : PySem.W.keepIn X.K (.ref f) = true) (hb : Binds X.K fd ps [])
    (hx : Passes CX X F.E) (hn : SF.Many s n) (ho : PE X (.Name y py) (tVar i)) (ha : DF F X es s) (hdb : (x == ("__debug__" : Str)) = false := by decide) (he : starEach (.Name y py :: es) X.env = (false, eval (.Name y py) X.env) :: starEach es X.env := by rfl) (hpl : (backTo pos (starEach es X.env)).any (·.1) = false := by rfl) :
    DE F X (.Call (.Name x p) (.Name y py :: es) [] pos) (sOwnB sem i s) := ⟨(pe_call Fn hr hg hm hk hb .nil hx (pa_cons ho ha.pa he) hdb he hpl).imp fun σ H Q h => ownB_imp σ H Q hn h⟩

/-! ### a new instance -/
def sMake (t : Nat) (sem : D → List D → Out (RV × D)) (s : SF) : SE := fun δ => do
  let (ds, δ1) ← s δ
  let (r, c) ← sem (.obj t []) ds
  (match r with
    | .im .non => .ok (.fr c, δ1)
    | _ => .st)
theorem make_core {t n : Nat} {C : Addr} {sem : D → List D → Out (RV × D)} (hC : F.W.cls t = some C) {δ1 : DS} {σ : St} {H1 G1 : Hp} {ds : List D} {vs : List V} {Q : VK} (S1 : SOk F δ1 σ H1 G1) (q1 : Reps F.W G1 ds vs) (hn : ds.length = n)
    (h : SatE F (sem (.obj t []) ds >>= fun p => (match p.1 with
      | .im .non => .ok (.fr p.2, δ1)
      | _ => .st)) σ G1 Q) (x dx : Addr) (nx : H1 x = none) (ndx : H1 dx = none) (nex : dx ≠ x) :
    spB F.W F.hot (n + 1) sem (.ref x :: vs) (upd (upd H1 dx (.own x)) x (.ins C dx [])) (fun v H2 => v = .non ∧ Q (.ref x) H2) F.E := by
  have S2 := S1.made ndx (.own x)
  have nx2 : upd H1 dx (.own x) x = none := by rw [upd_ne (Ne.symm nex)]; exact nx
  have S3 := S2.made nx2 (.ins C dx [])
  have fx : G1 x = none := S1.fresh nx
  have bx : F.B x = none := S1.bh.free nx
  refine ⟨by rw [List.length_cons, ← q1.length, hn], x, _, .obj t [], vs, ds, G1, rfl, upd_same, .ins hC rfl .nil, fx, S3.gh, q1, ?_⟩
  cases e2 : sem (.obj t []) ds with
  | st => rw [e2] at h; exact h
  | ex c fs => rw [e2] at h; exact XAll.upB S3 bx h
  | ok p =>
    obtain ⟨r, c'⟩ := p
    rw [e2] at h
    simp only [ok_bind] at h
    intro v H2 G2 o2 y1 y2 y3 y4 y5 y6 y7 y8
    split at h
    · refine ⟨by cases y8; rfl, ?_⟩
      have k : Same H1 H2 := fun b u e => y1 b u (by
        rw [wo_ne (ne_of_none e nx), upd_ne (ne_of_none e nx), upd_ne (ne_of_none e ndx)]; exact e)
      have S4 := S1.afterN k y2 y3 (fun b ob hb nt h0 => y4 b ob (by
        rw [wo_ne (ne_of_none hb nx), upd_ne (ne_of_none hb nx), upd_ne (ne_of_none hb ndx)]; exact hb) nt h0)
      exact h _ H2 _ S4 (noT_same y2) ⟨x, o2, rfl, y5, y6.monoN noT_N, noT_none y7, bx, S1.notOwn nx⟩
    · exact h.elim
theorem make_imp {t n : Nat} {C : Addr} {sem : D → List D → Out (RV × D)} {s : SF} (hC : F.W.cls t = some C) (σ : St) (H : Hp) (Q : VK) (hn : SF.Many s n) : tE F (sMake t sem s) σ H Q → tMake C (spB F.W F.hot (n + 1) sem) [] F.E (tF F s) σ H Q := by
  rintro ⟨δ, G, S, h⟩
  refine ⟨δ, G, S, ?_⟩
  unfold sMake at h
  cases e1 : s δ with
  | st => rw [e1] at h; exact h
  | ex c fs => rw [e1] at h; exact h
  | ok p =>
    obtain ⟨ds, δ1⟩ := p
    rw [e1] at h
    intro vs H1 G1 S1 g1 q1 x dx nx ndx nex
    rw [List.append_nil]
    exact make_core hC S1 q1 (hn _ _ _ e1) (satE_trans g1 h) x dx nx ndx nex
theorem de_make {k t n : Nat} {f C : Addr} {fd : FuncData} {ps : List Str} {sem : D → List D → Out (RV × D)} {x : Str} {p : Pos} {e : Expr} {es : List Expr} {s : SF} {CX : CXT} (M : Mk X.K C f) (Fn : FnOk X.prog X.w X.K X.mg X.base CX k f fd ps (spB F.W F.hot (n + 1) sem)) (hr : Room (k + 1) X.A) (hg : Gl X x) (hm : X.mg x = some (.ref C)) (hb : Binds X.K fd ps [])
    (hx : Passes CX X F.E) (hC : F.W.cls t = some C) (hn : SF.Many s n) (ha : DF F X (e :: es) s) (hdb : (x == ("__debug__" : Str)) = false := by decide) (he : starEach (e :: es) X.env = (false, eval e X.env) :: starEach es X.env := by rfl) (hpl : (backTo pos (starEach es X.env)).any (·.1) = false := by rfl) :
    DE F X (.Call (.Name x p) (e :: es) [] pos) (sMake t sem s) := ⟨(pe_make M Fn hr hg hm hb .nil hx ha.pa hdb he hpl).imp fun σ H Q h => make_imp hC σ H Q hn h⟩
/-- o.f = v: o the own instance of slot i; the fields come in their order -/
def addF (t : Nat) (f : Str) (ds : List D) (d : D) : Option (List D) := if (fieldNames t)[ds.length]? = some f ∧ f ∉ (fieldNames t).take ds.length then some (ds ++ [d]) else none
def sFldSet (i : Nat) (f : Str) (v : SE) : SS := fun δ => do
  let (d, δ1) ← frz (v δ)
  (match δ1[i]? with
    | some (.ow (.obj t ds)) => (match addF t f ds d with
      | some ds' => .ok (.nx, δ1.set i (.ow (.obj t ds')))
      | none => .st)
    | _ => .st)
theorem putF_new {f : Str} {v : V} : ∀ {fs : List (Str × V)}, f ∉ fs.map (·.1) → putF f v fs = fs ++ [(f, v)]
  | [], _ => rfl
  | (g, u) :: fs, h => by
    rw [List.map_cons, List.mem_cons, not_or] at h
    show (if g = f then (g, v) :: fs else (g, u) :: putF f v fs) = _
    rw [if_neg (fun e => h.1 e.symm), putF_new h.2]
    rfl
theorem ds_fld {pz : Option Addr} {i : Nat} {x f : Str} {p pa : Pos} {v : Expr} {sv : SE} (hK : F.W.K = X.K) (hW : WOk F.W) (ho : PE X (.Name x p) (tVar i)) (hv : DE F X v sv)  (ps : PS X (.Assign [.Attribute (.Name x p) f pa] v pos) (sFld X.K (tVar i) (tE F sv) f)) : DSt pz F X (.Assign [.Attribute (.Name x p) f pa] v pos) (sFldSet i f sv) := by
  refine ⟨ps.imp fun D σ H ⟨δ, G, S, z0, h⟩ => ⟨δ, G, S, frz_ok ?_⟩⟩
  unfold sFldSet at h
  cases e1 : frz (sv δ) with
  | st => rw [e1] at h; exact h
  | ex c fs => rw [e1] at h; exact h
  | ok p =>
    obtain ⟨d, δ1⟩ := p
    rw [e1] at h
    simp only [ok_bind] at h
    intro u H1 G1 S1 g1 r1
    split at h
    · rename_i t ds ei
      split at h
      · rename_i ds' ea
        obtain ⟨a, o, h1, h2, h3, h4, h5⟩ := S1.ow i _ ei
        cases h3 with
        | @ins t C dx fs ds hc k r =>
          unfold addF at ea
          split at ea
          · rename_i hf
            cases ea
            obtain ⟨hf1, hf2⟩ := hf
            have hlen : ds.length = fs.length := by have := r.length; simpa using this
            have hlt : ds.length < (fieldNames t).length := (List.getElem?_eq_some_iff.mp hf1).1
            have few : (fieldNames t).length ≤ 1000 := by
              match t with
              | 0 => decide
              | 1 => decide
              | _ + 2 => exact Nat.zero_le _
            refine ⟨.ref a, h1, a, C, dx, fs, rfl, h2, by rw [← hK]; exact hW.cl _ C hc, by rw [← hK]; exact hW.no _ C hc f (List.mem_of_getElem? hf1), by omega, ?_⟩
            rw [putF_new (by rw [k]; exact hf2)]
            refine h σ _ G1 (S1.write ei h1 (.ins hc ?_ ?_)) g1 z0
            · rw [List.map_append, k, List.length_append, List.length_singleton, List.map_cons, List.map_nil, List.take_succ, hf1]
              rfl
            · rw [List.map_append]
              exact r.snoc r1
          · cases ea
      · exact False.elim h
    · exact False.elim h

/-! ### the rule of a def -/
/-- what comes out of a body: its value, the frame behind it -/
def outD (o : Out (Fl × DS)) : Out (RV × DS) := match o with
  | .ok (.nx, δ) => .ok (.im .non, δ)
  | .ok (.rt (.im d), δ) => .ok (.im d, δ)
  | .ok (.rt (.fr c), δ) => .ok (.fr c, δ)
  | .ok (.rt (.bo i), δ) => (match δ[i]? with
    | some (.ow c) => .ok (.fr c, δ.set i .no)
    | _ => .st)
  | .ok (.bk, _) => .st
  | .ok (.ct, _) => .st
  | .ex c fs => .ex c fs
  | .st => .st
theorem outD_ok {pz : Option Addr} {o : Out (Fl × DS)} {Q : VK} {G : Hp} (h : match outD o with
      | .ok (r, δ') => ∀ v σ' H' G', SOk F δ' σ' H' G' → Same G G' → P0 pz σ' → RVOk F δ' σ' H' G' r v → (∀ i, r ≠ .bo i) → Q v H'
      | .ex c fs => XAll F c fs
      | .st => False) : SatS pz F o G { nx := fun _ H' => Q .non H', rt := Q } := by
  cases o with
  | st => exact h
  | ex c fs => exact h
  | ok p =>
    obtain ⟨f, δ'⟩ := p
    cases f with
    | nx => exact fun σ' H' G' S g z0 => h _ σ' H' G' S g z0 .non (fun i z => by cases z)
    | bk => exact h.elim
    | ct => exact h.elim
    | rt r =>
      intro v σ' H' G' S g z0 q
      cases r with
      | im d => exact h v σ' H' G' S g z0 q (fun i z => by cases z)
      | fr c => exact h v σ' H' G' S g z0 q (fun i z => by cases z)
      | bo i =>
        obtain ⟨⟨c, hc⟩, hv⟩ := q
        dsimp only [outD] at h
        rw [hc] at h
        exact h v σ' H' G' (S.forget i) g z0 (S.moved hc hv) (fun i z => by cases z)
/-- the frame at the entry -/
def fr0 (ds : List SV) (k : Nat) : DS := ds ++ List.replicate k .no
def semD (body : SS) (k : Nat) (ds : List D) : Out RV := match outD (body (fr0 (ds.map .im) k)) with
  | .ok (r, _) => .ok r
  | .ex c fs => .ex c fs
  | .st => .st
def semB (body : SS) (k : Nat) (c : D) (ds : List D) : Out (RV × D) := match outD (body (fr0 (SV.ow c :: ds.map SV.im) k)) with
  | .ok p => (match (p.2 : List SV)[0]? with
    | some (SV.ow c') => .ok (p.1, c')
    | _ => .st)
  | .ex c fs => .ex c fs
  | .st => .st
end
section
variable {P : Program} {w : World} {K : PySem.W.Frag} {mg : Str → Option Value} {base : Heap}
theorem start_sok {W : CT} {H G : Hp} {E : XK} {hot : Bool} {N : List Str} {ds : List D} {vs : List V} (e : Same G H) (r : Reps W G ds vs) : SOk ⟨W, H, G, E, hot, []⟩ (fr0 (ds.map .im) (N.length - vs.length)) (start N vs) H G where
  len := by unfold fr0 start; simp [r.length]
  bh := Same.refl _
  g0 := Same.refl _
  gh := e
  gn := fun _ _ _ _ h => h
  im := fun i d h => by
    unfold fr0 at h
    by_cases hi : i < (ds.map SV.im).length
    · rw [List.getElem?_append_left hi, List.getElem?_map] at h
      cases q : ds[i]? with
      | none => rw [q] at h; cases h
      | some d' =>
        rw [q] at h
        cases h
        obtain ⟨v, hv, rv⟩ := (r.get i).1 d q
        refine ⟨v, ?_, rv⟩
        unfold start
        have : i < (vs.map some).length := by rw [List.length_map, ← r.length]; simpa using hi
        rw [List.getElem?_append_left this, List.getElem?_map, hv]
        rfl
    · rw [List.getElem?_append_right (by omega), List.getElem?_replicate] at h
      split at h <;> cases h
  ow := fun i c h => by
    exfalso
    unfold fr0 at h
    by_cases hi : i < (ds.map SV.im).length
    · rw [List.getElem?_append_left hi, List.getElem?_map] at h
      cases q : ds[i]? <;> rw [q] at h <;> cases h
    · rw [List.getElem?_append_right (by omega), List.getElem?_replicate] at h
      split at h <;> cases h
  ne := fun i j a c c' h => by
    exfalso
    unfold fr0 at h
    by_cases hi : i < (ds.map SV.im).length
    · rw [List.getElem?_append_left hi, List.getElem?_map] at h
      cases q : ds[i]? <;> rw [q] at h <;> cases h
    · rw [List.getElem?_append_right (by omega), List.getElem?_replicate] at h
      split at h <;> cases h
  tt := TbO.nil
/-- the contexts in which a body is shown -/
abbrev cx0 (P : Program) (w : World) (K : PySem.W.Frag) (mg : Str → Option Value) (base : Heap) (N : List Str) (qual : Str) (st : Stmt) (f : Addr) (cdv : Value) (A : Around) (outer : List Env) (s : Shared) (H : Hp) (E : XK) : Cx := (cxOf CX0 P w K mg base N qual (defScope st) f cdv A outer s H E).nox
theorem fn_cold {x qual : Str} {st : Stmt} {f : Addr} {fd : FuncData} {N ps : List Str} {k n : Nat} {W : CT} {body : SS} (Fn : Fun K x qual st f fd) (S : FnScope N ps (defScope st)) (hn : ps.length = n)
    (hb : ∀ (cdv : Value) (A : Around) (outer : List Env) (s : Shared) (H : Hp) (E : XK) (B G0 : Hp), Room k (A.deeper (envOfC qual (defScope st) s.heap.objs.size f cdv)) → DSs none ⟨W, B, G0, E0, false, []⟩ (cx0 P w K mg base N qual st f cdv A outer s H E) (defBody st) body) :
    FnOk P w K mg base CX0 (k + 1) f fd ps (spD W false n (semD body (N.length - n))) := by
  refine Fn.ok S (fun vs H Q E h => by rw [hn]; exact h.1) fun cdv A outer s H vs Q E hr ⟨hl, ds, G, e, r, h⟩ => ⟨_, (hb cdv A outer s H E H G hr).pss, ?_⟩
  have S0 := start_sok (W := W) (H := H) (G := G) (E := E0) (hot := false) (N := N) e r
  refine ⟨_, G, S0, (fun _ z => by cases z), outD_ok ?_⟩
  unfold semD at h
  rw [hl]
  cases eo : outD (body (fr0 (ds.map .im) (N.length - n))) with
  | st => rw [eo] at h; exact h
  | ex c fs => rw [eo] at h; exact absurd h.1 Bool.false_ne_true
  | ok p =>
    obtain ⟨rv, δ'⟩ := p
    rw [eo] at h
    intro v σ' H' G' S' g _ q nb
    refine h v H' G' S'.bh g S'.gh S'.gn ?_
    cases rv with
    | im d => exact q
    | fr c =>
      obtain ⟨a, o, z1, z2, z3, z4, z5, z6⟩ := q
      exact ⟨a, o, z1, z2, z3, z4, z5⟩
    | bo i => exact absurd rfl (nb i)
theorem fn_coldB {x qual : Str} {st : Stmt} {f : Addr} {fd : FuncData} {N ps : List Str} {k n : Nat} {W : CT} {body : SS} (Fn : Fun K x qual st f fd) (S : FnScope N ps (defScope st)) (hn : ps.length = n + 1)
    (hb : ∀ (cdv : Value) (A : Around) (outer : List Env) (s : Shared) (H : Hp) (E : XK) (B G0 : Hp) (a : Addr), Room k (A.deeper (envOfC qual (defScope st) s.heap.objs.size f cdv)) → DSs (some a) ⟨W, B, G0, E0, false, []⟩ (cx0 P w K mg base N qual st f cdv A outer s H E) (defBody st) body) :
    FnOk P w K mg base CX0 (k + 1) f fd ps (spB W false (n + 1) (semB body (N.length - (n + 1)))) := by
  refine Fn.ok S (fun vs H Q E h => by rw [hn]; exact h.1) fun cdv A outer s H vs Q E hr ⟨hl, a, o, c, vs', ds, G, ev, ha, hc, hg, e, r, h⟩ => ⟨_, (hb cdv A outer s H E (wo H a) G a hr).pss, ?_⟩
  subst ev
  have hS0 : SOk ⟨W, wo H a, G, E0, false, []⟩ (fr0 (.ow c :: ds.map .im) (N.length - (n + 1))) (start N (.ref a :: vs')) H G := by
    have S1 := start_sok (W := W) (H := H) (G := G) (E := E0) (hot := false) (N := N) e (Reps.cons (Rep.non) r)
    have el : (V.non :: vs').length = n + 1 := by simpa using hl
    rw [el] at S1
    have e1 : fr0 (.ow c :: ds.map .im) (N.length - (n + 1)) = (fr0 ((D.non :: ds).map .im) (N.length - (n + 1))).set 0 (.ow c) := rfl
    have e2 : start N (.ref a :: vs') = (start N (.non :: vs')).set 0 (some (.ref a)) := rfl
    rw [e1, e2]
    have S2 : SOk ⟨W, wo H a, G, E0, false, []⟩ (fr0 ((D.non :: ds).map .im) (N.length - (n + 1))) (start N (.non :: vs')) H G := by
      refine ⟨S1.len, fun b u q => (wo_some q).2, S1.g0, S1.gh, fun _ _ _ _ h => h, S1.im, fun i c' q => ?_, S1.ne, TbO.nil⟩
      obtain ⟨b, ob, y1, y2, y3, y4, y5⟩ := S1.ow i c' q
      exact ⟨b, ob, y1, y2, y3, y4, by
        by_cases z : b = a
        · rw [z]; exact wo_at
        · show wo H a b = none
          rw [wo_ne z]; exact y5⟩
    refine S2.setFr 0 (v := .ref a) (c := c) ⟨a, o, rfl, ha, hc, hg, wo_at, fun i c' q z => ?_⟩
    obtain ⟨b, ob, y1, y2, y3, y4, y5⟩ := S1.ow i c' q
    have y5' : H b = none := y5
    rw [y2] at y5'; cases y5'
  refine ⟨_, G, hS0, (fun b z => by cases z; rfl), outD_ok ?_⟩
  unfold semB at h
  cases eo : outD (body (fr0 (.ow c :: ds.map .im) (N.length - (n + 1)))) with
  | st => rw [eo] at h; exact h
  | ex c fs => rw [eo] at h; exact absurd h.1 Bool.false_ne_true
  | ok p =>
    obtain ⟨rv, δ'⟩ := p
    rw [eo] at h
    dsimp only at h
    intro v σ' H' G' S' g z0 q nb
    split at h
    · rename_i c' e0
      obtain ⟨a', o', k1, k2, k3, k4, k5⟩ := S'.ow 0 _ e0
      have z1 := z0 a rfl
      rw [z1] at k1
      cases k1
      refine h v H' G' o' S'.bh g S'.gh S'.gn k2 k3 k4 ?_
      cases rv with
      | im d => exact q
      | fr c2 =>
        obtain ⟨b, o2, w1, w2, w3, w4, w5, w6⟩ := q
        exact ⟨b, o2, w1, w2, w3, w4, w5, fun z => w6 0 _ e0 (by rw [z1, z])⟩
      | bo i => exact absurd rfl (nb i)
    · exact h.elim
end
end L2.DI

/-! DIB: built-in calls, isinstance, keywords, several names at once. -/
namespace L2.DI
open PySem PySem.Spec PyProof.Rows

theorem VReps.one {W : CT} {G H : Hp} {d : D} {vs : List V} (h : VReps W G H [d] vs) : ∃ v, vs = [v] ∧ VRep W G H d v := by
  cases h with
  | cons h t => cases t; exact ⟨_, rfl, h⟩
theorem VReps.two {W : CT} {G H : Hp} {d e : D} {vs : List V} (h : VReps W G H [d, e] vs) : ∃ v u, vs = [v, u] ∧ VRep W G H d v ∧ VRep W G H e u := by
  cases h with
  | cons h t => cases t with
    | cons h' t' => cases t'; exact ⟨_, _, rfl, h, h'⟩
section
variable {F : Fx} {X : Cx} {pos : Pos}
/-- a call of one value -/
def f1 (f : D → Out RV) : List D → Out RV
  | [d] => f d
  | _ => .st
def f2 (f : D → D → Out RV) : List D → Out RV
  | [d, e] => f d e
  | _ => .st
theorem call1 {r : List V → Hp → VK → Prop} {f : D → Out RV} (h : ∀ (δ : DS) (σ : St) (H G : Hp) (d : D) (v : V) (Q : VK), SOk F δ σ H G → VRep F.W G H d v → SatV F (f d) δ σ G Q → r [v] H Q) : CallOk F r (f1 f) := by
  intro δ σ H G ds vs Q S q w
  match ds, q, w with
  | [], _, w => exact False.elim w
  | [d], q, w =>
    obtain ⟨v, rfl, q'⟩ := q.one
    exact h δ σ H G d v Q S q' w
  | _ :: _ :: _, _, w => exact False.elim w
theorem call2 {r : List V → Hp → VK → Prop} {f : D → D → Out RV} (h : ∀ (δ : DS) (σ : St) (H G : Hp) (d e : D) (v u : V) (Q : VK), SOk F δ σ H G → VRep F.W G H d v → VRep F.W G H e u → SatV F (f d e) δ σ G Q → r [v, u] H Q) : CallOk F r (f2 f) := by
  intro δ σ H G ds vs Q S q w
  match ds, q, w with
  | [], _, w => exact False.elim w
  | [_], _, w => exact False.elim w
  | [d, e], q, w =>
    obtain ⟨v, u, rfl, q1, q2⟩ := q.two
    exact h δ σ H G d e v u Q S q1 q2 w
  | _ :: _ :: _ :: _, _, w => exact False.elim w
/-! ### len -/
def fLen : D → Out RV
  | .lst ds => .ok (.im (.int ds.length))
  | .kls ds => .ok (.im (.int ds.length))
  | .tup ds => .ok (.im (.int ds.length))
  | .ktp ds => .ok (.im (.int ds.length))
  | .str l => if l.length ≤ LIM then .ok (.im (.int l.length)) else .st
  | .dK kvs => .ok (.im (.int kvs.length))
  | .dT kvs => .ok (.im (.int kvs.length))
  | _ => .st
def rLenA (K : PySem.W.Frag) : List V → Hp → VK → Prop := fun xs H Q => (∃ x n, xs = [x] ∧ LenV K x H n ∧ Q (.int n) H) ∨ (∃ a kvs, xs = [V.ref a] ∧ H a = some (.dK kvs) ∧ Q (.int kvs.length) H) ∨ ∃ (p : Addr) (kvs : List (List Key × V)), xs = [.ref p] ∧ H p = some (.dT kvs) ∧ Q (.int ((kvs.length : Nat) : Int)) H
theorem o_len (hK : F.W.K = X.K) : CallOk F (rLenA X.K) (f1 fLen) := by
  refine call1 fun δ σ H G d v Q S q h => ?_
  cases d <;> (try exact False.elim h)
  case lst ds =>
    obtain ⟨a, xs, rfl, h1, r⟩ := q.lst S.gh
    exact .inl ⟨_, _, rfl, .inl ⟨xs, .inl (.inl h1), r.length⟩, SatV.im h S (.int _)⟩
  case kls ds =>
    obtain ⟨a, xs, rfl, h1, r⟩ := q.kls S.gh
    exact .inl ⟨_, _, rfl, .inl ⟨xs, by rw [← hK]; exact h1, r.length⟩, SatV.im h S (.int _)⟩
  case tup ds =>
    obtain ⟨a, xs, rfl, h1, r⟩ := q.tup S.gh
    exact .inl ⟨_, _, rfl, .inr ⟨xs, .inl (.inl (S.gh _ _ h1)), r.length⟩, SatV.im h S (.int _)⟩
  case ktp ds =>
    obtain ⟨a, xs, rfl, h1, r⟩ := q.ktp
    exact .inl ⟨_, _, rfl, .inr ⟨xs, by rw [← hK]; exact h1, r.length⟩, SatV.im h S (.int _)⟩
  case str l =>
    unfold fLen at h
    dsimp only at h
    by_cases hl : l.length ≤ LIM
    · rw [if_pos hl] at h
      obtain ⟨rfl, _⟩ := q.str
      exact .inl ⟨_, l.length, rfl, ⟨by rw [mk_len, lim_eq]; exact hl, (mk_len l).symm⟩, h.im S (.int _)⟩
    · rw [if_neg hl] at h; exact False.elim h
  case dK kvs =>
    obtain ⟨a, xs, rfl, h1, t⟩ := q.dK S.gh
    refine .inr (.inl ⟨_, _, rfl, h1, ?_⟩)
    rw [← t.length]
    exact SatV.im h S (.int _)
  case dT kvs =>
    obtain ⟨a, xs, rfl, h1, t⟩ := q.dT S.gh
    refine .inr (.inr ⟨_, _, rfl, h1, ?_⟩)
    rw [← t.length]
    exact SatV.im h S (.int _)
/-! ### list, tuple -/
def fTuple : D → Out RV
  | .lst ds => .ok (.im (.tup ds))
  | .tup ds => .ok (.im (.tup ds))
  | _ => .st
theorem o_tuple : CallOk F (fun xs H Q => ∃ p ys, xs = [V.ref p] ∧ ((SqL X.K H p ys ∧ ∀ l, H l = none → Q (.ref l) (upd H l (.tup ys))) ∨ (SqT X.K H p ys ∧ Q (.ref p) H))) (f1 fTuple) := by
  refine call1 fun δ σ H G d v Q S q h => ?_
  cases d <;> (try exact False.elim h)
  case lst ds =>
    obtain ⟨a, xs, rfl, h1, r⟩ := q.lst S.gh
    exact ⟨_, _, rfl, .inl ⟨.inl (.inl h1), fun p hp => SatV.imNew h S hp (.tup upd_same (r.mono (same_upd0 (S.fresh hp))))⟩⟩
  case tup ds =>
    obtain ⟨a, xs, rfl, h1, r⟩ := q.tup S.gh
    exact ⟨_, _, rfl, .inr ⟨.inl (.inl (S.gh _ _ h1)), SatV.im h S (.tup h1 r)⟩⟩
/-- keys as data -/
def kD : Key → D
  | .inl i => .int i
  | .inr x => .str x.cps.toList
def fList : D → Out RV
  | .lst ds => .ok (.fr (.lst ds))
  | .tup ds => .ok (.fr (.lst ds))
  | .ktp ds => .ok (.fr (.lst ds))
  | .str l => if l.length ≤ LIM then .ok (.fr (.lst (l.map fun c => .str [c]))) else .st
  | .dT kvs => if kvs.all (fun kv => kv.1.all fun k => match k with | .inl _ => true | .inr x => asc x.cps.toList) = true then .ok (.fr (.lst (kvs.map fun kv => .tup (kv.1.map kD)))) else .st
  | _ => .st

/-! ### all, any, abs, int, min, max, sum -/
def bools : List D → Option (List Bool)
  | [] => some []
  | .bl b :: ds => (bools ds).map (b :: ·)
  | _ => none
theorem bools_ok {W : CT} {G : Hp} : ∀ {ds : List D} {vs : List V} {bs : List Bool}, Reps W G ds vs → bools ds = some bs → vs = bs.map V.bl
  | _, _, _, .nil, e => by cases e; rfl
  | d :: ds, _, bs, .cons h t, e => by
    cases d <;> (try (exfalso; cases e; done))
    case bl b =>
      cases h
      unfold bools at e
      cases q : bools ds with
      | none => rw [q] at e; cases e
      | some cs =>
        rw [q] at e
        cases e
        rw [List.map_cons, bools_ok t q]
def fAll (d : D) : Out RV := match d with
  | .lst ds => (match bools ds with
    | some bs => .ok (.im (.bl (bs.all id)))
    | none => .st)
  | _ => .st
def fAny (d : D) : Out RV := match d with
  | .lst ds => (match bools ds with
    | some bs => .ok (.im (.bl (bs.any id)))
    | none => .st)
  | _ => .st
theorem o_all : CallOk F (rAll X.K) (f1 fAll) := by
  refine call1 fun δ σ H G d v Q S q h => ?_
  cases d <;> (try exact False.elim h)
  case lst ds =>
    unfold fAll at h
    dsimp only at h
    cases e : bools ds with
    | none => rw [e] at h; exact False.elim h
    | some bs =>
      rw [e] at h
      obtain ⟨a, xs, rfl, h1, r⟩ := q.lst S.gh
      obtain rfl := bools_ok r e
      exact ⟨_, bs, rfl, .inl (.inl h1), SatV.im h S (.bl _)⟩
theorem o_any : CallOk F (rAny X.K) (f1 fAny) := by
  refine call1 fun δ σ H G d v Q S q h => ?_
  cases d <;> (try exact False.elim h)
  case lst ds =>
    unfold fAny at h
    dsimp only at h
    cases e : bools ds with
    | none => rw [e] at h; exact False.elim h
    | some bs =>
      rw [e] at h
      obtain ⟨a, xs, rfl, h1, r⟩ := q.lst S.gh
      obtain rfl := bools_ok r e
      exact ⟨_, bs, rfl, .inl (.inl h1), SatV.im h S (.bl _)⟩
def intsD : List D → Option (List Int)
  | [] => some []
  | .int b :: ds => (intsD ds).map (b :: ·)
  | _ => none
theorem intsD_ok {W : CT} {G : Hp} : ∀ {ds : List D} {vs : List V} {bs : List Int}, Reps W G ds vs → intsD ds = some bs → vs = bs.map V.int
  | _, _, _, .nil, e => by cases e; rfl
  | d :: ds, _, bs, .cons h t, e => by
    cases d <;> (try (exfalso; cases e; done))
    case int b =>
      cases h
      unfold intsD at e
      cases q : intsD ds with
      | none => rw [q] at e; cases e
      | some cs =>
        rw [q] at e
        cases e
        rw [List.map_cons, intsD_ok t q]
def fSum (d : D) : Out RV := match d with
  | .lst ds => (match intsD ds with
    | some bs => .ok (.im (.int bs.sum))
    | none => .st)
  | _ => .st
theorem o_sum : CallOk F (rSum X.K) (f1 fSum) := by
  refine call1 fun δ σ H G d v Q S q h => ?_
  cases d <;> (try exact False.elim h)
  case lst ds =>
    unfold fSum at h
    dsimp only at h
    cases e : intsD ds with
    | none => rw [e] at h; exact False.elim h
    | some bs =>
      rw [e] at h
      obtain ⟨a, xs, rfl, h1, r⟩ := q.lst S.gh
      obtain rfl := intsD_ok r e
      exact ⟨_, bs, rfl, .inl (.inl h1), SatV.im h S (.int _)⟩
def fAbs : D → Out RV
  | .int i => .ok (.im (.int (if i < 0 then -i else i)))
  | _ => .st
theorem o_abs : CallOk F (fun xs H Q => ∃ i, xs = [.int i] ∧ Q (.int (if i < 0 then -i else i)) H) (f1 fAbs) := by
  refine call1 fun δ σ H G d v Q S q h => ?_
  cases d <;> (try exact False.elim h)
  case int i =>
    obtain rfl := q.int
    exact ⟨i, rfl, SatV.im h S (.int _)⟩
def fInt : D → Out RV
  | .int i => .ok (.im (.int i))
  | .bl b => .ok (.im (.int (if b then 1 else 0)))
  | _ => .st
theorem o_int : CallOk F (fun xs H Q => (∃ i, xs = [.int i] ∧ Q (.int i) H) ∨ ∃ k, xs = [.bl k] ∧ Q (.int (if k then 1 else 0)) H) (f1 fInt) := by
  refine call1 fun δ σ H G d v Q S q h => ?_
  cases d <;> (try exact False.elim h)
  case int i =>
    obtain rfl := q.int
    exact .inl ⟨i, rfl, SatV.im h S (.int _)⟩
  case bl b =>
    obtain rfl := q.bl
    exact .inr ⟨b, rfl, SatV.im h S (.int _)⟩
def fMax2 : D → D → Out RV
  | .int i, .int j => .ok (.im (.int (if j > i then j else i)))
  | _, _ => .st
theorem o_max2 : CallOk F (fun xs H Q => ∃ i j, xs = [.int i, .int j] ∧ Q (.int (if j > i then j else i)) H) (f2 fMax2) := by
  refine call2 fun δ σ H G d e v u Q S q1 q2 h => ?_
  cases d <;> cases e <;> (try exact False.elim h)
  case int.int i j =>
    obtain rfl := q1.int
    obtain rfl := q2.int
    exact ⟨i, j, rfl, SatV.im h S (.int _)⟩
def fMin2 : D → D → Out RV
  | .int i, .int j => .ok (.im (.int (if j < i then j else i)))
  | _, _ => .st
theorem o_min2 : CallOk F (fun xs H Q => ∃ i j, xs = [.int i, .int j] ∧ Q (.int (if j < i then j else i)) H) (f2 fMin2) := by
  refine call2 fun δ σ H G d e v u Q S q1 q2 h => ?_
  cases d <;> cases e <;> (try exact False.elim h)
  case int.int i j =>
    obtain rfl := q1.int
    obtain rfl := q2.int
    exact ⟨i, j, rfl, SatV.im h S (.int _)⟩
def fDivmod : D → D → Out RV
  | .int i, .int j => if 0 < j ∧ j < 1073741824 then .ok (.im (.tup [.int (i / j), .int (i % j)])) else .st
  | _, _ => .st
theorem o_divmod : CallOk F (fun xs H Q => ∃ i j, xs = [.int i, .int j] ∧ CDiv i j ∧ ∀ p, H p = none → Q (.ref p) (upd H p (.tup [.int (i / j), .int (i % j)]))) (f2 fDivmod) := by
  refine call2 fun δ σ H G d e v u Q S q1 q2 h => ?_
  cases d <;> cases e <;> (try exact False.elim h)
  case int.int i j =>
    unfold fDivmod at h
    dsimp only at h
    by_cases hc : 0 < j ∧ j < 1073741824
    · rw [if_pos hc] at h
      obtain rfl := q1.int
      obtain rfl := q2.int
      exact ⟨i, j, rfl, hc, fun p hp => h.imNew S hp (.tup upd_same (.cons (.int _) (.cons (.int _) .nil)))⟩
    · rw [if_neg hc] at h; exact False.elim h

/-! ### isinstance -/
inductive Ty where | b (n : String) | own (t : Nat)
def tyNames : List String := ["int", "bool", "str", "tuple", "list", "dict"]
def valNames : List String := ["NoneType", "bool", "int", "str", "tuple", "list", "dict"]
structure IsiOk (W : CT) : Prop where
  ty : ∀ t C, W.cls t = some C → ∀ (H : Hp) a dx fs, H a = some (.ins C dx fs) → TyX W.K H (.ref a) (.ref C)
  ob : ∀ t C, W.cls t = some C → ∀ T ∈ tyNames, PySem.W.kitOne W.K (.ref C) (.type T) = some false
  bo : ∀ t C, W.cls t = some C → ∀ T ∈ valNames, PySem.W.kitOne W.K (.type T) (.ref C) = some false
  oo : ∀ t C t' C', W.cls t = some C → W.cls t' = some C' → PySem.W.kitOne W.K (.ref C) (.ref C') = some (decide (t = t'))
def valTy : D → String
  | .non => "NoneType"
  | .bl _ => "bool"
  | .int _ => "int"
  | .str _ => "str"
  | .tup _ => "tuple"
  | .ktp _ => "tuple"
  | .lst _ => "list"
  | .kls _ => "list"
  | .dK _ => "dict"
  | .dT _ => "dict"
  | .obj _ _ => ""
  | .adr _ => ""
  | .fnc _ => ""
def isT : Ty → D → Bool
  | .b n, .obj _ _ => false
  | .b n, d => valTy d == n || (n == "int" && valTy d == "bool")
  | .own t, .obj t' _ => decide (t' = t)
  | .own _, _ => false
/-- a class's name in the second place -/
structure TyE (F : Fx) (X : Cx) (e : Expr) (T : Ty) : Prop where
  pe : ∃ c u, PE X e (tC c) ∧ ClsV c u ∧ (match T with
    | .b n => u = .type n ∧ n ∈ tyNames
    | .own t => ∃ C, u = .ref C ∧ F.W.cls t = some C)
theorem ty_b {x : Str} {n : String} {p : Pos} (hg : Gl X x) (hm : X.mg x = none) (hv : bootBuiltins x = some (.type n)) (hn : n ∈ tyNames := by decide) (h1 : x ≠ "__name__" := by decide) (hd : (x == ("__debug__" : Str)) = false := by decide) : TyE F X (.Name x p) (.b n) :=
  ⟨.ty n, .type n, pe_bltn hg hm hv rfl h1 hd, .ty n, rfl, hn⟩
theorem ty_own {x : Str} {t : Nat} {C : Addr} {p : Pos} (hg : Gl X x) (hm : X.mg x = some (.ref C)) (hC : F.W.cls t = some C) (hd : (x == ("__debug__" : Str)) = false := by decide) : TyE F X (.Name x p) (.own t) :=
  ⟨.ref C, .ref C, pe_glob hg hm rfl hd, .own C, C, rfl, hC⟩
def fIsi (T : Ty) : D → Out RV
  | .adr _ => .st
  | .fnc _ => .st
  | d => .ok (.im (.bl (isT T d)))
theorem fIsi_cases (T : Ty) (d : D) : fIsi T d = .st ∨ (fIsi T d = .ok (.im (.bl (isT T d))) ∧ (∀ a, d ≠ .adr a) ∧ ∀ k, d ≠ .fnc k) := by
  cases d <;> first | exact .inl rfl | exact .inr ⟨rfl, fun _ z => (by cases z), fun _ z => by cases z⟩
def sIsi (T : Ty) (a : SE) : SE := fun δ => do
  let (r, δ1) ← opd (a δ)
  let d ← look δ1 r
  let v ← fIsi T d
  .ok (v, δ1)
theorem VRep.tyX {W : CT} (hI : IsiOk W) {G H : Hp} {d : D} {v : V} (e : Same G H) (h : VRep W G H d v) (na : (∀ a, d ≠ .adr a) ∧ ∀ k, d ≠ .fnc k) : (∀ t ds, d ≠ .obj t ds) ∧ valTy d ∈ valNames ∧ TyX W.K H v (.type (valTy d)) ∨ ∃ t ds C, d = .obj t ds ∧ W.cls t = some C ∧ TyX W.K H v (.ref C) := by
  cases d with
  | non =>
    obtain rfl := h.non
    exact .inl ⟨(fun _ _ z => by cases z), (by simp [valTy, valNames]), .base .non⟩
  | bl b => obtain rfl := h.bl; exact .inl ⟨(fun _ _ z => by cases z), (by simp [valTy, valNames]), .base (.bl b)⟩
  | int b => obtain rfl := h.int; exact .inl ⟨(fun _ _ z => by cases z), (by simp [valTy, valNames]), .base (.int b)⟩
  | str b => obtain ⟨rfl, _⟩ := h.str; exact .inl ⟨(fun _ _ z => by cases z), (by simp [valTy, valNames]), .base (.str _)⟩
  | tup ds => obtain ⟨a, xs, rfl, q, _⟩ := h.tup e; exact .inl ⟨(fun _ _ z => by cases z), (by simp [valTy, valNames]), .base (.tup (e _ _ q))⟩
  | lst ds => obtain ⟨a, xs, rfl, q, _⟩ := h.lst e; exact .inl ⟨(fun _ _ z => by cases z), (by simp [valTy, valNames]), .base (.lst q)⟩
  | kls ds =>
    obtain ⟨a, xs, rfl, q, _⟩ := h.kls e
    refine .inl ⟨(fun _ _ z => by cases z), (by simp [valTy, valNames]), ?_⟩
    rcases q with (q | ⟨o, q⟩) | ⟨o, its, n, h1, h2, _⟩
    · exact .base (.lst q)
    · exact .base (.frz q)
    · exact .kList h1 h2
  | dK ds => obtain ⟨a, xs, rfl, q, _⟩ := h.dK e; exact .inl ⟨(fun _ _ z => by cases z), (by simp [valTy, valNames]), .base (.dK q)⟩
  | dT ds => obtain ⟨a, xs, rfl, q, _⟩ := h.dT e; exact .inl ⟨(fun _ _ z => by cases z), (by simp [valTy, valNames]), .base (.dT q)⟩
  | ktp ds =>
    obtain ⟨a, xs, rfl, q, _⟩ := h.ktp
    refine .inl ⟨(fun _ _ z => by cases z), (by simp [valTy, valNames]), ?_⟩
    rcases q with (q | ⟨o, q⟩) | ⟨o, its, n, h1, h2, _⟩
    · exact .base (.tup q)
    · exact .fTuple q
    · exact .kTuple h1 h2
  | obj t ds => obtain ⟨a, C, dx, fs, rfl, hc, q, _⟩ := h.obj e; exact .inr ⟨t, ds, C, rfl, hc, hI.ty t C hc H a dx fs q⟩
  | adr a => exact absurd rfl (na.1 a)
  | fnc k => exact absurd rfl (na.2 k)
theorem kit_all : ∀ a ∈ valNames, ∀ b ∈ tyNames, kitB a b = some (a == b || (b == "int" && a == "bool")) := by decide +kernel
theorem isi_ok {W : CT} (hI : IsiOk W) {G H : Hp} {d : D} {v : V} (e : Same G H) (h : VRep W G H d v) (na : (∀ a, d ≠ .adr a) ∧ ∀ k, d ≠ .fnc k) {T : Ty} {u : Value} (hT : match T with
    | .b n => u = .type n ∧ n ∈ tyNames
    | .own t => ∃ C, u = .ref C ∧ W.cls t = some C) : ∃ t, TyX W.K H v t ∧ PySem.W.kitOne W.K t u = some (isT T d) := by
  rcases h.tyX hI e na with ⟨nobj, hv, ty⟩ | ⟨t, ds, C, rfl, hC, ty⟩
  · refine ⟨_, ty, ?_⟩
    cases T with
    | b n =>
      obtain ⟨rfl, hn⟩ := hT
      rw [kit_ty (kit_all _ hv _ hn)]
      cases d <;> first | rfl | exact absurd rfl (nobj _ _) | exact absurd rfl (na.1 _) | exact absurd rfl (na.2 _)
    | own t =>
      obtain ⟨C, rfl, hC⟩ := hT
      rw [hI.bo t C hC _ hv]
      cases d <;> first | rfl | exact absurd rfl (nobj _ _) | exact absurd rfl (na.1 _) | exact absurd rfl (na.2 _)
  · refine ⟨_, ty, ?_⟩
    cases T with
    | b n =>
      obtain ⟨rfl, hn⟩ := hT
      rw [hI.ob t C hC _ hn]
      rfl
    | own t' =>
      obtain ⟨C', rfl, hC'⟩ := hT
      rw [hI.oo t C t' C' hC hC']
      rfl
theorem de_isi {p : Pos} {e c : Expr} {a : SE} {T : Ty} (hK : F.W.K = X.K) (hI : IsiOk F.W) (hc : CallR X (.builtin "isinstance") (rIsi X.K)) (hg : Gl X "isinstance") (hm : X.mg "isinstance" = none) (ha : DE F X e a) (ht : TyE F X c T)
    (hse : starEach (e :: [c]) X.env = (false, eval e X.env) :: starEach [c] X.env := by rfl) (hsc : starEach (c :: []) X.env = (false, eval c X.env) :: starEach [] X.env := by rfl) (hpl : (backTo pos (starEach [c] X.env)).any (·.1) = false := by rfl) :
    DE F X (.Call (.Name "isinstance" p) (e :: [c]) [] pos) (sIsi T a) := by
  obtain ⟨cv, u, hp, hcv, hT⟩ := ht.pe
  refine ⟨(pe_callB hc hg hm boot_isinstance (pa_cons ha.pe (pa_cons hp pa_nil hsc) hse) (by decide) (by decide) hse hpl).imp fun σ H Q ⟨δ, G, S, w⟩ => ⟨δ, G, S, opd_ok (R := fun _ _ _ _ _ => True) ?_⟩⟩
  unfold sIsi at w
  cases e1 : opd (a δ) with
  | st => rw [e1] at w; exact w
  | ex c fs => rw [e1] at w; exact w
  | ok p =>
    obtain ⟨r, δ1⟩ := p
    rw [e1] at w
    intro x H1 G1 S1 g1 q1
    simp only [ok_bind] at w
    rcases look_case (δ := δ1) (r := r) with ⟨d, ed⟩ | ed
    · rw [ed] at w
      simp only [ok_bind] at w
      rcases fIsi_cases T d with ei | ⟨ei, na⟩
      · rw [ei] at w; exact False.elim w
      rw [ei] at w
      obtain ⟨t, h1, h2⟩ := isi_ok hI S1.gh (look_ok S1 q1 ed) na hT
      exact ⟨x, cv, t, u, _, rfl, hcv, by rw [← hK]; exact h1, by rw [← hK]; exact h2, w _ H1 G1 S1 g1 (.bl _)⟩
    · rw [ed] at w; exact False.elim w

/-! ### keywords -/
def sel {α : Type} (p : List Nat) (xs : List α) : List α := p.filterMap fun i => xs[i]?
theorem sel_rel {p : List Nat} {vs : List V} {us : List Value} (h : Vals vs us) : Vals (sel p vs) (sel p us) := by
  induction p with
  | nil => exact .nil
  | cons i p ih =>
    unfold sel
    rw [List.filterMap_cons, List.filterMap_cons]
    cases e : vs[i]? with
    | none => rw [h.none_of e]; exact ih
    | some v =>
      obtain ⟨u, hu, r⟩ := h.get e
      rw [hu]
      exact .cons r ih
theorem Reps.sel {W : CT} {G : Hp} (p : List Nat) {ds : List D} {vs : List V} (h : Reps W G ds vs) : Reps W G (DI.sel p ds) (DI.sel p vs) := by
  induction p with
  | nil => exact .nil
  | cons i p ih =>
    unfold DI.sel
    rw [List.filterMap_cons, List.filterMap_cons]
    cases e : ds[i]? with
    | none => rw [(h.get i).2 e]; exact ih
    | some d =>
      obtain ⟨v, hv, r⟩ := (h.get i).1 d e
      rw [hv]
      exact .cons r ih
structure DKw (F : Fx) (X : Cx) (kws : List Keyword) (s : SF) : Prop where
  pk : PK X kws (tF F s)
theorem _root_.L2.PK.imp {X : Cx} {e : List Keyword} {t t' : TA} (h : PK X e t) (i : ∀ σ H Q, t' σ H Q → t σ H Q) : PK X e t' := ⟨fun pos pins s σ H Q I w => h.run pos pins s σ H Q I (i σ H Q w)⟩
theorem dk_nil : DKw F X [] fNil := ⟨pk_nil.imp fun σ H Q ⟨δ, G, S, h⟩ => h [] H G S (Same.refl _) .nil⟩
theorem dk_cons {nm : Option Str} {e : Expr} {kpos : Pos} {kws : List Keyword} {a : SE} {s : SF} (ha : DE F X e a) (hs : DKw F X kws s) : DKw F X (⟨nm, e, kpos⟩ :: kws) (fCons a s) := by
  refine ⟨(pk_cons ha.pe hs.pk).imp fun σ H Q ⟨δ, G, S, h⟩ => ⟨δ, G, S, frz_ok ?_⟩⟩
  unfold fCons at h
  cases e1 : frz (a δ) with
  | st => rw [e1] at h; exact h
  | ex c fs => rw [e1] at h; exact h
  | ok p =>
    obtain ⟨r, δ1⟩ := p
    rw [e1] at h
    intro x H1 G1 S1 g1 q1
    simp only [ok_bind] at h
    refine ⟨δ1, G1, S1, ?_⟩
    cases e2 : s δ1 with
    | st => rw [e2] at h; exact h
    | ex c fs => rw [e2] at h; exact h
    | ok p =>
      obtain ⟨rs, δ2⟩ := p
      rw [e2] at h
      intro vs H2 G2 S2 g2 q2
      exact h (x :: vs) H2 G2 S2 (g1.trans g2) (.cons (q1.mono g2) q2)
/-- values, one list behind another, picked by places -/
def fSel (p : List Nat) (s u : SF) : SF := fun δ => do
  let (ds, δ1) ← s δ
  let (es, δ2) ← u δ1
  .ok (sel p (ds ++ es), δ2)
/-- how a call with keywords binds -/
structure KB (K : PySem.W.Frag) (fd : FuncData) (ps ks : List Str) (n : Nat) (p : List Nat) : Prop where
  to : ∀ (s : Shared) (us ws : List Value), us.length = n → ws.length = ks.length → BindsTo s fd ⟨us, ks.zip ws⟩ (ps.zip (sel p (us ++ ws)))
theorem run_k {k n m : Nat} {f : Addr} {fd : FuncData} {ps ks : List Str} {sp : Sp} {E : XK} {CX : CXT} {p : List Nat} {pins : List (Addr × Obj)} {σ : St} {H : Hp} {s : Shared} {Q : VK} {us ws : List Value} {vs zs : List V} (Fn : FnOk X.prog X.w X.K X.mg X.base CX k f fd ps sp) (hr : Room k X.A) (hb : KB X.K fd ps ks n p) (hx : Passes CX X E)
    (I : Inv X pins σ H s) (r : Vals vs us) (rz : Vals zs ws) (l1 : vs.length = n) (l2 : zs.length = ks.length) (h : sp (sel p (vs ++ zs)) H Q E) : wpAny (model X.prog X.w) X.A (call (.ref f) us (ks.zip ws)) (EP X pins σ Q) X.xe s := by
  have r2 : Vals (sel p (vs ++ zs)) (sel p (us ++ ws)) := sel_rel (r.append rz)
  refine wpAny_call (codeAny_mono (Fn.run X.A X.stack s H ⟨us, ks.zip ws⟩ _ _ Q E hr I.env0 (hb.to s us ws (by rw [← r.length]; exact l1) (by rw [← rz.length]; exact l2)) r2 h) fun r s' hq => ?_)
  match r, hq with
  | .error e, hq => exact hx pins σ H s e s' I hq
  | .ok (.ret u), hq => exact I.after hq
theorem own_sel {n m j : Nat} {p : List Nat} {sem : List D → Out RV} {s u : SF} (hn : SF.Many s n) (hm : SF.Many u m) (hj : ∀ xs : List D, xs.length = n + m → (sel p xs).length = j) (σ : St) (H : Hp) (Q : VK) : tE F (sOwn sem (fSel p s u)) σ H Q →
    tF F s σ H fun vs H1 => vs.length = n ∧ tF F u σ H1 fun zs H2 => zs.length = m ∧ spD F.W F.hot j sem (sel p (vs ++ zs)) H2 Q F.E := by
  rintro ⟨δ, G, S, h⟩
  refine ⟨δ, G, S, ?_⟩
  unfold sOwn fSel at h
  cases e1 : s δ with
  | st => rw [e1] at h; exact h
  | ex c fs => rw [e1] at h; exact h
  | ok q =>
    obtain ⟨ds, δ1⟩ := q
    rw [e1] at h
    simp only [ok_bind] at h
    intro vs H1 G1 S1 g1 q1
    refine ⟨by rw [← q1.length]; exact hn _ _ _ e1, δ1, G1, S1, ?_⟩
    cases e2 : u δ1 with
    | st => rw [e2] at h; exact h
    | ex c fs => rw [e2] at h; exact h
    | ok q =>
      obtain ⟨es, δ2⟩ := q
      rw [e2] at h
      simp only [ok_bind] at h
      intro zs H2 G2 S2 g2 q2
      have qq := ((q1.mono g2).append q2).sel p
      refine ⟨by rw [← q2.length]; exact hm _ _ _ e2, by rw [← qq.length]; exact hj _ (by rw [List.length_append, hn _ _ _ e1, hm _ _ _ e2]), _, G2, S2.gh, qq, ?_⟩
      cases e3 : sem (sel p (ds ++ es)) with
      | st => rw [e3] at h; exact h
      | ex c fs => rw [e3] at h; exact XAll.up S2 h
      | ok r =>
        rw [e3] at h
        intro v H3 G3 k1 k2 k3 k4 k5
        have S3 := S2.afterN k1 k2 k3 k4
        have gg := (g1.trans g2).trans (noT_same k2)
        cases r with
        | im d => exact h v H3 _ S3 gg (Rep.monoN noT_N k5)
        | fr c =>
          obtain ⟨a, o, rfl, z1, z2, z3, z4⟩ := k5
          refine h _ H3 _ S3 gg ⟨a, o, rfl, z1, z2.monoN noT_N, noT_none z3, S2.bh.free z4, fun i c' ei q => ?_⟩
          obtain ⟨b, o', y1, y2, _⟩ := S2.ow i c' ei
          rw [y1] at q
          cases q
          rw [z4] at y2; cases y2
        | bo i => exact h.elim
/-- f(k = e, ..) -/
theorem de_ownK0 {k m j : Nat} {f : Addr} {fd : FuncData} {ps ks : List Str} {p : List Nat} {sem : List D → Out RV} {x : Str} {p' : Pos} {kws : List Keyword} {s : SF} {CX : CXT} (Fn : FnOk X.prog X.w X.K X.mg X.base CX k f fd ps (spD F.W F.hot j sem)) (hr : Room k X.A) (hg : Gl X x) (hm : X.mg x = some (.ref f)) (hk : PySem.W.keepIn X.K (.ref f) = true)
    (hb : KB X.K fd ps ks 0 p) (hx : Passes CX X F.E) (hn : SF.Many s m) (hkl : ks.length = m) (hj : ∀ xs : List D, xs.length = 0 + m → (sel p xs).length = j) (ha : DKw F X kws s)
    (hall : (backToKw pos (keywordEach kws X.env)).all (·.1.isSome) = true := by rfl) (hks : (backToKw pos (keywordEach kws X.env)).filterMap (·.1) = ks := by rfl) (hdb : (x == ("__debug__" : Str)) = false := by decide)
    (hpl : ((backTo pos (starEach [] X.env)).any (·.1) || (backToKw pos (keywordEach kws X.env)).any (·.1.isNone)) = false := by rfl) :
    DE F X (.Call (.Name x p') [] kws pos) (sOwn sem (fSel p fNil s)) := by
  refine ⟨⟨fun pins st σ H Q I h => ?_⟩⟩
  obtain ⟨δ, G, S, w⟩ := own_sel many_nil hn hj σ H Q h
  obtain ⟨_, w⟩ := w [] H G S (Same.refl _) .nil
  refine wpAny_Call_Name_kw (ld_glob I hg hm (PySem.W.callWith_KW0 (h₀ := X.base) I.ok.mod.kin hk hall ?_ hpl) hdb)
  refine thn (ha.pk.run pos pins st σ H _ I w) fun ws s2 ⟨zs, H2, I2, rz, q1, q2⟩ => ⟨I2.kIn, ?_⟩
  rw [hks]
  exact run_k (m := m) (us := []) (vs := []) Fn hr hb hx I2 .nil rz rfl (by rw [hkl]; exact q1) q2
/-- f(e, .., k = e, ..) -/
theorem de_ownK {k n m j : Nat} {f : Addr} {fd : FuncData} {ps ks : List Str} {p : List Nat} {sem : List D → Out RV} {x : Str} {p' : Pos} {e : Expr} {es : List Expr} {kws : List Keyword} {u s : SF} {CX : CXT} (Fn : FnOk X.prog X.w X.K X.mg X.base CX k f fd ps (spD F.W F.hot j sem)) (hr : Room k X.A) (hg : Gl X x) (hm : X.mg x = some (.ref f)) (hk : PySem.W.keepIn X.K (.ref f) = true)
    (hb : KB X.K fd ps ks n p) (hx : Passes CX X F.E) (hu : SF.Many u n) (hn : SF.Many s m) (hkl : ks.length = m) (hj : ∀ xs : List D, xs.length = n + m → (sel p xs).length = j) (hp : DF F X (e :: es) u) (ha : DKw F X kws s)
    (hall : (backToKw pos (keywordEach kws X.env)).all (·.1.isSome) = true := by rfl) (hks : (backToKw pos (keywordEach kws X.env)).filterMap (·.1) = ks := by rfl) (hdb : (x == ("__debug__" : Str)) = false := by decide)
    (he : starEach (e :: es) X.env = (false, eval e X.env) :: starEach es X.env := by rfl)
    (hpl : ((backTo pos (starEach (e :: es) X.env)).any (·.1) || (backToKw pos (keywordEach kws X.env)).any (·.1.isNone)) = false := by rfl) :
    DE F X (.Call (.Name x p') (e :: es) kws pos) (sOwn sem (fSel p u s)) := by
  refine ⟨⟨fun pins st σ H Q I h => ?_⟩⟩
  refine wpAny_Call_Name_kw (ld_glob I hg hm (PySem.W.callWith_KW (h₀ := X.base) I.ok.mod.kin hk hall (thn (hp.pa.run pos pins st σ H _ I (own_sel hu hn hj σ H Q h)) fun us s1 ⟨vs, H1, I1, r, ln, w⟩ => ?_) hpl he) hdb)
  refine thn (ha.pk.run pos pins s1 σ H1 _ I1 w) fun ws s2 ⟨zs, H2, I2, rz, q1, q2⟩ => ⟨I2.kIn, ?_⟩
  rw [hks]
  exact run_k (m := m) Fn hr hb hx I2 r rz ln (by rw [hkl]; exact q1) q2
end
end L2.DI

/-! DIC: several names stored at once; texts joined; new instances by keywords. -/
namespace L2.DI
open PySem PySem.Spec PyProof.Rows

/-! ### values side by side, new lists and dicts among them -/
abbrev SR := DS → Out (List RV × DS)
inductive RVs (F : Fx) (δ : DS) (σ : St) (H G : Hp) : List RV → List V → Prop
  | nil : RVs F δ σ H G [] []
  | cons {r : RV} {v : V} {rs : List RV} {vs : List V} (h : RVOk F δ σ H G r v) (nb : ∀ i, r ≠ .bo i) (ap : ∀ c, r = .fr c → ∀ (k : Nat) (c' : D), rs[k]? = some (.fr c') → vs[k]? ≠ some v) (t : RVs F δ σ H G rs vs) : RVs F δ σ H G (r :: rs) (v :: vs)
def SatM (F : Fx) (o : Out (List RV × DS)) (σ : St) (G : Hp) (Q : List V → Hp → Prop) : Prop := match o with
  | .ok (rs, δ') => ∀ vs H' G', SOk F δ' σ H' G' → Same G G' → RVs F δ' σ H' G' rs vs → Q vs H'
  | .ex c fs => XAll F c fs
  | .st => False
def tM (F : Fx) (s : SR) : TA := fun σ H Q => ∃ δ G, SOk F δ σ H G ∧ SatM F (s δ) σ G Q
structure DM (F : Fx) (X : Cx) (es : List Expr) (s : SR) : Prop where
  pa : PA X es (tM F s)
/-- what is the frame's own is frozen, what is new stays new -/
def unbo (o : Out (RV × DS)) : Out (RV × DS) := match o with
  | .ok (.bo i, δ) => (match δ[i]? with
    | some (.ow c) => .ok (.im c, δ.set i (.im c))
    | _ => .st)
  | o => o
def mNil : SR := fun δ => .ok ([], δ)
def mCons (a : SE) (s : SR) : SR := fun δ => do
  let (r, δ1) ← unbo (a δ)
  let (rs, δ2) ← s δ1
  .ok (r :: rs, δ2)
section
variable {F : Fx} {X : Cx} {pos : Pos}
theorem unbo_ok {o : Out (RV × DS)} {σ : St} {G : Hp} {Q : VK}
    (h : match unbo o with
      | .ok (r, δ') => ∀ v H' G', SOk F δ' σ H' G' → Same G G' → RVOk F δ' σ H' G' r v → (∀ i, r ≠ .bo i) → Q v H'
      | .ex c fs => XAll F c fs
      | .st => False) : SatE F o σ G Q := by
  cases o with
  | ok p =>
    obtain ⟨r, δ'⟩ := p
    intro v H' G' S e q
    cases r with
    | im d => exact h v H' G' S e q (fun i z => by cases z)
    | fr c => exact h v H' G' S e q (fun i z => by cases z)
    | bo i =>
      obtain ⟨⟨c, hc⟩, hv⟩ := q
      obtain ⟨G2, S2, e2, r2⟩ := S.freezeSlot hc hv
      dsimp only [unbo] at h
      rw [hc] at h
      exact h v H' G2 S2 (e.trans e2) r2 (fun i z => by cases z)
  | ex c fs => exact h
  | st => exact h
theorem dm_nil : DM F X [] mNil := ⟨pa_nil.imp fun σ H Q ⟨δ, G, S, h⟩ => h [] H G S (Same.refl _) .nil⟩
theorem XAll.pin {p : Addr} {o : HO} {c : Nat} {fs : List D} (hB : F.B p = none) (h : XAll F c fs) : XAll ⟨F.W, upd F.B p o, F.G0, F.E, F.hot, F.T⟩ c fs := by
  have k : ∀ b u, F.B b = some u → upd F.B p o b = some u := fun b u e => by rw [upd_ne (ne_of_none e hB)]; exact e
  exact ⟨h.1, fun H' G' C hC h1 h2 h3 h4 => h.2 H' G' C hC (fun b u e => h1 b u (k b u e)) h2 h3 fun b ob hb nt h0 => h4 b ob (k b ob hb) nt h0⟩
theorem RVOk.unpin {p : Addr} {o : HO} {E : XK} {hot : Bool} {δ : DS} {σ : St} {H G : Hp} {r : RV} {v : V} (h : RVOk ⟨F.W, upd F.B p o, F.G0, E, hot, F.T⟩ δ σ H G r v) : RVOk F δ σ H G r v := by
  cases r with
  | im d => exact h
  | bo i => exact h
  | fr c =>
    obtain ⟨a, o', h1, h2, h3, h4, h5, h6⟩ := h
    refine ⟨a, o', h1, h2, h3, h4, ?_, h6⟩
    have h5' : upd F.B p o a = none := h5
    by_cases e : a = p
    · rw [e, upd_same] at h5'; cases h5'
    · rw [upd_ne e] at h5'; exact h5'
theorem RVs.unpin {p : Addr} {o : HO} {E : XK} {hot : Bool} {δ : DS} {σ : St} {H G : Hp} : ∀ {rs : List RV} {vs : List V}, RVs ⟨F.W, upd F.B p o, F.G0, E, hot, F.T⟩ δ σ H G rs vs → RVs F δ σ H G rs vs ∧ ∀ (k : Nat) (c : D), rs[k]? = some (.fr c) → vs[k]? ≠ some (.ref p)
  | _, _, .nil => ⟨.nil, fun k c h => by simp at h⟩
  | _, _, .cons h nb ap t => by
    obtain ⟨t1, t2⟩ := RVs.unpin t
    refine ⟨.cons h.unpin nb ap t1, fun k c e z => ?_⟩
    cases k with
    | zero =>
      simp at e z
      subst e z
      obtain ⟨a, o', h1, _, _, _, h5, _⟩ := h
      cases h1
      have h5' : upd F.B p o p = none := h5
      rw [upd_same] at h5'; cases h5'
    | succ k => exact t2 k c (by simpa using e) (by simpa using z)
theorem dm_cons {e : Expr} {es : List Expr} {a : SE} {s : SR} (ha : DE F X e a) (hs : ∀ B', DM ⟨F.W, B', F.G0, F.E, F.hot, F.T⟩ X es s) (hst : starEach (e :: es) X.env = (false, eval e X.env) :: starEach es X.env := by rfl) : DM F X (e :: es) (mCons a s) := by
  refine ⟨(pa_cons (te := tE F a) (t := fun σ H Q => ∃ B', tM ⟨F.W, B', F.G0, F.E, F.hot, F.T⟩ s σ H Q) ha.pe ⟨fun ps pins st σ H Q I ⟨B', w⟩ => (hs B').pa.run ps pins st σ H Q I w⟩ hst).imp fun σ H Q ⟨δ, G, S, h⟩ => ⟨δ, G, S, unbo_ok ?_⟩⟩
  unfold mCons at h
  cases e1 : unbo (a δ) with
  | st => rw [e1] at h; exact h
  | ex c fs => rw [e1] at h; exact h
  | ok p =>
    obtain ⟨r, δ1⟩ := p
    rw [e1] at h
    simp only [ok_bind] at h
    intro x H1 G1 S1 g1 q1 nb
    cases r with
    | bo i => exact absurd rfl (nb i)
    | im d =>
      refine ⟨F.B, δ1, G1, S1, ?_⟩
      cases e2 : s δ1 with
      | st => rw [e2] at h; exact h
      | ex c fs => rw [e2] at h; exact h
      | ok p =>
        obtain ⟨rs, δ2⟩ := p
        rw [e2] at h
        intro vs H2 G2 S2 g2 q2
        exact h (x :: vs) H2 G2 S2 (g1.trans g2) (.cons (Rep.mono g2 q1) nb (fun c z => by cases z) q2)
    | fr c =>
      obtain ⟨p, o, rfl, h1, h2, h3, h4, h5⟩ := q1
      have S1' := S1.pin h1 h3 h5 F.E F.hot h2.nx.1
      refine ⟨upd F.B p o, δ1, G1, S1', ?_⟩
      cases e2 : s δ1 with
      | st => rw [e2] at h; exact h
      | ex c fs => rw [e2] at h; exact XAll.pin h4 h
      | ok pp =>
        obtain ⟨rs, δ2⟩ := pp
        rw [e2] at h
        intro vs H2 G2 S2 g2 q2
        obtain ⟨y1, y2, y3⟩ := S2.pinned (S1.g0.free h3) h2.nt
        obtain ⟨t1, t2⟩ := q2.unpin
        exact h (.ref p :: vs) H2 G2 (S2.unpin h4) (g1.trans g2) (.cons ⟨p, o, rfl, y1, h2.mono g2, y2, h4, y3⟩ nb (fun c' _ k c2 ek => t2 k c2 ek) t1)

/-! ### a, b, .. = x, y, .. -/
def putAll : List Nat → List RV → DS → Out DS
  | [], [], δ => .ok δ
  | i :: is, r :: rs, δ => do
    let δ1 ← put i r δ
    putAll is rs δ1
  | _, _, _ => .st
def setVs : List Nat → List V → St → St
  | i :: is, v :: vs, σ => setVs is vs (σ.set i (some v))
  | _, _, σ => σ
theorem RVs.set {δ : DS} {σ : St} {H G : Hp} {i : Nat} {r : RV} {v : V} {δ' : DS} (h : put i r δ = .ok δ') (nb : ∀ i, r ≠ .bo i) : ∀ {rs : List RV} {vs : List V}, RVs F δ σ H G rs vs → (∀ c, r = .fr c → ∀ (k : Nat) (c' : D), rs[k]? = some (.fr c') → vs[k]? ≠ some v) → RVs F δ' (σ.set i (some v)) H G rs vs
  | _, _, .nil, _ => .nil
  | r2 :: rs, v2 :: vs, .cons q nb2 ap t, hap => by
    refine .cons ?_ nb2 ap (RVs.set h nb t fun c e k c' ek => by have := hap c e (k + 1) c' (by simpa using ek); simpa using this)
    cases r2 with
    | im d => exact q
    | bo j => exact absurd rfl (nb2 j)
    | fr c2 =>
      obtain ⟨a, o, rfl, h1, h2, h3, h4, h5⟩ := q
      refine ⟨a, o, rfl, h1, h2, h3, h4, fun j c' ej z => ?_⟩
      cases r with
      | bo j => exact absurd rfl (nb j)
      | im d =>
        cases h
        rcases get_set ej with ⟨rfl, e⟩ | ⟨hn, e⟩
        · cases e
        · rw [List.getElem?_set_ne hn] at z
          exact h5 j c' e z
      | fr c =>
        cases h
        rcases get_set ej with ⟨rfl, e⟩ | ⟨hn, e⟩
        · rw [List.getElem?_set, if_pos rfl] at z
          split at z
          · cases z
            exact hap c rfl 0 c2 (by simp) (by simp)
          · cases z
        · rw [List.getElem?_set_ne hn] at z
          exact h5 j c' e z
theorem putAll_ok : ∀ {is : List Nat} {rs : List RV} {vs : List V} {δ δ' : DS} {σ : St} {H G : Hp}, SOk F δ σ H G → RVs F δ σ H G rs vs → putAll is rs δ = .ok δ' → SOk F δ' (setVs is vs σ) H G ∧ is.length = vs.length
  | [], [], _, _, _, _, _, _, S, .nil, h => by cases h; exact ⟨S, rfl⟩
  | [], _ :: _, _, _, _, _, _, _, _, _, h => by cases h
  | _ :: _, [], _, _, _, _, _, _, _, .nil, h => by cases h
  | i :: is, r :: rs, v :: vs, δ, δ', σ, H, G, S, .cons q nb ap t, h => by
    unfold putAll at h
    obtain ⟨δ1, h1, h2⟩ := bind_ok h
    have S1 := put_ok S q h1
    have t1 := RVs.set h1 nb t ap
    obtain ⟨y1, y2⟩ := putAll_ok S1 t1 h2
    exact ⟨y1, by simp [y2]⟩
def sPar (is : List Nat) (s : SR) : SS := fun δ => do
  let (rs, δ1) ← s δ
  let δ2 ← putAll is rs δ1
  .ok (.nx, δ2)
theorem P0.setVs {pz : Option Addr} : ∀ {is : List Nat} {vs : List V} {σ : St}, P0 pz σ → (0 ∈ is → pz = none) → P0 pz (DI.setVs is vs σ)
  | [], _, _, h, _ => h
  | _ :: _, [], _, h, _ => h
  | i :: is, v :: vs, σ, h, hi => P0.setVs (is := is) (vs := vs) (h.set fun z => hi (by rw [z]; exact List.mem_cons_self)) fun z => hi (List.mem_cons_of_mem _ z)
theorem par_imp {pz : Option Addr} {is : List Nat} (hi0 : 0 ∈ is → pz = none) (s : SR) (D : Ends) (σ : St) (H : Hp) : tS pz F (sPar is s) D σ H → tM F s σ H fun vs H1 => is.length = vs.length ∧ D.nx (setVs is vs σ) H1 := by
  rintro ⟨δ, G, S, z0, h⟩
  refine ⟨δ, G, S, ?_⟩
  unfold sPar at h
  cases e1 : s δ with
  | st => rw [e1] at h; exact h
  | ex c fs => rw [e1] at h; exact h
  | ok p =>
    obtain ⟨rs, δ1⟩ := p
    rw [e1] at h
    simp only [ok_bind] at h
    intro vs H1 G1 S1 g1 q1
    cases e2 : putAll is rs δ1 with
    | st => rw [e2] at h; exact False.elim h
    | ex c fs =>
      exfalso
      have : ∀ (is : List Nat) (rs : List RV) (δ : DS) c fs, putAll is rs δ ≠ .ex c fs := by
        intro is
        induction is with
        | nil => intro rs δ c fs z; cases rs <;> cases z
        | cons i is ih =>
          intro rs δ c fs z
          cases rs with
          | nil => cases z
          | cons r rs =>
            unfold putAll at z
            rcases put_case (i := i) (r := r) (δ := δ) with ⟨δ', e⟩ | e
            · rw [e] at z; exact ih rs δ' c fs z
            · rw [e] at z; cases z
      exact this _ _ _ _ _ e2
    | ok δ2 =>
      rw [e2] at h
      obtain ⟨y1, y2⟩ := putAll_ok S1 q1 e2
      exact ⟨y2, h _ H1 G1 y1 g1 (z0.setVs hi0)⟩
/-- two plain local names -/
theorem ds_par2 {pz : Option Addr} {i j : Nat} {x y : Str} {a b : Expr} {s : SR} {px py pt : Pos} {kt k2 pt2} (hc : X.calm = true) (hN : X.N.Nodup) (ha : DM F X [a, b] s) (hi : X.N[i]? = some x := by rfl) (hj : X.N[j]? = some y := by rfl) (hij : i ≠ j := by decide)
    (hx : X.env.scope.names.lookup x = some .local := by rfl) (hy : X.env.scope.names.lookup y = some .local := by rfl)
    (hw : swappedStores [.Tuple [.Name x px, .Name y py] kt pt] (.Tuple [a, b] k2 pt2) X.env = pure (some [x, y]) := by rfl)
    (hs : swapsWithSole [.Tuple [.Name x px, .Name y py] kt pt] (.Tuple [a, b] k2 pt2) pos.line X.env = pure false := by rfl) (hi0 : 0 ∈ [i, j] → pz = none := by first | exact fun _ => rfl | exact fun z => absurd z (by decide)) :
    DSt pz F X (.Assign [.Tuple [.Name x px, .Name y py] kt pt] (.Tuple [a, b] k2 pt2) pos) (sPar [i, j] s) := by
  refine ⟨(ps_par hc hN hi hj hij hx hy ha.pa hw hs).imp fun D σ H h => ?_⟩
  obtain ⟨δ, G, S, w⟩ := par_imp hi0 s D σ H h
  refine ⟨δ, G, S, ?_⟩
  cases e : s δ with
  | st => rw [e] at w; exact w
  | ex c fs => rw [e] at w; exact w
  | ok p =>
    rw [e] at w
    intro vs H' G' S' g q
    obtain ⟨hl, w⟩ := w vs H' G' S' g q
    match vs, hl, w with
    | [v, u], _, w => exact ⟨v, u, rfl, w⟩
/-- names, by the tuple that is made (some are cells) -/
def gNs : List Nat → TGs
  | [] => gNil
  | i :: is => gCons (gName i) (gNs is)
theorem gNs_of : ∀ {is : List Nat} {vs : List V} {σ : St} {H : Hp} {Q : St → Hp → Prop}, is.length = vs.length → Q (setVs is vs σ) H → gNs is vs σ H Q
  | [], [], _, _, _, _, h => ⟨rfl, h⟩
  | [], _ :: _, _, _, _, e, _ => by cases e
  | _ :: _, [], _, _, _, e, _ => by cases e
  | i :: is, v :: vs, σ, H, Q, e, h => ⟨v, vs, rfl, gNs_of (by simpa using e) h⟩
theorem RVs.made {δ : DS} {σ : St} {H G : Hp} {p : Addr} {o : HO} (hp : H p = none) : ∀ {rs : List RV} {vs : List V}, RVs F δ σ H G rs vs → RVs F δ σ (upd H p o) G rs vs
  | _, _, .nil => .nil
  | r :: rs, v :: vs, .cons h nb ap t => .cons (by
    cases r with
    | im d => exact h
    | bo i => exact h
    | fr c =>
      obtain ⟨a, o', h1, h2, h3⟩ := h
      exact ⟨a, o', h1, by rw [upd_ne (ne_of_none h2 hp)]; exact h2, h3⟩) nb ap (RVs.made hp t)
theorem ds_parT {pz : Option Addr} {is : List Nat} {tgs es : List Expr} {s : SR} {kt pt k2 pt2} (hc : X.calm = true) (ha : DM F X es s) (hg : PGs X tgs (gNs is)) (hn : (assignEach tgs X.env).length = is.length := by rfl) (hst : (assignEach tgs X.env).findIdx? (·.1) = none := by rfl) (hl : is.length ≤ 100 := by decide)
    (hs : swapsWithSole [.Tuple tgs kt pt] (.Tuple es k2 pt2) pos.line X.env = pure false := by rfl) (hw : swappedStores [.Tuple tgs kt pt] (.Tuple es k2 pt2) X.env = pure none := by rfl)
    (h1 : (assignEach [.Tuple tgs kt pt] X.env).map (·.2) = [assign (.Tuple tgs kt pt) X.env] := by rfl) (hi0 : 0 ∈ is → pz = none := by first | exact fun _ => rfl | exact fun z => absurd z (by decide)) :
    DSt pz F X (.Assign [.Tuple tgs kt pt] (.Tuple es k2 pt2) pos) (sPar is s) := by
  refine ⟨(ps_asg (pe_tup ha.pa) (pg_tup hc hg hn hst) hs hw h1).imp fun D σ H h => ?_⟩
  obtain ⟨δ, G, S, w⟩ := par_imp hi0 s D σ H h
  refine ⟨δ, G, S, ?_⟩
  cases e : s δ with
  | st => rw [e] at w; exact w
  | ex c fs => rw [e] at w; exact w
  | ok p =>
    rw [e] at w
    obtain ⟨rs, δ1⟩ := p
    intro vs H' G' S' g q
    have w' : ∀ vs H' G', SOk F δ1 σ H' G' → Same G G' → RVs F δ1 σ H' G' rs vs → is.length = vs.length ∧ D.nx (setVs is vs σ) H' := w
    obtain ⟨hl', _⟩ := w' vs H' G' S' g q
    refine ⟨by rw [← hl', lim_eq]; exact Nat.le_trans hl (by decide), fun p hp => ⟨p, vs, rfl, .inl (.inl upd_same), hl'.symm, gNs_of hl' ?_⟩⟩
    exact (w' vs _ G' (S'.made hp (.tup vs)) g (q.made hp)).2
theorem vals3 {a b c : V} {us : List Value} (r : Vals [a, b, c] us) : ∃ u1 u2 u3, us = [u1, u2, u3] ∧ RelV a u1 ∧ RelV b u2 ∧ RelV c u3 := by
  cases r with
  | cons p q => cases q with
    | cons p' q' => cases q' with
      | cons p'' q'' => cases q''; exact ⟨_, _, _, rfl, p, p', p''⟩
theorem len3 {α : Type} {l : List α} (h : l.length = 3) : ∃ a b c, l = [a, b, c] := by
  match l, h with
  | [a, b, c], _ => exact ⟨_, _, _, rfl⟩
/-- three plain local names: stored from the right -/
theorem ds_par3 {pz : Option Addr} {i j k : Nat} {x y z : Str} {a b c : Expr} {s : SR} {px py pz' pt : Pos} {kt k2 pt2} (hc : X.calm = true) (hN : X.N.Nodup) (ha : DM F X [a, b, c] s) (hi : X.N[i]? = some x := by rfl) (hj : X.N[j]? = some y := by rfl) (hk : X.N[k]? = some z := by rfl) (hij : i ≠ j := by decide) (hik : i ≠ k := by decide) (hjk : j ≠ k := by decide)
    (hx : X.env.scope.names.lookup x = some .local := by rfl) (hy : X.env.scope.names.lookup y = some .local := by rfl) (hz : X.env.scope.names.lookup z = some .local := by rfl)
    (hw : swappedStores [.Tuple [.Name x px, .Name y py, .Name z pz'] kt pt] (.Tuple [a, b, c] k2 pt2) X.env = pure (some [x, y, z]) := by rfl)
    (hs : swapsWithSole [.Tuple [.Name x px, .Name y py, .Name z pz'] kt pt] (.Tuple [a, b, c] k2 pt2) pos.line X.env = pure false := by rfl) (hi0 : 0 ∈ [i, j, k] → pz = none := by first | exact fun _ => rfl | exact fun z => absurd z (by decide)) :
    DSt pz F X (.Assign [.Tuple [.Name x px, .Name y py, .Name z pz'] kt pt] (.Tuple [a, b, c] k2 pt2) pos) (sPar [i, j, k] s) := by
  refine ⟨⟨fun pins st σ H D I h => ?_⟩⟩
  have h0 := par_imp hi0 s D σ H h
  rw [exec_Assign_arm]
  refine wpAny_bind (wpAny_standAt ?_); rw [hs]; refine wpAny_bind (wpAny_pure ?_); rw [if_neg (by decide)]
  refine wpAny_bind (Tuple_ (thn (ha.pa.run _ pins st σ H (fun vs H1 => [i, j, k].length = vs.length ∧ D.nx (setVs [i, j, k] vs σ) H1) I h0) fun us s1 ⟨vs, H1, I1, r1, hl, q1⟩ => ?_))
  obtain ⟨v1, v2, v3, rfl⟩ := len3 hl.symm
  obtain ⟨u1, u2, u3, rfl, w1, w2, w3⟩ := vals3 r1
  refine wpAny_newObj_type ?_ (show 3 ≤ sizeLine by decide)
  have J := I1.kept (h' := s1.heap.push { cls := .type "tuple", data := .seq [u1, u2, u3].toArray }) (t' := s1.toks) fun b o e => Heap.get?_push_of_some _ e
  rw [hw]; refine wpAny_bind (wpAny_pure ?_)
  show wpAny (model X.prog X.w) X.A (do rule "assign.swapped-stores"; let got ← unpackItems (.ref s1.heap.objs.size) 3 none; assignInOrder [fun v => bindName X.env z v, fun v => bindName X.env y v, fun v => bindName X.env x v] got.reverse; pure Flow.next) _ _ _
  refine wpAny_bind (wpAny_rule (wpAny_bind (unpackItems_tuple (items := #[u1, u2, u3]) (I.ok.hd hc) (IsTup.new s1.heap _) fun h' hx' => ?_)))
  have J3 := J.kept (h' := h') (t' := s1.toks) fun b o e => hx' b o (Nat.ne_of_lt (Heap.lt_size e)) e
  show wpAny _ _ (assignInOrder [fun v => bindName X.env z v, fun v => bindName X.env y v, fun v => bindName X.env x v] [u3, u2, u1] >>= fun _ => pure Flow.next) _ _ _
  refine wpAny_bind (assignInOrder_cons (wpAny_bindName (store_ok J3 hN hk (.inl hz) w3 (fun s2 I4 => ?_) (.inr hz))))
  refine assignInOrder_cons (wpAny_bindName (store_ok I4 hN hj (.inl hy) w2 (fun s3 I5 => ?_) (.inr hy)))
  refine assignInOrder_cons (wpAny_bindName (store_ok I5 hN hi (.inl hx) w1 (fun s4 I6 => assignInOrder_nil (wpAny_pure ?_)) (.inr hx)))
  have e : ((σ.set k (some v3)).set j (some v2)).set i (some v1) = setVs [i, j, k] [v1, v2, v3] σ := by
    show _ = ((σ.set i (some v1)).set j (some v2)).set k (some v3)
    rw [List.set_comm _ _ (Ne.symm hjk), List.set_comm _ _ (Ne.symm hik), List.set_comm (some v2) (some v1) (Ne.symm hij)]
  rw [e] at I6
  exact ⟨_, H1, I6, q1⟩

/-! ### sep.join(texts) -/
def strOf : D → Option (List Nat)
  | .str b => some b
  | _ => none
def strsD : List D → Option (List (List Nat))
  | [] => some []
  | d :: ds => match strOf d, strsD ds with
    | some b, some bs => some (b :: bs)
    | _, _ => none
theorem strs_ok {W : CT} {G : Hp} : ∀ {ds : List D} {vs : List V} {bs : List (List Nat)}, Reps W G ds vs → strsD ds = some bs → vs = (bs.map mk).map V.str ∧ ∀ b ∈ bs, asc b = true
  | _, _, _, .nil, e => by cases e; exact ⟨rfl, fun b h => nomatch h⟩
  | d :: ds, v :: vs, bs, .cons h t, e => by
    unfold strsD at e
    cases e1 : strOf d with
    | none => rw [e1] at e; cases e
    | some b =>
      cases q : strsD ds with
      | none => rw [e1, q] at e; cases e
      | some cs =>
        rw [e1, q] at e
        cases e
        obtain ⟨i1, i2⟩ := strs_ok t q
        have hd : d = .str b := by
          cases d <;> first | (cases e1; rfl) | cases e1
        subst hd
        obtain ⟨hv, ha⟩ := (VRep.of (H := G) h).str
        refine ⟨by rw [i1, hv]; rfl, fun b hb => ?_⟩
        rcases List.mem_cons.mp hb with rfl | hb
        · exact ha
        · exact i2 b hb
/-- texts with one between -/
def jnL (sep : List Nat) (l : List (List Nat)) : List Nat := (Str.join (mk sep) (l.map mk)).cps.toList
theorem jnL_nil (sep : List Nat) : jnL sep [] = [] := rfl
theorem jnL_one (sep a : List Nat) : jnL sep [a] = a := rfl
theorem jnL_cons (sep a b : List Nat) (r : List (List Nat)) : jnL sep (a :: b :: r) = a ++ sep ++ jnL sep (b :: r) := by
  show (mk a ++ mk sep ++ Str.join (mk sep) ((b :: r).map mk)).cps.toList = _
  rw [mk_append]
  show ((mk (a ++ sep)).cps ++ (Str.join (mk sep) ((b :: r).map mk)).cps).toList = _
  rw [Array.toList_append]
  rfl
theorem asc_jn {sep : List Nat} (hs : asc sep = true) : ∀ {l : List (List Nat)}, (∀ b ∈ l, asc b = true) → asc (jnL sep l) = true
  | [], _ => rfl
  | [a], h => by rw [jnL_one]; exact h a List.mem_cons_self
  | a :: b :: r, h => by
    rw [jnL_cons]
    exact asc_append (asc_append (h a List.mem_cons_self) hs) (asc_jn hs fun x hx => h x (List.mem_cons_of_mem _ hx))
def textsOf : D → Option (List (List Nat))
  | .lst ds => strsD ds
  | .tup ds => strsD ds
  | _ => none
def fJoin (s d : D) : Out RV := match s with
  | .str a => (match textsOf d with
    | some bs => if (bs.map (·.length)).sum + bs.length * a.length ≤ LIM then .ok (.im (.str (jnL a bs))) else .st
    | none => .st)
  | _ => .st
/-- o.m(e), o a text -/
def sMt1 (f : D → D → Out RV) (a b : SE) : SE := fun δ => do
  let (ra, δ1) ← opd (a δ)
  (match ra with
    | .im (.str l) => (do
      let (rb, δ2) ← opd (b δ1)
      let d ← look δ2 rb
      let r ← f (.str l) d
      .ok (r, δ2))
    | _ => .st)
theorem mt1_imp {r : V → List V → Hp → VK → Prop} {f : D → D → Out RV} (ho : Op2 X F (fun x y H Q => r x [y] H Q) f) (a b : SE) (σ : St) (H : Hp) (Q : VK) : tE F (sMt1 f a b) σ H Q → tM1 r (tE F a) (tE F b) σ H Q := by
  rintro ⟨δ, G, S, h⟩
  refine ⟨δ, G, S, opd_ok (R := fun _ _ _ _ _ => True) ?_⟩
  unfold sMt1 at h
  cases e1 : opd (a δ) with
  | st => rw [e1] at h; exact h
  | ex c fs => rw [e1] at h; exact h
  | ok p =>
    obtain ⟨ra, δ1⟩ := p
    rw [e1] at h
    intro x H1 G1 S1 g1 q1
    simp only [ok_bind] at h
    split at h
    · rename_i l
      have q1' : Rep F.W G1 (.str l) x := q1
      obtain ⟨hx, _⟩ := (VRep.of (H := H1) q1').str
      refine ⟨⟨_, hx⟩, δ1, G1, S1, opd_ok (R := fun _ _ _ _ _ => True) ?_⟩
      cases e2 : opd (b δ1) with
      | st => rw [e2] at h; exact h
      | ex c fs => rw [e2] at h; exact h
      | ok p =>
        obtain ⟨rb, δ2⟩ := p
        rw [e2] at h
        intro y H2 G2 S2 g2 q2
        simp only [ok_bind] at h
        rcases look_case (δ := δ2) (r := rb) with ⟨d, ed⟩ | ed
        · rw [ed] at h
          simp only [ok_bind] at h
          refine ho δ2 σ H2 G2 _ d x y Q S2 (.of (q1'.mono g2)) (look_ok S2 q2 ed) ?_
          unfold SatV
          cases ef : f (.str l) d with
          | st => rw [ef] at h; exact h
          | ex c fs => rw [ef] at h; exact h
          | ok r =>
            rw [ef] at h
            exact fun v H' G' S' g' r' => h v H' G' S' ((g1.trans g2).trans g') r'
        · rw [ed] at h; exact False.elim h
    · exact False.elim h
def rJoin (K : PySem.W.Frag) : V → List V → Hp → VK → Prop := fun x xs H Q => ∃ a p, ∃ ys : List Str, x = .str a ∧ xs = [.ref p] ∧ (SqL K H p (ys.map V.str) ∨ SqT K H p (ys.map V.str)) ∧
  (ys.map (·.length)).sum + ys.length * a.length ≤ 16777216 ∧ Q (.str (Txt.join a ys)) H
theorem de_join {o e : Expr} {a b : SE} {apos : Pos} (ha : DE F X o a) (hb : DE F X e b) (hs : starEach [e] X.env = [(false, eval e X.env)] := by rfl) (hbase : attributeBase o "join" X.env (eval o X.env) = eval o X.env := by rfl) (hline : (apos.endLine == pos.line) = true := by rfl) :
    DE F X (.Call (.Attribute o "join" apos) [e] [] pos) (sMt1 fJoin a b) := by
  refine ⟨(pe_join ha.pe hb.pe hs hbase hline).imp fun σ H Q h => mt1_imp (r := rJoin X.K) (X := X) (fun δ σ H G d1 d2 x y Q S h1 h2 w => ?_) a b σ H Q h⟩
  unfold fJoin at w
  cases d1 <;> (try exact False.elim w)
  case str a =>
    dsimp only at w
    cases e1 : textsOf d2 with
    | none => rw [e1] at w; exact False.elim w
    | some bs =>
      rw [e1] at w
      dsimp only at w
      by_cases hl : (bs.map (·.length)).sum + bs.length * a.length ≤ LIM
      · rw [if_pos hl] at w
        obtain ⟨rfl, ha⟩ := h1.str
        have fin : ∀ (p : Addr) (xs : List V), (SqL X.K H p xs ∨ SqT X.K H p xs) → xs = (bs.map mk).map V.str ∧ (∀ b ∈ bs, asc b = true) → y = .ref p → rJoin X.K (.str (mk a)) [y] H Q := fun p xs hq ⟨hx, hb⟩ hy => by
          refine ⟨mk a, p, bs.map mk, rfl, by rw [hy], by rw [← hx]; exact hq, ?_, ?_⟩
          · rw [List.map_map, List.length_map, mk_len]
            have : (bs.map ((fun x : Str => x.length) ∘ mk)) = bs.map (·.length) := List.map_congr_left fun b _ => mk_len b
            rw [this]
            exact hl
          · rw [show Txt.join (mk a) (bs.map mk) = Str.join (mk a) (bs.map mk) from TL.join_eq _ _]
            have e : Str.join (mk a) (bs.map mk) = mk (jnL a bs) := (mk_of _).symm
            rw [e]
            exact w.im S (.str _ (asc_jn ha hb))
        cases d2 <;> (try (cases e1; done))
        case lst ds =>
          obtain ⟨p, xs, hy, q, r⟩ := h2.lst S.gh
          exact fin p xs (.inl (.inl (.inl q))) (strs_ok r e1) hy
        case tup ds =>
          obtain ⟨p, xs, hy, q, r⟩ := h2.tup S.gh
          exact fin p xs (.inr (.inl (.inl (S.gh _ _ q)))) (strs_ok r e1) hy
      · rw [if_neg hl] at w; exact False.elim w

/-! ### a new instance, its parts by name -/
def sMakeK (t : Nat) (p : List Nat) (sem : D → List D → Out (RV × D)) (s : SF) : SE := sMake t sem (fSel p fNil s)

/-! ### list(x) -/
theorem vals_pt : ∀ {xs : List V} {us : List Value}, xs.length = us.length → (∀ (j : Nat) (u : Value), us[j]? = some u → ∃ x, xs[j]? = some x ∧ RelV x u) → Vals xs us
  | [], [], _, _ => .nil
  | [], _ :: _, h, _ => by cases h
  | _ :: _, [], h, _ => by cases h
  | x :: xs, u :: us, h, f => by
    obtain ⟨y, hy, r⟩ := f 0 u rfl
    cases hy
    exact .cons r (vals_pt (by simpa using h) fun j w hw => f (j + 1) w (by simpa using hw))
theorem cr_list_str (hc : X.calm = true) : CallR X (.type "list") (fun xs H Q => ∃ z, xs = [V.str z] ∧ z.length ≤ sizeLine ∧ ∀ p, H p = none → Q (.ref p) (upd H p (.lst (z.cps.toList.map fun c => V.str ⟨#[c]⟩)))) := by
  intro pins s σ H xs us Q I r ⟨z, e, hz, q⟩
  subst e
  obtain ⟨u, rfl, rx⟩ := r.one
  obtain ⟨t, rfl⟩ := rx
  refine call_list_str (I.ok.hd hc) z t (fun h' tk acc' c' kp e it => ?_) (hn := hz)
  have rv : Vals (z.cps.toList.map fun c => V.str ⟨#[c]⟩) acc'.toList := by
    refine vals_pt (by rw [List.length_map, Array.length_toList, Array.length_toList]; exact it.1.symm) fun j w hw => ?_
    obtain ⟨c, u, hc', rfl⟩ := it.2 j w (by rw [← Array.getElem?_toList]; exact hw)
    exact ⟨V.str ⟨#[c]⟩, by rw [List.getElem?_map, Array.getElem?_toList, hc']; rfl, u, rfl⟩
  refine ⟨.ref s.heap.objs.size, _, I.laid (t' := tk) (o := .lst (z.cps.toList.map fun c => V.str ⟨#[c]⟩)) kp (Nat.le_refl _) ?_, rfl, q _ (I.hok.fresh (Nat.le_refl _))⟩
  exact ⟨by rw [List.length_map]; exact hz, acc'.toList, c', rv, by rw [Array.toArray_toList]; exact e⟩
def rListA (K : PySem.W.Frag) : List V → Hp → VK → Prop := fun xs H Q => (∃ p ys, xs = [V.ref p] ∧ (SqL K H p ys ∨ SqT K H p ys) ∧ ∀ l, H l = none → Q (.ref l) (upd H l (.lst ys))) ∨
  (∃ z, xs = [V.str z] ∧ z.length ≤ sizeLine ∧ ∀ p, H p = none → Q (.ref p) (upd H p (.lst (z.cps.toList.map fun c => V.str ⟨#[c]⟩)))) ∨
  ∃ d kvs, xs = [V.ref d] ∧ Rd H d (.dT kvs) ∧ ∀ p bs, H p = none → IsKeys H kvs bs → Q (.ref p) (upd H p (.lst (bs.map V.ref)))
theorem cr_list (hc : X.calm = true) : CallR X (.type "list") (rListA X.K) := CallR.or call_list_of (CallR.or (cr_list_str hc) (call_list_dT hc))
/-- every text in a key is ASCII -/
def kAsc (k : Key) : Bool := match k with
  | .inl _ => true
  | .inr x => asc x.cps.toList
theorem kD_rep {W : CT} {G : Hp} {k : Key} (h : kAsc k = true) : Rep W G (kD k) (kV k) := by
  cases k with
  | inl i => exact .int i
  | inr x =>
    have := Rep.str (W := W) (G := G) x.cps.toList h
    rw [mk_of] at this
    exact this
theorem kDs_rep {W : CT} {G : Hp} : ∀ {ks : List Key}, ks.all kAsc = true → Reps W G (ks.map kD) (ks.map kV)
  | [], _ => .nil
  | k :: ks, h => by
    rw [List.all_cons, Bool.and_eq_true] at h
    exact .cons (kD_rep h.1) (kDs_rep h.2)
/-- the keys' own tuples may be held -/
theorem SOk.keys {δ : DS} {σ : St} {H : Hp} : ∀ {kvs : List (List Key × V)} {bs : List Addr} {G : Hp}, SOk F δ σ H G → IsKeys H kvs bs → (kvs.all fun kv => kv.1.all kAsc) = true → ∃ G', SOk F δ σ H G' ∧ Same G G' ∧ Reps F.W G' (kvs.map fun kv => D.tup (kv.1.map kD)) (bs.map V.ref)
  | [], [], G, S, _, _ => ⟨G, S, Same.refl _, .nil⟩
  | [], _ :: _, _, _, h, _ => by cases h
  | _ :: _, [], _, _, h, _ => by cases h
  | kv :: kvs, b :: bs, G, S, .cons hb t, ha => by
    rw [List.all_cons, Bool.and_eq_true] at ha
    obtain ⟨S1, e1⟩ := S.hold hb
    obtain ⟨G2, S2, e2, r⟩ := SOk.keys S1 t ha.2
    exact ⟨G2, S2, e1.trans e2, .cons (.tup (e2 _ _ upd_same) (kDs_rep ha.1)) r⟩
def fListA : D → Out RV
  | .lst ds => .ok (.fr (.lst ds))
  | .tup ds => .ok (.fr (.lst ds))
  | .ktp ds => .ok (.fr (.lst ds))
  | .kls ds => .ok (.fr (.lst ds))
  | .str l => if l.length ≤ LIM then .ok (.fr (.lst (l.map fun c => .str [c]))) else .st
  | .dT kvs => if (kvs.all fun kv => kv.1.all kAsc) = true then .ok (.fr (.lst (kvs.map fun kv => .tup (kv.1.map kD)))) else .st
  | _ => .st
theorem o_list (hK : F.W.K = X.K) : CallOk F (rListA X.K) (f1 fListA) := by
  refine call1 fun δ σ H G d v Q S q h => ?_
  cases d <;> (try exact False.elim h)
  case lst ds =>
    obtain ⟨a, xs, rfl, h1, r⟩ := q.lst S.gh
    exact .inl ⟨_, _, rfl, .inl (.inl (.inl h1)), fun p hp => SatV.fr h S hp (.lst r)⟩
  case tup ds =>
    obtain ⟨a, xs, rfl, h1, r⟩ := q.tup S.gh
    exact .inl ⟨_, _, rfl, .inr (.inl (.inl (S.gh _ _ h1))), fun p hp => SatV.fr h S hp (.lst r)⟩
  case ktp ds =>
    obtain ⟨a, xs, rfl, h1, r⟩ := q.ktp
    exact .inl ⟨_, _, rfl, .inr (by rw [← hK]; exact h1), fun p hp => SatV.fr h S hp (.lst r)⟩
  case kls ds =>
    obtain ⟨a, xs, rfl, h1, r⟩ := q.kls S.gh
    exact .inl ⟨_, _, rfl, .inl (by rw [← hK]; exact h1), fun p hp => SatV.fr h S hp (.lst r)⟩
  case str l =>
    unfold fListA at h
    dsimp only at h
    by_cases hl : l.length ≤ LIM
    · rw [if_pos hl] at h
      obtain ⟨rfl, ha⟩ := q.str
      refine .inr (.inl ⟨_, rfl, by rw [mk_len, lim_eq]; exact hl, fun p hp => h.fr S hp (.lst ?_)⟩)
      have : ∀ m : List Nat, asc m = true → Reps F.W G (m.map fun c => D.str [c]) (m.map fun c => V.str ⟨#[c]⟩) := by
        intro m
        induction m with
        | nil => intro _; exact .nil
        | cons c m ih =>
          intro hm
          exact .cons (.str [c] (asc_of hm List.mem_cons_self)) (ih (List.all_eq_true.mpr fun x hx => List.all_eq_true.mp hm x (List.mem_cons_of_mem _ hx)))
      exact this l ha
    · rw [if_neg hl] at h; exact False.elim h
  case dT kvs =>
    unfold fListA at h
    dsimp only at h
    by_cases ha : (kvs.all fun kv => kv.1.all kAsc) = true
    · rw [if_pos ha] at h
      obtain ⟨a, xs, rfl, h1, t⟩ := q.dT S.gh
      refine .inr (.inr ⟨_, _, rfl, .inl h1, fun p bs hp hk => ?_⟩)
      have ha2 : (xs.all fun kv => kv.1.all kAsc) = true := by
        have e1 : (kvs.all fun kv => kv.1.all kAsc) = (kvs.map (·.1)).all fun k => k.all kAsc := by rw [List.all_map]; rfl
        have e2 : (xs.all fun kv => kv.1.all kAsc) = (xs.map (·.1)).all fun k => k.all kAsc := by rw [List.all_map]; rfl
        rw [e2, ← t.1, ← e1]; exact ha
      obtain ⟨G2, S2, e2, r⟩ := S.keys hk ha2
      have em : (kvs.map fun kv => D.tup (kv.1.map kD)) = xs.map fun kv => D.tup (kv.1.map kD) := by
        have e1 : (kvs.map fun kv => D.tup (kv.1.map kD)) = (kvs.map (·.1)).map fun k => D.tup (k.map kD) := by rw [List.map_map]; rfl
        have e2 : (xs.map fun kv => D.tup (kv.1.map kD)) = (xs.map (·.1)).map fun k => D.tup (k.map kD) := by rw [List.map_map]; rfl
        rw [e1, e2, t.1]
      rw [em] at h
      have h' : SatV F (.ok (.fr (.lst (xs.map fun kv => D.tup (kv.1.map kD))))) δ σ G2 Q := satE_trans e2 h
      exact h'.fr S2 hp (.lst r)
    · rw [if_neg ha] at h; exact False.elim h
/-- f(e), the first argument a new list or dict that nobody else has -/
def sOwnF (sem : D → List D → Out (RV × D)) (a : SE) : SE := fun δ => do
  let (r, δ1) ← a δ
  (match r with
    | .fr c => (do
      let (r', _) ← sem c []
      (match r' with
        | .bo _ => .st
        | r' => .ok (r', δ1)))
    | _ => .st)
theorem ownF_imp {sem : D → List D → Out (RV × D)} {a : SE} (σ : St) (H : Hp) (Q : VK) : tE F (sOwnF sem a) σ H Q → tCall (spB F.W F.hot 1 sem) [] F.E (tCons (tE F a) tNil) σ H Q := by
  rintro ⟨δ, G, S, h⟩
  refine ⟨δ, G, S, ?_⟩
  unfold sOwnF at h
  cases e1 : a δ with
  | st => rw [e1] at h; exact h
  | ex c fs => rw [e1] at h; exact h
  | ok p =>
    obtain ⟨r, δ1⟩ := p
    rw [e1] at h
    simp only [ok_bind] at h
    intro v H1 G1 S1 g1 q1
    split at h
    · rename_i c
      obtain ⟨b, o, rfl, h1, h2, h3, h4, h5⟩ := q1
      refine ⟨rfl, b, o, c, [], [], G1, rfl, h1, h2, h3, S1.gh, .nil, ?_⟩
      cases e2 : sem c [] with
      | st => rw [e2] at h; exact h
      | ex c fs => rw [e2] at h; exact XAll.upB S1 h4 h
      | ok p =>
        obtain ⟨r', c'⟩ := p
        rw [e2] at h
        simp only [ok_bind] at h
        intro v H2 G2 o2 y1 y2 y3 y4 y5 y6 y7 y8
        have own : ∀ {j : Nat} {c1 : D} {x : Addr}, δ1[j]? = some (.ow c1) → σ[j]? = some (some (.ref x)) → x ≠ b := fun {j c1 x} ej hx z => h5 j c1 ej (by rw [hx, z])
        obtain ⟨G3, hG3⟩ : ∃ G3, G3 = noT G1 G2 := ⟨_, rfl⟩
        have w2 : Same G1 G3 := by rw [hG3]; exact noT_same y2
        have w3 : Same G3 H2 := by rw [hG3]; exact (noT_le y2).trans y3
        have w4 : ∀ x ob, wo H1 b x = some ob → NT ob → G1 x = none → G3 x = none := fun x ob q nt n => by rw [hG3]; exact noT_none (y4 x ob q nt n)
        have w5 : ∀ x ps, G3 x = some (.tbl ps) → G1 x = some (.tbl ps) := fun x ps e => by rw [hG3] at e; exact noT_tbl e
        have wN : SameN G2 G3 := by rw [hG3]; exact noT_N
        have wn : ∀ {x}, G2 x = none → G3 x = none := fun {x} q => by rw [hG3]; exact noT_none q
        have S2 : SOk F δ1 σ H2 G3 := by
          refine ⟨S1.len, fun x u e => y1 x u (by rw [wo_ne (ne_of_none e h4)]; exact S1.bh x u e), S1.g0.trans w2, w3, fun x ob hb nt h0 => w4 x ob (by rw [wo_ne (ne_of_none hb h4)]; exact S1.bh x ob hb) nt (S1.gn x ob hb nt h0), fun i d e => ?_, fun i c1 e => ?_, S1.ne, ⟨(S1.tt.wo h1 h2.nx).ext y1, fun z => ⟨(S1.tt.2 z).1, fun x ps e => (S1.tt.2 z).2 x ps (w5 x ps e)⟩⟩⟩
          · obtain ⟨w, z1, z2⟩ := S1.im i d e
            exact ⟨w, z1, z2.mono w2⟩
          · obtain ⟨x, u, z1, z2, z3, z4, z5⟩ := S1.ow i c1 e
            have nx := own e z1
            exact ⟨x, u, z1, y1 x u (by rw [wo_ne nx]; exact z2), z3.mono w2, w4 x u (by rw [wo_ne nx]; exact z2) z3.nt z4, z5⟩
        cases r' with
        | im d => exact h v H2 _ S2 (g1.trans w2) (Rep.monoN wN y8)
        | fr c2 =>
          obtain ⟨x, o3, rfl, z1, z2, z3, z4, z5⟩ := y8
          have hH : H1 x = none := by rw [wo_ne z5] at z4; exact z4
          refine h _ H2 _ S2 (g1.trans w2) ⟨x, o3, rfl, z1, z2.monoN wN, wn z3, S1.bh.free hH, fun j c3 ej q => ?_⟩
          obtain ⟨b2, o4, w1, w2, _⟩ := S1.ow j c3 ej
          rw [w1] at q; cases q
          rw [hH] at w2; cases w2
        | bo j => exact h.elim
    · exact False.elim h
theorem de_ownF {k : Nat} {f : Addr} {fd : FuncData} {ps : List Str} {sem : D → List D → Out (RV × D)} {x : Str} {p : Pos} {e : Expr} {a : SE} {CX : CXT} (Fn : FnOk X.prog X.w X.K X.mg X.base CX k f fd ps (spB F.W F.hot 1 sem)) (hr : Room k X.A) (hg : Gl X x) (hm : X.mg x = some (.ref f)) (hk : PySem.W.keepIn X.K (.ref f) = true) (hb : Binds X.K fd ps [])
    (hx : Passes CX X F.E) (ha : DE F X e a) (hdb : (x == ("__debug__" : Str)) = false := by decide) (he : starEach (e :: []) X.env = (false, eval e X.env) :: starEach [] X.env := by rfl) (hpl : (backTo pos (starEach [] X.env)).any (·.1) = false := by rfl) :
    DE F X (.Call (.Name x p) (e :: []) [] pos) (sOwnF sem a) := ⟨(pe_call Fn hr hg hm hk hb .nil hx (pa_cons ha.pe pa_nil he) hdb he hpl).imp fun σ H Q h => ownF_imp σ H Q h⟩
end
end L2.DI

/-! DID: the words that the printed proofs use. -/
namespace L2.DI
open PySem PySem.Spec PyProof.Rows

theorem mk_ {op : CmpOp} {b : Expr} (h : behindInMarks op b = false := by first | exact nobehind _ (by decide) (by decide) | rfl) : behindInMarks op b = false := h
theorem sel_len {p : List Nat} {n j : Nat} (hp : p.length = j) (hi : p.all (fun i => decide (i < n)) = true) {xs : List D} (h : xs.length = n) : (sel p xs).length = j := by
  subst hp
  induction p with
  | nil => rfl
  | cons i p ih =>
    rw [List.all_cons, Bool.and_eq_true, decide_eq_true_eq] at hi
    unfold sel
    have : xs[i]? = some xs[i] := List.getElem?_eq_getElem (by omega)
    rw [List.filterMap_cons, this, List.length_cons, List.length_cons]
    congr 1
    exact ih hi.2

/-! ### what the top has left: a def, a class -/
/-- a def of the text stands under its name -/
def FunAt (K : PySem.W.Frag) (mg : Str → Option Value) (x : Str) (st : Stmt) : Prop := ∃ f fd, mg x = some (.ref f) ∧ Fun K x x st f fd
/-- a def under its name, with its promise -/
structure Ent (P : Program) (w : World) (K : PySem.W.Frag) (mg : Str → Option Value) (base : Heap) (x : Str) (st : Stmt) (k : Nat) (ps : List Str) (sp : Sp) : Prop where
  ex : ∃ f fd, mg x = some (.ref f) ∧ Fun K x x st f fd ∧ FnOk P w K mg base CX0 k f fd ps sp
  bd : ∀ f fd, Fun K x x st f fd → Binds K fd ps []
theorem Ent.mono {P : Program} {w : World} {K : PySem.W.Frag} {mg : Str → Option Value} {base : Heap} {x : Str} {st : Stmt} {j k : Nat} {ps : List Str} {sp : Sp} (h : Ent P w K mg base x st j ps sp) (hk : j ≤ k) : Ent P w K mg base x st k ps sp := by
  obtain ⟨⟨f, fd, h1, h2, h3⟩, hb⟩ := h
  exact ⟨⟨f, fd, h1, h2, h3.mono hk⟩, hb⟩
section
variable {F : Fx} {X : Cx} {pos : Pos}
theorem de_ent {k n : Nat} {st : Stmt} {ps : List Str} {sem : List D → Out RV} {x : Str} {p : Pos} {e : Expr} {es : List Expr} {s : SF} (En : Ent X.prog X.w X.K X.mg X.base x st k ps (spD F.W F.hot n sem)) (hr : Room k X.A) (hg : Gl X x)
    (hn : SF.Many s n) (ha : DF F X (e :: es) s) (hx : Passes CX0 X F.E := by exact pass0) (hdb : (x == ("__debug__" : Str)) = false := by decide) (he : starEach (e :: es) X.env = (false, eval e X.env) :: starEach es X.env := by rfl) (hpl : (backTo pos (starEach es X.env)).any (·.1) = false := by rfl) :
    DE F X (.Call (.Name x p) (e :: es) [] pos) (sOwn sem s) := by
  obtain ⟨⟨f, fd, h1, h2, h3⟩, hb⟩ := En
  exact de_own h3 hr hg h1 h2.kp (hb f fd h2) hx hn ha hdb he hpl
theorem de_entB {k n i : Nat} {st : Stmt} {ps : List Str} {sem : D → List D → Out (RV × D)} {x y : Str} {p py : Pos} {es : List Expr} {s : SF} (En : Ent X.prog X.w X.K X.mg X.base x st k ps (spB F.W F.hot (n + 1) sem)) (hr : Room k X.A) (hg : Gl X x)
    (hn : SF.Many s n) (ho : PE X (.Name y py) (tVar i)) (ha : DF F X es s) (hx : Passes CX0 X F.E := by exact pass0) (hdb : (x == ("__debug__" : Str)) = false := by decide) (he : starEach (.Name y py :: es) X.env = (false, eval (.Name y py) X.env) :: starEach es X.env := by rfl) (hpl : (backTo pos (starEach es X.env)).any (·.1) = false := by rfl) :
    DE F X (.Call (.Name x p) (.Name y py :: es) [] pos) (sOwnB sem i s) := by
  obtain ⟨⟨f, fd, h1, h2, h3⟩, hb⟩ := En
  exact de_ownB h3 hr hg h1 h2.kp (hb f fd h2) hx hn ho ha hdb he hpl
theorem de_entF {k : Nat} {st : Stmt} {ps : List Str} {sem : D → List D → Out (RV × D)} {x : Str} {p : Pos} {e : Expr} {a : SE} (En : Ent X.prog X.w X.K X.mg X.base x st k ps (spB F.W F.hot 1 sem)) (hr : Room k X.A) (hg : Gl X x)
    (ha : DE F X e a) (hx : Passes CX0 X F.E := by exact pass0) (hdb : (x == ("__debug__" : Str)) = false := by decide) (he : starEach (e :: []) X.env = (false, eval e X.env) :: starEach [] X.env := by rfl) (hpl : (backTo pos (starEach [] X.env)).any (·.1) = false := by rfl) :
    DE F X (.Call (.Name x p) (e :: []) [] pos) (sOwnF sem a) := by
  obtain ⟨⟨f, fd, h1, h2, h3⟩, hb⟩ := En
  exact de_ownF h3 hr hg h1 h2.kp (hb f fd h2) hx ha hdb he hpl
theorem _root_.L2.Fun.kb {K : PySem.W.Frag} {x qual : Str} {st : Stmt} {f : Addr} {fd : FuncData} {ps ks : List Str} {n : Nat} {p : List Nat} (Fn : Fun K x qual st f fd)
    (h : ∀ (kV doc pm : Value) (an : Option Addr) (cdv ct : Value) (us ws : List Value), us.length = n → ws.length = ks.length → bindArgs (PySem.W.fnOf x qual (defArgs st) (defBody st) (defScope st) .none kV doc pm an cdv ct) ⟨us, ks.zip ws⟩ = pure (ps.zip (sel p (us ++ ws)))) : KB K fd ps ks n p := by
  obtain ⟨oc, od, kV, doc, pm, an, cdv, ct, osl, rfl, lk, hcd⟩ := Fn.ex
  exact ⟨fun s us ws h1 h2 => .of_eq (h kV doc pm an cdv ct us ws h1 h2)⟩
theorem de_entK0 {k m j : Nat} {st : Stmt} {ps ks : List Str} {p : List Nat} {sem : List D → Out RV} {x : Str} {p' : Pos} {kws : List Keyword} {s : SF} (En : Ent X.prog X.w X.K X.mg X.base x st k ps (spD F.W F.hot j sem)) (hr : Room k X.A) (hg : Gl X x)
    (hkb : ∀ (kV doc pm : Value) (an : Option Addr) (cdv ct : Value) (us ws : List Value), us.length = 0 → ws.length = ks.length → bindArgs (PySem.W.fnOf x x (defArgs st) (defBody st) (defScope st) .none kV doc pm an cdv ct) ⟨us, ks.zip ws⟩ = pure (ps.zip (sel p (us ++ ws))))
    (hn : SF.Many s m) (hkl : ks.length = m) (hj : ∀ xs : List D, xs.length = 0 + m → (sel p xs).length = j) (ha : DKw F X kws s) (hx : Passes CX0 X F.E := by exact pass0)
    (hall : (backToKw pos (keywordEach kws X.env)).all (·.1.isSome) = true := by rfl) (hks : (backToKw pos (keywordEach kws X.env)).filterMap (·.1) = ks := by rfl) (hdb : (x == ("__debug__" : Str)) = false := by decide)
    (hpl : ((backTo pos (starEach [] X.env)).any (·.1) || (backToKw pos (keywordEach kws X.env)).any (·.1.isNone)) = false := by rfl) :
    DE F X (.Call (.Name x p') [] kws pos) (sOwn sem (fSel p fNil s)) := by
  obtain ⟨⟨f, fd, h1, h2, h3⟩, hb⟩ := En
  exact de_ownK0 h3 hr hg h1 h2.kp (h2.kb hkb) hx hn hkl hj ha hall hks hdb hpl
theorem de_entK {k n m j : Nat} {st : Stmt} {ps ks : List Str} {p : List Nat} {sem : List D → Out RV} {x : Str} {p' : Pos} {e : Expr} {es : List Expr} {kws : List Keyword} {u s : SF} (En : Ent X.prog X.w X.K X.mg X.base x st k ps (spD F.W F.hot j sem)) (hr : Room k X.A) (hg : Gl X x)
    (hkb : ∀ (kV doc pm : Value) (an : Option Addr) (cdv ct : Value) (us ws : List Value), us.length = n → ws.length = ks.length → bindArgs (PySem.W.fnOf x x (defArgs st) (defBody st) (defScope st) .none kV doc pm an cdv ct) ⟨us, ks.zip ws⟩ = pure (ps.zip (sel p (us ++ ws))))
    (hu : SF.Many u n) (hn : SF.Many s m) (hkl : ks.length = m) (hj : ∀ xs : List D, xs.length = n + m → (sel p xs).length = j) (hp : DF F X (e :: es) u) (ha : DKw F X kws s) (hx : Passes CX0 X F.E := by exact pass0)
    (hall : (backToKw pos (keywordEach kws X.env)).all (·.1.isSome) = true := by rfl) (hks : (backToKw pos (keywordEach kws X.env)).filterMap (·.1) = ks := by rfl) (hdb : (x == ("__debug__" : Str)) = false := by decide)
    (he : starEach (e :: es) X.env = (false, eval e X.env) :: starEach es X.env := by rfl)
    (hpl : ((backTo pos (starEach (e :: es) X.env)).any (·.1) || (backToKw pos (keywordEach kws X.env)).any (·.1.isNone)) = false := by rfl) :
    DE F X (.Call (.Name x p') (e :: es) kws pos) (sOwn sem (fSel p u s)) := by
  obtain ⟨⟨f, fd, h1, h2, h3⟩, hb⟩ := En
  exact de_ownK h3 hr hg h1 h2.kp (h2.kb hkb) hx hu hn hkl hj hp ha hall hks hdb he hpl

/-! ### a class -/
structure EntC (P : Program) (w : World) (K : PySem.W.Frag) (mg : Str → Option Value) (base : Heap) (x q : Str) (C : Addr) (st : Stmt) (k : Nat) (ps : List Str) (sp : Sp) : Prop where
  gC : mg x = some (.ref C)
  ex : ∃ f fd, Mk K C f ∧ Fun K "__init__" q st f fd ∧ FnOk P w K mg base CX0 k f fd ps sp
  bd : ∀ f fd, Fun K "__init__" q st f fd → Binds K fd ps []
theorem de_makeE {k t n : Nat} {C : Addr} {st : Stmt} {ps : List Str} {sem : D → List D → Out (RV × D)} {x q : Str} {p : Pos} {e : Expr} {es : List Expr} {s : SF} (En : EntC X.prog X.w X.K X.mg X.base x q C st k ps (spB F.W F.hot (n + 1) sem)) (hr : Room (k + 1) X.A) (hg : Gl X x)
    (hC : F.W.cls t = some C) (hn : SF.Many s n) (ha : DF F X (e :: es) s) (hx : Passes CX0 X F.E := by exact pass0) (hdb : (x == ("__debug__" : Str)) = false := by decide) (he : starEach (e :: es) X.env = (false, eval e X.env) :: starEach es X.env := by rfl) (hpl : (backTo pos (starEach es X.env)).any (·.1) = false := by rfl) :
    DE F X (.Call (.Name x p) (e :: es) [] pos) (sMake t sem s) := by
  obtain ⟨h1, ⟨f, fd, M, h2, h3⟩, hb⟩ := En
  exact de_make M h3 hr hg h1 (hb f fd h2) hx hC hn ha hdb he hpl
/-- C(k = e, ..) -/
theorem de_makeEK {k t m j : Nat} {C : Addr} {st : Stmt} {p0 : Str} {ps ks : List Str} {p : List Nat} {sem : D → List D → Out (RV × D)} {x q : Str} {p' : Pos} {kws : List Keyword} {s : SF} (En : EntC X.prog X.w X.K X.mg X.base x q C st k (p0 :: ps) (spB F.W F.hot (j + 1) sem)) (hr : Room (k + 1) X.A) (hg : Gl X x)
    (hC : F.W.cls t = some C) (hkb : ∀ (kV doc pm : Value) (an : Option Addr) (cdv ct : Value) (us ws : List Value), us.length = 1 → ws.length = ks.length → bindArgs (PySem.W.fnOf "__init__" q (defArgs st) (defBody st) (defScope st) .none kV doc pm an cdv ct) ⟨us, ks.zip ws⟩ = pure ((p0 :: ps).zip (us ++ sel p ws)))
    (hn : SF.Many s m) (hkl : ks.length = m) (hj : ∀ xs : List D, xs.length = m → (sel p xs).length = j) (ha : DKw F X kws s) (hx : Passes CX0 X F.E := by exact pass0)
    (hall : (backToKw pos (keywordEach kws X.env)).all (·.1.isSome) = true := by rfl) (hks : (backToKw pos (keywordEach kws X.env)).filterMap (·.1) = ks := by rfl) (hdb : (x == ("__debug__" : Str)) = false := by decide)
    (hpl : ((backTo pos (starEach [] X.env)).any (·.1) || (backToKw pos (keywordEach kws X.env)).any (·.1.isNone)) = false := by rfl) :
    DE F X (.Call (.Name x p') [] kws pos) (sMake t sem (fSel p fNil s)) := by
  obtain ⟨h1, ⟨f, fd, M, h2, h3⟩, hb⟩ := En
  have kb : KBn X.K fd (p0 :: ps) 1 ks (fun us ws => us ++ sel p ws) (fun vs zs => vs ++ sel p zs) := by
    obtain ⟨oc, od, kV, doc, pm, an, cdv, ct, osl, rfl, lk, hcd⟩ := h2.ex
    exact ⟨fun s us ws _ l1 l2 => .of_eq (hkb kV doc pm an cdv ct us ws l1 l2), fun r1 r2 => r1.append (sel_rel r2)⟩
  refine ⟨(pe_makeK0 M h3 hr hg h1 kb hx ha.pk hall hks hdb hpl).imp fun σ H Q ⟨δ, G, S, w⟩ => ?_⟩
  unfold sMake fSel fNil at w
  refine ⟨δ, G, S, ?_⟩
  simp only [ok_bind] at w
  cases e1 : s δ with
  | st => rw [e1] at w; exact w
  | ex c fs => rw [e1] at w; exact w
  | ok pr =>
    obtain ⟨ds, δ1⟩ := pr
    rw [e1] at w
    simp only [ok_bind, List.nil_append] at w
    intro vs H1 G1 S1 g1 q1
    refine ⟨rfl, by rw [hkl, ← q1.length]; exact hn _ _ _ e1, fun x dx nx ndx nex => ?_⟩
    exact make_core hC S1 (q1.sel p) (hj _ (hn _ _ _ e1)) (satE_trans g1 w) x dx nx ndx nex

/-! ### constants of the module -/
theorem de_gI {x : Str} {i : Int} {p : Pos} (hg : Gl X x) (h : ∃ t, X.mg x = some (.int i t)) (hd : (x == ("__debug__" : Str)) = false := by decide) : DE F X (.Name x p) (sCst (.int i)) := by
  obtain ⟨t, e⟩ := h
  exact de_glob (v := .int i) hg e ⟨t, rfl⟩ (fun _ => .int i) hd
theorem de_gS {x : Str} {l : List Nat} {p : Pos} (hg : Gl X x) (h : (∃ t, X.mg x = some (.str (mk l) t)) ∧ asc l = true) (hd : (x == ("__debug__" : Str)) = false := by decide) : DE F X (.Name x p) (sCst (.str l)) := by
  obtain ⟨⟨t, e⟩, ha⟩ := h
  exact de_glob (v := .str (mk l)) hg e ⟨t, rfl⟩ (fun _ => .str l ha) hd
/-- a tuple of the module -/
structure KTup (K : PySem.W.Frag) (mg : Str → Option Value) (x : Str) (ds : List D) : Prop where
  ex : ∃ a o its n xs, mg x = some (.ref a) ∧ K.lookup a = some o ∧ o.cls = .type "tuple" ∧ o.data = .seq its n ∧ its.size ≤ sizeLine ∧ Vals xs its.toList ∧ ∀ W G, Reps W G ds xs
theorem de_gT {x : Str} {ds : List D} {p : Pos} (hK : F.W.K = X.K) (hg : Gl X x) (h : KTup X.K X.mg x ds) (hd : (x == ("__debug__" : Str)) = false := by decide) : DE F X (.Name x p) (sCst (.ktp ds)) := by
  obtain ⟨a, o, its, n, xs, h1, h2, h3, h4, h5, h6, h7⟩ := h.ex
  exact de_glob (v := .ref a) hg h1 rfl (fun G => .ktp (fun H => .inr ⟨o, its, n, by rw [hK]; exact h2, h3, h4, h5, h6⟩) (h7 _ _)) hd
/-- a name as a target of several -/
theorem pg_nm {i : Nat} {x : Str} (hN : X.N.Nodup) (hi : X.N[i]? = some x := by rfl) (hx : Loc X.env.scope x := by first | exact Or.inl rfl | exact Or.inr rfl) (hf : X.fn x = true ∨ X.env.scope.names.lookup x = some .local := by first | exact .inl rfl | exact .inr rfl) : PG X (.Name x pos) (gName i) := pg_name hN hi hx hf
/-- raise X(..), where no exception is let out -/
def sRaise (c : Nat) (s : SF) : SS := fun δ => do
  let (ds, _) ← s δ
  .ex c ds
theorem ds_raise0 {pz : Option Addr} {st : Stmt} {c : Nat} {s : SF} (hh : F.hot = false) : DSt pz F X st (sRaise c s) := by
  refine ⟨ps_never.imp fun D σ H ⟨δ, G, S, z0, h⟩ => ?_⟩
  show False
  unfold sRaise at h
  cases e : s δ with
  | st => rw [e] at h; exact h
  | ex c fs => rw [e] at h; exact absurd h.1 (by rw [hh]; exact Bool.false_ne_true)
  | ok p => rw [e] at h; exact absurd h.1 (by rw [hh]; exact Bool.false_ne_true)
/-- len(..) of whatever -/
theorem cr_len : CallR X (.builtin "len") (rLenA X.K) := CallR.or call_len (CallR.or call_lenD call_len_dT)
end
end L2.DI

/-! DIE: the class Table's facts; the script. -/
namespace L2.DI
open PySem PySem.Spec PyProof.Rows
theorem reps_ints {W : CT} {G : Hp} : ∀ ns : List Int, Reps W G (ns.map .int) (ns.map V.int)
  | [] => .nil
  | n :: ns => .cons (.int n) (reps_ints ns)
section
variable {K : PySem.W.Frag} {C0 : Addr} {f : Nat → Option Addr}
theorem wok_of (cl : Cls K C0) (h1 : NoAttr K C0 "many") (h2 : NoAttr K C0 "piles") (h3 : NoAttr K C0 "height") (h4 : NoAttr K C0 "rule") (h5 : NoAttr K C0 "parts") : WOk ⟨K, fun t => if t = 0 then some C0 else none, f⟩ := by
  refine ⟨fun t C h => ?_, fun t C h x hx => ?_⟩
  · have h' : (if t = 0 then some C0 else none) = some C := h
    split at h'
    · cases h'; exact cl
    · cases h'
  · have h' : (if t = 0 then some C0 else none) = some C := h
    split at h'
    · rename_i e
      cases h'
      subst e
      have hx' : x ∈ (["many", "piles", "height", "rule", "parts"] : List Str) := hx
      simp only [List.mem_cons, List.not_mem_nil, or_false] at hx'
      rcases hx' with rfl | rfl | rfl | rfl | rfl
      · exact h1
      · exact h2
      · exact h3
      · exact h4
      · exact h5
    · cases h'
theorem isi_of (cl : Cls K C0) (ca : PySem.W.findIn K (.ref C0) "__class__" = some (some (.builtin "object.__class__"))) (cn : PySem.W.specialIn K (.builtin "object.__class__") "__get__" = some (some (.builtin "getset_descriptor.__get__"))) (ct : PySem.W.takesIn K (.builtin "object.__class__") = some true)
    (cm : PySem.W.mroIn K C0 (.type "object") = some true) (o1 : PySem.W.kitOne K (.ref C0) (.type "int") = some false) (o2 : PySem.W.kitOne K (.ref C0) (.type "bool") = some false) (o3 : PySem.W.kitOne K (.ref C0) (.type "str") = some false) (o4 : PySem.W.kitOne K (.ref C0) (.type "tuple") = some false)
    (o5 : PySem.W.kitOne K (.ref C0) (.type "list") = some false) (o6 : PySem.W.kitOne K (.ref C0) (.type "dict") = some false) (b0 : PySem.W.kitOne K (.type "NoneType") (.ref C0) = some false) (b1 : PySem.W.kitOne K (.type "bool") (.ref C0) = some false) (b2 : PySem.W.kitOne K (.type "int") (.ref C0) = some false)
    (b3 : PySem.W.kitOne K (.type "str") (.ref C0) = some false) (b4 : PySem.W.kitOne K (.type "tuple") (.ref C0) = some false) (b5 : PySem.W.kitOne K (.type "list") (.ref C0) = some false) (b6 : PySem.W.kitOne K (.type "dict") (.ref C0) = some false) (oo : PySem.W.kitOne K (.ref C0) (.ref C0) = some true) :
    IsiOk ⟨K, fun t => if t = 0 then some C0 else none, f⟩ := by
  have only : ∀ (t : Nat) (C : Addr), (if t = 0 then some C0 else none) = some C → t = 0 ∧ C = C0 := fun t C h => by
    split at h
    · cases h; exact ⟨by assumption, rfl⟩
    · cases h
  refine ⟨fun t C h H a dx fs hh => ?_, fun t C h T hT => ?_, fun t C h T hT => ?_, fun t C t' C' h h' => ?_⟩
  · obtain ⟨rfl, rfl⟩ := only t C h
    exact .base (.ins hh cl ca cn ct cm)
  · obtain ⟨rfl, rfl⟩ := only t C h
    simp only [tyNames, List.mem_cons, List.not_mem_nil, or_false] at hT
    rcases hT with rfl | rfl | rfl | rfl | rfl | rfl
    · exact o1
    · exact o2
    · exact o3
    · exact o4
    · exact o5
    · exact o6
  · obtain ⟨rfl, rfl⟩ := only t C h
    simp only [valNames, List.mem_cons, List.not_mem_nil, or_false] at hT
    rcases hT with rfl | rfl | rfl | rfl | rfl | rfl | rfl
    · exact b0
    · exact b1
    · exact b2
    · exact b3
    · exact b4
    · exact b5
    · exact b6
  · obtain ⟨rfl, rfl⟩ := only t C h
    obtain ⟨rfl, rfl⟩ := only t' C' h'
    exact oo
end
end L2.DI

/-! DIF: a list, a tuple, a text read from behind: o[::-1]. -/
namespace HT
open PySem PySem.Spec PyProof.Rows L2
section
variable {prog : Program} {w : World} {A : Around} {E : Value → Shared → Prop} {s : Shared}
theorem adjust_rev (n : Nat) : Builtin.Slice.sliceAdjust none none (-1) (n : Int) = ((n : Int) - 1, -1) := rfl
theorem places_rev (n : Nat) : Builtin.Slice.slicePlaces ((n : Int) - 1) (-1) (-1) = n := by
  unfold Builtin.Slice.slicePlaces
  have h1 : ¬ ((-1 : Int) > 0) := by omega
  rw [if_neg h1]
  by_cases h : (n : Int) - 1 > -1
  · rw [if_pos h]
    rw [show (- -1 : Int) = 1 from rfl, Int.ediv_one]
    omega
  · rw [if_neg h]; omega
theorem fm_congr {α β : Type} {f g : α → Option β} : ∀ l : List α, (∀ x ∈ l, f x = g x) → l.filterMap f = l.filterMap g
  | [], _ => rfl
  | x :: l, h => by
    rw [List.filterMap_cons, List.filterMap_cons, h x (List.mem_cons_self ..), fm_congr l fun y hy => h y (List.mem_cons_of_mem _ hy)]
theorem pick_rev (xs : Array Value) : ((List.range xs.size).filterMap fun (m : Nat) => xs[((xs.size : Int) - 1 + (m : Int) * (-1)).toNat]?).toArray = xs.toList.reverse.toArray := by
  have e : ((List.range xs.size).filterMap fun (m : Nat) => xs[((xs.size : Int) - 1 + (m : Int) * (-1)).toNat]?) = ((List.range xs.size).map fun k => xs.size - 1 - k).filterMap (xs[·]?) := by
    rw [List.filterMap_map]
    refine fm_congr _ fun m hm => ?_
    have := List.mem_range.1 hm
    have e2 : ((xs.size : Int) - 1 + (m : Int) * (-1)).toNat = xs.size - 1 - m := by omega
    show xs[((xs.size : Int) - 1 + (m : Int) * (-1)).toNat]? = xs[xs.size - 1 - m]?
    rw [e2]
  rw [e, PySem.W.krv_range, List.filterMap_reverse, PySem.W.krv_all]
theorem sliceApplied_rev {sl : Addr} {vl vu vs : Value} {n : Nat} {Q : Int × Int × Nat → Shared → Prop} (hs : s.heap.IsSliceOf sl vl vu vs) (pl : IsPart vl none) (pu : IsPart vu none) (ps : IsPart vs (some (-1)))
    (h : Q ((n : Int) - 1, -1, n) s) : wpAny (model prog w) A (Builtin.Slice.sliceApplied (.ref sl) (pure (n : Int))) Q E s := by
  obtain ⟨os, hos, hcs, hds⟩ := id hs
  unfold Builtin.Slice.sliceApplied Builtin.Slice.sliceFields
  refine wpAny_bind (wpAny_bind (wpAny_field hos hds (x := vl) rfl (wpAny_bind (wpAny_field hos hds (x := vu) rfl (wpAny_bind (wpAny_field hos hds (x := vs) rfl (wpAny_pure ?_)))))))
  refine wpAny_bind (slicePart_ ps ?_)
  show wpAny _ _ (if ((-1 : Int) == 0) = true then _ else _) _ _ s
  rw [if_neg (by decide)]
  refine wpAny_bind (slicePart_ pl (wpAny_bind (slicePart_ pu (wpAny_bind (wpAny_pure ?_)))))
  show wpAny _ _ (match Builtin.Slice.sliceAdjust none none (-1) (n : Int) with | (lo, hi) => pure (lo, (-1 : Int), Builtin.Slice.slicePlaces lo hi (-1))) _ _ s
  rw [adjust_rev n]
  show wpAny _ _ (pure ((n : Int) - 1, (-1 : Int), Builtin.Slice.slicePlaces ((n : Int) - 1) (-1) (-1))) _ _ s
  rw [places_rev]
  exact wpAny_pure h
theorem getItem_tuple_rev {t sl : Addr} {items : Array Value} {vl vu vs : Value} {Q : Value → Shared → Prop} (ht : IsTup s.heap t items) (hs : s.heap.IsSliceOf sl vl vu vs) (pl : IsPart vl none) (pu : IsPart vu none) (ps : IsPart vs (some (-1)))
    (h : Q (.ref s.heap.objs.size) { s with heap := s.heap.push { cls := .type "tuple", data := .seq items.toList.reverse.toArray } })
    (hsz : items.size ≤ sizeLine) : wpAny (model prog w) A (getItem (.ref t) (.ref sl)) Q E s := by
  have htake : sizeOk (.seq items.toList.reverse.toArray) := by
    show items.toList.reverse.toArray.size ≤ sizeLine
    rw [List.size_toArray, List.length_reverse, Array.length_toList]
    exact hsz
  obtain ⟨os, hos, hcs, hds⟩ := id hs
  have hTs : s.TypeIs (.ref sl) "slice" := ⟨os, hos, hcs⟩
  unfold getItem
  try with_reducible refine wpAny_holding ?_
  first | refine wpAny_bind (wpAny_pure ?_) | skip
  refine wpAny_bind (wpAny_sequenceKey ht.typeIs (by decide) ?_)
  refine wpAny_bind (wpAny_callSpecial?_slot (name := Str.ofString "__getitem__") ht.typeIs PyProof.Rows.slot_tuple_getitem
    (wpAny_call_entry PyProof.Rows.slot_tuple_getitem ht.typeIs entry_tuple_getitem ?_ (args_tuple_getitem _ _)))
  show wpAny _ _ (Builtin.Tuple.tupleItemsOf (.ref t) >>= _) _ _ s
  refine wpAny_bind (tupleItemsOf_ ht ?_)
  refine wpAny_bind (wpAny_typeOf hTs ?_)
  rw [if_pos (by decide)]
  refine wpAny_bind (sliceApplied_rev hs pl pu ps ?_)
  have hno : ¬ ((((items.size : Int) - 1) == 0 && (-1 : Int) == 1 && items.size == items.size) = true) := by
    intro q
    rw [Bool.and_eq_true, Bool.and_eq_true] at q
    exact absurd q.1.2 (by decide)
  show wpAny _ _ (if (((items.size : Int) - 1) == 0 && (-1 : Int) == 1 && items.size == items.size) = true then _ else _) _ _ s
  rw [if_neg hno, pick_rev]
  first
    | exact wpAny_bind (m := Builtin.Tuple.tupleExact _) (wpAny_newObj_type (wpAny_pure ⟨_, rfl, wpAny_pure h⟩) htake)
    | exact wpAny_bind (m := Builtin.Tuple.tupleExact _) (wpAny_newObj_type (wpAny_bind (wpAny_pure (wpAny_pure ⟨_, rfl, wpAny_pure h⟩))) htake)
    | exact wpAny_bind (wpAny_bind (m := Builtin.Tuple.tupleExact _) (wpAny_newObj_type (wpAny_pure (wpAny_pure ⟨_, rfl, wpAny_pure h⟩)) htake))
    | exact wpAny_bind (wpAny_bind (m := Builtin.Tuple.tupleExact _) (wpAny_newObj_type (wpAny_pure ⟨_, rfl, wpAny_pure h⟩) htake))
end
end HT
namespace L2.DI
open PySem PySem.Spec PyProof.Rows
/-- o[::-1]: a list, a tuple, a text -/
def rRev (K : PySem.W.Frag) : V → Hp → VK → Prop := fun x H Q => (∃ a xs, x = .ref a ∧ SqL K H a xs ∧ ∀ p, H p = none → Q (.ref p) (upd H p (.lst xs.reverse))) ∨
  (∃ a xs, x = .ref a ∧ SqT K H a xs ∧ ∀ p, H p = none → Q (.ref p) (upd H p (.tup xs.reverse))) ∨
  ∃ z : Str, x = .str z ∧ z.length ≤ sizeLine ∧ Q (.str ⟨z.cps.toList.reverse.toArray⟩) H
section
variable {X : Cx}
theorem str_rev (z : Str) : ((slicePicked z none none (some ((-1 : Int), (0 : Tok)))).filterMap (z.cps[·]?)).toArray = z.cps.toList.reverse.toArray := by
  have e : slicePicked z none none (some ((-1 : Int), (0 : Tok))) = sliceRange ((z.cps.size : Int) - 1) (-1) (-1) := rfl
  rw [e, PySem.W.krv_sliceRange, PySem.W.krv_range, List.filterMap_reverse, PySem.W.krv_all]
theorem pe_rev {e : Expr} {te : TE} {k : Nat} {p1 p2 p3 pos : Pos} (he : PE X e te) : PE X (.Subscript e (.Slice none none (some (.UnaryOp .USub (.Constant (.int 1) k p1) p2)) p3) pos) (fun σ H Q => te σ H fun x H1 => rRev X.K x H1 Q) := by
  refine ⟨fun pins s σ H Q I h => ?_⟩
  refine Subscript_ (thn (he.run pins s σ H _ I h) fun v s1 ⟨x, H1, I1, r1, q1⟩ => ?_)
  have hst : PO X (some (.UnaryOp .USub (.Constant (.int 1) k p1) p2)) (tPart (tUn (rU fun i => .int (-i)) (tC (.int 1)))) := po_some (pe_un un_neg pe_int)
  refine wpAny_Slice (thn (po_none.run pins s1 σ H1 (fun o H2 => o = none ∧ H2 = H1) I1 ⟨rfl, rfl⟩) fun vl s2 ⟨l, H2, I2, pl, el, e2⟩ => ?_)
  subst el e2
  refine thn (po_none.run pins s2 σ H2 (fun o H3 => o = none ∧ H3 = H2) I2 ⟨rfl, rfl⟩) fun vu s3 ⟨u, H3, I3, pu, eu, e3⟩ => ?_
  subst eu e3
  refine thn (hst.run pins s3 σ H3 (fun o H4 => o = some (-1) ∧ H4 = H3) I3 ⟨1, rfl, -1, rfl, rfl, rfl⟩) fun vs s4 ⟨o, H4, I4, ps, eo, e4⟩ => ?_
  subst eo e4
  have I5 : Inv X pins σ H4 { s4 with heap := s4.heap.push { cls := .type "slice", data := .fields #[vl, vu, vs] } } := I4.kept (t' := s4.toks) fun b ob q => Heap.get?_push_of_some _ q
  rcases q1 with ⟨a, xs, ex, hx, q⟩ | ⟨a, xs, ex, hx, q⟩ | ⟨z, ex, hz, q⟩
  · subst ex
    cases r1
    obtain ⟨its, r, ht, hz⟩ := I5.list hx
    have hlen := r.length
    show wpAny (model X.prog X.w) X.A (subscriptTail e (.Slice none none (some (.UnaryOp .USub (.Constant (.int 1) k p1) p2)) p3) (.ref a) (.ref s4.heap.objs.size)) (EP X pins σ Q) X.xe { s4 with heap := s4.heap.push { cls := .type "slice", data := .fields #[vl, vu, vs] } }
    refine tail_any (ops := [.ref a, .ref s4.heap.objs.size]) ht.isList.typeIs (PySem.slot_list_getitem.lookup) ?_ (by with_unfolding_all rfl)
    refine wpAny_getItem_list_slice ht.isList (Heap.IsSliceOf.new _ vl vu vs) pl pu ps (by decide) ?_ (by rw [List.size_toArray]; omega)
    rw [PySem.W.krv_pick]
    refine ⟨.ref _, _, I5.laid (t' := s4.toks) (o := .lst xs.reverse) (fun b ob q => Heap.get?_push_of_some _ q) (Nat.le_refl _) ?_, rfl, q _ (I5.hok.fresh (Nat.le_refl _))⟩
    exact ⟨by rw [List.length_reverse]; exact hz, _, 0, r.reverse, Heap.get?_push_size _ rfl⟩
  · subst ex
    cases r1
    obtain ⟨its, r, ht, hz⟩ := I5.tuple hx
    have hlen := r.length
    show wpAny (model X.prog X.w) X.A (subscriptTail e (.Slice none none (some (.UnaryOp .USub (.Constant (.int 1) k p1) p2)) p3) (.ref a) (.ref s4.heap.objs.size)) (EP X pins σ Q) X.xe { s4 with heap := s4.heap.push { cls := .type "slice", data := .fields #[vl, vu, vs] } }
    refine tail_any (ops := [.ref a, .ref s4.heap.objs.size]) ht.typeIs (PyProof.Rows.slot_tuple_getitem.lookup) ?_ (by with_unfolding_all rfl)
    refine HT.getItem_tuple_rev ht (Heap.IsSliceOf.new _ vl vu vs) pl pu ps ?_ (by rw [List.size_toArray]; omega)
    refine ⟨.ref _, _, I5.laid (t' := s4.toks) (o := .tup xs.reverse) (fun b ob q => Heap.get?_push_of_some _ q) (Nat.le_refl _) ?_, rfl, q _ (I5.hok.fresh (Nat.le_refl _))⟩
    exact ⟨by rw [List.length_reverse]; exact hz, _, r.reverse, IsTup.new _ _⟩
  · subst ex
    obtain ⟨t, rfl⟩ := r1
    obtain ⟨os, hos, hcs, hds⟩ := Heap.IsSliceOf.new s4.heap vl vu vs
    obtain ⟨l, rfl, el⟩ := IsPart.raw pl
    obtain ⟨u, rfl, eu⟩ := IsPart.raw pu
    obtain ⟨st, rfl, est⟩ := IsPart.raw ps
    cases l with
    | some _ => cases el
    | none =>
    cases u with
    | some _ => cases eu
    | none =>
    cases st with
    | none => cases est
    | some st =>
    obtain ⟨i, tk⟩ := st
    have ei : i = -1 := by simpa using est
    subst ei
    refine tail_any (ops := [.str z t, .ref s4.heap.objs.size]) (typeIs_str _ _ _) (F.slot_str_getitem.lookup) ?_ (by with_unfolding_all rfl)
    refine wpAny_getItem_str_slice (l := none) (u := none) (st := some (-1, tk)) ⟨os, hos, hcs, hds⟩ rfl ?_
    have hp : (slicePicked z none none (some (-1, tk))) = slicePicked z none none (some ((-1 : Int), (0 : Tok))) := rfl
    show Made.post (if ((-1 : Int) == 1 && (slicePicked z none none (some (-1, tk))).length == z.length) = true then Made.val (.str z t)
      else Made.str ⟨((slicePicked z none none (some (-1, tk))).filterMap (z.cps[·]?)).toArray⟩) (EP X pins σ Q) _
    rw [if_neg (by rw [Bool.and_eq_true]; exact fun q => absurd q.1 (by decide)), hp, str_rev]
    exact ⟨by show z.cps.toList.reverse.toArray.size ≤ sizeLine; rw [List.size_toArray, List.length_reverse, Array.length_toList]; exact hz, .str _, H4, I5.tok _, ⟨_, rfl⟩, q⟩
end
def fRev : D → Out RV
  | .lst ds => .ok (.fr (.lst ds.reverse))
  | .kls ds => .ok (.fr (.lst ds.reverse))
  | .tup ds => .ok (.im (.tup ds.reverse))
  | .ktp ds => .ok (.im (.tup ds.reverse))
  | .str l => if l.length ≤ LIM then .ok (.im (.str l.reverse)) else .st
  | _ => .st
def sRev (a : SE) : SE := fun δ => do
  let (r, δ1) ← opd (a δ)
  let d ← look δ1 r
  let v ← fRev d
  .ok (v, δ1)
theorem Reps.snocs {W : CT} {G : Hp} : ∀ {ds : List D} {vs : List V}, Reps W G ds vs → Reps W G ds.reverse vs.reverse
  | _, _, .nil => .nil
  | _, _, .cons h t => by
    rw [List.reverse_cons, List.reverse_cons]; exact (Reps.snocs t).snoc h
section
variable {F : Fx} {X : Cx} {pos : Pos}
theorem de_rev {e : Expr} {a : SE} {k : Nat} {p1 p2 p3 : Pos} (hK : F.W.K = X.K) (h : DE F X e a) : DE F X (.Subscript e (.Slice none none (some (.UnaryOp .USub (.Constant (.int 1) k p1) p2)) p3) pos) (sRev a) := by
  refine ⟨(pe_rev h.pe).imp fun σ H Q ⟨δ, G, S, w⟩ => ⟨δ, G, S, opd_ok (R := fun _ _ _ _ _ => True) ?_⟩⟩
  unfold sRev at w
  cases e1 : opd (a δ) with
  | st => rw [e1] at w; exact w
  | ex c fs => rw [e1] at w; exact w
  | ok p =>
    obtain ⟨r, δ1⟩ := p
    rw [e1] at w
    intro x H1 G1 S1 g1 q1
    simp only [ok_bind] at w
    rcases look_case (δ := δ1) (r := r) with ⟨d, ed⟩ | ed
    · rw [ed] at w
      simp only [ok_bind] at w
      have v := look_ok S1 q1 ed
      have w' : SatV F (fRev d) δ1 σ G1 Q := satE_trans g1 w
      cases d <;> (try exact False.elim w')
      case lst ds =>
        obtain ⟨b, xs, rfl, q, r⟩ := v.lst S1.gh
        exact .inl ⟨_, _, rfl, .inl (.inl q), fun p hp => SatV.fr w' S1 hp (.lst r.snocs)⟩
      case kls ds =>
        obtain ⟨b, xs, rfl, q, r⟩ := v.kls S1.gh
        exact .inl ⟨_, _, rfl, by rw [← hK]; exact q, fun p hp => SatV.fr w' S1 hp (.lst r.snocs)⟩
      case tup ds =>
        obtain ⟨b, xs, rfl, q, r⟩ := v.tup S1.gh
        exact .inr (.inl ⟨_, _, rfl, .inl (.inl (S1.gh _ _ q)), fun p hp => SatV.imNew w' S1 hp (.tup upd_same (r.snocs.mono (same_upd0 (S1.fresh hp))))⟩)
      case ktp ds =>
        obtain ⟨b, xs, rfl, q, r⟩ := v.ktp
        exact .inr (.inl ⟨_, _, rfl, by rw [← hK]; exact q, fun p hp => SatV.imNew w' S1 hp (.tup upd_same (r.snocs.mono (same_upd0 (S1.fresh hp))))⟩)
      case str z =>
        unfold fRev at w'
        dsimp only at w'
        by_cases hz : z.length ≤ LIM
        · rw [if_pos hz] at w'
          obtain ⟨rfl, ha⟩ := v.str
          refine .inr (.inr ⟨_, rfl, by rw [mk_len, lim_eq]; exact hz, ?_⟩)
          have e : (⟨(mk z).cps.toList.reverse.toArray⟩ : Str) = mk z.reverse := rfl
          rw [e]
          exact w'.im S1 (.str _ (List.all_eq_true.mpr fun c hc => List.all_eq_true.mp ha c (List.mem_reverse.1 hc)))
        · rw [if_neg hz] at w'; exact False.elim w'
    · rw [ed] at w; exact w.elim
end
end L2.DI

/-! DIG: sorted(o) of alike data. -/
namespace L2.DI
open PySem PySem.Spec PyProof.Rows
abbrev leD (a b : D) : Bool := PySem.W.dataLe false toPy a b
def rSortD (K : PySem.W.Frag) : List V → Hp → VK → Prop := fun xs H Q => ∃ (a : Addr) (bs : List (D × V)), xs = [.ref a] ∧ SqL K H a (bs.map (·.2)) ∧ DpAll K H (bs.map (·.2)) (bs.map fun b => toPy b.1) ∧
  PySem.W.AllAlike (bs.map fun b => toPy b.1) ∧ PySem.W.Sortable (bs.map fun b => toPy b.1) ∧ (∀ b ∈ bs, (toPy b.1).depth ≤ 30) ∧
  ∀ p, H p = none → Q (.ref p) (upd H p (.lst ((bs.mergeSort (PySem.W.dataLe false fun b => toPy b.1)).map (·.2))))
theorem each_vals : ∀ {bs : List (D × V)} {us : List Value}, Vals (bs.map (·.2)) us → PySem.W.EachIs (fun (u : Value) (b : D × V) => RelV b.2 u) us bs
  | [], _, r => by cases r; exact .nil
  | b :: bs, us, r => by
    rw [List.map_cons] at r
    cases r with
    | cons h t => exact .cons h (each_vals t)
theorem vals_each : ∀ {bs : List (D × V)} {us : List Value}, PySem.W.EachIs (fun (u : Value) (b : D × V) => RelV b.2 u) us bs → Vals (bs.map (·.2)) us
  | _, _, .nil => .nil
  | _, _, .cons h t => by rw [List.map_cons]; exact .cons h (vals_each t)
section
variable {X : Cx}
theorem cr_sorted (hu : X.A.units + 64 < cLine) : CallR X (.builtin "sorted") (rSortD X.K) := by
  intro pins s σ H vs us Q I r h
  obtain ⟨a, bs, rfl, hs, hd, hal, hk, hdep, q⟩ := h
  obtain ⟨its, rv, hl, hz⟩ := I.list hs
  rw [Vals.ref1 r]
  rw [List.length_map] at hz
  obtain ⟨as, hr⟩ := Dp.readsAll I _ _ _ hd rv
  refine PySem.W.sorted_data (bs := bs) (enc := fun b : D × V => toPy b.1) hl.isList (each_vals rv) (PySem.W.readsAll_each (fun b : D × V => toPy b.1) hr) hal hk hz (fun b hb => ?_) fun out h1 h2 => ?_
  · have := hdep b hb; omega
  · obtain ⟨ep, he'⟩ := PyProof.Rows.sortedAll_at s.heap its out.toArray
    have hlen : ((bs.mergeSort (PySem.W.dataLe false fun b : D × V => toPy b.1)).map (·.2)).length ≤ sizeLine := by
      rw [List.length_map, List.length_mergeSort]; exact hz
    exact ⟨.ref _, upd H (s.heap.objs.size + 1) (.lst _), I.laid (t' := s.toks) (fun _ _ => PyProof.Rows.sortedAll_old) (Nat.le_succ _) ⟨hlen, out, ep, vals_each h2, he'⟩, rfl, q _ (I.hok.fresh (Nat.le_succ _))⟩
end
def tupNE : D → Bool
  | .tup (_ :: _) => true
  | _ => false
def notTN : D → Bool
  | .int _ => true
  | .bl _ => true
  | .str _ => true
  | .lst _ => true
  | _ => false
/-- what may be sorted -/
def sortOk (ds : List D) : Bool := plains ds && decide (deps ds ≤ 30) && (ds.all fun a => ds.all fun b => PySem.W.alike (toPy a) (toPy b)) && (ds.all tupNE || ds.all notTN)
def fSorted : D → Out RV
  | .lst ds => if sortOk ds = true then .ok (.fr (.lst (ds.mergeSort leD))) else .st
  | .kls ds => if sortOk ds = true then .ok (.fr (.lst (ds.mergeSort leD))) else .st
  | _ => .st
theorem toPys_eq : ∀ ds : List D, toPys ds = ds.map toPy
  | [] => rfl
  | d :: ds => by rw [toPys, toPys_eq ds]; rfl
theorem deps_mem : ∀ {ds : List D} {d : D}, d ∈ ds → dep d ≤ deps ds
  | d :: ds, e, h => by
    rw [deps]
    rcases List.mem_cons.1 h with rfl | h
    · omega
    · have := deps_mem h; omega
theorem zip_fst : ∀ {ds : List D} {vs : List V}, ds.length = vs.length → (ds.zip vs).map (·.1) = ds
  | [], [], _ => rfl
  | d :: ds, v :: vs, h => by simp [zip_fst (ds := ds) (vs := vs) (by simpa using h)]
theorem zip_snd : ∀ {ds : List D} {vs : List V}, ds.length = vs.length → (ds.zip vs).map (·.2) = vs
  | [], [], _ => rfl
  | d :: ds, v :: vs, h => by simp [zip_snd (ds := ds) (vs := vs) (by simpa using h)]
theorem reps_zip {W : CT} {G : Hp} : ∀ {bs : List (D × V)}, (∀ b ∈ bs, Rep W G b.1 b.2) → Reps W G (bs.map (·.1)) (bs.map (·.2))
  | [], _ => .nil
  | b :: bs, h => .cons (h b (List.mem_cons_self ..)) (reps_zip fun c hc => h c (List.mem_cons_of_mem _ hc))
theorem zip_reps {W : CT} {G : Hp} : ∀ {ds : List D} {vs : List V}, Reps W G ds vs → ∀ b ∈ ds.zip vs, Rep W G b.1 b.2
  | _, _, .nil, b, hb => by simp at hb
  | _, _, .cons h t, b, hb => by
    rcases List.mem_cons.1 hb with rfl | hb
    · exact h
    · exact zip_reps t b hb
theorem tupNE_py {d : D} (h : tupNE d = true) : ∃ x r, toPy d = .tuple (x :: r) := by
  unfold tupNE at h
  split at h
  · exact ⟨_, _, rfl⟩
  · cases h
theorem notTN_py {d : D} (h : notTN d = true) : toPy d ≠ .none ∧ ∀ xs, toPy d ≠ .tuple xs := by
  unfold notTN at h
  split at h
  · exact ⟨(fun e => by cases e), (fun xs e => by cases e)⟩
  · exact ⟨(fun e => by cases e), (fun xs e => by cases e)⟩
  · exact ⟨(fun e => by cases e), (fun xs e => by cases e)⟩
  · exact ⟨(fun e => by cases e), (fun xs e => by cases e)⟩
  · cases h
section
variable {F : Fx} {X : Cx}
theorem sorted_core {δ : DS} {σ : St} {H G : Hp} {ds : List D} {xs : List V} {a : Addr} {Q : VK} (hK : F.W.K = X.K) (S : SOk F δ σ H G) (hq : SqL X.K H a xs) (r : Reps F.W G ds xs) (hs : sortOk ds = true)
    (h : SatV F (.ok (.fr (.lst (ds.mergeSort leD)))) δ σ G Q) : rSortD X.K [.ref a] H Q := by
  unfold sortOk at hs
  simp only [Bool.and_eq_true, Bool.or_eq_true, decide_eq_true_eq] at hs
  obtain ⟨⟨⟨h1, h2⟩, h3⟩, h4⟩ := hs
  have e1 := zip_fst r.length
  have e2 := zip_snd r.length
  have e3 : (ds.zip xs).map (fun b => toPy b.1) = ds.map toPy := by
    conv => rhs; rw [← e1]
    rw [List.map_map]; rfl
  refine ⟨a, ds.zip xs, rfl, by rw [e2]; exact hq, ?_, ?_, ?_, fun b hb => ?_, fun p hp => ?_⟩
  · rw [e2, e3, ← toPys_eq, ← hK]
    exact dps_mono S.gh (r.dp h1).1
  · rw [e3]
    intro d hd d' hd'
    obtain ⟨x, hx, rfl⟩ := List.mem_map.1 hd
    obtain ⟨y, hy, rfl⟩ := List.mem_map.1 hd'
    exact List.all_eq_true.1 (List.all_eq_true.1 h3 x hx) y hy
  · rw [e3]
    rcases h4 with h4 | h4
    · exact .inl fun d hd => by
        obtain ⟨x, hx, rfl⟩ := List.mem_map.1 hd
        exact tupNE_py (List.all_eq_true.1 h4 x hx)
    · exact .inr fun d hd => by
        obtain ⟨x, hx, rfl⟩ := List.mem_map.1 hd
        exact notTN_py (List.all_eq_true.1 h4 x hx)
  · rw [dep_toPy]
    have hm : b.1 ∈ ds := by rw [← e1]; exact List.mem_map_of_mem hb
    have := deps_mem hm
    omega
  · have e4 : ((ds.zip xs).mergeSort (PySem.W.dataLe false fun b => toPy b.1)).map (·.1) = ds.mergeSort leD := by
      have em := List.map_mergeSort (f := Prod.fst) (r := PySem.W.dataLe false fun b : D × V => toPy b.1) (s := leD) (l := ds.zip xs) fun x _ y _ => rfl
      rw [e1] at em
      exact em
    refine SatV.fr h S hp (.lst ?_)
    rw [← e4]
    refine reps_zip fun b hb => ?_
    exact zip_reps r b ((List.mergeSort_perm _ _).mem_iff.1 hb)
theorem o_sorted (hK : F.W.K = X.K) : CallOk F (rSortD X.K) (f1 fSorted) := by
  refine call1 fun δ σ H G d v Q S q h => ?_
  cases d <;> (try exact False.elim h)
  case lst ds =>
    unfold fSorted at h
    dsimp only at h
    by_cases hs : sortOk ds = true
    · rw [if_pos hs] at h
      obtain ⟨a, xs, rfl, h1, r⟩ := q.lst S.gh
      exact sorted_core hK S (.inl (.inl h1)) r hs h
    · rw [if_neg hs] at h; exact False.elim h
  case kls ds =>
    unfold fSorted at h
    dsimp only at h
    by_cases hs : sortOk ds = true
    · rw [if_pos hs] at h
      obtain ⟨a, xs, rfl, h1, r⟩ := q.kls S.gh
      exact sorted_core hK S (by rw [← hK]; exact h1) r hs h
    · rw [if_neg hs] at h; exact False.elim h
end
end L2.DI

namespace L2.DI
open PySem PySem.Spec PyProof.Rows PySem.Calls
/-! DIH: {k: v} and dict(pairs), the keys tuples -/
section
variable {X : Cx} {pos : Pos}
def tDispT (tk tv : TE) : TE := fun σ H Q => ∀ p, H p = none → tPairs [(tk, tv)] σ (upd H p (.dT [])) fun ps H2 => H2 p = some (.dT []) ∧ ∃ (b : Addr) (ks : List Key) (y : V), ps = [(.ref b, y)] ∧ H2 b = some (.tup (ks.map kV)) ∧ Q (.ref p) (upd H2 p (.dT [(ks, y)]))
theorem pe_dispT {k v : Expr} {tk tv : TE} (hu : X.A.units + 1 < cLine) (hk : PE X k tk) (hv : PE X v tv) : PE X (.Dict [some k] [v] pos) (tDispT tk tv) := by
  refine ⟨fun pins s σ H Q I q => ?_⟩
  have hn := I.hok.fresh (Nat.le_refl s.heap.objs.size)
  have I1 := I.laid (a := s.heap.objs.size) (o := .dT []) (h' := s.heap.push { cls := .type "dict", data := .dict #[] }) (t' := s.toks) (fun _ _ q => Heap.get?_push_of_some _ q) (Nat.le_refl _) (dt_empty s.heap I.big)
  rw [arm_eval_Dict, zip_pairTrees [some k] [v] X.env pos rfl rfl, dictDisplay_pairs _ (by simp [pairTrees]) (by simp [pairTrees])]
  refine wpAny_bind (wpAny_standAt (wpAny_bind (wpAny_subDictH (knd := tupleKind (mixKind X.prog X.w)) (Q := fun d s' => wpAny (model X.prog X.w) X.A (pure (Value.ref d)) _ X.xe s') (Nat.lt_of_succ_lt hu) (by simp [pairTrees])
    (thn ((pps_cons hk hv pps_nil).run pins _ σ _ _ I1 (q _ hn)) fun ws s2 ⟨ps, H2, I2, rel, e, b, ks, y, ep, eb, q2⟩ => ?_))))
  subst ep
  obtain ⟨u, vv, ew, r1, r2⟩ : ∃ u vv, ws = [(u, vv)] ∧ RelV (.ref b) u ∧ RelV y vv := by
    cases rel with
    | cons h t => cases t; exact ⟨_, _, rfl, h.1, h.2⟩
  subst ew
  obtain rfl : u = Value.ref b := r1
  obtain ⟨z, hd, xs, r0, dd⟩ := dt_of I2.hok e
  cases r0
  refine ⟨[(ks, b, vv)], ⟨rfl, rfl, key_of I2.hok eb, True.intro⟩, dd, fun h' tk' dd' hs => wpAny_pure ⟨.ref s.heap.objs.size, _, ?_, rfl, q2⟩⟩
  obtain ⟨o, es, ep, hq, h2, h3, h4, _, h5⟩ := dd'
  refine d_write I2 (by rw [e]; exact True.intro) hs ⟨o, hq⟩ ⟨?_, hd, _, (KT.put (kvs := []) (xs := []) .nil ks eb r2).keeps fun c ys ec => ?_, o, es, ep, hq, h2, h3, h4, h5⟩
  · show 1 ≤ sizeLine
    rw [sizeLine_eq]; omega
  · rw [upd_ne (ne_of ec e (fun z => nomatch z))]
    exact ec
end
section
variable {F : Fx} {X : Cx} {pos : Pos}
theorem SOk.redo {δ : DS} {σ : St} {H G : Hp} (S : SOk F δ σ H G) {p : Addr} {o o0 : HO} (h0 : H p = some o0) (nx : NX o0) (hB : F.B p = none) (hG : G p = none) (hn : ∀ (i : Nat) (c' : D), δ[i]? = some (.ow c') → σ[i]? ≠ some (some (.ref p))) : SOk F δ σ (upd H p o) G := by
  refine ⟨S.len, fun b u eb => ?_, S.g0, fun b u eb => ?_, S.gn, S.im, fun i c ei => ?_, S.ne, S.tt.wr h0 nx⟩
  · rw [upd_ne (ne_of_none eb hB)]; exact S.bh b u eb
  · rw [upd_ne (ne_of_none eb hG)]; exact S.gh b u eb
  · obtain ⟨a, o, y1, y2, y3⟩ := S.ow i c ei
    have ne : a ≠ p := fun zz => hn i c ei (by rw [y1, zz])
    exact ⟨a, o, y1, by rw [upd_ne ne]; exact y2, y3⟩
def sDisp (a b : SE) : SE := fun δ => do
  let (k, δ1) ← noEx (frz (a δ))
  let (v, δ2) ← noEx (frz (b δ1))
  (match k with
    | .tup ds => (match keysOf ds with
      | some ks => .ok (.fr (.dT [(ks, v)]), δ2)
      | none => .st)
    | _ => .st)
theorem disp_imp {a b : SE} (σ : St) (H : Hp) (Q : VK) : tE F (sDisp a b) σ H Q → tDispT (fun σ H Q => ∃ B', tE (cB F B') a σ H Q) (fun σ H Q => ∃ B', tE (cB F B') b σ H Q) σ H Q := by
  rintro ⟨δ, G, S, h⟩ p hp
  have hBp : F.B p = none := S.bh.free hp
  have hG0 : F.G0 p = none := S.g0.free (S.fresh hp)
  have S1 := (S.made hp (.dT [])).pin (p := p) (o := .dT []) upd_same (S.fresh hp) (S.notOwn hp) F.E false
  unfold sDisp at h
  refine ⟨_, δ, G, S1, frz_ok ?_⟩
  cases e1 : frz (a δ) with
  | st => rw [e1] at h; exact h
  | ex c fs => rw [e1] at h; exact h.elim
  | ok r =>
    obtain ⟨k, δ1⟩ := r
    rw [e1] at h
    simp only [noEx, ok_bind] at h
    intro x H1 G1 S2 g1 r1
    refine ⟨_, δ1, G1, S2, frz_ok ?_⟩
    cases e2 : frz (b δ1) with
    | st => rw [e2] at h; exact h
    | ex c fs => rw [e2] at h; exact h.elim
    | ok r =>
      obtain ⟨v, δ2⟩ := r
      rw [e2] at h
      simp only [noEx, ok_bind] at h
      intro y H2 G2 S3 g2 r2
      obtain ⟨p1, p2, p3⟩ := S3.pinned hG0 (fun _ z => by cases z)
      have S4 := S3.unpin hBp
      refine ⟨p1, ?_⟩
      cases k with
      | tup ds =>
        dsimp only at h
        cases ek : keysOf ds with
        | none => rw [ek] at h; exact h.elim
        | some ks =>
          rw [ek] at h
          obtain ⟨c, ys, rfl, z, rr⟩ := (VRep.of (H := H2) (r1.mono g2)).tup S4.gh
          obtain rfl := keysOf_rep rr ek
          refine ⟨c, ks, y, rfl, S4.gh _ _ z, h _ _ _ (S4.redo p1 ⟨fun _ z => (nomatch z), fun _ z => (nomatch z)⟩ hBp p2 p3) (g1.trans g2) ⟨p, _, rfl, upd_same, .dT rfl (.cons r2 .nil), p2, hBp, p3⟩⟩
      | _ => exact h.elim
theorem de_disp {k v : Expr} {a b : SE} (hu : X.A.units + 64 < cLine) (ha : ∀ B' : Hp, DE (cB F B') X k a) (hb : ∀ B' : Hp, DE (cB F B') X v b) : DE F X (.Dict [some k] [v] pos) (sDisp a b) :=
  ⟨(pe_dispT (tk := fun σ H Q => ∃ B', tE (cB F B') a σ H Q) (tv := fun σ H Q => ∃ B', tE (cB F B') b σ H Q) (by omega) ⟨fun pins s σ H Q I ⟨B', w⟩ => (ha B').pe.run pins s σ H Q I w⟩ ⟨fun pins s σ H Q I ⟨B', w⟩ => (hb B').pe.run pins s σ H Q I w⟩).imp disp_imp⟩
end
/-! ### dict(pairs) -/
section
variable {X : Cx}
abbrev PrT (H : Hp) : Addr → List Key × V → Prop := fun p kv => ∃ b, H p = some (.tup [.ref b, kv.2]) ∧ H b = some (.tup (kv.1.map kV))
def mergeT (kvs more : List (List Key × V)) : List (List Key × V) := more.foldl (fun acc kv => putK acc kv.1 kv.2) kvs
theorem length_mergeT : ∀ (more kvs : List (List Key × V)), (mergeT kvs more).length ≤ kvs.length + more.length
  | [], kvs => by show kvs.length ≤ kvs.length + 0; omega
  | p :: r, kvs => by
    have h1 := length_mergeT r (putK kvs p.1 p.2)
    have h2 := length_putK kvs p.1 p.2
    show (mergeT (putK kvs p.1 p.2) r).length ≤ _
    rw [List.length_cons]; omega
theorem KT.merge {H : Hp} : ∀ {more : List (List Key × V)} {ps : List (List Key × Addr × Value)} {kvs : List (List Key × V)} {xs : List (List Key × Addr × Value)}, KT H more ps → KT H kvs xs → KT H (mergeT kvs more) (storedAllH xs ps) := by
  intro more ps kvs xs r
  induction r generalizing kvs xs with
  | nil => intro q; exact q
  | @cons p q ps qs h t ih =>
    intro r0
    have e : KT H (putK kvs p.1 p.2) (storedH xs q.1 q.2.1 q.2.2) := by
      have := r0.put p.1 h.2.1 h.2.2
      rw [← h.1]; exact this
    exact ih e
def rDictT (K : PySem.W.Frag) : List V → Hp → VK → Prop := fun xs H Q => ∃ (a : Addr) (ps : List Addr) (kvs : List (List Key × V)), xs = [.ref a] ∧ SqL K H a (ps.map V.ref) ∧ Paired (PrT H) ps kvs ∧ ∀ p, H p = none → Q (.ref p) (upd H p (.dT (mergeT [] kvs)))
theorem pairsT_of {pins : List (Addr × Obj)} {σ : St} {H : Hp} {s : Shared} (I : Inv X pins σ H s) : ∀ {ps : List Addr} {kvs : List (List Key × V)}, Paired (PrT H) ps kvs →
    ∃ prs : List (List Key × Addr × Value), KT H kvs prs ∧ prs.length = ps.length ∧ ∀ (j : Nat) (q : List Key × Addr × Value), prs[j]? = some q → ∃ p : Addr, ps[j]? = some p ∧ s.heap.IsTuple p #[.ref q.2.1, q.2.2]
  | _, _, .nil => ⟨[], .nil, rfl, fun j q e => by simp at e⟩
  | _, _, .cons (a := p) (b := kv) h t => by
    obtain ⟨prs, r, hl, hp⟩ := pairsT_of I t
    obtain ⟨b, h1, h2⟩ := h
    obtain ⟨its, rv, ht, _⟩ := I.tuple (show SqT X.K H p [.ref b, kv.2] from .inl (.inl h1))
    obtain ⟨u, y, ei, ru, ry⟩ := vals2 rv
    subst ei
    obtain rfl : u = Value.ref b := ru
    refine ⟨(kv.1, b, y) :: prs, .cons ⟨rfl, h2, ry⟩ r, by rw [List.length_cons, List.length_cons, hl], fun j q e => ?_⟩
    cases j with
    | zero =>
      have e' : (kv.1, b, y) = q := Option.some.inj e
      subst e'
      exact ⟨p, rfl, ht⟩
    | succ j =>
      obtain ⟨b, e1, e2⟩ := hp j q (by simpa using e)
      exact ⟨b, by simpa using e1, e2⟩
theorem kt_keys {P : Program} {w : World} {H : Hp} {h : Heap} (ok : HOk P w H h) : ∀ {l : List (List Key × V)} {m : List (List Key × Addr × Value)}, KT H l m → ∀ x ∈ m, H x.2.1 = some (.tup (x.1.map kV)) := by
  intro l m q
  induction q with
  | nil => intro x hx; exact nomatch hx
  | @cons p q ps qs hq t ih =>
    intro x hx
    rcases List.mem_cons.mp hx with e | hx
    · subst e
      rw [← hq.1]; exact hq.2.1
    · exact ih x hx
theorem call_dictT (hu : X.A.units + 64 < cLine) (hcalm : X.calm = true) : CallR X (.type "dict") (rDictT X.K) := by
  intro pins s σ H xs us Q I r q
  obtain ⟨a, ps, kvs, ex, hq, hp, q⟩ := q
  subst ex
  obtain ⟨u, eu, rx⟩ := vals1 r
  subst eu
  cases rx
  obtain ⟨its, rv, pl, hz⟩ := I.list hq
  have ei := refs_at rv
  subst ei
  rw [List.length_map] at hz
  obtain ⟨prs, rel, hl, hpr⟩ := pairsT_of I hp
  obtain ⟨o, n, ho, hc, hd, hdat⟩ := pl
  have hkt := kt_keys (P := X.prog) (w := X.w) I.hok rel
  refine call_dict_pairsH (knd := tupleKind (mixKind X.prog X.w)) (ps := prs) (PairArg.list a (ps.map Value.ref).toArray (fun j => (ps[j]?).getD 0) (prs.map fun x => (Value.ref x.2.1, x.2.2))) (I.ok.hd hcalm) (show X.A.units + 1 + 1 < cLine by omega)
    ⟨⟨o, n, ho, hc, hd, hdat⟩, ⟨by simp [hl], fun j k v e => ?_⟩⟩ ⟨by simp, fun i key v e => ?_⟩ (fun h' hk x hx => ?_) (by simp [hl]; exact hz) fun h' tk hd' k => ?_
  · rw [List.getElem?_map] at e
    obtain ⟨q', e1, e2⟩ := Option.map_eq_some_iff.mp e
    cases e2
    obtain ⟨p, e3, e4⟩ := hpr j q' e1
    refine ⟨by simp [e3], ?_⟩
    show PairAt s.heap ((ps[j]?).getD 0) _ _
    rw [e3]
    exact .inl e4
  · have e : (prs.map fun x => (Value.ref x.2.1, x.2.2))[i]? = some (key, v) := e
    rw [List.getElem?_map] at e
    obtain ⟨q', e1, e2⟩ := Option.map_eq_some_iff.mp e
    cases e2
    exact ⟨q'.1, q'.2.1, e1, rfl⟩
  · obtain ⟨o', its, m, h1, h2⟩ := key_of (P := X.prog) (w := X.w) I.hok (hkt x hx)
    exact ⟨o', its, m, hk _ _ (Nat.ne_of_lt (Heap.lt_size h1)) (by simp) h1, h2⟩
  · have hm : (s.heap.objs.size == sysModules) = false := beq_eq_false_iff_ne.mpr (Nat.ne_of_gt I.big)
    have hlen : (mergeT [] kvs).length ≤ sizeLine := by
      refine Nat.le_trans (length_mergeT kvs []) ?_
      rw [List.length_nil, Nat.zero_add, Paired.length rel, hl]
      exact hz
    have k' : ∀ b o, s.heap.get? b = some o → h'.get? b = some o := fun b o e => k b o (by simp) e
    obtain ⟨o2, es, ep, hq2, h2, h3, h4, _, h5⟩ := hd'
    refine ⟨.ref s.heap.objs.size, upd H s.heap.objs.size (.dT (mergeT [] kvs)), I.laid (t' := tk) k' (Nat.le_refl _) ⟨hlen, hm, _, (KT.merge rel .nil).keeps fun c ys ec => ?_, o2, es, ep, hq2, h2, h3, h4, h5⟩, rfl, q _ (I.hok.fresh (Nat.le_refl _))⟩
    have : H s.heap.objs.size = none := I.hok.fresh (Nat.le_refl _)
    rw [upd_ne (ne_of_none ec this)]
    exact ec
end
section
variable {F : Fx} {X : Cx} {pos : Pos}
def pairsD : List D → Option (List (List Key × D))
  | [] => some []
  | .tup [.tup ds, v] :: r => (match keysOf ds, pairsD r with
    | some ks, some m => some ((ks, v) :: m)
    | _, _ => none)
  | _ :: _ => none
def mgD (kvs more : List (List Key × D)) : List (List Key × D) := more.foldl (fun acc kv => ptD acc kv.1 kv.2) kvs
theorem TRep.merge {W : CT} {G : Hp} : ∀ {more : List (List Key × D)} {ms : List (List Key × V)} {kvs : List (List Key × D)} {xs : List (List Key × V)}, TRep W G more ms → TRep W G kvs xs → TRep W G (mgD kvs more) (mergeT xs ms)
  | [], [], _, _, _, h => h
  | [], _ :: _, _, _, h, _ => by cases h.1
  | _ :: _, [], _, _, h, _ => by cases h.1
  | d :: ds, x :: xs', kvs, xs, h, h0 => by
    obtain ⟨h1, h2, h3⟩ := h.cons_inv
    have : TRep W G (ptD kvs d.1 d.2) (putK xs x.1 x.2) := by rw [← h1]; exact h0.put d.1 h2
    have r := TRep.merge h3 this
    exact r
theorem pairs_rep {W : CT} {G H : Hp} (e : Same G H) : ∀ {ds : List D} {xs : List V} {kvs : List (List Key × D)}, Reps W G ds xs → pairsD ds = some kvs →
    ∃ (ps : List Addr) (ms : List (List Key × V)), xs = ps.map V.ref ∧ Paired (PrT H) ps ms ∧ TRep W G kvs ms
  | [], [], kvs, _, h => by cases h; exact ⟨[], [], rfl, .nil, rfl, .nil⟩
  | d :: ds, x :: xs, kvs, .cons r t, h => by
    unfold pairsD at h
    split at h
    · rename_i h0; cases h0
    · rename_i ds' v r' h0
      cases h0
      split at h
      · rename_i ks m e1 e2
        cases h
        obtain ⟨ps, ms, rfl, i1, i2⟩ := pairs_rep e t e2
        obtain ⟨p, ys, rfl, z, rr⟩ := (VRep.of (H := H) r).tup e
        cases rr with
        | cons ra rb =>
          rename_i y1 ys'
          cases rb with
          | cons rb rc =>
            rename_i y2 ys''
            cases rc
            obtain ⟨b, zs, rfl, z2, r2⟩ := (VRep.of (H := H) ra).tup e
            obtain rfl := keysOf_rep r2 e1
            exact ⟨p :: ps, (ks, y2) :: ms, rfl, .cons ⟨b, e _ _ z, e _ _ z2⟩ i1, i2.cons rb⟩
      · cases h
    · cases h
def fDict : D → Out RV
  | .lst ds => (match pairsD ds with
    | some kvs => .ok (.fr (.dT (mgD [] kvs)))
    | none => .st)
  | _ => .st
theorem cr_dict (hu : X.A.units + 64 < cLine) (hc : X.calm = true) : CallR X (.type "dict") (rDictT X.K) := call_dictT hu hc
theorem o_dict (hK : F.W.K = X.K) : CallOk F (rDictT X.K) (f1 fDict) := by
  refine call1 fun δ σ H G d v Q S q h => ?_
  cases d <;> (try exact False.elim h)
  case lst ds =>
    unfold fDict at h
    dsimp only at h
    cases ep : pairsD ds with
    | none => rw [ep] at h; exact h.elim
    | some kvs =>
      rw [ep] at h
      obtain ⟨a, xs, rfl, h1, r⟩ := q.lst S.gh
      obtain ⟨ps, ms, rfl, i1, i2⟩ := pairs_rep S.gh r ep
      have t := TRep.merge i2 (show TRep F.W G [] [] from ⟨rfl, .nil⟩)
      exact ⟨_, ps, ms, rfl, .inl (.inl h1), i1, fun p hp => SatV.fr h S hp (.dT t.1 t.2)⟩
end
end L2.DI

namespace L2.DI
open PySem PySem.Spec PyProof.Rows PySem.Calls
/-! DII: enumerate of a list or a tuple -/
set_option maxHeartbeats 1000000 in
theorem meets_enumerate_new1 {v : Value} {o : Obj} {H : Heap → Prop} (B : Begins v o H) :
    Meets (Builtin.«enumerate.__new__» ⟨[.type "enumerate", v], []⟩) (fun _ R s => H s.heap ∧
      R (.ok (.ret (.ref (s.heap.push o).objs.size))) { s with heap := (s.heap.push o).push { cls := .type "enumerate", data := .fields #[.none, .bool false, .ref s.heap.objs.size, rawInt 0, .none, .none] } }) :=
  .of_wp fun prog w A R s h => by
    obtain ⟨hp, g, d, tk, os⟩ := s; obtain ⟨h1, h⟩ := h
    have hsub := sub_enumerate
    have q1 : ∀ {A' : Around} {E : Value → Shared → Prop} {Q : Value → Shared → Prop}, Q (.ref hp.objs.size) ⟨hp.push o, g, d, tk, os⟩ → wpAny (model prog w) A' (pyIter v) Q E ⟨hp, g, d, tk, os⟩ :=
      fun q => B.iter prog w _ _ ⟨hp, g, d, tk, os⟩ _ h1 q
    wp_walk using q1
    refine wpAny_stack_any fun st => wpAny_pure ?_
    split
    · rename_i c _ _ _ _ _
      cases (c == Value.type "enumerate")
      · wp_walk using q1
        exact ⟨_, rfl, h⟩
      · wp_walk using q1
        exact ⟨_, rfl, h⟩
    · wp_walk using q1
      exact ⟨_, rfl, h⟩
theorem enum1_begins {prog : Program} {w : World} {A : Around} {E : Value → Shared → Prop} {s : Shared} {v : Value} {o : Obj} {H : Heap → Prop} {Q : Value → Shared → Prop} (B : Begins v o H) (h1 : H s.heap)
    (h : ∀ h', IsEnum h' (s.heap.objs.size + 1) s.heap.objs.size 0 .none → h'.get? s.heap.objs.size = some o → h'.objs.size = s.heap.objs.size + 2 →
      (∀ b o, s.heap.get? b = some o → h'.get? b = some o) → Q (.ref (s.heap.objs.size + 1)) { s with heap := h' }) :
    wpAny (model prog w) A (call (.type "enumerate") [v]) Q E s := by
  refine callType_new F.called_enumerate (by decide) (F.typeCall_enumerate_1 _) (F.newCall_enumerate_1 _) (fun obj => F.args_object_init_2 obj _) F.entry_enumerate_new
    (meets_enumerate_new1 B) ⟨h1, ?_⟩
  have hz : (s.heap.push o).objs.size = s.heap.objs.size + 1 := Heap.size_push ..
  show _ ∧ _
  rw [hz]
  have he : IsEnum ((s.heap.push o).push { cls := .type "enumerate", data := .fields #[.none, .bool false, .ref s.heap.objs.size, rawInt 0, .none, .none] }) (s.heap.objs.size + 1) s.heap.objs.size 0 .none := by
    have := Heap.get?_push_size (s.heap.push o) (o := { cls := .type "enumerate", data := .fields #[.none, .bool false, .ref s.heap.objs.size, rawInt 0, .none, .none] }) rfl
    rw [hz] at this; exact this
  refine ⟨⟨_, he, rfl⟩, h _ he (Heap.get?_push_of_some _ (Heap.get?_push_size _ B.free)) (by rw [Heap.size_push, hz]) fun b o x => Heap.get?_push_of_some _ (Heap.get?_push_of_some _ x)⟩
def IteT (K : PySem.W.Frag) (a : Addr) : It :=
  ⟨fun i H => ∃ (xs : List V) (x : V), SqT K H a xs ∧ xs[i]? = some x, fun i H v H' => ∃ T x, v = .ref T ∧ H T = none ∧ H' = upd H T (.tup [.int (i : Nat), x]) ∧ ∀ xs, SqT K H a xs → xs[i]? = some x, fun i H => ∃ xs : List V, SqT K H a xs ∧ xs.length ≤ i⟩
theorem turn_enumT {P : Program} {w : World} {K : PySem.W.Frag} {elts : List Expr} {kk : Nat} {tpos : Pos} (a e it : Addr) :
    Turn P w K (.Tuple elts kk tpos) (IteT K a) [e, it] e (fun i h => (∃ old, IsEnum h e it ((i : Nat) : Int) old) ∧ h.IsTupleIter it a i ∧ e ≠ it) where
  mem := by simp
  obj := fun i h st b hb => by
    obtain ⟨⟨old, he⟩, ⟨o, ho, hc, hd⟩, _⟩ := st
    have e' : b = e ∨ b = it := by simpa using hb
    rcases e' with z | z
    · rw [z]; exact ⟨_, he, fun v q => nomatch q⟩
    · rw [z]; exact ⟨o, ho, fun v q => by rw [hd] at q; cases q⟩
  keep := fun i h h' st k => let ⟨⟨old, he⟩, hi, hne⟩ := st; ⟨⟨old, k e (by simp) _ he⟩, hi.at fun o q => k it (by simp) o q, hne⟩
  item := by
    intro X hP hw hK hc i pins s σ H E I hf st hg
    subst hP hw hK
    obtain ⟨⟨old, he⟩, hit, hne⟩ := st
    obtain ⟨xs, x, hq, hx⟩ := hg
    obtain ⟨its, rv, p, hz⟩ := I.tuple hq
    obtain ⟨u, hu, ru⟩ := rv.get hx
    have hel : e < s.heap.objs.size := Heap.lt_size he
    have hil : it < s.heap.objs.size := by obtain ⟨_, q, _⟩ := hit; exact Heap.lt_size q
    have hai : a ≠ it := by
      rintro rfl
      obtain ⟨o1, q1, c1, _⟩ := hit
      obtain ⟨o2, q2, c2, _⟩ := p
      rw [q1] at q2; cases q2
      rw [c1] at c2; injection c2 with c2; exact absurd c2 (by decide)
    have hae : e ≠ a := by
      rintro rfl
      obtain ⟨o2, q2, c2, _⟩ := p
      rw [he] at q2; cases q2
      injection c2 with c2; exact absurd c2 (by decide)
    have D := Draws.tuple (prog := X.prog) (w := X.w) (A := X.A.in1) (I.ok.hd hc) it a hai its.toArray
    refine wpAny_pyNext_enum_itemC D he ⟨hit, p⟩ (by have := (List.getElem?_eq_some_iff.1 hu).1; simpa using this) hne (by simp [hne, hae]) fun x' h' tk hPx ho hst' hT hsz hk => ?_
    obtain rfl : x' = u := by
      have : its[i]? = some x' := by simpa using hPx
      rw [hu] at this; exact (Option.some.inj this).symm
    obtain ⟨hit', _⟩ := hst'
    refine ⟨_, rfl, wpAny_letOwnedTupleGo_enum (s := { s with heap := h', toks := tk + 1 }) ho fun h'' he' sb => ?_⟩
    have hT2 : h''.get? s.heap.objs.size = some { cls := .type "tuple", data := .seq #[.int i tk, x'] } := (sb.2 _ (Nat.ne_of_gt hel)).trans hT
    have new : ObjOk X.prog X.w (upd H s.heap.objs.size (.tup [.int (i : Nat), x])) h'' s.heap.objs.size (.tup [.int (i : Nat), x]) :=
      ⟨by show 2 ≤ sizeLine; decide, [.int i tk, x'], .cons ⟨_, rfl⟩ (.cons ru .nil), ⟨_, hT2, rfl, _, rfl⟩⟩
    have I1 : Inv X pins σ (upd H s.heap.objs.size (.tup [.int (i : Nat), x])) { s with heap := h'', toks := tk + 1 } :=
      I.turnedNew (ch := [e, it]) (fun b ob hb q => (sb.2 b (fun z => hb (by simp [z]))).trans (hk b ob (fun z => hb (by simp [z])) (fun z => hb (by simp [z])) q)) hf (Nat.le_refl _) new
    refine ⟨.ref s.heap.objs.size, _, I1, rfl, ⟨_, x, rfl, I.hok.fresh (Nat.le_refl _), rfl, fun ys hy => by rw [I.tuple_inj hy hq]; exact hx⟩, ⟨⟨x', ?_⟩, hit'.at fun o q => (sb.2 it (Ne.symm hne)).trans q, hne⟩, fun b hb => ?_⟩
    · have e1 : ((i + 1 : Nat) : Int) = (i : Int) + 1 := by omega
      rw [e1]; exact he'
    · have hb' : b < s.heap.objs.size := by
        have e' : b = e ∨ b = it := by simpa using hb
        rcases e' with z | z
        · rw [z]; exact hel
        · rw [z]; exact hil
      rw [upd_ne (Nat.ne_of_lt hb')]
      exact (hf b hb).1
  done := by
    intro X hP hw hK hc i pins s σ H E I hf st hg
    subst hP hw hK
    obtain ⟨⟨old, he⟩, hit, hne⟩ := st
    obtain ⟨xs, hq, hx⟩ := hg
    obtain ⟨its, rv, p, hz⟩ := I.tuple hq
    obtain ⟨f0, f1, f2, f3, f4, f5⟩ := hf it (by simp)
    have hl := rv.length
    have hai : a ≠ it := by
      rintro rfl
      obtain ⟨o1, q1, c1, _⟩ := hit
      obtain ⟨o2, q2, c2, _⟩ := p
      rw [q1] at q2; cases q2
      rw [c1] at c2; injection c2 with c2; exact absurd c2 (by decide)
    have hi : i = its.toArray.size ∨ its.length < i := by simp; omega
    rcases hi with rfl | hi
    · have D := Draws.tuple (prog := X.prog) (w := X.w) (A := X.A.in1) (I.ok.hd hc) it a hai its.toArray
      exact wpAny_pyNext_enum_endD D he ⟨hit, p⟩ fun h' eb => ⟨rfl, I.turned (t' := s.toks) (fun b o hb q => eb b o hb q) f0 f1 f3 f4 f5⟩
    · have D : Draws X.prog X.w X.A.in1 it [it, a] i (fun j v => j < i ∧ its[j]? = some v) (fun j h => h.IsTupleIter it a i ∧ h.IsTuple a its.toArray ∧ j = i) := {
        live := fun _ _ st => let ⟨o, ho, _⟩ := st.1; ⟨o, ho⟩
        frame := fun _ _ _ st hk => ⟨st.1.at fun o e => hk it (by simp) o e, st.2.1.at fun o e => hk a (by simp) o e, st.2.2⟩
        item := fun j s Q E hj st hQ => absurd st.2.2 (Nat.ne_of_lt hj)
        done := fun s Q E st hE => wpAny_nextOf_tuple_end (A := X.A.in1) (I.ok.hd hc) st.1 st.2.1 (by simp; omega) hE }
      exact wpAny_pyNext_enum_endD D he ⟨hit, p, rfl⟩ fun h' eb => ⟨rfl, I.turned (t' := s.toks) (fun b o hb q => eb b o hb q) f0 f1 f3 f4 f5⟩
  self := fun A i s Q E st h => let ⟨⟨_, he⟩, _⟩ := st; wpAny_pyIter_enum he h
def iEnumA (K : PySem.W.Frag) (te : TE) : TI := fun σ H R => te σ H fun v H1 => ∃ a xs, [v] = [V.ref a] ∧ ((SqL K H1 a xs ∧ R (Ite K a) H1) ∨ (SqT K H1 a xs ∧ R (IteT K a) H1))
theorem pi_enumA {X : Cx} {e : Expr} {te : TE} {p pos tpos : Pos} {elts : List Expr} {kk : Nat} (hg : Gl X "enumerate") (hm : X.mg "enumerate" = none) (he : PE X e te) (hs : starEach [e] X.env = [(false, eval e X.env)] := by rfl) :
    PI X (.Tuple elts kk tpos) (.Call (.Name "enumerate" p) [e] [] pos) (iEnumA X.K te) := by
  have ha : PA X [e] (tCons te tNil) := pa_cons he pa_nil hs
  refine ⟨fun pins s σ H R I h => ?_⟩
  have h' : tCons te tNil σ H fun vs H1 => ∃ a xs, vs = [V.ref a] ∧ ((SqL X.K H1 a xs ∧ R (Ite X.K a) H1) ∨ (SqT X.K H1 a xs ∧ R (IteT X.K a) H1)) := h
  refine Call_ (ld_blt I hg hm boot_enumerate (PyProof.Rows.callWith_type1 (thn (ha.run pos pins s σ H _ I h') fun us s1 ⟨vs, H1, I1, r1, q1⟩ => ?_) hs rfl))
  obtain ⟨a, xs, ex, q⟩ := q1
  subst ex
  cases r1 with
  | cons r rr =>
    cases rr
    cases r
    rcases q with ⟨hq, q⟩ | ⟨hq, q⟩
    · obtain ⟨its, rv, p', hz⟩ := I1.list hq
      refine call_enumerate_list p'.isList fun h' he hit hsz hk => wpAny_pyIter_enum he ?_
      have I2 : Inv X pins σ H1 { s1 with heap := h' } := I1.kept (t' := s1.toks) hk
      refine ⟨s1.heap.objs.size + 1, [s1.heap.objs.size + 1, s1.heap.objs.size], _, _, H1, rfl, I2, turn_enum a (s1.heap.objs.size + 1) s1.heap.objs.size, ⟨⟨.none, he⟩, hit, Nat.succ_ne_self _⟩, fun b hb => ?_, q⟩
      have e' : b = s1.heap.objs.size + 1 ∨ b = s1.heap.objs.size := by simpa using hb
      have hle : s1.heap.objs.size ≤ b := by
        rcases e' with z | z
        · rw [z]; exact Nat.le_add_right _ _
        · rw [z]; exact Nat.le_refl _
      exact I1.fpOk hle (I1.hok.fresh hle)
    · obtain ⟨its, rv, p', hz⟩ := I1.tuple hq
      refine enum1_begins (begins_tuple a its.toArray) p' fun h' he hit hsz hk => wpAny_pyIter_enum he ?_
      have I2 : Inv X pins σ H1 { s1 with heap := h' } := I1.kept (t' := s1.toks) hk
      refine ⟨s1.heap.objs.size + 1, [s1.heap.objs.size + 1, s1.heap.objs.size], _, _, H1, rfl, I2, turn_enumT a (s1.heap.objs.size + 1) s1.heap.objs.size, ⟨⟨.none, he⟩, ⟨_, hit, rfl, rfl⟩, Nat.succ_ne_self _⟩, fun b hb => ?_, q⟩
      have e' : b = s1.heap.objs.size + 1 ∨ b = s1.heap.objs.size := by simpa using hb
      have hle : s1.heap.objs.size ≤ b := by
        rcases e' with z | z
        · rw [z]; exact Nat.le_add_right _ _
        · rw [z]; exact Nat.le_refl _
      exact I1.fpOk hle (I1.hok.fresh hle)
def enD (ds : List D) : List D := ds.zipIdx.map fun p => D.tup [.int (p.2 : Nat), p.1]
theorem enD_get {ds : List D} {i : Nat} {x : D} (h : (enD ds)[i]? = some x) : ∃ d, ds[i]? = some d ∧ x = .tup [.int (i : Nat), d] := by
  unfold enD at h
  rw [List.getElem?_map, List.getElem?_zipIdx] at h
  cases e : ds[i]? with
  | none => rw [e] at h; cases h
  | some d =>
    rw [e] at h
    simp at h
    exact ⟨d, rfl, h.symm⟩
theorem enD_len (ds : List D) : (enD ds).length = ds.length := by simp [enD]
section
variable {F : Fx} {X : Cx} {pos : Pos}
theorem listE_it {W : CT} {Gs : Hp} {a : Addr} {xs : List V} {ds : List D} (h : SqL W.K Gs a xs) (r : Reps W Gs ds xs) : ItOk W Gs (Ite W.K a) (enD ds) where
  stop := fun i G H e1 e2 hl => ⟨xs, e2.seq (e1.seq h), by rw [← r.length, ← enD_len]; exact hl⟩
  go := fun i d G H e1 e2 hd => by
    obtain ⟨d', hd', rfl⟩ := enD_get hd
    obtain ⟨v, hv, _⟩ := (r.get i).1 d' hd'
    exact ⟨xs, v, e2.seq (e1.seq h), hv⟩
  yld := fun i d G H x H' e1 e2 hd y => by
    obtain ⟨d', hd', rfl⟩ := enD_get hd
    obtain ⟨v, hv, q⟩ := (r.get i).1 d' hd'
    obtain ⟨T, x', rfl, hT, rfl, y⟩ := y
    have := y xs (e2.seq (e1.seq h))
    rw [hv] at this; cases this
    have hG : G T = none := e2.free hT
    exact .inr ⟨T, _, hT, rfl, .tup upd_same (.cons (.int _) (.cons (q.mono (e1.trans (same_upd0 hG))) .nil))⟩
theorem tupE_it {W : CT} {Gs : Hp} {a : Addr} {xs : List V} {ds : List D} (h : SqT W.K Gs a xs) (r : Reps W Gs ds xs) : ItOk W Gs (IteT W.K a) (enD ds) where
  stop := fun i G H e1 e2 hl => ⟨xs, sameT e2 (sameT e1 h), by rw [← r.length, ← enD_len]; exact hl⟩
  go := fun i d G H e1 e2 hd => by
    obtain ⟨d', hd', rfl⟩ := enD_get hd
    obtain ⟨v, hv, _⟩ := (r.get i).1 d' hd'
    exact ⟨xs, v, sameT e2 (sameT e1 h), hv⟩
  yld := fun i d G H x H' e1 e2 hd y => by
    obtain ⟨d', hd', rfl⟩ := enD_get hd
    obtain ⟨v, hv, q⟩ := (r.get i).1 d' hd'
    obtain ⟨T, x', rfl, hT, rfl, y⟩ := y
    have := y xs (sameT e2 (sameT e1 h))
    rw [hv] at this; cases this
    have hG : G T = none := e2.free hT
    exact .inr ⟨T, _, hT, rfl, .tup upd_same (.cons (.int _) (.cons (q.mono (e1.trans (same_upd0 hG))) .nil))⟩
def itemsE : D → Out (List D)
  | .lst ds => .ok (enD ds)
  | .tup ds => .ok (enD ds)
  | .ktp ds => .ok (enD ds)
  | .kls ds => .ok (enD ds)
  | _ => .st
def sEnum (a : SE) : SI := fun δ => do
  let (d, δ1) ← frz (a δ)
  let ds ← itemsE d
  .ok (ds, δ1)
theorem di_enum {e : Expr} {a : SE} {p tpos : Pos} {elts : List Expr} {kk : Nat} (hK : F.W.K = X.K) (hs : starEach [e] X.env = [(false, eval e X.env)]) (hg : Gl X "enumerate") (hm : X.mg "enumerate" = none) (h : DE F X e a) : DI_ F X (.Tuple elts kk tpos) (.Call (.Name "enumerate" p) [e] [] pos) (sEnum a) := by
  refine ⟨(pi_enumA hg hm h.pe hs).imp fun σ H R ⟨δ, G, S, h⟩ => ⟨δ, G, S, frz_ok ?_⟩⟩
  unfold sEnum at h
  cases e1 : frz (a δ) with
  | st => rw [e1] at h; exact h
  | ex c fs => rw [e1] at h; exact h
  | ok p =>
    obtain ⟨d, δ1⟩ := p
    rw [e1] at h
    simp only [ok_bind] at h
    intro v H1 G1 S1 g1 r1
    rw [← hK]
    cases r1 with
    | lst q t => exact ⟨_, _, rfl, .inl ⟨.inl (.inl (S1.gh _ _ q)), h _ H1 G1 S1 g1 (listE_it (.inl (.inl q)) t)⟩⟩
    | tup q t => exact ⟨_, _, rfl, .inr ⟨.inl (.inl (S1.gh _ _ q)), h _ H1 G1 S1 g1 (tupE_it (.inl (.inl q)) t)⟩⟩
    | kls q t => exact ⟨_, _, rfl, .inl ⟨S1.gh.seq q, h _ H1 G1 S1 g1 (listE_it q t)⟩⟩
    | ktp q t => exact ⟨_, _, rfl, .inr ⟨q _, h _ H1 G1 S1 g1 (tupE_it (q _) t)⟩⟩
    | str l ha => exact h.elim
    | non => exact h.elim
    | bl b => exact h.elim
    | int i => exact h.elim
    | dK _ _ _ => exact h.elim
    | dT _ _ _ => exact h.elim
    | obj _ _ _ _ => exact h.elim
    | adr _ => exact h.elim
    | fnc _ => exact h.elim
end
end L2.DI

namespace L2.DI
open PySem PySem.Spec PyProof.Rows PySem.Calls
/-! DIK: d.update(pairs), the keys tuples -/
section
variable {X : Cx} {o e : Expr} {apos cpos : Pos} {td ty : TE}
def tDUpdT (K : PySem.W.Frag) (td ty : TE) : TE := fun σ H Q => td σ H fun x H1 => ∃ a, x = .ref a ∧ IsD H1 a ∧ ty σ H1 fun y H2 => ∃ (l : Addr) (ps : List Addr) (kvs0 kvs : List (List Key × V)), y = .ref l ∧ H2 a = some (.dT kvs0) ∧ SqL K H2 l (ps.map V.ref) ∧ Paired (PrT H2) ps kvs ∧ kvs0.length + ps.length ≤ sizeLine ∧ Q .non (upd H2 a (.dT (mergeT kvs0 kvs)))
theorem d_updT {pins : List (Addr × Obj)} {σ : St} {H : Hp} {s : Shared} {a l : Addr} {ps : List Addr} {kvs0 kvs : List (List Key × V)} {Q : Value → Shared → Prop} (hu : X.A.units + 1 < cLine) (hcalm : X.calm = true) (I : Inv X pins σ H s) (ea : H a = some (.dT kvs0)) (hq : SqL X.K H l (ps.map V.ref)) (hp : Paired (PrT H) ps kvs) (hz0 : kvs0.length + ps.length ≤ sizeLine)
    (h : ∀ s', Inv X pins σ (upd H a (.dT (mergeT kvs0 kvs))) s' → Q .none s') : wpAny (model X.prog X.w) X.A (call (.builtin "dict.update") [.ref a, .ref l]) Q X.xe s := by
  obtain ⟨its, rv, pl, hz⟩ := I.list hq
  have ei := refs_at rv
  subst ei
  rw [List.length_map] at hz
  obtain ⟨prs, rel, hl, hpr⟩ := pairsT_of I hp
  obtain ⟨ol, n, ho, hc, hd, hdat⟩ := pl
  have hkt := kt_keys (P := X.prog) (w := X.w) I.hok rel
  obtain ⟨z, hsm, xs, rel0, dd⟩ := dt_of I.hok ea
  have hkt0 := kt_keys (P := X.prog) (w := X.w) I.hok rel0
  obtain ⟨od, es, ep, hod, hexd, _⟩ := id dd
  have hal : a ≠ l := by
    rintro rfl
    rw [hod] at ho; cases ho
    rw [hexd.1] at hc; injection hc with hc; exact absurd hc (by decide)
  refine call_update_pairsH (knd := tupleKind (mixKind X.prog X.w)) (acc := xs) (ps := prs) (PairArg.list l (ps.map Value.ref).toArray (fun j => (ps[j]?).getD 0) (prs.map fun x => (Value.ref x.2.1, x.2.2))) (I.ok.hd hcalm) (show X.A.units + 1 < cLine from hu)
    ⟨⟨ol, n, ho, hc, hd, hdat⟩, ⟨by simp [hl], fun j k v e => ?_⟩⟩ ?_ ⟨by simp, fun i key v e => ?_⟩ (fun h' hk x hx => ?_) dd (by have := Paired.length rel0; simp [hl]; omega) fun h' tk hd' k => ?_
  · rw [List.getElem?_map] at e
    obtain ⟨q', e1, e2⟩ := Option.map_eq_some_iff.mp e
    cases e2
    obtain ⟨p, e3, e4⟩ := hpr j q' e1
    refine ⟨by simp [e3], ?_⟩
    show PairAt s.heap ((ps[j]?).getD 0) _ _
    rw [e3]
    exact .inl e4
  · intro hm
    rcases List.mem_cons.mp hm with q | q
    · exact hal q
    · obtain ⟨j, hj, rfl⟩ := List.mem_map.mp q
      rw [List.mem_range, List.length_map] at hj
      obtain ⟨p, e3, o2, h1, h2, _⟩ := hpr j prs[j] (List.getElem?_eq_getElem hj)
      rw [e3] at hod
      rw [show (some p).getD 0 = p from rfl, h1] at hod
      cases hod
      rw [hexd.1] at h2; injection h2 with h2; exact absurd h2 (by decide)
  · have e : (prs.map fun x => (Value.ref x.2.1, x.2.2))[i]? = some (key, v) := e
    rw [List.getElem?_map] at e
    obtain ⟨q', e1, e2⟩ := Option.map_eq_some_iff.mp e
    cases e2
    exact ⟨q'.1, q'.2.1, e1, rfl⟩
  · have hx' : H x.2.1 = some (.tup (x.1.map kV)) := by
      rcases List.mem_append.mp hx with q | q
      · exact hkt0 x q
      · exact hkt x q
    obtain ⟨o', its, m, h1, h2⟩ := key_of (P := X.prog) (w := X.w) I.hok hx'
    refine ⟨o', its, m, hk _ _ (fun e => ?_) (by simp) h1, h2⟩
    rw [e, ea] at hx'; cases hx'
  · have hlen : (mergeT kvs0 kvs).length ≤ sizeLine := by
      refine Nat.le_trans (length_mergeT kvs kvs0) ?_
      rw [Paired.length rel, hl]
      exact hz0
    have k' : ∀ b q, b ≠ a → s.heap.get? b = some q → h'.get? b = some q := fun b q hb e => k b q hb (by simp) e
    obtain ⟨o2, es2, ep2, hq2, h2, h3, h4, _, h5⟩ := hd'
    refine h _ (I.write (x := a) (e := a) (by rw [ea]; exact True.intro) (.inl rfl) (fun b q hb z => k' b q hb z) ⟨o2, hq2⟩ ⟨hlen, hsm, _, (KT.merge rel rel0).keeps fun c ys ec => ?_, o2, es2, ep2, hq2, h2, h3, h4, h5⟩)
    rw [upd_ne (ne_of ec ea (fun z => nomatch z))]
    exact ec
theorem pe_dupdT (hu : X.A.units + 1 < cLine) (hcalm : X.calm = true) (ho : PE X o td) (he : PE X e ty) (m : M1 X o "update" apos e cpos) : PE X (.Call (.Attribute o "update" apos) [e] [] cpos) (tDUpdT X.K td ty) := by
  refine ⟨fun pins s σ H Q I h => ?_⟩
  refine wpAny_Call_method m.base m.few m.line PySem.F.plainAttrs_dict PySem.F.slot_dict_update PySem.F.type_dict_update (thn (ho.run pins s σ H _ I h) fun u s1 ⟨x, H1, I1, rx, a, ex, d, q1⟩ => ?_)
  subst ex
  obtain rfl : u = Value.ref a := rx
  obtain ⟨t1, t2, _⟩ := isD_at I1 d
  refine ⟨t1, t2, ?_⟩
  rw [m.trees]
  refine Calls.callWith_builtin rfl (Calls.evalArgs_plain (Calls.spliced_cons (thn (he.run pins s1 σ H1 _ I1 q1) fun iv s2 ⟨y, H2, I2, ry, l, ps, kvs0, kvs, ey, ea, hq, hp, hz, q2⟩ => Calls.spliced_nil ?_)))
  subst ey
  obtain rfl : iv = Value.ref l := ry
  exact d_updT hu hcalm I2 ea hq hp hz fun s3 I3 => ⟨.non, _, I3, rfl, q2⟩
end
section
variable {F : Fx} {X : Cx} {pos : Pos}
def sUpd (i : Nat) (a : SE) : SE := fun δ => match δ[i]? with
  | some (.ow (.dT _)) => (do
    let (d, δ1) ← frz (a δ)
    (match δ1[i]? with
      | some (.ow (.dT kvs)) => (match d with
        | .lst ds => (match pairsD ds with
          | some m => if kvs.length + m.length ≤ LIM then .ok (.im .non, δ1.set i (.ow (.dT (mgD kvs m)))) else .st
          | none => .st)
        | _ => .st)
      | _ => .st))
  | _ => .st
theorem de_upd {i : Nat} {x : Str} {p apos cpos : Pos} {e : Expr} {a : SE} (hK : F.W.K = X.K) (hu : X.A.units + 1 < cLine) (hcalm : X.calm = true) (ho : PE X (.Name x p) (tVar i)) (ha : DE F X e a) (m : M1 X (.Name x p) "update" apos e cpos) :
    DE F X (.Call (.Attribute (.Name x p) "update" apos) [e] [] cpos) (sUpd i a) := by
  refine ⟨(pe_dupdT hu hcalm ho ha.pe m).imp fun σ H Q ⟨δ, G, S, h⟩ => ?_⟩
  unfold sUpd at h
  cases ei : δ[i]? with
  | none => rw [ei] at h; exact h.elim
  | some sv =>
    rw [ei] at h
    cases sv with
    | no => exact h.elim
    | im d => exact h.elim
    | ow c =>
      cases c <;> (try exact h.elim)
      case dT kvs00 =>
        dsimp only at h
        obtain ⟨l, o, h1, h2, h3, h4, h5⟩ := S.ow i _ ei
        cases h3 with
        | @dT xs00 _ k1 r =>
          refine ⟨.ref l, h1, l, rfl, .inr ⟨_, .inl h2⟩, δ, G, S, frz_ok ?_⟩
          cases e1 : frz (a δ) with
          | st => rw [e1] at h; exact h
          | ex c fs => rw [e1] at h; exact h
          | ok p =>
            obtain ⟨d, δ1⟩ := p
            rw [e1] at h
            simp only [ok_bind] at h
            intro v H1 G1 S1 g1 r1
            split at h
            · rename_i kvs ei1
              obtain ⟨l', o', k1', k2, k3, k4, k5⟩ := S1.ow i _ ei1
              rw [h1] at k1'
              cases k1'
              cases k3 with
              | @dT xs0 _ kk r4 =>
                cases d <;> (try exact h.elim)
                case lst ds =>
                  dsimp only at h
                  cases ep : pairsD ds with
                  | none => rw [ep] at h; exact h.elim
                  | some mm =>
                    rw [ep] at h
                    dsimp only at h
                    by_cases hl : kvs.length + mm.length ≤ LIM
                    · rw [if_pos hl] at h
                      cases r1 with
                      | lst hq rr =>
                        obtain ⟨ps, ms, rfl, i1, i2⟩ := pairs_rep S1.gh rr ep
                        have t0 : TRep F.W G1 kvs xs0 := ⟨kk, r4⟩
                        have t := TRep.merge i2 t0
                        refine ⟨_, ps, xs0, ms, rfl, k2, .inl (.inl (S1.gh _ _ hq)), i1, ?_, h _ _ G1 (S1.write ei1 h1 (.dT t.1 t.2)) g1 .non⟩
                        rw [← t0.length, lim_eq, Paired.length i1, ← i2.length]
                        exact hl
                    · rw [if_neg hl] at h; exact h.elim
            · exact h.elim
end
end L2.DI

namespace L2.DI
open PySem PySem.Spec PyProof.Rows PySem.Calls
/-! DIL: max and min of a list of ints -/
section
variable {F : Fx} {X : Cx} {pos : Pos}
def mxL (b : Int) (bs : List Int) : Int := bs.foldl (fun m x => if m < x then x else m) b
def mnL (b : Int) (bs : List Int) : Int := bs.foldl (fun m x => if x < m then x else m) b
theorem mxL_spec : ∀ (bs : List Int) (b : Int), mxL b bs ∈ b :: bs ∧ ∀ x ∈ b :: bs, x ≤ mxL b bs
  | [], b => by simp [mxL]
  | c :: bs, b => by
    have e : mxL b (c :: bs) = mxL (if b < c then c else b) bs := rfl
    obtain ⟨h1, h2⟩ := mxL_spec bs (if b < c then c else b)
    rw [e]
    have h3 := h2 _ (List.mem_cons_self ..)
    generalize mxL (if b < c then c else b) bs = M at h1 h2 h3 ⊢
    refine ⟨?_, fun x hx => ?_⟩
    · rcases List.mem_cons.1 h1 with q | q
      · rw [q]; split
        · simp
        · simp
      · exact List.mem_cons_of_mem _ (List.mem_cons_of_mem _ q)
    · rcases List.mem_cons.1 hx with rfl | hx
      · split at h3 <;> omega
      · rcases List.mem_cons.1 hx with rfl | hx
        · split at h3 <;> omega
        · exact h2 x (List.mem_cons_of_mem _ hx)
theorem mnL_spec : ∀ (bs : List Int) (b : Int), mnL b bs ∈ b :: bs ∧ ∀ x ∈ b :: bs, mnL b bs ≤ x
  | [], b => by simp [mnL]
  | c :: bs, b => by
    have e : mnL b (c :: bs) = mnL (if c < b then c else b) bs := rfl
    obtain ⟨h1, h2⟩ := mnL_spec bs (if c < b then c else b)
    rw [e]
    have h3 := h2 _ (List.mem_cons_self ..)
    generalize mnL (if c < b then c else b) bs = M at h1 h2 h3 ⊢
    refine ⟨?_, fun x hx => ?_⟩
    · rcases List.mem_cons.1 h1 with q | q
      · rw [q]; split
        · simp
        · simp
      · exact List.mem_cons_of_mem _ (List.mem_cons_of_mem _ q)
    · rcases List.mem_cons.1 hx with rfl | hx
      · split at h3 <;> omega
      · rcases List.mem_cons.1 hx with rfl | hx
        · split at h3 <;> omega
        · exact h2 x (List.mem_cons_of_mem _ hx)
def fMax (d : D) : Out RV := match d with
  | .lst ds => (match intsD ds with
    | some (b :: bs) => .ok (.im (.int (mxL b bs)))
    | _ => .st)
  | _ => .st
def fMin (d : D) : Out RV := match d with
  | .lst ds => (match intsD ds with
    | some (b :: bs) => .ok (.im (.int (mnL b bs)))
    | _ => .st)
  | _ => .st
theorem o_max : CallOk F (rMax X.K) (f1 fMax) := by
  refine call1 fun δ σ H G d v Q S q h => ?_
  cases d <;> (try exact False.elim h)
  case lst ds =>
    unfold fMax at h
    dsimp only at h
    split at h
    · rename_i b bs e
      obtain ⟨a, xs, rfl, h1, r⟩ := q.lst S.gh
      obtain rfl := intsD_ok r e
      obtain ⟨s1, s2⟩ := mxL_spec bs b
      refine ⟨_, b :: bs, rfl, .inl (.inl h1), by simp, fun m h2 h3 => ?_⟩
      obtain rfl : m = mxL b bs := by
        have a1 := h3 _ s1
        have a2 := s2 _ h2
        omega
      exact SatV.im h S (.int _)
    · exact h.elim
theorem o_min : CallOk F (rMin X.K) (f1 fMin) := by
  refine call1 fun δ σ H G d v Q S q h => ?_
  cases d <;> (try exact False.elim h)
  case lst ds =>
    unfold fMin at h
    dsimp only at h
    split at h
    · rename_i b bs e
      obtain ⟨a, xs, rfl, h1, r⟩ := q.lst S.gh
      obtain rfl := intsD_ok r e
      obtain ⟨s1, s2⟩ := mnL_spec bs b
      refine ⟨_, b :: bs, rfl, .inl (.inl h1), by simp, fun m h2 h3 => ?_⟩
      obtain rfl : m = mnL b bs := by
        have a1 := h3 _ s1
        have a2 := s2 _ h2
        omega
      exact SatV.im h S (.int _)
    · exact h.elim
end
end L2.DI

namespace L2.DI
open PySem PySem.Spec PyProof.Rows PySem.Calls
/-! DIM: sorted(text) -/
def signEnc (c : Nat) : PyData := toPy (D.str [c])
def signLe (a b : Nat) : Bool := leD (.str [a]) (.str [b])
theorem each_signs {l : List Nat} : ∀ {acc : List Value}, acc.length = l.length → (∀ (i : Nat) (v : Value), acc[i]? = some v → ∃ (c : Nat) (u : Tok), l[i]? = some c ∧ v = Value.str ⟨#[c]⟩ u) → PySem.W.EachIs (fun (v : Value) (c : Nat) => ∃ u, v = Value.str ⟨#[c]⟩ u) acc l := by
  induction l with
  | nil =>
    intro acc h _
    cases acc with
    | nil => exact .nil
    | cons a acc => simp at h
  | cons c l ih =>
    intro acc h f
    cases acc with
    | nil => simp at h
    | cons a acc =>
      obtain ⟨c', u, hc, rfl⟩ := f 0 a (by simp)
      have : c = c' := by simpa using hc
      subst this
      exact .cons ⟨u, rfl⟩ (ih (by simpa using h) fun i v hv => by simpa using f (i + 1) v (by simpa using hv))
theorem signs_vals {l : List Nat} {out : List Value} (h : PySem.W.EachIs (fun (v : Value) (c : Nat) => ∃ u, v = Value.str ⟨#[c]⟩ u) out l) : Vals (l.map fun c => V.str ⟨#[c]⟩) out := by
  induction h with
  | nil => exact .nil
  | cons h _ ih => obtain ⟨u, rfl⟩ := h; exact .cons ⟨u, rfl⟩ ih
section
variable {X : Cx}
def rSortS : List V → Hp → VK → Prop := fun xs H Q => ∃ l : List Nat, xs = [V.str (mk l)] ∧ l.length ≤ sizeLine ∧ ∀ p, H p = none → Q (.ref p) (upd H p (.lst ((l.mergeSort (PySem.W.dataLe false signEnc)).map fun c => V.str ⟨#[c]⟩)))
theorem cr_sortS (hu : X.A.units + 64 < cLine) (hc : X.calm = true) : CallR X (.builtin "sorted") rSortS := by
  intro pins s σ H xs us Q I r h
  obtain ⟨l, e, hz, q⟩ := h
  subst e
  obtain ⟨u, rfl, rx⟩ := r.one
  obtain ⟨t, rfl⟩ := rx
  refine Calls.call_function_entry kind_sorted plain_sorted entry_sorted (args_sorted1 _) ?_
  unfold Builtin.«sorted»
  refine wpAny_bind (m := checkCount "sorted" 1 1 _) (wpAny_pure ?_)
  refine wpAny_bind (?_ : wpAny _ _ (collect (Value.str (mk l) t)) _ _ _)
  refine wpAny_collect_str (show X.A.in1.handled = none from I.ok.hd hc) (mk l) t (fun s' acc hk hg hd ho it => ?_) (by simpa [mk] using hz)
  obtain ⟨hp', g', d', tk', os'⟩ := s'
  dsimp only at hk hg hd ho
  subst hg hd ho
  have hal : acc.toList.length = l.length := by
    have := it.1
    simpa [mk] using this
  have ea : PySem.W.EachIs (fun (v : Value) (c : Nat) => ∃ u, v = Value.str ⟨#[c]⟩ u) acc.toList l := each_signs hal fun i v hv => by
    obtain ⟨c, u, h1, h2⟩ := it.2 i v (by rw [← Array.getElem?_toList]; exact hv)
    exact ⟨c, u, by simpa [mk] using h1, h2⟩
  refine wpAny_bind (wpAny_newList ?_ (by rw [hal]; exact hz))
  refine wpAny_bind (wpAny_holding (PySem.W.list_sort_data (bs := l) (enc := signEnc) (R := fun (v : Value) (c : Nat) => ∃ u, v = Value.str ⟨#[c]⟩ u) (n := 0) (a := hp'.objs.size) (vs := acc.toList) ?_ ea ?_ ?_ ?_ hz ?_ fun out h1 h2 => ?_))
  · exact Heap.get?_push_size _ rfl
  · refine ea.mono fun v c ⟨u, e⟩ => ?_
    subst e
    exact ⟨[], .str _ _, by simp⟩
  · intro d hd d' hd'
    obtain ⟨x, _, rfl⟩ := List.mem_map.1 hd
    obtain ⟨y, _, rfl⟩ := List.mem_map.1 hd'
    rfl
  · exact .inr fun d hd => by
      obtain ⟨x, _, rfl⟩ := List.mem_map.1 hd
      exact ⟨(fun e => by cases e), (fun xs e => by cases e)⟩
  · intro b hb
    show X.A.units + 1 + 1 + (signEnc b).depth < cLine
    have : (signEnc b).depth ≤ 1 := by
      show (toPy (D.str [b])).depth ≤ 1
      rw [dep_toPy]; simp [dep]
    omega
  · have hlen : ((l.mergeSort (PySem.W.dataLe false signEnc)).map fun c => V.str ⟨#[c]⟩).length ≤ sizeLine := by
      rw [List.length_map, List.length_mergeSort]; exact hz
    obtain ⟨ep, he'⟩ := PyProof.Rows.sortedHeap_at (vs := acc.toList) (out := out.toArray) (h := hp'.push (seqObj "list" acc.toList.toArray 0)) (a := hp'.objs.size) (n := 0) (Heap.get?_push_size _ rfl)
    have I' : Inv X pins σ H { s with heap := hp', toks := tk' } := I.kept (t' := tk') hk
    exact wpAny_pure ⟨_, rfl, ⟨.ref hp'.objs.size, upd H hp'.objs.size (.lst _), I'.laid (t' := tk') (fun b o e => (PyProof.Rows.sortedHeap_old (Nat.ne_of_lt (Heap.lt_size e)) (by have := Heap.lt_size e; show b < (hp'.push (seqObj "list" acc.toList.toArray 0)).objs.size; rw [Heap.size_push]; exact Nat.lt_succ_of_lt this)).trans (Heap.get?_push_of_some _ e)) (Nat.le_refl _) ⟨hlen, out, ep, signs_vals h2, he'⟩, rfl, q _ (I'.hok.fresh (Nat.le_refl _))⟩⟩
def fSortedA : D → Out RV
  | .str l => if l.length ≤ LIM then .ok (.fr (.lst ((l.map fun c => D.str [c]).mergeSort leD))) else .st
  | d => fSorted d
theorem cr_sortedA (hu : X.A.units + 64 < cLine) (hc : X.calm = true) : CallR X (.builtin "sorted") (fun xs H Q => rSortS xs H Q ∨ rSortD X.K xs H Q) := CallR.or (cr_sortS hu hc) (cr_sorted hu)
theorem o_sortedA {F : Fx} (hK : F.W.K = X.K) : CallOk F (fun xs H Q => rSortS xs H Q ∨ rSortD X.K xs H Q) (f1 fSortedA) := by
  refine call1 fun δ σ H G d v Q S q h => ?_
  cases d
  case str l =>
    unfold fSortedA at h
    dsimp only at h
    by_cases hl : l.length ≤ LIM
    · rw [if_pos hl] at h
      obtain ⟨rfl, ha⟩ := q.str
      refine .inl ⟨l, rfl, by rw [lim_eq]; exact hl, fun p hp => h.fr S hp (.lst ?_)⟩
      have e : (l.map fun c => D.str [c]).mergeSort leD = (l.mergeSort (PySem.W.dataLe false signEnc)).map fun c => D.str [c] := (List.map_mergeSort (f := fun c => D.str [c]) (r := PySem.W.dataLe false signEnc) (s := leD) (l := l) fun x _ y _ => rfl).symm
      rw [e]
      have : ∀ m : List Nat, asc m = true → Reps F.W G (m.map fun c => D.str [c]) (m.map fun c => V.str ⟨#[c]⟩) := by
        intro m
        induction m with
        | nil => intro _; exact .nil
        | cons c m ih =>
          intro hm
          exact .cons (.str [c] (asc_of hm List.mem_cons_self)) (ih (List.all_eq_true.mpr fun x hx => List.all_eq_true.mp hm x (List.mem_cons_of_mem _ hx)))
      refine this _ (List.all_eq_true.mpr fun x hx => List.all_eq_true.mp ha x ((List.mergeSort_perm _ _).mem_iff.1 hx))
    · rw [if_neg hl] at h; exact h.elim
  all_goals exact .inr (by
    have := o_sorted (F := F) hK δ σ H G [_] [v] Q S (.cons q .nil) h
    exact this)
end
end L2.DI

namespace L2.DI
open PySem PySem.Spec PyProof.Rows PySem.Calls
/-! DIN: the sum of a tuple of ints; how many unlike ints a tuple has -/
section
variable {F : Fx} {X : Cx} {pos : Pos}
def rSumT (K : PySem.W.Frag) : List V → Hp → VK → Prop := fun vs H Q => ∃ (a : Addr) (ns : List Int), vs = [V.ref a] ∧ SqT K H a (ns.map V.int) ∧ Q (.int ns.sum) H
theorem cr_sumT (hc : X.calm = true) : CallR X (.builtin "sum") (rSumT X.K) := by
  intro pins s σ H vs us Q I r h
  obtain ⟨a, ns, rfl, hs, q⟩ := h
  obtain ⟨its, rv, hl, _⟩ := I.tuple hs
  rw [Vals.ref1 r]
  have hi := rv.ints
  obtain ⟨xs, e⟩ := hi.allInts.items
  have hn : numsOf (intItems xs).toList = ns := by rw [← e]; exact hi.numsOf
  rw [nums_intItems] at hn
  have hl : s.heap.IsTuple a its.toArray := hl
  rw [e] at hl
  refine PySem.W.ktm_sumG (I.ok.hd hc) hl fun h' tk t' hk => ?_
  rw [preSum_eq, List.take_of_length_le (by simp), hn]
  exact ⟨.int _, H, I.kept hk, ⟨_, rfl⟩, q⟩
def fSumA : D → Out RV
  | .tup ds => (match intsD ds with
    | some bs => .ok (.im (.int bs.sum))
    | none => .st)
  | d => fSum d
theorem cr_sumA (hc : X.calm = true) : CallR X (.builtin "sum") (fun xs H Q => rSumT X.K xs H Q ∨ rSum X.K xs H Q) := CallR.or (cr_sumT hc) (cr_sum hc)
theorem o_sumA : CallOk F (fun xs H Q => rSumT X.K xs H Q ∨ rSum X.K xs H Q) (f1 fSumA) := by
  refine call1 fun δ σ H G d v Q S q h => ?_
  cases d
  case tup ds =>
    unfold fSumA at h
    dsimp only at h
    cases e : intsD ds with
    | none => rw [e] at h; exact False.elim h
    | some bs =>
      rw [e] at h
      obtain ⟨a, xs, rfl, h1, r⟩ := q.tup S.gh
      obtain rfl := intsD_ok r e
      exact .inl ⟨_, bs, rfl, .inl (.inl (S.gh _ _ h1)), SatV.im h S (.int _)⟩
  all_goals exact .inr (o_sum (F := F) (X := X) δ σ H G [_] [v] Q S (.cons q .nil) h)
end
end L2.DI

namespace L2.DI
open PySem PySem.Spec PyProof.Rows PySem.Calls
/-! DIO: how many unlike ints a tuple has: len(set(t)) -/
/-- one of each -/
def oneEach : List Int → List Int
  | [] => []
  | n :: ns => if n ∈ oneEach ns then oneEach ns else n :: oneEach ns
theorem oneEach_ok : ∀ ns : List Int, (oneEach ns).Nodup ∧ ∀ k, k ∈ oneEach ns ↔ k ∈ ns
  | [] => ⟨List.nodup_nil, fun _ => Iff.rfl⟩
  | n :: ns => by
    obtain ⟨h1, h2⟩ := oneEach_ok ns
    unfold oneEach
    by_cases h : n ∈ oneEach ns
    · rw [if_pos h]
      refine ⟨h1, fun k => ?_⟩
      rw [h2, List.mem_cons]
      exact ⟨.inr, fun q => q.elim (fun e => e ▸ (h2 n).1 h) id⟩
    · rw [if_neg h]
      exact ⟨List.nodup_cons.2 ⟨h, h1⟩, fun k => by rw [List.mem_cons, List.mem_cons, h2]⟩
section
variable {F : Fx} {X : Cx} {pos : Pos}
theorem setO_ok {P : Program} {w : World} {H : Hp} {h : Heap} {a : Addr} {S : Int → Bool} {n : Nat} (r : SetR w h a S n) : ObjOk P w H h a (SetO w a S n) := by
  unfold SetO
  rw [ObjOk.eq_13]
  refine ⟨r, ?_, fun h1 h2 q k => q.at k⟩
  obtain ⟨o, _, _, _, e, _⟩ := r
  exact ⟨o, e⟩
def rSetT (X : Cx) : List V → Hp → VK → Prop := fun vs H Q => ∃ (a : Addr) (ns : List Int), vs = [V.ref a] ∧ SqT X.K H a (ns.map V.int) ∧ ns.length + 1 < scanBound ∧ ∀ p, H p = none → Q (.ref p) (upd H p (SetO X.w p (fun j => decide (j ∈ ns)) (oneEach ns).length))
theorem cr_setT (hc : X.calm = true) : CallR X (.type "set") (rSetT X) := by
  intro pins s σ H vs us Q I r h
  obtain ⟨a, ns, rfl, hs, hb, q⟩ := h
  obtain ⟨its, rv, hl, _⟩ := I.tuple hs
  rw [Vals.ref1 r]
  refine call_set_tupI ns (I.ok.hd hc) hl rv.ints hb fun h' tk c hR _ keep => ?_
  have hn : c = (oneEach ns).length := by
    obtain ⟨o, es, ep, t, _, _, _, _, nd, mem, _, _, sz, _⟩ := hR
    obtain ⟨h1, h2⟩ := oneEach_ok ns
    have hp : (es.toList.map L2.keyOf).Perm (oneEach ns) := (List.perm_ext_iff_of_nodup nd h1).2 fun k => by
      rw [← mem k, h2, decide_eq_true_eq]
    rw [← sz, ← hp.length_eq, List.length_map, Array.length_toList]
  subst hn
  exact ⟨.ref _, _, I.laid (o := SetO X.w s.heap.objs.size (fun j => decide (j ∈ ns)) (oneEach ns).length) keep (Nat.le_refl _) (setO_ok hR), rfl, q _ (I.hok.fresh (Nat.le_refl _))⟩
def rLenS (X : Cx) : List V → Hp → VK → Prop := fun vs H Q => ∃ (a : Addr) (S : Int → Bool) (n : Nat), vs = [V.ref a] ∧ H a = some (SetO X.w a S n) ∧ Q (.int n) H
theorem cr_lenS : CallR X (.builtin "len") (rLenS X) := by
  intro pins s σ H vs us Q I r h
  obtain ⟨a, S, n, rfl, ha, q⟩ := h
  rw [Vals.ref1 r]
  obtain ⟨o, es, ep, t, h1, h2, h3, _, _, _, h7, h8, h9, _⟩ := show SetR X.w s.heap a S n from by have := I.hok a _ ha; unfold SetO at this; rw [ObjOk.eq_13] at this; exact this.1
  refine call_len_set h1 h2 h3 h8 ?_ ?_
  · have : scanBound < 2 ^ 63 := by decide
    omega
  · rw [h9]
    exact ⟨.int _, H, I.tok _, ⟨_, rfl⟩, q⟩
def fLenSet : D → Out RV
  | .tup ds => (match intsD ds with
    | some ns => if ns.length < 1000 then .ok (.im (.int (oneEach ns).length)) else .st
    | none => .st)
  | _ => .st
def sLenSet (a : SE) : SE := fun δ => do
  let (r, δ1) ← opd (a δ)
  let d ← look δ1 r
  let x ← fLenSet d
  .ok (x, δ1)
theorem de_lenset {e : Expr} {a : SE} {p p2 q : Pos} (hK : F.W.K = X.K) (hc : X.calm = true) (hg : Gl X "len") (hm : X.mg "len" = none) (hg2 : Gl X "set") (hm2 : X.mg "set" = none) (ha : DE F X e a) (he : starEach [e] X.env = (false, eval e X.env) :: starEach [] X.env := by rfl) :
    DE F X (.Call (.Name "len" p) [.Call (.Name "set" p2) [e] [] q] [] pos) (sLenSet a) := by
  refine ⟨(pe_callB cr_lenS hg hm (by rfl) (pa_cons (pe_callTy (cr_setT hc) hg2 hm2 (by rfl) (pa_cons ha.pe pa_nil he) (by decide) (by decide) he (by rfl)) pa_nil (by rfl)) (by decide) (by decide) (by rfl) (by rfl)).imp fun σ H Q ⟨δ, G, S, h⟩ => ⟨δ, G, S, opd_ok (R := fun _ _ _ _ _ => True) ?_⟩⟩
  unfold sLenSet at h
  cases e1 : opd (a δ) with
  | st => rw [e1] at h; exact h
  | ex c fs => rw [e1] at h; exact h
  | ok z =>
    obtain ⟨r, δ1⟩ := z
    rw [e1] at h
    intro v H1 G1 S1 g1 q1
    simp only [ok_bind] at h
    rcases look_case (δ := δ1) (r := r) with ⟨d, ed⟩ | ed
    · rw [ed] at h
      simp only [ok_bind] at h
      have w := look_ok S1 q1 ed
      cases d <;> (try exact False.elim h)
      case tup ds =>
        unfold fLenSet at h
        dsimp only at h
        cases ei : intsD ds with
        | none => rw [ei] at h; exact False.elim h
        | some ns =>
          rw [ei] at h
          dsimp only at h
          by_cases hl : ns.length < 1000
          · rw [if_pos hl] at h
            obtain ⟨b, xs, rfl, h1, rr⟩ := w.tup S1.gh
            obtain rfl := intsD_ok rr ei
            refine ⟨b, ns, rfl, .inl (.inl (S1.gh _ _ h1)), ?_, fun p hp => ⟨p, _, _, rfl, upd_same, ?_⟩⟩
            · have : 1001 < scanBound := by decide
              omega
            · exact h _ _ _ (S1.made hp _) g1 (.int _)
          · rw [if_neg hl] at h; exact False.elim h
    · rw [ed] at h; exact False.elim h
end
end L2.DI

namespace L2.DI
open PySem PySem.Spec PyProof.Rows PySem.Calls
/-! DIP: a tuple once: t * 1 -/
theorem wp_load {M : Model} {A : Around} {E : Value → Shared → Prop} {α : Type} {k : Obj → Sem α} {Q : α → Shared → Prop} {h : Heap} {g : Array GenState} {d : Drawn} {t : Nat} {os : OsState} {a : Addr} {o : Obj} (ho : h.get? a = some o) (hk : wpAny M A (k o) Q E { heap := h, gens := g, drawn := d, toks := t, os := os }) :
    wpAny M A (Sem.load a none k) Q E { heap := h, gens := g, drawn := d, toks := t, os := os } := wpAny_bind (m := PySem.load a) (f := k) (wpAny_load' ho hk)
theorem wp_rule {M : Model} {A : Around} {E : Value → Shared → Prop} {α : Type} {k : Unit → Sem α} {Q : α → Shared → Prop} {s : Shared} {tag : String} (hk : wpAny M A (k ()) Q E s) : wpAny M A (Sem.rule tag k) Q E s := wpAny_bind (m := PySem.rule tag) (f := k) (wpAny_rule hk)
theorem tuple_mul1 (l : Addr) (items : Array Value) (n : Nat) (dd : Option Addr) (sl : Array (Option Value)) (u : Tok) :
    Meets (Builtin.«tuple.__mul__» { pos := [Value.ref l, Value.int 1 u] }) fun _ R s => s.heap.get? l = some { cls := Value.type "tuple", dict := dd, data := Data.seq items n, slots := sl } ∧ R (Except.ok (Flow.ret (Value.ref l))) s := by
  refine Meets.of_wp fun prog w A R s h => ?_
  obtain ⟨hp, g, d, tk, os⟩ := s
  obtain ⟨hl, h⟩ := h
  have f1 := AutoSeq1.idx_int
  obtain ⟨_ | ⟨z, its⟩⟩ := items
  all_goals
    conv => enter [3]; whnf
    refine wp_load hl ?_
    conv => enter [3]; whnf
    refine wp_load hl ?_
    conv => enter [3]; whnf
    refine wp_rule ?_
    exact wpAny_pure ⟨_, rfl, h⟩
def rOnceT (K : PySem.W.Frag) : R2 := fun x y H Q => ∃ (l : Addr) (xs : List V), x = .ref l ∧ y = .int 1 ∧ SqT K H l xs ∧ Q (.ref l) H
theorem op_onceT {X : Cx} : OpR X (binaryOp .Mult) (rOnceT X.K) := by
  intro pins s σ H x y v u Q I rx ry h
  obtain ⟨l, xs, rfl, rfl, hT, q⟩ := h
  obtain rfl : v = Value.ref l := rx
  obtain ⟨t, rfl⟩ := ry
  obtain ⟨its, rv, ⟨⟨cls, dd, data, sl⟩, ho, hc, n, hd⟩, _⟩ := I.tuple hT
  dsimp only at hc hd
  subst hc hd
  have ht : s.TypeIs (Value.ref l) "tuple" := ⟨_, ho, rfl⟩
  exact wpAny_binaryOp_repeat_ref (by decide) ht (fun s' => typeIs_int s' 1 t) noFill_tuple_mul F.fills_int_mul F.slot_int_rmul repeat_tuple (Slot.lookup F.slot_int_index)
    (call_meets F.slot_int_rmul (typeIs_int s 1 t) F.entry_int_rmul (F.args_int_rmul_2 (Value.int 1 t) (Value.ref l)) (int_rmul_tuple 1 t l its.toArray n dd sl)
      ⟨ho, rfl, ht, call_meets F.slot_tuple_mul ht F.entry_tuple_mul (F.args_tuple_mul_2 (Value.ref l) (Value.int 1 t)) (tuple_mul1 l its.toArray n dd sl t) ⟨ho, .ref l, H, I, rfl, q⟩⟩)
section
variable {F : Fx} {X : Cx}
noncomputable def fMulT : D → D → Out RV
  | .tup a, .int 1 => .ok (.im (.tup a))
  | a, b => fMul a b
theorem r_mulT : OpR X (binaryOp .Mult) (fun x y H Q => rOnceT X.K x y H Q ∨ ((rI CMul fun i j => V.int (i * j)) x y H Q ∨ rRep x y H Q ∨ rRepT X.K x y H Q)) := OpR.or op_onceT r_mul
theorem o_mulT (hK : F.W.K = X.K) : Op2 X F (fun x y H Q => rOnceT X.K x y H Q ∨ ((rI CMul fun i j => V.int (i * j)) x y H Q ∨ rRep x y H Q ∨ rRepT X.K x y H Q)) fMulT := by
  intro δ σ H G d1 d2 x y Q S h1 h2 h
  by_cases hc : (∃ a, d1 = .tup a) ∧ d2 = .int 1
  · obtain ⟨⟨a, rfl⟩, rfl⟩ := hc
    have h : SatV F (.ok (.im (.tup a))) δ σ G Q := h
    obtain ⟨b, xs, rfl, q1, r1⟩ := h1.tup S.gh
    obtain rfl := h2.int
    exact .inl ⟨b, xs, rfl, rfl, .inl (.inl (S.gh _ _ q1)), h.im S (.tup q1 r1)⟩
  · have e : fMulT d1 d2 = fMul d1 d2 := by
      unfold fMulT
      split
      · exact absurd ⟨⟨_, rfl⟩, rfl⟩ hc
      · rfl
    rw [e] at h
    exact .inr (o_mul hK δ σ H G d1 d2 x y Q S h1 h2 h)
end
end L2.DI

namespace L2.DI
open PySem PySem.Spec PyProof.Rows PySem.Calls
/-! DIS: list.index of a list of ints -/
section
variable {F : Fx} {X : Cx} {apos cpos : Pos}
/-- o.m(e), o a list -/
def sMtL (f : D → D → Out RV) (a b : SE) : SE := fun δ => do
  let (ra, δ1) ← opd (a δ)
  let d0 ← look δ1 ra
  (match d0 with
    | .lst _ => (do
      let (rb, δ2) ← opd (b δ1)
      let da ← look δ2 ra
      let db ← look δ2 rb
      let r ← f da db
      .ok (r, δ2))
    | _ => .st)
theorem mtL_imp {r : V → List V → Hp → VK → Prop} {f : D → D → Out RV} (ho : Op2 X F (fun x y H Q => r x [y] H Q) f) (a b : SE) (σ : St) (H : Hp) (Q : VK) : tE F (sMtL f a b) σ H Q → tBM X.K "list" r (tE F a) (tCons (tE F b) tNil) σ H Q := by
  rintro ⟨δ, G, S, h⟩
  refine ⟨δ, G, S, opd_ok (R := fun _ _ _ _ _ => True) ?_⟩
  unfold sMtL at h
  cases e1 : opd (a δ) with
  | st => rw [e1] at h; exact h
  | ex c fs => rw [e1] at h; exact h
  | ok p =>
    obtain ⟨ra, δ1⟩ := p
    rw [e1] at h
    intro x H1 G1 S1 g1 q1
    simp only [ok_bind] at h
    rcases look_case (δ := δ1) (r := ra) with ⟨d0, e0⟩ | e0
    · rw [e0] at h
      simp only [ok_bind] at h
      have w0 := look_ok S1 q1 e0
      cases d0 <;> (try exact False.elim h)
      case lst ds =>
        obtain ⟨p, xs, rfl, hp, _⟩ := w0.lst S1.gh
        refine ⟨.inl ⟨rfl, xs, .inl (.inl hp)⟩, δ1, G1, S1, opd_ok (R := fun _ _ _ _ _ => True) ?_⟩
        cases e2 : opd (b δ1) with
        | st => rw [e2] at h; exact h
        | ex c fs => rw [e2] at h; exact h
        | ok q =>
          obtain ⟨rb, δ2⟩ := q
          rw [e2] at h
          intro y H2 G2 S2 g2 q2
          simp only [ok_bind] at h
          rcases look_case (δ := δ2) (r := ra) with ⟨da, ea⟩ | ea
          · rcases look_case (δ := δ2) (r := rb) with ⟨db, eb⟩ | eb
            · rw [ea, eb] at h
              simp only [ok_bind] at h
              refine ho δ2 σ H2 G2 da db _ y Q S2 (look_ok S2 (q1.mono g2) ea) (look_ok S2 q2 eb) ?_
              unfold SatV
              cases ef : f da db with
              | st => rw [ef] at h; exact h
              | ex c fs => rw [ef] at h; exact h
              | ok r =>
                rw [ef] at h
                exact fun v H' G' S' g' r' => h v H' G' S' ((g1.trans g2).trans g') r'
            · rw [ea, eb] at h; exact h.elim
          · rw [ea] at h; exact h.elim
    · rw [e0] at h; exact False.elim h
def fIndex : D → D → Out RV
  | .lst ds, .int i => (match intsD ds with
    | some ns => (match ns.findIdx? (· == i) with
      | some j => .ok (.im (.int (j : Nat)))
      | none => .st)
    | none => .st)
  | _, _ => .st
theorem o_index (hK : F.W.K = X.K) : Op2 X F (fun x y H Q => rIndex X.K x [y] H Q) fIndex := by
  intro δ σ H G d1 d2 x y Q S h1 h2 h
  unfold fIndex at h
  cases d1 <;> (try exact False.elim h)
  case lst ds =>
    cases d2 <;> (try exact False.elim h)
    case int i =>
      dsimp only at h
      cases ei : intsD ds with
      | none => rw [ei] at h; exact False.elim h
      | some ns =>
        rw [ei] at h
        dsimp only at h
        cases ej : ns.findIdx? (· == i) with
        | none => rw [ej] at h; exact False.elim h
        | some j =>
          rw [ej] at h
          obtain ⟨a, xs, rfl, q1, r1⟩ := h1.lst S.gh
          obtain rfl := h2.int
          obtain rfl := intsD_ok r1 ei
          obtain ⟨hj, hz, hno⟩ := List.findIdx?_eq_some_iff_getElem.1 ej
          refine ⟨a, ns.map V.int, .int i, j, .int ns[j], rfl, rfl, .inl (.inl q1), rfl, by simp [flatV], by simp [hj], by simpa [eqV] using hz, fun m z' hm hz' => ?_, h.im S (.int _)⟩
          rw [List.getElem?_map] at hz'
          obtain ⟨k, hk, rfl⟩ := Option.map_eq_some_iff.1 hz'
          obtain ⟨hm', hk⟩ := List.getElem?_eq_some_iff.1 hk
          subst hk
          have := hno m hm
          simpa [eqV] using this
theorem de_index {o e : Expr} {a b : SE} (hK : F.W.K = X.K) (ha : DE F X o a) (hb : DE F X e b)
    (hbase : attributeBase o "index" X.env (eval o X.env) = eval o X.env := by rfl)
    (hfew : ((backTo cpos (starEach [e] X.env)).all (fun x => !x.1) && (backToKw cpos (keywordEach [] X.env)).all (fun x => x.1.isSome)
      && decide ([e].length + ([] : List Keyword).length + (if ([] : List Keyword).isEmpty then 0 else 1) < 30)) = true := by rfl)
    (hline : (apos.endLine == cpos.line) = true := by rfl) (hs : starEach [e] X.env = (false, eval e X.env) :: starEach [] X.env := by rfl) (hplain : (backTo cpos (starEach [] X.env)).any (·.1) = false := by rfl) :
    DE F X (.Call (.Attribute o "index" apos) [e] [] cpos) (sMtL fIndex a b) :=
  ⟨(pe_bm (PySem.F.plainAttrs_list) (PySem.F.slot_list_index) (PySem.F.type_list_index) mt_index ha.pe (pa_cons hb.pe pa_nil hs) hbase hfew hline hs hplain).imp fun σ H Q h => mtL_imp (X := X) (o_index hK) a b σ H Q h⟩
noncomputable def smallR (i : Int) : Bool := @decide (0 ≤ i ∧ i ≤ 1000) (Classical.propDecidable _)
theorem smallR_of {i : Int} (h : smallR i = true) : 0 ≤ i ∧ i ≤ 1000 := @of_decide_eq_true _ (Classical.propDecidable _) h
theorem smallR_mk {i : Int} (h : 0 ≤ i) (h2 : i ≤ 1000) : smallR i = true := @decide_eq_true _ (Classical.propDecidable _) ⟨h, h2⟩
noncomputable def sLstRg (a : SE) : SE := fun δ => do
  let (r, δ1) ← opd (a δ)
  (match r with
    | .im (.int j) => if smallR j = true then .ok (.fr (.lst ((List.range j.toNat).map fun k : Nat => D.int k)), δ1) else .st
    | _ => .st)
theorem rg_reps (W : CT) (G : Hp) (n : Nat) : Reps W G ((List.range n).map fun k : Nat => D.int k) ((List.range n).map fun i => V.int (0 + (i : Nat))) := by
  induction List.range n with
  | nil => exact .nil
  | cons k l ih => 
    refine .cons ?_ ih
    show Rep W G (.int k) (.int (0 + (k : Int)))
    rw [Int.zero_add]
    exact .int _
theorem de_listRg1 {e : Expr} {a : SE} {p p2 q pos : Pos} (hc : X.calm = true) (hg : Gl X "list") (hm : X.mg "list" = none) (hg2 : Gl X "range") (hm2 : X.mg "range" = none) (ha : DE F X e a)
    (na : starEach [e] X.env = (false, eval e X.env) :: starEach [] X.env := by rfl) (nb : starEach [Expr.Call (.Name "range" p2) [e] [] q] X.env = (false, eval (Expr.Call (.Name "range" p2) [e] [] q) X.env) :: starEach [] X.env := by rfl) :
    DE F X (.Call (.Name "list" p) [.Call (.Name "range" p2) [e] [] q] [] pos) (sLstRg a) := by
  refine ⟨(pe_listRg hc hg hm (prg_1 hg2 hm2 ha.pe na) nb).imp fun σ H Q ⟨δ, G, S, h⟩ => ⟨δ, G, S, opd_ok (R := fun _ _ _ _ _ => True) ?_⟩⟩
  unfold sLstRg at h
  cases e1 : opd (a δ) with
  | st => rw [e1] at h; exact h
  | ex c fs => rw [e1] at h; exact h
  | ok z =>
    obtain ⟨r, δ1⟩ := z
    rw [e1] at h
    intro v H1 G1 S1 g1 q1
    simp only [ok_bind] at h
    split at h
    · rename_i j
      by_cases hj : smallR j = true
      · rw [if_pos hj] at h
        obtain ⟨j1, j2⟩ := smallR_of hj
        have hv : Rep F.W G1 (.int j) v := q1
        cases hv
        refine ⟨j, rfl, RgOk.of_le (by omega) (by omega) (by omega) (by omega), fun q hq => ?_⟩
        have hr := rg_reps F.W G1 j.toNat
        rw [show j.toNat = (j - 0).toNat by omega] at hr h
        exact SatV.fr (c := .lst ((List.range (j - 0).toNat).map fun k : Nat => D.int k)) (fun v H' G' S' g' r' => h v H' G' S' (g1.trans g') r') S1 hq (.lst hr)
      · rw [if_neg hj] at h; exact False.elim h
    · exact False.elim h
end
end L2.DI

namespace L2.DI
open PySem PySem.Spec PyProof.Rows PySem.Calls
/-! DIT: min of a list of alike data -/
mutual
theorem toPy_inj : ∀ {a b : D}, plain a = true → plain b = true → toPy a = toPy b → a = b
  | .non, b, _, hb, h => by cases b <;> (first | rfl | (simp [toPy] at h; done) | (simp [plain] at hb; done))
  | .bl x, b, _, hb, h => by cases b <;> (first | (simp [plain] at hb; done) | (simp [toPy] at h; done) | (simp [toPy] at h; rw [h]))
  | .int x, b, _, hb, h => by cases b <;> (first | (simp [plain] at hb; done) | (simp [toPy] at h; done) | (simp [toPy] at h; rw [h]))
  | .str x, b, _, hb, h => by cases b <;> (first | (simp [plain] at hb; done) | (simp [toPy] at h; done) | (simp [toPy] at h; rw [mk_inj h]))
  | .tup ds, b, ha, hb, h => by
    cases b <;> (first | (simp [plain] at hb; done) | (simp [toPy] at h; done) | skip)
    case tup es =>
      simp only [toPy, PyData.tuple.injEq] at h
      rw [toPys_inj (by simpa [plain] using ha) (by simpa [plain] using hb) h]
  | .lst ds, b, ha, hb, h => by
    cases b <;> (first | (simp [plain] at hb; done) | (simp [toPy] at h; done) | skip)
    case lst es =>
      simp only [toPy, PyData.list.injEq] at h
      rw [toPys_inj (by simpa [plain] using ha) (by simpa [plain] using hb) h]
  | .ktp _, _, ha, _, _ => by simp [plain] at ha
  | .kls _, _, ha, _, _ => by simp [plain] at ha
  | .dK _, _, ha, _, _ => by simp [plain] at ha
  | .dT _, _, ha, _, _ => by simp [plain] at ha
  | .obj _ _, _, ha, _, _ => by simp [plain] at ha
theorem toPys_inj : ∀ {a b : List D}, plains a = true → plains b = true → toPys a = toPys b → a = b
  | [], [], _, _, _ => rfl
  | [], _ :: _, _, _, h => by simp [toPys] at h
  | _ :: _, [], _, _, h => by simp [toPys] at h
  | x :: a, y :: b, ha, hb, h => by
    simp only [toPys, List.cons.injEq] at h
    simp only [plains, Bool.and_eq_true] at ha hb
    rw [toPy_inj ha.1 hb.1 h.1, toPys_inj ha.2 hb.2 h.2]
end
/-- the first of the least -/
def mnD (x : D) (xs : List D) : D := xs.foldl (fun a y => if PySem.W.dataLt (toPy y) (toPy a) then y else a) x
theorem mnD_py : ∀ (xs : List D) (x : D), toPy (mnD x xs) = PySem.W.minD (toPy x) (xs.map toPy)
  | [], _ => rfl
  | y :: xs, x => by
    have ih := mnD_py xs (if PySem.W.dataLt (toPy y) (toPy x) then y else x)
    have e : (if PySem.W.dataLt (toPy y) (toPy x) then toPy y else toPy x) = toPy (if PySem.W.dataLt (toPy y) (toPy x) then y else x) := by split <;> rfl
    show toPy (mnD (if PySem.W.dataLt (toPy y) (toPy x) then y else x) xs) = PySem.W.minD (if PySem.W.dataLt (toPy y) (toPy x) then toPy y else toPy x) (xs.map toPy)
    rw [ih, e]
theorem leT : PySem.W.TotalLe leD := PySem.W.sortLe_total _ _ _
theorem leD_lt (a b : D) : leD a b = !PySem.W.dataLt (toPy b) (toPy a) := rfl
theorem mnD_spec : ∀ (xs : List D) (x : D), mnD x xs ∈ x :: xs ∧ ∀ y ∈ x :: xs, leD (mnD x xs) y = true
  | [], x => ⟨List.mem_cons_self .., fun y hy => by
    rw [List.mem_singleton.1 hy]
    exact (leT.total x x).elim id id⟩
  | z :: xs, x => by
    obtain ⟨h1, h2⟩ := mnD_spec xs (if PySem.W.dataLt (toPy z) (toPy x) then z else x)
    have e : mnD x (z :: xs) = mnD (if PySem.W.dataLt (toPy z) (toPy x) then z else x) xs := rfl
    rw [e]
    have h3 := h2 _ (List.mem_cons_self ..)
    have hz : leD (if PySem.W.dataLt (toPy z) (toPy x) then z else x) z = true ∧ leD (if PySem.W.dataLt (toPy z) (toPy x) then z else x) x = true := by
      have hr : ∀ a, leD a a = true := fun a => (leT.total a a).elim id id
      by_cases q : PySem.W.dataLt (toPy z) (toPy x) = true
      · rw [if_pos q]
        refine ⟨hr z, ?_⟩
        rcases leT.total z x with w | w
        · exact w
        · rw [leD_lt, q] at w; cases w
      · rw [if_neg q]
        refine ⟨?_, hr x⟩
        rw [leD_lt]; simpa using q
    have hw : (if PySem.W.dataLt (toPy z) (toPy x) then z else x) = x ∨ (if PySem.W.dataLt (toPy z) (toPy x) then z else x) = z := by
      split
      · exact .inr rfl
      · exact .inl rfl
    generalize (if PySem.W.dataLt (toPy z) (toPy x) then z else x) = w at h1 h2 h3 hz hw
    refine ⟨?_, fun y hy => ?_⟩
    · rcases List.mem_cons.1 h1 with q | q
      · rw [q]
        rcases hw with e | e
        · rw [e]; exact List.mem_cons_self ..
        · rw [e]; exact List.mem_cons_of_mem _ (List.mem_cons_self ..)
      · exact List.mem_cons_of_mem _ (List.mem_cons_of_mem _ q)
    · rcases List.mem_cons.1 hy with rfl | hy
      · exact leT.trans _ _ _ h3 hz.2
      · rcases List.mem_cons.1 hy with rfl | hy
        · exact leT.trans _ _ _ h3 hz.1
        · exact h2 y (List.mem_cons_of_mem _ hy)
def noNon : D → Bool
  | .tup _ => true
  | .lst _ => true
  | .int _ => true
  | .bl _ => true
  | .str _ => true
  | _ => false
/-- what has a least one -/
def minOk (ds : List D) : Bool := plains ds && decide (deps ds ≤ 30) && (ds.all fun a => ds.all fun b => PySem.W.alike (toPy a) (toPy b)) && ds.all noNon
def fMinA (d : D) : Out RV := match d with
  | .lst (x :: xs) => if minOk (x :: xs) = true then .ok (.im (mnD x xs)) else .st
  | _ => .st
section
variable {F : Fx} {X : Cx}
def rMinD (K : PySem.W.Frag) : List V → Hp → VK → Prop := fun vs H Q => ∃ (a : Addr) (xs : List V) (d : PyData) (ds : List PyData), vs = [.ref a] ∧ SqL K H a xs ∧ DpAll K H xs (d :: ds) ∧ PyData.canLayAll0 (d :: ds) = true ∧ PySem.W.AlikeAll (d :: ds) ∧ PyData.depthAll (d :: ds) ≤ 30 ∧
  ∀ (i : Nat) (x : V), xs[i]? = some x → (d :: ds)[i]? = some (PySem.W.minD d ds) → Q x H
theorem cr_minD (hu : X.A.units + 64 < cLine) (hc : X.calm = true) : CallR X (.builtin "min") (rMinD X.K) := by
  intro pins s σ H vs us Q I r h
  obtain ⟨a, xs, d, ds, rfl, hs, hd, hcl, hal, hdep, q⟩ := h
  obtain ⟨its, rv, hl, hz⟩ := I.list hs
  rw [Vals.ref1 r]
  obtain ⟨as, hr⟩ := Dp.readsAll I _ _ _ hd rv
  refine PySem.W.min_list_data (I.ok.hd hc) hl.isList (vs := its.toArray) (by simpa using hr) hal (by omega) fun i v h' tk bs hv hrd keep => ?_
  have hv : its[i]? = some v := by simpa using hv
  have hlen := rv.length
  have hi : i < xs.length := by have := (List.getElem?_eq_some_iff.1 hv).1; omega
  obtain ⟨u, hu', rx⟩ := rv.get (List.getElem?_eq_getElem hi)
  rw [hv] at hu'
  cases hu'
  obtain ⟨bs', hr2, hi2, hm, _⟩ := PySem.W.readsAll_at hr i v hv
  have hcl' : ∀ e ∈ d :: ds, e.canLay0 = true := by
    have : ∀ l : List PyData, PyData.canLayAll0 l = true → ∀ e ∈ l, e.canLay0 = true := by
      intro l
      induction l with
      | nil => intro _ e he; cases he
      | cons z l ih =>
        intro h e he
        have h : z.canLay0 = true ∧ PyData.canLayAll0 l = true := by simpa [PyData.canLayAll0] using h
        rcases List.mem_cons.1 he with rfl | he
        · exact h.1
        · exact ih h.2 e he
    exact this _ hcl
  have e1 := SeqAt.readOf_eq (hcl' _ hm) (PySem.W.reads_keeps keep hr2)
  have hmin : PySem.W.minD d ds ∈ d :: ds := by
    have : ∀ (l : List PyData) (z : PyData), PySem.W.minD z l ∈ z :: l := by
      intro l
      induction l with
      | nil => intro z; exact List.mem_cons_self ..
      | cons y l ih =>
        intro z
        have := ih (if PySem.W.dataLt y z then y else z)
        have e : PySem.W.minD z (y :: l) = PySem.W.minD (if PySem.W.dataLt y z then y else z) l := rfl
        rw [e]
        rcases List.mem_cons.1 this with q | q
        · rw [q]
          split
          · exact List.mem_cons_of_mem _ (List.mem_cons_self ..)
          · exact List.mem_cons_self ..
        · exact List.mem_cons_of_mem _ (List.mem_cons_of_mem _ q)
    exact this ds d
  have e2 := SeqAt.readOf_eq (hcl' _ hmin) hrd
  have e3 : (d :: ds).getD i .none = PySem.W.minD d ds := e1.symm.trans e2
  refine ⟨_, H, I.kept keep, rx, q i _ (List.getElem?_eq_getElem hi) ?_⟩
  rw [← e3, List.getD_eq_getElem?_getD, List.getElem?_eq_getElem hi2]; rfl
theorem o_minD (hK : F.W.K = X.K) : CallOk F (rMinD X.K) (f1 fMinA) := by
  refine call1 fun δ σ H G d v Q S q h => ?_
  cases d <;> (try exact False.elim h)
  case lst ds =>
    cases ds with
    | nil => exact False.elim h
    | cons x ds =>
      unfold fMinA at h
      dsimp only at h
      by_cases hm : minOk (x :: ds) = true
      · rw [if_pos hm] at h
        unfold minOk at hm
        simp only [Bool.and_eq_true, decide_eq_true_eq] at hm
        obtain ⟨⟨⟨h1, h2⟩, h3⟩, h4⟩ := hm
        obtain ⟨a, xs, rfl, ha, r⟩ := q.lst S.gh
        obtain ⟨r1, r2⟩ := r.dp h1
        rw [toPys_eq] at r1 r2
        refine ⟨a, xs, toPy x, ds.map toPy, rfl, .inl (.inl ha), ?_, r2, ⟨?_, ?_⟩, ?_, fun i y hy hz => ?_⟩
        · rw [← hK]; exact dps_mono S.gh r1
        · intro e he e' he'
          obtain ⟨z, hz, rfl⟩ := List.mem_map.1 (show e ∈ (x :: ds).map toPy from he)
          obtain ⟨z', hz', rfl⟩ := List.mem_map.1 (show e' ∈ (x :: ds).map toPy from he')
          exact List.all_eq_true.1 (List.all_eq_true.1 h3 z hz) z' hz'
        · intro e he
          obtain ⟨z, hz, rfl⟩ := List.mem_map.1 (show e ∈ (x :: ds).map toPy from he)
          have := List.all_eq_true.1 h4 z hz
          cases z <;> (first | (simp [toPy]; done) | (cases this))
        · have := dep_toPys (x :: ds)
          rw [toPys_eq] at this
          rw [show toPy x :: ds.map toPy = (x :: ds).map toPy from rfl, this]; exact h2
        · obtain ⟨z, hzi, rz⟩ := r.getV i y hy
          have e1 : ((x :: ds).map toPy)[i]? = some (PySem.W.minD (toPy x) (ds.map toPy)) := hz
          rw [List.getElem?_map, hzi, Option.map_some, ← mnD_py] at e1
          have pl : ∀ l : List D, plains l = true → ∀ z ∈ l, plain z = true := by
            intro l
            induction l with
            | nil => intro _ z hz; cases hz
            | cons y l ih =>
              intro h z hz
              rw [plains, Bool.and_eq_true] at h
              rcases List.mem_cons.1 hz with rfl | hz
              · exact h.1
              · exact ih h.2 z hz
          have e2 : z = mnD x ds := toPy_inj (pl _ h1 z (List.mem_of_getElem? hzi)) (pl _ h1 _ (mnD_spec ds x).1) (Option.some.inj e1)
          rw [← e2] at h
          exact SatV.im h S rz
      · rw [if_neg hm] at h; exact False.elim h
/-- min, of ints too -/
def fMinX (d : D) : Out RV := match fMin d with
  | .st => fMinA d
  | r => r
theorem cr_minX (hu : X.A.units + 64 < cLine) (hc : X.calm = true) : CallR X (.builtin "min") (fun xs H Q => rMin X.K xs H Q ∨ rMinD X.K xs H Q) := CallR.or (cr_min hc) (cr_minD hu hc)
theorem o_minX (hK : F.W.K = X.K) : CallOk F (fun xs H Q => rMin X.K xs H Q ∨ rMinD X.K xs H Q) (f1 fMinX) := by
  refine call1 fun δ σ H G d v Q S q h => ?_
  unfold fMinX at h
  cases e : fMin d with
  | st =>
    rw [e] at h
    exact .inr (o_minD (F := F) hK δ σ H G [d] [v] Q S (.cons q .nil) h)
  | ok r =>
    rw [e] at h
    refine .inl (o_min (F := F) (X := X) δ σ H G [d] [v] Q S (.cons q .nil) ?_)
    show SatV F (fMin d) δ σ G Q
    rw [e]; exact h
  | ex c fs =>
    rw [e] at h
    refine .inl (o_min (F := F) (X := X) δ σ H G [d] [v] Q S (.cons q .nil) ?_)
    show SatV F (fMin d) δ σ G Q
    rw [e]; exact h
end
end L2.DI

/-! DIU: defs that raise: their promises, raise, the classes' __init__; isinstance of an exception, what it keeps; index and count of bools. -/
namespace L2.DI
open PySem PySem.Spec PyProof.Rows
section
variable {P : Program} {w : World} {K : PySem.W.Frag} {mg : Str → Option Value} {base : Heap}
abbrev cxX (P : Program) (w : World) (K : PySem.W.Frag) (mg : Str → Option Value) (base : Heap) (N : List Str) (qual : Str) (st : Stmt) (f : Addr) (cdv : Value) (A : Around) (outer : List Env) (s : Shared) (H : Hp) (E : XK) : Cx := cxOf (L2.CX P w) P w K mg base N qual (defScope st) f cdv A outer s H E
theorem fn_hot {x qual : Str} {st : Stmt} {f : Addr} {fd : FuncData} {N ps : List Str} {k n : Nat} {W : CT} {body : SS} (Fn : Fun K x qual st f fd) (S : FnScope N ps (defScope st)) (hn : ps.length = n)
    (hb : ∀ (cdv : Value) (A : Around) (outer : List Env) (s : Shared) (H : Hp) (E : XK) (B G0 : Hp), Room k (A.deeper (envOfC qual (defScope st) s.heap.objs.size f cdv)) → DSs none ⟨W, B, G0, E, true, []⟩ (cxX P w K mg base N qual st f cdv A outer s H E) (defBody st) body) :
    FnOk P w K mg base (L2.CX P w) (k + 1) f fd ps (spD W true n (semD body (N.length - n))) := by
  refine Fn.okX S (fun vs H Q E h => by rw [hn]; exact h.1) fun cdv A outer s H vs Q E hr ⟨hl, ds, G, e, r, h⟩ => ⟨_, (hb cdv A outer s H E H G hr).pss, ?_⟩
  have S0 := start_sok (W := W) (H := H) (G := G) (E := E) (hot := true) (N := N) e r
  refine ⟨_, G, S0, (fun _ z => by cases z), outD_ok ?_⟩
  unfold semD at h
  rw [hl]
  cases eo : outD (body (fr0 (ds.map .im) (N.length - n))) with
  | st => rw [eo] at h; exact h
  | ex c fs => rw [eo] at h; exact h
  | ok p =>
    obtain ⟨rv, δ'⟩ := p
    rw [eo] at h
    intro v σ' H' G' S' g _ q nb
    refine h v H' G' S'.bh g S'.gh S'.gn ?_
    cases rv with
    | im d => exact q
    | fr c =>
      obtain ⟨a, o, z1, z2, z3, z4, z5, z6⟩ := q
      exact ⟨a, o, z1, z2, z3, z4, z5⟩
    | bo i => exact absurd rfl (nb i)
theorem startB {W : CT} {hot : Bool} {H G : Hp} {E : XK} {N : List Str} {n : Nat} {a : Addr} {o : HO} {c : D} {vs' : List V} {ds : List D} (hl : (V.ref a :: vs').length = n + 1) (ha : H a = some o) (hc : CRep W G c o) (hg : G a = none) (e : Same G H) (r : Reps W G ds vs') :
    SOk ⟨W, wo H a, G, E, hot, []⟩ (fr0 (.ow c :: ds.map .im) (N.length - (n + 1))) (start N (.ref a :: vs')) H G := by
  have S1 := start_sok (W := W) (H := H) (G := G) (E := E) (hot := hot) (N := N) e (Reps.cons (Rep.non) r)
  have el : (V.non :: vs').length = n + 1 := by simpa using hl
  rw [el] at S1
  have e1 : fr0 (.ow c :: ds.map .im) (N.length - (n + 1)) = (fr0 ((D.non :: ds).map .im) (N.length - (n + 1))).set 0 (.ow c) := rfl
  have e2 : start N (.ref a :: vs') = (start N (.non :: vs')).set 0 (some (.ref a)) := rfl
  rw [e1, e2]
  have S2 : SOk ⟨W, wo H a, G, E, hot, []⟩ (fr0 ((D.non :: ds).map .im) (N.length - (n + 1))) (start N (.non :: vs')) H G := by
    refine ⟨S1.len, fun b u q => (wo_some q).2, S1.g0, S1.gh, fun _ _ _ _ h => h, S1.im, fun i c' q => ?_, S1.ne, TbO.nil⟩
    obtain ⟨b, ob, y1, y2, y3, y4, y5⟩ := S1.ow i c' q
    exact ⟨b, ob, y1, y2, y3, y4, by
      by_cases z : b = a
      · rw [z]; exact wo_at
      · show wo H a b = none
        rw [wo_ne z]; exact y5⟩
  refine S2.setFr 0 (v := .ref a) (c := c) ⟨a, o, rfl, ha, hc, hg, wo_at, fun i c' q z => ?_⟩
  obtain ⟨b, ob, y1, y2, y3, y4, y5⟩ := S1.ow i c' q
  have y5' : H b = none := y5
  rw [y2] at y5'; cases y5'
/-- one kind of end for a def whose first argument may change, cold or hot -/
theorem endB {W : CT} {hot : Bool} {H G : Hp} {E : XK} {N : List Str} {n : Nat} {body : SS} {a : Addr} {o : HO} {c : D} {vs' : List V} {ds : List D} {Q : VK} (hl : (V.ref a :: vs').length = n + 1) (ha : H a = some o) (hc : CRep W G c o) (hg : G a = none) (e : Same G H) (r : Reps W G ds vs')
    (h : SatB W hot a (wo H a) G (semB body (N.length - (n + 1)) c ds) Q E) : tS (some a) ⟨W, wo H a, G, E, hot, []⟩ body { nx := fun _ H' => Q .non H', rt := Q } (start N (.ref a :: vs')) H := by
  have hS0 := startB (hot := hot) (E := E) (N := N) hl ha hc hg e r
  refine ⟨_, G, hS0, (fun b z => by cases z; rfl), outD_ok ?_⟩
  unfold semB at h
  cases eo : outD (body (fr0 (.ow c :: ds.map .im) (N.length - (n + 1)))) with
  | st => rw [eo] at h; exact h
  | ex c fs => rw [eo] at h; exact h
  | ok p =>
    obtain ⟨rv, δ'⟩ := p
    rw [eo] at h
    dsimp only at h
    intro v σ' H' G' S' g z0 q nb
    split at h
    · rename_i c' e0
      obtain ⟨a', o', k1, k2, k3, k4, k5⟩ := S'.ow 0 _ e0
      have z1 := z0 a rfl
      rw [z1] at k1
      cases k1
      refine h v H' G' o' S'.bh g S'.gh S'.gn k2 k3 k4 ?_
      cases rv with
      | im d => exact q
      | fr c2 =>
        obtain ⟨b, o2, w1, w2, w3, w4, w5, w6⟩ := q
        exact ⟨b, o2, w1, w2, w3, w4, w5, fun z => w6 0 _ e0 (by rw [z1, z])⟩
      | bo i => exact absurd rfl (nb i)
    · exact h.elim
theorem fn_hotB {x qual : Str} {st : Stmt} {f : Addr} {fd : FuncData} {N ps : List Str} {k n : Nat} {W : CT} {body : SS} (Fn : Fun K x qual st f fd) (S : FnScope N ps (defScope st)) (hn : ps.length = n + 1)
    (hb : ∀ (cdv : Value) (A : Around) (outer : List Env) (s : Shared) (H : Hp) (E : XK) (B G0 : Hp) (a : Addr), Room k (A.deeper (envOfC qual (defScope st) s.heap.objs.size f cdv)) → DSs (some a) ⟨W, B, G0, E, true, []⟩ (cxX P w K mg base N qual st f cdv A outer s H E) (defBody st) body) :
    FnOk P w K mg base (L2.CX P w) (k + 1) f fd ps (spB W true (n + 1) (semB body (N.length - (n + 1)))) := by
  refine Fn.okX S (fun vs H Q E h => by rw [hn]; exact h.1) fun cdv A outer s H vs Q E hr ⟨hl, a, o, c, vs', ds, G, ev, ha, hc, hg, e, r, h⟩ => ⟨_, (hb cdv A outer s H E (wo H a) G a hr).pss, ?_⟩
  subst ev
  exact endB hl ha hc hg e r h
/-- what a body hands out of exceptions -/
theorem tk_hot {N : List Str} {qual : Str} {st : Stmt} {f : Addr} {cdv : Value} {A : Around} {outer : List Env} {s : Shared} {H : Hp} {E : XK} : Takes (cxX P w K mg base N qual st f cdv A outer s H E) (fun cls d _ H => E cls d H) := takes_of rfl rfl rfl rfl
theorem px_of {X : Cx} {E : XK} (tk : Takes X (fun cls d _ H => E cls d H)) : Passes (L2.CX X.prog X.w) X E := passes_call tk fun _ _ _ _ h => h
theorem po_hot {N : List Str} {qual : Str} {st : Stmt} {f : Addr} {cdv : Value} {A : Around} {outer : List Env} {s : Shared} {H : Hp} {E : XK} : PassesOwn (model P w) (cxX P w K mg base N qual st f cdv A outer s H E).A (cxX P w K mg base N qual st f cdv A outer s H E).env (cxX P w K mg base N qual st f cdv A outer s H E).xe := passes_of rfl

/-! ### a def that never raises, called where something may -/
theorem spD_cold {W : CT} {n : Nat} {hot : Bool} {sem : List D → Out RV} {vs : List V} {H : Hp} {Q : VK} {E E' : XK} (h : spD W hot n (fun ds => noEx (sem ds)) vs H Q E) : spD W false n sem vs H Q E' := by
  obtain ⟨h1, ds, G, e, r, h⟩ := h
  refine ⟨h1, ds, G, e, r, ?_⟩
  dsimp only at h
  cases eo : sem ds with
  | st => rw [eo] at h; exact h
  | ex c fs => rw [eo] at h; exact h.elim
  | ok p => rw [eo] at h; exact h
end
section
variable {P : Program} {w : World} {K : PySem.W.Frag} {mg : Str → Option Value} {base : Heap}
/-- a def under its name, that may raise -/
structure EntX (P : Program) (w : World) (K : PySem.W.Frag) (mg : Str → Option Value) (base : Heap) (x : Str) (st : Stmt) (k : Nat) (ps : List Str) (sp : Sp) : Prop where
  ex : ∃ f fd, mg x = some (.ref f) ∧ Fun K x x st f fd ∧ FnOk P w K mg base (L2.CX P w) k f fd ps sp
  bd : ∀ f fd, Fun K x x st f fd → Binds K fd ps []
structure EntCX (P : Program) (w : World) (K : PySem.W.Frag) (mg : Str → Option Value) (base : Heap) (x q : Str) (C : Addr) (st : Stmt) (k : Nat) (ps : List Str) (sp : Sp) : Prop where
  gC : mg x = some (.ref C)
  ex : ∃ f fd, Mk K C f ∧ Fun K "__init__" q st f fd ∧ FnOk P w K mg base (L2.CX P w) k f fd ps sp
  bd : ∀ f fd, Fun K "__init__" q st f fd → Binds K fd ps []
theorem EntX.mono {x : Str} {st : Stmt} {j k : Nat} {ps : List Str} {sp : Sp} (h : EntX P w K mg base x st j ps sp) (hk : j ≤ k) : EntX P w K mg base x st k ps sp := by
  obtain ⟨⟨f, fd, h1, h2, h3⟩, hb⟩ := h
  exact ⟨⟨f, fd, h1, h2, h3.mono hk⟩, hb⟩
end
section
variable {F : Fx} {X : Cx} {pos : Pos}
theorem de_entx {k n : Nat} {st : Stmt} {ps : List Str} {sem : List D → Out RV} {x : Str} {p : Pos} {e : Expr} {es : List Expr} {s : SF} (En : EntX X.prog X.w X.K X.mg X.base x st k ps (spD F.W F.hot n sem)) (hr : Room k X.A) (hg : Gl X x)
    (hn : SF.Many s n) (ha : DF F X (e :: es) s) (hx : Passes (L2.CX X.prog X.w) X F.E) (hdb : (x == ("__debug__" : Str)) = false := by decide) (he : starEach (e :: es) X.env = (false, eval e X.env) :: starEach es X.env := by rfl) (hpl : (backTo pos (starEach es X.env)).any (·.1) = false := by rfl) :
    DE F X (.Call (.Name x p) (e :: es) [] pos) (sOwn sem s) := by
  obtain ⟨⟨f, fd, h1, h2, h3⟩, hb⟩ := En
  exact de_own h3 hr hg h1 h2.kp (hb f fd h2) hx hn ha hdb he hpl
theorem de_entxK0 {k m j : Nat} {st : Stmt} {ps ks : List Str} {p : List Nat} {sem : List D → Out RV} {x : Str} {p' : Pos} {kws : List Keyword} {s : SF} (En : EntX X.prog X.w X.K X.mg X.base x st k ps (spD F.W F.hot j sem)) (hr : Room k X.A) (hg : Gl X x)
    (hkb : ∀ (kV doc pm : Value) (an : Option Addr) (cdv ct : Value) (us ws : List Value), us.length = 0 → ws.length = ks.length → bindArgs (PySem.W.fnOf x x (defArgs st) (defBody st) (defScope st) .none kV doc pm an cdv ct) ⟨us, ks.zip ws⟩ = pure (ps.zip (sel p (us ++ ws))))
    (hn : SF.Many s m) (hkl : ks.length = m) (hj : ∀ xs : List D, xs.length = 0 + m → (sel p xs).length = j) (ha : DKw F X kws s) (hx : Passes (L2.CX X.prog X.w) X F.E)
    (hall : (backToKw pos (keywordEach kws X.env)).all (·.1.isSome) = true := by rfl) (hks : (backToKw pos (keywordEach kws X.env)).filterMap (·.1) = ks := by rfl) (hdb : (x == ("__debug__" : Str)) = false := by decide)
    (hpl : ((backTo pos (starEach [] X.env)).any (·.1) || (backToKw pos (keywordEach kws X.env)).any (·.1.isNone)) = false := by rfl) :
    DE F X (.Call (.Name x p') [] kws pos) (sOwn sem (fSel p fNil s)) := by
  obtain ⟨⟨f, fd, h1, h2, h3⟩, hb⟩ := En
  exact de_ownK0 h3 hr hg h1 h2.kp (h2.kb hkb) hx hn hkl hj ha hall hks hdb hpl
theorem de_entxK {k n m j : Nat} {st : Stmt} {ps ks : List Str} {p : List Nat} {sem : List D → Out RV} {x : Str} {p' : Pos} {e : Expr} {es : List Expr} {kws : List Keyword} {u s : SF} (En : EntX X.prog X.w X.K X.mg X.base x st k ps (spD F.W F.hot j sem)) (hr : Room k X.A) (hg : Gl X x)
    (hkb : ∀ (kV doc pm : Value) (an : Option Addr) (cdv ct : Value) (us ws : List Value), us.length = n → ws.length = ks.length → bindArgs (PySem.W.fnOf x x (defArgs st) (defBody st) (defScope st) .none kV doc pm an cdv ct) ⟨us, ks.zip ws⟩ = pure (ps.zip (sel p (us ++ ws))))
    (hu : SF.Many u n) (hn : SF.Many s m) (hkl : ks.length = m) (hj : ∀ xs : List D, xs.length = n + m → (sel p xs).length = j) (hp : DF F X (e :: es) u) (ha : DKw F X kws s) (hx : Passes (L2.CX X.prog X.w) X F.E)
    (hall : (backToKw pos (keywordEach kws X.env)).all (·.1.isSome) = true := by rfl) (hks : (backToKw pos (keywordEach kws X.env)).filterMap (·.1) = ks := by rfl) (hdb : (x == ("__debug__" : Str)) = false := by decide)
    (he : starEach (e :: es) X.env = (false, eval e X.env) :: starEach es X.env := by rfl)
    (hpl : ((backTo pos (starEach (e :: es) X.env)).any (·.1) || (backToKw pos (keywordEach kws X.env)).any (·.1.isNone)) = false := by rfl) :
    DE F X (.Call (.Name x p') (e :: es) kws pos) (sOwn sem (fSel p u s)) := by
  obtain ⟨⟨f, fd, h1, h2, h3⟩, hb⟩ := En
  exact de_ownK h3 hr hg h1 h2.kp (h2.kb hkb) hx hu hn hkl hj hp ha hall hks hdb he hpl
theorem de_makex {k t n : Nat} {C : Addr} {st : Stmt} {ps : List Str} {sem : D → List D → Out (RV × D)} {x q : Str} {p : Pos} {e : Expr} {es : List Expr} {s : SF} (En : EntCX X.prog X.w X.K X.mg X.base x q C st k ps (spB F.W F.hot (n + 1) sem)) (hr : Room (k + 1) X.A) (hg : Gl X x)
    (hC : F.W.cls t = some C) (hn : SF.Many s n) (ha : DF F X (e :: es) s) (hx : Passes (L2.CX X.prog X.w) X F.E) (hdb : (x == ("__debug__" : Str)) = false := by decide) (he : starEach (e :: es) X.env = (false, eval e X.env) :: starEach es X.env := by rfl) (hpl : (backTo pos (starEach es X.env)).any (·.1) = false := by rfl) :
    DE F X (.Call (.Name x p) (e :: es) [] pos) (sMake t sem s) := by
  obtain ⟨h1, ⟨f, fd, M, h2, h3⟩, hb⟩ := En
  exact de_make M h3 hr hg h1 (hb f fd h2) hx hC hn ha hdb he hpl
theorem de_makexK {k t m j : Nat} {C : Addr} {st : Stmt} {p0 : Str} {ps ks : List Str} {p : List Nat} {sem : D → List D → Out (RV × D)} {x q : Str} {p' : Pos} {kws : List Keyword} {s : SF} (En : EntCX X.prog X.w X.K X.mg X.base x q C st k (p0 :: ps) (spB F.W F.hot (j + 1) sem)) (hr : Room (k + 1) X.A) (hg : Gl X x)
    (hC : F.W.cls t = some C) (hkb : ∀ (kV doc pm : Value) (an : Option Addr) (cdv ct : Value) (us ws : List Value), us.length = 1 → ws.length = ks.length → bindArgs (PySem.W.fnOf "__init__" q (defArgs st) (defBody st) (defScope st) .none kV doc pm an cdv ct) ⟨us, ks.zip ws⟩ = pure ((p0 :: ps).zip (us ++ sel p ws)))
    (hn : SF.Many s m) (hkl : ks.length = m) (hj : ∀ xs : List D, xs.length = m → (sel p xs).length = j) (ha : DKw F X kws s) (hx : Passes (L2.CX X.prog X.w) X F.E)
    (hall : (backToKw pos (keywordEach kws X.env)).all (·.1.isSome) = true := by rfl) (hks : (backToKw pos (keywordEach kws X.env)).filterMap (·.1) = ks := by rfl) (hdb : (x == ("__debug__" : Str)) = false := by decide)
    (hpl : ((backTo pos (starEach [] X.env)).any (·.1) || (backToKw pos (keywordEach kws X.env)).any (·.1.isNone)) = false := by rfl) :
    DE F X (.Call (.Name x p') [] kws pos) (sMake t sem (fSel p fNil s)) := by
  obtain ⟨h1, ⟨f, fd, M, h2, h3⟩, hb⟩ := En
  have kb : KBn X.K fd (p0 :: ps) 1 ks (fun us ws => us ++ sel p ws) (fun vs zs => vs ++ sel p zs) := by
    obtain ⟨oc, od, kV, doc, pm, an, cdv, ct, osl, rfl, lk, hcd⟩ := h2.ex
    exact ⟨fun s us ws _ l1 l2 => .of_eq (hkb kV doc pm an cdv ct us ws l1 l2), fun r1 r2 => r1.append (sel_rel r2)⟩
  refine ⟨(pe_makeK0 M h3 hr hg h1 kb hx ha.pk hall hks hdb hpl).imp fun σ H Q ⟨δ, G, S, w⟩ => ?_⟩
  unfold sMake fSel fNil at w
  refine ⟨δ, G, S, ?_⟩
  simp only [ok_bind] at w
  cases e1 : s δ with
  | st => rw [e1] at w; exact w
  | ex c fs => rw [e1] at w; exact w
  | ok pr =>
    obtain ⟨ds, δ1⟩ := pr
    rw [e1] at w
    simp only [ok_bind, List.nil_append] at w
    intro vs H1 G1 S1 g1 q1
    refine ⟨rfl, by rw [hkl, ← q1.length]; exact hn _ _ _ e1, fun x dx nx ndx nex => ?_⟩
    exact make_core hC S1 (q1.sel p) (hj _ (hn _ _ _ e1)) (satE_trans g1 w) x dx nx ndx nex
/-- a def that never raises -/
theorem de_entc {k n : Nat} {st : Stmt} {ps : List Str} {sem : List D → Out RV} {x : Str} {p : Pos} {e : Expr} {es : List Expr} {s : SF} (En : Ent X.prog X.w X.K X.mg X.base x st k ps (spD F.W false n sem)) (hr : Room k X.A) (hg : Gl X x)
    (hn : SF.Many s n) (ha : DF F X (e :: es) s) (hdb : (x == ("__debug__" : Str)) = false := by decide) (he : starEach (e :: es) X.env = (false, eval e X.env) :: starEach es X.env := by rfl) (hpl : (backTo pos (starEach es X.env)).any (·.1) = false := by rfl) :
    DE F X (.Call (.Name x p) (e :: es) [] pos) (sOwn (fun ds => noEx (sem ds)) s) := by
  obtain ⟨⟨f, fd, h1, h2, h3⟩, hb⟩ := En
  refine ⟨(pe_call h3 hr hg h1 h2.kp (hb f fd h2) .nil (pass0 (X := X)) ha.pa hdb he hpl).imp fun σ H Q h => ?_⟩
  obtain ⟨δ, G, S, q⟩ := own_imp (sem := fun ds => noEx (sem ds)) σ H Q hn h
  refine ⟨δ, G, S, ?_⟩
  cases e1 : s δ with
  | st => rw [e1] at q; exact q
  | ex c fs => rw [e1] at q; exact q
  | ok pr =>
    rw [e1] at q
    exact fun vs H1 G1 S1 g1 q1 => spD_cold (q vs H1 G1 S1 g1 q1)
end

/-! ### the classes' __init__ -/
/-- self.given = given -/
def spI (K : PySem.W.Frag) : Sp := fun vs H Q _ => ∃ (a C : Addr) (y : V), vs = [.ref a, y] ∧ OexC K C ∧ PySem.W.findIn K (.ref C) "given" = some none ∧ H a = some (exo a C none) ∧ ∀ dx, H dx = none → dx ≠ a → Q .non (upd (upd H dx (exd dx [("given", y)])) a (exo a C (some dx)))
section
variable {P : Program} {w : World} {K : PySem.W.Frag} {mg : Str → Option Value} {base : Heap}
theorem xinit_ok {q : Str} {st : Stmt} {f : Addr} {fd : FuncData} {p1 p2 p3 p4 : Pos} (Fn : Fun K "__init__" q st f fd) (S : FnScope ["self", "given"] ["self", "given"] (defScope st)) (hb : defBody st = [.Assign [.Attribute (.Name "self" p1) "given" p2] (.Name "given" p3) p4])
    (h1 : (defScope st).names.lookup ("self" : Str) = some .local) (h2 : (defScope st).names.lookup ("given" : Str) = some .local)
    (hs : ∀ env : Env, swapsWith (.Name "given" p3) (some (.Attribute (.Name "self" p1) "given" p2)) p4.line env = pure false) :
    FnOk P w K mg base CX0 1 f fd ["self", "given"] (spI K) := by
  refine Fn.ok S (fun vs H Q E ⟨a, C, y, h, _⟩ => by rw [h]; rfl) fun cdv A outer s H vs Q E hr ⟨a, C, y, ev, T, hno, ha, q⟩ => ?_
  rw [hb]; subst ev
  refine ⟨_, pss_one (ps_ost (pe_var (i := 0) rfl (.inl h1)) (pe_var (i := 1) rfl (.inl h2)) (hs _)), ?_⟩
  exact ⟨y, rfl, .ref a, rfl, a, C, rfl, T, hno, .inl ⟨ha, fun dx n ne => q dx n ne⟩⟩
end
/-- an own class of exceptions: its number, its place -/
structure XcE (P : Program) (w : World) (K : PySem.W.Frag) (mg : Str → Option Value) (base : Heap) (x : Str) (C : Addr) : Prop where
  gC : mg x = some (.ref C)
  T : OexC K C
  no : PySem.W.findIn K (.ref C) "given" = some none
  ex : ∃ fI fd, PySem.W.findIn K (.ref C) "__init__" = some (some (.ref fI)) ∧ PySem.W.typeIn K (.ref fI) = some (.type "function") ∧ FnOk P w K mg base CX0 1 fI fd ["self", "given"] (spI K) ∧ Binds K fd ["self", "given"] []
section
variable {F : Fx} {X : Cx} {pos p p2 : Pos}
theorem ds_raiseX {pz : Option Addr} {c : Nat} {C : Addr} {x : Str} {e : Expr} {s : SF} (hot : F.hot = true) (hc : X.calm = true) (tk : Takes X fun cls d _ H => F.E cls d H) (hC : F.W.xcl c = some C) (hx : xname c = "given") (E : XcE X.prog X.w X.K X.mg X.base x C) (hr : Room 2 X.A) (hg : Gl X x) (hn : SF.Many s 1) (ha : DF F X [e] s)
    (hdb : (x == ("__debug__" : Str)) = false := by decide) (he : starEach [e] X.env = (false, eval e X.env) :: starEach [] X.env := by rfl) (hpl : (backTo p2 (starEach [] X.env)).any (·.1) = false := by rfl) :
    DSt pz F X (.Raise (some (.Call (.Name x p) [e] [] p2)) none pos) (sRaise c s) := by
  obtain ⟨gC, T, hno, fI, fd, iC, tI, F1, hb⟩ := E
  refine ⟨(ps_raise hc tk (pmk_oex T iC tI F1 hr hb .nil pass0 hg gC ha.pa hdb he hpl)).imp fun D σ H ⟨δ, G, S, _, h⟩ => ⟨δ, G, S, ?_⟩⟩
  unfold sRaise at h
  cases e1 : s δ with
  | st => rw [e1] at h; exact h
  | ex c fs => rw [e1] at h; exact h
  | ok pr =>
    obtain ⟨ds, δ1⟩ := pr
    rw [e1] at h
    intro vs H1 G1 S1 g1 q1
    have hl : ds.length = 1 := hn _ _ _ e1
    have h' : XAll F c ds := h
    obtain ⟨d, rfl⟩ : ∃ d, ds = [d] := List.length_eq_one_iff.mp hl
    cases q1 with
    | @cons d v ds vs hv t =>
      cases t
      refine ⟨by simp, fun a na => ⟨a, C, v, by rw [List.append_nil], T, hno, upd_same, fun dx ndx nda => ⟨rfl, dx, [("given", v)], upd_same, by rw [upd_ne nda, upd_same], ?_, ?_⟩⟩⟩
      · rw [upd_ne nda] at ndx; exact ndx
      · have ndx' : H1 dx = none := by rw [upd_ne nda] at ndx; exact ndx
        have k : ∀ b u, H1 b = some u → upd (del (upd (upd (upd H1 a (exo a C none)) dx (exd dx [("given", v)])) a (exo a C (some dx))) a) dx (.xd [("given", v)]) b = some u := fun b u q => by
          have n1 : b ≠ dx := ne_of_none q ndx'
          have n2 : b ≠ a := ne_of_none q na
          rw [upd_ne n1, del_ne n2, upd_ne n2, upd_ne n1, upd_ne n2]; exact q
        refine (h'.2 _ G1 C hC (fun b u q => k b u (S1.bh b u q)) S1.g0 (fun b u q => k b u (S1.gh b u q)) S1.gn).2 d dx v rfl ?_ hv
        rw [hx]; exact upd_same
end

/-! ### index and count of flat values -/
section
variable {X : Cx}
def rCntV (K : PySem.W.Frag) : V → List V → Hp → VK → Prop := fun x xs H Q => ∃ (a : Addr) (ys : List V) (y : V), x = V.ref a ∧ xs = [y] ∧ SqL K H a ys ∧ flatV y = true ∧ ys.all flatV = true ∧ Q (.int (ys.countP fun z => eqV z y : Nat)) H
theorem cnt_rel {its : List Value} {ys : List V} {y : V} (rv : Vals ys its) (f : ys.all flatV = true) : its.countP (eqU y) = ys.countP fun z => eqV z y := by
  induction rv with
  | nil => rfl
  | cons h t ih =>
    rw [List.all_cons, Bool.and_eq_true] at f
    rw [List.countP_cons, List.countP_cons, ih f.2, eqU_of h f.1]
theorem mt_countV : MtR X "list.count" (rCntV X.K) := by
  intro pins s σ H x xs v us Q I rx rxs h
  obtain ⟨a, ys, y, rfl, rfl, hs, fy, fys, q⟩ := h
  cases rx
  cases rxs with
  | cons ry rt =>
    rename_i uy ut
    cases rt
    obtain ⟨its, rv, ⟨⟨cls, dd, data, sl⟩, n, ho, hc, hdn, hd⟩, hlen⟩ := I.list hs
    simp only at hc hd
    subst hc hd
    refine call_meets PySem.F.slot_list_count ⟨_, ho, rfl⟩ PySem.F.entry_list_count (PySem.F.args_list_count_2 _ _)
      (SeqAt.list_countAt a its.toArray n dd sl uy (eqU y)) ⟨ho, fun u' hu' => mem_eqAt ry fy rv fys u' (by simpa using hu'), ?_⟩
    refine ⟨.int (ys.countP fun z => eqV z y : Nat), H, I.tok _, ⟨s.toks, ?_⟩, q⟩
    show Value.int ((its.toArray.toList.countP (eqU y) : Nat) : Int) s.toks = Value.int ((ys.countP fun z => eqV z y : Nat) : Int) s.toks
    rw [← cnt_rel rv fys]
end
section
variable {F : Fx} {X : Cx} {apos cpos : Pos}
def fIndexB : D → D → Out RV
  | .lst ds, .bl b => (match bools ds with
    | some ns => (match ns.findIdx? (· == b) with
      | some j => .ok (.im (.int (j : Nat)))
      | none => .st)
    | none => .st)
  | _, _ => .st
def fCountB : D → D → Out RV
  | .lst ds, .bl b => (match bools ds with
    | some ns => .ok (.im (.int (ns.count b : Nat)))
    | none => .st)
  | _, _ => .st
theorem o_indexB (hK : F.W.K = X.K) : Op2 X F (fun x y H Q => rIndex X.K x [y] H Q) fIndexB := by
  intro δ σ H G d1 d2 x y Q S h1 h2 h
  unfold fIndexB at h
  cases d1 <;> (try exact False.elim h)
  case lst ds =>
    cases d2 <;> (try exact False.elim h)
    case bl i =>
      dsimp only at h
      cases ei : bools ds with
      | none => rw [ei] at h; exact False.elim h
      | some ns =>
        rw [ei] at h
        dsimp only at h
        cases ej : ns.findIdx? (· == i) with
        | none => rw [ej] at h; exact False.elim h
        | some j =>
          rw [ej] at h
          obtain ⟨a, xs, rfl, q1, r1⟩ := h1.lst S.gh
          obtain rfl := h2.bl
          obtain rfl := bools_ok r1 ei
          obtain ⟨hj, hz, hno⟩ := List.findIdx?_eq_some_iff_getElem.1 ej
          refine ⟨a, ns.map V.bl, .bl i, j, .bl ns[j], rfl, rfl, .inl (.inl q1), rfl, by simp [flatV], by simp [hj], by simpa [eqV] using hz, fun m z' hm hz' => ?_, h.im S (.int _)⟩
          rw [List.getElem?_map] at hz'
          obtain ⟨k, hk, rfl⟩ := Option.map_eq_some_iff.1 hz'
          obtain ⟨hm', hk⟩ := List.getElem?_eq_some_iff.1 hk
          subst hk
          have := hno m hm
          simpa [eqV] using this
theorem o_countB (hK : F.W.K = X.K) : Op2 X F (fun x y H Q => rCntV X.K x [y] H Q) fCountB := by
  intro δ σ H G d1 d2 x y Q S h1 h2 h
  unfold fCountB at h
  cases d1 <;> (try exact False.elim h)
  case lst ds =>
    cases d2 <;> (try exact False.elim h)
    case bl i =>
      dsimp only at h
      cases ei : bools ds with
      | none => rw [ei] at h; exact False.elim h
      | some ns =>
        rw [ei] at h
        obtain ⟨a, xs, rfl, q1, r1⟩ := h1.lst S.gh
        obtain rfl := h2.bl
        obtain rfl := bools_ok r1 ei
        refine ⟨a, ns.map V.bl, .bl i, rfl, rfl, .inl (.inl q1), rfl, by simp [flatV], ?_⟩
        have e : (List.map V.bl ns).countP (fun z => eqV z (V.bl i)) = ns.count i := by
          rw [List.countP_map]; rfl
        rw [e]
        exact h.im S (.int _)
theorem de_indexB {o e : Expr} {a b : SE} (hK : F.W.K = X.K) (ha : DE F X o a) (hb : DE F X e b)
    (hbase : attributeBase o "index" X.env (eval o X.env) = eval o X.env := by rfl)
    (hfew : ((backTo cpos (starEach [e] X.env)).all (fun x => !x.1) && (backToKw cpos (keywordEach [] X.env)).all (fun x => x.1.isSome)
      && decide ([e].length + ([] : List Keyword).length + (if ([] : List Keyword).isEmpty then 0 else 1) < 30)) = true := by rfl)
    (hline : (apos.endLine == cpos.line) = true := by rfl) (hs : starEach [e] X.env = (false, eval e X.env) :: starEach [] X.env := by rfl) (hplain : (backTo cpos (starEach [] X.env)).any (·.1) = false := by rfl) :
    DE F X (.Call (.Attribute o "index" apos) [e] [] cpos) (sMtL fIndexB a b) :=
  ⟨(pe_bm (PySem.F.plainAttrs_list) (PySem.F.slot_list_index) (PySem.F.type_list_index) mt_index ha.pe (pa_cons hb.pe pa_nil hs) hbase hfew hline hs hplain).imp fun σ H Q h => mtL_imp (X := X) (o_indexB hK) a b σ H Q h⟩
theorem de_countB {o e : Expr} {a b : SE} (hK : F.W.K = X.K) (ha : DE F X o a) (hb : DE F X e b)
    (hbase : attributeBase o "count" X.env (eval o X.env) = eval o X.env := by rfl)
    (hfew : ((backTo cpos (starEach [e] X.env)).all (fun x => !x.1) && (backToKw cpos (keywordEach [] X.env)).all (fun x => x.1.isSome)
      && decide ([e].length + ([] : List Keyword).length + (if ([] : List Keyword).isEmpty then 0 else 1) < 30)) = true := by rfl)
    (hline : (apos.endLine == cpos.line) = true := by rfl) (hs : starEach [e] X.env = (false, eval e X.env) :: starEach [] X.env := by rfl) (hplain : (backTo cpos (starEach [] X.env)).any (·.1) = false := by rfl) :
    DE F X (.Call (.Attribute o "count" apos) [e] [] cpos) (sMtL fCountB a b) :=
  ⟨(pe_bm (PySem.F.plainAttrs_list) (PySem.F.slot_list_count) (PySem.F.type_list_count) mt_countV ha.pe (pa_cons hb.pe pa_nil hs) hbase hfew hline hs hplain).imp fun σ H Q h => mtL_imp (X := X) (o_countB hK) a b σ H Q h⟩
end
end L2.DI

/-! DIV: _law_kept(lambda: ..): a def that calls what it got in a try and tells the error's class with what it keeps. -/
namespace L2.DI
open PySem PySem.Spec PyProof.Rows
/-- tables of code objects are left out -/
def nTb (H : Hp) : Hp := fun b => match H b with
  | some (.tbl _) => none
  | o => o
theorem nTb_no {H : Hp} (b : Addr) (ps : Array Value) : nTb H b ≠ some (.tbl ps) := fun e => by
  unfold nTb at e
  cases q : H b with
  | none => rw [q] at e; cases e
  | some u => rw [q] at e; cases u <;> cases e
theorem nTb_le {H : Hp} : Same (nTb H) H := fun b o e => by
  unfold nTb at e
  cases q : H b with
  | none => rw [q] at e; cases e
  | some u =>
    rw [q] at e
    cases u <;> first | exact e | cases e
theorem nTb_N {H : Hp} : SameN H (nTb H) := fun b o e n => by
  unfold nTb
  rw [e]
  cases o <;> first | rfl | exact absurd rfl (n _)
theorem nTb_none {H : Hp} {b : Addr} (e : H b = none) : nTb H b = none := by unfold nTb; rw [e]
section
variable {F : Fx} {δ : DS} {σ : St} {H H1 G : Hp}
/-- behind the making of a lambda -/
theorem SOk.tabled (S : SOk F δ σ H G) (hT : F.T ≠ []) (e : LamX.ExtN H H1) (t : LamX.Tabs F.T H1) : SOk F δ σ H1 G where
  len := S.len
  bh := fun b u q => e b u (S.bh b u q) fun ps z => (S.tt.2 hT).1 b ps (by rw [← z]; exact q)
  g0 := S.g0
  gh := fun b u q => e b u (S.gh b u q) fun ps z => (S.tt.2 hT).2 b ps (by rw [← z]; exact q)
  gn := S.gn
  im := S.im
  ow := fun i c q => by
    obtain ⟨a, o, h1, h2, h3, h4⟩ := S.ow i c q
    exact ⟨a, o, h1, e a o h2 h3.nx.1, h3, h4⟩
  ne := S.ne
  tt := ⟨t, S.tt.2⟩
theorem get_map {α β : Type} {f : α → β} {l : List α} {i : Nat} {y : β} (h : (l.map f)[i]? = some y) : ∃ x, l[i]? = some x ∧ f x = y := by
  rw [List.getElem?_map] at h
  cases q : l[i]? with
  | none => rw [q] at h; cases h
  | some x => rw [q] at h; exact ⟨x, rfl, Option.some.inj h⟩
def noOw1 : SV → SV
  | .ow _ => .no
  | x => x
/-- the own things are forgotten -/
def noOw (δ : DS) : DS := δ.map noOw1
/-- for what keeps all that stands -/
theorem SOk.all (S : SOk F δ σ H G) (E : XK) (hot : Bool) : SOk ⟨F.W, H, G, E, hot, []⟩ (noOw δ) σ H G where
  len := by unfold noOw; rw [List.length_map]; exact S.len
  bh := Same.refl _
  g0 := Same.refl _
  gh := S.gh
  gn := fun _ _ _ _ h => h
  im := fun i d q => by
    obtain ⟨x, h1, h2⟩ := get_map q
    cases x with
    | im e => cases h2; exact S.im i d h1
    | _ => cases h2
  ow := fun i c q => by
    obtain ⟨x, h1, h2⟩ := get_map q
    cases x <;> cases h2
  ne := fun i j a c c' q => by
    obtain ⟨x, h1, h2⟩ := get_map q
    cases x <;> cases h2
  tt := TbO.nil
def fzs : List Nat → DS → DS
  | [], δ => δ
  | i :: is, δ => fzs is (match δ[i]? with
    | some (.ow c) => δ.set i (.im c)
    | _ => δ)
theorem SOk.fzs : ∀ (is : List Nat) {δ : DS} {G : Hp}, SOk F δ σ H G → ∃ G', SOk F (DI.fzs is δ) σ H G' ∧ Same G G'
  | [], _, G, S => ⟨G, S, Same.refl _⟩
  | i :: is, δ, G, S => by
    unfold DI.fzs
    split
    · rename_i c e
      obtain ⟨a, o, h1, _⟩ := S.ow i c e
      obtain ⟨G1, S1, g1, _⟩ := S.freezeSlot e h1
      obtain ⟨G2, S2, g2⟩ := SOk.fzs is S1
      exact ⟨G2, S2, g1.trans g2⟩
    · exact SOk.fzs is S
end
/-- what a def that calls in a try makes of what is called: the error's word with what it keeps, else noneW -/
def kWish (W : CT) (wordOf : Nat → Option (List Nat)) (Q : VK) : XK := fun cls dx H' => ∃ (c : Nat) (C dd : Addr) (v : V) (d : D) (w : List Nat) (G' : Hp), cls = .ref C ∧ W.xcl c = some C ∧ dx = some dd ∧ H' dd = some (.xd [("given", v)]) ∧ Same G' H' ∧ Rep W G' d v ∧ wordOf c = some w ∧
      ∀ u H'' G'', Same H' H'' → Same G' G'' → Same G'' H'' → (∀ b ob, H' b = some ob → NT ob → G' b = none → G'' b = none) → Rep W G'' (.tup [.str w, d]) u → Q u H''
def kNorm (W : CT) (noneW : List Nat) (Q : VK) (H' : Hp) : Prop := ∃ G', Same G' H' ∧ ∀ u H'' G'', Same H' H'' → Same G' G'' → Same G'' H'' → (∀ b ob, H' b = some ob → NT ob → G' b = none → G'' b = none) → Rep W G'' (.tup [.str noneW, .non]) u → Q u H''
def TKept (W : CT) (wordOf : Nat → Option (List Nat)) (noneW : List Nat) : (XK → Hp → VK → Prop) → Hp → VK → Prop := fun tl H Q =>
  ∀ R : Hp → Prop, (∀ H', kNorm W noneW Q H' → R H') → tl (kWish W wordOf Q) H fun _ H' => R H'
def sKept (wordOf : Nat → Option (List Nat)) (noneW : List Nat) (fz : List Nat) (b : SE) : SE := fun δ => match b (noOw (fzs fz δ)) with
  | .ok _ => .ok (.im (.tup [.str noneW, .non]), fzs fz δ)
  | .ex c [d] => (match wordOf c with
    | some w => .ok (.im (.tup [.str w, d]), fzs fz δ)
    | none => .st)
  | _ => .st
section
variable {F : Fx} {X : Cx}
theorem kept_imp {wordOf : Nat → Option (List Nat)} {noneW : List Nat} {fz : List Nat} {b : SE} (hT : F.T ≠ []) (hx : ∀ c w, wordOf c = some w → xname c = "given") (σ : St) (H : Hp) (Q : VK) :
    tE F (sKept wordOf noneW fz b) σ H Q → LamX.tLam F.T (TKept F.W wordOf noneW) (fun E σ H Q => ∃ B G0, tE ⟨F.W, B, G0, E, true, []⟩ b σ H Q) σ H Q := by
  rintro ⟨δ, G, S, h⟩
  refine ⟨S.tt.1, fun H1 eN T1 R hR => ?_⟩
  obtain ⟨G1, S1, g1⟩ := S.fzs fz
  have S2 := S1.tabled hT eN T1
  refine ⟨H1, G1, _, G1, S2.all _ true, ?_⟩
  unfold sKept at h
  have fin : ∀ {H' G' : Hp} {d : D}, SatE F (.ok (.im d, fzs fz δ)) σ G Q → Same H1 H' → Same G1 G' → Same G' H' → (∀ b ob, H1 b = some ob → NT ob → G1 b = none → G' b = none) →
      ∀ u H'' G'', Same H' H'' → Same G' G'' → Same G'' H'' → (∀ b ob, H' b = some ob → NT ob → G' b = none → G'' b = none) → Rep F.W G'' d u → Q u H'' := fun {H' G' d} k a1 a2 a3 a4 u H'' G'' b1 b2 b3 b4 r => by
    have S3 := S2.afterN (a1.trans b1) (a2.trans b2) b3 fun b ob q nt n => b4 b ob (a1 b ob q) nt (a4 b ob q nt n)
    exact k u H'' _ S3 (g1.trans (noT_same (a2.trans b2))) (r.monoN noT_N)
  cases eb : b (noOw (fzs fz δ)) with
  | st => rw [eb] at h; exact h
  | ok p =>
    obtain ⟨r, δ1⟩ := p
    rw [eb] at h
    intro v H' G' S' g' _
    exact hR H' ⟨G', S'.gh, fin h S'.bh g' S'.gh S'.gn⟩
  | ex c fs =>
    rw [eb] at h
    match fs, h with
    | [], h => exact h.elim
    | _ :: _ :: _, h => exact h.elim
    | [d], h =>
      dsimp only at h
      cases ew : wordOf c with
      | none => rw [ew] at h; exact h.elim
      | some w =>
        rw [ew] at h
        refine ⟨rfl, fun H' G' C hC a1 a2 a3 a4 => ⟨(fun z => by cases z), fun f dx v ef hd r => ?_⟩⟩
        cases ef
        rw [hx c w ew] at hd
        exact ⟨c, C, dx, v, d, w, G', rfl, hC, rfl, hd, a3, r, ew, fin h a1 a2 a3 a4⟩
theorem de_kept {wordOf : Nat → Option (List Nat)} {noneW : List Nat} {fz : List Nat} {b : SE} {x a : Str} {g c P : Addr} {k : Nat} {pg : Arguments} {bg : List Stmt} {sg : Scope} {dV kV doc pm cdv ct oc : Value} {an od : Option Addr} {osl : Array (Option Value)} {Ng : List Str}
    {params : Arguments} {body : Expr} {scope : Scope} {p lpos pos : Pos} (hT : F.T = [(P, X.env.qual ++ "<lambda>")]) (hx : ∀ c w, wordOf c = some w → xname c = "given") (hg : Gl X x) (hm : X.mg x = some (.ref g)) (hk : PySem.W.keepIn X.K (.ref g) = true)
    (lk : X.K.lookup g = some ⟨oc, od, .func (PySem.W.fnOf x x pg bg sg dV kV doc pm an cdv ct), osl⟩) (hcg : PySem.W.codeIn X.K cdv x = true) (hb : L2.Binds X.K (PySem.W.fnOf x x pg bg sg dV kV doc pm an cdv ct) [a] []) (Sg : FnScope Ng [a] sg) (hNg : Ng[0]? = some a) (hva : Vis sg a)
    (hG : LamX.GivesTo X Ng x sg g cdv bg a (X.env.qual ++ "<lambda>") (TKept F.W wordOf noneW))
    (TB : LamX.TabB X.base X.mg c P) (hcode : X.env.code = .ref c) (hr : Room (k + 2) X.A) (L : LamX.LamS X.env.scope scope) (hdef : defaultsOf params X.env = ([], []))
    (hbind : ∀ (q : Str) (cl : List (Str × Addr)) (pm cv ctv : Value), bindArgs (PySem.W.kla_fn "<lambda>" q params body scope cl pm cv ctv) ⟨[], []⟩ = pure [])
    (hbody : ∀ (A : Around) (outer : List Env) (s : Shared) (H : Hp) (E : XK) (f c' : Addr) (B G0 : Hp), Room k (A.deeper (LamX.lamEnv X scope s.heap.objs.size f c')) → DE ⟨F.W, B, G0, E, true, []⟩ (LamX.lamCx X A outer s H E scope f c') body b)
    (hdb : (x == ("__debug__" : Str)) = false := by decide) (hd : (a == ("__debug__" : Str)) = false := by decide) (hcd : (a == ("__classdict__" : Str)) = false := by decide) :
    DE F X (.Call (.Name x p) [.Lambda params body scope lpos] [] pos) (sKept wordOf noneW fz b) := by
  have hm' : (P, X.env.qual ++ "<lambda>") ∈ F.T := by rw [hT]; exact List.mem_cons_self
  refine ⟨(LamX.pe_lamcall (T := F.T) (t := fun E σ H Q => ∃ B G0, tE ⟨F.W, B, G0, E, true, []⟩ b σ H Q) hg hm hk lk hcg hb Sg hNg hva hG TB hcode hm' (fun q hq hp => ?_) hr L hdef hbind (fun A outer s H E f c' hr' => ⟨fun pins s' σ H' Q I ⟨B, G0, w⟩ => (hbody A outer s H E f c' B G0 hr').pe.run pins s' σ H' Q I w⟩) hdb hd hcd).imp fun σ H Q h => kept_imp (by rw [hT]; exact List.cons_ne_nil _ _) hx σ H Q h⟩
  rw [hT] at hq
  rw [List.mem_singleton.mp hq]
end

/-! ### the except suite -/
section
variable {F : Fx} {X : Cx} {p pos : Pos}
/-- isinstance(e, C), e the exception in slot i, at a -/
def sExIs (i : Nat) (a : Addr) (b : Bool) : SE := fun δ => match δ[i]? with
  | some (.im (.adr a')) => if a' = a then .ok (.im (.bl b), δ) else .st
  | _ => .st
/-- what a class must have, so that its instances are asked rightly -/
structure XqC (K : PySem.W.Frag) (C : Addr) : Prop where
  hcl : (PySem.W.clsIn K C).isSome = true
  xf : XfC K C
  ha : PySem.W.findIn K (.ref C) "__class__" = some (some (.builtin "object.__class__"))
  hn : PySem.W.specialIn K (.builtin "object.__class__") "__get__" = some (some (.builtin "getset_descriptor.__get__"))
  ht : PySem.W.takesIn K (.builtin "object.__class__") = some true
  hm : PySem.W.mroIn K C (.type "object") = some true
def rIsX (K : PySem.W.Frag) (D a dd : Addr) : List V → Hp → VK → Prop := fun xs H Q => ∃ (c : V) (cv : Value) (b : Bool) (fs : List (Str × V)), xs = [.ref a, c] ∧ (∀ u, RelV c u → u = cv) ∧ PySem.W.kitOne K (.ref D) cv = some b ∧ H dd = some (.xd fs) ∧ Q (.bl b) H
theorem call_isX {a D dd : Addr} {oe : Obj} {pn : List (Addr × Obj)} (C : XqC X.K D) (hz : Zc (.ref D) (some dd) oe) (hf : ∃ vs, oe.data = .fields vs) : CallR (X.suite a ((a, oe) :: pn)) (.builtin "isinstance") (rIsX X.K D a dd) := by
  intro pins s σ H xs us Q I r h
  obtain ⟨c, cv, b, fs, rfl, hcv, e, ea, q⟩ := h
  cases r with
  | cons rx rr =>
    cases rr with
    | cons rt rr =>
      cases rr
      cases rx
      have ec := hcv _ rt
      subst ec
      obtain ⟨hget, _⟩ := I.pin (a, oe) (List.mem_append.mpr (.inl List.mem_cons_self))
      obtain ⟨vs, hd⟩ := hf
      have hx : ObjOk X.prog X.w H s.heap dd (.xd fs) := I.hok dd _ ea
      obtain ⟨mA, hns, hr⟩ := hx
      obtain ⟨od, ho, hl⟩ := lookIn_ns hns
      have J : PySem.W.InstAt s.heap a oe D (some od) := ⟨hget, hz.1, by unfold PySem.W.notCls; rw [hd] <;> rfl, by rw [hz.2]; exact ho⟩
      exact PySem.W.kia_one (PySem.W.kitx_exc C.hcl C.xf.ga C.xf.gg C.xf.exC C.ha C.hn C.ht C.hm) I.kIn J e (fun z => nomatch z) fun tk => ⟨.bl b, H, I.kept (t' := tk) fun _ _ z => z, rfl, q⟩
theorem de_exis {i : Nat} {a D dd : Addr} {oe : Obj} {pn : List (Addr × Obj)} {x : Str} {c : Expr} {cv : V} {u : Value} {b : Bool} {fs : List (Str × V)} (C : XqC X.K D) (hz : Zc (.ref D) (some dd) oe) (hf : ∃ vs, oe.data = .fields vs) (hB : F.B dd = some (.xd fs)) (hg : Gl X "isinstance") (hm : X.mg "isinstance" = none)
    (hx : PE (X.suite a ((a, oe) :: pn)) (.Name x pos) (tVar i)) (hp : PE (X.suite a ((a, oe) :: pn)) c (tC cv)) (hcv : ClsV cv u) (hk : PySem.W.kitOne X.K (.ref D) u = some b)
    (hsc : starEach [c] X.env = (false, eval c X.env) :: starEach [] X.env := by rfl) {p2 p3 : Pos} (hpl : (backTo p3 (starEach [c] X.env)).any (·.1) = false := by rfl) :
    DE F (X.suite a ((a, oe) :: pn)) (.Call (.Name "isinstance" p2) (.Name x pos :: [c]) [] p3) (sExIs i a b) := by
  refine ⟨(pe_callB (call_isX C hz hf) hg hm boot_isinstance (pa_cons hx (pa_cons hp pa_nil hsc) rfl) (by decide) (by decide) rfl hpl).imp fun σ H Q ⟨δ, G, S, w⟩ => ?_⟩
  unfold sExIs at w
  split at w
  · rename_i a' e
    split at w
    · rename_i ea
      subst ea
      obtain ⟨v, h1, h2⟩ := S.im i _ e
      cases h2
      exact ⟨_, h1, cv, u, b, fs, rfl, (fun _ r => hcv.eq r), hk, S.bh _ _ hB, w _ H G S (Same.refl _) (.bl b)⟩
    · exact w.elim
  · exact w.elim
/-- e.given -/
def sExGiv (i : Nat) (a : Addr) (d : D) : SE := fun δ => match δ[i]? with
  | some (.im (.adr a')) => if a' = a then .ok (.im d, δ) else .st
  | _ => .st
theorem de_exgiv {i : Nat} {a C dd : Addr} {oe : Obj} {pn : List (Addr × Obj)} {x n : Str} {v : V} {d : D} {p2 : Pos} (T : XfC X.K C) (hno : PySem.W.findIn X.K (.ref C) n = some none) (hz : Zc (.ref C) (some dd) oe) (hf : ∃ vs, oe.data = .fields vs) (hB : F.B dd = some (.xd [(n, v)])) (hv : Rep F.W F.G0 d v)
    (hx : PE (X.suite a ((a, oe) :: pn)) (.Name x pos) (tVar i)) (hb : attributeBase (.Name x pos) n X.env (eval (.Name x pos) X.env) = eval (.Name x pos) X.env := by rfl) :
    DE F (X.suite a ((a, oe) :: pn)) (.Attribute (.Name x pos) n p2) (sExGiv i a d) := by
  refine ⟨(pe_xf T hno hz hf hx hb).imp fun σ H Q ⟨δ, G, S, w⟩ => ?_⟩
  unfold sExGiv at w
  split at w
  · rename_i a' e
    split at w
    · rename_i ea
      subst ea
      obtain ⟨u, h1, h2⟩ := S.im i _ e
      cases h2
      exact ⟨_, h1, rfl, rfl, dd, _, v, rfl, S.bh _ _ hB, by simp [List.lookup], w _ H G S (Same.refl _) (hv.mono S.g0)⟩
    · exact w.elim
  · exact w.elim
end
/-- the def that calls in a try: try: act() / except x as e: suite; then rest -/
theorem kept_gives {X : Cx} {W : CT} {Ng : List Str} {x xe : Str} {q : Str} {sg : Scope} {g CS : Addr} {cdg : Value} {wordOf : Nat → Option (List Nat)} {noneW : List Nat} {b0 : Stmt} {suite rest : List Stmt} {p1 p2 p3 p4 p5 p6 : Pos} {ssu : Addr → Nat → D → SS} {sre : SS}
    (hge : sg.names.lookup xe = some .globalImplicit) (hme : X.mg xe = some (.ref CS)) (hde : (xe == ("__debug__" : Str)) = false) (hN : Ng.Nodup) (h1 : Ng[1]? = some ("e" : Str)) (hel : sg.names.lookup ("e" : Str) = some .local) (hsw : ∀ env : Env, swapsWith (.Call (.Name "act" p1) [] [] p2) none p6.line env = pure false)
    (hcl : ∀ c C w, W.xcl c = some C → wordOf c = some w → PySem.W.exmOne X.K (.ref C) (.ref CS) = some true)
    (hsu : ∀ (s : Shared) (H : Hp) (a : Addr) (oe : Obj) (pn : List (Addr × Obj)) (c : Nat) (C dd : Addr) (w : List Nat) (B G0 : Hp) (v : V) (d : D), W.xcl c = some C → wordOf c = some w → Zc (.ref C) (some dd) oe → (∃ vs, oe.data = .fields vs) → B dd = some (.xd [("given", v)]) → Rep W G0 d v →
      DSs none ⟨W, B, G0, L2.E0, false, []⟩ ((cxOf C8.CX0 X.prog X.w X.K X.mg X.base Ng x sg g cdg X.A X.stack s H C8.E0).nox.suite a ((a, oe) :: pn)) (b0 :: suite) (ssu a c d))
    (hre : ∀ (s : Shared) (H B G0 : Hp), DSs none ⟨W, B, G0, L2.E0, false, []⟩ (cxOf C8.CX0 X.prog X.w X.K X.mg X.base Ng x sg g cdg X.A X.stack s H C8.E0).nox rest sre)
    (ssu_ok : ∀ a c d w, wordOf c = some w → ∃ δ', ssu a c d ((List.replicate Ng.length SV.no).set 1 (.im (.adr a))) = .ok (.rt (.im (.tup [.str w, d])), δ'))
    (sre_ok : ∃ δ', sre (List.replicate Ng.length SV.no) = .ok (.rt (.im (.tup [.str noneW, .non])), δ')) :
    LamX.GivesTo X Ng x sg g cdg (.Try [.Expr (.Call (.Name "act" p1) [] [] p2) p6] [.ExceptHandler (some (.Name xe p3)) (some "e") (b0 :: suite) p4] [] [] p5 :: rest) "act" q (TKept W wordOf noneW) := by
  intro f c' s H Q tl act hc h
  have hgl : Gl (cxOf C8.CX0 X.prog X.w X.K X.mg X.base Ng x sg g cdg X.A X.stack s H C8.E0).nox xe := hge
  have hl1 : 1 < Ng.length := (List.getElem?_eq_some_iff.mp h1).1
  have blank : ∀ {σ : St} {H' G' : Hp}, σ.length = Ng.length → Same G' H' → SOk ⟨W, H', G', L2.E0, false, []⟩ (List.replicate Ng.length SV.no) σ H' G' := fun {σ H' G'} hl e =>
    have non : ∀ {i : Nat} {x : SV}, (List.replicate Ng.length SV.no)[i]? = some x → x = .no := fun {i x} z => by
      rw [List.getElem?_replicate] at z
      split at z
      · exact (Option.some.inj z).symm
      · cases z
    ⟨by rw [List.length_replicate]; exact hl.symm, Same.refl _, Same.refl _, e, fun _ _ _ _ z => z, fun i d z => (by cases (non z)), fun i c z => (by cases (non z)), fun i j a c c'' z => (by cases (non z)), TbO.nil⟩
  refine ⟨_, pss_cons (ps_try_as (X := (cxOf C8.CX0 X.prog X.w X.K X.mg X.base Ng x sg g cdg X.A X.stack s H C8.E0).nox) (c := .ref CS) (i := 1) (Wout := fun _ _ _ _ => False)
      (tb := fun W' D σ H => ∃ Ech : XK, (∀ cls d σ' H', Ech cls d H' → W' cls d σ' H') ∧ σ[0]? = some (some (.ref f)) ∧ H c' = some (LamX.CodeO c' q) ∧ tl Ech H fun _ H' => D.nx σ H')
      (ts := fun a cls dx Z σ H' => σ.length = Ng.length → ∃ (c : Nat) (C dd : Addr) (v : V) (d : D) (w : List Nat) (G' : Hp), cls = .ref C ∧ W.xcl c = some C ∧ dx = some dd ∧ H' dd = some (.xd [("given", v)]) ∧ Same G' H' ∧ Rep W G' d v ∧ wordOf c = some w ∧ tS none ⟨W, H', G', L2.E0, false, []⟩ (ssu a c d) Z σ H')
      rfl rfl hN h1 hel ⟨hgl, hde, .inl hme⟩ LamX.takes0 (fun W' pn xe' tk _ => ?_) (fun a oe cls dx pn hz hf => ?_)) (u := fun D σ H' => ∃ G', tS none ⟨W, H', G', L2.E0, false, []⟩ sre D σ H') ⟨fun pins s' σ H' D I ⟨G', w⟩ => (hre s H H' G').pss.run pins s' σ H' D I w⟩, ?_⟩
  · refine ⟨fun pins s' σ H' D I h' => ?_⟩
    obtain ⟨Ech, hW, e1, e2, e3⟩ := h'
    exact (pss_one (ps_expr (pos := p6) (act W' pn xe' Ech p1 p2 tk hW) (hsw _))).run pins s' σ H' D I ⟨e1, e2, e3⟩
  · refine ⟨fun pins s' σ H' D I h' => ?_⟩
    have hlen : σ.length = Ng.length := I.len
    obtain ⟨c, C, dd, v, d, w, G', rfl, hC, rfl, hd, hs, hr, hw, ht⟩ := h' hlen
    exact (hsu s H a oe pn c C dd w H' G' v d hC hw hz hf hd hr).pss.run pins s' σ H' D I ht
  · have h0 : (start Ng [V.ref f])[0]? = some (some (V.ref f)) := rfl
    have hl0 : (start Ng [V.ref f]).length = Ng.length := by unfold start; simp; omega
    refine ⟨kWish W wordOf Q, (fun cls dx σ' H' hE => ?_), h0, hc, h _ fun H' hN' => ?_⟩
    · obtain ⟨c, C, dd, v, d, w, G', rfl, hC, hdx, hd, hs, hr, hw, k⟩ := hE
      refine ⟨true, hcl c C w hC hw, fun _ a na hl => ⟨c, C, dd, v, d, w, G', rfl, hC, hdx, hd, hs, hr, hw, ?_⟩, fun z => by cases z⟩
      have hl' : σ'.length = Ng.length := by rw [List.length_set] at hl; exact hl
      refine ⟨(List.replicate Ng.length SV.no).set 1 (.im (.adr a)), G', (blank hl' hs).setIm 1 (.adr a), (fun _ z => by cases z), ?_⟩
      obtain ⟨δ', e⟩ := ssu_ok a c d w hw
      rw [e]
      exact fun u σ2 H2 G2 S2 g2 _ r2 => k u H2 G2 S2.bh g2 S2.gh S2.gn r2
    · obtain ⟨G', hs, k⟩ := hN'
      refine ⟨G', List.replicate Ng.length SV.no, G', blank hl0 hs, (fun _ z => by cases z), ?_⟩
      obtain ⟨δ', e⟩ := sre_ok
      rw [e]
      exact fun u σ2 H2 G2 S2 g2 _ r2 => k u H2 G2 S2.bh g2 S2.gh S2.gn r2
end L2.DI

/-! DIW: defs that make lambdas: their tables of code objects; the law's end. -/
namespace L2.DI
open PySem PySem.Spec PyProof.Rows
theorem SOk.toT {W : CT} {B G0 : Hp} {E : XK} {hot : Bool} {T : List (Addr × Str)} {δ : DS} {σ : St} {H G : Hp} (S : SOk ⟨W, B, G0, E, hot, []⟩ δ σ H G) (t : LamX.Tabs T H) (n : ∀ b ps, G b ≠ some (.tbl ps)) : SOk ⟨W, nTb B, G0, E, hot, T⟩ δ σ H G where
  len := S.len
  bh := fun b u q => S.bh b u (nTb_le b u q)
  g0 := S.g0
  gh := S.gh
  gn := fun b u q => S.gn b u (nTb_le b u q)
  im := S.im
  ow := fun i c q => by
    obtain ⟨a, o, h1, h2, h3, h4, h5⟩ := S.ow i c q
    exact ⟨a, o, h1, h2, h3, h4, nTb_none h5⟩
  ne := S.ne
  tt := ⟨t, fun _ => ⟨nTb_no, n⟩⟩
/-- the end of a call of a def that makes lambdas; its first argument stands at a -/
def SatBT (W : CT) (T : List (Addr × Str)) (a : Addr) (B G0 : Hp) (o : Out (RV × D)) (Q : VK) : Prop := match o with
  | .ok (.im d, c') => ∀ v H' G' o', Same B H' → Same G0 G' → Same G' H' → (∀ b ob, B b = some ob → NT ob → G0 b = none → G' b = none) → H' a = some o' → CRep W G' c' o' → G' a = none → LamX.Tabs T H' → (∀ b ps, G' b ≠ some (.tbl ps)) → Rep W G' d v → Q v H'
  | _ => False
def spBT (W : CT) (T : List (Addr × Str)) (n : Nat) (sem : D → List D → Out (RV × D)) : Sp := fun vs H Q _ => vs.length = n ∧ ∃ a o c vs' ds G, vs = .ref a :: vs' ∧ H a = some o ∧ CRep W G c o ∧ G a = none ∧ Same G H ∧ Reps W G ds vs' ∧ LamX.Tabs T H ∧ (∀ b ps, G b ≠ some (.tbl ps)) ∧ SatBT W T a (nTb (wo H a)) G (sem c ds) Q
def spDT (W : CT) (T : List (Addr × Str)) (n : Nat) (sem : List D → Out RV) : Sp := fun vs H Q _ => vs.length = n ∧ ∃ ds G, Same G H ∧ Reps W G ds vs ∧ LamX.Tabs T H ∧ (∀ b ps, G b ≠ some (.tbl ps)) ∧ (match sem ds with
  | .ok (.im d) => ∀ v H' G', Rep W G' d v → Q v H'
  | _ => False)
section
variable {P : Program} {w : World} {K : PySem.W.Frag} {mg : Str → Option Value} {base : Heap}
theorem fn_coldBT {x qual : Str} {st : Stmt} {f c : Addr} {fd : FuncData} {N ps : List Str} {k n : Nat} {W : CT} {T : List (Addr × Str)} {body : SS} (hT : T ≠ []) (Fn : Fun K x qual st f fd) (hc : fd.code = .ref c) (S : FnScope N ps (defScope st)) (hn : ps.length = n + 1)
    (hb : ∀ (A : Around) (outer : List Env) (s : Shared) (H : Hp) (E : XK) (B G0 : Hp) (a : Addr), Room k (A.deeper (envOfC qual (defScope st) s.heap.objs.size f (.ref c))) → DSs (some a) ⟨W, B, G0, E0, false, T⟩ (cx0 P w K mg base N qual st f (.ref c) A outer s H E) (defBody st) body) :
    FnOk P w K mg base CX0 (k + 1) f fd ps (spBT W T (n + 1) (semB body (N.length - (n + 1)))) := by
  obtain ⟨oc, od, kV, doc, pm, an, cdv, ct, osl, rfl, lk, hcd⟩ := Fn.ex
  have ec : cdv = .ref c := hc
  subst ec
  refine fn_of lk hcd S (fun vs H Q E h => by rw [hn]; exact h.1) fun A outer s H vs Q E hr hsp => ?_
  obtain ⟨hl, a, o, c', vs', ds, G, ev, ha, hcr, hg, e, r, hTb, hno, h⟩ := hsp
  subst ev
  refine ⟨_, (hb A outer s H E (nTb (wo H a)) G a hr).pss.nox, ?_⟩
  have S0 := (startB (hot := false) (E := E0) (N := N) hl ha hcr hg e r).toT hTb hno
  refine ⟨_, G, S0, (fun b z => by cases z; rfl), outD_ok ?_⟩
  unfold semB at h
  cases eo : outD (body (fr0 (.ow c' :: ds.map .im) (N.length - (n + 1)))) with
  | st => rw [eo] at h; exact h
  | ex c fs => rw [eo] at h; exact h.elim
  | ok p =>
    obtain ⟨rv, δ'⟩ := p
    rw [eo] at h
    dsimp only at h
    intro v σ' H' G' S' g z0 q nb
    split at h
    · rename_i c2 e0
      obtain ⟨a', o', k1, k2, k3, k4, k5⟩ := S'.ow 0 _ e0
      have z1 := z0 a rfl
      rw [z1] at k1
      cases k1
      cases rv with
      | im d => exact h v H' G' o' S'.bh g S'.gh S'.gn k2 k3 k4 S'.tt.1 (S'.tt.2 hT).2 q
      | _ => exact h.elim
    · exact h.elim
theorem fn_coldT {x qual : Str} {st : Stmt} {f : Addr} {fd : FuncData} {N ps : List Str} {k n : Nat} {W : CT} {T : List (Addr × Str)} {body : SS} (Fn : Fun K x qual st f fd) (S : FnScope N ps (defScope st)) (hn : ps.length = n)
    (hb : ∀ (cdv : Value) (A : Around) (outer : List Env) (s : Shared) (H : Hp) (E : XK) (B G0 : Hp), Room k (A.deeper (envOfC qual (defScope st) s.heap.objs.size f cdv)) → DSs none ⟨W, B, G0, E0, false, T⟩ (cx0 P w K mg base N qual st f cdv A outer s H E) (defBody st) body) :
    FnOk P w K mg base CX0 (k + 1) f fd ps (spDT W T n (semD body (N.length - n))) := by
  refine Fn.ok S (fun vs H Q E h => by rw [hn]; exact h.1) fun cdv A outer s H vs Q E hr ⟨hl, ds, G, e, r, hTb, hno, h⟩ => ⟨_, (hb cdv A outer s H E (nTb H) G hr).pss, ?_⟩
  have S0 := (start_sok (W := W) (H := H) (G := G) (E := E0) (hot := false) (N := N) e r).toT hTb hno
  refine ⟨_, G, S0, (fun _ z => by cases z), outD_ok ?_⟩
  unfold semD at h
  rw [hl]
  cases eo : outD (body (fr0 (ds.map .im) (N.length - n))) with
  | st => rw [eo] at h; exact h.elim
  | ex c fs => rw [eo] at h; exact h.elim
  | ok p =>
    obtain ⟨rv, δ'⟩ := p
    rw [eo] at h
    intro v σ' H' G' S' g _ q nb
    cases rv with
    | im d => exact h v H' G' q
    | _ => exact h.elim
/-- a def under its name, that makes lambdas -/
structure EntT (P : Program) (w : World) (K : PySem.W.Frag) (mg : Str → Option Value) (base : Heap) (x : Str) (st : Stmt) (k : Nat) (ps : List Str) (sp : Sp) : Prop where
  ex : ∃ f fd, mg x = some (.ref f) ∧ Fun K x x st f fd ∧ FnOk P w K mg base CX0 k f fd ps sp
  bd : ∀ f fd, Fun K x x st f fd → Binds K fd ps []
end
/-- f(o), o a new thing, the answer a value that never changes -/
def sOwnV (sem : D → List D → Out (RV × D)) (a : SE) : SE := fun δ => do
  let (r, δ1) ← a δ
  (match r with
    | .fr c => (do
      let (v, _) ← sem c []
      (match v with
        | .im d => .ok (.im d, δ1)
        | _ => .st))
    | _ => .st)
section
variable {F : Fx} {X : Cx} {pos : Pos}
theorem ownFT_imp {sem : D → List D → Out (RV × D)} {a : SE} (hh : F.hot = false) (hT : F.T ≠ []) (σ : St) (H : Hp) (Q : VK) : tE F (sOwnV sem a) σ H Q → tCall (spBT F.W F.T 1 sem) [] E0 (tCons (tE F a) tNil) σ H Q := by
  rintro ⟨δ, G, S, h⟩
  refine ⟨δ, G, S, ?_⟩
  unfold sOwnV at h
  cases e1 : a δ with
  | st => rw [e1] at h; exact h
  | ex c fs => rw [e1] at h; exact h
  | ok p =>
    obtain ⟨r, δ1⟩ := p
    rw [e1] at h
    simp only [ok_bind] at h
    intro v H1 G1 S1 g1 q1
    split at h
    · rename_i c
      obtain ⟨b, o, rfl, h1, h2, h3, h4, h5⟩ := q1
      refine ⟨rfl, b, o, c, [], [], G1, rfl, h1, h2, h3, S1.gh, .nil, S1.tt.1, (S1.tt.2 hT).2, ?_⟩
      cases e2 : sem c [] with
      | st => rw [e2] at h; exact h
      | ex c fs => rw [e2] at h; exact absurd h.1 (by show F.hot ≠ true; rw [hh]; exact Bool.false_ne_true)
      | ok p =>
        obtain ⟨r', c'⟩ := p
        rw [e2] at h
        simp only [ok_bind] at h
        cases r' with
        | fr c2 => exact h.elim
        | bo j => exact h.elim
        | im d =>
        intro v H2 G2 o2 y1 y2 y3 y4 y5 y6 y7 yT yn y8
        have own : ∀ {j : Nat} {c1 : D} {x : Addr}, δ1[j]? = some (.ow c1) → σ[j]? = some (some (.ref x)) → x ≠ b := fun {j c1 x} ej hx z => h5 j c1 ej (by rw [hx, z])
        have keep : ∀ {x : Addr} {u : HO}, F.B x = some u → nTb (wo H1 b) x = some u := fun {x u} e => nTb_N x u (by rw [wo_ne (ne_of_none e h4)]; exact S1.bh x u e) fun ps z => (S1.tt.2 hT).1 x ps (by rw [← z]; exact e)
        have S2 : SOk F δ1 σ H2 G2 := by
          refine ⟨S1.len, fun x u e => y1 x u (keep e), S1.g0.trans y2, y3, fun x ob hb nt h0 => y4 x ob (keep hb) nt (S1.gn x ob hb nt h0), fun i d e => ?_, fun i c1 e => ?_, S1.ne, ⟨yT, fun z => ⟨(S1.tt.2 z).1, yn⟩⟩⟩
          · obtain ⟨w, z1, z2⟩ := S1.im i d e
            exact ⟨w, z1, z2.mono y2⟩
          · obtain ⟨x, u, z1, z2, z3, z4, z5⟩ := S1.ow i c1 e
            have nx := own e z1
            have kx : nTb (wo H1 b) x = some u := nTb_N x u (by rw [wo_ne nx]; exact z2) z3.nx.1
            exact ⟨x, u, z1, y1 x u kx, z3.mono y2, y4 x u kx z3.nt z4, z5⟩
        exact h v H2 G2 S2 (g1.trans y2) y8
    · exact False.elim h
theorem de_ownFT {k : Nat} {st : Stmt} {ps : List Str} {sem : D → List D → Out (RV × D)} {x : Str} {p : Pos} {e : Expr} {a : SE} (hh : F.hot = false) (hT : F.T ≠ []) (En : EntT X.prog X.w X.K X.mg X.base x st k ps (spBT F.W F.T 1 sem)) (hr : Room k X.A) (hg : Gl X x)
    (ha : DE F X e a) (hdb : (x == ("__debug__" : Str)) = false := by decide) (he : starEach (e :: []) X.env = (false, eval e X.env) :: starEach [] X.env := by rfl) (hpl : (backTo pos (starEach [] X.env)).any (·.1) = false := by rfl) :
    DE F X (.Call (.Name x p) (e :: []) [] pos) (sOwnV sem a) := by
  obtain ⟨⟨f, fd, h1, h2, h3⟩, hb⟩ := En
  exact ⟨(pe_call h3 hr hg h1 h2.kp (hb f fd h2) .nil (pass0 (X := X)) (pa_cons ha.pe pa_nil he) hdb he hpl).imp fun σ H Q h => ownFT_imp hh hT σ H Q h⟩
end
/-- a def's code object is the one of its table -/
theorem tab_cd {K : PySem.W.Frag} {x : Str} {f c P : Addr} {oc : Value} {od : Option Addr} {fd : FuncData} {osl : Array (Option Value)} (a : PySem.W.nsIn K mainGlobals x = some (some (.ref f))) (l : K.lookup f = some ⟨oc, od, .func fd, osl⟩) (t : PySem.W.tabIn K x = some (c, P)) : fd.code = .ref c := by
  unfold PySem.W.tabIn at t
  rw [a] at t
  dsimp only at t
  rw [l] at t
  dsimp only at t
  split at t
  · rename_i c' e
    rw [e]
    split at t
    · split at t
      · cases t; rfl
      · cases t
    · cases t
  · cases t
theorem walk_ofTT {l : PySem.W.OpenLaw} {n k : Nat} {q : Program} {loose : List Str} {XP : (Str → Option Value) → Heap → Prop} {YP : World → Heap → Prop} {d : DefRec} {K : Params → PySem.W.Frag} {x : Str}
    (hn : l.most = some n) (hn2 : n ≤ sizeLine) (hdf : d.params.defaults = []) (hr : Room k callerA) (hY : ∀ (w : World) (h : Heap), YP w h → (K w.params).In h)
    (F : ∀ (w : World) (mg : Str → Option Value) (fa : Addr) (h : Heap), (K w.params).In h → h.Ns mainGlobals mg → mg d.name = some (.ref fa) →
      ∃ (fd : FuncData) (c P : Addr) (sp : Sp) (nm : Str), ((recsOf q).find? (fun e => e.name == nm)).isSome = true ∧ PySem.W.tabIn (K w.params) nm = some (c, P) ∧ (K w.params).lookup P = none ∧ (∀ (s : Shared) (u : Value), BindsTo s fd ⟨[u], []⟩ [(x, u)]) ∧
        (∀ (H : Hp) (a : Addr) (ns : List Int), ns.length ≤ n → H P = some (.tbl #[]) → SqL (K w.params) H a (ns.map V.int) → sp [.ref a] H (fun v _ => v = .bl true) fun _ _ _ => False) ∧
        ∀ base : Heap, (K w.params).In base → base.Ns mainGlobals mg → LamX.TabB base mg c P → FnOk l.prog w (K w.params) mg base CX0 k fa fd [x] sp) :
    PySem.W.WalkO q loose XP YP l.row.toRowW d [] (fun f vs => PySem.call f vs) := by
  refine Att.attach_callB hn hdf fun w s₀ s₁ mg mb fa o pm cd doc a vs ns G Y ho hd hcd hmg hobj hints hlen hbits hg => ?_
  have KX := hY w _ Y
  obtain ⟨fd, c, P, sp, nm, hre, ht, hP, hb, hsp, hF⟩ := F w mg fa _ KX G.T.g hmg
  obtain ⟨d', hd'⟩ := Option.isSome_iff_exists.mp hre
  obtain ⟨C, hT⟩ := PySem.W.tab_of G.T KX hd' ht
  refine LamX.law_callTs (cs := [(c, P)]) KX G.T.g G.T.b G.T.builtins G.T.nolimit hg (fun p hp => ?_) (fun p hp => ?_) (fun p hp => ?_) G.T.bmain hobj hints (Nat.le_trans hlen hn2) hr (fun base b1 b2 b3 => hF base b1 b2 (b3 _ List.mem_cons_self)) hb (fun H hH hS => hsp H a ns hlen (hH _ List.mem_cons_self) hS) fun H e s' z => z
  · rw [List.mem_singleton.mp hp]; exact hT
  · rw [List.mem_singleton.mp hp]; exact hP
  · rw [List.mem_singleton.mp hp]; exact C
theorem law_spT {W : CT} {P : Addr} {nm : Str} {m : List D → Out RV} {ns : List Int} (hm : m [.kls (ns.map .int)] = .ok (.im (.bl true))) {H : Hp} {a : Addr} (hP : H P = some (.tbl #[])) (hS : SqL W.K H a (ns.map V.int)) : spDT W [(P, nm)] 1 m [.ref a] H (fun v _ => v = .bl true) fun _ _ _ => False := by
  refine ⟨rfl, [.kls (ns.map .int)], nTb H, nTb_le, .cons (.kls (nTb_N.seqL hS) (reps_ints ns)) .nil, fun p hp => ?_, nTb_no, ?_⟩
  · rw [List.mem_singleton.mp hp]; exact .nil hP
  · rw [hm]
    intro v H' G' r
    cases r; rfl
theorem tab_mk {K : PySem.W.Frag} {x : Str} {f c P : Addr} {oc oc0 : Value} {od od0 : Option Addr} {fd : FuncData} {osl osl0 : Array (Option Value)} {vs : Array Value} (a : PySem.W.nsIn K mainGlobals x = some (some (.ref f))) (l : K.lookup f = some ⟨oc, od, .func fd, osl⟩) (hc : fd.code = .ref c) (lc : K.lookup c = some ⟨oc0, od0, .fields vs, osl0⟩) (hv : (vs[11]? : Option Value) = some (.ref P)) : PySem.W.tabIn K x = some (c, P) := by
  unfold PySem.W.tabIn
  rw [a]
  dsimp only
  rw [l]
  dsimp only
  rw [hc]
  dsimp only
  rw [lc]
  dsimp only
  rw [hv]
end L2.DI

/-! DIX: the own classes of exceptions as the written part has them; == of empty dicts. -/
namespace L2.DI
open PySem PySem.Spec PyProof.Rows
def oexB (K : PySem.W.Frag) (C : Addr) : Bool := match K.lookup C with
  | some ⟨.type "type", _, .cls cd, sl⟩ => (match cd.mro, sl.toList with
    | .ref C' :: bm, [_, _, _, _, some (.builtin n), _] => C' == C && n == "ValueError.__new__" && !cd.hasDel && cd.hasDict && PySem.HandSPX.refsVE bm
    | _, _ => false)
  | _ => false
theorem oexB_ok {K : PySem.W.Frag} {C : Addr} (q : oexB K C = true) : ∃ nm q N bs bm sn sub ab col dd k0 k1 k2 k3 k5, K.lookup C = some (excClassObj nm q C N bs bm true sn sub ab col dd k0 k1 k2 k3 k5 "ValueError.__new__") ∧ PySem.HandSPX.refsVE bm = true := by
  unfold oexB at q
  split at q
  · rename_i dd cd sl ho
    split at q
    · rename_i C' bm k0 k1 k2 k3 n k5 hm hs
      simp only [Bool.and_eq_true, beq_iff_eq, Bool.not_eq_true'] at q
      obtain ⟨⟨⟨⟨rfl, rfl⟩, hdel⟩, hdc⟩, ht⟩ := q
      obtain ⟨nm, bs, mro, ns, qn, hd, sn, sub, ab, col, del⟩ := cd
      dsimp only at hm hdel hdc
      subst hm hdel hdc
      have hsl : sl = #[k0, k1, k2, k3, some (.builtin "ValueError.__new__"), k5] := by
        obtain ⟨l⟩ := sl
        simp only at hs
        rw [hs]
      subst hsl
      exact ⟨nm, qn, ns, bs, bm, sn, sub, ab, col, dd, k0, k1, k2, k3, k5, ho, ht⟩
    · cases q
  · cases q
/-- a class of exceptions behind the top, its __init__ the text st -/
structure XCl (K : PySem.W.Frag) (mg : Str → Option Value) (x q : Str) (C : Addr) (st : Stmt) : Prop where
  gC : mg x = some (.ref C)
  T : OexC K C
  no : PySem.W.findIn K (.ref C) "given" = some none
  ex : ∃ fI fd, PySem.W.findIn K (.ref C) "__init__" = some (some (.ref fI)) ∧ PySem.W.typeIn K (.ref fI) = some (.type "function") ∧ Fun K "__init__" q st fI fd
theorem oex_mk {K : PySem.W.Frag} {C : Addr} (h1 : oexB K C = true) (h2 : PySem.W.findIn K (.ref C) "__setattr__" = some (some (.builtin "object.__setattr__"))) (h3 : PySem.W.subIn K (.ref C) (.type "BaseException") = some true) (h4 : PySem.W.typeIn K (.ref C) = some (.type "type")) (h5 : PySem.W.keepIn K (.ref C) = true) : OexC K C := ⟨oexB_ok h1, h2, h3, h4, h5⟩
theorem xce_mk {P : Program} {w : World} {K : PySem.W.Frag} {mg : Str → Option Value} {base : Heap} {x q : Str} {C : Addr} {st : Stmt} (h : XCl K mg x q C st)
    (hf : ∀ fI fd, Fun K "__init__" q st fI fd → FnOk P w K mg base CX0 1 fI fd ["self", "given"] (spI K) ∧ Binds K fd ["self", "given"] []) : XcE P w K mg base x C := by
  obtain ⟨fI, fd, h1, h2, h3⟩ := h.ex
  obtain ⟨h4, h5⟩ := hf fI fd h3
  exact ⟨h.gC, h.T, h.no, fI, fd, h1, h2, h4, h5⟩
/-- classes by number -/
def xcOf (l : List (Nat × Addr)) (c : Nat) : Option Addr := (l.find? fun p => p.1 == c).map (·.2)
theorem xc_mem {l : List (Nat × Addr)} {c : Nat} {C : Addr} (h : xcOf l c = some C) : (c, C) ∈ l := by
  unfold xcOf at h
  cases q : l.find? fun p => p.1 == c with
  | none => rw [q] at h; cases h
  | some p =>
    rw [q] at h
    have e1 := List.find?_some q
    have e2 := List.mem_of_find?_eq_some q
    obtain ⟨a, b⟩ := p
    have e : a = c := by simpa using e1
    cases e; cases h
    exact e2
/-! ### == where both may be empty dicts -/
def fEqE (d e : D) : Out RV := match d, e with
  | .dK [], .dK [] => .ok (.im (.bl true))
  | d, e => fEq false d e
section
variable {F : Fx} {X : Cx}
theorem r_eqE (hu : X.A.units + 64 < cLine) : OpR X (compareOp .Eq) (fun x y H Q => rEqD2 X.K false x y H Q ∨ rEqV X.K x y H Q) := OpR.or (r_eq hu) (op_eqV hu)
theorem o_eqE (hK : F.W.K = X.K) : Op2 X F (fun x y H Q => rEqD2 X.K false x y H Q ∨ rEqV X.K x y H Q) fEqE := by
  intro δ σ H G d1 d2 x y Q S h1 h2 h
  unfold fEqE at h
  split at h
  · obtain ⟨a, xs, rfl, q1, k1, _⟩ := h1.dK S.gh
    obtain ⟨b, ys, rfl, q2, k2, _⟩ := h2.dK S.gh
    have e1 : xs = [] := by simpa using k1.symm
    have e2 : ys = [] := by simpa using k2.symm
    subst e1 e2
    exact .inr ⟨0, by omega, .inr ⟨a, b, [], [], rfl, rfl, q1, q2, rfl, fun p hp => nomatch hp⟩, h.im S (.bl _)⟩
  · exact .inl (o_eq hK false δ σ H G d1 d2 x y Q S h1 h2 h)
end
/-! ### the def that calls in a try -/
structure KeptE (X : Cx) (W : CT) (x : Str) (wordOf : Nat → Option (List Nat)) (noneW : List Nat) : Prop where
  ex : ∃ (g : Addr) (oc : Value) (od an : Option Addr) (pg : Arguments) (bg : List Stmt) (sg : Scope) (dV kV doc pm cdv ct : Value) (osl : Array (Option Value)) (Ng : List Str), X.mg x = some (.ref g) ∧ PySem.W.keepIn X.K (.ref g) = true ∧
    X.K.lookup g = some ⟨oc, od, .func (PySem.W.fnOf x x pg bg sg dV kV doc pm an cdv ct), osl⟩ ∧ PySem.W.codeIn X.K cdv x = true ∧ L2.Binds X.K (PySem.W.fnOf x x pg bg sg dV kV doc pm an cdv ct) ["act"] [] ∧ FnScope Ng ["act"] sg ∧ Ng[0]? = some ("act" : Str) ∧ Vis sg "act" ∧
    ∀ q, LamX.GivesTo X Ng x sg g cdv bg "act" q (TKept W wordOf noneW)
theorem kept_mk {X : Cx} {W : CT} {x : Str} {st : Stmt} {Ng : List Str} {wordOf : Nat → Option (List Nat)} {noneW : List Nat} (Fa : FunAt X.K X.mg x st) (S : FnScope Ng ["act"] (defScope st)) (h0 : Ng[0]? = some ("act" : Str)) (hv : Vis (defScope st) "act")
    (hb : ∀ (kV doc pm : Value) (an : Option Addr) (cdv ct : Value) (us : List Value), us.length = ["act"].length → bindArgs (PySem.W.fnOf x x (defArgs st) (defBody st) (defScope st) .none kV doc pm an cdv ct) ⟨us, []⟩ = pure ((["act"] : List Str).zip us))
    (hg : ∀ (g : Addr) (cdg : Value) (q : Str), LamX.GivesTo X Ng x (defScope st) g cdg (defBody st) "act" q (TKept W wordOf noneW)) : KeptE X W x wordOf noneW := by
  obtain ⟨g, fd, hm, Fn⟩ := Fa
  have b := Fn.binds (ps := ["act"]) hb
  obtain ⟨oc, od, kV, doc, pm, an, cdv, ct, osl, rfl, lk, hcd⟩ := Fn.ex
  exact ⟨g, oc, od, an, _, _, _, _, kV, doc, pm, cdv, ct, osl, Ng, hm, Fn.kp, lk, hcd, b, S, h0, hv, fun q => hg g cdv q⟩
theorem tk_lam {X : Cx} {A : Around} {outer : List Env} {s : Shared} {H : Hp} {E : XK} {scope : Scope} {f c' : Addr} : Takes (LamX.lamCx X A outer s H E scope f c') (fun cls d _ H => E cls d H) := takes_of rfl rfl rfl rfl
theorem de_keptE {F : Fx} {X : Cx} {wordOf : Nat → Option (List Nat)} {noneW : List Nat} {fz : List Nat} {b : SE} {x : Str} {c P : Addr} {k : Nat} {params : Arguments} {body : Expr} {scope : Scope} {p lpos pos : Pos} (En : KeptE X F.W x wordOf noneW) (hT : F.T = [(P, X.env.qual ++ "<lambda>")]) (hx : ∀ c w, wordOf c = some w → xname c = "given") (hg : Gl X x)
    (TB : LamX.TabB X.base X.mg c P) (hcode : X.env.code = .ref c) (hr : Room (k + 2) X.A) (L : LamX.LamS X.env.scope scope) (hdef : defaultsOf params X.env = ([], []))
    (hbind : ∀ (q : Str) (cl : List (Str × Addr)) (pm cv ctv : Value), bindArgs (PySem.W.kla_fn "<lambda>" q params body scope cl pm cv ctv) ⟨[], []⟩ = pure [])
    (hbody : ∀ (A : Around) (outer : List Env) (s : Shared) (H : Hp) (E : XK) (f c' : Addr) (B G0 : Hp), Room k (A.deeper (LamX.lamEnv X scope s.heap.objs.size f c')) → Passes (L2.CX X.prog X.w) (LamX.lamCx X A outer s H E scope f c') E → DE ⟨F.W, B, G0, E, true, []⟩ (LamX.lamCx X A outer s H E scope f c') body b)
    (hdb : (x == ("__debug__" : Str)) = false := by decide) : DE F X (.Call (.Name x p) [.Lambda params body scope lpos] [] pos) (sKept wordOf noneW fz b) := by
  obtain ⟨g, oc, od, an, pg, bg, sg, dV, kV, doc, pm, cdv, ct, osl, Ng, h1, h2, h3, h4, h5, h6, h7, h8, h9⟩ := En.ex
  exact de_kept hT hx hg h1 h2 h3 h4 h5 h6 h7 h8 (h9 _) TB hcode hr L hdef hbind (fun A outer s H E f c' B G0 hr => hbody A outer s H E f c' B G0 hr (px_of tk_lam)) hdb
end L2.DI

/-! DIY: text.upper(); functions of the module as values, called by a local name. -/
namespace L2.DI
open PySem PySem.Spec PyProof.Rows
def sUp (a : SE) : SE := fun δ => do
  let (r, δ1) ← opd (a δ)
  (match r with
    | .im (.str l) => if l.length ≤ 5592405 then .ok (.im (.str (l.map up1)), δ1) else .st
    | _ => .st)
theorem up1_lt : ∀ c, c < 128 → up1 c < 128 := by decide +kernel
theorem asc_up {l : List Nat} (h : asc l = true) : asc (l.map up1) = true := by
  refine List.all_eq_true.mpr fun c hc => ?_
  obtain ⟨x, hx, rfl⟩ := List.mem_map.1 hc
  exact decide_eq_true (up1_lt x (of_decide_eq_true (List.all_eq_true.mp h x hx)))
section
variable {F : Fx} {X : Cx} {pos : Pos}
theorem de_upper {o : Expr} {a : SE} {apos : Pos} (ha : DE F X o a) (hbase : attributeBase o "upper" X.env (eval o X.env) = eval o X.env := by rfl) (hline : (apos.endLine == pos.line) = true := by rfl) :
    DE F X (.Call (.Attribute o "upper" apos) [] [] pos) (sUp a) := by
  refine ⟨(pe_upper ha.pe hbase hline).imp fun σ H Q ⟨δ, G, S, w⟩ => ⟨δ, G, S, opd_ok (R := fun _ _ _ _ _ => True) ?_⟩⟩
  unfold sUp at w
  cases e1 : opd (a δ) with
  | st => rw [e1] at w; exact w
  | ex c fs => rw [e1] at w; exact w
  | ok p =>
    obtain ⟨r, δ1⟩ := p
    rw [e1] at w
    intro x H1 G1 S1 g1 q1
    simp only [ok_bind] at w
    split at w
    · rename_i l
      by_cases hl : l.length ≤ 5592405
      · rw [if_pos hl] at w
        cases q1 with
        | str _ hA =>
          refine ⟨⟨_, rfl⟩, mk l, rfl, rfl, by rw [mk_len]; exact hl, ?_⟩
          have e : Txt.upper (mk l) = mk (l.map up1) := SX.upper_S hA
          rw [e]
          exact w _ H1 G1 S1 g1 (.str _ (asc_up hA))
      · rw [if_neg hl] at w; exact w.elim
    · exact w.elim
end

/-! ### text * number -/
def repL (l : List Nat) (n : Nat) : List Nat := (List.replicate n l).flatten
theorem fold_rep (a : Array Nat) : ∀ (n : Nat) (acc : Array Nat), ((List.replicate n a).foldl (· ++ ·) acc).toList = acc.toList ++ (List.replicate n a.toList).flatten
  | 0, acc => by simp
  | n + 1, acc => by
    rw [List.replicate_succ, List.foldl_cons, fold_rep a n, List.replicate_succ, List.flatten_cons, Array.toList_append, List.append_assoc]
theorem mk_rep (l : List Nat) (n : Nat) : (⟨(List.replicate n (mk l).cps).foldl (· ++ ·) #[]⟩ : Str) = mk (repL l n) := by
  have h := fold_rep (mk l).cps n #[]
  rw [show (#[] : Array Nat).toList = [] from rfl, List.nil_append] at h
  have h2 := congrArg List.toArray h
  rw [Array.toArray_toList] at h2
  rw [h2]
  rfl
theorem repL_len (l : List Nat) (n : Nat) : (repL l n).length = n * l.length := by unfold repL; simp
def rRepTx : R2 := fun x y H Q => ∃ (l : List Nat) (n : Int), x = .str (mk l) ∧ y = .int n ∧ 1 ≤ n ∧ n ≤ 1000 ∧ 1 ≤ l.length ∧ l.length ≤ 1000 ∧ Q (.str (mk (repL l n.toNat))) H
theorem op_repTx {X : Cx} : OpR X (binaryOp .Mult) rRepTx := by
  intro pins s σ H x y v u Q I rx ry h
  obtain ⟨l, n, rfl, rfl, h1, h2, h3, h4, q⟩ := h
  obtain ⟨t, rfl⟩ := rx
  obtain ⟨t', rfl⟩ := ry
  have hlen : (mk l).length = l.length := mk_len l
  have hm : l.length * n.toNat ≤ 1000000 := by
    have : l.length * n.toNat ≤ 1000 * 1000 := Nat.mul_le_mul h4 (by omega)
    omega
  refine PySem.P.mul_str ?_ (fun _ _ => ?_) (fun _ _ => ?_) ?_
  · have a : ¬ n < -(2 ^ 63 : Int) := by omega
    have b : ¬ n ≥ 2 ^ 63 := by omega
    rw [decide_eq_false a, decide_eq_false b]; rfl
  · rw [hlen]
    have h5 : (9223372036854774 : Int) ≤ (2 ^ 63 - 1) / n := by
      rw [Int.le_ediv_iff_mul_le (by omega)]
      have : (9223372036854774 : Int) * n ≤ 9223372036854774 * 1000 := Int.mul_le_mul_of_nonneg_left (by omega) (by omega)
      omega
    omega
  · rw [hlen]
    have : l.length * n.toNat ≤ sizeLine := by unfold sizeLine; omega
    exact PyProof.Rows.short24 this
  · rw [if_neg (by omega)]
    by_cases e : n = 1
    · subst e
      rw [if_pos (by rfl)]
      refine ⟨.str (mk l), H, I, ⟨_, rfl⟩, ?_⟩
      have : repL l (1 : Int).toNat = l := by show ([l] : List (List Nat)).flatten = l; simp
      rw [this] at q
      exact q
    · have hne : (n == 1 || (mk l).length == 0) = false := by
        rw [hlen]
        simp
        exact ⟨e, by intro z; subst z; simp at h3⟩
      rw [if_neg (by rw [hne]; decide), mk_rep]
      refine ⟨by rw [mk_len, repL_len, Nat.mul_comm]; unfold sizeLine; omega, .str (mk (repL l n.toNat)), H, I.tok _, ⟨_, rfl⟩, q⟩
theorem asc_rep {l : List Nat} (h : asc l = true) (n : Nat) : asc (repL l n) = true := by
  refine List.all_eq_true.mpr fun c hc => List.all_eq_true.mp h c ?_
  obtain ⟨m, hm, hc⟩ := List.mem_flatten.1 hc
  rw [List.eq_of_mem_replicate hm] at hc
  exact hc
section
variable {F : Fx} {X : Cx}
noncomputable def fMulS : D → D → Out RV
  | .str l, .int n => if 1 ≤ n ∧ n ≤ 1000 ∧ 1 ≤ l.length ∧ l.length ≤ 1000 then .ok (.im (.str (repL l n.toNat))) else .st
  | a, b => fMulT a b
theorem r_mulS : OpR X (binaryOp .Mult) (fun x y H Q => rRepTx x y H Q ∨ (rOnceT X.K x y H Q ∨ ((rI CMul fun i j => V.int (i * j)) x y H Q ∨ rRep x y H Q ∨ rRepT X.K x y H Q))) := OpR.or op_repTx r_mulT
theorem o_mulS (hK : F.W.K = X.K) : Op2 X F (fun x y H Q => rRepTx x y H Q ∨ (rOnceT X.K x y H Q ∨ ((rI CMul fun i j => V.int (i * j)) x y H Q ∨ rRep x y H Q ∨ rRepT X.K x y H Q))) fMulS := by
  intro δ σ H G d1 d2 x y Q S h1 h2 h
  by_cases hc : ∃ l n, d1 = .str l ∧ d2 = .int n
  · obtain ⟨l, n, rfl, rfl⟩ := hc
    unfold fMulS at h
    dsimp only at h
    by_cases hh : 1 ≤ n ∧ n ≤ 1000 ∧ 1 ≤ l.length ∧ l.length ≤ 1000
    · rw [if_pos hh] at h
      obtain ⟨rfl, ha⟩ := h1.str
      obtain rfl := h2.int
      exact .inl ⟨l, n, rfl, rfl, hh.1, hh.2.1, hh.2.2.1, hh.2.2.2, SatV.im h S (.str _ (asc_rep ha _))⟩
    · rw [if_neg hh] at h; exact h.elim
  · have e : fMulS d1 d2 = fMulT d1 d2 := by
      unfold fMulS
      split
      · exact absurd ⟨_, _, rfl, rfl⟩ hc
      · rfl
    rw [e] at h
    exact .inr (o_mulT hK δ σ H G d1 d2 x y Q S h1 h2 h)
end

/-! ### min(text) -/
def rMinS : List V → Hp → VK → Prop := fun xs H Q => ∃ (l : List Nat) (m : Nat), xs = [V.str (mk l)] ∧ asc l = true ∧ m ∈ l ∧ (∀ c ∈ l, m ≤ c) ∧ Q (.str ⟨#[m]⟩) H
theorem cr_minS {X : Cx} (hc : X.calm = true) : CallR X (.builtin "min") rMinS := by
  intro pins s σ H xs us Q I r h
  obtain ⟨l, m, e, ha, hm, hle, q⟩ := h
  subst e
  obtain ⟨u, rfl, rx⟩ := r.one
  obtain ⟨t, rfl⟩ := rx
  have hn : 0 < l.length := List.length_pos_of_mem hm
  have hsz : (mk l).cps.size = l.length := by simp [mk]
  have hasc : (mk l).cps.all (· < 128) = true := by
    have : l.all (· < 128) = true := ha
    simpa [mk] using this
  have hst : strIterType (mk l) = "str_ascii_iterator" := by unfold strIterType; rw [if_pos hasc]
  let num : Nat → Int := fun i => ((l[i]?.getD 0 : Nat) : Int)
  refine PySem.call_min_walk (wpAny_pyIter_strU ?_)
  rw [hst]
  refine ⟨s.heap.objs.size, [s.heap.objs.size], [s.heap.objs.size], (mk l).cps.size, SignAt (mk l), _, fun i j => decide (num i < num j), rfl, Walks.strAscii (A := X.A.in1) (show X.A.in1.handled = none from I.ok.hd hc) _ (mk l) t, ?_, ?_, by omega, ?_, ?_⟩
  · exact ⟨_, Heap.get?_push_size _ rfl, rfl, rfl⟩
  · intro b hb
    rw [List.mem_singleton.1 hb, Heap.size_push]
    exact Nat.lt_succ_self _
  · intro i j vi vj s' Q' E' hi hj hq
    obtain ⟨c, u, h1, rfl⟩ := hi
    obtain ⟨d, v, h2, rfl⟩ := hj
    have n1 : num i = c := by
      have : l[i]? = some c := by simpa [mk] using h1
      simp [num, this]
    have n2 : num j = d := by
      have : l[j]? = some d := by simpa [mk] using h2
      simp [num, this]
    refine PyProof.Rows.lt_str ?_
    have e : (decide ((⟨#[c]⟩ : Str).cps.toList < (⟨#[d]⟩ : Str).cps.toList)) = decide (num i < num j) := by
      rw [n1, n2]
      refine decide_eq_decide.mpr ?_
      show ([c] < [d]) ↔ _
      constructor
      · intro z
        cases z with
        | rel z => exact Int.ofNat_lt.mpr z
        | cons z => cases z
      · intro z; exact .rel (Int.ofNat_lt.mp z)
    rw [e]
    exact hq
  · intro v h' tk hP keep
    obtain ⟨b1, b2⟩ := PySem.argBest_lt num ((mk l).cps.size - 1)
    obtain ⟨c, u, h1, rfl⟩ := hP
    have h1 : l[argBest (fun i j => decide (num i < num j)) ((mk l).cps.size - 1)]? = some c := by simpa [mk] using h1
    have nc : num (argBest (fun i j => decide (num i < num j)) ((mk l).cps.size - 1)) = c := by
      show (((l[argBest (fun i j => decide (num i < num j)) ((mk l).cps.size - 1)]?).getD 0 : Nat) : Int) = _
      rw [h1]; rfl
    obtain ⟨i, hi, ei⟩ := List.mem_iff_getElem.1 hm
    have c1 := b2 i (by omega)
    have ni : num i = m := by simp [num, List.getElem?_eq_getElem hi, ei]
    rw [nc, ni] at c1
    have c2 := hle c (List.mem_of_getElem? h1)
    have : c = m := by omega
    subst this
    exact ⟨.str ⟨#[c]⟩, H, I.kept (t' := tk) fun b o e => keep b o (by
      intro hb
      rw [List.mem_singleton.1 hb] at e
      exact absurd (Heap.lt_size e) (Nat.lt_irrefl _)) (Heap.get?_push_of_some _ e), ⟨_, rfl⟩, q⟩
def fMinT : D → Out RV
  | .str (c :: l) => .ok (.im (.str [l.foldl min c]))
  | d => fMinX d
theorem fold_min : ∀ (l : List Nat) (c : Nat), l.foldl min c ∈ c :: l ∧ ∀ y ∈ c :: l, l.foldl min c ≤ y
  | [], c => ⟨by simp, fun y hy => by simp at hy; subst hy; exact Nat.le_refl _⟩
  | b :: l, c => by
    obtain ⟨i1, i2⟩ := fold_min l (min c b)
    rw [List.foldl_cons]
    have i3 := i2 (min c b) List.mem_cons_self
    refine ⟨?_, fun y hy => ?_⟩
    · rcases List.mem_cons.1 i1 with z | z
      · rw [z]
        rcases Nat.le_total c b with q | q
        · rw [Nat.min_eq_left q]; simp
        · rw [Nat.min_eq_right q]; simp
      · simp [z]
    · rcases List.mem_cons.1 hy with rfl | hy
      · exact Nat.le_trans i3 (Nat.min_le_left _ _)
      · rcases List.mem_cons.1 hy with rfl | hy
        · exact Nat.le_trans i3 (Nat.min_le_right _ _)
        · exact i2 y (List.mem_cons_of_mem _ hy)
section
variable {F : Fx} {X : Cx}
theorem cr_minT (hu : X.A.units + 64 < cLine) (hc : X.calm = true) : CallR X (.builtin "min") (fun xs H Q => rMinS xs H Q ∨ (rMin X.K xs H Q ∨ rMinD X.K xs H Q)) := CallR.or (cr_minS hc) (cr_minX hu hc)
theorem o_minT (hK : F.W.K = X.K) : CallOk F (fun xs H Q => rMinS xs H Q ∨ (rMin X.K xs H Q ∨ rMinD X.K xs H Q)) (f1 fMinT) := by
  refine call1 fun δ σ H G d v Q S q h => ?_
  by_cases hd : ∃ c l, d = .str (c :: l)
  · obtain ⟨c, l, rfl⟩ := hd
    have h : SatV F (.ok (.im (.str [l.foldl min c]))) δ σ G Q := h
    obtain ⟨rfl, ha⟩ := q.str
    obtain ⟨m1, m2⟩ := fold_min l c
    exact .inl ⟨c :: l, l.foldl min c, rfl, ha, m1, m2, h.im S (.str [l.foldl min c] (by
      have := List.all_eq_true.mp ha _ m1
      simpa [asc] using this))⟩
  · have e : fMinT d = fMinX d := by
      unfold fMinT
      split
      · exact absurd ⟨_, _, rfl⟩ hd
      · rfl
    rw [e] at h
    exact .inr (o_minX (F := F) hK δ σ H G [d] [v] Q S (.cons q .nil) h)
end

/-! ### enumerate(text) -/
def IteS (x : Str) : It :=
  ⟨fun i _ => i < x.cps.size, fun i H v H' => ∃ T c, v = .ref T ∧ H T = none ∧ H' = upd H T (.tup [.int (i : Nat), .str ⟨#[c]⟩]) ∧ x.cps[i]? = some c, fun i _ => x.cps.size ≤ i⟩
theorem turn_enumS {P : Program} {w : World} {K : PySem.W.Frag} {elts : List Expr} {kk : Nat} {tpos : Pos} (x : Str) (t : Tok) (e it : Addr) :
    Turn P w K (.Tuple elts kk tpos) (IteS x) [e, it] e (fun i h => (∃ old, IsEnum h e it ((i : Nat) : Int) old) ∧ h.IsStrIter it (strIterType x) x t i ∧ e ≠ it) where
  mem := by simp
  obj := fun i h st b hb => by
    obtain ⟨⟨old, he⟩, ⟨o, ho, hc, hd⟩, _⟩ := st
    rcases (show b = e ∨ b = it by simpa using hb) with rfl | rfl
    · exact ⟨_, he, fun v q => nomatch q⟩
    · exact ⟨o, ho, fun v q => by rw [hd] at q; cases q⟩
  keep := fun i h h' st k => by
    obtain ⟨⟨old, he⟩, ⟨o, ho, r⟩, hne⟩ := st
    exact ⟨⟨old, k e (by simp) _ he⟩, ⟨o, k it (by simp) o ho, r⟩, hne⟩
  item := by
    intro X hP hw hK hc i pins s σ H E I hf st hg
    subst hP hw hK
    obtain ⟨⟨old, he⟩, hit, hne⟩ := st
    have hel : e < s.heap.objs.size := Heap.lt_size he
    have hil : it < s.heap.objs.size := by obtain ⟨_, q, _⟩ := hit; exact Heap.lt_size q
    have D := Draws.text (prog := X.prog) (w := X.w) (A := X.A.in1) (I.ok.hd hc) it x t
    refine wpAny_pyNext_enum_itemC D he hit hg hne (by simp [hne]) fun x' h' tk hPx ho hst' hT hsz hk => ?_
    obtain ⟨c, u, hcx, rfl⟩ := hPx
    refine ⟨_, rfl, wpAny_letOwnedTupleGo_enum (s := { s with heap := h', toks := tk + 1 }) ho fun h'' he' sb => ?_⟩
    have hT2 : h''.get? s.heap.objs.size = some { cls := .type "tuple", data := .seq #[.int i tk, .str ⟨#[c]⟩ u] } := (sb.2 _ (Nat.ne_of_gt hel)).trans hT
    have new : ObjOk X.prog X.w (upd H s.heap.objs.size (.tup [.int (i : Nat), .str ⟨#[c]⟩])) h'' s.heap.objs.size (.tup [.int (i : Nat), .str ⟨#[c]⟩]) :=
      ⟨by show 2 ≤ sizeLine; decide, [.int i tk, .str ⟨#[c]⟩ u], .cons ⟨_, rfl⟩ (.cons ⟨_, rfl⟩ .nil), ⟨_, hT2, rfl, _, rfl⟩⟩
    have I1 : Inv X pins σ (upd H s.heap.objs.size (.tup [.int (i : Nat), .str ⟨#[c]⟩])) { s with heap := h'', toks := tk + 1 } :=
      I.turnedNew (ch := [e, it]) (fun b ob hb q => (sb.2 b (fun z => hb (by simp [z]))).trans (hk b ob (fun z => hb (by simp [z])) (fun z => hb (by simp [z])) q)) hf (Nat.le_refl _) new
    obtain ⟨oi, hoi, hri⟩ := hst'
    refine ⟨.ref s.heap.objs.size, _, I1, rfl, ⟨_, c, rfl, I.hok.fresh (Nat.le_refl _), rfl, hcx⟩, ⟨⟨.str ⟨#[c]⟩ u, ?_⟩, ⟨oi, (sb.2 it (Ne.symm hne)).trans hoi, hri⟩, hne⟩, fun b hb => ?_⟩
    · rw [show ((i + 1 : Nat) : Int) = (i : Int) + 1 by omega]; exact he'
    · have hb' : b < s.heap.objs.size := by
        rcases (show b = e ∨ b = it by simpa using hb) with rfl | rfl
        · exact hel
        · exact hil
      rw [upd_ne (Nat.ne_of_lt hb')]
      exact (hf b hb).1
  done := by
    intro X hP hw hK hc i pins s σ H E I hf st hg
    subst hP hw hK
    obtain ⟨⟨old, he⟩, hit, hne⟩ := st
    obtain ⟨f0, f1, f2, f3, f4, f5⟩ := hf it (by simp)
    have hx : x.cps[i]? = none := Array.getElem?_eq_none hg
    have D : Draws X.prog X.w X.A.in1 it [it] i (fun j v => False) (fun j h => h.IsStrIter it (strIterType x) x t i ∧ j = i) := {
      live := fun _ _ st => by obtain ⟨⟨o, ho, _⟩, _⟩ := st; exact ⟨o, ho⟩
      frame := fun _ _ _ st hk => by
        obtain ⟨⟨o, ho, r⟩, z⟩ := st
        exact ⟨⟨o, hk it (by simp) o ho, r⟩, z⟩
      item := fun j s Q E hj st hQ => absurd st.2 (Nat.ne_of_lt hj)
      done := fun s Q E st hE => by
        obtain ⟨z, _⟩ := st
        cases ha : x.cps.all (· < 128)
        · have ty : strIterType x = "str_iterator" := by unfold strIterType; rw [ha]; rfl
          rw [ty] at z
          exact wpAny_nextOf_wide_end (A := X.A.in1) (I.ok.hd hc) z hx hE
        · have ty : strIterType x = "str_ascii_iterator" := by unfold strIterType; rw [ha]; rfl
          rw [ty] at z
          exact wpAny_nextOf_ascii_end (A := X.A.in1) (I.ok.hd hc) z hx hE }
    exact wpAny_pyNext_enum_endD D he ⟨hit, rfl⟩ fun h' eb => ⟨rfl, I.turned (t' := s.toks) (fun b o hb q => eb b o hb q) f0 f1 f3 f4 f5⟩
  self := fun A i s Q E st h => by
    obtain ⟨⟨_, he⟩, _⟩ := st
    exact wpAny_pyIter_enum he h
def iEnumS (te : TE) : TI := fun σ H R => te σ H fun v H1 => ∃ x, [v] = [V.str x] ∧ R (IteS x) H1
theorem pi_enumS {X : Cx} {e : Expr} {te : TE} {p pos tpos : Pos} {elts : List Expr} {kk : Nat} (hg : Gl X "enumerate") (hm : X.mg "enumerate" = none) (he : PE X e te) (hs : starEach [e] X.env = [(false, eval e X.env)] := by rfl) :
    PI X (.Tuple elts kk tpos) (.Call (.Name "enumerate" p) [e] [] pos) (iEnumS te) := by
  have ha : PA X [e] (tCons te tNil) := pa_cons he pa_nil hs
  refine ⟨fun pins s σ H R I h => ?_⟩
  have h' : tCons te tNil σ H fun vs H1 => ∃ x, vs = [V.str x] ∧ R (IteS x) H1 := h
  refine Call_ (ld_blt I hg hm boot_enumerate (PyProof.Rows.callWith_type1 (thn (ha.run pos pins s σ H _ I h') fun us s1 ⟨vs, H1, I1, r1, q1⟩ => ?_) hs rfl))
  obtain ⟨x, ex, q⟩ := q1
  subst ex
  obtain ⟨u, rfl, rx⟩ := r1.one
  obtain ⟨t, rfl⟩ := rx
  refine enum1_begins (begins_text x t) trivial fun h' he hit hsz hk => wpAny_pyIter_enum he ?_
  have I2 : Inv X pins σ H1 { s1 with heap := h' } := I1.kept (t' := s1.toks) hk
  refine ⟨s1.heap.objs.size + 1, [s1.heap.objs.size + 1, s1.heap.objs.size], _, _, H1, rfl, I2, turn_enumS x t (s1.heap.objs.size + 1) s1.heap.objs.size, ⟨⟨.none, he⟩, ⟨_, hit, rfl, rfl⟩, Nat.succ_ne_self _⟩, fun b hb => ?_, q⟩
  have hle : s1.heap.objs.size ≤ b := by
    rcases (show b = s1.heap.objs.size + 1 ∨ b = s1.heap.objs.size by simpa using hb) with z | z
    · rw [z]; exact Nat.le_add_right _ _
    · rw [z]; exact Nat.le_refl _
  exact I1.fpOk hle (I1.hok.fresh hle)
section
variable {F : Fx} {X : Cx} {pos : Pos}
theorem strE_it {W : CT} {Gs : Hp} {l : List Nat} (ha : asc l = true) : ItOk W Gs (IteS (mk l)) (enD (l.map fun c => D.str [c])) where
  stop := fun i G H e1 e2 hl => by
    rw [enD_len, List.length_map] at hl
    show (mk l).cps.size ≤ i
    simpa [mk] using hl
  go := fun i d G H e1 e2 hd => by
    obtain ⟨d', hd', rfl⟩ := enD_get hd
    have := (List.getElem?_eq_some_iff.1 hd').1
    show i < (mk l).cps.size
    simpa [mk] using this
  yld := fun i d G H x H' e1 e2 hd y => by
    obtain ⟨d', hd', rfl⟩ := enD_get hd
    obtain ⟨T, c, rfl, hT, rfl, hc⟩ := y
    rw [List.getElem?_map] at hd'
    obtain ⟨c', hc', e⟩ := Option.map_eq_some_iff.1 hd'
    have hc : l[i]? = some c := by simpa [mk] using hc
    rw [hc'] at hc
    cases hc
    subst e
    have hA : asc [c] = true := by
      have := List.all_eq_true.mp ha c (List.mem_of_getElem? hc')
      simpa [asc] using this
    exact .inr ⟨T, _, hT, rfl, .tup upd_same (.cons (.int _) (.cons (.str [c] hA) .nil))⟩
def sEnumS (a : SE) : SI := fun δ => do
  let (d, δ1) ← frz (a δ)
  (match d with
    | .str l => .ok (enD (l.map fun c => D.str [c]), δ1)
    | _ => .st)
theorem di_enumS {e : Expr} {a : SE} {p tpos : Pos} {elts : List Expr} {kk : Nat} (hs : starEach [e] X.env = [(false, eval e X.env)]) (hg : Gl X "enumerate") (hm : X.mg "enumerate" = none) (h : DE F X e a) : DI_ F X (.Tuple elts kk tpos) (.Call (.Name "enumerate" p) [e] [] pos) (sEnumS a) := by
  refine ⟨(pi_enumS hg hm h.pe hs).imp fun σ H R ⟨δ, G, S, h⟩ => ⟨δ, G, S, frz_ok ?_⟩⟩
  unfold sEnumS at h
  cases e1 : frz (a δ) with
  | st => rw [e1] at h; exact h
  | ex c fs => rw [e1] at h; exact h
  | ok p =>
    obtain ⟨d, δ1⟩ := p
    rw [e1] at h
    simp only [ok_bind] at h
    intro v H1 G1 S1 g1 r1
    cases r1 with
    | str l ha => exact ⟨_, rfl, h _ H1 G1 S1 g1 (strE_it ha)⟩
    | _ => exact h.elim
end

/-! ### functions of the module as values -/
def sAt (i k : Nat) (a : SE) : SE := fun δ => match δ[i]? with
  | some (.im (.fnc j)) => if j = k then a δ else .st
  | _ => .st
def sPick (i k : Nat) (a b : SE) : SE := fun δ => match δ[i]? with
  | some (.im (.fnc j)) => if j = k then a δ else b δ
  | _ => .st
def sSt : SE := fun _ => .st
/-- the name of a function of the module, that is handed on as a value -/
def FncV (W : CT) (mg : Str → Option Value) (k : Nat) (x : Str) : Prop := ∃ a, mg x = some (.ref a) ∧ W.xcl (100 + k) = some a
section
variable {F : Fx} {X : Cx} {pos : Pos}
theorem de_fnc {x : Str} {k : Nat} {p : Pos} (hg : Gl X x) (h : FncV F.W X.mg k x) (hd : (x == ("__debug__" : Str)) = false := by decide) : DE F X (.Name x p) (sCst (.fnc k)) := by
  obtain ⟨a, e, q⟩ := h
  exact de_glob (v := .ref a) hg e rfl (fun _ => .fnc q) hd
theorem de_sst {e : Expr} : DE F X e sSt := ⟨⟨fun pins st σ H Q I ⟨δ, G, S, w⟩ => w.elim⟩⟩
theorem de_pick {e : Expr} {i k : Nat} {a b : SE} (ha : DE F X e (sAt i k a)) (hb : DE F X e b) : DE F X e (sPick i k a b) := by
  refine ⟨⟨fun pins st σ H Q I ⟨δ, G, S, w⟩ => ?_⟩⟩
  unfold sPick at w
  split at w
  · rename_i j ej
    by_cases h : j = k
    · rw [if_pos h] at w
      refine ha.pe.run pins st σ H Q I ⟨δ, G, S, ?_⟩
      unfold sAt
      rw [ej]
      dsimp only
      rw [if_pos h]
      exact w
    · rw [if_neg h] at w
      exact hb.pe.run pins st σ H Q I ⟨δ, G, S, w⟩
  · exact w.elim
theorem at_slot {i k : Nat} {a : SE} {σ : St} {H : Hp} {Q : VK} {x : Str} {f : Addr} (hm : X.mg x = some (.ref f)) (Fv : FncV F.W X.mg k x) (h : tE F (sAt i k a) σ H Q) : σ[i]? = some (some (.ref f)) ∧ tE F a σ H Q := by
  obtain ⟨δ, G, S, w⟩ := h
  obtain ⟨a', g1, g2⟩ := Fv
  rw [hm] at g1
  cases g1
  unfold sAt at w
  split at w
  · rename_i j ej
    by_cases h : j = k
    · rw [if_pos h] at w
      subst h
      obtain ⟨v, q1, q2⟩ := S.im i _ ej
      cases q2 with
      | fnc hq =>
        rw [g2] at hq
        cases hq
        exact ⟨q1, δ, G, S, w⟩
    · rw [if_neg h] at w; exact w.elim
  · exact w.elim
theorem de_atx {lv n i k : Nat} {st : Stmt} {ps : List Str} {sem : List D → Out RV} {x y : Str} {p : Pos} {e : Expr} {es : List Expr} {s : SF} (En : EntX X.prog X.w X.K X.mg X.base x st lv ps (spD F.W F.hot n sem)) (Fv : FncV F.W X.mg k x) (hr : Room lv X.A) (hv : PE X (.Name y p) (tVar i))
    (hn : SF.Many s n) (ha : DF F X (e :: es) s) (hx : Passes (L2.CX X.prog X.w) X F.E) (he : starEach (e :: es) X.env = (false, eval e X.env) :: starEach es X.env := by rfl) (hpl : (backTo pos (starEach es X.env)).any (·.1) = false := by rfl) :
    DE F X (.Call (.Name y p) (e :: es) [] pos) (sAt i k (sOwn sem s)) := by
  obtain ⟨⟨f, fd, h1, h2, h3⟩, hb⟩ := En
  refine ⟨⟨fun pins st σ H Q I h => ?_⟩⟩
  obtain ⟨q1, w⟩ := at_slot h1 Fv h
  have ht := own_imp σ H Q hn w
  refine wpAny_Call_Name_kw (thn (hv.run pins st σ H (fun v H1 => v = .ref f ∧ H1 = H) I ⟨.ref f, q1, rfl, rfl⟩) fun u s1 ⟨v, H1, I1, r1, q1⟩ => ?_)
  obtain ⟨rfl, rfl⟩ := q1
  cases r1
  refine PySem.W.callWith_K (h₀ := X.base) I.ok.mod.kin h2.kp (thn (ha.pa.run pos pins s1 σ _ _ I1 ht) fun us s2 ⟨vs, H2, I2, r, q⟩ => ⟨I2.kIn, ?_⟩) he hpl
  exact run_fn h3 hr (hb f fd h2) .nil hx I2 r q
theorem de_at {lv n i k : Nat} {st : Stmt} {ps : List Str} {sem : List D → Out RV} {x y : Str} {p : Pos} {e : Expr} {es : List Expr} {s : SF} (En : Ent X.prog X.w X.K X.mg X.base x st lv ps (spD F.W F.hot n sem)) (Fv : FncV F.W X.mg k x) (hr : Room lv X.A) (hv : PE X (.Name y p) (tVar i))
    (hn : SF.Many s n) (ha : DF F X (e :: es) s) (hx : Passes CX0 X F.E := by exact pass0) (he : starEach (e :: es) X.env = (false, eval e X.env) :: starEach es X.env := by rfl) (hpl : (backTo pos (starEach es X.env)).any (·.1) = false := by rfl) :
    DE F X (.Call (.Name y p) (e :: es) [] pos) (sAt i k (sOwn sem s)) := by
  obtain ⟨⟨f, fd, h1, h2, h3⟩, hb⟩ := En
  refine ⟨⟨fun pins st σ H Q I h => ?_⟩⟩
  obtain ⟨q1, w⟩ := at_slot h1 Fv h
  have ht := own_imp σ H Q hn w
  refine wpAny_Call_Name_kw (thn (hv.run pins st σ H (fun v H1 => v = .ref f ∧ H1 = H) I ⟨.ref f, q1, rfl, rfl⟩) fun u s1 ⟨v, H1, I1, r1, q1⟩ => ?_)
  obtain ⟨rfl, rfl⟩ := q1
  cases r1
  refine PySem.W.callWith_K (h₀ := X.base) I.ok.mod.kin h2.kp (thn (ha.pa.run pos pins s1 σ _ _ I1 ht) fun us s2 ⟨vs, H2, I2, r, q⟩ => ⟨I2.kIn, ?_⟩) he hpl
  exact run_fn h3 hr (hb f fd h2) .nil hx I2 r q
theorem de_atxK0 {lv m j i k : Nat} {st : Stmt} {ps ks : List Str} {p : List Nat} {sem : List D → Out RV} {x y : Str} {p' : Pos} {kws : List Keyword} {s : SF} (En : EntX X.prog X.w X.K X.mg X.base x st lv ps (spD F.W F.hot j sem)) (Fv : FncV F.W X.mg k x) (hr : Room lv X.A) (hv : PE X (.Name y p') (tVar i))
    (hkb : ∀ (kV doc pm : Value) (an : Option Addr) (cdv ct : Value) (us ws : List Value), us.length = 0 → ws.length = ks.length → bindArgs (PySem.W.fnOf x x (defArgs st) (defBody st) (defScope st) .none kV doc pm an cdv ct) ⟨us, ks.zip ws⟩ = pure (ps.zip (sel p (us ++ ws))))
    (hn : SF.Many s m) (hkl : ks.length = m) (hj : ∀ xs : List D, xs.length = 0 + m → (sel p xs).length = j) (ha : DKw F X kws s) (hx : Passes (L2.CX X.prog X.w) X F.E)
    (hall : (backToKw pos (keywordEach kws X.env)).all (·.1.isSome) = true := by rfl) (hks : (backToKw pos (keywordEach kws X.env)).filterMap (·.1) = ks := by rfl)
    (hpl : ((backTo pos (starEach [] X.env)).any (·.1) || (backToKw pos (keywordEach kws X.env)).any (·.1.isNone)) = false := by rfl) :
    DE F X (.Call (.Name y p') [] kws pos) (sAt i k (sOwn sem (fSel p fNil s))) := by
  obtain ⟨⟨f, fd, h1, h2, h3⟩, hb⟩ := En
  refine ⟨⟨fun pins st σ H Q I h => ?_⟩⟩
  obtain ⟨q1, w⟩ := at_slot h1 Fv h
  refine wpAny_Call_Name_kw (thn (hv.run pins st σ H (fun v H1 => v = .ref f ∧ H1 = H) I ⟨.ref f, q1, rfl, rfl⟩) fun u s1 ⟨v, H1, I1, r1, q1⟩ => ?_)
  obtain ⟨rfl, rfl⟩ := q1
  cases r1
  obtain ⟨δ, G, S, w⟩ := own_sel many_nil hn hj σ H1 Q w
  obtain ⟨_, w⟩ := w [] H1 G S (Same.refl _) .nil
  refine PySem.W.callWith_KW0 (h₀ := X.base) I.ok.mod.kin h2.kp hall ?_ hpl
  refine thn (ha.pk.run pos pins s1 σ H1 _ I1 w) fun ws s2 ⟨zs, H2, I2, rz, q1, q2⟩ => ⟨I2.kIn, ?_⟩
  rw [hks]
  exact run_k (m := m) (us := []) (vs := []) h3 hr (h2.kb hkb) hx I2 .nil rz rfl (by rw [hkl]; exact q1) q2
end
end L2.DI

namespace L2.DI
open PySem PySem.Spec PyProof.Rows
/-! DJ1: rules to work a def's function over data out by simp -/
@[simp] theorem x_LIM : LIM = 16777216 := rfl

section
variable (a b c : SE) (s u : ST) (x y : SS) (z : SV) (δ : DS) (f : D → D → Out RV) (i n : Nat) (d e : D) (ds : List D)
@[simp] theorem x_opd_im : opd (.ok (.im d, δ)) = .ok (.im d, δ) := rfl
@[simp] theorem x_opd_fr : opd (.ok (.fr d, δ)) = .ok (.im d, δ) := rfl
@[simp] theorem x_opd_bo : opd (.ok (.bo i, δ)) = .ok (.bo i, δ) := rfl
@[simp] theorem x_opd_st : opd .st = .st := rfl
@[simp] theorem x_look_im : look δ (.im d) = .ok d := rfl
@[simp] theorem x_look_fr : look δ (.fr d) = .ok d := rfl
@[simp] theorem x_look_bo : look δ (.bo i) = match δ[i]? with | some (.ow c) => .ok c | _ => .st := rfl
@[simp] theorem x_var : sVar i (z :: δ) = match (z :: δ)[i]? with | some (.im d) => .ok (.im d, (z :: δ)) | some (.ow _) => .ok (.bo i, (z :: δ)) | _ => .st := rfl
@[simp] theorem x_cst : sCst d δ = .ok (.im d, δ) := rfl
@[simp] theorem x_bin : sBin f a b (z :: δ) = opd (a (z :: δ)) >>= fun p => opd (b p.2) >>= fun q => look q.2 p.1 >>= fun da => look q.2 q.1 >>= fun db => f da db >>= fun r => .ok (r, q.2) := rfl
@[simp] theorem x_nil : sNil δ = .ok ([], δ) := rfl
@[simp] theorem x_cons (t : SA) : sCons a t (z :: δ) = opd (a (z :: δ)) >>= fun p => t p.2 >>= fun q => .ok (p.1 :: q.1, q.2) := rfl
@[simp] theorem x_fnil : fNil δ = .ok ([], δ) := rfl
@[simp] theorem x_fcons (t : SF) : fCons a t (z :: δ) = frz (a (z :: δ)) >>= fun p => t p.2 >>= fun q => .ok (p.1 :: q.1, q.2) := rfl
@[simp] theorem x_frz_im : frz (.ok (.im d, δ)) = .ok (d, δ) := rfl
@[simp] theorem x_frz_fr : frz (.ok (.fr d, δ)) = .ok (d, δ) := rfl
@[simp] theorem x_frz_bo : frz (.ok (.bo i, δ)) = match δ[i]? with | some (.ow c) => .ok (c, δ.set i (.im c)) | _ => .st := rfl
@[simp] theorem x_tup (t : SF) : sTup t (z :: δ) = t (z :: δ) >>= fun p => if p.1.length ≤ LIM then .ok (.im (.tup p.1), p.2) else .st := rfl
@[simp] theorem x_lst (t : SF) : sLst t (z :: δ) = t (z :: δ) >>= fun p => if p.1.length ≤ LIM then .ok (.fr (.lst p.1), p.2) else .st := rfl
@[simp] theorem x_looks_nil : looks δ [] = .ok [] := rfl
@[simp] theorem x_looks_cons (r : RV) (rs : List RV) : looks δ (r :: rs) = look δ r >>= fun d => looks δ rs >>= fun ds => .ok (d :: ds) := rfl
@[simp] theorem x_call (g : List D → Out RV) (t : SA) : sCall g t (z :: δ) = t (z :: δ) >>= fun p => looks p.2 p.1 >>= fun ds => g ds >>= fun r => .ok (r, p.2) := rfl
@[simp] theorem x_own (g : List D → Out RV) (t : SF) : sOwn g t (z :: δ) = t (z :: δ) >>= fun p => g p.1 >>= fun r => (match r with | .bo _ => .st | r => .ok (r, p.2)) := rfl
@[simp] theorem x_and : sAnd a b (z :: δ) = opd (a (z :: δ)) >>= fun p => (match p.1 with | .im (.bl true) => b p.2 | .im (.bl false) => .ok (.im (.bl false), p.2) | _ => .st) := rfl
@[simp] theorem x_or : sOr a b (z :: δ) = opd (a (z :: δ)) >>= fun p => (match p.1 with | .im (.bl true) => .ok (.im (.bl true), p.2) | .im (.bl false) => b p.2 | _ => .st) := rfl
@[simp] theorem x_not : sNot a (z :: δ) = opd (a (z :: δ)) >>= fun p => (match p.1 with | .im (.bl b) => .ok (.im (.bl (!b)), p.2) | _ => .st) := rfl
@[simp] theorem x_tval : tVal a (z :: δ) = opd (a (z :: δ)) >>= fun p => (match p.1 with | .im (.bl b) => .ok (b, p.2) | _ => .st) := rfl
@[simp] theorem x_tnt : tNt s (z :: δ) = s (z :: δ) >>= fun p => .ok (!p.1, p.2) := rfl
@[simp] theorem x_tan : tAn s u (z :: δ) = s (z :: δ) >>= fun p => if p.1 = true then u p.2 else .ok (false, p.2) := rfl
@[simp] theorem x_too : tOo s u (z :: δ) = s (z :: δ) >>= fun p => if p.1 = true then .ok (true, p.2) else u p.2 := rfl
@[simp] theorem x_tTrue : tTrue δ = .ok (true, δ) := rfl
@[simp] theorem x_if : sIf s a b (z :: δ) = s (z :: δ) >>= fun p => if p.1 = true then a p.2 else b p.2 := rfl
@[simp] theorem x_nx : sNx δ = .ok (.nx, δ) := rfl
@[simp] theorem x_seq : sSeq x y (z :: δ) = x (z :: δ) >>= fun p => (match p.1 with | .nx => y p.2 | f => .ok (f, p.2)) := rfl
@[simp] theorem x_ifs : sIfs s x y (z :: δ) = s (z :: δ) >>= fun p => if p.1 = true then x p.2 else y p.2 := rfl
@[simp] theorem x_ret : sRet a (z :: δ) = a (z :: δ) >>= fun p => .ok (.rt p.1, p.2) := rfl
@[simp] theorem x_retN : sRetN (z :: δ) = .ok (.rt (.im .non), (z :: δ)) := rfl
@[simp] theorem x_drop : sDrop a (z :: δ) = a (z :: δ) >>= fun p => .ok (.nx, p.2) := rfl
@[simp] theorem x_put_im : put i (.im d) δ = .ok (δ.set i (.im d)) := rfl
@[simp] theorem x_put_fr : put i (.fr d) δ = .ok (δ.set i (.ow d)) := rfl
@[simp] theorem x_put_bo (j : Nat) : put i (.bo j) δ = match δ[j]? with | some (.ow c) => .ok ((δ.set j .no).set i (.ow c)) | _ => .st := rfl
@[simp] theorem x_set : sSet i a (z :: δ) = a (z :: δ) >>= fun p => put i p.1 p.2 >>= fun q => .ok (.nx, q) := rfl
@[simp] theorem x_gnm : gNm i d δ = .ok (δ.set i (.im d)) := rfl
@[simp] theorem x_gsnil : gsNil [] δ = .ok δ := rfl
@[simp] theorem x_gscons (g : SG) (gs : SGs) : gsCons g gs (d :: ds) (z :: δ) = g d (z :: δ) >>= fun δ1 => gs ds δ1 := rfl
@[simp] theorem x_gtp (gs : SGs) : gTp n gs (.tup ds) (z :: δ) = if ds.length = n then gs ds (z :: δ) else .st := rfl
@[simp] theorem x_asg (g : SG) : sAsg a g (z :: δ) = frz (a (z :: δ)) >>= fun p => g p.1 p.2 >>= fun q => .ok (.nx, q) := rfl
@[simp] theorem x_ownB (g : D → List D → Out (RV × D)) (t : SF) : sOwnB g i t (z :: δ) = match (z :: δ)[i]? with
  | some (.ow _) => (t (z :: δ) >>= fun p => (match p.2[i]? with
      | some (.ow c) => (g c p.1 >>= fun q => (match q.1 with
          | .bo _ => .st
          | r => .ok (r, p.2.set i (.ow q.2))))
      | _ => .st))
  | _ => .st := rfl
@[simp] theorem x_items_l : items (.lst ds) = .ok ds := rfl
@[simp] theorem x_items_t : items (.tup ds) = .ok ds := rfl
@[simp] theorem x_items_k : items (.ktp ds) = .ok ds := rfl
@[simp] theorem x_items_kl : items (.kls ds) = .ok ds := rfl
@[simp] theorem x_items_s (l : List Nat) : items (.str l) = .ok (l.map fun c => D.str [c]) := rfl
@[simp] theorem x_iter : sIter a (z :: δ) = frz (a (z :: δ)) >>= fun p => items p.1 >>= fun ds => .ok (ds, p.2) := rfl
@[simp] theorem x_r1 (t : SA) : sRange1 t (z :: δ) = t (z :: δ) >>= fun p => (match p.1 with
    | [.im (.int j)] => if small j = true then .ok ((List.range j.toNat).map fun k : Nat => D.int (0 + k), p.2) else .st
    | _ => .st) := rfl
@[simp] theorem x_r2 (t : SA) : sRange2 t (z :: δ) = t (z :: δ) >>= fun p => (match p.1 with
    | [.im (.int i), .im (.int j)] => if small i = true ∧ small j = true then .ok ((List.range (j - i).toNat).map fun k : Nat => D.int (i + k), p.2) else .st
    | _ => .st) := rfl
@[simp] theorem x_for (t : SI) (g : SG) : sFor t g x (z :: δ) = t (z :: δ) >>= fun p => loop g x p.1 p.2 := rfl
@[simp] theorem x_lc (t : SI) (vs : List Nat) (g : SG) : sLc t vs g s a (z :: δ) = t (z :: δ) >>= fun p => noEx (lcs vs g s a p.1 (wipeD p.2 vs) []) >>= fun q => .ok (.fr (.lst q.1), q.2) := rfl
@[simp] theorem x_oNo : oNo δ = .ok (none, δ) := rfl
@[simp] theorem x_oYes : oYes a (z :: δ) = opd (a (z :: δ)) >>= fun p => (match p.1 with
    | .im (.int i) => .ok (some i, p.2)
    | _ => .st) := rfl
@[simp] theorem x_sl (lo hi : SO) : sSl a lo hi (z :: δ) = opd (a (z :: δ)) >>= fun p => lo p.2 >>= fun q => hi q.2 >>= fun r => look r.2 p.1 >>= fun d => fSl d q.1 r.1 >>= fun v => .ok (v, r.2) := rfl
@[simp] theorem x_unbo_im : unbo (.ok (.im d, δ)) = .ok (.im d, δ) := rfl
@[simp] theorem x_unbo_fr : unbo (.ok (.fr d, δ)) = .ok (.fr d, δ) := rfl
@[simp] theorem x_unbo_bo : unbo (.ok (.bo i, δ)) = match δ[i]? with | some (.ow c) => .ok (.im c, δ.set i (.im c)) | _ => .st := rfl
@[simp] theorem x_mnil : mNil δ = .ok ([], δ) := rfl
@[simp] theorem x_mcons (t : SR) : mCons a t (z :: δ) = unbo (a (z :: δ)) >>= fun p => t p.2 >>= fun q => .ok (p.1 :: q.1, q.2) := rfl
@[simp] theorem x_putAll0 : putAll [] [] δ = .ok δ := rfl
@[simp] theorem x_putAll1 (is : List Nat) (r : RV) (rs : List RV) : putAll (i :: is) (r :: rs) δ = put i r δ >>= fun δ1 => putAll is rs δ1 := rfl
@[simp] theorem x_par (is : List Nat) (t : SR) : sPar is t (z :: δ) = t (z :: δ) >>= fun p => putAll is p.1 p.2 >>= fun q => .ok (.nx, q) := rfl
@[simp] theorem x_own1 (g : List D → D → Option (RV × List D)) : sOwn1 i g a (z :: δ) = match (z :: δ)[i]? with
  | some (.ow (.lst _)) => (frz (a (z :: δ)) >>= fun p => (match p.2[i]? with
      | some (.ow (.lst ds)) => (match g ds p.1 with
        | some (r, ds') => .ok (r, p.2.set i (.ow (.lst ds')))
        | none => .st)
      | _ => .st))
  | _ => .st := rfl
@[simp] theorem x_gix (b : SE) : gIx i b d (z :: δ) = match (z :: δ)[i]? with
  | some (.ow (.lst _)) => (opd (b (z :: δ)) >>= fun p => (match p.1 with
      | .im (.int k) => (match p.2[i]? with
        | some (.ow (.lst ds)) => (match ixN ds.length k with
          | some j => .ok (p.2.set i (.ow (.lst (ds.set j d))))
          | none => .st)
        | _ => .st)
      | _ => .st))
  | _ => .st := rfl
@[simp] theorem x_attr (g : Str) : sAttr g a (z :: δ) = opd (a (z :: δ)) >>= fun p => look p.2 p.1 >>= fun o => (match o with
    | .obj t ds => (match fieldOf (fieldNames t) g ds with
      | some d => .ok (.im d, p.2)
      | none => .st)
    | _ => .st) := rfl
@[simp] theorem x_mt1 : sMt1 f a b (z :: δ) = opd (a (z :: δ)) >>= fun p => (match p.1 with
    | .im (.str l) => (opd (b p.2) >>= fun q => look q.2 q.1 >>= fun d => f (.str l) d >>= fun r => .ok (r, q.2))
    | _ => .st) := rfl
@[simp] theorem x_chain (f' : D → D → Out RV) : sChain f f' a b c (z :: δ) = opd (a (z :: δ)) >>= fun p => opd (b p.2) >>= fun q => look q.2 p.1 >>= fun da => look q.2 q.1 >>= fun db => f da db >>= fun r => (match r with
    | .im (.bl true) => (opd (c q.2) >>= fun u => look u.2 q.1 >>= fun db' => look u.2 u.1 >>= fun dc => f' db' dc >>= fun r' => .ok (r', u.2))
    | .im (.bl false) => .ok (.im (.bl false), q.2)
    | _ => .st) := rfl
@[simp] theorem x_neg : sNeg a (z :: δ) = opd (a (z :: δ)) >>= fun p => (match p.1 with
    | .im (.int i) => .ok (.im (.int (-i)), p.2)
    | _ => .st) := rfl
@[simp] theorem x_rev : sRev a (z :: δ) = opd (a (z :: δ)) >>= fun p => look p.2 p.1 >>= fun d => fRev d >>= fun v => .ok (v, p.2) := rfl
@[simp] theorem x_isi (T : Ty) : sIsi T a (z :: δ) = opd (a (z :: δ)) >>= fun p => look p.2 p.1 >>= fun d => fIsi T d >>= fun v => .ok (v, p.2) := rfl
@[simp] theorem x_fIsi_non (T : Ty)  : fIsi T (.non) = .ok (.im (.bl (isT T (.non)))) := rfl
@[simp] theorem x_fIsi_bl (T : Ty) (b : Bool) : fIsi T (.bl b) = .ok (.im (.bl (isT T (.bl b)))) := rfl
@[simp] theorem x_fIsi_int (T : Ty) (b : Int) : fIsi T (.int b) = .ok (.im (.bl (isT T (.int b)))) := rfl
@[simp] theorem x_fIsi_str (T : Ty) (b : List Nat) : fIsi T (.str b) = .ok (.im (.bl (isT T (.str b)))) := rfl
@[simp] theorem x_fIsi_tup (T : Ty) (b : List D) : fIsi T (.tup b) = .ok (.im (.bl (isT T (.tup b)))) := rfl
@[simp] theorem x_fIsi_ktp (T : Ty) (b : List D) : fIsi T (.ktp b) = .ok (.im (.bl (isT T (.ktp b)))) := rfl
@[simp] theorem x_fIsi_lst (T : Ty) (b : List D) : fIsi T (.lst b) = .ok (.im (.bl (isT T (.lst b)))) := rfl
@[simp] theorem x_fIsi_kls (T : Ty) (b : List D) : fIsi T (.kls b) = .ok (.im (.bl (isT T (.kls b)))) := rfl
@[simp] theorem x_fIsi_dK (T : Ty) (b : List (Key × D)) : fIsi T (.dK b) = .ok (.im (.bl (isT T (.dK b)))) := rfl
@[simp] theorem x_fIsi_dT (T : Ty) (b : List (List Key × D)) : fIsi T (.dT b) = .ok (.im (.bl (isT T (.dT b)))) := rfl
@[simp] theorem x_fIsi_obj (T : Ty) (t : Nat) (b : List D) : fIsi T (.obj t b) = .ok (.im (.bl (isT T (.obj t b)))) := rfl
@[simp] theorem x_fsel (p : List Nat) (t t' : SF) : fSel p t t' (z :: δ) = t (z :: δ) >>= fun q => t' q.2 >>= fun r => .ok (sel p (q.1 ++ r.1), r.2) := rfl
@[simp] theorem x_sput (b v : SE) : sPut i b v (z :: δ) = frz (v (z :: δ)) >>= fun p => (match p.2[i]? with
    | some (.ow _) => (opd (b p.2) >>= fun q => look q.2 q.1 >>= fun k => (match q.2[i]? with
        | some (.ow c) => (dput c k p.1 >>= fun c' => .ok (.nx, q.2.set i (.ow c')))
        | _ => .st))
    | _ => .st) := rfl
@[simp] theorem x_get1 : sGet1 a b (z :: δ) = opd (a (z :: δ)) >>= fun p => look p.2 p.1 >>= fun c1 => if isDct c1 = true then (opd (b p.2) >>= fun q => look q.2 p.1 >>= fun c => look q.2 q.1 >>= fun k => dget c k >>= fun o => .ok (.im (o.getD .non), q.2)) else .st := rfl
@[simp] theorem x_ownF (g : D → List D → Out (RV × D)) : sOwnF g a (z :: δ) = a (z :: δ) >>= fun p => (match p.1 with
    | .fr c => (g c [] >>= fun q => (match q.1 with
        | .bo _ => .st
        | r' => .ok (r', p.2)))
    | _ => .st) := rfl
@[simp] theorem x_lenSet : sLenSet a (z :: δ) = opd (a (z :: δ)) >>= fun p => look p.2 p.1 >>= fun d => fLenSet d >>= fun r => .ok (r, p.2) := rfl
@[simp] theorem x_sumA_l : fSumA (.lst ds) = fSum (.lst ds) := rfl
@[simp] theorem x_sortedA_l : fSortedA (.lst ds) = fSorted (.lst ds) := rfl
@[simp] theorem x_sortedA_s (l : List Nat) : fSortedA (.str l) = if l.length ≤ 16777216 then .ok (.fr (.lst ((l.map fun c => D.str [c]).mergeSort leD))) else .st := rfl
@[simp] theorem x_supd : sUpd i a (z :: δ) = match (z :: δ)[i]? with
  | some (.ow (.dT _)) => (frz (a (z :: δ)) >>= fun p => (match p.2[i]? with
      | some (.ow (.dT kvs)) => (match p.1 with
        | .lst ds => (match pairsD ds with
          | some m => if kvs.length + m.length ≤ LIM then .ok (.im .non, p.2.set i (.ow (.dT (mgD kvs m)))) else .st
          | none => .st)
        | _ => .st)
      | _ => .st))
  | _ => .st := rfl
@[simp] theorem x_enum : sEnum a (z :: δ) = frz (a (z :: δ)) >>= fun p => itemsE p.1 >>= fun ds => .ok (ds, p.2) := rfl
@[simp] theorem x_itemsE_l : itemsE (.lst ds) = .ok (enD ds) := rfl
@[simp] theorem x_itemsE_t : itemsE (.tup ds) = .ok (enD ds) := rfl
@[simp] theorem x_disp : sDisp a b (z :: δ) = noEx (frz (a (z :: δ))) >>= fun p => noEx (frz (b p.2)) >>= fun q => (match p.1 with
    | .tup ds => (match keysOf ds with
      | some ks => .ok (.fr (.dT [(ks, q.1)]), q.2)
      | none => .st)
    | _ => .st) := rfl
@[simp] theorem x_make (t : Nat) (g : D → List D → Out (RV × D)) (u : SF) : sMake t g u (z :: δ) = u (z :: δ) >>= fun p => g (.obj t []) p.1 >>= fun q => (match q.1 with
    | .im .non => .ok (.fr q.2, p.2)
    | _ => .st) := rfl
@[simp] theorem x_fld (g : Str) (v : SE) : sFldSet i g v (z :: δ) = frz (v (z :: δ)) >>= fun p => (match p.2[i]? with
    | some (.ow (.obj t ds)) => (match addF t g ds p.1 with
      | some ds' => .ok (.nx, p.2.set i (.ow (.obj t ds')))
      | none => .st)
    | _ => .st) := rfl
@[simp] theorem x_eq_int (neg : Bool) (i j : Int) : fEq neg (.int i) (.int j) = .ok (.im (.bl (xor neg (i == j)))) := by simp [fEq, plain, dep, eqD]
@[simp] theorem x_eq_str (neg : Bool) (i j : List Nat) : fEq neg (.str i) (.str j) = .ok (.im (.bl (xor neg (i == j)))) := by simp [fEq, plain, dep, eqD]
@[simp] theorem x_lt_int (i j : Int) : fLt (.int i) (.int j) = .ok (.im (.bl (decide (i < j)))) := rfl
@[simp] theorem x_le_int (i j : Int) : fLe (.int i) (.int j) = .ok (.im (.bl (decide (i ≤ j)))) := rfl
@[simp] theorem x_gt_int (i j : Int) : fGt (.int i) (.int j) = .ok (.im (.bl (decide (j < i)))) := rfl
@[simp] theorem x_ge_int (i j : Int) : fGe (.int i) (.int j) = .ok (.im (.bl (decide (j ≤ i)))) := rfl
@[simp] theorem x_add_int (i j : Int) : fAdd (.int i) (.int j) = .ok (.im (.int (i + j))) := rfl
@[simp] theorem x_sub_int (i j : Int) : fSub (.int i) (.int j) = .ok (.im (.int (i - j))) := rfl
@[simp] theorem x_len_l : fLen (.lst ds) = .ok (.im (.int ds.length)) := rfl
@[simp] theorem x_len_t : fLen (.tup ds) = .ok (.im (.int ds.length)) := rfl
@[simp] theorem x_len_s (l : List Nat) : fLen (.str l) = if l.length ≤ 16777216 then .ok (.im (.int l.length)) else .st := rfl
@[simp] theorem x_len_kl : fLen (.kls ds) = .ok (.im (.int ds.length)) := rfl
@[simp] theorem x_tuple_l : fTuple (.lst ds) = .ok (.im (.tup ds)) := rfl
@[simp] theorem x_tuple_t : fTuple (.tup ds) = .ok (.im (.tup ds)) := rfl
@[simp] theorem x_int_int (i : Int) : fInt (.int i) = .ok (.im (.int i)) := rfl
theorem x_lt_str1 (c d : Nat) : fLt (.str [c]) (.str [d]) = .ok (.im (.bl (decide (c < d)))) := by
  unfold fLt fCmp; dsimp only; congr 4; apply propext
  constructor
  · intro h; cases h with | rel h => exact h | cons h => cases h
  · intro h; exact .rel h
theorem x_gt_str1 (c d : Nat) : fGt (.str [c]) (.str [d]) = .ok (.im (.bl (decide (d < c)))) := by
  unfold fGt fCmp; dsimp only; congr 4; apply propext
  constructor
  · intro h; cases h with | rel h => exact h | cons h => cases h
  · intro h; exact .rel h
@[simp] theorem x_ix_l (i : Int) : fIx (.lst ds) (.int i) = match atI ds i with | some e => .ok (.im e) | none => .st := rfl
@[simp] theorem x_ix_t (i : Int) : fIx (.tup ds) (.int i) = match atI ds i with | some e => .ok (.im e) | none => .st := rfl
@[simp] theorem x_ix_kl (i : Int) : fIx (.kls ds) (.int i) = match atI ds i with | some e => .ok (.im e) | none => .st := rfl
@[simp] theorem x_ix_s (l : List Nat) (i : Int) : fIx (.str l) (.int i) = if l.length ≤ 16777216 then (match atI l i with | some c => .ok (.im (.str [c])) | none => .st) else .st := rfl
@[simp] theorem x_f1 (g : D → Out RV) : f1 g [d] = g d := rfl
@[simp] theorem x_f2 (g : D → D → Out RV) : f2 g [d, e] = g d e := rfl
theorem x_semD (k : Nat) : semD x k ds = match outD (x (ds.map .im ++ List.replicate k .no)) with
  | .ok (r, _) => .ok r
  | .ex c fs => .ex c fs
  | .st => .st := rfl
theorem x_semB (k : Nat) : semB x k d ds = match outD (x (.ow d :: ds.map .im ++ List.replicate k .no)) with
  | .ok p => (match (p.2 : List SV)[0]? with
    | some (SV.ow c') => .ok (p.1, c')
    | _ => .st)
  | .ex c fs => .ex c fs
  | .st => .st := rfl
@[simp] theorem x_out_nx : outD (.ok (.nx, δ)) = .ok (.im .non, δ) := rfl
@[simp] theorem x_out_im : outD (.ok (.rt (.im d), δ)) = .ok (.im d, δ) := rfl
@[simp] theorem x_out_fr : outD (.ok (.rt (.fr d), δ)) = .ok (.fr d, δ) := rfl
@[simp] theorem x_out_bo : outD (.ok (.rt (.bo i), δ)) = match δ[i]? with | some (.ow c) => .ok (.fr c, δ.set i .no) | _ => .st := rfl
end
@[simp] theorem x_wipe0 (δ : DS) : wipeD δ [] = δ := rfl
@[simp] theorem x_wipe1 (z : SV) (δ : DS) (v : Nat) (vs : List Nat) : wipeD (z :: δ) (v :: vs) = (wipeD (z :: δ) vs).set v .no := rfl
@[simp] theorem x_noEx {α : Type} (a : α) : noEx (.ok a) = .ok a := rfl
/-- it goes well and ends so -/
def Wp {α : Type} (o : Out α) (Φ : α → Prop) : Prop := match o with
  | .ok a => Φ a
  | _ => False
@[simp] theorem wp_ok {α : Type} (a : α) (Φ : α → Prop) : Wp (.ok a) Φ = Φ a := rfl
theorem wp_bind {α β : Type} {o : Out α} {f : α → Out β} {Φ : β → Prop} {Ψ : α → Prop} (h : Wp o Ψ) (k : ∀ a, Ψ a → Wp (f a) Φ) : Wp (o >>= f) Φ := by
  cases o with
  | ok a => exact k a h
  | ex _ _ => exact False.elim h
  | st => exact False.elim h
theorem Wp.mono {α : Type} {o : Out α} {Φ Ψ : α → Prop} (h : Wp o Φ) (k : ∀ a, Φ a → Ψ a) : Wp o Ψ := by
  cases o with
  | ok a => exact k a h
  | ex _ _ => exact False.elim h
  | st => exact False.elim h
theorem Wp.get {α : Type} {o : Out α} {Φ : α → Prop} (h : Wp o Φ) : ∃ a, o = .ok a ∧ Φ a := by
  cases o with
  | ok a => exact ⟨a, rfl, h⟩
  | ex _ _ => exact False.elim h
  | st => exact False.elim h
theorem atI_nat {α : Type} (xs : List α) (k : Nat) : atI xs (k : Int) = xs[k]? := by
  unfold atI ixN
  rw [if_pos (by omega)]
  by_cases h : (k : Int) < xs.length
  · rw [if_pos h]; simp
  · rw [if_neg h]; rw [List.getElem?_eq_none (by omega)]; rfl
theorem atI_last {α : Type} (xs : List α) (c : α) : atI (xs ++ [c]) (-1) = some c := by
  unfold atI ixN
  rw [if_neg (by omega), if_pos (by simp; omega)]
  have : (-1 + (((xs ++ [c]).length : Nat) : Int)).toNat = xs.length := by simp; omega
  rw [this, Option.bind_some, List.getElem?_append_right (Nat.le_refl _)]
  simp
/-- the items of a comprehension, where each test and each value leaves the frame as it is -/
theorem lcs_map {α : Type} {vs : List Nat} {g : SG} {t : ST} {e : SE} {δ : DS} (f : α → D) (p : α → Bool) (v : α → D) : ∀ (xs : List α) (acc : List D), acc.length + xs.length ≤ LIM →
    (∀ x ∈ xs, ∃ δ1 δ2, g (f x) δ = .ok δ1 ∧ t δ1 = .ok (p x, δ2) ∧ (p x = false → wipeD δ2 vs = δ) ∧ (p x = true → ∃ δ3, frz (e δ2) = .ok (v x, δ3) ∧ wipeD δ3 vs = δ)) →
    lcs vs g t e (xs.map f) δ acc = .ok (acc ++ (xs.filter p).map v, δ)
  | [], acc, _, _ => by simp [lcs]
  | x :: xs, acc, hl, h => by
    obtain ⟨δ1, δ2, h1, h2, h3, h4⟩ := h x (List.mem_cons_self ..)
    have hr := fun y hy => h y (List.mem_cons_of_mem _ hy)
    rw [List.length_cons] at hl
    rw [List.map_cons, lcs, h1, ok_bind, h2, ok_bind]
    cases hp : p x with
    | false =>
      dsimp only
      rw [if_neg (by decide), h3 hp, lcs_map f p v xs acc (by omega) hr]
      simp [hp]
    | true =>
      obtain ⟨δ3, h5, h7⟩ := h4 hp
      dsimp only
      rw [if_pos rfl, h5, ok_bind]
      dsimp only
      rw [if_pos (by omega), h7, lcs_map f p v xs (acc ++ [v x]) (by rw [List.length_append, List.length_singleton]; omega) hr]
      simp [hp]
/-- a loop with an invariant -/
theorem loop_inv {g : SG} {b : SS} {Ψ : Fl × DS → Prop} (I : Nat → DS → Prop) : ∀ (xs : List D) (k : Nat) (δ : DS), I k δ →
    (∀ (j : Nat) (x : D) (δ : DS), xs[j]? = some x → I (k + j) δ → Wp (g x δ >>= fun δ1 => b δ1) fun p => p.1 = .nx ∧ I (k + j + 1) p.2) →
    Wp (loop g b xs δ) fun p => p.1 = .nx ∧ I (k + xs.length) p.2
  | [], k, δ, h, _ => by rw [loop]; exact ⟨rfl, h⟩
  | x :: xs, k, δ, h, hs => by
    have h1 := hs 0 x δ rfl h
    rw [loop]
    cases e1 : g x δ with
    | st => rw [e1] at h1; exact False.elim h1
    | ex _ _ => rw [e1] at h1; exact False.elim h1
    | ok δ1 =>
      rw [e1, ok_bind] at h1
      rw [ok_bind]
      cases e2 : b δ1 with
      | st => rw [e2] at h1; exact False.elim h1
      | ex _ _ => rw [e2] at h1; exact False.elim h1
      | ok p =>
        obtain ⟨f, δ2⟩ := p
        rw [e2] at h1
        obtain ⟨h2, h3⟩ := h1
        dsimp only at h2 h3
        subst h2
        rw [ok_bind]
        have := loop_inv (Ψ := Ψ) I xs (k + 1) δ2 h3 fun j y δ' hy hI => by
          have := hs (j + 1) y δ' (by simpa using hy) (by rw [show k + (j + 1) = k + 1 + j from by omega]; exact hI)
          rw [show k + (j + 1) + 1 = k + 1 + j + 1 from by omega] at this
          exact this
        rw [show k + (x :: xs).length = k + 1 + xs.length from by simp; omega]
        exact this
end L2.DI

namespace L2.DI
open PySem PySem.Spec PyProof.Rows
/-! DJ2: the same, backwards from the goal -/
@[simp] theorem wp_bind_eq {α β : Type} (o : Out α) (f : α → Out β) (Φ : β → Prop) : Wp (o >>= f) Φ = Wp o (fun a => Wp (f a) Φ) := by
  cases o <;> rfl
@[simp] theorem wp_st {α : Type} (Φ : α → Prop) : Wp .st Φ = False := rfl
@[simp] theorem wp_ex {α : Type} (c : Nat) (fs : List D) (Φ : α → Prop) : Wp (.ex c fs) Φ = False := rfl
@[simp] theorem wp_ite {α : Type} (c : Prop) [Decidable c] (a b : Out α) (Φ : α → Prop) : Wp (if c then a else b) Φ = if c then Wp a Φ else Wp b Φ := by
  split <;> rfl
def opdP (p : RV × DS) : RV × DS := match p with
  | (.fr c, δ) => (.im c, δ)
  | p => p
@[simp] theorem opdP_im (d : D) (δ : DS) : opdP (.im d, δ) = (.im d, δ) := rfl
@[simp] theorem opdP_fr (d : D) (δ : DS) : opdP (.fr d, δ) = (.im d, δ) := rfl
@[simp] theorem opdP_bo (d : Nat) (δ : DS) : opdP (.bo d, δ) = (.bo d, δ) := rfl
@[simp] theorem wp_opd (o : Out (RV × DS)) (Φ : RV × DS → Prop) : Wp (opd o) Φ = Wp o (fun p => Φ (opdP p)) := by
  cases o with
  | ok p => obtain ⟨r, δ⟩ := p; cases r <;> rfl
  | _ => rfl
def frzP (p : RV × DS) : Out (D × DS) := frz (.ok p)
@[simp] theorem frzP_im (d : D) (δ : DS) : frzP (.im d, δ) = .ok (d, δ) := rfl
@[simp] theorem frzP_fr (d : D) (δ : DS) : frzP (.fr d, δ) = .ok (d, δ) := rfl
@[simp] theorem frzP_bo (i : Nat) (δ : DS) : frzP (.bo i, δ) = match δ[i]? with | some (.ow c) => .ok (c, δ.set i (.im c)) | _ => .st := rfl
@[simp] theorem wp_frz (o : Out (RV × DS)) (Φ : D × DS → Prop) : Wp (frz o) Φ = Wp o (fun p => Wp (frzP p) Φ) := by
  cases o <;> rfl
def unboP (p : RV × DS) : Out (RV × DS) := unbo (.ok p)
@[simp] theorem unboP_im (d : D) (δ : DS) : unboP (.im d, δ) = .ok (.im d, δ) := rfl
@[simp] theorem unboP_fr (d : D) (δ : DS) : unboP (.fr d, δ) = .ok (.fr d, δ) := rfl
@[simp] theorem unboP_bo (i : Nat) (δ : DS) : unboP (.bo i, δ) = match δ[i]? with | some (.ow c) => .ok (.im c, δ.set i (.im c)) | _ => .st := rfl
@[simp] theorem wp_unbo (o : Out (RV × DS)) (Φ : RV × DS → Prop) : Wp (unbo o) Φ = Wp o (fun p => Wp (unboP p) Φ) := by
  cases o <;> rfl
@[simp] theorem wp_noEx {α : Type} (o : Out α) (Φ : α → Prop) : Wp (noEx o) Φ = Wp o Φ := by
  cases o <;> rfl
def outP (p : Fl × DS) : Out (RV × DS) := outD (.ok p)
@[simp] theorem outP_nx (δ : DS) : outP (.nx, δ) = .ok (.im .non, δ) := rfl
@[simp] theorem outP_im (d : D) (δ : DS) : outP (.rt (.im d), δ) = .ok (.im d, δ) := rfl
@[simp] theorem outP_fr (d : D) (δ : DS) : outP (.rt (.fr d), δ) = .ok (.fr d, δ) := rfl
@[simp] theorem outP_bo (i : Nat) (δ : DS) : outP (.rt (.bo i), δ) = match δ[i]? with | some (.ow c) => .ok (.fr c, δ.set i .no) | _ => .st := rfl
@[simp] theorem wp_outD (o : Out (Fl × DS)) (Φ : RV × DS → Prop) : Wp (outD o) Φ = Wp o (fun p => Wp (outP p) Φ) := by
  cases o <;> rfl
@[simp] theorem wp_semD (x : SS) (k : Nat) (ds : List D) (Φ : RV → Prop) : Wp (semD x k ds) Φ = Wp (x (ds.map .im ++ List.replicate k .no)) (fun q => Wp (outP q) (fun p => Φ p.1)) := by
  unfold semD fr0
  cases x (ds.map .im ++ List.replicate k .no) with
  | ok q => show _ = Wp (outP q) _; unfold outP; cases outD (.ok q) <;> rfl
  | _ => rfl
@[simp] theorem wp_semB (x : SS) (k : Nat) (d : D) (ds : List D) (Φ : RV × D → Prop) : Wp (semB x k d ds) Φ = Wp (x (.ow d :: ds.map .im ++ List.replicate k .no)) (fun q => Wp (outP q) (fun p => match (p.2 : List SV)[0]? with
    | some (SV.ow c) => Φ (p.1, c)
    | _ => False)) := by
  unfold semB fr0
  show Wp (match outD (x (.ow d :: ds.map .im ++ List.replicate k .no)) with | _ => _) Φ = _
  cases x (.ow d :: ds.map .im ++ List.replicate k .no) with
  | ok q =>
    show _ = Wp (outP q) _; unfold outP
    cases outD (.ok q) with
    | ok p =>
      dsimp only [wp_ok]
      cases hp : (p.2 : List SV)[0]? with
      | none => rfl
      | some s => cases s <;> rfl
    | _ => rfl
  | _ => rfl
/-! ### types, fields -/
@[simp] theorem x_vt_non : valTy .non = "NoneType" := rfl
@[simp] theorem x_vt_bl (b : Bool) : valTy (.bl b) = "bool" := rfl
@[simp] theorem x_vt_int (i : Int) : valTy (.int i) = "int" := rfl
@[simp] theorem x_vt_str (l : List Nat) : valTy (.str l) = "str" := rfl
@[simp] theorem x_vt_tup (l : List D) : valTy (.tup l) = "tuple" := rfl
@[simp] theorem x_vt_ktp (l : List D) : valTy (.ktp l) = "tuple" := rfl
@[simp] theorem x_vt_lst (l : List D) : valTy (.lst l) = "list" := rfl
@[simp] theorem x_vt_kls (l : List D) : valTy (.kls l) = "list" := rfl
@[simp] theorem x_isT_non (n : String) : isT (.b n) .non = (valTy .non == n || (n == "int" && valTy .non == "bool")) := rfl
@[simp] theorem x_isT_bl (n : String) (b : Bool) : isT (.b n) (.bl b) = (valTy (.bl b) == n || (n == "int" && valTy (.bl b) == "bool")) := rfl
@[simp] theorem x_isT_int (n : String) (b : Int) : isT (.b n) (.int b) = (valTy (.int b) == n || (n == "int" && valTy (.int b) == "bool")) := rfl
@[simp] theorem x_isT_str (n : String) (b : List Nat) : isT (.b n) (.str b) = (valTy (.str b) == n || (n == "int" && valTy (.str b) == "bool")) := rfl
@[simp] theorem x_isT_tup (n : String) (b : List D) : isT (.b n) (.tup b) = (valTy (.tup b) == n || (n == "int" && valTy (.tup b) == "bool")) := rfl
@[simp] theorem x_isT_ktp (n : String) (b : List D) : isT (.b n) (.ktp b) = (valTy (.ktp b) == n || (n == "int" && valTy (.ktp b) == "bool")) := rfl
@[simp] theorem x_isT_lst (n : String) (b : List D) : isT (.b n) (.lst b) = (valTy (.lst b) == n || (n == "int" && valTy (.lst b) == "bool")) := rfl
@[simp] theorem x_isT_kls (n : String) (b : List D) : isT (.b n) (.kls b) = (valTy (.kls b) == n || (n == "int" && valTy (.kls b) == "bool")) := rfl
@[simp] theorem x_isT_dK (n : String) (b : List (Key × D)) : isT (.b n) (.dK b) = (valTy (.dK b) == n || (n == "int" && valTy (.dK b) == "bool")) := rfl
@[simp] theorem x_isT_dT (n : String) (b : List (List Key × D)) : isT (.b n) (.dT b) = (valTy (.dT b) == n || (n == "int" && valTy (.dT b) == "bool")) := rfl
@[simp] theorem x_isT_obj (n : String) (t : Nat) (b : List D) : isT (.b n) (.obj t b) = false := rfl
@[simp] theorem x_isT_own (t t' : Nat) (b : List D) : isT (.own t) (.obj t' b) = decide (t' = t) := rfl
@[simp] theorem x_fo_0_many (a0 a1 a2 a3 a4 : D) : fieldOf (fieldNames 0) "many" [a0, a1, a2, a3, a4] = some a0 := rfl
@[simp] theorem x_af_0_many (d : D) : addF 0 "many" [] d = some [d] := if_pos ⟨rfl, (show ("many" : Str) ∉ (fieldNames 0).take 0 by decide)⟩
@[simp] theorem x_fo_0_piles (a0 a1 a2 a3 a4 : D) : fieldOf (fieldNames 0) "piles" [a0, a1, a2, a3, a4] = some a1 := rfl
@[simp] theorem x_af_0_piles (a0 d : D) : addF 0 "piles" [a0] d = some [a0, d] := if_pos ⟨rfl, (show ("piles" : Str) ∉ (fieldNames 0).take 1 by decide)⟩
@[simp] theorem x_fo_0_height (a0 a1 a2 a3 a4 : D) : fieldOf (fieldNames 0) "height" [a0, a1, a2, a3, a4] = some a2 := rfl
@[simp] theorem x_af_0_height (a0 a1 d : D) : addF 0 "height" [a0, a1] d = some [a0, a1, d] := if_pos ⟨rfl, (show ("height" : Str) ∉ (fieldNames 0).take 2 by decide)⟩
@[simp] theorem x_fo_0_rule (a0 a1 a2 a3 a4 : D) : fieldOf (fieldNames 0) "rule" [a0, a1, a2, a3, a4] = some a3 := rfl
@[simp] theorem x_af_0_rule (a0 a1 a2 d : D) : addF 0 "rule" [a0, a1, a2] d = some [a0, a1, a2, d] := if_pos ⟨rfl, (show ("rule" : Str) ∉ (fieldNames 0).take 3 by decide)⟩
@[simp] theorem x_fo_0_parts (a0 a1 a2 a3 a4 : D) : fieldOf (fieldNames 0) "parts" [a0, a1, a2, a3, a4] = some a4 := rfl
@[simp] theorem x_af_0_parts (a0 a1 a2 a3 d : D) : addF 0 "parts" [a0, a1, a2, a3] d = some [a0, a1, a2, a3, d] := if_pos ⟨rfl, (show ("parts" : Str) ∉ (fieldNames 0).take 4 by decide)⟩
@[simp] theorem x_fo_1_table (a0 a1 a2 a3 a4 a5 : D) : fieldOf (fieldNames 1) "table" [a0, a1, a2, a3, a4, a5] = some a0 := rfl
@[simp] theorem x_af_1_table (d : D) : addF 1 "table" [] d = some [d] := if_pos ⟨rfl, (show ("table" : Str) ∉ (fieldNames 1).take 0 by decide)⟩
@[simp] theorem x_fo_1_standing (a0 a1 a2 a3 a4 a5 : D) : fieldOf (fieldNames 1) "standing" [a0, a1, a2, a3, a4, a5] = some a1 := rfl
@[simp] theorem x_af_1_standing (a0 d : D) : addF 1 "standing" [a0] d = some [a0, d] := if_pos ⟨rfl, (show ("standing" : Str) ∉ (fieldNames 1).take 1 by decide)⟩
@[simp] theorem x_fo_1_goal (a0 a1 a2 a3 a4 a5 : D) : fieldOf (fieldNames 1) "goal" [a0, a1, a2, a3, a4, a5] = some a2 := rfl
@[simp] theorem x_af_1_goal (a0 a1 d : D) : addF 1 "goal" [a0, a1] d = some [a0, a1, d] := if_pos ⟨rfl, (show ("goal" : Str) ∉ (fieldNames 1).take 2 by decide)⟩
@[simp] theorem x_fo_1_number (a0 a1 a2 a3 a4 a5 : D) : fieldOf (fieldNames 1) "number" [a0, a1, a2, a3, a4, a5] = some a3 := rfl
@[simp] theorem x_af_1_number (a0 a1 a2 d : D) : addF 1 "number" [a0, a1, a2] d = some [a0, a1, a2, d] := if_pos ⟨rfl, (show ("number" : Str) ∉ (fieldNames 1).take 3 by decide)⟩
@[simp] theorem x_fo_1_block (a0 a1 a2 a3 a4 a5 : D) : fieldOf (fieldNames 1) "block" [a0, a1, a2, a3, a4, a5] = some a4 := rfl
@[simp] theorem x_af_1_block (a0 a1 a2 a3 d : D) : addF 1 "block" [a0, a1, a2, a3] d = some [a0, a1, a2, a3, d] := if_pos ⟨rfl, (show ("block" : Str) ∉ (fieldNames 1).take 4 by decide)⟩
@[simp] theorem x_fo_1_parts (a0 a1 a2 a3 a4 a5 : D) : fieldOf (fieldNames 1) "parts" [a0, a1, a2, a3, a4, a5] = some a5 := rfl
@[simp] theorem x_af_1_parts (a0 a1 a2 a3 a4 d : D) : addF 1 "parts" [a0, a1, a2, a3, a4] d = some [a0, a1, a2, a3, a4, d] := if_pos ⟨rfl, (show ("parts" : Str) ∉ (fieldNames 1).take 5 by decide)⟩
/-- a loop with an invariant that leaves it by no other road -/
theorem loop_wp {g : SG} {b : SS} {Φ : Fl × DS → Prop} {xs : List D} {δ : DS} (I : Nat → DS → Prop) (h0 : I 0 δ)
    (hs : ∀ (j : Nat) (x : D) (δ : DS), xs[j]? = some x → I j δ → Wp (g x δ) fun δ1 => Wp (b δ1) fun p => p.1 = .nx ∧ I (j + 1) p.2)
    (hk : ∀ δ, I xs.length δ → Φ (.nx, δ)) : Wp (loop g b xs δ) Φ := by
  refine (loop_inv (Ψ := fun _ => True) I xs 0 δ h0 fun j x δ hx hI => ?_).mono ?_
  · rw [Nat.zero_add] at hI ⊢
    rw [wp_bind_eq]
    exact hs j x δ hx hI
  · rintro ⟨f, δ'⟩ ⟨h1, h2⟩
    dsimp only at h1 h2
    subst h1
    rw [Nat.zero_add] at h2
    exact hk δ' h2
theorem Wp.call {α : Type} {o : Out α} {Φ Ψ : α → Prop} (h : Wp o Φ) (k : ∀ a, Φ a → Ψ a) : Wp o Ψ := h.mono k
theorem lcs_wp {α : Type} {vs : List Nat} {g : SG} {t : ST} {e : SE} {δ : DS} {Φ : List D × DS → Prop} (f : α → D) (p : α → Bool) (v : α → D) (xs : List α) (hl : xs.length ≤ LIM)
    (h : ∀ x ∈ xs, Wp (g (f x) δ) fun δ1 => Wp (t δ1) fun q => q.1 = p x ∧ (p x = false → wipeD q.2 vs = δ) ∧ (p x = true → Wp (frz (e q.2)) fun u => u.1 = v x ∧ wipeD u.2 vs = δ))
    (k : Φ ((xs.filter p).map v, δ)) : Wp (lcs vs g t e (xs.map f) δ []) Φ := by
  rw [lcs_map f p v xs [] (by simpa using hl) fun x hx => ?_]
  · simpa using k
  · obtain ⟨δ1, e1, h1⟩ := (h x hx).get
    obtain ⟨⟨b, δ2⟩, e2, h2, h3, h4⟩ := h1.get
    dsimp only at h2 h3 h4
    subst h2
    refine ⟨δ1, δ2, e1, e2, h3, fun hp => ?_⟩
    obtain ⟨⟨d, δ3⟩, e3, h5, h6⟩ := (h4 hp).get
    dsimp only at h5 h6
    subst h5
    exact ⟨δ3, e3, h6⟩
theorem turns_wp {t : ST} {b : SS} {Φ : Fl × DS → Prop} (I : Nat → DS → Prop)
    (hs : ∀ k δ, I k δ → Wp (t δ) fun p => (p.1 = true → ∃ k', k = k' + 1 ∧ Wp (b p.2) fun q => q.1 = .nx ∧ I k' q.2) ∧ (p.1 = false → Φ (.nx, p.2))) : ∀ (n : Nat) (δ : DS), I n δ → Wp (turns t b (n + 1) δ) Φ
  | n, δ, h => by
    have h1 := hs n δ h
    rw [turns, wp_bind_eq]
    refine h1.mono ?_
    rintro ⟨c, δ1⟩ ⟨h2, h3⟩
    cases c with
    | false => simpa using h3 rfl
    | true =>
      obtain ⟨k, rfl, h4⟩ := h2 rfl
      dsimp only
      rw [if_pos rfl, wp_bind_eq]
      refine h4.mono ?_
      rintro ⟨f, δ2⟩ ⟨e, h5⟩
      dsimp only at e h5
      subst e
      exact turns_wp I hs k δ2 h5
/-- a while with an invariant and what is left to do -/
theorem while_wp {t : ST} {b : SS} {Φ : Fl × DS → Prop} {δ : DS} (I : Nat → DS → Prop) (n : Nat) (h0 : I n δ)
    (hs : ∀ k δ, I k δ → Wp (t δ) fun p => (p.1 = true → ∃ k', k = k' + 1 ∧ Wp (b p.2) fun q => q.1 = .nx ∧ I k' q.2) ∧ (p.1 = false → Φ (.nx, p.2))) : Wp (sWhile t b δ) Φ := by
  have h := turns_wp I hs n δ h0
  have hn : turns t b (n + 1) δ ≠ .st := fun e => by rw [e] at h; exact h
  rw [while_eq (n + 1) hn]
  exact h
end L2.DI

namespace L2.DI
open PySem PySem.Spec PyProof.Rows PySem.Calls
/-! DJ3: a sorted list is told by what is in it. -/
theorem leD_total : PySem.W.TotalLe leD := PySem.W.sortLe_total _ _ _
theorem leD_anti {a b : D} (h1 : leD a b = true) (h2 : leD b a = true) : PySem.W.keyToks (toPy a) = PySem.W.keyToks (toPy b) := by
  have q1 : (!(listOrd itemOrd).blt (PySem.W.keyToks (toPy b)) (PySem.W.keyToks (toPy a))) = true := h1
  have q2 : (!(listOrd itemOrd).blt (PySem.W.keyToks (toPy a)) (PySem.W.keyToks (toPy b))) = true := h2
  rw [Bool.not_eq_true'] at q1 q2
  exact (listOrd itemOrd).total _ _ q2 q1
theorem same_all {α : Type} {x : α} : ∀ {l m : List α}, l.Perm m → (∀ a ∈ l, a = x) → l = m := by
  intro l m hp h
  have e1 : l = List.replicate l.length x := List.eq_replicate_iff.2 ⟨rfl, h⟩
  have e2 : m = List.replicate m.length x := List.eq_replicate_iff.2 ⟨rfl, fun a ha => h a (hp.mem_iff.2 ha)⟩
  rw [e1, e2, hp.length_eq]
/-- one lot of things, one sorted list -/
theorem sort_set {ds es : List D} (hp : ds.Perm es) (hi : ∀ a ∈ ds, ∀ b ∈ ds, PySem.W.keyToks (toPy a) = PySem.W.keyToks (toPy b) → a = b) : ds.mergeSort leD = es.mergeSort leD := by
  refine (PySem.W.sort_unique leD_total (l := ds) (PySem.W.sort_pairwise leD_total es) fun c => ?_).symm
  have hq : (ds.filter (PySem.W.sameRank leD c)).Perm ((es.mergeSort leD).filter (PySem.W.sameRank leD c)) := (hp.trans (List.mergeSort_perm es leD).symm).filter _
  cases hd : ds.filter (PySem.W.sameRank leD c) with
  | nil => rw [hd] at hq; exact hq.nil_eq.symm
  | cons x l =>
    rw [← hd]
    refine (same_all (x := x) hq fun a ha => ?_).symm
    have hx : x ∈ ds.filter (PySem.W.sameRank leD c) := by rw [hd]; exact List.mem_cons_self ..
    obtain ⟨a1, a2⟩ := List.mem_filter.1 ha
    obtain ⟨x1, x2⟩ := List.mem_filter.1 hx
    unfold PySem.W.sameRank at a2 x2
    rw [Bool.and_eq_true] at a2 x2
    exact hi a a1 x x1 (leD_anti (leD_total.trans _ _ _ a2.2 x2.1) (leD_total.trans _ _ _ x2.2 a2.1))
/-- a standing, as data -/
def stD (F : List (List Nat)) : D := .tup (F.map D.str)
theorem toks_inj : ∀ F F' : List (List Nat), PySem.W.keyToksAll (toPys (F.map D.str)) = PySem.W.keyToksAll (toPys (F'.map D.str)) → F = F'
  | [], [], _ => rfl
  | [], f :: F', h => by simp [toPys, PySem.W.keyToksAll] at h
  | f :: F, [], h => by simp [toPys, PySem.W.keyToksAll] at h
  | f :: F, f' :: F', h => by
    simp only [List.map_cons, toPys, toPy, PySem.W.keyToksAll, PySem.W.keyToks, List.cons.injEq, true_and, List.cons_append, List.nil_append, Sum.inr.injEq] at h
    rw [toks_inj F F' h.2, show f = f' from h.1]
theorem stD_inj {F F' : List (List Nat)} (h : PySem.W.keyToks (toPy (stD F)) = PySem.W.keyToks (toPy (stD F'))) : F = F' := by
  unfold stD at h
  simp only [toPy, PySem.W.keyToks] at h
  exact toks_inj F F' h
theorem sort_std {Fs Gs : List (List (List Nat))} (h : Fs.Perm Gs) : (Fs.map stD).mergeSort leD = (Gs.map stD).mergeSort leD := by
  refine sort_set (h.map stD) fun a ha b hb e => ?_
  obtain ⟨F, _, rfl⟩ := List.mem_map.1 ha
  obtain ⟨G, _, rfl⟩ := List.mem_map.1 hb
  rw [stD_inj e]
/-- sorted standings are standings -/
theorem sort_std_map (Fs : List (List (List Nat))) : ∃ Gs : List (List (List Nat)), Gs.Perm Fs ∧ (Fs.map stD).mergeSort leD = Gs.map stD := by
  refine ⟨Fs.mergeSort (fun a b => leD (stD a) (stD b)), List.mergeSort_perm _ _, ?_⟩
  exact (List.map_mergeSort (f := stD) (r := fun a b => leD (stD a) (stD b)) (s := leD) fun _ _ _ _ => rfl).symm
theorem plains_strs : ∀ F : List (List Nat), plains (F.map D.str) = true
  | [] => rfl
  | f :: F => by rw [List.map_cons, plains, plains_strs F]; rfl
theorem deps_strs : ∀ F : List (List Nat), deps (F.map D.str) = 0
  | [] => rfl
  | f :: F => by rw [List.map_cons, deps, deps_strs F]; rfl
theorem plains_std : ∀ Fs : List (List (List Nat)), plains (Fs.map stD) = true
  | [] => rfl
  | F :: Fs => by rw [List.map_cons, plains, plains_std Fs, stD, plain, plains_strs]; rfl
theorem deps_std : ∀ Fs : List (List (List Nat)), deps (Fs.map stD) ≤ 1
  | [] => by rw [List.map_nil, deps]; omega
  | F :: Fs => by
    rw [List.map_cons, deps, stD, dep, deps_strs]
    have := deps_std Fs
    omega
theorem alike_strs : ∀ F G : List (List Nat), PySem.W.alikeAll (toPys (F.map D.str)) (toPys (G.map D.str)) = true
  | [], _ => by simp [toPys, PySem.W.alikeAll]
  | f :: F, [] => by simp [toPys, PySem.W.alikeAll]
  | f :: F, g :: G => by
    simp only [List.map_cons, toPys, toPy, PySem.W.alikeAll, PySem.W.alike, alike_strs F G, Bool.and_self]
theorem sortOk_std {Fs : List (List (List Nat))} (h : ∀ F ∈ Fs, F ≠ []) : sortOk (Fs.map stD) = true := by
  unfold sortOk
  simp only [Bool.and_eq_true, Bool.or_eq_true, decide_eq_true_eq]
  refine ⟨⟨⟨plains_std Fs, Nat.le_trans (deps_std Fs) (by decide)⟩, ?_⟩, .inl ?_⟩
  · refine List.all_eq_true.2 fun a ha => List.all_eq_true.2 fun b hb => ?_
    obtain ⟨F, _, rfl⟩ := List.mem_map.1 ha
    obtain ⟨G, _, rfl⟩ := List.mem_map.1 hb
    simp only [stD, toPy, PySem.W.alike]
    exact alike_strs F G
  · refine List.all_eq_true.2 fun a ha => ?_
    obtain ⟨F, hF, rfl⟩ := List.mem_map.1 ha
    cases F with
    | nil => exact absurd rfl (h _ hF)
    | cons f F => rfl
end L2.DI

namespace L2.DI
open PySem PySem.Spec PyProof.Rows
/-! DJ4: ways in a graph; dicts by standings -/
@[simp] theorem x_dnK (z : SV) (δ : DS) : sDnK (z :: δ) = .ok (.fr (.dK []), z :: δ) := rfl
@[simp] theorem x_dnT (z : SV) (δ : DS) : sDnT (z :: δ) = .ok (.fr (.dT []), z :: δ) := rfl
/-! ### ways in a graph, level by level -/
section
variable {α : Type} [BEq α] [LawfulBEq α]
inductive Wk (nx : α → List α) : Nat → α → α → Prop
  | nil (a : α) : Wk nx 0 a a
  | snoc {n : Nat} {a b c : α} : Wk nx n a b → c ∈ nx b → Wk nx (n + 1) a c
/-- so many steps off the nearest one -/
def IsD (nx : α → List α) (S : List α) (x : α) (d : Nat) : Prop := (∃ s ∈ S, Wk nx d s x) ∧ ∀ m, m < d → ∀ s ∈ S, ¬ Wk nx m s x
theorem IsD.one {nx : α → List α} {S : List α} {x : α} {d e : Nat} (h : IsD nx S x d) (h' : IsD nx S x e) : d = e := by
  rcases Nat.lt_trichotomy d e with q | q | q
  · obtain ⟨s, hs, w⟩ := h.1
    exact absurd w (h'.2 d q s hs)
  · exact q
  · obtain ⟨s, hs, w⟩ := h'.1
    exact absurd w (h.2 e q s hs)
theorem IsD.pred {nx : α → List α} {S : List α} {x : α} {d : Nat} (h : IsD nx S x (d + 1)) : ∃ y, IsD nx S y d ∧ x ∈ nx y := by
  obtain ⟨⟨s, hs, w⟩, h2⟩ := h
  cases w with
  | @snoc _ _ b _ w e =>
    refine ⟨b, ⟨⟨s, hs, w⟩, fun m hm t ht w' => h2 (m + 1) (by omega) t ht (.snoc w' e)⟩, e⟩
theorem IsD.of_wk {nx : α → List α} {S : List α} {x : α} : ∀ (n : Nat), (∃ s ∈ S, Wk nx n s x) → ∃ d, d ≤ n ∧ IsD nx S x d := by
  intro n
  induction n using Nat.strongRecOn with
  | ind n ih =>
    intro h
    by_cases q : ∃ m, m < n ∧ ∃ s ∈ S, Wk nx m s x
    · obtain ⟨m, hm, hw⟩ := q
      obtain ⟨d, hd, e⟩ := ih m hm hw
      exact ⟨d, by omega, e⟩
    · exact ⟨n, Nat.le_refl _, h, fun m hm s hs w => q ⟨m, hm, s, hs, w⟩⟩
abbrev kys (R : List (α × Nat)) : List α := R.map (·.1)
/-- level k is done: all up to k steps off are found, those just k off stand at the edge -/
structure Lv (nx : α → List α) (S : List α) (k : Nat) (R : List (α × Nat)) (E : List α) : Prop where
  nd : (kys R).Nodup
  mem : ∀ x d, (x, d) ∈ R ↔ (IsD nx S x d ∧ d ≤ k)
  edge : ∀ x, x ∈ E ↔ (x, k) ∈ R
/-- within level k: ys looked at -/
structure Md (R0 : List (α × Nat)) (k : Nat) (ys : List α) (R : List (α × Nat)) (L : List α) : Prop where
  eq : R = R0 ++ L.map fun y => (y, k + 1)
  nd : L.Nodup
  new : ∀ y ∈ L, y ∈ ys ∧ y ∉ kys R0
  all : ∀ y ∈ ys, y ∈ kys R0 ∨ y ∈ L
theorem Md.start (R0 : List (α × Nat)) (k : Nat) : Md R0 k [] R0 [] := ⟨by simp, List.nodup_nil, fun _ h => (by cases h), fun _ h => (by cases h)⟩
theorem kys_app (R0 : List (α × Nat)) (k : Nat) (L : List α) : kys (R0 ++ L.map fun y => (y, k + 1)) = kys R0 ++ L := by
  simp [kys, Function.comp_def]
theorem Md.old {R0 : List (α × Nat)} {k : Nat} {ys : List α} {R : List (α × Nat)} {L : List α} (h : Md R0 k ys R L) {y : α} (hy : y ∈ kys R) : Md R0 k (ys ++ [y]) R L := by
  refine ⟨h.eq, h.nd, fun z hz => ⟨List.mem_append_left _ (h.new z hz).1, (h.new z hz).2⟩, fun z hz => ?_⟩
  rcases List.mem_append.1 hz with q | q
  · exact h.all z q
  · obtain rfl := List.mem_singleton.1 q
    rw [h.eq, kys_app] at hy
    exact List.mem_append.1 hy
theorem Md.add {R0 : List (α × Nat)} {k : Nat} {ys : List α} {R : List (α × Nat)} {L : List α} (h : Md R0 k ys R L) {y : α} (hy : y ∉ kys R) : Md R0 k (ys ++ [y]) (R ++ [(y, k + 1)]) (L ++ [y]) := by
  rw [h.eq, kys_app] at hy
  rw [List.mem_append] at hy
  refine ⟨by rw [h.eq]; simp, ?_, fun z hz => ?_, fun z hz => ?_⟩
  · rw [List.nodup_append]
    refine ⟨h.nd, by simp, fun a ha b hb e => ?_⟩
    obtain rfl := List.mem_singleton.1 hb
    exact hy (.inr (e ▸ ha))
  · rcases List.mem_append.1 hz with q | q
    · exact ⟨List.mem_append_left _ (h.new z q).1, (h.new z q).2⟩
    · obtain rfl := List.mem_singleton.1 q
      exact ⟨List.mem_append_right _ (List.mem_singleton.2 rfl), fun q => hy (.inl q)⟩
  · rcases List.mem_append.1 hz with q | q
    · rcases h.all z q with e | e
      · exact .inl e
      · exact .inr (List.mem_append_left _ e)
    · exact .inr (List.mem_append_right _ q)
theorem Md.kys_nd {R0 : List (α × Nat)} {k : Nat} {ys : List α} {R : List (α × Nat)} {L : List α} (h : Md R0 k ys R L) (h0 : (kys R0).Nodup) : (kys R).Nodup := by
  rw [h.eq, kys_app, List.nodup_append]
  exact ⟨h0, h.nd, fun a ha b hb e => (h.new b hb).2 (e ▸ ha)⟩
theorem Lv.start {nx : α → List α} {S : List α} (hS : S.Nodup) : Lv nx S 0 (S.map fun s => (s, 0)) S := by
  have e : kys (S.map fun s => (s, 0)) = S := by simp [kys, Function.comp_def]
  have hm : ∀ x d, (x, d) ∈ (S.map fun s => (s, 0)) ↔ x ∈ S ∧ d = 0 := by
    intro x d
    simp only [List.mem_map, Prod.mk.injEq]
    constructor
    · rintro ⟨a, h, rfl, rfl⟩; exact ⟨h, rfl⟩
    · rintro ⟨h, rfl⟩; exact ⟨x, h, rfl, rfl⟩
  refine ⟨by rw [e]; exact hS, fun x d => ?_, fun x => ?_⟩
  · rw [hm]
    constructor
    · rintro ⟨h, rfl⟩
      exact ⟨⟨⟨x, h, .nil x⟩, fun m hm => absurd hm (Nat.not_lt_zero _)⟩, Nat.le_refl _⟩
    · rintro ⟨⟨⟨s, hs, w⟩, _⟩, hd⟩
      obtain rfl : d = 0 := by omega
      cases w
      exact ⟨hs, rfl⟩
  · rw [hm]; simp
theorem mem_kys {R : List (α × Nat)} {x : α} : x ∈ kys R ↔ ∃ d, (x, d) ∈ R := by
  constructor
  · intro h
    obtain ⟨p, hp, rfl⟩ := List.mem_map.1 h
    exact ⟨p.2, hp⟩
  · rintro ⟨d, h⟩
    exact List.mem_map.2 ⟨_, h, rfl⟩
theorem Lv.next {nx : α → List α} {S : List α} {k : Nat} {R : List (α × Nat)} {E : List α} (h : Lv nx S k R E) {R' : List (α × Nat)} {L : List α} (m : Md R k (E.flatMap nx) R' L) : Lv nx S (k + 1) R' L := by
  have new : ∀ y, y ∈ L ↔ IsD nx S y (k + 1) := by
    intro y
    constructor
    · intro hy
      obtain ⟨h1, h2⟩ := m.new y hy
      obtain ⟨x, hx, hn⟩ := List.mem_flatMap.1 h1
      obtain ⟨⟨s, hs, w⟩, _⟩ := ((h.mem x k).1 ((h.edge x).1 hx)).1
      refine ⟨⟨s, hs, .snoc w hn⟩, fun j hj t ht w' => h2 ?_⟩
      obtain ⟨d, hd, e⟩ := IsD.of_wk j ⟨t, ht, w'⟩
      exact mem_kys.2 ⟨d, (h.mem y d).2 ⟨e, by omega⟩⟩
    · intro hy
      obtain ⟨x, hx, hn⟩ := hy.pred
      have : y ∈ E.flatMap nx := List.mem_flatMap.2 ⟨x, (h.edge x).2 ((h.mem x k).2 ⟨hx, Nat.le_refl _⟩), hn⟩
      rcases m.all y this with q | q
      · obtain ⟨d, hd⟩ := mem_kys.1 q
        obtain ⟨e, hd⟩ := (h.mem y d).1 hd
        have := e.one hy
        omega
      · exact q
  have hmem : ∀ x d, (x, d) ∈ R' ↔ (x, d) ∈ R ∨ (x ∈ L ∧ d = k + 1) := by
    intro x d
    rw [m.eq, List.mem_append, List.mem_map]
    constructor
    · rintro (q | ⟨y, hy, e⟩)
      · exact .inl q
      · cases e; exact .inr ⟨hy, rfl⟩
    · rintro (q | ⟨hy, rfl⟩)
      · exact .inl q
      · exact .inr ⟨x, hy, rfl⟩
  refine ⟨m.kys_nd h.nd, fun x d => ?_, fun x => ?_⟩
  · rw [hmem, h.mem, new]
    constructor
    · rintro (⟨q, hd⟩ | ⟨q, rfl⟩)
      · exact ⟨q, by omega⟩
      · exact ⟨q, Nat.le_refl _⟩
    · rintro ⟨q, hd⟩
      by_cases e : d = k + 1
      · subst e; exact .inr ⟨q, rfl⟩
      · exact .inl ⟨q, by omega⟩
  · rw [hmem]
    constructor
    · intro q; exact .inr ⟨q, rfl⟩
    · rintro (q | q)
      · have := ((h.mem x (k + 1)).1 q).2
        omega
      · exact q.1
/-- all is found -/
structure Far (nx : α → List α) (S : List α) (R : List (α × Nat)) : Prop where
  nd : (kys R).Nodup
  mem : ∀ x d, (x, d) ∈ R ↔ IsD nx S x d
theorem Lv.done {nx : α → List α} {S : List α} {k : Nat} {R : List (α × Nat)} (h : Lv nx S k R []) : Far nx S R := by
  refine ⟨h.nd, fun x d => ?_⟩
  rw [h.mem]
  refine ⟨fun q => q.1, fun q => ⟨q, ?_⟩⟩
  have : ∀ d x, IsD nx S x d → d < k := by
    intro d
    induction d with
    | zero =>
      intro x q
      by_cases e : 0 < k
      · exact e
      · obtain rfl : k = 0 := by omega
        have := (h.edge x).2 ((h.mem x 0).2 ⟨q, Nat.le_refl _⟩)
        cases this
    | succ d ih =>
      intro x q
      obtain ⟨y, hy, _⟩ := q.pred
      have hd := ih y hy
      by_cases e : d + 1 = k
      · subst e
        have := (h.edge x).2 ((h.mem x (d + 1)).2 ⟨q, Nat.le_refl _⟩)
        cases this
      · omega
  have := this d x q
  omega
theorem lookup_of {R : List (α × Nat)} (hn : (kys R).Nodup) {x : α} {d : Nat} (h : (x, d) ∈ R) : R.lookup x = some d := by
  induction R with
  | nil => cases h
  | cons p R ih =>
    obtain ⟨a, b⟩ := p
    rw [kys, List.map_cons, List.nodup_cons] at hn
    rw [List.lookup_cons]
    rcases List.mem_cons.1 h with q | q
    · cases q; simp
    · have : x ≠ a := fun e => hn.1 (e ▸ mem_kys.2 ⟨d, q⟩)
      have : (x == a) = false := by simpa using this
      rw [this]
      exact ih hn.2 q
theorem lookup_none {R : List (α × Nat)} {x : α} (h : x ∉ kys R) : R.lookup x = none := by
  induction R with
  | nil => rfl
  | cons p R ih =>
    obtain ⟨a, b⟩ := p
    rw [kys, List.map_cons, List.mem_cons, not_or] at h
    have : (x == a) = false := by simpa using h.1
    rw [List.lookup_cons, this]
    exact ih h.2
theorem Far.look {nx : α → List α} {S : List α} {R : List (α × Nat)} (h : Far nx S R) (x : α) (d : Nat) : R.lookup x = some d ↔ IsD nx S x d := by
  rw [← h.mem]
  constructor
  · intro e
    by_cases q : x ∈ kys R
    · obtain ⟨d', hd⟩ := mem_kys.1 q
      rw [lookup_of h.nd hd] at e
      cases e; exact hd
    · rw [lookup_none q] at e; cases e
  · exact lookup_of h.nd
theorem Far.perm {nx : α → List α} {S S' : List α} {R R' : List (α × Nat)} (h : Far nx S R) (h' : Far nx S' R') (e : ∀ x, (∃ d, IsD nx S x d) ↔ ∃ d, IsD nx S' x d) : (kys R).Perm (kys R') := by
  refine (List.perm_ext_iff_of_nodup h.nd h'.nd).2 fun x => ?_
  rw [mem_kys, mem_kys]
  simp only [h.mem, h'.mem, e]
/-! there and back -/
theorem Wk.trans {nx : α → List α} {a b c : α} {n m : Nat} (h : Wk nx n a b) (h' : Wk nx m b c) : Wk nx (n + m) a c := by
  induction h' with
  | nil => exact h
  | snoc w e ih => exact (ih h).snoc e
theorem Wk.back {nx : α → List α} (hs : ∀ a b, b ∈ nx a → a ∈ nx b) {a b : α} {n : Nat} (h : Wk nx n a b) : Wk nx n b a := by
  induction h with
  | nil => exact .nil _
  | @snoc n a b c w e ih =>
    have := (Wk.snoc (.nil c) (hs _ _ e)).trans ih
    rwa [Nat.add_comm 1] at this
/-- a graph with both roads, on the nodes that are meant -/
theorem Wk.good {nx : α → List α} {P : α → Prop} (hp : ∀ a b, P a → b ∈ nx a → P b) {a b : α} {n : Nat} (h : Wk nx n a b) (ha : P a) : P b := by
  induction h with
  | nil => exact ha
  | snoc w e ih => exact hp _ _ (ih ha) e
theorem Wk.backP {nx : α → List α} {P : α → Prop} (hp : ∀ a b, P a → b ∈ nx a → P b) (hs : ∀ a b, P a → b ∈ nx a → a ∈ nx b) {a b : α} {n : Nat} (h : Wk nx n a b) (ha : P a) : Wk nx n b a := by
  induction h with
  | nil => exact .nil _
  | @snoc n a b c w e ih =>
    have := (Wk.snoc (.nil c) (hs _ _ (w.good hp ha) e)).trans (ih ha)
    rwa [Nat.add_comm 1] at this
theorem IsD.sym {nx : α → List α} {P : α → Prop} (hp : ∀ a b, P a → b ∈ nx a → P b) (hs : ∀ a b, P a → b ∈ nx a → a ∈ nx b) {a b : α} (ha : P a) (hb : P b) {d : Nat} (h : IsD nx [a] b d) : IsD nx [b] a d := by
  obtain ⟨⟨s, h1, w⟩, h2⟩ := h
  obtain rfl := List.mem_singleton.1 h1
  refine ⟨⟨b, List.mem_singleton.2 rfl, w.backP hp hs ha⟩, fun m hm t ht w' => ?_⟩
  obtain rfl := List.mem_singleton.1 ht
  exact h2 m hm s (List.mem_singleton.2 rfl) (w'.backP hp hs hb)
theorem reach_same {nx : α → List α} {P : α → Prop} (hp : ∀ a b, P a → b ∈ nx a → P b) (hs : ∀ a b, P a → b ∈ nx a → a ∈ nx b) {a b : α} (ha : P a) {e : Nat} (h : IsD nx [a] b e) (x : α) : (∃ d, IsD nx [a] x d) ↔ ∃ d, IsD nx [b] x d := by
  obtain ⟨⟨s, h1, w⟩, _⟩ := h
  obtain rfl := List.mem_singleton.1 h1
  have hb := w.good hp ha
  have w2 := w.backP hp hs ha
  constructor
  · rintro ⟨d, ⟨t, ht, w'⟩, _⟩
    obtain rfl := List.mem_singleton.1 ht
    obtain ⟨d', _, q⟩ := IsD.of_wk (nx := nx) (S := [b]) (x := x) _ ⟨b, List.mem_singleton.2 rfl, w2.trans w'⟩
    exact ⟨d', q⟩
  · rintro ⟨d, ⟨t, ht, w'⟩, _⟩
    obtain rfl := List.mem_singleton.1 ht
    obtain ⟨d', _, q⟩ := IsD.of_wk (nx := nx) (S := [s]) (x := x) _ ⟨s, List.mem_singleton.2 rfl, w.trans w'⟩
    exact ⟨d', q⟩
theorem nodup_len : ∀ {l m : List α}, l.Nodup → (∀ x ∈ l, x ∈ m) → l.length ≤ m.length
  | [], m, _, _ => Nat.zero_le _
  | a :: l, m, h, hs => by
    rw [List.nodup_cons] at h
    have ha := hs a (List.mem_cons_self ..)
    have := nodup_len (l := l) (m := m.erase a) h.2 fun x hx => by
      have ne : x ≠ a := fun e => h.1 (e ▸ hx)
      exact (List.mem_erase_of_ne ne).2 (hs x (List.mem_cons_of_mem _ hx))
    rw [List.length_erase_of_mem ha] at this
    have hm : 0 < m.length := List.length_pos_of_mem ha
    rw [List.length_cons]
    omega
end
/-! ### dicts from standings to numbers -/
abbrev skey (f : List Nat) : Key := Sum.inr (mk f)
theorem skey_inj : ∀ {F G : List (List Nat)}, F.map skey = G.map skey → F = G
  | [], [], _ => rfl
  | [], _ :: _, h => by simp at h
  | _ :: _, [], h => by simp at h
  | f :: F, g :: G, h => by
    rw [List.map_cons, List.map_cons, List.cons.injEq] at h
    rw [skey_inj h.2, mk_inj (Sum.inr.inj h.1)]
theorem keysOf_strs : ∀ F : List (List Nat), keysOf (F.map D.str) = some (F.map skey)
  | [] => rfl
  | f :: F => by rw [List.map_cons, keysOf, keysOf_strs F]; rfl
/-- what is kept at standings -/
def kR {β : Type} (v : β → D) (R : List (List (List Nat) × β)) : List (List Key × D) := R.map fun p => (p.1.map skey, v p.2)
theorem lk_kR {β : Type} (v : β → D) (F : List (List Nat)) : ∀ R : List (List (List Nat) × β), lk (kR v R) (F.map skey) = (R.lookup F).map v
  | [] => rfl
  | (G, d) :: R => by
    have ih := lk_kR v F R
    by_cases e : G = F
    · subst e; simp [lk, kR, List.lookup]
    · have e' : (F == G) = false := by simpa using fun z : F = G => e z.symm
      have e2 : ¬ G.map skey = F.map skey := fun z => e (skey_inj z)
      unfold lk kR at ih ⊢
      rw [List.map_cons, List.find?_cons_of_neg (by simpa using e2), ih]
      simp [List.lookup, e']
theorem pt_kR {β : Type} (v : β → D) {F : List (List Nat)} {R : List (List (List Nat) × β)} (h : F ∉ R.map (·.1)) (d : β) : ptD (kR v R) (F.map skey) (v d) = kR v (R ++ [(F, d)]) := by
  have : ((kR v R).any fun kv => decide (kv.1 = F.map skey)) = false := by
    rw [List.any_eq_false]
    intro kv hkv
    unfold kR at hkv
    obtain ⟨p, hp, rfl⟩ := List.mem_map.1 hkv
    simp only [decide_eq_true_eq]
    intro z
    exact h (List.mem_map.2 ⟨p, hp, skey_inj z⟩)
  unfold ptD
  rw [if_neg (by rw [this]; decide)]
  simp [kR]
theorem get_kR {β : Type} (v : β → D) (F : List (List Nat)) (R : List (List (List Nat) × β)) : dget (.dT (kR v R)) (stD F) = .ok ((R.lookup F).map v) := by
  unfold dget stD
  simp only [keysOf_strs, lk_kR]
theorem look_mem {β : Type} {F : List (List Nat)} : ∀ {R : List (List (List Nat) × β)}, (R.lookup F).isSome = decide (F ∈ R.map (·.1))
  | [] => rfl
  | (G, d) :: R => by
    rw [List.lookup_cons]
    by_cases e : F = G
    · subst e; simp
    · have e' : (F == G) = false := by simpa using e
      rw [e']
      simp only []
      rw [look_mem (R := R)]
      simp [e]
theorem in_kR {β : Type} (v : β → D) (neg : Bool) (F : List (List Nat)) (R : List (List (List Nat) × β)) : fIn neg (stD F) (.dT (kR v R)) = .ok (.im (.bl (xor neg (decide (F ∈ R.map (·.1)))))) := by
  show (dget (.dT (kR v R)) (stD F) >>= fun o => Out.ok (RV.im (D.bl (xor neg o.isSome)))) = _
  rw [get_kR, ok_bind, Option.isSome_map, look_mem]
theorem ix_kR {β : Type} (v : β → D) {F : List (List Nat)} {R : List (List (List Nat) × β)} {d : β} (h : R.lookup F = some d) : fIx (.dT (kR v R)) (stD F) = .ok (.im (v d)) := by
  show (dget (.dT (kR v R)) (stD F) >>= fun o => match o with | some e => Out.ok (RV.im e) | none => .st) = _
  rw [get_kR, h]; rfl
theorem put_kR {β : Type} (v : β → D) {F : List (List Nat)} {R : List (List (List Nat) × β)} (h : F ∉ R.map (·.1)) (hl : R.length < 16777216) (d : β) : dput (.dT (kR v R)) (stD F) (v d) = .ok (.dT (kR v (R ++ [(F, d)]))) := by
  unfold dput stD
  simp only [keysOf_strs, pt_kR v h]
  rw [if_pos (by rw [kR, List.length_map]; exact hl)]
theorem kD_strs : ∀ F : List (List Nat), (F.map skey).map kD = F.map D.str
  | [] => rfl
  | f :: F => by rw [List.map_cons, List.map_cons, List.map_cons, kD_strs F]; rfl
theorem list_kR {β : Type} (v : β → D) {R : List (List (List Nat) × β)} (h : ∀ F ∈ R.map (·.1), ∀ f ∈ F, asc f = true) : fListA (.dT (kR v R)) = .ok (.fr (.lst ((R.map (·.1)).map stD))) := by
  unfold fListA
  dsimp only
  rw [if_pos]
  · congr 3
    unfold kR
    rw [List.map_map, List.map_map]
    apply List.map_congr_left
    intro p _
    show D.tup ((p.1.map skey).map kD) = _
    rw [kD_strs]; rfl
  · rw [List.all_eq_true]
    intro kv hkv
    unfold kR at hkv
    obtain ⟨p, hp, rfl⟩ := List.mem_map.1 hkv
    rw [List.all_eq_true]
    intro k hk
    obtain ⟨f, hf, rfl⟩ := List.mem_map.1 hk
    exact h p.1 (List.mem_map.2 ⟨p, hp, rfl⟩) f hf
theorem len_kR {β : Type} (v : β → D) (R : List (List (List Nat) × β)) : (kR v R).length = R.length := by simp [kR]
/-- words over some signs -/
def wrds (A : List Nat) : Nat → List (List Nat)
  | 0 => [[]]
  | n + 1 => A.flatMap fun a => (wrds A n).map (a :: ·)
theorem wrds_len (A : List Nat) : ∀ n, (wrds A n).length = A.length ^ n
  | 0 => rfl
  | n + 1 => by
    rw [wrds, List.length_flatMap]
    have : (A.map fun a => ((wrds A n).map (a :: ·)).length) = A.map fun _ => A.length ^ n := by
      apply List.map_congr_left
      intro a _
      rw [List.length_map, wrds_len A n]
    rw [this]
    have e : ∀ (B : List Nat) (x : Nat), (B.map fun _ => x).sum = B.length * x := by
      intro B x
      induction B with
      | nil => simp
      | cons b B ih => rw [List.map_cons, List.sum_cons, ih, List.length_cons, Nat.add_mul]; omega
    rw [e, Nat.pow_succ, Nat.mul_comm]
theorem wrds_mem (A : List Nat) : ∀ w : List Nat, (∀ c ∈ w, c ∈ A) → w ∈ wrds A w.length
  | [], _ => by simp [wrds]
  | c :: w, h => by
    rw [List.length_cons, wrds, List.mem_flatMap]
    exact ⟨c, h c (List.mem_cons_self ..), List.mem_map.2 ⟨w, wrds_mem A w fun d hd => h d (List.mem_cons_of_mem _ hd), rfl⟩⟩
def enc (F : List (List Nat)) : List Nat := F.flatMap fun f => f ++ [0]
theorem app_zero {f g r s : List Nat} (hf : ∀ c ∈ f, c ≠ 0) (hg : ∀ c ∈ g, c ≠ 0) (h : f ++ 0 :: r = g ++ 0 :: s) : f = g ∧ r = s := by
  induction f generalizing g with
  | nil =>
    cases g with
    | nil => simpa using h
    | cons b g =>
      simp at h
      exact absurd h.1.symm (hg b (List.mem_cons_self ..))
  | cons a f ih =>
    cases g with
    | nil =>
      simp at h
      exact absurd h.1 (hf a (List.mem_cons_self ..))
    | cons b g =>
      rw [List.cons_append, List.cons_append, List.cons.injEq] at h
      obtain ⟨h1, h2⟩ := ih (fun c hc => hf c (List.mem_cons_of_mem _ hc)) (fun c hc => hg c (List.mem_cons_of_mem _ hc)) h.2
      exact ⟨by rw [h.1, h1], h2⟩
theorem enc_inj : ∀ {F G : List (List Nat)}, (∀ f ∈ F, ∀ c ∈ f, c ≠ 0) → (∀ f ∈ G, ∀ c ∈ f, c ≠ 0) → enc F = enc G → F = G
  | [], [], _, _, _ => rfl
  | [], _ :: _, _, _, h => by simp [enc] at h
  | _ :: _, [], _, _, h => by simp [enc] at h
  | f :: F, g :: G, h1, h2, h => by
    unfold enc at h
    rw [List.flatMap_cons, List.flatMap_cons, List.append_assoc, List.append_assoc] at h
    obtain ⟨e1, e2⟩ := app_zero (h1 f (List.mem_cons_self ..)) (h2 g (List.mem_cons_self ..)) h
    rw [e1, enc_inj (F := F) (G := G) (fun f hf => h1 f (List.mem_cons_of_mem _ hf)) (fun f hf => h2 f (List.mem_cons_of_mem _ hf)) e2]
theorem enc_len : ∀ F : List (List Nat), (enc F).length = F.flatten.length + F.length
  | [] => rfl
  | f :: F => by
    have := enc_len F
    unfold enc at this ⊢
    rw [List.flatMap_cons, List.length_append, this, List.flatten_cons, List.length_append, List.length_append]
    simp only [List.length_cons, List.length_nil]
    omega
/-- how many standings there can be -/
theorem std_many {A : List Nat} (hA : ∀ c ∈ A, c ≠ 0) {n p : Nat} {Fs : List (List (List Nat))} (hn : Fs.Nodup) (h : ∀ F ∈ Fs, F.flatten.length = n ∧ F.length = p ∧ ∀ f ∈ F, ∀ c ∈ f, c ∈ A) : Fs.length ≤ (A.length + 1) ^ (n + p) := by
  have h1 : (Fs.map enc).Nodup := by
    refine List.pairwise_map.2 (hn.imp_of_mem fun {a b} ha hb ne e => ne (enc_inj (fun f hf c hc => hA c ((h a ha).2.2 f hf c hc)) (fun f hf c hc => hA c ((h b hb).2.2 f hf c hc)) e))
  have h2 := nodup_len (m := wrds (0 :: A) (n + p)) h1 fun w hw => by
    obtain ⟨F, hF, rfl⟩ := List.mem_map.1 hw
    obtain ⟨q1, q2, q3⟩ := h F hF
    have := wrds_mem (0 :: A) (enc F) fun c hc => by
      unfold enc at hc
      obtain ⟨f, hf, hc⟩ := List.mem_flatMap.1 hc
      rcases List.mem_append.1 hc with z | z
      · exact List.mem_cons_of_mem _ (q3 f hf c z)
      · rw [List.mem_singleton.1 z]; exact List.mem_cons_self ..
    rw [enc_len, q1, q2] at this
    exact this
  rw [List.length_map, wrds_len, List.length_cons] at h2
  exact h2
end L2.DI

namespace L2.DI
open PySem PySem.Spec PyProof.Rows
/-! DJ5: rules for defs that raise and for _law_kept -/
section
variable (a b : SE) (z : SV) (δ : DS) (d : D) (g : D → List D → Out (RV × D)) (s : SF)
@[simp] theorem x_kept (wo : Nat → Option (List Nat)) (nw : List Nat) (fz : List Nat) : sKept wo nw fz b (z :: δ) = (match b (noOw (fzs fz (z :: δ))) with
  | .ok _ => .ok (.im (.tup [.str nw, .non]), fzs fz (z :: δ))
  | .ex c [d] => (match wo c with
    | some w => .ok (.im (.tup [.str w, d]), fzs fz (z :: δ))
    | none => .st)
  | _ => .st) := rfl
@[simp] theorem x_fzs_nil : fzs [] δ = δ := rfl
@[simp] theorem x_fzs_cons (i : Nat) (is : List Nat) : fzs (i :: is) δ = fzs is (match δ[i]? with
    | some (.ow c) => δ.set i (.im c)
    | _ => δ) := rfl
@[simp] theorem x_noOw_nil : noOw [] = [] := rfl
@[simp] theorem x_noOw_cons : noOw (z :: δ) = noOw1 z :: noOw δ := rfl
@[simp] theorem x_noOw1_no : noOw1 .no = .no := rfl
@[simp] theorem x_noOw1_im : noOw1 (.im d) = .im d := rfl
@[simp] theorem x_noOw1_ow : noOw1 (.ow d) = .no := rfl
@[simp] theorem x_raise (c : Nat) : sRaise c s (z :: δ) = s (z :: δ) >>= fun p => .ex c p.1 := rfl
@[simp] theorem x_ownV : sOwnV g a (z :: δ) = a (z :: δ) >>= fun p => (match p.1 with
    | .fr c => (g c [] >>= fun q => (match q.1 with
      | .im d => .ok (.im d, p.2)
      | _ => .st))
    | _ => .st) := rfl
@[simp] theorem x_noEx_ok {α : Type} (x : α) : noEx (Out.ok x) = .ok x := rfl
@[simp] theorem x_noEx_st {α : Type} : noEx (Out.st : Out α) = .st := rfl
end
@[simp] theorem x_exis (i : Nat) (a : Addr) (b : Bool) (δ : DS) : sExIs i a b δ = (match δ[i]? with
  | some (.im (.adr a')) => if a' = a then .ok (.im (.bl b), δ) else .st
  | _ => .st) := rfl
@[simp] theorem x_exgiv (i : Nat) (a : Addr) (d : D) (δ : DS) : sExGiv i a d δ = (match δ[i]? with
  | some (.im (.adr a')) => if a' = a then .ok (.im d, δ) else .st
  | _ => .st) := rfl
@[simp] theorem x_mtLB (f : D → D → Out RV) (a b : SE) (z : SV) (δ : DS) : sMtL f a b (z :: δ) = opd (a (z :: δ)) >>= fun p => look p.2 p.1 >>= fun d0 => (match d0 with
    | .lst _ => (opd (b p.2) >>= fun q => look q.2 p.1 >>= fun da => look q.2 q.1 >>= fun db => f da db >>= fun r => .ok (r, q.2))
    | _ => .st) := rfl
@[simp] theorem x_isT_own_non (t : Nat) : isT (.own t) .non = false := rfl
@[simp] theorem x_isT_own_bl (t : Nat) (b : Bool) : isT (.own t) (.bl b) = false := rfl
@[simp] theorem x_isT_own_int (t : Nat) (b : Int) : isT (.own t) (.int b) = false := rfl
@[simp] theorem x_isT_own_str (t : Nat) (b : List Nat) : isT (.own t) (.str b) = false := rfl
@[simp] theorem x_isT_own_tup (t : Nat) (b : List D) : isT (.own t) (.tup b) = false := rfl
@[simp] theorem x_isT_own_lst (t : Nat) (b : List D) : isT (.own t) (.lst b) = false := rfl
@[simp] theorem x_isT_own_ktp (t : Nat) (b : List D) : isT (.own t) (.ktp b) = false := rfl
@[simp] theorem x_isT_own_kls (t : Nat) (b : List D) : isT (.own t) (.kls b) = false := rfl
@[simp] theorem x_isT_own_dK (t : Nat) (b : List (Key × D)) : isT (.own t) (.dK b) = false := rfl
@[simp] theorem x_isT_own_dT (t : Nat) (b : List (List Key × D)) : isT (.own t) (.dT b) = false := rfl
@[simp] theorem x_valTy_dK (b : List (Key × D)) : valTy (.dK b) = "dict" := rfl
@[simp] theorem x_valTy_dT (b : List (List Key × D)) : valTy (.dT b) = "dict" := rfl
@[simp] theorem x_outD_ex (c : Nat) (fs : List D) : outD (.ex c fs) = .ex c fs := rfl
end L2.DI

namespace L2.DI
open PySem PySem.Spec PyProof.Rows
/-! DJ6: rules for text.upper() and functions as values -/
section
variable (a b : SE) (z : SV) (δ : DS)
@[simp] theorem x_up : sUp a (z :: δ) = opd (a (z :: δ)) >>= fun p => (match p.1 with
    | .im (.str l) => if l.length ≤ 5592405 then .ok (.im (.str (l.map up1)), p.2) else .st
    | _ => .st) := rfl
@[simp] theorem x_pick (i k : Nat) : sPick i k a b (z :: δ) = match (z :: δ)[i]? with
  | some (.im (.fnc j)) => if j = k then a (z :: δ) else b (z :: δ)
  | _ => .st := rfl
@[simp] theorem x_enumS : sEnumS a (z :: δ) = frz (a (z :: δ)) >>= fun p => (match p.1 with
    | .str l => .ok (enD (l.map fun c => D.str [c]), p.2)
    | _ => .st) := rfl
@[simp] theorem x_sSt : sSt δ = .st := rfl
end
end L2.DI

namespace L2.DI
open PySem PySem.Spec PyProof.Rows
def wordOf : Nat → Option (List Nat)
  | 2 => some [115, 116, 97, 110, 100, 105, 110, 103]
  | 7 => some [116, 97, 98, 108, 101]
  | _ => none
def noneW : List Nat := [110, 111, 110, 101]
def c_BLOCKS : D := (.str [97, 98, 99, 100, 101])
def c_LEAST_MANY : D := (.int 1)
def c_MOST_MANY : D := (.int 5)
def c_LEAST_PILES_tablework : D := (.int 2)
def c_MOST_PILES_tablework : D := (.int 4)
def c_FREE : D := (.str [102, 114, 101, 101])
def c_RULES : D := (.ktp [(.str [102, 114, 101, 101]), (.str [108, 105, 103, 104, 116])])
def c_LEAST_PILES_takework : D := (.int 2)
def c_MOST_PILES_takework : D := (.int 4)
def c_MOST_BLOCKS : D := (.int 5)
noncomputable def sb_law_pick : SS :=
    (sSeq (sIfs (tVal (sBin fGt (sBin fIx (sVar 0) (sCst (.int 0))) (sCst (.int 0))))
    (sSeq (sAsg (sCall (f2 fDivmod) (sCons (sBin fIx (sVar 0) (sCst (.int 0))) (sCons (sVar 1) sNil))) (gTp 2 (gsCons (gIx 0 (sCst (.int 0))) (gsCons (gNm 2) gsNil))))
    (sRet (sVar 2)))
    sNx)
    (sSeq (sAsg (sBin fAdd (sBin fIx (sVar 0) (sCst (.int 2))) (sCst (.int 1))) (gIx 0 (sCst (.int 2))))
    (sSeq (sSet 3 (sBin fMod (sCall (f1 fInt) (sCons (sBin fAdd (sBin fAdd (sBin fMul (sBin fIx (sVar 0) (sCst (.int 1))) (sCst (.int 46237))) (sBin fMul (sCst (.int 19013)) (sBin fIx (sVar 0) (sCst (.int 2))))) (sCst (.int 29))) sNil)) (sCst (.int 2147483563))))
    (sSeq (sAsg (sBin fMod (sCall (f1 fInt) (sCons (sBin fAdd (sBin fMul (sVar 3) (sBin fAdd (sBin fMod (sCall (f1 fInt) (sCons (sVar 3) sNil)) (sCst (.int 5021))) (sCst (.int 27011)))) (sBin fMul (sCst (.int 11)) (sBin fIx (sVar 0) (sCst (.int 2))))) sNil)) (sCst (.int 2147483563))) (gIx 0 (sCst (.int 1))))
    (sRet (sBin fMod (sCall (f1 fInt) (sCons (sBin fFdiv (sBin fIx (sVar 0) (sCst (.int 1))) (sCst (.int 617))) sNil)) (sVar 1)))))))
noncomputable def m_law_pick : D → List D → Out (RV × D) := semB sb_law_pick 2
noncomputable def sb_law_of : SS :=
    (sRet (sBin fIx (sVar 1) (sOwnB m_law_pick 0 (fCons (sCall (f1 fLen) (sCons (sVar 1) sNil)) fNil))))
noncomputable def m_law_of : D → List D → Out (RV × D) := semB sb_law_of 0
noncomputable def sb_law_odd_table : SS :=
    (sRet (sOwnB m_law_of 0 (fCons (sTup (fCons (sCst .non) (fCons (sVar 1) (fCons (sCst (.int 5)) (fCons (sCst (.str [116, 97, 98, 108, 101])) (fCons (sTup fNil) (fCons (sLst (fCons (sVar 1) fNil)) (fCons sDnK (fCons (sCst (.bl true)) fNil))))))))) fNil)))
noncomputable def m_law_odd_table : D → List D → Out (RV × D) := semB sb_law_odd_table 0
noncomputable def sb_law_table : SS :=
    (sSeq (sPar [3, 4] (mCons (sBin fAdd (sCst (.int 1)) (sOwnB m_law_pick 0 (fCons (sVar 1) fNil))) (mCons (sBin fAdd (sCst (.int 2)) (sOwnB m_law_pick 0 (fCons (sBin fSub (sVar 2) (sCst (.int 1))) fNil))) mNil)))
    (sSeq (sSet 5 (sLc (sRange2 (sCons (sCst (.int 1)) (sCons (sBin fAdd (sVar 3) (sCst (.int 1))) sNil))) [6] (gNm 6) (tVal (sBin fGe (sBin fMul (sVar 4) (sVar 6)) (sVar 3))) (sVar 6)))
    (sRet (sTup (fCons (sVar 3) (fCons (sVar 4) (fCons (sOwnB m_law_of 0 (fCons (sBin fAdd (sVar 5) (sBin fMul (sLst (fCons (sVar 3) fNil)) (sCst (.int 3)))) fNil)) (fCons (sOwnB m_law_of 0 (fCons (sTup (fCons (sCst (.str [102, 114, 101, 101])) (fCons (sCst (.str [102, 114, 101, 101])) (fCons (sCst (.str [102, 114, 101, 101])) (fCons (sCst (.str [108, 105, 103, 104, 116])) fNil))))) fNil)) fNil))))))))
noncomputable def m_law_table : D → List D → Out (RV × D) := semB sb_law_table 4
noncomputable def sb_is_whole : SS :=
    (sRet (sAnd (sIsi (.b "int") (sVar 0)) (sNot (sIsi (.b "bool") (sVar 0)))))
noncomputable def m_is_whole : List D → Out RV := semD sb_is_whole 0
noncomputable def sb_is_between : SS :=
    (sRet (sAnd (sOwn m_is_whole (fCons (sVar 0) fNil)) (sChain fLe fLe (sVar 1) (sVar 0) (sVar 2))))
noncomputable def m_is_between : List D → Out RV := semD sb_is_between 0
noncomputable def sb_check_number : SS :=
    (sIfs (tNt (tVal (sOwn m_is_between (fCons (sVar 0) (fCons (sVar 1) (fCons (sVar 2) fNil))))))
    (sRaise 0 (fCons (sVar 0) fNil))
    sNx)
noncomputable def m_check_number : List D → Out RV := semD sb_check_number 0
noncomputable def sb_check_height : SS :=
    (sSeq (sDrop (sOwn m_check_number (fCons (sVar 0) (fCons (sCst (.int 1)) (fCons (sVar 1) fNil)))))
    (sIfs (tVal (sBin fLt (sBin fMul (sVar 0) (sVar 2)) (sVar 1)))
    (sRaise 0 (fCons (sVar 0) fNil))
    sNx))
noncomputable def m_check_height : List D → Out RV := semD sb_check_height 0
noncomputable def sb_is_one_of : SS :=
    (sRet (sAnd (sIsi (.b "str") (sVar 0)) (sBin (fIn false) (sVar 0) (sVar 1))))
noncomputable def m_is_one_of : List D → Out RV := semD sb_is_one_of 0
noncomputable def sb_Table_init : SS :=
    (sSeq (sDrop (sOwn m_check_number (fCons (sVar 1) (fCons (sCst c_LEAST_MANY) (fCons (sCst c_MOST_MANY) fNil)))))
    (sSeq (sDrop (sOwn m_check_number (fCons (sVar 2) (fCons (sCst c_LEAST_PILES_tablework) (fCons (sCst c_MOST_PILES_tablework) fNil)))))
    (sSeq (sDrop (sOwn m_check_height (fCons (sVar 3) (fCons (sVar 1) (fCons (sVar 2) fNil)))))
    (sSeq (sIfs (tNt (tVal (sOwn m_is_one_of (fCons (sVar 4) (fCons (sCst c_RULES) fNil)))))
    (sRaise 1 (fCons (sVar 4) fNil))
    sNx)
    (sSeq (sFldSet 0 "many" (sVar 1))
    (sSeq (sFldSet 0 "piles" (sVar 2))
    (sSeq (sFldSet 0 "height" (sVar 3))
    (sSeq (sFldSet 0 "rule" (sVar 4))
    (sFldSet 0 "parts" (sTup (fCons (sVar 1) (fCons (sVar 2) (fCons (sVar 3) (fCons (sVar 4) fNil))))))))))))))
noncomputable def m_Table_init : D → List D → Out (RV × D) := semB sb_Table_init 0
noncomputable def sb_law_made : SS :=
    (sRet (sMake 0 m_Table_init (fCons (sBin fIx (sVar 0) (sCst (.int 0))) (fCons (sBin fIx (sVar 0) (sCst (.int 1))) (fCons (sBin fIx (sVar 0) (sCst (.int 2))) (fCons (sBin fIx (sVar 0) (sCst (.int 3))) fNil))))))
noncomputable def m_law_made : List D → Out RV := semD sb_law_made 0
noncomputable def sb_law_is_standing : SS :=
    (sRet (sBin (fEq false) (sLc (sIter (sVar 1)) [2] (gNm 2) (tOo (tVal (sBin fGt (sCall (f1 fLen) (sCons (sVar 2) sNil)) (sBin fIx (sVar 0) (sCst (.int 2))))) (tAn (tVal (sBin (fEq false) (sBin fIx (sVar 0) (sCst (.int 3))) (sCst (.str [108, 105, 103, 104, 116])))) (tVal (sBin (fEq true) (sCall (f1 fListA) (sCons (sVar 2) sNil)) (sRev (sCall (f1 fSortedA) (sCons (sVar 2) sNil))))))) (sVar 2)) (sLst fNil)))
noncomputable def m_law_is_standing : List D → Out RV := semD sb_law_is_standing 1
noncomputable def sb_law_all : SS :=
    (sSeq (sSet 1 (sLst (fCons (sBin fMul (sTup (fCons (sCst (.str [])) fNil)) (sBin fIx (sVar 0) (sCst (.int 1)))) fNil)))
    (sSeq (sFor (sIter (sSl (sCst (.str [97, 98, 99, 100, 101])) oNo (oYes (sBin fIx (sVar 0) (sCst (.int 0)))))) (gNm 2)
    (sSeq (sSet 3 (sLst fNil))
    (sSeq (sFor (sIter (sVar 1)) (gNm 4)
    (sFor (sRange1 (sCons (sBin fIx (sVar 0) (sCst (.int 1))) sNil)) (gNm 5)
    (sSet 3 (sBin fAdd (sVar 3) (sLc (sRange1 (sCons (sBin fAdd (sCall (f1 fLen) (sCons (sBin fIx (sVar 4) (sVar 5)) sNil)) (sCst (.int 1))) sNil)) [6] (gNm 6) tTrue (sBin fAdd (sBin fAdd (sSl (sVar 4) oNo (oYes (sVar 5))) (sTup (fCons (sBin fAdd (sBin fAdd (sSl (sBin fIx (sVar 4) (sVar 5)) oNo (oYes (sVar 6))) (sVar 2)) (sSl (sBin fIx (sVar 4) (sVar 5)) (oYes (sVar 6)) oNo)) fNil))) (sSl (sVar 4) (oYes (sBin fAdd (sVar 5) (sCst (.int 1)))) oNo)))))))
    (sSet 1 (sVar 3)))))
    (sRet (sCall (f1 fSortedA) (sCons (sLc (sIter (sVar 1)) [4] (gNm 4) (tVal (sOwn m_law_is_standing (fCons (sVar 0) (fCons (sVar 4) fNil)))) (sVar 4)) sNil)))))
noncomputable def m_law_all : List D → Out RV := semD sb_law_all 6
noncomputable def sb_law_same (rec_ : List D → Out RV) : SS :=
    (sSeq (sIfs (tOo (tVal (sIsi (.b "tuple") (sVar 1))) (tVal (sIsi (.b "list") (sVar 1))))
    (sSeq (sSet 2 (sIf (tVal (sIsi (.b "tuple") (sVar 1))) (sIsi (.b "tuple") (sVar 0)) (sIsi (.b "list") (sVar 0))))
    (sRet (sAnd (sVar 2) (sAnd (sBin fEqE (sCall (f1 fLen) (sCons (sVar 0) sNil)) (sCall (f1 fLen) (sCons (sVar 1) sNil))) (sCall (f1 fAll) (sCons (sLc (sRange1 (sCons (sCall (f1 fLen) (sCons (sVar 1) sNil)) sNil)) [3] (gNm 3) tTrue (sOwn rec_ (fCons (sBin fIx (sVar 0) (sVar 3)) (fCons (sBin fIx (sVar 1) (sVar 3)) fNil)))) sNil))))))
    sNx)
    (sSeq (sIfs (tVal (sBin (fIs false) (sVar 1) (sCst .non)))
    (sRet (sBin (fIs false) (sVar 0) (sCst .non)))
    sNx)
    (sSeq (sIfs (tVal (sIsi (.b "bool") (sVar 1)))
    (sRet (sAnd (sIsi (.b "bool") (sVar 0)) (sBin fEqE (sVar 0) (sVar 1))))
    sNx)
    (sSeq (sIfs (tVal (sIsi (.b "int") (sVar 1)))
    (sRet (sAnd (sIsi (.b "int") (sVar 0)) (sAnd (sNot (sIsi (.b "bool") (sVar 0))) (sBin fEqE (sVar 0) (sVar 1)))))
    sNx)
    (sSeq (sIfs (tVal (sIsi (.b "str") (sVar 1)))
    (sRet (sAnd (sIsi (.b "str") (sVar 0)) (sBin fEqE (sVar 0) (sVar 1))))
    sNx)
    (sRet (sBin fEqE (sVar 0) (sVar 1))))))))
noncomputable def m_law_same : Nat → List D → Out RV
  | 0 => fun _ => .st
  | n + 1 => semD (sb_law_same (m_law_same n)) 2
noncomputable def sb_law_bars : SS :=
    (sSeq (sSet 1 (sLst fNil))
    (sSeq (sFor (sIter (sVar 0)) (gNm 2)
    (sSet 1 (sBin fAdd (sVar 1) (sLc (sRange1 (sCons (sCall (f1 fLen) (sCons (sVar 2) sNil)) sNil)) [3] (gNm 3) (tAn (tVal (sBin (fEq true) (sSl (sVar 2) oNo (oYes (sVar 3))) (sCst (.str [])))) (tVal (sBin fLt (sCall (f1 fMinT) (sCons (sSl (sVar 2) oNo (oYes (sVar 3))) sNil)) (sBin fIx (sVar 2) (sVar 3))))) (sBin fIx (sVar 2) (sVar 3))))))
    (sRet (sMt1 fJoin (sCst (.str [])) (sCall (f1 fSortedA) (sCons (sVar 1) sNil))))))
noncomputable def m_law_bars : List D → Out RV := semD sb_law_bars 3
noncomputable def sb_check_table : SS :=
    (sIfs (tNt (tVal (sIsi (.own 0) (sVar 0))))
    (sRaise 7 (fCons (sVar 0) fNil))
    sNx)
noncomputable def m_check_table : List D → Out RV := semD sb_check_table 0
noncomputable def sbh_check_table : SS :=
    (sIfs (tNt (tVal (sIsi (.own 0) (sVar 0))))
    (sRaise 7 (fCons (sVar 0) fNil))
    sNx)
noncomputable def mh_check_table : List D → Out RV := semD sbh_check_table 0
noncomputable def sb_blocks_of : SS :=
    (sRet (sSl (sCst c_BLOCKS) oNo (oYes (sVar 0))))
noncomputable def m_blocks_of : List D → Out RV := semD sb_blocks_of 0
noncomputable def sb_is_falling : SS :=
    (sRet (sCall (f1 fAll) (sCons (sLc (sRange2 (sCons (sCst (.int 1)) (sCons (sCall (f1 fLen) (sCons (sVar 0) sNil)) sNil))) [1] (gNm 1) tTrue (sBin fLt (sBin fIx (sVar 0) (sVar 1)) (sBin fIx (sVar 0) (sBin fSub (sVar 1) (sCst (.int 1)))))) sNil)))
noncomputable def m_is_falling : List D → Out RV := semD sb_is_falling 1
noncomputable def sb_fits_rule : SS :=
    (sRet (sAnd (sBin fLe (sCall (f1 fLen) (sCons (sVar 1) sNil)) (sAttr "height" (sVar 0))) (sOr (sBin (fEq false) (sAttr "rule" (sVar 0)) (sCst c_FREE)) (sOwn m_is_falling (fCons (sVar 1) fNil)))))
noncomputable def m_fits_rule : List D → Out RV := semD sb_fits_rule 0
noncomputable def sb_laid_everywhere : SS :=
    (sSeq (sSet 3 (sLst fNil))
    (sSeq (sFor (sEnum (sVar 1)) (gTp 2 (gsCons (gNm 4) (gsCons (gNm 5) gsNil)))
    (sFor (sRange1 (sCons (sBin fAdd (sCall (f1 fLen) (sCons (sVar 5) sNil)) (sCst (.int 1))) sNil)) (gNm 6)
    (sSeq (sSet 7 (sBin fAdd (sBin fAdd (sSl (sVar 5) oNo (oYes (sVar 6))) (sVar 2)) (sSl (sVar 5) (oYes (sVar 6)) oNo)))
    (sIfs (tVal (sOwn m_fits_rule (fCons (sVar 0) (fCons (sVar 7) fNil))))
    (sDrop (sOwn1 3 fApp (sBin fAdd (sBin fAdd (sSl (sVar 1) oNo (oYes (sVar 4))) (sTup (fCons (sVar 7) fNil))) (sSl (sVar 1) (oYes (sBin fAdd (sVar 4) (sCst (.int 1)))) oNo))))
    sNx))))
    (sRet (sVar 3))))
noncomputable def m_laid_everywhere : List D → Out RV := semD sb_laid_everywhere 5
noncomputable def sb_standings : SS :=
    (sSeq (sSet 1 (sLst (fCons (sBin fMul (sTup (fCons (sCst (.str [])) fNil)) (sAttr "piles" (sVar 0))) fNil)))
    (sSeq (sFor (sIter (sOwn m_blocks_of (fCons (sAttr "many" (sVar 0)) fNil))) (gNm 2)
    (sSeq (sSet 3 (sLst fNil))
    (sSeq (sFor (sIter (sVar 1)) (gNm 4)
    (sDrop (sOwn1 3 fExt (sOwn m_laid_everywhere (fCons (sVar 0) (fCons (sVar 4) (fCons (sVar 2) fNil)))))))
    (sSet 1 (sVar 3)))))
    (sRet (sCall (f1 fSortedA) (sCons (sVar 1) sNil)))))
noncomputable def m_standings : List D → Out RV := semD sb_standings 4
noncomputable def sb_does_bar : SS :=
    (sRet (sBin (fEq true) (sLc (sIter (sSl (sVar 0) oNo (oYes (sVar 1)))) [2] (gNm 2) (tVal (sBin fLt (sVar 2) (sBin fIx (sVar 0) (sVar 1)))) (sVar 2)) (sLst fNil)))
noncomputable def m_does_bar : List D → Out RV := semD sb_does_bar 1
noncomputable def sb_barring_in : SS :=
    (sSeq (sSet 1 (sLst fNil))
    (sSeq (sFor (sIter (sVar 0)) (gNm 2)
    (sDrop (sOwn1 1 fExt (sLc (sEnumS (sVar 2)) [3, 4] (gTp 2 (gsCons (gNm 3) (gsCons (gNm 4) gsNil))) (tVal (sOwn m_does_bar (fCons (sVar 2) (fCons (sVar 3) fNil)))) (sVar 4)))))
    (sRet (sMt1 fJoin (sCst (.str [])) (sCall (f1 fSortedA) (sCons (sVar 1) sNil))))))
noncomputable def m_barring_in : List D → Out RV := semD sb_barring_in 4
noncomputable def sb_is_ready_by : SS :=
    (sRet (sBin (fEq false) (sOwn m_barring_in (fCons (sVar 0) fNil)) (sCst (.str []))))
noncomputable def m_is_ready_by : List D → Out RV := semD sb_is_ready_by 0
noncomputable def sb_ready_standings : SS :=
    (sRet (sLc (sIter (sOwn m_standings (fCons (sVar 0) fNil))) [1] (gNm 1) (tVal (sOwn m_is_ready_by (fCons (sVar 1) fNil))) (sVar 1)))
noncomputable def m_ready_standings : List D → Out RV := semD sb_ready_standings 1
noncomputable def sb_how_many_ready : SS :=
    (sSeq (sDrop (sOwn m_check_table (fCons (sVar 0) fNil)))
    (sRet (sCall (f1 fLen) (sCons (sOwn m_ready_standings (fCons (sVar 0) fNil)) sNil))))
noncomputable def m_how_many_ready : List D → Out RV := semD sb_how_many_ready 0
noncomputable def sbh_how_many_ready : SS :=
    (sSeq (sDrop (sOwn mh_check_table (fCons (sVar 0) fNil)))
    (sRet (sCall (f1 fLen) (sCons (sOwn (fun ds => noEx (m_ready_standings ds)) (fCons (sVar 0) fNil)) sNil))))
noncomputable def mh_how_many_ready : List D → Out RV := semD sbh_how_many_ready 0
noncomputable def sb_is_pile : SS :=
    (sRet (sIsi (.b "str") (sVar 1)))
noncomputable def m_is_pile : List D → Out RV := semD sb_is_pile 0
noncomputable def sb_wrong_in : SS :=
    (sSeq (sIfs (tOo (tNt (tVal (sIsi (.b "tuple") (sVar 0)))) (tVal (sBin fLt (sCall (f1 fLen) (sCons (sVar 0) sNil)) (sVar 1))))
    (sRet (sLst (fCons (sCst .non) fNil)))
    sNx)
    (sSeq (sFor (sEnum (sVar 0)) (gTp 2 (gsCons (gNm 4) (gsCons (gNm 5) gsNil)))
    (sIfs (tOo (tVal (sBin (fEq false) (sVar 4) (sVar 2))) (tNt (tVal (sPick 3 0 (sOwn m_is_pile (fCons (sSl (sVar 0) oNo (oYes (sVar 4))) (fCons (sVar 5) fNil))) sSt))))
    (sRet (sLst (fCons (sVar 4) fNil)))
    sNx))
    (sRet (sLst fNil))))
noncomputable def m_wrong_in : List D → Out RV := semD sb_wrong_in 2
noncomputable def sb_are_all : SS :=
    (sRet (sBin (fEq false) (sOwn m_wrong_in (fCons (sVar 0) (fCons (sVar 1) (fCons (sVar 2) (fCons (sVar 3) fNil))))) (sLst fNil)))
noncomputable def m_are_all : List D → Out RV := semD sb_are_all 0
noncomputable def sb_are_all_blocks : SS :=
    (sSeq (sIfs (tNt (tVal (sOwn m_are_all (fCons (sVar 0) (fCons (sCst c_LEAST_PILES_takework) (fCons (sCst c_MOST_PILES_takework) (fCons (sCst (.fnc 0)) fNil)))))))
    (sRet (sCst (.bl false)))
    sNx)
    (sSeq (sSet 1 (sMt1 fJoin (sCst (.str [])) (sCall (f1 fSortedA) (sCons (sCall (f1 fListA) (sCons (sMt1 fJoin (sCst (.str [])) (sVar 0)) sNil)) sNil))))
    (sRet (sAnd (sOwn m_is_between (fCons (sCall (f1 fLen) (sCons (sVar 1) sNil)) (fCons (sCst (.int 1)) (fCons (sCst c_MOST_BLOCKS) fNil)))) (sBin (fEq false) (sVar 1) (sSl (sCst c_BLOCKS) oNo (oYes (sCall (f1 fLen) (sCons (sVar 1) sNil)))))))))
noncomputable def m_are_all_blocks : List D → Out RV := semD sb_are_all_blocks 1
noncomputable def sb_check_blocks : SS :=
    (sIfs (tNt (tVal (sOwn m_are_all_blocks (fCons (sVar 0) fNil))))
    (sRaise 2 (fCons (sVar 0) fNil))
    sNx)
noncomputable def m_check_blocks : List D → Out RV := semD sb_check_blocks 0
noncomputable def sbh_check_blocks : SS :=
    (sIfs (tNt (tVal (sOwn (fun ds => noEx (m_are_all_blocks ds)) (fCons (sVar 0) fNil))))
    (sRaise 2 (fCons (sVar 0) fNil))
    sNx)
noncomputable def mh_check_blocks : List D → Out RV := semD sbh_check_blocks 0
noncomputable def sb_is_ready : SS :=
    (sSeq (sDrop (sOwn m_check_blocks (fCons (sVar 0) fNil)))
    (sRet (sOwn m_is_ready_by (fCons (sVar 0) fNil))))
noncomputable def m_is_ready : List D → Out RV := semD sb_is_ready 0
noncomputable def sbh_is_ready : SS :=
    (sSeq (sDrop (sOwn mh_check_blocks (fCons (sVar 0) fNil)))
    (sRet (sOwn (fun ds => noEx (m_is_ready_by ds)) (fCons (sVar 0) fNil))))
noncomputable def mh_is_ready : List D → Out RV := semD sbh_is_ready 0
noncomputable def sb_law_right : SS :=
    (sSeq (sFor (sRange1 (sCons (sCst (.int 5)) sNil)) (gNm 1)
    (sSeq (sSet 2 (sIf (tVal (sBin fLt (sVar 1) (sCst (.int 3)))) (sOwnB m_law_table 0 (fCons (sCst (.int 4)) (fCons (sCst (.int 3)) fNil))) (sOwnB m_law_table 0 (fCons (sCst (.int 3)) (fCons (sCst (.int 4)) fNil)))))
    (sSeq (sPar [3, 4] (mCons (sOwn m_law_made (fCons (sVar 2) fNil)) (mCons (sOwn m_law_all (fCons (sVar 2) fNil)) mNil)))
    (sSeq (sSet 5 (sCall (f1 fLen) (sCons (sLc (sIter (sVar 4)) [6] (gNm 6) (tVal (sBin (fEq false) (sOwn m_law_bars (fCons (sVar 6) fNil)) (sCst (.str [])))) (sVar 6)) sNil)))
    (sSeq (sIfs (tNt (tVal (sOwn (m_law_same 8) (fCons (sLst (fCons (sOwn m_how_many_ready (fCons (sVar 3) fNil)) (fCons (sOwn m_how_many_ready (fSel [0] fNil (fCons (sVar 3) fNil))) fNil))) (fCons (sLst (fCons (sVar 5) (fCons (sVar 5) fNil))) fNil)))))
    (sRet (sCst (.bl false)))
    sNx)
    (sSeq (sFor (sRange1 (sCons (sCst (.int 6)) sNil)) (gNm 7)
    (sSeq (sSet 6 (sOwnB m_law_of 0 (fCons (sVar 4) fNil)))
    (sSeq (sSet 8 (sBin (fEq false) (sOwn m_law_bars (fCons (sVar 6) fNil)) (sCst (.str []))))
    (sIfs (tNt (tVal (sOwn (m_law_same 8) (fCons (sLst (fCons (sOwn m_is_ready (fCons (sVar 6) fNil)) (fCons (sOwn m_is_ready (fSel [0] fNil (fCons (sVar 6) fNil))) fNil))) (fCons (sLst (fCons (sVar 8) (fCons (sVar 8) fNil))) fNil)))))
    (sRet (sCst (.bl false)))
    sNx))))
    (sSeq (sSet 9 (sOwnB m_law_odd_table 0 (fCons (sVar 2) fNil)))
    (sSeq (sSet 10 (sOwnB m_law_of 0 (fCons (sTup (fCons (sCst .non) (fCons (sCst (.int 5)) (fCons (sCst (.str [97, 98, 99])) (fCons (sCall (f1 fListA) (sCons (sVar 6) sNil)) (fCons (sTup (fCons (sCst (.str [97, 98, 99])) fNil)) (fCons (sTup (fCons (sCst (.str [97])) (fCons (sCst (.str [98])) (fCons (sCst (.str [99])) (fCons (sCst (.str [100])) (fCons (sCst (.str [101])) fNil)))))) (fCons (sTup (fCons (sCst (.str [97, 99])) (fCons (sCst (.str [])) fNil))) (fCons (sTup (fCons (sCst (.str [97, 98])) (fCons (sCst (.str [98])) fNil))) (fCons (sTup (fCons (sCst (.str [97])) (fCons (sCst (.int 1)) fNil))) (fCons sDnK (fCons (sTup (fCons (sCst (.str [97, 66])) (fCons (sCst (.str [])) fNil))) fNil)))))))))))) fNil)))
    (sSeq (sSet 11 (sLst (fCons (sKept wordOf noneW [9] (sOwn mh_how_many_ready (fCons (sVar 9) fNil))) fNil)))
    (sSeq (sDrop (sOwn1 11 fApp (sKept wordOf noneW [10] (sOwn mh_is_ready (fCons (sVar 10) fNil)))))
    (sSeq (sDrop (sOwn1 11 fApp (sKept wordOf noneW [10] (sOwn mh_is_ready (fSel [0] fNil (fCons (sVar 10) fNil))))))
    (sIfs (tNt (tVal (sOwn (m_law_same 8) (fCons (sVar 11) (fCons (sLst (fCons (sTup (fCons (sCst (.str [116, 97, 98, 108, 101])) (fCons (sVar 9) fNil))) (fCons (sTup (fCons (sCst (.str [115, 116, 97, 110, 100, 105, 110, 103])) (fCons (sVar 10) fNil))) (fCons (sTup (fCons (sCst (.str [115, 116, 97, 110, 100, 105, 110, 103])) (fCons (sVar 10) fNil))) fNil)))) fNil)))))
    (sRet (sCst (.bl false)))
    sNx))))))))))))
    (sRet (sCst (.bl true))))
noncomputable def m_law_right : D → List D → Out (RV × D) := semB sb_law_right 11
noncomputable def sb_law_jar : SS :=
    (sSeq (sSet 2 (sBin fAdd (sCst (.int 615029)) (sBin fMul (sCst (.int 9041)) (sVar 1))))
    (sSeq (sFor (sIter (sSl (sVar 0) oNo (oYes (sCst (.int 21))))) (gNm 3)
    (sSet 2 (sBin fMod (sCall (f1 fInt) (sCons (sBin fAdd (sBin fAdd (sBin fMul (sVar 2) (sCst (.int 42703))) (sBin fMul (sBin fMod (sCall (f1 fInt) (sCons (sVar 3) sNil)) (sCst (.int 2147483179))) (sCst (.int 13)))) (sCst (.int 59))) sNil)) (sCst (.int 2147483587)))))
    (sSeq (sSet 4 (sIf (tVal (sBin fLt (sVar 1) (sCall (f1 fLen) (sCons (sVar 0) sNil)))) (sCall (f1 fInt) (sCons (sBin fIx (sVar 0) (sVar 1)) sNil)) (sCst (.int 0))))
    (sSeq (sSet 2 (sBin fMod (sCall (f1 fInt) (sCons (sBin fAdd (sBin fAdd (sBin fMul (sVar 2) (sCst (.int 71))) (sBin fMul (sBin fMod (sVar 4) (sCst (.int 2147483179))) (sCst (.int 23011)))) (sCst (.int 17))) sNil)) (sCst (.int 2147483587))))
    (sRet (sLst (fCons (sIf (tOo (tVal (sBin fLt (sVar 4) (sCst (.int 0)))) (tVal (sBin fGe (sVar 4) (sBin fPow (sCst (.int 10)) (sCst (.int 16)))))) (sCall (f1 fAbs) (sCons (sVar 4) sNil)) (sCst (.int 0))) (fCons (sVar 2) (fCons (sCst (.int 0)) fNil)))))))))
noncomputable def m_law_jar : List D → Out RV := semD sb_law_jar 3
noncomputable def sb_law : SS :=
    (sSeq (sFor (sRange1 (sCons (sCall (f2 fMax2) (sCons (sCst (.int 1)) (sCons (sCall (f2 fMin2) (sCons (sCall (f1 fLen) (sCons (sVar 0) sNil)) (sCons (sCst (.int 3)) sNil))) sNil))) sNil)) (gNm 1)
    (sIfs (tNt (tVal (sOwnV m_law_right (sOwn m_law_jar (fCons (sVar 0) (fCons (sVar 1) fNil))))))
    (sRet (sCst (.bl false)))
    sNx))
    (sRet (sCst (.bl true))))
noncomputable def m_law : List D → Out RV := semD sb_law 1
end L2.DI

namespace L2.DI
open PySem PySem.Spec PyProof.Rows
/-! constants of one name in two modules -/
@[simp] theorem cst_t1 : c_LEAST_PILES_tablework = .int 2 := rfl
@[simp] theorem cst_t2 : c_MOST_PILES_tablework = .int 4 := rfl
@[simp] theorem cst_t3 : c_LEAST_PILES_takework = .int 2 := rfl
@[simp] theorem cst_t4 : c_MOST_PILES_takework = .int 4 := rfl
def c_LEAST_PILES : D := .int 2
def c_MOST_PILES : D := .int 4

end L2.DI

namespace L2.DI
open PySem PySem.Spec PyProof.Rows
/-- a bowl -/
def bwl (a b c : Int) : D := .lst [.int a, .int b, .int c]
def IsB (d : D) : Prop := ∃ a b c, d = bwl a b c
theorem draw_wp {d : D} (hd : IsB d) (n : Int) (h : 0 < n) (h2 : n < 1000000000) : Wp (m_law_pick d [.int n]) fun p => ∃ r : Int, p.1 = .im (.int r) ∧ 0 ≤ r ∧ r < n ∧ IsB p.2 := by
  obtain ⟨a, b, c, rfl⟩ := hd
  have h3 : n < 1073741824 := by omega
  by_cases ha : 0 < a
  · simp [m_law_pick, sb_law_pick, bwl, atI, ixN, ha, fDivmod, h, h3]
    exact ⟨Int.emod_nonneg _ (by omega), Int.emod_lt_of_pos _ h, _, _, _, rfl⟩
  · have h4 : ∀ x : Int, smallM 11 x = true := fun x => smallM_mk (by omega)
    have h6 : ∀ x : Int, smallM 19013 x = true := fun x => smallM_mk (by omega)
    have h7 : ∀ x : Int, smallM x 46237 = true := fun x => smallM_mk (by omega)
    have h5 : ∀ x y : Int, smallM (x % 2147483563) y = true := fun x y => by
      have := Int.emod_nonneg x (b := 2147483563) (by omega)
      have := Int.emod_lt_of_pos x (b := 2147483563) (by omega)
      exact smallM_mk (by omega)
    simp [m_law_pick, sb_law_pick, bwl, atI, ixN, ha, h, h3, fMul, fMod, fI, fFdiv, h4, h5, h6, h7]
    exact ⟨Int.emod_nonneg _ (by omega), Int.emod_lt_of_pos _ h, _, _, _, rfl⟩
theorem atI_in {α : Type} (xs : List α) {r : Int} (h : 0 ≤ r) (h2 : r < xs.length) : ∃ x, atI xs r = some x ∧ x ∈ xs := by
  obtain ⟨k, rfl⟩ := Int.eq_ofNat_of_zero_le h
  have : k < xs.length := by omega
  exact ⟨xs[k], by rw [atI_nat]; simp [this], List.getElem_mem this⟩
theorem of_wp {d : D} (hd : IsB d) {c : D} {ds : List D} (hc : c = .lst ds ∨ c = .tup ds) (h : 0 < ds.length) (h2 : ds.length < 1000000000) : Wp (m_law_of d [c]) fun p => ∃ x, p.1 = .im x ∧ x ∈ ds ∧ IsB p.2 := by
  rcases hc with rfl | rfl
  all_goals
    simp [m_law_of, sb_law_of]
    refine (draw_wp hd ds.length (by omega) (by omega)).call ?_
    rintro ⟨_, d'⟩ ⟨r, rfl, h3, h4, h5⟩
    obtain ⟨x, e2, hx⟩ := atI_in ds h3 h4
    simp [e2, hx, h5]

end L2.DI

namespace L2.DI
open PySem PySem.Spec PyProof.Rows
/-- what a table is drawn as -/
structure TabP (many piles height : Int) (rule : List Nat) : Prop where
  m1 : 1 ≤ many
  m2 : many ≤ 5
  p1 : 2 ≤ piles
  p2 : piles ≤ 4
  h1 : 1 ≤ height
  h2 : height ≤ many
  h3 : many ≤ piles * height
  r : rule = [102, 114, 101, 101] ∨ rule = [108, 105, 103, 104, 116]
def tabD (many piles height : Int) (rule : List Nat) : D := .tup [.int many, .int piles, .int height, .str rule]

end L2.DI

namespace L2.DI
open PySem PySem.Spec PyProof.Rows
theorem atI_zero {α : Type} (x : α) (xs : List α) : atI (x :: xs) 0 = some x := by
  have := atI_nat (x :: xs) 0
  simpa using this
theorem add_tup {a b : List D} (h : a.length + b.length ≤ 16777216) : fAdd (.tup a) (.tup b) = .ok (.im (.tup (a ++ b))) := by
  unfold fAdd; dsimp only; rw [if_pos (show a.length + b.length ≤ LIM from h)]

end L2.DI

namespace L2.DI
open PySem PySem.Spec PyProof.Rows
theorem tableg_wp {d : D} (hd : IsB d) {most pl : Int} (hm : 1 ≤ most) (hm2 : most ≤ 5) (hp : 2 ≤ pl) (hp2 : pl ≤ 4) : Wp (m_law_table d [.int most, .int pl]) fun p => ∃ many piles height rule, p.1 = .im (tabD many piles height rule) ∧ TabP many piles height rule ∧ many ≤ most ∧ piles ≤ pl ∧ IsB p.2 := by
  simp [m_law_table, sb_law_table]
  refine (draw_wp hd most (by omega) (by omega)).call ?_
  rintro ⟨_, d1⟩ ⟨r1, rfl, a1, b1, i1⟩
  simp
  refine (draw_wp i1 (pl - 1) (by omega) (by omega)).call ?_
  rintro ⟨_, d2⟩ ⟨r2, rfl, a2, b2, i2⟩
  have hs1 : small 1 = true := small_mk (by omega) (by omega)
  have hs2 : small (1 + r1 + 1) = true := small_mk (by omega) (by omega)
  simp [hs1, hs2]
  refine lcs_wp (fun k : Nat => D.int (1 + ↑k)) (fun k : Nat => decide (1 + r1 ≤ (2 + r2) * (1 + k))) (fun k : Nat => D.int (1 + ↑k)) _ (by simp; omega) (fun k hk => ?_) ?_
  · have : smallM (2 + r2) (1 + ↑k) = true := smallM_mk (by omega)
    simp [fMul, this]
  have hl : (List.filter (fun k : Nat => decide (1 + r1 ≤ (2 + r2) * (1 + (k : Int)))) (List.range (1 + r1).toNat)).length ≤ 5 := by
    have := List.length_filter_le (fun k : Nat => decide (1 + r1 ≤ (2 + r2) * (1 + (k : Int)))) (List.range (1 + r1).toNat)
    rw [List.length_range] at this
    omega
  have hl2 : (List.filter (fun k : Nat => decide (1 + r1 ≤ (2 + r2) * (1 + (k : Int)))) (List.range (1 + r1).toNat)).length + 3 ≤ 16777216 := by omega
  simp [fMul, fAdd, List.replicate, hl2]
  refine (of_wp i2 (.inl rfl) (by simp) (by simp; omega)).call ?_
  rintro ⟨_, d3⟩ ⟨x3, rfl, hx3, i3⟩
  simp
  refine (of_wp i3 (.inr rfl) (by simp) (by simp)).call ?_
  rintro ⟨_, d4⟩ ⟨x4, rfl, hx4, i4⟩
  simp
  have hr : ∃ rule, x4 = .str rule ∧ (rule = [102, 114, 101, 101] ∨ rule = [108, 105, 103, 104, 116]) := by
    simp at hx4
    rcases hx4 with rfl | rfl
    · exact ⟨_, rfl, .inl rfl⟩
    · exact ⟨_, rfl, .inr rfl⟩
  obtain ⟨rule, rfl, hr⟩ := hr
  have hh : ∃ h : Int, x3 = .int h ∧ 1 ≤ h ∧ h ≤ 1 + r1 ∧ 1 + r1 ≤ (2 + r2) * h := by
    simp at hx3
    rcases hx3 with ⟨k, ⟨hk, hm⟩, rfl⟩ | rfl
    · exact ⟨_, rfl, by omega, by omega, hm⟩
    · exact ⟨_, rfl, by omega, by omega, by
        have : (1 + r1) * 1 ≤ (1 + r1) * (2 + r2) := Int.mul_le_mul_of_nonneg_left (by omega) (by omega)
        rw [Int.mul_comm]; omega⟩
  obtain ⟨h, rfl, g1, g2, g3⟩ := hh
  exact ⟨1 + r1, 2 + r2, h, rule, rfl, ⟨by omega, by omega, by omega, by omega, g1, g2, g3, hr⟩, by omega, by omega, i4⟩

end L2.DI

namespace L2.DI
open PySem PySem.Spec PyProof.Rows
def BL : List Nat := [97, 98, 99, 100, 101]
def chD (c : Nat) : D := .str [c]
def FREE : List Nat := [102, 114, 101, 101]
/-- a standing of the table -/
structure Std (many piles height : Int) (rule : List Nat) (F : List (List Nat)) : Prop where
  len : (F.length : Int) = piles
  hgt : ∀ f ∈ F, (f.length : Int) ≤ height
  perm : F.flatten.Perm (BL.take many.toNat)
  fall : rule ≠ FREE → ∀ f ∈ F, f.Pairwise (· > ·)
/-- half way -/
structure Half (many piles height : Int) (rule : List Nat) (j : Nat) (F : List (List Nat)) (L : List Nat) : Prop where
  len : (F.length : Int) = piles
  hgt : ∀ f ∈ F, (f.length : Int) ≤ height
  perm : (F.flatten ++ L).Perm (BL.take many.toNat)
  num : L.length + j = many.toNat
  srt : L.Pairwise (· < ·)
  fall : rule ≠ FREE → ∀ f ∈ F, f.Pairwise (· > ·) ∧ ∀ c ∈ f, ∀ x ∈ L, x < c
theorem flat_set (c : Nat) : ∀ (F : List (List Nat)) (i : Nat) (f : List Nat), F[i]? = some f → (F.set i (f ++ [c])).flatten.Perm (c :: F.flatten)
  | [], i, f, h => by simp at h
  | g :: F, 0, f, h => by
    simp at h; subst h
    simp only [List.set_cons_zero, List.flatten_cons]
    rw [List.append_assoc]
    exact List.perm_middle
  | g :: F, i + 1, f, h => by
    simp only [List.set_cons_succ, List.flatten_cons]
    refine (List.Perm.append_left g (flat_set c F i f (by simpa using h))).trans ?_
    exact List.perm_middle
theorem erase_perm (c : Nat) : ∀ (L : List Nat) (k : Nat), L[k]? = some c → L.Perm (c :: L.eraseIdx k)
  | [], k, h => by simp at h
  | x :: L, 0, h => by simp at h; subst h; exact List.Perm.refl _
  | x :: L, k + 1, h => by
    rw [List.eraseIdx_cons_succ]
    exact ((erase_perm c L k (by simpa using h)).cons x).trans (List.Perm.swap ..)
theorem Half.step {many piles height : Int} {rule : List Nat} {j : Nat} {F : List (List Nat)} {L : List Nat} (h : Half many piles height rule j F L) {k i : Nat} {c : Nat} {f : List Nat} (hk : L[k]? = some c) (hr : rule ≠ FREE → k + 1 = L.length) (hi : F[i]? = some f) (hf : (f.length : Int) < height) :
    Half many piles height rule (j + 1) (F.set i (f ++ [c])) (L.eraseIdx k) := by
  obtain ⟨h1, h2, h3, h4, h5, h6⟩ := h
  have hk' : k < L.length := by
    rcases Nat.lt_or_ge k L.length with z | z
    · exact z
    · rw [List.getElem?_eq_none z] at hk; cases hk
  have hp : L.Perm (c :: L.eraseIdx k) := erase_perm c L k hk
  refine ⟨by simpa using h1, fun g hg => ?_, ?_, ?_, h5.sublist (List.eraseIdx_sublist _ _), fun hn g hg => ?_⟩
  · rcases List.mem_or_eq_of_mem_set hg with z | rfl
    · exact h2 g z
    · simp; omega
  · refine List.Perm.trans ?_ h3
    refine ((flat_set c F i f hi).append_right _).trans ?_
    refine List.Perm.trans ?_ (hp.append_left _).symm
    exact List.perm_middle.symm
  · rw [List.length_eraseIdx_of_lt hk']; omega
  · have hlt : ∀ x ∈ L.eraseIdx k, x < c := by
      have e := hr hn
      have : L = L.eraseIdx k ++ [c] := by
        have a1 : L.eraseIdx k = L.dropLast := by
          rw [List.dropLast_eq_take, List.eraseIdx_eq_take_drop_succ, List.drop_eq_nil_of_le (by omega)]
          simp; omega
        rw [a1]
        have : L ≠ [] := by intro z; subst z; simp at hk'
        conv => lhs; rw [← List.dropLast_concat_getLast this]
        congr 2
        rw [List.getElem?_eq_getElem hk'] at hk
        cases hk
        rw [List.getLast_eq_getElem]; congr 1; omega
      rw [this] at h5
      intro x hx
      exact (List.pairwise_append.1 h5).2.2 x hx c (by simp)
    have hc : c ∈ L := List.mem_of_getElem? hk
    rcases List.mem_or_eq_of_mem_set hg with z | rfl
    · exact ⟨(h6 hn g z).1, fun a ha x hx => (h6 hn g z).2 a ha x ((List.eraseIdx_sublist _ _).subset hx)⟩
    · have hm := h6 hn f (List.mem_of_getElem? hi)
      refine ⟨List.pairwise_append.2 ⟨hm.1, List.pairwise_singleton _ _, fun a ha b hb => ?_⟩, fun a ha x hx => ?_⟩
      · rw [List.mem_singleton] at hb; subst hb; exact hm.2 a ha b hc
      · rcases List.mem_append.1 ha with z | z
        · exact hm.2 a z x ((List.eraseIdx_sublist _ _).subset hx)
        · rw [List.mem_singleton] at z; subst z; exact hlt x hx
theorem Half.room {many piles height : Int} {rule : List Nat} {j : Nat} {F : List (List Nat)} {L : List Nat} (h : Half many piles height rule j F L) (h3 : many ≤ piles * height) (hj : (j : Int) < many) : ∃ f ∈ F, (f.length : Int) < height := by
  apply Classical.byContradiction
  intro hn
  have hall : ∀ f ∈ F, (f.length : Int) = height := fun f hf => by
    have := h.hgt f hf
    have : ¬ (f.length : Int) < height := fun z => hn ⟨f, hf, z⟩
    omega
  have hs : ∀ G : List (List Nat), (∀ f ∈ G, (f.length : Int) = height) → (G.flatten.length : Int) = G.length * height := by
    intro G
    induction G with
    | nil => intro _; simp
    | cons g G ih =>
      intro hG
      have h1 := hG g (List.mem_cons_self ..)
      have h2 := ih fun f hf => hG f (List.mem_cons_of_mem _ hf)
      rw [List.flatten_cons, List.length_append, List.length_cons]
      push_cast
      rw [h2, h1, Int.add_mul]; omega
  have h1 := hs F hall
  have h2 := h.perm.length_eq
  rw [List.length_append, List.length_take] at h2
  have h4 := h.num
  rw [h.len] at h1
  rw [show BL.length = 5 from rfl] at h2
  omega
theorem cut_to {α : Type} (xs : List α) (i : Int) (h : 0 ≤ i) : cut xs none (some i) = xs.take i.toNat := by
  obtain ⟨k, rfl⟩ := Int.eq_ofNat_of_zero_le h
  unfold cut
  rw [HT.sIx_none, HT.sIx_nat, List.drop_zero, Int.toNat_natCast, Nat.sub_zero]
  rw [List.take_eq_take_iff]; omega
theorem seqIx {r : Int} {n : Nat} (h : 0 ≤ r) (h2 : r < n) : seqIndex? r n = some r.toNat := by
  unfold seqIndex?
  simp
  omega
theorem seqIx_last {n : Nat} (h : 0 < n) : seqIndex? (-1) n = some (n - 1) := by
  unfold seqIndex?
  simp
  omega
theorem erase_map {α β : Type} (f : α → β) : ∀ (L : List α) (k : Nat), (L.map f).eraseIdx k = (L.eraseIdx k).map f
  | [], _ => rfl
  | _ :: _, 0 => rfl
  | x :: L, k + 1 => by simp [erase_map f L k]
theorem range_get {n j : Nat} {f : Nat → D} {x : D} (h : ((List.range n).map f)[j]? = some x) : j < n ∧ x = f j := by
  rcases Nat.lt_or_ge j n with z | z
  · rw [List.getElem?_map, List.getElem?_range z] at h
    cases h; exact ⟨z, rfl⟩
  · rw [List.getElem?_eq_none (by simpa using z)] at h; cases h
theorem ixN_nat {n y : Nat} (h : y < n) : ixN n (y : Int) = some y := by
  unfold ixN
  rw [if_pos (by omega), if_pos (by omega)]; simp

end L2.DI

namespace L2.DI
open PySem PySem.Spec PyProof.Rows
def objD (many piles height : Int) (rule : List Nat) : D := .obj 0 [.int many, .int piles, .int height, .str rule, tabD many piles height rule]
theorem whole_int (i : Int) : m_is_whole [.int i] = .ok (.im (.bl true)) := by simp [m_is_whole, sb_is_whole, x_semD]
theorem between_int (i a b : Int) : m_is_between [.int i, .int a, .int b] = .ok (.im (.bl (decide (a ≤ i) && decide (i ≤ b)))) := by
  by_cases h : a ≤ i <;> simp [m_is_between, sb_is_between, x_semD, whole_int, h]
theorem number_int {i a b : Int} (h : a ≤ i) (h2 : i ≤ b) : m_check_number [.int i, .int a, .int b] = .ok (.im .non) := by
  simp [m_check_number, sb_check_number, x_semD, between_int, h, h2]
theorem height_int {i a b : Int} (h : 1 ≤ i) (h2 : i ≤ a) (h3 : a ≤ i * b) (h4 : a ≤ 5) : m_check_height [.int i, .int a, .int b] = .ok (.im .non) := by
  have hm : smallM i b = true := smallM_mk (by omega)
  have : ¬ i * b < a := by omega
  simp [m_check_height, sb_check_height, x_semD, number_int h h2, fMul, hm, this]
theorem one_of {rule : List Nat} (hr : rule = [102, 114, 101, 101] ∨ rule = [108, 105, 103, 104, 116]) : m_is_one_of [.str rule, c_RULES] = .ok (.im (.bl true)) := by
  rcases hr with rfl | rfl <;> simp [m_is_one_of, sb_is_one_of, x_semD, c_RULES, fIn, plain, plains, dep, eqD]

end L2.DI

namespace L2.DI
open PySem PySem.Spec PyProof.Rows
theorem made_wp {many piles height : Int} {rule : List Nat} (h : TabP many piles height rule) : Wp (m_law_made [tabD many piles height rule]) fun p => p = .fr (objD many piles height rule) := by
  obtain ⟨m1, m2, p1, p2, h1, h2, h3, hr⟩ := h
  simp [m_law_made, sb_law_made, tabD, atI, ixN, m_Table_init, sb_Table_init, number_int, c_LEAST_MANY, c_MOST_MANY, c_LEAST_PILES, c_MOST_PILES, m1, m2, p1, p2, one_of hr, height_int h1 h2 (by rw [Int.mul_comm]; exact h3) m2]
  rfl

end L2.DI

namespace L2.DI
open PySem PySem.Spec PyProof.Rows
theorem init_eq {many piles height : Int} {rule : List Nat} (h : TabP many piles height rule) : m_Table_init (.obj 0 []) [.int many, .int piles, .int height, .str rule] = .ok (.im .non, objD many piles height rule) := by
  obtain ⟨m1, m2, p1, p2, h1, h2, h3, hr⟩ := h
  obtain ⟨_, e, rfl⟩ := (show Wp (m_Table_init (.obj 0 []) [.int many, .int piles, .int height, .str rule]) fun p => p = (.im .non, objD many piles height rule) by
    simp [m_Table_init, sb_Table_init, number_int, c_LEAST_MANY, c_MOST_MANY, c_LEAST_PILES, c_MOST_PILES, m1, m2, p1, p2, one_of hr, height_int h1 h2 (by rw [Int.mul_comm]; exact h3) m2]
    rfl).get
  exact e

end L2.DI

namespace L2.DI
open PySem PySem.Spec PyProof.Rows
theorem lim_of {n : Nat} (h : n ≤ 1000) : n ≤ LIM := Nat.le_trans h (by decide)
theorem small_nat {n : Nat} (h : n ≤ 1000) : small (n : Int) = true := by
  exact small_mk (by omega) (by omega)
theorem bools_map {α : Type} (p : α → Bool) : ∀ xs : List α, bools (xs.map fun x => D.bl (p x)) = some (xs.map p)
  | [] => rfl
  | x :: xs => by rw [List.map_cons, bools, bools_map p xs]; rfl
theorem strsD_map : ∀ F : List (List Nat), strsD (F.map D.str) = some F
  | [] => rfl
  | f :: F => by rw [List.map_cons, strsD, strsD_map F]; rfl
theorem jnL_flat : ∀ F : List (List Nat), jnL [] F = F.flatten
  | [] => rfl
  | [f] => by rw [jnL_one]; simp
  | f :: g :: F => by rw [jnL_cons, jnL_flat (g :: F)]; simp
theorem flat_len : ∀ F : List (List Nat), (F.map (·.length)).sum = F.flatten.length := fun F => by simp

end L2.DI

namespace L2.DI
open PySem PySem.Spec PyProof.Rows
def fallB (f : List Nat) : Bool := (List.range (f.length - 1)).all fun k => decide ((f[k + 1]?).getD 0 < (f[k]?).getD 0)
theorem fall_eq {f : List Nat} (hl : f.length ≤ 1000) : Wp (m_is_falling [.str f]) fun r => r = .im (.bl (fallB f)) := by
  have hs1 : small 1 = true := small_mk (by omega) (by omega)
  have hs2 : small (f.length : Int) = true := small_nat hl
  have hl2 : f.length ≤ 16777216 := by omega
  simp [m_is_falling, sb_is_falling, hs1, hs2, hl2]
  refine lcs_wp (fun k : Nat => D.int (1 + ↑k)) (fun k : Nat => true) (fun k : Nat => D.bl (decide ((f[k + 1]?).getD 0 < (f[k]?).getD 0))) (List.range (f.length - 1)) (lim_of (by rw [List.length_range]; omega)) (fun k hk => ?_) ?_
  · simp at hk
    have h1 : atI f (1 + (k : Int)) = f[k + 1]? := by
      rw [show 1 + (k : Int) = ((k + 1 : Nat) : Int) by omega, atI_nat]
    have h2 : atI f (1 + (k : Int) - 1) = f[k]? := by
      rw [show 1 + (k : Int) - 1 = ((k : Nat) : Int) by omega, atI_nat]
    have e1 : f[k + 1]? = some f[k + 1] := List.getElem?_eq_getElem (by omega)
    have e2 : f[k]? = some f[k] := List.getElem?_eq_getElem (by omega)
    simp [hl2, h1, h2, e1, e2, x_lt_str1]
  · rw [List.filter_eq_self.2 fun _ _ => rfl]
    simp [fAll, bools_map (fun k : Nat => decide ((f[k + 1]?).getD 0 < (f[k]?).getD 0)), fallB, List.all_map, Function.comp_def]
def fitB (height : Int) (rule f : List Nat) : Bool := decide ((f.length : Int) ≤ height) && (decide (rule = FREE) || fallB f)
theorem fits_eq {many piles height : Int} {rule f : List Nat} (hl : f.length ≤ 1000) : Wp (m_fits_rule [objD many piles height rule, .str f]) fun r => r = .im (.bl (fitB height rule f)) := by
  obtain ⟨_, ef, rfl⟩ := (fall_eq hl).get
  have hl2 : f.length ≤ 16777216 := by omega
  by_cases h : (f.length : Int) ≤ height
  · by_cases e : rule = [102, 114, 101, 101]
    · simp [m_fits_rule, sb_fits_rule, objD, hl2, h, c_FREE, e, fitB, FREE]
    · have e' : (rule == [102, 114, 101, 101]) = false := by simpa using e
      simp [m_fits_rule, sb_fits_rule, objD, hl2, h, c_FREE, e, e', ef, fitB, FREE]
  · simp [m_fits_rule, sb_fits_rule, objD, hl2, h, fitB]

end L2.DI

namespace L2.DI
open PySem PySem.Spec PyProof.Rows
theorem getSome {F : List (List Nat)} {i : Nat} (h : i < F.length) : ∃ f, F[i]? = some f := ⟨F[i], List.getElem?_eq_getElem h⟩
theorem lastSome {f : List Nat} (h : f ≠ []) : ∃ c, f.getLast? = some c := ⟨f.getLast h, List.getLast?_eq_some_getLast h⟩

end L2.DI

namespace L2.DI
open PySem PySem.Spec PyProof.Rows
/-! ### all standings, block by block -/
def lay1 (pile : List Nat) (c a : Nat) : List Nat := pile.take a ++ c :: pile.drop a
def layP (ok : List Nat → Bool) (c : Nat) (F : List (List Nat)) (p : List Nat × Nat) : List (List (List Nat)) := (((List.range (p.1.length + 1)).map (lay1 p.1 c)).filter ok).map fun w => F.set p.2 w
def layL (ok : List Nat → Bool) (c : Nat) (F : List (List Nat)) : List (List (List Nat)) := F.zipIdx.flatMap (layP ok c F)
theorem mem_lay {ok : List Nat → Bool} {c : Nat} {F G : List (List Nat)} : G ∈ layL ok c F ↔ ∃ i pile a, F[i]? = some pile ∧ a ≤ pile.length ∧ ok (lay1 pile c a) = true ∧ G = F.set i (lay1 pile c a) := by
  unfold layL layP
  simp only [List.mem_flatMap, List.mem_map, List.mem_filter, List.mem_range]
  constructor
  · rintro ⟨⟨pile, i⟩, hp, w, ⟨⟨a, ha, rfl⟩, hok⟩, rfl⟩
    have := List.mem_zipIdx_iff_getElem?.1 hp
    exact ⟨i, pile, a, this, by dsimp only at ha; omega, hok, rfl⟩
  · rintro ⟨i, pile, a, h1, h2, h3, rfl⟩
    exact ⟨(pile, i), List.mem_zipIdx_iff_getElem?.2 h1, _, ⟨⟨a, by dsimp only; omega, rfl⟩, h3⟩, rfl⟩
def strip (c : Nat) (G : List (List Nat)) : List (List Nat) := G.map (List.filter fun x => decide (x ≠ c))
theorem filt_no {c : Nat} {f : List Nat} (h : c ∉ f) : f.filter (fun x => decide (x ≠ c)) = f := List.filter_eq_self.2 fun x hx => decide_eq_true fun e => h (e ▸ hx)
theorem filt_lay {c a : Nat} {f : List Nat} (h : c ∉ f) : (lay1 f c a).filter (fun x => decide (x ≠ c)) = f := by
  unfold lay1
  rw [List.filter_append, List.filter_cons_of_neg (by simp), ← List.filter_append, List.take_append_drop, filt_no h]
theorem set_self {F : List (List Nat)} {i : Nat} {f : List Nat} (h : F[i]? = some f) : F.set i f = F := by
  have h1 := (List.getElem?_eq_some_iff.1 h).1
  apply List.ext_getElem?
  intro k
  rcases Nat.decEq i k with ne | rfl
  · rw [List.getElem?_set_ne ne]
  · rw [List.getElem?_set_self h1, h]
theorem strip_lay {ok : List Nat → Bool} {c : Nat} {F G : List (List Nat)} (hc : c ∉ F.flatten) (h : G ∈ layL ok c F) : strip c G = F := by
  obtain ⟨i, pile, a, h1, _, _, rfl⟩ := mem_lay.1 h
  have hf : ∀ f ∈ F, c ∉ f := fun f hf hm => hc (List.mem_flatten.2 ⟨f, hf, hm⟩)
  unfold strip
  rw [List.map_set, filt_lay (hf _ (List.mem_of_getElem? h1))]
  have : F.map (List.filter fun x => decide (x ≠ c)) = F := by
    conv => rhs; rw [← List.map_id F]
    apply List.map_congr_left
    intro f hm
    exact filt_no (hf f hm)
  rw [this, set_self h1]
theorem lay1_inj {f : List Nat} {c a b : Nat} (hc : c ∉ f) (ha : a ≤ f.length) (hb : b ≤ f.length) (h : lay1 f c a = lay1 f c b) : a = b := by
  have key : ∀ a, a ≤ f.length → (lay1 f c a).takeWhile (fun x => decide (x ≠ c)) = f.take a := by
    intro a ha
    unfold lay1
    have hall : ∀ x ∈ f.take a, (fun x => decide (x ≠ c)) x = true := fun x hx => by
      have : x ≠ c := fun e => hc (by rw [← e]; exact List.mem_of_mem_take hx)
      exact decide_eq_true this
    rw [List.takeWhile_append_of_pos hall, List.takeWhile_cons_of_neg (by simp), List.append_nil]
  have e := congrArg (List.takeWhile fun x => decide (x ≠ c)) h
  rw [key a ha, key b hb] at e
  have := congrArg List.length e
  rw [List.length_take, List.length_take] at this
  omega
theorem lay1_mem (f : List Nat) (c a : Nat) : c ∈ lay1 f c a := by simp [lay1]
theorem nodup_lay {ok : List Nat → Bool} {c : Nat} {F : List (List Nat)} (hc : c ∉ F.flatten) : (layL ok c F).Nodup := by
  have hf : ∀ f ∈ F, c ∉ f := fun f hf hm => hc (List.mem_flatten.2 ⟨f, hf, hm⟩)
  unfold layL List.Nodup
  rw [List.pairwise_flatMap]
  constructor
  · rintro ⟨f, i⟩ hp
    have hi := List.mem_zipIdx_iff_getElem?.1 hp
    dsimp only at hi
    have hil := (List.getElem?_eq_some_iff.1 hi).1
    have hcf := hf f (List.mem_of_getElem? hi)
    unfold layP
    rw [List.pairwise_map]
    refine (List.Pairwise.filter _ ?_).imp_of_mem (S := fun a b => F.set i a ≠ F.set i b) (R := fun a b => a ≠ b) fun {a b} _ _ ne e => ne ?_
    · rw [List.pairwise_map]
      have := List.nodup_range (n := f.length + 1)
      refine List.Pairwise.imp_of_mem ?_ this
      intro a b ha hb ne e
      exact ne (lay1_inj hcf (by have := List.mem_range.1 ha; dsimp only at this; omega) (by have := List.mem_range.1 hb; dsimp only at this; omega) e)
    · have := congrArg (fun G : List (List Nat) => G[i]?) e
      rw [List.getElem?_set_self hil, List.getElem?_set_self hil] at this
      exact Option.some.inj this
  · have hz : (F.zipIdx).Pairwise (fun p q => p.2 ≠ q.2) := by
      rw [List.pairwise_iff_getElem]
      intro a b ha hb hab
      rw [List.getElem_zipIdx, List.getElem_zipIdx]
      dsimp only
      omega
    refine hz.imp_of_mem ?_
    rintro ⟨f, i⟩ ⟨g, j⟩ hp hq hij G hG G' hG' e
    subst e
    have hi := List.mem_zipIdx_iff_getElem?.1 hp
    have hj := List.mem_zipIdx_iff_getElem?.1 hq
    dsimp only at hi hj hij
    unfold layP at hG hG'
    simp only [List.mem_map, List.mem_filter, List.mem_range] at hG hG'
    obtain ⟨w, ⟨⟨a, _, rfl⟩, _⟩, rfl⟩ := hG
    obtain ⟨w', ⟨⟨a', _, rfl⟩, _⟩, e⟩ := hG'
    have := congrArg (fun G : List (List Nat) => G[i]?) e
    rw [List.getElem?_set_self (List.getElem?_eq_some_iff.1 hi).1, List.getElem?_set_ne (fun z => hij z.symm), hi] at this
    have := Option.some.inj this
    exact hf f (List.mem_of_getElem? hi) (by rw [this]; exact lay1_mem _ _ _)
/-- falling, adjacent pairs alone -/
theorem fallB_cons (a b : Nat) (l : List Nat) : fallB (a :: b :: l) = (decide (b < a) && fallB (b :: l)) := by
  unfold fallB
  rw [show (a :: b :: l).length - 1 = ((b :: l).length - 1) + 1 by simp, List.range_succ_eq_map, List.all_cons, List.all_map]
  congr 1
theorem fallB_iff : ∀ f : List Nat, fallB f = true ↔ f.Pairwise (· > ·)
  | [] => by simp [fallB]
  | [a] => by simp [fallB]
  | a :: b :: l => by
    rw [fallB_cons, Bool.and_eq_true, fallB_iff (b :: l), decide_eq_true_eq]
    constructor
    · rintro ⟨h1, h2⟩
      refine List.pairwise_cons.2 ⟨fun x hx => ?_, h2⟩
      rcases List.mem_cons.1 hx with rfl | hx
      · exact h1
      · have := (List.pairwise_cons.1 h2).1 x hx
        omega
    · intro h
      obtain ⟨h1, h2⟩ := List.pairwise_cons.1 h
      exact ⟨h1 b (List.mem_cons_self ..), h2⟩
theorem fitB_iff {height : Int} {rule f : List Nat} : fitB height rule f = true ↔ (f.length : Int) ≤ height ∧ (rule ≠ FREE → f.Pairwise (· > ·)) := by
  unfold fitB
  rw [Bool.and_eq_true, Bool.or_eq_true, decide_eq_true_eq, decide_eq_true_eq, fallB_iff]
  constructor
  · rintro ⟨h1, h2⟩
    exact ⟨h1, fun n => h2.elim (fun e => absurd e n) id⟩
  · rintro ⟨h1, h2⟩
    refine ⟨h1, ?_⟩
    by_cases e : rule = FREE
    · exact .inl e
    · exact .inr (h2 e)
theorem flat_lay (c : Nat) : ∀ (F : List (List Nat)) (i : Nat) (f : List Nat) (a : Nat), F[i]? = some f → (F.set i (lay1 f c a)).flatten.Perm (c :: F.flatten)
  | [], i, f, a, h => by simp at h
  | g :: F, 0, f, a, h => by
    simp at h; subst h
    simp only [List.set_cons_zero, List.flatten_cons]
    have : (lay1 g c a).Perm (c :: g) := by
      unfold lay1
      refine List.perm_middle.trans ?_
      rw [List.take_append_drop]
    exact this.append_right _
  | g :: F, i + 1, f, a, h => by
    simp only [List.set_cons_succ, List.flatten_cons]
    refine (List.Perm.append_left g (flat_lay c F i f a (by simpa using h))).trans ?_
    exact List.perm_middle
theorem bl_take {k : Nat} {c : Nat} (hk : BL[k]? = some c) : BL.take (k + 1) = BL.take k ++ [c] := by rw [List.take_add_one, hk]; rfl
theorem bl_new {k : Nat} {c : Nat} (hk : BL[k]? = some c) : c ∉ BL.take k := fun h => by
  have hnd : (BL.take (k + 1)).Nodup := (show BL.Nodup by decide).sublist (List.take_sublist _ _)
  rw [bl_take hk, List.nodup_append] at hnd
  exact hnd.2.2 c h c (by simp) rfl
section
variable {piles height : Int} {rule : List Nat}
theorem lay_std {k : Nat} {c : Nat} (hk : BL[k]? = some c) {F G : List (List Nat)} (hF : Std k piles height rule F) (h : G ∈ layL (fitB height rule) c F) : Std (k + 1 : Nat) piles height rule G := by
  obtain ⟨i, pile, a, h1, _, hok, rfl⟩ := mem_lay.1 h
  obtain ⟨g1, g2, g3, g4⟩ := hF
  obtain ⟨o1, o2⟩ := fitB_iff.1 hok
  refine ⟨by simpa using g1, fun f hf => ?_, ?_, fun hr f hf => ?_⟩
  · rcases List.mem_or_eq_of_mem_set hf with q | rfl
    · exact g2 f q
    · exact o1
  · refine (flat_lay c F i pile a h1).trans ?_
    rw [show ((k + 1 : Nat) : Int).toNat = k + 1 by omega, bl_take hk]
    rw [show ((k : Nat) : Int).toNat = k by omega] at g3
    exact (g3.cons c).trans (by simpa using (List.perm_append_singleton c (BL.take k)).symm)
  · rcases List.mem_or_eq_of_mem_set hf with q | rfl
    · exact g4 hr f q
    · exact o2 hr
theorem std_lay {k : Nat} {c : Nat} (hk : BL[k]? = some c) {G : List (List Nat)} (hG : Std (k + 1 : Nat) piles height rule G) : Std k piles height rule (strip c G) ∧ G ∈ layL (fitB height rule) c (strip c G) := by
  obtain ⟨g1, g2, g3, g4⟩ := hG
  rw [show ((k + 1 : Nat) : Int).toNat = k + 1 by omega, bl_take hk] at g3
  have hnew := bl_new hk
  have hs : (strip c G).flatten = G.flatten.filter (fun x => decide (x ≠ c)) := by unfold strip; rw [List.filter_flatten]
  have hcm : c ∈ G.flatten := g3.mem_iff.2 (by simp)
  constructor
  · refine ⟨by simpa [strip] using g1, fun f hf => ?_, ?_, fun hr f hf => ?_⟩
    · obtain ⟨g, hg, rfl⟩ := List.mem_map.1 hf
      have := g2 g hg
      have := List.length_filter_le (fun x => decide (x ≠ c)) g
      omega
    · rw [hs, show ((k : Nat) : Int).toNat = k by omega]
      refine (g3.filter _).trans ?_
      rw [List.filter_append, filt_no hnew, List.filter_cons_of_neg (by simp), List.filter_nil, List.append_nil]
    · obtain ⟨g, hg, rfl⟩ := List.mem_map.1 hf
      exact (g4 hr g hg).sublist List.filter_sublist
  · obtain ⟨g, hg, hcg⟩ := List.mem_flatten.1 hcm
    obtain ⟨i, hi⟩ := List.mem_iff_getElem?.1 hg
    obtain ⟨p1, p2, rfl⟩ := List.append_of_mem hcg
    have hnd : G.flatten.Nodup := by
      rw [g3.nodup_iff]
      rw [← bl_take hk]
      exact (show BL.Nodup by decide).sublist (List.take_sublist _ _)
    unfold List.Nodup at hnd
    rw [List.pairwise_flatten] at hnd
    obtain ⟨n1, n2⟩ := hnd
    have hgn := n1 _ hg
    have hc1 : c ∉ p1 := fun hm => (List.pairwise_append.1 hgn).2.2 c hm c (by simp) rfl
    have hc2 : c ∉ p2 := fun hm => (List.pairwise_cons.1 (List.pairwise_append.1 hgn).2.1).1 c hm rfl
    have hf1 : (p1 ++ c :: p2).filter (fun x => decide (x ≠ c)) = p1 ++ p2 := by
      rw [List.filter_append, List.filter_cons_of_neg (by simp), filt_no hc1, filt_no hc2]
    have hl1 : lay1 (p1 ++ p2) c p1.length = p1 ++ c :: p2 := by simp [lay1]
    have hsi : (strip c G)[i]? = some (p1 ++ p2) := by unfold strip; rw [List.getElem?_map, hi, Option.map_some, hf1]
    refine mem_lay.2 ⟨i, p1 ++ p2, p1.length, hsi, by simp, ?_, ?_⟩
    · rw [hl1]
      exact fitB_iff.2 ⟨g2 _ hg, fun hr => g4 hr _ hg⟩
    · rw [hl1]
      apply List.ext_getElem?
      intro j
      rcases Nat.decEq i j with ne | rfl
      · rw [List.getElem?_set_ne ne]
        unfold strip
        rw [List.getElem?_map]
        cases e : G[j]? with
        | none => rfl
        | some f =>
          rw [Option.map_some]
          congr 1
          refine (filt_no fun hm => ?_).symm
          rw [List.pairwise_iff_getElem] at n2
          obtain ⟨a1, a2⟩ := List.getElem?_eq_some_iff.1 hi
          obtain ⟨b1, b2⟩ := List.getElem?_eq_some_iff.1 e
          rcases Nat.lt_or_gt_of_ne ne with q | q
          · exact n2 i j a1 b1 q c (by rw [a2]; exact hcg) c (by rw [b2]; exact hm) rfl
          · exact n2 j i b1 a1 q c (by rw [b2]; exact hm) c (by rw [a2]; exact hcg) rfl
      · rw [List.getElem?_set_self (List.getElem?_eq_some_iff.1 hsi).1, hi]
/-- the standings of the first k blocks, as a list -/
structure AllS (piles height : Int) (rule : List Nat) (k : Nat) (Fs : List (List (List Nat))) : Prop where
  nd : Fs.Nodup
  mem : ∀ F, F ∈ Fs ↔ Std k piles height rule F
theorem AllS.zero (hp : 0 ≤ piles) (hh : 0 ≤ height) : AllS piles height rule 0 [List.replicate piles.toNat []] := by
  refine ⟨by simp, fun F => ?_⟩
  rw [List.mem_singleton]
  constructor
  · rintro rfl
    refine ⟨by simp; omega, fun f hf => by rw [List.eq_of_mem_replicate hf]; simpa using hh, by simp, fun _ f hf => by rw [List.eq_of_mem_replicate hf]; exact List.Pairwise.nil⟩
  · rintro ⟨g1, g2, g3, g4⟩
    have : F.flatten = [] := by simpa using g3
    refine List.eq_replicate_iff.2 ⟨by omega, fun f hf => ?_⟩
    exact List.flatten_eq_nil_iff.1 this f hf
theorem AllS.fresh {k : Nat} {c : Nat} (hk : BL[k]? = some c) {F : List (List Nat)} (hF : Std k piles height rule F) : c ∉ F.flatten := fun h => by
  have := hF.perm.mem_iff.1 h
  rw [show ((k : Nat) : Int).toNat = k by omega] at this
  exact bl_new hk this
theorem AllS.step {k : Nat} {c : Nat} (hk : BL[k]? = some c) {Fs : List (List (List Nat))} (h : AllS piles height rule k Fs) : AllS piles height rule (k + 1) (Fs.flatMap (layL (fitB height rule) c)) := by
  refine ⟨?_, fun G => ?_⟩
  · unfold List.Nodup
    rw [List.pairwise_flatMap]
    refine ⟨fun F hF => nodup_lay (AllS.fresh hk ((h.mem F).1 hF)), ?_⟩
    have hnd : Fs.Pairwise (fun a b => a ≠ b) := h.nd
    refine hnd.imp_of_mem ?_
    intro F F' hF hF' ne G hG G' hG' e
    subst e
    exact ne ((strip_lay (AllS.fresh hk ((h.mem F).1 hF)) hG).symm.trans (strip_lay (AllS.fresh hk ((h.mem F').1 hF')) hG'))
  · rw [List.mem_flatMap]
    constructor
    · rintro ⟨F, hF, hG⟩
      exact lay_std hk ((h.mem F).1 hF) hG
    · intro hG
      obtain ⟨h1, h2⟩ := std_lay hk hG
      exact ⟨strip c G, (h.mem _).2 h1, h2⟩
theorem AllS.len {k : Nat} (hk : k ≤ 5) (hp : piles ≤ 4) {Fs : List (List (List Nat))} (hn : Fs.Nodup) (h : ∀ F ∈ Fs, Std k piles height rule F) : Fs.length ≤ 10077696 := by
  have := std_many (A := BL) (by decide) (n := k) (p := piles.toNat) hn fun F hF => by
    have h1 := h F hF
    have h2 := h1.perm.length_eq
    rw [List.length_take, show BL.length = 5 from rfl] at h2
    refine ⟨by omega, by have := h1.len; omega, fun f hf c hc => ?_⟩
    exact List.mem_of_mem_take (h1.perm.mem_iff.1 (List.mem_flatten.2 ⟨f, hf, hc⟩))
  refine Nat.le_trans this ?_
  refine Nat.le_trans (Nat.pow_le_pow_right (show 0 < BL.length + 1 by decide) (show k + piles.toNat ≤ 9 by omega)) (by decide)
theorem AllS.perm {k : Nat} {Fs Gs : List (List (List Nat))} (h : AllS piles height rule k Fs) (h' : AllS piles height rule k Gs) : Fs.Perm Gs :=
  (List.perm_ext_iff_of_nodup h.nd h'.nd).2 fun x => by rw [h.mem, h'.mem]
end

end L2.DI

namespace L2.DI
open PySem PySem.Spec PyProof.Rows
theorem x_rev_s {l : List Nat} (h : l.length ≤ 1000) : fRev (.str l) = .ok (.im (.str l.reverse)) := by
  unfold fRev; dsimp only; rw [if_pos (lim_of h)]
theorem x_cat {a b : List Nat} (h : a.length + b.length ≤ 1000) : fAdd (.str a) (.str b) = .ok (.im (.str (a ++ b))) := by
  unfold fAdd; dsimp only; rw [if_pos (lim_of h)]
theorem cut_from {α : Type} (xs : List α) (k : Nat) : cut xs (some (k : Int)) none = xs.drop k := by
  unfold cut
  rw [HT.sIx_none, HT.sIx_nat]
  rw [List.take_of_length_le (by rw [List.length_drop]; omega)]
  rcases Nat.le_total k xs.length with h | h
  · rw [Nat.min_eq_left h]
  · rw [Nat.min_eq_right h, List.drop_of_length_le h, List.drop_of_length_le (Nat.le_refl _)]

end L2.DI

namespace L2.DI
open PySem PySem.Spec PyProof.Rows
theorem cut_init {α : Type} (xs : List α) : cut xs none (some (-1)) = xs.dropLast := by
  unfold cut
  have : HT.sIx xs.length xs.length (some (-1)) = xs.length - 1 := by
    unfold HT.sIx; dsimp only; rw [if_pos (by omega)]; omega
  rw [HT.sIx_none, this, List.drop_zero, Nat.sub_zero, List.dropLast_eq_take]

end L2.DI

namespace L2.DI
open PySem PySem.Spec PyProof.Rows
theorem flatMap_len {α β : Type} (g : α → List β) (m : Nat) : ∀ l : List α, (∀ x ∈ l, (g x).length ≤ m) → (l.flatMap g).length ≤ l.length * m
  | [], _ => by simp
  | x :: l, h => by
    rw [List.flatMap_cons, List.length_append, List.length_cons, Nat.add_mul, Nat.one_mul]
    have := flatMap_len g m l fun y hy => h y (List.mem_cons_of_mem _ hy)
    have := h x (List.mem_cons_self ..)
    omega
theorem layP_len (ok : List Nat → Bool) (c : Nat) (F : List (List Nat)) (p : List Nat × Nat) : (layP ok c F p).length ≤ p.1.length + 1 := by
  unfold layP
  rw [List.length_map]
  refine Nat.le_trans (List.length_filter_le _ _) ?_
  rw [List.length_map, List.length_range]; exact Nat.le_refl _
theorem laid_wp {many piles height : Int} {rule : List Nat} {F : List (List Nat)} {c : Nat} (h5 : ∀ f ∈ F, f.length ≤ 5) (hF : F.length ≤ 10) : Wp (m_laid_everywhere [objD many piles height rule, stD F, .str [c]]) fun r => r = .fr (.lst ((layL (fitB height rule) c F).map stD)) := by
  simp [m_laid_everywhere, sb_laid_everywhere, stD]
  refine loop_wp (fun j δ => ∃ a b u v, δ = [.im (objD many piles height rule), .im (.tup (F.map D.str)), .im (.str [c]), .ow (.lst (((F.zipIdx.take j).flatMap (layP (fitB height rule) c F)).map stD)), a, b, u, v]) ?_ ?_ ?_
  · exact ⟨_, _, _, _, by simp; exact ⟨rfl, rfl, rfl, rfl⟩⟩
  · rintro j x _ hx ⟨a, b, u, v, rfl⟩
    obtain ⟨d, hd, rfl⟩ := enD_get hx
    rw [List.getElem?_map] at hd
    obtain ⟨f, hf, rfl⟩ := Option.map_eq_some_iff.1 hd
    have hfl := h5 f (List.mem_of_getElem? hf)
    have hs : small ((f.length : Int) + 1) = true := small_mk (by omega) (by omega)
    have hl : f.length ≤ 16777216 := by omega
    have hj : j < F.length := (List.getElem?_eq_some_iff.1 hf).1
    simp [hl, hs]
    refine loop_wp (fun i δ => ∃ u v, δ = [.im (objD many piles height rule), .im (.tup (F.map D.str)), .im (.str [c]), .ow (.lst (((F.zipIdx.take j).flatMap (layP (fitB height rule) c F) ++ (((List.range i).map (lay1 f c)).filter (fitB height rule)).map fun w => F.set j w).map stD)), .im (.int j), .im (.str f), u, v]) ?_ ?_ ?_
    · exact ⟨_, _, by simp; exact ⟨rfl, rfl⟩⟩
    · rintro i y _ hy ⟨u, v, rfl⟩
      obtain ⟨hi, rfl⟩ := range_get hy
      have c1 : cut f none (some (i : Int)) = f.take i := by rw [cut_to _ _ (by omega)]; simp
      have c2 := cut_from f i
      have l1 : (f.take i).length ≤ 5 := by rw [List.length_take]; omega
      have l2 : (f.drop i).length ≤ 5 := by rw [List.length_drop]; omega
      have a1 := x_cat (a := f.take i) (b := [c]) (by simp; omega)
      have a2 := x_cat (a := f.take i ++ [c]) (b := f.drop i) (by simp; omega)
      have e1 : f.take i ++ [c] ++ f.drop i = lay1 f c i := by simp [lay1]
      rw [e1] at a2
      have hwl : (lay1 f c i).length ≤ 1000 := by rw [← e1]; simp; omega
      obtain ⟨_, e2, rfl⟩ := (fits_eq (many := many) (piles := piles) (height := height) (rule := rule) hwl).get
      have hr : (List.range (i + 1)).map (lay1 f c) = (List.range i).map (lay1 f c) ++ [lay1 f c i] := by rw [List.range_succ, List.map_append]; rfl
      have c3 : cut (F.map D.str) none (some (j : Int)) = (F.map D.str).take j := by rw [cut_to _ _ (by omega)]; simp
      have c4 : cut (F.map D.str) (some ((j : Int) + 1)) none = (F.map D.str).drop (j + 1) := cut_from (F.map D.str) (j + 1)
      have a3 := add_tup (a := (F.map D.str).take j) (b := [.str (lay1 f c i)]) (by simp; omega)
      have a4 := add_tup (a := (F.map D.str).take j ++ [.str (lay1 f c i)]) (b := (F.map D.str).drop (j + 1)) (by simp; omega)
      have e3 : (F.map D.str).take j ++ [D.str (lay1 f c i)] ++ (F.map D.str).drop (j + 1) = (F.set j (lay1 f c i)).map D.str := by
        rw [List.map_set, List.set_eq_take_append_cons_drop, if_pos (by simpa using hj)]; simp
      rw [e3] at a4
      have hll : ((F.zipIdx.take j).flatMap (layP (fitB height rule) c F)).length ≤ 10 * 6 := by
        refine Nat.le_trans (flatMap_len _ 6 _ fun p hp => ?_) (Nat.mul_le_mul (by rw [List.length_take, List.length_zipIdx]; omega) (Nat.le_refl _))
        refine Nat.le_trans (layP_len _ _ _ _) ?_
        have := List.mem_zipIdx_iff_getElem?.1 (List.mem_of_mem_take hp)
        have := h5 _ (List.mem_of_getElem? this)
        omega
      have hll2 : (((List.range i).map (lay1 f c)).filter (fitB height rule)).length ≤ 5 := by
        refine Nat.le_trans (List.length_filter_le _ _) ?_
        rw [List.length_map, List.length_range]; omega
      rw [hr, List.filter_append, List.map_append]
      simp [hl, fSl, c1, c2, a1, a2, e2]
      by_cases hb : fitB height rule (lay1 f c i) = true
      · have ap : fApp (((F.zipIdx.take j).flatMap (layP (fitB height rule) c F) ++ (((List.range i).map (lay1 f c)).filter (fitB height rule)).map fun w => F.set j w).map stD) (.tup ((F.set j (lay1 f c i)).map D.str)) = some (.im .non, ((F.zipIdx.take j).flatMap (layP (fitB height rule) c F) ++ (((List.range i).map (lay1 f c)).filter (fitB height rule)).map fun w => F.set j w).map stD ++ [stD (F.set j (lay1 f c i))]) := by
          unfold fApp; rw [if_pos (by rw [List.length_map, List.length_append, List.length_map, x_LIM]; omega)]; rfl
        simp only [List.map_append, List.map_map, List.map_set] at ap
        simp [hb, fSl, c3, c4, a3, a4, ap]
      · simp [hb]
    · rintro δ ⟨u, v, rfl⟩
      refine ⟨rfl, .im (.int j), .im (.str f), u, v, ?_⟩
      have e4 : F.zipIdx[j]? = some (f, j) := by rw [List.getElem?_zipIdx, hf]; simp
      rw [List.take_add_one, e4, List.flatMap_append]
      have e5 : ([(f, j)] : List (List Nat × Nat)).flatMap (layP (fitB height rule) c F) = ((((List.range (f.length + 1)).map (lay1 f c)).filter (fitB height rule)).map fun w => F.set j w) := by simp [layP]
      simp only [Option.toList_some]
      rw [e5]
      simp
  · rintro δ ⟨a, b, u, v, rfl⟩
    rw [enD_len, List.length_map]
    have : F.zipIdx.take F.length = F.zipIdx := List.take_of_length_le (by rw [List.length_zipIdx]; exact Nat.le_refl _)
    rw [this]
    simp [layL]
theorem standings_wp {many piles height : Int} {rule : List Nat} (h : TabP many piles height rule) : Wp (m_standings [objD many piles height rule]) fun r => ∃ Fs, AllS piles height rule many.toNat Fs ∧ r = .fr (.lst ((Fs.map stD).mergeSort leD)) := by
  obtain ⟨m1, m2, p1, p2, h1, h2, h3, hr⟩ := id h
  have hc : cut [97, 98, 99, 100, 101] none (some many) = BL.take many.toNat := cut_to _ _ (by omega)
  have hb : m_blocks_of [.int many] = .ok (.im (.str (BL.take many.toNat))) := by
    simp [m_blocks_of, sb_blocks_of, x_semD, c_BLOCKS, fSl, hc]
  have e0 : fMul (.tup [.str []]) (.int piles) = .ok (.im (stD (List.replicate piles.toNat []))) := by
    unfold fMul
    dsimp only
    rw [if_pos ⟨by simp, p1, by omega, by simp⟩]
    congr 3
    rw [List.map_replicate]
    congr 1
    induction piles.toNat with
    | zero => rfl
    | succ n ih => rw [List.replicate_succ, List.flatten_cons, ih, List.replicate_succ]; rfl
  have hob : objD many piles height rule = .obj 0 [.int many, .int piles, .int height, .str rule, tabD many piles height rule] := rfl
  have hlen : (BL.take many.toNat).length = many.toNat := by rw [List.length_take, show BL.length = 5 from rfl]; omega
  simp [m_standings, sb_standings, hob, e0, hb, -List.map_take]
  rw [← hob]
  refine loop_wp (fun j δ => ∃ Fs a b u, AllS piles height rule j Fs ∧ δ = [.im (objD many piles height rule), .ow (.lst (Fs.map stD)), a, b, u]) ?_ ?_ ?_
  · exact ⟨[List.replicate piles.toNat []], _, _, _, AllS.zero (by omega) (by omega), rfl⟩
  · rintro j x _ hx ⟨Fs, a, b, u, hA, rfl⟩
    rw [List.getElem?_map] at hx
    obtain ⟨c, hcx, rfl⟩ := Option.map_eq_some_iff.1 hx
    have hjm : j < (BL.take many.toNat).length := (List.getElem?_eq_some_iff.1 hcx).1
    have hk : BL[j]? = some c := by
      rw [List.getElem?_take] at hcx
      split at hcx
      · exact hcx
      · cases hcx
    have hS := hA.step hk
    have hSl := AllS.len (k := j + 1) (by omega) p2 hS.nd fun F hF => (hS.mem F).1 hF
    simp
    refine loop_wp (fun i δ => ∃ u, δ = [.im (objD many piles height rule), .im (.lst (Fs.map stD)), .im (.str [c]), .ow (.lst (((Fs.take i).flatMap (layL (fitB height rule) c)).map stD)), u]) ?_ ?_ ?_
    · exact ⟨_, by simp; rfl⟩
    · rintro i y _ hy ⟨u, rfl⟩
      rw [List.getElem?_map] at hy
      obtain ⟨F, hF, rfl⟩ := Option.map_eq_some_iff.1 hy
      have hFs := (hA.mem F).1 (List.mem_of_getElem? hF)
      obtain ⟨_, e1, rfl⟩ := (laid_wp (many := many) (piles := piles) (height := height) (rule := rule) (F := F) (c := c) (fun f hf => by have := hFs.hgt f hf; omega) (by have := hFs.len; omega)).get
      have et : Fs.take (i + 1) = Fs.take i ++ [F] := by rw [List.take_add_one, hF]; rfl
      have hle : ((Fs.take (i + 1)).flatMap (layL (fitB height rule) c)).length ≤ (Fs.flatMap (layL (fitB height rule) c)).length := by
        conv => rhs; rw [← List.take_append_drop (i + 1) Fs, List.flatMap_append, List.length_append]
        exact Nat.le_add_right _ _
      rw [et, List.flatMap_append, List.length_append] at hle
      have ex : fExt (((Fs.take i).flatMap (layL (fitB height rule) c)).map stD) (.lst ((layL (fitB height rule) c F).map stD)) = some (.im .non, ((Fs.take i).flatMap (layL (fitB height rule) c)).map stD ++ (layL (fitB height rule) c F).map stD) := by
        unfold fExt; dsimp only
        rw [if_pos (by
          rw [List.length_map, List.length_map, x_LIM]
          simp at hle hSl ⊢
          omega)]
      simp [e1, ex]
      rw [et, List.flatMap_append]
      simp
    · rintro δ ⟨u, rfl⟩
      rw [List.length_map, List.take_length]
      simp
      exact ⟨_, hS, rfl⟩
  · rintro δ ⟨Fs, a, b, u, hA, rfl⟩
    rw [List.length_map, hlen] at hA
    have hso : fSorted (.lst (Fs.map stD)) = .ok (.fr (.lst ((Fs.map stD).mergeSort leD))) := by
      unfold fSorted; dsimp only
      rw [if_pos (sortOk_std fun F hF e => by
        have := ((hA.mem F).1 hF).len
        rw [e] at this
        simp at this
        omega)]
    simp [hso]
    exact ⟨Fs, hA, rfl⟩
theorem AllS.tab {many piles height : Int} {rule : List Nat} (h : TabP many piles height rule) {Fs : List (List (List Nat))} (hA : AllS piles height rule many.toNat Fs) (F : List (List Nat)) : F ∈ Fs ↔ Std many piles height rule F := by
  rw [hA.mem, show ((many.toNat : Nat) : Int) = many by have := h.m1; omega]

end L2.DI

namespace L2.DI
open PySem PySem.Spec PyProof.Rows
theorem sorted_all {many piles height : Int} {rule : List Nat} (h : TabP many piles height rule) : ∃ Gs, AllS piles height rule many.toNat Gs ∧ ∀ Fs, AllS piles height rule many.toNat Fs → (Fs.map stD).mergeSort leD = Gs.map stD := by
  obtain ⟨_, _, Fs, hA, _⟩ := (standings_wp h).get
  obtain ⟨Gs, hp, eG⟩ := sort_std_map Fs
  exact ⟨Gs, ⟨hp.nodup_iff.2 hA.nd, fun F => by rw [hp.mem_iff]; exact hA.mem F⟩, fun Fs' hA' => by rw [← eG]; exact sort_std (hA'.perm hA)⟩

end L2.DI

namespace L2.DI
open PySem PySem.Spec PyProof.Rows
theorem lay_law {k : Nat} {c : Nat} {piles : Int} {rule : List Nat} (hk : BL[k]? = some c) {F : List (List Nat)} (hF : Std k piles 5 rule F) {f : List Nat} {i : Nat} (hf : F[i]? = some f) :
    layP (fitB 5 rule) c F (f, i) = (List.range ((if rule = FREE then f.length else 0) + 1)).map fun a => F.set i (lay1 f c a) := by
  have hk5 : k < 5 := by
    have := (List.getElem?_eq_some_iff.1 hk).1
    exact this
  have hfm : f ∈ F := List.mem_of_getElem? hf
  have hfl : f.length ≤ 4 := by
    have := hF.perm.length_eq
    rw [List.length_take, show BL.length = 5 from rfl] at this
    have := (List.sublist_flatten_of_mem hfm).length_le
    omega
  have hlay : ∀ a, a ≤ f.length → (lay1 f c a).length = f.length + 1 := fun a ha => by simp [lay1]; omega
  unfold layP
  dsimp only
  by_cases hr : rule = FREE
  · rw [if_pos hr]
    have : ((List.range (f.length + 1)).map (lay1 f c)).filter (fitB 5 rule) = (List.range (f.length + 1)).map (lay1 f c) := by
      refine List.filter_eq_self.2 fun w hw => ?_
      obtain ⟨a, ha, rfl⟩ := List.mem_map.1 hw
      have := hlay a (by have := List.mem_range.1 ha; omega)
      exact fitB_iff.2 ⟨by omega, fun n => absurd hr n⟩
    rw [this, List.map_map]; rfl
  · rw [if_neg hr]
    have hnew : ∀ x ∈ f, x < c := fun x hx => by
      have h1 : x ∈ BL.take k := by
        have := hF.perm.mem_iff.1 (List.mem_flatten.2 ⟨f, hfm, hx⟩)
        simpa using this
      have hp : (BL.take (k + 1)).Pairwise (· < ·) := (show BL.Pairwise (· < ·) by decide).sublist (List.take_sublist _ _)
      rw [bl_take hk, List.pairwise_append] at hp
      exact hp.2.2 x h1 c (by simp)
    have : ((List.range (f.length + 1)).map (lay1 f c)).filter (fitB 5 rule) = [lay1 f c 0] := by
      rw [List.range_succ_eq_map, List.map_cons, List.filter_cons_of_pos]
      · congr 1
        rw [List.filter_eq_nil_iff]
        intro w hw hw2
        obtain ⟨a, ha, rfl⟩ := List.mem_map.1 hw
        obtain ⟨b, hb, rfl⟩ := List.mem_map.1 ha
        have hb := List.mem_range.1 hb
        have hp := (fitB_iff.1 hw2).2 hr
        unfold lay1 at hp
        have h0 : f[0]? = some f[0] := List.getElem?_eq_getElem (by omega)
        have hm : f[0] ∈ f.take (b + 1) := List.mem_of_getElem? (i := 0) (by rw [List.getElem?_take, if_pos (by omega)]; exact h0)
        have := (List.pairwise_append.1 hp).2.2 _ hm c (by simp)
        have := hnew _ (List.getElem_mem (l := f) (n := 0) (by omega))
        omega
      · refine fitB_iff.2 ⟨?_, fun _ => ?_⟩
        · have := hlay 0 (by omega)
          omega
        · have : lay1 f c 0 = c :: f := by simp [lay1]
          rw [this]
          exact List.pairwise_cons.2 ⟨fun x hx => hnew x hx, hF.fall hr f hfm⟩
    rw [this]
    rfl
theorem AllS.high {piles height : Int} {rule : List Nat} {k : Nat} (hk : k ≤ 5) (hh : height ≤ 5) (hp : 0 < piles) {Fs : List (List (List Nat))} (h : AllS piles 5 rule k Fs) (p : List (List Nat) → Bool) (hpp : ∀ F ∈ Fs, p F = true ↔ ∀ f ∈ F, (f.length : Int) ≤ height) : AllS piles height rule k (Fs.filter p) := by
  refine ⟨h.nd.filter _, fun F => ?_⟩
  rw [List.mem_filter]
  constructor
  · rintro ⟨h1, h2⟩
    have hs := (h.mem F).1 h1
    exact ⟨hs.len, (hpp F h1).1 h2, hs.perm, hs.fall⟩
  · intro hs
    have h1 : F ∈ Fs := (h.mem F).2 ⟨hs.len, fun f hf => by have := hs.hgt f hf; omega, hs.perm, hs.fall⟩
    exact ⟨h1, (hpp F h1).2 hs.hgt⟩
theorem intsD_map : ∀ F : List (List Nat), intsD (F.map fun f => D.int f.length) = some (F.map fun f => (f.length : Int))
  | [] => rfl
  | f :: F => by rw [List.map_cons, intsD, intsD_map F]; rfl
theorem x_add_l {a b : List D} (h : a.length + b.length ≤ 16777216) : fAdd (.lst a) (.lst b) = .ok (.fr (.lst (a ++ b))) := by
  unfold fAdd; dsimp only; rw [if_pos (show a.length + b.length ≤ LIM from h)]

end L2.DI

namespace L2.DI
open PySem PySem.Spec PyProof.Rows
abbrev ch (c : Nat) : D := .str [c]
theorem lt_one (a b : Nat) : ([a] < [b]) ↔ a < b := by
  constructor
  · intro h; cases h with | rel h => exact h | cons h => cases h
  · intro h; exact .rel h
theorem le_ch (a b : Nat) : leD (ch a) (ch b) = decide (a ≤ b) := by
  have h : ∀ x y : Nat, ((itemOrd).blt (Sum.inr [x]) (Sum.inr [y]) : Bool) = decide (x < y) := fun x y => by
    show decide ([x] < [y]) = _
    exact decide_eq_decide.mpr (lt_one x y)
  show (!((itemOrd).blt (Sum.inr [b]) (Sum.inr [a]) || (!(itemOrd).blt (Sum.inr [a]) (Sum.inr [b]) && false))) = _
  rw [h, h, Bool.and_false, Bool.or_false, Bool.eq_iff_iff]
  simp
def srt (f : List Nat) : List Nat := f.mergeSort fun a b => decide (a ≤ b)
theorem sort_ch (f : List Nat) : (f.map ch).mergeSort leD = (srt f).map ch :=
  (List.map_mergeSort (f := ch) (r := fun a b => decide (a ≤ b)) (s := leD) (l := f) fun x _ y _ => (le_ch x y).symm).symm
theorem srt_pw (f : List Nat) : (srt f).Pairwise (· ≤ ·) := by
  have := List.pairwise_mergeSort (le := fun a b : Nat => decide (a ≤ b)) (fun a b c h1 h2 => by simp at *; omega) (fun a b => by simp; omega) f
  exact this.imp fun h => by simpa using h
theorem srt_of {f : List Nat} (h : f.Pairwise (· ≤ ·)) : srt f = f := List.mergeSort_of_pairwise (h.imp fun h => by simpa using h)
theorem srt_perm {f g : List Nat} (h : f.Perm g) : srt f = srt g := by
  have hp : (srt f).Perm (srt g) := (List.mergeSort_perm _ _).trans (h.trans (List.mergeSort_perm _ _).symm)
  exact hp.eq_of_pairwise (le := (· ≤ ·)) (fun a b _ _ h1 h2 => Nat.le_antisymm h1 h2) (srt_pw f) (srt_pw g)
theorem fall_srt {f : List Nat} (hn : f.Nodup) : (f = (srt f).reverse) ↔ f.Pairwise (· > ·) := by
  constructor
  · intro h
    have h1 : f.Pairwise (· ≥ ·) := by
      rw [h, List.pairwise_reverse]
      exact srt_pw f
    exact (h1.and hn).imp fun ⟨a, b⟩ => by omega
  · intro h
    have h1 : f.reverse.Pairwise (· ≤ ·) := by
      rw [List.pairwise_reverse]
      exact h.imp fun h => by omega
    rw [srt_perm (List.reverse_perm f).symm, srt_of h1, List.reverse_reverse]
theorem eqDs_ch : ∀ f g : List Nat, eqDs (f.map ch) (g.map ch) = decide (f = g)
  | [], [] => by simp [eqDs]
  | [], g :: G => by simp [eqDs]
  | f :: F, [] => by simp [eqDs]
  | f :: F, g :: G => by
    rw [List.map_cons, List.map_cons, eqDs, eqDs_ch F G]
    simp only [eqD, List.cons.injEq]
    rw [Bool.decide_and]
    congr 1
    rw [Bool.eq_iff_iff]; simp
theorem plains_ch : ∀ f : List Nat, plains (f.map ch) = true
  | [] => rfl
  | c :: f => by rw [List.map_cons, plains, plains_ch f]; rfl
theorem deps_ch : ∀ f : List Nat, deps (f.map ch) = 0
  | [] => rfl
  | c :: f => by rw [List.map_cons, deps, deps_ch f]; rfl
theorem eq_ch (neg : Bool) (f g : List Nat) : fEq neg (.lst (f.map ch)) (.lst (g.map ch)) = .ok (.im (.bl (xor neg (decide (f = g))))) := by
  unfold fEq
  rw [if_pos (by rw [plain, plain, plains_ch, plains_ch]; simp [dep, deps_ch]), eqD, eqDs_ch]
/-- whether a pile falls, by its letters sorted -/
theorem sorted_rev {f : List Nat} (hl : f.length ≤ 1000) : fSortedA (.str f) = .ok (.fr (.lst ((srt f).map ch))) ∧ fRev (.lst ((srt f).map ch)) = .ok (.fr (.lst ((srt f).reverse.map ch))) := by
  constructor
  · rw [x_sortedA_s, if_pos (by omega)]
    show Out.ok (RV.fr (D.lst ((f.map ch).mergeSort leD))) = _
    rw [sort_ch]
  · unfold fRev; dsimp only; rw [List.map_reverse]

end L2.DI

namespace L2.DI
open PySem PySem.Spec PyProof.Rows
/-! ### the law's own list of all standings (jar) -/
theorem eq_nil_strs (l : List (List Nat)) : fEq false (.lst (l.map D.str)) (.lst []) = .ok (.im (.bl (decide (l = [])))) := by
  have hp : ∀ l : List (List Nat), plains (l.map D.str) = true ∧ deps (l.map D.str) = 0 := by
    intro l
    induction l with
    | nil => exact ⟨rfl, rfl⟩
    | cons f l ih => rw [List.map_cons, plains, deps, ih.1, ih.2]; exact ⟨rfl, rfl⟩
  unfold fEq
  rw [if_pos (by rw [plain, (hp l).1]; simp [plain, plains, dep, deps])]
  cases l with
  | nil => simp [eqD, eqDs]
  | cons F Fs => simp [eqD, eqDs]
theorem law_isst_wp {many piles height : Int} {rule : List Nat} (hr : rule = [102, 114, 101, 101] ∨ rule = [108, 105, 103, 104, 116]) {F : List (List Nat)} (h5 : ∀ f ∈ F, f.length ≤ 5 ∧ f.Nodup) (hl : F.length ≤ 10) :
    Wp (m_law_is_standing [tabD many piles height rule, stD F]) fun r => r = .im (.bl (F.all (fitB height rule))) := by
  have it : items (stD F) = .ok (F.map D.str) := rfl
  have i2 : fIx (tabD many piles height rule) (.int 2) = .ok (.im (.int height)) := rfl
  have i3 : fIx (tabD many piles height rule) (.int 3) = .ok (.im (.str rule)) := rfl
  simp [m_law_is_standing, sb_law_is_standing, it]
  refine lcs_wp D.str (fun f => !fitB height rule f) D.str F (lim_of (by omega)) (fun f hf => ?_) ?_
  · obtain ⟨l5, hnd⟩ := h5 f hf
    have hl2 : f.length ≤ 16777216 := by omega
    obtain ⟨q1, q2⟩ := sorted_rev (f := f) (by omega)
    have q3 : fListA (.str f) = .ok (.fr (.lst (f.map ch))) := by
      unfold fListA; dsimp only; rw [if_pos (lim_of (by omega))]
    have q4 := eq_ch true f (srt f).reverse
    have q5 : decide (f = (srt f).reverse) = fallB f := by
      rw [Bool.eq_iff_iff, decide_eq_true_eq, fall_srt hnd, fallB_iff]
    rw [q5] at q4
    by_cases hh : height < (f.length : Int)
    · have : fitB height rule f = false := by
        unfold fitB
        rw [decide_eq_false (by omega)]; rfl
      simp [hl2, i2, hh, this]
    · rcases hr with rfl | rfl
      · have : fitB height [102, 114, 101, 101] f = true := by
          unfold fitB
          rw [decide_eq_true (by omega), decide_eq_true (show ([102, 114, 101, 101] : List Nat) = FREE from rfl)]; rfl
        simp [hl2, i2, hh, i3, this]
      · have : fitB height [108, 105, 103, 104, 116] f = fallB f := by
          unfold fitB
          rw [decide_eq_true (by omega), decide_eq_false (show ¬ ([108, 105, 103, 104, 116] : List Nat) = FREE by decide)]; rfl
        simp [hl2, i2, hh, i3, this, -x_sortedA_s, -List.map_reverse, q1, q2, q3, q4]
  · have e := eq_nil_strs (F.filter fun f => !fitB height rule f)
    dsimp only
    simp [e]
    rw [Bool.eq_iff_iff, decide_eq_true_eq, List.all_eq_true]
theorem law_all_wp {many piles height : Int} {rule : List Nat} (h : TabP many piles height rule) : Wp (m_law_all [tabD many piles height rule]) fun r => ∃ Fs, AllS piles height rule many.toNat Fs ∧ r = .fr (.lst ((Fs.map stD).mergeSort leD)) := by
  obtain ⟨m1, m2, p1, p2, h1, h2, h3, hr⟩ := id h
  have hc : cut [97, 98, 99, 100, 101] none (some many) = BL.take many.toNat := cut_to _ _ (by omega)
  have hsp : small piles = true := small_mk (by omega) (by omega)
  have e0 : fMul (.tup [.str []]) (.int piles) = .ok (.im (stD (List.replicate piles.toNat []))) := by
    unfold fMul
    dsimp only
    rw [if_pos ⟨by simp, p1, by omega, by simp⟩]
    congr 3
    rw [List.map_replicate]
    congr 1
    induction piles.toNat with
    | zero => rfl
    | succ n ih => rw [List.replicate_succ, List.flatten_cons, ih, List.replicate_succ]; rfl
  have hlen : (BL.take many.toNat).length = many.toNat := by rw [List.length_take, show BL.length = 5 from rfl]; omega
  have hbig : (BL.take many.toNat).length ≤ 16777216 := by omega
  have i0 : fIx (tabD many piles height rule) (.int 0) = .ok (.im (.int many)) := rfl
  have i1 : fIx (tabD many piles height rule) (.int 1) = .ok (.im (.int piles)) := rfl
  simp [m_law_all, sb_law_all, e0, i0, i1, fSl, hc, -List.map_take, -List.length_take]
  refine loop_wp (fun j δ => ∃ Fs sv a2 a3 a4 a5, AllS piles 5 FREE j Fs ∧ (sv = .ow (.lst (Fs.map stD)) ∨ sv = .im (.lst (Fs.map stD))) ∧ δ = [.im (tabD many piles height rule), sv, a2, a3, a4, a5, .no]) ?_ ?_ ?_
  · exact ⟨[List.replicate piles.toNat []], _, _, _, _, _, AllS.zero (by omega) (by omega), .inl rfl, rfl⟩
  · rintro j x _ hx ⟨Fs, sv, a2, a3, a4, a5, hA, hsv, rfl⟩
    rw [List.getElem?_map] at hx
    obtain ⟨c, hcx, rfl⟩ := Option.map_eq_some_iff.1 hx
    have hjm : j < (BL.take many.toNat).length := (List.getElem?_eq_some_iff.1 hcx).1
    have hk : BL[j]? = some c := by
      rw [List.getElem?_take] at hcx
      split at hcx
      · exact hcx
      · cases hcx
    have hS := hA.step hk
    have hSl := AllS.len (k := j + 1) (by omega) p2 hS.nd fun F hF => (hS.mem F).1 hF
    simp only [x_gnm, wp_ok, List.set_cons_succ, List.set_cons_zero]
    have body : Wp (sFor (sIter (sVar 1)) (gNm 4)
    (sFor (sRange1 (sCons (sBin fIx (sVar 0) (sCst (.int 1))) sNil)) (gNm 5)
    (sSet 3 (sBin fAdd (sVar 3) (sLc (sRange1 (sCons (sBin fAdd (sCall (f1 fLen) (sCons (sBin fIx (sVar 4) (sVar 5)) sNil)) (sCst (.int 1))) sNil)) [6] (gNm 6) tTrue (sBin fAdd (sBin fAdd (sSl (sVar 4) oNo (oYes (sVar 5))) (sTup (fCons (sBin fAdd (sBin fAdd (sSl (sBin fIx (sVar 4) (sVar 5)) oNo (oYes (sVar 6))) (sVar 2)) (sSl (sBin fIx (sVar 4) (sVar 5)) (oYes (sVar 6)) oNo)) fNil))) (sSl (sVar 4) (oYes (sBin fAdd (sVar 5) (sCst (.int 1)))) oNo))))))
        [.im (tabD many piles height rule), sv, .im (.str [c]), .ow (.lst []), a4, a5, .no]) fun q => q.1 = .nx ∧ ∃ a4 a5, q.2 = [.im (tabD many piles height rule), .im (.lst (Fs.map stD)), .im (.str [c]), .ow (.lst ((Fs.flatMap (layL (fitB 5 FREE) c)).map stD)), a4, a5, .no] := by
      have it : Wp (sIter (sVar 1) [.im (tabD many piles height rule), sv, .im (.str [c]), .ow (.lst []), a4, a5, .no]) fun p => p = (Fs.map stD, [.im (tabD many piles height rule), .im (.lst (Fs.map stD)), .im (.str [c]), .ow (.lst []), a4, a5, .no]) := by
        rcases hsv with rfl | rfl <;> simp
      rw [x_for, wp_bind_eq]
      refine it.call ?_
      rintro _ rfl
      dsimp only
      refine loop_wp (fun i δ => ∃ a4 a5, δ = [.im (tabD many piles height rule), .im (.lst (Fs.map stD)), .im (.str [c]), .ow (.lst (((Fs.take i).flatMap (layL (fitB 5 FREE) c)).map stD)), a4, a5, .no]) ?_ ?_ ?_
      · exact ⟨a4, a5, by simp⟩
      · rintro i y _ hy ⟨a4, a5, rfl⟩
        rw [List.getElem?_map] at hy
        obtain ⟨F, hF, rfl⟩ := Option.map_eq_some_iff.1 hy
        have hFs := (hA.mem F).1 (List.mem_of_getElem? hF)
        have hFl := hFs.len
        have et : Fs.take (i + 1) = Fs.take i ++ [F] := by rw [List.take_add_one, hF]; rfl
        have hle : ((Fs.take (i + 1)).flatMap (layL (fitB 5 FREE) c)).length ≤ (Fs.flatMap (layL (fitB 5 FREE) c)).length := by
          conv => rhs; rw [← List.take_append_drop (i + 1) Fs, List.flatMap_append, List.length_append]
          exact Nat.le_add_right _ _
        rw [et, List.flatMap_append, List.length_append] at hle
        simp [hsp, i1]
        refine loop_wp (fun q δ => ∃ a5, δ = [.im (tabD many piles height rule), .im (.lst (Fs.map stD)), .im (.str [c]), .ow (.lst (((Fs.take i).flatMap (layL (fitB 5 FREE) c) ++ (F.zipIdx.take q).flatMap (layP (fitB 5 FREE) c F)).map stD)), .im (stD F), a5, .no]) ?_ ?_ ?_
        · exact ⟨_, by simp; rfl⟩
        · rintro q z _ hz ⟨a5, rfl⟩
          obtain ⟨hq, rfl⟩ := range_get hz
          have hqF : q < F.length := by omega
          obtain ⟨f, hf⟩ := getSome hqF
          have hfl : f.length ≤ 5 := by have := hFs.hgt f (List.mem_of_getElem? hf); omega
          have ix : fIx (stD F) (.int (q : Int)) = .ok (.im (.str f)) := by
            show (match atI (F.map D.str) (q : Int) with | some e => Out.ok (RV.im e) | none => .st) = _
            rw [atI_nat, List.getElem?_map, hf]; rfl
          have hl : f.length ≤ 16777216 := by omega
          have lp := lay_law hk hFs hf
          rw [if_pos rfl] at lp
          have e4 : F.zipIdx[q]? = some (f, q) := by rw [List.getElem?_zipIdx, hf]; simp
          have htk : F.zipIdx.take (q + 1) = F.zipIdx.take q ++ [(f, q)] := by rw [List.take_add_one, e4]; rfl
          have hle2 : ((F.zipIdx.take (q + 1)).flatMap (layP (fitB 5 FREE) c F)).length ≤ (layL (fitB 5 FREE) c F).length := by
            unfold layL
            conv => rhs; rw [← List.take_append_drop (q + 1) F.zipIdx, List.flatMap_append, List.length_append]
            exact Nat.le_add_right _ _
          rw [htk, List.flatMap_append, List.length_append] at hle2
          have hs1 : small ((f.length : Int) + 1) = true := small_mk (by omega) (by omega)
          simp [ix, hl, hs1, -List.map_map]
          refine lcs_wp (fun k : Nat => D.int ↑k) (fun _ => true) (fun k : Nat => stD (F.set q (lay1 f c k))) (List.range (f.length + 1)) (lim_of (by rw [List.length_range]; omega)) (fun a ha => ?_) ?_
          · have ha := List.mem_range.1 ha
            have c1 : cut f none (some (a : Int)) = f.take a := by rw [cut_to _ _ (by omega)]; simp
            have c2 := cut_from f a
            have l1 : (f.take a).length ≤ 5 := by rw [List.length_take]; omega
            have l2 : (f.drop a).length ≤ 5 := by rw [List.length_drop]; omega
            have a1 := x_cat (a := f.take a) (b := [c]) (by simp; omega)
            have a2 := x_cat (a := f.take a ++ [c]) (b := f.drop a) (by simp; omega)
            have e1 : f.take a ++ [c] ++ f.drop a = lay1 f c a := by simp [lay1]
            rw [e1] at a2
            have c3 : cut (F.map D.str) none (some (q : Int)) = (F.map D.str).take q := by rw [cut_to _ _ (by omega)]; simp
            have c4 : cut (F.map D.str) (some ((q : Int) + 1)) none = (F.map D.str).drop (q + 1) := cut_from (F.map D.str) (q + 1)
            have a3 := add_tup (a := (F.map D.str).take q) (b := [.str (lay1 f c a)]) (by simp; omega)
            have a4 := add_tup (a := (F.map D.str).take q ++ [.str (lay1 f c a)]) (b := (F.map D.str).drop (q + 1)) (by simp; omega)
            have e3 : (F.map D.str).take q ++ [D.str (lay1 f c a)] ++ (F.map D.str).drop (q + 1) = (F.set q (lay1 f c a)).map D.str := by
              rw [List.map_set, List.set_eq_take_append_cons_drop, if_pos (by simpa using hqF)]; simp
            rw [e3] at a4
            have sF : ∀ lo hi, fSl (stD F) lo hi = .ok (.im (.tup (cut (F.map D.str) lo hi))) := fun _ _ => rfl
            have sf : ∀ lo hi, fSl (.str f) lo hi = .ok (.im (.str (cut f lo hi))) := fun _ _ => if_pos hl
            simp only [stD]
            simp only [stD] at sF ix
            simp [ix, sF, sf, c1, c2, c3, c4, a1, a2, a3, a4]
          · rw [List.filter_eq_self.2 fun _ _ => rfl]
            have ad := x_add_l (a := ((Fs.take i).flatMap (layL (fitB 5 FREE) c) ++ (F.zipIdx.take q).flatMap (layP (fitB 5 FREE) c F)).map stD) (b := ((List.range (f.length + 1)).map fun a => F.set q (lay1 f c a)).map stD) (by
              rw [← lp]
              simp at hle hle2 hSl ⊢
              omega)
            rw [List.map_append] at ad
            have em : (List.range (f.length + 1)).map (fun k => stD (F.set q (lay1 f c k))) = ((List.range (f.length + 1)).map fun a => F.set q (lay1 f c a)).map stD := by rw [List.map_map]; rfl
            rw [em]
            dsimp only
            simp only [opdP_fr, x_look_bo, x_look_im, List.getElem?_cons_succ, List.getElem?_cons_zero, ok_bind, wp_bind_eq, wp_ok, ad]
            refine ⟨.im (.int (q : Int)), ?_⟩
            rw [htk, List.flatMap_append, show ([(f, q)] : List (List Nat × Nat)).flatMap (layP (fitB 5 FREE) c F) = layP (fitB 5 FREE) c F (f, q) by simp, lp]
            simp only [x_put_fr, List.set_cons_succ, List.set_cons_zero, List.map_append, List.append_assoc]
        · rintro δ ⟨a5, rfl⟩
          have hz : F.zipIdx.take piles.toNat = F.zipIdx := List.take_of_length_le (by rw [List.length_zipIdx]; omega)
          refine ⟨rfl, .im (stD F), a5, ?_⟩
          rw [et, List.flatMap_append]
          simp only [List.length_map, List.length_range, hz]
          simp [layL]
      · rintro δ ⟨a4, a5, rfl⟩
        rw [List.length_map, List.take_length]
        exact ⟨rfl, a4, a5, rfl⟩
    generalize hb : (sFor (sIter (sVar 1)) (gNm 4) _) = bd at body ⊢
    simp
    refine body.call ?_
    rintro ⟨_, _⟩ ⟨rfl, a4, a5, rfl⟩
    simp
    exact ⟨_, hS, rfl⟩
  · rintro δ ⟨Fs, sv, a2, a3, a4, a5, hA, hsv, rfl⟩
    rw [List.length_map, hlen] at hA
    have hSl := AllS.len (k := many.toNat) (by omega) p2 hA.nd fun F hF => (hA.mem F).1 hF
    have hnd : ∀ F ∈ Fs, (∀ f ∈ F, f.length ≤ 5 ∧ f.Nodup) ∧ F.length ≤ 10 := fun F hF => by
      have hFs := (hA.mem F).1 hF
      have h1 := hFs.len
      refine ⟨fun f hf => ⟨by have := hFs.hgt f hf; omega, ?_⟩, by omega⟩
      have : F.flatten.Nodup := hFs.perm.nodup_iff.2 ((show BL.Nodup by decide).sublist (List.take_sublist _ _))
      exact this.sublist (List.sublist_flatten_of_mem hf)
    have hH : AllS piles height rule many.toNat (Fs.filter fun F => F.all (fitB height rule)) := by
      refine ⟨hA.nd.filter _, fun F => ?_⟩
      rw [List.mem_filter, hA.mem F, List.all_eq_true]
      constructor
      · rintro ⟨q1, q2⟩
        exact ⟨q1.len, fun f hf => (fitB_iff.1 (q2 f hf)).1, q1.perm, fun hn f hf => (fitB_iff.1 (q2 f hf)).2 hn⟩
      · intro q
        exact ⟨⟨q.len, fun f hf => by have := q.hgt f hf; omega, q.perm, fun hn => absurd rfl hn⟩, fun f hf => fitB_iff.2 ⟨q.hgt f hf, fun hn => q.fall hn f hf⟩⟩
    have hso : fSorted (.lst ((Fs.filter fun F => F.all (fitB height rule)).map stD)) = .ok (.fr (.lst (((Fs.filter fun F => F.all (fitB height rule)).map stD).mergeSort leD))) := by
      unfold fSorted; dsimp only
      rw [if_pos (sortOk_std fun F hF e => by
        have := ((hH.mem F).1 hF).len
        rw [e] at this
        simp at this
        omega)]
    rcases hsv with rfl | rfl
    all_goals
      simp
      refine lcs_wp stD (fun F => F.all (fitB height rule)) stD Fs (by rw [x_LIM]; omega) (fun F hF => ?_) ?_
      · obtain ⟨_, e, rfl⟩ := (law_isst_wp (many := many) (piles := piles) (height := height) hr (hnd F hF).1 (hnd F hF).2).get
        simp [e]
      · simp [hso]
        exact ⟨_, hH, rfl⟩

end L2.DI

namespace L2.DI
open PySem PySem.Spec PyProof.Rows
/-! ### blocks that bar: those that lie, somewhere, on an earlier one -/
def barP (f : List Nat) (k : Nat) : Bool := (f.take k).any fun b => decide (b < f[k]?.getD 0)
def barL (f : List Nat) : List Nat := ((List.range f.length).filter (barP f)).map fun k => f[k]?.getD 0
def bars (F : List (List Nat)) : List Nat := srt (F.flatMap barL)
theorem barL_len (f : List Nat) : (barL f).length ≤ f.length := by
  unfold barL
  rw [List.length_map]
  have := List.length_filter_le (barP f) (List.range f.length)
  rw [List.length_range] at this
  exact this
theorem bars_len (F : List (List Nat)) : (F.flatMap barL).length ≤ F.flatten.length := by
  induction F with
  | nil => exact Nat.le_refl _
  | cons f F ih =>
    have := barL_len f
    rw [List.flatMap_cons, List.flatten_cons, List.length_append, List.length_append]; omega
theorem bars_perm {F G : List (List Nat)} (h : F.Perm G) : bars F = bars G := srt_perm (h.flatMap_right barL)
theorem barL_fall {f : List Nat} (h : f.Pairwise (· ≥ ·)) : barL f = [] := by
  unfold barL
  rw [List.map_eq_nil_iff, List.filter_eq_nil_iff]
  intro k hk
  have hk := List.mem_range.1 hk
  unfold barP
  rw [Bool.not_eq_true, List.any_eq_false]
  intro b hb
  obtain ⟨i, hi, rfl⟩ := List.mem_iff_getElem.1 hb
  rw [List.length_take] at hi
  rw [List.getElem_take, List.getElem?_eq_getElem hk]
  have := List.pairwise_iff_getElem.1 h i k (by omega) hk (by omega)
  simp only [Option.getD_some, decide_eq_true_eq]
  omega
theorem bars_fall {F : List (List Nat)} (h : ∀ f ∈ F, f.Pairwise (· ≥ ·)) : bars F = [] := by
  unfold bars
  have : F.flatMap barL = [] := List.flatMap_eq_nil_iff.2 fun f hf => barL_fall (h f hf)
  rw [this]; exact srt_of .nil
theorem sortOk_ch (f : List Nat) : sortOk (f.map ch) = true := by
  unfold sortOk
  simp only [Bool.and_eq_true, Bool.or_eq_true, decide_eq_true_eq]
  refine ⟨⟨⟨plains_ch f, by rw [deps_ch]; decide⟩, ?_⟩, .inr ?_⟩
  · refine List.all_eq_true.2 fun a ha => List.all_eq_true.2 fun b hb => ?_
    obtain ⟨x, _, rfl⟩ := List.mem_map.1 ha
    obtain ⟨y, _, rfl⟩ := List.mem_map.1 hb
    rfl
  · refine List.all_eq_true.2 fun a ha => ?_
    obtain ⟨x, _, rfl⟩ := List.mem_map.1 ha
    rfl
theorem sorted_ch (f : List Nat) : fSorted (.lst (f.map ch)) = .ok (.fr (.lst ((srt f).map ch))) := by
  show (if sortOk (f.map ch) = true then Out.ok (RV.fr (.lst ((f.map ch).mergeSort leD))) else .st) = _
  rw [if_pos (sortOk_ch f), sort_ch]
theorem srt_len (f : List Nat) : (srt f).length = f.length := List.length_mergeSort _
theorem strsD_ch : ∀ f : List Nat, strsD (f.map ch) = some (f.map fun c => [c])
  | [] => rfl
  | c :: f => by rw [List.map_cons, strsD, strsD_ch f]; rfl
theorem flat_ch : ∀ f : List Nat, (f.map fun c => [c]).flatten = f
  | [] => rfl
  | c :: f => by rw [List.map_cons, List.flatten_cons, flat_ch f]; rfl
theorem join_ch {f : List Nat} (h : f.length ≤ 1000) : fJoin (.str []) (.lst (f.map ch)) = .ok (.im (.str f)) := by
  simp only [fJoin, textsOf, strsD_ch, flat_len, jnL_flat, flat_ch]
  rw [if_pos (by simp only [List.length_nil, x_LIM]; omega)]
theorem does_bar_eq {f : List Nat} (hl : f.length ≤ 1000) {k : Nat} (hk : k < f.length) : m_does_bar [.str f, .int k] = .ok (.im (.bl (barP f k))) := by
  obtain ⟨_, e, rfl⟩ := (show Wp (m_does_bar [.str f, .int k]) fun r => r = .im (.bl (barP f k)) by
    have hc : cut f none (some ((k : Nat) : Int)) = f.take k := by rw [cut_to _ _ (by omega)]; rfl
    have hl2 : f.length ≤ 16777216 := by omega
    have e1 : fSl (.str f) none (some ((k : Nat) : Int)) = .ok (.im (.str (f.take k))) := by
      unfold fSl; dsimp only; rw [hc, if_pos (lim_of hl)]
    have e2 : items (.str (f.take k)) = .ok ((f.take k).map ch) := rfl
    have e3 : fIx (.str f) (.int k) = .ok (.im (.str [f[k]?.getD 0])) := by
      rw [x_ix_s, if_pos hl2, atI_nat, List.getElem?_eq_getElem hk]; rfl
    simp [m_does_bar, sb_does_bar, -List.map_take, e1, e2, e3]
    refine lcs_wp ch (fun b => decide (b < f[k]?.getD 0)) ch (f.take k) (lim_of (by rw [List.length_take]; omega)) (fun b hb => ?_) ?_
    · simp [x_lt_str1, e3]
    · have e4 := eq_ch true ((f.take k).filter fun b => decide (b < f[k]?.getD 0)) []
      rw [List.map_nil] at e4
      dsimp only
      simp [e4, barP]
      rw [Bool.eq_iff_iff]
      simp).get
  exact e
theorem barring_in_eq {F : List (List Nat)} (hF : F.flatten.length ≤ 5) (hp : F.length ≤ 10) : m_barring_in [stD F] = .ok (.im (.str (bars F))) := by
  have hb5 := bars_len F
  have h5 : ∀ f ∈ F, f.length ≤ 5 := fun f hf => Nat.le_trans (List.sublist_flatten_of_mem hf).length_le hF
  obtain ⟨_, e, rfl⟩ := (show Wp (m_barring_in [stD F]) fun r => r = .im (.str (bars F)) by
    have it : items (stD F) = .ok (F.map D.str) := rfl
    simp [m_barring_in, sb_barring_in, it]
    refine loop_wp (fun j δ => ∃ a2, δ = [.im (stD F), .ow (.lst (((F.take j).flatMap barL).map ch)), a2, .no, .no]) ⟨_, rfl⟩ ?_ ?_
    · rintro j x _ hx ⟨a2, rfl⟩
      rw [List.getElem?_map] at hx
      obtain ⟨f, hf, rfl⟩ := Option.map_eq_some_iff.1 hx
      have hj : j < F.length := (List.getElem?_eq_some_iff.1 hf).1
      have h5f := h5 f (List.mem_of_getElem? hf)
      have hlt : (F.take (j + 1)).flatMap barL = (F.take j).flatMap barL ++ barL f := by
        rw [List.take_add_one, hf, List.flatMap_append]; simp
      have hle : ((F.take (j + 1)).flatMap barL).length ≤ 5 := by
        refine Nat.le_trans (bars_len _) (Nat.le_trans ?_ hF)
        have : F.flatten = (F.take (j + 1)).flatten ++ (F.drop (j + 1)).flatten := by rw [← List.flatten_append, List.take_append_drop]
        rw [this, List.length_append]; omega
      have en : enD (f.map fun c => D.str [c]) = (List.range f.length).map fun k => D.tup [.int (k : Nat), ch (f[k]?.getD 0)] := by
        apply List.ext_getElem?
        intro i
        unfold enD
        rw [List.getElem?_map, List.getElem?_zipIdx, List.getElem?_map, List.getElem?_map]
        by_cases hi : i < f.length
        · rw [List.getElem?_eq_getElem hi, List.getElem?_range hi]; simp [hi]
        · rw [List.getElem?_eq_none (by omega), List.getElem?_eq_none (by rw [List.length_range]; omega)]; rfl
      simp [en]
      refine lcs_wp (fun k : Nat => D.tup [.int ↑k, ch (f[k]?.getD 0)]) (barP f) (fun k => ch (f[k]?.getD 0)) (List.range f.length) (lim_of (by rw [List.length_range]; omega)) (fun k hk => ?_) ?_
      · have hk := List.mem_range.1 hk
        have e1 := does_bar_eq (f := f) (by omega) hk
        simp [e1]
      · have e2 : ((List.range f.length).filter (barP f)).map (fun k => ch (f[k]?.getD 0)) = (barL f).map ch := by unfold barL; rw [List.map_map]; rfl
        rw [e2]
        have e3 : fExt (((F.take j).flatMap barL).map ch) (.lst ((barL f).map ch)) = some (.im .non, (((F.take (j + 1)).flatMap barL)).map ch) := by
          unfold fExt
          dsimp only
          rw [hlt] at hle ⊢
          rw [List.length_append] at hle
          rw [if_pos (lim_of (by rw [List.length_map, List.length_map]; omega)), List.map_append]
        simp [e3]
    · rintro δ ⟨a2, rfl⟩
      have e1 := sorted_ch (F.flatMap barL)
      have e2 := join_ch (f := srt (F.flatMap barL)) (by rw [srt_len]; omega)
      simp [List.take_of_length_le, e1, e2]
      rfl).get
  exact e

end L2.DI

namespace L2.DI
open PySem PySem.Spec PyProof.Rows
/-- a loop that may be left by a return -/
theorem loop_ret {g : SG} {b : SS} {Φ : Fl × DS → Prop} (I : Nat → DS → Prop) : ∀ (xs : List D) (k : Nat) (δ : DS), I k δ →
    (∀ (j : Nat) (x : D) (δ : DS), xs[j]? = some x → I (k + j) δ → Wp (g x δ) fun δ1 => Wp (b δ1) fun p => (p.1 = .nx ∧ I (k + j + 1) p.2) ∨ ((∃ r, p.1 = .rt r) ∧ Φ p)) →
    (∀ δ, I (k + xs.length) δ → Φ (.nx, δ)) → Wp (loop g b xs δ) Φ
  | [], k, δ, h, _, hk => by rw [loop]; exact hk δ h
  | x :: xs, k, δ, h, hs, hk => by
    have h1 := hs 0 x δ rfl h
    rw [loop]
    rw [← wp_bind_eq] at h1
    cases e1 : g x δ with
    | st => rw [e1] at h1; exact False.elim h1
    | ex _ _ => rw [e1] at h1; exact False.elim h1
    | ok δ1 =>
      rw [e1, ok_bind] at h1
      rw [ok_bind]
      cases e2 : b δ1 with
      | st => rw [e2] at h1; exact False.elim h1
      | ex _ _ => rw [e2] at h1; exact False.elim h1
      | ok p =>
        obtain ⟨f, δ2⟩ := p
        rw [e2] at h1
        rcases h1 with ⟨h2, h3⟩ | ⟨⟨r, h2⟩, h3⟩
        · dsimp only at h2 h3
          subst h2
          rw [ok_bind]
          exact loop_ret I xs (k + 1) δ2 h3 (fun j y δ' hy hI => by
            have := hs (j + 1) y δ' (by simpa using hy) (by rw [show k + (j + 1) = k + 1 + j from by omega]; exact hI)
            rw [show k + (j + 1) + 1 = k + 1 + j + 1 from by omega] at this
            exact this) fun δ h => hk δ (by rw [show k + (x :: xs).length = k + 1 + xs.length from by simp; omega]; exact h)
        · dsimp only at h2
          subst h2
          rw [ok_bind]
          exact h3

end L2.DI

namespace L2.DI
open PySem PySem.Spec PyProof.Rows
/-! ### the law's own blocks that bar -/
theorem min_any {l : List Nat} {c d : Nat} : decide ((l.foldl min c) < d) = (c :: l).any fun b => decide (b < d) := by
  obtain ⟨h1, h2⟩ := fold_min l c
  rw [Bool.eq_iff_iff, List.any_eq_true, decide_eq_true_eq]
  constructor
  · intro h
    exact ⟨_, h1, by simpa using h⟩
  · rintro ⟨b, hb, h⟩
    have := h2 b hb
    have h := of_decide_eq_true h
    omega
theorem law_bars_eq {F : List (List Nat)} (hF : F.flatten.length ≤ 5) (hp : F.length ≤ 10) : m_law_bars [stD F] = .ok (.im (.str (bars F))) := by
  have hb5 := bars_len F
  have h5 : ∀ f ∈ F, f.length ≤ 5 := fun f hf => Nat.le_trans (List.sublist_flatten_of_mem hf).length_le hF
  obtain ⟨_, e, rfl⟩ := (show Wp (m_law_bars [stD F]) fun r => r = .im (.str (bars F)) by
    have it : items (stD F) = .ok (F.map D.str) := rfl
    simp [m_law_bars, sb_law_bars, it]
    refine loop_wp (fun j δ => ∃ a2, δ = [.im (stD F), .ow (.lst (((F.take j).flatMap barL).map ch)), a2, .no]) ⟨_, rfl⟩ ?_ ?_
    · rintro j x _ hx ⟨a2, rfl⟩
      rw [List.getElem?_map] at hx
      obtain ⟨f, hf, rfl⟩ := Option.map_eq_some_iff.1 hx
      have hj : j < F.length := (List.getElem?_eq_some_iff.1 hf).1
      have h5f := h5 f (List.mem_of_getElem? hf)
      have hlt : (F.take (j + 1)).flatMap barL = (F.take j).flatMap barL ++ barL f := by
        rw [List.take_add_one, hf, List.flatMap_append]; simp
      have hle : ((F.take (j + 1)).flatMap barL).length ≤ 5 := by
        refine Nat.le_trans (bars_len _) (Nat.le_trans ?_ hF)
        have : F.flatten = (F.take (j + 1)).flatten ++ (F.drop (j + 1)).flatten := by rw [← List.flatten_append, List.take_append_drop]
        rw [this, List.length_append]; omega
      have hs : small (f.length : Int) = true := small_nat (by omega)
      have hl2 : f.length ≤ 16777216 := by omega
      simp [hs, hl2]
      refine lcs_wp (fun k : Nat => D.int ↑k) (barP f) (fun k => ch (f[k]?.getD 0)) (List.range f.length) (lim_of (by rw [List.length_range]; omega)) (fun k hk => ?_) ?_
      · have hk := List.mem_range.1 hk
        have e1 : fSl (.str f) none (some ((k : Nat) : Int)) = .ok (.im (.str (f.take k))) := by
          unfold fSl; dsimp only
          rw [cut_to _ _ (by omega), if_pos (lim_of (by omega))]; rfl
        have e3 : atI f (k : Int) = some (f[k]?.getD 0) := by
          rw [atI_nat, List.getElem?_eq_getElem hk]; rfl
        unfold barP
        cases hc : f.take k with
        | nil => rw [hc] at e1; simp [e1]
        | cons c l =>
          rw [hc] at e1
          have e4 : fMinT (.str (c :: l)) = .ok (.im (.str [l.foldl min c])) := rfl
          rw [← min_any]
          simp [e1, e4, hl2, e3, x_lt_str1]
      · have e2 : ((List.range f.length).filter (barP f)).map (fun k => ch (f[k]?.getD 0)) = (barL f).map ch := by unfold barL; rw [List.map_map]; rfl
        rw [e2]
        have e3 : fAdd (.lst (((F.take j).flatMap barL).map ch)) (.lst ((barL f).map ch)) = .ok (.fr (.lst (((F.take (j + 1)).flatMap barL).map ch))) := by
          unfold fAdd
          dsimp only
          rw [hlt] at hle ⊢
          rw [List.length_append] at hle
          rw [if_pos (lim_of (by rw [List.length_map, List.length_map]; omega)), List.map_append]
        simp [e3]
    · rintro δ ⟨a2, rfl⟩
      have e1 := sorted_ch (F.flatMap barL)
      have e2 := join_ch (f := srt (F.flatMap barL)) (by rw [srt_len]; omega)
      simp [List.take_of_length_le, e1, e2]
      rfl).get
  exact e

end L2.DI

namespace L2.DI
open PySem PySem.Spec PyProof.Rows
/-! ### what is a tuple of two to four strings that has each of its letters, the first so many, once -/
def strB : D → Bool
  | .str _ => true
  | _ => false
theorem is_pile_eq {x y : D} (h : fIsi (.b "str") x = .ok (.im (.bl (strB x)))) : m_is_pile [y, x] = .ok (.im (.bl (strB x))) := by
  simp [m_is_pile, sb_is_pile, x_semD, h]
theorem wrong_wp {xs : List D} (h2 : 2 ≤ xs.length) (hl : xs.length ≤ 1000) (hs : ∀ x ∈ xs, fIsi (.b "str") x = .ok (.im (.bl (strB x)))) :
    Wp (m_wrong_in [.tup xs, .int 2, .int 4, .fnc 0]) fun r => (r = .fr (.lst []) ∧ xs.length ≤ 4 ∧ ∀ x ∈ xs, strB x = true) ∨ (∃ i, r = .fr (.lst [.int i])) ∧ ¬ (xs.length ≤ 4 ∧ ∀ x ∈ xs, strB x = true) := by
  have h2' : ¬ (xs.length : Int) < 2 := by omega
  simp [m_wrong_in, sb_wrong_in, h2']
  refine loop_ret (fun j δ => (∀ i x, i < j → xs[i]? = some x → i < 4 ∧ strB x = true) ∧ ∃ a b, δ = [.im (.tup xs), .im (.int 2), .im (.int 4), .im (.fnc 0), a, b]) _ 0 _ ⟨fun i x h => absurd h (Nat.not_lt_zero _), _, _, rfl⟩ ?_ ?_
  · rintro j x _ hx ⟨hI, a, b, rfl⟩
    rw [Nat.zero_add] at hI
    obtain ⟨y, hy, rfl⟩ := enD_get hx
    have hj : j < xs.length := (List.getElem?_eq_some_iff.1 hy).1
    have e1 : fSl (.tup xs) none (some ((j : Nat) : Int)) = .ok (.im (.tup (xs.take j))) := by
      unfold fSl; dsimp only
      rw [cut_to _ _ (by omega)]; rfl
    have e2 := is_pile_eq (y := .tup (xs.take j)) (hs y (List.mem_of_getElem? hy))
    by_cases h4 : (j : Int) = 4
    · simp [h4]
      exact fun hle => absurd hle (by omega)
    · by_cases hb : strB y = true
      · simp [h4, e1, e2, hb]
        intro i z hi hz
        rcases Nat.lt_or_ge i j with hlt | hge
        · exact hI i z hlt hz
        · have : i = j := by omega
          subst this
          rw [hy] at hz
          cases hz
          refine ⟨?_, hb⟩
          rcases Nat.lt_or_ge i 4 with q | q
          · exact q
          · rcases Nat.lt_or_ge 4 i with q2 | q2
            · have := (hI 4 _ q2 (List.getElem?_eq_getElem (by omega))).1
              omega
            · exact absurd (show (i : Int) = 4 by omega) h4
      · have hb : strB y = false := by simpa using hb
        simp [h4, e1, e2, hb]
        exact fun _ => ⟨y, List.mem_of_getElem? hy, hb⟩
  · rintro δ ⟨hI, a, b, rfl⟩
    rw [Nat.zero_add] at hI
    have hen : (enD xs).length = xs.length := enD_len _
    rw [hen] at hI
    simp
    refine ⟨?_, fun x hx => ?_⟩
    · rcases Nat.lt_or_ge 4 xs.length with q | q
      · have := (hI 4 _ q (List.getElem?_eq_getElem q)).1
        omega
      · exact q
    · obtain ⟨i, hi, rfl⟩ := List.mem_iff_getElem.1 hx
      exact (hI i _ hi (List.getElem?_eq_getElem hi)).2
theorem eq_nil1 (i : Int) : fEq false (.lst [.int i]) (.lst []) = .ok (.im (.bl false)) := by
  unfold fEq
  rw [if_pos (by simp [plain, plains, dep, deps])]
  simp [eqD, eqDs]
theorem eq_nil2 : fEq false (.lst [.non]) (.lst []) = .ok (.im (.bl false)) := by
  unfold fEq
  rw [if_pos (by simp [plain, plains, dep, deps])]
  simp [eqD, eqDs]
theorem eq_nil0 : fEq false (.lst []) (.lst []) = .ok (.im (.bl true)) := by
  unfold fEq
  rw [if_pos (by simp [plain, plains, dep, deps])]
  simp [eqD, eqDs]
theorem all_tup {xs : List D} (h2 : 2 ≤ xs.length) (hl : xs.length ≤ 1000) (hs : ∀ x ∈ xs, fIsi (.b "str") x = .ok (.im (.bl (strB x)))) :
    m_are_all [.tup xs, .int 2, .int 4, .fnc 0] = .ok (.im (.bl (decide (xs.length ≤ 4 ∧ ∀ x ∈ xs, strB x = true)))) := by
  obtain ⟨_, e, h⟩ := (wrong_wp h2 hl hs).get
  rcases h with ⟨rfl, h⟩ | ⟨⟨i, rfl⟩, h⟩
  · rw [decide_eq_true h]
    simp [m_are_all, sb_are_all, x_semD, e, eq_nil0]
  · rw [decide_eq_false h]
    simp [m_are_all, sb_are_all, x_semD, e, eq_nil1]
theorem all_odd {x : D} (h : fIsi (.b "tuple") x = .ok (.im (.bl false))) : m_are_all [x, .int 2, .int 4, .fnc 0] = .ok (.im (.bl false)) := by
  have e : m_wrong_in [x, .int 2, .int 4, .fnc 0] = .ok (.fr (.lst [.non])) := by
    simp [m_wrong_in, sb_wrong_in, x_semD, h]
  simp [m_are_all, sb_are_all, x_semD, e, eq_nil2]
theorem all_short {xs : List D} (h : xs.length < 2) : m_are_all [.tup xs, .int 2, .int 4, .fnc 0] = .ok (.im (.bl false)) := by
  have h2 : (xs.length : Int) < 2 := by omega
  have e : m_wrong_in [.tup xs, .int 2, .int 4, .fnc 0] = .ok (.fr (.lst [.non])) := by
    simp [m_wrong_in, sb_wrong_in, x_semD, h2]
  simp [m_are_all, sb_are_all, x_semD, e, eq_nil2]
def NoAB (x : D) : Prop := m_are_all_blocks [x] = .ok (.im (.bl false))
theorem noab_odd {x : D} (h : fIsi (.b "tuple") x = .ok (.im (.bl false))) : NoAB x := by
  have e := all_odd h
  simp [NoAB, m_are_all_blocks, sb_are_all_blocks, x_semD, e, c_LEAST_PILES, c_MOST_PILES]
theorem noab_short {xs : List D} (h : xs.length < 2) : NoAB (.tup xs) := by
  have e := all_short h
  simp [NoAB, m_are_all_blocks, sb_are_all_blocks, x_semD, e, c_LEAST_PILES, c_MOST_PILES]
theorem noab_elem {xs : List D} (hl : xs.length ≤ 1000) (hs : ∀ x ∈ xs, fIsi (.b "str") x = .ok (.im (.bl (strB x)))) (h : ¬ (xs.length ≤ 4 ∧ ∀ x ∈ xs, strB x = true)) : NoAB (.tup xs) := by
  by_cases h2 : 2 ≤ xs.length
  · have e := all_tup h2 hl hs
    rw [decide_eq_false h] at e
    simp [NoAB, m_are_all_blocks, sb_are_all_blocks, x_semD, e, c_LEAST_PILES, c_MOST_PILES]
  · exact noab_short (by omega)
theorem ab_strs {F : List (List Nat)} (h2 : 2 ≤ F.length) (h4 : F.length ≤ 4) (hl : F.flatten.length ≤ 100) :
    m_are_all_blocks [.tup (F.map D.str)] = .ok (.im (.bl (decide (1 ≤ F.flatten.length ∧ F.flatten.length ≤ 5 ∧ srt F.flatten = BL.take F.flatten.length)))) := by
  have e := all_tup (xs := F.map D.str) (by simpa using h2) (by simp; omega) (fun x hx => by
    obtain ⟨f, _, rfl⟩ := List.mem_map.1 hx
    rfl)
  rw [decide_eq_true ⟨by simpa using h4, fun x hx => by
    obtain ⟨f, _, rfl⟩ := List.mem_map.1 hx
    rfl⟩] at e
  have hj : fJoin (.str []) (.tup (F.map D.str)) = .ok (.im (.str F.flatten)) := by
    simp only [fJoin, textsOf, strsD_map, flat_len, jnL_flat]
    rw [if_pos (by simp only [List.length_nil, x_LIM]; omega)]
  generalize hft : F.flatten = t at *
  have hla : fListA (.str t) = .ok (.fr (.lst (t.map ch))) := by
    unfold fListA; dsimp only; rw [if_pos (lim_of (by omega))]
  have hso := sorted_ch t
  have hj2 := join_ch (f := srt t) (by rw [srt_len]; omega)
  have hsl := srt_len t
  have hl2 : t.length ≤ 16777216 := by omega
  have hsb : fSl (.str [97, 98, 99, 100, 101]) none (some (t.length : Int)) = .ok (.im (.str (BL.take t.length))) := by
    unfold fSl; dsimp only
    rw [cut_to _ _ (by omega), if_pos (lim_of (by decide))]; rfl
  have hbt := between_int (t.length : Int) 1 5
  simp [m_are_all_blocks, sb_are_all_blocks, x_semD, e, c_LEAST_PILES, c_MOST_PILES, c_MOST_BLOCKS, c_BLOCKS, hj, hla, hso, hj2, hsl, hl2, hsb, hbt]
  by_cases q1 : 1 ≤ t.length
  · by_cases q2 : t.length ≤ 5
    · have q1' : (1 : Int) ≤ t.length := by omega
      have q2' : (t.length : Int) ≤ 5 := by omega
      simp [q1', q2', q1, q2, hl2, hsl, hsb]
      rw [Bool.eq_iff_iff]; simp
    · have q2' : ¬ (t.length : Int) ≤ 5 := by omega
      simp [q2', q2]
  · have q1' : ¬ (1 : Int) ≤ t.length := by omega
    simp [q1', q1]
theorem ab_ok {F : List (List Nat)} {n : Nat} (h2 : 2 ≤ F.length) (h4 : F.length ≤ 4) (h1 : 1 ≤ n) (h5 : n ≤ 5) (hp : F.flatten.Perm (BL.take n)) : m_are_all_blocks [stD F] = .ok (.im (.bl true)) := by
  have hl : F.flatten.length = n := by rw [hp.length_eq, List.length_take, show BL.length = 5 from rfl]; omega
  have := ab_strs h2 h4 (by omega)
  rw [decide_eq_true ⟨by omega, by omega, by
    rw [hl, srt_perm hp]
    exact srt_of ((show BL.Pairwise (· ≤ ·) by decide).sublist (List.take_sublist _ _))⟩] at this
  exact this
theorem noab_strs {F : List (List Nat)} (hl : F.flatten.length ≤ 100) (hF : F.length ≤ 1000) (h : ¬ (1 ≤ F.flatten.length ∧ F.flatten.length ≤ 5 ∧ srt F.flatten = BL.take F.flatten.length)) : NoAB (.tup (F.map D.str)) := by
  by_cases h2 : 2 ≤ F.length
  · by_cases h4 : F.length ≤ 4
    · have := ab_strs h2 h4 hl
      rw [decide_eq_false h] at this
      exact this
    · exact noab_elem (by simpa using hF) (fun x hx => by
        obtain ⟨f, _, rfl⟩ := List.mem_map.1 hx
        rfl) fun h => h4 (by simpa using h.1)
  · exact noab_short (by simp; omega)

end L2.DI

namespace L2.DI
open PySem PySem.Spec PyProof.Rows
/-- plain data of these kinds; the empty dict -/
inductive Pl : Nat → D → Prop
  | non (n : Nat) : Pl n .non
  | bl (n : Nat) (b : Bool) : Pl n (.bl b)
  | int (n : Nat) (i : Int) : Pl n (.int i)
  | str (n : Nat) (l : List Nat) : Pl n (.str l)
  | emp (n : Nat) : Pl n (.dK [])
  | lst (n : Nat) (ds : List D) (hl : ds.length ≤ 16000000) (h : ∀ d ∈ ds, Pl n d) : Pl (n + 1) (.lst ds)
  | tup (n : Nat) (ds : List D) (hl : ds.length ≤ 16000000) (h : ∀ d ∈ ds, Pl n d) : Pl (n + 1) (.tup ds)
theorem eqE_bl (a b : Bool) : fEqE (.bl a) (.bl b) = .ok (.im (.bl (a == b))) := by simp [fEqE, fEq, plain, dep, eqD]
theorem eqE_int (a b : Int) : fEqE (.int a) (.int b) = .ok (.im (.bl (a == b))) := by simp [fEqE, fEq, plain, dep, eqD]
theorem eqE_str (a b : List Nat) : fEqE (.str a) (.str b) = .ok (.im (.bl (a == b))) := by simp [fEqE, fEq, plain, dep, eqD]
theorem eqE_emp : fEqE (.dK []) (.dK []) = .ok (.im (.bl true)) := rfl
theorem is_non_non : fIs false .non .non = .ok (.im (.bl true)) := rfl
theorem is_bl_non (b : Bool) : fIs false (.bl b) .non = .ok (.im (.bl false)) := rfl
theorem is_int_non (b : Int) : fIs false (.int b) .non = .ok (.im (.bl false)) := rfl
theorem is_str_non (b : List Nat) : fIs false (.str b) .non = .ok (.im (.bl false)) := rfl
theorem is_dK_non (b : List (Key × D)) : fIs false (.dK b) .non = .ok (.im (.bl false)) := rfl
theorem Pl.succ {n : Nat} {d : D} (h : Pl n d) : Pl (n + 1) d := by
  induction h with
  | non n => exact .non _
  | bl n b => exact .bl _ _
  | int n i => exact .int _ _
  | str n l => exact .str _ _
  | emp n => exact .emp _
  | lst n ds hl h ih => exact .lst _ _ hl ih
  | tup n ds hl h ih => exact .tup _ _ hl ih
theorem Pl.up {n m : Nat} {d : D} (h : Pl n d) (hm : n ≤ m) : Pl m d := by
  obtain ⟨k, rfl⟩ := Nat.exists_eq_add_of_le hm
  induction k with
  | zero => exact h
  | succ k ih => exact (ih (by omega)).succ
theorem same_sc (rec_ : List D → Out RV) {n : Nat} {d : D} (h : Pl n d) (ht : ∀ ds, d ≠ .tup ds) (ht' : ∀ ds, d ≠ .lst ds) : Wp (semD (sb_law_same rec_) 2 [d, d]) fun r => r = .im (.bl true) := by
  cases h with
  | non => simp [sb_law_same, is_non_non]
  | bl b => simp [sb_law_same, is_bl_non, eqE_bl]
  | int i => simp [sb_law_same, is_int_non, eqE_int]
  | str l => simp [sb_law_same, is_str_non, eqE_str]
  | emp => simp [sb_law_same, is_dK_non, eqE_emp]
  | lst => exact absurd rfl (ht' _)
  | tup => exact absurd rfl (ht _)
theorem same_tup (rec_ : List D → Out RV) {ds : List D} (hl : ds.length ≤ 16000000) (h : ∀ d ∈ ds, Wp (rec_ [d, d]) fun r => r = .im (.bl true)) : Wp (semD (sb_law_same rec_) 2 [.tup ds, .tup ds]) fun r => r = .im (.bl true) := by
  have hs : small (ds.length : Int) = true := small_mk (by omega) (by omega)
  simp [sb_law_same, hs, eqE_int]
  refine lcs_wp (fun k : Nat => D.int ↑k) (fun _ => true) (fun k : Nat => .bl true) (List.range ds.length) (by rw [x_LIM, List.length_range]; omega) (fun k hk => ?_) ?_
  · have hk := List.mem_range.1 hk
    obtain ⟨_, e, rfl⟩ := (h _ (List.getElem_mem hk)).get
    have e3 : ds[k]? = some ds[k] := List.getElem?_eq_getElem hk
    simp [atI_nat, e3, e]
  · simp [fAll, bools_map (fun _ : Nat => true)]
theorem same_lst (rec_ : List D → Out RV) {ds : List D} (hl : ds.length ≤ 16000000) (h : ∀ d ∈ ds, Wp (rec_ [d, d]) fun r => r = .im (.bl true)) : Wp (semD (sb_law_same rec_) 2 [.lst ds, .lst ds]) fun r => r = .im (.bl true) := by
  have hs : small (ds.length : Int) = true := small_mk (by omega) (by omega)
  simp [sb_law_same, hs, eqE_int]
  refine lcs_wp (fun k : Nat => D.int ↑k) (fun _ => true) (fun k : Nat => .bl true) (List.range ds.length) (by rw [x_LIM, List.length_range]; omega) (fun k hk => ?_) ?_
  · have hk := List.mem_range.1 hk
    obtain ⟨_, e, rfl⟩ := (h _ (List.getElem_mem hk)).get
    have e3 : ds[k]? = some ds[k] := List.getElem?_eq_getElem hk
    simp [atI_nat, e3, e]
  · simp [fAll, bools_map (fun _ : Nat => true)]
theorem same_wp (n : Nat) : ∀ d : D, Pl n d → Wp (m_law_same (n + 1) [d, d]) fun r => r = .im (.bl true) := by
  induction n with
  | zero =>
    intro d h
    exact same_sc _ h (fun ds e => by subst e; cases h) fun ds e => by subst e; cases h
  | succ n ih =>
    intro d h
    cases h with
    | tup _ ds hl h => exact same_tup _ hl fun d hd => ih d (h d hd)
    | lst _ ds hl h => exact same_lst _ hl fun d hd => ih d (h d hd)
    | non => exact same_sc _ (.non n) (fun ds e => by cases e) fun ds e => by cases e
    | bl _ b => exact same_sc _ (.bl n b) (fun ds e => by cases e) fun ds e => by cases e
    | int _ b => exact same_sc _ (.int n b) (fun ds e => by cases e) fun ds e => by cases e
    | str _ b => exact same_sc _ (.str n b) (fun ds e => by cases e) fun ds e => by cases e
    | emp => exact same_sc _ (.emp n) (fun ds e => by cases e) fun ds e => by cases e

end L2.DI

namespace L2.DI
open PySem PySem.Spec PyProof.Rows
theorem pl_list {n : Nat} {ds : List D} (hl : ds.length ≤ 1000) (h : ∀ d ∈ ds, Pl n d) : Pl (n + 1) (.lst ds) := .lst _ _ (by omega) h
theorem pl_wd {w : List Nat} {n : Nat} {x : D} (h : Pl n x) : Pl (n + 1) (.tup [.str w, x]) := .tup _ _ (by simp) fun d hd => by
  simp at hd
  rcases hd with rfl | rfl
  · exact .str _ _
  · exact h
/-- the told values are just the due ones -/
theorem same_list {ds : List D} (hl : ds.length ≤ 1000) (h : ∀ d ∈ ds, Pl 3 d) : m_law_same 8 [.lst ds, .lst ds] = .ok (.im (.bl true)) := by
  obtain ⟨_, e, rfl⟩ := (same_wp 7 (.lst ds) ((pl_list hl h).up (by omega))).get
  exact e

end L2.DI

namespace L2.DI
open PySem PySem.Spec PyProof.Rows
theorem bowl_wp (ns : List Int) (lap : Nat) (hl : lap ≤ 10) : Wp (m_law_jar [.kls (ns.map .int), .int lap]) fun r => ∃ d, r = .fr d ∧ IsB d := by
  have h1 : smallM 9041 lap = true := smallM_mk (by omega)
  simp [m_law_jar, sb_law_jar, fMul, h1, fSl]
  refine loop_wp (fun j δ => ∃ s t, δ = [.im (.kls (ns.map .int)), .im (.int lap), .im (.int s), t, .no]) ?_ ?_ ?_
  · exact ⟨_, _, rfl⟩
  · rintro j x _ hx ⟨s, t, rfl⟩
    have hm := List.mem_of_getElem? hx
    rw [cut_to _ _ (by omega), ← List.map_take] at hm
    obtain ⟨i, _, rfl⟩ := List.mem_map.1 hm
    have g1 : ∀ x : Int, smallM x 42703 = true := fun x => smallM_mk (by omega)
    have g2 : ∀ x : Int, smallM x 13 = true := fun x => smallM_mk (by omega)
    simp [fMul, g1, g2, fMod, fI]
  · rintro δ ⟨s, t, rfl⟩
    have g1 : ∀ x : Int, smallM x 71 = true := fun x => smallM_mk (by omega)
    have g2 : ∀ x : Int, smallM x 23011 = true := fun x => smallM_mk (by omega)
    have fin : ∀ own : Int, Wp (sSeq
            (sSet 2
              (sBin fMod
                (sCall (f1 fInt)
                  (sCons
                    (sBin fAdd
                      (sBin fAdd (sBin fMul (sVar 2) (sCst (D.int 71)))
                        (sBin fMul (sBin fMod (sVar 4) (sCst (D.int 2147483179))) (sCst (D.int 23011))))
                      (sCst (D.int 17)))
                    sNil))
                (sCst (D.int 2147483587))))
            (sRet
              (sLst
                (fCons
                  (sIf
                    (tOo (tVal (sBin fLt (sVar 4) (sCst (D.int 0))))
                      (tVal (sBin fGe (sVar 4) (sBin fPow (sCst (D.int 10)) (sCst (D.int 16))))))
                    (sCall (f1 fAbs) (sCons (sVar 4) sNil)) (sCst (D.int 0)))
                  (fCons (sVar 2) (fCons (sCst (D.int 0)) fNil))))) [.im (.kls (ns.map .int)), .im (.int lap), .im (.int s), t, .im (.int own)]) fun q => Wp (outP q) fun p => ∃ d, p.fst = RV.fr d ∧ IsB d := by
      intro own
      have hp : fPow (.int 10) (.int 16) = .ok (.im (.int 10000000000000000)) := by simp [fPow, fI]
      by_cases h1 : own < 0
      · simp [fMul, g1, g2, fMod, fI, h1, hp, fAbs]
        exact ⟨_, _, _, rfl⟩
      · by_cases h2 : 10000000000000000 ≤ own
        · simp [fMul, g1, g2, fMod, fI, h1, h2, hp, fAbs]
          exact ⟨_, _, _, rfl⟩
        · simp [fMul, g1, g2, fMod, fI, h1, h2, hp, fAbs]
          exact ⟨_, _, _, rfl⟩
    by_cases hlt : lap < ns.length
    · have e : atI (ns.map D.int) (lap : Int) = some (.int ns[lap]) := by rw [atI_nat]; simp [hlt]
      have := fin ns[lap]
      simp [hlt, e, -x_seq]
      rw [x_seq]
      simp [hlt, e, -x_seq]
      exact this
    · have := fin 0
      rw [x_seq]
      simp [hlt, -x_seq]
      exact this

end L2.DI

namespace L2.DI
open PySem PySem.Spec PyProof.Rows
theorem noab_perm {F : List (List Nat)} (hl : F.flatten.length ≤ 100) (hF : F.length ≤ 1000) (h : F.flatten.length ≤ 5 → ¬ F.flatten.Perm (BL.take F.flatten.length)) : NoAB (.tup (F.map D.str)) :=
  noab_strs hl hF fun ⟨_, h5, e⟩ => h h5 (e ▸ (List.mergeSort_perm _ _).symm)

end L2.DI

namespace L2.DI
open PySem PySem.Spec PyProof.Rows
section
variable {many piles height : Int} {rule : List Nat} {F : List (List Nat)}
theorem flat5 (h : TabP many piles height rule) (hF : Std many piles height rule F) : F.flatten.length = many.toNat := by
  have m2 := h.m2
  rw [hF.perm.length_eq, List.length_take, show BL.length = 5 from rfl]; omega
theorem std_ab (h : TabP many piles height rule) (hF : Std many piles height rule F) : m_are_all_blocks [stD F] = .ok (.im (.bl true)) := by
  have m1 := h.m1
  have m2 := h.m2
  have p1 := h.p1
  have p2 := h.p2
  have hl := hF.len
  exact ab_ok (by omega) (by omega) (by omega) (by omega) hF.perm
end

end L2.DI

namespace L2.DI
open PySem PySem.Spec PyProof.Rows
/-! there is a standing -/
def fillS (m p h : Nat) : List (List Nat) := (List.range p).map fun i => (((BL.take m).drop (i * h)).take h).reverse
def fillB (m p h : Nat) : Bool := ((fillS m p h).length == p) && ((fillS m p h).all fun f => decide (f.length ≤ h) && fallB f) && (fillS m p h).flatten.isPerm (BL.take m)
theorem fill_all : ((List.range 6).all fun m => (List.range 5).all fun p => (List.range 6).all fun h => !decide (m ≤ p * h) || fillB m p h) = true := by decide +kernel
theorem fill_ok (m : Nat) (hm : m < 6) (p : Nat) (hp : p < 5) (h : Nat) (hh : h < 6) (hle : m ≤ p * h) : (fillS m p h).length = p ∧ (∀ f ∈ fillS m p h, f.length ≤ h ∧ f.Pairwise (· > ·)) ∧ (fillS m p h).flatten.Perm (BL.take m) := by
  have := List.all_eq_true.1 (List.all_eq_true.1 (List.all_eq_true.1 fill_all m (List.mem_range.2 hm)) p (List.mem_range.2 hp)) h (List.mem_range.2 hh)
  rw [Bool.or_eq_true, Bool.not_eq_true', decide_eq_false_iff_not] at this
  rcases this with q | q
  · exact absurd hle q
  · unfold fillB at q
    rw [Bool.and_eq_true, Bool.and_eq_true, beq_iff_eq, List.all_eq_true] at q
    refine ⟨q.1.1, fun f hf => ?_, List.isPerm_iff.1 q.2⟩
    have := q.1.2 f hf
    rw [Bool.and_eq_true, decide_eq_true_eq, fallB_iff] at this
    exact this
theorem std_ex {many piles height : Int} {rule : List Nat} (h : TabP many piles height rule) : ∃ F, Std many piles height rule F := by
  obtain ⟨m1, m2, p1, p2, h1, h2, h3, hr⟩ := h
  have hm : many.toNat ≤ piles.toNat * height.toNat := by
    have e : ((piles.toNat * height.toNat : Nat) : Int) = piles * height := by
      rw [Int.natCast_mul, Int.toNat_of_nonneg (by omega), Int.toNat_of_nonneg (by omega)]
    omega
  obtain ⟨a1, a2, a3⟩ := fill_ok many.toNat (by omega) piles.toNat (by omega) height.toNat (by omega) hm
  exact ⟨fillS many.toNat piles.toNat height.toNat, by omega, fun f hf => by have := (a2 f hf).1; omega, a3, fun _ f hf => (a2 f hf).2⟩

end L2.DI

namespace L2.DI
open PySem PySem.Spec PyProof.Rows
/-- whether no block bars -/
def rdy (F : List (List Nat)) : Bool := bars F == []
theorem eq_rdy (F : List (List Nat)) : fEq false (.str (bars F)) (.str []) = .ok (.im (.bl (rdy F))) := by
  rw [x_eq_str]; unfold rdy; simp
theorem ready_by_eq {F : List (List Nat)} (hF : F.flatten.length ≤ 5) (hp : F.length ≤ 10) : m_is_ready_by [stD F] = .ok (.im (.bl (rdy F))) := by
  have e := barring_in_eq hF hp
  simp [m_is_ready_by, sb_is_ready_by, x_semD, e, eq_rdy, -x_eq_str]
theorem is_ready_eq {F : List (List Nat)} (hb : m_are_all_blocks [stD F] = .ok (.im (.bl true))) (hF : F.flatten.length ≤ 5) (hp : F.length ≤ 10) : m_is_ready [stD F] = .ok (.im (.bl (rdy F))) := by
  have e1 : m_check_blocks [stD F] = .ok (.im .non) := by
    simp [m_check_blocks, sb_check_blocks, x_semD, hb]
  have e2 := ready_by_eq hF hp
  simp [m_is_ready, sb_is_ready, x_semD, e1, e2]

end L2.DI

namespace L2.DI
open PySem PySem.Spec PyProof.Rows
/-- what is no table -/
def NoTab (x : D) : Prop := fIsi (.own 0) x = .ok (.im (.bl false))
theorem oddtab_wp {d : D} (hd : IsB d) {many piles height : Int} {rule : List Nat} :
    Wp (m_law_odd_table d [tabD many piles height rule]) fun p => ∃ x, p.1 = .im x ∧ NoTab x ∧ Pl 2 x ∧ IsB p.2 := by
  simp [m_law_odd_table, sb_law_odd_table]
  refine (of_wp hd (.inr rfl) (by simp) (by simp)).call ?_
  rintro ⟨_, d⟩ ⟨x, rfl, hx, hd⟩
  simp
  have h4 : Pl 1 (tabD many piles height rule) := .tup _ _ (by simp) fun z hz => by
    simp at hz
    rcases hz with rfl | rfl | rfl | rfl
    · exact .int _ _
    · exact .int _ _
    · exact .int _ _
    · exact .str _ _
  refine ⟨?_, ?_, hd⟩
  · simp at hx
    rcases hx with rfl | rfl | rfl | rfl | rfl | rfl | rfl | rfl <;> rfl
  · simp at hx
    rcases hx with rfl | rfl | rfl | rfl | rfl | rfl | rfl | rfl
    · exact .non _
    · exact h4.up (by omega)
    · exact .int _ _
    · exact .str _ _
    · exact .tup _ _ (by simp) fun z hz => by simp at hz
    · exact .lst _ _ (by simp) fun z hz => by rw [List.mem_singleton.1 hz]; exact h4
    · exact .emp _
    · exact .bl _ _

end L2.DI

namespace L2.DI
open PySem PySem.Spec PyProof.Rows
theorem hready_no {x : D} (h : NoAB x) : mh_is_ready [x] = .ex 2 [x] := by
  have h : m_are_all_blocks [x] = .ok (.im (.bl false)) := h
  have e1 : mh_check_blocks [x] = .ex 2 [x] := by
    simp [mh_check_blocks, sbh_check_blocks, x_semD, h]
  simp [mh_is_ready, sbh_is_ready, x_semD, e1]
theorem hmany_no {x : D} (h : NoTab x) : mh_how_many_ready [x] = .ex 7 [x] := by
  have h : fIsi (.own 0) x = .ok (.im (.bl false)) := h
  have e1 : mh_check_table [x] = .ex 7 [x] := by
    simp [mh_check_table, sbh_check_table, x_semD, h]
  simp [mh_how_many_ready, sbh_how_many_ready, x_semD, e1]
section
variable {many piles height : Int} {rule : List Nat} {F : List (List Nat)}
theorem many_ready_eq (h : TabP many piles height rule) {Gs : List (List (List Nat))} (hA : AllS piles height rule many.toNat Gs) (hG : ∀ Fs, AllS piles height rule many.toNat Fs → (Fs.map stD).mergeSort leD = Gs.map stD) :
    m_how_many_ready [objD many piles height rule] = .ok (.im (.int (Gs.filter fun F => rdy F).length)) := by
  obtain ⟨_, e, Fs, hFs, rfl⟩ := (standings_wp h).get
  rw [hG Fs hFs] at e
  have hm : ∀ F, F ∈ Gs ↔ Std many piles height rule F := hA.tab h
  have hGl : Gs.length ≤ 10077696 := AllS.len (k := many.toNat) (by have := h.m2; omega) h.p2 hA.nd fun F hF => (hA.mem F).1 hF
  have e2 : m_check_table [objD many piles height rule] = .ok (.im .non) := by
    simp [m_check_table, sb_check_table, x_semD, objD]
  have e3 : m_ready_standings [objD many piles height rule] = .ok (.fr (.lst ((Gs.filter fun F => rdy F).map stD))) := by
    obtain ⟨_, e4, rfl⟩ := (show Wp (m_ready_standings [objD many piles height rule]) fun r => r = .fr (.lst ((Gs.filter fun F => rdy F).map stD)) by
      simp [m_ready_standings, sb_ready_standings, e]
      refine lcs_wp stD (fun F => rdy F) stD Gs (by rw [x_LIM]; omega) (fun F hF => ?_) ?_
      · have hFs := (hm F).1 hF
        have h5 := flat5 h hFs
        have h6 := hFs.len
        have m2 := h.m2
        have p2 := h.p2
        have := ready_by_eq (F := F) (by omega) (by omega)
        simp [this]
      · simp).get
    exact e4
  simp [m_how_many_ready, sb_how_many_ready, x_semD, e2, e3]
end
def odd56 (F : List (List Nat)) : List D :=
  [.non, .int 5, .str [97, 98, 99], .lst (F.map D.str), .tup [.str [97, 98, 99]], .tup [.str [97], .str [98], .str [99], .str [100], .str [101]], .tup [.str [97, 99], .str []], .tup [.str [97, 98], .str [98]], .tup [.str [97], .int 1], .dK [], .tup [.str [97, 66], .str []]]
theorem odd56_no {F : List (List Nat)} (hl : F.length ≤ 10) : ∀ x ∈ odd56 F, NoAB x ∧ Pl 2 x := by
  have ps : ∀ (n : Nat) (F : List (List Nat)), F.length ≤ 1000 → Pl (n + 1) (.tup (F.map D.str)) := fun n F h => .tup _ _ (by rw [List.length_map]; omega) fun z hz => by
    obtain ⟨f, _, rfl⟩ := List.mem_map.1 hz
    exact .str _ _
  intro x hx
  simp only [odd56, List.mem_cons, List.not_mem_nil, or_false] at hx
  rcases hx with rfl | rfl | rfl | rfl | rfl | rfl | rfl | rfl | rfl | rfl | rfl
  · exact ⟨noab_odd rfl, .non _⟩
  · exact ⟨noab_odd rfl, .int _ _⟩
  · exact ⟨noab_odd rfl, .str _ _⟩
  · refine ⟨noab_odd rfl, .lst _ _ (by simp; omega) fun z hz => ?_⟩
    obtain ⟨f, _, rfl⟩ := List.mem_map.1 hz
    exact .str _ _
  · exact ⟨noab_short (by simp), ps 1 [[97, 98, 99]] (by decide)⟩
  · refine ⟨noab_elem (by simp) (fun z hz => ?_) (fun h => absurd h.1 (by simp)), ps 1 [[97], [98], [99], [100], [101]] (by decide)⟩
    simp at hz
    rcases hz with rfl | rfl | rfl | rfl | rfl <;> rfl
  · exact ⟨noab_perm (F := [[97, 99], []]) (by decide) (by decide) (fun _ => by decide), ps 1 [[97, 99], []] (by decide)⟩
  · exact ⟨noab_perm (F := [[97, 98], [98]]) (by decide) (by decide) (fun _ => by decide), ps 1 [[97, 98], [98]] (by decide)⟩
  · refine ⟨noab_elem (by simp) (fun z hz => ?_) (fun h => absurd (h.2 (.int 1) (by simp)) (by decide)), .tup _ _ (by simp) fun z hz => ?_⟩
    · simp at hz; rcases hz with rfl | rfl <;> rfl
    · simp at hz; rcases hz with rfl | rfl
      · exact .str _ _
      · exact .int _ _
  · exact ⟨noab_odd rfl, .emp _⟩
  · exact ⟨noab_perm (F := [[97, 66], []]) (by decide) (by decide) (fun _ => by decide), ps 1 [[97, 66], []] (by decide)⟩
set_option maxHeartbeats 0 in
theorem right_wp {d : D} (hd : IsB d) : Wp (m_law_right d []) fun p => p.1 = .im (.bl true) := by
  have hs : small 5 = true := small_mk (by omega) (by omega)
  have hs6 : small 6 = true := small_mk (by omega) (by omega)
  simp [m_law_right, sb_law_right, hs]
  refine loop_wp (fun j δ => ∃ d a1 a2 a3 a4 a5 a6 a7 a8 a9 a10 a11, IsB d ∧ δ = [.ow d, a1, a2, a3, a4, a5, a6, a7, a8, a9, a10, a11]) ?_ ?_ ?_
  · exact ⟨d, _, _, _, _, _, _, _, _, _, _, _, hd, rfl⟩
  · rintro j x _ hx ⟨d, a1, a2, a3, a4, a5, a6, a7, a8, a9, a10, a11, hd, rfl⟩
    obtain ⟨hj, rfl⟩ := range_get hx
    have tbl : Wp (sIf (tVal (sBin fLt (sVar 1) (sCst (.int 3)))) (sOwnB m_law_table 0 (fCons (sCst (.int 4)) (fCons (sCst (.int 3)) fNil))) (sOwnB m_law_table 0 (fCons (sCst (.int 3)) (fCons (sCst (.int 4)) fNil))) [.ow d, .im (.int j), a2, a3, a4, a5, a6, a7, a8, a9, a10, a11])
        fun q => ∃ d many piles height rule, TabP many piles height rule ∧ IsB d ∧ q = (.im (tabD many piles height rule), [.ow d, .im (.int j), a2, a3, a4, a5, a6, a7, a8, a9, a10, a11]) := by
      by_cases h3 : (j : Int) < 3
      · simp [h3]
        refine (tableg_wp hd (by omega) (by omega) (by omega) (by omega)).call ?_
        rintro ⟨_, d⟩ ⟨many, piles, height, rule, rfl, ht, _, _, hd⟩
        simp
        exact ⟨d, many, piles, height, rule, ht, hd, rfl, rfl⟩
      · simp [h3]
        refine (tableg_wp hd (by omega) (by omega) (by omega) (by omega)).call ?_
        rintro ⟨_, d⟩ ⟨many, piles, height, rule, rfl, ht, _, _, hd⟩
        simp
        exact ⟨d, many, piles, height, rule, ht, hd, rfl, rfl⟩
    simp only [x_gnm, wp_ok, List.set_cons_succ, List.set_cons_zero]
    rw [x_seq, wp_bind_eq, x_set, wp_bind_eq]
    refine tbl.call ?_
    rintro _ ⟨d, many, piles, height, rule, ht, hd, rfl⟩
    obtain ⟨_, e1, rfl⟩ := (made_wp ht).get
    obtain ⟨Gs, hA, hG⟩ := sorted_all ht
    obtain ⟨_, e2, Fs, hFs, rfl⟩ := (law_all_wp ht).get
    rw [hG Fs hFs] at e2
    have hm : ∀ F, F ∈ Gs ↔ Std many piles height rule F := hA.tab ht
    have hGl : Gs.length ≤ 10077696 := AllS.len (k := many.toNat) (by have := ht.m2; omega) ht.p2 hA.nd fun F hF => (hA.mem F).1 hF
    have hsm : ∀ F ∈ Gs, F.flatten.length ≤ 5 ∧ F.length ≤ 10 := fun F hF => by
      have hFs := (hm F).1 hF
      have h5 := flat5 ht hFs
      have h6 := hFs.len
      have m2 := ht.m2
      have p2 := ht.p2
      exact ⟨by omega, by omega⟩
    have hG0 : Gs ≠ [] := by
      obtain ⟨F, hF⟩ := std_ex ht
      exact List.ne_nil_of_mem ((hm F).2 hF)
    have hGp := List.length_pos_iff.2 hG0
    simp [e1, e2]
    refine lcs_wp stD (fun F => rdy F) stD Gs (by rw [x_LIM]; omega) (fun F hF => ?_) ?_
    · obtain ⟨q1, q2⟩ := hsm F hF
      have := law_bars_eq q1 q2
      simp [this, eq_rdy, -x_eq_str]
    · have e3 := many_ready_eq ht hA hG
      have s1 := same_list (ds := [.int (Gs.filter fun F => rdy F).length, .int (Gs.filter fun F => rdy F).length]) (by simp) (fun z hz => by
        simp at hz; subst hz; exact .int _ _)
      simp [e3, s1, sel, hs6]
      refine loop_wp (fun k δ => ∃ d F mk sv b5 b7 b8, IsB d ∧ (k ≠ 0 → F ∈ Gs) ∧ (mk = .ow (objD many piles height rule) ∨ mk = .im (objD many piles height rule)) ∧ (sv = .ow (.lst (Gs.map stD)) ∨ sv = .im (.lst (Gs.map stD))) ∧ δ = [.ow d, .im (.int j), .im (tabD many piles height rule), mk, sv, b5, (if k = 0 then .no else .im (stD F)), b7, b8, a9, a10, a11]) ?_ ?_ ?_
      · exact ⟨d, [], _, _, _, _, _, hd, fun h => absurd rfl h, by simp, by simp, rfl⟩
      · rintro k z _ hz ⟨d, F, mk, sv, b5, b7, b8, hd, _, hmk, hsv, rfl⟩
        generalize (if k = 0 then SV.no else SV.im (stD F)) = b6
        have ofw := of_wp (c := .lst (Gs.map stD)) hd (.inl rfl) (by simpa using hGp) (by simp; omega)
        have fin : ∀ d F, IsB d → F ∈ Gs → Wp (sSeq (sSet 8 (sBin (fEq false) (sOwn m_law_bars (fCons (sVar 6) fNil)) (sCst (.str []))))
    (sIfs (tNt (tVal (sOwn (m_law_same 8) (fCons (sLst (fCons (sOwn m_is_ready (fCons (sVar 6) fNil)) (fCons (sOwn m_is_ready (fSel [0] fNil (fCons (sVar 6) fNil))) fNil))) (fCons (sLst (fCons (sVar 8) (fCons (sVar 8) fNil))) fNil)))))
    (sRet (sCst (.bl false)))
    sNx) [.ow d, .im (.int j), .im (tabD many piles height rule), mk, .im (.lst (Gs.map stD)), b5, .im (stD F), z |> .im, b8, a9, a10, a11]) fun q => q = (.nx, [.ow d, .im (.int j), .im (tabD many piles height rule), mk, .im (.lst (Gs.map stD)), b5, .im (stD F), .im z, .im (.bl (rdy F)), a9, a10, a11]) := by
          intro d F hd hF
          obtain ⟨q1, q2⟩ := hsm F hF
          have f1 := law_bars_eq q1 q2
          have f2 := is_ready_eq (std_ab ht ((hm F).1 hF)) q1 q2
          have s2 := same_list (ds := [.bl (rdy F), .bl (rdy F)]) (by simp) (fun z hz => by
            simp at hz; subst hz; exact .bl _ _)
          simp [f1, f2, s2, eq_rdy, -x_eq_str, sel]
        rcases hsv with rfl | rfl
        all_goals
          simp only [x_gnm, wp_ok, List.set_cons_succ, List.set_cons_zero]
          rw [x_seq]
          generalize hrest : (sSeq (sSet 8 _) _) = rest at fin ⊢
          simp
          refine ofw.call ?_
          rintro ⟨_, d⟩ ⟨item, rfl, hit, hd⟩
          obtain ⟨F, hF, rfl⟩ := List.mem_map.1 hit
          simp
          refine (fin d F hd hF).call ?_
          rintro _ rfl
          refine ⟨rfl, d, hd, F, hF, ?_⟩
          rcases hmk with rfl | rfl <;> simp
      · rintro δ ⟨d, F, mk, sv, b5, b7, b8, hd, hFG, hmk, hsv, rfl⟩
        have hF : F ∈ Gs := hFG (by simp)
        have hl10 := (hsm F hF).2
        have a3 : fListA (stD F) = .ok (.fr (.lst (F.map D.str))) := rfl
        simp
        refine (oddtab_wp hd).call ?_
        rintro ⟨_, d⟩ ⟨bad, rfl, hN, pN, hd⟩
        simp [a3]
        refine (of_wp (ds := odd56 F) hd (.inr rfl) (by simp [odd56]) (by simp [odd56])).call ?_
        rintro ⟨_, d⟩ ⟨odd, rfl, hO, hd⟩
        obtain ⟨hO, pO⟩ := odd56_no hl10 odd hO
        have o1 := hready_no hO
        have t1 := hmany_no hN
        have s2 := same_list (ds := [.tup [.str [116, 97, 98, 108, 101], bad], .tup [.str [115, 116, 97, 110, 100, 105, 110, 103], odd], .tup [.str [115, 116, 97, 110, 100, 105, 110, 103], odd]]) (by simp) (fun z hz => by
          simp at hz; rcases hz with rfl | rfl
          · exact pl_wd pN
          · exact pl_wd pO)
        simp [o1, t1, wordOf, noneW, sel, fApp, s2]
        exact hd
  · rintro δ ⟨d, a1, a2, a3, a4, a5, a6, a7, a8, a9, a10, a11, hd, rfl⟩
    simp

end L2.DI

namespace L2.DI
open PySem PySem.Spec PyProof.Rows
theorem law_true : ∀ ns : List Int, ns.length ≤ 63 → m_law [.kls (ns.map .int)] = .ok (.im (.bl true)) := by
  intro ns hn
  obtain ⟨_, e, rfl⟩ := (show Wp (m_law [.kls (ns.map .int)]) fun r => r = .im (.bl true) by
    obtain ⟨m, em, hm⟩ : ∃ m : Nat, (if (3 : Int) < (ns.length : Int) then (3 : Int) else ns.length) = m ∧ m ≤ 3 := by
      by_cases h : (3 : Int) < (ns.length : Int)
      · exact ⟨3, by rw [if_pos h]; rfl, by omega⟩
      · exact ⟨ns.length, by rw [if_neg h], by omega⟩
    obtain ⟨k, ek, hk⟩ : ∃ k : Nat, (if (m : Int) > 1 then (m : Int) else 1) = k ∧ k ≤ 3 := by
      by_cases h : (m : Int) > 1
      · exact ⟨m, by rw [if_pos h], by omega⟩
      · exact ⟨1, by rw [if_neg h]; rfl, by omega⟩
    have hs : small (k : Int) = true := small_mk (by omega) (by omega)
    have e1 : fMin2 (.int ns.length) (.int 3) = .ok (.im (.int m)) := by
      show Out.ok (RV.im (D.int _)) = _
      rw [← em]
    have e2 : fMax2 (.int 1) (.int m) = .ok (.im (.int k)) := by
      show Out.ok (RV.im (D.int _)) = _
      rw [← ek]
    simp [m_law, sb_law, e1, e2, hs]
    refine loop_wp (fun j δ => ∃ a, δ = [.im (.kls (ns.map .int)), a]) ?_ ?_ ?_
    · exact ⟨_, rfl⟩
    · rintro j x _ hx ⟨a, rfl⟩
      obtain ⟨hj, rfl⟩ := range_get hx
      simp
      refine (bowl_wp ns j (by omega)).call ?_
      rintro _ ⟨d, rfl, hd⟩
      simp
      refine (right_wp hd).call ?_
      rintro ⟨_, d'⟩ h
      dsimp only at h
      subst h
      simp
    · rintro _ ⟨a, rfl⟩
      simp).get
  exact e

end L2.DI

namespace L2.DI
open PySem PySem.Spec PyProof.Rows
def topS (i : Nat) : Stmt := PySem.Challenge.pw_piletables_k56_whole_ready_standings.main.body.getD i (.Pass ⟨0, 0, 0, 0⟩)
/-- the own classes -/
def wW (K : PySem.W.Frag) (C0 : Addr) (xl : List (Nat × Addr)) : CT := ⟨K, fun t => if t = 0 then some C0 else none, xcOf xl⟩
abbrev s_law_right : Stmt := topS 59
def lamQ : Str := (envOfC "_law_right" (defScope s_law_right) 0 0 .none).qual ++ "<lambda>"
theorem wordOf_x : ∀ c w, wordOf c = some w → xname c = "given" := by
  intro c w h
  unfold wordOf at h
  split at h <;> first | rfl | cases h
abbrev s_InvalidStanding_init : Stmt := inClass (topS 35) 0
abbrev s_NotATable_init : Stmt := inClass (topS 36) 0
structure TF (K : PySem.W.Frag) (mg : Str → Option Value) (C0 : Addr) (xl : List (Nat × Addr)) : Prop where
  xg_NotATable : ∃ C, mg "NotATable" = some (.ref C) ∧ ∀ c C' w, xcOf xl c = some C' → wordOf c = some w → PySem.W.kitOne K (.ref C') (.ref C) = some (decide (c = 7))
  xg_InvalidStanding : ∃ C, mg "InvalidStanding" = some (.ref C) ∧ ∀ c C' w, xcOf xl c = some C' → wordOf c = some w → PySem.W.kitOne K (.ref C') (.ref C) = some (decide (c = 2))
  xpe : ∃ CS, mg "PileError" = some (.ref CS) ∧ ∀ c C w, xcOf xl c = some C → wordOf c = some w → PySem.W.exmOne K (.ref C) (.ref CS) = some true
  xq : ∀ c C w, xcOf xl c = some C → wordOf c = some w → XqC K C ∧ PySem.W.findIn K (.ref C) "given" = some none ∧ PySem.W.kitOne K (.ref C) (.type "ValueError") = some true ∧ PySem.W.kitOne K (.ref C) (.type "LookupError") = some false
  fv_is_pile : FncV (wW K C0 xl) mg 0 "is_pile"
  xr_InvalidStanding : ∃ C, xcOf xl 2 = some C ∧ XCl K mg "InvalidStanding" "InvalidStanding.__init__" C s_InvalidStanding_init
  xr_NotATable : ∃ C, xcOf xl 7 = some C ∧ XCl K mg "NotATable" "NotATable.__init__" C s_NotATable_init
  b_LookupError : mg "LookupError" = none
  b_ValueError : mg "ValueError" = none
  b_abs : mg "abs" = none
  b_all : mg "all" = none
  b_bool : mg "bool" = none
  b_divmod : mg "divmod" = none
  b_enumerate : mg "enumerate" = none
  b_int : mg "int" = none
  b_isinstance : mg "isinstance" = none
  b_len : mg "len" = none
  b_list : mg "list" = none
  b_max : mg "max" = none
  b_min : mg "min" = none
  b_range : mg "range" = none
  b_sorted : mg "sorted" = none
  b_str : mg "str" = none
  b_tuple : mg "tuple" = none
  c_BLOCKS : (∃ t, mg "BLOCKS" = some (.str (L2.DI.mk [97, 98, 99, 100, 101]) t)) ∧ asc [97, 98, 99, 100, 101] = true
  c_LEAST_MANY : ∃ t, mg "LEAST_MANY" = some (.int 1 t)
  c_MOST_MANY : ∃ t, mg "MOST_MANY" = some (.int 5 t)
  c_LEAST_PILES_tablework : ∃ t, mg "LEAST_PILES_tablework" = some (.int 2 t)
  c_MOST_PILES_tablework : ∃ t, mg "MOST_PILES_tablework" = some (.int 4 t)
  c_FREE : (∃ t, mg "FREE" = some (.str (L2.DI.mk [102, 114, 101, 101]) t)) ∧ asc [102, 114, 101, 101] = true
  c_RULES : KTup K mg "RULES" [(.str [102, 114, 101, 101]), (.str [108, 105, 103, 104, 116])]
  c_LEAST_PILES_takework : ∃ t, mg "LEAST_PILES_takework" = some (.int 2 t)
  c_MOST_PILES_takework : ∃ t, mg "MOST_PILES_takework" = some (.int 4 t)
  c_MOST_BLOCKS : ∃ t, mg "MOST_BLOCKS" = some (.int 5 t)
  wok : WOk (wW K C0 xl)
  isi : IsiOk (wW K C0 xl)
  cls0 : (wW K C0 xl).cls 0 = some C0
  gTable : mg "Table" = some (.ref C0)
section
variable {P : Program} {w : World} {K : PySem.W.Frag} {mg : Str → Option Value} {base : Heap} {C0 : Addr} {xl : List (Nat × Addr)}
abbrev s_law_pick : Stmt := topS 49
theorem sc_law_pick : FnScope ["jar", "many", "figure", "turn"] ["jar", "many"] (defScope s_law_pick) := ⟨rfl, rfl, rfl, by decide +kernel, rfl, by decide +kernel, by decide +kernel⟩
abbrev s_law_of : Stmt := topS 50
theorem sc_law_of : FnScope ["jar", "some"] ["jar", "some"] (defScope s_law_of) := ⟨rfl, rfl, rfl, by decide +kernel, rfl, by decide +kernel, by decide +kernel⟩
abbrev s_law_odd_table : Stmt := topS 57
theorem sc_law_odd_table : FnScope ["jar", "table"] ["jar", "table"] (defScope s_law_odd_table) := ⟨rfl, rfl, rfl, by decide +kernel, rfl, by decide +kernel, by decide +kernel⟩
abbrev s_law_table : Stmt := topS 52
theorem sc_law_table : FnScope ["jar", "most", "piles", "many", "there", "heights", "each"] ["jar", "most", "piles"] (defScope s_law_table) := ⟨rfl, rfl, rfl, by decide +kernel, rfl, by decide +kernel, by decide +kernel⟩
abbrev s_is_whole : Stmt := topS 1
theorem sc_is_whole : FnScope ["value"] ["value"] (defScope s_is_whole) := ⟨rfl, rfl, rfl, by decide +kernel, rfl, by decide +kernel, by decide +kernel⟩
abbrev s_is_between : Stmt := topS 2
theorem sc_is_between : FnScope ["value", "least", "most"] ["value", "least", "most"] (defScope s_is_between) := ⟨rfl, rfl, rfl, by decide +kernel, rfl, by decide +kernel, by decide +kernel⟩
abbrev s_check_number : Stmt := topS 38
theorem sc_check_number : FnScope ["value", "least", "most"] ["value", "least", "most"] (defScope s_check_number) := ⟨rfl, rfl, rfl, by decide +kernel, rfl, by decide +kernel, by decide +kernel⟩
abbrev s_check_height : Stmt := topS 39
theorem sc_check_height : FnScope ["height", "many", "piles"] ["height", "many", "piles"] (defScope s_check_height) := ⟨rfl, rfl, rfl, by decide +kernel, rfl, by decide +kernel, by decide +kernel⟩
abbrev s_is_one_of : Stmt := topS 3
theorem sc_is_one_of : FnScope ["value", "words"] ["value", "words"] (defScope s_is_one_of) := ⟨rfl, rfl, rfl, by decide +kernel, rfl, by decide +kernel, by decide +kernel⟩
abbrev s_Table_init : Stmt := inClass (topS 40) 0
theorem sc_Table_init : FnScope ["self", "many", "piles", "height", "rule"] ["self", "many", "piles", "height", "rule"] (defScope s_Table_init) := ⟨rfl, rfl, rfl, by decide +kernel, rfl, by decide +kernel, by decide +kernel⟩
abbrev s_law_made : Stmt := topS 53
theorem sc_law_made : FnScope ["table"] ["table"] (defScope s_law_made) := ⟨rfl, rfl, rfl, by decide +kernel, rfl, by decide +kernel, by decide +kernel⟩
abbrev s_law_is_standing : Stmt := topS 55
theorem sc_law_is_standing : FnScope ["table", "row", "pile"] ["table", "row"] (defScope s_law_is_standing) := ⟨rfl, rfl, rfl, by decide +kernel, rfl, by decide +kernel, by decide +kernel⟩
abbrev s_law_all : Stmt := topS 56
theorem sc_law_all : FnScope ["table", "rows", "letter", "later", "row", "k", "spot"] ["table"] (defScope s_law_all) := ⟨rfl, rfl, rfl, by decide +kernel, rfl, by decide +kernel, by decide +kernel⟩
abbrev s_law_same : Stmt := topS 51
theorem sc_law_same : FnScope ["told", "due", "alike", "k"] ["told", "due"] (defScope s_law_same) := ⟨rfl, rfl, rfl, by decide +kernel, rfl, by decide +kernel, by decide +kernel⟩
abbrev s_law_bars : Stmt := topS 54
theorem sc_law_bars : FnScope ["standing", "found", "pile", "k"] ["standing"] (defScope s_law_bars) := ⟨rfl, rfl, rfl, by decide +kernel, rfl, by decide +kernel, by decide +kernel⟩
abbrev s_check_table : Stmt := topS 41
theorem sc_check_table : FnScope ["table"] ["table"] (defScope s_check_table) := ⟨rfl, rfl, rfl, by decide +kernel, rfl, by decide +kernel, by decide +kernel⟩
abbrev s_blocks_of : Stmt := topS 15
theorem sc_blocks_of : FnScope ["many"] ["many"] (defScope s_blocks_of) := ⟨rfl, rfl, rfl, by decide +kernel, rfl, by decide +kernel, by decide +kernel⟩
abbrev s_is_falling : Stmt := topS 16
theorem sc_is_falling : FnScope ["pile", "index"] ["pile"] (defScope s_is_falling) := ⟨rfl, rfl, rfl, by decide +kernel, rfl, by decide +kernel, by decide +kernel⟩
abbrev s_fits_rule : Stmt := topS 17
theorem sc_fits_rule : FnScope ["table", "pile"] ["table", "pile"] (defScope s_fits_rule) := ⟨rfl, rfl, rfl, by decide +kernel, rfl, by decide +kernel, by decide +kernel⟩
abbrev s_laid_everywhere : Stmt := topS 18
theorem sc_laid_everywhere : FnScope ["table", "standing", "block", "found", "index", "pile", "at", "wide"] ["table", "standing", "block"] (defScope s_laid_everywhere) := ⟨rfl, rfl, rfl, by decide +kernel, rfl, by decide +kernel, by decide +kernel⟩
abbrev s_standings : Stmt := topS 19
theorem sc_standings : FnScope ["table", "found", "block", "longer", "standing"] ["table"] (defScope s_standings) := ⟨rfl, rfl, rfl, by decide +kernel, rfl, by decide +kernel, by decide +kernel⟩
abbrev s_does_bar : Stmt := topS 26
theorem sc_does_bar : FnScope ["pile", "index", "block"] ["pile", "index"] (defScope s_does_bar) := ⟨rfl, rfl, rfl, by decide +kernel, rfl, by decide +kernel, by decide +kernel⟩
abbrev s_barring_in : Stmt := topS 27
theorem sc_barring_in : FnScope ["piles", "found", "pile", "index", "block"] ["piles"] (defScope s_barring_in) := ⟨rfl, rfl, rfl, by decide +kernel, rfl, by decide +kernel, by decide +kernel⟩
abbrev s_is_ready_by : Stmt := topS 29
theorem sc_is_ready_by : FnScope ["standing"] ["standing"] (defScope s_is_ready_by) := ⟨rfl, rfl, rfl, by decide +kernel, rfl, by decide +kernel, by decide +kernel⟩
abbrev s_ready_standings : Stmt := topS 30
theorem sc_ready_standings : FnScope ["table", "standing"] ["table"] (defScope s_ready_standings) := ⟨rfl, rfl, rfl, by decide +kernel, rfl, by decide +kernel, by decide +kernel⟩
abbrev s_how_many_ready : Stmt := topS 46
theorem sc_how_many_ready : FnScope ["table"] ["table"] (defScope s_how_many_ready) := ⟨rfl, rfl, rfl, by decide +kernel, rfl, by decide +kernel, by decide +kernel⟩
abbrev s_is_pile : Stmt := topS 24
theorem sc_is_pile : FnScope ["ahead", "value"] ["ahead", "value"] (defScope s_is_pile) := ⟨rfl, rfl, rfl, by decide +kernel, rfl, by decide +kernel, by decide +kernel⟩
abbrev s_wrong_in : Stmt := topS 4
theorem sc_wrong_in : FnScope ["value", "least", "most", "is_right", "index", "each"] ["value", "least", "most", "is_right"] (defScope s_wrong_in) := ⟨rfl, rfl, rfl, by decide +kernel, rfl, by decide +kernel, by decide +kernel⟩
abbrev s_are_all : Stmt := topS 5
theorem sc_are_all : FnScope ["value", "least", "most", "is_right"] ["value", "least", "most", "is_right"] (defScope s_are_all) := ⟨rfl, rfl, rfl, by decide +kernel, rfl, by decide +kernel, by decide +kernel⟩
abbrev s_are_all_blocks : Stmt := topS 25
theorem sc_are_all_blocks : FnScope ["value", "text"] ["value"] (defScope s_are_all_blocks) := ⟨rfl, rfl, rfl, by decide +kernel, rfl, by decide +kernel, by decide +kernel⟩
abbrev s_check_blocks : Stmt := topS 43
theorem sc_check_blocks : FnScope ["standing"] ["standing"] (defScope s_check_blocks) := ⟨rfl, rfl, rfl, by decide +kernel, rfl, by decide +kernel, by decide +kernel⟩
abbrev s_is_ready : Stmt := topS 45
theorem sc_is_ready : FnScope ["standing"] ["standing"] (defScope s_is_ready) := ⟨rfl, rfl, rfl, by decide +kernel, rfl, by decide +kernel, by decide +kernel⟩
theorem sc_law_right : FnScope ["jar", "lap", "table", "made", "every", "due", "standing", "turn", "fine", "bad", "odd", "told"] ["jar"] (defScope s_law_right) := ⟨rfl, rfl, rfl, by decide +kernel, rfl, by decide +kernel, by decide +kernel⟩
abbrev s_law_jar : Stmt := topS 48
theorem sc_law_jar : FnScope ["script", "lap", "stir", "cell", "own"] ["script", "lap"] (defScope s_law_jar) := ⟨rfl, rfl, rfl, by decide +kernel, rfl, by decide +kernel, by decide +kernel⟩
abbrev s_law : Stmt := topS 60
theorem sc_law : FnScope ["script", "lap"] ["script"] (defScope s_law) := ⟨rfl, rfl, rfl, by decide +kernel, rfl, by decide +kernel, by decide +kernel⟩
abbrev s_law_kept : Stmt := topS 58
theorem sc_law_kept : FnScope ["act", "e", "sorts"] ["act"] (defScope s_law_kept) := ⟨rfl, rfl, rfl, by decide +kernel, rfl, by decide +kernel, by decide +kernel⟩
abbrev kX (X : Cx) (g : Addr) (cdg : Value) (s : Shared) (H : Hp) : Cx := (cxOf C8.CX0 X.prog X.w X.K X.mg X.base ["act", "e", "sorts"] "_law_kept" (defScope s_law_kept) g cdg X.A X.stack s H C8.E0).nox
noncomputable def ss_law_kept (a : Addr) (c : Nat) (d : D) : SS :=
    (sSeq (sSet 2 (sLst (fCons (sExIs 1 a (decide (c = 7))) (fCons (sExIs 1 a (decide (c = 2))) fNil))))
    (sSeq (sIfs (tOo (tVal (sBin (fEq true) (sMtL fCountB (sVar 2) (sCst (.bl true))) (sCst (.int 1)))) (tOo (tNt (tVal (sExIs 1 a true))) (tVal (sExIs 1 a false))))
    (sRet (sTup (fCons (sCst (.str [111, 100, 100])) (fCons (sCst .non) fNil))))
    sNx)
    (sRet (sTup (fCons (sBin fIx (sTup (fCons (sCst (.str [116, 97, 98, 108, 101])) (fCons (sCst (.str [115, 116, 97, 110, 100, 105, 110, 103])) fNil))) (sMtL fIndexB (sVar 2) (sCst (.bl true)))) (fCons (sExGiv 1 a d) fNil))))))
noncomputable def sr_law_kept : SS :=
    (sRet (sTup (fCons (sCst (.str [110, 111, 110, 101])) (fCons (sCst .non) fNil))))
theorem ss_law_kept_ok (a : Addr) (c : Nat) (d : D) (w : List Nat) (hw : wordOf c = some w) : ∃ δ', ss_law_kept a c d [SV.no, .im (.adr a), SV.no] = .ok (.rt (.im (.tup [.str w, d])), δ') := by
  unfold wordOf at hw
  split at hw <;> first | (cases hw; done) | (cases hw; simp [ss_law_kept, fAdd, sExIs, sExGiv, sMtL, fCountB, fIndexB, bools, atI, ixN, List.findIdx?, List.findIdx?.go]; done)
theorem sr_law_kept_ok : ∃ δ', sr_law_kept [SV.no, SV.no, SV.no] = .ok (.rt (.im (.tup [.str noneW, .non])), δ') := by
  simp [sr_law_kept, noneW]
theorem g_law_kept {X : Cx} (T : TF X.K X.mg C0 xl) (hr : Room 3 X.A) (g : Addr) (cdg : Value) (q : Str) : LamX.GivesTo X ["act", "e", "sorts"] "_law_kept" (defScope s_law_kept) g cdg (defBody s_law_kept) "act" q (TKept (wW X.K C0 xl) wordOf noneW) := by
  obtain ⟨CS, hCS, hcl⟩ := T.xpe
  obtain ⟨C_NotATable, hm_NotATable, hk_NotATable'⟩ := T.xg_NotATable
  obtain ⟨C_InvalidStanding, hm_InvalidStanding, hk_InvalidStanding'⟩ := T.xg_InvalidStanding
  refine kept_gives (ssu := ss_law_kept) (sre := sr_law_kept) rfl hCS (by decide) (by decide +kernel) rfl rfl (fun _ => rfl) hcl (fun s H a oe pn c C dd w B G0 v d hC hw hz hf hB hR => ?_) (fun s H B G0 => ?_) (fun a c d w hw => ss_law_kept_ok a c d w hw) sr_law_kept_ok
  · obtain ⟨xq, xno, xve, xle⟩ := T.xq c C w hC hw
    have hk_NotATable := fun c C' hC hw => hk_NotATable' c C' w hC hw
    have hk_InvalidStanding := fun c C' hC hw => hk_InvalidStanding' c C' w hC hw
    have hu : (X.A.deeper (envOfC "_law_kept" (defScope s_law_kept) s.heap.objs.size g cdg)).units + 64 < cLine := (hr.deeper _).units
    exact (dss_cons (ds_set (i := 2) sc_law_kept.nd (de_lst (df_cons (de_exis (X := kX X g cdg s H) (a := a) (oe := oe) (pn := pn) xq hz hf hB (by rfl) T.b_isinstance (pv 1) (pe_glob (v := .ref C_NotATable) (by rfl) hm_NotATable rfl) (.own _) (hk_NotATable c C hC hw)) (df_cons (de_exis (X := kX X g cdg s H) (a := a) (oe := oe) (pn := pn) xq hz hf hB (by rfl) T.b_isinstance (pv 1) (pe_glob (v := .ref C_InvalidStanding) (by rfl) hm_InvalidStanding rfl) (.own _) (hk_InvalidStanding c C hC hw)) df_nil))))
      (dss_cons (ds_if (dt_w (dw_or (dt_cmp (r_ne hu) (o_eq rfl true) (de_countB rfl (de_var 2) de_bl) de_int mk_) (dw_or (dt_not (dt_val (de_exis (X := kX X g cdg s H) (a := a) (oe := oe) (pn := pn) xq hz hf hB (by rfl) T.b_isinstance (pv 1) (pe_bltn (v := .ty "ValueError") (by rfl) T.b_ValueError PyProof.Rows.Boot.«ValueError» rfl) (.ty "ValueError") xve))) (dw_or1 (dt_val (de_exis (X := kX X g cdg s H) (a := a) (oe := oe) (pn := pn) xq hz hf hB (by rfl) T.b_isinstance (pv 1) (pe_bltn (v := .ty "LookupError") (by rfl) T.b_LookupError PyProof.Rows.Boot.«LookupError» rfl) (.ty "LookupError") xle))))))
      (dss_one (ds_ret (de_tup (df_cons (de_str [111, 100, 100]) (df_cons de_non df_nil)))))
      dss_nil)
      (dss_one (ds_ret (de_tup (df_cons (de_ix (r_ix hu) (o_ix rfl) (de_tup (df_cons (de_str [116, 97, 98, 108, 101]) (df_cons (de_str [115, 116, 97, 110, 100, 105, 110, 103]) df_nil))) (de_indexB rfl (de_var 2) de_bl) (fun _ _ => rfl)) (df_cons (de_exgiv (X := kX X g cdg s H) (a := a) (oe := oe) (pn := pn) xq.xf xno hz hf hB hR (pv 1)) df_nil)))))))
  · have hu : (X.A.deeper (envOfC "_law_kept" (defScope s_law_kept) s.heap.objs.size g cdg)).units + 64 < cLine := (hr.deeper _).units
    exact (dss_one (ds_ret (de_tup (df_cons (de_str [110, 111, 110, 101]) (df_cons de_non df_nil)))))
theorem k_law_pick (T : TF K mg C0 xl)  {f : Addr} {fd : FuncData} (Fn : Fun K "_law_pick" "_law_pick" s_law_pick f fd) : FnOk P w K mg base CX0 1 f fd ["jar", "many"] (spB (wW K C0 xl) false 2 m_law_pick) := by
  refine fn_coldB Fn sc_law_pick rfl fun cdv A outer s H E B G0 a hr => ?_
  have hu := hr.units
  exact (dss_cons (ds_if (dt_cmp r_gt o_cmp (de_ix (r_ix hu) (o_ix rfl) (de_var 0) de_int (fun _ _ => rfl)) de_int mk_)
      (dss_cons (ds_asg (de_callB call_divmod o_divmod (by rfl) T.b_divmod boot_divmod (da_cons (de_ix (r_ix hu) (o_ix rfl) (de_var 0) de_int (fun _ _ => rfl)) (da_cons (de_var 1) da_nil))) (dg_tup rfl rfl (dgs_cons (dg_ix (pv 0) de_int) (dgs_cons (dg_name (i := 2) sc_law_pick.nd) dgs_nil))))
      (dss_one (ds_ret (de_var 2))))
      dss_nil)
      (dss_cons (ds_asg (de_bin r_add (o_add rfl) (de_ix (r_ix hu) (o_ix rfl) (de_var 0) de_int (fun _ _ => rfl)) de_int) (dg_ix (pv 0) de_int))
      (dss_cons (ds_set (i := 3) sc_law_pick.nd (de_bin op_mod o_mod (de_callTy call_int1 o_int (by rfl) T.b_int boot_int (da_cons (de_bin r_add (o_add rfl) (de_bin r_add (o_add rfl) (de_bin r_mul (o_mul rfl) (de_ix (r_ix hu) (o_ix rfl) (de_var 0) de_int (fun _ _ => rfl)) de_int) (de_bin r_mul (o_mul rfl) de_int (de_ix (r_ix hu) (o_ix rfl) (de_var 0) de_int (fun _ _ => rfl)))) de_int) da_nil)) de_int))
      (dss_cons (ds_asg (de_bin op_mod o_mod (de_callTy call_int1 o_int (by rfl) T.b_int boot_int (da_cons (de_bin r_add (o_add rfl) (de_bin r_mul (o_mul rfl) (de_var 3) (de_bin r_add (o_add rfl) (de_bin op_mod o_mod (de_callTy call_int1 o_int (by rfl) T.b_int boot_int (da_cons (de_var 3) da_nil)) de_int) de_int)) (de_bin r_mul (o_mul rfl) de_int (de_ix (r_ix hu) (o_ix rfl) (de_var 0) de_int (fun _ _ => rfl)))) da_nil)) de_int) (dg_ix (pv 0) de_int))
      (dss_one (ds_ret (de_bin op_mod o_mod (de_callTy call_int1 o_int (by rfl) T.b_int boot_int (da_cons (de_bin op_fdiv o_fdiv (de_ix (r_ix hu) (o_ix rfl) (de_var 0) de_int (fun _ _ => rfl)) de_int) da_nil)) (de_var 1))))))))
theorem e_law_pick (T : TF K mg C0 xl)  (Fa : FunAt K mg "_law_pick" s_law_pick) : Ent P w K mg base "_law_pick" s_law_pick 1 ["jar", "many"] (spB (wW K C0 xl) false 2 m_law_pick) := by
  obtain ⟨f, fd, h1, h2⟩ := Fa
  exact ⟨⟨f, fd, h1, h2, k_law_pick T  h2⟩, fun f fd F => F.binds fun _ _ _ _ _ _ us hl => match us, hl with | [_, _], _ => rfl⟩
theorem k_law_of (T : TF K mg C0 xl) (E_law_pick : Ent P w K mg base "_law_pick" s_law_pick 1 ["jar", "many"] (spB (wW K C0 xl) false 2 m_law_pick)) {f : Addr} {fd : FuncData} (Fn : Fun K "_law_of" "_law_of" s_law_of f fd) : FnOk P w K mg base CX0 2 f fd ["jar", "some"] (spB (wW K C0 xl) false 2 m_law_of) := by
  refine fn_coldB Fn sc_law_of rfl fun cdv A outer s H E B G0 a hr => ?_
  have hu := hr.units
  exact (dss_one (ds_ret (de_ix (r_ix hu) (o_ix rfl) (de_var 1) (de_entB E_law_pick (hr.mono (by decide)) (by rfl) (many_cons many_nil) (pv 0) (df_cons (de_callB cr_len (o_len rfl) (by rfl) T.b_len boot_len (da_cons (de_var 1) da_nil)) df_nil)) (fun _ _ => rfl))))
theorem e_law_of (T : TF K mg C0 xl) (E_law_pick : Ent P w K mg base "_law_pick" s_law_pick 1 ["jar", "many"] (spB (wW K C0 xl) false 2 m_law_pick)) (Fa : FunAt K mg "_law_of" s_law_of) : Ent P w K mg base "_law_of" s_law_of 2 ["jar", "some"] (spB (wW K C0 xl) false 2 m_law_of) := by
  obtain ⟨f, fd, h1, h2⟩ := Fa
  exact ⟨⟨f, fd, h1, h2, k_law_of T E_law_pick h2⟩, fun f fd F => F.binds fun _ _ _ _ _ _ us hl => match us, hl with | [_, _], _ => rfl⟩
theorem k_law_odd_table (T : TF K mg C0 xl) (E_law_of : Ent P w K mg base "_law_of" s_law_of 2 ["jar", "some"] (spB (wW K C0 xl) false 2 m_law_of)) {f : Addr} {fd : FuncData} (Fn : Fun K "_law_odd_table" "_law_odd_table" s_law_odd_table f fd) : FnOk P w K mg base CX0 3 f fd ["jar", "table"] (spB (wW K C0 xl) false 2 m_law_odd_table) := by
  refine fn_coldB Fn sc_law_odd_table rfl fun cdv A outer s H E B G0 a hr => ?_
  have hu := hr.units
  exact (dss_one (ds_ret (de_entB E_law_of (hr.mono (by decide)) (by rfl) (many_cons many_nil) (pv 0) (df_cons (de_tup (df_cons de_non (df_cons (de_var 1) (df_cons de_int (df_cons (de_str [116, 97, 98, 108, 101]) (df_cons (de_tup df_nil) (df_cons (de_lst (df_cons (de_var 1) df_nil)) (df_cons de_dnK (df_cons de_bl df_nil))))))))) df_nil))))
theorem e_law_odd_table (T : TF K mg C0 xl) (E_law_of : Ent P w K mg base "_law_of" s_law_of 2 ["jar", "some"] (spB (wW K C0 xl) false 2 m_law_of)) (Fa : FunAt K mg "_law_odd_table" s_law_odd_table) : Ent P w K mg base "_law_odd_table" s_law_odd_table 3 ["jar", "table"] (spB (wW K C0 xl) false 2 m_law_odd_table) := by
  obtain ⟨f, fd, h1, h2⟩ := Fa
  exact ⟨⟨f, fd, h1, h2, k_law_odd_table T E_law_of h2⟩, fun f fd F => F.binds fun _ _ _ _ _ _ us hl => match us, hl with | [_, _], _ => rfl⟩
theorem k_law_table (T : TF K mg C0 xl) (E_law_of : Ent P w K mg base "_law_of" s_law_of 2 ["jar", "some"] (spB (wW K C0 xl) false 2 m_law_of)) (E_law_pick : Ent P w K mg base "_law_pick" s_law_pick 1 ["jar", "many"] (spB (wW K C0 xl) false 2 m_law_pick)) {f : Addr} {fd : FuncData} (Fn : Fun K "_law_table" "_law_table" s_law_table f fd) : FnOk P w K mg base CX0 3 f fd ["jar", "most", "piles"] (spB (wW K C0 xl) false 3 m_law_table) := by
  refine fn_coldB Fn sc_law_table rfl fun cdv A outer s H E B G0 a hr => ?_
  have hu := hr.units
  exact (dss_cons (ds_parT (is := [3, 4]) rfl (dm_cons (de_bin r_add (o_add rfl) de_int (de_entB E_law_pick (hr.mono (by decide)) (by rfl) (many_cons many_nil) (pv 0) (df_cons (de_var 1) df_nil))) fun _ => (dm_cons (de_bin r_add (o_add rfl) de_int (de_entB E_law_pick (hr.mono (by decide)) (by rfl) (many_cons many_nil) (pv 0) (df_cons (de_bin op_sub o_sub (de_var 2) de_int) df_nil))) fun _ => dm_nil)) (pgs_cons (pg_nm (i := 3) sc_law_table.nd) (pgs_cons (pg_nm (i := 4) sc_law_table.nd) pgs_nil)))
      (dss_cons (ds_setLc (i := 5) (own := [("each", 6)]) rfl sc_law_table.nd rfl rfl (sw_true rfl rfl rfl (by decide +kernel)) (di_range2 (by rfl) T.b_range (da_cons de_int (da_cons (de_bin r_add (o_add rfl) (de_var 3) de_int) da_nil))) (blkOk_by rfl) (fun _ _ _ _ _ _ => (dg_name (i := 6) sc_law_table.nd)) (fun _ _ _ _ _ _ => (dts_one (dt_cmp r_ge o_cmp (de_bin r_mul (o_mul rfl) (de_var 4) (de_var 6)) (de_var 3) mk_))) (fun _ _ _ _ _ _ => (de_var 6)) (by decide))
      (dss_one (ds_ret (de_tup (df_cons (de_var 3) (df_cons (de_var 4) (df_cons (de_entB E_law_of (hr.mono (by decide)) (by rfl) (many_cons many_nil) (pv 0) (df_cons (de_bin r_add (o_add rfl) (de_var 5) (de_bin r_mul (o_mul rfl) (de_lst (df_cons (de_var 3) df_nil)) de_int)) df_nil)) (df_cons (de_entB E_law_of (hr.mono (by decide)) (by rfl) (many_cons many_nil) (pv 0) (df_cons (de_tup (df_cons (de_str [102, 114, 101, 101]) (df_cons (de_str [102, 114, 101, 101]) (df_cons (de_str [102, 114, 101, 101]) (df_cons (de_str [108, 105, 103, 104, 116]) df_nil))))) df_nil)) df_nil)))))))))
theorem e_law_table (T : TF K mg C0 xl) (E_law_of : Ent P w K mg base "_law_of" s_law_of 2 ["jar", "some"] (spB (wW K C0 xl) false 2 m_law_of)) (E_law_pick : Ent P w K mg base "_law_pick" s_law_pick 1 ["jar", "many"] (spB (wW K C0 xl) false 2 m_law_pick)) (Fa : FunAt K mg "_law_table" s_law_table) : Ent P w K mg base "_law_table" s_law_table 3 ["jar", "most", "piles"] (spB (wW K C0 xl) false 3 m_law_table) := by
  obtain ⟨f, fd, h1, h2⟩ := Fa
  exact ⟨⟨f, fd, h1, h2, k_law_table T E_law_of E_law_pick h2⟩, fun f fd F => F.binds fun _ _ _ _ _ _ us hl => match us, hl with | [_, _, _], _ => rfl⟩
theorem k_is_whole (T : TF K mg C0 xl)  {f : Addr} {fd : FuncData} (Fn : Fun K "is_whole" "is_whole" s_is_whole f fd) : FnOk P w K mg base CX0 1 f fd ["value"] (spD (wW K C0 xl) false 1 m_is_whole) := by
  refine fn_cold Fn sc_is_whole rfl fun cdv A outer s H E B G0 hr => ?_
  have hu := hr.units
  exact (dss_one (ds_ret (de_and (de_isi rfl T.isi call_isi (by rfl) T.b_isinstance (de_var 0) (ty_b (by rfl) T.b_int boot_int)) (de_one (de_not (de_isi rfl T.isi call_isi (by rfl) T.b_isinstance (de_var 0) (ty_b (by rfl) T.b_bool boot_bool)))))))
theorem e_is_whole (T : TF K mg C0 xl)  (Fa : FunAt K mg "is_whole" s_is_whole) : Ent P w K mg base "is_whole" s_is_whole 1 ["value"] (spD (wW K C0 xl) false 1 m_is_whole) := by
  obtain ⟨f, fd, h1, h2⟩ := Fa
  exact ⟨⟨f, fd, h1, h2, k_is_whole T  h2⟩, fun f fd F => F.binds fun _ _ _ _ _ _ us hl => match us, hl with | [_], _ => rfl⟩
theorem k_is_between (T : TF K mg C0 xl) (E_is_whole : Ent P w K mg base "is_whole" s_is_whole 1 ["value"] (spD (wW K C0 xl) false 1 m_is_whole)) {f : Addr} {fd : FuncData} (Fn : Fun K "is_between" "is_between" s_is_between f fd) : FnOk P w K mg base CX0 2 f fd ["value", "least", "most"] (spD (wW K C0 xl) false 3 m_is_between) := by
  refine fn_cold Fn sc_is_between rfl fun cdv A outer s H E B G0 hr => ?_
  have hu := hr.units
  exact (dss_one (ds_ret (de_and (de_ent E_is_whole (hr.mono (by decide)) (by rfl) (many_cons many_nil) (df_cons (de_var 0) df_nil)) (de_one (de_chain r_le o_cmp r_le o_cmp (de_var 1) (de_var 0) (de_var 2))))))
theorem e_is_between (T : TF K mg C0 xl) (E_is_whole : Ent P w K mg base "is_whole" s_is_whole 1 ["value"] (spD (wW K C0 xl) false 1 m_is_whole)) (Fa : FunAt K mg "is_between" s_is_between) : Ent P w K mg base "is_between" s_is_between 2 ["value", "least", "most"] (spD (wW K C0 xl) false 3 m_is_between) := by
  obtain ⟨f, fd, h1, h2⟩ := Fa
  exact ⟨⟨f, fd, h1, h2, k_is_between T E_is_whole h2⟩, fun f fd F => F.binds fun _ _ _ _ _ _ us hl => match us, hl with | [_, _, _], _ => rfl⟩
theorem k_check_number (T : TF K mg C0 xl) (E_is_between : Ent P w K mg base "is_between" s_is_between 2 ["value", "least", "most"] (spD (wW K C0 xl) false 3 m_is_between)) {f : Addr} {fd : FuncData} (Fn : Fun K "check_number" "check_number" s_check_number f fd) : FnOk P w K mg base CX0 3 f fd ["value", "least", "most"] (spD (wW K C0 xl) false 3 m_check_number) := by
  refine fn_cold Fn sc_check_number rfl fun cdv A outer s H E B G0 hr => ?_
  have hu := hr.units
  exact (dss_one (ds_if (dt_not (dt_val (de_ent E_is_between (hr.mono (by decide)) (by rfl) (many_cons (many_cons (many_cons many_nil))) (df_cons (de_var 0) (df_cons (de_var 1) (df_cons (de_var 2) df_nil))))))
      (dss_one (ds_raise0 rfl))
      dss_nil))
theorem e_check_number (T : TF K mg C0 xl) (E_is_between : Ent P w K mg base "is_between" s_is_between 2 ["value", "least", "most"] (spD (wW K C0 xl) false 3 m_is_between)) (Fa : FunAt K mg "check_number" s_check_number) : Ent P w K mg base "check_number" s_check_number 3 ["value", "least", "most"] (spD (wW K C0 xl) false 3 m_check_number) := by
  obtain ⟨f, fd, h1, h2⟩ := Fa
  exact ⟨⟨f, fd, h1, h2, k_check_number T E_is_between h2⟩, fun f fd F => F.binds fun _ _ _ _ _ _ us hl => match us, hl with | [_, _, _], _ => rfl⟩
theorem k_check_height (T : TF K mg C0 xl) (E_check_number : Ent P w K mg base "check_number" s_check_number 3 ["value", "least", "most"] (spD (wW K C0 xl) false 3 m_check_number)) {f : Addr} {fd : FuncData} (Fn : Fun K "check_height" "check_height" s_check_height f fd) : FnOk P w K mg base CX0 4 f fd ["height", "many", "piles"] (spD (wW K C0 xl) false 3 m_check_height) := by
  refine fn_cold Fn sc_check_height rfl fun cdv A outer s H E B G0 hr => ?_
  have hu := hr.units
  exact (dss_cons (ds_expr (de_ent E_check_number (hr.mono (by decide)) (by rfl) (many_cons (many_cons (many_cons many_nil))) (df_cons (de_var 0) (df_cons de_int (df_cons (de_var 1) df_nil)))))
      (dss_one (ds_if (dt_cmp r_lt o_cmp (de_bin r_mul (o_mul rfl) (de_var 0) (de_var 2)) (de_var 1) mk_)
      (dss_one (ds_raise0 rfl))
      dss_nil)))
theorem e_check_height (T : TF K mg C0 xl) (E_check_number : Ent P w K mg base "check_number" s_check_number 3 ["value", "least", "most"] (spD (wW K C0 xl) false 3 m_check_number)) (Fa : FunAt K mg "check_height" s_check_height) : Ent P w K mg base "check_height" s_check_height 4 ["height", "many", "piles"] (spD (wW K C0 xl) false 3 m_check_height) := by
  obtain ⟨f, fd, h1, h2⟩ := Fa
  exact ⟨⟨f, fd, h1, h2, k_check_height T E_check_number h2⟩, fun f fd F => F.binds fun _ _ _ _ _ _ us hl => match us, hl with | [_, _, _], _ => rfl⟩
theorem k_is_one_of (T : TF K mg C0 xl)  {f : Addr} {fd : FuncData} (Fn : Fun K "is_one_of" "is_one_of" s_is_one_of f fd) : FnOk P w K mg base CX0 1 f fd ["value", "words"] (spD (wW K C0 xl) false 2 m_is_one_of) := by
  refine fn_cold Fn sc_is_one_of rfl fun cdv A outer s H E B G0 hr => ?_
  have hu := hr.units
  exact (dss_one (ds_ret (de_and (de_isi rfl T.isi call_isi (by rfl) T.b_isinstance (de_var 0) (ty_b (by rfl) T.b_str boot_str)) (de_one (de_cmp (r_in hu) (o_in rfl false) (de_var 0) (de_var 1) mk_)))))
theorem e_is_one_of (T : TF K mg C0 xl)  (Fa : FunAt K mg "is_one_of" s_is_one_of) : Ent P w K mg base "is_one_of" s_is_one_of 1 ["value", "words"] (spD (wW K C0 xl) false 2 m_is_one_of) := by
  obtain ⟨f, fd, h1, h2⟩ := Fa
  exact ⟨⟨f, fd, h1, h2, k_is_one_of T  h2⟩, fun f fd F => F.binds fun _ _ _ _ _ _ us hl => match us, hl with | [_, _], _ => rfl⟩
theorem k_Table_init (T : TF K mg C0 xl) (E_check_number : Ent P w K mg base "check_number" s_check_number 3 ["value", "least", "most"] (spD (wW K C0 xl) false 3 m_check_number)) (E_check_height : Ent P w K mg base "check_height" s_check_height 4 ["height", "many", "piles"] (spD (wW K C0 xl) false 3 m_check_height)) (E_is_one_of : Ent P w K mg base "is_one_of" s_is_one_of 1 ["value", "words"] (spD (wW K C0 xl) false 2 m_is_one_of)) {f : Addr} {fd : FuncData} (Fn : Fun K "__init__" "Table.__init__" s_Table_init f fd) : FnOk P w K mg base CX0 5 f fd ["self", "many", "piles", "height", "rule"] (spB (wW K C0 xl) false 5 m_Table_init) := by
  refine fn_coldB Fn sc_Table_init rfl fun cdv A outer s H E B G0 a hr => ?_
  have hu := hr.units
  exact (dss_cons (ds_expr (de_ent E_check_number (hr.mono (by decide)) (by rfl) (many_cons (many_cons (many_cons many_nil))) (df_cons (de_var 1) (df_cons (de_gI (by rfl) T.c_LEAST_MANY) (df_cons (de_gI (by rfl) T.c_MOST_MANY) df_nil)))))
      (dss_cons (ds_expr (de_ent E_check_number (hr.mono (by decide)) (by rfl) (many_cons (many_cons (many_cons many_nil))) (df_cons (de_var 2) (df_cons (de_gI (by rfl) T.c_LEAST_PILES_tablework) (df_cons (de_gI (by rfl) T.c_MOST_PILES_tablework) df_nil)))))
      (dss_cons (ds_expr (de_ent E_check_height (hr.mono (by decide)) (by rfl) (many_cons (many_cons (many_cons many_nil))) (df_cons (de_var 3) (df_cons (de_var 1) (df_cons (de_var 2) df_nil)))))
      (dss_cons (ds_if (dt_not (dt_val (de_ent E_is_one_of (hr.mono (by decide)) (by rfl) (many_cons (many_cons many_nil)) (df_cons (de_var 4) (df_cons (de_gT rfl (by rfl) T.c_RULES) df_nil)))))
      (dss_one (ds_raise0 rfl))
      dss_nil)
      (dss_cons (ds_fld rfl T.wok (pv 0) (de_var 1) (ps_fld (pv 0) (de_var 1).pe rfl))
      (dss_cons (ds_fld rfl T.wok (pv 0) (de_var 2) (ps_fld (pv 0) (de_var 2).pe rfl))
      (dss_cons (ds_fld rfl T.wok (pv 0) (de_var 3) (ps_fld (pv 0) (de_var 3).pe rfl))
      (dss_cons (ds_fld rfl T.wok (pv 0) (de_var 4) (ps_fld (pv 0) (de_var 4).pe rfl))
      (dss_one (ds_fld rfl T.wok (pv 0) (de_tup (df_cons (de_var 1) (df_cons (de_var 2) (df_cons (de_var 3) (df_cons (de_var 4) df_nil))))) (ps_fld (pv 0) (de_tup (df_cons (de_var 1) (df_cons (de_var 2) (df_cons (de_var 3) (df_cons (de_var 4) df_nil))))).pe rfl)))))))))))
theorem k_law_made (T : TF K mg C0 xl) (E_Table : EntC P w K mg base "Table" "Table.__init__" C0 s_Table_init 5 ["self", "many", "piles", "height", "rule"] (spB (wW K C0 xl) false 5 m_Table_init)) {f : Addr} {fd : FuncData} (Fn : Fun K "_law_made" "_law_made" s_law_made f fd) : FnOk P w K mg base CX0 7 f fd ["table"] (spD (wW K C0 xl) false 1 m_law_made) := by
  refine fn_cold Fn sc_law_made rfl fun cdv A outer s H E B G0 hr => ?_
  have hu := hr.units
  exact (dss_one (ds_ret (de_makeE E_Table (hr.mono (by decide)) (by rfl) T.cls0 (many_cons (many_cons (many_cons (many_cons many_nil)))) (df_cons (de_ix (r_ix hu) (o_ix rfl) (de_var 0) de_int (fun _ _ => rfl)) (df_cons (de_ix (r_ix hu) (o_ix rfl) (de_var 0) de_int (fun _ _ => rfl)) (df_cons (de_ix (r_ix hu) (o_ix rfl) (de_var 0) de_int (fun _ _ => rfl)) (df_cons (de_ix (r_ix hu) (o_ix rfl) (de_var 0) de_int (fun _ _ => rfl)) df_nil)))))))
theorem e_law_made (T : TF K mg C0 xl) (E_Table : EntC P w K mg base "Table" "Table.__init__" C0 s_Table_init 5 ["self", "many", "piles", "height", "rule"] (spB (wW K C0 xl) false 5 m_Table_init)) (Fa : FunAt K mg "_law_made" s_law_made) : Ent P w K mg base "_law_made" s_law_made 7 ["table"] (spD (wW K C0 xl) false 1 m_law_made) := by
  obtain ⟨f, fd, h1, h2⟩ := Fa
  exact ⟨⟨f, fd, h1, h2, k_law_made T E_Table h2⟩, fun f fd F => F.binds fun _ _ _ _ _ _ us hl => match us, hl with | [_], _ => rfl⟩
theorem k_law_is_standing (T : TF K mg C0 xl)  {f : Addr} {fd : FuncData} (Fn : Fun K "_law_is_standing" "_law_is_standing" s_law_is_standing f fd) : FnOk P w K mg base CX0 1 f fd ["table", "row"] (spD (wW K C0 xl) false 2 m_law_is_standing) := by
  refine fn_cold Fn sc_law_is_standing rfl fun cdv A outer s H E B G0 hr => ?_
  have hu := hr.units
  exact (dss_one (ds_ret (de_cmp (r_eq hu) (o_eq rfl false) (de_lc (own := [("pile", 2)]) rfl sc_law_is_standing.nd (di_iter rfl (de_var 1)) (blkOk_by rfl) (fun _ _ _ _ _ _ => (dg_name (i := 2) sc_law_is_standing.nd)) (fun _ _ _ _ _ _ => (dts_one (dt_w (dw_or (dt_cmp r_gt o_cmp (de_callB cr_len (o_len rfl) (by rfl) T.b_len boot_len (da_cons (de_var 2) da_nil)) (de_ix (r_ix hu) (o_ix rfl) (de_var 0) de_int (fun _ _ => rfl)) mk_) (dw_or1 (dt_w (dw_and (dt_cmp (r_eq hu) (o_eq rfl false) (de_ix (r_ix hu) (o_ix rfl) (de_var 0) de_int (fun _ _ => rfl)) (de_str [108, 105, 103, 104, 116]) mk_) (dw_and1 (dt_cmp (r_ne hu) (o_eq rfl true) (de_callTy (cr_list rfl) (o_list rfl) (by rfl) T.b_list boot_list (da_cons (de_var 2) da_nil)) (de_rev rfl (de_callB (cr_sortedA hu rfl) (o_sortedA rfl) (by rfl) T.b_sorted boot_sorted (da_cons (de_var 2) da_nil))) mk_))))))))) (fun _ _ _ _ _ _ => (de_var 2)) (by decide)) (de_lst df_nil) mk_)))
theorem e_law_is_standing (T : TF K mg C0 xl)  (Fa : FunAt K mg "_law_is_standing" s_law_is_standing) : Ent P w K mg base "_law_is_standing" s_law_is_standing 1 ["table", "row"] (spD (wW K C0 xl) false 2 m_law_is_standing) := by
  obtain ⟨f, fd, h1, h2⟩ := Fa
  exact ⟨⟨f, fd, h1, h2, k_law_is_standing T  h2⟩, fun f fd F => F.binds fun _ _ _ _ _ _ us hl => match us, hl with | [_, _], _ => rfl⟩
theorem k_law_all (T : TF K mg C0 xl) (E_law_is_standing : Ent P w K mg base "_law_is_standing" s_law_is_standing 1 ["table", "row"] (spD (wW K C0 xl) false 2 m_law_is_standing)) {f : Addr} {fd : FuncData} (Fn : Fun K "_law_all" "_law_all" s_law_all f fd) : FnOk P w K mg base CX0 2 f fd ["table"] (spD (wW K C0 xl) false 1 m_law_all) := by
  refine fn_cold Fn sc_law_all rfl fun cdv A outer s H E B G0 hr => ?_
  have hu := hr.units
  exact (dss_cons (ds_set (i := 1) sc_law_all.nd (de_lst (df_cons (de_bin r_mul (o_mul rfl) (de_tup (df_cons (de_str []) df_nil)) (de_ix (r_ix hu) (o_ix rfl) (de_var 0) de_int (fun _ _ => rfl))) df_nil)))
      (dss_cons (ds_for PassesOwn.never rfl (di_iter rfl (de_sl rfl (de_str [97, 98, 99, 100, 101]) do_no (do_yes (de_ix (r_ix hu) (o_ix rfl) (de_var 0) de_int (fun _ _ => rfl))))) (dg_name (i := 2) sc_law_all.nd)
      (dss_cons (ds_set (i := 3) sc_law_all.nd (de_lst df_nil))
      (dss_cons (ds_for PassesOwn.never rfl (di_iter rfl (de_var 1)) (dg_name (i := 4) sc_law_all.nd)
      (dss_one (ds_for PassesOwn.never rfl (di_range1 (by rfl) T.b_range (da_cons (de_ix (r_ix hu) (o_ix rfl) (de_var 0) de_int (fun _ _ => rfl)) da_nil)) (dg_name (i := 5) sc_law_all.nd)
      (dss_one (ds_set (i := 3) sc_law_all.nd (de_bin r_add (o_add rfl) (de_var 3) (de_lc (own := [("spot", 6)]) rfl sc_law_all.nd (di_range1 (by rfl) T.b_range (da_cons (de_bin r_add (o_add rfl) (de_callB cr_len (o_len rfl) (by rfl) T.b_len boot_len (da_cons (de_ix (r_ix hu) (o_ix rfl) (de_var 4) (de_var 5) (fun _ _ => rfl)) da_nil)) de_int) da_nil)) (blkOk_by rfl) (fun _ _ _ _ _ _ => (dg_name (i := 6) sc_law_all.nd)) (fun _ _ _ _ _ _ => dts_nil) (fun _ _ _ _ _ _ => (de_bin r_add (o_add rfl) (de_bin r_add (o_add rfl) (de_sl rfl (de_var 4) do_no (do_yes (de_var 5))) (de_tup (df_cons (de_bin r_add (o_add rfl) (de_bin r_add (o_add rfl) (de_sl rfl (de_ix (r_ix hu) (o_ix rfl) (de_var 4) (de_var 5) (fun _ _ => rfl)) do_no (do_yes (de_var 6))) (de_var 2)) (de_sl rfl (de_ix (r_ix hu) (o_ix rfl) (de_var 4) (de_var 5) (fun _ _ => rfl)) (do_yes (de_var 6)) do_no)) df_nil))) (de_sl rfl (de_var 4) (do_yes (de_bin r_add (o_add rfl) (de_var 5) de_int)) do_no))) (by decide))))))))
      (dss_one (ds_set (i := 1) sc_law_all.nd (de_var 3))))))
      (dss_one (ds_ret (de_callB (cr_sortedA hu rfl) (o_sortedA rfl) (by rfl) T.b_sorted boot_sorted (da_cons (de_lc (own := [("row", 4)]) rfl sc_law_all.nd (di_iter rfl (de_var 1)) (blkOk_by rfl) (fun _ _ _ _ _ _ => (dg_name (i := 4) sc_law_all.nd)) (fun _ _ _ _ _ _ => (dts_one (dt_val (de_ent E_law_is_standing (hr.mono (by decide)) (by rfl) (many_cons (many_cons many_nil)) (df_cons (de_var 0) (df_cons (de_var 4) df_nil)))))) (fun _ _ _ _ _ _ => (de_var 4)) (by decide)) da_nil))))))
theorem e_law_all (T : TF K mg C0 xl) (E_law_is_standing : Ent P w K mg base "_law_is_standing" s_law_is_standing 1 ["table", "row"] (spD (wW K C0 xl) false 2 m_law_is_standing)) (Fa : FunAt K mg "_law_all" s_law_all) : Ent P w K mg base "_law_all" s_law_all 2 ["table"] (spD (wW K C0 xl) false 1 m_law_all) := by
  obtain ⟨f, fd, h1, h2⟩ := Fa
  exact ⟨⟨f, fd, h1, h2, k_law_all T E_law_is_standing h2⟩, fun f fd F => F.binds fun _ _ _ _ _ _ us hl => match us, hl with | [_], _ => rfl⟩
theorem k_law_same (T : TF K mg C0 xl)  (n : Nat) {f : Addr} {fd : FuncData} (Fn : Fun K "_law_same" "_law_same" s_law_same f fd) (E_law_same : Ent P w K mg base "_law_same" s_law_same (1 + n) ["told", "due"] (spD (wW K C0 xl) false 2 (m_law_same n))) : FnOk P w K mg base CX0 (1 + n + 1) f fd ["told", "due"] (spD (wW K C0 xl) false 2 (m_law_same (n + 1))) := by
  refine fn_cold Fn sc_law_same rfl fun cdv A outer s H E B G0 hr => ?_
  have hu := hr.units
  exact (dss_cons (ds_if (dt_w (dw_or (dt_val (de_isi rfl T.isi call_isi (by rfl) T.b_isinstance (de_var 1) (ty_b (by rfl) T.b_tuple boot_tuple))) (dw_or1 (dt_val (de_isi rfl T.isi call_isi (by rfl) T.b_isinstance (de_var 1) (ty_b (by rfl) T.b_list boot_list))))))
      (dss_cons (ds_set (i := 2) sc_law_same.nd (de_if (dt_val (de_isi rfl T.isi call_isi (by rfl) T.b_isinstance (de_var 1) (ty_b (by rfl) T.b_tuple boot_tuple))) (de_isi rfl T.isi call_isi (by rfl) T.b_isinstance (de_var 0) (ty_b (by rfl) T.b_tuple boot_tuple)) (de_isi rfl T.isi call_isi (by rfl) T.b_isinstance (de_var 0) (ty_b (by rfl) T.b_list boot_list))))
      (dss_one (ds_ret (de_and (de_var 2) (de_and (de_cmp (r_eqE hu) (o_eqE rfl) (de_callB cr_len (o_len rfl) (by rfl) T.b_len boot_len (da_cons (de_var 0) da_nil)) (de_callB cr_len (o_len rfl) (by rfl) T.b_len boot_len (da_cons (de_var 1) da_nil)) mk_) (de_one (de_callB (cr_all rfl) o_all (by rfl) T.b_all boot_all (da_cons (de_lc (own := [("k", 3)]) rfl sc_law_same.nd (di_range1 (by rfl) T.b_range (da_cons (de_callB cr_len (o_len rfl) (by rfl) T.b_len boot_len (da_cons (de_var 1) da_nil)) da_nil)) (blkOk_by rfl) (fun _ _ _ _ _ _ => (dg_name (i := 3) sc_law_same.nd)) (fun _ _ _ _ _ _ => dts_nil) (fun _ _ _ _ _ _ => (de_ent E_law_same (hr.mono (by omega)) (by rfl) (many_cons (many_cons many_nil)) (df_cons (de_ix (r_ix hu) (o_ix rfl) (de_var 0) (de_var 3) (fun _ _ => rfl)) (df_cons (de_ix (r_ix hu) (o_ix rfl) (de_var 1) (de_var 3) (fun _ _ => rfl)) df_nil)))) (by decide)) da_nil))))))))
      dss_nil)
      (dss_cons (ds_if (dt_cmp r_is (o_is false) (de_var 1) de_non mk_)
      (dss_one (ds_ret (de_cmp r_is (o_is false) (de_var 0) de_non mk_)))
      dss_nil)
      (dss_cons (ds_if (dt_val (de_isi rfl T.isi call_isi (by rfl) T.b_isinstance (de_var 1) (ty_b (by rfl) T.b_bool boot_bool)))
      (dss_one (ds_ret (de_and (de_isi rfl T.isi call_isi (by rfl) T.b_isinstance (de_var 0) (ty_b (by rfl) T.b_bool boot_bool)) (de_one (de_cmp (r_eqE hu) (o_eqE rfl) (de_var 0) (de_var 1) mk_)))))
      dss_nil)
      (dss_cons (ds_if (dt_val (de_isi rfl T.isi call_isi (by rfl) T.b_isinstance (de_var 1) (ty_b (by rfl) T.b_int boot_int)))
      (dss_one (ds_ret (de_and (de_isi rfl T.isi call_isi (by rfl) T.b_isinstance (de_var 0) (ty_b (by rfl) T.b_int boot_int)) (de_and (de_not (de_isi rfl T.isi call_isi (by rfl) T.b_isinstance (de_var 0) (ty_b (by rfl) T.b_bool boot_bool))) (de_one (de_cmp (r_eqE hu) (o_eqE rfl) (de_var 0) (de_var 1) mk_))))))
      dss_nil)
      (dss_cons (ds_if (dt_val (de_isi rfl T.isi call_isi (by rfl) T.b_isinstance (de_var 1) (ty_b (by rfl) T.b_str boot_str)))
      (dss_one (ds_ret (de_and (de_isi rfl T.isi call_isi (by rfl) T.b_isinstance (de_var 0) (ty_b (by rfl) T.b_str boot_str)) (de_one (de_cmp (r_eqE hu) (o_eqE rfl) (de_var 0) (de_var 1) mk_)))))
      dss_nil)
      (dss_one (ds_ret (de_cmp (r_eqE hu) (o_eqE rfl) (de_var 0) (de_var 1) mk_))))))))
theorem e_law_same (T : TF K mg C0 xl)  (Fa : FunAt K mg "_law_same" s_law_same) : ∀ n : Nat, Ent P w K mg base "_law_same" s_law_same (1 + n) ["told", "due"] (spD (wW K C0 xl) false 2 (m_law_same n))
  | 0 => by
    obtain ⟨f, fd, h1, h2⟩ := Fa
    exact ⟨⟨f, fd, h1, h2, ⟨fun vs H Q E h => h.1, fun A outer s H args us vs Q E _ _ _ _ ⟨_, ds, G, _, _, h⟩ => False.elim h⟩⟩, fun f fd F => F.binds fun _ _ _ _ _ _ us hl => match us, hl with | [_, _], _ => rfl⟩
  | n + 1 => by
    have ih := e_law_same T  Fa n
    obtain ⟨f, fd, h1, h2⟩ := Fa
    exact ⟨⟨f, fd, h1, h2, k_law_same T  n h2 ih⟩, ih.bd⟩
theorem k_law_bars (T : TF K mg C0 xl)  {f : Addr} {fd : FuncData} (Fn : Fun K "_law_bars" "_law_bars" s_law_bars f fd) : FnOk P w K mg base CX0 1 f fd ["standing"] (spD (wW K C0 xl) false 1 m_law_bars) := by
  refine fn_cold Fn sc_law_bars rfl fun cdv A outer s H E B G0 hr => ?_
  have hu := hr.units
  exact (dss_cons (ds_set (i := 1) sc_law_bars.nd (de_lst df_nil))
      (dss_cons (ds_for PassesOwn.never rfl (di_iter rfl (de_var 0)) (dg_name (i := 2) sc_law_bars.nd)
      (dss_one (ds_set (i := 1) sc_law_bars.nd (de_bin r_add (o_add rfl) (de_var 1) (de_lc (own := [("k", 3)]) rfl sc_law_bars.nd (di_range1 (by rfl) T.b_range (da_cons (de_callB cr_len (o_len rfl) (by rfl) T.b_len boot_len (da_cons (de_var 2) da_nil)) da_nil)) (blkOk_by rfl) (fun _ _ _ _ _ _ => (dg_name (i := 3) sc_law_bars.nd)) (fun _ _ _ _ _ _ => (dts_one (dt_w (dw_and (dt_cmp (r_ne hu) (o_eq rfl true) (de_sl rfl (de_var 2) do_no (do_yes (de_var 3))) (de_str []) mk_) (dw_and1 (dt_cmp r_lt o_cmp (de_callB (cr_minT hu rfl) (o_minT rfl) (by rfl) T.b_min boot_min (da_cons (de_sl rfl (de_var 2) do_no (do_yes (de_var 3))) da_nil)) (de_ix (r_ix hu) (o_ix rfl) (de_var 2) (de_var 3) (fun _ _ => rfl)) mk_)))))) (fun _ _ _ _ _ _ => (de_ix (r_ix hu) (o_ix rfl) (de_var 2) (de_var 3) (fun _ _ => rfl))) (by decide))))))
      (dss_one (ds_ret (de_join (de_str []) (de_callB (cr_sortedA hu rfl) (o_sortedA rfl) (by rfl) T.b_sorted boot_sorted (da_cons (de_var 1) da_nil)))))))
theorem e_law_bars (T : TF K mg C0 xl)  (Fa : FunAt K mg "_law_bars" s_law_bars) : Ent P w K mg base "_law_bars" s_law_bars 1 ["standing"] (spD (wW K C0 xl) false 1 m_law_bars) := by
  obtain ⟨f, fd, h1, h2⟩ := Fa
  exact ⟨⟨f, fd, h1, h2, k_law_bars T  h2⟩, fun f fd F => F.binds fun _ _ _ _ _ _ us hl => match us, hl with | [_], _ => rfl⟩
theorem k_check_table (T : TF K mg C0 xl)  {f : Addr} {fd : FuncData} (Fn : Fun K "check_table" "check_table" s_check_table f fd) : FnOk P w K mg base CX0 7 f fd ["table"] (spD (wW K C0 xl) false 1 m_check_table) := by
  refine fn_cold Fn sc_check_table rfl fun cdv A outer s H E B G0 hr => ?_
  have hu := hr.units
  exact (dss_one (ds_if (dt_not (dt_val (de_isi rfl T.isi call_isi (by rfl) T.b_isinstance (de_var 0) (ty_own (by rfl) T.gTable T.cls0))))
      (dss_one (ds_raise0 rfl))
      dss_nil))
theorem kh_check_table (T : TF K mg C0 xl) (XE_NotATable : ∃ C, xcOf xl 7 = some C ∧ XcE P w K mg base "NotATable" C) {f : Addr} {fd : FuncData} (Fn : Fun K "check_table" "check_table" s_check_table f fd) : FnOk P w K mg base (L2.CX P w) 7 f fd ["table"] (spD (wW K C0 xl) true 1 mh_check_table) := by
  obtain ⟨C_NotATable, xc_NotATable, xe_NotATable⟩ := XE_NotATable
  refine fn_hot Fn sc_check_table rfl fun cdv A outer s H E B G0 hr => ?_
  have hu := hr.units
  have tk := tk_hot (P := P) (w := w) (K := K) (mg := mg) (base := base) (N := ["table"]) (qual := "check_table") (st := s_check_table) (f := f) (cdv := cdv) (A := A) (outer := outer) (s := s) (H := H) (E := E)
  have px := px_of tk
  exact (dss_one (ds_if (dt_not (dt_val (de_isi rfl T.isi call_isi (by rfl) T.b_isinstance (de_var 0) (ty_own (by rfl) T.gTable T.cls0))))
      (dss_one (ds_raiseX rfl rfl tk xc_NotATable rfl xe_NotATable (hr.mono (by decide)) (by rfl) (many_cons many_nil) (df_cons (de_var 0) df_nil)))
      dss_nil))
theorem eh_check_table (T : TF K mg C0 xl) (XE_NotATable : ∃ C, xcOf xl 7 = some C ∧ XcE P w K mg base "NotATable" C) (Fa : FunAt K mg "check_table" s_check_table) : EntX P w K mg base "check_table" s_check_table 7 ["table"] (spD (wW K C0 xl) true 1 mh_check_table) := by
  obtain ⟨f, fd, h1, h2⟩ := Fa
  exact ⟨⟨f, fd, h1, h2, kh_check_table T XE_NotATable h2⟩, fun f fd F => F.binds fun _ _ _ _ _ _ us hl => match us, hl with | [_], _ => rfl⟩
theorem e_check_table (T : TF K mg C0 xl)  (Fa : FunAt K mg "check_table" s_check_table) : Ent P w K mg base "check_table" s_check_table 7 ["table"] (spD (wW K C0 xl) false 1 m_check_table) := by
  obtain ⟨f, fd, h1, h2⟩ := Fa
  exact ⟨⟨f, fd, h1, h2, k_check_table T  h2⟩, fun f fd F => F.binds fun _ _ _ _ _ _ us hl => match us, hl with | [_], _ => rfl⟩
theorem k_blocks_of (T : TF K mg C0 xl)  {f : Addr} {fd : FuncData} (Fn : Fun K "blocks_of" "blocks_of" s_blocks_of f fd) : FnOk P w K mg base CX0 1 f fd ["many"] (spD (wW K C0 xl) false 1 m_blocks_of) := by
  refine fn_cold Fn sc_blocks_of rfl fun cdv A outer s H E B G0 hr => ?_
  have hu := hr.units
  exact (dss_one (ds_ret (de_sl rfl (de_gS (by rfl) T.c_BLOCKS) do_no (do_yes (de_var 0)))))
theorem e_blocks_of (T : TF K mg C0 xl)  (Fa : FunAt K mg "blocks_of" s_blocks_of) : Ent P w K mg base "blocks_of" s_blocks_of 1 ["many"] (spD (wW K C0 xl) false 1 m_blocks_of) := by
  obtain ⟨f, fd, h1, h2⟩ := Fa
  exact ⟨⟨f, fd, h1, h2, k_blocks_of T  h2⟩, fun f fd F => F.binds fun _ _ _ _ _ _ us hl => match us, hl with | [_], _ => rfl⟩
theorem k_is_falling (T : TF K mg C0 xl)  {f : Addr} {fd : FuncData} (Fn : Fun K "is_falling" "is_falling" s_is_falling f fd) : FnOk P w K mg base CX0 1 f fd ["pile"] (spD (wW K C0 xl) false 1 m_is_falling) := by
  refine fn_cold Fn sc_is_falling rfl fun cdv A outer s H E B G0 hr => ?_
  have hu := hr.units
  exact (dss_one (ds_ret (de_callB (cr_all rfl) o_all (by rfl) T.b_all boot_all (da_cons (de_lc (own := [("index", 1)]) rfl sc_is_falling.nd (di_range2 (by rfl) T.b_range (da_cons de_int (da_cons (de_callB cr_len (o_len rfl) (by rfl) T.b_len boot_len (da_cons (de_var 0) da_nil)) da_nil))) (blkOk_by rfl) (fun _ _ _ _ _ _ => (dg_name (i := 1) sc_is_falling.nd)) (fun _ _ _ _ _ _ => dts_nil) (fun _ _ _ _ _ _ => (de_cmp r_lt o_cmp (de_ix (r_ix hu) (o_ix rfl) (de_var 0) (de_var 1) (fun _ _ => rfl)) (de_ix (r_ix hu) (o_ix rfl) (de_var 0) (de_bin op_sub o_sub (de_var 1) de_int) (fun _ _ => rfl)) mk_)) (by decide)) da_nil))))
theorem e_is_falling (T : TF K mg C0 xl)  (Fa : FunAt K mg "is_falling" s_is_falling) : Ent P w K mg base "is_falling" s_is_falling 1 ["pile"] (spD (wW K C0 xl) false 1 m_is_falling) := by
  obtain ⟨f, fd, h1, h2⟩ := Fa
  exact ⟨⟨f, fd, h1, h2, k_is_falling T  h2⟩, fun f fd F => F.binds fun _ _ _ _ _ _ us hl => match us, hl with | [_], _ => rfl⟩
theorem k_fits_rule (T : TF K mg C0 xl) (E_is_falling : Ent P w K mg base "is_falling" s_is_falling 1 ["pile"] (spD (wW K C0 xl) false 1 m_is_falling)) {f : Addr} {fd : FuncData} (Fn : Fun K "fits_rule" "fits_rule" s_fits_rule f fd) : FnOk P w K mg base CX0 2 f fd ["table", "pile"] (spD (wW K C0 xl) false 2 m_fits_rule) := by
  refine fn_cold Fn sc_fits_rule rfl fun cdv A outer s H E B G0 hr => ?_
  have hu := hr.units
  exact (dss_one (ds_ret (de_and (de_cmp r_le o_cmp (de_callB cr_len (o_len rfl) (by rfl) T.b_len boot_len (da_cons (de_var 1) da_nil)) (de_attr rfl T.wok (de_var 0)) mk_) (de_one (de_or (de_cmp (r_eq hu) (o_eq rfl false) (de_attr rfl T.wok (de_var 0)) (de_gS (by rfl) T.c_FREE) mk_) (de_one (de_ent E_is_falling (hr.mono (by decide)) (by rfl) (many_cons many_nil) (df_cons (de_var 1) df_nil))))))))
theorem e_fits_rule (T : TF K mg C0 xl) (E_is_falling : Ent P w K mg base "is_falling" s_is_falling 1 ["pile"] (spD (wW K C0 xl) false 1 m_is_falling)) (Fa : FunAt K mg "fits_rule" s_fits_rule) : Ent P w K mg base "fits_rule" s_fits_rule 2 ["table", "pile"] (spD (wW K C0 xl) false 2 m_fits_rule) := by
  obtain ⟨f, fd, h1, h2⟩ := Fa
  exact ⟨⟨f, fd, h1, h2, k_fits_rule T E_is_falling h2⟩, fun f fd F => F.binds fun _ _ _ _ _ _ us hl => match us, hl with | [_, _], _ => rfl⟩
theorem k_laid_everywhere (T : TF K mg C0 xl) (E_fits_rule : Ent P w K mg base "fits_rule" s_fits_rule 2 ["table", "pile"] (spD (wW K C0 xl) false 2 m_fits_rule)) {f : Addr} {fd : FuncData} (Fn : Fun K "laid_everywhere" "laid_everywhere" s_laid_everywhere f fd) : FnOk P w K mg base CX0 3 f fd ["table", "standing", "block"] (spD (wW K C0 xl) false 3 m_laid_everywhere) := by
  refine fn_cold Fn sc_laid_everywhere rfl fun cdv A outer s H E B G0 hr => ?_
  have hu := hr.units
  exact (dss_cons (ds_set (i := 3) sc_laid_everywhere.nd (de_lst df_nil))
      (dss_cons (ds_for PassesOwn.never rfl (di_enum rfl rfl (by rfl) T.b_enumerate (de_var 1)) (dg_tup rfl rfl (dgs_cons (dg_name (i := 4) sc_laid_everywhere.nd) (dgs_cons (dg_name (i := 5) sc_laid_everywhere.nd) dgs_nil)))
      (dss_one (ds_for PassesOwn.never rfl (di_range1 (by rfl) T.b_range (da_cons (de_bin r_add (o_add rfl) (de_callB cr_len (o_len rfl) (by rfl) T.b_len boot_len (da_cons (de_var 5) da_nil)) de_int) da_nil)) (dg_name (i := 6) sc_laid_everywhere.nd)
      (dss_cons (ds_set (i := 7) sc_laid_everywhere.nd (de_bin r_add (o_add rfl) (de_bin r_add (o_add rfl) (de_sl rfl (de_var 5) do_no (do_yes (de_var 6))) (de_var 2)) (de_sl rfl (de_var 5) (do_yes (de_var 6)) do_no)))
      (dss_one (ds_if (dt_val (de_ent E_fits_rule (hr.mono (by decide)) (by rfl) (many_cons (many_cons many_nil)) (df_cons (de_var 0) (df_cons (de_var 7) df_nil))))
      (dss_one (ds_expr (de_append rfl (pv 3) (de_bin r_add (o_add rfl) (de_bin r_add (o_add rfl) (de_sl rfl (de_var 1) do_no (do_yes (de_var 4))) (de_tup (df_cons (de_var 7) df_nil))) (de_sl rfl (de_var 1) (do_yes (de_bin r_add (o_add rfl) (de_var 4) de_int)) do_no)))))
      dss_nil))))))
      (dss_one (ds_ret (de_var 3)))))
theorem e_laid_everywhere (T : TF K mg C0 xl) (E_fits_rule : Ent P w K mg base "fits_rule" s_fits_rule 2 ["table", "pile"] (spD (wW K C0 xl) false 2 m_fits_rule)) (Fa : FunAt K mg "laid_everywhere" s_laid_everywhere) : Ent P w K mg base "laid_everywhere" s_laid_everywhere 3 ["table", "standing", "block"] (spD (wW K C0 xl) false 3 m_laid_everywhere) := by
  obtain ⟨f, fd, h1, h2⟩ := Fa
  exact ⟨⟨f, fd, h1, h2, k_laid_everywhere T E_fits_rule h2⟩, fun f fd F => F.binds fun _ _ _ _ _ _ us hl => match us, hl with | [_, _, _], _ => rfl⟩
theorem k_standings (T : TF K mg C0 xl) (E_blocks_of : Ent P w K mg base "blocks_of" s_blocks_of 1 ["many"] (spD (wW K C0 xl) false 1 m_blocks_of)) (E_laid_everywhere : Ent P w K mg base "laid_everywhere" s_laid_everywhere 3 ["table", "standing", "block"] (spD (wW K C0 xl) false 3 m_laid_everywhere)) {f : Addr} {fd : FuncData} (Fn : Fun K "standings" "standings" s_standings f fd) : FnOk P w K mg base CX0 4 f fd ["table"] (spD (wW K C0 xl) false 1 m_standings) := by
  refine fn_cold Fn sc_standings rfl fun cdv A outer s H E B G0 hr => ?_
  have hu := hr.units
  exact (dss_cons (ds_set (i := 1) sc_standings.nd (de_lst (df_cons (de_bin r_mul (o_mul rfl) (de_tup (df_cons (de_str []) df_nil)) (de_attr rfl T.wok (de_var 0))) df_nil)))
      (dss_cons (ds_for PassesOwn.never rfl (di_iter rfl (de_ent E_blocks_of (hr.mono (by decide)) (by rfl) (many_cons many_nil) (df_cons (de_attr rfl T.wok (de_var 0)) df_nil))) (dg_name (i := 2) sc_standings.nd)
      (dss_cons (ds_set (i := 3) sc_standings.nd (de_lst df_nil))
      (dss_cons (ds_for PassesOwn.never rfl (di_iter rfl (de_var 1)) (dg_name (i := 4) sc_standings.nd)
      (dss_one (ds_expr (de_extend rfl (pv 3) (de_ent E_laid_everywhere (hr.mono (by decide)) (by rfl) (many_cons (many_cons (many_cons many_nil))) (df_cons (de_var 0) (df_cons (de_var 4) (df_cons (de_var 2) df_nil))))))))
      (dss_one (ds_set (i := 1) sc_standings.nd (de_var 3))))))
      (dss_one (ds_ret (de_callB (cr_sortedA hu rfl) (o_sortedA rfl) (by rfl) T.b_sorted boot_sorted (da_cons (de_var 1) da_nil))))))
theorem e_standings (T : TF K mg C0 xl) (E_blocks_of : Ent P w K mg base "blocks_of" s_blocks_of 1 ["many"] (spD (wW K C0 xl) false 1 m_blocks_of)) (E_laid_everywhere : Ent P w K mg base "laid_everywhere" s_laid_everywhere 3 ["table", "standing", "block"] (spD (wW K C0 xl) false 3 m_laid_everywhere)) (Fa : FunAt K mg "standings" s_standings) : Ent P w K mg base "standings" s_standings 4 ["table"] (spD (wW K C0 xl) false 1 m_standings) := by
  obtain ⟨f, fd, h1, h2⟩ := Fa
  exact ⟨⟨f, fd, h1, h2, k_standings T E_blocks_of E_laid_everywhere h2⟩, fun f fd F => F.binds fun _ _ _ _ _ _ us hl => match us, hl with | [_], _ => rfl⟩
theorem k_does_bar (T : TF K mg C0 xl)  {f : Addr} {fd : FuncData} (Fn : Fun K "does_bar" "does_bar" s_does_bar f fd) : FnOk P w K mg base CX0 1 f fd ["pile", "index"] (spD (wW K C0 xl) false 2 m_does_bar) := by
  refine fn_cold Fn sc_does_bar rfl fun cdv A outer s H E B G0 hr => ?_
  have hu := hr.units
  exact (dss_one (ds_ret (de_cmp (r_ne hu) (o_eq rfl true) (de_lc (own := [("block", 2)]) rfl sc_does_bar.nd (di_iter rfl (de_sl rfl (de_var 0) do_no (do_yes (de_var 1)))) (blkOk_by rfl) (fun _ _ _ _ _ _ => (dg_name (i := 2) sc_does_bar.nd)) (fun _ _ _ _ _ _ => (dts_one (dt_cmp r_lt o_cmp (de_var 2) (de_ix (r_ix hu) (o_ix rfl) (de_var 0) (de_var 1) (fun _ _ => rfl)) mk_))) (fun _ _ _ _ _ _ => (de_var 2)) (by decide)) (de_lst df_nil) mk_)))
theorem e_does_bar (T : TF K mg C0 xl)  (Fa : FunAt K mg "does_bar" s_does_bar) : Ent P w K mg base "does_bar" s_does_bar 1 ["pile", "index"] (spD (wW K C0 xl) false 2 m_does_bar) := by
  obtain ⟨f, fd, h1, h2⟩ := Fa
  exact ⟨⟨f, fd, h1, h2, k_does_bar T  h2⟩, fun f fd F => F.binds fun _ _ _ _ _ _ us hl => match us, hl with | [_, _], _ => rfl⟩
theorem k_barring_in (T : TF K mg C0 xl) (E_does_bar : Ent P w K mg base "does_bar" s_does_bar 1 ["pile", "index"] (spD (wW K C0 xl) false 2 m_does_bar)) {f : Addr} {fd : FuncData} (Fn : Fun K "barring_in" "barring_in" s_barring_in f fd) : FnOk P w K mg base CX0 2 f fd ["piles"] (spD (wW K C0 xl) false 1 m_barring_in) := by
  refine fn_cold Fn sc_barring_in rfl fun cdv A outer s H E B G0 hr => ?_
  have hu := hr.units
  exact (dss_cons (ds_set (i := 1) sc_barring_in.nd (de_lst df_nil))
      (dss_cons (ds_for PassesOwn.never rfl (di_iter rfl (de_var 0)) (dg_name (i := 2) sc_barring_in.nd)
      (dss_one (ds_expr (de_extend rfl (pv 1) (de_lc (own := [("index", 3), ("block", 4)]) rfl sc_barring_in.nd (di_enumS (by rfl) rfl T.b_enumerate (de_var 2)) (blkOk_by rfl) (fun _ _ _ _ _ _ => (dg_tup rfl rfl (dgs_cons (dg_name (i := 3) sc_barring_in.nd) (dgs_cons (dg_name (i := 4) sc_barring_in.nd) dgs_nil)))) (fun _ _ _ _ _ _ => (dts_one (dt_val (de_ent E_does_bar (hr.mono (by decide)) (by rfl) (many_cons (many_cons many_nil)) (df_cons (de_var 2) (df_cons (de_var 3) df_nil)))))) (fun _ _ _ _ _ _ => (de_var 4)) (by decide))))))
      (dss_one (ds_ret (de_join (de_str []) (de_callB (cr_sortedA hu rfl) (o_sortedA rfl) (by rfl) T.b_sorted boot_sorted (da_cons (de_var 1) da_nil)))))))
theorem e_barring_in (T : TF K mg C0 xl) (E_does_bar : Ent P w K mg base "does_bar" s_does_bar 1 ["pile", "index"] (spD (wW K C0 xl) false 2 m_does_bar)) (Fa : FunAt K mg "barring_in" s_barring_in) : Ent P w K mg base "barring_in" s_barring_in 2 ["piles"] (spD (wW K C0 xl) false 1 m_barring_in) := by
  obtain ⟨f, fd, h1, h2⟩ := Fa
  exact ⟨⟨f, fd, h1, h2, k_barring_in T E_does_bar h2⟩, fun f fd F => F.binds fun _ _ _ _ _ _ us hl => match us, hl with | [_], _ => rfl⟩
theorem k_is_ready_by (T : TF K mg C0 xl) (E_barring_in : Ent P w K mg base "barring_in" s_barring_in 2 ["piles"] (spD (wW K C0 xl) false 1 m_barring_in)) {f : Addr} {fd : FuncData} (Fn : Fun K "is_ready_by" "is_ready_by" s_is_ready_by f fd) : FnOk P w K mg base CX0 3 f fd ["standing"] (spD (wW K C0 xl) false 1 m_is_ready_by) := by
  refine fn_cold Fn sc_is_ready_by rfl fun cdv A outer s H E B G0 hr => ?_
  have hu := hr.units
  exact (dss_one (ds_ret (de_cmp (r_eq hu) (o_eq rfl false) (de_ent E_barring_in (hr.mono (by decide)) (by rfl) (many_cons many_nil) (df_cons (de_var 0) df_nil)) (de_str []) mk_)))
theorem e_is_ready_by (T : TF K mg C0 xl) (E_barring_in : Ent P w K mg base "barring_in" s_barring_in 2 ["piles"] (spD (wW K C0 xl) false 1 m_barring_in)) (Fa : FunAt K mg "is_ready_by" s_is_ready_by) : Ent P w K mg base "is_ready_by" s_is_ready_by 3 ["standing"] (spD (wW K C0 xl) false 1 m_is_ready_by) := by
  obtain ⟨f, fd, h1, h2⟩ := Fa
  exact ⟨⟨f, fd, h1, h2, k_is_ready_by T E_barring_in h2⟩, fun f fd F => F.binds fun _ _ _ _ _ _ us hl => match us, hl with | [_], _ => rfl⟩
theorem k_ready_standings (T : TF K mg C0 xl) (E_standings : Ent P w K mg base "standings" s_standings 4 ["table"] (spD (wW K C0 xl) false 1 m_standings)) (E_is_ready_by : Ent P w K mg base "is_ready_by" s_is_ready_by 3 ["standing"] (spD (wW K C0 xl) false 1 m_is_ready_by)) {f : Addr} {fd : FuncData} (Fn : Fun K "ready_standings" "ready_standings" s_ready_standings f fd) : FnOk P w K mg base CX0 5 f fd ["table"] (spD (wW K C0 xl) false 1 m_ready_standings) := by
  refine fn_cold Fn sc_ready_standings rfl fun cdv A outer s H E B G0 hr => ?_
  have hu := hr.units
  exact (dss_one (ds_ret (de_lc (own := [("standing", 1)]) rfl sc_ready_standings.nd (di_iter rfl (de_ent E_standings (hr.mono (by decide)) (by rfl) (many_cons many_nil) (df_cons (de_var 0) df_nil))) (blkOk_by rfl) (fun _ _ _ _ _ _ => (dg_name (i := 1) sc_ready_standings.nd)) (fun _ _ _ _ _ _ => (dts_one (dt_val (de_ent E_is_ready_by (hr.mono (by decide)) (by rfl) (many_cons many_nil) (df_cons (de_var 1) df_nil))))) (fun _ _ _ _ _ _ => (de_var 1)) (by decide))))
theorem e_ready_standings (T : TF K mg C0 xl) (E_standings : Ent P w K mg base "standings" s_standings 4 ["table"] (spD (wW K C0 xl) false 1 m_standings)) (E_is_ready_by : Ent P w K mg base "is_ready_by" s_is_ready_by 3 ["standing"] (spD (wW K C0 xl) false 1 m_is_ready_by)) (Fa : FunAt K mg "ready_standings" s_ready_standings) : Ent P w K mg base "ready_standings" s_ready_standings 5 ["table"] (spD (wW K C0 xl) false 1 m_ready_standings) := by
  obtain ⟨f, fd, h1, h2⟩ := Fa
  exact ⟨⟨f, fd, h1, h2, k_ready_standings T E_standings E_is_ready_by h2⟩, fun f fd F => F.binds fun _ _ _ _ _ _ us hl => match us, hl with | [_], _ => rfl⟩
theorem k_how_many_ready (T : TF K mg C0 xl) (E_check_table : Ent P w K mg base "check_table" s_check_table 7 ["table"] (spD (wW K C0 xl) false 1 m_check_table)) (E_ready_standings : Ent P w K mg base "ready_standings" s_ready_standings 5 ["table"] (spD (wW K C0 xl) false 1 m_ready_standings)) {f : Addr} {fd : FuncData} (Fn : Fun K "how_many_ready" "how_many_ready" s_how_many_ready f fd) : FnOk P w K mg base CX0 8 f fd ["table"] (spD (wW K C0 xl) false 1 m_how_many_ready) := by
  refine fn_cold Fn sc_how_many_ready rfl fun cdv A outer s H E B G0 hr => ?_
  have hu := hr.units
  exact (dss_cons (ds_expr (de_ent E_check_table (hr.mono (by decide)) (by rfl) (many_cons many_nil) (df_cons (de_var 0) df_nil)))
      (dss_one (ds_ret (de_callB cr_len (o_len rfl) (by rfl) T.b_len boot_len (da_cons (de_ent E_ready_standings (hr.mono (by decide)) (by rfl) (many_cons many_nil) (df_cons (de_var 0) df_nil)) da_nil)))))
theorem kh_how_many_ready (T : TF K mg C0 xl) (E_ready_standings : Ent P w K mg base "ready_standings" s_ready_standings 5 ["table"] (spD (wW K C0 xl) false 1 m_ready_standings)) (H_check_table : EntX P w K mg base "check_table" s_check_table 7 ["table"] (spD (wW K C0 xl) true 1 mh_check_table)) {f : Addr} {fd : FuncData} (Fn : Fun K "how_many_ready" "how_many_ready" s_how_many_ready f fd) : FnOk P w K mg base (L2.CX P w) 8 f fd ["table"] (spD (wW K C0 xl) true 1 mh_how_many_ready) := by
  refine fn_hot Fn sc_how_many_ready rfl fun cdv A outer s H E B G0 hr => ?_
  have hu := hr.units
  have tk := tk_hot (P := P) (w := w) (K := K) (mg := mg) (base := base) (N := ["table"]) (qual := "how_many_ready") (st := s_how_many_ready) (f := f) (cdv := cdv) (A := A) (outer := outer) (s := s) (H := H) (E := E)
  have px := px_of tk
  exact (dss_cons (ds_expr (de_entx H_check_table (hr.mono (by decide)) (by rfl) (many_cons many_nil) (df_cons (de_var 0) df_nil) px))
      (dss_one (ds_ret (de_callB cr_len (o_len rfl) (by rfl) T.b_len boot_len (da_cons (de_entc E_ready_standings (hr.mono (by decide)) (by rfl) (many_cons many_nil) (df_cons (de_var 0) df_nil)) da_nil)))))
theorem eh_how_many_ready (T : TF K mg C0 xl) (E_ready_standings : Ent P w K mg base "ready_standings" s_ready_standings 5 ["table"] (spD (wW K C0 xl) false 1 m_ready_standings)) (H_check_table : EntX P w K mg base "check_table" s_check_table 7 ["table"] (spD (wW K C0 xl) true 1 mh_check_table)) (Fa : FunAt K mg "how_many_ready" s_how_many_ready) : EntX P w K mg base "how_many_ready" s_how_many_ready 8 ["table"] (spD (wW K C0 xl) true 1 mh_how_many_ready) := by
  obtain ⟨f, fd, h1, h2⟩ := Fa
  exact ⟨⟨f, fd, h1, h2, kh_how_many_ready T E_ready_standings H_check_table h2⟩, fun f fd F => F.binds fun _ _ _ _ _ _ us hl => match us, hl with | [_], _ => rfl⟩
theorem e_how_many_ready (T : TF K mg C0 xl) (E_check_table : Ent P w K mg base "check_table" s_check_table 7 ["table"] (spD (wW K C0 xl) false 1 m_check_table)) (E_ready_standings : Ent P w K mg base "ready_standings" s_ready_standings 5 ["table"] (spD (wW K C0 xl) false 1 m_ready_standings)) (Fa : FunAt K mg "how_many_ready" s_how_many_ready) : Ent P w K mg base "how_many_ready" s_how_many_ready 8 ["table"] (spD (wW K C0 xl) false 1 m_how_many_ready) := by
  obtain ⟨f, fd, h1, h2⟩ := Fa
  exact ⟨⟨f, fd, h1, h2, k_how_many_ready T E_check_table E_ready_standings h2⟩, fun f fd F => F.binds fun _ _ _ _ _ _ us hl => match us, hl with | [_], _ => rfl⟩
theorem k_is_pile (T : TF K mg C0 xl)  {f : Addr} {fd : FuncData} (Fn : Fun K "is_pile" "is_pile" s_is_pile f fd) : FnOk P w K mg base CX0 1 f fd ["ahead", "value"] (spD (wW K C0 xl) false 2 m_is_pile) := by
  refine fn_cold Fn sc_is_pile rfl fun cdv A outer s H E B G0 hr => ?_
  have hu := hr.units
  exact (dss_one (ds_ret (de_isi rfl T.isi call_isi (by rfl) T.b_isinstance (de_var 1) (ty_b (by rfl) T.b_str boot_str))))
theorem e_is_pile (T : TF K mg C0 xl)  (Fa : FunAt K mg "is_pile" s_is_pile) : Ent P w K mg base "is_pile" s_is_pile 1 ["ahead", "value"] (spD (wW K C0 xl) false 2 m_is_pile) := by
  obtain ⟨f, fd, h1, h2⟩ := Fa
  exact ⟨⟨f, fd, h1, h2, k_is_pile T  h2⟩, fun f fd F => F.binds fun _ _ _ _ _ _ us hl => match us, hl with | [_, _], _ => rfl⟩
theorem k_wrong_in (T : TF K mg C0 xl) (E_is_pile : Ent P w K mg base "is_pile" s_is_pile 1 ["ahead", "value"] (spD (wW K C0 xl) false 2 m_is_pile)) {f : Addr} {fd : FuncData} (Fn : Fun K "wrong_in" "wrong_in" s_wrong_in f fd) : FnOk P w K mg base CX0 2 f fd ["value", "least", "most", "is_right"] (spD (wW K C0 xl) false 4 m_wrong_in) := by
  refine fn_cold Fn sc_wrong_in rfl fun cdv A outer s H E B G0 hr => ?_
  have hu := hr.units
  exact (dss_cons (ds_if (dt_w (dw_or (dt_not (dt_val (de_isi rfl T.isi call_isi (by rfl) T.b_isinstance (de_var 0) (ty_b (by rfl) T.b_tuple boot_tuple)))) (dw_or1 (dt_cmp r_lt o_cmp (de_callB cr_len (o_len rfl) (by rfl) T.b_len boot_len (da_cons (de_var 0) da_nil)) (de_var 1) mk_))))
      (dss_one (ds_ret (de_lst (df_cons de_non df_nil))))
      dss_nil)
      (dss_cons (ds_for PassesOwn.never rfl (di_enum rfl rfl (by rfl) T.b_enumerate (de_var 0)) (dg_tup rfl rfl (dgs_cons (dg_name (i := 4) sc_wrong_in.nd) (dgs_cons (dg_name (i := 5) sc_wrong_in.nd) dgs_nil)))
      (dss_one (ds_if (dt_w (dw_or (dt_cmp (r_eq hu) (o_eq rfl false) (de_var 4) (de_var 2) mk_) (dw_or1 (dt_not (dt_val (de_pick (de_at E_is_pile T.fv_is_pile (hr.mono (by decide)) (pv 3) (many_cons (many_cons many_nil)) (df_cons (de_sl rfl (de_var 0) do_no (do_yes (de_var 4))) (df_cons (de_var 5) df_nil))) de_sst))))))
      (dss_one (ds_ret (de_lst (df_cons (de_var 4) df_nil))))
      dss_nil)))
      (dss_one (ds_ret (de_lst df_nil)))))
theorem e_wrong_in (T : TF K mg C0 xl) (E_is_pile : Ent P w K mg base "is_pile" s_is_pile 1 ["ahead", "value"] (spD (wW K C0 xl) false 2 m_is_pile)) (Fa : FunAt K mg "wrong_in" s_wrong_in) : Ent P w K mg base "wrong_in" s_wrong_in 2 ["value", "least", "most", "is_right"] (spD (wW K C0 xl) false 4 m_wrong_in) := by
  obtain ⟨f, fd, h1, h2⟩ := Fa
  exact ⟨⟨f, fd, h1, h2, k_wrong_in T E_is_pile h2⟩, fun f fd F => F.binds fun _ _ _ _ _ _ us hl => match us, hl with | [_, _, _, _], _ => rfl⟩
theorem k_are_all (T : TF K mg C0 xl) (E_wrong_in : Ent P w K mg base "wrong_in" s_wrong_in 2 ["value", "least", "most", "is_right"] (spD (wW K C0 xl) false 4 m_wrong_in)) {f : Addr} {fd : FuncData} (Fn : Fun K "are_all" "are_all" s_are_all f fd) : FnOk P w K mg base CX0 3 f fd ["value", "least", "most", "is_right"] (spD (wW K C0 xl) false 4 m_are_all) := by
  refine fn_cold Fn sc_are_all rfl fun cdv A outer s H E B G0 hr => ?_
  have hu := hr.units
  exact (dss_one (ds_ret (de_cmp (r_eq hu) (o_eq rfl false) (de_ent E_wrong_in (hr.mono (by decide)) (by rfl) (many_cons (many_cons (many_cons (many_cons many_nil)))) (df_cons (de_var 0) (df_cons (de_var 1) (df_cons (de_var 2) (df_cons (de_var 3) df_nil))))) (de_lst df_nil) mk_)))
theorem e_are_all (T : TF K mg C0 xl) (E_wrong_in : Ent P w K mg base "wrong_in" s_wrong_in 2 ["value", "least", "most", "is_right"] (spD (wW K C0 xl) false 4 m_wrong_in)) (Fa : FunAt K mg "are_all" s_are_all) : Ent P w K mg base "are_all" s_are_all 3 ["value", "least", "most", "is_right"] (spD (wW K C0 xl) false 4 m_are_all) := by
  obtain ⟨f, fd, h1, h2⟩ := Fa
  exact ⟨⟨f, fd, h1, h2, k_are_all T E_wrong_in h2⟩, fun f fd F => F.binds fun _ _ _ _ _ _ us hl => match us, hl with | [_, _, _, _], _ => rfl⟩
theorem k_are_all_blocks (T : TF K mg C0 xl) (E_are_all : Ent P w K mg base "are_all" s_are_all 3 ["value", "least", "most", "is_right"] (spD (wW K C0 xl) false 4 m_are_all)) (E_is_between : Ent P w K mg base "is_between" s_is_between 2 ["value", "least", "most"] (spD (wW K C0 xl) false 3 m_is_between)) {f : Addr} {fd : FuncData} (Fn : Fun K "are_all_blocks" "are_all_blocks" s_are_all_blocks f fd) : FnOk P w K mg base CX0 4 f fd ["value"] (spD (wW K C0 xl) false 1 m_are_all_blocks) := by
  refine fn_cold Fn sc_are_all_blocks rfl fun cdv A outer s H E B G0 hr => ?_
  have hu := hr.units
  exact (dss_cons (ds_if (dt_not (dt_val (de_ent E_are_all (hr.mono (by decide)) (by rfl) (many_cons (many_cons (many_cons (many_cons many_nil)))) (df_cons (de_var 0) (df_cons (de_gI (by rfl) T.c_LEAST_PILES_takework) (df_cons (de_gI (by rfl) T.c_MOST_PILES_takework) (df_cons (de_fnc (by rfl) T.fv_is_pile) df_nil)))))))
      (dss_one (ds_ret de_bl))
      dss_nil)
      (dss_cons (ds_set (i := 1) sc_are_all_blocks.nd (de_join (de_str []) (de_callB (cr_sortedA hu rfl) (o_sortedA rfl) (by rfl) T.b_sorted boot_sorted (da_cons (de_callTy (cr_list rfl) (o_list rfl) (by rfl) T.b_list boot_list (da_cons (de_join (de_str []) (de_var 0)) da_nil)) da_nil))))
      (dss_one (ds_ret (de_and (de_ent E_is_between (hr.mono (by decide)) (by rfl) (many_cons (many_cons (many_cons many_nil))) (df_cons (de_callB cr_len (o_len rfl) (by rfl) T.b_len boot_len (da_cons (de_var 1) da_nil)) (df_cons de_int (df_cons (de_gI (by rfl) T.c_MOST_BLOCKS) df_nil)))) (de_one (de_cmp (r_eq hu) (o_eq rfl false) (de_var 1) (de_sl rfl (de_gS (by rfl) T.c_BLOCKS) do_no (do_yes (de_callB cr_len (o_len rfl) (by rfl) T.b_len boot_len (da_cons (de_var 1) da_nil)))) mk_)))))))
theorem e_are_all_blocks (T : TF K mg C0 xl) (E_are_all : Ent P w K mg base "are_all" s_are_all 3 ["value", "least", "most", "is_right"] (spD (wW K C0 xl) false 4 m_are_all)) (E_is_between : Ent P w K mg base "is_between" s_is_between 2 ["value", "least", "most"] (spD (wW K C0 xl) false 3 m_is_between)) (Fa : FunAt K mg "are_all_blocks" s_are_all_blocks) : Ent P w K mg base "are_all_blocks" s_are_all_blocks 4 ["value"] (spD (wW K C0 xl) false 1 m_are_all_blocks) := by
  obtain ⟨f, fd, h1, h2⟩ := Fa
  exact ⟨⟨f, fd, h1, h2, k_are_all_blocks T E_are_all E_is_between h2⟩, fun f fd F => F.binds fun _ _ _ _ _ _ us hl => match us, hl with | [_], _ => rfl⟩
theorem k_check_blocks (T : TF K mg C0 xl) (E_are_all_blocks : Ent P w K mg base "are_all_blocks" s_are_all_blocks 4 ["value"] (spD (wW K C0 xl) false 1 m_are_all_blocks)) {f : Addr} {fd : FuncData} (Fn : Fun K "check_blocks" "check_blocks" s_check_blocks f fd) : FnOk P w K mg base CX0 5 f fd ["standing"] (spD (wW K C0 xl) false 1 m_check_blocks) := by
  refine fn_cold Fn sc_check_blocks rfl fun cdv A outer s H E B G0 hr => ?_
  have hu := hr.units
  exact (dss_one (ds_if (dt_not (dt_val (de_ent E_are_all_blocks (hr.mono (by decide)) (by rfl) (many_cons many_nil) (df_cons (de_var 0) df_nil))))
      (dss_one (ds_raise0 rfl))
      dss_nil))
theorem kh_check_blocks (T : TF K mg C0 xl) (E_are_all_blocks : Ent P w K mg base "are_all_blocks" s_are_all_blocks 4 ["value"] (spD (wW K C0 xl) false 1 m_are_all_blocks)) (XE_InvalidStanding : ∃ C, xcOf xl 2 = some C ∧ XcE P w K mg base "InvalidStanding" C) {f : Addr} {fd : FuncData} (Fn : Fun K "check_blocks" "check_blocks" s_check_blocks f fd) : FnOk P w K mg base (L2.CX P w) 5 f fd ["standing"] (spD (wW K C0 xl) true 1 mh_check_blocks) := by
  obtain ⟨C_InvalidStanding, xc_InvalidStanding, xe_InvalidStanding⟩ := XE_InvalidStanding
  refine fn_hot Fn sc_check_blocks rfl fun cdv A outer s H E B G0 hr => ?_
  have hu := hr.units
  have tk := tk_hot (P := P) (w := w) (K := K) (mg := mg) (base := base) (N := ["standing"]) (qual := "check_blocks") (st := s_check_blocks) (f := f) (cdv := cdv) (A := A) (outer := outer) (s := s) (H := H) (E := E)
  have px := px_of tk
  exact (dss_one (ds_if (dt_not (dt_val (de_entc E_are_all_blocks (hr.mono (by decide)) (by rfl) (many_cons many_nil) (df_cons (de_var 0) df_nil))))
      (dss_one (ds_raiseX rfl rfl tk xc_InvalidStanding rfl xe_InvalidStanding (hr.mono (by decide)) (by rfl) (many_cons many_nil) (df_cons (de_var 0) df_nil)))
      dss_nil))
theorem eh_check_blocks (T : TF K mg C0 xl) (E_are_all_blocks : Ent P w K mg base "are_all_blocks" s_are_all_blocks 4 ["value"] (spD (wW K C0 xl) false 1 m_are_all_blocks)) (XE_InvalidStanding : ∃ C, xcOf xl 2 = some C ∧ XcE P w K mg base "InvalidStanding" C) (Fa : FunAt K mg "check_blocks" s_check_blocks) : EntX P w K mg base "check_blocks" s_check_blocks 5 ["standing"] (spD (wW K C0 xl) true 1 mh_check_blocks) := by
  obtain ⟨f, fd, h1, h2⟩ := Fa
  exact ⟨⟨f, fd, h1, h2, kh_check_blocks T E_are_all_blocks XE_InvalidStanding h2⟩, fun f fd F => F.binds fun _ _ _ _ _ _ us hl => match us, hl with | [_], _ => rfl⟩
theorem e_check_blocks (T : TF K mg C0 xl) (E_are_all_blocks : Ent P w K mg base "are_all_blocks" s_are_all_blocks 4 ["value"] (spD (wW K C0 xl) false 1 m_are_all_blocks)) (Fa : FunAt K mg "check_blocks" s_check_blocks) : Ent P w K mg base "check_blocks" s_check_blocks 5 ["standing"] (spD (wW K C0 xl) false 1 m_check_blocks) := by
  obtain ⟨f, fd, h1, h2⟩ := Fa
  exact ⟨⟨f, fd, h1, h2, k_check_blocks T E_are_all_blocks h2⟩, fun f fd F => F.binds fun _ _ _ _ _ _ us hl => match us, hl with | [_], _ => rfl⟩
theorem k_is_ready (T : TF K mg C0 xl) (E_check_blocks : Ent P w K mg base "check_blocks" s_check_blocks 5 ["standing"] (spD (wW K C0 xl) false 1 m_check_blocks)) (E_is_ready_by : Ent P w K mg base "is_ready_by" s_is_ready_by 3 ["standing"] (spD (wW K C0 xl) false 1 m_is_ready_by)) {f : Addr} {fd : FuncData} (Fn : Fun K "is_ready" "is_ready" s_is_ready f fd) : FnOk P w K mg base CX0 6 f fd ["standing"] (spD (wW K C0 xl) false 1 m_is_ready) := by
  refine fn_cold Fn sc_is_ready rfl fun cdv A outer s H E B G0 hr => ?_
  have hu := hr.units
  exact (dss_cons (ds_expr (de_ent E_check_blocks (hr.mono (by decide)) (by rfl) (many_cons many_nil) (df_cons (de_var 0) df_nil)))
      (dss_one (ds_ret (de_ent E_is_ready_by (hr.mono (by decide)) (by rfl) (many_cons many_nil) (df_cons (de_var 0) df_nil)))))
theorem kh_is_ready (T : TF K mg C0 xl) (E_is_ready_by : Ent P w K mg base "is_ready_by" s_is_ready_by 3 ["standing"] (spD (wW K C0 xl) false 1 m_is_ready_by)) (H_check_blocks : EntX P w K mg base "check_blocks" s_check_blocks 5 ["standing"] (spD (wW K C0 xl) true 1 mh_check_blocks)) {f : Addr} {fd : FuncData} (Fn : Fun K "is_ready" "is_ready" s_is_ready f fd) : FnOk P w K mg base (L2.CX P w) 6 f fd ["standing"] (spD (wW K C0 xl) true 1 mh_is_ready) := by
  refine fn_hot Fn sc_is_ready rfl fun cdv A outer s H E B G0 hr => ?_
  have hu := hr.units
  have tk := tk_hot (P := P) (w := w) (K := K) (mg := mg) (base := base) (N := ["standing"]) (qual := "is_ready") (st := s_is_ready) (f := f) (cdv := cdv) (A := A) (outer := outer) (s := s) (H := H) (E := E)
  have px := px_of tk
  exact (dss_cons (ds_expr (de_entx H_check_blocks (hr.mono (by decide)) (by rfl) (many_cons many_nil) (df_cons (de_var 0) df_nil) px))
      (dss_one (ds_ret (de_entc E_is_ready_by (hr.mono (by decide)) (by rfl) (many_cons many_nil) (df_cons (de_var 0) df_nil)))))
theorem eh_is_ready (T : TF K mg C0 xl) (E_is_ready_by : Ent P w K mg base "is_ready_by" s_is_ready_by 3 ["standing"] (spD (wW K C0 xl) false 1 m_is_ready_by)) (H_check_blocks : EntX P w K mg base "check_blocks" s_check_blocks 5 ["standing"] (spD (wW K C0 xl) true 1 mh_check_blocks)) (Fa : FunAt K mg "is_ready" s_is_ready) : EntX P w K mg base "is_ready" s_is_ready 6 ["standing"] (spD (wW K C0 xl) true 1 mh_is_ready) := by
  obtain ⟨f, fd, h1, h2⟩ := Fa
  exact ⟨⟨f, fd, h1, h2, kh_is_ready T E_is_ready_by H_check_blocks h2⟩, fun f fd F => F.binds fun _ _ _ _ _ _ us hl => match us, hl with | [_], _ => rfl⟩
theorem e_is_ready (T : TF K mg C0 xl) (E_check_blocks : Ent P w K mg base "check_blocks" s_check_blocks 5 ["standing"] (spD (wW K C0 xl) false 1 m_check_blocks)) (E_is_ready_by : Ent P w K mg base "is_ready_by" s_is_ready_by 3 ["standing"] (spD (wW K C0 xl) false 1 m_is_ready_by)) (Fa : FunAt K mg "is_ready" s_is_ready) : Ent P w K mg base "is_ready" s_is_ready 6 ["standing"] (spD (wW K C0 xl) false 1 m_is_ready) := by
  obtain ⟨f, fd, h1, h2⟩ := Fa
  exact ⟨⟨f, fd, h1, h2, k_is_ready T E_check_blocks E_is_ready_by h2⟩, fun f fd F => F.binds fun _ _ _ _ _ _ us hl => match us, hl with | [_], _ => rfl⟩
theorem k_law_right (T : TF K mg C0 xl) (E_law_odd_table : Ent P w K mg base "_law_odd_table" s_law_odd_table 3 ["jar", "table"] (spB (wW K C0 xl) false 2 m_law_odd_table)) (E_law_of : Ent P w K mg base "_law_of" s_law_of 2 ["jar", "some"] (spB (wW K C0 xl) false 2 m_law_of)) (E_law_table : Ent P w K mg base "_law_table" s_law_table 3 ["jar", "most", "piles"] (spB (wW K C0 xl) false 3 m_law_table)) (E_law_made : Ent P w K mg base "_law_made" s_law_made 7 ["table"] (spD (wW K C0 xl) false 1 m_law_made)) (E_law_all : Ent P w K mg base "_law_all" s_law_all 2 ["table"] (spD (wW K C0 xl) false 1 m_law_all)) (E_law_same : Ent P w K mg base "_law_same" s_law_same 9 ["told", "due"] (spD (wW K C0 xl) false 2 (m_law_same 8))) (E_law_bars : Ent P w K mg base "_law_bars" s_law_bars 1 ["standing"] (spD (wW K C0 xl) false 1 m_law_bars)) (E_how_many_ready : Ent P w K mg base "how_many_ready" s_how_many_ready 8 ["table"] (spD (wW K C0 xl) false 1 m_how_many_ready)) (E_is_ready : Ent P w K mg base "is_ready" s_is_ready 6 ["standing"] (spD (wW K C0 xl) false 1 m_is_ready)) (H_how_many_ready : EntX P w K mg base "how_many_ready" s_how_many_ready 8 ["table"] (spD (wW K C0 xl) true 1 mh_how_many_ready)) (H_is_ready : EntX P w K mg base "is_ready" s_is_ready 6 ["standing"] (spD (wW K C0 xl) true 1 mh_is_ready)) (FA : FunAt K mg "_law_kept" s_law_kept) {Pt c : Addr} (TB : LamX.TabB base mg c Pt) {f : Addr} {fd : FuncData} (Fn : Fun K "_law_right" "_law_right" s_law_right f fd) (hcd : fd.code = .ref c) : FnOk P w K mg base CX0 12 f fd ["jar"] (spBT (wW K C0 xl) [(Pt, lamQ)] 1 m_law_right) := by
  refine fn_coldBT (List.cons_ne_nil _ _) Fn hcd sc_law_right rfl fun A outer s H E B G0 a hr => ?_
  have hu := hr.units
  have kp : KeptE (cx0 P w K mg base ["jar", "lap", "table", "made", "every", "due", "standing", "turn", "fine", "bad", "odd", "told"] "_law_right" s_law_right f (.ref c) A outer s H E) (wW K C0 xl) "_law_kept" wordOf noneW := kept_mk FA sc_law_kept rfl (.inl rfl) (fun _ _ _ _ _ _ us hl => match us, hl with | [_], _ => rfl) fun g cdg q => g_law_kept T (hr.mono (by decide)) g cdg q
  exact (dss_cons (ds_for PassesOwn.never rfl (di_range1 (by rfl) T.b_range (da_cons de_int da_nil)) (dg_name (i := 1) sc_law_right.nd)
      (dss_cons (ds_set (i := 2) sc_law_right.nd (de_if (dt_cmp r_lt o_cmp (de_var 1) de_int mk_) (de_entB E_law_table (hr.mono (by decide)) (by rfl) (many_cons (many_cons many_nil)) (pv 0) (df_cons de_int (df_cons de_int df_nil))) (de_entB E_law_table (hr.mono (by decide)) (by rfl) (many_cons (many_cons many_nil)) (pv 0) (df_cons de_int (df_cons de_int df_nil)))))
      (dss_cons (ds_par2 rfl sc_law_right.nd (dm_cons (de_ent E_law_made (hr.mono (by decide)) (by rfl) (many_cons many_nil) (df_cons (de_var 2) df_nil)) fun _ => (dm_cons (de_ent E_law_all (hr.mono (by decide)) (by rfl) (many_cons many_nil) (df_cons (de_var 2) df_nil)) fun _ => dm_nil)))
      (dss_cons (ds_set (i := 5) sc_law_right.nd (de_callB cr_len (o_len rfl) (by rfl) T.b_len boot_len (da_cons (de_lc (own := [("standing", 6)]) rfl sc_law_right.nd (di_iter rfl (de_var 4)) (blkOk_by rfl) (fun _ _ _ _ _ _ => (dg_name (i := 6) sc_law_right.nd)) (fun _ _ _ _ _ _ => (dts_one (dt_cmp (r_eq hu) (o_eq rfl false) (de_ent E_law_bars (hr.mono (by decide)) (by rfl) (many_cons many_nil) (df_cons (de_var 6) df_nil)) (de_str []) mk_))) (fun _ _ _ _ _ _ => (de_var 6)) (by decide)) da_nil)))
      (dss_cons (ds_if (dt_not (dt_val (de_ent E_law_same (hr.mono (by decide)) (by rfl) (many_cons (many_cons many_nil)) (df_cons (de_lst (df_cons (de_ent E_how_many_ready (hr.mono (by decide)) (by rfl) (many_cons many_nil) (df_cons (de_var 3) df_nil)) (df_cons (de_entK0 (ks := ["table"]) (p := [0]) E_how_many_ready (hr.mono (by decide)) (by rfl) (fun _ _ _ _ _ _ us ws h1 h2 => match us, ws, h1, h2 with | [], [_], _, _ => rfl) (many_cons many_nil) rfl (fun xs h => sel_len (by decide) (by decide +kernel) h) (dk_cons (de_var 3) dk_nil)) df_nil))) (df_cons (de_lst (df_cons (de_var 5) (df_cons (de_var 5) df_nil))) df_nil)))))
      (dss_one (ds_ret de_bl))
      dss_nil)
      (dss_cons (ds_for PassesOwn.never rfl (di_range1 (by rfl) T.b_range (da_cons de_int da_nil)) (dg_name (i := 7) sc_law_right.nd)
      (dss_cons (ds_set (i := 6) sc_law_right.nd (de_entB E_law_of (hr.mono (by decide)) (by rfl) (many_cons many_nil) (pv 0) (df_cons (de_var 4) df_nil)))
      (dss_cons (ds_set (i := 8) sc_law_right.nd (de_cmp (r_eq hu) (o_eq rfl false) (de_ent E_law_bars (hr.mono (by decide)) (by rfl) (many_cons many_nil) (df_cons (de_var 6) df_nil)) (de_str []) mk_))
      (dss_one (ds_if (dt_not (dt_val (de_ent E_law_same (hr.mono (by decide)) (by rfl) (many_cons (many_cons many_nil)) (df_cons (de_lst (df_cons (de_ent E_is_ready (hr.mono (by decide)) (by rfl) (many_cons many_nil) (df_cons (de_var 6) df_nil)) (df_cons (de_entK0 (ks := ["standing"]) (p := [0]) E_is_ready (hr.mono (by decide)) (by rfl) (fun _ _ _ _ _ _ us ws h1 h2 => match us, ws, h1, h2 with | [], [_], _, _ => rfl) (many_cons many_nil) rfl (fun xs h => sel_len (by decide) (by decide +kernel) h) (dk_cons (de_var 6) dk_nil)) df_nil))) (df_cons (de_lst (df_cons (de_var 8) (df_cons (de_var 8) df_nil))) df_nil)))))
      (dss_one (ds_ret de_bl))
      dss_nil)))))
      (dss_cons (ds_set (i := 9) sc_law_right.nd (de_entB E_law_odd_table (hr.mono (by decide)) (by rfl) (many_cons many_nil) (pv 0) (df_cons (de_var 2) df_nil)))
      (dss_cons (ds_set (i := 10) sc_law_right.nd (de_entB E_law_of (hr.mono (by decide)) (by rfl) (many_cons many_nil) (pv 0) (df_cons (de_tup (df_cons de_non (df_cons de_int (df_cons (de_str [97, 98, 99]) (df_cons (de_callTy (cr_list rfl) (o_list rfl) (by rfl) T.b_list boot_list (da_cons (de_var 6) da_nil)) (df_cons (de_tup (df_cons (de_str [97, 98, 99]) df_nil)) (df_cons (de_tup (df_cons (de_str [97]) (df_cons (de_str [98]) (df_cons (de_str [99]) (df_cons (de_str [100]) (df_cons (de_str [101]) df_nil)))))) (df_cons (de_tup (df_cons (de_str [97, 99]) (df_cons (de_str []) df_nil))) (df_cons (de_tup (df_cons (de_str [97, 98]) (df_cons (de_str [98]) df_nil))) (df_cons (de_tup (df_cons (de_str [97]) (df_cons de_int df_nil))) (df_cons de_dnK (df_cons (de_tup (df_cons (de_str [97, 66]) (df_cons (de_str []) df_nil))) df_nil)))))))))))) df_nil)))
      (dss_cons (ds_set (i := 11) sc_law_right.nd (de_lst (df_cons (de_keptE (k := 9) (fz := [9]) kp rfl wordOf_x (by rfl) TB rfl (hr.mono (by decide)) (LamX.lamS_by (by rfl)) rfl (fun _ _ _ _ _ => rfl) (fun A outer s H E f c' B G0 hr px => by
          have hu := hr.units
          exact (de_entx H_how_many_ready (hr.mono (by decide)) (by rfl) (many_cons many_nil) (df_cons (de_var 9) df_nil) px))) df_nil)))
      (dss_cons (ds_expr (de_append rfl (pv 11) (de_keptE (k := 9) (fz := [10]) kp rfl wordOf_x (by rfl) TB rfl (hr.mono (by decide)) (LamX.lamS_by (by rfl)) rfl (fun _ _ _ _ _ => rfl) (fun A outer s H E f c' B G0 hr px => by
          have hu := hr.units
          exact (de_entx H_is_ready (hr.mono (by decide)) (by rfl) (many_cons many_nil) (df_cons (de_var 10) df_nil) px)))))
      (dss_cons (ds_expr (de_append rfl (pv 11) (de_keptE (k := 9) (fz := [10]) kp rfl wordOf_x (by rfl) TB rfl (hr.mono (by decide)) (LamX.lamS_by (by rfl)) rfl (fun _ _ _ _ _ => rfl) (fun A outer s H E f c' B G0 hr px => by
          have hu := hr.units
          exact (de_entxK0 (ks := ["standing"]) (p := [0]) H_is_ready (hr.mono (by decide)) (by rfl) (fun _ _ _ _ _ _ us ws h1 h2 => match us, ws, h1, h2 with | [], [_], _, _ => rfl) (many_cons many_nil) rfl (fun xs h => sel_len (by decide) (by decide +kernel) h) (dk_cons (de_var 10) dk_nil) px)))))
      (dss_one (ds_if (dt_not (dt_val (de_ent E_law_same (hr.mono (by decide)) (by rfl) (many_cons (many_cons many_nil)) (df_cons (de_var 11) (df_cons (de_lst (df_cons (de_tup (df_cons (de_str [116, 97, 98, 108, 101]) (df_cons (de_var 9) df_nil))) (df_cons (de_tup (df_cons (de_str [115, 116, 97, 110, 100, 105, 110, 103]) (df_cons (de_var 10) df_nil))) (df_cons (de_tup (df_cons (de_str [115, 116, 97, 110, 100, 105, 110, 103]) (df_cons (de_var 10) df_nil))) df_nil)))) df_nil)))))
      (dss_one (ds_ret de_bl))
      dss_nil)))))))))))))
      (dss_one (ds_ret de_bl)))
theorem e_law_right (T : TF K mg C0 xl) (E_law_odd_table : Ent P w K mg base "_law_odd_table" s_law_odd_table 3 ["jar", "table"] (spB (wW K C0 xl) false 2 m_law_odd_table)) (E_law_of : Ent P w K mg base "_law_of" s_law_of 2 ["jar", "some"] (spB (wW K C0 xl) false 2 m_law_of)) (E_law_table : Ent P w K mg base "_law_table" s_law_table 3 ["jar", "most", "piles"] (spB (wW K C0 xl) false 3 m_law_table)) (E_law_made : Ent P w K mg base "_law_made" s_law_made 7 ["table"] (spD (wW K C0 xl) false 1 m_law_made)) (E_law_all : Ent P w K mg base "_law_all" s_law_all 2 ["table"] (spD (wW K C0 xl) false 1 m_law_all)) (E_law_same : Ent P w K mg base "_law_same" s_law_same 9 ["told", "due"] (spD (wW K C0 xl) false 2 (m_law_same 8))) (E_law_bars : Ent P w K mg base "_law_bars" s_law_bars 1 ["standing"] (spD (wW K C0 xl) false 1 m_law_bars)) (E_how_many_ready : Ent P w K mg base "how_many_ready" s_how_many_ready 8 ["table"] (spD (wW K C0 xl) false 1 m_how_many_ready)) (E_is_ready : Ent P w K mg base "is_ready" s_is_ready 6 ["standing"] (spD (wW K C0 xl) false 1 m_is_ready)) (H_how_many_ready : EntX P w K mg base "how_many_ready" s_how_many_ready 8 ["table"] (spD (wW K C0 xl) true 1 mh_how_many_ready)) (H_is_ready : EntX P w K mg base "is_ready" s_is_ready 6 ["standing"] (spD (wW K C0 xl) true 1 mh_is_ready)) (FA : FunAt K mg "_law_kept" s_law_kept) {Pt c : Addr} (TB : LamX.TabB base mg c Pt) (Fa : FunAt K mg "_law_right" s_law_right) (hcd : ∀ f fd, mg "_law_right" = some (.ref f) → Fun K "_law_right" "_law_right" s_law_right f fd → fd.code = .ref c) : EntT P w K mg base "_law_right" s_law_right 12 ["jar"] (spBT (wW K C0 xl) [(Pt, lamQ)] 1 m_law_right) := by
  obtain ⟨f, fd, h1, h2⟩ := Fa
  exact ⟨⟨f, fd, h1, h2, k_law_right T E_law_odd_table E_law_of E_law_table E_law_made E_law_all E_law_same E_law_bars E_how_many_ready E_is_ready H_how_many_ready H_is_ready FA TB h2 (hcd f fd h1 h2)⟩, fun f fd F => F.binds fun _ _ _ _ _ _ us hl => match us, hl with | [_], _ => rfl⟩
theorem k_law_jar (T : TF K mg C0 xl)  {f : Addr} {fd : FuncData} (Fn : Fun K "_law_jar" "_law_jar" s_law_jar f fd) : FnOk P w K mg base CX0 1 f fd ["script", "lap"] (spD (wW K C0 xl) false 2 m_law_jar) := by
  refine fn_cold Fn sc_law_jar rfl fun cdv A outer s H E B G0 hr => ?_
  have hu := hr.units
  exact (dss_cons (ds_set (i := 2) sc_law_jar.nd (de_bin r_add (o_add rfl) de_int (de_bin r_mul (o_mul rfl) de_int (de_var 1))))
      (dss_cons (ds_for PassesOwn.never rfl (di_iter rfl (de_sl rfl (de_var 0) do_no (do_yes de_int))) (dg_name (i := 3) sc_law_jar.nd)
      (dss_one (ds_set (i := 2) sc_law_jar.nd (de_bin op_mod o_mod (de_callTy call_int1 o_int (by rfl) T.b_int boot_int (da_cons (de_bin r_add (o_add rfl) (de_bin r_add (o_add rfl) (de_bin r_mul (o_mul rfl) (de_var 2) de_int) (de_bin r_mul (o_mul rfl) (de_bin op_mod o_mod (de_callTy call_int1 o_int (by rfl) T.b_int boot_int (da_cons (de_var 3) da_nil)) de_int) de_int)) de_int) da_nil)) de_int))))
      (dss_cons (ds_set (i := 4) sc_law_jar.nd (de_if (dt_cmp r_lt o_cmp (de_var 1) (de_callB cr_len (o_len rfl) (by rfl) T.b_len boot_len (da_cons (de_var 0) da_nil)) mk_) (de_callTy call_int1 o_int (by rfl) T.b_int boot_int (da_cons (de_ix (r_ix hu) (o_ix rfl) (de_var 0) (de_var 1) (fun _ _ => rfl)) da_nil)) de_int))
      (dss_cons (ds_set (i := 2) sc_law_jar.nd (de_bin op_mod o_mod (de_callTy call_int1 o_int (by rfl) T.b_int boot_int (da_cons (de_bin r_add (o_add rfl) (de_bin r_add (o_add rfl) (de_bin r_mul (o_mul rfl) (de_var 2) de_int) (de_bin r_mul (o_mul rfl) (de_bin op_mod o_mod (de_var 4) de_int) de_int)) de_int) da_nil)) de_int))
      (dss_one (ds_ret (de_lst (df_cons (de_if (dt_w (dw_or (dt_cmp r_lt o_cmp (de_var 4) de_int mk_) (dw_or1 (dt_cmp r_ge o_cmp (de_var 4) (de_bin op_pow o_pow de_int de_int) mk_)))) (de_callB call_abs o_abs (by rfl) T.b_abs boot_abs (da_cons (de_var 4) da_nil)) de_int) (df_cons (de_var 2) (df_cons de_int df_nil))))))))))
theorem e_law_jar (T : TF K mg C0 xl)  (Fa : FunAt K mg "_law_jar" s_law_jar) : Ent P w K mg base "_law_jar" s_law_jar 1 ["script", "lap"] (spD (wW K C0 xl) false 2 m_law_jar) := by
  obtain ⟨f, fd, h1, h2⟩ := Fa
  exact ⟨⟨f, fd, h1, h2, k_law_jar T  h2⟩, fun f fd F => F.binds fun _ _ _ _ _ _ us hl => match us, hl with | [_, _], _ => rfl⟩
theorem k_law (T : TF K mg C0 xl) {Pt : Addr} (E_law_right : EntT P w K mg base "_law_right" s_law_right 12 ["jar"] (spBT (wW K C0 xl) [(Pt, lamQ)] 1 m_law_right)) (E_law_jar : Ent P w K mg base "_law_jar" s_law_jar 1 ["script", "lap"] (spD (wW K C0 xl) false 2 m_law_jar)) {f : Addr} {fd : FuncData} (Fn : Fun K "law" "law" s_law f fd) : FnOk P w K mg base CX0 13 f fd ["script"] (spDT (wW K C0 xl) [(Pt, lamQ)] 1 m_law) := by
  refine fn_coldT Fn sc_law rfl fun cdv A outer s H E B G0 hr => ?_
  have hu := hr.units
  exact (dss_cons (ds_for PassesOwn.never rfl (di_range1 (by rfl) T.b_range (da_cons (de_callB (call_max2 rfl) o_max2 (by rfl) T.b_max boot_max (da_cons de_int (da_cons (de_callB (call_min2 rfl) o_min2 (by rfl) T.b_min boot_min (da_cons (de_callB cr_len (o_len rfl) (by rfl) T.b_len boot_len (da_cons (de_var 0) da_nil)) (da_cons de_int da_nil))) da_nil))) da_nil)) (dg_name (i := 1) sc_law.nd)
      (dss_one (ds_if (dt_not (dt_val (de_ownFT rfl (List.cons_ne_nil _ _) E_law_right (hr.mono (by decide)) (by rfl) (de_ent E_law_jar (hr.mono (by decide)) (by rfl) (many_cons (many_cons many_nil)) (df_cons (de_var 0) (df_cons (de_var 1) df_nil))))))
      (dss_one (ds_ret de_bl))
      dss_nil)))
      (dss_one (ds_ret de_bl)))
/-- what the top has left -/
structure Top (K : PySem.W.Frag) (mg : Str → Option Value) (C0 : Addr) (xl : List (Nat × Addr)) : Prop where
  T : TF K mg C0 xl
  f_law_kept : FunAt K mg "_law_kept" s_law_kept
  f_law_pick : FunAt K mg "_law_pick" s_law_pick
  f_law_of : FunAt K mg "_law_of" s_law_of
  f_law_odd_table : FunAt K mg "_law_odd_table" s_law_odd_table
  f_law_table : FunAt K mg "_law_table" s_law_table
  f_is_whole : FunAt K mg "is_whole" s_is_whole
  f_is_between : FunAt K mg "is_between" s_is_between
  f_check_number : FunAt K mg "check_number" s_check_number
  f_check_height : FunAt K mg "check_height" s_check_height
  f_is_one_of : FunAt K mg "is_one_of" s_is_one_of
  f_Table : ∃ f fd, Mk K C0 f ∧ Fun K "__init__" "Table.__init__" s_Table_init f fd
  f_law_made : FunAt K mg "_law_made" s_law_made
  f_law_is_standing : FunAt K mg "_law_is_standing" s_law_is_standing
  f_law_all : FunAt K mg "_law_all" s_law_all
  f_law_same : FunAt K mg "_law_same" s_law_same
  f_law_bars : FunAt K mg "_law_bars" s_law_bars
  f_check_table : FunAt K mg "check_table" s_check_table
  f_blocks_of : FunAt K mg "blocks_of" s_blocks_of
  f_is_falling : FunAt K mg "is_falling" s_is_falling
  f_fits_rule : FunAt K mg "fits_rule" s_fits_rule
  f_laid_everywhere : FunAt K mg "laid_everywhere" s_laid_everywhere
  f_standings : FunAt K mg "standings" s_standings
  f_does_bar : FunAt K mg "does_bar" s_does_bar
  f_barring_in : FunAt K mg "barring_in" s_barring_in
  f_is_ready_by : FunAt K mg "is_ready_by" s_is_ready_by
  f_ready_standings : FunAt K mg "ready_standings" s_ready_standings
  f_how_many_ready : FunAt K mg "how_many_ready" s_how_many_ready
  f_is_pile : FunAt K mg "is_pile" s_is_pile
  f_wrong_in : FunAt K mg "wrong_in" s_wrong_in
  f_are_all : FunAt K mg "are_all" s_are_all
  f_are_all_blocks : FunAt K mg "are_all_blocks" s_are_all_blocks
  f_check_blocks : FunAt K mg "check_blocks" s_check_blocks
  f_is_ready : FunAt K mg "is_ready" s_is_ready
  f_law_right : FunAt K mg "_law_right" s_law_right
  f_law_jar : FunAt K mg "_law_jar" s_law_jar
theorem law_ok (Z : Top K mg C0 xl) {Pt c : Addr} (TB : LamX.TabB base mg c Pt) (hcd : ∀ f fd, mg "_law_right" = some (.ref f) → Fun K "_law_right" "_law_right" s_law_right f fd → fd.code = .ref c) {f : Addr} {fd : FuncData} (Fn : Fun K "law" "law" s_law f fd) : FnOk P w K mg base CX0 13 f fd ["script"] (spDT (wW K C0 xl) [(Pt, lamQ)] 1 m_law) := by
  have XE_InvalidStanding : ∃ C, xcOf xl 2 = some C ∧ XcE P w K mg base "InvalidStanding" C := by
    obtain ⟨C, h1, h2⟩ := Z.T.xr_InvalidStanding
    exact ⟨C, h1, xce_mk h2 fun fI fd F => ⟨xinit_ok F ⟨rfl, rfl, rfl, by decide +kernel, rfl, by decide +kernel, by decide +kernel⟩ rfl rfl rfl fun _ => rfl, F.binds fun _ _ _ _ _ _ us hl => match us, hl with | [_, _], _ => rfl⟩⟩
  have XE_NotATable : ∃ C, xcOf xl 7 = some C ∧ XcE P w K mg base "NotATable" C := by
    obtain ⟨C, h1, h2⟩ := Z.T.xr_NotATable
    exact ⟨C, h1, xce_mk h2 fun fI fd F => ⟨xinit_ok F ⟨rfl, rfl, rfl, by decide +kernel, rfl, by decide +kernel, by decide +kernel⟩ rfl rfl rfl fun _ => rfl, F.binds fun _ _ _ _ _ _ us hl => match us, hl with | [_, _], _ => rfl⟩⟩
  have E_law_pick := e_law_pick (P := P) (w := w) (base := base) Z.T  Z.f_law_pick
  have E_law_of := e_law_of (P := P) (w := w) (base := base) Z.T E_law_pick Z.f_law_of
  have E_law_odd_table := e_law_odd_table (P := P) (w := w) (base := base) Z.T E_law_of Z.f_law_odd_table
  have E_law_table := e_law_table (P := P) (w := w) (base := base) Z.T E_law_of E_law_pick Z.f_law_table
  have E_is_whole := e_is_whole (P := P) (w := w) (base := base) Z.T  Z.f_is_whole
  have E_is_between := e_is_between (P := P) (w := w) (base := base) Z.T E_is_whole Z.f_is_between
  have E_check_number := e_check_number (P := P) (w := w) (base := base) Z.T E_is_between Z.f_check_number
  have E_check_height := e_check_height (P := P) (w := w) (base := base) Z.T E_check_number Z.f_check_height
  have E_is_one_of := e_is_one_of (P := P) (w := w) (base := base) Z.T  Z.f_is_one_of
  have E_Table : EntC P w K mg base "Table" "Table.__init__" C0 s_Table_init 5 ["self", "many", "piles", "height", "rule"] (spB (wW K C0 xl) false 5 m_Table_init) := by
    obtain ⟨f, fd, M, h⟩ := Z.f_Table
    exact ⟨Z.T.gTable, ⟨f, fd, M, h, k_Table_init Z.T E_check_number E_check_height E_is_one_of h⟩, fun f fd F => F.binds fun _ _ _ _ _ _ us hl => match us, hl with | [_, _, _, _, _], _ => rfl⟩
  have E_law_made := e_law_made (P := P) (w := w) (base := base) Z.T E_Table Z.f_law_made
  have E_law_is_standing := e_law_is_standing (P := P) (w := w) (base := base) Z.T  Z.f_law_is_standing
  have E_law_all := e_law_all (P := P) (w := w) (base := base) Z.T E_law_is_standing Z.f_law_all
  have E_law_same : Ent P w K mg base "_law_same" s_law_same 9 ["told", "due"] (spD (wW K C0 xl) false 2 (m_law_same 8)) := e_law_same Z.T  Z.f_law_same 8
  have E_law_bars := e_law_bars (P := P) (w := w) (base := base) Z.T  Z.f_law_bars
  have E_check_table := e_check_table (P := P) (w := w) (base := base) Z.T  Z.f_check_table
  have H_check_table := eh_check_table (P := P) (w := w) (base := base) Z.T XE_NotATable Z.f_check_table
  have E_blocks_of := e_blocks_of (P := P) (w := w) (base := base) Z.T  Z.f_blocks_of
  have E_is_falling := e_is_falling (P := P) (w := w) (base := base) Z.T  Z.f_is_falling
  have E_fits_rule := e_fits_rule (P := P) (w := w) (base := base) Z.T E_is_falling Z.f_fits_rule
  have E_laid_everywhere := e_laid_everywhere (P := P) (w := w) (base := base) Z.T E_fits_rule Z.f_laid_everywhere
  have E_standings := e_standings (P := P) (w := w) (base := base) Z.T E_blocks_of E_laid_everywhere Z.f_standings
  have E_does_bar := e_does_bar (P := P) (w := w) (base := base) Z.T  Z.f_does_bar
  have E_barring_in := e_barring_in (P := P) (w := w) (base := base) Z.T E_does_bar Z.f_barring_in
  have E_is_ready_by := e_is_ready_by (P := P) (w := w) (base := base) Z.T E_barring_in Z.f_is_ready_by
  have E_ready_standings := e_ready_standings (P := P) (w := w) (base := base) Z.T E_standings E_is_ready_by Z.f_ready_standings
  have E_how_many_ready := e_how_many_ready (P := P) (w := w) (base := base) Z.T E_check_table E_ready_standings Z.f_how_many_ready
  have H_how_many_ready := eh_how_many_ready (P := P) (w := w) (base := base) Z.T E_ready_standings H_check_table Z.f_how_many_ready
  have E_is_pile := e_is_pile (P := P) (w := w) (base := base) Z.T  Z.f_is_pile
  have E_wrong_in := e_wrong_in (P := P) (w := w) (base := base) Z.T E_is_pile Z.f_wrong_in
  have E_are_all := e_are_all (P := P) (w := w) (base := base) Z.T E_wrong_in Z.f_are_all
  have E_are_all_blocks := e_are_all_blocks (P := P) (w := w) (base := base) Z.T E_are_all E_is_between Z.f_are_all_blocks
  have E_check_blocks := e_check_blocks (P := P) (w := w) (base := base) Z.T E_are_all_blocks Z.f_check_blocks
  have H_check_blocks := eh_check_blocks (P := P) (w := w) (base := base) Z.T E_are_all_blocks XE_InvalidStanding Z.f_check_blocks
  have E_is_ready := e_is_ready (P := P) (w := w) (base := base) Z.T E_check_blocks E_is_ready_by Z.f_is_ready
  have H_is_ready := eh_is_ready (P := P) (w := w) (base := base) Z.T E_is_ready_by H_check_blocks Z.f_is_ready
  have E_law_right := e_law_right (P := P) (w := w) (base := base) Z.T E_law_odd_table E_law_of E_law_table E_law_made E_law_all E_law_same E_law_bars E_how_many_ready E_is_ready H_how_many_ready H_is_ready Z.f_law_kept TB Z.f_law_right hcd
  have E_law_jar := e_law_jar (P := P) (w := w) (base := base) Z.T  Z.f_law_jar
  exact k_law Z.T E_law_right E_law_jar Fn
end
theorem all_mk {l : PySem.W.OpenLaw} {w : World} {K : PySem.W.Frag} {h : Heap} {mg : Str → Option Value} {fa C0 : Addr} (X : K.In h) (G : h.Ns mainGlobals mg) (hfa : mg "law" = some (.ref fa))
    {xa_InvalidStanding : Addr}
    {xa_NotATable : Addr}
    {xa_PE c0 Pt : Addr}
    {f_iInvalidStanding : Addr} {oc_iInvalidStanding kV_iInvalidStanding dc_iInvalidStanding pm_iInvalidStanding cd_iInvalidStanding ct_iInvalidStanding : Value} {od_iInvalidStanding an_iInvalidStanding : Option Addr} {sl_iInvalidStanding : Array (Option Value)}
    {f_iNotATable : Addr} {oc_iNotATable kV_iNotATable dc_iNotATable pm_iNotATable cd_iNotATable ct_iNotATable : Value} {od_iNotATable an_iNotATable : Option Addr} {sl_iNotATable : Array (Option Value)}
    {t_BLOCKS : Tok}
    {t_LEAST_MANY : Tok}
    {t_MOST_MANY : Tok}
    {t_LEAST_PILES_tablework : Tok}
    {t_MOST_PILES_tablework : Tok}
    {t_FREE : Tok}
    {a_RULES : Addr} {n_RULES : Nat}
    {t_RULES_0 : Tok}
    {t_RULES_1 : Tok}
    {d_RULES : Option Addr} {sl_RULES : Array (Option Value)}
    {t_LEAST_PILES_takework : Tok}
    {t_MOST_PILES_takework : Tok}
    {t_MOST_BLOCKS : Tok}
    {f_law_kept : Addr} {oc_law_kept kV_law_kept dc_law_kept pm_law_kept cd_law_kept ct_law_kept : Value} {od_law_kept an_law_kept : Option Addr} {sl_flaw_kept : Array (Option Value)}
    {f_law_pick : Addr} {oc_law_pick kV_law_pick dc_law_pick pm_law_pick cd_law_pick ct_law_pick : Value} {od_law_pick an_law_pick : Option Addr} {sl_flaw_pick : Array (Option Value)}
    {f_law_of : Addr} {oc_law_of kV_law_of dc_law_of pm_law_of cd_law_of ct_law_of : Value} {od_law_of an_law_of : Option Addr} {sl_flaw_of : Array (Option Value)}
    {f_law_odd_table : Addr} {oc_law_odd_table kV_law_odd_table dc_law_odd_table pm_law_odd_table cd_law_odd_table ct_law_odd_table : Value} {od_law_odd_table an_law_odd_table : Option Addr} {sl_flaw_odd_table : Array (Option Value)}
    {f_law_table : Addr} {oc_law_table kV_law_table dc_law_table pm_law_table cd_law_table ct_law_table : Value} {od_law_table an_law_table : Option Addr} {sl_flaw_table : Array (Option Value)}
    {f_is_whole : Addr} {oc_is_whole kV_is_whole dc_is_whole pm_is_whole cd_is_whole ct_is_whole : Value} {od_is_whole an_is_whole : Option Addr} {sl_fis_whole : Array (Option Value)}
    {f_is_between : Addr} {oc_is_between kV_is_between dc_is_between pm_is_between cd_is_between ct_is_between : Value} {od_is_between an_is_between : Option Addr} {sl_fis_between : Array (Option Value)}
    {f_check_number : Addr} {oc_check_number kV_check_number dc_check_number pm_check_number cd_check_number ct_check_number : Value} {od_check_number an_check_number : Option Addr} {sl_fcheck_number : Array (Option Value)}
    {f_check_height : Addr} {oc_check_height kV_check_height dc_check_height pm_check_height cd_check_height ct_check_height : Value} {od_check_height an_check_height : Option Addr} {sl_fcheck_height : Array (Option Value)}
    {f_is_one_of : Addr} {oc_is_one_of kV_is_one_of dc_is_one_of pm_is_one_of cd_is_one_of ct_is_one_of : Value} {od_is_one_of an_is_one_of : Option Addr} {sl_fis_one_of : Array (Option Value)}
    {f_Table_init : Addr} {oc_Table_init kV_Table_init dc_Table_init pm_Table_init cd_Table_init ct_Table_init : Value} {od_Table_init an_Table_init : Option Addr} {sl_fTable_init : Array (Option Value)}
    {f_law_made : Addr} {oc_law_made kV_law_made dc_law_made pm_law_made cd_law_made ct_law_made : Value} {od_law_made an_law_made : Option Addr} {sl_flaw_made : Array (Option Value)}
    {f_law_is_standing : Addr} {oc_law_is_standing kV_law_is_standing dc_law_is_standing pm_law_is_standing cd_law_is_standing ct_law_is_standing : Value} {od_law_is_standing an_law_is_standing : Option Addr} {sl_flaw_is_standing : Array (Option Value)}
    {f_law_all : Addr} {oc_law_all kV_law_all dc_law_all pm_law_all cd_law_all ct_law_all : Value} {od_law_all an_law_all : Option Addr} {sl_flaw_all : Array (Option Value)}
    {f_law_same : Addr} {oc_law_same kV_law_same dc_law_same pm_law_same cd_law_same ct_law_same : Value} {od_law_same an_law_same : Option Addr} {sl_flaw_same : Array (Option Value)}
    {f_law_bars : Addr} {oc_law_bars kV_law_bars dc_law_bars pm_law_bars cd_law_bars ct_law_bars : Value} {od_law_bars an_law_bars : Option Addr} {sl_flaw_bars : Array (Option Value)}
    {f_check_table : Addr} {oc_check_table kV_check_table dc_check_table pm_check_table cd_check_table ct_check_table : Value} {od_check_table an_check_table : Option Addr} {sl_fcheck_table : Array (Option Value)}
    {f_blocks_of : Addr} {oc_blocks_of kV_blocks_of dc_blocks_of pm_blocks_of cd_blocks_of ct_blocks_of : Value} {od_blocks_of an_blocks_of : Option Addr} {sl_fblocks_of : Array (Option Value)}
    {f_is_falling : Addr} {oc_is_falling kV_is_falling dc_is_falling pm_is_falling cd_is_falling ct_is_falling : Value} {od_is_falling an_is_falling : Option Addr} {sl_fis_falling : Array (Option Value)}
    {f_fits_rule : Addr} {oc_fits_rule kV_fits_rule dc_fits_rule pm_fits_rule cd_fits_rule ct_fits_rule : Value} {od_fits_rule an_fits_rule : Option Addr} {sl_ffits_rule : Array (Option Value)}
    {f_laid_everywhere : Addr} {oc_laid_everywhere kV_laid_everywhere dc_laid_everywhere pm_laid_everywhere cd_laid_everywhere ct_laid_everywhere : Value} {od_laid_everywhere an_laid_everywhere : Option Addr} {sl_flaid_everywhere : Array (Option Value)}
    {f_standings : Addr} {oc_standings kV_standings dc_standings pm_standings cd_standings ct_standings : Value} {od_standings an_standings : Option Addr} {sl_fstandings : Array (Option Value)}
    {f_does_bar : Addr} {oc_does_bar kV_does_bar dc_does_bar pm_does_bar cd_does_bar ct_does_bar : Value} {od_does_bar an_does_bar : Option Addr} {sl_fdoes_bar : Array (Option Value)}
    {f_barring_in : Addr} {oc_barring_in kV_barring_in dc_barring_in pm_barring_in cd_barring_in ct_barring_in : Value} {od_barring_in an_barring_in : Option Addr} {sl_fbarring_in : Array (Option Value)}
    {f_is_ready_by : Addr} {oc_is_ready_by kV_is_ready_by dc_is_ready_by pm_is_ready_by cd_is_ready_by ct_is_ready_by : Value} {od_is_ready_by an_is_ready_by : Option Addr} {sl_fis_ready_by : Array (Option Value)}
    {f_ready_standings : Addr} {oc_ready_standings kV_ready_standings dc_ready_standings pm_ready_standings cd_ready_standings ct_ready_standings : Value} {od_ready_standings an_ready_standings : Option Addr} {sl_fready_standings : Array (Option Value)}
    {f_how_many_ready : Addr} {oc_how_many_ready kV_how_many_ready dc_how_many_ready pm_how_many_ready cd_how_many_ready ct_how_many_ready : Value} {od_how_many_ready an_how_many_ready : Option Addr} {sl_fhow_many_ready : Array (Option Value)}
    {f_is_pile : Addr} {oc_is_pile kV_is_pile dc_is_pile pm_is_pile cd_is_pile ct_is_pile : Value} {od_is_pile an_is_pile : Option Addr} {sl_fis_pile : Array (Option Value)}
    {f_wrong_in : Addr} {oc_wrong_in kV_wrong_in dc_wrong_in pm_wrong_in cd_wrong_in ct_wrong_in : Value} {od_wrong_in an_wrong_in : Option Addr} {sl_fwrong_in : Array (Option Value)}
    {f_are_all : Addr} {oc_are_all kV_are_all dc_are_all pm_are_all cd_are_all ct_are_all : Value} {od_are_all an_are_all : Option Addr} {sl_fare_all : Array (Option Value)}
    {f_are_all_blocks : Addr} {oc_are_all_blocks kV_are_all_blocks dc_are_all_blocks pm_are_all_blocks cd_are_all_blocks ct_are_all_blocks : Value} {od_are_all_blocks an_are_all_blocks : Option Addr} {sl_fare_all_blocks : Array (Option Value)}
    {f_check_blocks : Addr} {oc_check_blocks kV_check_blocks dc_check_blocks pm_check_blocks cd_check_blocks ct_check_blocks : Value} {od_check_blocks an_check_blocks : Option Addr} {sl_fcheck_blocks : Array (Option Value)}
    {f_is_ready : Addr} {oc_is_ready kV_is_ready dc_is_ready pm_is_ready cd_is_ready ct_is_ready : Value} {od_is_ready an_is_ready : Option Addr} {sl_fis_ready : Array (Option Value)}
    {f_law_right : Addr} {oc_law_right kV_law_right dc_law_right pm_law_right ct_law_right : Value} {od_law_right an_law_right : Option Addr} {sl_flaw_right : Array (Option Value)}
    {oc_c0 : Value} {od_c0 : Option Addr} {vs_c0 : Array Value} {sl_c0 : Array (Option Value)}
    {f_law_jar : Addr} {oc_law_jar kV_law_jar dc_law_jar pm_law_jar cd_law_jar ct_law_jar : Value} {od_law_jar an_law_jar : Option Addr} {sl_flaw_jar : Array (Option Value)}
    {f_law : Addr} {oc_law kV_law dc_law pm_law cd_law ct_law : Value} {od_law an_law : Option Addr} {sl_flaw : Array (Option Value)}
    (aX_InvalidStanding : PySem.W.nsIn K mainGlobals "InvalidStanding" = some (some (.ref xa_InvalidStanding)))
    (aX_NotATable : PySem.W.nsIn K mainGlobals "NotATable" = some (some (.ref xa_NotATable)))
    (aX_PE : PySem.W.nsIn K mainGlobals "PileError" = some (some (.ref xa_PE)))
    (cx_InvalidStanding : (PySem.W.clsIn K xa_InvalidStanding).isSome = true)
    (gx_InvalidStanding : PySem.W.findIn K (.ref xa_InvalidStanding) "__getattribute__" = some (some (.builtin "BaseException.__getattribute__")))
    (hx_InvalidStanding : PySem.W.findIn K (.ref xa_InvalidStanding) "__getattr__" = some none)
    (dx_InvalidStanding : PySem.W.hasDictIn K xa_InvalidStanding = true)
    (px_InvalidStanding : PySem.W.findIn K (.ref xa_InvalidStanding) "__class__" = some (some (.builtin "object.__class__")))
    (mx_InvalidStanding : PySem.W.mroIn K xa_InvalidStanding (.type "object") = some true)
    (kx_vInvalidStanding : PySem.W.kitOne K (.ref xa_InvalidStanding) (.type "ValueError") = some true)
    (kx_lInvalidStanding : PySem.W.kitOne K (.ref xa_InvalidStanding) (.type "LookupError") = some false)
    (em_InvalidStanding : PySem.W.exmOne K (.ref xa_InvalidStanding) (.ref xa_PE) = some true)
    (kx_InvalidStanding_InvalidStanding : PySem.W.kitOne K (.ref xa_InvalidStanding) (.ref xa_InvalidStanding) = some true)
    (kx_InvalidStanding_NotATable : PySem.W.kitOne K (.ref xa_InvalidStanding) (.ref xa_NotATable) = some false)
    (cx_NotATable : (PySem.W.clsIn K xa_NotATable).isSome = true)
    (gx_NotATable : PySem.W.findIn K (.ref xa_NotATable) "__getattribute__" = some (some (.builtin "BaseException.__getattribute__")))
    (hx_NotATable : PySem.W.findIn K (.ref xa_NotATable) "__getattr__" = some none)
    (dx_NotATable : PySem.W.hasDictIn K xa_NotATable = true)
    (px_NotATable : PySem.W.findIn K (.ref xa_NotATable) "__class__" = some (some (.builtin "object.__class__")))
    (mx_NotATable : PySem.W.mroIn K xa_NotATable (.type "object") = some true)
    (kx_vNotATable : PySem.W.kitOne K (.ref xa_NotATable) (.type "ValueError") = some true)
    (kx_lNotATable : PySem.W.kitOne K (.ref xa_NotATable) (.type "LookupError") = some false)
    (em_NotATable : PySem.W.exmOne K (.ref xa_NotATable) (.ref xa_PE) = some true)
    (kx_NotATable_InvalidStanding : PySem.W.kitOne K (.ref xa_NotATable) (.ref xa_InvalidStanding) = some false)
    (kx_NotATable_NotATable : PySem.W.kitOne K (.ref xa_NotATable) (.ref xa_NotATable) = some true)
    (bx_InvalidStanding : PySem.W.subIn K (.ref xa_InvalidStanding) (.type "BaseException") = some true)
    (nx_InvalidStanding : PySem.W.findIn K (.ref xa_InvalidStanding) "given" = some none)
    (bx_NotATable : PySem.W.subIn K (.ref xa_NotATable) (.type "BaseException") = some true)
    (nx_NotATable : PySem.W.findIn K (.ref xa_NotATable) "given" = some none)
    (ox_InvalidStanding : oexB K xa_InvalidStanding = true)
    (sx_InvalidStanding : PySem.W.findIn K (.ref xa_InvalidStanding) "__setattr__" = some (some (.builtin "object.__setattr__")))
    (tx_InvalidStanding : PySem.W.typeIn K (.ref xa_InvalidStanding) = some (.type "type"))
    (ex_InvalidStanding : PySem.W.keepIn K (.ref xa_InvalidStanding) = true)
    (ix_InvalidStanding : PySem.W.findIn K (.ref xa_InvalidStanding) "__init__" = some (some (.ref f_iInvalidStanding)))
    (fx_InvalidStanding : PySem.W.typeIn K (.ref f_iInvalidStanding) = some (.type "function"))
    (l_iInvalidStanding : K.lookup f_iInvalidStanding = some ⟨oc_iInvalidStanding, od_iInvalidStanding, .func (PySem.W.fnOf "__init__" "InvalidStanding.__init__" (defArgs s_InvalidStanding_init) (defBody s_InvalidStanding_init) (defScope s_InvalidStanding_init) .none kV_iInvalidStanding dc_iInvalidStanding pm_iInvalidStanding an_iInvalidStanding cd_iInvalidStanding ct_iInvalidStanding), sl_iInvalidStanding⟩)
    (c_iInvalidStanding : PySem.W.codeIn K cd_iInvalidStanding "InvalidStanding.__init__" = true)
    (k_iInvalidStanding : PySem.W.keepIn K (.ref f_iInvalidStanding) = true)
    (ox_NotATable : oexB K xa_NotATable = true)
    (sx_NotATable : PySem.W.findIn K (.ref xa_NotATable) "__setattr__" = some (some (.builtin "object.__setattr__")))
    (tx_NotATable : PySem.W.typeIn K (.ref xa_NotATable) = some (.type "type"))
    (ex_NotATable : PySem.W.keepIn K (.ref xa_NotATable) = true)
    (ix_NotATable : PySem.W.findIn K (.ref xa_NotATable) "__init__" = some (some (.ref f_iNotATable)))
    (fx_NotATable : PySem.W.typeIn K (.ref f_iNotATable) = some (.type "function"))
    (l_iNotATable : K.lookup f_iNotATable = some ⟨oc_iNotATable, od_iNotATable, .func (PySem.W.fnOf "__init__" "NotATable.__init__" (defArgs s_NotATable_init) (defBody s_NotATable_init) (defScope s_NotATable_init) .none kV_iNotATable dc_iNotATable pm_iNotATable an_iNotATable cd_iNotATable ct_iNotATable), sl_iNotATable⟩)
    (c_iNotATable : PySem.W.codeIn K cd_iNotATable "NotATable.__init__" = true)
    (k_iNotATable : PySem.W.keepIn K (.ref f_iNotATable) = true)
    (z_LookupError : PySem.W.nsIn K mainGlobals "LookupError" = some none)
    (z_ValueError : PySem.W.nsIn K mainGlobals "ValueError" = some none)
    (z_abs : PySem.W.nsIn K mainGlobals "abs" = some none)
    (z_all : PySem.W.nsIn K mainGlobals "all" = some none)
    (z_bool : PySem.W.nsIn K mainGlobals "bool" = some none)
    (z_divmod : PySem.W.nsIn K mainGlobals "divmod" = some none)
    (z_enumerate : PySem.W.nsIn K mainGlobals "enumerate" = some none)
    (z_int : PySem.W.nsIn K mainGlobals "int" = some none)
    (z_isinstance : PySem.W.nsIn K mainGlobals "isinstance" = some none)
    (z_len : PySem.W.nsIn K mainGlobals "len" = some none)
    (z_list : PySem.W.nsIn K mainGlobals "list" = some none)
    (z_max : PySem.W.nsIn K mainGlobals "max" = some none)
    (z_min : PySem.W.nsIn K mainGlobals "min" = some none)
    (z_range : PySem.W.nsIn K mainGlobals "range" = some none)
    (z_sorted : PySem.W.nsIn K mainGlobals "sorted" = some none)
    (z_str : PySem.W.nsIn K mainGlobals "str" = some none)
    (z_tuple : PySem.W.nsIn K mainGlobals "tuple" = some none)
    (v_BLOCKS : PySem.W.nsIn K mainGlobals "BLOCKS" = some (some (.str (L2.DI.mk [97, 98, 99, 100, 101]) t_BLOCKS)))
    (v_LEAST_MANY : PySem.W.nsIn K mainGlobals "LEAST_MANY" = some (some (.int 1 t_LEAST_MANY)))
    (v_MOST_MANY : PySem.W.nsIn K mainGlobals "MOST_MANY" = some (some (.int 5 t_MOST_MANY)))
    (v_LEAST_PILES_tablework : PySem.W.nsIn K mainGlobals "LEAST_PILES_tablework" = some (some (.int 2 t_LEAST_PILES_tablework)))
    (v_MOST_PILES_tablework : PySem.W.nsIn K mainGlobals "MOST_PILES_tablework" = some (some (.int 4 t_MOST_PILES_tablework)))
    (v_FREE : PySem.W.nsIn K mainGlobals "FREE" = some (some (.str (L2.DI.mk [102, 114, 101, 101]) t_FREE)))
    (v_RULES : PySem.W.nsIn K mainGlobals "RULES" = some (some (.ref a_RULES)))
    (w_RULES : K.lookup a_RULES = some ⟨.type "tuple", d_RULES, .seq #[Value.str (L2.DI.mk [102, 114, 101, 101]) t_RULES_0, Value.str (L2.DI.mk [108, 105, 103, 104, 116]) t_RULES_1] n_RULES, sl_RULES⟩)
    (v_LEAST_PILES_takework : PySem.W.nsIn K mainGlobals "LEAST_PILES_takework" = some (some (.int 2 t_LEAST_PILES_takework)))
    (v_MOST_PILES_takework : PySem.W.nsIn K mainGlobals "MOST_PILES_takework" = some (some (.int 4 t_MOST_PILES_takework)))
    (v_MOST_BLOCKS : PySem.W.nsIn K mainGlobals "MOST_BLOCKS" = some (some (.int 5 t_MOST_BLOCKS)))
    (aC : PySem.W.nsIn K mainGlobals "Table" = some (some (.ref C0)))
    (pg : PySem.W.plainGet K C0 Str.empty = true)
    (hd : PySem.W.hasDictIn K C0 = true)
    (po : PySem.W.plainOver K C0 = true)
    (sa : PySem.W.findIn K (.ref C0) "__setattr__" = some (some (.builtin "object.__setattr__")))
    (mk : PySem.W.makesIn K C0 = true)
    (kc : PySem.W.keepIn K (.ref C0) = true)
    (n_many : PySem.W.findIn K (.ref C0) "many" = some none)
    (n_piles : PySem.W.findIn K (.ref C0) "piles" = some none)
    (n_height : PySem.W.findIn K (.ref C0) "height" = some none)
    (n_rule : PySem.W.findIn K (.ref C0) "rule" = some none)
    (n_parts : PySem.W.findIn K (.ref C0) "parts" = some none)
    (ca : PySem.W.findIn K (.ref C0) "__class__" = some (some (.builtin "object.__class__")))
    (cn : PySem.W.specialIn K (.builtin "object.__class__") "__get__" = some (some (.builtin "getset_descriptor.__get__")))
    (ct : PySem.W.takesIn K (.builtin "object.__class__") = some true)
    (cm : PySem.W.mroIn K C0 (.type "object") = some true)
    (ob_int : PySem.W.kitOne K (.ref C0) (.type "int") = some false)
    (ob_bool : PySem.W.kitOne K (.ref C0) (.type "bool") = some false)
    (ob_str : PySem.W.kitOne K (.ref C0) (.type "str") = some false)
    (ob_tuple : PySem.W.kitOne K (.ref C0) (.type "tuple") = some false)
    (ob_list : PySem.W.kitOne K (.ref C0) (.type "list") = some false)
    (ob_dict : PySem.W.kitOne K (.ref C0) (.type "dict") = some false)
    (bo_NoneType : PySem.W.kitOne K (.type "NoneType") (.ref C0) = some false)
    (bo_bool : PySem.W.kitOne K (.type "bool") (.ref C0) = some false)
    (bo_int : PySem.W.kitOne K (.type "int") (.ref C0) = some false)
    (bo_str : PySem.W.kitOne K (.type "str") (.ref C0) = some false)
    (bo_tuple : PySem.W.kitOne K (.type "tuple") (.ref C0) = some false)
    (bo_list : PySem.W.kitOne K (.type "list") (.ref C0) = some false)
    (bo_dict : PySem.W.kitOne K (.type "dict") (.ref C0) = some false)
    (oo : PySem.W.kitOne K (.ref C0) (.ref C0) = some true)
    (a_law_kept : PySem.W.nsIn K mainGlobals "_law_kept" = some (some (.ref f_law_kept)))
    (l_law_kept : K.lookup f_law_kept = some ⟨oc_law_kept, od_law_kept, .func (PySem.W.fnOf "_law_kept" "_law_kept" (defArgs s_law_kept) (defBody s_law_kept) (defScope s_law_kept) .none kV_law_kept dc_law_kept pm_law_kept an_law_kept cd_law_kept ct_law_kept), sl_flaw_kept⟩)
    (c_law_kept : PySem.W.codeIn K cd_law_kept "_law_kept" = true)
    (k_law_kept : PySem.W.keepIn K (.ref f_law_kept) = true)
    (a_law_pick : PySem.W.nsIn K mainGlobals "_law_pick" = some (some (.ref f_law_pick)))
    (l_law_pick : K.lookup f_law_pick = some ⟨oc_law_pick, od_law_pick, .func (PySem.W.fnOf "_law_pick" "_law_pick" (defArgs s_law_pick) (defBody s_law_pick) (defScope s_law_pick) .none kV_law_pick dc_law_pick pm_law_pick an_law_pick cd_law_pick ct_law_pick), sl_flaw_pick⟩)
    (c_law_pick : PySem.W.codeIn K cd_law_pick "_law_pick" = true)
    (k_law_pick : PySem.W.keepIn K (.ref f_law_pick) = true)
    (a_law_of : PySem.W.nsIn K mainGlobals "_law_of" = some (some (.ref f_law_of)))
    (l_law_of : K.lookup f_law_of = some ⟨oc_law_of, od_law_of, .func (PySem.W.fnOf "_law_of" "_law_of" (defArgs s_law_of) (defBody s_law_of) (defScope s_law_of) .none kV_law_of dc_law_of pm_law_of an_law_of cd_law_of ct_law_of), sl_flaw_of⟩)
    (c_law_of : PySem.W.codeIn K cd_law_of "_law_of" = true)
    (k_law_of : PySem.W.keepIn K (.ref f_law_of) = true)
    (a_law_odd_table : PySem.W.nsIn K mainGlobals "_law_odd_table" = some (some (.ref f_law_odd_table)))
    (l_law_odd_table : K.lookup f_law_odd_table = some ⟨oc_law_odd_table, od_law_odd_table, .func (PySem.W.fnOf "_law_odd_table" "_law_odd_table" (defArgs s_law_odd_table) (defBody s_law_odd_table) (defScope s_law_odd_table) .none kV_law_odd_table dc_law_odd_table pm_law_odd_table an_law_odd_table cd_law_odd_table ct_law_odd_table), sl_flaw_odd_table⟩)
    (c_law_odd_table : PySem.W.codeIn K cd_law_odd_table "_law_odd_table" = true)
    (k_law_odd_table : PySem.W.keepIn K (.ref f_law_odd_table) = true)
    (a_law_table : PySem.W.nsIn K mainGlobals "_law_table" = some (some (.ref f_law_table)))
    (l_law_table : K.lookup f_law_table = some ⟨oc_law_table, od_law_table, .func (PySem.W.fnOf "_law_table" "_law_table" (defArgs s_law_table) (defBody s_law_table) (defScope s_law_table) .none kV_law_table dc_law_table pm_law_table an_law_table cd_law_table ct_law_table), sl_flaw_table⟩)
    (c_law_table : PySem.W.codeIn K cd_law_table "_law_table" = true)
    (k_law_table : PySem.W.keepIn K (.ref f_law_table) = true)
    (a_is_whole : PySem.W.nsIn K mainGlobals "is_whole" = some (some (.ref f_is_whole)))
    (l_is_whole : K.lookup f_is_whole = some ⟨oc_is_whole, od_is_whole, .func (PySem.W.fnOf "is_whole" "is_whole" (defArgs s_is_whole) (defBody s_is_whole) (defScope s_is_whole) .none kV_is_whole dc_is_whole pm_is_whole an_is_whole cd_is_whole ct_is_whole), sl_fis_whole⟩)
    (c_is_whole : PySem.W.codeIn K cd_is_whole "is_whole" = true)
    (k_is_whole : PySem.W.keepIn K (.ref f_is_whole) = true)
    (a_is_between : PySem.W.nsIn K mainGlobals "is_between" = some (some (.ref f_is_between)))
    (l_is_between : K.lookup f_is_between = some ⟨oc_is_between, od_is_between, .func (PySem.W.fnOf "is_between" "is_between" (defArgs s_is_between) (defBody s_is_between) (defScope s_is_between) .none kV_is_between dc_is_between pm_is_between an_is_between cd_is_between ct_is_between), sl_fis_between⟩)
    (c_is_between : PySem.W.codeIn K cd_is_between "is_between" = true)
    (k_is_between : PySem.W.keepIn K (.ref f_is_between) = true)
    (a_check_number : PySem.W.nsIn K mainGlobals "check_number" = some (some (.ref f_check_number)))
    (l_check_number : K.lookup f_check_number = some ⟨oc_check_number, od_check_number, .func (PySem.W.fnOf "check_number" "check_number" (defArgs s_check_number) (defBody s_check_number) (defScope s_check_number) .none kV_check_number dc_check_number pm_check_number an_check_number cd_check_number ct_check_number), sl_fcheck_number⟩)
    (c_check_number : PySem.W.codeIn K cd_check_number "check_number" = true)
    (k_check_number : PySem.W.keepIn K (.ref f_check_number) = true)
    (a_check_height : PySem.W.nsIn K mainGlobals "check_height" = some (some (.ref f_check_height)))
    (l_check_height : K.lookup f_check_height = some ⟨oc_check_height, od_check_height, .func (PySem.W.fnOf "check_height" "check_height" (defArgs s_check_height) (defBody s_check_height) (defScope s_check_height) .none kV_check_height dc_check_height pm_check_height an_check_height cd_check_height ct_check_height), sl_fcheck_height⟩)
    (c_check_height : PySem.W.codeIn K cd_check_height "check_height" = true)
    (k_check_height : PySem.W.keepIn K (.ref f_check_height) = true)
    (a_is_one_of : PySem.W.nsIn K mainGlobals "is_one_of" = some (some (.ref f_is_one_of)))
    (l_is_one_of : K.lookup f_is_one_of = some ⟨oc_is_one_of, od_is_one_of, .func (PySem.W.fnOf "is_one_of" "is_one_of" (defArgs s_is_one_of) (defBody s_is_one_of) (defScope s_is_one_of) .none kV_is_one_of dc_is_one_of pm_is_one_of an_is_one_of cd_is_one_of ct_is_one_of), sl_fis_one_of⟩)
    (c_is_one_of : PySem.W.codeIn K cd_is_one_of "is_one_of" = true)
    (k_is_one_of : PySem.W.keepIn K (.ref f_is_one_of) = true)
    (a_Table_init : PySem.W.findIn K (.ref C0) "__init__" = some (some (.ref f_Table_init)))
    (i_Table_init : PySem.W.isFn K (.ref f_Table_init) = true)
    (l_Table_init : K.lookup f_Table_init = some ⟨oc_Table_init, od_Table_init, .func (PySem.W.fnOf "__init__" "Table.__init__" (defArgs s_Table_init) (defBody s_Table_init) (defScope s_Table_init) .none kV_Table_init dc_Table_init pm_Table_init an_Table_init cd_Table_init ct_Table_init), sl_fTable_init⟩)
    (c_Table_init : PySem.W.codeIn K cd_Table_init "Table.__init__" = true)
    (k_Table_init : PySem.W.keepIn K (.ref f_Table_init) = true)
    (a_law_made : PySem.W.nsIn K mainGlobals "_law_made" = some (some (.ref f_law_made)))
    (l_law_made : K.lookup f_law_made = some ⟨oc_law_made, od_law_made, .func (PySem.W.fnOf "_law_made" "_law_made" (defArgs s_law_made) (defBody s_law_made) (defScope s_law_made) .none kV_law_made dc_law_made pm_law_made an_law_made cd_law_made ct_law_made), sl_flaw_made⟩)
    (c_law_made : PySem.W.codeIn K cd_law_made "_law_made" = true)
    (k_law_made : PySem.W.keepIn K (.ref f_law_made) = true)
    (a_law_is_standing : PySem.W.nsIn K mainGlobals "_law_is_standing" = some (some (.ref f_law_is_standing)))
    (l_law_is_standing : K.lookup f_law_is_standing = some ⟨oc_law_is_standing, od_law_is_standing, .func (PySem.W.fnOf "_law_is_standing" "_law_is_standing" (defArgs s_law_is_standing) (defBody s_law_is_standing) (defScope s_law_is_standing) .none kV_law_is_standing dc_law_is_standing pm_law_is_standing an_law_is_standing cd_law_is_standing ct_law_is_standing), sl_flaw_is_standing⟩)
    (c_law_is_standing : PySem.W.codeIn K cd_law_is_standing "_law_is_standing" = true)
    (k_law_is_standing : PySem.W.keepIn K (.ref f_law_is_standing) = true)
    (a_law_all : PySem.W.nsIn K mainGlobals "_law_all" = some (some (.ref f_law_all)))
    (l_law_all : K.lookup f_law_all = some ⟨oc_law_all, od_law_all, .func (PySem.W.fnOf "_law_all" "_law_all" (defArgs s_law_all) (defBody s_law_all) (defScope s_law_all) .none kV_law_all dc_law_all pm_law_all an_law_all cd_law_all ct_law_all), sl_flaw_all⟩)
    (c_law_all : PySem.W.codeIn K cd_law_all "_law_all" = true)
    (k_law_all : PySem.W.keepIn K (.ref f_law_all) = true)
    (a_law_same : PySem.W.nsIn K mainGlobals "_law_same" = some (some (.ref f_law_same)))
    (l_law_same : K.lookup f_law_same = some ⟨oc_law_same, od_law_same, .func (PySem.W.fnOf "_law_same" "_law_same" (defArgs s_law_same) (defBody s_law_same) (defScope s_law_same) .none kV_law_same dc_law_same pm_law_same an_law_same cd_law_same ct_law_same), sl_flaw_same⟩)
    (c_law_same : PySem.W.codeIn K cd_law_same "_law_same" = true)
    (k_law_same : PySem.W.keepIn K (.ref f_law_same) = true)
    (a_law_bars : PySem.W.nsIn K mainGlobals "_law_bars" = some (some (.ref f_law_bars)))
    (l_law_bars : K.lookup f_law_bars = some ⟨oc_law_bars, od_law_bars, .func (PySem.W.fnOf "_law_bars" "_law_bars" (defArgs s_law_bars) (defBody s_law_bars) (defScope s_law_bars) .none kV_law_bars dc_law_bars pm_law_bars an_law_bars cd_law_bars ct_law_bars), sl_flaw_bars⟩)
    (c_law_bars : PySem.W.codeIn K cd_law_bars "_law_bars" = true)
    (k_law_bars : PySem.W.keepIn K (.ref f_law_bars) = true)
    (a_check_table : PySem.W.nsIn K mainGlobals "check_table" = some (some (.ref f_check_table)))
    (l_check_table : K.lookup f_check_table = some ⟨oc_check_table, od_check_table, .func (PySem.W.fnOf "check_table" "check_table" (defArgs s_check_table) (defBody s_check_table) (defScope s_check_table) .none kV_check_table dc_check_table pm_check_table an_check_table cd_check_table ct_check_table), sl_fcheck_table⟩)
    (c_check_table : PySem.W.codeIn K cd_check_table "check_table" = true)
    (k_check_table : PySem.W.keepIn K (.ref f_check_table) = true)
    (a_blocks_of : PySem.W.nsIn K mainGlobals "blocks_of" = some (some (.ref f_blocks_of)))
    (l_blocks_of : K.lookup f_blocks_of = some ⟨oc_blocks_of, od_blocks_of, .func (PySem.W.fnOf "blocks_of" "blocks_of" (defArgs s_blocks_of) (defBody s_blocks_of) (defScope s_blocks_of) .none kV_blocks_of dc_blocks_of pm_blocks_of an_blocks_of cd_blocks_of ct_blocks_of), sl_fblocks_of⟩)
    (c_blocks_of : PySem.W.codeIn K cd_blocks_of "blocks_of" = true)
    (k_blocks_of : PySem.W.keepIn K (.ref f_blocks_of) = true)
    (a_is_falling : PySem.W.nsIn K mainGlobals "is_falling" = some (some (.ref f_is_falling)))
    (l_is_falling : K.lookup f_is_falling = some ⟨oc_is_falling, od_is_falling, .func (PySem.W.fnOf "is_falling" "is_falling" (defArgs s_is_falling) (defBody s_is_falling) (defScope s_is_falling) .none kV_is_falling dc_is_falling pm_is_falling an_is_falling cd_is_falling ct_is_falling), sl_fis_falling⟩)
    (c_is_falling : PySem.W.codeIn K cd_is_falling "is_falling" = true)
    (k_is_falling : PySem.W.keepIn K (.ref f_is_falling) = true)
    (a_fits_rule : PySem.W.nsIn K mainGlobals "fits_rule" = some (some (.ref f_fits_rule)))
    (l_fits_rule : K.lookup f_fits_rule = some ⟨oc_fits_rule, od_fits_rule, .func (PySem.W.fnOf "fits_rule" "fits_rule" (defArgs s_fits_rule) (defBody s_fits_rule) (defScope s_fits_rule) .none kV_fits_rule dc_fits_rule pm_fits_rule an_fits_rule cd_fits_rule ct_fits_rule), sl_ffits_rule⟩)
    (c_fits_rule : PySem.W.codeIn K cd_fits_rule "fits_rule" = true)
    (k_fits_rule : PySem.W.keepIn K (.ref f_fits_rule) = true)
    (a_laid_everywhere : PySem.W.nsIn K mainGlobals "laid_everywhere" = some (some (.ref f_laid_everywhere)))
    (l_laid_everywhere : K.lookup f_laid_everywhere = some ⟨oc_laid_everywhere, od_laid_everywhere, .func (PySem.W.fnOf "laid_everywhere" "laid_everywhere" (defArgs s_laid_everywhere) (defBody s_laid_everywhere) (defScope s_laid_everywhere) .none kV_laid_everywhere dc_laid_everywhere pm_laid_everywhere an_laid_everywhere cd_laid_everywhere ct_laid_everywhere), sl_flaid_everywhere⟩)
    (c_laid_everywhere : PySem.W.codeIn K cd_laid_everywhere "laid_everywhere" = true)
    (k_laid_everywhere : PySem.W.keepIn K (.ref f_laid_everywhere) = true)
    (a_standings : PySem.W.nsIn K mainGlobals "standings" = some (some (.ref f_standings)))
    (l_standings : K.lookup f_standings = some ⟨oc_standings, od_standings, .func (PySem.W.fnOf "standings" "standings" (defArgs s_standings) (defBody s_standings) (defScope s_standings) .none kV_standings dc_standings pm_standings an_standings cd_standings ct_standings), sl_fstandings⟩)
    (c_standings : PySem.W.codeIn K cd_standings "standings" = true)
    (k_standings : PySem.W.keepIn K (.ref f_standings) = true)
    (a_does_bar : PySem.W.nsIn K mainGlobals "does_bar" = some (some (.ref f_does_bar)))
    (l_does_bar : K.lookup f_does_bar = some ⟨oc_does_bar, od_does_bar, .func (PySem.W.fnOf "does_bar" "does_bar" (defArgs s_does_bar) (defBody s_does_bar) (defScope s_does_bar) .none kV_does_bar dc_does_bar pm_does_bar an_does_bar cd_does_bar ct_does_bar), sl_fdoes_bar⟩)
    (c_does_bar : PySem.W.codeIn K cd_does_bar "does_bar" = true)
    (k_does_bar : PySem.W.keepIn K (.ref f_does_bar) = true)
    (a_barring_in : PySem.W.nsIn K mainGlobals "barring_in" = some (some (.ref f_barring_in)))
    (l_barring_in : K.lookup f_barring_in = some ⟨oc_barring_in, od_barring_in, .func (PySem.W.fnOf "barring_in" "barring_in" (defArgs s_barring_in) (defBody s_barring_in) (defScope s_barring_in) .none kV_barring_in dc_barring_in pm_barring_in an_barring_in cd_barring_in ct_barring_in), sl_fbarring_in⟩)
    (c_barring_in : PySem.W.codeIn K cd_barring_in "barring_in" = true)
    (k_barring_in : PySem.W.keepIn K (.ref f_barring_in) = true)
    (a_is_ready_by : PySem.W.nsIn K mainGlobals "is_ready_by" = some (some (.ref f_is_ready_by)))
    (l_is_ready_by : K.lookup f_is_ready_by = some ⟨oc_is_ready_by, od_is_ready_by, .func (PySem.W.fnOf "is_ready_by" "is_ready_by" (defArgs s_is_ready_by) (defBody s_is_ready_by) (defScope s_is_ready_by) .none kV_is_ready_by dc_is_ready_by pm_is_ready_by an_is_ready_by cd_is_ready_by ct_is_ready_by), sl_fis_ready_by⟩)
    (c_is_ready_by : PySem.W.codeIn K cd_is_ready_by "is_ready_by" = true)
    (k_is_ready_by : PySem.W.keepIn K (.ref f_is_ready_by) = true)
    (a_ready_standings : PySem.W.nsIn K mainGlobals "ready_standings" = some (some (.ref f_ready_standings)))
    (l_ready_standings : K.lookup f_ready_standings = some ⟨oc_ready_standings, od_ready_standings, .func (PySem.W.fnOf "ready_standings" "ready_standings" (defArgs s_ready_standings) (defBody s_ready_standings) (defScope s_ready_standings) .none kV_ready_standings dc_ready_standings pm_ready_standings an_ready_standings cd_ready_standings ct_ready_standings), sl_fready_standings⟩)
    (c_ready_standings : PySem.W.codeIn K cd_ready_standings "ready_standings" = true)
    (k_ready_standings : PySem.W.keepIn K (.ref f_ready_standings) = true)
    (a_how_many_ready : PySem.W.nsIn K mainGlobals "how_many_ready" = some (some (.ref f_how_many_ready)))
    (l_how_many_ready : K.lookup f_how_many_ready = some ⟨oc_how_many_ready, od_how_many_ready, .func (PySem.W.fnOf "how_many_ready" "how_many_ready" (defArgs s_how_many_ready) (defBody s_how_many_ready) (defScope s_how_many_ready) .none kV_how_many_ready dc_how_many_ready pm_how_many_ready an_how_many_ready cd_how_many_ready ct_how_many_ready), sl_fhow_many_ready⟩)
    (c_how_many_ready : PySem.W.codeIn K cd_how_many_ready "how_many_ready" = true)
    (k_how_many_ready : PySem.W.keepIn K (.ref f_how_many_ready) = true)
    (a_is_pile : PySem.W.nsIn K mainGlobals "is_pile" = some (some (.ref f_is_pile)))
    (l_is_pile : K.lookup f_is_pile = some ⟨oc_is_pile, od_is_pile, .func (PySem.W.fnOf "is_pile" "is_pile" (defArgs s_is_pile) (defBody s_is_pile) (defScope s_is_pile) .none kV_is_pile dc_is_pile pm_is_pile an_is_pile cd_is_pile ct_is_pile), sl_fis_pile⟩)
    (c_is_pile : PySem.W.codeIn K cd_is_pile "is_pile" = true)
    (k_is_pile : PySem.W.keepIn K (.ref f_is_pile) = true)
    (a_wrong_in : PySem.W.nsIn K mainGlobals "wrong_in" = some (some (.ref f_wrong_in)))
    (l_wrong_in : K.lookup f_wrong_in = some ⟨oc_wrong_in, od_wrong_in, .func (PySem.W.fnOf "wrong_in" "wrong_in" (defArgs s_wrong_in) (defBody s_wrong_in) (defScope s_wrong_in) .none kV_wrong_in dc_wrong_in pm_wrong_in an_wrong_in cd_wrong_in ct_wrong_in), sl_fwrong_in⟩)
    (c_wrong_in : PySem.W.codeIn K cd_wrong_in "wrong_in" = true)
    (k_wrong_in : PySem.W.keepIn K (.ref f_wrong_in) = true)
    (a_are_all : PySem.W.nsIn K mainGlobals "are_all" = some (some (.ref f_are_all)))
    (l_are_all : K.lookup f_are_all = some ⟨oc_are_all, od_are_all, .func (PySem.W.fnOf "are_all" "are_all" (defArgs s_are_all) (defBody s_are_all) (defScope s_are_all) .none kV_are_all dc_are_all pm_are_all an_are_all cd_are_all ct_are_all), sl_fare_all⟩)
    (c_are_all : PySem.W.codeIn K cd_are_all "are_all" = true)
    (k_are_all : PySem.W.keepIn K (.ref f_are_all) = true)
    (a_are_all_blocks : PySem.W.nsIn K mainGlobals "are_all_blocks" = some (some (.ref f_are_all_blocks)))
    (l_are_all_blocks : K.lookup f_are_all_blocks = some ⟨oc_are_all_blocks, od_are_all_blocks, .func (PySem.W.fnOf "are_all_blocks" "are_all_blocks" (defArgs s_are_all_blocks) (defBody s_are_all_blocks) (defScope s_are_all_blocks) .none kV_are_all_blocks dc_are_all_blocks pm_are_all_blocks an_are_all_blocks cd_are_all_blocks ct_are_all_blocks), sl_fare_all_blocks⟩)
    (c_are_all_blocks : PySem.W.codeIn K cd_are_all_blocks "are_all_blocks" = true)
    (k_are_all_blocks : PySem.W.keepIn K (.ref f_are_all_blocks) = true)
    (a_check_blocks : PySem.W.nsIn K mainGlobals "check_blocks" = some (some (.ref f_check_blocks)))
    (l_check_blocks : K.lookup f_check_blocks = some ⟨oc_check_blocks, od_check_blocks, .func (PySem.W.fnOf "check_blocks" "check_blocks" (defArgs s_check_blocks) (defBody s_check_blocks) (defScope s_check_blocks) .none kV_check_blocks dc_check_blocks pm_check_blocks an_check_blocks cd_check_blocks ct_check_blocks), sl_fcheck_blocks⟩)
    (c_check_blocks : PySem.W.codeIn K cd_check_blocks "check_blocks" = true)
    (k_check_blocks : PySem.W.keepIn K (.ref f_check_blocks) = true)
    (a_is_ready : PySem.W.nsIn K mainGlobals "is_ready" = some (some (.ref f_is_ready)))
    (l_is_ready : K.lookup f_is_ready = some ⟨oc_is_ready, od_is_ready, .func (PySem.W.fnOf "is_ready" "is_ready" (defArgs s_is_ready) (defBody s_is_ready) (defScope s_is_ready) .none kV_is_ready dc_is_ready pm_is_ready an_is_ready cd_is_ready ct_is_ready), sl_fis_ready⟩)
    (c_is_ready : PySem.W.codeIn K cd_is_ready "is_ready" = true)
    (k_is_ready : PySem.W.keepIn K (.ref f_is_ready) = true)
    (a_law_right : PySem.W.nsIn K mainGlobals "_law_right" = some (some (.ref f_law_right)))
    (l_law_right : K.lookup f_law_right = some ⟨oc_law_right, od_law_right, .func (PySem.W.fnOf "_law_right" "_law_right" (defArgs s_law_right) (defBody s_law_right) (defScope s_law_right) .none kV_law_right dc_law_right pm_law_right an_law_right (.ref c0) ct_law_right), sl_flaw_right⟩)
    (c_law_right : PySem.W.codeIn K (.ref c0) "_law_right" = true)
    (k_law_right : PySem.W.keepIn K (.ref f_law_right) = true)
    (xco : K.lookup c0 = some ⟨oc_c0, od_c0, .fields vs_c0, sl_c0⟩)
    (xve : (vs_c0[11]? : Option Value) = some (.ref Pt))
    (xnp : K.lookup Pt = none)
    (a_law_jar : PySem.W.nsIn K mainGlobals "_law_jar" = some (some (.ref f_law_jar)))
    (l_law_jar : K.lookup f_law_jar = some ⟨oc_law_jar, od_law_jar, .func (PySem.W.fnOf "_law_jar" "_law_jar" (defArgs s_law_jar) (defBody s_law_jar) (defScope s_law_jar) .none kV_law_jar dc_law_jar pm_law_jar an_law_jar cd_law_jar ct_law_jar), sl_flaw_jar⟩)
    (c_law_jar : PySem.W.codeIn K cd_law_jar "_law_jar" = true)
    (k_law_jar : PySem.W.keepIn K (.ref f_law_jar) = true)
    (a_law : PySem.W.nsIn K mainGlobals "law" = some (some (.ref f_law)))
    (l_law : K.lookup f_law = some ⟨oc_law, od_law, .func (PySem.W.fnOf "law" "law" (defArgs s_law) (defBody s_law) (defScope s_law) .none kV_law dc_law pm_law an_law cd_law ct_law), sl_flaw⟩)
    (c_law : PySem.W.codeIn K cd_law "law" = true)
    (k_law : PySem.W.keepIn K (.ref f_law) = true) :
    ∃ fd : FuncData, PySem.W.tabIn K "_law_right" = some (c0, Pt) ∧ K.lookup Pt = none ∧ (∀ (s : Shared) (v : Value), BindsTo s fd ⟨[v], []⟩ [("script", v)]) ∧ ∀ base : Heap, K.In base → base.Ns mainGlobals mg → LamX.TabB base mg c0 Pt → FnOk l.prog w K mg base CX0 13 fa fd ["script"] (spDT (wW K C0 [(2, xa_InvalidStanding), (7, xa_NotATable), (100, f_is_pile)]) [(Pt, lamQ)] 1 m_law) := by
  have e := hfa.symm.trans (PySem.W.mg_of X G a_law)
  cases e
  have Z : Top K mg C0 [(2, xa_InvalidStanding), (7, xa_NotATable), (100, f_is_pile)] := ⟨⟨⟨xa_NotATable, PySem.W.mg_of X G aX_NotATable, (fun c C w hC hw => by
      have hm := xc_mem hC
      simp only [List.mem_cons, List.not_mem_nil, or_false, Prod.mk.injEq] at hm
      rcases hm with ⟨rfl, rfl⟩ | ⟨rfl, rfl⟩ | ⟨rfl, rfl⟩
      · exact kx_InvalidStanding_NotATable
      · exact kx_NotATable_NotATable
      · exact absurd hw (by simp [wordOf]))⟩,
    ⟨xa_InvalidStanding, PySem.W.mg_of X G aX_InvalidStanding, (fun c C w hC hw => by
      have hm := xc_mem hC
      simp only [List.mem_cons, List.not_mem_nil, or_false, Prod.mk.injEq] at hm
      rcases hm with ⟨rfl, rfl⟩ | ⟨rfl, rfl⟩ | ⟨rfl, rfl⟩
      · exact kx_InvalidStanding_InvalidStanding
      · exact kx_NotATable_InvalidStanding
      · exact absurd hw (by simp [wordOf]))⟩,
    ⟨xa_PE, PySem.W.mg_of X G aX_PE, (fun c C w hC hw => by
      have hm := xc_mem hC
      simp only [List.mem_cons, List.not_mem_nil, or_false, Prod.mk.injEq] at hm
      rcases hm with ⟨rfl, rfl⟩ | ⟨rfl, rfl⟩ | ⟨rfl, rfl⟩
      · exact em_InvalidStanding
      · exact em_NotATable
      · exact absurd hw (by simp [wordOf]))⟩,
    (fun c C w hC hw => by
      have hm := xc_mem hC
      simp only [List.mem_cons, List.not_mem_nil, or_false, Prod.mk.injEq] at hm
      rcases hm with ⟨rfl, rfl⟩ | ⟨rfl, rfl⟩ | ⟨rfl, rfl⟩
      · exact ⟨⟨cx_InvalidStanding, ⟨gx_InvalidStanding, hx_InvalidStanding, bx_InvalidStanding, dx_InvalidStanding⟩, px_InvalidStanding, cn, ct, mx_InvalidStanding⟩, nx_InvalidStanding, kx_vInvalidStanding, kx_lInvalidStanding⟩
      · exact ⟨⟨cx_NotATable, ⟨gx_NotATable, hx_NotATable, bx_NotATable, dx_NotATable⟩, px_NotATable, cn, ct, mx_NotATable⟩, nx_NotATable, kx_vNotATable, kx_lNotATable⟩
      · exact absurd hw (by simp [wordOf])),
    ⟨f_is_pile, PySem.W.mg_of X G a_is_pile, rfl⟩,
    ⟨xa_InvalidStanding, rfl, PySem.W.mg_of X G aX_InvalidStanding, oex_mk ox_InvalidStanding sx_InvalidStanding bx_InvalidStanding tx_InvalidStanding ex_InvalidStanding, nx_InvalidStanding, _, _, ix_InvalidStanding, fx_InvalidStanding, fun_mk (st := s_InvalidStanding_init) l_iInvalidStanding c_iInvalidStanding k_iInvalidStanding⟩,
    ⟨xa_NotATable, rfl, PySem.W.mg_of X G aX_NotATable, oex_mk ox_NotATable sx_NotATable bx_NotATable tx_NotATable ex_NotATable, nx_NotATable, _, _, ix_NotATable, fx_NotATable, fun_mk (st := s_NotATable_init) l_iNotATable c_iNotATable k_iNotATable⟩,
    PySem.W.mg_none_of X G z_LookupError,
    PySem.W.mg_none_of X G z_ValueError,
    PySem.W.mg_none_of X G z_abs,
    PySem.W.mg_none_of X G z_all,
    PySem.W.mg_none_of X G z_bool,
    PySem.W.mg_none_of X G z_divmod,
    PySem.W.mg_none_of X G z_enumerate,
    PySem.W.mg_none_of X G z_int,
    PySem.W.mg_none_of X G z_isinstance,
    PySem.W.mg_none_of X G z_len,
    PySem.W.mg_none_of X G z_list,
    PySem.W.mg_none_of X G z_max,
    PySem.W.mg_none_of X G z_min,
    PySem.W.mg_none_of X G z_range,
    PySem.W.mg_none_of X G z_sorted,
    PySem.W.mg_none_of X G z_str,
    PySem.W.mg_none_of X G z_tuple,
    ⟨⟨_, PySem.W.mg_of X G v_BLOCKS⟩, by decide⟩,
    ⟨_, PySem.W.mg_of X G v_LEAST_MANY⟩,
    ⟨_, PySem.W.mg_of X G v_MOST_MANY⟩,
    ⟨_, PySem.W.mg_of X G v_LEAST_PILES_tablework⟩,
    ⟨_, PySem.W.mg_of X G v_MOST_PILES_tablework⟩,
    ⟨⟨_, PySem.W.mg_of X G v_FREE⟩, by decide⟩,
    ⟨_, _, _, _, _, PySem.W.mg_of X G v_RULES, w_RULES, rfl, rfl, Nat.le_of_ble_eq_true rfl, (.cons ⟨_, rfl⟩ (.cons ⟨_, rfl⟩ (.nil)) : Vals [V.str (L2.DI.mk [102, 114, 101, 101]), V.str (L2.DI.mk [108, 105, 103, 104, 116])] _), fun _ _ => .cons (.str _ (by decide)) (.cons (.str _ (by decide)) (.nil))⟩,
    ⟨_, PySem.W.mg_of X G v_LEAST_PILES_takework⟩,
    ⟨_, PySem.W.mg_of X G v_MOST_PILES_takework⟩,
    ⟨_, PySem.W.mg_of X G v_MOST_BLOCKS⟩,
    wok_of ⟨pg, hd, po, sa⟩ n_many n_piles n_height n_rule n_parts,
    isi_of ⟨pg, hd, po, sa⟩ ca cn ct cm ob_int ob_bool ob_str ob_tuple ob_list ob_dict bo_NoneType bo_bool bo_int bo_str bo_tuple bo_list bo_dict oo,
    rfl,
    PySem.W.mg_of X G aC⟩,
    ⟨_, _, PySem.W.mg_of X G a_law_kept, fun_mk (st := s_law_kept) l_law_kept c_law_kept k_law_kept⟩,
    ⟨_, _, PySem.W.mg_of X G a_law_pick, fun_mk (st := s_law_pick) l_law_pick c_law_pick k_law_pick⟩,
    ⟨_, _, PySem.W.mg_of X G a_law_of, fun_mk (st := s_law_of) l_law_of c_law_of k_law_of⟩,
    ⟨_, _, PySem.W.mg_of X G a_law_odd_table, fun_mk (st := s_law_odd_table) l_law_odd_table c_law_odd_table k_law_odd_table⟩,
    ⟨_, _, PySem.W.mg_of X G a_law_table, fun_mk (st := s_law_table) l_law_table c_law_table k_law_table⟩,
    ⟨_, _, PySem.W.mg_of X G a_is_whole, fun_mk (st := s_is_whole) l_is_whole c_is_whole k_is_whole⟩,
    ⟨_, _, PySem.W.mg_of X G a_is_between, fun_mk (st := s_is_between) l_is_between c_is_between k_is_between⟩,
    ⟨_, _, PySem.W.mg_of X G a_check_number, fun_mk (st := s_check_number) l_check_number c_check_number k_check_number⟩,
    ⟨_, _, PySem.W.mg_of X G a_check_height, fun_mk (st := s_check_height) l_check_height c_check_height k_check_height⟩,
    ⟨_, _, PySem.W.mg_of X G a_is_one_of, fun_mk (st := s_is_one_of) l_is_one_of c_is_one_of k_is_one_of⟩,
    ⟨_, _, ⟨mk, a_Table_init, i_Table_init, kc⟩, fun_mk (st := s_Table_init) l_Table_init c_Table_init k_Table_init⟩,
    ⟨_, _, PySem.W.mg_of X G a_law_made, fun_mk (st := s_law_made) l_law_made c_law_made k_law_made⟩,
    ⟨_, _, PySem.W.mg_of X G a_law_is_standing, fun_mk (st := s_law_is_standing) l_law_is_standing c_law_is_standing k_law_is_standing⟩,
    ⟨_, _, PySem.W.mg_of X G a_law_all, fun_mk (st := s_law_all) l_law_all c_law_all k_law_all⟩,
    ⟨_, _, PySem.W.mg_of X G a_law_same, fun_mk (st := s_law_same) l_law_same c_law_same k_law_same⟩,
    ⟨_, _, PySem.W.mg_of X G a_law_bars, fun_mk (st := s_law_bars) l_law_bars c_law_bars k_law_bars⟩,
    ⟨_, _, PySem.W.mg_of X G a_check_table, fun_mk (st := s_check_table) l_check_table c_check_table k_check_table⟩,
    ⟨_, _, PySem.W.mg_of X G a_blocks_of, fun_mk (st := s_blocks_of) l_blocks_of c_blocks_of k_blocks_of⟩,
    ⟨_, _, PySem.W.mg_of X G a_is_falling, fun_mk (st := s_is_falling) l_is_falling c_is_falling k_is_falling⟩,
    ⟨_, _, PySem.W.mg_of X G a_fits_rule, fun_mk (st := s_fits_rule) l_fits_rule c_fits_rule k_fits_rule⟩,
    ⟨_, _, PySem.W.mg_of X G a_laid_everywhere, fun_mk (st := s_laid_everywhere) l_laid_everywhere c_laid_everywhere k_laid_everywhere⟩,
    ⟨_, _, PySem.W.mg_of X G a_standings, fun_mk (st := s_standings) l_standings c_standings k_standings⟩,
    ⟨_, _, PySem.W.mg_of X G a_does_bar, fun_mk (st := s_does_bar) l_does_bar c_does_bar k_does_bar⟩,
    ⟨_, _, PySem.W.mg_of X G a_barring_in, fun_mk (st := s_barring_in) l_barring_in c_barring_in k_barring_in⟩,
    ⟨_, _, PySem.W.mg_of X G a_is_ready_by, fun_mk (st := s_is_ready_by) l_is_ready_by c_is_ready_by k_is_ready_by⟩,
    ⟨_, _, PySem.W.mg_of X G a_ready_standings, fun_mk (st := s_ready_standings) l_ready_standings c_ready_standings k_ready_standings⟩,
    ⟨_, _, PySem.W.mg_of X G a_how_many_ready, fun_mk (st := s_how_many_ready) l_how_many_ready c_how_many_ready k_how_many_ready⟩,
    ⟨_, _, PySem.W.mg_of X G a_is_pile, fun_mk (st := s_is_pile) l_is_pile c_is_pile k_is_pile⟩,
    ⟨_, _, PySem.W.mg_of X G a_wrong_in, fun_mk (st := s_wrong_in) l_wrong_in c_wrong_in k_wrong_in⟩,
    ⟨_, _, PySem.W.mg_of X G a_are_all, fun_mk (st := s_are_all) l_are_all c_are_all k_are_all⟩,
    ⟨_, _, PySem.W.mg_of X G a_are_all_blocks, fun_mk (st := s_are_all_blocks) l_are_all_blocks c_are_all_blocks k_are_all_blocks⟩,
    ⟨_, _, PySem.W.mg_of X G a_check_blocks, fun_mk (st := s_check_blocks) l_check_blocks c_check_blocks k_check_blocks⟩,
    ⟨_, _, PySem.W.mg_of X G a_is_ready, fun_mk (st := s_is_ready) l_is_ready c_is_ready k_is_ready⟩,
    ⟨_, _, PySem.W.mg_of X G a_law_right, fun_mk (st := s_law_right) l_law_right c_law_right k_law_right⟩,
    ⟨_, _, PySem.W.mg_of X G a_law_jar, fun_mk (st := s_law_jar) l_law_jar c_law_jar k_law_jar⟩⟩
  have xti := (tab_mk a_law_right l_law_right rfl xco xve)
  have hcd : ∀ f fd, mg "_law_right" = some (.ref f) → Fun K "_law_right" "_law_right" s_law_right f fd → fd.code = .ref c0 := fun f fd hm Fn => by
    have e := hm.symm.trans (PySem.W.mg_of X G a_law_right)
    cases e
    obtain ⟨oc, od, kV, doc, pm, an, cdv, ct, osl, e1, lk, _⟩ := Fn.ex
    exact tab_cd a_law_right lk xti
  exact ⟨_, xti, xnp, fun s v => .of_eq rfl, fun base _ _ TB => law_ok Z TB hcd (fun_mk (st := s_law) l_law c_law k_law)⟩
theorem walk (hm : ∀ ns : List Int, ns.length ≤ 63 → m_law [.kls (ns.map .int)] = .ok (.im (.bl true))) {l : PySem.W.OpenLaw} {q : Program} {loose : List Str} {XP : (Str → Option Value) → Heap → Prop} {YP : World → Heap → Prop} {d : DefRec} {K : Params → PySem.W.Frag} (hn : l.most = some 63) (hdf : d.params.defaults = [])
    (hY : ∀ (w : World) (h : Heap), YP w h → (K w.params).In h) (hre : ((recsOf q).find? (fun e => e.name == ("_law_right" : Str))).isSome = true)
    (F : ∀ (w : World) (mg : Str → Option Value) (fa : Addr) (h : Heap), (K w.params).In h → h.Ns mainGlobals mg → mg d.name = some (.ref fa) →
      ∃ (C0 : Addr) (xl : List (Nat × Addr)) (c0 Pt : Addr) (fd : FuncData), PySem.W.tabIn (K w.params) "_law_right" = some (c0, Pt) ∧ (K w.params).lookup Pt = none ∧ (∀ (s : Shared) (u : Value), BindsTo s fd ⟨[u], []⟩ [("script", u)]) ∧ ∀ base : Heap, (K w.params).In base → base.Ns mainGlobals mg → LamX.TabB base mg c0 Pt → FnOk l.prog w (K w.params) mg base CX0 13 fa fd ["script"] (spDT (wW (K w.params) C0 xl) [(Pt, lamQ)] 1 m_law)) :
    PySem.W.WalkO q loose XP YP l.row.toRowW d [] (fun f vs => PySem.call f vs) := by
  refine walk_ofTT (n := 63) (k := 13) (x := "script") hn (by decide) hdf ⟨rfl, by decide, by decide⟩ hY fun w mg fa h X G e => ?_
  obtain ⟨C0, xl, c0, Pt, fd, h1, h2, h3, h4⟩ := F w mg fa h X G e
  exact ⟨fd, c0, Pt, _, "_law_right", hre, h1, h2, h3, fun H a ns hl hP hS => law_spT (W := wW (K w.params) C0 xl) (hm ns hl) hP hS, h4⟩
end L2.DI
open PySem PySem.W PyProof.Rows
set_option maxRecDepth 100000 in
set_option maxHeartbeats 0 in
theorem PySem.Challenge.cw_piletables_k56_whole_ready_standings_holds : PySem.Challenge.rw_piletables_k56_whole_ready_standings.Holds := by
  w_on; o_law; k_head; (case hw => w_witness2)
  k_fill
  refine L2.DI.walk (l := PySem.Challenge.rw_piletables_k56_whole_ready_standings) L2.DI.law_true rfl rfl (fun w h Y => PySem.W.km_in_of Y) ?R ?F
  case R => decide +kernel
  case F =>
    intro w mg fa h KX G hmg
    refine' ⟨_, _, _, _, L2.DI.all_mk KX G hmg ?aX_InvalidStanding ?aX_NotATable ?aX_PE ?cx_InvalidStanding ?gx_InvalidStanding ?hx_InvalidStanding ?dx_InvalidStanding ?px_InvalidStanding ?mx_InvalidStanding ?kx_vInvalidStanding ?kx_lInvalidStanding ?em_InvalidStanding ?kx_InvalidStanding_InvalidStanding ?kx_InvalidStanding_NotATable ?cx_NotATable ?gx_NotATable ?hx_NotATable ?dx_NotATable ?px_NotATable ?mx_NotATable ?kx_vNotATable ?kx_lNotATable ?em_NotATable ?kx_NotATable_InvalidStanding ?kx_NotATable_NotATable ?bx_InvalidStanding ?nx_InvalidStanding ?bx_NotATable ?nx_NotATable ?ox_InvalidStanding ?sx_InvalidStanding ?tx_InvalidStanding ?ex_InvalidStanding ?ix_InvalidStanding ?fx_InvalidStanding ?l_iInvalidStanding ?c_iInvalidStanding ?k_iInvalidStanding ?ox_NotATable ?sx_NotATable ?tx_NotATable ?ex_NotATable ?ix_NotATable ?fx_NotATable ?l_iNotATable ?c_iNotATable ?k_iNotATable ?z_LookupError ?z_ValueError ?z_abs ?z_all ?z_bool ?z_divmod ?z_enumerate ?z_int ?z_isinstance ?z_len ?z_list ?z_max ?z_min ?z_range ?z_sorted ?z_str ?z_tuple ?v_BLOCKS ?v_LEAST_MANY ?v_MOST_MANY ?v_LEAST_PILES_tablework ?v_MOST_PILES_tablework ?v_FREE ?v_RULES ?w_RULES ?v_LEAST_PILES_takework ?v_MOST_PILES_takework ?v_MOST_BLOCKS ?aC ?pg ?hd ?po ?sa ?mk ?kc ?n_many ?n_piles ?n_height ?n_rule ?n_parts ?ca ?cn ?ct ?cm ?ob_int ?ob_bool ?ob_str ?ob_tuple ?ob_list ?ob_dict ?bo_NoneType ?bo_bool ?bo_int ?bo_str ?bo_tuple ?bo_list ?bo_dict ?oo ?a_law_kept ?l_law_kept ?c_law_kept ?k_law_kept ?a_law_pick ?l_law_pick ?c_law_pick ?k_law_pick ?a_law_of ?l_law_of ?c_law_of ?k_law_of ?a_law_odd_table ?l_law_odd_table ?c_law_odd_table ?k_law_odd_table ?a_law_table ?l_law_table ?c_law_table ?k_law_table ?a_is_whole ?l_is_whole ?c_is_whole ?k_is_whole ?a_is_between ?l_is_between ?c_is_between ?k_is_between ?a_check_number ?l_check_number ?c_check_number ?k_check_number ?a_check_height ?l_check_height ?c_check_height ?k_check_height ?a_is_one_of ?l_is_one_of ?c_is_one_of ?k_is_one_of ?a_Table_init ?i_Table_init ?l_Table_init ?c_Table_init ?k_Table_init ?a_law_made ?l_law_made ?c_law_made ?k_law_made ?a_law_is_standing ?l_law_is_standing ?c_law_is_standing ?k_law_is_standing ?a_law_all ?l_law_all ?c_law_all ?k_law_all ?a_law_same ?l_law_same ?c_law_same ?k_law_same ?a_law_bars ?l_law_bars ?c_law_bars ?k_law_bars ?a_check_table ?l_check_table ?c_check_table ?k_check_table ?a_blocks_of ?l_blocks_of ?c_blocks_of ?k_blocks_of ?a_is_falling ?l_is_falling ?c_is_falling ?k_is_falling ?a_fits_rule ?l_fits_rule ?c_fits_rule ?k_fits_rule ?a_laid_everywhere ?l_laid_everywhere ?c_laid_everywhere ?k_laid_everywhere ?a_standings ?l_standings ?c_standings ?k_standings ?a_does_bar ?l_does_bar ?c_does_bar ?k_does_bar ?a_barring_in ?l_barring_in ?c_barring_in ?k_barring_in ?a_is_ready_by ?l_is_ready_by ?c_is_ready_by ?k_is_ready_by ?a_ready_standings ?l_ready_standings ?c_ready_standings ?k_ready_standings ?a_how_many_ready ?l_how_many_ready ?c_how_many_ready ?k_how_many_ready ?a_is_pile ?l_is_pile ?c_is_pile ?k_is_pile ?a_wrong_in ?l_wrong_in ?c_wrong_in ?k_wrong_in ?a_are_all ?l_are_all ?c_are_all ?k_are_all ?a_are_all_blocks ?l_are_all_blocks ?c_are_all_blocks ?k_are_all_blocks ?a_check_blocks ?l_check_blocks ?c_check_blocks ?k_check_blocks ?a_is_ready ?l_is_ready ?c_is_ready ?k_is_ready ?a_law_right ?l_law_right ?c_law_right ?k_law_right ?xco ?xve ?xnp ?a_law_jar ?l_law_jar ?c_law_jar ?k_law_jar ?a_law ?l_law ?c_law ?k_law⟩
    (case aX_InvalidStanding => k_is)
    (case aX_NotATable => k_is)
    (case aX_PE => k_is)
    (case cx_InvalidStanding => kernel_rfl)
    (case gx_InvalidStanding => k_is)
    (case hx_InvalidStanding => k_is)
    (case dx_InvalidStanding => k_is)
    (case px_InvalidStanding => k_is)
    (case mx_InvalidStanding => k_is)
    (case kx_vInvalidStanding => kit_is)
    (case kx_lInvalidStanding => kit_is)
    (case em_InvalidStanding => kernel_rfl)
    (case kx_InvalidStanding_InvalidStanding => kit_is)
    (case kx_InvalidStanding_NotATable => kit_is)
    (case cx_NotATable => kernel_rfl)
    (case gx_NotATable => k_is)
    (case hx_NotATable => k_is)
    (case dx_NotATable => k_is)
    (case px_NotATable => k_is)
    (case mx_NotATable => k_is)
    (case kx_vNotATable => kit_is)
    (case kx_lNotATable => kit_is)
    (case em_NotATable => kernel_rfl)
    (case kx_NotATable_InvalidStanding => kit_is)
    (case kx_NotATable_NotATable => kit_is)
    (case bx_InvalidStanding => k_is)
    (case nx_InvalidStanding => k_is)
    (case bx_NotATable => k_is)
    (case nx_NotATable => k_is)
    (case ox_InvalidStanding => kernel_rfl)
    (case sx_InvalidStanding => k_is)
    (case tx_InvalidStanding => k_is)
    (case ex_InvalidStanding => k_is)
    (case ix_InvalidStanding => k_is)
    (case fx_InvalidStanding => k_is)
    (case l_iInvalidStanding => k_is)
    (case c_iInvalidStanding => k_is)
    (case k_iInvalidStanding => k_is)
    (case ox_NotATable => kernel_rfl)
    (case sx_NotATable => k_is)
    (case tx_NotATable => k_is)
    (case ex_NotATable => k_is)
    (case ix_NotATable => k_is)
    (case fx_NotATable => k_is)
    (case l_iNotATable => k_is)
    (case c_iNotATable => k_is)
    (case k_iNotATable => k_is)
    (case z_LookupError => k_is)
    (case z_ValueError => k_is)
    (case z_abs => k_is)
    (case z_all => k_is)
    (case z_bool => k_is)
    (case z_divmod => k_is)
    (case z_enumerate => k_is)
    (case z_int => k_is)
    (case z_isinstance => k_is)
    (case z_len => k_is)
    (case z_list => k_is)
    (case z_max => k_is)
    (case z_min => k_is)
    (case z_range => k_is)
    (case z_sorted => k_is)
    (case z_str => k_is)
    (case z_tuple => k_is)
    (case v_BLOCKS => k_is)
    (case v_LEAST_MANY => k_is)
    (case v_MOST_MANY => k_is)
    (case v_LEAST_PILES_tablework => k_is)
    (case v_MOST_PILES_tablework => k_is)
    (case v_FREE => k_is)
    (case v_RULES => k_is)
    (case w_RULES => k_is)
    (case v_LEAST_PILES_takework => k_is)
    (case v_MOST_PILES_takework => k_is)
    (case v_MOST_BLOCKS => k_is)
    (case aC => k_is)
    (case pg => k_is)
    (case hd => k_is)
    (case po => k_is)
    (case sa => k_is)
    (case mk => k_is)
    (case kc => k_is)
    (case n_many => k_is)
    (case n_piles => k_is)
    (case n_height => k_is)
    (case n_rule => k_is)
    (case n_parts => k_is)
    (case ca => k_is)
    (case cn => k_is)
    (case ct => k_is)
    (case cm => k_is)
    (case ob_int => kit_is)
    (case ob_bool => kit_is)
    (case ob_str => kit_is)
    (case ob_tuple => kit_is)
    (case ob_list => kit_is)
    (case ob_dict => kit_is)
    (case bo_NoneType => kit_is)
    (case bo_bool => kit_is)
    (case bo_int => kit_is)
    (case bo_str => kit_is)
    (case bo_tuple => kit_is)
    (case bo_list => kit_is)
    (case bo_dict => kit_is)
    (case oo => kit_is)
    (case a_law_kept => k_is)
    (case l_law_kept => k_is)
    (case c_law_kept => k_is)
    (case k_law_kept => k_is)
    (case a_law_pick => k_is)
    (case l_law_pick => k_is)
    (case c_law_pick => k_is)
    (case k_law_pick => k_is)
    (case a_law_of => k_is)
    (case l_law_of => k_is)
    (case c_law_of => k_is)
    (case k_law_of => k_is)
    (case a_law_odd_table => k_is)
    (case l_law_odd_table => k_is)
    (case c_law_odd_table => k_is)
    (case k_law_odd_table => k_is)
    (case a_law_table => k_is)
    (case l_law_table => k_is)
    (case c_law_table => k_is)
    (case k_law_table => k_is)
    (case a_is_whole => k_is)
    (case l_is_whole => k_is)
    (case c_is_whole => k_is)
    (case k_is_whole => k_is)
    (case a_is_between => k_is)
    (case l_is_between => k_is)
    (case c_is_between => k_is)
    (case k_is_between => k_is)
    (case a_check_number => k_is)
    (case l_check_number => k_is)
    (case c_check_number => k_is)
    (case k_check_number => k_is)
    (case a_check_height => k_is)
    (case l_check_height => k_is)
    (case c_check_height => k_is)
    (case k_check_height => k_is)
    (case a_is_one_of => k_is)
    (case l_is_one_of => k_is)
    (case c_is_one_of => k_is)
    (case k_is_one_of => k_is)
    (case a_Table_init => k_is)
    (case i_Table_init => k_is)
    (case l_Table_init => k_is)
    (case c_Table_init => k_is)
    (case k_Table_init => k_is)
    (case a_law_made => k_is)
    (case l_law_made => k_is)
    (case c_law_made => k_is)
    (case k_law_made => k_is)
    (case a_law_is_standing => k_is)
    (case l_law_is_standing => k_is)
    (case c_law_is_standing => k_is)
    (case k_law_is_standing => k_is)
    (case a_law_all => k_is)
    (case l_law_all => k_is)
    (case c_law_all => k_is)
    (case k_law_all => k_is)
    (case a_law_same => k_is)
    (case l_law_same => k_is)
    (case c_law_same => k_is)
    (case k_law_same => k_is)
    (case a_law_bars => k_is)
    (case l_law_bars => k_is)
    (case c_law_bars => k_is)
    (case k_law_bars => k_is)
    (case a_check_table => k_is)
    (case l_check_table => k_is)
    (case c_check_table => k_is)
    (case k_check_table => k_is)
    (case a_blocks_of => k_is)
    (case l_blocks_of => k_is)
    (case c_blocks_of => k_is)
    (case k_blocks_of => k_is)
    (case a_is_falling => k_is)
    (case l_is_falling => k_is)
    (case c_is_falling => k_is)
    (case k_is_falling => k_is)
    (case a_fits_rule => k_is)
    (case l_fits_rule => k_is)
    (case c_fits_rule => k_is)
    (case k_fits_rule => k_is)
    (case a_laid_everywhere => k_is)
    (case l_laid_everywhere => k_is)
    (case c_laid_everywhere => k_is)
    (case k_laid_everywhere => k_is)
    (case a_standings => k_is)
    (case l_standings => k_is)
    (case c_standings => k_is)
    (case k_standings => k_is)
    (case a_does_bar => k_is)
    (case l_does_bar => k_is)
    (case c_does_bar => k_is)
    (case k_does_bar => k_is)
    (case a_barring_in => k_is)
    (case l_barring_in => k_is)
    (case c_barring_in => k_is)
    (case k_barring_in => k_is)
    (case a_is_ready_by => k_is)
    (case l_is_ready_by => k_is)
    (case c_is_ready_by => k_is)
    (case k_is_ready_by => k_is)
    (case a_ready_standings => k_is)
    (case l_ready_standings => k_is)
    (case c_ready_standings => k_is)
    (case k_ready_standings => k_is)
    (case a_how_many_ready => k_is)
    (case l_how_many_ready => k_is)
    (case c_how_many_ready => k_is)
    (case k_how_many_ready => k_is)
    (case a_is_pile => k_is)
    (case l_is_pile => k_is)
    (case c_is_pile => k_is)
    (case k_is_pile => k_is)
    (case a_wrong_in => k_is)
    (case l_wrong_in => k_is)
    (case c_wrong_in => k_is)
    (case k_wrong_in => k_is)
    (case a_are_all => k_is)
    (case l_are_all => k_is)
    (case c_are_all => k_is)
    (case k_are_all => k_is)
    (case a_are_all_blocks => k_is)
    (case l_are_all_blocks => k_is)
    (case c_are_all_blocks => k_is)
    (case k_are_all_blocks => k_is)
    (case a_check_blocks => k_is)
    (case l_check_blocks => k_is)
    (case c_check_blocks => k_is)
    (case k_check_blocks => k_is)
    (case a_is_ready => k_is)
    (case l_is_ready => k_is)
    (case c_is_ready => k_is)
    (case k_is_ready => k_is)
    (case a_law_right => k_is)
    (case l_law_right => k_is)
    (case c_law_right => k_is)
    (case k_law_right => k_is)
    (case xco => k_is)
    (case xve => rfl)
    (case xnp => kernel_rfl)
    (case a_law_jar => k_is)
    (case l_law_jar => k_is)
    (case c_law_jar => k_is)
    (case k_law_jar => k_is)
    (case a_law => k_is)
    (case l_law => k_is)
    (case c_law => k_is)
    (case k_law => k_is)
