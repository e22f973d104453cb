import PyProof.Rows.All
import Wide.All
import OpenK.AllK
import Wide.FinOn
import HandS.ForMost
import HandS.ForExc
import HandS.Wide
import HandS.WideBits
import HandS.IsInst
import HandS.StrMore
import HandS.EndBits
import HandS.Lambda
import HandS.RevRange
import PyProof.EqAt
import PyProof.EqKinds
import PyProof.TupleCall
import Open.SpecLaws
import KE.OsGo
import HandS.ForSpec
import HandS.ExcField
import HandS.TryMany
import HandS.TryOnly
import HandS.Defaults
import HandS.CallSlots
import KE.KExcIs
import HandS.Conv
import KE.DataCmp
import HandS.Deep
import HandS.ClsMeth
import HandS.More
import HandS.SortInts
import HandS.Zip
import HandS.Rev
import HandS.RevTup
import HandS.MapJoin
import PyProof.ListRange
import HandS.Codes
import HandS.HotCalls
import HandS.SuiteRaise
import HandS.SortKw
import KE.SortKeyHeap
import HandS.EndTab
import KE.DataMinMax
import HandS.SetKeys
import PyProof.Draws
import PyProof.EnumMake
import PyProof.WalkInts
import KE.KMinKey
import KE.GoesRaise
import HandS.ReplaceLit
import HandS.ReplaceList
import PySem.Challenge.RW_letterlaw_k07_steps_read

set_option Elab.async false
set_option linter.all false
set_option maxRecDepth 100000
set_option maxHeartbeats 2000000
/-! Vs: a reading of a def's text as a plain function over values (lists and tuples as trees), proved over the hand layer once for each construct. -/
namespace Vs
open PySem L2

/-- an error of the program's own: the number of its class, the value of its one attribute -/
structure Ex where
  c : Nat
  a : Option Int
/-- where a caught error stands -/
structure Xo where
  a : Addr
  cls : Value
  d : Option Addr
/-- values as trees -/
inductive D where
  | non | bl (b : Bool) | int (i : Int) | str (w : List Nat) | lst (l : List D) | tup (l : List D) | ob (c : Nat) (l : List D) | scr (ns : List Int) | xn (o : Xo) (x : Ex)
/-- a field of an own object: shared, or a list of its own -/
inductive Fd where
  | sh (d : D) | ow (l : List D)
def Fd.d : Fd → D
  | .sh d => d
  | .ow l => .lst l
/-- own things: a list, an object, a dict -/
inductive O where
  | ls (l : List D) | ob (c : Nat) (fs : List Fd) | dc (kvs : List (D × D)) | sq (t : Bool) (fs : List Fd) | tre (d : D)
/-- a list or a tuple -/
def sqD : Bool → List D → D
  | true, l => .tup l
  | false, l => .lst l
/-- .. given away -/
def O.d : O → Option D
  | .ls l => some (.lst l)
  | .ob c fs => some (.ob c (fs.map Fd.d))
  | .dc _ => none
  | .sq t fs => some (sqD t (fs.map Fd.d))
  | .tre d => some d

def S (w : List Nat) : Str := ⟨w.toArray⟩
theorem S_list (x : Str) : S x.cps.toList = x := by cases x; rfl
theorem S_cps (w : List Nat) : (S w).cps.toList = w := rfl
theorem S_len (w : List Nat) : (S w).length = w.length := by simp [S, Str.length]
theorem S_inj {a b : List Nat} (h : S a = S b) : a = b := by
  have := congrArg (fun z : Str => z.cps.toList) h
  simpa [S_cps] using this

/-- the written part, and what classes are made of -/
structure Kx where
  K : PySem.W.Frag
  cl : Nat → Addr
  fl : Nat → List Str
  xc : Nat → Addr
  xf : Nat → Option Str
  tb : List (Addr × Str)

/-- no code table -/
def nt (o : HO) : Prop := ∀ ps, o ≠ .tbl ps
/-- .. nor a thing told by a truth -/
def pln (o : HO) : Prop := nt o ∧ ∀ φ, o ≠ .ext φ
/-- all stays, but that tables may grow -/
def Grw (H H' : Hp) : Prop := ∀ a o, H a = some o → ∃ o', H' a = some o' ∧ (nt o → o' = o)
theorem Grw.at {H H' : Hp} (h : Grw H H') {a : Addr} {o : HO} (e : H a = some o) (n : nt o := by first | assumption | exact fun _ z => nomatch z | exact And.left (by assumption)) : H' a = some o := by
  obtain ⟨o', h1, h2⟩ := h a o e
  rw [h1, h2 n]
theorem Grw.refl (H : Hp) : Grw H H := fun _ o h => ⟨o, h, fun _ => rfl⟩
theorem Grw.trans {H H1 H2 : Hp} (x : Grw H H1) (y : Grw H1 H2) : Grw H H2 := fun a o e => by
  obtain ⟨o1, h1, n1⟩ := x a o e
  obtain ⟨o2, h2, n2⟩ := y a o1 h1
  exact ⟨o2, h2, fun n => by
    have := n1 n
    subst this
    exact n2 n⟩
theorem gr {H H' : Hp} (s : Same H H') : Grw H H' := fun a o e => ⟨o, s a o e, fun _ => rfl⟩
instance {H H' : Hp} : Coe (Same H H') (Grw H H') := ⟨gr⟩
/-- the shared part of a heap; the tables stand -/
structure Sub (κ : Kx) (G H : Hp) : Prop where
  s : Same G H
  n : ∀ a o, G a = some o → nt o
  t : LamX.Tabs κ.tb H
instance {κ : Kx} {G H : Hp} : CoeFun (Sub κ G H) fun _ => ∀ a o, G a = some o → H a = some o := ⟨fun z => z.s⟩
instance {κ : Kx} {G H : Hp} : CoeOut (Sub κ G H) (Same G H) := ⟨Sub.s⟩
/-- tables stand where tables and truths stay -/
theorem tabs_of {T : List (Addr × Str)} {H H' : Hp} (t : LamX.Tabs T H) (k : ∀ a o, H a = some o → ¬ pln o → H' a = some o) : LamX.Tabs T H' := fun p hp => by
  obtain ⟨ps, h1, h2, h3⟩ := t p hp
  refine ⟨ps, k _ _ h1 fun z => z.1 ps rfl, h2, fun pos cv hc => ?_⟩
  obtain ⟨c, e1, e2⟩ := h3 pos cv hc
  exact ⟨c, e1, k _ _ e2 fun z => z.2 _ rfl⟩
theorem Sub.kept {κ : Kx} {G H H' : Hp} (z : Sub κ G H) (k : ∀ a o, H a = some o → H' a = some o) : Sub κ G H' := ⟨fun a o e => k a o (z.s a o e), z.n, tabs_of z.t fun a o e _ => k a o e⟩
def XR (κ : Kx) (H : Hp) (x : Ex) (c : Value) (d : Option Addr) : Prop := c = .ref (κ.xc x.c) ∧ match κ.xf x.c, x.a with
  | none, _ => d = none
  | some f, some z => ∃ b, d = some b ∧ H b = some (.xd [(f, .int z)])
  | some _, none => False
/-- a told list: known to the heap, or of the written part -/
def SqZ (K : PySem.W.Frag) (H : Hp) (a : Addr) (xs : List V) : Prop := (∃ od, H a = some (.frz od (.lst xs))) ∨ SqL K (fun _ => none) a xs
theorem SqZ.sq {K : PySem.W.Frag} {H : Hp} {a : Addr} {xs : List V} (h : SqZ K H a xs) : SqL K H a xs := by
  rcases h with h | h
  · exact .inl (.inr h)
  · exact h.imp (fun z => by rcases z with z | ⟨_, z⟩ <;> cases z) id
theorem SqZ.of {K : PySem.W.Frag} {H : Hp} {a : Addr} {xs : List V} (h : SqL K H a xs) : H a = some (.lst xs) ∨ SqZ K H a xs := by
  rcases h with (h | h) | h
  · exact .inl h
  · exact .inr (.inl h)
  · exact .inr (.inr (.inr h))
theorem SqZ.mono {K : PySem.W.Frag} {H H' : Hp} {a : Addr} {xs : List V} (e : ∀ a o, H a = some o → H' a = some o) (h : SqZ K H a xs) : SqZ K H' a xs := h.imp (fun ⟨od, h⟩ => ⟨od, e _ _ h⟩) id
mutual
inductive Rp (κ : Kx) (G : Hp) : V → D → Prop
  | non : Rp κ G .non .non
  | bl (b : Bool) : Rp κ G (.bl b) (.bl b)
  | int (i : Int) : Rp κ G (.int i) (.int i)
  | str (w : List Nat) : Rp κ G (.str (S w)) (.str w)
  | lst {a : Addr} {xs : List V} {ds : List D} : G a = some (.lst xs) → RpA κ G xs ds → Rp κ G (.ref a) (.lst ds)
  | tup {a : Addr} {xs : List V} {ds : List D} : G a = some (.tup xs) → RpA κ G xs ds → Rp κ G (.ref a) (.tup ds)
  | ob {a dx : Addr} {c : Nat} {fs : List (Str × V)} {ds : List D} : G a = some (.ins (κ.cl c) dx fs) → fs.map Prod.fst = (κ.fl c).take ds.length → RpA κ G (fs.map Prod.snd) ds → Rp κ G (.ref a) (.ob c ds)
  | scr {a : Addr} {ns : List Int} : SqZ κ.K G a (ns.map V.int) → Rp κ G (.ref a) (.scr ns)
  | xn {o : Xo} {x : Ex} : XR κ G x o.cls o.d → Rp κ G (.ref o.a) (.xn o x)
inductive RpA (κ : Kx) (G : Hp) : List V → List D → Prop
  | nil : RpA κ G [] []
  | cons {v : V} {vs : List V} {d : D} {ds : List D} : Rp κ G v d → RpA κ G vs ds → RpA κ G (v :: vs) (d :: ds)
end

theorem grw_rd {H H' : Hp} {a : Addr} {u : HO} (e : Grw H H') (n : nt u) (h : Rd H a u) : Rd H' a u := by
  rcases h with h | ⟨o, h⟩
  · exact Or.inl (e.at h)
  · exact Or.inr ⟨o, e.at h⟩
theorem same_l {K : PySem.W.Frag} {H H' : Hp} {a : Addr} {xs : List V} (e : Grw H H') (h : SqL K H a xs) : SqL K H' a xs := h.imp (grw_rd e fun _ z => nomatch z) id
section
variable {κ : Kx} {G G' H H' : Hp}
theorem XR.mono (e : Same G G') {x : Ex} {c : Value} {d : Option Addr} (h : XR κ G x c d) : XR κ G' x c d := by
  refine ⟨h.1, ?_⟩
  have h2 := h.2
  split at h2
  · exact h2
  · obtain ⟨b, h3, h4⟩ := h2
    exact ⟨b, h3, e _ _ h4⟩
  · exact h2
mutual
theorem Rp.mono (e : Same G G') : ∀ {v : V} {d : D}, Rp κ G v d → Rp κ G' v d
  | _, _, .non => .non
  | _, _, .bl b => .bl b
  | _, _, .int i => .int i
  | _, _, .str w => .str w
  | _, _, .lst h t => .lst (e _ _ h) (RpA.mono e t)
  | _, _, .tup h t => .tup (e _ _ h) (RpA.mono e t)
  | _, _, .scr h => .scr (h.mono e)
  | _, _, .xn h => .xn (h.mono e)
  | _, _, .ob h1 h2 t => .ob (e _ _ h1) h2 (RpA.mono e t)
theorem RpA.mono (e : Same G G') : ∀ {vs : List V} {ds : List D}, RpA κ G vs ds → RpA κ G' vs ds
  | _, _, .nil => .nil
  | _, _, .cons h t => .cons (Rp.mono e h) (RpA.mono e t)
end
theorem RpA.length : ∀ {vs : List V} {ds : List D}, RpA κ G vs ds → vs.length = ds.length
  | _, _, .nil => rfl
  | _, _, .cons _ t => by simp [RpA.length t]
theorem RpA.get : ∀ {vs : List V} {ds : List D} {i : Nat} {v : V}, RpA κ G vs ds → vs[i]? = some v → ∃ d, ds[i]? = some d ∧ Rp κ G v d
  | _, _, _, _, .nil, e => by simp at e
  | _, _, 0, _, .cons r _, e => by simp at e; subst e; exact ⟨_, rfl, r⟩
  | _, _, i + 1, v, .cons _ t, e => by
    obtain ⟨d, h1, h2⟩ := RpA.get (i := i) (v := v) t (by simpa using e)
    exact ⟨d, by simpa using h1, h2⟩
theorem RpA.getD : ∀ {vs : List V} {ds : List D} {i : Nat} {d : D}, RpA κ G vs ds → ds[i]? = some d → ∃ v, vs[i]? = some v ∧ Rp κ G v d
  | _, _, _, _, .nil, e => by simp at e
  | _, _, 0, _, .cons r _, e => by simp at e; subst e; exact ⟨_, rfl, r⟩
  | _, _, i + 1, v, .cons _ t, e => by
    obtain ⟨d, h1, h2⟩ := RpA.getD (i := i) (d := v) t (by simpa using e)
    exact ⟨d, by simpa using h1, h2⟩
theorem RpA.append : ∀ {vs us : List V} {ds es : List D}, RpA κ G vs ds → RpA κ G us es → RpA κ G (vs ++ us) (ds ++ es)
  | _, _, _, _, .nil, s => s
  | _, _, _, _, .cons r t, s => .cons r (RpA.append t s)
theorem RpA.take : ∀ {vs : List V} {ds : List D} (n : Nat), RpA κ G vs ds → RpA κ G (vs.take n) (ds.take n)
  | _, _, 0, _ => by simpa using RpA.nil
  | _, _, _ + 1, .nil => by simpa using RpA.nil
  | _, _, n + 1, .cons r t => .cons r (RpA.take n t)
theorem RpA.drop : ∀ {vs : List V} {ds : List D} (n : Nat), RpA κ G vs ds → RpA κ G (vs.drop n) (ds.drop n)
  | _, _, 0, r => r
  | _, _, _ + 1, .nil => by simpa using RpA.nil
  | _, _, n + 1, .cons _ t => RpA.drop n t
theorem RpA.set {v : V} {d : D} (r : Rp κ G v d) : ∀ {vs : List V} {ds : List D} (n : Nat), RpA κ G vs ds → RpA κ G (vs.set n v) (ds.set n d)
  | _, _, _, .nil => .nil
  | _, _, 0, .cons _ t => .cons r t
  | _, _, n + 1, .cons q t => .cons q (RpA.set r n t)
theorem RpA.ints : ∀ ns : List Int, RpA κ G (ns.map V.int) (ns.map D.int)
  | [] => .nil
  | n :: r => .cons (.int n) (RpA.ints r)
end

/-! ### own things -/
/-- the shared part of the heap, and each slot's own addresses -/
structure Gh where
  g : Hp
  fp : Nat → List Addr
instance : Coe Gh Hp := ⟨Gh.g⟩
def Gh.up (G : Gh) (p : Addr) (o : HO) : Gh := ⟨upd G.g p o, G.fp⟩
def Gh.put (G : Gh) (i : Nat) (F : List Addr) : Gh := ⟨G.g, fun j => if j = i then F else G.fp j⟩
inductive RFs (κ : Kx) (H G : Hp) : List V → List Fd → List Addr → Prop
  | nil : RFs κ H G [] [] []
  | sh {v : V} {vs : List V} {d : D} {fs : List Fd} {F : List Addr} : Rp κ G v d → RFs κ H G vs fs F → RFs κ H G (v :: vs) (.sh d :: fs) F
  | ow {a : Addr} {xs : List V} {l : List D} {vs : List V} {fs : List Fd} {F : List Addr} : H a = some (.lst xs) → G a = none → RpA κ G xs l → a ∉ F → RFs κ H G vs fs F → RFs κ H G (.ref a :: vs) (.ow l :: fs) (a :: F)
def kD : Key → D
  | .inl i => .int i
  | .inr x => .str x.cps.toList
inductive RDc (κ : Kx) (G : Hp) : List (Key × V) → List (D × D) → Prop
  | nil : RDc κ G [] []
  | cons {k : Key} {v : V} {d : D} {r : List (Key × V)} {ds : List (D × D)} : Rp κ G v d → RDc κ G r ds → RDc κ G ((k, v) :: r) ((kD k, d) :: ds)
def sqH : Bool → List V → HO
  | true, xs => .tup xs
  | false, xs => .lst xs
open Classical in
/-- own addresses given away -/
noncomputable def frzG (H G : Hp) (F : List Addr) : Hp := fun a => if a ∈ F then H a else G a
/-- no list that is empty or begins with a reference -/
def clnO : HO → Bool
  | .lst [] => false
  | .lst (.ref _ :: _) => false
  | _ => true
/-- the heap without such lists -/
def cln (G : Hp) : Hp := fun a => match G a with
  | some o => if clnO o = true then some o else none
  | none => none
theorem cln_of {G : Hp} {a : Addr} {o : HO} (h : cln G a = some o) : G a = some o ∧ clnO o = true := by
  unfold cln at h
  cases e : G a with
  | none => rw [e] at h; cases h
  | some u =>
    rw [e] at h
    dsimp only at h
    by_cases c : clnO u = true
    · rw [if_pos c] at h; cases h; exact ⟨rfl, c⟩
    · rw [if_neg c] at h; cases h
theorem cln_at {G : Hp} {a : Addr} {o : HO} (h : G a = some o) (c : clnO o = true) : cln G a = some o := by
  unfold cln
  rw [h]
  exact if_pos c
theorem cln_no {G : Hp} {a : Addr} (h : G a = none) : cln G a = none := by
  unfold cln
  rw [h]
inductive RO (κ : Kx) (H G : Hp) : V → O → List Addr → Prop
  | ls {a : Addr} {xs : List V} {l : List D} : H a = some (.lst xs) → G a = none → RpA κ G xs l → RO κ H G (.ref a) (.ls l) [a]
  | ob {a dx : Addr} {c : Nat} {ys : List (Str × V)} {fs : List Fd} {F : List Addr} : H a = some (.ins (κ.cl c) dx ys) → G a = none → ys.map Prod.fst = (κ.fl c).take fs.length → RFs κ H G (ys.map Prod.snd) fs F → a ∉ F → RO κ H G (.ref a) (.ob c fs) (a :: F)
  | dc {a : Addr} {kvs : List (Key × V)} {ds : List (D × D)} : H a = some (.dK kvs) → G a = none → RDc κ G kvs ds → RO κ H G (.ref a) (.dc ds) [a]
  | sq {a : Addr} {t : Bool} {xs : List V} {fs : List Fd} {F : List Addr} : H a = some (sqH t xs) → G a = none → RFs κ H G xs fs F → a ∉ F → RO κ H G (.ref a) (.sq t fs) (a :: F)
  | tre {a : Addr} {d : D} {F : List Addr} : Rp κ (frzG H (cln G) F) (.ref a) d → (∀ b, b ∈ F → ∃ xs, H b = some (.lst xs)) → (∀ b, b ∈ F → G b = none) → RO κ H G (.ref a) (.tre d) F
section
variable {κ : Kx} {G G' H H' : Hp} {v : V} {vs : List V} {fs : List Fd} {o : O} {F : List Addr} {a : Addr}
theorem RFs.own : ∀ {vs : List V} {fs : List Fd} {F : List Addr}, RFs κ H G vs fs F → ∀ {a : Addr}, a ∈ F → (∃ o, H a = some o) ∧ G a = none
  | _, _, _, .nil, a, h => by cases h
  | _, _, _, .sh _ t, a, h => RFs.own t h
  | _, _, _, .ow h1 h2 _ _ t, a, h => by
    rcases List.mem_cons.mp h with e | h
    · subst e; exact ⟨⟨_, h1⟩, h2⟩
    · exact RFs.own t h
theorem RO.own (r : RO κ H G v o F) (h : a ∈ F) : (∃ o, H a = some o) ∧ G a = none := by
  cases r with
  | ls h1 h2 _ =>
    have e := List.mem_singleton.mp h
    subst e
    exact ⟨⟨_, h1⟩, h2⟩
  | ob h1 h2 _ t _ =>
    rcases List.mem_cons.mp h with e | h
    · subst e; exact ⟨⟨_, h1⟩, h2⟩
    · exact t.own h
  | sq h1 h2 t _ =>
    rcases List.mem_cons.mp h with e | h
    · subst e; exact ⟨⟨_, h1⟩, h2⟩
    · exact t.own h
  | dc h1 h2 _ =>
    have e := List.mem_singleton.mp h
    subst e
    exact ⟨⟨_, h1⟩, h2⟩
  | tre _ h2 h3 =>
    obtain ⟨xs, e⟩ := h2 _ h
    exact ⟨⟨_, e⟩, h3 _ h⟩
theorem sqH_pln (t : Bool) (xs : List V) : pln (sqH t xs) := by
  cases t <;> exact ⟨(fun _ z => nomatch z), (fun _ z => nomatch z)⟩
theorem RFs.pl : ∀ {vs : List V} {fs : List Fd} {F : List Addr}, RFs κ H G vs fs F → ∀ {a : Addr} {u : HO}, a ∈ F → H a = some u → pln u
  | _, _, _, .nil, a, u, h, e => by cases h
  | _, _, _, .sh _ t, a, u, h, e => RFs.pl t h e
  | _, _, _, .ow h1 h2 _ _ t, a, u, h, e => by
    rcases List.mem_cons.mp h with z | h
    · subst z
      rw [h1] at e
      cases e
      exact ⟨(fun _ z => nomatch z), (fun _ z => nomatch z)⟩
    · exact RFs.pl t h e
theorem RO.pl (r : RO κ H G v o F) {u : HO} (h : a ∈ F) (e : H a = some u) : pln u := by
  cases r with
  | ls h1 h2 _ =>
    have z := List.mem_singleton.mp h
    subst z
    rw [h1] at e
    cases e
    exact ⟨(fun _ z => nomatch z), (fun _ z => nomatch z)⟩
  | ob h1 h2 _ t _ =>
    rcases List.mem_cons.mp h with z | h
    · subst z
      rw [h1] at e
      cases e
      exact ⟨(fun _ z => nomatch z), (fun _ z => nomatch z)⟩
    · exact t.pl h e
  | sq h1 h2 t _ =>
    rcases List.mem_cons.mp h with z | h
    · subst z
      rw [h1] at e
      cases e
      exact sqH_pln _ _
    · exact t.pl h e
  | dc h1 h2 _ =>
    have z := List.mem_singleton.mp h
    subst z
    rw [h1] at e
    cases e
    exact ⟨(fun _ z => nomatch z), (fun _ z => nomatch z)⟩
  | tre _ h2 _ =>
    obtain ⟨xs, z⟩ := h2 _ h
    rw [z] at e
    cases e
    exact ⟨(fun _ z => nomatch z), (fun _ z => nomatch z)⟩
theorem RFs.grow (g : Same G G') : ∀ {vs : List V} {fs : List Fd} {F : List Addr}, RFs κ H G vs fs F → (∀ a o, a ∈ F → H a = some o → H' a = some o) → (∀ a, a ∈ F → G' a = none) → RFs κ H' G' vs fs F
  | _, _, _, .nil, _, _ => .nil
  | _, _, _, .sh r t, h, n => .sh (r.mono g) (RFs.grow g t h n)
  | _, _, _, .ow h1 h2 r m t, h, n => .ow (h _ _ List.mem_cons_self h1) (n _ List.mem_cons_self) (r.mono g) m (RFs.grow g t (fun a o q => h a o (List.mem_cons_of_mem _ q)) fun a q => n a (List.mem_cons_of_mem _ q))
theorem RDc.mono (g : Same G G') : ∀ {kvs : List (Key × V)} {ds : List (D × D)}, RDc κ G kvs ds → RDc κ G' kvs ds
  | _, _, .nil => .nil
  | _, _, .cons r t => .cons (r.mono g) (RDc.mono g t)
theorem frz_in (h : a ∈ F) : frzG H G F a = H a := by unfold frzG; rw [if_pos h]
theorem frz_out (h : a ∉ F) : frzG H G F a = G a := by unfold frzG; rw [if_neg h]
theorem cln_mono (g : Same G G') : Same (cln G) (cln G') := fun b o e => cln_at (g b o (cln_of e).1) (cln_of e).2
theorem same_cln : Same (cln G) G := fun b o e => (cln_of e).1
theorem frz_cln (g : Same G G') (h : ∀ a o, a ∈ F → H a = some o → H' a = some o) : Same (frzG H (cln G) F) (frzG H' (cln G') F) := fun b o e => by
  by_cases m : b ∈ F
  · rw [frz_in m] at e ⊢
    exact h b o m e
  · rw [frz_out m] at e ⊢
    exact cln_mono g b o e
theorem RO.grow (g : Same G G') (r : RO κ H G v o F) (h : ∀ a o, a ∈ F → H a = some o → H' a = some o) (n : ∀ a, a ∈ F → G' a = none) : RO κ H' G' v o F := by
  cases r with
  | ls h1 h2 t => exact .ls (h _ _ List.mem_cons_self h1) (n _ List.mem_cons_self) (t.mono g)
  | ob h1 h2 h3 t m => exact .ob (h _ _ List.mem_cons_self h1) (n _ List.mem_cons_self) h3 (t.grow g (fun a o q => h a o (List.mem_cons_of_mem _ q)) fun a q => n a (List.mem_cons_of_mem _ q)) m
  | dc h1 h2 t => exact .dc (h _ _ List.mem_cons_self h1) (n _ List.mem_cons_self) (t.mono g)
  | sq h1 h2 t m => exact .sq (h _ _ List.mem_cons_self h1) (n _ List.mem_cons_self) (t.grow g (fun a o q => h a o (List.mem_cons_of_mem _ q)) fun a q => n a (List.mem_cons_of_mem _ q)) m
  | tre h1 h2 h3 => exact .tre (h1.mono (frz_cln g h)) (fun b m => by
      obtain ⟨xs, e⟩ := h2 b m
      exact ⟨xs, h b _ m e⟩) n
theorem same_frz (n : ∀ a, a ∈ F → G a = none) : Same G (frzG H G F) := fun a o e => by
  by_cases h : a ∈ F
  · rw [n a h] at e; cases e
  · rw [frz_out h]; exact e
theorem frz_same (s : Same G H) : Same (frzG H G F) H := fun a o e => by
  by_cases h : a ∈ F
  · rw [frz_in h] at e; exact e
  · rw [frz_out h] at e; exact s a o e
theorem frz_sub (s : Sub κ G H) (h : ∀ a o, a ∈ F → H a = some o → nt o) : Sub κ (frzG H G F) H := ⟨frz_same s.s, fun a o e => by
  by_cases m : a ∈ F
  · rw [frz_in m] at e; exact h a o m e
  · rw [frz_out m] at e; exact s.n a o e, s.t⟩
theorem RFs.frz {G0 : Hp} (g : Same G G0) : ∀ {vs : List V} {fs : List Fd} {F : List Addr}, RFs κ H G vs fs F → (∀ a, a ∈ F → G0 a = H a) → RpA κ G0 vs (fs.map Fd.d)
  | _, _, _, .nil, _ => .nil
  | _, _, _, .sh r t, h => .cons (r.mono g) (RFs.frz g t h)
  | _, _, _, .ow h1 h2 r m t, h => .cons (.lst (by rw [h _ List.mem_cons_self]; exact h1) (r.mono g)) (RFs.frz g t fun a q => h a (List.mem_cons_of_mem _ q))
theorem RO.frz {d : D} (r : RO κ H G v o F) (e : o.d = some d) : Rp κ (frzG H G F) v d := by
  have g : Same G (frzG H G F) := same_frz fun a q => (r.own q).2
  cases r with
  | ls h1 h2 t => cases e; exact .lst (by rw [frz_in List.mem_cons_self]; exact h1) (t.mono g)
  | ob h1 h2 h3 t m =>
    cases e
    exact .ob (by rw [frz_in List.mem_cons_self]; exact h1) (by rw [List.length_map]; exact h3) (t.frz g fun a q => by rw [frz_in (List.mem_cons_of_mem _ q)])
  | dc h1 h2 t => cases e
  | @sq a b xs fs F h1 h2 t m =>
    have r := t.frz g fun c q => by rw [frz_in (List.mem_cons_of_mem _ q)]
    cases b with
    | true => cases e; exact .tup (by rw [frz_in List.mem_cons_self]; exact h1) r
    | false => cases e; exact .lst (by rw [frz_in List.mem_cons_self]; exact h1) r
  | tre h1 h2 h3 =>
    cases e
    exact h1.mono fun b o e => by
      by_cases m : b ∈ F
      · rw [frz_in m] at e ⊢; exact e
      · rw [frz_out m] at e ⊢; exact same_cln b o e
theorem RO.ls_inv {l : List D} (r : RO κ H G v (.ls l) F) : ∃ a xs, v = .ref a ∧ F = [a] ∧ H a = some (.lst xs) ∧ G a = none ∧ RpA κ G xs l := by
  cases r with
  | ls h1 h2 h3 => exact ⟨_, _, rfl, rfl, h1, h2, h3⟩
end

/-- a slot: nothing told; a value that all may hold; a list of the def's own (unlocked, locked by a loop); a list that is only read here; an own thing that was handed in to be changed; an own thing -/
inductive Sl where
  | un | sh (d : D) | ow (l : List D) | lk (l : List D) | bo (l : List D) | io (o : O) | tr (o : O)
def Sl.th : Sl → Option O
  | .ow l => some (.ls l)
  | .lk l => some (.ls l)
  | .io o => some o
  | .tr o => some o
  | _ => none
def Sl.mut : Sl → Bool
  | .ow _ => true
  | .io _ => true
  | .tr _ => true
  | _ => false
abbrev En := List Sl

def Mt (G : Gh) (env : En) (a : Addr) : Prop := ∃ (i : Nat) (s : Sl), env[i]? = some s ∧ s.mut = true ∧ a ∈ G.fp i
def Own (G : Gh) (env : En) (i : Nat) (a : Addr) : Prop := ∃ s o, env[i]? = some s ∧ s.th = some o ∧ a ∈ G.fp i
def RSl (κ : Kx) (H G : Hp) (v : Option (Option V)) (F : List Addr) : Sl → Prop
  | .un => F = []
  | .sh d => F = [] ∧ ∃ x, v = some (some x) ∧ Rp κ G x d
  | .bo l => ∃ a xs, v = some (some (.ref a)) ∧ H a = some (.lst xs) ∧ RpA κ G xs l ∧ F = [a]
  | .ow l => ∃ x, v = some (some x) ∧ RO κ H G x (.ls l) F
  | .lk l => ∃ x, v = some (some x) ∧ RO κ H G x (.ls l) F
  | .io o => ∃ x, v = some (some x) ∧ RO κ H G x o F
  | .tr o => ∃ x, v = some (some x) ∧ RO κ H G x o F
theorem RSl.th {κ : Kx} {H G : Hp} {v : Option (Option V)} {F : List Addr} {s : Sl} {o : O} (r : RSl κ H G v F s) (h : s.th = some o) : ∃ x, v = some (some x) ∧ RO κ H G x o F := by
  cases s <;> cases h <;> exact r
theorem RSl.of {κ : Kx} {H G : Hp} {v : Option (Option V)} {F : List Addr} {s : Sl} {o : O} {x : V} (h : s.th = some o) (e : v = some (some x)) (r : RO κ H G x o F) : RSl κ H G v F s := by
  cases s <;> cases h <;> exact ⟨x, e, r⟩
theorem mut_th {s : Sl} (h : s.mut = true) : ∃ o, s.th = some o := by
  cases s <;> first
    | (cases h; done)
    | exact ⟨_, rfl⟩
structure Rep (κ : Kx) (H : Hp) (G : Gh) (σ : L2.St) (env : En) : Prop where
  sub : Sub κ G.g H
  len : σ.length = env.length
  slot : ∀ (i : Nat) (s : Sl), env[i]? = some s → RSl κ H G σ[i]? (G.fp i) s
  inj : ∀ (i j : Nat) (a : Addr) (t : Sl), Own G env i a → env[j]? = some t → a ∈ G.fp j → i = j
def Sl.fix : Sl → Bool
  | .lk _ => true
  | .bo _ => true
  | .io _ => true
  | _ => false
/-- what a fixed slot was before -/
def Sl.was : Sl → Sl → Prop
  | .io _, s => ∃ o, s = .io o
  | t, s => s = t
/-- a locked slot, and a list that is only read, stand as they were; what was handed in stands where it stood -/
def Lk (G : Gh) (σ : L2.St) (env : En) (G' : Gh) (σ' : L2.St) (env' : En) : Prop := ∀ (i : Nat) (s : Sl), s.fix = true → env'[i]? = some s → ∃ s0, env[i]? = some s0 ∧ s.was s0 ∧ σ'[i]? = σ[i]? ∧ (s0 = s → s.mut = false → G'.fp i = G.fp i)
/-- only the def's own unlocked things may have changed, what is shared stays shared; no old thing has become the def's own -/
structure Fr (H : Hp) (G : Gh) (σ : L2.St) (env : En) (H' : Hp) (G' : Gh) (σ' : L2.St) (env' : En) : Prop where
  hk : ∀ a o, H a = some o → ¬ Mt G env a → ∃ o', H' a = some o' ∧ (nt o → o' = o)
  gk : Same G G'
  gn : ∀ a o, H a = some o → G.g a = none → ¬ Mt G env a → G'.g a = none
  mm : ∀ a o, H a = some o → Mt G' env' a → Mt G env a
  lk : Lk G σ env G' σ' env'
/-- .. where the def ends -/
structure FrR (H : Hp) (G : Gh) (σ : L2.St) (env : En) (H' : Hp) (G' : Gh) : Prop where
  hk : ∀ a o, H a = some o → ¬ Mt G env a → ∃ o', H' a = some o' ∧ (nt o → o' = o)
  gk : Same G G'
  gn : ∀ a o, H a = some o → G.g a = none → ¬ Mt G env a → G'.g a = none
theorem was_refl {s : Sl} (h : s.fix = true) : s.was s := by
  cases s <;> first
    | (cases h; done)
    | rfl
    | exact ⟨_, rfl⟩
theorem was_fix {s t : Sl} (h : s.fix = true) (w : s.was t) : t.fix = true := by
  cases s <;> first
    | (cases h; done)
    | (obtain ⟨o, rfl⟩ := w; rfl)
    | (cases w; rfl)
theorem was_trans {s t u : Sl} (h : s.fix = true) (w : s.was t) (z : t.was u) : s.was u := by
  cases s <;> first
    | (cases h; done)
    | (obtain ⟨o, rfl⟩ := w; exact z)
    | (cases w; exact z)
theorem was_eq {s t : Sl} (h : s.mut = false) (f : s.fix = true) (w : s.was t) : t = s := by
  cases s <;> first
    | (cases f; done)
    | (cases h; done)
    | exact w
theorem Lk.refl {G : Gh} {σ : L2.St} {env : En} : Lk G σ env G σ env := fun _ s f h => ⟨s, h, was_refl f, rfl, fun _ _ => rfl⟩
theorem Fr.at {H H' : Hp} {G G' : Gh} {σ σ' : L2.St} {env env' : En} (f : Fr H G σ env H' G' σ' env') {a : Addr} {o : HO} (e : H a = some o) (m : ¬ Mt G env a) (n : nt o := by first | assumption | exact fun _ z => nomatch z | exact And.left (by assumption)) : H' a = some o := by
  obtain ⟨o', h1, h2⟩ := f.hk a o e m
  rw [h1, h2 n]
/-- one change behind another -/
theorem hk_trans {H1 H2 : Hp} {a : Addr} {o : HO} (x : ∃ o', H1 a = some o' ∧ (nt o → o' = o)) (y : ∀ o', H1 a = some o' → ∃ o2, H2 a = some o2 ∧ (nt o' → o2 = o')) : ∃ o', H2 a = some o' ∧ (nt o → o' = o) := by
  obtain ⟨o1, h1, n1⟩ := x
  obtain ⟨o2, h2, n2⟩ := y o1 h1
  exact ⟨o2, h2, fun n => by
    have := n1 n
    subst this
    exact n2 n⟩
theorem Fr.refl {H : Hp} {G : Gh} {σ : L2.St} {env : En} : Fr H G σ env H G σ env := ⟨fun _ o h _ => ⟨o, h, fun _ => rfl⟩, Same.refl _, fun _ _ _ h _ => h, fun _ _ _ h => h, Lk.refl⟩
theorem Fr.trans {H H1 H2 : Hp} {G G1 G2 : Gh} {σ σ1 σ2 : L2.St} {env env1 env2 : En} (x : Fr H G σ env H1 G1 σ1 env1) (y : Fr H1 G1 σ1 env1 H2 G2 σ2 env2) : Fr H G σ env H2 G2 σ2 env2 where
  hk := fun a o h n => hk_trans (x.hk a o h n) fun o' e => y.hk a o' e fun m => n (x.mm a o h m)
  gk := x.gk.trans y.gk
  gn := fun a o h g n => by
    obtain ⟨o', e, _⟩ := x.hk a o h n
    exact y.gn a o' e (x.gn a o h g n) fun m => n (x.mm a o h m)
  mm := fun a o h m => by
    by_cases n : Mt G env a
    · exact n
    · obtain ⟨o', e, _⟩ := x.hk a o h n
      exact x.mm a o h (y.mm a o' e m)
  lk := fun i l z h => by
    obtain ⟨s1, h1, w1, e1, f1⟩ := y.lk i l z h
    obtain ⟨s2, h2, w2, e2, f2⟩ := x.lk i s1 (was_fix z w1) h1
    refine ⟨s2, h2, was_trans z w1 w2, e1.trans e2, fun q m => ?_⟩
    have q1 := was_eq m z w1
    subst q1
    exact (f1 rfl m).trans (f2 q m)
theorem Fr.toR {H H1 H2 : Hp} {G G1 G2 : Gh} {σ σ1 : L2.St} {env env1 : En} (x : Fr H G σ env H1 G1 σ1 env1) (y : FrR H1 G1 σ1 env1 H2 G2) : FrR H G σ env H2 G2 where
  hk := fun a o h n => hk_trans (x.hk a o h n) fun o' e => y.hk a o' e fun m => n (x.mm a o h m)
  gk := x.gk.trans y.gk
  gn := fun a o h g n => by
    obtain ⟨o', e, _⟩ := x.hk a o h n
    exact y.gn a o' e (x.gn a o h g n) fun m => n (x.mm a o h m)
/-- nothing that stood has changed -/
theorem Fr.same {H H' : Hp} {G G' : Gh} {σ : L2.St} {env env' : En} (s : Grw H H') (g : Same G G') (gn : ∀ a o, H a = some o → G.g a = none → ¬ Mt G env a → G'.g a = none) (mm : ∀ a o, H a = some o → Mt G' env' a → Mt G env a) (l : ∀ (i : Nat) (s : Sl), s.fix = true → env'[i]? = some s → env[i]? = some s ∧ G'.fp i = G.fp i) :
    Fr H G σ env H' G' σ env' := ⟨fun a o h _ => s a o h, g, gn, mm, fun i m z h => ⟨m, (l i m z h).1, was_refl z, rfl, fun _ _ => (l i m z h).2⟩⟩

/-! ### results -/
inductive Rs where
  | sh (d : D) | ow (l : List D) | tr (o : O)
def Rs.d : Rs → Option D
  | .sh d => some d
  | .ow l => some (.lst l)
  | .tr o => o.d
inductive Q (α : Type) where
  | ok (a : α) (e : En) | ex (x : Ex) (e : En)
abbrev Sm (α : Type) := En → Option (Q α)
def bnd {α β : Type} (m : Sm α) (f : α → Sm β) : Sm β := fun e => match m e with
  | none => none
  | some (.ok a e') => f a e'
  | some (.ex x e') => some (.ex x e')
def ret {α : Type} (a : α) : Sm α := fun e => some (.ok a e)

/-- how a reading's value stands for a result -/
abbrev Rl (α β : Type) := L2.St → (Addr → Prop) → Hp → Gh → En → β → α → Prop
/-- an address that is in no slot -/
def Fre (G : Gh) (env : En) (a : Addr) : Prop := ∀ i s, env[i]? = some s → a ∉ G.fp i
def RV (κ : Kx) : Rl Rs V := fun _ N H G env v r => match r with
  | .sh d => Rp κ G v d
  | .ow l => ∃ a xs, v = .ref a ∧ H a = some (.lst xs) ∧ G.g a = none ∧ RpA κ G xs l ∧ Fre G env a ∧ N a
  | .tr o => ∃ F, RO κ H G v o F ∧ ∀ a, a ∈ F → Fre G env a ∧ N a
def RB (κ : Kx) : Rl D V := fun _ _ H G _ v d => Rp κ G v d ∨ ∃ a xs l, d = .lst l ∧ v = .ref a ∧ H a = some (.lst xs) ∧ RpA κ G xs l
def RT : Rl Bool Bool := fun _ _ _ _ _ b c => b = c
inductive RBs (κ : Kx) (H G : Hp) : List Bool → List V → List D → Prop
  | nil : RBs κ H G [] [] []
  | sh {ms : List Bool} {v : V} {vs : List V} {d : D} {ds : List D} : Rp κ G v d → RBs κ H G ms vs ds → RBs κ H G (false :: ms) (v :: vs) (d :: ds)
  | bo {ms : List Bool} {v : V} {vs : List V} {d : D} {ds : List D} : (Rp κ G v d ∨ ∃ a xs l, d = .lst l ∧ v = .ref a ∧ H a = some (.lst xs) ∧ RpA κ G xs l) → RBs κ H G ms vs ds → RBs κ H G (true :: ms) (v :: vs) (d :: ds)
def RA (κ : Kx) (ms : List Bool) : Rl (List D) (List V) := fun _ _ H G _ vs ds => RBs κ H G ms vs ds

class RlMono {α β : Type} (R : Rl α β) : Prop where
  mono : ∀ {σ : L2.St} {N N' : Addr → Prop} {H : Hp} {G : Gh} {env : En} {b : β} {a : α}, (∀ c, N c → N' c) → R σ N H G env b a → R σ N' H G env b a
instance {κ : Kx} : RlMono (RV κ) := ⟨fun {σ N N' H G env v r} h q => by
  cases r with
  | sh d => exact q
  | ow l =>
    obtain ⟨a, xs, h1, h2, h3, h4, h5, h6⟩ := q
    exact ⟨a, xs, h1, h2, h3, h4, h5, h _ h6⟩
  | tr o =>
    obtain ⟨F, h1, h2⟩ := q
    exact ⟨F, h1, fun a m => ⟨(h2 a m).1, h _ (h2 a m).2⟩⟩⟩
instance {κ : Kx} : RlMono (RB κ) := ⟨fun _ q => q⟩
instance : RlMono RT := ⟨fun _ q => q⟩
instance {κ : Kx} {ms : List Bool} : RlMono (RA κ ms) := ⟨fun _ q => q⟩

/-- fresh, or the def's own -/
def Nw (H : Hp) (G : Gh) (env : En) (a : Addr) : Prop := ∀ o, H a = some o → Mt G env a
section
variable {α β : Type}
/-- .. that may change what is the def's own -/
def EPostI (κ : Kx) (W : WX) (R : Rl α β) (σ : L2.St) (H : Hp) (G : Gh) (env : En) (o : Option (Q α)) (P : β → Hp → Prop) : Prop := match o with
  | none => False
  | some (.ok a env') => ∀ v H' G', Rep κ H' G' σ env' → R σ (Nw H G env) H' G' env' v a → Fr H G σ env H' G' σ env' → P v H'
  | some (.ex x env') => ∀ c d H' G', Rep κ H' G' σ env' → XR κ G' x c d → Fr H G σ env H' G' σ env' → W c d σ H'
def EPost (κ : Kx) (W : WX) (R : Rl α β) (σ : L2.St) (H : Hp) (G : Gh) (env : En) (o : Option (Q α)) (P : β → Hp → Prop) : Prop := match o with
  | none => False
  | some (.ok a env') => ∀ v H' G', Rep κ H' G' σ env' → R σ (Nw H G env) H' G' env' v a → Grw H H' → Fr H G σ env H' G' σ env' → P v H'
  | some (.ex x env') => ∀ c d H' G', Rep κ H' G' σ env' → XR κ G' x c d → Grw H H' → Fr H G σ env H' G' σ env' → W c d σ H'
/-- the reading of a plain function -/
def tX (κ : Kx) (W : WX) (R : Rl α β) (m : Sm α) : L2.St → Hp → (β → Hp → Prop) → Prop := fun σ H P => ∃ G env, Rep κ H G σ env ∧ EPost κ W R σ H G env (m env) P
def tI (κ : Kx) (W : WX) (R : Rl α β) (m : Sm α) : L2.St → Hp → (β → Hp → Prop) → Prop := fun σ H P => ∃ G env, Rep κ H G σ env ∧ EPostI κ W R σ H G env (m env) P
variable {κ : Kx} {W : WX} {R : Rl α β} {σ : L2.St} {H H1 : Hp} {G G1 : Gh} {env env1 : En}
theorem EPostI.pu {o : Option (Q α)} {P : β → Hp → Prop} (h : EPostI κ W R σ H G env o P) : EPost κ W R σ H G env o P := by
  cases o with
  | none => exact h
  | some q => cases q with
    | ok a e => exact fun v H' G' a b _ d => h v H' G' a b d
    | ex x e => exact fun c d H' G' a b _ f => h c d H' G' a b f
theorem tI.pu {m : Sm α} {P : β → Hp → Prop} (h : tI κ W R m σ H P) : tX κ W R m σ H P := by
  obtain ⟨G, env, r, q⟩ := h
  exact ⟨G, env, r, q.pu⟩
theorem EPost.mono {o : Option (Q α)} {P P' : β → Hp → Prop} (h : EPost κ W R σ H G env o P) (k : ∀ v H', P v H' → P' v H') : EPost κ W R σ H G env o P' := by
  cases o with
  | none => exact h
  | some q => cases q with
    | ok a e => exact fun v H' G' a b c d => k _ _ (h v H' G' a b c d)
    | ex x e => exact h
theorem EPostI.mono {o : Option (Q α)} {P P' : β → Hp → Prop} (h : EPostI κ W R σ H G env o P) (k : ∀ v H', P v H' → P' v H') : EPostI κ W R σ H G env o P' := by
  cases o with
  | none => exact h
  | some q => cases q with
    | ok a e => exact fun v H' G' a b c => k _ _ (h v H' G' a b c)
    | ex x e => exact h
theorem tX.mono {m : Sm α} {P P' : β → Hp → Prop} (h : tX κ W R m σ H P) (k : ∀ v H', P v H' → P' v H') : tX κ W R m σ H P' := by
  obtain ⟨G, env, r, q⟩ := h
  exact ⟨G, env, r, q.mono k⟩
theorem EPost.shift [RlMono R] {o : Option (Q α)} {P : β → Hp → Prop} (s : Grw H H1) (f : Fr H G σ env H1 G1 σ env1) (h : EPost κ W R σ H G env o P) : EPost κ W R σ H1 G1 env1 o P := by
  cases o with
  | none => exact h
  | some q => cases q with
    | ok a e => exact fun v H' G' r1 r2 s2 f2 => h v H' G' r1 (RlMono.mono (fun c n o e => by obtain ⟨o', e', _⟩ := s c o e; exact f.mm c o e (n o' e')) r2) (s.trans s2) (f.trans f2)
    | ex x e => exact fun c d H' G' r1 r2 s2 f2 => h c d H' G' r1 r2 (s.trans s2) (f.trans f2)
theorem Nw.shift {σ1 : L2.St} (f : Fr H G σ env H1 G1 σ1 env1) {c : Addr} (n : Nw H1 G1 env1 c) : Nw H G env c := fun o e => by
  by_cases m : Mt G env c
  · exact m
  · obtain ⟨o', e', _⟩ := f.hk c o e m
    exact f.mm c o e (n o' e')
theorem EPostI.shift [RlMono R] {o : Option (Q α)} {P : β → Hp → Prop} (f : Fr H G σ env H1 G1 σ env1) (h : EPostI κ W R σ H G env o P) : EPostI κ W R σ H1 G1 env1 o P := by
  cases o with
  | none => exact h
  | some q => cases q with
    | ok a e => exact fun v H' G' r1 r2 f2 => h v H' G' r1 (RlMono.mono (fun c n => n.shift f) r2) (f.trans f2)
    | ex x e => exact fun c d H' G' r1 r2 f2 => h c d H' G' r1 r2 (f.trans f2)
end
/-- two in a row -/
theorem bind_post {α β γ δ : Type} {κ : Kx} {W : WX} {R : Rl α β} {R2 : Rl γ δ} [RlMono R2] {σ : L2.St} {H : Hp} {G : Gh} {env : En} {m : Sm α} {f : α → Sm γ} {P : δ → Hp → Prop} (r : Rep κ H G σ env) (h : EPost κ W R2 σ H G env (bnd m f env) P)
    {P' : β → Hp → Prop} (k : ∀ a env1 v H1 G1, m env = some (.ok a env1) → Rep κ H1 G1 σ env1 → R σ (Nw H G env) H1 G1 env1 v a → Grw H H1 → Fr H G σ env H1 G1 σ env1 → EPost κ W R2 σ H1 G1 env1 (f a env1) P → P' v H1) :
    tX κ W R m σ H P' := by
  refine ⟨G, env, r, ?_⟩
  unfold bnd at h
  cases e : m env with
  | none => rw [e] at h; exact h
  | some q => cases q with
    | ok a e1 =>
      rw [e] at h
      exact fun v H1 G1 r1 r2 s2 f2 => k a e1 v H1 G1 e r1 r2 s2 f2 (EPost.shift s2 f2 h)
    | ex x e1 =>
      rw [e] at h
      exact h
/-! ### statements -/
inductive SO where
  | nx (e : En) | bk (e : En) | ct (e : En) | rt (r : Rs) | rv (r : Rs) (e : En) | ex (x : Ex) (e : En)
abbrev Ss := En → Option SO
/-- a def hands back -/
def RR (κ : Kx) (N : Addr → Prop) (H : Hp) (G : Hp) (v : V) : Rs → Prop
  | .sh d => Rp κ G v d
  | .ow l => ∃ a xs, v = .ref a ∧ H a = some (.lst xs) ∧ G a = none ∧ RpA κ G xs l ∧ N a
  | .tr o => ∃ F, RO κ H G v o F ∧ ∀ a, a ∈ F → N a
def SPost (κ : Kx) (W : WX) (σ : L2.St) (H : Hp) (G : Gh) (env : En) (o : Option SO) (D : Ends) : Prop := match o with
  | none => False
  | some (.nx env') => ∀ σ' H' G', Rep κ H' G' σ' env' → Fr H G σ env H' G' σ' env' → D.nx σ' H'
  | some (.bk env') => ∀ σ' H' G', Rep κ H' G' σ' env' → Fr H G σ env H' G' σ' env' → D.bk σ' H'
  | some (.ct env') => ∀ σ' H' G', Rep κ H' G' σ' env' → Fr H G σ env H' G' σ' env' → D.ct σ' H'
  | some (.rt r) => ∀ v H' (G' : Gh), Sub κ G'.g H' → RR κ (Nw H G env) H' G' v r → FrR H G σ env H' G' → D.rt v H'
  | some (.rv r env') => ∀ v σ' H' G', Rep κ H' G' σ' env' → RV κ σ' (Nw H G env) H' G' env' v r → Fr H G σ env H' G' σ' env' → D.rt v H'
  | some (.ex x env') => ∀ c d σ' H' G', Rep κ H' G' σ' env' → XR κ G' x c d → Fr H G σ env H' G' σ' env' → W c d σ' H'
def tS (κ : Kx) (W : WX) (m : Ss) : TS := fun D σ H => ∃ G env, Rep κ H G σ env ∧ SPost κ W σ H G env (m env) D
section
variable {κ : Kx} {W : WX} {σ σ1 : L2.St} {H H1 : Hp} {G G1 : Gh} {env env1 : En} {D D' : Ends}
theorem RR.mono {G : Hp} {N N' : Addr → Prop} {v : V} {r : Rs} (h : ∀ c, N c → N' c) (q : RR κ N H G v r) : RR κ N' H G v r := by
  cases r with
  | sh d => exact q
  | ow l =>
    obtain ⟨a, xs, h1, h2, h3, h4, h5⟩ := q
    exact ⟨a, xs, h1, h2, h3, h4, h _ h5⟩
  | tr o =>
    obtain ⟨F, h1, h2⟩ := q
    exact ⟨F, h1, fun a m => h _ (h2 a m)⟩
theorem SPost.mono {o : Option SO} (h : SPost κ W σ H G env o D) (k1 : ∀ s h, D.nx s h → D'.nx s h) (k2 : ∀ s h, D.bk s h → D'.bk s h) (k3 : ∀ s h, D.ct s h → D'.ct s h) (k4 : ∀ s h, D.rt s h → D'.rt s h) : SPost κ W σ H G env o D' := by
  cases o with
  | none => exact h
  | some q => cases q with
    | nx e => exact fun σ' H' G' a b => k1 _ _ (h σ' H' G' a b)
    | bk e => exact fun σ' H' G' a b => k2 _ _ (h σ' H' G' a b)
    | ct e => exact fun σ' H' G' a b => k3 _ _ (h σ' H' G' a b)
    | rt r => exact fun v H' G' a b c => k4 _ _ (h v H' G' a b c)
    | rv r e => exact fun v σ' H' G' a b c => k4 _ _ (h v σ' H' G' a b c)
    | ex x e => exact h
theorem SPost.shift {o : Option SO} (f : Fr H G σ env H1 G1 σ1 env1) (h : SPost κ W σ H G env o D) : SPost κ W σ1 H1 G1 env1 o D := by
  cases o with
  | none => exact h
  | some q => cases q with
    | nx e => exact fun σ' H' G' a b => h σ' H' G' a (f.trans b)
    | bk e => exact fun σ' H' G' a b => h σ' H' G' a (f.trans b)
    | ct e => exact fun σ' H' G' a b => h σ' H' G' a (f.trans b)
    | rt r => exact fun v H' G' a b c => h v H' G' a (b.mono fun _ n => n.shift f) (f.toR c)
    | rv r e => exact fun v σ' H' G' a b c => h v σ' H' G' a (RlMono.mono (fun _ n => n.shift f) b) (f.trans c)
    | ex x e => exact fun c d σ' H' G' a b g => h c d σ' H' G' a b (f.trans g)
end
/-- an expression in a statement -/
def sbnd {α : Type} (m : Sm α) (f : α → Ss) : Ss := fun e => match m e with
  | none => none
  | some (.ok a e') => f a e'
  | some (.ex x e') => some (.ex x e')
theorem sbind_post {α β : Type} {κ : Kx} {W : WX} {R : Rl α β} {σ : L2.St} {H : Hp} {G : Gh} {env : En} {m : Sm α} {f : α → Ss} {D : Ends} (r : Rep κ H G σ env) (h : SPost κ W σ H G env (sbnd m f env) D)
    {P' : β → Hp → Prop} (k : ∀ a env1 v H1 G1, m env = some (.ok a env1) → Rep κ H1 G1 σ env1 → R σ (Nw H G env) H1 G1 env1 v a → Fr H G σ env H1 G1 σ env1 → SPost κ W σ H1 G1 env1 (f a env1) D → P' v H1) :
    tI κ W R m σ H P' := by
  refine ⟨G, env, r, ?_⟩
  unfold sbnd at h
  cases e : m env with
  | none => rw [e] at h; exact h
  | some q => cases q with
    | ok a e1 =>
      rw [e] at h
      exact fun v H1 G1 r1 r2 f2 => k a e1 v H1 G1 e r1 r2 f2 (SPost.shift f2 h)
    | ex x e1 =>
      rw [e] at h
      exact fun c d H' G' a b g => h c d σ H' G' a b g
/-! ### heaps and slots -/
section
variable {κ : Kx} {W : WX} {σ : L2.St} {H H' : Hp} {G G' : Gh} {env : En} {p : Addr} {xs : List V} {l : List D}
theorem Rep.grow (r : Rep κ H G σ env) (h : Grw H H') (g : Same G G') (s : Sub κ G'.g H') (f : ∀ i, G'.fp i = G.fp i) (o : ∀ i a, Own G env i a → G'.g a = none) : Rep κ H' G' σ env where
  sub := s
  len := r.len
  slot := fun i s e => by
    have q := r.slot i s e
    rw [f i]
    have th : ∀ {o : O}, s.th = some o → RSl κ H' G' σ[i]? (G.fp i) s := fun {o'} z => by
      obtain ⟨x, e1, e2⟩ := q.th z
      exact .of z e1 (e2.grow g (fun a o m e => h.at e (e2.pl m e).1) fun a m => o i a ⟨s, o', e, z, m⟩)
    cases s with
    | un => exact q
    | sh d =>
      obtain ⟨h0, x, h1, h2⟩ := q
      exact ⟨h0, x, h1, h2.mono g⟩
    | ow l => exact th rfl
    | lk l => exact th rfl
    | io o => exact th rfl
    | tr o => exact th rfl
    | bo l =>
      obtain ⟨a, xs, h1, h2, h4, h5⟩ := q
      exact ⟨a, xs, h1, h.at h2, h4.mono g, h5⟩
  inj := fun i j a t ⟨s, o, e1, e2, m⟩ e3 m3 => by
    rw [f i] at m
    rw [f j] at m3
    exact r.inj i j a t ⟨s, o, e1, e2, m⟩ e3 m3
theorem Rep.own (r : Rep κ H G σ env) {i : Nat} {a : Addr} (o : Own G env i a) : (∃ u, H a = some u) ∧ G.g a = none := by
  obtain ⟨s, o, e, t, m⟩ := o
  obtain ⟨x, e1, e2⟩ := (r.slot i s e).th t
  exact e2.own m
theorem Rep.live (r : Rep κ H G σ env) {i : Nat} {s : Sl} {a : Addr} (e : env[i]? = some s) (m : a ∈ G.fp i) : ∃ u, H a = some u := by
  have q := r.slot i s e
  have th : ∀ {o : O}, s.th = some o → ∃ u, H a = some u := fun {o} t => (r.own ⟨s, o, e, t, m⟩).1
  cases s with
  | un => rw [show G.fp i = [] from q] at m; cases m
  | sh d => rw [q.1] at m; cases m
  | ow l => exact th rfl
  | lk l => exact th rfl
  | io o => exact th rfl
  | tr o => exact th rfl
  | bo l =>
    obtain ⟨b, xs, h1, h2, h4, h5⟩ := q
    rw [h5] at m
    rw [List.mem_singleton.mp m]
    exact ⟨_, h2⟩
theorem Rep.pl (r : Rep κ H G σ env) {i : Nat} {s : Sl} {a : Addr} {o : HO} (e : env[i]? = some s) (m : a ∈ G.fp i) (h : H a = some o) : pln o := by
  have q := r.slot i s e
  have th : ∀ {o' : O}, s.th = some o' → pln o := fun {o'} t => by
    obtain ⟨x, _, e2⟩ := q.th t
    exact e2.pl m h
  cases s with
  | un => rw [show G.fp i = [] from q] at m; cases m
  | sh d => rw [q.1] at m; cases m
  | ow l => exact th rfl
  | lk l => exact th rfl
  | io o => exact th rfl
  | tr o => exact th rfl
  | bo l =>
    obtain ⟨b, xs, h1, h2, h4, h5⟩ := q
    rw [h5] at m
    rw [List.mem_singleton.mp m, h2] at h
    cases h
    exact ⟨(fun _ z => nomatch z), (fun _ z => nomatch z)⟩
theorem Rep.fre (r : Rep κ H G σ env) (hp : H p = none) : Fre G env p := fun i s e m => by
  obtain ⟨u, h⟩ := r.live e m
  rw [hp] at h
  cases h
theorem same_new {H : Hp} {p : Addr} {o : HO} (h : H p = none) : Same H (upd H p o) := fun a u e => by
  rw [upd_ne (ne_of_none e h)]
  exact e
theorem same_upd {G H : Hp} {p : Addr} {o : HO} (s : Same G H) (h : G p = none) : Same G (upd H p o) := fun a u e => by
  rw [upd_ne (ne_of_none e h)]
  exact s a u e
theorem same_both {G H : Hp} {p : Addr} {o : HO} (s : Same G H) : Same (upd G p o) (upd H p o) := fun a u e => by
  by_cases h : a = p
  · subst h; rw [upd_same] at e ⊢; exact e
  · rw [upd_ne h] at e ⊢; exact s a u e
theorem Same.none {G H : Hp} {p : Addr} (s : Same G H) (h : H p = none) : G p = none := by
  cases q : G p with
  | none => rfl
  | some o => rw [s p o q] at h; cases h
theorem Sub.new {κ : Kx} {G H : Hp} {p : Addr} {o : HO} (s : Sub κ G H) (h : H p = none) : Sub κ G (upd H p o) := s.kept (same_new h)
theorem Sub.both {κ : Kx} {G H : Hp} {p : Addr} {o : HO} (s : Sub κ G H) (h : H p = none) (n : nt o) : Sub κ (upd G p o) (upd H p o) := ⟨same_both s.s, fun a u e => by
  by_cases z : a = p
  · rw [z, upd_same] at e
    cases e
    exact n
  · rw [upd_ne z] at e
    exact s.n a u e, tabs_of s.t fun a u e _ => same_new h a u e⟩
theorem Sub.none {κ : Kx} {G H : Hp} {p : Addr} (s : Sub κ G H) (h : H p = none) : G p = none := Same.none s.s h
/-- what stands at the end of a reading's last step -/
structure Stp (κ : Kx) (σ : L2.St) (env : En) (H : Hp) (G : Gh) (H' : Hp) (G' : Gh) : Prop where
  rep : Rep κ H' G' σ env
  same : Grw H H'
  fr : Fr H G σ env H' G' σ env
theorem Stp.refl (r : Rep κ H G σ env) : Stp κ σ env H G H G := ⟨r, Grw.refl _, Fr.refl⟩
theorem fr_upd {o : HO} (hp : H p = none) : Fr H G σ env (upd H p o) G σ env := Fr.same (gr (same_new hp)) (Same.refl _) (fun _ _ _ h _ => h) (fun _ _ _ h => h) fun _ _ _ h => ⟨h, rfl⟩
/-- a new list of the def's own -/
theorem new_ow (r : Rep κ H G σ env) (hp : H p = none) (h : RpA κ G xs l) : Stp κ σ env H G (upd H p (.lst xs)) G ∧ RV κ σ (Nw H G env) (upd H p (.lst xs)) G env (.ref p) (.ow l) := by
  have gp := r.sub.none hp
  refine ⟨⟨r.grow (gr (same_new hp)) (Same.refl _) (r.sub.new hp) (fun _ => rfl) fun i a o => (r.own o).2, gr (same_new hp), fr_upd hp⟩, p, xs, rfl, upd_same, gp, h, r.fre hp, fun o e => ?_⟩
  rw [hp] at e
  cases e
/-- a new thing that all may hold -/
theorem new_sh {o : HO} (r : Rep κ H G σ env) (hp : H p = none) (hn : nt o := by first | assumption | exact fun _ z => nomatch z) : Stp κ σ env H G (upd H p o) (G.up p o) := by
  have gp := r.sub.none hp
  refine ⟨r.grow (gr (same_new hp)) (same_new gp) (r.sub.both hp hn) (fun _ => rfl) fun i a q => ?_, gr (same_new hp), Fr.same (gr (same_new hp)) (same_new gp) (fun a u h g _ => ?_) (fun _ _ _ h => h) fun _ _ _ h => ⟨h, rfl⟩⟩
  · obtain ⟨⟨u, h⟩, g⟩ := r.own q
    show upd G.g p o a = none
    rw [upd_ne (ne_of_none h hp)]
    exact g
  · show upd G.g p o a = none
    rw [upd_ne (ne_of_none h hp)]
    exact g
/-- own addresses that no slot holds, given away -/
theorem freeze {H0 : Hp} {G0 : Gh} {σ0 : L2.St} {env0 : En} {F : List Addr} (r : Rep κ H G σ env) (hg : ∀ a, a ∈ F → G.g a = none) (f : ∀ a, a ∈ F → Fre G env a) (n : ∀ a, a ∈ F → ∀ o, H0 a = some o → Mt G0 env0 a) (fr : Fr H0 G0 σ0 env0 H G σ env) (hn : ∀ a o, a ∈ F → H a = some o → pln o) :
    Rep κ H ⟨frzG H G F, G.fp⟩ σ env ∧ Fr H0 G0 σ0 env0 H ⟨frzG H G F, G.fp⟩ σ env := by
  have sg : Same G.g (frzG H G F) := same_frz hg
  refine ⟨r.grow (G' := ⟨frzG H G F, G.fp⟩) (Grw.refl _) sg (frz_sub r.sub fun a o m e => (hn a o m e).1) (fun _ => rfl) fun i b o => ?_, fr.hk, fr.gk.trans sg, fun b o e g m => ?_, fr.mm, fr.lk⟩
  · obtain ⟨s, o', e, t, m⟩ := id o
    show frzG H G F b = none
    rw [frz_out fun q => f b q i s e m]
    exact (r.own o).2
  · show frzG H G F b = none
    rw [frz_out fun q => m (n b q o e)]
    exact fr.gn b o e g m
end
/-- .. as a value that all may hold -/
def RP (κ : Kx) : Rl D V := fun _ _ _ G _ v d => Rp κ G v d
instance {κ : Kx} : RlMono (RP κ) := ⟨fun _ q => q⟩
def frz (m : Sm Rs) : Sm D := fun e => match m e with
  | none => none
  | some (.ok r e') => match r.d with
    | some d => some (.ok d e')
    | none => none
  | some (.ex x e') => some (.ex x e')
section
variable {X : Cx} {κ : Kx} {W : WX} {e : Expr}
theorem PE.imp {t t' : TE} (h : PE X e t) (k : ∀ σ H Q, t' σ H Q → t σ H Q) : PE X e t' := ⟨fun pins s σ H Q I q => h.run pins s σ H Q I (k σ H Q q)⟩
theorem PT.imp {t t' : TT} (h : PT X e t) (k : ∀ σ H Q, t' σ H Q → t σ H Q) : PT X e t' := ⟨fun pins s σ H Q I q => h.run pins s σ H Q I (k σ H Q q)⟩
theorem PW.imp {t t' : TT} (h : PW X e t) (k : ∀ σ H Q, t' σ H Q → t σ H Q) : PW X e t' := ⟨fun wh pins s σ H Q I q => h.run wh pins s σ H Q I (k σ H Q q)⟩
theorem PA.imp {es : List Expr} {t t' : TA} (h : PA X es t) (k : ∀ σ H Q, t' σ H Q → t σ H Q) : PA X es t' := ⟨fun pos pins s σ H Q I q => h.run pos pins s σ H Q I (k σ H Q q)⟩
theorem PS.imp {st : Stmt} {t t' : TS} (h : PS X st t) (k : ∀ D σ H, t' D σ H → t D σ H) : PS X st t' := ⟨fun pins s σ H D I q => h.run pins s σ H D I (k D σ H q)⟩
theorem PSs.imp {st : List Stmt} {t t' : TS} (h : PSs X st t) (k : ∀ D σ H, t' D σ H → t D σ H) : PSs X st t' := ⟨fun pins s σ H D I q => h.run pins s σ H D I (k D σ H q)⟩
/-- a reading that changes nothing, as one that may -/
theorem im {α : Type} {R : Rl α V} {m : Sm α} (h : PE X e (tX κ W R m)) : PE X e (tI κ W R m) := PE.imp h fun _ _ _ q => q.pu
theorem im_t {m : Sm Bool} (h : PT X e (tX κ W RT m)) : PT X e (tI κ W RT m) := PT.imp h fun _ _ _ q => q.pu
theorem frz_rv {H : Hp} {G : Gh} {σ : L2.St} {env : En} {H0 : Hp} {G0 : Gh} {σ0 : L2.St} {env0 : En} {v : V} {r : Rs} {d : D} (rp : Rep κ H G σ env) (rv : RV κ σ (Nw H0 G0 env0) H G env v r) (e : r.d = some d) (fr : Fr H0 G0 σ0 env0 H G σ env) :
    ∃ G', Rep κ H G' σ env ∧ Rp κ G' v d ∧ Fr H0 G0 σ0 env0 H G' σ env := by
  cases r with
  | sh d' => cases e; exact ⟨G, rp, rv, fr⟩
  | ow l =>
    cases e
    obtain ⟨a, xs, rfl, h2, h3, h4, h5, h6⟩ := rv
    have ro : RO κ H G (.ref a) (.ls l) [a] := .ls h2 h3 h4
    obtain ⟨g1, g2⟩ := freeze (F := [a]) rp (fun b m => by rw [List.mem_singleton.mp m]; exact h3) (fun b m => by rw [List.mem_singleton.mp m]; exact h5) (fun b m => by rw [List.mem_singleton.mp m]; exact h6) fr fun a o m e => ro.pl m e
    exact ⟨_, g1, ro.frz rfl, g2⟩
  | tr o =>
    obtain ⟨F, ro, h⟩ := rv
    obtain ⟨g1, g2⟩ := freeze (F := F) rp (fun b m => (ro.own m).2) (fun b m => (h b m).1) (fun b m => (h b m).2) fr fun a o m e => ro.pl m e
    exact ⟨_, g1, ro.frz e, g2⟩
/-- a value, given away -/
theorem v_frz {m : Sm Rs} (h : PE X e (tX κ W (RV κ) m)) : PE X e (tX κ W (RP κ) (frz m)) := PE.imp h fun σ H Q ⟨G, env, r, q⟩ => by
  refine ⟨G, env, r, ?_⟩
  unfold frz at q
  cases z : m env with
  | none => rw [z] at q; exact q
  | some y => cases y with
    | ex x e1 => rw [z] at q; exact q
    | ok a e1 =>
      rw [z] at q
      intro v H1 G1 r1 rv s1 f1
      cases w : a.d with
      | none => dsimp only at q; rw [w] at q; exact q.elim
      | some d =>
        dsimp only at q
        rw [w] at q
        obtain ⟨G2, r2, rp, f2⟩ := frz_rv r1 rv w f1
        exact q _ H1 _ r2 rp s1 f2
theorem v_bo {m : Sm D} (h : PE X e (tX κ W (RP κ) m)) : PE X e (tX κ W (RB κ) m) := PE.imp h fun σ H Q ⟨G, env, r, q⟩ => by
  refine ⟨G, env, r, ?_⟩
  cases z : m env with
  | none => rw [z] at q; exact q
  | some y => cases y with
    | ex x e1 => rw [z] at q; exact q
    | ok a e1 =>
      rw [z] at q
      exact fun v H1 G1 r1 r2 s1 f1 => q v H1 G1 r1 (.inl r2) s1 f1
def shm (m : Sm D) : Sm Rs := fun e => match m e with
  | none => none
  | some (.ok d e') => some (.ok (.sh d) e')
  | some (.ex x e') => some (.ex x e')
theorem v_sh {m : Sm D} (h : PE X e (tX κ W (RP κ) m)) : PE X e (tX κ W (RV κ) (shm m)) := PE.imp h fun σ H Q ⟨G, env, r, q⟩ => by
  refine ⟨G, env, r, ?_⟩
  unfold shm at q
  cases z : m env with
  | none => rw [z] at q; exact q
  | some y => cases y with
    | ex x e1 => rw [z] at q; exact q
    | ok a e1 => rw [z] at q; exact q
/-! ### names and constants -/
/-- a name that is only looked at -/
def eB (i : Nat) : Sm D := fun env => match env[i]? with
  | some (.sh d) => some (.ok d env)
  | some (.ow l) => some (.ok (.lst l) env)
  | some (.lk l) => some (.ok (.lst l) env)
  | some (.bo l) => some (.ok (.lst l) env)
  | some (.io (.ls l)) => some (.ok (.lst l) env)
  | _ => none
/-- a name whose value is given away -/
def eV (i : Nat) : Sm D := fun env => match env[i]? with
  | some (.sh d) => some (.ok d env)
  | some (.ow l) => some (.ok (.lst l) (env.set i (.sh (.lst l))))
  | some (.tr o) => match o.d with
    | some d => some (.ok d (env.set i (.sh d)))
    | none => none
  | _ => none
def eC (d : D) : Sm D := fun env => some (.ok d env)
theorem b_var {i : Nat} {x : Str} {pos : Pos} (h : PE X (.Name x pos) (tVar i)) : PE X (.Name x pos) (tX κ W (RB κ) (eB i)) := PE.imp h fun σ H Q ⟨G, env, r, q⟩ => by
  unfold eB at q
  cases z : env[i]? with
  | none => rw [z] at q; exact q.elim
  | some s =>
    have rs := r.slot i s z
    rw [z] at q
    have ls : ∀ {l : List D}, s.th = some (.ls l) → EPost κ W (RB κ) σ H G env (some (.ok (.lst l) env)) Q → tVar i σ H Q := fun {l} t q => by
      obtain ⟨x, e1, e2⟩ := rs.th t
      obtain ⟨a, xs, rfl, _, h1, h2, h3⟩ := e2.ls_inv
      exact ⟨_, e1, q _ H G r (.inr ⟨_, _, l, rfl, rfl, h1, h3⟩) (Grw.refl _) Fr.refl⟩
    cases s with
    | un => exact q.elim
    | sh d =>
      obtain ⟨_, v, h1, h2⟩ := rs
      exact ⟨v, h1, q v H G r (.inl h2) (Grw.refl _) Fr.refl⟩
    | ow l => exact ls rfl q
    | lk l => exact ls rfl q
    | bo l =>
      obtain ⟨a, xs, h1, h2, h4, _⟩ := rs
      exact ⟨_, h1, q _ H G r (.inr ⟨a, xs, l, rfl, rfl, h2, h4⟩) (Grw.refl _) Fr.refl⟩
    | io o =>
      cases o with
      | ls l => exact ls rfl q
      | _ => exact q.elim
    | tr o => exact q.elim
end
section
variable {κ : Kx} {σ : L2.St} {H : Hp} {G : Gh} {env : En}
theorem set_look {env : En} {i j : Nat} {s t : Sl} (h : (env.set i s)[j]? = some t) : (j = i ∧ t = s) ∨ (i ≠ j ∧ env[j]? = some t) := by
  by_cases w : i = j
  · subst w
    by_cases hl : i < env.length
    · rw [List.getElem?_set_self hl] at h
      exact .inl ⟨rfl, (Option.some.inj h).symm⟩
    · rw [List.getElem?_eq_none (by simpa using hl)] at h
      cases h
  · rw [List.getElem?_set_ne w] at h
    exact .inr ⟨w, h⟩
theorem put_at {G : Gh} {i : Nat} {F : List Addr} : (G.put i F).fp i = F := by unfold Gh.put; exact if_pos rfl
theorem put_ne {G : Gh} {i j : Nat} {F : List Addr} (h : i ≠ j) : (G.put i F).fp j = G.fp j := by unfold Gh.put; exact if_neg fun z => h z.symm
/-- slot i told otherwise: its new thing, where nothing else lies -/
theorem Rep.re (r : Rep κ H G σ env) {i : Nat} {s : Sl} {F : List Addr} {H' g' : Hp} {x : Option V} (hi : i < env.length) (sub : Sub κ g' H') (gk : Same G.g g')
    (hs : RSl κ H' g' (some x) F s)
    (ks : ∀ j t a, i ≠ j → env[j]? = some t → a ∈ G.fp j → ∀ o, H a = some o → H' a = some o)
    (kn : ∀ j a, i ≠ j → Own G env j a → g' a = none)
    (new : ∀ a, a ∈ F → ∀ j t, i ≠ j → env[j]? = some t → a ∉ G.fp j) :
    Rep κ H' (Gh.mk g' (G.put i F).fp) (σ.set i x) (env.set i s) := by
  have hσ : i < σ.length := by rw [r.len]; exact hi
  refine ⟨sub, by rw [List.length_set, List.length_set]; exact r.len, fun j t e => ?_, fun j k a t o e m => ?_⟩
  · rcases set_look e with ⟨rfl, rfl⟩ | ⟨w, e1⟩
    · rw [List.getElem?_set_self hσ]
      show RSl κ H' g' _ ((G.put j F).fp j) t
      rw [put_at]
      exact hs
    · rw [List.getElem?_set_ne w]
      show RSl κ H' g' _ ((G.put i F).fp j) t
      rw [put_ne w]
      have q := r.slot j t e1
      have th : ∀ {o : O}, t.th = some o → RSl κ H' g' σ[j]? (G.fp j) t := fun {o'} z => by
        obtain ⟨x, e3, e4⟩ := q.th z
        exact .of z e3 (e4.grow gk (fun a o m e5 => ks j t a w e1 m o e5) fun a m => kn j a w ⟨t, o', e1, z, m⟩)
      cases t with
      | un => exact q
      | sh d =>
        obtain ⟨h0, x, h1, h2⟩ := q
        exact ⟨h0, x, h1, h2.mono gk⟩
      | ow l => exact th rfl
      | lk l => exact th rfl
      | io o => exact th rfl
      | tr o => exact th rfl
      | bo l =>
        obtain ⟨a, xs, h1, h2, h4, h5⟩ := q
        exact ⟨a, xs, h1, ks j (.bo l) a w e1 (by rw [h5]; exact List.mem_singleton_self a) _ h2, h4.mono gk, h5⟩
  · obtain ⟨s', o', e', t', m'⟩ := o
    have m1 : a ∈ (G.put i F).fp j := m'
    have m2 : a ∈ (G.put i F).fp k := m
    clear m m'
    rcases set_look e' with ⟨rfl, rfl⟩ | ⟨w1, e1⟩
    · rw [put_at] at m1
      rcases set_look e with ⟨rfl, rfl⟩ | ⟨w2, e2⟩
      · rfl
      · rw [put_ne w2] at m2
        exact absurd m2 (new a m1 k t w2 e2)
    · rw [put_ne w1] at m1
      rcases set_look e with ⟨rfl, rfl⟩ | ⟨w2, e2⟩
      · rw [put_at] at m2
        exact absurd m1 (new a m2 j s' w1 e1)
      · rw [put_ne w2] at m2
        exact r.inj j k a t ⟨s', o', e1, t', m1⟩ e2 m2
/-- .. what the frame says of it -/
theorem Fr.re {i : Nat} {s s0 : Sl} {F : List Addr} {H' g' : Hp} {x : Option V} (e0 : env[i]? = some s0)
    (hk : ∀ a o, H a = some o → ¬ Mt G env a → ∃ o', H' a = some o' ∧ (nt o → o' = o)) (gk : Same G.g g') (gn : ∀ a o, H a = some o → G.g a = none → ¬ Mt G env a → g' a = none)
    (mm : s.mut = true → ∀ a o, a ∈ F → H a = some o → Mt G env a) (fx : s.fix = true → s.was s0 ∧ x = (σ[i]?).getD none ∧ i < σ.length ∧ s.mut = true) :
    Fr H G σ env H' (Gh.mk g' (G.put i F).fp) (σ.set i x) (env.set i s) where
  hk := hk
  gk := gk
  gn := gn
  mm := fun a o e m => by
    obtain ⟨j, t, e1, h, m⟩ := m
    have m : a ∈ (G.put i F).fp j := m
    rcases set_look e1 with ⟨rfl, rfl⟩ | ⟨w, e2⟩
    · rw [put_at] at m
      exact mm h a o m e
    · rw [put_ne w] at m
      exact ⟨j, t, e2, h, m⟩
  lk := fun j t f e => by
    rcases set_look e with ⟨rfl, rfl⟩ | ⟨w, e2⟩
    · obtain ⟨h1, h2, h3, h4⟩ := fx f
      refine ⟨s0, e0, h1, ?_, fun _ q => by rw [h4] at q; cases q⟩
      rw [List.getElem?_set_self h3, h2, List.getElem?_eq_getElem h3]
      rfl
    · exact ⟨t, e2, was_refl f, List.getElem?_set_ne w, fun _ _ => put_ne w⟩
theorem set_same {σ : L2.St} {i : Nat} {x : Option V} (h : σ[i]? = some x) : σ.set i x = σ := by
  refine List.ext_getElem? fun j => ?_
  by_cases w : i = j
  · subst w
    rw [List.getElem?_set_self (List.getElem?_eq_some_iff.mp h).1, h]
  · rw [List.getElem?_set_ne w]
/-- the own thing at slot i, given away -/
theorem Rep.give {i : Nat} {s : Sl} {o : O} {d : D} (r : Rep κ H G σ env) (e : env[i]? = some s) (t : s.th = some o) (hm : s.mut = true) (hd : o.d = some d) : ∃ v G', σ[i]? = some (some v) ∧ Rep κ H G' σ (env.set i (.sh d)) ∧ Rp κ G' v d ∧
    Fr H G σ env H G' σ (env.set i (.sh d)) := by
  obtain ⟨v, h1, ro⟩ := (r.slot i s e).th t
  have hi : i < env.length := (List.getElem?_eq_some_iff.mp e).1
  have sg : Same G.g (frzG H G (G.fp i)) := same_frz fun a m => (ro.own m).2
  have rp := ro.frz hd
  have me : ∀ a, a ∈ G.fp i → Own G env i a := fun a m => ⟨s, o, e, t, m⟩
  have re := r.re (s := .sh d) (F := []) (x := some v) hi (frz_sub r.sub fun a o m e => (ro.pl m e).1) sg ⟨rfl, v, rfl, rp⟩ (fun _ _ _ _ _ _ _ h => h) (fun j a w ow => by
    obtain ⟨t', o', e', z', m'⟩ := id ow
    rw [frz_out fun m => w (r.inj i j a t' (me a m) e' m')]
    exact (r.own ow).2) fun a m => by cases m
  have fr := Fr.re (σ := σ) (H := H) (H' := H) (g' := frzG H G (G.fp i)) (s := .sh d) (F := []) (x := some v) (s0 := s) e (fun _ o h _ => ⟨o, h, fun _ => rfl⟩) sg (fun a o' h g n => by
    rw [frz_out fun m => n ⟨i, s, e, hm, m⟩]
    exact g) (fun q => by cases q) fun q => by cases q
  rw [set_same h1] at re fr
  exact ⟨v, _, h1, re, rp, fr⟩
end
section
variable {X : Cx} {κ : Kx} {W : WX} {e : Expr}
theorem v_var {i : Nat} {x : Str} {pos : Pos} (h : PE X (.Name x pos) (tVar i)) : PE X (.Name x pos) (tX κ W (RP κ) (eV i)) := PE.imp h fun σ H Q ⟨G, env, r, q⟩ => by
  unfold eV at q
  cases z : env[i]? with
  | none => rw [z] at q; exact q.elim
  | some s =>
    have rs := r.slot i s z
    rw [z] at q
    have gv : ∀ {o : O} {d : D}, s.th = some o → s.mut = true → o.d = some d → EPost κ W (RP κ) σ H G env (some (.ok d (env.set i (.sh d)))) Q → tVar i σ H Q := fun {o d} t hm hd q => by
      obtain ⟨v, G', g1, g2, g3, g4⟩ := r.give z t hm hd
      exact ⟨v, g1, q _ H _ g2 g3 (Grw.refl _) g4⟩
    cases s with
    | un => exact q.elim
    | sh d =>
      obtain ⟨_, v, h1, h2⟩ := rs
      exact ⟨v, h1, q v H G r h2 (Grw.refl _) Fr.refl⟩
    | ow l => exact gv rfl rfl rfl q
    | lk l => exact q.elim
    | bo l => exact q.elim
    | io o => exact q.elim
    | tr o =>
      dsimp only at q
      cases w : o.d with
      | none => rw [w] at q; exact q.elim
      | some d => rw [w] at q; exact gv rfl rfl w q
theorem v_const {v : V} {d : D} (h : PE X e (tC v)) (r0 : ∀ G, Rp κ G v d) : PE X e (tX κ W (RP κ) (eC d)) := PE.imp h fun σ H Q ⟨G, env, r, q⟩ => q v H G r (r0 G) (Grw.refl _) Fr.refl
theorem v_int {i : Int} {j : Nat} {pos : Pos} : PE X (.Constant (.int i) j pos) (tX κ W (RP κ) (eC (.int i))) := v_const pe_int fun _ => .int i
theorem v_bl {b : Bool} {j : Nat} {pos : Pos} : PE X (.Constant (.bool b) j pos) (tX κ W (RP κ) (eC (.bl b))) := v_const pe_bl fun _ => .bl b
theorem v_non {j : Nat} {pos : Pos} : PE X (.Constant .none j pos) (tX κ W (RP κ) (eC .non)) := v_const pe_non fun _ => .non
theorem v_str {x : Str} {j : Nat} {pos : Pos} {w : List Nat} (h : x = S w) : PE X (.Constant (.str x) j pos) (tX κ W (RP κ) (eC (.str w))) := v_const pe_str fun _ => h ▸ .str w
end
/-! ### operators -/
def fOp {γ : Type} (f : D → D → Option γ) (ma mb : Sm D) : Sm γ := bnd ma fun x => bnd mb fun y => fun e => match f x y with
  | some z => some (.ok z e)
  | none => none
def RBq (κ : Kx) (H G : Hp) (v : V) (d : D) : Prop := Rp κ G v d ∨ ∃ a xs l, d = .lst l ∧ v = .ref a ∧ H a = some (.lst xs) ∧ RpA κ G xs l
section
variable {κ : Kx} {H G H' G' : Hp} {v : V} {d : D}
theorem RBq.mono (h : Grw H H') (g : Same G G') (r : RBq κ H G v d) : RBq κ H' G' v d := by
  rcases r with r | ⟨a, xs, l, h1, h2, h3, h4⟩
  · exact .inl (r.mono g)
  · exact .inr ⟨a, xs, l, h1, h2, h.at h3, h4.mono g⟩
theorem RBq.int {i : Int} (r : RBq κ H G v (.int i)) : v = .int i := by
  rcases r with r | ⟨a, xs, l, h1, _⟩
  · cases r; rfl
  · cases h1
theorem RBq.bl {i : Bool} (r : RBq κ H G v (.bl i)) : v = .bl i := by
  rcases r with r | ⟨a, xs, l, h1, _⟩
  · cases r; rfl
  · cases h1
theorem RBq.non (r : RBq κ H G v .non) : v = .non := by
  rcases r with r | ⟨a, xs, l, h1, _⟩
  · cases r; rfl
  · cases h1
theorem RBq.str {w : List Nat} (r : RBq κ H G v (.str w)) : v = .str (S w) := by
  rcases r with r | ⟨a, xs, l, h1, _⟩
  · cases r; rfl
  · cases h1
theorem RBq.lst {l : List D} (s : Same G H) (r : RBq κ H G v (.lst l)) : ∃ a xs, v = .ref a ∧ H a = some (.lst xs) ∧ RpA κ G xs l := by
  rcases r with r | ⟨a, xs, l, h1, h2, h3, h4⟩
  · cases r with
    | lst h t => exact ⟨_, _, rfl, s _ _ h, t⟩
  · cases h1
    exact ⟨a, xs, h2, h3, h4⟩
theorem RBq.tup {l : List D} (s : Same G H) (r : RBq κ H G v (.tup l)) : ∃ a xs, v = .ref a ∧ H a = some (.tup xs) ∧ RpA κ G xs l := by
  rcases r with r | ⟨a, xs, l, h1, h2, h3, h4⟩
  · cases r with
    | tup h t => exact ⟨_, _, rfl, s _ _ h, t⟩
  · cases h1
theorem RBq.scr {l : List Int} (s : Same G H) (r : RBq κ H G v (.scr l)) : ∃ a, v = .ref a ∧ SqL κ.K H a (l.map V.int) := by
  rcases r with r | ⟨a, xs, l, h1, h2, h3, h4⟩
  · cases r with
    | scr h => exact ⟨_, rfl, same_l s h.sq⟩
  · cases h1
theorem RBq.ob {c : Nat} {l : List D} (s : Same G H) (r : RBq κ H G v (.ob c l)) : ∃ a dx fs, v = .ref a ∧ H a = some (.ins (κ.cl c) dx fs) ∧ fs.map Prod.fst = (κ.fl c).take l.length ∧ RpA κ G (fs.map Prod.snd) l := by
  rcases r with r | ⟨a, xs, l, h1, h2, h3, h4⟩
  · cases r with
    | ob h1 h2 t => exact ⟨_, _, _, rfl, s _ _ h1, h2, t⟩
  · cases h1
end
/-- the end: a value that is no list, nothing made -/
theorem post_sh {κ : Kx} {W : WX} {σ : L2.St} {H : Hp} {G : Gh} {env : En} {d : D} {Q : VK} {v : V} (r : Rep κ H G σ env) (h : Rp κ G v d) (q : EPost κ W (RV κ) σ H G env (some (.ok (.sh d) env)) Q) : Q v H := q v H G r h (Grw.refl _) Fr.refl
theorem post_tt {κ : Kx} {W : WX} {σ : L2.St} {H : Hp} {G : Gh} {env : En} {b : Bool} {Q : Bool → Hp → Prop} (r : Rep κ H G σ env) (q : EPost κ W RT σ H G env (some (.ok b env)) Q) : Q b H := q b H G r rfl (Grw.refl _) Fr.refl
theorem post_ow {κ : Kx} {W : WX} {σ : L2.St} {H : Hp} {G : Gh} {env : En} {l : List D} {xs : List V} {Q : VK} {p : Addr} (r : Rep κ H G σ env) (hp : H p = none) (h : RpA κ G xs l) (q : EPost κ W (RV κ) σ H G env (some (.ok (.ow l) env)) Q) : Q (.ref p) (upd H p (.lst xs)) := by
  obtain ⟨s, v⟩ := new_ow r hp h
  exact q _ _ G s.rep v s.same s.fr
theorem post_tup {κ : Kx} {W : WX} {σ : L2.St} {H : Hp} {G : Gh} {env : En} {l : List D} {xs : List V} {Q : VK} {p : Addr} (r : Rep κ H G σ env) (hp : H p = none) (h : RpA κ G xs l) (q : EPost κ W (RV κ) σ H G env (some (.ok (.sh (.tup l)) env)) Q) : Q (.ref p) (upd H p (.tup xs)) := by
  have s := new_sh (o := .tup xs) r hp
  exact q _ _ _ s.rep (.tup upd_same (h.mono (same_new (Same.none r.sub hp)))) s.same s.fr
/-- an operator's reading serves its function -/
def OpV (κ : Kx) (r : R2) (f : D → D → Option Rs) : Prop := ∀ (W : WX) (σ : L2.St) (x y : V) (dx dy : D) (z : Rs) (H : Hp) (G : Gh) (env : En) (Q : VK), f dx dy = some z → Rep κ H G σ env → RBq κ H G x dx → RBq κ H G y dy → EPost κ W (RV κ) σ H G env (some (.ok z env)) Q → r x y H Q
def OpB (κ : Kx) (r : R2) (f : D → D → Option Bool) : Prop := ∀ (x y : V) (dx dy : D) (z : Bool) (H G : Hp) (Q : VK), f dx dy = some z → Same G H → RBq κ H G x dx → RBq κ H G y dy → Q (.bl z) H → r x y H Q
section
variable {X : Cx} {κ : Kx} {W : WX} {a b c : Expr} {ma mb mc : Sm D} {pos : Pos}
theorem op_tr {γ δ : Type} {R' : Rl γ δ} [RlMono R'] {f : D → D → Option γ} {σ : L2.St} {H : Hp} {P : δ → Hp → Prop} {r : R2} {Q : VK}
    (hs : ∀ x y dx dy z H G env, f dx dy = some z → Rep κ H G σ env → RBq κ H G x dx → RBq κ H G y dy → EPost κ W R' σ H G env (some (.ok z env)) P → r x y H Q)
    (h : tX κ W R' (fOp f ma mb) σ H P) : tOp r (tX κ W (RB κ) ma) (tX κ W (RB κ) mb) σ H Q := by
  obtain ⟨G, env, rp, q⟩ := h
  refine bind_post rp q fun dx e1 x H1 G1 _ rp1 rx s1 f1 q1 => ?_
  refine bind_post rp1 q1 fun dy e2 y H2 G2 _ rp2 ry s2 f2 q2 => ?_
  cases z : f dx dy with
  | none => rw [z] at q2; exact q2.elim
  | some w => rw [z] at q2; exact hs x y dx dy w H2 G2 e2 z rp2 (RBq.mono s2 f2.gk rx) ry q2
theorem v_op {op : Operator} {r : R2} {f : D → D → Option Rs} (ho : OpR X (binaryOp op) r) (hs : OpV κ r f) (ha : PE X a (tX κ W (RB κ) ma)) (hb : PE X b (tX κ W (RB κ) mb)) : PE X (.BinOp a op b pos) (tX κ W (RV κ) (fOp f ma mb)) :=
  PE.imp (pe_op ho ha hb) fun σ H Q h => op_tr (fun x y dx dy z H G env e r rx ry q => hs W σ x y dx dy z H G env Q e r rx ry q) h
/-- a comparison as a value -/
def vB (f : D → D → Option Bool) : D → D → Option D := fun x y => match f x y with
  | some b => some (.bl b)
  | none => none
theorem v_cmp {op : CmpOp} {r : R2} {f : D → D → Option Bool} (ho : OpR X (compareOp op) r) (hs : OpB κ r f) (ha : PE X a (tX κ W (RB κ) ma)) (hb : PE X b (tX κ W (RB κ) mb)) (hm : behindInMarks op b = false) : PE X (.Compare a [op] [b] pos) (tX κ W (RP κ) (fOp (vB f) ma mb)) :=
  PE.imp (pe_cmpR ho ha hb hm) fun σ H Q h => op_tr (fun x y dx dy z H G env e r rx ry q => by
    unfold vB at e
    cases w : f dx dy with
    | none => rw [w] at e; cases e
    | some b =>
      rw [w] at e
      cases e
      exact hs x y dx dy b H G Q w r.sub rx ry (q (.bl b) H G r (.bl b) (Grw.refl _) Fr.refl)) h
/-- .. as a test -/
theorem t_cmp {op : CmpOp} {r : R2} {f : D → D → Option Bool} (ho : OpR X (compareOp op) r) (hs : OpB κ r f) (ha : PE X a (tX κ W (RB κ) ma)) (hb : PE X b (tX κ W (RB κ) mb)) (hm : behindInMarks op b = false) : PT X (.Compare a [op] [b] pos) (tX κ W RT (fOp f ma mb)) :=
  PT.imp (pt_cmpR ho ha hb hm) fun σ H Q h => op_tr (Q := fun x H' => ∃ k, x = .bl k ∧ Q k H') (fun x y dx dy z H G env e r rx ry q => hs x y dx dy z H G _ e r.sub rx ry ⟨z, rfl, post_tt r q⟩) h
/-- a < b < c -/
def fCh (f g : D → D → Option Bool) (ma mb mc : Sm D) : Sm Bool := bnd ma fun x => bnd mb fun y => fun e => match f x y with
  | none => none
  | some false => some (.ok false e)
  | some true => bnd mc (fun z => fun e => match g y z with
    | some b => some (.ok b e)
    | none => none) e
end

/-! ### the operators' functions -/
abbrev szl : Nat := 1000000
theorem szl_le {n : Nat} (h : n ≤ szl) : n ≤ sizeLine := Nat.le_trans h (by decide)
theorem szl_lt {n : Nat} (h : n ≤ szl) : n < sizeLine := Nat.lt_of_le_of_lt h (by decide)
theorem S_add (a b : List Nat) : S a ++ S b = S (a ++ b) := congrArg Str.mk (show a.toArray ++ b.toArray = (a ++ b).toArray by simp)
def opAdd : D → D → Option Rs
  | .int i, .int j => some (.sh (.int (i + j)))
  | .str a, .str b => if a.length + b.length ≤ szl then some (.sh (.str (a ++ b))) else none
  | .lst a, .lst b => if a.length + b.length ≤ szl then some (.ow (a ++ b)) else none
  | _, _ => none
def rAddA : R2 := fun x y H Q => rI0 (fun i j => .int (i + j)) x y H Q ∨ (∃ i j, x = .str i ∧ y = .str j ∧ i.length + j.length ≤ sizeLine ∧ Q (.str (i ++ j)) H) ∨ rCat x y H Q
theorem o_add {X : Cx} : OpR X (binaryOp .Add) rAddA := OpR.or op_add (OpR.or op_add_str op_cat)
theorem s_add {κ : Kx} : OpV κ rAddA opAdd := fun W σ x y dx dy z H G env Q e r rx ry q => by
  cases dx <;> cases dy <;> try (cases e; done)
  · cases e
    exact .inl ⟨_, _, rx.int, ry.int, post_sh r (.int _) q⟩
  · rename_i a b
    dsimp only [opAdd] at e
    by_cases h : a.length + b.length ≤ szl
    · rw [if_pos h] at e
      cases e
      refine .inr (.inl ⟨_, _, rx.str, ry.str, by rw [S_len, S_len]; exact szl_le h, ?_⟩)
      rw [S_add]
      exact post_sh r (.str _) q
    · rw [if_neg h] at e; cases e
  · rename_i a b
    dsimp only [opAdd] at e
    by_cases h : a.length + b.length ≤ szl
    · rw [if_pos h] at e
      cases e
      obtain ⟨p, xs, rfl, h1, h2⟩ := rx.lst r.sub
      obtain ⟨p', ys, rfl, h3, h4⟩ := ry.lst r.sub
      exact .inr (.inr ⟨_, _, _, _, rfl, rfl, h1, h3, by rw [h2.length, h4.length]; exact szl_le h, fun p hp => post_ow r hp (h2.append h4) q⟩)
    · rw [if_neg h] at e; cases e
def opSub : D → D → Option Rs
  | .int i, .int j => some (.sh (.int (i - j)))
  | _, _ => none
def opMod : D → D → Option Rs
  | .int i, .int j => if 0 < j then some (.sh (.int (i % j))) else none
  | _, _ => none
theorem s_mod {κ : Kx} : OpV κ (rI (fun _ j => 0 < j) fun i j => .int (i % j)) opMod := fun W σ x y dx dy z H G env Q e r rx ry q => by
  cases dx <;> cases dy <;> try (cases e; done)
  rename_i a b
  dsimp only [opMod] at e
  by_cases h : 0 < b
  · rw [if_pos h] at e
    cases e
    exact ⟨_, _, rx.int, ry.int, h, post_sh r (.int _) q⟩
  · rw [if_neg h] at e; cases e
def opDiv : D → D → Option Rs
  | .int i, .int j => if 0 < j ∧ j < 1000000000000000000000000000 then some (.sh (.int (i / j))) else none
  | _, _ => none
theorem s_div {κ : Kx} : OpV κ (rI CDivW fun i j => .int (i / j)) opDiv := fun W σ x y dx dy z H G env Q e r rx ry q => by
  cases dx <;> cases dy <;> try (cases e; done)
  rename_i a b
  dsimp only [opDiv] at e
  by_cases h : 0 < b ∧ b < 1000000000000000000000000000
  · rw [if_pos h] at e
    cases e
    exact ⟨_, _, rx.int, ry.int, wide_div (b := 90) h.1 (by omega) (by decide) (by decide), post_sh r (.int _) q⟩
  · rw [if_neg h] at e; cases e
def opMul : D → D → Option Rs
  | .int i, .int j => if Builtin.Int.intBits i + Builtin.Int.intBits j ≤ 134217728 then some (.sh (.int (i * j))) else none
  | .str a, .int j => if 0 ≤ j ∧ j ≤ 100000 ∧ a.length * j.toNat ≤ szl then some (.sh (.str (List.replicate j.toNat a).flatten)) else none
  | .lst a, .int j => if 0 ≤ j ∧ j ≤ 100000 ∧ a.length * j.toNat ≤ szl then some (.ow (List.replicate j.toNat a).flatten) else none
  | _, _ => none
def rMulS : R2 := fun x y H Q => ∃ (a : List Nat) (j : Int), x = .str (S a) ∧ y = .int j ∧ 0 ≤ j ∧ j ≤ 100000 ∧ a.length * j.toNat ≤ szl ∧ Q (.str (S (List.replicate j.toNat a).flatten)) H
theorem fold_rep (a : List Nat) : ∀ (n : Nat) (b : Array Nat), (List.replicate n a.toArray).foldl (· ++ ·) b = b ++ (List.replicate n a).flatten.toArray
  | 0, b => by simp
  | n + 1, b => by
    rw [List.replicate_succ, List.foldl_cons, fold_rep a n, List.replicate_succ, List.flatten_cons]
    simp
theorem mul_S (a : List Nat) (j : Int) (h : 0 ≤ j) : Txt.mul (S a) j = S (List.replicate j.toNat a).flatten := by
  unfold Txt.mul
  by_cases h1 : j < 1
  · rw [if_pos h1]
    have : j.toNat = 0 := by omega
    rw [this]
    rfl
  · rw [if_neg h1]
    by_cases h2 : (j == 1 || (S a).length == 0) = true
    · rw [if_pos h2]
      rw [Bool.or_eq_true] at h2
      rcases h2 with h2 | h2
      · have : j = 1 := by simpa using h2
        subst this
        show S a = S _
        rw [show (1 : Int).toNat = 1 from rfl, List.replicate_one]
        simp
      · rw [S_len] at h2
        have h3 : a = [] := by simpa using h2
        subst h3
        have : (List.replicate j.toNat ([] : List Nat)).flatten = [] := by simp
        rw [this]
    · rw [if_neg h2]
      show Str.mk _ = Str.mk _
      congr 1
      rw [show (S a).cps = a.toArray from rfl, fold_rep]
      simp
theorem o_mulS {X : Cx} : OpR X (binaryOp .Mult) rMulS := by
  intro pins s σ H x y v u Q I rx ry h
  obtain ⟨a, j, rfl, rfl, h1, h2, h3, q⟩ := h
  obtain ⟨t, rfl⟩ := rx
  obtain ⟨t', rfl⟩ := ry
  have hsz : sizeLine = 16777216 := sizeLine_eq
  refine SB.mul ⟨?_, fun h4 h5 => ?_, fun h4 h5 => ?_⟩ fun t' k => ?_
  · rw [Bool.or_eq_false_iff]
    exact ⟨decide_eq_false (by omega), decide_eq_false (by omega)⟩
  · rw [S_len]
    have h6 : (a.length : Int) * j ≤ 1000000 := by
      have e : ((a.length * j.toNat : Nat) : Int) = (a.length : Int) * j := by
        rw [Int.natCast_mul, Int.toNat_of_nonneg h1]
      rw [← e]
      have h3' : a.length * j.toNat ≤ 1000000 := h3
      exact Int.ofNat_le.mpr h3'
    have h7 : (a.length : Int) ≤ (a.length : Int) * j := by
      have : (a.length : Int) * 1 ≤ (a.length : Int) * j := Int.mul_le_mul_of_nonneg_left (by omega) (by omega)
      omega
    have h8 : (92233720368547 : Int) ≤ (2 ^ 63 - 1) / j := by
      rw [Int.le_ediv_iff_mul_le (by omega)]
      have : (92233720368547 : Int) * j ≤ 92233720368547 * 100000 := Int.mul_le_mul_of_nonneg_left h2 (by decide)
      omega
    omega
  · rw [S_len]
    unfold Builtin.Str.tooLong
    have : ¬ (a.length * j.toNat > sizeLine) := by
      have : a.length * j.toNat ≤ 1000000 := h3
      omega
    simpa using this
  · rw [mul_S a j h1]
    exact ⟨.str _, H, I.tok _, ⟨_, rfl⟩, q⟩
def rMulA : R2 := fun x y H Q => rI CMulX (fun i j => .int (i * j)) x y H Q ∨ rMulS x y H Q ∨ rRep x y H Q
theorem o_mul {X : Cx} : OpR X (binaryOp .Mult) rMulA := OpR.or op_mulX (OpR.or o_mulS op_rep)
theorem RpA.rep {κ : Kx} {G : Hp} {xs : List V} {l : List D} (h : RpA κ G xs l) : ∀ n : Nat, RpA κ G (List.replicate n xs).flatten (List.replicate n l).flatten
  | 0 => .nil
  | n + 1 => by
    rw [List.replicate_succ, List.replicate_succ, List.flatten_cons, List.flatten_cons]
    exact h.append (RpA.rep h n)
theorem s_mul {κ : Kx} : OpV κ rMulA opMul := fun W σ x y dx dy z H G env Q e r rx ry q => by
  cases dx <;> cases dy <;> try (cases e; done)
  · rename_i i j
    dsimp only [opMul] at e
    by_cases h : Builtin.Int.intBits i + Builtin.Int.intBits j ≤ 134217728
    · rw [if_pos h] at e
      cases e
      exact .inl ⟨_, _, rx.int, ry.int, by show ((Builtin.Int.intBits i : Nat) : Int) + ((Builtin.Int.intBits j : Nat) : Int) ≤ 134217728; omega, post_sh r (.int _) q⟩
    · rw [if_neg h] at e; cases e
  · rename_i a j
    dsimp only [opMul] at e
    by_cases h : 0 ≤ j ∧ j ≤ 100000 ∧ a.length * j.toNat ≤ szl
    · rw [if_pos h] at e
      cases e
      exact .inr (.inl ⟨_, _, rx.str, ry.int, h.1, h.2.1, h.2.2, post_sh r (.str _) q⟩)
    · rw [if_neg h] at e; cases e
  · rename_i a j
    dsimp only [opMul] at e
    by_cases h : 0 ≤ j ∧ j ≤ 100000 ∧ a.length * j.toNat ≤ szl
    · rw [if_pos h] at e
      cases e
      obtain ⟨p, xs, rfl, h1, h2⟩ := rx.lst r.sub
      exact .inr (.inr ⟨_, _, _, rfl, ry.int, h1, by omega, by omega, by rw [h2.length]; exact szl_le h.2.2, fun p hp => post_ow r hp (h2.rep _) q⟩)
    · rw [if_neg h] at e; cases e
def opPow : D → D → Option Rs
  | .int i, .int j => if 0 ≤ j ∧ j ≤ 1000 ∧ 0 ≤ i ∧ i ≤ 1000000 then some (.sh (.int (i ^ j.toNat))) else none
  | _, _ => none
/-! ### comparisons -/
mutual
def D.toP : D → PyData
  | .non => .none
  | .bl b => .bool b
  | .int i => .int i
  | .str w => .str (S w)
  | .lst l => .list (toPA l)
  | .tup l => .tuple (toPA l)
  | .ob _ _ => .none
  | .scr _ => .none
  | .xn _ _ => .none
def toPA : List D → List PyData
  | [] => []
  | d :: ds => d.toP :: toPA ds
end
mutual
def D.pl : D → Bool
  | .non => true
  | .bl _ => true
  | .int _ => true
  | .str w => w.all fun c => c < 0x110000
  | .lst l => plA l
  | .tup l => plA l
  | .ob _ _ => false
  | .scr _ => false
  | .xn _ _ => false
def plA : List D → Bool
  | [] => true
  | d :: ds => d.pl && plA ds
end
mutual
theorem pl_lay : ∀ d : D, d.pl = true → d.toP.canLay0 = true
  | .non, _ => by simp only [D.toP, PyData.canLay0]
  | .bl _, _ => by simp only [D.toP, PyData.canLay0]
  | .int _, _ => by simp only [D.toP, PyData.canLay0]
  | .str w, h => by
    simp only [D.toP, PyData.canLay0, PyData.strOk]
    simpa [D.pl, S] using h
  | .lst l, h => by
    simp only [D.toP, PyData.canLay0]
    exact plA_lay l (by simpa [D.pl] using h)
  | .tup l, h => by
    simp only [D.toP, PyData.canLay0]
    exact plA_lay l (by simpa [D.pl] using h)
  | .ob _ _, h => by simp [D.pl] at h
  | .scr _, h => by simp [D.pl] at h
  | .xn _ _, h => by simp [D.pl] at h
theorem plA_lay : ∀ l : List D, plA l = true → PyData.canLayAll0 (toPA l) = true
  | [], _ => by simp only [toPA, PyData.canLayAll0]
  | d :: ds, h => by
    have h' : d.pl = true ∧ plA ds = true := by simpa [plA] using h
    simp only [toPA, PyData.canLayAll0, pl_lay d h'.1, plA_lay ds h'.2, Bool.and_self]
end
section
variable {κ : Kx} {H G : Hp}
mutual
theorem Rp.dp (s : Same G H) : ∀ {v : V} {d : D}, Rp κ G v d → d.pl = true → Dp κ.K H v d.toP
  | _, _, .non, _ => .non
  | _, _, .bl b, _ => .bl b
  | _, _, .int i, _ => .int i
  | _, _, .str w, _ => .str _
  | _, _, .lst h t, p => .lst (SqL.of (s _ _ h)) (RpA.dp s t (by simpa [D.pl] using p))
  | _, _, .tup h t, p => .tup (SqT.of (s _ _ h)) (RpA.dp s t (by simpa [D.pl] using p))
  | _, _, .ob _ _ _, p => by simp [D.pl] at p
  | _, _, .scr _, p => by simp [D.pl] at p
  | _, _, .xn _, p => by simp [D.pl] at p
theorem RpA.dp (s : Same G H) : ∀ {vs : List V} {ds : List D}, RpA κ G vs ds → plA ds = true → DpAll κ.K H vs (toPA ds)
  | _, _, .nil, _ => .nil
  | _, _, .cons h t, p => by
    have p' := p
    simp only [plA, Bool.and_eq_true] at p'
    exact .cons (Rp.dp s h p'.1) (RpA.dp s t p'.2)
end
theorem RBq.dp {v : V} {d : D} (s : Same G H) (r : RBq κ H G v d) (p : d.pl = true) : Dp κ.K H v d.toP := by
  rcases r with r | ⟨a, xs, l, rfl, rfl, h3, h4⟩
  · exact r.dp s p
  · exact .lst (SqL.of h3) (h4.dp s (by simpa [D.pl] using p))
end
def D.okE (d : D) : Bool := d.pl && decide (d.toP.depth ≤ 64)
theorem okE_shaped {d : D} (h : d.okE = true) : SeqAt.shaped d.toP = true := by
  unfold D.okE at h
  rw [Bool.and_eq_true] at h
  unfold SeqAt.shaped
  rw [pl_lay d h.1, h.2]
  rfl
theorem okE_pl {d : D} (h : d.okE = true) : d.pl = true := by
  unfold D.okE at h
  rw [Bool.and_eq_true] at h
  exact h.1
def cEq : D → D → Option Bool
  | .int i, .int j => some (decide (i = j))
  | .str a, .str b => some (decide (a = b))
  | .bl a, .bl b => some (decide (a = b))
  | x, y => if x.okE = true ∧ y.okE = true then some (PyData.eqv x.toP y.toP) else none
def cNe : D → D → Option Bool := fun x y => match cEq x y with
  | some b => some (!b)
  | none => none
def rEqA (κ : Kx) : R2 := fun x y H Q => rEq x y H Q ∨ rEqD κ.K x y H Q
def rNeA (κ : Kx) : R2 := fun x y H Q => rNe x y H Q ∨ rNeD κ.K x y H Q
theorem o_eq {X : Cx} {κ : Kx} (hK : X.K = κ.K) (hu : X.A.units + 64 < cLine) : OpR X (compareOp .Eq) (rEqA κ) := by
  unfold rEqA
  rw [← hK]
  exact OpR.or op_eq (op_eqD hu)
theorem o_ne {X : Cx} {κ : Kx} (hK : X.K = κ.K) (hu : X.A.units + 64 < cLine) : OpR X (compareOp .NotEq) (rNeA κ) := by
  unfold rNeA
  rw [← hK]
  exact OpR.or op_ne (op_neD hu)
theorem dec_S {a b : List Nat} : decide (V.str (S a) = V.str (S b)) = decide (a = b) := by
  by_cases h : a = b
  · subst h; simp
  · rw [decide_eq_false h, decide_eq_false]
    intro z
    injection z with z
    exact h (S_inj z)
theorem cEq_cases (x y : D) : (∃ i j, x = .int i ∧ y = .int j) ∨ (∃ i j, x = .str i ∧ y = .str j) ∨ (∃ i j, x = .bl i ∧ y = .bl j) ∨ cEq x y = if x.okE = true ∧ y.okE = true then some (PyData.eqv x.toP y.toP) else none := by
  cases x <;> cases y <;> first
    | exact .inl ⟨_, _, rfl, rfl⟩
    | exact .inr (.inl ⟨_, _, rfl, rfl⟩)
    | exact .inr (.inr (.inl ⟨_, _, rfl, rfl⟩))
    | exact .inr (.inr (.inr rfl))
theorem eqA {κ : Kx} {x y : V} {dx dy : D} {z : Bool} {H G : Hp} {Q : VK} (e : cEq dx dy = some z) (s : Same G H) (rx : RBq κ H G x dx) (ry : RBq κ H G y dy) :
    (Q (.bl z) H → rEqA κ x y H Q) ∧ (Q (.bl (!z)) H → rNeA κ x y H Q) := by
  rcases cEq_cases dx dy with ⟨i, j, rfl, rfl⟩ | ⟨i, j, rfl, rfl⟩ | ⟨i, j, rfl, rfl⟩ | h
  · cases e
    rw [rx.int, ry.int]
    refine ⟨fun q => .inl ⟨rfl, ?_⟩, fun q => .inl ⟨rfl, ?_⟩⟩
    · rw [show decide (V.int i = V.int j) = decide (i = j) by simp]; exact q
    · rw [show decide (V.int i = V.int j) = decide (i = j) by simp]; exact q
  · cases e
    rw [rx.str, ry.str]
    refine ⟨fun q => .inl ⟨rfl, ?_⟩, fun q => .inl ⟨rfl, ?_⟩⟩
    · rw [dec_S]; exact q
    · rw [dec_S]; exact q
  · cases e
    rw [rx.bl, ry.bl]
    refine ⟨fun q => .inl ⟨rfl, ?_⟩, fun q => .inl ⟨rfl, ?_⟩⟩
    · rw [show decide (V.bl i = V.bl j) = decide (i = j) by simp]; exact q
    · rw [show decide (V.bl i = V.bl j) = decide (i = j) by simp]; exact q
  · rw [h] at e
    by_cases o : dx.okE = true ∧ dy.okE = true
    · rw [if_pos o] at e
      cases e
      exact ⟨fun q => .inr ⟨_, _, rx.dp s (okE_pl o.1), ry.dp s (okE_pl o.2), okE_shaped o.1, okE_shaped o.2, q⟩, fun q => .inr ⟨_, _, rx.dp s (okE_pl o.1), ry.dp s (okE_pl o.2), okE_shaped o.1, okE_shaped o.2, q⟩⟩
    · rw [if_neg o] at e; cases e
theorem s_eq {κ : Kx} : OpB κ (rEqA κ) cEq := fun x y dx dy z H G Q e s rx ry q => (eqA e s rx ry).1 q
theorem s_ne {κ : Kx} : OpB κ (rNeA κ) cNe := fun x y dx dy z H G Q e s rx ry q => by
  unfold cNe at e
  cases h : cEq dx dy with
  | none => rw [h] at e; cases e
  | some b =>
    rw [h] at e
    cases e
    exact (eqA h s rx ry).2 q
/-- < and its like: two ints, or two texts -/
def cmpB (f : Int → Int → Bool) (g : List Nat → List Nat → Bool) : D → D → Option Bool
  | .int i, .int j => some (f i j)
  | .str a, .str b => some (g a b)
  | _, _ => none
abbrev cLt := cmpB (fun i j => decide (i < j)) (fun a b => decide (a < b))
abbrev cLe := cmpB (fun i j => decide (i ≤ j)) (fun a b => !decide (b < a))
abbrev cGt := cmpB (fun i j => decide (j < i)) (fun a b => decide (b < a))
abbrev cGe := cmpB (fun i j => decide (j ≤ i)) (fun a b => !decide (a < b))
def rCm (f : Int → Int → Bool) (g : List Nat → List Nat → Bool) : R2 := fun x y H Q => rI0 (fun i j => .bl (f i j)) x y H Q ∨ ∃ i j : Str, x = .str i ∧ y = .str j ∧ Q (.bl (g i.cps.toList j.cps.toList)) H
theorem s_cm {κ : Kx} {f : Int → Int → Bool} {g : List Nat → List Nat → Bool} : OpB κ (rCm f g) (cmpB f g) := fun x y dx dy z H G Q e s rx ry q => by
  cases dx <;> cases dy <;> try (cases e; done)
  · cases e
    exact .inl ⟨_, _, rx.int, ry.int, q⟩
  · cases e
    exact .inr ⟨_, _, rx.str, ry.str, q⟩
section
variable {X : Cx}
theorem o_lt : OpR X (compareOp .Lt) (rCm (fun i j => decide (i < j)) (fun a b => decide (a < b))) := OpR.or op_lt op_lt_str
theorem o_gt : OpR X (compareOp .Gt) (rCm (fun i j => decide (j < i)) (fun a b => decide (b < a))) := OpR.or op_gt op_gt_str
end
/-- is None -/
def cIsN : D → D → Option Bool := fun x y => match y with
  | .non => match x with
    | .non => some true
    | _ => some false
  | _ => none
def cNotN : D → D → Option Bool := fun x y => match cIsN x y with
  | some b => some (!b)
  | none => none
theorem RBq.isN {κ : Kx} {H G : Hp} {v : V} {d : D} (r : RBq κ H G v d) : decide (v = .non) = (match d with | .non => true | _ => false) := by
  rcases r with r | ⟨a, xs, l, rfl, rfl, _⟩
  · cases r <;> simp
  · simp
theorem s_isN {κ : Kx} : OpB κ (fun x y H Q => y = .non ∧ Q (.bl (decide (x = .non))) H) cIsN := fun x y dx dy z H G Q e s rx ry q => by
  cases dy <;> try (cases e; done)
  refine ⟨ry.non, ?_⟩
  rw [rx.isN]
  cases dx <;> (cases e; exact q)
theorem s_notN {κ : Kx} : OpB κ (fun x y H Q => y = .non ∧ Q (.bl (!decide (x = .non))) H) cNotN := fun x y dx dy z H G Q e s rx ry q => by
  cases dy <;> try (cases e; done)
  refine ⟨ry.non, ?_⟩
  rw [rx.isN]
  cases dx <;> (cases e; exact q)
/-- in: a sign in a text, a flat value in a list or a tuple -/
def D.fl : D → Bool
  | .non => true
  | .bl _ => true
  | .int _ => true
  | .str _ => true
  | _ => false
def D.feq : D → D → Bool
  | .non, .non => true
  | .bl a, .bl b => a == b
  | .bl a, .int b => (if a then 1 else 0) == b
  | .int a, .bl b => a == (if b then 1 else 0)
  | .int a, .int b => a == b
  | .str a, .str b => a == b
  | _, _ => false
def cIn : D → D → Option Bool
  | .str [c], .str w => some (decide (c ∈ w))
  | x, .lst l => if x.fl = true ∧ l.all D.fl = true then some (l.any fun y => y.feq x) else none
  | x, .tup l => if x.fl = true ∧ l.all D.fl = true then some (l.any fun y => y.feq x) else none
  | _, _ => none
def cNin : D → D → Option Bool := fun x y => match cIn x y with
  | some b => some (!b)
  | none => none
theorem Rp.flat {κ : Kx} {G : Hp} {v : V} {d : D} (r : Rp κ G v d) : flatV v = d.fl := by
  cases r <;> rfl
theorem Rp.feq {κ : Kx} {G : Hp} {v u : V} {d e : D} (r : Rp κ G v d) (q : Rp κ G u e) : eqV v u = d.feq e := by
  cases r <;> cases q <;> first
    | rfl
    | (rename_i a b
       show (S a == S b) = (a == b)
       rw [Bool.eq_iff_iff]
       simp only [beq_iff_eq]
       exact ⟨S_inj, fun z => by rw [z]⟩)
theorem RpA.fl {κ : Kx} {G : Hp} : ∀ {vs : List V} {ds : List D}, RpA κ G vs ds → vs.all flatV = ds.all D.fl
  | _, _, .nil => rfl
  | _, _, .cons r t => by rw [List.all_cons, List.all_cons, r.flat, RpA.fl t]
theorem RpA.any {κ : Kx} {G : Hp} {x : V} {dx : D} (rx : Rp κ G x dx) : ∀ {vs : List V} {ds : List D}, RpA κ G vs ds → inV x vs = ds.any fun y => y.feq dx
  | _, _, .nil => rfl
  | _, _, .cons r t => by
    have ih := RpA.any rx t
    unfold inV at ih ⊢
    rw [List.any_cons, List.any_cons, r.feq rx, ih]
def rInA (κ : Kx) (neg : Bool) : R2 := fun x y H Q => (∃ (c : Nat) (z : Str), x = .str ⟨#[c]⟩ ∧ y = .str z ∧ Q (.bl (if neg then !decide (c ∈ z.cps.toList) else decide (c ∈ z.cps.toList))) H) ∨ rIn κ.K neg x y H Q
theorem o_nin {X : Cx} {κ : Kx} (hK : X.K = κ.K) : OpR X (compareOp .NotIn) (rInA κ true) := by
  unfold rInA
  rw [← hK]
  exact OpR.or op_notIn_sign op_notIn_seq
theorem RBq.rp {κ : Kx} {H G : Hp} {v : V} {d : D} (r : RBq κ H G v d) (f : d.fl = true) : Rp κ G v d := by
  rcases r with r | ⟨a, xs, l, rfl, rfl, _⟩
  · exact r
  · cases f
theorem inA {κ : Kx} {neg : Bool} {x y : V} {dx dy : D} {z : Bool} {H G : Hp} {Q : VK} (e : cIn dx dy = some z) (s : Same G H) (rx : RBq κ H G x dx) (ry : RBq κ H G y dy) (q : Q (.bl (if neg then !z else z)) H) : rInA κ neg x y H Q := by
  cases dy with
  | str w =>
    cases dx with
    | str a =>
      cases a with
      | nil => cases e
      | cons c r =>
        cases r with
        | nil =>
          cases e
          exact .inl ⟨c, S w, rx.str, ry.str, q⟩
        | cons => cases e
    | _ => cases e
  | lst l =>
    have e' : (if dx.fl = true ∧ l.all D.fl = true then some (l.any fun y => y.feq dx) else none) = some z := by
      cases dx with
      | str a => cases a with
        | nil => exact e
        | cons c r => cases r <;> exact e
      | _ => exact e
    by_cases h : dx.fl = true ∧ l.all D.fl = true
    · rw [if_pos h] at e'
      cases e'
      obtain ⟨a, xs, rfl, h1, h2⟩ := ry.lst s
      have rx' := rx.rp h.1
      refine .inr ⟨a, xs, rfl, .inl (SqL.of h1), by rw [rx'.flat]; exact h.1, by rw [h2.fl]; exact h.2, ?_⟩
      rw [h2.any rx']
      exact q
    · rw [if_neg h] at e'; cases e'
  | tup l =>
    have e' : (if dx.fl = true ∧ l.all D.fl = true then some (l.any fun y => y.feq dx) else none) = some z := by
      cases dx with
      | str a => cases a with
        | nil => exact e
        | cons c r => cases r <;> exact e
      | _ => exact e
    by_cases h : dx.fl = true ∧ l.all D.fl = true
    · rw [if_pos h] at e'
      cases e'
      obtain ⟨a, xs, rfl, h1, h2⟩ := ry.tup s
      have rx' := rx.rp h.1
      refine .inr ⟨a, xs, rfl, .inr (SqT.of h1), by rw [rx'.flat]; exact h.1, by rw [h2.fl]; exact h.2, ?_⟩
      rw [h2.any rx']
      exact q
    · rw [if_neg h] at e'; cases e'
  | _ =>
    cases dx with
    | str a => cases a with
      | nil => cases e
      | cons c r => cases r <;> cases e
    | _ => cases e
theorem s_nin {κ : Kx} : OpB κ (rInA κ true) cNin := fun x y dx dy z H G Q e s rx ry q => by
  unfold cNin at e
  cases h : cIn dx dy with
  | none => rw [h] at e; cases e
  | some b =>
    rw [h] at e
    cases e
    exact inA h s rx ry (by simpa using q)

/-! ### places, slices, lengths, displays -/
theorem atI_rp {κ : Kx} {G : Hp} {xs : List V} {l : List D} {i : Int} {d : D} (h : RpA κ G xs l) (e : atI l i = some d) : ∃ v, atI xs i = some v ∧ Rp κ G v d := by
  unfold atI at e ⊢
  rw [h.length]
  cases z : ixN l.length i with
  | none => rw [z] at e; cases e
  | some j =>
    rw [z] at e
    exact h.getD e
def opIx : D → D → Option D
  | .lst l, .int i => atI l i
  | .tup l, .int i => atI l i
  | .scr l, .int i => match atI l i with
    | some n => some (.int n)
    | none => none
  | .str w, .int i => if w.length ≤ szl then (match atI w i with
    | some c => some (.str [c])
    | none => none) else none
  | _, _ => none
theorem atI_map {α β : Type} (f : α → β) (l : List α) (i : Int) : atI (l.map f) i = (atI l i).map f := by
  unfold atI
  rw [List.length_map]
  cases ixN l.length i with
  | none => rfl
  | some j => simp
section
variable {X : Cx} {κ : Kx} {W : WX} {a b c : Expr} {ma mb mc : Sm D} {pos p2 : Pos}
theorem v_ix (hK : X.K = κ.K) (ha : PE X a (tX κ W (RB κ) ma)) (hb : PE X b (tX κ W (RB κ) mb)) (hs : PlainIx b) : PE X (.Subscript a b pos) (tX κ W (RP κ) (fOp opIx ma mb)) :=
  PE.imp (pe_ix (r := rIx κ.K) (by rw [← hK]; exact ix_seq) ha hb hs) fun σ H Q h => op_tr (fun x y dx dy z H G env e r rx ry q => by
    cases dx with
    | lst l =>
      cases dy <;> try (cases e; done)
      obtain ⟨p, xs, rfl, h1, h2⟩ := rx.lst r.sub
      obtain ⟨v, h3, h4⟩ := atI_rp h2 e
      exact .inl ⟨_, _, _, _, rfl, ry.int, SqL.of h1, h3, q v H G r h4 (Grw.refl _) Fr.refl⟩
    | tup l =>
      cases dy <;> try (cases e; done)
      obtain ⟨p, xs, rfl, h1, h2⟩ := rx.tup r.sub
      obtain ⟨v, h3, h4⟩ := atI_rp h2 e
      exact .inr (.inl ⟨_, _, _, _, rfl, ry.int, SqT.of h1, h3, q v H G r h4 (Grw.refl _) Fr.refl⟩)
    | scr l =>
      cases dy <;> try (cases e; done)
      rename_i i
      obtain ⟨p, rfl, h1⟩ := rx.scr r.sub
      dsimp only [opIx] at e
      cases w : atI l i with
      | none => rw [w] at e; cases e
      | some n =>
        rw [w] at e
        cases e
        exact .inl ⟨_, _, _, _, rfl, ry.int, h1, by rw [atI_map, w]; rfl, q _ H G r (.int n) (Grw.refl _) Fr.refl⟩
    | str t =>
      cases dy <;> try (cases e; done)
      rename_i i
      dsimp only [opIx] at e
      by_cases hl : t.length ≤ szl
      · rw [if_pos hl] at e
        cases w : atI t i with
        | none => rw [w] at e; cases e
        | some c =>
          rw [w] at e
          cases e
          exact .inr (.inr ⟨S t, i, c, rx.str, ry.int, by rw [S_len]; exact szl_le hl, w, q _ H G r (.str [c]) (Grw.refl _) Fr.refl⟩)
      · rw [if_neg hl] at e; cases e
    | _ => cases dy <;> cases e) h
/-- a part of a slice -/
def ROi : Rl (Option Int) (Option Int) := fun _ _ _ _ _ o p => o = p
instance : RlMono ROi := ⟨fun _ q => q⟩
def poN : Sm (Option Int) := fun e => some (.ok none e)
def poS (m : Sm D) : Sm (Option Int) := bnd m fun d e => match d with
  | .int i => some (.ok (some i) e)
  | _ => none
theorem po_imp {e : Option Expr} {t t' : TO} (h : PO X e t) (k : ∀ σ H Q, t' σ H Q → t σ H Q) : PO X e t' := ⟨fun pins s σ H Q I q => h.run pins s σ H Q I (k σ H Q q)⟩
theorem o_none : PO X none (tX κ W ROi poN) := po_imp po_none fun σ H Q ⟨G, env, r, q⟩ => q none H G r rfl (Grw.refl _) Fr.refl
theorem o_some (h : PE X a (tX κ W (RB κ) ma)) : PO X (some a) (tX κ W ROi (poS ma)) := po_imp (po_some h) fun σ H Q ⟨G, env, r, q⟩ =>
  bind_post r q fun d e1 v H1 G1 _ r1 rv s1 f1 q1 => by
    cases d <;> try (cases q1; done)
    exact ⟨_, RBq.int rv, q1 _ H1 G1 r1 rfl (Grw.refl _) Fr.refl⟩
def cutL {α : Type} (l : List α) (lo hi : Option Int) : List α := (l.drop (HT.sIx l.length 0 lo)).take (HT.sIx l.length l.length hi - HT.sIx l.length 0 lo)
def opSl : D → Option Int → Option Int → Option Rs
  | .str w, lo, hi => if w.length ≤ szl then some (.sh (.str (cutL w lo hi))) else none
  | .lst l, lo, hi => some (.ow (cutL l lo hi))
  | .scr l, lo, hi => some (.ow ((cutL l lo hi).map D.int))
  | .tup l, lo, hi => if HT.sIx l.length 0 lo = 0 ∧ HT.sIx l.length l.length hi = l.length then none else some (.sh (.tup (cutL l lo hi)))
  | _, _, _ => none
def fSl (m : Sm D) (lo hi : Sm (Option Int)) : Sm Rs := bnd m fun d => bnd lo fun i => bnd hi fun j e => match opSl d i j with
  | some z => some (.ok z e)
  | none => none
theorem v_sl {lo hi : Option Expr} {ml mh : Sm (Option Int)} (hK : X.K = κ.K) (ha : PE X a (tX κ W (RB κ) ma)) (hl : PO X lo (tX κ W ROi ml)) (hh : PO X hi (tX κ W ROi mh)) :
    PE X (.Subscript a (.Slice lo hi none p2) pos) (tX κ W (RV κ) (fSl ma ml mh)) :=
  PE.imp (pe_slice (r := fun x lo hi H Q => rSlS x lo hi H Q ∨ rSlL κ.K x lo hi H Q ∨ rSlT κ.K x lo hi H Q) (by rw [← hK]; exact SlR.or sl_str (SlR.or sl_list sl_tup)) ha hl hh) fun σ H Q ⟨G, env, r, q⟩ => by
    refine bind_post r q fun d e1 x H1 G1 _ r1 rx s1 f1 q1 => ?_
    refine bind_post r1 q1 fun i e2 i' H2 G2 _ r2 ri s2 f2 q2 => ?_
    refine bind_post r2 q2 fun j e3 j' H3 G3 _ r3 rj s3 f3 q3 => ?_
    cases ri
    cases rj
    have rx3 := RBq.mono (s2.trans s3) (f2.gk.trans f3.gk) rx
    cases d with
    | str w =>
      dsimp only [opSl] at q3
      by_cases h : w.length ≤ szl
      · rw [if_pos h] at q3
        exact .inl ⟨S w, rx3.str, by rw [S_len]; exact szl_le h, post_sh r3 (show Rp κ G3 (.str (cutS (S w) i j)) (.str (cutL w i j)) by
          have e : cutS (S w) i j = S (cutL w i j) := by
            unfold cutS cutL S
            rfl
          rw [e]; exact .str _) q3⟩
      · rw [if_neg h] at q3; exact q3.elim
    | lst l =>
      obtain ⟨p, xs, rfl, h1, h2⟩ := rx3.lst r3.sub
      refine .inr (.inl ⟨p, xs, rfl, SqL.of h1, fun p' hp => ?_⟩)
      have e : RpA κ G3 (cutV xs i j) (cutL l i j) := by
        unfold cutV cutL
        rw [h2.length]
        exact (h2.drop _).take _
      exact post_ow r3 hp e q3
    | scr l =>
      obtain ⟨p, rfl, h1⟩ := rx3.scr r3.sub
      refine .inr (.inl ⟨p, _, rfl, h1, fun p' hp => ?_⟩)
      have e : RpA κ G3 (cutV (l.map V.int) i j) ((cutL l i j).map D.int) := by
        have e2 : cutV (l.map V.int) i j = (cutL l i j).map V.int := by
          unfold cutV cutL
          rw [List.length_map, List.map_take, List.map_drop]
        rw [e2]
        exact RpA.ints _
      exact post_ow r3 hp e q3
    | tup l =>
      dsimp only [opSl] at q3
      by_cases h : HT.sIx l.length 0 i = 0 ∧ HT.sIx l.length l.length j = l.length
      · rw [if_pos h] at q3; exact q3.elim
      · rw [if_neg h] at q3
        obtain ⟨p, xs, rfl, h1, h2⟩ := rx3.tup r3.sub
        refine .inr (.inr ⟨p, xs, rfl, SqT.of h1, by rw [h2.length]; exact h, fun p' hp => ?_⟩)
        have e : RpA κ G3 (cutV xs i j) (cutL l i j) := by
          unfold cutV cutL
          rw [h2.length]
          exact (h2.drop _).take _
        exact post_tup r3 hp e q3
    | _ => exact q3.elim
end
/-! ### arguments -/
def aNil : Sm (List D) := fun e => some (.ok [] e)
def aCons (m : Sm D) (ms : Sm (List D)) : Sm (List D) := bnd m fun d => bnd ms fun ds e => some (.ok (d :: ds) e)
theorem RBs.mono {κ : Kx} {H G H' G' : Hp} (h : Grw H H') (g : Same G G') : ∀ {ms : List Bool} {vs : List V} {ds : List D}, RBs κ H G ms vs ds → RBs κ H' G' ms vs ds
  | _, _, _, .nil => .nil
  | _, _, _, .sh r t => .sh (r.mono g) (RBs.mono h g t)
  | _, _, _, .bo r t => .bo (RBq.mono h g r) (RBs.mono h g t)
section
variable {X : Cx} {κ : Kx} {W : WX} {a b c : Expr} {ma mb mc : Sm D} {es : List Expr} {ms : List Bool} {mr : Sm (List D)} {pos p2 : Pos}
theorem a_nil : PA X [] (tX κ W (RA κ []) aNil) := PA.imp pa_nil fun σ H Q ⟨G, env, r, q⟩ => q [] H G r .nil (Grw.refl _) Fr.refl
theorem a_bo (ha : PE X a (tX κ W (RB κ) ma)) (hr : PA X es (tX κ W (RA κ ms) mr)) (hs : starEach (a :: es) X.env = (false, eval a X.env) :: starEach es X.env := by rfl) : PA X (a :: es) (tX κ W (RA κ (true :: ms)) (aCons ma mr)) :=
  PA.imp (pa_cons ha hr hs) fun σ H Q ⟨G, env, r, q⟩ => by
    refine bind_post r q fun d e1 x H1 G1 _ r1 rx s1 f1 q1 => ?_
    refine bind_post r1 q1 fun ds e2 vs H2 G2 _ r2 rs s2 f2 q2 => ?_
    exact q2 (x :: vs) H2 G2 r2 (.bo (RBq.mono s2 f2.gk rx) rs) (Grw.refl _) Fr.refl
theorem a_sh (ha : PE X a (tX κ W (RP κ) ma)) (hr : PA X es (tX κ W (RA κ ms) mr)) (hs : starEach (a :: es) X.env = (false, eval a X.env) :: starEach es X.env := by rfl) : PA X (a :: es) (tX κ W (RA κ (false :: ms)) (aCons ma mr)) :=
  PA.imp (pa_cons ha hr hs) fun σ H Q ⟨G, env, r, q⟩ => by
    refine bind_post r q fun d e1 x H1 G1 _ r1 rx s1 f1 q1 => ?_
    refine bind_post r1 q1 fun ds e2 vs H2 G2 _ r2 rs s2 f2 q2 => ?_
    exact q2 (x :: vs) H2 G2 r2 (.sh (Rp.mono f2.gk rx) rs) (Grw.refl _) Fr.refl
/-- all given away -/
def allSh : List Bool → Bool
  | [] => true
  | b :: r => !b && allSh r
theorem RBs.all : ∀ {ms : List Bool} {vs : List V} {ds : List D} {H G : Hp}, allSh ms = true → RBs κ H G ms vs ds → RpA κ G vs ds
  | _, _, _, _, _, _, .nil => .nil
  | _, _, _, _, _, h, .sh r t => .cons r (RBs.all (by simpa [allSh] using h) t)
  | _, _, _, _, _, h, .bo r t => by simp [allSh] at h
def fLst (m : Sm (List D)) : Sm Rs := bnd m fun l e => if l.length ≤ szl then some (.ok (.ow l) e) else none
def fTup (m : Sm (List D)) : Sm D := bnd m fun l e => if l.length ≤ szl then some (.ok (.tup l) e) else none
theorem v_lst (hm : allSh ms = true) (h : PA X es (tX κ W (RA κ ms) mr)) : PE X (.List es pos) (tX κ W (RV κ) (fLst mr)) := PE.imp (pe_lst h) fun σ H Q ⟨G, env, r, q⟩ => by
  refine bind_post r q fun l e1 vs H1 G1 _ r1 rx s1 f1 q1 => ?_
  by_cases hl : l.length ≤ szl
  · rw [if_pos hl] at q1
    have ra := RBs.all hm rx
    exact ⟨by rw [ra.length]; exact szl_le hl, fun p hp => post_ow r1 hp ra q1⟩
  · rw [if_neg hl] at q1; exact q1.elim
theorem v_tup {x1 : Nat} (hm : allSh ms = true) (h : PA X es (tX κ W (RA κ ms) mr)) : PE X (.Tuple es x1 pos) (tX κ W (RP κ) (fTup mr)) := PE.imp (pe_tup h) fun σ H Q ⟨G, env, r, q⟩ => by
  refine bind_post r q fun l e1 vs H1 G1 _ r1 rx s1 f1 q1 => ?_
  by_cases hl : l.length ≤ szl
  · rw [if_pos hl] at q1
    have ra := RBs.all hm rx
    refine ⟨by rw [ra.length]; exact szl_le hl, fun p hp => ?_⟩
    have s := new_sh (o := .tup vs) r1 hp
    exact q1 _ _ _ s.rep (.tup upd_same (ra.mono (same_new (Same.none r1.sub hp)))) s.same s.fr
  · rw [if_neg hl] at q1; exact q1.elim
/-! ### built-ins by name -/
/-- a call on values serves its function -/
def ClV (κ : Kx) (ms : List Bool) (r : List V → Hp → VK → Prop) (f : List D → Option Rs) : Prop := ∀ (W : WX) (σ : L2.St) (vs : List V) (ds : List D) (z : Rs) (H : Hp) (G : Gh) (env : En) (Q : VK), f ds = some z → Rep κ H G σ env → RBs κ H G ms vs ds → EPost κ W (RV κ) σ H G env (some (.ok z env)) Q → r vs H Q
def fCl (f : List D → Option Rs) (m : Sm (List D)) : Sm Rs := bnd m fun ds e => match f ds with
  | some z => some (.ok z e)
  | none => none
theorem cl_tr {r : List V → Hp → VK → Prop} {f : List D → Option Rs} (hs : ClV κ ms r f) {σ : L2.St} {H : Hp} {Q : VK} (h : tX κ W (RV κ) (fCl f mr) σ H Q) : tCB r (tX κ W (RA κ ms) mr) σ H Q := by
  obtain ⟨G, env, rp, q⟩ := h
  refine bind_post rp q fun ds e1 vs H1 G1 _ r1 rx s1 f1 q1 => ?_
  cases z : f ds with
  | none => rw [z] at q1; exact q1.elim
  | some w => rw [z] at q1; exact hs W σ vs ds w H1 G1 e1 Q z r1 rx q1
theorem v_callB {r : List V → Hp → VK → Prop} {f : List D → Option Rs} {id : String} {x : Str} {p : Pos} (hc : CallR X (.builtin id) r) (hs : ClV κ ms r f) (hg : Gl X x) (hm : X.mg x = none) (hv : bootBuiltins x = some (.builtin id)) (ha : PA X (a :: es) (tX κ W (RA κ ms) mr))
    (hn : x ≠ "__name__" := by decide) (hdb : (x == ("__debug__" : Str)) = false := by decide) (he : starEach (a :: es) X.env = (false, eval a X.env) :: starEach es X.env := by rfl) (hpl : (backTo pos (starEach es X.env)).any (·.1) = false := by rfl) :
    PE X (.Call (.Name x p) (a :: es) [] pos) (tX κ W (RV κ) (fCl f mr)) := PE.imp (pe_callB hc hg hm hv ha hn hdb he hpl) fun σ H Q h => cl_tr hs h
theorem v_callTy {r : List V → Hp → VK → Prop} {f : List D → Option Rs} {T : String} {x : Str} {p : Pos} (hc : CallR X (.type T) r) (hs : ClV κ ms r f) (hg : Gl X x) (hm : X.mg x = none) (hv : bootBuiltins x = some (.type T)) (ha : PA X (a :: es) (tX κ W (RA κ ms) mr))
    (hn : x ≠ "__name__" := by decide) (hdb : (x == ("__debug__" : Str)) = false := by decide) (he : starEach (a :: es) X.env = (false, eval a X.env) :: starEach es X.env := by rfl) (hpl : (backTo pos (starEach es X.env)).any (·.1) = false := by rfl) :
    PE X (.Call (.Name x p) (a :: es) [] pos) (tX κ W (RV κ) (fCl f mr)) := PE.imp (pe_callTy hc hg hm hv ha hn hdb he hpl) fun σ H Q h => cl_tr hs h
end
theorem RBs.one {κ : Kx} {H G : Hp} {vs : List V} {d : D} (r : RBs κ H G [true] vs [d]) : ∃ v, vs = [v] ∧ RBq κ H G v d := by
  cases r with
  | bo r t => cases t; exact ⟨_, rfl, r⟩
theorem RBs.two {κ : Kx} {H G : Hp} {vs : List V} {d e : D} (r : RBs κ H G [true, true] vs [d, e]) : ∃ v u, vs = [v, u] ∧ RBq κ H G v d ∧ RBq κ H G u e := by
  cases r with
  | bo r t =>
    cases t with
    | bo r2 t2 => cases t2; exact ⟨_, _, rfl, r, r2⟩
def lenD : D → Option Nat
  | .str w => if w.length ≤ szl then some w.length else none
  | .lst l => some l.length
  | .tup l => some l.length
  | .scr l => some l.length
  | _ => none
def opLen : List D → Option Rs
  | [d] => match lenD d with
    | some n => some (.sh (.int n))
    | none => none
  | _ => none
theorem s_len {κ : Kx} : ClV κ [true] (fun xs H Q => ∃ x n, xs = [x] ∧ LenV κ.K x H n ∧ Q (.int n) H) opLen := fun W σ vs ds z H G env Q e r rx q => by
  cases ds with
  | nil => cases e
  | cons d t =>
    cases t with
    | cons _ _ => cases e
    | nil =>
      obtain ⟨v, rfl, rv⟩ := RBs.one rx
      dsimp only [opLen] at e
      cases w : lenD d with
      | none => rw [w] at e; cases e
      | some n =>
        rw [w] at e
        cases e
        refine ⟨v, n, rfl, ?_, post_sh r (.int _) q⟩
        cases d <;> try (cases w; done)
        · rename_i t
          dsimp only [lenD] at w
          by_cases h : t.length ≤ szl
          · rw [if_pos h] at w
            cases w
            rw [rv.str]
            exact ⟨by rw [S_len]; exact szl_le h, (S_len _).symm⟩
          · rw [if_neg h] at w; cases w
        · cases w
          obtain ⟨p, xs, rfl, h1, h2⟩ := rv.lst r.sub
          exact .inl ⟨xs, SqL.of h1, h2.length.symm⟩
        · cases w
          obtain ⟨p, xs, rfl, h1, h2⟩ := rv.tup r.sub
          exact .inr ⟨xs, SqT.of h1, h2.length.symm⟩
        · cases w
          obtain ⟨p, rfl, h1⟩ := rv.scr r.sub
          exact .inl ⟨_, h1, by rw [List.length_map]⟩
def opList : List D → Option Rs
  | [.lst l] => some (.ow l)
  | [.tup l] => some (.ow l)
  | [.scr l] => some (.ow (l.map D.int))
  | _ => none
def opMin : List D → Option Rs
  | [.int i, .int j] => some (.sh (.int (if j < i then j else i)))
  | _ => none
def opMax : List D → Option Rs
  | [.int i, .int j] => some (.sh (.int (if j > i then j else i)))
  | _ => none
def opStr : List D → Option Rs
  | [.int i] => if i.natAbs.log2 < 1920 then some (.sh (.str (toString i : Str).cps.toList)) else none
  | _ => none
theorem s_str {κ : Kx} : ClV κ [true] (fun xs H Q => ∃ i, xs = [.int i] ∧ i.natAbs.log2 < 1920 ∧ Q (.str (toString i)) H) opStr := fun W σ vs ds z H G env Q e r rx q => by
  cases ds with
  | nil => cases e
  | cons d t =>
    cases t with
    | cons _ _ => cases d <;> cases e
    | nil =>
      obtain ⟨v, rfl, rv⟩ := RBs.one rx
      cases d <;> try (cases e; done)
      rename_i i
      dsimp only [opStr] at e
      by_cases h : i.natAbs.log2 < 1920
      · rw [if_pos h] at e
        cases e
        refine ⟨i, by rw [rv.int], h, post_sh r ?_ q⟩
        have := Rp.str (κ := κ) (G := G) (toString i : Str).cps.toList
        rw [S_list] at this
        exact this
      · rw [if_neg h] at e; cases e
def allInts : List D → Option (List Int)
  | [] => some []
  | .int i :: r => match allInts r with
    | some l => some (i :: l)
    | none => none
  | _ :: _ => none
def opSum : List D → Option Rs
  | [.lst l] => match allInts l with
    | some ns => some (.sh (.int ns.sum))
    | none => none
  | _ => none
/-! ### tests -/
def truD : D → Option Bool
  | .non => some false
  | .bl b => some b
  | .int i => some (i != 0)
  | .str w => if w.length ≤ szl then some (!w.isEmpty) else none
  | .lst l => some (!l.isEmpty)
  | .tup l => some (!l.isEmpty)
  | _ => none
def fTru (m : Sm D) : Sm Bool := bnd m fun d e => match truD d with
  | some b => some (.ok b e)
  | none => none
theorem RpA.emp {κ : Kx} {G : Hp} {xs : List V} {l : List D} (h : RpA κ G xs l) : xs.isEmpty = l.isEmpty := by cases h <;> rfl
theorem tru_of {κ : Kx} {H G : Hp} {v : V} {d : D} {b : Bool} (s : Same G H) (r : RBq κ H G v d) (e : truD d = some b) : TruV κ.K v H b := by
  cases d with
  | non => cases e; rw [r.non]; rfl
  | bl c => cases e; rw [r.bl]; rfl
  | int i => cases e; rw [r.int]; rfl
  | str w =>
    dsimp only [truD] at e
    by_cases h : w.length ≤ szl
    · rw [if_pos h] at e
      cases e
      rw [r.str]
      refine ⟨by rw [S_len]; exact szl_le h, ?_⟩
      rw [S_len]
      cases w <;> simp
      omega
    · rw [if_neg h] at e; cases e
  | lst l =>
    cases e
    obtain ⟨a, xs, rfl, h1, h2⟩ := r.lst s
    exact .inl ⟨xs, SqL.of h1, by rw [h2.emp]⟩
  | tup l =>
    cases e
    obtain ⟨a, xs, rfl, h1, h2⟩ := r.tup s
    exact .inr (.inl ⟨xs, SqT.of h1, by rw [h2.emp]⟩)
  | ob c l => cases e
  | scr l => cases e
  | xn o x => cases e
def fNot (m : Sm Bool) : Sm Bool := bnd m fun b e => some (.ok (!b) e)
def fAnd (m n : Sm Bool) : Sm Bool := bnd m fun b e => match b with
  | true => n e
  | false => some (.ok false e)
def fOr (m n : Sm Bool) : Sm Bool := bnd m fun b e => match b with
  | true => some (.ok true e)
  | false => n e
def fIf {α : Type} (t : Sm Bool) (m n : Sm α) : Sm α := bnd t fun b e => match b with
  | true => m e
  | false => n e
def fBl (m : Sm D) : Sm Bool := bnd m fun d e => match d with
  | .bl b => some (.ok b e)
  | _ => none
def fNotV (m : Sm D) : Sm D := bnd m fun d e => match d with
  | .bl b => some (.ok (.bl (!b)) e)
  | _ => none
def fAndV (m n : Sm D) : Sm D := bnd m fun d e => match d with
  | .bl true => n e
  | .bl false => some (.ok (.bl false) e)
  | _ => none
def fOrV (m n : Sm D) : Sm D := bnd m fun d e => match d with
  | .bl true => some (.ok (.bl true) e)
  | .bl false => n e
  | _ => none
section
variable {X : Cx} {κ : Kx} {W : WX} {a b c : Expr} {ma mb mc : Sm D} {mt mu : Sm Bool} {rest : List Expr} {pos : Pos}
theorem t_tru (hK : X.K = κ.K) (ha : PE X a (tX κ W (RB κ) ma)) (he : ∀ whole, isTrue a X.env whole = (do let v ← whole; standAt a.pos; holding [v] (truthy v)) := by intro _; rfl) : PT X a (tX κ W RT (fTru ma)) :=
  PT.imp (pt_truth ha he) fun σ H Q ⟨G, env, r, q⟩ => bind_post r q fun d e1 v H1 G1 em r1 rv s1 f1 q1 => by
    cases w : truD d with
    | none => rw [w] at q1; exact q1.elim
    | some b =>
      rw [w] at q1
      exact ⟨b, by rw [hK]; exact tru_of r1.sub rv w, post_tt r1 q1⟩
theorem t_not (ha : PT X a (tX κ W RT mt)) : PT X (.UnaryOp .Not a pos) (tX κ W RT (fNot mt)) := PT.imp (pt_not ha) fun σ H Q ⟨G, env, r, q⟩ => bind_post r q fun d e1 v H1 G1 em r1 rv s1 f1 q1 => by
  cases rv
  exact post_tt r1 q1
theorem w_and1 (ha : PT X a (tX κ W RT mt)) : PW X (.BoolOp .And [a] pos) (tX κ W RT mt) := pw_and1 ha
theorem w_or1 (ha : PT X a (tX κ W RT mt)) : PW X (.BoolOp .Or [a] pos) (tX κ W RT mt) := pw_or1 ha
theorem w_and (ha : PT X a (tX κ W RT mt)) (hb : PW X (.BoolOp .And (b :: rest) pos) (tX κ W RT mu)) : PW X (.BoolOp .And (a :: b :: rest) pos) (tX κ W RT (fAnd mt mu)) := PW.imp (pw_and ha hb) fun σ H Q ⟨G, env, r, q⟩ => bind_post r q fun d e1 v H1 G1 em r1 rv s1 f1 q1 => by
  cases rv
  cases d with
  | true => exact ⟨G1, e1, r1, q1⟩
  | false => exact post_tt r1 q1
theorem w_or (ha : PT X a (tX κ W RT mt)) (hb : PW X (.BoolOp .Or (b :: rest) pos) (tX κ W RT mu)) : PW X (.BoolOp .Or (a :: b :: rest) pos) (tX κ W RT (fOr mt mu)) := PW.imp (pw_or ha hb) fun σ H Q ⟨G, env, r, q⟩ => bind_post r q fun d e1 v H1 G1 em r1 rv s1 f1 q1 => by
  cases rv
  cases d with
  | false => exact ⟨G1, e1, r1, q1⟩
  | true => exact post_tt r1 q1
theorem v_if (ht : PT X c (tX κ W RT mt)) (ha : PE X a (tX κ W (RP κ) ma)) (hb : PE X b (tX κ W (RP κ) mb)) : PE X (.IfExp c a b pos) (tX κ W (RP κ) (fIf mt ma mb)) := PE.imp (pe_ifExp ht ha hb) fun σ H Q ⟨G, env, r, q⟩ => bind_post r q fun d e1 v H1 G1 em r1 rv s1 f1 q1 => by
  cases rv
  cases d with
  | true => exact ⟨G1, e1, r1, q1⟩
  | false => exact ⟨G1, e1, r1, q1⟩
theorem v_one {op : BoolOp} (h : PE X a (tX κ W (RP κ) ma)) : PE X (.BoolOp op [a] pos) (tX κ W (RP κ) ma) := pe_one h
theorem v_and (ha : PE X a (tX κ W (RP κ) ma)) (hb : PE X (.BoolOp .And (b :: rest) pos) (tX κ W (RP κ) mb)) : PE X (.BoolOp .And (a :: b :: rest) pos) (tX κ W (RP κ) (fAndV ma mb)) := PE.imp (pe_and ha hb) fun σ H Q ⟨G, env, r, q⟩ => bind_post r q fun d e1 v H1 G1 em r1 rv s1 f1 q1 => by
  cases d <;> try (cases q1; done)
  cases rv
  rename_i k
  refine ⟨k, rfl, ?_⟩
  cases k with
  | true => exact ⟨G1, e1, r1, q1⟩
  | false => exact q1 _ H1 G1 r1 (.bl false) (Grw.refl _) Fr.refl
theorem v_or (ha : PE X a (tX κ W (RP κ) ma)) (hb : PE X (.BoolOp .Or (b :: rest) pos) (tX κ W (RP κ) mb)) : PE X (.BoolOp .Or (a :: b :: rest) pos) (tX κ W (RP κ) (fOrV ma mb)) := PE.imp (pe_or ha hb) fun σ H Q ⟨G, env, r, q⟩ => bind_post r q fun d e1 v H1 G1 em r1 rv s1 f1 q1 => by
  cases d <;> try (cases q1; done)
  cases rv
  rename_i k
  refine ⟨k, rfl, ?_⟩
  cases k with
  | false => exact ⟨G1, e1, r1, q1⟩
  | true => exact q1 _ H1 G1 r1 (.bl true) (Grw.refl _) Fr.refl
theorem v_not (ha : PE X a (tX κ W (RP κ) ma)) : PE X (.UnaryOp .Not a pos) (tX κ W (RP κ) (fNotV ma)) := PE.imp (pe_not ha) fun σ H Q ⟨G, env, r, q⟩ => bind_post r q fun d e1 v H1 G1 em r1 rv s1 f1 q1 => by
  cases d <;> try (cases q1; done)
  cases rv
  rename_i k
  exact ⟨k, rfl, q1 _ H1 G1 r1 (.bl _) (Grw.refl _) Fr.refl⟩
def fNeg (m : Sm D) : Sm D := bnd m fun d e => match d with
  | .int i => some (.ok (.int (-i)) e)
  | _ => none
theorem v_neg (ha : PE X a (tX κ W (RP κ) ma)) : PE X (.UnaryOp .USub a pos) (tX κ W (RP κ) (fNeg ma)) := PE.imp (pe_un un_neg ha) fun σ H Q ⟨G, env, r, q⟩ => bind_post r q fun d e1 v H1 G1 em r1 rv s1 f1 q1 => by
  cases d <;> try (cases q1; done)
  cases rv
  exact ⟨_, rfl, q1 _ H1 G1 r1 (.int _) (Grw.refl _) Fr.refl⟩
end
/-! ### slots stored -/
def Rs.sl : Rs → Sl
  | .sh d => .sh d
  | .ow l => .ow l
  | .tr o => .tr o
/-- what is stored at slot i from here on -/
theorem put_all {κ : Kx} {σ : L2.St} {H H0 : Hp} {G G0 : Gh} {env env0 : En} {σ0 : L2.St} {v : V} (r : Rep κ H G σ env) {i : Nat} (hi : i < env.length) {z : Rs} (h : RV κ σ (Nw H0 G0 env0) H G env v z) (f : Fr H0 G0 σ0 env0 H G σ env) :
    ∃ G', Rep κ H G' (σ.set i (some v)) (env.set i z.sl) ∧ Fr H0 G0 σ0 env0 H G' (σ.set i (some v)) (env.set i z.sl) := by
  have e0 : env[i]? = some env[i] := List.getElem?_eq_getElem hi
  have go : ∀ {F : List Addr} {s : Sl}, s.fix = false → RSl κ H G (some (some v)) F s → (∀ a, a ∈ F → Fre G env a ∧ Nw H0 G0 env0 a) →
      ∃ G', Rep κ H G' (σ.set i (some v)) (env.set i s) ∧ Fr H0 G0 σ0 env0 H G' (σ.set i (some v)) (env.set i s) := fun {F s} nf hs hF => by
    have re := r.re (s := s) (F := F) (H' := H) (g' := G.g) (x := some v) hi r.sub (Same.refl _) hs (fun _ _ _ _ _ _ _ h => h) (fun j a w ow => (r.own ow).2) fun a m j t w e => (hF a m).1 j t e
    refine ⟨_, re, f.hk, f.gk, f.gn, fun a o e m => ?_, fun j t q e => ?_⟩
    · obtain ⟨j, t, e1, hm, m⟩ := m
      have m1 : a ∈ (G.put i F).fp j := m
      rcases set_look e1 with ⟨rfl, rfl⟩ | ⟨w, e2⟩
      · rw [put_at] at m1
        exact (hF a m1).2 o e
      · rw [put_ne w] at m1
        exact f.mm a o e ⟨j, t, e2, hm, m1⟩
    · rcases set_look e with ⟨rfl, rfl⟩ | ⟨w, e2⟩
      · rw [nf] at q; cases q
      · obtain ⟨s0, q1, q2, q3, q4⟩ := f.lk j t q e2
        refine ⟨s0, q1, q2, by rw [List.getElem?_set_ne w]; exact q3, fun y1 y2 => ?_⟩
        show (G.put i F).fp j = _
        rw [put_ne w]
        exact q4 y1 y2
  cases z with
  | sh d => exact go (F := []) (s := .sh d) rfl ⟨rfl, v, rfl, h⟩ fun a m => by cases m
  | ow l =>
    obtain ⟨a, xs, rfl, h2, h3, h4, h5, h6⟩ := h
    exact go (F := [a]) (s := .ow l) rfl ⟨_, rfl, .ls h2 h3 h4⟩ fun b m => by rw [List.mem_singleton.mp m]; exact ⟨h5, h6⟩
  | tr o =>
    obtain ⟨F, ro, h⟩ := h
    exact go (F := F) (s := .tr o) rfl ⟨_, rfl, ro⟩ h
/-! ### statements -/
def sNil : Ss := fun e => some (.nx e)
def sSeq (m n : Ss) : Ss := fun e => match m e with
  | some (.nx e1) => n e1
  | o => o
def sDrop (m : Sm Rs) : Ss := sbnd m fun _ e => some (.nx e)
def sAsg (i : Nat) (m : Sm Rs) : Ss := sbnd m fun r e => if i < e.length then some (.nx (e.set i r.sl)) else none
def sRet (m : Sm Rs) : Ss := sbnd m fun r _ => some (.rt r)
/-- .. where a thing was handed in to be changed -/
def sRetI (m : Sm Rs) : Ss := sbnd m fun r e => some (.rv r e)
def sRetV (i : Nat) : Ss := fun e => match e[i]? with
  | some (.sh d) => some (.rt (.sh d))
  | some (.ow l) => some (.rt (.ow l))
  | some (.tr o) => some (.rt (.tr o))
  | _ => none
def sRetN : Ss := fun _ => some (.rt (.sh .non))
def sRetNI : Ss := fun e => some (.rv (.sh .non) e)
def sIf (t : Sm Bool) (m n : Ss) : Ss := sbnd t fun b e => match b with
  | true => m e
  | false => n e
def sBrk : Ss := fun e => some (.bk e)
def sCnt : Ss := fun e => some (.ct e)
section
variable {X : Cx} {κ : Kx} {W : WX} {a b c e : Expr} {st : Stmt} {sts su : List Stmt} {m n : Ss} {mr : Sm Rs} {md : Sm D} {mt : Sm Bool} {pos pos' : Pos}
theorem s_nil : PSs X [] (tS κ W sNil) := PSs.imp pss_nil fun D σ H ⟨G, env, r, q⟩ => q σ H G r Fr.refl
theorem s_cons (h1 : PS X st (tS κ W m)) (h2 : PSs X sts (tS κ W n)) : PSs X (st :: sts) (tS κ W (sSeq m n)) := PSs.imp (pss_cons h1 h2) fun D σ H ⟨G, env, r, q⟩ => by
  refine ⟨G, env, r, ?_⟩
  unfold sSeq at q
  cases z : m env with
  | none => rw [z] at q; exact q
  | some o => cases o with
    | nx e1 =>
      rw [z] at q
      exact fun σ' H' G' r' f => ⟨G', e1, r', SPost.shift f q⟩
    | bk e1 => rw [z] at q; exact q
    | ct e1 => rw [z] at q; exact q
    | rt r1 => rw [z] at q; exact q
    | rv r1 e1 => rw [z] at q; exact q
    | ex x e1 => rw [z] at q; exact q
theorem s_one (h1 : PS X st (tS κ W m)) : PSs X [st] (tS κ W m) := pss_one h1
theorem s_asgI {i : Nat} {x : Str} (hN : X.N.Nodup) (hi : X.N[i]? = some x) (hx : Loc X.env.scope x) (h : PE X e (tI κ W (RV κ) mr)) (hs : swapsWith e (some (.Name x pos')) pos.line X.env = pure false := by rfl)
    (hf : X.fn x = true ∨ X.env.scope.names.lookup x = some .local := by first | exact .inl rfl | exact .inr rfl | assumption) : PS X (.Assign [.Name x pos'] e pos) (tS κ W (sAsg i mr)) := PS.imp (ps_set hN hi hx h hs hf) fun D σ H ⟨G, env, r, q⟩ => by
  refine ⟨G, env, r, ?_⟩
  unfold sAsg sbnd at q
  cases w : mr env with
  | none => rw [w] at q; exact q
  | some o => cases o with
    | ex x e1 =>
      rw [w] at q
      exact fun c d H' G' a b g => q c d σ H' G' a b g
    | ok z e1 =>
      rw [w] at q
      intro v H1 G1 r1 rv f1
      by_cases hl : i < e1.length
      · dsimp only at q
        rw [if_pos hl] at q
        obtain ⟨G2, r2, f2⟩ := put_all r1 hl rv f1
        exact q _ H1 G2 r2 f2
      · dsimp only at q
        rw [if_neg hl] at q; exact q.elim
theorem s_asg {i : Nat} {x : Str} (hN : X.N.Nodup) (hi : X.N[i]? = some x) (hx : Loc X.env.scope x) (h : PE X e (tX κ W (RV κ) mr)) (hs : swapsWith e (some (.Name x pos')) pos.line X.env = pure false := by rfl)
    (hf : X.fn x = true ∨ X.env.scope.names.lookup x = some .local := by first | exact .inl rfl | exact .inr rfl | assumption) : PS X (.Assign [.Name x pos'] e pos) (tS κ W (sAsg i mr)) := s_asgI hN hi hx (im h) hs hf
theorem rr_of {N : Addr → Prop} {H : Hp} {G : Gh} {σ : L2.St} {env : En} {v : V} {z : Rs} (rv : RV κ σ N H G env v z) : RR κ N H G v z := by
  cases z with
  | sh d => exact rv
  | ow l =>
    obtain ⟨a, xs, h1, h2, h3, h4, h5, h6⟩ := rv
    exact ⟨a, xs, h1, h2, h3, h4, h6⟩
  | tr o =>
    obtain ⟨F, h1, h2⟩ := rv
    exact ⟨F, h1, fun a m => (h2 a m).2⟩
theorem s_ret (h : PE X e (tX κ W (RV κ) mr)) : PS X (.Return (some e) pos) (tS κ W (sRet mr)) := PS.imp (ps_ret (im h)) fun D σ H ⟨G, env, r, q⟩ => by
  refine ⟨G, env, r, ?_⟩
  unfold sRet sbnd at q
  cases w : mr env with
  | none => rw [w] at q; exact q
  | some o => cases o with
    | ex x e1 =>
      rw [w] at q
      exact fun c d H' G' a b g => q c d σ H' G' a b g
    | ok z e1 =>
      rw [w] at q
      exact fun v H1 G1 r1 rv f1 => q v H1 G1 r1.sub (rr_of rv) ⟨f1.hk, f1.gk, f1.gn⟩
theorem s_retV {i : Nat} {x : Str} (h : PE X (.Name x pos') (tVar i)) : PS X (.Return (some (.Name x pos')) pos) (tS κ W (sRetV i)) := PS.imp (ps_ret h) fun D σ H ⟨G, env, r, q⟩ => by
  unfold sRetV at q
  have fr : FrR H G σ env H G := ⟨fun _ o h _ => ⟨o, h, fun _ => rfl⟩, Same.refl _, fun _ _ _ h _ => h⟩
  cases z : env[i]? with
  | none => rw [z] at q; exact q.elim
  | some s =>
    have rs := r.slot i s z
    rw [z] at q
    cases s with
    | un => exact q.elim
    | sh d =>
      obtain ⟨_, v, h1, h2⟩ := rs
      exact ⟨v, h1, q v H G r.sub h2 fr⟩
    | ow l =>
      obtain ⟨v, h1, ro⟩ := rs
      obtain ⟨a, xs, rfl, h0, h2, h3, h4⟩ := ro.ls_inv
      exact ⟨_, h1, q _ H G r.sub ⟨a, xs, rfl, h2, h3, h4, fun o _ => ⟨i, _, z, rfl, by rw [h0]; exact List.mem_singleton_self a⟩⟩ fr⟩
    | lk l => exact q.elim
    | bo l => exact q.elim
    | io o => exact q.elim
    | tr o =>
      obtain ⟨v, h1, ro⟩ := rs
      exact ⟨_, h1, q _ H G r.sub ⟨_, ro, fun a m o _ => ⟨i, _, z, rfl, m⟩⟩ fr⟩
theorem s_ifI (ht : PT X c (tI κ W RT mt)) (h1 : PSs X sts (tS κ W m)) (h2 : PSs X su (tS κ W n)) : PS X (.If c sts su pos) (tS κ W (sIf mt m n)) := PS.imp (ps_if ht h1 h2) fun D σ H ⟨G, env, r, q⟩ => sbind_post r q fun z e1 v H1 G1 _ r1 rv f1 q1 => by
  cases rv
  cases z with
  | true => exact ⟨G1, e1, r1, q1⟩
  | false => exact ⟨G1, e1, r1, q1⟩
theorem s_if (ht : PT X c (tX κ W RT mt)) (h1 : PSs X sts (tS κ W m)) (h2 : PSs X su (tS κ W n)) : PS X (.If c sts su pos) (tS κ W (sIf mt m n)) := s_ifI (im_t ht) h1 h2
end

/-! ### own things changed -/
section
variable {κ : Kx} {W : WX} {σ : L2.St} {H H' : Hp} {G : Gh} {env : En} {v : V}
/-- the own thing at slot i is another one from here on, with its own addresses and new ones -/
theorem Rep.chgG (r : Rep κ H G σ env) {i : Nat} {s s' : Sl} {o o' : O} {F : List Addr} {g' : Hp} (e : env[i]? = some s) (hm : s.mut = true) (t : s.th = some o) (t' : s'.th = some o') (hf : s'.fix = true → s'.was s) (hm' : s'.mut = true) (ea : σ[i]? = some (some v))
    (gk : Same G.g g') (sub : Sub κ g' H') (gn : ∀ a u, H a = some u → G.g a = none → a ∉ G.fp i → g' a = none)
    (h : RO κ H' g' v o' F) (hk : ∀ a u, H a = some u → a ∉ G.fp i → ∃ o', H' a = some o' ∧ (nt u → o' = u)) (hF : ∀ a, a ∈ F → a ∈ G.fp i ∨ H a = none) :
    Rep κ H' ⟨g', (G.put i F).fp⟩ σ (env.set i s') ∧ Fr H G σ env H' ⟨g', (G.put i F).fp⟩ σ (env.set i s') := by
  have hi : i < env.length := (List.getElem?_eq_some_iff.mp e).1
  have me : ∀ a, a ∈ G.fp i → Own G env i a := fun a m => ⟨s, o, e, t, m⟩
  have re := r.re (s := s') (F := F) (H' := H') (g' := g') (x := some v) hi sub gk (RSl.of t' rfl h) (fun j u a w e2 m o' h => by
    obtain ⟨z, k1, k2⟩ := hk a o' h fun m' => w (r.inj i j a u (me a m') e2 m)
    rw [k1, k2 (r.pl e2 m h).1]) (fun j a w ow => by
    obtain ⟨u, o2, e2, t2, m2⟩ := id ow
    obtain ⟨⟨z, hz⟩, g0⟩ := r.own ow
    exact gn a z hz g0 fun m' => w (r.inj i j a u (me a m') e2 m2)) fun a m j u w e2 m2 => by
    rcases hF a m with q | q
    · exact w (r.inj i j a u (me a q) e2 m2)
    · obtain ⟨z, hz⟩ := r.live e2 m2
      rw [q] at hz
      cases hz
  have fr := Fr.re (σ := σ) (H := H) (H' := H') (g' := g') (s := s') (F := F) (x := some v) (s0 := s) e (fun a u h n => hk a u h fun m => n ⟨i, s, e, hm, m⟩) gk (fun a u h g n => gn a u h g fun m => n ⟨i, s, e, hm, m⟩)
    (fun _ a u m h => by
      rcases hF a m with q | q
      · exact ⟨i, s, e, hm, q⟩
      · rw [q] at h; cases h)
    fun q => ⟨hf q, by rw [ea]; rfl, (List.getElem?_eq_some_iff.mp ea).1, hm'⟩
  rw [set_same ea] at re fr
  exact ⟨re, fr⟩
theorem Rep.chgO (r : Rep κ H G σ env) {i : Nat} {s s' : Sl} {o o' : O} {F : List Addr} (e : env[i]? = some s) (hm : s.mut = true) (t : s.th = some o) (t' : s'.th = some o') (hf : s'.fix = true → s'.was s) (hm' : s'.mut = true) (ea : σ[i]? = some (some v))
    (h : RO κ H' G v o' F) (hk : ∀ a u, H a = some u → a ∉ G.fp i → H' a = some u) (hF : ∀ a, a ∈ F → a ∈ G.fp i ∨ H a = none) :
    ∃ G', G'.g = G.g ∧ Rep κ H' G' σ (env.set i s') ∧ Fr H G σ env H' G' σ (env.set i s') := by
  have sub : Sub κ G.g H' := ⟨fun a u q => hk a u (r.sub a u q) fun m => (by rw [(r.own ⟨s, o, e, t, m⟩).2] at q; cases q), r.sub.n, tabs_of r.sub.t fun a u q np => hk a u q fun m => np (r.pl e m q)⟩
  obtain ⟨re, fr⟩ := r.chgG e hm t t' hf hm' ea (Same.refl _) sub (fun _ _ _ h _ => h) h (fun a u q m => ⟨u, hk a u q m, fun _ => rfl⟩) hF
  exact ⟨⟨G.g, (G.put i F).fp⟩, rfl, re, fr⟩
/-- the slot that holds an own list to be changed -/
def setL (s : Sl) (l : List D) : Sl := match s with
  | .io _ => .io (.ls l)
  | _ => .ow l
def getL : Sl → Option (List D)
  | .ow l => some l
  | .io (.ls l) => some l
  | _ => none
theorem getL_th {s : Sl} {l : List D} (h : getL s = some l) : s.th = some (.ls l) ∧ s.mut = true := by
  cases s with
  | ow k => cases h; exact ⟨rfl, rfl⟩
  | io o => cases o <;> cases h; exact ⟨rfl, rfl⟩
  | _ => cases h
theorem setL_th {s : Sl} {l : List D} : (setL s l).th = some (.ls l) ∧ (setL s l).mut = true := by
  cases s <;> exact ⟨rfl, rfl⟩
theorem setL_was {s : Sl} {l k : List D} (h : getL s = some k) : (setL s l).fix = true → (setL s l).was s := fun q => by
  cases s with
  | ow k => cases q
  | io o => exact ⟨_, rfl⟩
  | _ => cases h
theorem lst_at (r : Rep κ H G σ env) {i : Nat} {s : Sl} {l : List D} (e : env[i]? = some s) (h : getL s = some l) : ∃ a xs, σ[i]? = some (some (.ref a)) ∧ H a = some (.lst xs) ∧ RpA κ G xs l ∧ G.fp i = [a] ∧ G.g a = none := by
  obtain ⟨v, h1, ro⟩ := (r.slot i s e).th (getL_th h).1
  obtain ⟨a, xs, rfl, h0, h2, h3, h4⟩ := ro.ls_inv
  exact ⟨a, xs, h1, h2, h4, h0, h3⟩
/-- the own list at slot i holds something else from here on -/
theorem Rep.chg (r : Rep κ H G σ env) {i : Nat} {s : Sl} {l l' : List D} {a : Addr} {ys : List V} (e : env[i]? = some s) (hl : getL s = some l) (ea : σ[i]? = some (some (.ref a))) (h : RpA κ G ys l') :
    ∃ G', G'.g = G.g ∧ Rep κ (upd H a (.lst ys)) G' σ (env.set i (setL s l')) ∧ Fr H G σ env (upd H a (.lst ys)) G' σ (env.set i (setL s l')) := by
  obtain ⟨b, xs, h1, h2, h3, h4, h5⟩ := lst_at r e hl
  rw [ea] at h1
  cases h1
  refine r.chgO e (getL_th hl).2 (getL_th hl).1 setL_th.1 (setL_was hl) setL_th.2 ea (.ls (xs := ys) upd_same h5 h) (fun b u q m => ?_) fun b m => .inl (by rw [h4]; exact m)
  have n : b ≠ a := fun z => m (by rw [h4, z]; exact List.mem_singleton_self a)
  rw [upd_ne n]
  exact q
end
/-- an own list, unlocked, stands in slot i -/
def sOwn (i : Nat) (s : Ss) : Ss := fun e => match e[i]? with
  | some (.ow _) => s e
  | some (.io (.ls _)) => s e
  | _ => none
/-- the own list at slot i changed -/
def chL (i : Nat) (f : List D → Option (List D)) : Ss := fun e => match e[i]? with
  | some (.ow l) => match f l with
    | some k => some (.nx (e.set i (.ow k)))
    | none => none
  | some (.io (.ls l)) => match f l with
    | some k => some (.nx (e.set i (.io (.ls k))))
    | none => none
  | _ => none
/-- xs.append(e) -/
def sApp (i : Nat) (m : Sm D) : Ss := sOwn i (sbnd m fun d => chL i fun l => if l.length < szl then some (l ++ [d]) else none)
/-- xs.extend(e) -/
def sExt (i : Nat) (m : Sm D) : Ss := sOwn i (sbnd m fun d => match d with
  | .lst k => chL i fun l => if l.length + k.length ≤ szl then some (l ++ k) else none
  | _ => fun _ => none)
def opSetI (l : List D) (i : Int) (d : D) : Option (List D) := match ixN l.length i with
  | some j => some (l.set j d)
  | none => none
/-- xs[j] = e -/
def sSetI (i : Nat) (mj m : Sm D) : Ss := sbnd m fun d => sOwn i (sbnd mj fun j => match j with
  | .int z => chL i fun l => opSetI l z d
  | _ => fun _ => none)
theorem sOwn_of {κ : Kx} {W : WX} {σ : L2.St} {H : Hp} {G : Gh} {env : En} {i : Nat} {s : Ss} {D0 : Ends} (q : SPost κ W σ H G env (sOwn i s env) D0) : ∃ t l, env[i]? = some t ∧ getL t = some l ∧ SPost κ W σ H G env (s env) D0 := by
  unfold sOwn at q
  cases z : env[i]? with
  | none => rw [z] at q; exact q.elim
  | some o =>
    rw [z] at q
    cases o with
    | ow l => exact ⟨_, l, rfl, rfl, q⟩
    | io o => cases o with
      | ls l => exact ⟨_, l, rfl, rfl, q⟩
      | _ => exact q.elim
    | _ => exact q.elim
theorem chL_of {κ : Kx} {W : WX} {σ : L2.St} {H : Hp} {G : Gh} {env : En} {i : Nat} {f : List D → Option (List D)} {D0 : Ends} (q : SPost κ W σ H G env (chL i f env) D0) : ∃ t l k, env[i]? = some t ∧ getL t = some l ∧ f l = some k ∧ SPost κ W σ H G env (some (.nx (env.set i (setL t k)))) D0 := by
  unfold chL at q
  cases z : env[i]? with
  | none => rw [z] at q; exact q.elim
  | some o =>
    rw [z] at q
    cases o with
    | ow l =>
      dsimp only at q
      cases w : f l with
      | none => rw [w] at q; exact q.elim
      | some k => rw [w] at q; exact ⟨_, l, k, rfl, rfl, w, q⟩
    | io o => cases o with
      | ls l =>
        dsimp only at q
        cases w : f l with
        | none => rw [w] at q; exact q.elim
        | some k => rw [w] at q; exact ⟨_, l, k, rfl, rfl, w, q⟩
      | _ => exact q.elim
    | _ => exact q.elim
section
variable {X : Cx} {κ : Kx} {W : WX} {a b c e : Expr} {m : Sm D} {mj : Sm D} {pos pos' p2 : Pos}
/-- o.m(e) as a statement, o an own list's name: the reading of the method's call -/
theorem own_call {r : V → List V → Hp → VK → Prop} {R : Rl D V} {i : Nat} {f : D → Ss} {D0 : Ends} {σ : L2.St} {H : Hp} {G : Gh} {env : En} (rp : Rep κ H G σ env) (hq : SPost κ W σ H G env (sOwn i (sbnd m f) env) D0)
    (k : ∀ d e1 v a H1 G1, Rep κ H1 G1 σ e1 → R σ (Nw H G env) H1 G1 e1 v d → σ[i]? = some (some (.ref a)) → SPost κ W σ H1 G1 e1 (f d e1) D0 → r (.ref a) [v] H1 fun _ H2 => D0.nx σ H2) :
    tDrop (tBM κ.K "list" r (tVar i) (tCons (tI κ W R m) tNil)) D0 σ H := by
  obtain ⟨t0, l0, e0, g0, hq⟩ := sOwn_of hq
  obtain ⟨a, xs, h1, h2, h3, h4, h5⟩ := lst_at rp e0 g0
  refine ⟨_, h1, .inl ⟨rfl, xs, SqL.of h2⟩, ?_⟩
  exact sbind_post rp hq fun d e1 v H1 G1 em r1 rv f1 q1 => k d e1 v a H1 G1 r1 rv h1 q1
theorem s_appI {x : Str} {i : Nat} {apos cpos : Pos} (hK : X.K = κ.K) (hx : PE X (.Name x pos') (tVar i)) (he : PE X e (tI κ W (RP κ) m))
    (hs : swapsWith (.Call (.Attribute (.Name x pos') "append" apos) [e] [] cpos) none pos.line X.env = pure false := by rfl)
    (hbase : attributeBase (.Name x pos') "append" X.env (eval (.Name x pos') X.env) = eval (.Name x pos') X.env := by rfl)
    (hfew : ((backTo cpos (starEach [e] X.env)).all (fun x => !x.1) && (backToKw cpos (keywordEach [] X.env)).all (fun x => x.1.isSome)
      && decide (([e] : List Expr).length + ([] : List Keyword).length + (if ([] : List Keyword).isEmpty then 0 else 1) < 30)) = true := by rfl)
    (hline : (apos.endLine == cpos.line) = true := by rfl) (hst : starEach [e] X.env = (false, eval e X.env) :: starEach [] X.env := by rfl) (hplain : (backTo cpos (starEach [] X.env)).any (·.1) = false := by rfl) :
    PS X (.Expr (.Call (.Attribute (.Name x pos') "append" apos) [e] [] cpos) pos) (tS κ W (sApp i m)) :=
  PS.imp (ps_expr (pe_bm PySem.F.plainAttrs_list PySem.F.slot_list_append PySem.F.type_list_append mt_append hx (pa_cons he pa_nil hst) hbase hfew hline hst hplain) hs) fun D σ H ⟨G, env, r, q⟩ => by
    rw [hK]
    refine own_call r q fun d e1 v a H1 G1 r1 rv ha q1 => ?_
    obtain ⟨t, l, k, z, hl, hk, q1⟩ := chL_of q1
    by_cases hsz : l.length < szl
    · rw [if_pos hsz] at hk
      cases hk
      obtain ⟨b, ys, g1, g2, g3, _⟩ := lst_at r1 z hl
      rw [ha] at g1
      cases g1
      obtain ⟨G2, eg, rep, fr⟩ := r1.chg z hl ha (g3.append (.cons rv .nil))
      exact ⟨a, ys, v, rfl, rfl, g2, by rw [g3.length]; exact szl_lt (Nat.le_of_lt hsz), q1 σ _ G2 rep fr⟩
    · rw [if_neg hsz] at hk; cases hk
theorem s_app {x : Str} {i : Nat} {apos cpos : Pos} (hK : X.K = κ.K) (hx : PE X (.Name x pos') (tVar i)) (he : PE X e (tX κ W (RP κ) m))
    (hs : swapsWith (.Call (.Attribute (.Name x pos') "append" apos) [e] [] cpos) none pos.line X.env = pure false := by rfl)
    (hbase : attributeBase (.Name x pos') "append" X.env (eval (.Name x pos') X.env) = eval (.Name x pos') X.env := by rfl)
    (hfew : ((backTo cpos (starEach [e] X.env)).all (fun x => !x.1) && (backToKw cpos (keywordEach [] X.env)).all (fun x => x.1.isSome)
      && decide (([e] : List Expr).length + ([] : List Keyword).length + (if ([] : List Keyword).isEmpty then 0 else 1) < 30)) = true := by rfl)
    (hline : (apos.endLine == cpos.line) = true := by rfl) (hst : starEach [e] X.env = (false, eval e X.env) :: starEach [] X.env := by rfl) (hplain : (backTo cpos (starEach [] X.env)).any (·.1) = false := by rfl) :
    PS X (.Expr (.Call (.Attribute (.Name x pos') "append" apos) [e] [] cpos) pos) (tS κ W (sApp i m)) := s_appI hK hx (im he) hs hbase hfew hline hst hplain
theorem s_setI {x : Str} {i : Nat} {ei : Expr} (hx : PE X (.Name x pos') (tVar i)) (hi : PE X ei (tX κ W (RB κ) mj)) (he : PE X e (tX κ W (RP κ) m)) 
    (hg : PG X (.Subscript (.Name x pos') ei p2) (gSub (tVar i) (tI κ W (RB κ) mj) rSetL))
    (hs : swapsWithSole [.Subscript (.Name x pos') ei p2] e pos.line X.env = pure false := by rfl) (hw : swappedStores [.Subscript (.Name x pos') ei p2] e X.env = pure none := by rfl) :
    PS X (.Assign [.Subscript (.Name x pos') ei p2] e pos) (tS κ W (sSetI i mj m)) := PS.imp (ps_asg (im he) hg hs hw) fun D σ H ⟨G, env, r, q⟩ => by
  refine sbind_post r q fun d e1 v H1 G1 em r1 rv f1 q1 => ?_
  obtain ⟨t0, l0, e0, g0, q1⟩ := sOwn_of q1
  obtain ⟨a, xs, h1, h2, h3, _⟩ := lst_at r1 e0 g0
  refine ⟨_, h1, ?_⟩
  refine sbind_post r1 q1 fun j e2 u H2 G2 em2 r2 ru f2 q2 => ?_
  cases j with
  | int t =>
    obtain ⟨s, l, k2, z, hl, hk, q2⟩ := chL_of q2
    obtain ⟨b, ys, g1, g2, g3, _⟩ := lst_at r2 z hl
    rw [h1] at g1
    cases g1
    unfold opSetI at hk
    cases w2 : ixN l.length t with
    | none => rw [w2] at hk; cases hk
    | some n =>
      rw [w2] at hk
      cases hk
      obtain ⟨G3, eg, rep, fr⟩ := r2.chg z hl h1 (g3.set (rv.mono f2.gk) n)
      exact ⟨a, ys, t, n, rfl, RBq.int ru, g2, by rw [g3.length]; exact w2, q2 σ _ G3 rep fr⟩
  | _ => exact q2.elim
end
/-! ### several names -/
def setAll : List Nat → List D → En → Option En
  | [], [], e => some e
  | i :: is, d :: ds, e => if i < e.length then setAll is ds (e.set i (.sh d)) else none
  | _, _, _ => none
def gNames : List Nat → TGs
  | [] => gNil
  | i :: is => gCons (gName i) (gNames is)
/-- a target's reading serves its function -/
def TgOk (κ : Kx) (g : TG) (f : D → En → Option En) : Prop := ∀ (v : V) (d : D) (σ : L2.St) (H : Hp) (G : Gh) (env e1 : En) (Q : L2.St → Hp → Prop), f d env = some e1 → Rep κ H G σ env → Rp κ G v d → (∀ σ1 G1, Rep κ H G1 σ1 e1 → Fr H G σ env H G1 σ1 e1 → Q σ1 H) → g v σ H Q
section
variable {κ : Kx} {W : WX} {X : Cx}
theorem rep_sh {H : Hp} {G : Gh} {σ : L2.St} {env : En} {i : Nat} {v : V} {d : D} (r : Rep κ H G σ env) (hi : i < env.length) (h : Rp κ G v d) : ∃ G', G'.g = G.g ∧ Rep κ H G' (σ.set i (some v)) (env.set i (.sh d)) ∧ Fr H G σ env H G' (σ.set i (some v)) (env.set i (.sh d)) := by
  have re := r.re (s := .sh d) (F := []) (H' := H) (g' := G.g) (x := some v) hi r.sub (Same.refl _) ⟨rfl, v, rfl, h⟩ (fun _ _ _ _ _ _ _ h => h) (fun j a w ow => (r.own ow).2) fun a m => by cases m
  have fr := Fr.re (σ := σ) (H := H) (H' := H) (g' := G.g) (s := .sh d) (F := []) (x := some v) (List.getElem?_eq_getElem hi) (fun _ o h _ => ⟨o, h, fun _ => rfl⟩) (Same.refl _) (fun _ _ _ h _ => h) (fun q => by cases q) fun q => by cases q
  exact ⟨⟨G.g, (G.put i []).fp⟩, rfl, re, fr⟩
def tgN (i : Nat) : D → En → Option En := fun d e => if i < e.length then some (e.set i (.sh d)) else none
theorem tg_name (i : Nat) : TgOk κ (gName i) (tgN i) := fun v d σ H G env e1 Q e r h q => by
  unfold tgN at e
  by_cases hi : i < env.length
  · rw [if_pos hi] at e
    cases e
    obtain ⟨G1, _, a, b⟩ := rep_sh r hi h
    exact q _ G1 a b
  · rw [if_neg hi] at e; cases e
theorem tgs_names : ∀ (is : List Nat) (vs : List V) (ds : List D) (σ : L2.St) (H : Hp) (G : Gh) (env e1 : En) (Q : L2.St → Hp → Prop), setAll is ds env = some e1 → Rep κ H G σ env → RpA κ G vs ds → (∀ σ1 G1, Rep κ H G1 σ1 e1 → Fr H G σ env H G1 σ1 e1 → Q σ1 H) → gNames is vs σ H Q
  | [], vs, ds, σ, H, G, env, e1, Q, e, r, h, q => by
    cases h with
    | nil => cases e; exact ⟨rfl, q σ G r Fr.refl⟩
    | cons => cases e
  | i :: is, vs, ds, σ, H, G, env, e1, Q, e, r, h, q => by
    cases h with
    | nil => cases e
    | cons h t =>
      dsimp only [setAll] at e
      split at e
      · rename_i hi
        obtain ⟨G1, eg, a, b⟩ := rep_sh r hi h
        exact ⟨_, _, rfl, tgs_names is _ _ _ H G1 _ e1 Q e a (by rw [eg]; exact t) fun σ1 G2 r1 f1 => q σ1 G2 r1 (b.trans f1)⟩
      · cases e
def tgT (is : List Nat) : D → En → Option En := fun d e => match d with
  | .tup ds => setAll is ds e
  | _ => none
theorem setAll_len : ∀ {is : List Nat} {ds : List D} {e e1 : En}, setAll is ds e = some e1 → ds.length = is.length
  | [], [], _, _, _ => rfl
  | [], _ :: _, _, _, h => by cases h
  | _ :: _, [], _, _, h => by cases h
  | i :: is, d :: ds, e, e1, h => by
    dsimp only [setAll] at h
    split at h
    · rw [List.length_cons, List.length_cons, setAll_len h]
    · cases h
theorem tg_tup (is : List Nat) {n : Nat} (hn : n = is.length) : TgOk κ (gTup κ.K n (gNames is)) (tgT is) := fun v d σ H G env e1 Q e r h q => by
  subst hn
  cases h with
  | tup h t =>
    have e' : setAll is _ env = some e1 := e
    exact ⟨_, _, rfl, SqT.of (r.sub _ _ h), by rw [t.length, setAll_len e'], tgs_names is _ _ σ H G env e1 Q e' r t q⟩
  | _ => cases e
/-- target = value, any target -/
def sTg (f : D → En → Option En) (m : Sm D) : Ss := sbnd m fun d e => match f d e with
  | some e1 => some (.nx e1)
  | none => none
end

/-! ### loops -/
/-- an iterator gives these items, one after another -/
def Yields (κ : Kx) (J : It) (ds : List D) (H G : Hp) : Prop := ∀ i : Nat, (∀ d, ds[i]? = some d → J.go i H ∧ ∀ x H', J.yld i H x H' → (H' = H ∧ Rp κ G x d) ∨ ∃ (T : Addr) (xs : List V) (es : List D), H T = none ∧ H' = upd H T (.tup xs) ∧ x = .ref T ∧ d = .tup es ∧ RpA κ G xs es) ∧ (ds.length ≤ i → J.stop i H)
def RI (κ : Kx) : Rl (List D) It := fun _ _ H G env J ds => ∃ pr : Addr → Prop, (∀ a, pr a → ¬ Mt G env a) ∧ ∀ H' (G' : Hp), (∀ a o, pr a → H a = some o → nt o → H' a = some o) → Same G G' → Same G' H' → Yields κ J ds H' G'
instance {κ : Kx} : RlMono (RI κ) := ⟨fun _ q => q⟩
def forL (tg : D → En → Option En) (body : Ss) : List D → Ss
  | [], e => some (.nx e)
  | d :: ds, e => match tg d e with
    | none => none
    | some e1 => match body e1 with
      | some (.nx e2) => forL tg body ds e2
      | some (.ct e2) => forL tg body ds e2
      | some (.bk e2) => some (.nx e2)
      | o => o
def sFor (mi : Sm (List D)) (tg : D → En → Option En) (body : Ss) : Ss := sbnd mi fun ds => forL tg body ds
section
variable {X : Cx} {κ : Kx} {W : WX}
theorem s_for {tgt iter : Expr} {sts : List Stmt} {mi : Sm (List D)} {g : TG} {f : D → En → Option En} {m : Ss} {pos : Pos} (hp : PassesOwn (model X.prog X.w) X.A X.env X.xe) (hc : X.calm = true) (hi : PI X tgt iter (tX κ W (RI κ) mi)) (hg : PG X tgt g) (hf : TgOk κ g f) (hb : PSs X sts (tS κ W m))
    (hs : ∀ x, foldedSetIterable iter X.env x = pure x := by intro _; rfl) : PS X (.For tgt iter sts [] pos) (tS κ W (sFor mi f m)) := PS.imp (ps_for hp hc hi hg hb hs) fun D σ H ⟨G, env, r, q⟩ => by
  refine tI.pu (sbind_post r q fun ds e1 J H1 G1 em r1 rv f1 q1 => ?_)
  obtain ⟨pr, hpr, yl⟩ := rv
  refine ⟨fun i k σ' H' => k = ds.length - i ∧ i ≤ ds.length ∧ ∃ G' env', Rep κ H' G' σ' env' ∧ Fr H1 G1 σ e1 H' G' σ' env' ∧ SPost κ W σ' H' G' env' (forL f m (ds.drop i) env') D, ⟨ds.length, by simp, Nat.zero_le _, G1, e1, r1, Fr.refl, q1⟩, ?_⟩
  rintro i k σ2 H2 ⟨rfl, hi2, G2, env2, r2, fr2, q2⟩
  have y := yl H2 G2 (fun a o pa e n => fr2.at e (hpr a pa)) fr2.gk r2.sub i
  by_cases hlt : i < ds.length
  · right
    have ed : ds[i]? = some ds[i] := List.getElem?_eq_getElem hlt
    have dr : ds.drop i = ds[i] :: ds.drop (i + 1) := (List.drop_eq_getElem_cons hlt)
    obtain ⟨go, yy⟩ := y.1 _ ed
    refine ⟨go, fun σ' H' => ∃ G' env', Rep κ H' G' σ' env' ∧ Fr H1 G1 σ e1 H' G' σ' env' ∧ SPost κ W σ' H' G' env' (forL f m (ds.drop (i + 1)) env') D, fun σ' H' ⟨G', env', a, b, c⟩ => ⟨ds.length - (i + 1), by omega, rfl, hlt, G', env', a, b, c⟩, ?_⟩
    rw [dr] at q2
    dsimp only [forL] at q2
    intro x H3 hy
    cases z : f ds[i] env2 with
    | none => rw [z] at q2; exact q2.elim
    | some e3 =>
      rw [z] at q2
      dsimp only at q2
      -- the item stands in G3
      have item : ∃ G3 : Gh, Rep κ H3 G3 σ2 env2 ∧ Fr H2 G2 σ2 env2 H3 G3 σ2 env2 ∧ Rp κ G3 x ds[i] := by
        rcases yy x H3 hy with ⟨rfl, rx⟩ | ⟨T, xs, es, hT, rfl, rfl, e4, rx⟩
        · exact ⟨G2, r2, Fr.refl, rx⟩
        · have st := new_sh (o := .tup xs) r2 hT
          refine ⟨G2.up T (.tup xs), st.rep, st.fr, ?_⟩
          rw [e4]
          exact .tup upd_same (rx.mono (same_new (Same.none r2.sub hT)))
      obtain ⟨G3, r3, fr3, rx⟩ := item
      refine hf x ds[i] σ2 H3 G3 env2 e3 _ z r3 rx fun σ4 G4 r4 fr4 => ?_
      have frA := fr3.trans fr4
      refine ⟨G4, e3, r4, ?_⟩
      have q3 := SPost.shift frA q2
      cases w : m e3 with
      | none => rw [w] at q3; exact q3
      | some o => cases o with
        | nx e5 =>
          rw [w] at q3
          exact fun σ5 H5 G5 r5 fr5 => ⟨G5, e5, r5, (fr2.trans frA).trans fr5, SPost.shift fr5 q3⟩
        | ct e5 =>
          rw [w] at q3
          exact fun σ5 H5 G5 r5 fr5 => ⟨G5, e5, r5, (fr2.trans frA).trans fr5, SPost.shift fr5 q3⟩
        | bk e5 => rw [w] at q3; exact q3
        | rt r5 => rw [w] at q3; exact q3
        | rv r5 e5 => rw [w] at q3; exact q3
        | ex x5 e5 => rw [w] at q3; exact q3
  · left
    have e : i = ds.length := by omega
    subst e
    refine ⟨y.2 (Nat.le_refl _), ?_⟩
    rw [List.drop_length] at q2
    exact q2 σ2 H2 G2 r2 Fr.refl
/-- while: at most n turns -/
def whL (n : Nat) (t : Sm Bool) (body : Ss) : Ss := match n with
  | 0 => fun _ => none
  | n + 1 => sbnd t fun b e => match b with
    | false => some (.nx e)
    | true => match body e with
      | some (.nx e2) => whL n t body e2
      | some (.ct e2) => whL n t body e2
      | some (.bk e2) => some (.nx e2)
      | o => o
end
/-! ### what is walked -/
/-- a list that stays while it is walked -/
def RL (κ : Kx) : Rl (List D) V := fun _ _ H G env v l => ∃ a xs, v = .ref a ∧ H a = some (.lst xs) ∧ RpA κ G xs l ∧ (G.g a = some (.lst xs) ∨ ¬ Mt G env a)
instance {κ : Kx} : RlMono (RL κ) := ⟨fun _ q => q⟩
def RLs (κ : Kx) : Rl (List D) (List V) := fun σ N H G env vs l => ∃ v, vs = [v] ∧ RL κ σ N H G env v l
instance {κ : Kx} : RlMono (RLs κ) := ⟨fun _ q => q⟩
def eIt (i : Nat) : Sm (List D) := fun env => match env[i]? with
  | some (.sh (.lst l)) => some (.ok l env)
  | some (.lk l) => some (.ok l env)
  | some (.bo l) => some (.ok l env)
  | _ => none
def fIt (m : Sm D) : Sm (List D) := bnd m fun d e => match d with
  | .lst l => some (.ok l e)
  | _ => none
section
variable {X : Cx} {κ : Kx} {W : WX} {a b e tg : Expr} {mi mj : Sm (List D)} {m : Sm D} {ms : Sm (List D)} {pos p : Pos}
theorem l_name {i : Nat} {x : Str} (h : PE X (.Name x pos) (tVar i)) : PE X (.Name x pos) (tX κ W (RL κ) (eIt i)) := PE.imp h fun σ H Q ⟨G, env, r, q⟩ => by
  unfold eIt at q
  cases z : env[i]? with
  | none => rw [z] at q; exact q.elim
  | some s =>
    have rs := r.slot i s z
    rw [z] at q
    cases s with
    | sh d =>
      cases d with
      | lst l =>
        obtain ⟨_, v, h1, h2⟩ := rs
        cases h2 with
        | lst h3 h4 => exact ⟨_, h1, q _ H G r ⟨_, _, rfl, r.sub _ _ h3, h4, .inl h3⟩ (Grw.refl _) Fr.refl⟩
      | _ => exact q.elim
    | lk l =>
      obtain ⟨v, h1, ro⟩ := rs
      obtain ⟨c, xs, rfl, h0, h2, h3, h4⟩ := ro.ls_inv
      refine ⟨_, h1, q _ H G r ⟨c, xs, rfl, h2, h4, .inr fun mt => ?_⟩ (Grw.refl _) Fr.refl⟩
      obtain ⟨j, t, e2, hm, m⟩ := mt
      have w := r.inj i j c t ⟨_, _, z, rfl, by rw [h0]; exact List.mem_singleton_self c⟩ e2 m
      subst w
      rw [z] at e2
      cases e2
      cases hm
    | bo l =>
      obtain ⟨c, xs, h1, h2, h4, h0⟩ := rs
      refine ⟨_, h1, q _ H G r ⟨c, xs, rfl, h2, h4, .inr fun mt => ?_⟩ (Grw.refl _) Fr.refl⟩
      obtain ⟨j, t, e2, hm, m⟩ := mt
      obtain ⟨o, ht⟩ := mut_th hm
      have w := r.inj j i c _ ⟨t, o, e2, ht, m⟩ z (by rw [h0]; exact List.mem_singleton_self c)
      subst w
      rw [z] at e2
      cases e2
      cases hm
    | _ => exact q.elim
theorem l_of (h : PE X e (tX κ W (RP κ) m)) : PE X e (tX κ W (RL κ) (fIt m)) := PE.imp h fun σ H Q ⟨G, env, r, q⟩ => bind_post r q fun d e1 v H1 G1 em r1 rv s1 f1 q1 => by
  cases d with
  | lst l =>
    cases rv with
    | lst h3 h4 => exact q1 _ H1 G1 r1 ⟨_, _, rfl, r1.sub _ _ h3, h4, .inl h3⟩ (Grw.refl _) Fr.refl
  | _ => exact q1.elim
/-- the items of a list that stays -/
theorem list_yields {J : It} {σ : L2.St} {N : Addr → Prop} {H : Hp} {G : Gh} {env : En} {v : V} {l ds : List D} (r : Rep κ H G σ env) (h : RL κ σ N H G env v l)
    (k : ∀ a xs, v = .ref a → ∀ H' (G' : Hp), H' a = some (.lst xs) → RpA κ G' xs l → Yields κ J ds H' G') : RI κ σ N H G env J ds := by
  obtain ⟨a, xs, rfl, h1, h2, h3⟩ := h
  refine ⟨fun b => b = a ∧ ¬ Mt G env a, fun b hb => hb.1 ▸ hb.2, fun H' G' hp sg sh => k a xs rfl H' G' ?_ (h2.mono sg)⟩
  rcases h3 with h3 | h3
  · exact sh _ _ (sg _ _ h3)
  · exact hp a _ ⟨rfl, h3⟩ h1 fun _ z => nomatch z
theorem i_list (h : PE X e (tX κ W (RL κ) mi)) : PI X tg e (tX κ W (RI κ) mi) := ⟨fun pins s σ H R I ⟨G, env, r, q⟩ => (pi_list h).run pins s σ H R I ⟨G, env, r, by
  cases z : mi env with
  | none => rw [z] at q; exact q
  | some o => cases o with
    | ex x e1 => rw [z] at q; exact q
    | ok l e1 =>
      rw [z] at q
      intro v H1 G1 r1 rv s1 f1
      obtain ⟨a, xs, rfl, h1, h2, h3⟩ := id rv
      refine ⟨a, rfl, ⟨xs, SqL.of h1⟩, q _ H1 G1 r1 (list_yields r1 rv fun a' ys ea H' G' hl ha i => ?_) s1 f1⟩
      cases ea
      refine ⟨fun d hd => ?_, fun hi => ⟨ys, SqL.of hl, by rw [ha.length]; exact hi⟩⟩
      obtain ⟨x, hx, rx⟩ := ha.getD hd
      exact ⟨⟨ys, x, SqL.of hl, hx⟩, fun y H2 ⟨e2, hy⟩ => .inl ⟨e2, by
        have := hy ys (SqL.of hl)
        rw [hx] at this
        cases this
        exact rx⟩⟩⟩⟩
/-- the signs of a text -/
def fSg (m : Sm D) : Sm (List D) := bnd m fun d e => match d with
  | .str w => some (.ok (w.map fun c => .str [c]) e)
  | _ => none
theorem i_str (h : PE X e (tX κ W (RB κ) m)) : PI X tg e (tX κ W (RI κ) (fSg m)) := ⟨fun pins s σ H R I ⟨G, env, r, q⟩ => (pi_str h).run pins s σ H R I (bind_post r q fun d e1 v H1 G1 em r1 rv s1 f1 q1 => by
  cases d with
  | str w =>
    refine ⟨S w, RBq.str rv, q1 _ H1 G1 r1 ⟨fun _ => False, fun _ z => z.elim, fun H' G' _ _ _ i => ?_⟩ (Grw.refl _) Fr.refl⟩
    have ez : (S w).cps.size = w.length := S_len w
    refine ⟨fun d hd => ?_, fun hi => ?_⟩
    · rw [List.getElem?_map] at hd
      cases hw : w[i]? with
      | none => rw [hw] at hd; cases hd
      | some c =>
        rw [hw] at hd
        cases hd
        have hi : i < w.length := (List.getElem?_eq_some_iff.mp hw).1
        refine ⟨show i < (S w).cps.size by rw [ez]; exact hi, fun y H2 ⟨e2, c', hc, ey⟩ => .inl ⟨e2, ?_⟩⟩
        have hc' : w[i]? = some c' := by
          have : (S w).cps[i]? = w[i]? := by simp [S]
          rw [← this]; exact hc
        rw [hw] at hc'
        cases hc'
        rw [ey]
        exact .str [c]
    · show (S w).cps.size ≤ i
      rw [ez]
      simpa using hi
  | _ => exact q1.elim)⟩
/-- a tuple's items -/
def fTp (m : Sm D) : Sm (List D) := bnd m fun d e => match d with
  | .tup l => some (.ok l e)
  | _ => none
theorem i_tup (h : PE X e (tX κ W (RP κ) m)) : PI X tg e (tX κ W (RI κ) (fTp m)) := ⟨fun pins s σ H R I ⟨G, env, r, q⟩ => (pi_tup h).run pins s σ H R I (bind_post r q fun d e1 v H1 G1 em r1 rv s1 f1 q1 => by
  cases d with
  | tup l =>
    cases rv with
    | tup h3 h4 =>
      rename_i a xs
      refine ⟨a, rfl, ⟨xs, SqT.of (r1.sub _ _ h3)⟩, q1 _ H1 G1 r1 ⟨fun _ => False, fun _ z => z.elim, fun H' G' _ sg sh i => ?_⟩ (Grw.refl _) Fr.refl⟩
      have hl := SqT.of (K := X.K) (sh _ _ (sg _ _ h3))
      have ha := h4.mono sg
      refine ⟨fun d hd => ?_, fun hi => ⟨xs, hl, by rw [ha.length]; exact hi⟩⟩
      obtain ⟨x, hx, rx⟩ := ha.getD hd
      exact ⟨⟨xs, x, hl, hx⟩, fun y H2 ⟨e2, hy⟩ => .inl ⟨e2, by
        have := hy xs hl
        rw [hx] at this
        cases this
        exact rx⟩⟩
  | _ => exact q1.elim)⟩
def rng (lo : Int) (n : Nat) : List D := (List.range n).map fun (k : Nat) => D.int (lo + (k : Int))
def fRg1 (m : Sm (List D)) : Sm (List D) := bnd m fun ds e => match ds with
  | [.int j] => if j ≤ 1000000 ∧ -1000000 ≤ j then some (.ok (rng 0 j.toNat) e) else none
  | _ => none
def fRg2 (m : Sm (List D)) : Sm (List D) := bnd m fun ds e => match ds with
  | [.int i, .int j] => if (j ≤ 1000000 ∧ -1000000 ≤ j) ∧ i ≤ 1000000 ∧ -1000000 ≤ i then some (.ok (rng i (j - i).toNat) e) else none
  | _ => none
theorem rng_yields {lo : Int} {n : Nat} {σ : L2.St} {N : Addr → Prop} {H : Hp} {G : Gh} {env : En} : RI κ σ N H G env (Itr lo n) (rng lo n) := by
  refine ⟨fun _ => False, fun _ z => z.elim, fun H' G' _ _ _ i => ⟨fun d hd => ?_, fun hi => ?_⟩⟩
  · unfold rng at hd
    rw [List.getElem?_map] at hd
    cases hw : (List.range n)[i]? with
    | none => rw [hw] at hd; cases hd
    | some k =>
      rw [hw] at hd
      cases hd
      obtain ⟨hi, ek⟩ := List.getElem?_eq_some_iff.mp hw
      rw [List.getElem_range] at ek
      subst ek
      exact ⟨show i < n by simpa using hi, fun y H2 ⟨e2, ey⟩ => .inl ⟨e2, by rw [ey]; exact .int _⟩⟩
  · show n ≤ i
    unfold rng at hi
    simpa using hi
theorem i_rg1 {ml : List Bool} (hml : ml = [true]) (hg : Gl X "range") (hm : X.mg "range" = none) (h : PA X [a] (tX κ W (RA κ ml) ms)) (hs : starEach [a] X.env = [(false, eval a X.env)] := by rfl) : PI X tg (.Call (.Name "range" p) [a] [] pos) (tX κ W (RI κ) (fRg1 ms)) := ⟨fun pins s σ H R I ⟨G, env, r, q⟩ => (pi_range1 hg hm h hs).run pins s σ H R I (bind_post r q fun d e1 v H1 G1 em r1 rv s1 f1 q1 => by
  subst hml
  cases d with
  | nil => exact q1.elim
  | cons d t =>
    cases t with
    | cons _ _ => cases d <;> exact q1.elim
    | nil =>
      obtain ⟨u, rfl, ru⟩ := RBs.one rv
      cases d with
      | int j =>
        dsimp only at q1
        by_cases hj : j ≤ 1000000 ∧ -1000000 ≤ j
        · rw [if_pos hj] at q1
          exact ⟨j, by rw [ru.int], by omega, by omega, q1 _ H1 G1 r1 rng_yields (Grw.refl _) Fr.refl⟩
        · rw [if_neg hj] at q1; exact q1.elim
      | _ => exact q1.elim)⟩
/-- number and item -/
def enumL (l : List D) : List D := (l.zipIdx).map fun p => .tup [.int (p.2 : Int), p.1]
def fEn (m : Sm (List D)) : Sm (List D) := bnd m fun l e => some (.ok (enumL l) e)
def fRev (m : Sm (List D)) : Sm (List D) := bnd m fun l e => some (.ok l.reverse e)
end
/-! ### a loop over an own list locks it -/
def unlk (i : Nat) (e : En) : En := match e[i]? with
  | some (.lk l) => e.set i (.ow l)
  | _ => e
def sLock (i : Nat) (s : Ss) : Ss := fun e => match e[i]? with
  | some (.ow l) => match s (e.set i (.lk l)) with
    | some (.nx e1) => some (.nx (unlk i e1))
    | some (.bk e1) => some (.bk (unlk i e1))
    | some (.ct e1) => some (.ct (unlk i e1))
    | some (.ex x e1) => some (.ex x (unlk i e1))
    | some (.rv r e1) => some (.rv r (unlk i e1))
    | o => o
  | _ => s e
section
variable {X : Cx} {κ : Kx} {W : WX} {H H' : Hp} {G G' : Gh} {σ σ' : L2.St} {env env' : En} {i : Nat} {l : List D}
theorem Rep.swap {s t : Sl} (r : Rep κ H G σ env) (e : env[i]? = some s) {o : O} (hs : s.th = some o) (ht : t.th = some o) : Rep κ H G σ (env.set i t) := by
  have back : ∀ {j : Nat} {a : Addr}, Own G (env.set i t) j a → Own G env j a := fun {j a} ⟨u, o', e', t', m⟩ => by
    rcases set_look e' with ⟨rfl, rfl⟩ | ⟨w, e2⟩
    · exact ⟨s, o, e, hs, m⟩
    · exact ⟨u, o', e2, t', m⟩
  refine ⟨r.sub, by rw [List.length_set]; exact r.len, fun j u q => ?_, fun j k a u ow q m => ?_⟩
  · rcases set_look q with ⟨rfl, rfl⟩ | ⟨w, e2⟩
    · obtain ⟨x, h1, h2⟩ := (r.slot j s e).th hs
      exact .of ht h1 h2
    · exact r.slot j u e2
  · rcases set_look q with ⟨rfl, rfl⟩ | ⟨w, e2⟩
    · exact r.inj j k a s (back ow) e m
    · exact r.inj j k a u (back ow) e2 m
theorem Rep.locked (r : Rep κ H G σ env) (e : env[i]? = some (.ow l)) : Rep κ H G σ (env.set i (.lk l)) := r.swap e rfl rfl
theorem lock_mt {a : Addr} (m : Mt G (env.set i (.lk l)) a) : Mt G env a := by
  obtain ⟨j, s, e, h, m⟩ := m
  rcases set_look e with ⟨rfl, rfl⟩ | ⟨w, e2⟩
  · cases h
  · exact ⟨j, s, e2, h, m⟩
theorem unlk_cases : (∃ l, env[i]? = some (.lk l) ∧ unlk i env = env.set i (.ow l)) ∨ unlk i env = env := by
  unfold unlk
  split
  · rename_i l e; exact .inl ⟨l, e, rfl⟩
  · exact .inr rfl
theorem Rep.unlocked (r : Rep κ H G σ env) : Rep κ H G σ (unlk i env) := by
  rcases unlk_cases (i := i) (env := env) with ⟨l, e, q⟩ | q
  · rw [q]; exact r.swap e rfl rfl
  · rw [q]; exact r
theorem Fr.unlocked (e : env[i]? = some (.ow l)) (f : Fr H G σ (env.set i (.lk l)) H' G' σ' env') : Fr H G σ env H' G' σ' (unlk i env') where
  hk := fun a o h n => f.hk a o h fun m => n (lock_mt m)
  gk := f.gk
  gn := fun a o h g n => f.gn a o h g fun m => n (lock_mt m)
  mm := fun a o h m => by
    have hi : i < env.length := (List.getElem?_eq_some_iff.mp e).1
    rcases unlk_cases (i := i) (env := env') with ⟨l', e3, q⟩ | q
    · rw [q] at m
      obtain ⟨j, s, e1, hm, m⟩ := m
      rcases set_look e1 with ⟨rfl, rfl⟩ | ⟨w, e2⟩
      · obtain ⟨s0, h0, w0, _, ef⟩ := f.lk j (.lk l') rfl e3
        have w0 : s0 = .lk l' := w0
        refine ⟨j, _, e, rfl, ?_⟩
        rw [← ef w0 rfl]
        exact m
      · exact lock_mt (f.mm a o h ⟨j, s, e2, hm, m⟩)
    · rw [q] at m
      exact lock_mt (f.mm a o h m)
  lk := fun j t hf q => by
    have hi : i < env.length := (List.getElem?_eq_some_iff.mp e).1
    have q' : env'[j]? = some t ∧ i ≠ j := by
      rcases unlk_cases (i := i) (env := env') with ⟨l', e3, z⟩ | z
      · rw [z] at q
        rcases set_look q with ⟨rfl, rfl⟩ | ⟨w, e2⟩
        · cases hf
        · exact ⟨e2, w⟩
      · rw [z] at q
        refine ⟨q, fun w => ?_⟩
        subst w
        obtain ⟨s0, h0, w0, _⟩ := f.lk i t hf q
        rw [List.getElem?_set_self hi] at h0
        cases h0
        cases t with
        | lk l' =>
          have z2 : unlk i env' = env'.set i (.ow l') := by unfold unlk; rw [q]
          rw [z2] at z
          have : (env'.set i (.ow l'))[i]? = some (.ow l') := List.getElem?_set_self (List.getElem?_eq_some_iff.mp q).1
          rw [z, q] at this
          cases this
        | io o => obtain ⟨o', w0⟩ := w0; cases w0
        | bo l' => cases w0
        | _ => cases hf
    obtain ⟨s0, h0, w0, es, ef⟩ := f.lk j t hf q'.1
    rw [List.getElem?_set_ne q'.2] at h0
    exact ⟨s0, h0, w0, es, ef⟩
theorem unlk_fre {a : Addr} (f : Fre G env a) : Fre G (unlk i env) a := fun j s e m => by
  rcases unlk_cases (i := i) (env := env) with ⟨l', e3, q⟩ | q
  · rw [q] at e
    rcases set_look e with ⟨rfl, rfl⟩ | ⟨w, e2⟩
    · exact f j _ e3 m
    · exact f j s e2 m
  · rw [q] at e
    exact f j s e m
theorem lock_nw {a : Addr} {l : List D} (n : Nw H G (env.set i (.lk l)) a) : Nw H G env a := fun o h => lock_mt (n o h)
theorem rv_unlk {N N' : Addr → Prop} {v : V} {z : Rs} (h : ∀ c, N c → N' c) (rv : RV κ σ N H G env v z) : RV κ σ N' H G (unlk i env) v z := by
  cases z with
  | sh d => exact rv
  | ow l' =>
    obtain ⟨a, xs, h1, h2, h3, h4, h5, h6⟩ := rv
    exact ⟨a, xs, h1, h2, h3, h4, unlk_fre h5, h _ h6⟩
  | tr o =>
    obtain ⟨F, h1, h2⟩ := rv
    exact ⟨F, h1, fun a m => ⟨unlk_fre (h2 a m).1, h _ (h2 a m).2⟩⟩
theorem s_lock {st : Stmt} {m : Ss} {i : Nat} (h : PS X st (tS κ W m)) : PS X st (tS κ W (sLock i m)) := PS.imp h fun D σ H ⟨G, env, r, q⟩ => by
  unfold sLock at q
  split at q
  · rename_i l e
    refine ⟨G, _, r.locked e, ?_⟩
    cases w : m (env.set i (.lk l)) with
    | none => rw [w] at q; exact q
    | some o => cases o with
      | nx e1 => rw [w] at q; exact fun σ' H' G' r' f => q σ' H' G' r'.unlocked (f.unlocked e)
      | bk e1 => rw [w] at q; exact fun σ' H' G' r' f => q σ' H' G' r'.unlocked (f.unlocked e)
      | ct e1 => rw [w] at q; exact fun σ' H' G' r' f => q σ' H' G' r'.unlocked (f.unlocked e)
      | ex x e1 => rw [w] at q; exact fun c d σ' H' G' r' xr f => q c d σ' H' G' r'.unlocked xr (f.unlocked e)
      | rt z => rw [w] at q; exact fun v H' G' s rr f => q v H' G' s (rr.mono fun c n => lock_nw n) ⟨fun a o h n => f.hk a o h fun m => n (lock_mt m), f.gk, fun a o h g n => f.gn a o h g fun m => n (lock_mt m)⟩
      | rv z e1 => rw [w] at q; exact fun v σ' H' G' r' rv f => q v σ' H' G' r'.unlocked (rv_unlk (fun c n => lock_nw n) rv) (f.unlocked e)
  · exact ⟨G, env, r, q⟩
end

/-! ### methods of texts -/
def fM1 (f : List Nat → D → Option Rs) (mo me : Sm D) : Sm Rs := bnd mo fun x => match x with
  | .str w => bnd me fun y e => match f w y with
    | some z => some (.ok z e)
    | none => none
  | _ => fun _ => none
section
variable {X : Cx} {κ : Kx} {W : WX} {o e e2 : Expr} {mo me me2 : Sm D} {pos apos : Pos}
/-- a text's method, one argument -/
theorem v_m1 {id : String} {name : Str} {r : V → List V → Hp → VK → Prop} {f : List Nat → D → Option Rs} (slot : Slot "str" name id) (ty : typeOf (.builtin id) = pure (.type "method_descriptor")) (rule : MtR X id r) (hs : ∀ (W : WX) (σ : L2.St) (w : List Nat) (y : V) (dy : D) (z : Rs) (H : Hp) (G : Gh) (env : En) (Q : VK), f w dy = some z → Rep κ H G σ env → RBq κ H G y dy → EPost κ W (RV κ) σ H G env (some (.ok z env)) Q → r (.str (S w)) [y] H Q)
    (ho : PE X o (tX κ W (RB κ) mo)) (he : PE X e (tX κ W (RB κ) me)) (hst : starEach [e] X.env = [(false, eval e X.env)] := by rfl) (hbase : attributeBase o name X.env (eval o X.env) = eval o X.env := by rfl) (hline : (apos.endLine == pos.line) = true := by rfl) :
    PE X (.Call (.Attribute o name apos) [e] [] pos) (tX κ W (RV κ) (fM1 f mo me)) := PE.imp (pe_m1 slot ty rule ho he hst hbase hline) fun σ H Q ⟨G, env, rp, q⟩ => by
  refine bind_post rp q fun dx e1 x H1 G1 _ rp1 rx s1 f1 q1 => ?_
  cases dx with
  | str w =>
    refine ⟨⟨S w, RBq.str rx⟩, ?_⟩
    refine bind_post rp1 q1 fun dy e2 y H2 G2 _ rp2 ry s2 f2 q3 => ?_
    cases z : f w dy with
    | none => rw [z] at q3; exact q3.elim
    | some u =>
      rw [z] at q3
      rw [RBq.str rx]
      exact hs W σ w y dy u H2 G2 e2 Q z rp2 ry q3
  | _ => exact q1.elim
end
def opFind : List Nat → D → Option Rs
  | a, .str b => some (.sh (.int (Txt.find (S a) (S b))))
  | _, _ => none
def opStarts : List Nat → D → Option Rs
  | a, .str b => some (.sh (.bl (Txt.startswith (S a) (S b))))
  | _, _ => none
def opSplit : List Nat → D → Option Rs
  | a, .str b => if b.length ≠ 0 ∧ a.length ≤ szl then some (.ow ((Txt.split (S a) (S b)).map fun x => .str x.cps.toList)) else none
  | _, _ => none
def opPart : List Nat → D → Option Rs
  | a, .str b => if b.length ≠ 0 ∧ a.length ≤ szl then some (.sh (.tup [.str (Txt.partition (S a) (S b)).1.cps.toList, .str (Txt.partition (S a) (S b)).2.1.cps.toList, .str (Txt.partition (S a) (S b)).2.2.cps.toList])) else none
  | _, _ => none
def allStrs : List D → Option (List (List Nat))
  | [] => some []
  | .str w :: r => match allStrs r with
    | some l => some (w :: l)
    | none => none
  | _ :: _ => none
theorem allStrs_of : ∀ {l : List D} {ns : List (List Nat)}, allStrs l = some ns → l = ns.map D.str
  | [], _, e => by cases e; rfl
  | d :: r, ns, e => by
    cases d <;> try (cases e; done)
    rename_i i
    dsimp only [allStrs] at e
    cases h : allStrs r with
    | none => rw [h] at e; cases e
    | some l =>
      rw [h] at e
      cases e
      rw [allStrs_of h]
      rfl
theorem RpA.ofStrs {κ : Kx} {G : Hp} : ∀ {ns : List (List Nat)} {xs : List V}, RpA κ G xs (ns.map D.str) → xs = (ns.map S).map V.str
  | [], _, .nil => rfl
  | n :: r, _, .cons (.str _) t => by rw [RpA.ofStrs t]; rfl
def opJoin : List Nat → D → Option Rs
  | a, .lst l => match allStrs l with
    | some ws => if (ws.map List.length).sum + ws.length * a.length ≤ szl then some (.sh (.str (Txt.join (S a) (ws.map S)).cps.toList)) else none
    | none => none
  | _, _ => none
theorem rp_S {κ : Kx} {G : Hp} (x : Str) : Rp κ G (.str x) (.str x.cps.toList) := by
  have := Rp.str (κ := κ) (G := G) x.cps.toList
  rw [S_list] at this
  exact this
theorem rpa_Ss {κ : Kx} {G : Hp} : ∀ xs : List Str, RpA κ G (xs.map V.str) (xs.map fun x => D.str x.cps.toList)
  | [] => .nil
  | x :: r => .cons (rp_S x) (rpa_Ss r)
section
variable {X : Cx} {κ : Kx} {W : WX} {o e e2 : Expr} {mo me me2 : Sm D} {pos apos : Pos}
theorem v_find (ho : PE X o (tX κ W (RB κ) mo)) (he : PE X e (tX κ W (RB κ) me)) (hst : starEach [e] X.env = [(false, eval e X.env)] := by rfl) (hbase : attributeBase o "find" X.env (eval o X.env) = eval o X.env := by rfl) (hline : (apos.endLine == pos.line) = true := by rfl) :
    PE X (.Call (.Attribute o "find" apos) [e] [] pos) (tX κ W (RV κ) (fM1 opFind mo me)) := v_m1 PySem.F.slot_str_find PySem.F.type_str_find mt_find (fun W σ w y dy z H G env Q e r ry q => by
  cases dy <;> try (cases e; done)
  cases e
  exact ⟨_, _, rfl, by rw [ry.str], post_sh r (.int _) q⟩) ho he hst hbase hline
theorem v_split (ho : PE X o (tX κ W (RB κ) mo)) (he : PE X e (tX κ W (RB κ) me)) (hst : starEach [e] X.env = [(false, eval e X.env)] := by rfl) (hbase : attributeBase o "split" X.env (eval o X.env) = eval o X.env := by rfl) (hline : (apos.endLine == pos.line) = true := by rfl) :
    PE X (.Call (.Attribute o "split" apos) [e] [] pos) (tX κ W (RV κ) (fM1 opSplit mo me)) := v_m1 PySem.F.slot_str_split PySem.F.type_str_split mt_split (fun W σ w y dy z H G env Q e r ry q => by
  cases dy <;> try (cases e; done)
  dsimp only [opSplit] at e
  split at e
  · rename_i b h
    cases e
    refine ⟨_, _, rfl, by rw [ry.str], by rw [S_len]; simpa using h.1, by rw [S_len]; have := szl_le h.2; have e2 : sizeLine = 16777216 := sizeLine_eq; have h3 : w.length ≤ 1000000 := h.2; omega, fun p hp => post_ow r hp (rpa_Ss _) q⟩
  · cases e) ho he hst hbase hline
theorem v_part (ho : PE X o (tX κ W (RB κ) mo)) (he : PE X e (tX κ W (RB κ) me)) (hst : starEach [e] X.env = [(false, eval e X.env)] := by rfl) (hbase : attributeBase o "partition" X.env (eval o X.env) = eval o X.env := by rfl) (hline : (apos.endLine == pos.line) = true := by rfl) :
    PE X (.Call (.Attribute o "partition" apos) [e] [] pos) (tX κ W (RV κ) (fM1 opPart mo me)) := v_m1 PySem.F.slot_str_partition PySem.F.type_str_partition mt_partition (fun W σ w y dy z H G env Q e r ry q => by
  cases dy <;> try (cases e; done)
  dsimp only [opPart] at e
  split at e
  · rename_i b h
    cases e
    refine ⟨_, _, rfl, by rw [ry.str], by rw [S_len]; simpa using h.1, by rw [S_len]; exact szl_le h.2, fun p hp => post_tup r hp (.cons (rp_S _) (.cons (rp_S _) (.cons (rp_S _) .nil))) q⟩
  · cases e) ho he hst hbase hline
theorem v_join (ho : PE X o (tX κ W (RB κ) mo)) (he : PE X e (tX κ W (RB κ) me)) (hst : starEach [e] X.env = [(false, eval e X.env)] := by rfl) (hbase : attributeBase o "join" X.env (eval o X.env) = eval o X.env := by rfl) (hline : (apos.endLine == pos.line) = true := by rfl) :
    PE X (.Call (.Attribute o "join" apos) [e] [] pos) (tX κ W (RV κ) (fM1 opJoin mo me)) := v_m1 PySem.F.slot_str_join PySem.F.type_str_join mt_join (fun W σ w y dy z H G env Q e r ry q => by
  cases dy <;> try (cases e; done)
  rename_i l
  dsimp only [opJoin] at e
  cases h : allStrs l with
  | none => rw [h] at e; cases e
  | some ws =>
    rw [h] at e
    dsimp only at e
    split at e
    · rename_i hl
      cases e
      rw [allStrs_of h] at ry
      obtain ⟨p, xs, rfl, h1, h2⟩ := ry.lst r.sub
      rw [RpA.ofStrs h2] at h1
      refine ⟨S w, p, ws.map S, rfl, rfl, .inl (SqL.of h1), ?_, post_sh r (rp_S _) q⟩
      have e1 : ((ws.map S).map fun x => x.length) = ws.map List.length := by
        rw [List.map_map]
        exact List.map_congr_left fun x _ => S_len x
      rw [e1, List.length_map, S_len]
      have : (ws.map List.length).sum + ws.length * w.length ≤ 1000000 := hl
      omega
    · cases e) ho he hst hbase hline
end
/-! ### kinds -/
/-- isinstance(x, int) and its like -/
inductive Kd where
  | int | bool | str | list | tuple
def Kd.nm : Kd → String
  | .int => "int" | .bool => "bool" | .str => "str" | .list => "list" | .tuple => "tuple"
def isKd : D → Kd → Option Bool
  | .non, _ => some false
  | .bl _, .int => some true
  | .bl _, .bool => some true
  | .bl _, _ => some false
  | .int _, .int => some true
  | .int _, _ => some false
  | .str _, .str => some true
  | .str _, _ => some false
  | .lst _, .list => some true
  | .lst _, _ => some false
  | .tup _, .tuple => some true
  | .tup _, _ => some false
  | _, _ => none
def fIsi (m : Sm D) (k : Kd) : Sm D := bnd m fun d e => match isKd d k with
  | some b => some (.ok (.bl b) e)
  | none => none
theorem kd_all : ∀ k : Kd, (kitB "NoneType" k.nm = some false) ∧ (kitB "bool" k.nm = isKd (.bl true) k) ∧ (kitB "int" k.nm = isKd (.int 0) k) ∧ (kitB "str" k.nm = isKd (.str []) k) ∧ (kitB "list" k.nm = isKd (.lst []) k) ∧ (kitB "tuple" k.nm = isKd (.tup []) k) := by
  intro k
  cases k <;> decide +kernel
theorem isi_of {κ : Kx} {H G : Hp} {v : V} {d : D} {k : Kd} {b : Bool} (s : Same G H) (r : RBq κ H G v d) (e : isKd d k = some b) : ∃ t, TyX κ.K H v t ∧ PySem.W.kitOne κ.K t (.type k.nm) = some b := by
  obtain ⟨h1, h2, h3, h4, h5, h6⟩ := kd_all k
  cases d with
  | non => cases k <;> (cases e; rw [r.non]; exact ⟨_, .base .non, kit_ty h1⟩)
  | bl c => rw [r.bl]; exact ⟨_, .base (.bl c), kit_ty (h2.trans (by cases k <;> exact e))⟩
  | int i => rw [r.int]; exact ⟨_, .base (.int i), kit_ty (h3.trans (by cases k <;> exact e))⟩
  | str w => rw [r.str]; exact ⟨_, .base (.str _), kit_ty (h4.trans (by cases k <;> exact e))⟩
  | lst l =>
    obtain ⟨a, xs, rfl, g1, g2⟩ := r.lst s
    exact ⟨_, .base (.lst g1), kit_ty (h5.trans (by cases k <;> exact e))⟩
  | tup l =>
    obtain ⟨a, xs, rfl, g1, g2⟩ := r.tup s
    exact ⟨_, .base (.tup g1), kit_ty (h6.trans (by cases k <;> exact e))⟩
  | ob c l => cases k <;> cases e
  | scr l => cases k <;> cases e
  | xn o x => cases k <;> cases e
section
variable {X : Cx} {κ : Kx} {W : WX} {o e : Expr} {mo : Sm D} {pos p p2 : Pos}
theorem v_isi {T : Str} (k : Kd) (hK : X.K = κ.K) (hg : Gl X "isinstance") (hm : X.mg "isinstance" = none) (hT : PE X (.Name T p2) (tC (.ty k.nm))) (ho : PE X o (tX κ W (RB κ) mo))
    (hv : bootBuiltins "isinstance" = some (.builtin "isinstance") := by decide +kernel) (hst : starEach [o, .Name T p2] X.env = [(false, eval o X.env), (false, eval (.Name T p2) X.env)] := by rfl) (hst2 : starEach [.Name T p2] X.env = [(false, eval (.Name T p2) X.env)] := by rfl) (hpl : (backTo pos (starEach [.Name T p2] X.env)).any (·.1) = false := by rfl) :
    PE X (.Call (.Name "isinstance" p) [o, .Name T p2] [] pos) (tX κ W (RP κ) (fIsi mo k)) :=
  PE.imp (pe_callB call_isi hg hm hv (pa_cons ho (pa_cons hT pa_nil (by rw [hst2]; rfl)) (by rw [hst, hst2])) (by decide) (by decide) (by rw [hst, hst2]) hpl) fun σ H Q ⟨G, env, rp, q⟩ => by
    refine bind_post rp q fun d e1 x H1 G1 _ rp1 rx s1 f1 q1 => ?_
    cases z : isKd d k with
    | none => rw [z] at q1; exact q1.elim
    | some b =>
      rw [z] at q1
      obtain ⟨t, h1, h2⟩ := isi_of rp1.sub rx z
      rw [hK]
      exact ⟨x, .ty k.nm, t, .type k.nm, b, rfl, .ty _, h1, h2, q1 _ H1 G1 rp1 (.bl b) (Grw.refl _) Fr.refl⟩
end
/-! ### defs -/
inductive FO where
  | rt (r : Rs) | ex (x : Ex)
abbrev FSem := List D → Option FO
/-- .. of a def that is handed a thing to be changed -/
inductive FOI where
  | rt (r : Rs) (o : O) | ex (x : Ex) (o : O)
abbrev FSemI := O → List D → Option FOI
def RF (κ : Kx) (H H' G' : Hp) (v : V) : Rs → Prop
  | .sh d => Rp κ G' v d
  | .ow l => ∃ a xs, v = .ref a ∧ H a = none ∧ H' a = some (.lst xs) ∧ G' a = none ∧ RpA κ G' xs l
  | .tr o => ∃ F, RO κ H' G' v o F ∧ ∀ a, a ∈ F → H a = none
def FPost (κ : Kx) (H G : Hp) (o : Option FO) (Q : VK) (E : XK) : Prop := match o with
  | none => False
  | some (.rt r) => ∀ v H' G', Grw H H' → Same G G' → Sub κ G' H' → (∀ a o, H a = some o → G a = none → G' a = none) → RF κ H H' G' v r → Q v H'
  | some (.ex x) => ∀ c d H' G', Grw H H' → Same G G' → Sub κ G' H' → (∀ a o, H a = some o → G a = none → G' a = none) → XR κ G' x c d → E c d H'
def spV (κ : Kx) (ms : List Bool) (g : FSem) : Sp := fun vs H Q E => ∃ G ds, Sub κ G H ∧ RBs κ H G ms vs ds ∧ FPost κ H G (g ds) Q E
/-- what a thing at F has become -/
structure Chg (κ : Kx) (H G : Hp) (F : List Addr) (H' G' : Hp) : Prop where
  hk : ∀ a z, H a = some z → a ∉ F → ∃ o', H' a = some o' ∧ (nt z → o' = z)
  gk : Same G G'
  sub : Sub κ G' H'
  gn : ∀ a z, H a = some z → G a = none → a ∉ F → G' a = none
def RFI (κ : Kx) (H H' G' : Hp) (F F' : List Addr) (v : V) : Rs → Prop
  | .sh d => Rp κ G' v d
  | .ow l => ∃ a xs, v = .ref a ∧ (a ∈ F ∨ H a = none) ∧ a ∉ F' ∧ H' a = some (.lst xs) ∧ G' a = none ∧ RpA κ G' xs l
  | .tr o => ∃ F2, RO κ H' G' v o F2 ∧ ∀ a, a ∈ F2 → (a ∈ F ∨ H a = none) ∧ a ∉ F'
def FPostI (κ : Kx) (H G : Hp) (u : V) (F : List Addr) (o : Option FOI) (Q : VK) (E : XK) : Prop := match o with
  | none => False
  | some (.rt r o') => ∀ v H' G' F', Chg κ H G F H' G' → RO κ H' G' u o' F' → (∀ a, a ∈ F' → a ∈ F ∨ H a = none) → RFI κ H H' G' F F' v r → Q v H'
  | some (.ex x o') => ∀ c d H' G' F', Chg κ H G F H' G' → RO κ H' G' u o' F' → (∀ a, a ∈ F' → a ∈ F ∨ H a = none) → XR κ G' x c d → E c d H'
def insA {α : Type} : Nat → α → List α → List α
  | 0, x, l => x :: l
  | _ + 1, x, [] => [x]
  | n + 1, x, y :: l => y :: insA n x l
/-- borrowed arguments lie apart from F -/
inductive RBx (κ : Kx) (H G : Hp) (F : List Addr) : List Bool → List V → List D → Prop
  | nil : RBx κ H G F [] [] []
  | sh {ms : List Bool} {v : V} {vs : List V} {d : D} {ds : List D} : Rp κ G v d → RBx κ H G F ms vs ds → RBx κ H G F (false :: ms) (v :: vs) (d :: ds)
  | bo {ms : List Bool} {v : V} {vs : List V} {d : D} {ds : List D} : (Rp κ G v d ∨ ∃ a xs l, d = .lst l ∧ v = .ref a ∧ H a = some (.lst xs) ∧ RpA κ G xs l ∧ a ∉ F) → RBx κ H G F ms vs ds → RBx κ H G F (true :: ms) (v :: vs) (d :: ds)
def spI (κ : Kx) (p : Nat) (ms : List Bool) (g : FSemI) : Sp := fun vs H Q E => ∃ G v us ds o F, vs = insA p v us ∧ p ≤ ms.length ∧ Sub κ G H ∧ RO κ H G v o F ∧ RBx κ H G F ms us ds ∧ FPostI κ H G v F (g o ds) Q E
theorem RBs.len {κ : Kx} {H G : Hp} : ∀ {ms : List Bool} {vs : List V} {ds : List D}, RBs κ H G ms vs ds → vs.length = ms.length ∧ ds.length = ms.length
  | _, _, _, .nil => ⟨rfl, rfl⟩
  | _, _, _, .sh _ t => by simp [t.len.1, t.len.2]
  | _, _, _, .bo _ t => by simp [t.len.1, t.len.2]
theorem RBx.len {κ : Kx} {H G : Hp} {F : List Addr} : ∀ {ms : List Bool} {vs : List V} {ds : List D}, RBx κ H G F ms vs ds → vs.length = ms.length ∧ ds.length = ms.length
  | _, _, _, .nil => ⟨rfl, rfl⟩
  | _, _, _, .sh _ t => by simp [t.len.1, t.len.2]
  | _, _, _, .bo _ t => by simp [t.len.1, t.len.2]
theorem RBs.x {κ : Kx} {H G : Hp} {F : List Addr} (h : ∀ a, a ∈ F → H a = none) : ∀ {ms : List Bool} {vs : List V} {ds : List D}, RBs κ H G ms vs ds → RBx κ H G F ms vs ds
  | _, _, _, .nil => .nil
  | _, _, _, .sh r t => .sh r (RBs.x h t)
  | _, _, _, .bo (.inl r) t => .bo (.inl r) (RBs.x h t)
  | _, _, _, .bo (.inr ⟨a, xs, l, h1, h2, h3, h4⟩) t => .bo (.inr ⟨a, xs, l, h1, h2, h3, h4, fun m => by rw [h a m] at h3; cases h3⟩) (RBs.x h t)
theorem RBx.mono {κ : Kx} {H G H' G' : Hp} {F : List Addr} (h : Grw H H') (g : Same G G') : ∀ {ms : List Bool} {vs : List V} {ds : List D}, RBx κ H G F ms vs ds → RBx κ H' G' F ms vs ds
  | _, _, _, .nil => .nil
  | _, _, _, .sh r t => .sh (r.mono g) (RBx.mono h g t)
  | _, _, _, .bo (.inl r) t => .bo (.inl (r.mono g)) (RBx.mono h g t)
  | _, _, _, .bo (.inr ⟨a, xs, l, h1, h2, h3, h4, h5⟩) t => .bo (.inr ⟨a, xs, l, h1, h2, h.at h3, h4.mono g, h5⟩) (RBx.mono h g t)
theorem RpA.x {κ : Kx} {H G : Hp} {F : List Addr} : ∀ {ms : List Bool} {vs : List V} {ds : List D}, ms.length = vs.length → RpA κ G vs ds → RBx κ H G F ms vs ds
  | [], _, _, _, .nil => .nil
  | [], _, _, h, .cons _ _ => by cases h
  | _ :: _, _, _, h, .nil => by cases h
  | false :: ms, _, _, h, .cons r t => .sh r (RpA.x (by simpa using h) t)
  | true :: ms, _, _, h, .cons r t => .bo (.inl r) (RpA.x (by simpa using h) t)
def bof : D → Sl
  | .lst l => .bo l
  | d => .sh d
def inis : List Bool → List D → En
  | true :: ms, d :: ds => bof d :: inis ms ds
  | false :: ms, d :: ds => .sh d :: inis ms ds
  | _, _ => []
def runDef (ms : List Bool) (k : Nat) (body : Ss) : FSem := fun ds => match body (inis ms ds ++ List.replicate k .un) with
  | some (.nx _) => some (.rt (.sh .non))
  | some (.rt r) => some (.rt r)
  | some (.ex x _) => some (.ex x)
  | _ => none
def ioAt (e : En) (p : Nat) : Option O := match e[p]? with
  | some (.io o) => some o
  | _ => none
def runDefI (p : Nat) (ms : List Bool) (k : Nat) (body : Ss) : FSemI := fun o ds => match body (insA p (.io o) (inis ms ds) ++ List.replicate k .un) with
  | some (.nx e) => match ioAt e p with
    | some o' => some (.rt (.sh .non) o')
    | none => none
  | some (.rv r e) => match ioAt e p with
    | some o' => some (.rt r o')
    | none => none
  | some (.ex x e) => match ioAt e p with
    | some o' => some (.ex x o')
    | none => none
  | _ => none
section
variable {κ : Kx} {H G : Hp}
/-- a slot at a def's start -/
def SlIn (κ : Kx) (H G : Hp) (F : List Addr) (v : Option V) : Sl → Prop
  | .un => True
  | .sh d => ∃ x, v = some x ∧ Rp κ G x d
  | .bo l => ∃ a xs, v = some (.ref a) ∧ H a = some (.lst xs) ∧ RpA κ G xs l ∧ a ∉ F
  | .io o => ∃ x, v = some x ∧ RO κ H G x o F
  | _ => False
theorem bof_in {F : List Addr} {v : V} {d : D} (s : Same G H) (hF : ∀ a, a ∈ F → G a = none) (r : Rp κ G v d ∨ ∃ a xs l, d = .lst l ∧ v = .ref a ∧ H a = some (.lst xs) ∧ RpA κ G xs l ∧ a ∉ F) : SlIn κ H G F (some v) (bof d) := by
  rcases r with r | ⟨a, xs, l, rfl, rfl, h3, h4, h5⟩
  · cases r with
    | lst h1 h2 => exact ⟨_, _, rfl, s _ _ h1, h2, fun m => by rw [hF _ m] at h1; cases h1⟩
    | non => exact ⟨_, rfl, .non⟩
    | bl b => exact ⟨_, rfl, .bl b⟩
    | int b => exact ⟨_, rfl, .int b⟩
    | str b => exact ⟨_, rfl, .str b⟩
    | tup h1 h2 => exact ⟨_, rfl, .tup h1 h2⟩
    | ob h1 h2 h3 => exact ⟨_, rfl, .ob h1 h2 h3⟩
    | scr h1 => exact ⟨_, rfl, .scr h1⟩
    | xn h1 => exact ⟨_, rfl, .xn h1⟩
  · exact ⟨a, xs, rfl, h3, h4, h5⟩
theorem inis_in {F : List Addr} (s : Same G H) (hF : ∀ a, a ∈ F → G a = none) : ∀ {ms : List Bool} {vs : List V} {ds : List D}, RBx κ H G F ms vs ds → ∀ (i : Nat) (z : Sl), (inis ms ds)[i]? = some z → SlIn κ H G F vs[i]? z ∧ ∀ o, z ≠ .io o
  | _, _, _, .nil, i, z, e => by simp [inis] at e
  | _, _, _, .sh r t, 0, z, e => by
    simp only [inis, List.getElem?_cons_zero, Option.some.injEq] at e
    subst e
    exact ⟨⟨_, rfl, r⟩, fun o q => nomatch q⟩
  | _, _, _, .bo r t, 0, z, e => by
    simp only [inis, List.getElem?_cons_zero, Option.some.injEq] at e
    subst e
    refine ⟨bof_in s hF r, fun o => ?_⟩
    unfold bof
    split <;> exact (fun z => nomatch z)
  | _, _, _, .sh r t, i + 1, z, e => by
    simp only [inis, List.getElem?_cons_succ] at e
    simpa only [List.getElem?_cons_succ] using inis_in s hF t i z e
  | _, _, _, .bo r t, i + 1, z, e => by
    simp only [inis, List.getElem?_cons_succ] at e
    simpa only [List.getElem?_cons_succ] using inis_in s hF t i z e
theorem inis_len : ∀ {ms : List Bool} {ds : List D}, ds.length = ms.length → (inis ms ds).length = ms.length
  | [], [], _ => rfl
  | [], _ :: _, h => by cases h
  | _ :: _, [], h => by cases h
  | true :: ms, d :: ds, h => by
    simp only [inis, List.length_cons]
    rw [inis_len (by simpa using h)]
  | false :: ms, d :: ds, h => by
    simp only [inis, List.length_cons]
    rw [inis_len (by simpa using h)]
/-- the addresses of the slots at the start -/
def fpS (F : List Addr) (env : En) (vs : List V) : Nat → List Addr := fun j => match env[j]? with
  | some (.bo _) => match vs[j]? with
    | some (.ref a) => [a]
    | _ => []
  | some (.io _) => F
  | _ => []
theorem rep_in {N : List Str} {vs : List V} {env0 : En} {k : Nat} {F : List Addr} (s : Sub κ G H) (hl : env0.length = vs.length) (hk : N.length = vs.length + k) (h : ∀ (i : Nat) (z : Sl), env0[i]? = some z → SlIn κ H G F vs[i]? z) (hu : ∀ (i j : Nat) (o o' : O), env0[i]? = some (Sl.io o) → env0[j]? = some (Sl.io o') → i = j) :
    Rep κ H ⟨G, fpS F (env0 ++ List.replicate k .un) vs⟩ (start N vs) (env0 ++ List.replicate k .un) := by
  have look : ∀ {i : Nat} {z : Sl}, (env0 ++ List.replicate k Sl.un)[i]? = some z → (i < vs.length ∧ env0[i]? = some z) ∨ z = .un := fun {i z} e => by
    by_cases hi : i < env0.length
    · rw [List.getElem?_append_left hi] at e
      exact .inl ⟨by omega, e⟩
    · rw [List.getElem?_append_right (by omega)] at e
      have := List.mem_of_getElem? e
      rw [List.mem_replicate] at this
      exact .inr this.2
  have st : ∀ {i : Nat}, i < vs.length → (start N vs)[i]? = (vs[i]?).map some := fun {i} hi => by
    unfold L2.start
    rw [List.getElem?_append_left (by rw [List.length_map]; exact hi), List.getElem?_map]
  refine ⟨s, ?_, fun i z e => ?_, fun i j a t ⟨s1, o, e1, t1, m1⟩ e2 m2 => ?_⟩
  · unfold L2.start
    rw [List.length_append, List.length_append, List.length_map, List.length_replicate, List.length_replicate]
    omega
  · show RSl κ H G _ (fpS F _ vs i) z
    rcases look e with ⟨hi, e2⟩ | rfl
    · have q := h i z e2
      rw [st hi]
      cases z with
      | un => show fpS F _ vs i = []; unfold fpS; rw [e]
      | sh d =>
        obtain ⟨x, h1, h2⟩ := q
        rw [h1]
        exact ⟨by unfold fpS; rw [e], x, rfl, h2⟩
      | bo l =>
        obtain ⟨a, xs, h1, h2, h3, h4⟩ := q
        rw [h1]
        exact ⟨a, xs, rfl, h2, h3, by unfold fpS; rw [e]; dsimp only; rw [h1]⟩
      | io o =>
        obtain ⟨x, h1, h2⟩ := q
        rw [h1]
        refine ⟨x, rfl, ?_⟩
        have : fpS F (env0 ++ List.replicate k Sl.un) vs i = F := by unfold fpS; rw [e]
        rw [this]
        exact h2
      | _ => exact q.elim
    · show fpS F _ vs i = []; unfold fpS; rw [e]
  · have m1 : a ∈ fpS F (env0 ++ List.replicate k Sl.un) vs i := m1
    have m2 : a ∈ fpS F (env0 ++ List.replicate k Sl.un) vs j := m2
    unfold fpS at m1 m2
    rw [e1] at m1
    rw [e2] at m2
    rcases look e1 with ⟨hi, e1'⟩ | rfl
    · have q1 := h i s1 e1'
      cases s1 with
      | io o1 =>
        rcases look e2 with ⟨hj, e2'⟩ | rfl
        · have q2 := h j t e2'
          cases t with
          | io o2 => exact hu i j _ _ e1' e2'
          | bo l =>
            obtain ⟨b, xs, h1, h2, h3, h4⟩ := q2
            dsimp only at m2
            rw [h1] at m2
            rw [List.mem_singleton.mp m2] at m1
            exact absurd m1 h4
          | _ => cases m2
        · cases m2
      | un => cases t1
      | sh d => cases t1
      | bo l => cases t1
      | _ => exact q1.elim
    · cases t1
theorem mt_start {vs : List V} {env0 : En} {k : Nat} {F : List Addr} {a : Addr} (m : Mt ⟨G, fpS F (env0 ++ List.replicate k .un) vs⟩ (env0 ++ List.replicate k .un) a) (h : ∀ (i : Nat) (z : Sl), env0[i]? = some z → SlIn κ H G F vs[i]? z) : a ∈ F ∧ ∃ (i : Nat) (o : O), env0[i]? = some (Sl.io o) := by
  obtain ⟨i, s, e, hm, m⟩ := m
  have m : a ∈ fpS F (env0 ++ List.replicate k Sl.un) vs i := m
  by_cases hi : i < env0.length
  · have e2 := e
    rw [List.getElem?_append_left hi] at e2
    have q := h i s e2
    unfold fpS at m
    rw [e] at m
    cases s with
    | io o => exact ⟨m, i, o, e2⟩
    | ow l => exact q.elim
    | tr o => exact q.elim
    | _ => cases hm
  · rw [List.getElem?_append_right (by omega)] at e
    have := List.mem_of_getElem? e
    rw [List.mem_replicate] at this
    rw [this.2] at hm
    cases hm
/-- the end of a def's proof -/
theorem v_end {N : List Str} {ms : List Bool} {k : Nat} {body : Ss} {vs : List V} {Q : VK} {E : XK} (hk : N.length = ms.length + k) (h : spV κ ms (runDef ms k body) vs H Q E) :
    tS κ (fun c d _ H' => E c d H') body { nx := fun _ H' => Q .non H', rt := Q } (start N vs) H := by
  obtain ⟨G, ds, s, r, q⟩ := h
  obtain ⟨l1, l2⟩ := r.len
  have rx := r.x (F := []) fun a m => by cases m
  have hin : ∀ (i : Nat) (z : Sl), (inis ms ds)[i]? = some z → SlIn κ H G [] vs[i]? z ∧ ∀ o, z ≠ .io o := inis_in s (fun a m => by cases m) rx
  have rp := rep_in (N := N) (k := k) (F := []) s (by rw [inis_len l2, l1]) (by rw [l1]; exact hk) (fun i z e => (hin i z e).1) fun i j o o' e _ => ((hin i _ e).2 o rfl).elim
  have nm : ∀ a, ¬ Mt ⟨G, fpS [] (inis ms ds ++ List.replicate k .un) vs⟩ (inis ms ds ++ List.replicate k .un) a := fun a m => by
    obtain ⟨m, _⟩ := mt_start m fun i z e => (hin i z e).1
    cases m
  refine ⟨_, _, rp, ?_⟩
  unfold runDef at q
  cases z : body (inis ms ds ++ List.replicate k Sl.un) with
  | none => rw [z] at q; exact q
  | some o => cases o with
    | nx e =>
      rw [z] at q
      exact fun σ' H' G' r' f => q .non H' G' (fun a o h => f.hk a o h (nm a)) f.gk r'.sub (fun a o h g => f.gn a o h g (nm a)) .non
    | bk e => rw [z] at q; exact q.elim
    | ct e => rw [z] at q; exact q.elim
    | rv r e => rw [z] at q; exact q.elim
    | rt x =>
      rw [z] at q
      intro v H' G' s' rr f
      refine q v H' G' (fun a o h => f.hk a o h (nm a)) f.gk s' (fun a o h g => f.gn a o h g (nm a)) ?_
      have fresh : ∀ a, Nw H ⟨G, fpS [] (inis ms ds ++ List.replicate k .un) vs⟩ (inis ms ds ++ List.replicate k .un) a → H a = none := fun a n => by
        cases w : H a with
        | none => rfl
        | some o => exact (nm a (n o w)).elim
      cases x with
      | sh d => exact rr
      | ow l =>
        obtain ⟨a, xs, h1, h2, h3, h4, h5⟩ := rr
        exact ⟨a, xs, h1, fresh a h5, h2, h3, h4⟩
      | tr o =>
        obtain ⟨F, h1, h2⟩ := rr
        exact ⟨F, h1, fun a m => fresh a (h2 a m)⟩
    | ex x e =>
      rw [z] at q
      exact fun c d σ' H' G' r' xr f => q c d H' G' (fun a o h => f.hk a o h (nm a)) f.gk r'.sub (fun a o h g => f.gn a o h g (nm a)) xr
end
/-- a def of the module that keeps its function: callers need no more -/
structure VFn (P : Program) (w : World) (κ : Kx) (mg : Str → Option Value) (base : Heap) (x : Str) (k : Nat) (ms : List Bool) (g : FSem) : Prop where
  ex : ∃ (f : Addr) (fd : FuncData) (ps : List Str), mg x = some (.ref f) ∧ PySem.W.keepIn κ.K (.ref f) = true ∧ FnOk P w κ.K mg base (L2.CX P w) k f fd ps (spV κ ms g) ∧ Binds κ.K fd ps []
structure VFnI (P : Program) (w : World) (κ : Kx) (mg : Str → Option Value) (base : Heap) (x : Str) (k : Nat) (p : Nat) (ms : List Bool) (g : FSemI) : Prop where
  ex : ∃ (f : Addr) (fd : FuncData) (ps : List Str), mg x = some (.ref f) ∧ PySem.W.keepIn κ.K (.ref f) = true ∧ FnOk P w κ.K mg base (L2.CX P w) k f fd ps (spI κ p ms g) ∧ Binds κ.K fd ps []
def fCall (g : FSem) (m : Sm (List D)) : Sm Rs := bnd m fun ds e => match g ds with
  | some (.rt r) => some (.ok r e)
  | some (.ex x) => some (.ex x e)
  | none => none
/-- a thing that is changed, at a slot -/
def getO : Sl → Option O
  | .ow l => some (.ls l)
  | .io o => some o
  | .tr o => some o
  | _ => none
def setO : Sl → O → Sl
  | .io _, o => .io o
  | .ow _, .ls l => .ow l
  | _, o => .tr o
def fCallI (i : Nat) (g : FSemI) (m : Sm (List D)) : Sm Rs := bnd m fun ds e => match e[i]? with
  | some s => match getO s with
    | some o => match g o ds with
      | some (.rt r o') => some (.ok r (e.set i (setO s o')))
      | some (.ex x o') => some (.ex x (e.set i (setO s o')))
      | none => none
    | none => none
  | none => none
section
variable {X : Cx} {κ : Kx} {W : WX} {e : Expr} {es : List Expr} {ms : List Bool} {g : FSem} {gI : FSemI} {mr : Sm (List D)} {k : Nat} {x : Str} {p pos : Pos}
theorem call_post {σ : L2.St} {H : Hp} {G : Gh} {env : En} {vs : List V} {ds : List D} {Q : VK} (r : Rep κ H G σ env) (rv : RBs κ H G ms vs ds) (q : EPost κ W (RV κ) σ H G env (match g ds with
  | some (.rt r) => some (.ok r env)
  | some (.ex x) => some (.ex x env)
  | none => none) Q) : spV κ ms g vs H Q (WE W σ) := by
  refine ⟨G.g, ds, r.sub, rv, ?_⟩
  have gr : ∀ {H' G' : Hp}, Grw H H' → Same G.g G' → Sub κ G' H' → (∀ a o, H a = some o → G.g a = none → G' a = none) → Rep κ H' ⟨G', G.fp⟩ σ env ∧ Fr H G σ env H' ⟨G', G.fp⟩ σ env := fun {H' G'} s g1 g2 gn =>
    ⟨r.grow (G' := ⟨G', G.fp⟩) s g1 g2 (fun _ => rfl) fun i a o => by
      obtain ⟨⟨u, h⟩, g0⟩ := r.own o
      exact gn a _ h g0, Fr.same s g1 (fun a o h g0 _ => gn a o h g0) (fun _ _ _ h => h) fun _ _ _ h => ⟨h, rfl⟩⟩
  cases z : g ds with
  | none => rw [z] at q; exact q
  | some o => cases o with
    | rt y =>
      rw [z] at q
      intro v H' G' s g1 g2 gn rf
      obtain ⟨r1, f1⟩ := gr s g1 g2 gn
      refine q v H' ⟨G', G.fp⟩ r1 ?_ s f1
      have fr : ∀ a, H a = none → Fre ⟨G', G.fp⟩ env a ∧ Nw H G env a := fun a h2 => ⟨r.fre h2, fun o h => by rw [h2] at h; cases h⟩
      cases y with
      | sh d => exact rf
      | ow l =>
        obtain ⟨a, xs, h1, h2, h3, h4, h5⟩ := rf
        exact ⟨a, xs, h1, h3, h4, h5, (fr a h2).1, (fr a h2).2⟩
      | tr o =>
        obtain ⟨F, h1, h2⟩ := rf
        exact ⟨F, h1, fun a m => fr a (h2 a m)⟩
    | ex y =>
      rw [z] at q
      intro c d H' G' s g1 g2 gn xr
      obtain ⟨r1, f1⟩ := gr s g1 g2 gn
      exact q c d H' ⟨G', G.fp⟩ r1 xr s f1
theorem v_call (F : VFn X.prog X.w κ X.mg X.base x k ms g) (hK : X.K = κ.K) (hr : Room k X.A) (tk : Takes X W) (hg : Gl X x) (ha : PA X (e :: es) (tX κ W (RA κ ms) mr)) (hdb : (x == ("__debug__" : Str)) = false := by decide)
    (he : starEach (e :: es) X.env = (false, eval e X.env) :: starEach es X.env := by rfl) (hpl : (backTo pos (starEach es X.env)).any (·.1) = false := by rfl) : PE X (.Call (.Name x p) (e :: es) [] pos) (tX κ W (RV κ) (fCall g mr)) := by
  obtain ⟨f, fd, ps, hm, hk, F1, hb⟩ := F.ex
  rw [← hK] at hk F1 hb
  refine PE.imp (pe_callS F1 hr hg hm hk hb (fun σ => passAt tk σ) ha hdb he hpl) fun σ H Q ⟨G, env, r, q⟩ => ?_
  exact bind_post r q fun d e1 vs H1 G1 em r1 rv s1 f1 q1 => call_post r1 rv q1
/-- all given away -/
def RAP (κ : Kx) : Rl (List D) (List V) := fun _ _ _ G _ vs ds => RpA κ G vs ds
instance : RlMono (RAP κ) := ⟨fun _ q => q⟩
end
def fM2 (f : List Nat → D → D → Option Rs) (mo me me2 : Sm D) : Sm Rs := bnd mo fun x => match x with
  | .str w => bnd me fun y => bnd me2 fun y2 e => match f w y y2 with
    | some z => some (.ok z e)
    | none => none
  | _ => fun _ => none
def opFind3 : List Nat → D → D → Option Rs
  | a, .str b, .int i => some (.sh (.int (Txt.find3 (S a) (S b) i)))
  | _, _, _ => none
def opStarts3 : List Nat → D → D → Option Rs
  | a, .str b, .int i => some (.sh (.bl (Txt.startswith3 (S a) (S b) i)))
  | _, _, _ => none
section
variable {X : Cx} {κ : Kx} {W : WX} {o e e2 : Expr} {mo me me2 : Sm D} {pos apos : Pos}
end
theorem spV_len {κ : Kx} {ms : List Bool} {g : FSem} {vs : List V} {H : Hp} {Q : VK} {E : XK} (h : spV κ ms g vs H Q E) : vs.length = ms.length := by
  obtain ⟨G, ds, _, r, _⟩ := h
  exact r.len.1
/-! ### the row's end -/
def spLaw (K : PySem.W.Frag) : Sp := fun vs H Q _ => ∃ (a : Addr) (ns : List Int), vs = [.ref a] ∧ SqL K H a (ns.map V.int) ∧ ns.length ≤ 63 ∧ (∀ z ∈ ns, Builtin.Int.intBits z ≤ 1048576) ∧ ∀ H', Q (.bl true) H'
/-- the law's function tells True of every script -/
def LawTrue (g : FSem) : Prop := ∀ ns : List Int, ns.length ≤ 63 → (∀ z ∈ ns, Builtin.Int.intBits z ≤ 1048576) → g [.scr ns] = some (.rt (.sh (.bl true)))
open Classical in
/-- a heap without its tables -/
noncomputable def noTb (H : Hp) : Hp := fun a => if (∃ ps, H a = some (.tbl ps)) then none else H a
theorem noTb_at {H : Hp} {a : Addr} {o : HO} (h : H a = some o) (n : nt o) : noTb H a = some o := by
  unfold noTb
  rw [if_neg]
  · exact h
  · rintro ⟨ps, e⟩
    rw [h] at e
    exact n ps (Option.some.inj e)
theorem noTb_of {H : Hp} {a : Addr} {o : HO} (h : noTb H a = some o) : H a = some o ∧ nt o := by
  unfold noTb at h
  split at h
  · cases h
  · rename_i z
    exact ⟨h, fun ps e => z ⟨ps, by rw [h, e]⟩⟩
theorem law_spZ {κ : Kx} {g : FSem} {m : Bool} (hg : LawTrue g) {a : Addr} {ns : List Int} {H : Hp} {Q : VK} {E : XK} (ht : LamX.Tabs κ.tb H) (hs : SqZ κ.K H a (ns.map V.int)) (hl : ns.length ≤ 63) (hb : ∀ z ∈ ns, Builtin.Int.intBits z ≤ 1048576) (k : ∀ v H', Grw H H' → v = .bl true → Q v H') : spV κ [m] g [.ref a] H Q E := by
  have hs' : SqZ κ.K (noTb H) a (ns.map V.int) := hs.imp (fun ⟨o, r⟩ => ⟨o, noTb_at r fun _ z => nomatch z⟩) id
  have rp : Rp κ (noTb H) (.ref a) (.scr ns) := .scr hs'
  refine ⟨noTb H, [.scr ns], ⟨fun b o e => (noTb_of e).1, fun b o e => (noTb_of e).2, ht⟩, ?_, ?_⟩
  · cases m with
    | true => exact .bo (.inl rp) .nil
    | false => exact .sh rp .nil
  · rw [hg ns hl hb]
    intro v H' G' gw _ _ _ r
    cases r
    exact k _ H' gw rfl
/-- a list is locked while the def runs -/
def spLk (sp : Sp) : Sp := fun vs H Q E => sp vs H Q E ∨ ∃ d xs, H d = some (.lst xs) ∧ ∀ od, sp vs (upd H d (.frz od (.lst xs))) (fun v H' => H' d = some (.frz od (.lst xs)) ∧ Q v (upd H' d (.lst xs))) fun _ _ _ => False
theorem law_spT {κ : Kx} {g : FSem} {m : Bool} (hg : LawTrue g) (vs : List V) (H : Hp) (Q : VK) (E : XK) (ht : LamX.Tabs κ.tb H) (h : spLaw κ.K vs H Q E) : spLk (spV κ [m] g) vs H Q E := by
  obtain ⟨a, ns, rfl, hs, hl, hb, k⟩ := h
  rcases SqZ.of hs with p | z
  · refine .inr ⟨a, _, p, fun od => law_spZ hg (tabs_of ht fun b o e np => ?_) (.inl ⟨od, upd_same⟩) hl hb fun v H' gw ev => ?_⟩
    · have : b ≠ a := fun z => by
        rw [z, p] at e
        cases e
        exact np ⟨(fun _ z => nomatch z), fun _ z => nomatch z⟩
      rw [upd_ne this]
      exact e
    · subst ev
      exact ⟨gw.at upd_same (fun _ z => nomatch z), k _⟩
  · exact .inl (law_spZ hg ht z hl hb fun v H' _ ev => by subst ev; exact k _)
theorem law_sp {κ : Kx} {g : FSem} {m : Bool} (hg : LawTrue g) (vs : List V) (H : Hp) (Q : VK) (E : XK) (h : spLaw κ.K vs H Q E) (ht : κ.tb = [] := by rfl) : spLk (spV κ [m] g) vs H Q E :=
  law_spT hg vs H Q E (by rw [ht]; exact fun p hp => by cases hp) h
theorem cx_no {P : Program} {w : World} {outer : List Env} {H : Hp} {s : Shared} {e : Value} {s' : Shared} (h : L2.CX P w outer H s (fun _ _ _ => False) e s') : False := by
  obtain ⟨_, _, _, _, _, _, _, _, _, _, _, _, z⟩ := h
  exact z.elim
theorem hok_lock {P : Program} {w : World} {H : Hp} {h : Heap} {d : Addr} {xs : List V} (k : HOk P w H h) (e : H d = some (.lst xs)) : ∃ od, HOk P w (upd H d (.frz od (.lst xs))) h := by
  have x := k d _ e
  obtain ⟨od, q⟩ : ∃ od, h.get? d = some od := by
    obtain ⟨_, _, _, _, q⟩ := id x
    exact ⟨_, q⟩
  refine ⟨od, fun b o eb => ?_⟩
  have st : ∀ {c : Addr} {u : HO}, ObjOk P w H h c u → ObjOk P w (upd H d (.frz od (.lst xs))) h c u := fun {c u} y => y.stay (fun _ _ _ q => q) (fun b q => by rw [upd_ne (fun z => by rw [z, e] at q; cases q)]; exact q) fun b xs q => by rw [upd_ne (fun z => by rw [z, e] at q; cases q)]; exact q
  by_cases hb : b = d
  · rw [hb, upd_same] at eb
    cases eb
    rw [hb]
    exact ⟨q, st x⟩
  · rw [upd_ne hb] at eb
    exact st (k b o eb)
theorem hok_unlock {P : Program} {w : World} {H : Hp} {h : Heap} {d : Addr} {od : Obj} {xs : List V} (k : HOk P w H h) (e : H d = some (.frz od (.lst xs))) : HOk P w (upd H d (.lst xs)) h := by
  obtain ⟨_, x⟩ := k d _ e
  have st : ∀ {c : Addr} {u : HO}, ObjOk P w H h c u → ObjOk P w (upd H d (.lst xs)) h c u := fun {c u} y => y.stay (fun _ _ _ q => q) (fun b q => by rw [upd_ne (fun z => by rw [z, e] at q; cases q)]; exact q) fun b xs q => by rw [upd_ne (fun z => by rw [z, e] at q; cases q)]; exact q
  intro b o eb
  by_cases hb : b = d
  · rw [hb, upd_same] at eb
    cases eb
    rw [hb]
    exact st x
  · rw [upd_ne hb] at eb
    exact st (k b o eb)
theorem fn_lock {P : Program} {w : World} {K : PySem.W.Frag} {mg : Str → Option Value} {base : Heap} {k : Nat} {f : Addr} {fd : FuncData} {ps : List Str} {sp : Sp} (F : FnOk P w K mg base (L2.CX P w) k f fd ps sp) : FnOk P w K mg base (L2.CX P w) k f fd ps (spLk sp) := by
  refine ⟨fun vs H Q E h => ?_, fun A outer s H args us vs Q E hr he hb hv h => ?_⟩
  · rcases h with h | ⟨d, xs, _, h⟩
    · exact F.len vs H Q E h
    · exact F.len _ _ _ _ (h { cls := .none, data := .fields #[] })
  · rcases h with h | ⟨d, xs, e, h⟩
    · exact F.run A outer s H args us vs Q E hr he hb hv h
    · obtain ⟨od, hok⟩ := hok_lock he.hok e
      have nn : ∀ b, H b = none → b ≠ d := fun b n z => by rw [z, e] at n; cases n
      have he' : Env0 P w K mg base A outer s (upd H d (.frz od (.lst xs))) := ⟨he.frames, he.mod, fun b o q => ⟨(he.bs b o q).1, by rw [upd_ne (nn b (he.bs b o q).2)]; exact (he.bs b o q).2⟩, he.bsz, he.funs, fun b m => by rw [upd_ne (nn b (he.frf b m))]; exact he.frf b m, hok, he.bare⟩
      refine codeAny_mono (F.run A outer s _ args us vs _ _ hr he' hb hv (h od)) fun r s' q => ?_
      cases r with
      | error u => exact (cx_no q).elim
      | ok y => cases y with
        | ret u =>
          obtain ⟨v, H', o1, o2, un, o3, o4, o5, o6⟩ := q
          refine ⟨v, upd H' d (.lst xs), o1, o2, ⟨fun b o q n => un.keep b o q (by rw [upd_ne (nn b n)]; exact n), fun b o q n => un.slot b o q (by rw [upd_ne (nn b n)]; exact n), fun b o q n hx => ?_, un.there, fun b ys q => ?_, fun b o u q => ?_, fun b qs q => ?_⟩, hok_unlock o3 o5, o4, o6⟩
          · rw [upd_ne (nn b n)]
            exact un.free b o q (by rw [upd_ne (nn b n)]; exact n) hx
          · have nb : b ≠ d := fun z => by rw [z, e] at q; cases q
            rw [upd_ne nb]
            exact un.tups b ys (by rw [upd_ne nb]; exact q)
          · have nb : b ≠ d := fun z => by rw [z, e] at q; cases q
            rw [upd_ne nb]
            exact un.frzs b o u (by rw [upd_ne nb]; exact q)
          · have nb : b ≠ d := fun z => by rw [z, e] at q; cases q
            obtain ⟨m, q'⟩ := un.tbls b qs (by rw [upd_ne nb]; exact q)
            exact ⟨m, by rw [upd_ne nb]; exact q'⟩
        | _ => exact q.elim
theorem cx_out {P : Program} {w : World} {H : Hp} {s : Shared} {e : Value} {s' : Shared} (h : L2.CX P w [] H s (fun _ _ _ => False) e s') : False := by
  obtain ⟨_, _, _, _, _, _, _, _, _, _, _, _, z⟩ := h
  exact z.elim
theorem walk_law {l : PySem.W.OpenLaw} {x : Str} {k : Nat} {q : Program} {loose : List Str} {XP : (Str → Option Value) → Heap → Prop} {YP : World → Heap → Prop} {d : DefRec} {K : Params → PySem.W.Frag} (hn : l.most = some 63) (hdf : d.params.defaults = []) (hr : Room k PySem.callerA)
    (hY : ∀ (w : World) (h : Heap), YP w h → (K w.params).In h)
    (F : ∀ (w : World) (mg : Str → Option Value) (fa : Addr) (h : Heap), (K w.params).In h → h.Ns mainGlobals mg → mg d.name = some (.ref fa) →
      ∃ fd : FuncData, (∀ (s : Shared) (u : Value), BindsTo s fd ⟨[u], []⟩ [(x, u)]) ∧ ∀ base : Heap, (K w.params).In base → base.Ns mainGlobals mg → FnOk l.prog w (K w.params) mg base (L2.CX l.prog w) k fa fd [x] (spLaw (K w.params))) :
    PySem.W.WalkO q loose XP YP l.row.toRowW d [] (fun f vs => PySem.call f vs) :=
  L2.walk_ofB (n := 63) (k := k) (x := x) (CX := fun w => L2.CX l.prog w) (sp := fun w => spLaw (K w.params)) hn (by decide) hdf hr hY F (fun _ _ a ns hl hb _ hS => ⟨a, ns, rfl, hS, hl, hb, fun _ => rfl⟩) fun _ _ _ _ _ z => cx_out z
end Vs


set_option Elab.async false
set_option linter.all false
set_option maxRecDepth 100000
set_option maxHeartbeats 2000000
/-! Vs2: comprehensions. -/
namespace Vs
open PySem L2
abbrev WF : WX := fun _ _ _ _ => False
def unE : List Nat → En → En
  | [], e => e
  | v :: vs, e => (unE vs e).set v .un
def unG : List Nat → Gh → Gh
  | [], G => G
  | v :: vs, G => (unG vs G).put v []
theorem unG_g : ∀ (vs : List Nat) (G : Gh), (unG vs G).g = G.g
  | [], _ => rfl
  | v :: vs, G => unG_g vs G
def UnAt (vs : List Nat) (env : En) : Prop := ∀ v ∈ vs, ∀ s, env[v]? = some s → s = .un
def Off (vs : List Nat) (σ σ' : L2.St) : Prop := ∀ j, j ∉ vs → σ[j]? = σ'[j]?
theorem Off.symm {vs : List Nat} {σ σ' : L2.St} (o : Off vs σ σ') : Off vs σ' σ := fun j h => (o j h).symm
theorem off_wipe {vs : List Nat} {σ : L2.St} : Off vs σ (wipe σ vs) := fun j h => (wipe_out h).symm
theorem wipe_in {σ : L2.St} {j : Nat} : ∀ {vs : List Nat}, j ∈ vs → (wipe σ vs)[j]? = if j < σ.length then some none else none
  | v :: vs, h => by
    unfold wipe
    by_cases e : v = j
    · subst e
      by_cases hl : v < σ.length
      · rw [if_pos hl, List.getElem?_set_self (by rw [wipe_length]; exact hl)]
      · rw [if_neg hl, List.getElem?_eq_none (by rw [List.length_set, wipe_length]; omega)]
    · rw [List.getElem?_set_ne e]
      exact wipe_in ((List.mem_cons.mp h).resolve_left fun w => e w.symm)
theorem wipe_eq {vs : List Nat} {σ σ' : L2.St} (o : Off vs σ σ') (l : σ'.length = σ.length) : wipe σ' vs = wipe σ vs := by
  refine List.ext_getElem? fun j => ?_
  by_cases h : j ∈ vs
  · rw [wipe_in h, wipe_in h, l]
  · rw [wipe_out h, wipe_out h, o j h]
section
variable {κ : Kx} {H H' : Hp} {G G' : Gh} {σ σ' τ τ' : L2.St} {env env' : En} {vs : List Nat} {a L : Addr}
theorem unE_at : ∀ vs : List Nat, UnAt vs (unE vs env)
  | [], v, h, _, _ => nomatch h
  | v :: vs, w, h, s, e => by
    unfold unE at e
    rcases set_look e with ⟨_, q⟩ | ⟨q, e2⟩
    · exact q
    · exact unE_at vs w ((List.mem_cons.mp h).resolve_left fun z => q z.symm) s e2
theorem Rep.drop1 (r : Rep κ H G σ env) (i : Nat) : Rep κ H (G.put i []) σ (env.set i .un) := by
  have back : ∀ {j : Nat} {b : Addr}, Own (G.put i []) (env.set i .un) j b → Own G env j b ∧ i ≠ j := fun {j b} ⟨u, o', e', t', m⟩ => by
    rcases set_look e' with ⟨rfl, rfl⟩ | ⟨w, e2⟩
    · cases t'
    · rw [put_ne w] at m
      exact ⟨⟨u, o', e2, t', m⟩, w⟩
  refine ⟨r.sub, by rw [List.length_set]; exact r.len, fun j s e => ?_, fun j k b t ow e m => ?_⟩
  · rcases set_look e with ⟨rfl, rfl⟩ | ⟨w, e2⟩
    · exact put_at
    · show RSl κ H G.g _ ((G.put i []).fp j) s
      rw [put_ne w]
      exact r.slot j s e2
  · rcases set_look e with ⟨rfl, rfl⟩ | ⟨w, e2⟩
    · rw [put_at] at m; cases m
    · rw [put_ne w] at m
      exact r.inj j k b t (back ow).1 e2 m
theorem Fr.drop1 (i : Nat) : Fr H G σ env H (G.put i []) σ (env.set i .un) := Fr.same (Grw.refl _) (Same.refl _) (fun _ _ _ h _ => h) (fun b o h ⟨j, s, e, hm, m⟩ => by
    rcases set_look e with ⟨rfl, rfl⟩ | ⟨w, e2⟩
    · cases hm
    · rw [put_ne w] at m
      exact ⟨j, s, e2, hm, m⟩) fun j s hf e => by
  rcases set_look e with ⟨rfl, rfl⟩ | ⟨w, e2⟩
  · cases hf
  · exact ⟨e2, put_ne w⟩
theorem Rep.unE (r : Rep κ H G σ env) : ∀ vs : List Nat, Rep κ H (unG vs G) σ (unE vs env)
  | [] => r
  | v :: vs => (Rep.unE r vs).drop1 v
theorem Fr.unE : ∀ vs : List Nat, Fr H G σ env H (unG vs G) σ (unE vs env)
  | [] => Fr.refl
  | v :: vs => (Fr.unE vs).trans (Fr.drop1 v)
theorem un_off {i : Nat} {s : Sl} (u : UnAt vs env) (o : Off vs σ σ') (e : env[i]? = some s) (h : s ≠ .un) : σ[i]? = σ'[i]? := o i fun m => h (u i m s e)
theorem Rep.off (u : UnAt vs env) (o : Off vs σ σ') (hl : σ'.length = σ.length) (r : Rep κ H G σ env) : Rep κ H G σ' env := by
  refine ⟨r.sub, hl.trans r.len, fun i s e => ?_, r.inj⟩
  by_cases h : s = .un
  · subst h; exact r.slot i _ e
  · rw [← un_off u o e h]
    exact r.slot i s e
theorem fix_un {s : Sl} (h : s.fix = true) : s ≠ .un := fun z => by subst z; cases h
theorem Fr.offR (u : UnAt vs env') (o : Off vs τ τ') (f : Fr H G σ env H' G' τ env') : Fr H G σ env H' G' τ' env' where
  hk := f.hk
  gk := f.gk
  gn := f.gn
  mm := f.mm
  lk := fun i s hf e => by
    obtain ⟨s0, e1, w, e2, e3⟩ := f.lk i s hf e
    exact ⟨s0, e1, w, (un_off u o e (fix_un hf)).symm.trans e2, e3⟩
/-- a list in no slot stays so -/
theorem Fre.keep {u : HO} (r : Rep κ H G σ env) (r' : Rep κ H' G' σ' env') (f : Fr H G σ env H' G' σ' env') (h : H L = some u) (g0 : G.g L = none) (p : Fre G env L) : Fre G' env' L := fun i s e m => by
  have nm : ¬ Mt G env L := fun ⟨j, t, e2, _, m2⟩ => p j t e2 m2
  by_cases hm : s.mut = true
  · exact nm (f.mm L u h ⟨i, s, e, hm, m⟩)
  · have hm' : s.mut = false := by simpa using hm
    by_cases hf : s.fix = true
    · obtain ⟨s0, e1, w, _, e3⟩ := f.lk i s hf e
      have q := was_eq hm' hf w
      subst q
      rw [e3 rfl hm'] at m
      exact p i _ e1 m
    · have q := r'.slot i s e
      cases s with
      | un => rw [show G'.fp i = [] from q] at m; cases m
      | sh d => rw [q.1] at m; cases m
      | lk l => exact hf rfl
      | bo l => exact hf rfl
      | ow l => exact hm rfl
      | io o => exact hm rfl
      | tr o => exact hm rfl
theorem Fre.mt (p : Fre G env L) : ¬ Mt G env L := fun ⟨j, t, e2, _, m2⟩ => p j t e2 m2
/-- the list that is made -/
structure DA (κ : Kx) (H : Hp) (G : Gh) (env : En) (L : Addr) (acc : List D) (xs : List V) : Prop where
  h : H L = some (.lst xs)
  g : G.g L = none
  r : RpA κ G xs acc
  f : Fre G env L
theorem DA.keep {acc : List D} {xs : List V} (r : Rep κ H G σ env) (r' : Rep κ H' G' σ' env') (d : DA κ H G env L acc xs) (s : Grw H H') (f : Fr H G σ env H' G' σ' env') : DA κ H' G' env' L acc xs :=
  ⟨s.at d.h, f.gn L _ d.h d.g d.f.mt, d.r.mono f.gk, d.f.keep r r' f d.h d.g⟩
theorem Rep.updD {acc : List D} {xs ys : List V} (r : Rep κ H G σ env) (d : DA κ H G env L acc xs) : Rep κ (upd H L (.lst ys)) G σ env := by
  have ne : ∀ {i : Nat} {s : Sl} {b : Addr}, env[i]? = some s → b ∈ G.fp i → b ≠ L := fun {i s b} e m z => d.f i s e (z ▸ m)
  refine ⟨⟨same_upd r.sub.s d.g, r.sub.n, tabs_of r.sub.t fun a o e np => by
    by_cases z : a = L
    · rw [z, d.h] at e
      cases e
      exact (np ⟨(fun _ z => nomatch z), (fun _ z => nomatch z)⟩).elim
    · rw [upd_ne z]
      exact e⟩, r.len, fun i s e => ?_, r.inj⟩
  have t := r.slot i s e
  have th : ∀ {o : O}, s.th = some o → RSl κ (upd H L (.lst ys)) G σ[i]? (G.fp i) s := fun {o} z => by
    obtain ⟨x, h1, h2⟩ := t.th z
    exact .of z h1 (h2.grow (Same.refl _) (fun b u m h => by rw [upd_ne (ne e m)]; exact h) fun b m => (h2.own m).2)
  cases s with
  | un => exact t
  | sh x => exact t
  | ow m => exact th rfl
  | lk m => exact th rfl
  | io m => exact th rfl
  | tr m => exact th rfl
  | bo m =>
    obtain ⟨b, zs, t1, t2, t4, t5⟩ := t
    exact ⟨b, zs, t1, by rw [upd_ne (ne e (by rw [t5]; exact List.mem_singleton_self b))]; exact t2, t4, t5⟩
theorem Fr.updD {u : HO} (h : H L = none) (f : Fr H G σ env H' G' σ' env') : Fr H G σ env (upd H' L u) G' σ' env' where
  hk := fun a o e n => by rw [upd_ne (ne_of_none e h)]; exact f.hk a o e n
  gk := f.gk
  gn := f.gn
  mm := f.mm
  lk := f.lk
end
/-- a target whose names are the comprehension's own -/
def TgOff (κ : Kx) (vs : List Nat) (g : TG) (f : D → En → Option En) : Prop := ∀ (v : V) (d : D) (σ : L2.St) (H : Hp) (G : Gh) (env e1 : En) (Q : L2.St → Hp → Prop), f d env = some e1 → Rep κ H G σ env → Rp κ G v d → (∀ σ1 G1, Rep κ H G1 σ1 e1 → Fr H G σ env H G1 σ1 e1 → Off vs σ σ1 → σ1.length = σ.length → Q σ1 H) → g v σ H Q
section
variable {κ : Kx} {vs : List Nat}
theorem off_set {σ : L2.St} {i : Nat} {x : Option V} (h : i ∈ vs) : Off vs σ (σ.set i x) := fun j n => by
  rw [List.getElem?_set_ne (fun z : i = j => n (z ▸ h))]
theorem to_name (i : Nat) (hi : (vs.elem i) = true) : TgOff κ vs (gName i) (tgN i) := fun v d σ H G env e1 Q e r h q => by
  have hi := List.mem_of_elem_eq_true hi
  unfold tgN at e
  by_cases hl : i < env.length
  · rw [if_pos hl] at e
    cases e
    obtain ⟨G1, _, a, b⟩ := rep_sh r hl h
    exact q _ G1 a b (off_set hi) (List.length_set ..)
  · rw [if_neg hl] at e; cases e
end
def lcL (f : D → En → Option En) (tt : Sm Bool) (te : Sm D) (vs : List Nat) : List D → List D → Sm Rs
  | [], acc, e => some (.ok (.ow acc) e)
  | d :: ds, acc, e => match f d e with
    | none => none
    | some e1 => match tt e1 with
      | some (.ok true e2) => match te e2 with
        | some (.ok y e3) => lcL f tt te vs ds (acc ++ [y]) (unE vs e3)
        | _ => none
      | some (.ok false e2) => lcL f tt te vs ds acc (unE vs e2)
      | _ => none
def fLc (mi : Sm (List D)) (f : D → En → Option En) (tt : Sm Bool) (te : Sm D) (vs : List Nat) : Sm Rs := bnd mi fun ds e => if ds.length ≤ szl then lcL f tt te vs ds [] (unE vs e) else none
def tYs : Sm Bool := ret true
section
variable {X : Cx} {κ : Kx} {W : WX}
theorem lc_tr {wi : TI} {g : TG} {ttr : TT} {ter : TE} {vs : List Nat} {mi : Sm (List D)} {f : D → En → Option En} {tt : Sm Bool} {te : Sm D} {σ : L2.St} {H : Hp} {Q : VK}
    (hwi : ∀ σ H (P : It → Hp → Prop), tX κ W (RI κ) mi σ H P → wi σ H P) (hf : TgOff κ vs g f) (htt : ∀ σ H P, tX κ WF RT tt σ H P → ttr σ H P) (hte : ∀ σ H P, tX κ WF (RP κ) te σ H P → ter σ H P) (h : tX κ W (RV κ) (fLc mi f tt te vs) σ H Q) : tLc wi g ttr ter vs σ H Q := by
  obtain ⟨G, env, r, q⟩ := h
  refine hwi _ _ _ (bind_post r q fun ds e1 J H1 G1 em r1 rv s1 f1 q1 => ?_)
  obtain ⟨pr, hpr, yl⟩ := rv
  have hsz : ds.length ≤ szl := by
    by_cases hsz : ds.length ≤ szl
    · exact hsz
    · rw [if_neg hsz] at q1; exact q1.elim
  rw [if_pos hsz] at q1
  intro D hD
  have ow : Off vs σ (wipe σ vs) := off_wipe
  have lw : (wipe σ vs).length = σ.length := wipe_length σ vs
  let Inv0 : Nat → Hp → Prop := fun i H' => i ≤ ds.length ∧ ∃ G' env' acc xs, Rep κ H' G' (wipe σ vs) env' ∧ UnAt vs env' ∧ Fr H1 G1 σ e1 H' G' (wipe σ vs) env' ∧ DA κ H' G' env' D acc xs ∧ acc.length ≤ i ∧ Grw H1 H' ∧ EPost κ W (RV κ) σ H1 G1 e1 (lcL f tt te vs (ds.drop i) acc env') Q
  refine ⟨fun i m H' => m = ds.length - i ∧ Inv0 i H', ⟨ds.length, by simp, Nat.zero_le _, ?_⟩, ?_⟩
  · obtain ⟨st, rv⟩ := new_ow (xs := []) (l := []) r1 hD .nil
    obtain ⟨a0, xs0, e0, d1, d2, d3, d4, _⟩ := rv
    cases e0
    have u := unE_at (env := e1) vs
    have fu : Fr (upd H1 D (.lst [])) G1 σ e1 (upd H1 D (.lst [])) (unG vs G1) (wipe σ vs) (unE vs e1) := (Fr.unE vs).offR u ow
    have ru := (st.rep.unE vs).off u ow lw
    exact ⟨unG vs G1, unE vs e1, [], [], ru, u, st.fr.trans fu, ⟨upd_same, by rw [unG_g]; exact d2, .nil, d4.keep st.rep ru fu upd_same d2⟩, Nat.le_refl _, st.same, q1⟩
  rintro i m H2 ⟨rfl, hi2, G2, env2, acc, xs, r2, u2, fr2, da, al, sm, q2⟩
  have y := yl H2 G2 (fun a o pa e n => fr2.at e (hpr a pa)) fr2.gk r2.sub i
  by_cases hlt : i < ds.length
  · right
    have ed : ds[i]? = some ds[i] := List.getElem?_eq_getElem hlt
    have dr : ds.drop i = ds[i] :: ds.drop (i + 1) := (List.drop_eq_getElem_cons hlt)
    obtain ⟨go, yy⟩ := y.1 _ ed
    refine ⟨go, Inv0 (i + 1), fun H' h => ⟨ds.length - (i + 1), by omega, rfl, h⟩, fun x H3 hy => ?_⟩
    rw [dr] at q2
    dsimp only [lcL] at q2
    cases z : f ds[i] env2 with
    | none => rw [z] at q2; exact q2.elim
    | some e3 =>
      rw [z] at q2
      dsimp only at q2
      have item : ∃ G3 : Gh, Rep κ H3 G3 (wipe σ vs) env2 ∧ Fr H2 G2 (wipe σ vs) env2 H3 G3 (wipe σ vs) env2 ∧ Rp κ G3 x ds[i] ∧ Grw H2 H3 := by
        rcases yy x H3 hy with ⟨rfl, rx⟩ | ⟨T, ts, es, hT, rfl, rfl, e4, rx⟩
        · exact ⟨G2, r2, Fr.refl, rx, Grw.refl _⟩
        · have st := new_sh (o := .tup ts) r2 hT
          refine ⟨G2.up T (.tup ts), st.rep, st.fr, ?_, st.same⟩
          rw [e4]
          exact .tup upd_same (rx.mono (same_new (r2.sub.none hT)))
      obtain ⟨G3, r3, fr3, rx, s3⟩ := item
      refine hf x ds[i] (wipe σ vs) H3 G3 env2 e3 _ z r3 rx fun σ4 G4 r4 fr4 off4 len4 => ?_
      have off : Off vs σ σ4 := fun j n => (ow j n).trans (off4 j n)
      have len : σ4.length = σ.length := len4.trans lw
      refine ⟨wipe_eq off len, htt _ _ _ ⟨G4, e3, r4, ?_⟩⟩
      have da3 := (da.keep r2 r3 s3 fr3).keep r3 r4 (Grw.refl _) fr4
      have frA := (fr2.trans fr3).trans fr4
      have smA := sm.trans s3
      cases w : tt e3 with
      | none => rw [w] at q2; exact q2
      | some o => cases o with
        | ex x5 e5 => rw [w] at q2; exact q2.elim
        | ok b e5 =>
          rw [w] at q2
          intro b' H5 G5 r5 rb s5 fr5
          cases rb
          have da5 := da3.keep r4 r5 s5 fr5
          have frB := frA.trans fr5
          have back : ∀ {e : En}, Off vs σ4 (wipe σ vs) := fun {e} j n => (off j n).symm.trans (ow j n)
          cases b with
          | false =>
            rw [if_neg (by decide)]
            have u := unE_at (env := e5) vs
            have fu : Fr H5 G5 σ4 e5 H5 (unG vs G5) (wipe σ vs) (unE vs e5) := (Fr.unE vs).offR u (back (e := e5))
            have ru := (r5.unE vs).off u (back (e := e5)) (lw.trans len.symm)
            exact ⟨hlt, unG vs G5, unE vs e5, acc, xs, ru, u, frB.trans fu, da5.keep r5 ru (Grw.refl _) fu, by omega, smA.trans s5, q2⟩
          | true =>
            rw [if_pos rfl]
            dsimp only at q2
            refine hte _ _ _ ⟨G5, e5, r5, ?_⟩
            cases w6 : te e5 with
            | none => rw [w6] at q2; exact q2
            | some o6 => cases o6 with
              | ex x6 e6 => rw [w6] at q2; exact q2.elim
              | ok yd e6 =>
                rw [w6] at q2
                intro v H6 G6 r6 rv6 s6 fr6
                have da6 := da5.keep r5 r6 s6 fr6
                have u := unE_at (env := e6) vs
                have fu : Fr H6 G6 σ4 e6 H6 (unG vs G6) (wipe σ vs) (unE vs e6) := (Fr.unE vs).offR u (back (e := e6))
                have ru := (r6.unE vs).off u (back (e := e6)) (lw.trans len.symm)
                have da7 := da6.keep r6 ru (Grw.refl _) fu
                have hxs : xs.length = acc.length := da.r.length
                refine ⟨xs, da6.h, szl_lt (by omega), hlt, unG vs G6, unE vs e6, acc ++ [yd], xs ++ [v], ru.updD da7, u, ((frB.trans fr6).trans fu).updD hD, ⟨upd_same, da7.g, by rw [unG_g]; exact da6.r.append (.cons rv6 .nil), da7.f⟩, ?_, ?_, q2⟩
                · rw [List.length_append, List.length_singleton]; omega
                · intro a o e
                  rw [upd_ne (ne_of_none e hD)]
                  exact ((smA.trans s5).trans s6) a o e
  · left
    have e : i = ds.length := by omega
    subst e
    refine ⟨y.2 (Nat.le_refl _), ?_⟩
    rw [List.drop_length] at q2
    have ob : Off vs (wipe σ vs) σ := ow.symm
    exact q2 (.ref D) H2 G2 (r2.off u2 ob lw.symm) ⟨D, xs, rfl, da.h, da.g, da.r, da.f, fun o h => by rw [hD] at h; cases h⟩ sm (fr2.offR u2 ob)
variable {elt tg iter : Expr} {ifs : List Expr} {scope : Scope} {own : List (Str × Nat)} {pos spos py : Pos} {g : TG} {mi : Sm (List D)} {f : D → En → Option En} {tt : Sm Bool} {te : Sm D} {vs : List Nat}
theorem pts_yes : PTs X [] (tX κ WF RT tYs) := ⟨fun pins s σ H Q I ⟨G, env, r, q⟩ => pts_nil.run pins s σ H Q I (q true H G r rfl (Grw.refl _) Fr.refl)⟩
theorem v_lc (hc : X.calm = true) (hN : X.N.Nodup) (hv : vs = own.map (·.2)) (hi : PI X tg iter (tX κ W (RI κ) mi)) (ok : BlkOk X.N X.env.scope scope own)
    (hg : ∀ (s : Shared) (H : Hp) (C : Addr) (cl : List (Str × Addr)) (fp : List Addr), PG (X.blk s H scope (compEnvC scope cl C X.env) fp) tg g) (hf : TgOff κ vs g f) (ht : ∀ (s : Shared) (H : Hp) (C : Addr) (cl : List (Str × Addr)) (fp : List Addr), PTs (X.blk s H scope (compEnvC scope cl C X.env) fp) ifs (tX κ WF RT tt))
    (he : ∀ (s : Shared) (H : Hp) (C : Addr) (cl : List (Str × Addr)) (fp : List Addr), PE (X.blk s H scope (compEnvC scope cl C X.env) fp) elt (tX κ WF (RP κ) te)) (hs : ∀ x, foldedSetIterable iter X.env x = pure x := by intro _; rfl) :
    PE X (.ListComp elt [⟨tg, iter, ifs, 0⟩] scope pos) (tX κ W (RV κ) (fLc mi f tt te vs)) := by
  subst hv
  exact PE.imp (pe_lc hc hN hi ok hg ht he hs) fun σ H Q h => lc_tr (fun _ _ _ h => h) hf (fun _ _ _ h => h) (fun _ _ _ h => h) h
/-- an own list that is walked in an expression -/
def xLock (i : Nat) (m : Sm Rs) : Sm Rs := fun e => match e[i]? with
  | some (.ow l) => match m (e.set i (.lk l)) with
    | some (.ok r e1) => some (.ok r (unlk i e1))
    | some (.ex x e1) => some (.ex x (unlk i e1))
    | none => none
  | _ => m e
theorem lock_tr {i : Nat} {m : Sm Rs} {σ : L2.St} {H : Hp} {Q : VK} (h : tX κ W (RV κ) (xLock i m) σ H Q) : tX κ W (RV κ) m σ H Q := by
  obtain ⟨G, env, r, q⟩ := h
  unfold xLock at q
  split at q
  · rename_i l e
    refine ⟨G, _, r.locked e, ?_⟩
    cases w : m (env.set i (.lk l)) with
    | none => rw [w] at q; exact q
    | some o => cases o with
      | ex x e1 =>
        rw [w] at q
        exact fun c d H' G' r' xr s f => q c d H' G' r'.unlocked xr s (f.unlocked e)
      | ok z e1 =>
        rw [w] at q
        intro v H' G' r' rv s f
        exact q v H' G' r'.unlocked (rv_unlk (fun c n => lock_nw n) rv) s (f.unlocked e)
  · exact ⟨G, env, r, q⟩
theorem v_lock {i : Nat} {m : Sm Rs} {e : Expr} (h : PE X e (tX κ W (RV κ) m)) : PE X e (tX κ W (RV κ) (xLock i m)) := PE.imp h fun σ H Q q => lock_tr q
theorem s_lcm {i : Nat} {y : Str} {m : Sm Rs} (hm : ∀ σ H Q, tX κ W (RV κ) m σ H Q → tX κ W (RV κ) (fLc mi f tt te vs) σ H Q) (hc : X.calm = true) (hN : X.N.Nodup) (hv : vs = own.map (·.2)) (hy : X.N[i]? = some y) (hyl : X.env.scope.names.lookup y = some .local) (hsw : swapsWith (.ListComp elt [⟨tg, iter, ifs, 0⟩] scope pos) (some (.Name y py)) spos.line X.env = pure true) (hi : PI X tg iter (tX κ W (RI κ) mi)) (ok : BlkOk X.N X.env.scope scope own)
    (hg : ∀ (s : Shared) (H : Hp) (C : Addr) (cl : List (Str × Addr)) (fp : List Addr), PG (X.blk s H scope (compEnvC scope cl C X.env) fp) tg g) (hf : TgOff κ vs g f) (ht : ∀ (s : Shared) (H : Hp) (C : Addr) (cl : List (Str × Addr)) (fp : List Addr), PTs (X.blk s H scope (compEnvC scope cl C X.env) fp) ifs (tX κ WF RT tt))
    (he : ∀ (s : Shared) (H : Hp) (C : Addr) (cl : List (Str × Addr)) (fp : List Addr), PE (X.blk s H scope (compEnvC scope cl C X.env) fp) elt (tX κ WF (RP κ) te)) (hs : ∀ x, foldedSetIterable iter X.env x = pure x := by intro _; rfl) :
    PS X (.Assign [.Name y py] (.ListComp elt [⟨tg, iter, ifs, 0⟩] scope pos) spos) (tS κ W (sAsg i m)) := by
  subst hv
  refine PS.imp (ps_setLc hc hN hy hyl hsw hi ok hg ht he hs) fun D σ H ⟨G, env, r, q⟩ => ?_
  refine lc_tr (W := W) (fun _ _ _ h => h) hf (fun _ _ _ h => h) (fun _ _ _ h => h) (hm _ _ _ ⟨G, env, r, ?_⟩)
  unfold sAsg sbnd at q
  cases w : m env with
  | none => rw [w] at q; exact q
  | some o => cases o with
    | ex x e1 =>
      rw [w] at q
      exact fun c d H' G' a b _ g => q c d σ H' G' a b g
    | ok z e1 =>
      rw [w] at q
      intro v H1 G1 r1 rv s1 f1
      by_cases hl : i < e1.length
      · dsimp only at q
        rw [if_pos hl] at q
        obtain ⟨G2, r2, f2⟩ := put_all r1 hl rv f1
        exact q _ H1 G2 r2 f2
      · dsimp only at q
        rw [if_neg hl] at q; exact q.elim
theorem s_lc {i : Nat} {y : Str} : type_of% (@s_lcm X κ W elt tg iter ifs scope own pos spos py g mi f tt te vs i y (fLc mi f tt te vs) fun _ _ _ h => h) := @s_lcm X κ W elt tg iter ifs scope own pos spos py g mi f tt te vs i y (fLc mi f tt te vs) fun _ _ _ h => h
end
end Vs


set_option Elab.async false
set_option linter.all false
set_option maxRecDepth 100000
set_option maxHeartbeats 2000000
/-! Vx: own errors with one field (turned from the worked proof 42). -/
namespace PySem
namespace LowX_NoWord
open PySem.W PySem.Calls PyProof.Rows PySem.HandSPX
/-! ### the text of __init__ -/
def iA (p1 p2 : Pos) : Arguments := { posonlyargs := [], args := [{ arg := "self", annotation := none, pos := p1 }, { arg := "place", annotation := none, pos := p2 }], vararg := none, kwonlyargs := [], kw_defaults := [], kwarg := none, defaults := [] }
def iB (q1 q2 q3 q4 : Pos) : List Stmt := [.Assign [.Attribute (.Name "self" q1) "place" q2] (.Name "place" q3) q4]
def iS : Scope := { kind := .function, names := [(PySem.Str.ofString "self", .local), (PySem.Str.ofString "place", .local)], isGenerator := false, isCoroutine := false, more := [] }
/-- what the written part says of Low, at C, and of its __init__, at fI -/
structure LowTxt (K : Frag) (mg : Str → Option Value) (C fI : Addr) : Prop where
  gC : mg "NoWord" = some (.ref C)
  cls : ∃ nm q N bs bm sn sub ab col dd k0 k1 k2 k3 k5, K.lookup C = some (excClassObj nm q C N bs bm true sn sub ab col dd k0 k1 k2 k3 k5 "ValueError.__new__") ∧ refsVE bm = true
  sa : findIn K (.ref C) "__setattr__" = some (some (.builtin "object.__setattr__"))
  ga : findIn K (.ref C) "__getattribute__" = some (some (.builtin "BaseException.__getattribute__"))
  gg : findIn K (.ref C) "__getattr__" = some none
  noN : findIn K (.ref C) "place" = some none
  iC : findIn K (.ref C) "__init__" = some (some (.ref fI))
  tC : typeIn K (.ref fI) = some (.type "function")
  kC : keepIn K (.ref C) = true
  exC : subIn K (.ref C) (.type "BaseException") = some true
  tyC : typeIn K (.ref C) = some (.type "type")
  hdC : hasDictIn K C = true
  te : exmOne K (.ref C) (.ref C) = some true
  fn : ∃ (oc : Value) (od : Option Addr) (doc pm : Value) (an : Option Addr) (cdv ct : Value) (osl : Array (Option Value)) (p1 p2 q1 q2 q3 q4 : Pos),
    K.lookup fI = some ⟨oc, od, .func (fnOf "__init__" "NoWord.__init__" (iA p1 p2) (iB q1 q2 q3 q4) iS .none .none doc pm an cdv ct), osl⟩ ∧ codeIn K cdv "NoWord.__init__" = true
/-- what __init__ leaves of a fresh exception at x -/
structure InitEnd (h h' : Heap) (x C dx t1 : Addr) (v : Value) : Prop where
  keep : ∀ b o, b ≠ x → h.get? b = some o → h'.get? b = some o
  obj : h'.get? x = some { cls := .ref C, dict := some dx, data := .fields #[.ref t1, .none, .none, .none, .bool false, .none] }
  dbig : h.objs.size ≤ dx
  dne : dx ≠ x
  ns : h'.Ns1 dx (fun y => if y = "place" then some v else none)
/-- a made Low -/
structure OwnMade (h h' : Heap) (e C d : Addr) (v : Value) : Prop where
  keep : ∀ b o, h.get? b = some o → h'.get? b = some o
  new : h.objs.size ≤ e
  obj : ∃ oe vs, h'.get? e = some oe ∧ oe.cls = .ref C ∧ oe.dict = some d ∧ oe.data = .fields vs ∧ vs[1]? = some .none
  dbig : h.objs.size ≤ d
  dne : d ≠ e
  ns : h'.Ns1 d (fun y => if y = "place" then some v else none)
section
variable {prog : Program} {w : World} {A : Around} {E : Value → Shared → Prop} {R : Result → Shared → Prop} {s : Shared} {K : Frag} {mg : Str → Option Value} {C fI : Addr}
end
end LowX_NoWord
end PySem
namespace L2
open PySem PySem.Spec PyProof.Rows
section
variable {X : Cx} {C fI : Addr}
/-- Low(e) -/
def tMkLow_NoWord (C : Addr) (ta : TA) : St → Hp → XK → Prop := fun σ H Q => ta σ H fun vs H1 => ∃ v, vs = [v] ∧ ∀ d, H1 d = none → Q (.ref C) (some d) (upd H1 d (.xd [(("place" : Str), v)]))
/-- raise Low(e) -/
def tRaiseLow_NoWord (C : Addr) (W : WX) (ta : TA) : TS := fun _ σ H => tMkLow_NoWord C ta σ H fun cls d H' => W cls d σ H'
end
end L2

namespace PySem
namespace LowX_NoUse
open PySem.W PySem.Calls PyProof.Rows PySem.HandSPX
/-! ### the text of __init__ -/
def iA (p1 p2 : Pos) : Arguments := { posonlyargs := [], args := [{ arg := "self", annotation := none, pos := p1 }, { arg := "at", annotation := none, pos := p2 }], vararg := none, kwonlyargs := [], kw_defaults := [], kwarg := none, defaults := [] }
def iB (q1 q2 q3 q4 : Pos) : List Stmt := [.Assign [.Attribute (.Name "self" q1) "at" q2] (.Name "at" q3) q4]
def iS : Scope := { kind := .function, names := [(PySem.Str.ofString "self", .local), (PySem.Str.ofString "at", .local)], isGenerator := false, isCoroutine := false, more := [] }
/-- what the written part says of Low, at C, and of its __init__, at fI -/
structure LowTxt (K : Frag) (mg : Str → Option Value) (C fI : Addr) : Prop where
  gC : mg "NoUse" = some (.ref C)
  cls : ∃ nm q N bs bm sn sub ab col dd k0 k1 k2 k3 k5, K.lookup C = some (excClassObj nm q C N bs bm true sn sub ab col dd k0 k1 k2 k3 k5 "ValueError.__new__") ∧ refsVE bm = true
  sa : findIn K (.ref C) "__setattr__" = some (some (.builtin "object.__setattr__"))
  ga : findIn K (.ref C) "__getattribute__" = some (some (.builtin "BaseException.__getattribute__"))
  gg : findIn K (.ref C) "__getattr__" = some none
  noN : findIn K (.ref C) "at" = some none
  iC : findIn K (.ref C) "__init__" = some (some (.ref fI))
  tC : typeIn K (.ref fI) = some (.type "function")
  kC : keepIn K (.ref C) = true
  exC : subIn K (.ref C) (.type "BaseException") = some true
  tyC : typeIn K (.ref C) = some (.type "type")
  hdC : hasDictIn K C = true
  te : exmOne K (.ref C) (.ref C) = some true
  fn : ∃ (oc : Value) (od : Option Addr) (doc pm : Value) (an : Option Addr) (cdv ct : Value) (osl : Array (Option Value)) (p1 p2 q1 q2 q3 q4 : Pos),
    K.lookup fI = some ⟨oc, od, .func (fnOf "__init__" "NoUse.__init__" (iA p1 p2) (iB q1 q2 q3 q4) iS .none .none doc pm an cdv ct), osl⟩ ∧ codeIn K cdv "NoUse.__init__" = true
/-- what __init__ leaves of a fresh exception at x -/
structure InitEnd (h h' : Heap) (x C dx t1 : Addr) (v : Value) : Prop where
  keep : ∀ b o, b ≠ x → h.get? b = some o → h'.get? b = some o
  obj : h'.get? x = some { cls := .ref C, dict := some dx, data := .fields #[.ref t1, .none, .none, .none, .bool false, .none] }
  dbig : h.objs.size ≤ dx
  dne : dx ≠ x
  ns : h'.Ns1 dx (fun y => if y = "at" then some v else none)
/-- a made Low -/
structure OwnMade (h h' : Heap) (e C d : Addr) (v : Value) : Prop where
  keep : ∀ b o, h.get? b = some o → h'.get? b = some o
  new : h.objs.size ≤ e
  obj : ∃ oe vs, h'.get? e = some oe ∧ oe.cls = .ref C ∧ oe.dict = some d ∧ oe.data = .fields vs ∧ vs[1]? = some .none ∧ vs[2]? = some .none
  dbig : h.objs.size ≤ d
  dne : d ≠ e
  ns : h'.Ns1 d (fun y => if y = "at" then some v else none)
section
variable {prog : Program} {w : World} {A : Around} {E : Value → Shared → Prop} {R : Result → Shared → Prop} {s : Shared} {K : Frag} {mg : Str → Option Value} {C fI : Addr}
end
end LowX_NoUse
end PySem
namespace L2
open PySem PySem.Spec PyProof.Rows
section
variable {X : Cx} {C fI : Addr}
/-- Low(e) -/
def tMkLow_NoUse (C : Addr) (ta : TA) : St → Hp → XK → Prop := fun σ H Q => ta σ H fun vs H1 => ∃ v, vs = [v] ∧ ∀ d, H1 d = none → Q (.ref C) (some d) (upd H1 d (.xd [(("at" : Str), v)]))
/-- raise Low(e) -/
def tRaiseLow_NoUse (C : Addr) (W : WX) (ta : TA) : TS := fun _ σ H => tMkLow_NoUse C ta σ H fun cls d H' => W cls d σ H'
end
end L2

namespace PySem
namespace LowX_NotTurned
open PySem.W PySem.Calls PyProof.Rows PySem.HandSPX
/-! ### the text of __init__ -/
def iA (p1 p2 : Pos) : Arguments := { posonlyargs := [], args := [{ arg := "self", annotation := none, pos := p1 }, { arg := "number", annotation := none, pos := p2 }], vararg := none, kwonlyargs := [], kw_defaults := [], kwarg := none, defaults := [] }
def iB (q1 q2 q3 q4 : Pos) : List Stmt := [.Assign [.Attribute (.Name "self" q1) "number" q2] (.Name "number" q3) q4]
def iS : Scope := { kind := .function, names := [(PySem.Str.ofString "self", .local), (PySem.Str.ofString "number", .local)], isGenerator := false, isCoroutine := false, more := [] }
/-- what the written part says of Low, at C, and of its __init__, at fI -/
structure LowTxt (K : Frag) (mg : Str → Option Value) (C fI : Addr) : Prop where
  gC : mg "NotTurned" = some (.ref C)
  cls : ∃ nm q N bs bm sn sub ab col dd k0 k1 k2 k3 k5, K.lookup C = some (excClassObj nm q C N bs bm true sn sub ab col dd k0 k1 k2 k3 k5 "ValueError.__new__") ∧ refsVE bm = true
  sa : findIn K (.ref C) "__setattr__" = some (some (.builtin "object.__setattr__"))
  ga : findIn K (.ref C) "__getattribute__" = some (some (.builtin "BaseException.__getattribute__"))
  gg : findIn K (.ref C) "__getattr__" = some none
  noN : findIn K (.ref C) "number" = some none
  iC : findIn K (.ref C) "__init__" = some (some (.ref fI))
  tC : typeIn K (.ref fI) = some (.type "function")
  kC : keepIn K (.ref C) = true
  exC : subIn K (.ref C) (.type "BaseException") = some true
  tyC : typeIn K (.ref C) = some (.type "type")
  hdC : hasDictIn K C = true
  te : exmOne K (.ref C) (.ref C) = some true
  fn : ∃ (oc : Value) (od : Option Addr) (doc pm : Value) (an : Option Addr) (cdv ct : Value) (osl : Array (Option Value)) (p1 p2 q1 q2 q3 q4 : Pos),
    K.lookup fI = some ⟨oc, od, .func (fnOf "__init__" "NotTurned.__init__" (iA p1 p2) (iB q1 q2 q3 q4) iS .none .none doc pm an cdv ct), osl⟩ ∧ codeIn K cdv "NotTurned.__init__" = true
/-- what __init__ leaves of a fresh exception at x -/
structure InitEnd (h h' : Heap) (x C dx t1 : Addr) (v : Value) : Prop where
  keep : ∀ b o, b ≠ x → h.get? b = some o → h'.get? b = some o
  obj : h'.get? x = some { cls := .ref C, dict := some dx, data := .fields #[.ref t1, .none, .none, .none, .bool false, .none] }
  dbig : h.objs.size ≤ dx
  dne : dx ≠ x
  ns : h'.Ns1 dx (fun y => if y = "number" then some v else none)
/-- a made Low -/
structure OwnMade (h h' : Heap) (e C d : Addr) (v : Value) : Prop where
  keep : ∀ b o, h.get? b = some o → h'.get? b = some o
  new : h.objs.size ≤ e
  obj : ∃ oe vs, h'.get? e = some oe ∧ oe.cls = .ref C ∧ oe.dict = some d ∧ oe.data = .fields vs ∧ vs[1]? = some .none
  dbig : h.objs.size ≤ d
  dne : d ≠ e
  ns : h'.Ns1 d (fun y => if y = "number" then some v else none)
section
variable {prog : Program} {w : World} {A : Around} {E : Value → Shared → Prop} {R : Result → Shared → Prop} {s : Shared} {K : Frag} {mg : Str → Option Value} {C fI : Addr}
end
end LowX_NotTurned
end PySem
namespace L2
open PySem PySem.Spec PyProof.Rows
section
variable {X : Cx} {C fI : Addr}
/-- Low(e) -/
def tMkLow_NotTurned (C : Addr) (ta : TA) : St → Hp → XK → Prop := fun σ H Q => ta σ H fun vs H1 => ∃ v, vs = [v] ∧ ∀ d, H1 d = none → Q (.ref C) (some d) (upd H1 d (.xd [(("number" : Str), v)]))
/-- raise Low(e) -/
def tRaiseLow_NotTurned (C : Addr) (W : WX) (ta : TA) : TS := fun _ σ H => tMkLow_NotTurned C ta σ H fun cls d H' => W cls d σ H'
end
end L2


set_option Elab.async false
set_option linter.all false
set_option maxRecDepth 100000
set_option maxHeartbeats 2000000
/-! Vs3: errors of the program's own. -/
namespace Vs
open PySem L2
open Classical in
/-- what does not hang on where the caught error stands -/
noncomputable def allEq {α : Type} (F : Xo → Option α) : Option α := if ∀ o, F o = F ⟨0, .none, none⟩ then F ⟨0, .none, none⟩ else none
theorem allEq_of {α : Type} {F : Xo → Option α} {a : α} (h : allEq F = some a) (o : Xo) : F o = some a := by
  unfold allEq at h
  split at h
  · rename_i q
    rw [q o, h]
  · cases h
theorem allEq_const {α : Type} {a : Option α} : allEq (fun _ => a) = a := by
  unfold allEq
  rw [if_pos fun _ => rfl]
def fRaise0 (c : Nat) : Ss := fun e => some (.ex ⟨c, none⟩ e)
def fRaise1 (c : Nat) (m : Sm D) : Ss := sbnd m fun d e => match d with
  | .int z => some (.ex ⟨c, some z⟩ e)
  | _ => none
section
variable {X : Cx} {κ : Kx} {W : WX}
abbrev veB : List Value := [.type "ValueError", .type "Exception", .type "BaseException", .type "object"]
theorem s_raise0 {c : Nat} {x m : Str} {j : Nat} {p p2 pos pos2 : Pos} (hc : X.calm = true) (hK : X.K = κ.K) (hf : κ.xf c = none) (tk : Takes X W) (gC : X.mg x = some (.ref (κ.xc c))) (q : PySem.W.excIn κ.K (κ.xc c) veB "ValueError.__new__" = true) (kC : PySem.W.keepIn κ.K (.ref (κ.xc c)) = true)
    (bP : PySem.W.subIn κ.K (.ref (κ.xc c)) (.type "BaseException") = some true) (tP : PySem.W.typeIn κ.K (.ref (κ.xc c)) = some (.type "type")) (hg : Gl X x) (hdb : (x == ("__debug__" : Str)) = false := by decide) :
    PS X (.Raise (some (.Call (.Name x p) [.Constant (.str m) j p2] [] pos)) none pos2) (tS κ W (fRaise0 c)) := by
  rw [← hK] at q kC bP tP
  refine PS.imp (ps_raise hc tk (pmk_own PySem.F.excBase_ValueError q gC kC (raises_own bP tP) hg hdb)) fun D σ H ⟨G, env, r, h⟩ => ?_
  exact h _ none σ H G r ⟨rfl, by rw [hf]⟩ Fr.refl
end
/-! ### try -/
def aftr (i : Nat) : Option SO → Option SO
  | some (.nx e) => some (.nx (e.set i .un))
  | some (.bk e) => some (.bk (e.set i .un))
  | some (.ct e) => some (.ct (e.set i .un))
  | some (.rt r) => some (.rt r)
  | some (.rv r e) => some (.rv r (e.set i .un))
  | _ => none
def noX : Option SO → Option SO
  | some (.ex _ _) => none
  | o => o
/-- except X as n -/
noncomputable def sTryAs (xs : Nat → Nat → Option Bool) (h i : Nat) (body : Ss) (suite : Xo → Ss) : Ss := fun e => match body e with
  | some (.ex x e1) => match xs x.c h with
    | some true => if i < e1.length then allEq fun o => aftr i (suite o (e1.set i (.sh (.xn o x)))) else none
    | some false => some (.ex x e1)
    | none => none
  | o => o
/-- except X -/
def sTry (xs : Nat → Nat → Option Bool) (h : Nat) (body suite : Ss) : Ss := fun e => match body e with
  | some (.ex x e1) => match xs x.c h with
    | some true => noX (suite e1)
    | some false => some (.ex x e1)
    | none => none
  | o => o
/-- the classes' kinship as the written part tells it -/
def XsOk (κ : Kx) (xs : Nat → Nat → Option Bool) (h : Nat) : Prop := ∀ c b, xs c h = some b → PySem.W.exmOne κ.K (.ref (κ.xc c)) (.ref (κ.xc h)) = some b
section
variable {X : Cx} {κ : Kx} {W : WX}
theorem Rep.goneS {H : Hp} {G : Gh} {σ : L2.St} {env : En} (r : Rep κ H G σ env) (i : Nat) : Rep κ H (G.put i []) (σ.set i none) (env.set i .un) ∧ Fr H G σ env H (G.put i []) (σ.set i none) (env.set i .un) := by
  have u : UnAt [i] (env.set i .un) := fun v hv s e => by
    have hv : v = i := by simpa using hv
    subst hv
    rcases set_look e with ⟨_, q⟩ | ⟨q, _⟩
    · exact q
    · exact (q rfl).elim
  have o : Off [i] σ (σ.set i none) := off_set (by simp)
  exact ⟨(r.drop1 i).off u o (List.length_set ..), (Fr.drop1 i).offR u o⟩
theorem SPost.aftr {i : Nat} {σ : L2.St} {H : Hp} {G : Gh} {env : En} {D0 : Ends} {o : Option SO} (q : SPost κ W σ H G env (aftr i o) D0) :
    SPost κ WF σ H G env o { nx := fun σ' H' => D0.nx (σ'.set i none) H', rt := D0.rt, bk := fun σ' H' => D0.bk (σ'.set i none) H', ct := fun σ' H' => D0.ct (σ'.set i none) H' } := by
  cases o with
  | none => exact q
  | some o => cases o with
    | nx e => exact fun σ' H' G' r f => q _ H' _ (r.goneS i).1 (f.trans (r.goneS i).2)
    | bk e => exact fun σ' H' G' r f => q _ H' _ (r.goneS i).1 (f.trans (r.goneS i).2)
    | ct e => exact fun σ' H' G' r f => q _ H' _ (r.goneS i).1 (f.trans (r.goneS i).2)
    | rt z => exact q
    | rv z e =>
      intro v σ' H' G' r rv f
      refine q v _ H' _ (r.goneS i).1 ?_ (f.trans (r.goneS i).2)
      have fr : ∀ a, Fre G' e a → Fre (G'.put i []) (e.set i .un) a := fun a h j t e1 m => by
        rcases set_look e1 with ⟨rfl, rfl⟩ | ⟨w, e2⟩
        · rw [put_at] at m; cases m
        · rw [put_ne w] at m; exact h j t e2 m
      cases z with
      | sh d => exact rv
      | ow l =>
        obtain ⟨a, xs, h1, h2, h3, h4, h5, h6⟩ := rv
        exact ⟨a, xs, h1, h2, h3, h4, fr a h5, h6⟩
      | tr o =>
        obtain ⟨F, h1, h2⟩ := rv
        exact ⟨F, h1, fun a m => ⟨fr a (h2 a m).1, (h2 a m).2⟩⟩
    | ex x e => exact q.elim
theorem SPost.noX {σ : L2.St} {H : Hp} {G : Gh} {env : En} {D0 : Ends} {o : Option SO} (q : SPost κ W σ H G env (noX o) D0) : SPost κ WF σ H G env o D0 := by
  cases o with
  | none => exact q
  | some o => cases o with
    | ex x e => exact q.elim
    | _ => exact q
variable {x n : Str} {h i : Nat} {xs : Nat → Nat → Option Bool} {body suite : List Stmt} {b₀ : Stmt} {np pos pos' : Pos} {mb : Ss} {ms : Xo → Ss} {m0 : Ss}
theorem s_tryAs (hs : X.stack = X.env :: X.outer) (hf : X.env.frame = some X.env.locals) (hN : X.N.Nodup) (hi : X.N[i]? = some n) (hln : X.env.kindOf n = some .local) (hK : X.K = κ.K) (hc : Names X x (.ref (κ.xc h))) (hx : XsOk κ xs h) (tk : Takes X W)
    (hb : ∀ (W : WX) (pn : List (Addr × Obj)) (xe : Value → Shared → Prop), Takes (X.tr pn xe) W → PassesOwn (model X.prog X.w) X.A X.env xe → PSs (X.tr pn xe) body (tS κ W mb))
    (hsu : ∀ (a : Addr) (oe : Obj) (cls : Value) (d : Option Addr) (pn : List (Addr × Obj)), Zc cls d oe → (∃ vs, oe.data = .fields vs) → PSs (X.suite a ((a, oe) :: pn)) (b₀ :: suite) (tS κ WF (ms ⟨a, cls, d⟩))) :
    PS X (.Try body [.ExceptHandler (some (.Name x np)) (some n) (b₀ :: suite) pos'] [] [] pos) (tS κ W (sTryAs xs h i mb ms)) :=
  PS.imp (ps_try_as (tb := fun W => tS κ W mb) (ts := fun a cls d => tS κ WF (ms ⟨a, cls, d⟩)) hs hf hN hi hln hc tk hb hsu) fun D0 σ H ⟨G, env, r, q⟩ => by
    refine ⟨G, env, r, ?_⟩
    unfold sTryAs at q
    cases w : mb env with
    | none => rw [w] at q; exact q
    | some o => cases o with
      | nx e => rw [w] at q; exact q
      | bk e => rw [w] at q; exact q
      | ct e => rw [w] at q; exact q
      | rt e => rw [w] at q; exact q
      | rv e e2 => rw [w] at q; exact q
      | ex y e1 =>
        rw [w] at q
        dsimp only at q
        intro c d σ1 H1 G1 r1 xr f1
        cases z : xs y.c h with
        | none => rw [z] at q; exact q.elim
        | some b =>
          rw [z] at q
          refine ⟨b, ?_, fun hb a ha => ?_, fun hb => ?_⟩
          · rw [xr.1, hK]
            exact hx _ _ z
          · subst hb
            dsimp only at q
            by_cases hl : i < e1.length
            · rw [if_pos hl] at q
              obtain ⟨G2, _, r2, f2⟩ := rep_sh (v := .ref a) (d := .xn ⟨a, c, d⟩ y) r1 hl (.xn (o := ⟨a, c, d⟩) xr)
              refine ⟨G2, _, r2, ?_⟩
              cases z2 : allEq fun o => aftr i (ms o (e1.set i (.sh (.xn o y)))) with
              | none => rw [z2] at q; exact q.elim
              | some u =>
                rw [z2] at q
                have e2 := allEq_of z2 ⟨a, c, d⟩
                rw [← e2] at q
                exact SPost.aftr (SPost.shift (f1.trans f2) q)
            · rw [if_neg hl] at q; exact q.elim
          · subst hb
            exact q c d σ1 H1 G1 r1 xr f1
/-! ### the caught error asked -/
open Classical in
/-- e.f -/
noncomputable def fXf (xfn : Nat → Option Str) (o : Xo) (i : Nat) (f : Str) : Sm D := fun env => match env[i]? with
  | some (.sh (.xn o' x)) => if o' = o ∧ xfn x.c = some f then match x.a with
    | some z => some (.ok (.int z) env)
    | none => none
    else none
  | _ => none
/-- what the written part says of an error class, for isinstance -/
structure IsC (K : PySem.W.Frag) (C : Addr) : Prop where
  ic : PySem.W.isClsIn K C = true
  ga : PySem.W.findIn K (.ref C) "__getattribute__" = some (some (.builtin "BaseException.__getattribute__"))
  gg : PySem.W.findIn K (.ref C) "__getattr__" = some none
  sb : PySem.W.subIn K (.ref C) (.type "BaseException") = some true
  ha : PySem.W.findIn K (.ref C) "__class__" = some (some (.builtin "object.__class__"))
  mo : PySem.W.mroIn K C (.type "object") = some true
structure IsB (K : PySem.W.Frag) : Prop where
  hn : PySem.W.specialIn K (.builtin "object.__class__") "__get__" = some (some (.builtin "getset_descriptor.__get__"))
  ht : PySem.W.takesIn K (.builtin "object.__class__") = some true
def KsOk (κ : Kx) (us : List Value) (t : Nat → Option Bool) : Prop := ∀ c b, t c = some b → IsC κ.K (κ.xc c) ∧ PySem.W.kitAny κ.K (.ref (κ.xc c)) us = some b
def rIsX (κ : Kx) (cls : Value) (d : Option Addr) (a : Addr) : List V → Hp → VK → Prop := fun xs H Q => ∃ (c : V) (cv : Value) (b : Bool) (y : Ex), xs = [.ref a, c] ∧ ClsV c cv ∧ XR κ H y cls d ∧ IsC κ.K (κ.xc y.c) ∧ PySem.W.kitOne κ.K cls cv = some b ∧ Q (.bl b) H
def rIsXT (κ : Kx) (cls : Value) (d : Option Addr) (a : Addr) : List V → Hp → VK → Prop := fun xs H Q => ∃ (tp : Addr) (cs : List V) (us : List Value) (b : Bool) (y : Ex), xs = [.ref a, .ref tp] ∧ H tp = some (.tup cs) ∧ Paired ClsV cs us ∧ XR κ H y cls d ∧ IsC κ.K (κ.xc y.c) ∧ PySem.W.kitAny κ.K cls us = some b ∧ Q (.bl b) H
open Classical in
/-- isinstance(e, ..) -/
noncomputable def fXi (t : Nat → Option Bool) (o : Xo) (i : Nat) : Sm D := fun env => match env[i]? with
  | some (.sh (.xn o' x)) => if o' = o then match t x.c with
    | some b => some (.ok (.bl b) env)
    | none => none
    else none
  | _ => none
theorem fxi_of {t : Nat → Option Bool} {o : Xo} {i : Nat} {σ : L2.St} {H : Hp} {G : Gh} {env : En} {P : V → Hp → Prop} (r : Rep κ H G σ env) (q : EPost κ W (RP κ) σ H G env (fXi t o i env) P) : ∃ (y : Ex) (b : Bool), σ[i]? = some (some (.ref o.a)) ∧ XR κ H y o.cls o.d ∧ t y.c = some b ∧ EPost κ W (RP κ) σ H G env (some (.ok (.bl b) env)) P := by
  unfold fXi at q
  split at q
  · rename_i o' x' e
    split at q
    · rename_i w
      subst w
      obtain ⟨_, v, h1, h2⟩ := r.slot i _ e
      cases h2 with
      | xn xr =>
        cases z : t x'.c with
        | none => rw [z] at q; exact q.elim
        | some b => rw [z] at q; exact ⟨x', b, h1, xr.mono r.sub, z, q⟩
    · exact q.elim
  · exact q.elim
end
section
variable {X : Cx} {κ : Kx} {W : WX} {x : Str} {np : Pos} {i : Nat}
end
/-! ### a default -/
theorem RBs.snoc {κ : Kx} {H G : Hp} {m : Bool} {v : V} {d : D} (r : Rp κ G v d) : ∀ {ms : List Bool} {vs : List V} {ds : List D}, RBs κ H G ms vs ds → RBs κ H G (ms ++ [m]) (vs ++ [v]) (ds ++ [d])
  | _, _, _, .nil => by
    cases m with
    | true => exact .bo (.inl r) .nil
    | false => exact .sh r .nil
  | _, _, _, .sh a t => .sh a (RBs.snoc r t)
  | _, _, _, .bo a t => .bo a (RBs.snoc r t)
/-- a def whose last parameter has a number as its default -/
structure VFnD (P : Program) (w : World) (κ : Kx) (mg : Str → Option Value) (base : Heap) (x : Str) (k : Nat) (ms : List Bool) (g : FSem) (dv : Int) : Prop where
  ex : ∃ (f : Addr) (fd : FuncData) (ps : List Str), mg x = some (.ref f) ∧ PySem.W.keepIn κ.K (.ref f) = true ∧ FnOk P w κ.K mg base (L2.CX P w) k f fd ps (spV κ ms g) ∧ Binds κ.K fd ps [] ∧ ∃ ds, Vals [V.int dv] ds ∧ Binds κ.K fd ps ds
theorem VFnD.v {P : Program} {w : World} {κ : Kx} {mg : Str → Option Value} {base : Heap} {x : Str} {k : Nat} {ms : List Bool} {g : FSem} {dv : Int} (F : VFnD P w κ mg base x k ms g dv) : VFn P w κ mg base x k ms g := by
  obtain ⟨f, fd, ps, h1, h2, h3, h4, _⟩ := F.ex
  exact ⟨f, fd, ps, h1, h2, h3, h4⟩
def fCallD (g : FSem) (dv : Int) (m : Sm (List D)) : Sm Rs := bnd m fun ds e => match g (ds ++ [.int dv]) with
  | some (.rt r) => some (.ok r e)
  | some (.ex x) => some (.ex x e)
  | none => none
section
variable {X : Cx} {κ : Kx} {W : WX} {e : Expr} {es : List Expr} {ms : List Bool} {g : FSem} {mr : Sm (List D)} {k : Nat} {x : Str} {p pos : Pos} {dv : Int} {m : Bool}
end
theorem FunD.two {κ : Kx} {x qual : Str} {st : Stmt} {f : Addr} {fd : FuncData} {ps : List Str} {dv : Int} (F : FunD κ.K x qual (defArgs st) (defBody st) (defScope st) [V.int dv] [] f fd) (n : Nat) (hn : n + 1 = ps.length)
    (h1 : ∀ (T : Addr) (kV doc pm : Value) (an : Option Addr) (cdv ct : Value) (us : List Value) (d : Value), us.length = n → ∃ k, bindArgs (PySem.W.fnOf x qual (defArgs st) (defBody st) (defScope st) (.ref T) kV doc pm an cdv ct) ⟨us, []⟩ = seqItems? (.ref T) >>= k ∧ k (some #[d]) = pure (ps.zip (us ++ [d])))
    (h2 : ∀ (T : Addr) (kV doc pm : Value) (an : Option Addr) (cdv ct : Value) (us : List Value) (d : Value), us.length = n + 1 → ∃ k, bindArgs (PySem.W.fnOf x qual (defArgs st) (defBody st) (defScope st) (.ref T) kV doc pm an cdv ct) ⟨us, []⟩ = seqItems? (.ref T) >>= k ∧ k (some #[d]) = pure (ps.zip us)) :
    Binds κ.K fd ps [] ∧ ∃ ds, Vals [V.int dv] ds ∧ Binds κ.K fd ps ds := by
  constructor
  · obtain ⟨ds, hv, hb⟩ := F.binds1 (n + 1) 1 (by simp) (by simpa using hn) fun T kV doc pm an cdv ct us its hu hi => by
      match its, hi with
      | [d], _ =>
        obtain ⟨k, e1, e2⟩ := h2 T kV doc pm an cdv ct us d hu
        exact ⟨k, e1, by rw [show ([d] : List Value).drop 1 = [] from rfl, List.append_nil]; exact e2⟩
    cases hv
    exact hb
  · exact F.binds1 n 0 (by simp) (by simpa using hn) fun T kV doc pm an cdv ct us its hu hi => by
      match its, hi with
      | [d], _ => exact h1 T kV doc pm an cdv ct us d hu
/-! ### kinship from the written part -/
section
variable {K : PySem.W.Frag} {S C : Addr} {b : Bool}
theorem exm_ofs {c : Value} (h1 : PySem.W.subIn K (.ref S) (.type "BaseException") = some true) (h2 : PySem.W.isClsIn K S = true) (h3 : PySem.W.typeIn K (.ref S) = some (.type "type")) (h4 : PySem.W.subIn K c (.ref S) = some b) : PySem.W.exmOne K c (.ref S) = some b := by
  have e1 : (PySem.W.subIn K (.ref S) (.type "BaseException") == some true) = true := by rw [h1] <;> rfl
  have e2 : ((PySem.W.clsIn K S).isSome && PySem.W.typeIn K (.ref S) == some (.type "type")) = true := by
    have h2' : (PySem.W.clsIn K S).isSome = true := h2
    rw [h2', h3] <;> rfl
  show (if (PySem.W.subIn K (.ref S) (.type "BaseException") == some true) = true then (if ((PySem.W.clsIn K S).isSome && PySem.W.typeIn K (.ref S) == some (.type "type")) = true then PySem.W.subIn K c (.ref S) else none) else none) = some b
  rw [if_pos e1, if_pos e2]
  exact h4
theorem kit_ofs (hn : (Value.ref C == Value.ref S) = false) (h2 : PySem.W.isClsIn K S = true) (h3 : PySem.W.typeIn K (.ref S) = some (.type "type")) (h4 : PySem.W.subIn K (.ref C) (.ref S) = some b) : PySem.W.kitAny K (.ref C) [.ref S] = some b := by
  have e2 : ((PySem.W.clsIn K S).isSome && PySem.W.typeIn K (.ref S) == some (.type "type")) = true := by
    have h2' : (PySem.W.clsIn K S).isSome = true := h2
    rw [h2', h3] <;> rfl
  have e : PySem.W.kitOne K (.ref C) (.ref S) = some b := by
    unfold PySem.W.kitOne
    rw [hn, if_neg Bool.false_ne_true]
    show (if ((PySem.W.clsIn K S).isSome && PySem.W.typeIn K (.ref S) == some (.type "type")) = true then PySem.W.subIn K (.ref C) (.ref S) else none) = some b
    rw [if_pos e2]
    exact h4
  cases b with
  | true => exact kitAny_cons e (fun h => nomatch h) fun _ => rfl
  | false => exact kitAny_cons e (fun _ => rfl) fun h => nomatch h
theorem kit_self : PySem.W.kitAny K (.ref C) [.ref C] = some true := by
  have e : PySem.W.kitOne K (.ref C) (.ref C) = some true := by
    unfold PySem.W.kitOne
    rw [if_pos (beq_self_eq_true _)]
  exact kitAny_cons e (fun h => nomatch h) fun _ => rfl
theorem kit_VE (h : PySem.W.subIn K (.ref C) (.type "ValueError") = some true) : PySem.W.kitAny K (.ref C) [.type "ValueError"] = some true := by
  have e : PySem.W.kitOne K (.ref C) (.type "ValueError") = some true := by
    unfold PySem.W.kitOne
    rw [if_neg (show ¬ (Value.ref C == Value.type "ValueError") = true from fun z => nomatch (beq_iff_eq.mp z))]
    show (if PySem.W.kitMeta "ValueError" = true then PySem.W.subIn K (.ref C) (.type "ValueError") else none) = some true
    rw [if_pos (by decide +kernel)]
    exact h
  exact kitAny_cons e (fun h => nomatch h) fun _ => rfl
end
end Vs


set_option Elab.async false
set_option linter.all false
set_option maxRecDepth 100000
set_option maxHeartbeats 2000000
/-! Vs4: more of the built-ins. -/
namespace Vs
open PySem L2
/-! ### < over data -/
def rLtD (K : PySem.W.Frag) : R2 := fun x y H Q => ∃ d e, Dp K H x d ∧ Dp K H y e ∧ PySem.W.alike d e = true ∧ d ≠ .none ∧ d.depth ≤ 64 ∧ Q (.bl (PySem.W.dataLt d e)) H
theorem op_ltD {X : Cx} (hu : X.A.units + 64 < cLine) : OpR X (compareOp .Lt) (rLtD X.K) := by
  intro pins s σ H x y v u Q I rx ry h
  obtain ⟨d, e, hd, he, ha, hn, hz, q⟩ := h
  obtain ⟨as, r1⟩ := Dp.reads I d x v hd rx
  obtain ⟨bs, r2⟩ := Dp.reads I e y u he ry
  exact PySem.W.lt_data r1 r2 ha hn (by omega) ⟨.bl _, H, I, rfl, q⟩
def dLt (x y : D) : Option Bool := if x.pl = true ∧ y.pl = true ∧ PySem.W.alike x.toP y.toP = true ∧ x.toP.depth ≤ 64 then some (PySem.W.dataLt x.toP y.toP) else none
def cLtA : D → D → Option Bool
  | .int i, .int j => some (decide (i < j))
  | .str a, .str b => some (decide (a < b))
  | .lst a, .lst b => dLt (.lst a) (.lst b)
  | .tup a, .tup b => dLt (.tup a) (.tup b)
  | _, _ => none
def rLtA (κ : Kx) : R2 := fun x y H Q => rCm (fun i j => decide (i < j)) (fun a b => decide (a < b)) x y H Q ∨ rLtD κ.K x y H Q
theorem o_ltA {X : Cx} {κ : Kx} (hK : X.K = κ.K) (hu : X.A.units + 64 < cLine) : OpR X (compareOp .Lt) (rLtA κ) := by
  unfold rLtA
  rw [← hK]
  exact OpR.or o_lt (op_ltD hu)
theorem dLt_of {κ : Kx} {x y : V} {dx dy : D} {z : Bool} {H G : Hp} {Q : VK} (hn : dx.toP ≠ .none) (e : dLt dx dy = some z) (s : Same G H) (rx : RBq κ H G x dx) (ry : RBq κ H G y dy) (q : Q (.bl z) H) : rLtD κ.K x y H Q := by
  unfold dLt at e
  split at e
  · rename_i h
    cases e
    exact ⟨_, _, rx.dp s h.1, ry.dp s h.2.1, h.2.2.1, hn, h.2.2.2, q⟩
  · cases e
theorem s_ltA {κ : Kx} : OpB κ (rLtA κ) cLtA := fun x y dx dy z H G Q e s rx ry q => by
  cases dx <;> cases dy <;> try (cases e; done)
  · rename_i i j
    exact .inl (s_cm x y (.int i) (.int j) z H G Q e s rx ry q)
  · rename_i i j
    exact .inl (s_cm x y (.str i) (.str j) z H G Q e s rx ry q)
  · exact .inr (dLt_of (by simp only [D.toP]; exact fun z => nomatch z) e s rx ry q)
  · exact .inr (dLt_of (by simp only [D.toP]; exact fun z => nomatch z) e s rx ry q)
/-! ### in, over data -/
def inD (x y : D) : Option Bool := match y with
  | .lst l => if x.okE = true ∧ (D.lst l).okE = true then some ((toPA l).any fun z => PyData.eqv z x.toP) else none
  | _ => none
/-- the one text within the other -/
def subT (v w : List Nat) : Bool := !(Builtin.Str.occurrences (S w) (S v) 0 (S w).length 1).isEmpty
def inT (x y : D) : Option Bool := match x, y with
  | .str v, .str w => some (subT v w)
  | _, _ => none
def cInA : D → D → Option Bool := fun x y => match cIn x y with
  | some b => some b
  | none => match inD x y with
    | some b => some b
    | none => inT x y
def cNinA : D → D → Option Bool := fun x y => match cInA x y with
  | some b => some (!b)
  | none => none
theorem units65 {k : Nat} {A : Around} (r : Room k A) : A.units + 65 < cLine := by have := r.un; omega
def rInT (neg : Bool) : R2 := fun x y H Q => ∃ i j, x = .str i ∧ y = .str j ∧ Q (.bl (if neg then !(!(Builtin.Str.occurrences j i 0 j.length 1).isEmpty) else !(Builtin.Str.occurrences j i 0 j.length 1).isEmpty)) H
def rInX (κ : Kx) : R2 := fun x y H Q => (rInA κ false x y H Q ∨ rInD κ.K x y H Q) ∨ rInT false x y H Q
def rNinX (κ : Kx) : R2 := fun x y H Q => (rInA κ true x y H Q ∨ rNotInD κ.K x y H Q) ∨ rInT true x y H Q
theorem inT_of {κ : Kx} {x y : V} {dx dy : D} {z : Bool} {H G : Hp} (e : inT dx dy = some z) (rx : RBq κ H G x dx) (ry : RBq κ H G y dy) : ∃ i j, x = .str i ∧ y = .str j ∧ z = !(Builtin.Str.occurrences j i 0 j.length 1).isEmpty := by
  cases dx <;> cases dy <;> try (cases e; done)
  rename_i v w
  cases e
  exact ⟨S v, S w, rx.str, ry.str, rfl⟩
theorem o_ninA {X : Cx} {κ : Kx} (hK : X.K = κ.K) (hr : X.A.units + 65 < cLine) : OpR X (compareOp .NotIn) (rNinX κ) := by
  unfold rNinX
  refine OpR.or (OpR.or (o_nin hK) ?_) op_notin_str
  rw [← hK]
  exact op_notInD hr
theorem inD_of {κ : Kx} {x y : V} {dx dy : D} {z : Bool} {H G : Hp} (e : inD dx dy = some z) (s : Same G H) (rx : RBq κ H G x dx) (ry : RBq κ H G y dy) : ∃ d ds, Dp κ.K H x d ∧ Dp κ.K H y (.list ds) ∧ SeqAt.shaped d = true ∧ SeqAt.shaped (.list ds) = true ∧ z = ds.any fun u => PyData.eqv u d := by
  cases dy with
  | lst l =>
    dsimp only [inD] at e
    by_cases o : dx.okE = true ∧ (D.lst l).okE = true
    · rw [if_pos o] at e
      cases e
      have hl := ry.dp s (okE_pl o.2)
      have hs := okE_shaped o.2
      simp only [D.toP] at hl hs
      exact ⟨_, _, rx.dp s (okE_pl o.1), hl, okE_shaped o.1, hs, rfl⟩
    · rw [if_neg o] at e; cases e
  | _ => cases e
theorem s_ninA {κ : Kx} : OpB κ (rNinX κ) cNinA := fun x y dx dy z H G Q e s rx ry q => by
  unfold cNinA at e
  cases h : cInA dx dy with
  | none => rw [h] at e; cases e
  | some b =>
    rw [h] at e
    cases e
    unfold cInA at h
    cases h2 : cIn dx dy with
    | some b2 =>
      rw [h2] at h
      cases h
      exact .inl (.inl (s_nin x y dx dy _ H G Q (by unfold cNin; rw [h2]) s rx ry q))
    | none =>
      rw [h2] at h
      dsimp only at h
      cases h3 : inD dx dy with
      | some b2 =>
        rw [h3] at h
        cases h
        obtain ⟨d, ds, h1, h2, h3, h4, h5⟩ := inD_of h3 s rx ry
        exact .inl (.inr ⟨d, ds, h1, h2, h3, h4, h5 ▸ q⟩)
      | none =>
        rw [h3] at h
        obtain ⟨i, j, h1, h2, h3⟩ := inT_of h rx ry
        exact .inr ⟨i, j, h1, h2, h3 ▸ q⟩
/-! ### reversed(range(..)) -/
section
variable {X : Cx} {κ : Kx} {W : WX} {tg a b e : Expr} {ma mb : Sm D} {p p2 pos pos2 : Pos}
def rngR (s : Int) (n : Nat) : List D := (List.range n).map fun (k : Nat) => D.int (s - (k : Int))
def fRr1 (m : Sm D) : Sm (List D) := bnd m fun d e => match d with
  | .int j => if j ≤ 1000000 ∧ -1000000 ≤ j then some (.ok (rngR (((j.toNat : Nat) : Int) - 1) j.toNat) e) else none
  | _ => none
def fRr2 (ma mb : Sm D) : Sm (List D) := bnd ma fun d => bnd mb fun f e => match d, f with
  | .int i, .int j => if (j ≤ 1000000 ∧ -1000000 ≤ j) ∧ i ≤ 1000000 ∧ -1000000 ≤ i then some (.ok (rngR (i + (((j - i).toNat : Nat) : Int) - 1) (j - i).toNat) e) else none
  | _, _ => none
end
/-! ### int(..) -/
def opInt : List D → Option Rs
  | [.int i] => some (.sh (.int i))
  | [.bl b] => some (.sh (.int (if b then 1 else 0)))
  | [.str w] => if w.length ≤ 640 then match PySem.intText? (S w) with
    | some n => some (.sh (.int n))
    | none => none
    else none
  | _ => none
def rIntA : List V → Hp → VK → Prop := fun xs H Q => ((∃ i, xs = [.int i] ∧ Q (.int i) H) ∨ ∃ k, xs = [.bl k] ∧ Q (.int (if k then 1 else 0)) H) ∨ ∃ a n, xs = [.str a] ∧ PySem.intText? a = some n ∧ a.length ≤ 640 ∧ Q (.int n) H
theorem call_intA {X : Cx} : CallR X (.type "int") rIntA := fun pins s σ H xs us Q I r h => by
  rcases h with h | h
  · exact call_int1 pins s σ H xs us Q I r h
  · exact call_int_str pins s σ H xs us Q I r h
theorem s_int {κ : Kx} : ClV κ [true] rIntA opInt := fun W σ vs ds z H G env Q e r rx q => by
  match ds, rx with
  | [d], rx =>
    obtain ⟨v, rfl, rv⟩ := rx.one
    cases d <;> try (cases e; done)
    · cases e
      exact .inl (.inr ⟨_, by rw [rv.bl], post_sh r (.int _) q⟩)
    · cases e
      exact .inl (.inl ⟨_, by rw [rv.int], post_sh r (.int _) q⟩)
    · rename_i w
      dsimp only [opInt] at e
      by_cases hl : w.length ≤ 640
      · rw [if_pos hl] at e
        cases hn : PySem.intText? (S w) with
        | none => rw [hn] at e; cases e
        | some n =>
          rw [hn] at e
          cases e
          exact .inr ⟨S w, n, by rw [rv.str], hn, by rw [S_len]; exact hl, post_sh r (.int _) q⟩
      · rw [if_neg hl] at e; cases e
  | [], rx => cases e
  | x :: y :: t, rx => cases x <;> cases e
/-! ### a, b = x, y -/
def sPar (i j : Nat) (m : Sm (List D)) : Ss := sbnd m fun ds e => match ds with
  | [x, y] => if i < e.length ∧ j < e.length then some (.nx ((e.set i (.sh x)).set j (.sh y))) else none
  | _ => none
section
variable {X : Cx} {κ : Kx} {W : WX} {m : Sm (List D)}
end
/-! ### what is walked, of any kind -/
theorem PI.or {X : Cx} {tg e : Expr} {w w' : TI} (h : PI X tg e w) (h' : PI X tg e w') : PI X tg e (fun σ H R => w σ H R ∨ w' σ H R) :=
  ⟨fun pins s σ H R I q => q.elim (h.run pins s σ H R I) (h'.run pins s σ H R I)⟩
theorem PI.imp {X : Cx} {tg e : Expr} {w w' : TI} (h : PI X tg e w) (k : ∀ σ H R, w' σ H R → w σ H R) : PI X tg e w' := ⟨fun pins s σ H R I q => h.run pins s σ H R I (k σ H R q)⟩
def itD : D → Option (List D)
  | .lst l => some l
  | .tup l => some l
  | .str w => some (w.map fun c => .str [c])
  | .scr l => some (l.map D.int)
  | _ => none
def fItA (m : Sm D) : Sm (List D) := bnd m fun d e => match itD d with
  | some l => some (.ok l e)
  | none => none
def eItA (i : Nat) : Sm (List D) := fun env => match env[i]? with
  | some (.sh d) => match itD d with
    | some l => some (.ok l env)
    | none => none
  | some (.lk l) => some (.ok l env)
  | some (.bo l) => some (.ok l env)
  | _ => none
section
variable {X : Cx} {κ : Kx} {W : WX} {e tg : Expr} {m : Sm D} {pos : Pos}
theorem sc_yields {σ : L2.St} {N : Addr → Prop} {H : Hp} {G : Gh} {env : En} {a : Addr} {ns : List Int} (h : SqL κ.K G a (ns.map V.int)) : RI κ σ N H G env (Itl κ.K a) (ns.map D.int) := by
  refine ⟨fun _ => False, fun _ z => z.elim, fun H' G' _ sg sh i => ?_⟩
  have hl : SqL κ.K H' a (ns.map V.int) := same_l sh (same_l (gr sg) h)
  refine ⟨fun d hd => ?_, fun hi => ⟨_, hl, by rw [List.length_map]; simpa using hi⟩⟩
  rw [List.getElem?_map] at hd
  cases hw : ns[i]? with
  | none => rw [hw] at hd; cases hd
  | some n =>
    rw [hw] at hd
    cases hd
    have hx : (ns.map V.int)[i]? = some (V.int n) := by rw [List.getElem?_map, hw]; rfl
    exact ⟨⟨_, _, hl, hx⟩, fun y H2 ⟨e2, hy⟩ => .inl ⟨e2, by
      have := hy _ hl
      rw [hx] at this
      cases this
      exact .int n⟩⟩
theorem i_scr (hK : X.K = κ.K) (h : PE X e (tX κ W (RP κ) m)) : PI X tg e (tX κ W (RI κ) (bnd m fun d e => match d with
    | .scr l => some (.ok (l.map D.int) e)
    | _ => none)) := ⟨fun pins s σ H R I ⟨G, env, r, q⟩ => (pi_list h).run pins s σ H R I (bind_post r q fun d e1 v H1 G1 em r1 rv s1 f1 q1 => by
  cases d with
  | scr l =>
    cases rv with
    | scr h3 =>
      refine ⟨_, rfl, ⟨l.map V.int, ?_⟩, ?_⟩
      · rw [hK]; exact same_l r1.sub h3.sq
      · rw [hK]; exact q1 _ H1 G1 r1 (sc_yields h3.sq) (Grw.refl _) Fr.refl
  | _ => exact q1.elim)⟩
theorem i_any (hK : X.K = κ.K) (h : PE X e (tX κ W (RP κ) m)) : PI X tg e (tX κ W (RI κ) (fItA m)) :=
  PI.imp (PI.or (PI.or (i_list (l_of h)) (i_tup h)) (PI.or (i_str (v_bo h)) (i_scr hK h))) fun σ H R ⟨G, env, r, q⟩ => by
    unfold fItA bnd at q
    cases z : m env with
    | none => rw [z] at q; exact q.elim
    | some o => cases o with
      | ex x e1 =>
        rw [z] at q
        refine .inl (.inl ⟨G, env, r, ?_⟩)
        unfold fIt bnd
        rw [z]
        exact q
      | ok d e1 =>
        rw [z] at q
        cases d with
        | lst l =>
          refine .inl (.inl ⟨G, env, r, ?_⟩)
          unfold fIt bnd
          rw [z]
          exact q
        | tup l =>
          refine .inl (.inr ⟨G, env, r, ?_⟩)
          unfold fTp bnd
          rw [z]
          exact q
        | str l =>
          refine .inr (.inl ⟨G, env, r, ?_⟩)
          unfold fSg bnd
          rw [z]
          exact q
        | scr l =>
          refine .inr (.inr ⟨G, env, r, ?_⟩)
          unfold bnd
          rw [z]
          exact q
        | _ => exact q.elim
theorem i_anyN {i : Nat} {x : Str} (hK : X.K = κ.K) (h : PE X (.Name x pos) (tVar i)) : PI X tg (.Name x pos) (tX κ W (RI κ) (eItA i)) :=
  PI.imp (PI.or (i_list (l_name h)) (i_any hK (v_var h))) fun σ H R ⟨G, env, r, q⟩ => by
    unfold eItA at q
    cases z : env[i]? with
    | none => rw [z] at q; exact q.elim
    | some s =>
      rw [z] at q
      cases s with
      | un => exact q.elim
      | ow l => exact q.elim
      | io l => exact q.elim
      | tr l => exact q.elim
      | lk l =>
        refine .inl ⟨G, env, r, ?_⟩
        unfold eIt
        rw [z]
        exact q
      | bo l =>
        refine .inl ⟨G, env, r, ?_⟩
        unfold eIt
        rw [z]
        exact q
      | sh d =>
        refine .inr ⟨G, env, r, ?_⟩
        unfold fItA bnd eV
        rw [z]
        exact q
end
end Vs


set_option Elab.async false
set_option linter.all false
set_option maxRecDepth 100000
set_option maxHeartbeats 2000000
/-! Vs5: classes; things handed in to be changed. -/
namespace Vs
open PySem L2
/-! ### fields -/
/-- where a field stands, by the class's number -/
structure FldOk (κ : Kx) (f : Str) (tab : Nat → Option Nat) : Prop where
  ok : ∀ c k, tab c = some k → L2.Cls κ.K (κ.cl c) ∧ L2.NoAttr κ.K (κ.cl c) f ∧ (κ.fl c)[k]? = some f ∧ (κ.fl c).Nodup ∧ (κ.fl c).length < 1000
/-- e.f of what all may hold -/
def fFld (tab : Nat → Option Nat) (m : Sm D) : Sm D := bnd m fun d e => match d with
  | .ob c ds => match tab c with
    | some k => match ds[k]? with
      | some x => some (.ok x e)
      | none => none
    | none => none
  | _ => none
section
variable {X : Cx} {κ : Kx} {W : WX} {e : Expr} {m : Sm D} {f : Str} {pos : Pos} {tab : Nat → Option Nat}
/-- an own object at slot i -/
def obAt (e : En) (i : Nat) : Option (Nat × List Fd) := match e[i]? with
  | some (.io (.ob c fs)) => some (c, fs)
  | some (.tr (.ob c fs)) => some (c, fs)
  | _ => none
def eFd (i : Nat) (tab : Nat → Option Nat) (e : En) : Option Fd := match obAt e i with
  | some (c, fs) => match tab c with
    | some k => fs[k]?
    | none => none
  | none => none
/-- self.f, given away, looked at -/
def eFV (i : Nat) (tab : Nat → Option Nat) : Sm D := fun e => match eFd i tab e with
  | some (.sh d) => some (.ok d e)
  | _ => none
def eFB (i : Nat) (tab : Nat → Option Nat) : Sm D := fun e => match eFd i tab e with
  | some f => some (.ok f.d e)
  | none => none
theorem RFs.at {H G : Hp} : ∀ {vs : List V} {fs : List Fd} {F : List Addr}, RFs κ H G vs fs F → ∀ {k : Nat} {x : Fd}, fs[k]? = some x → ∃ v, vs[k]? = some v ∧ ((∃ d, x = .sh d ∧ Rp κ G v d) ∨ ∃ a xs l, x = .ow l ∧ v = .ref a ∧ H a = some (.lst xs) ∧ G a = none ∧ RpA κ G xs l ∧ a ∈ F)
  | _, _, _, .nil, k, x, h => by simp at h
  | _, _, _, .sh r t, 0, x, h => by
    simp only [List.getElem?_cons_zero, Option.some.injEq] at h
    subst h
    exact ⟨_, rfl, .inl ⟨_, rfl, r⟩⟩
  | _, _, _, .ow h1 h2 h3 h4 t, 0, x, h => by
    simp only [List.getElem?_cons_zero, Option.some.injEq] at h
    subst h
    exact ⟨_, rfl, .inr ⟨_, _, _, rfl, rfl, h1, h2, h3, List.mem_cons_self⟩⟩
  | _, _, _, .sh r t, k + 1, x, h => by
    obtain ⟨v, h1, h2⟩ := RFs.at t (by simpa using h)
    exact ⟨v, by simpa using h1, h2⟩
  | _, _, _, .ow g1 g2 g3 g4 t, k + 1, x, h => by
    obtain ⟨v, h1, h2⟩ := RFs.at t (by simpa using h)
    refine ⟨v, by simpa using h1, ?_⟩
    rcases h2 with h2 | ⟨a, xs, l, h3, h4, h5, h6, h7, h8⟩
    · exact .inl h2
    · exact .inr ⟨a, xs, l, h3, h4, h5, h6, h7, List.mem_cons_of_mem _ h8⟩
end
/-! ### a field stored -/
section
variable {κ : Kx} {H G : Hp}
theorem RFs.len : ∀ {vs : List V} {fs : List Fd} {F : List Addr}, RFs κ H G vs fs F → vs.length = fs.length
  | _, _, _, .nil => rfl
  | _, _, _, .sh _ t => by simp [RFs.len t]
  | _, _, _, .ow _ _ _ _ t => by simp [RFs.len t]
theorem RFs.setL {b : Addr} {xs : List V} {l : List D} (hb : H b = some (.lst xs)) (gb : G b = none) (r : RpA κ G xs l) : ∀ {vs : List V} {fs : List Fd} {F : List Addr} (k : Nat), b ∉ F → k < fs.length → RFs κ H G vs fs F → ∃ F', RFs κ H G (vs.set k (.ref b)) (fs.set k (.ow l)) F' ∧ ∀ a, a ∈ F' → a ∈ F ∨ a = b
  | _, _, _, k, _, hk, .nil => by simp at hk
  | _, _, _, 0, nb, _, .sh _ t => ⟨_, .ow hb gb r nb t, fun a m => by
      rcases List.mem_cons.mp m with e | m
      · exact .inr e
      · exact .inl m⟩
  | _, _, _, 0, nb, _, .ow _ _ _ _ t => ⟨_, .ow hb gb r (fun m => nb (List.mem_cons_of_mem _ m)) t, fun a m => by
      rcases List.mem_cons.mp m with e | m
      · exact .inr e
      · exact .inl (List.mem_cons_of_mem _ m)⟩
  | _, _, _, k + 1, nb, hk, .sh q t => by
    obtain ⟨F', h1, h2⟩ := RFs.setL hb gb r k nb (by simpa using hk) t
    exact ⟨F', .sh q h1, h2⟩
  | _, _, _, k + 1, nb, hk, .ow q1 q2 q3 q4 t => by
    obtain ⟨F', h1, h2⟩ := RFs.setL hb gb r k (fun m => nb (List.mem_cons_of_mem _ m)) (by simpa using hk) t
    refine ⟨_, .ow q1 q2 q3 (fun m => ?_) h1, fun a m => ?_⟩
    · rcases h2 _ m with m | e
      · exact q4 m
      · exact nb (by rw [← e]; exact List.mem_cons_self)
    · rcases List.mem_cons.mp m with e | m
      · rw [e]; exact .inl List.mem_cons_self
      · rcases h2 a m with m | e
        · exact .inl (List.mem_cons_of_mem _ m)
        · exact .inr e
end
def Rs.fd : Rs → Option Fd
  | .sh d => some (.sh d)
  | .ow l => some (.ow l)
  | .tr _ => none
def setF (fs : List Fd) (k : Nat) (x : Fd) : List Fd := if k < fs.length then fs.set k x else fs ++ [x]
/-- self.f = value -/
def sFldS (i : Nat) (tab : Nat → Option Nat) (m : Sm Rs) : Ss := sbnd m fun r e => match obAt e i with
  | some (c, fs) => match tab c with
    | some k => if k ≤ fs.length then match r.fd with
      | some x => match e[i]? with
        | some s => some (.nx (e.set i (setO s (.ob c (setF fs k x)))))
        | none => none
      | none => none
      else none
    | none => none
  | none => none
section
variable {κ : Kx} {σ σ0 : L2.St} {H H1 H2 : Hp} {G G1 : Gh} {env e1 : En}
end
section
variable {X : Cx} {κ : Kx} {W : WX} {e : Expr} {m : Sm D} {mr : Sm Rs} {f : Str} {pos apos np : Pos} {tab : Nat → Option Nat}
end
end Vs


set_option Elab.async false
set_option linter.all false
set_option maxRecDepth 100000
set_option maxHeartbeats 2000000
/-! Vs6: methods, makes, calls that change. -/
namespace Vs
open PySem L2 PyProof.Rows
/-! ### rules of the hand layer, with the wish at the slots -/
section
variable {X : Cx} {k : Nat} {fn C : Addr} {fd : FuncData} {ps : List Str} {sp : Sp} {E : L2.St → XK} {x m : Str} {p pos apos : Pos} {e o : Expr} {es : List Expr} {ta : TE} {t : TA}
/-- o.m(..), the class by the instance -/
def tMethV (X : Cx) (m : Str) (E : L2.St → XK) (ta : TE) (t : TA) : TE := fun σ H Q => ta σ H fun x H1 => ∃ (C g : Addr) (fd : FuncData) (ps : List Str) (k : Nat) (sp : Sp) (a dx : Addr) (fs : List (Str × V)), x = .ref a ∧ H1 a = some (.ins C dx fs) ∧ fs.lookup m = none ∧
  L2.Cls X.K C ∧ L2.Meth X.K C m g ∧ FnOk X.prog X.w X.K X.mg X.base (L2.CX X.prog X.w) k g fd ps sp ∧ Room k X.A ∧ Binds X.K fd ps [] ∧ t σ H1 fun vs H2 => sp (x :: vs) H2 Q (E σ)
/-- C(..) -/
def tMakeS (C : Addr) (sp : Sp) (E : L2.St → XK) (t : TA) : TE := fun σ H Q => t σ H fun vs H1 => ∀ x dx, H1 x = none → H1 dx = none → dx ≠ x →
  sp (.ref x :: vs) (upd (upd H1 dx (.own x)) x (.ins C dx [])) (fun v H2 => v = .non ∧ Q (.ref x) H2) (E σ)
/-- C.m(..), C a class, m a plain def of it -/
def tClsS (C : Addr) (sp : Sp) (E : L2.St → XK) (ta : TE) (t : TA) : TE := fun σ H Q => ta σ H fun x H1 => x = .ref C ∧ t σ H1 fun vs H2 => sp vs H2 Q (E σ)
end
/-! ### methods -/
/-- a method of the class with number c that keeps its function -/
structure VMt (P : Program) (w : World) (κ : Kx) (mg : Str → Option Value) (base : Heap) (c : Nat) (m : Str) (k : Nat) (ms : List Bool) (g : FSem) : Prop where
  ex : ∃ (f : Addr) (fd : FuncData) (ps : List Str), L2.Cls κ.K (κ.cl c) ∧ L2.Meth κ.K (κ.cl c) m f ∧ m ∉ κ.fl c ∧ FnOk P w κ.K mg base (L2.CX P w) k f fd ps (spV κ (false :: ms) g) ∧ Binds κ.K fd ps []
def VMs (P : Program) (w : World) (κ : Kx) (mg : Str → Option Value) (base : Heap) (m : Str) (k : Nat) (ms : List Bool) (gs : Nat → Option FSem) : Prop := ∀ c g, gs c = some g → ∃ j, j ≤ k ∧ VMt P w κ mg base c m j ms g
structure VMtI (P : Program) (w : World) (κ : Kx) (mg : Str → Option Value) (base : Heap) (c : Nat) (m : Str) (k : Nat) (ms : List Bool) (g : FSemI) : Prop where
  ex : ∃ (f : Addr) (fd : FuncData) (ps : List Str), L2.Cls κ.K (κ.cl c) ∧ L2.Meth κ.K (κ.cl c) m f ∧ m ∉ κ.fl c ∧ FnOk P w κ.K mg base (L2.CX P w) k f fd ps (spI κ 0 ms g) ∧ Binds κ.K fd ps []
/-- a class that is made -/
structure VMk (P : Program) (w : World) (κ : Kx) (mg : Str → Option Value) (base : Heap) (x : Str) (c : Nat) (k : Nat) (ms : List Bool) (g : FSemI) : Prop where
  ex : ∃ (f : Addr) (fd : FuncData) (ps : List Str), mg x = some (.ref (κ.cl c)) ∧ Mk κ.K (κ.cl c) f ∧ FnOk P w κ.K mg base (L2.CX P w) k f fd ps (spI κ 0 ms g) ∧ Binds κ.K fd ps []
/-- C.__init__(self, ..) -/
structure VCi (P : Program) (w : World) (κ : Kx) (mg : Str → Option Value) (base : Heap) (x : Str) (c : Nat) (m : Str) (k : Nat) (ms : List Bool) (g : FSemI) : Prop where
  ex : ∃ (f : Addr) (fd : FuncData) (ps : List Str) (mc : Value), mg x = some (.ref (κ.cl c)) ∧ ClX.CRead κ.K (κ.cl c) mc ∧ PySem.W.findCls κ.K (.ref (κ.cl c)) mc m = some (.val (.ref f)) ∧ PySem.W.keepIn κ.K (.ref f) = true ∧ FnOk P w κ.K mg base (L2.CX P w) k f fd ps (spI κ 0 ms g) ∧ Binds κ.K fd ps []
def fMeth (gs : Nat → Option FSem) (mo : Sm D) (mr : Sm (List D)) : Sm Rs := bnd mo fun x => match x with
  | .ob c l => match gs c with
    | some g => fCall (fun ds => g (.ob c l :: ds)) mr
    | none => fun _ => none
  | _ => fun _ => none
def fMethI (i c : Nat) (g : FSemI) (m : Sm (List D)) : Sm Rs := fun e => match obAt e i with
  | some (c', _) => if c' = c then fCallI i g m e else none
  | none => none
def fMake (c : Nat) (g : FSemI) (m : Sm (List D)) : Sm Rs := bnd m fun ds e => match g (.ob c []) ds with
  | some (.rt (.sh .non) o) => some (.ok (.tr o) e)
  | some (.ex x _) => some (.ex x e)
  | _ => none
section
variable {X : Cx} {κ : Kx} {W : WX} {e o : Expr} {es : List Expr} {ms : List Bool} {g : FSem} {gI : FSemI} {gs : Nat → Option FSem} {mo : Sm D} {mr : Sm (List D)} {k : Nat} {x m : Str} {p pos apos np : Pos} {c : Nat}
/-! ### arguments with a thing to be changed -/
def RAI (κ : Kx) (i q0 : Nat) (ms : List Bool) : Rl (List D) (List V) := fun σ _ H G _ vs ds => ∃ v us, vs = insA q0 v us ∧ σ[i]? = some (some v) ∧ RBs κ H G ms us ds ∧ q0 ≤ ms.length
instance {i q0 : Nat} : RlMono (RAI κ i q0 ms) := ⟨fun _ q => q⟩
def aHere (i : Nat) (m : Sm (List D)) : Sm (List D) := fun e => match e[i]? with
  | some s => match getO s with
    | some _ => m e
    | none => none
  | none => none
/-! ### values that change, put together -/
/-! ### methods of own lists -/
/-- xs.pop() -/
def fPop0 (i : Nat) : Sm D := fun e => match e[i]? with
  | some s => match getL s with
    | some l => match l[l.length - 1]? with
      | some d => some (.ok d (e.set i (setL s l.dropLast)))
      | none => none
    | none => none
  | none => none
theorem RpA.dl {H G : Hp} {xs : List V} {l : List D} (r : RpA κ G xs l) : RpA κ G xs.dropLast l.dropLast := by
  rw [List.dropLast_eq_take, List.dropLast_eq_take, r.length]
  exact r.take _
/-- xs.pop(i) -/
def fPop1 (i : Nat) (m : Sm D) : Sm D := fun e0 => match e0[i]? with
  | some s0 => match getL s0 with
    | some _ => bnd m (fun j e => match j with
      | .int z => match e[i]? with
        | some s => match getL s with
          | some l => if -1000000 ≤ z ∧ z ≤ 1000000 then match seqIndex? z l.length with
            | some k => match l[k]? with
              | some d => some (.ok d (e.set i (setL s (l.eraseIdx k))))
              | none => none
            | none => none
            else none
          | none => none
        | none => none
      | _ => none) e0
    | none => none
  | none => none
theorem RpA.erase {G : Hp} : ∀ {xs : List V} {l : List D} (k : Nat), RpA κ G xs l → RpA κ G (xs.eraseIdx k) (l.eraseIdx k)
  | _, _, _, .nil => .nil
  | _, _, 0, .cons _ t => t
  | _, _, k + 1, .cons r t => .cons r (RpA.erase k t)
/-- xs.insert(i, e) -/
def sIns (i : Nat) (mj m : Sm D) : Ss := sOwn i (sbnd mj fun j => sbnd m fun d => match j with
  | .int z => chL i fun l => if 0 ≤ z ∧ z ≤ 1000000 ∧ l.length < szl then some (l.take z.toNat ++ [d] ++ l.drop z.toNat) else none
  | _ => fun _ => none)
end
end Vs


set_option Elab.async false
set_option linter.all false
set_option maxRecDepth 100000
set_option maxHeartbeats 2000000
/-! Vs7: more of the built-ins and of the classes. -/
namespace Vs
open PySem L2 PyProof.Rows
/-! ### isinstance of an own class -/
structure IsoOk (κ : Kx) (cv : Value) (tab : Nat → Option Bool) : Prop where
  ok : ∀ c b, tab c = some b → L2.Cls κ.K (κ.cl c) ∧ PySem.W.findIn κ.K (.ref (κ.cl c)) "__class__" = some (some (.builtin "object.__class__")) ∧ PySem.W.specialIn κ.K (.builtin "object.__class__") "__get__" = some (some (.builtin "getset_descriptor.__get__")) ∧ PySem.W.takesIn κ.K (.builtin "object.__class__") = some true ∧ PySem.W.mroIn κ.K (κ.cl c) (.type "object") = some true ∧ PySem.W.kitOne κ.K (.ref (κ.cl c)) cv = some b
def fIsO (tab : Nat → Option Bool) (m : Sm D) : Sm D := bnd m fun d e => match d with
  | .ob c _ => match tab c with
    | some b => some (.ok (.bl b) e)
    | none => none
  | _ => none
section
variable {X : Cx} {κ : Kx} {W : WX} {o e e2 : Expr} {mo : Sm D} {pos p p2 : Pos}
end
/-! ### a method with a default -/
section
variable {X : Cx} {k : Nat} {m : Str} {pos apos : Pos} {e o : Expr} {es : List Expr} {ta : TE} {t : TA} {E : L2.St → XK}
def tMethVD (X : Cx) (m : Str) (dvs : List V) (E : L2.St → XK) (ta : TE) (t : TA) : TE := fun σ H Q => ta σ H fun x H1 => ∃ (C g : Addr) (fd : FuncData) (ps : List Str) (k : Nat) (sp : Sp) (a dx : Addr) (fs : List (Str × V)) (ds : List Value), x = .ref a ∧ H1 a = some (.ins C dx fs) ∧ fs.lookup m = none ∧
  L2.Cls X.K C ∧ L2.Meth X.K C m g ∧ FnOk X.prog X.w X.K X.mg X.base (L2.CX X.prog X.w) k g fd ps sp ∧ Room k X.A ∧ Binds X.K fd ps ds ∧ Vals dvs ds ∧ t σ H1 fun vs H2 => sp ((x :: vs) ++ dvs) H2 Q (E σ)
end
def VMsD (P : Program) (w : World) (κ : Kx) (mg : Str → Option Value) (base : Heap) (m : Str) (k : Nat) (ms : List Bool) (gs : Nat → Option FSem) (dv : Int) : Prop := ∀ c g, gs c = some g → ∃ j, j ≤ k ∧ ∃ (f : Addr) (fd : FuncData) (ps : List Str), L2.Cls κ.K (κ.cl c) ∧ L2.Meth κ.K (κ.cl c) m f ∧ m ∉ κ.fl c ∧ FnOk P w κ.K mg base (L2.CX P w) j f fd ps (spV κ (false :: ms) g) ∧ Binds κ.K fd ps [] ∧ ∃ ds, Vals [V.int dv] ds ∧ Binds κ.K fd ps ds
def fMethD (gs : Nat → Option FSem) (dv : Int) (mo : Sm D) (mr : Sm (List D)) : Sm Rs := fMeth (fun c => match gs c with
  | some g => some fun ds => g (ds ++ [.int dv])
  | none => none) mo mr
section
variable {X : Cx} {κ : Kx} {W : WX} {e o e2 : Expr} {es : List Expr} {ms : List Bool} {mo : Sm D} {mr : Sm (List D)} {k : Nat} {x m : Str} {p p2 pos apos np : Pos} {gs : Nat → Option FSem} {dv : Int} {mm : Bool}
/-! ### own lists in an own object -/
/-- self.f.append(e) -/
def chF (i : Nat) (tab : Nat → Option Nat) (f : List D → Option (List D)) (e : En) : Option En := match obAt e i with
  | some (c, fs) => match tab c with
    | some k => match fs[k]? with
      | some (.ow l) => match f l with
        | some l' => match e[i]? with
          | some s => some (e.set i (setO s (.ob c (fs.set k (.ow l')))))
          | none => none
        | none => none
      | _ => none
    | none => none
  | none => none
theorem RFs.chg {H G : Hp} {b : Addr} {xs' : List V} {l' : List D} (hb : H b = some (.lst xs')) (r : RpA κ G xs' l') : ∀ {vs : List V} {fs : List Fd} {F : List Addr} (H0 : Hp) (k : Nat) (l : List D), RFs κ H0 G vs fs F → fs[k]? = some (.ow l) → vs[k]? = some (.ref b) → (∀ a u, a ≠ b → H0 a = some u → H a = some u) → RFs κ H G vs (fs.set k (.ow l')) F
  | _, _, _, H0, k, l, .nil, h, _, _ => by simp at h
  | _, _, _, H0, 0, l, .sh _ _, h, _, _ => by simp at h
  | _, _, _, H0, 0, l, .ow h1 h2 h3 h4 t, h, hv, hk => by
    simp only [List.getElem?_cons_zero, Option.some.injEq, V.ref.injEq] at hv
    subst hv
    exact .ow hb h2 r h4 (t.grow (Same.refl _) (fun a u m h => hk a u (fun z => h4 (z ▸ m)) h) fun a m => (t.own m).2)
  | _, _, _, H0, k + 1, l, .sh q t, h, hv, hk => .sh q (RFs.chg hb r H0 k l t (by simpa using h) (by simpa using hv) hk)
  | _, _, _, H0, k + 1, l, .ow h1 h2 h3 h4 t, h, hv, hk => by
    rename_i a0 xs0 l0 vs0 fs0 F0
    have h' : fs0[k]? = some (.ow l) := by simpa using h
    have hv' : vs0[k]? = some (.ref b) := by simpa using hv
    have ne : a0 ≠ b := fun z => by
      obtain ⟨v, e1, e2⟩ := t.at (k := k) (x := .ow l) h'
      rw [hv'] at e1
      cases e1
      rcases e2 with ⟨d, e, _⟩ | ⟨a, xs, l2, e, e3, _, _, _, m⟩
      · cases e
      · cases e3
        exact h4 (z ▸ m)
    exact .ow (hk _ _ ne h1) h2 h3 h4 (RFs.chg hb r H0 k l t h' hv' hk)
def sAppF (i : Nat) (tab : Nat → Option Nat) (m : Sm D) : Ss := fun e0 => match chF i tab some e0 with
  | some _ => sbnd m (fun d e => match chF i tab (fun l => if l.length < szl then some (l ++ [d]) else none) e with
    | some e1 => some (.nx e1)
    | none => none) e0
  | none => none
def fPopF (i : Nat) (tab : Nat → Option Nat) : Sm D := fun e => match eFd i tab e with
  | some (.ow l) => match l[l.length - 1]? with
    | some d => match chF i tab (fun l => some l.dropLast) e with
      | some e1 => some (.ok d e1)
      | none => none
    | none => none
  | _ => none
/-! ### zip -/
def zipL (l k : List D) : List D := List.zipWith (fun a b => .tup [a, b]) l k
def fZip (m n : Sm (List D)) : Sm (List D) := bnd m fun l => bnd n fun k e => some (.ok (zipL l k) e)
/-! ### xs.index(e) -/
def ixL (x : D) : List D → Option Nat
  | [] => none
  | y :: l => if y.feq x = true then some 0 else match ixL x l with
    | some j => some (j + 1)
    | none => none
def ixP (x : PyData) : List PyData → Option Nat
  | [] => none
  | y :: l => if PyData.eqv y x = true then some 0 else match ixP x l with
    | some j => some (j + 1)
    | none => none
def fML (f : List D → D → Option Rs) (mo me : Sm D) : Sm Rs := bnd mo fun x => match x with
  | .lst l => bnd me fun y e => match f l y with
    | some z => some (.ok z e)
    | none => none
  | _ => fun _ => none
def opIdx (l : List D) (x : D) : Option Rs := if x.fl = true ∧ l.all D.fl = true then (match ixL x l with
      | some j => some (.sh (.int (j : Int)))
      | none => none)
    else if x.okE = true ∧ (D.lst l).okE = true then (match ixP x.toP (toPA l) with
      | some j => some (.sh (.int (j : Int)))
      | none => none) else none
def rIdxA (κ : Kx) : V → List V → Hp → VK → Prop := fun x xs H Q => rIndex κ.K x xs H Q ∨ rIndexD κ.K x xs H Q
/-! ### any, all, sorted, max, min -/
def allBls : List D → Option (List Bool)
  | [] => some []
  | .bl b :: r => match allBls r with
    | some l => some (b :: l)
    | none => none
  | _ :: _ => none
def opAny : List D → Option Rs
  | [.lst l] => match allBls l with
    | some bs => some (.sh (.bl (bs.any id)))
    | none => none
  | _ => none
def opAll : List D → Option Rs
  | [.lst l] => match allBls l with
    | some bs => some (.sh (.bl (bs.all id)))
    | none => none
  | _ => none
def insI (x : Int) : List Int → List Int
  | [] => [x]
  | y :: l => if x ≤ y then x :: y :: l else y :: insI x l
def srtI : List Int → List Int
  | [] => []
  | x :: l => insI x (srtI l)
def opSorted : List D → Option Rs
  | [.lst l] => match allInts l with
    | some ns => some (.ow ((srtI ns).map D.int))
    | none => none
  | _ => none
def maxL : List Int → Option Int
  | [] => none
  | x :: l => some (l.foldl (fun a b => if a < b then b else a) x)
def minL : List Int → Option Int
  | [] => none
  | x :: l => some (l.foldl (fun a b => if b < a then b else a) x)
def opMaxL : List D → Option Rs
  | [.lst l] => match allInts l with
    | some ns => match maxL ns with
      | some m => some (.sh (.int m))
      | none => none
    | none => none
  | _ => none
def opMinL : List D → Option Rs
  | [.lst l] => match allInts l with
    | some ns => match minL ns with
      | some m => some (.sh (.int m))
      | none => none
    | none => none
  | _ => none
/-! ### more methods of texts -/
def opRfind : List Nat → D → Option Rs
  | a, .str b => some (.sh (.int (Txt.rfind (S a) (S b))))
  | _, _ => none
def opCount : List Nat → D → Option Rs
  | a, .str b => some (.sh (.int (Txt.count (S a) (S b))))
  | _, _ => none
variable {me : Sm D}
end
/-! a comprehension inside a comprehension -/
/-! ### <= over data -/
def rLeD (K : PySem.W.Frag) : R2 := fun x y H Q => ∃ d e, Dp K H x d ∧ Dp K H y e ∧ PySem.W.alike d e = true ∧ d ≠ .none ∧ d.depth ≤ 64 ∧ Q (.bl (!PySem.W.dataLt e d)) H
def dLe (x y : D) : Option Bool := if x.pl = true ∧ y.pl = true ∧ PySem.W.alike x.toP y.toP = true ∧ x.toP.depth ≤ 64 then some (!PySem.W.dataLt y.toP x.toP) else none
def cLeA : D → D → Option Bool
  | .int i, .int j => some (decide (i ≤ j))
  | .str a, .str b => some (!decide (b < a))
  | .lst a, .lst b => dLe (.lst a) (.lst b)
  | .tup a, .tup b => dLe (.tup a) (.tup b)
  | _, _ => none
def rLeA (κ : Kx) : R2 := fun x y H Q => rCm (fun i j => decide (i ≤ j)) (fun a b => !decide (b < a)) x y H Q ∨ rLeD κ.K x y H Q
end Vs


set_option Elab.async false
set_option linter.all false
set_option maxRecDepth 100000
set_option maxHeartbeats 2000000
/-! Vs8: sep.join(reversed(text)). -/
namespace RS
open PySem PySem.Spec PyProof.Rows L2
def rsObj (x : Str) (t : Tok) (i : Int) : Obj := { cls := .type "reversed", data := .fields #[.str x t, rawInt i] }
def IsRs (h : Heap) (a : Addr) (x : Str) (t : Tok) (i : Int) : Prop := ∃ o, h.get? a = some o ∧ o.cls = .type "reversed" ∧ o.data = .fields #[.str x t, rawInt i]
theorem IsRs.at {h h' : Heap} {a : Addr} {x : Str} {t : Tok} {i : Int} (q : IsRs h a x t i) (e : ∀ o, h.get? a = some o → h'.get? a = some o) : IsRs h' a x t i := let ⟨o, ho, r⟩ := q; ⟨o, e _ ho, r⟩
section
variable {prog : Program} {w : World} {A : Around} {E : Value → Shared → Prop} {s : Shared} {x : Str} {t : Tok}
end
section
variable {X : Cx}
def tJoinRev (to te : TE) : TE := fun σ H Q => to σ H fun v H1 => (∃ a, v = .str a) ∧ te σ H1 fun u H2 => ∃ a b : Str, v = .str a ∧ u = .str b ∧ b.length ≤ sizeLine ∧
  ((b.cps.toList.reverse.map fun c => (⟨#[c]⟩ : Str)).map (·.length)).sum + (b.cps.toList.reverse.map fun c => (⟨#[c]⟩ : Str)).length * a.length ≤ 16777216 ∧ Q (.str (Txt.join a (b.cps.toList.reverse.map fun c => (⟨#[c]⟩ : Str)))) H2
end
/-! ### list(reversed(list)) -/
section
variable {prog : Program} {w : World} {A : Around} {E : Value → Shared → Prop} {s : Shared}
end
section
variable {X : Cx}
def tListRev (K : PySem.W.Frag) (te : TE) : TE := fun σ H Q => te σ H fun v H1 => ∃ (a : Addr) (xs : List V), v = .ref a ∧ SqL K H1 a xs ∧ ∀ q, H1 q = none → Q (.ref q) (upd H1 q (.lst xs.reverse))
end
end RS
namespace Vs
open PySem L2
/-! ### reversed -/
/-- ''.join(reversed(text)) -/
def opJoinRev : List Nat → D → Option Rs
  | [], .str w => if w.length ≤ szl then some (.sh (.str w.reverse)) else none
  | _, _ => none
/-- list(reversed(list)) -/
def fLRev (m : Sm D) : Sm Rs := bnd m fun d e => match d with
  | .lst l => some (.ok (.ow l.reverse) e)
  | _ => none
section
variable {X : Cx} {κ : Kx} {W : WX} {o e : Expr} {mo me : Sm D} {apos pos p p2 pos2 : Pos}
end
end Vs


set_option Elab.async false
set_option linter.all false
set_option maxRecDepth 100000
set_option maxHeartbeats 2000000
/-! Vs9: a list that a call gave and no name holds, changed in a statement; isinstance of three classes. -/
namespace Vs
open PySem PySem.Spec PyProof.Rows L2
section
variable {κ : Kx} {W : WX} {σ : L2.St} {H H' : Hp} {G G' : Gh} {env env' : En} {a : Addr}
theorem fre_fr {σ' : L2.St} {o : HO} (r : Rep κ H' G' σ' env') (f : Fr H G σ env H' G' σ' env') (h : H a = some o) (z : Fre G env a) : Fre G' env' a := fun i s e m => by
  by_cases q : s.mut = true
  · obtain ⟨j, t, h1, h2, h3⟩ := f.mm a o h ⟨i, s, e, q, m⟩
    exact z j t h1 h3
  · by_cases x : s.fix = true
    · obtain ⟨s0, h1, h2, _, h4⟩ := f.lk i s x e
      have q' : s.mut = false := by cases w : s.mut with
        | true => exact absurd w q
        | false => rfl
      have e0 := was_eq q' x h2
      rw [h4 e0 q'] at m
      exact z i s0 h1 m
    · have s0 := r.slot i s e
      cases s with
      | un => rw [show G'.fp i = [] from s0] at m; cases m
      | sh d => rw [s0.1] at m; cases m
      | _ => first | exact absurd rfl q | exact absurd rfl x
end
/-- e().clear(), the list that the call gave -/
def sTmpC (m : Sm Rs) : Ss := sbnd m fun r e => match r with
  | .ow _ => some (.nx e)
  | _ => none
/-- e().append(v) -/
def sTmpA (m : Sm Rs) (m2 : Sm D) : Ss := sbnd m fun r => match r with
  | .ow l => if l.length < szl then sbnd m2 fun _ e => some (.nx e) else fun _ => none
  | _ => fun _ => none
section
variable {X : Cx} {κ : Kx} {W : WX} {e o : Expr} {mo : Sm Rs} {m : Sm D} {apos cpos pos p2 : Pos}
end
section
variable {X : Cx} {κ : Kx} {W : WX} {x : Str} {np : Pos} {i : Nat}
end
end Vs


set_option Elab.async false
set_option linter.all false
set_option maxRecDepth 100000
set_option maxHeartbeats 2000000
/-! Va: several except clauses with names; is False. -/
namespace L2
open PySem PySem.Spec PyProof.Rows
/-- what the named clauses wish of an exception of the body, one after the other -/
def wManyAs (K : PySem.W.Frag) (Wout : WX) (D : Ends) : List (Value × Option Nat × (Addr → Value → Option Addr → TS)) → WX
  | [] => Wout
  | (c, none, ts) :: r => fun cls d σ H => ∃ b, PySem.W.exmOne K cls c = some b ∧ (b = true → ∀ a, H a = none → ts a cls d D σ H) ∧ (b = false → wManyAs K Wout D r cls d σ H)
  | (c, some i, ts) :: r => fun cls d σ H => ∃ b, PySem.W.exmOne K cls c = some b ∧ (b = true → ∀ a, H a = none → ts a cls d { nx := fun σ' H' => D.nx (σ'.set i none) H', rt := D.rt, bk := fun σ' H' => D.bk (σ'.set i none) H', ct := fun σ' H' => D.ct (σ'.set i none) H' } (σ.set i (some (.ref a))) H) ∧ (b = false → wManyAs K Wout D r cls d σ H)
inductive HdsAs (X : Cx) : List ExceptHandler → List (Value × Option Nat × (Addr → Value → Option Addr → TS)) → Prop
  | nil : HdsAs X [] []
  | cons {x n : Str} {c : Value} {i : Nat} {ts : Addr → Value → Option Addr → TS} {b₀ : Stmt} {suite : List Stmt} {np pos' : Pos} {hds : List ExceptHandler} {l : List (Value × Option Nat × (Addr → Value → Option Addr → TS))} (hc : Names X x c) (hi : X.N[i]? = some n) (hln : X.env.kindOf n = some .local)
      (hsu : ∀ (a : Addr) (oe : Obj) (cls : Value) (d : Option Addr) (pn : List (Addr × Obj)), Zc cls d oe → (∃ vs, oe.data = .fields vs) → PSs (X.suite a ((a, oe) :: pn)) (b₀ :: suite) (ts a cls d)) (r : HdsAs X hds l) :
      HdsAs X (.ExceptHandler (some (.Name x np)) (some n) (b₀ :: suite) pos' :: hds) ((c, some i, ts) :: l)
  | cons0 {x : Str} {c : Value} {ts : Addr → Value → Option Addr → TS} {b₀ : Stmt} {suite : List Stmt} {np pos' : Pos} {hds : List ExceptHandler} {l : List (Value × Option Nat × (Addr → Value → Option Addr → TS))} (hc : Names X x c)
      (hsu : ∀ (a : Addr) (oe : Obj) (cls : Value) (d : Option Addr) (pn : List (Addr × Obj)), Zc cls d oe → (∃ vs, oe.data = .fields vs) → PSs (X.suite a ((a, oe) :: pn)) (b₀ :: suite) (ts a cls d)) (r : HdsAs X hds l) :
      HdsAs X (.ExceptHandler (some (.Name x np)) none (b₀ :: suite) pos' :: hds) ((c, none, ts) :: l)
section
variable {X : Cx} {body : List Stmt} {h₀ : ExceptHandler} {hds : List ExceptHandler} {l : List (Value × Option Nat × (Addr → Value → Option Addr → TS))} {pos : Pos} {tb : WX → TS} {Wout : WX}
end
end L2
namespace Vs
open PySem PySem.Spec PyProof.Rows L2
/-- is False, is True -/
def cIsB : D → D → Option Bool
  | .bl a, .bl b => some (decide (a = b))
  | _, _ => none
def cNotB : D → D → Option Bool
  | .bl a, .bl b => some (!decide (a = b))
  | _, _ => none
noncomputable def hdl (xs : Nat → Nat → Option Bool) (x : Ex) (e1 : En) : List (Nat × Option Nat × (Xo → Ss)) → Option SO
  | [] => some (.ex x e1)
  | (h, none, ms) :: r => match xs x.c h with
    | some true => allEq fun o => noX (ms o e1)
    | some false => hdl xs x e1 r
    | none => none
  | (h, some i, ms) :: r => match xs x.c h with
    | some true => if i < e1.length then allEq fun o => aftr i (ms o (e1.set i (.sh (.xn o x)))) else none
    | some false => hdl xs x e1 r
    | none => none
/-- except X as n, except Y as m -/
noncomputable def sTryM (xs : Nat → Nat → Option Bool) (l : List (Nat × Option Nat × (Xo → Ss))) (body : Ss) : Ss := fun e => match body e with
  | some (.ex x e1) => hdl xs x e1 l
  | o => o
inductive HdsM (X : Cx) (κ : Kx) (xs : Nat → Nat → Option Bool) : List ExceptHandler → List (Nat × Option Nat × (Xo → Ss)) → Prop
  | nil : HdsM X κ xs [] []
  | cons {x n : Str} {h i : Nat} {ms : Xo → Ss} {b₀ : Stmt} {suite : List Stmt} {np pos' : Pos} {hds : List ExceptHandler} {l : List (Nat × Option Nat × (Xo → Ss))} (hi : X.N[i]? = some n) (hln : X.env.kindOf n = some .local) (hc : Names X x (.ref (κ.xc h))) (hx : XsOk κ xs h)
      (hsu : ∀ (a : Addr) (oe : Obj) (cls : Value) (d : Option Addr) (pn : List (Addr × Obj)), Zc cls d oe → (∃ vs, oe.data = .fields vs) → PSs (X.suite a ((a, oe) :: pn)) (b₀ :: suite) (tS κ WF (ms ⟨a, cls, d⟩))) (r : HdsM X κ xs hds l) :
      HdsM X κ xs (.ExceptHandler (some (.Name x np)) (some n) (b₀ :: suite) pos' :: hds) ((h, some i, ms) :: l)
  | cons0 {x : Str} {h : Nat} {ms : Xo → Ss} {b₀ : Stmt} {suite : List Stmt} {np pos' : Pos} {hds : List ExceptHandler} {l : List (Nat × Option Nat × (Xo → Ss))} (hc : Names X x (.ref (κ.xc h))) (hx : XsOk κ xs h)
      (hsu : ∀ (a : Addr) (oe : Obj) (cls : Value) (d : Option Addr) (pn : List (Addr × Obj)), Zc cls d oe → (∃ vs, oe.data = .fields vs) → PSs (X.suite a ((a, oe) :: pn)) (b₀ :: suite) (tS κ WF (ms ⟨a, cls, d⟩))) (r : HdsM X κ xs hds l) :
      HdsM X κ xs (.ExceptHandler (some (.Name x np)) none (b₀ :: suite) pos' :: hds) ((h, none, ms) :: l)
section
variable {X : Cx} {κ : Kx} {W : WX} {xs : Nat → Nat → Option Bool} {body : List Stmt} {h₀ : ExceptHandler} {hds : List ExceptHandler} {l : List (Nat × Option Nat × (Xo → Ss))} {pos : Pos} {mb : Ss}
def toT (κ : Kx) (l : List (Nat × Option Nat × (Xo → Ss))) : List (Value × Option Nat × (Addr → Value → Option Addr → TS)) := l.map fun p => (.ref (κ.xc p.1), p.2.1, fun a cls d => tS κ WF (p.2.2 ⟨a, cls, d⟩))
theorem HdsM.as {hds : List ExceptHandler} {l : List (Nat × Option Nat × (Xo → Ss))} (h : HdsM X κ xs hds l) : HdsAs X hds (toT κ l) := by
  induction h with
  | nil => exact .nil
  | cons hi hln hc hx hsu r ih => exact .cons hc hi hln hsu ih
  | cons0 hc hx hsu r ih => exact .cons0 hc hsu ih
end
end Vs


set_option Elab.async false
set_option linter.all false
set_option maxRecDepth 100000
set_option maxHeartbeats 2000000
/-! Vb: a caught error handed to a def that asks of what class it is. -/
namespace Vs
open PySem PySem.Spec PyProof.Rows L2
section
variable {P : Program} {w : World} {K : PySem.W.Frag} {mg : Str → Option Value} {base : Heap} {CX : CXT} {k : Nat}
/-- what a def promises where p's object stands in the state -/
structure FnP (P : Program) (w : World) (K : PySem.W.Frag) (mg : Str → Option Value) (base : Heap) (CX : CXT) (k : Nat) (f : Addr) (fd : FuncData) (ps : List Str) (p : Addr × Obj) (sp : Sp) : Prop where
  len : ∀ vs H Q E, sp vs H Q E → vs.length = ps.length
  run : ∀ (A : Around) (outer : List Env) (s : Shared) (H : Hp) (args : Args) (us : List Value) (vs : List V) (Q : VK) (E : XK), L2H.RoomH k A → L2H.PinOk outer H s p → Env0 P w K mg base A outer s H → BindsTo s fd args (ps.zip us) → Vals vs us → sp vs H Q E →
    codeAny (model P w) A (.call (.ref f) args) (CR CX outer P w H s Q E) s
theorem fn_ofP {f : Addr} {name qual : Str} {params : Arguments} {body : List Stmt} {scope : Scope} {dV kV doc pm cdv ct oc : Value} {an od : Option Addr}
    {osl : Array (Option Value)} {N ps : List Str} {sp : Sp} {p : Addr × Obj} (lk : K.lookup f = some ⟨oc, od, .func (PySem.W.fnOf name qual params body scope dV kV doc pm an cdv ct), osl⟩) (hcd : PySem.W.codeIn K cdv qual = true) (S : FnScope N ps scope)
    (len : ∀ vs H Q E, sp vs H Q E → vs.length = ps.length)
    (hbody : ∀ (A : Around) (outer : List Env) (s : Shared) (H : Hp) (vs : List V) (Q : VK) (E : XK), L2H.RoomH k (A.deeper (envOfC qual scope s.heap.objs.size f cdv)) → sp vs H Q E →
      ∃ t, PSs (L2H.cxH CX P w K mg base N qual scope f cdv A outer s H E p) body t ∧ t { nx := fun _ H' => Q .non H', rt := Q } (L2.start N vs) H) :
    FnP P w K mg base CX (k + 1) f (PySem.W.fnOf name qual params body scope dV kV doc pm an cdv ct) ps p sp := by
  refine ⟨len, fun A outer s H args us vs Q E hr hpin e0 hb r hsp => ?_⟩
  have hl := len _ _ _ _ hsp
  have KX : K.In s.heap := e0.mod.kin.keeps fun b o e => (e0.bs b o e).1
  have lim : s.heap.NoLimit := e0.mod.nolimit.keeps fun b o e => (e0.bs b o e).1
  have hkind : ∀ y ∈ ps.zip us, scope.names.lookup y.1 = some .local ∨ (scope.names.lookup y.1 = some .cell ∧ ((cellsFrom (s.heap.objs.size + 1) scope.names []).lookup y.1).isSome = true) := fun ⟨n, v⟩ hy => by
    rcases S.par n (List.of_mem_zip hy).1 with q | q
    · exact .inl q
    · exact .inr ⟨q, PySem.W.cellsFrom_some _ _ _ (.inl q)⟩
  refine codeAny_call_function hr.depth (KX _ _ lk) rfl S.co S.gen rfl (PySem.W.codeRec_of KX hcd) (hb _ _ _ _ ?_)
  refine wpAny_newFunctionEnv_cells S.kind hkind fun env he s1 x => ?_
  subst he
  refine ⟨lim.keeps x.toInCall.keep, codeAny_func ?_⟩
  obtain ⟨t, ht, hq⟩ := hbody A outer s H vs Q E (hr.deeper _) hsp
  have I : Inv (L2H.cxH CX P w K mg base N qual scope f cdv A outer s H E p) [] (L2.start N vs) H s1 := L2H.inv_startH S hpin e0 hl r x
  refine wpAny_mono (ht.run [] s1 (L2.start N vs) H _ I hq) (fun fl s' hs => ?_) fun e s' hs => hs
  have fin : ∀ {σ' : L2.St} {H' : Hp} {v : V} {u : Value}, Inv (L2H.cxH CX P w K mg base N qual scope f cdv A outer s H E p) [] σ' H' s' → RelV v u → Q v H' → CE outer P w H s Q u s' :=
    fun {σ' H' v u} J rv q => ⟨v, H', J.os, J.bare, J.base, J.hok, rv, q⟩
  cases fl with
  | ret u =>
    obtain ⟨v, σ', H', J, rv, q⟩ := hs
    exact fin J rv q
  | next =>
    obtain ⟨σ', H', J, q⟩ := hs
    exact fin (v := V.non) (u := Value.none) J rfl q
  | brk =>
    obtain ⟨_, _, _, q⟩ := hs
    exact False.elim q
  | cont =>
    obtain ⟨_, _, _, q⟩ := hs
    exact False.elim q
theorem fun_okP {x qual : Str} {st : Stmt} {f : Addr} {fd : FuncData} {N ps : List Str} {sp : Sp} {p : Addr × Obj} (F : Fun K x qual st f fd) (S : FnScope N ps (defScope st)) (len : ∀ vs H Q E, sp vs H Q E → vs.length = ps.length)
    (hbody : ∀ (cdv : Value) (A : Around) (outer : List Env) (s : Shared) (H : Hp) (vs : List V) (Q : VK) (E : XK), L2H.RoomH k (A.deeper (envOfC qual (defScope st) s.heap.objs.size f cdv)) → sp vs H Q E →
      ∃ t, PSs (L2H.cxH (L2.CX P w) P w K mg base N qual (defScope st) f cdv A outer s H E p) (defBody st) t ∧ t { nx := fun _ H' => Q .non H', rt := Q } (L2.start N vs) H) : FnP P w K mg base (L2.CX P w) (k + 1) f fd ps p sp := by
  obtain ⟨oc, od, kV, doc, pm, an, cdv, ct, osl, rfl, lk, hcd⟩ := F.ex
  exact fn_ofP lk hcd S len fun A outer s H vs Q E hr hsp => hbody cdv A outer s H vs Q E hr hsp
end
section
variable {X : Cx} {CX : CXT} {k : Nat} {f : Addr} {fd : FuncData} {ps : List Str} {sp : Sp} {E : L2.St → XK} {x : Str} {q pos : Pos} {e : Expr} {es : List Expr} {t : TA} {p : Addr × Obj}
theorem run_fnP {pins : List (Addr × Obj)} {σ : L2.St} {H : Hp} {s : Shared} {Q : VK} {us : List Value} {vs : List V} (F : FnP X.prog X.w X.K X.mg X.base CX k f fd ps p sp) (hr : L2H.RoomH k X.A) (hp : p ∈ X.pn) (hb : Binds X.K fd ps []) (hx : PassesAt CX X σ (E σ))
    (I : Inv X pins σ H s) (r : Vals vs us) (h : sp vs H Q (E σ)) : wpAny (model X.prog X.w) X.A (call (.ref f) us) (EP X pins σ Q) X.xe s := by
  have hl : us.length = ps.length := by rw [← r.length]; exact F.len _ _ _ _ h
  have b := hb s us I.kIn (by rw [List.append_nil]; exact hl)
  rw [List.append_nil] at b
  have P1 := I.pin p (List.mem_append_left _ hp)
  have hpin : L2H.PinOk X.stack H s p := ⟨P1.1, P1.2.1, fun hm => (List.mem_cons.mp (I.stkSub p.1 hm)).elim P1.2.2.1 P1.2.2.2.1, P1.2.2.2.2⟩
  refine wpAny_call (codeAny_mono (F.run X.A X.stack s H ⟨us, []⟩ us vs Q (E σ) hr hpin I.env0 b r h) fun r s' hq => ?_)
  cases r with
  | error e => exact hx pins H s e s' I hq
  | ok fl =>
    cases fl with
    | ret u => exact I.after hq
    | next => exact False.elim hq
    | brk => exact False.elim hq
    | cont => exact False.elim hq
theorem pe_callP (F : FnP X.prog X.w X.K X.mg X.base CX k f fd ps p sp) (hr : L2H.RoomH k X.A) (hp : p ∈ X.pn) (hg : Gl X x) (hm : X.mg x = some (.ref f)) (hk : PySem.W.keepIn X.K (.ref f) = true) (hb : Binds X.K fd ps []) (hx : ∀ σ, PassesAt CX X σ (E σ))
    (ha : PA X (e :: es) t) (hdb : (x == ("__debug__" : Str)) = false := by decide) (he : starEach (e :: es) X.env = (false, eval e X.env) :: starEach es X.env := by rfl) (hpl : (backTo pos (starEach es X.env)).any (·.1) = false := by rfl) :
    PE X (.Call (.Name x q) (e :: es) [] pos) (tCallS sp E t) := by
  refine ⟨fun pins s σ H Q I h => ?_⟩
  refine wpAny_Call_Name_kw (ld_glob I hg hm ?_ hdb)
  refine PySem.W.callWith_K (h₀ := X.base) I.ok.mod.kin hk (thn (ha.run pos pins s σ H _ I h) fun us s1 ⟨vs, H1, I1, r, q⟩ => ⟨I1.kIn, ?_⟩) he hpl
  exact run_fnP F hr hp hb (hx σ) I1 r q
end
/-- .. as the written part tells it: for every error caught -/
structure VFnP (P : Program) (w : World) (κ : Kx) (mg : Str → Option Value) (base : Heap) (x : Str) (k : Nat) (ms : List Bool) (g : Xo → FSem) : Prop where
  ex : ∃ (f : Addr) (fd : FuncData) (ps : List Str), mg x = some (.ref f) ∧ PySem.W.keepIn κ.K (.ref f) = true ∧ (∀ (a : Addr) (oe : Obj) (cls : Value) (d : Option Addr), Zc cls d oe → (∃ vs, oe.data = .fields vs) → FnP P w κ.K mg base (L2.CX P w) k f fd ps (a, oe) (spV κ ms (g ⟨a, cls, d⟩))) ∧ Binds κ.K fd ps []
section
variable {X : Cx} {κ : Kx} {W : WX} {e : Expr} {es : List Expr} {ms : List Bool} {g : Xo → FSem} {mr : Sm (List D)} {k : Nat} {x : Str} {p pos : Pos} {a : Addr} {oe : Obj} {cls : Value} {d : Option Addr} {pn : List (Addr × Obj)}
theorem v_callP (F : VFnP X.prog X.w κ X.mg X.base x k ms g) (hz : Zc cls d oe) (hf : ∃ vs, oe.data = .fields vs) (hK : X.K = κ.K) (hr : Room k X.A) (tk : Takes (X.suite a ((a, oe) :: pn)) W) (hg : Gl X x) (ha : PA (X.suite a ((a, oe) :: pn)) (e :: es) (tX κ W (RA κ ms) mr)) (hdb : (x == ("__debug__" : Str)) = false := by decide)
    (he : starEach (e :: es) X.env = (false, eval e X.env) :: starEach es X.env := by rfl) (hpl : (backTo pos (starEach es X.env)).any (·.1) = false := by rfl) : PE (X.suite a ((a, oe) :: pn)) (.Call (.Name x p) (e :: es) [] pos) (tX κ W (RV κ) (fCall (g ⟨a, cls, d⟩) mr)) := by
  obtain ⟨f, fd, ps, hm, hk, F1, hb⟩ := F.ex
  have F1 := F1 a oe cls d hz hf
  rw [← hK] at hk F1 hb
  refine PE.imp (pe_callP (X := X.suite a ((a, oe) :: pn)) F1 ⟨hr.dp, hr.un⟩ List.mem_cons_self hg hm hk hb (fun σ => passAt tk σ) ha hdb he hpl) fun σ H Q ⟨G, env, r, q⟩ => ?_
  exact bind_post r q fun d e1 vs H1 G1 em r1 rv s1 f1 q1 => call_post r1 rv q1
end
section
variable {X : Cx} {κ : Kx} {W : WX} {x : Str} {np : Pos} {i : Nat}
theorem inst_xp {a : Addr} {oe : Obj} {cls : Value} {d : Option Addr} {pins : List (Addr × Obj)} {σ : L2.St} {H : Hp} {s : Shared} {y : Ex} (hp : (a, oe) ∈ X.pn) (hK : X.K = κ.K) (hB : IsB κ.K) (hz : Zc cls d oe) (hf : ∃ vs, oe.data = .fields vs) (I : Inv X pins σ H s) (xr : XR κ H y cls d) (ic : IsC κ.K (κ.xc y.c)) :
    ∃ P : Heap → Prop, PySem.W.KitX κ.K (.ref a) cls P ∧ P s.heap := by
  obtain ⟨ha, _⟩ := I.pin (a, oe) (List.mem_append_left _ hp)
  obtain ⟨vs, hd⟩ := hf
  obtain ⟨ec, x2⟩ := xr
  subst ec
  have nc : PySem.W.notCls oe = true := by unfold PySem.W.notCls; rw [hd] <;> rfl
  have fin : ∀ {od : Option Obj}, PySem.W.InstAt s.heap a oe (κ.xc y.c) od → ∃ P : Heap → Prop, PySem.W.KitX κ.K (.ref a) (.ref (κ.xc y.c)) P ∧ P s.heap := fun {od} J =>
    ⟨_, PySem.W.kitx_exc ic.ic ic.ga ic.gg ic.sb ic.ha hB.hn hB.ht ic.mo, J⟩
  cases d with
  | none => exact fin (od := none) ⟨ha, hz.1, nc, by rw [hz.2]; trivial⟩
  | some dd =>
    split at x2
    · cases x2
    · obtain ⟨b, eb, hb⟩ := x2
      cases eb
      have hx := I.hok dd _ hb
      obtain ⟨mA, hns, hr⟩ := hx
      obtain ⟨od, ho, hl⟩ := lookIn_ns hns
      exact fin (od := some od) ⟨ha, hz.1, nc, by rw [hz.2]; exact ho⟩
    · exact x2.elim
theorem call_isXp {a : Addr} {oe : Obj} {cls : Value} {d : Option Addr} (hp : (a, oe) ∈ X.pn) (hK : X.K = κ.K) (hB : IsB κ.K) (hz : Zc cls d oe) (hf : ∃ vs, oe.data = .fields vs) : CallR X (.builtin "isinstance") (rIsX κ cls d a) := by
  intro pins s σ H xs us Q I r h
  obtain ⟨c, cv, b, y, rfl, k, xr, ic, e, q⟩ := h
  obtain ⟨u1, u2, rfl, r1, r2⟩ := vals2 r
  cases (show u1 = Value.ref a from r1)
  have e2 := k.eq r2
  subst e2
  obtain ⟨P, Z, p⟩ := inst_xp hp hK hB hz hf I xr ic
  have kin : κ.K.In s.heap := hK ▸ I.kIn
  exact PySem.W.kia_one Z kin p e (fun z => nomatch z) fun tk => ⟨.bl b, H, I.tok tk, rfl, q⟩
theorem v_isXp {a : Addr} {oe : Obj} {cls : Value} {d : Option Addr} {p p2 pos : Pos} {T : Str} {cV : V} {cv : Value} {t : Nat → Option Bool} (hp : (a, oe) ∈ X.pn) (hK : X.K = κ.K) (hB : IsB κ.K) (hk : KsOk κ [cv] t) (hz : Zc cls d oe) (hf : ∃ vs, oe.data = .fields vs) (hg : Gl X "isinstance") (hm : X.mg "isinstance" = none) (hcv : ClsV cV cv)
    (hT : PE X (.Name T p2) (tC cV)) (ho : PE X (.Name x np) (tVar i))
    (hv : bootBuiltins "isinstance" = some (.builtin "isinstance") := by decide +kernel) (hst : starEach [.Name x np, .Name T p2] X.env = [(false, eval (.Name x np) X.env), (false, eval (.Name T p2) X.env)] := by rfl) (hst2 : starEach [.Name T p2] X.env = [(false, eval (.Name T p2) X.env)] := by rfl) (hpl : (backTo pos (starEach [.Name T p2] X.env)).any (·.1) = false := by rfl) :
    PE X (.Call (.Name "isinstance" p) [.Name x np, .Name T p2] [] pos) (tX κ W (RP κ) (fXi t ⟨a, cls, d⟩ i)) :=
  PE.imp (pe_callB (call_isXp hp hK hB hz hf) hg hm hv (pa_cons ho (pa_cons hT pa_nil (by rw [hst2]; rfl)) (by rw [hst, hst2])) (by decide) (by decide) (by rw [hst, hst2]) hpl) fun σ H Q ⟨G, env, rp, q⟩ => by
    obtain ⟨y, b, h1, xr, e, q1⟩ := fxi_of rp q
    obtain ⟨ic, k1⟩ := hk _ _ e
    have k2 : PySem.W.kitOne κ.K (.ref (κ.xc y.c)) cv = some b := by
      unfold PySem.W.kitAny at k1
      split at k1
      · rename_i z; rw [z, ← k1]
      · rename_i z; unfold PySem.W.kitAny at k1; rw [z, ← k1]
      · cases k1
    exact ⟨.ref a, h1, cV, cv, b, y, rfl, hcv, xr, ic, by rw [show cls = .ref (κ.xc y.c) from xr.1]; exact k2, q1 _ H G rp (.bl b) (Grw.refl _) Fr.refl⟩
end
end Vs


set_option Elab.async false
set_option linter.all false
set_option maxRecDepth 100000
set_option maxHeartbeats 2000000
/-! Vc: tuples and lists that hold own lists; a thing of one's own given away for the time of one expression. -/
namespace Vs
open PySem PySem.Spec PyProof.Rows L2
/-- the own thing at slot i, taken out -/
def eO (i : Nat) : Sm Rs := fun env => match env[i]? with
  | some (.sh d) => some (.ok (.sh d) env)
  | some (.ow l) => some (.ok (.ow l) (env.set i .un))
  | some (.tr o) => some (.ok (.tr o) (env.set i .un))
  | _ => none
def aConsF (m : Sm Rs) (mr : Sm (List Fd)) : Sm (List Fd) := bnd m fun r => bnd mr fun fs e => match r.fd with
  | some f => some (.ok (f :: fs) e)
  | none => none
def aNilF : Sm (List Fd) := fun e => some (.ok [] e)
def RFA (κ : Kx) : Rl (List Fd) (List V) := fun _ N H G env vs fs => ∃ F, RFs κ H G vs fs F ∧ ∀ a, a ∈ F → Fre G env a ∧ N a
/-- a tuple, a list of things that may be own lists -/
def fSq (t : Bool) (m : Sm (List Fd)) : Sm Rs := bnd m fun fs e => if fs.length ≤ szl then some (.ok (.tr (.sq t fs)) e) else none
section
variable {X : Cx} {κ : Kx} {W : WX} {a : Expr} {es : List Expr} {pos : Pos} {ma : Sm Rs} {mr : Sm (List Fd)}
theorem take_out {σ : L2.St} {H : Hp} {G : Gh} {env : En} {i : Nat} {s : Sl} {o : O} {v : V} (r : Rep κ H G σ env) (e : env[i]? = some s) (t : s.th = some o) (hm : s.mut = true) (hv : σ[i]? = some (some v)) :
    Rep κ H ⟨G.g, (G.put i []).fp⟩ σ (env.set i .un) ∧ Fr H G σ env H ⟨G.g, (G.put i []).fp⟩ σ (env.set i .un) ∧ ∀ b, b ∈ G.fp i → Fre ⟨G.g, (G.put i []).fp⟩ (env.set i .un) b ∧ Nw H G env b := by
  have hi : i < env.length := (List.getElem?_eq_some_iff.mp e).1
  have me : ∀ b, b ∈ G.fp i → Own G env i b := fun b m => ⟨s, o, e, t, m⟩
  have re := r.re (s := .un) (F := []) (H' := H) (g' := G.g) (x := some v) hi r.sub (Same.refl _) rfl (fun _ _ _ _ _ _ _ h => h) (fun j b w ow => (r.own ow).2) fun b m => by cases m
  have fr := Fr.re (σ := σ) (H := H) (H' := H) (g' := G.g) (s := .un) (F := []) (x := some v) (s0 := s) e (fun _ o h _ => ⟨o, h, fun _ => rfl⟩) (Same.refl _) (fun _ _ _ h _ => h) (fun q => by cases q) fun q => by cases q
  rw [set_same hv] at re fr
  refine ⟨re, fr, fun b m => ⟨fun j t' e' m' => ?_, fun _ _ => ⟨i, s, e, hm, m⟩⟩⟩
  have m2 : b ∈ (G.put i []).fp j := m'
  rcases set_look e' with ⟨rfl, _⟩ | ⟨w, e2⟩
  · rw [put_at] at m2; cases m2
  · rw [put_ne w] at m2
    exact w (r.inj i j b t' (me b m) e2 m2)
theorem v_own {i : Nat} {x : Str} (h : PE X (.Name x pos) (tVar i)) : PE X (.Name x pos) (tX κ W (RV κ) (eO i)) := PE.imp h fun σ H Q ⟨G, env, r, q⟩ => by
  unfold eO at q
  cases z : env[i]? with
  | none => rw [z] at q; exact q.elim
  | some s =>
    have rs := r.slot i s z
    rw [z] at q
    cases s with
    | sh d =>
      obtain ⟨_, v, h1, h2⟩ := rs
      exact ⟨v, h1, q v H G r h2 (Grw.refl _) Fr.refl⟩
    | ow l =>
      obtain ⟨v, h1, ro⟩ := rs
      obtain ⟨r1, f1, k⟩ := take_out r z rfl rfl h1
      obtain ⟨b, xs, rfl, h0, h2, h3, h4⟩ := ro.ls_inv
      have k1 := k b (by rw [h0]; exact List.mem_singleton_self b)
      exact ⟨_, h1, q _ H _ r1 ⟨b, xs, rfl, h2, h3, h4, k1.1, k1.2⟩ (Grw.refl _) f1⟩
    | tr o =>
      obtain ⟨v, h1, ro⟩ := rs
      obtain ⟨r1, f1, k⟩ := take_out r z rfl rfl h1
      exact ⟨_, h1, q _ H _ r1 ⟨_, ro, k⟩ (Grw.refl _) f1⟩
    | _ => exact q.elim
theorem a_nilF : PA X [] (tX κ W (RFA κ) aNilF) := PA.imp pa_nil fun σ H Q ⟨G, env, r, q⟩ => q [] H G r ⟨[], .nil, fun a m => by cases m⟩ (Grw.refl _) Fr.refl
theorem a_f (ha : PE X a (tX κ W (RV κ) ma)) (hr : PA X es (tX κ W (RFA κ) mr)) (hs : starEach (a :: es) X.env = (false, eval a X.env) :: starEach es X.env := by rfl) : PA X (a :: es) (tX κ W (RFA κ) (aConsF ma mr)) :=
  PA.imp (pa_cons ha hr hs) fun σ H Q ⟨G, env, r, q⟩ => by
    refine ⟨G, env, r, ?_⟩
    unfold aConsF bnd at q
    cases z : ma env with
    | none => rw [z] at q; exact q
    | some y => cases y with
      | ex x e1 => rw [z] at q; exact q
      | ok w e1 =>
        rw [z] at q
        intro v H1 G1 r1 rv s1 f1
        refine ⟨G1, e1, r1, ?_⟩
        dsimp only at q
        cases z2 : mr e1 with
        | none => rw [z2] at q; exact q
        | some y2 => cases y2 with
          | ex x e2 => rw [z2] at q; exact fun c d H' G' a b s f => q c d H' G' a b (s1.trans s) (f1.trans f)
          | ok fs e2 =>
            rw [z2] at q
            intro vs H2 G2 r2 rs s2 f2
            obtain ⟨F, rf, hF⟩ := rs
            cases w with
            | sh d => exact q (v :: vs) H2 G2 r2 ⟨F, .sh (Rp.mono f2.gk rv) rf, fun b m => ⟨(hF b m).1, (hF b m).2.shift f1⟩⟩ (s1.trans s2) (f1.trans f2)
            | tr o => exact q.elim
            | ow l =>
              obtain ⟨b, xs, rfl, h2, h3, h4, h5, h6⟩ := rv
              have nm : ¬ Mt G1 e1 b := fun ⟨i, s, z1, _, z3⟩ => h5 i s z1 z3
              refine q (.ref b :: vs) H2 G2 r2 ⟨b :: F, .ow (s2.at h2) (f2.gn b _ h2 h3 nm) (h4.mono f2.gk) (fun m => nm ((hF b m).2 _ h2)) rf, fun c m => ?_⟩ (s1.trans s2) (f1.trans f2)
              rcases List.mem_cons.mp m with rfl | m
              · exact ⟨fre_fr r2 f2 h2 h5, h6⟩
              · exact ⟨(hF c m).1, (hF c m).2.shift f1⟩
/-- a new thing that holds own lists -/
theorem new_sq {t : Bool} {σ : L2.St} {H H0 : Hp} {G G0 : Gh} {env env0 : En} {σ0 : L2.St} {vs : List V} {fs : List Fd} {F : List Addr} {p : Addr} (r : Rep κ H G σ env) (s0 : Grw H0 H) (f : Fr H0 G0 σ0 env0 H G σ env) (hp : H p = none) (rf : RFs κ H G vs fs F) (hF : ∀ a, a ∈ F → Fre G env a ∧ Nw H0 G0 env0 a) :
    Rep κ (upd H p (sqH t vs)) G σ env ∧ RV κ σ (Nw H0 G0 env0) (upd H p (sqH t vs)) G env (.ref p) (.tr (.sq t fs)) ∧ Grw H0 (upd H p (sqH t vs)) ∧ Fr H0 G0 σ0 env0 (upd H p (sqH t vs)) G σ env := by
  have gp := r.sub.none hp
  have np : p ∉ F := fun m => by
    obtain ⟨⟨o, h⟩, _⟩ := rf.own m
    rw [hp] at h; cases h
  refine ⟨r.grow (gr (same_new hp)) (Same.refl _) (r.sub.new hp) (fun _ => rfl) fun i a o => (r.own o).2, ⟨p :: F, .sq upd_same gp (rf.grow (Same.refl _) (fun a o _ h => same_new hp a o h) fun a m => (rf.own m).2) np, fun a m => ?_⟩, s0.trans (gr (same_new hp)), f.trans (fr_upd hp)⟩
  rcases List.mem_cons.mp m with rfl | m
  · refine ⟨r.fre hp, fun o e => ?_⟩
    obtain ⟨o', h', _⟩ := s0 _ _ e
    rw [hp] at h'
    cases h'
  · exact hF a m
theorem v_tupF {x1 : Nat} (h : PA X es (tX κ W (RFA κ) mr)) : PE X (.Tuple es x1 pos) (tX κ W (RV κ) (fSq true mr)) := PE.imp (pe_tup h) fun σ H Q ⟨G, env, r, q⟩ => by
  refine ⟨G, env, r, ?_⟩
  unfold fSq bnd at q
  cases z : mr env with
  | none => rw [z] at q; exact q
  | some y => cases y with
    | ex x e1 => rw [z] at q; exact q
    | ok fs e1 =>
      rw [z] at q
      intro vs H1 G1 r1 rv s1 f1
      obtain ⟨F, rf, hF⟩ := rv
      dsimp only at q
      by_cases hl : fs.length ≤ szl
      · rw [if_pos hl] at q
        refine ⟨by rw [rf.len]; exact szl_le hl, fun p hp => ?_⟩
        obtain ⟨k1, k2, k3, k4⟩ := new_sq (t := true) r1 s1 f1 hp rf hF
        exact q _ _ _ k1 k2 k3 k4
      · rw [if_neg hl] at q; exact q.elim
end
/-! ### several names, from an own tuple -/
def Fd.sl : Fd → Sl
  | .sh d => .sh d
  | .ow l => .ow l
def setFd : List Nat → List Fd → En → Option En
  | [], [], e => some e
  | i :: is, f :: fs, e => if i < e.length then setFd is fs (e.set i f.sl) else none
  | _, _, _ => none
def sTgF (is : List Nat) (m : Sm Rs) : Ss := sbnd m fun r e => match r with
  | .sh (.tup ds) => match setAll is ds e with
    | some e1 => some (.nx e1)
    | none => none
  | .tr (.sq true fs) => match setFd is fs e with
    | some e1 => some (.nx e1)
    | none => none
  | _ => none
section
variable {X : Cx} {κ : Kx} {W : WX}
theorem setFd_len : ∀ {is : List Nat} {fs : List Fd} {e e1 : En}, setFd is fs e = some e1 → fs.length = is.length
  | [], [], _, _, _ => rfl
  | [], _ :: _, _, _, h => by cases h
  | _ :: _, [], _, _, h => by cases h
  | i :: is, d :: ds, e, e1, h => by
    dsimp only [setFd] at h
    split at h
    · rw [List.length_cons, List.length_cons, setFd_len h]
    · cases h
theorem put_fd {σ : L2.St} {H H0 : Hp} {G G0 : Gh} {env env0 : En} {σ0 : L2.St} {v : V} (r : Rep κ H G σ env) {i : Nat} (hi : i < env.length) {F : List Addr} {s : Sl} (nf : s.fix = false) (hs : RSl κ H G (some (some v)) F s) (hF : ∀ a, a ∈ F → Fre G env a ∧ Nw H0 G0 env0 a) (f : Fr H0 G0 σ0 env0 H G σ env) :
    Rep κ H ⟨G.g, (G.put i F).fp⟩ (σ.set i (some v)) (env.set i s) ∧ Fr H0 G0 σ0 env0 H ⟨G.g, (G.put i F).fp⟩ (σ.set i (some v)) (env.set i s) := by
  have re := r.re (s := s) (F := F) (H' := H) (g' := G.g) (x := some v) hi r.sub (Same.refl _) hs (fun _ _ _ _ _ _ _ h => h) (fun j a w ow => (r.own ow).2) fun a m j t w e => (hF a m).1 j t e
  refine ⟨re, f.hk, f.gk, f.gn, fun a o e m => ?_, fun j t q e => ?_⟩
  · obtain ⟨j, t, e1, hm, m⟩ := m
    have m1 : a ∈ (G.put i F).fp j := m
    rcases set_look e1 with ⟨rfl, rfl⟩ | ⟨w, e2⟩
    · rw [put_at] at m1
      exact (hF a m1).2 o e
    · rw [put_ne w] at m1
      exact f.mm a o e ⟨j, t, e2, hm, m1⟩
  · rcases set_look e with ⟨rfl, rfl⟩ | ⟨w, e2⟩
    · rw [nf] at q; cases q
    · obtain ⟨s0, q1, q2, q3, q4⟩ := f.lk j t q e2
      refine ⟨s0, q1, q2, by rw [List.getElem?_set_ne w]; exact q3, fun y1 y2 => ?_⟩
      show (G.put i F).fp j = _
      rw [put_ne w]
      exact q4 y1 y2
theorem tgs_fd {H H0 : Hp} {G0 : Gh} {env0 : En} {σ0 : L2.St} {Q : L2.St → Hp → Prop} {e1 : En} : ∀ (is : List Nat) (vs : List V) (fs : List Fd) (F : List Addr) (σ : L2.St) (G : Gh) (env : En), setFd is fs env = some e1 → Rep κ H G σ env → Fr H0 G0 σ0 env0 H G σ env → RFs κ H G vs fs F → (∀ a, a ∈ F → Fre G env a ∧ Nw H0 G0 env0 a) →
    (∀ σ1 G1, Rep κ H G1 σ1 e1 → Fr H0 G0 σ0 env0 H G1 σ1 e1 → Q σ1 H) → gNames is vs σ H Q
  | [], vs, fs, F, σ, G, env, e, r, f, rf, hF, q => by
    cases rf with
    | nil => cases e; exact ⟨rfl, q σ G r f⟩
    | sh _ _ => cases e
    | ow _ _ _ _ _ => cases e
  | i :: is, vs, fs, F, σ, G, env, e, r, f, rf, hF, q => by
    cases rf with
    | nil => cases e
    | sh h t =>
      dsimp only [setFd] at e
      split at e
      · rename_i hi
        obtain ⟨r1, f1⟩ := put_fd (s := .sh _) r hi (F := []) rfl ⟨rfl, _, rfl, h⟩ (fun b m => by cases m) f
        refine ⟨_, _, rfl, tgs_fd is _ _ F _ _ _ e r1 f1 t (fun b m => ⟨fun j s e2 m2 => ?_, (hF b m).2⟩) q⟩
        have m2 : b ∈ (G.put i []).fp j := m2
        rcases set_look e2 with ⟨rfl, _⟩ | ⟨w, e3⟩
        · rw [put_at] at m2; cases m2
        · rw [put_ne w] at m2; exact (hF b m).1 j s e3 m2
      · cases e
    | @ow a xs l vs fs F h1 h2 h3 h4 t =>
      dsimp only [setFd] at e
      split at e
      · rename_i hi
        obtain ⟨r1, f1⟩ := put_fd (s := .ow l) r hi (F := [a]) rfl ⟨_, rfl, .ls h1 h2 h3⟩ (fun b m => by rw [List.mem_singleton.mp m]; exact hF a List.mem_cons_self) f
        refine ⟨_, _, rfl, tgs_fd is _ _ F _ _ _ e r1 f1 t (fun b m => ⟨fun j s e2 m2 => ?_, (hF b (List.mem_cons_of_mem _ m)).2⟩) q⟩
        have m2 : b ∈ (G.put i [a]).fp j := m2
        rcases set_look e2 with ⟨rfl, _⟩ | ⟨w, e3⟩
        · rw [put_at] at m2
          rw [List.mem_singleton.mp m2] at m
          exact h4 m
        · rw [put_ne w] at m2; exact (hF b (List.mem_cons_of_mem _ m)).1 j s e3 m2
      · cases e
theorem s_tgF {tg e : Expr} {is : List Nat} {n : Nat} {m : Sm Rs} {pos : Pos} (hn : n = is.length) (hg : PG X tg (gTup κ.K n (gNames is))) (he : PE X e (tI κ W (RV κ) m)) (hs : swapsWithSole [tg] e pos.line X.env = pure false := by rfl) (hw : swappedStores [tg] e X.env = pure none := by rfl) (h1 : List.map (fun x => x.snd) (assignEach [tg] X.env) = [assign tg X.env] := by rfl) :
    PS X (.Assign [tg] e pos) (tS κ W (sTgF is m)) := PS.imp (ps_asg he hg hs hw h1) fun D σ H ⟨G, env, r, q⟩ => by
  subst hn
  refine ⟨G, env, r, ?_⟩
  unfold sTgF sbnd at q
  cases w : m env with
  | none => rw [w] at q; exact q
  | some y => cases y with
    | ex x e1 => rw [w] at q; exact fun c d H' G' a b g => q c d σ H' G' a b g
    | ok z e1 =>
      rw [w] at q
      intro v H1 G1 r1 rv f1
      dsimp only at q
      cases z with
      | ow l => exact q.elim
      | sh d =>
        cases d with
        | tup ds =>
          dsimp only at q
          cases z : setAll is ds e1 with
          | none => rw [z] at q; exact q.elim
          | some e2 =>
            rw [z] at q
            exact tg_tup (κ := κ) is rfl v (.tup ds) σ H1 G1 e1 e2 _ z r1 rv fun σ1 G2 r2 f2 => q σ1 H1 G2 r2 (f1.trans f2)
        | _ => exact q.elim
      | tr o =>
        cases o with
        | sq t fs =>
          cases t with
          | false => exact q.elim
          | true =>
            dsimp only at q
            cases z : setFd is fs e1 with
            | none => rw [z] at q; exact q.elim
            | some e2 =>
              rw [z] at q
              obtain ⟨F, ro, hF⟩ := rv
              cases ro with
              | @sq a _ xs _ F g1 g2 g3 g4 =>
                exact ⟨a, xs, rfl, SqT.of g1, by rw [g3.len, setFd_len z], tgs_fd is xs fs F σ G1 e1 z r1 f1 g3 (fun b m => hF b (List.mem_cons_of_mem _ m)) fun σ1 G2 r2 f2 => q σ1 H1 G2 r2 f2⟩
        | _ => exact q.elim
end
/-! ### given away for the time of one expression -/
def D.atm : D → Bool
  | .non => true
  | .bl _ => true
  | .int _ => true
  | .str _ => true
  | _ => false
/-- the expression reads slot i's own thing as shared; its value holds nothing of it -/
def fTmp {α : Type} (ok : α → Bool) (i : Nat) (m : Sm α) : Sm α := fun e => match e[i]? with
  | some s => match s.mut, s.th with
    | true, some o => match o.d with
      | some d => match m (e.set i (.sh d)) with
        | some (.ok x _) => if ok x = true then some (.ok x e) else none
        | _ => none
      | none => none
    | _, _ => m e
  | none => none
section
variable {X : Cx} {κ : Kx} {W : WX}
end
end Vs


set_option Elab.async false
set_option linter.all false
set_option maxRecDepth 100000
set_option maxHeartbeats 2000000
/-! Vd: an except suite that raises NoUse; defs whose errors have no context. -/
namespace L2
open PySem PySem.Spec PyProof.Rows
section
variable {X : Cx} {C fI : Addr}
end
end L2
namespace Vs
open PySem PySem.Spec PyProof.Rows L2
/-- a def whose errors have no context keeps its function -/
structure VFnN (P : Program) (w : World) (κ : Kx) (mg : Str → Option Value) (base : Heap) (x : Str) (k : Nat) (ms : List Bool) (g : FSem) : Prop where
  ex : ∃ (f : Addr) (fd : FuncData) (ps : List Str), mg x = some (.ref f) ∧ PySem.W.keepIn κ.K (.ref f) = true ∧ FnOk P w κ.K mg base (L2N.CX P w) k f fd ps (spV κ ms g) ∧ Binds κ.K fd ps []
section
variable {X : Cx} {κ : Kx} {W : WX} {e a : Expr} {es : List Expr} {ms : List Bool} {g : FSem} {mr : Sm (List D)} {m : Sm D} {k : Nat} {x : Str} {p pos pos2 : Pos}
end
/-- except X, the suite may raise -/
def sTryR (xs : Nat → Nat → Option Bool) (h : Nat) (body suite : Ss) : Ss := fun e => match body e with
  | some (.ex x e1) => match xs x.c h with
    | some true => suite e1
    | some false => some (.ex x e1)
    | none => none
  | o => o
section
variable {X : Cx} {κ : Kx} {W : WX} {x : Str} {h : Nat} {xs : Nat → Nat → Option Bool} {body suite : List Stmt} {b₀ : Stmt} {np pos pos' : Pos} {mb m0 : Ss}
end
end Vs


set_option Elab.async false
set_option linter.all false
set_option maxRecDepth 100000
set_option maxHeartbeats 2000000
/-! Ve: the own lists within an own tuple or list, read and changed. -/
namespace Vs
open PySem PySem.Spec PyProof.Rows L2
def sqAt (e : En) (i : Nat) : Option (Bool × List Fd) := match e[i]? with
  | some (.tr (.sq t fs)) => some (t, fs)
  | _ => none
/-- the item's number within the thing at slot i -/
def RIt (κ : Kx) (i : Nat) : Rl Int V := fun σ _ H _ env v z => ∃ t fs k a xs, sqAt env i = some (t, fs) ∧ ixN fs.length z = some k ∧ σ[i]? = some (some (.ref a)) ∧ H a = some (sqH t xs) ∧ xs[k]? = some v
instance {κ : Kx} {i : Nat} : RlMono (RIt κ i) := ⟨fun _ q => q⟩
def eIxI (i : Nat) (mb : Sm D) : Sm Int := fun e0 => match sqAt e0 i with
  | none => none
  | some _ => bnd mb (fun d e => match d with
    | .int z => match sqAt e i with
      | some (_, fs) => match ixN fs.length z with
        | some k => if k < fs.length then some (.ok z e) else none
        | none => none
      | none => none
    | _ => none) e0
def fItm (i : Nat) (m : Sm Int) : Sm D := bnd m fun z e => match sqAt e i with
  | some (_, fs) => match ixN fs.length z with
    | some k => match fs[k]? with
      | some f => some (.ok f.d e)
      | none => none
    | none => none
  | none => none
def fItV (i : Nat) (m : Sm Int) : Sm D := bnd m fun z e => match sqAt e i with
  | some (_, fs) => match ixN fs.length z with
    | some k => match fs[k]? with
      | some (.sh d) => some (.ok d e)
      | _ => none
    | none => none
  | none => none
/-- the own list at item z of slot i changed -/
def chS (i : Nat) (z : Int) (f : List D → Option (List D)) (e : En) : Option En := match sqAt e i with
  | some (t, fs) => match ixN fs.length z with
    | some k => match fs[k]? with
      | some (.ow l) => match f l with
        | some l' => some (e.set i (.tr (.sq t (fs.set k (.ow l')))))
        | none => none
      | _ => none
    | none => none
  | none => none
section
variable {X : Cx} {κ : Kx} {W : WX} {σ : L2.St} {H H1 H2 : Hp} {G G1 G2 : Gh} {env e1 e2 : En} {i : Nat}
/-! ### statements -/
def sItC (i : Nat) (mo : Sm Int) : Ss := sbnd mo fun z e => match chS i z (fun _ => some []) e with
  | some e1 => some (.nx e1)
  | none => none
def sItA (i : Nat) (mo : Sm Int) (m : Sm D) : Ss := sbnd mo fun z e0 => match chS i z some e0 with
  | some _ => sbnd m (fun d e => match chS i z (fun l => if l.length < szl then some (l ++ [d]) else none) e with
    | some e1 => some (.nx e1)
    | none => none) e0
  | none => none
def sItI (i : Nat) (mo : Sm Int) (mj m : Sm D) : Ss := sbnd mo fun z e0 => match chS i z some e0 with
  | some _ => sbnd mj (fun j => sbnd m fun d e => match j with
    | .int y => match chS i z (fun l => if 0 ≤ y ∧ y ≤ 1000000 ∧ l.length < szl then some (l.take y.toNat ++ [d] ++ l.drop y.toNat) else none) e with
      | some e1 => some (.nx e1)
      | none => none
    | _ => none) e0
  | none => none
def sItS (i : Nat) (mo : Sm Int) (mj m : Sm D) : Ss := sbnd m fun d => sbnd mo fun z => sbnd mj fun j e => match j with
  | .int y => match chS i z (fun l => opSetI l y d) e with
    | some e1 => some (.nx e1)
    | none => none
  | _ => none
variable {o e ej : Expr} {mo : Sm Int} {mj m : Sm D} {apos cpos pos p2 : Pos}
end
end Vs


set_option Elab.async false
set_option linter.all false
set_option maxRecDepth 100000
set_option maxHeartbeats 2000000
/-! Vk: sorted(xs, key=f) where the keys are data that hold lists. -/
namespace Vs
open PySem PySem.Spec PyProof.Rows L2
/-- a heap without the object at c -/
def lessAt (h : Heap) (c : Addr) : Heap := h.update c fun o => { o with data := .freed }
/-- the pairs sorted by their keys -/
noncomputable def sortP {α : Type} (l : List (α × PyData)) : List (α × PyData) := l.mergeSort (PySem.W.dataLe false Prod.snd)
section
variable {X : Cx} {pins : List (Addr × Obj)} {σ : L2.St} {H : Hp} {s : Shared}
end
/-- f(x) gives the key of x, whatever has come to be since; P0 stay pinned -/
def KeyFn (X : Cx) (κ : Kx) (σ : L2.St) (f : Value) (P0 : List (Addr × Obj)) (key : D → Option D) (H0 G0 : Hp) : Prop :=
  ∀ (H1 G1 : Hp) (pins1 : List (Addr × Obj)) (s1 : Shared) (x : V) (u : Value) (d k : D) (P : VK), Grw H0 H1 → Same G0 G1 → Sub κ G1 H1 → (∀ p ∈ P0, p ∈ pins1) → Inv X pins1 σ H1 s1 → RelV x u → Rp κ G1 x d → key d = some k →
    (∀ v H2 G2, Grw H1 H2 → Same G1 G2 → Sub κ G2 H2 → (∀ a o, H1 a = some o → G1 a = none → G2 a = none) → Rp κ G2 v k → P v H2) → wpAny (model X.prog X.w) X.A.in1.in1 (call f [u]) (EP X pins1 σ P) (fun _ _ => False) s1
def keysOf (key : D → Option D) : List D → Option (List D)
  | [] => some []
  | d :: ds => match key d, keysOf key ds with
    | some k, some ks => some (k :: ks)
    | _, _ => none
def okKs (ks : List D) : Prop := (∀ k ∈ ks, k.pl = true ∧ k.toP.depth ≤ 64) ∧ PySem.W.AllAlike (ks.map D.toP) ∧ PySem.W.Sortable (ks.map D.toP)
noncomputable def sortD (ds ks : List D) : List D := (sortP (ds.zip (ks.map D.toP))).map Prod.fst
theorem RpA.at {κ : Kx} {G : Hp} : ∀ {xs : List V} {ds : List D}, RpA κ G xs ds → ∀ {i : Nat} {x : V}, xs[i]? = some x → ∃ d, ds[i]? = some d ∧ Rp κ G x d
  | _, _, .nil, i, x, e => by simp at e
  | _, _, .cons r t, 0, x, e => by
    simp only [List.getElem?_cons_zero, Option.some.injEq] at e
    subst e
    exact ⟨_, rfl, r⟩
  | _, _, .cons r t, i + 1, x, e => by
    simp only [List.getElem?_cons_succ] at e
    exact RpA.at t e
theorem RpA.push {κ : Kx} {G : Hp} {v : V} {d : D} (r : Rp κ G v d) : ∀ {xs : List V} {ds : List D}, RpA κ G xs ds → RpA κ G (xs ++ [v]) (ds ++ [d])
  | _, _, .nil => .cons r .nil
  | _, _, .cons q t => .cons q (RpA.push r t)
section
variable {X : Cx} {pins : List (Addr × Obj)} {σ : L2.St} {H G : Hp} {s : Shared} {κ : Kx}
end
/-! ### key=o.m, a bound method -/
def tBd (K : PySem.W.Frag) (m : Str) (to : TE) : TE := fun σ H Q => to σ H fun x H1 => ∃ a C dx fs g, x = .ref a ∧ H1 a = some (.ins C dx fs) ∧ Cls K C ∧ BMeth K C m g ∧ fs.lookup m = none ∧ ∀ q, H1 q = none → Q (.ref q) (upd H1 q (.met g a))
def keyM (gs : Nat → Option FSem) (o : D) : D → Option D := fun d => match o with
  | .ob c _ => match gs c with
    | some g => match g [o, d] with
      | some (.rt (.sh k)) => some k
      | _ => none
    | none => none
  | _ => none
open Classical in
noncomputable def opSort (key : D → Option D) (l : List D) : Option (List D) := match keysOf key l with
  | some ks => if okKs ks then some (sortD l ks) else none
  | none => none
noncomputable def fSortB (gs : Nat → Option FSem) (m mo : Sm D) : Sm Rs := bnd m fun d => bnd mo fun o e => match d, o with
  | .lst l, .ob c fl => match gs c with
    | some _ => match opSort (keyM gs (.ob c fl)) l with
      | some r => some (.ok (.ow r) e)
      | none => none
    | none => none
  | _, _ => none
def VB (κ : Kx) (m : Str) (gs : Nat → Option FSem) : Prop := ∀ c g, gs c = some g → ∃ f, BMeth κ.K (κ.cl c) m f
/-- what sorted(l, key=q) wants -/
def rSK (X : Cx) (κ : Kx) : List V → List V → Hp → VK → Prop := fun vs zs H Q => ∃ (l q : Addr) (xs : List V) (ds ks : List D) (G : Hp) (key : D → Option D), vs = [.ref l] ∧ zs = [.ref q] ∧ SqL X.K H l xs ∧ Sub κ G H ∧ RpA κ G xs ds ∧ (∀ pins σ, KeyFn X κ σ (.ref q) pins key H G) ∧ keysOf key ds = some ks ∧ okKs ks ∧
  ∀ p ys H' G', Grw H H' → Same G G' → Sub κ G' H' → (∀ a o, H a = some o → G a = none → G' a = none) → H p = none → H' p = none → RpA κ G' ys (sortD ds ks) → Q (.ref p) (upd H' p (.lst ys))
section
variable {X : Cx} {κ : Kx} {W : WX} {e o : Expr} {gs : Nat → Option FSem} {me mo : Sm D} {k : Nat} {m : Str} {p pos apos kpos : Pos}
end
/-! ### xs.remove(e), texts -/
def eqS (k : Str) (v : Value) : Bool := match v with
  | .str n _ => n.cps.toList == k.cps.toList
  | _ => false
def rRemS : V → List V → Hp → VK → Prop := fun x xs H Q => ∃ (l : Addr) (ws : List (List Nat)) (k : List Nat) (j : Nat), x = .ref l ∧ xs = [.str (S k)] ∧ H l = some (.lst ((ws.map S).map V.str)) ∧ ws[j]? = some k ∧ (∀ m : Nat, m < j → ws[m]? ≠ some k) ∧ Q .non (upd H l (.lst (((ws.eraseIdx j).map S).map V.str)))
def remS (k : List Nat) (l : List D) : Option (List D) := match allStrs l with
  | some ws => if k ∈ ws then some ((ws.erase k).map D.str) else none
  | none => none
def sRem (i : Nat) (m : Sm D) : Ss := sOwn i (sbnd m fun d => match d with
  | .str k => chL i (remS k)
  | _ => fun _ => none)
section
variable {X : Cx} {κ : Kx} {W : WX} {e : Expr} {m : Sm D} {pos pos' : Pos}
end
end Vs


set_option Elab.async false
set_option linter.all false
set_option maxRecDepth 100000
set_option maxHeartbeats 2000000
/-! Vl: sorted(xs, key=lambda x: ..). -/
namespace Vs
open PySem PySem.Spec PyProof.Rows L2
section
variable {X : Cx} {pins : List (Addr × Obj)} {σ : L2.St} {H : Hp} {s : Shared}
/-- a lambda's names: one parameter, captured ones, its own -/
structure LamP (so sc : Scope) (x : Str) : Prop where
  kind : sc.kind = .function
  co : sc.isCoroutine = false
  gn : sc.isGenerator = false
  par : sc.names.lookup x = some .local
  nc : ∀ y ∈ sc.names, y.2 ≠ .cell
  fr : ∀ y ∈ sc.names, y.2 = .free → so.names.lookup y.1 = some .cell ∨ so.names.lookup y.1 = some .free
def lamPB (so sc : Scope) (x : Str) : Bool := decide (sc.kind = .function) && (!sc.isCoroutine && (!sc.isGenerator && (decide (sc.names.lookup x = some .local) && sc.names.all fun y => decide (y.2 ≠ .cell) && (decide (y.2 ≠ .free) || (decide (so.names.lookup y.1 = some .cell) || decide (so.names.lookup y.1 = some .free))))))
def lcx (X : Cx) (A : Around) (outer : List Env) (s : Shared) (H : Hp) (sc : Scope) (f e : Addr) (N : List Str) : Cx := { LamX.lamCx X A outer s H (fun _ _ _ => False) sc f e with N := N }
end
/-! ### sorted(xs, key=lambda x: e) as a function -/
/-- a captured name's slot, as the lambda sees it -/
def frS : Sl → Option Sl
  | .sh d => some (.sh d)
  | .bo l => some (.bo l)
  | .ow l => some (.bo l)
  | .lk l => some (.bo l)
  | _ => none
def frL : List Nat → En → Option En
  | [], _ => some []
  | j :: js, e => match e[j]? with
    | some s => match frS s, frL js e with
      | some t, some r => some (t :: r)
      | _, _ => none
    | none => none
def keyL (fr : En) (k : Nat) (mb : Sm D) : D → Option D := fun d => match mb (fr ++ .sh d :: List.replicate k .un) with
  | some (.ok r _) => some r
  | _ => none
noncomputable def fSortL (js : List Nat) (k : Nat) (mb m : Sm D) : Sm Rs := bnd m fun d e => match d with
  | .lst l => match frL js e with
    | some fr => match opSort (keyL fr k mb) l with
      | some r => some (.ok (.ow r) e)
      | none => none
    | none => none
  | _ => none
section
variable {κ : Kx}
theorem SlIn.mono {H H' G G' : Hp} {v : Option V} {t : Sl} (h : Grw H H') (g : Same G G') (n : ∀ o, t ≠ .io o) (q : SlIn κ H G [] v t) : SlIn κ H' G' [] v t := by
  cases t with
  | un => exact trivial
  | sh d =>
    obtain ⟨x, h1, h2⟩ := q
    exact ⟨x, h1, h2.mono g⟩
  | bo l =>
    obtain ⟨a, xs, h1, h2, h3, h4⟩ := q
    exact ⟨a, xs, h1, h.at h2, h3.mono g, h4⟩
  | io o => exact (n o rfl).elim
  | ow l => exact q.elim
  | lk l => exact q.elim
  | tr o => exact q.elim
end
section
variable {X : Cx} {κ : Kx} {H G : Hp} {σ : L2.St}
theorem KeyFn.more {f : Value} {P0 P1 : List (Addr × Obj)} {key : D → Option D} (h : KeyFn X κ σ f P0 key H G) (k : ∀ p ∈ P0, p ∈ P1) : KeyFn X κ σ f P1 key H G := fun H1 G1 pins1 s1 x u d r P gh gg sb hp => h H1 G1 pins1 s1 x u d r P gh gg sb fun p m => hp p (k p m)
end
/-! ### a def whose code object is told; the law's end with tables -/
end Vs
namespace L2
open PySem PySem.Spec PyProof.Rows
end L2
namespace Vs
open PySem PySem.Spec PyProof.Rows L2
/-- the tables of the defs named ns are empty at h -/
def DefTabs (K : PySem.W.Frag) (mg : Str → Option Value) (h : Heap) (ns : List Str) : Prop := ∀ n ∈ ns, ∀ (fa c P : Addr) (o : Obj) (fd : FuncData) (e : Value) (dd : Option Addr) (vs : Array Value) (sl : Array (Option Value)), mg n = some (.ref fa) → K.lookup fa = some o → o.data = .func fd → fd.code = .ref c →
  K.lookup c = some ⟨e, dd, .fields vs, sl⟩ → vs[11]? = some (.ref P) → h.get? P = some { cls := .none, data := .fields #[] } ∧ PySem.W.CodeHd h c P
def spLawT (K : PySem.W.Frag) (T : List (Addr × Str)) : Sp := fun vs H Q E => LamX.Tabs T H ∧ spLaw K vs H Q E
/-- what is told of the law at the head's heap -/
def LawT (l : PySem.W.OpenLaw) (w : World) (K : PySem.W.Frag) (k : Nat) (x : Str) (mg : Str → Option Value) (fa : Addr) (h : Heap) : Prop := ∃ (fd : FuncData) (cs : List (Addr × Addr)) (T : List (Addr × Str)), (∀ p ∈ T, ∃ r ∈ cs, r.2 = p.1) ∧ (∀ p ∈ cs, h.get? p.2 = some { cls := .none, data := .fields #[] }) ∧ (∀ p ∈ cs, K.lookup p.2 = none) ∧
  (∀ p ∈ cs, PySem.W.CodeHd h p.1 p.2) ∧ (∀ (s : Shared) (u : Value), BindsTo s fd ⟨[u], []⟩ [(x, u)]) ∧ ∀ base : Heap, K.In base → base.Ns mainGlobals mg → (∀ p ∈ cs, LamX.TabB base mg p.1 p.2) → FnOk l.prog w K mg base (L2.CX l.prog w) k fa fd [x] (spLawT K T)
end Vs


set_option Elab.async false
set_option linter.all false
set_option maxRecDepth 100000
set_option maxHeartbeats 2000000
/-! Vn: a < b < c as a value; min of two tuples. -/
namespace Vs
open PySem PySem.Spec PyProof.Rows L2
section
variable {X : Cx} {κ : Kx} {W : WX} {a b c : Expr} {ma mb mc : Sm D} {pos : Pos}
def fChV (f g : D → D → Option Bool) (ma mb mc : Sm D) : Sm D := bnd ma fun x => bnd mb fun y => fun e => match f x y with
  | none => none
  | some false => some (.ok (.bl false) e)
  | some true => bnd mc (fun z => fun e => match g y z with
    | some b => some (.ok (.bl b) e)
    | none => none) e
end
/-! ### min of two that are data -/
section
variable {prog : Program} {w : World} {A : Around} {E : Value → Shared → Prop} {s : Shared}
end
def rMinD (K : PySem.W.Frag) : List V → Hp → VK → Prop := fun vs H Q => ∃ (x y : V) (dx dy : PyData), vs = [x, y] ∧ Dp K H x dx ∧ Dp K H y dy ∧ PySem.W.AlikeAll [dx, dy] ∧ PyData.depthAll [dx, dy] ≤ 64 ∧ Q (if PySem.W.dataLt dy dx = true then y else x) H
open Classical in
noncomputable def opMinT : List D → Option Rs
  | [.tup a, .tup b] => if (D.tup a).pl = true ∧ (D.tup b).pl = true ∧ PySem.W.AlikeAll [(D.tup a).toP, (D.tup b).toP] ∧ PyData.depthAll [(D.tup a).toP, (D.tup b).toP] ≤ 64 then some (.sh (if PySem.W.dataLt (D.tup b).toP (D.tup a).toP = true then .tup b else .tup a)) else none
  | _ => none
end Vs


set_option Elab.async false
set_option linter.all false
set_option maxRecDepth 100000
set_option maxHeartbeats 2000000
/-! Vo: own dicts with numbers and texts for keys. -/
namespace Vs
open PySem PySem.Spec PyProof.Rows L2
def D.key : D → Bool
  | .int _ => true
  | .str _ => true
  | _ => false
/-- what stands at a key -/
def dcG (k : D) : List (D × D) → Option D
  | [] => none
  | p :: r => if p.1.feq k = true then some p.2 else dcG k r
/-- a key's value put: in its place, or at the end -/
def dcP (k v : D) (l : List (D × D)) : List (D × D) := if (l.any fun p => p.1.feq k) = true then l.map (fun p => if p.1.feq k = true then (p.1, v) else p) else l ++ [(k, v)]
def keyD : D → Key
  | .int i => .inl i
  | .str w => .inr (S w)
  | _ => .inl 0
theorem kD_feq (a b : Key) : (kD a).feq (kD b) = decide (a = b) := by
  cases a with
  | inl i =>
    cases b with
    | inl j =>
      show (i == j) = _
      rw [Bool.eq_iff_iff]
      simp
    | inr y => simp [kD, D.feq]
  | inr x =>
    cases b with
    | inl j => simp [kD, D.feq]
    | inr y =>
      show (x.cps.toList == y.cps.toList) = _
      rw [Bool.eq_iff_iff]
      simp only [beq_iff_eq, decide_eq_true_eq, Sum.inr.injEq]
      constructor
      · intro h
        rw [← S_list x, ← S_list y]
        show S x.cps.toList = S y.cps.toList
        rw [h]
      · intro h
        rw [h]
section
variable {κ : Kx} {G H : Hp}
theorem RDc.get {kvs : List (Key × V)} {ds : List (D × D)} (r : RDc κ G kvs ds) (k : Key) : match valV kvs k, dcG (kD k) ds with
    | some v, some d => Rp κ G v d
    | none, none => True
    | _, _ => False := by
  induction r with
  | nil => exact True.intro
  | @cons j v d r ds h t ih =>
    by_cases e : j = k
    · rw [valV_pos (p := (j, v)) e, dcG, if_pos (show (kD j).feq (kD k) = true by rw [kD_feq]; exact decide_eq_true e)]
      exact h
    · rw [valV_neg (p := (j, v)) e, dcG, if_neg (show ¬ (kD j).feq (kD k) = true by rw [kD_feq]; simpa using e)]
      exact ih
theorem RDc.any {kvs : List (Key × V)} {ds : List (D × D)} (r : RDc κ G kvs ds) (k : Key) : (kvs.any fun p => decide (p.1 = k)) = ds.any fun p => p.1.feq (kD k) := by
  induction r with
  | nil => rfl
  | @cons j v d r ds h t ih => rw [List.any_cons, List.any_cons, ih, kD_feq]
theorem RDc.put1 {kvs : List (Key × V)} {ds : List (D × D)} (r : RDc κ G kvs ds) (k : Key) {v : V} {d : D} (h : Rp κ G v d) : RDc κ G (kvs.map fun p => if p.1 = k then (p.1, v) else p) (ds.map fun p => if p.1.feq (kD k) = true then (p.1, d) else p) := by
  induction r with
  | nil => exact .nil
  | @cons j u e r ds h1 t ih =>
    rw [List.map_cons, List.map_cons]
    by_cases q : j = k
    · rw [if_pos (show (j, u).1 = k from q), if_pos (show (kD j).feq (kD k) = true by rw [kD_feq]; exact decide_eq_true q)]
      exact .cons h ih
    · rw [if_neg (show ¬ (j, u).1 = k from q), if_neg (show ¬ (kD j).feq (kD k) = true by rw [kD_feq]; simpa using q)]
      exact .cons h1 ih
theorem RDc.snoc {kvs : List (Key × V)} {ds : List (D × D)} (r : RDc κ G kvs ds) (k : Key) {v : V} {d : D} (h : Rp κ G v d) : RDc κ G (kvs ++ [(k, v)]) (ds ++ [(kD k, d)]) := by
  induction r with
  | nil => exact .cons h .nil
  | cons h1 t ih => exact .cons h1 ih
theorem RDc.put {kvs : List (Key × V)} {ds : List (D × D)} (r : RDc κ G kvs ds) (k : Key) {v : V} {d : D} (h : Rp κ G v d) : RDc κ G (putK kvs k v) (dcP (kD k) d ds) := by
  unfold putK dcP
  rw [← r.any k]
  split
  · exact r.put1 k h
  · exact r.snoc k h
theorem RDc.length {kvs : List (Key × V)} {ds : List (D × D)} (r : RDc κ G kvs ds) : kvs.length = ds.length := by
  induction r with
  | nil => rfl
  | cons _ _ ih => rw [List.length_cons, List.length_cons, ih]
theorem RDc.keys {kvs : List (Key × V)} {ds : List (D × D)} (r : RDc κ G kvs ds) : RpA κ G ((kvs.map Prod.fst).map kV) (ds.map Prod.fst) := by
  induction r with
  | nil => exact .nil
  | @cons k v d r ds h t ih =>
    refine .cons ?_ ih
    cases k with
    | inl i => exact .int i
    | inr x =>
      have := Rp.str (κ := κ) (G := G) x.cps.toList
      rw [show S x.cps.toList = x from S_list x] at this
      exact this
end
/-- {} -/
def fDNew : Sm Rs := fun e => some (.ok (.tr (.dc [])) e)
/-- d[m] -/
def fDGet (i : Nat) (m : Sm D) : Sm D := fun env => match env[i]? with
  | some (.tr (.dc _)) => bnd m (fun k e => match e[i]? with
    | some (.tr (.dc l)) => if k.key = true then match dcG k l with
      | some d => some (.ok d e)
      | none => none else none
    | _ => none) env
  | _ => none
/-- d[mk] = m -/
def sDPutV (i : Nat) (mk m : Sm D) : Ss := sbnd m fun d env => match env[i]? with
  | some (.tr (.dc _)) => sbnd mk (fun k e => match e[i]? with
    | some (.tr (.dc l)) => if k.key = true ∧ l.length < szl then some (.nx (e.set i (.tr (.dc (dcP k d l))))) else none
    | _ => none) env
  | _ => none
/-- d.setdefault(mk, m) -/
def fDSet (i : Nat) (mk m : Sm D) : Sm D := fun env => match env[i]? with
  | some (.tr (.dc _)) => bnd mk (fun k => bnd m fun d e => match e[i]? with
    | some (.tr (.dc l)) => if k.key = true ∧ l.length < szl then match dcG k l with
      | some x => some (.ok x e)
      | none => some (.ok d (e.set i (.tr (.dc (dcP k d l)))))
      else none
    | _ => none) env
  | _ => none
section
variable {X : Cx} {κ : Kx} {W : WX} {e a b : Expr} {m mk : Sm D} {pos pos' p2 : Pos}
end
/-! ### range with a step -/
def rngC (lo c : Int) (n : Nat) : List D := (List.range n).map fun (k : Nat) => D.int (lo + (k : Int) * c)
def fRg3 (m : Sm (List D)) : Sm (List D) := bnd m fun ds e => match ds with
  | [.int i, .int j, .int c] => if (j ≤ 1000000 ∧ -1000000 ≤ j) ∧ (i ≤ 1000000 ∧ -1000000 ≤ i) ∧ 0 < c ∧ c ≤ 1000000 then some (.ok (rngC i c ((j - i + c - 1) / c).toNat) e) else none
  | _ => none
section
variable {X : Cx} {κ : Kx} {W : WX} {a b c : Expr} {tg : Expr} {p pos : Pos} {ms : Sm (List D)}
theorem RBs.three {κ : Kx} {H G : Hp} {vs : List V} {d e f : D} (r : RBs κ H G [true, true, true] vs [d, e, f]) : ∃ v u w, vs = [v, u, w] ∧ RBq κ H G v d ∧ RBq κ H G u e ∧ RBq κ H G w f := by
  cases r with
  | bo r t =>
    obtain ⟨u, w, rfl, r2, r3⟩ := t.two
    exact ⟨_, _, _, rfl, r, r2, r3⟩
end
end Vs


set_option Elab.async false
set_option linter.all false
set_option maxRecDepth 100000
set_option maxHeartbeats 2000000
/-! Vp: comprehensions whose items are own lists: the new list holds own lists. -/
namespace Vs
open PySem PySem.Spec PyProof.Rows L2
section
variable {κ : Kx} {H H' : Hp} {G G' : Gh} {σ σ' : L2.St} {env env' : En} {L : Addr}
/-- the list that is made, of own lists -/
structure DO (κ : Kx) (H : Hp) (G : Gh) (env : En) (N : Addr → Prop) (L : Addr) (F : List Addr) (acc : List Fd) (xs : List V) : Prop where
  h : H L = some (.lst xs)
  g : G.g L = none
  f : Fre G env L
  r : RFs κ H G xs acc F
  n : L ∉ F
  o : ∀ a, a ∈ F → Fre G env a ∧ N a
theorem DO.keep {N : Addr → Prop} {F : List Addr} {acc : List Fd} {xs : List V} (r : Rep κ H G σ env) (r' : Rep κ H' G' σ' env') (d : DO κ H G env N L F acc xs) (s : Grw H H') (f : Fr H G σ env H' G' σ' env') : DO κ H' G' env' N L F acc xs :=
  ⟨s.at d.h, f.gn L _ d.h d.g d.f.mt, d.f.keep r r' f d.h d.g, d.r.grow f.gk (fun a o m e => s.at e (d.r.pl m e).1) (fun a m => by
    obtain ⟨⟨o, h⟩, g⟩ := d.r.own m
    exact f.gn a o h g (d.o a m).1.mt), d.n, fun a m => by
    obtain ⟨⟨o, h⟩, g⟩ := d.r.own m
    exact ⟨(d.o a m).1.keep r r' f h g, (d.o a m).2⟩⟩
end
def lcLO (f : D → En → Option En) (tt : Sm Bool) (te : Sm Rs) (vs : List Nat) : List D → List Fd → Sm Rs
  | [], acc, e => some (.ok (.tr (.sq false acc)) e)
  | d :: ds, acc, e => match f d e with
    | none => none
    | some e1 => match tt e1 with
      | some (.ok true e2) => match te e2 with
        | some (.ok (.sh y) e3) => lcLO f tt te vs ds (acc ++ [.sh y]) (unE vs e3)
        | some (.ok (.ow y) e3) => lcLO f tt te vs ds (acc ++ [.ow y]) (unE vs e3)
        | _ => none
      | some (.ok false e2) => lcLO f tt te vs ds acc (unE vs e2)
      | _ => none
def fLcO (mi : Sm (List D)) (f : D → En → Option En) (tt : Sm Bool) (te : Sm Rs) (vs : List Nat) : Sm Rs := bnd mi fun ds e => if ds.length ≤ szl then lcLO f tt te vs ds [] (unE vs e) else none
section
variable {X : Cx} {κ : Kx} {W : WX}
variable {elt tg iter : Expr} {ifs : List Expr} {scope : Scope} {own : List (Str × Nat)} {pos spos py : Pos} {g : TG} {mi : Sm (List D)} {f : D → En → Option En} {tt : Sm Bool} {te : Sm Rs} {vs : List Nat}
end
/-! ### d.setdefault(k, v); list(d) -/
section
variable {X : Cx} {κ : Kx} {W : WX} {e a : Expr} {m mk : Sm D} {pos pos' apos : Pos}
/-- list(d) -/
def fDKeys (i : Nat) : Sm Rs := fun env => match env[i]? with
  | some (.tr (.dc l)) => some (.ok (.ow (l.map Prod.fst)) env)
  | _ => none
end
end Vs


set_option Elab.async false
set_option linter.all false
set_option maxRecDepth 100000
set_option maxHeartbeats 2000000
/-! Vq: [(k, d[k]) for k in d] of an own dict. -/
namespace Vs
open PySem PySem.Spec PyProof.Rows L2
def DIv (H0 : Hp) (D : Addr) (kvs : List (Key × V)) (k : Nat) (H' : Hp) (Ts : List Addr) : Prop :=
  Ts.length = k ∧ H' D = some (.lst (Ts.map V.ref)) ∧ (∀ a o, H0 a = some o → H' a = some o) ∧ ∀ (n : Nat) (T : Addr), Ts[n]? = some T → ∃ key v w, kvs[n]? = some (key, v) ∧ valV kvs key = some w ∧ H' T = some (.tup [kV key, w]) ∧ H0 T = none ∧ T ≠ D
def fDItems (i j : Nat) : Sm Rs := fun env => match env[i]? with
  | some (.tr (.dc l)) => if i ≠ j ∧ j < env.length ∧ l.length < szl then some (.ok (.ow (l.map fun p => D.tup [p.1, (dcG p.1 l).getD .non])) env) else none
  | _ => none
section
variable {X : Cx} {κ : Kx} {W : WX} {tg e : Expr} {scope : Scope} {own : List (Str × Nat)} {pos p1 p2 p3 p4 p5 p7 : Pos} {x v : Str} {kk : Nat} {i j : Nat}
end
end Vs


set_option Elab.async false
set_option linter.all false
set_option maxRecDepth 100000
set_option maxHeartbeats 2000000
/-! Vr: sorted(xs) of data without key; own lists put into an own list; a loop that only looks at an own list's items. -/
namespace Vs
open PySem PySem.Spec PyProof.Rows L2
/-! ### sorted(xs), data -/
def rSortDt (K : PySem.W.Frag) : List V → Hp → VK → Prop := fun vs H Q => ∃ (a : Addr) (xs : List V) (kz : List PyData), vs = [V.ref a] ∧ SqL K H a xs ∧ DpAll K H xs kz ∧ kz.length = xs.length ∧ PySem.W.AllAlike kz ∧ PySem.W.Sortable kz ∧ (∀ d, d ∈ kz → d.depth ≤ 64) ∧
  ∀ p, H p = none → Q (.ref p) (upd H p (.lst ((sortP (xs.zip kz)).map Prod.fst)))
noncomputable def opSortT : List D → Option Rs
  | [.lst l] => match opSort some l with
    | some r => some (.ow r)
    | none => none
  | _ => none
/-! ### > over data -/
def rGtD (K : PySem.W.Frag) : R2 := fun x y H Q => ∃ d e, Dp K H x d ∧ Dp K H y e ∧ PySem.W.alike d e = true ∧ d ≠ .none ∧ d.depth ≤ 64 ∧ Q (.bl (PySem.W.dataLt e d)) H
def dGt (x y : D) : Option Bool := if x.pl = true ∧ y.pl = true ∧ PySem.W.alike x.toP y.toP = true ∧ x.toP.depth ≤ 64 then some (PySem.W.dataLt y.toP x.toP) else none
def cGtA : D → D → Option Bool
  | .int i, .int j => some (decide (j < i))
  | .str a, .str b => some (decide (b < a))
  | .lst a, .lst b => dGt (.lst a) (.lst b)
  | .tup a, .tup b => dGt (.tup a) (.tup b)
  | _, _ => none
def rGtA (κ : Kx) : R2 := fun x y H Q => rCm (fun i j => decide (j < i)) (fun a b => decide (b < a)) x y H Q ∨ rGtD κ.K x y H Q
/-! ### own lists put into an own list -/
def putL {α : Type} (xs : List α) (k : Nat) (v : α) : List α := if k < xs.length then xs.set k v else xs ++ [v]
section
variable {κ : Kx} {σ σ0 : L2.St} {H H1 H2 : Hp} {G G1 G2 : Gh} {env e1 e2 : En}
end
/-- x.append(e), x an own list that may hold own lists -/
def sAppQ (i : Nat) (m : Sm Rs) : Ss := fun e0 => match sqAt e0 i with
  | some (false, _) => sbnd m (fun r e => match sqAt e i, r.fd with
    | some (false, fs), some f => if fs.length < szl then some (.nx (e.set i (.tr (.sq false (setF fs fs.length f))))) else none
    | _, _ => none) e0
  | _ => none
/-- x[j] = e -/
def sSetQ (i : Nat) (mj : Sm D) (m : Sm Rs) : Ss := sbnd m fun r e0 => match sqAt e0 i, r.fd with
  | some (false, _), some f => sbnd mj (fun j e => match j, sqAt e i with
    | .int z, some (false, fs) => match ixN fs.length z with
      | some k => some (.nx (e.set i (.tr (.sq false (setF fs k f)))))
      | none => none
    | _, _ => none) e0
  | _, _ => none
section
variable {X : Cx} {κ : Kx} {W : WX} {e : Expr} {m : Sm Rs} {mj : Sm D} {pos pos' p2 : Pos}
end
/-! ### a loop that only looks at an own list's items -/
/-- for x in xs: if t: return d -/
def forTL (i j : Nat) (mt : Sm Bool) (d w : D) : List Fd → Ss
  | [], e => some (.nx e)
  | f :: fs, e => match mt ((e.set i (.sh w)).set j (.sh f.d)) with
    | some (.ok true _) => some (.rt (.sh d))
    | some (.ok false _) => forTL i j mt d w fs e
    | _ => none
def sForT (i j : Nat) (mt : Sm Bool) (d : D) : Ss := fun e => match sqAt e i, e[j]? with
  | some (false, fs), some .un => forTL i j mt d (.lst (fs.map Fd.d)) fs e
  | _, _ => none
section
variable {X : Cx} {κ : Kx} {W : WX} {e : Expr} {mt : Sm Bool} {pos pos' p2 p3 rp ip : Pos}
end
/-! ### x = [e for ..], e own lists -/
section
variable {X : Cx} {κ : Kx} {W : WX} {elt tg iter : Expr} {ifs : List Expr} {scope : Scope} {own : List (Str × Nat)} {pos spos py : Pos} {g : TG} {mi : Sm (List D)} {f : D → En → Option En} {tt : Sm Bool} {te : Sm Rs} {vs : List Nat}
end
/-! ### values of expressions that change something -/
section
variable {X : Cx} {κ : Kx} {W : WX} {a b o e : Expr} {rest : List Expr} {ma mb mo me : Sm D} {pos apos : Pos}
end
end Vs


set_option Elab.async false
set_option linter.all false
set_option maxRecDepth 100000
set_option maxHeartbeats 2000000
/-! Vt: len(set(text)), letters that repeat. -/
namespace Vs
open PySem PySem.Spec PyProof.Rows L2
def ddS (acc : List Nat) (c : Nat) : List Nat := if c ∈ acc then acc else acc ++ [c]
/-- a text's letters, each once -/
def dd (l : List Nat) : List Nat := l.foldl ddS []
def one (c : Nat) : Str := ⟨#[c]⟩
section
variable {prog : Program} {w : World} {A : Around} {R : Result → Shared → Prop} {I : Addr} {fp wr : List Addr} {G : Array GenState → Array GenState → Prop} {n : Nat} {St : Nat → Shared → Prop}
end
section
variable {prog : Program} {w : World} {A : Around} {E : Value → Shared → Prop} {s : Shared}
end
/-- len(set(x)), x a text -/
def tLenTxt (ta : TE) : TE := fun σ H Q => ta σ H fun x H1 => ∃ w : Str, x = .str w ∧ w.cps.size ≤ 20 ∧ Q (.int (dd w.cps.toList).length) H1
section
variable {X : Cx}
end
/-- its function -/
def fLenS (m : Sm D) : Sm D := bnd m fun d e => match d with
  | .str w => if w.length ≤ 20 then some (.ok (.int ((dd w).length : Nat)) e) else none
  | _ => none
/-- a statement that is never reached: nothing is claimed of it -/
def sStuck : Ss := fun _ => none
end Vs


set_option Elab.async false
set_option linter.all false
set_option maxRecDepth 100000
set_option maxHeartbeats 2000000
/-! Vu: enumerate(text). -/
namespace Vs
open PySem PySem.Spec PyProof.Rows L2
/-- number and letter, each in a new pair -/
def IteS (x : Str) : It :=
  ⟨fun i _ => i < x.cps.size, fun i H v H' => ∃ T c, v = .ref T ∧ H T = none ∧ H' = upd H T (.tup [.int (i : Nat), .str ⟨#[c]⟩]) ∧ x.cps[i]? = some c, fun i _ => x.cps.size ≤ i⟩
def iEnumS (ta : TA) : TI := fun σ H R => ta σ H fun vs H1 => ∃ x, vs = [.str x] ∧ R (IteS x) H1
section
variable {X : Cx} {κ : Kx} {W : WX} {a : Expr} {p pos : Pos}
/-- enumerate(text) -/
def fEnS (m : Sm (List D)) : Sm (List D) := bnd m fun ds e => match ds with
  | [.str w] => some (.ok (enumL (w.map fun c => .str [c])) e)
  | _ => none
end
end Vs


set_option Elab.async false
set_option linter.all false
set_option maxRecDepth 100000
set_option maxHeartbeats 2000000
/-! Vw: max(list, default=d). -/
namespace Vs0
open PySem
section
variable {prog : Program} {w : World} {A : Around} {R : Result → Shared → Prop} {I : Addr} {fp wr : List Addr} {n : Nat} {P : Nat → Value → Prop} {St : Nat → Heap → Prop}
end
section
variable {prog : Program} {w : World} {A : Around} {E : Value → Shared → Prop} {s : Shared}
end
end Vs0
namespace Vs
open PySem PySem.Spec PyProof.Rows L2
def rMaxDf (K : PySem.W.Frag) : List V → List V → Hp → VK → Prop := fun vs zs H Q => ∃ (a : Addr) (ns : List Int) (d : Int), vs = [V.ref a] ∧ zs = [V.int d] ∧ SqL K H a (ns.map V.int) ∧ ∀ m, ((ns = [] ∧ m = d) ∨ (m ∈ ns ∧ ∀ y, y ∈ ns → y ≤ m)) → Q (.int m) H
def fMaxD (me md : Sm D) : Sm Rs := bnd me fun d => bnd md fun z e => match d, z with
  | .lst l, .int z => match allInts l with
    | some ns => some (.ok (.sh (.int ((maxL ns).getD z))) e)
    | none => none
  | _, _ => none
section
variable {X : Cx} {κ : Kx} {W : WX} {e o : Expr} {me mo : Sm D} {p pos kpos : Pos}
end
end Vs


set_option Elab.async false
set_option linter.all false
set_option maxRecDepth 100000
set_option maxHeartbeats 2000000
/-! Vy: an own list of own lists of numbers, handed to a call that only reads it: its rows are locked for that time, so the answer can't hold one of them. -/
namespace Vs
open PySem PySem.Spec PyProof.Rows L2
mutual
/-- no told list, no error in it -/
def D.nos : D → Bool
  | .scr _ => false
  | .xn _ _ => false
  | .lst l => nosA l
  | .tup l => nosA l
  | .ob _ l => nosA l
  | _ => true
def nosA : List D → Bool
  | [] => true
  | d :: l => d.nos && nosA l
end
def rowI : List Fd → Option (List (List Int))
  | [] => some []
  | .ow l :: fs => match allInts l, rowI fs with
    | some ns, some r => some (ns :: r)
    | _, _ => none
  | .sh _ :: _ => none
def O.ntr : O → Bool
  | .tre _ => false
  | _ => true
def Sl.ntr : Sl → Bool
  | .tr o => o.ntr
  | .io o => o.ntr
  | _ => true
open Classical in
/-- the expression reads slot i's own list of own lists; its value holds nothing of it -/
noncomputable def xLockQ (i : Nat) (m : Sm Rs) : Sm Rs := fun e => match sqAt e i with
  | some (false, fs) => match rowI fs with
    | some rows => match m (e.set i (.sh (.lst (rows.map .scr)))) with
      | some (.ok (.sh d) e1) => if rows ≠ [] ∧ d.nos = true ∧ e.all Sl.ntr = true ∧ e1 = e.set i (.sh (.lst (rows.map .scr))) then some (.ok (.sh d) e) else none
      | _ => none
    | none => none
  | _ => m e
/-! ### several things locked -/
def tLockL (F : List Addr) (t : TE) : TE := fun σ H Q => F.Nodup ∧ (∀ a, a ∈ F → ∃ u, H a = some u ∧ Mut (some u)) ∧ ∀ H1 : Hp, (∀ a, a ∉ F → H1 a = H a) → (∀ a, a ∈ F → ∃ od u, H a = some u ∧ H1 a = some (.frz od u)) → t σ H1 fun v H' => (∀ a, a ∈ F → H' a = H1 a) ∧ Q v (frzG H H' F)
def tLockF (t : TE) : TE := fun σ H Q => t σ H Q ∨ ∃ F, tLockL F t σ H Q
/-! ### what the locked rows are -/
section
variable {κ : Kx} {H H' G G' : Hp}
/-- a value without told lists stands apart from the locked ones -/
theorem nos_and {a b : Bool} (h : (a && b) = true) : a = true ∧ b = true := by simpa using h
mutual
theorem rp_nos {a : Addr} {F : List Addr} (hF : ∀ b, b ∈ F → ∃ od u, G b = some (.frz od u)) (ha : ∃ b xs, b ∈ F ∧ G a = some (.lst (.ref b :: xs))) (k : ∀ b o, b ∉ a :: F → G b = some o → G' b = some o) : ∀ {v : V} {d : D}, Rp κ G v d → d.nos = true → Rp κ G' v d ∧ ∀ b, b ∈ F → v ≠ .ref b
  | _, _, .non, _ => ⟨.non, fun _ _ z => nomatch z⟩
  | _, _, .bl b, _ => ⟨.bl b, fun _ _ z => nomatch z⟩
  | _, _, .int b, _ => ⟨.int b, fun _ _ z => nomatch z⟩
  | _, _, .str b, _ => ⟨.str b, fun _ _ z => nomatch z⟩
  | _, _, @Rp.lst _ _ c xs ds h t, n => by
    obtain ⟨t1, t2⟩ := rpa_nos hF ha k t (by unfold D.nos at n; exact n)
    have nF : c ∉ F := fun m => by
      obtain ⟨od, u, e⟩ := hF c m
      rw [h] at e; cases e
    refine ⟨.lst (k c _ (fun m => ?_) h) t1, fun b m z => by cases z; exact nF m⟩
    rcases List.mem_cons.mp m with rfl | m
    · obtain ⟨b, ys, m, e⟩ := ha
      rw [h] at e
      cases e
      exact t2 b m List.mem_cons_self
    · exact nF m
  | _, _, @Rp.tup _ _ c xs ds h t, n => by
    obtain ⟨t1, t2⟩ := rpa_nos hF ha k t (by unfold D.nos at n; exact n)
    have nF : c ∉ F := fun m => by
      obtain ⟨od, u, e⟩ := hF c m
      rw [h] at e; cases e
    refine ⟨.tup (k c _ (fun m => ?_) h) t1, fun b m z => by cases z; exact nF m⟩
    rcases List.mem_cons.mp m with rfl | m
    · obtain ⟨b, ys, m, e⟩ := ha
      rw [h] at e
      cases e
    · exact nF m
  | _, _, @Rp.ob _ _ c dx cl fs ds h h2 t, n => by
    obtain ⟨t1, t2⟩ := rpa_nos hF ha k t (by unfold D.nos at n; exact n)
    have nF : c ∉ F := fun m => by
      obtain ⟨od, u, e⟩ := hF c m
      rw [h] at e; cases e
    refine ⟨.ob (k c _ (fun m => ?_) h) h2 t1, fun b m z => by cases z; exact nF m⟩
    rcases List.mem_cons.mp m with rfl | m
    · obtain ⟨b, ys, m, e⟩ := ha
      rw [h] at e
      cases e
    · exact nF m
  | _, _, .scr _, n => nomatch n
  | _, _, .xn _, n => nomatch n
theorem rpa_nos {a : Addr} {F : List Addr} (hF : ∀ b, b ∈ F → ∃ od u, G b = some (.frz od u)) (ha : ∃ b xs, b ∈ F ∧ G a = some (.lst (.ref b :: xs))) (k : ∀ b o, b ∉ a :: F → G b = some o → G' b = some o) : ∀ {vs : List V} {ds : List D}, RpA κ G vs ds → nosA ds = true → RpA κ G' vs ds ∧ ∀ b, b ∈ F → .ref b ∉ vs
  | _, _, .nil, _ => ⟨.nil, fun _ _ m => nomatch m⟩
  | _, _, .cons r t, n => by
    obtain ⟨n1, n2⟩ := nos_and (by unfold nosA at n; exact n)
    obtain ⟨r1, r2⟩ := rp_nos hF ha k r n1
    obtain ⟨t1, t2⟩ := rpa_nos hF ha k t n2
    refine ⟨.cons r1 t1, fun b m z => ?_⟩
    rcases List.mem_cons.mp z with z | z
    · exact r2 b m z.symm
    · exact t2 b m z
end
end
section
variable {X : Cx} {κ : Kx} {W : WX}
end
end Vs


set_option Elab.async false
set_option linter.all false
set_option maxRecDepth 100000
set_option maxHeartbeats 2000000
/-! Vz: the end of a block that changes what it was told: `for e in x[1]: e[2].append(..)` and `x[1].append(..)`, where nothing else that is known holds a list that is empty or begins with a tuple. -/
namespace Vs
open PySem PySem.Spec PyProof.Rows L2
def immD : D → Bool
  | .non => true
  | .bl _ => true
  | .int _ => true
  | .str _ => true
  | _ => false
def hdI : List D → Bool
  | [] => false
  | d :: _ => immD d
mutual
/-- no list in it that is empty or begins with a reference -/
def D.okC : D → Bool
  | .lst l => hdI l && okCA l
  | .tup l => okCA l
  | .ob _ l => okCA l
  | _ => true
def okCA : List D → Bool
  | [] => true
  | d :: l => d.okC && okCA l
end
def Sl.okS : Sl → Bool
  | .un => true
  | .sh d => d.okC
  | .ow l => okCA l
  | _ => false
/-- a list that is empty or begins with a tuple -/
def badL : List D → Bool
  | [] => true
  | .tup _ :: _ => true
  | _ => false
def stpO : D → Bool
  | .tup (.int _ :: _) => true
  | _ => false
/-- an entry: two texts, a list of steps -/
def entO (n : Nat) : D → Bool
  | .tup [.str _, .str _, .lst ss] => ss.all stpO && decide (ss.length + n < szl)
  | _ => false
/-- the block, and what is changed behind it -/
def sTail (f x : Nat) (B : Ss) : Ss := fun e => if e.all Sl.okS = true then match B e with
    | some (.nx e1) => match e1[f]? with
      | some (.sh (.tup [_, .lst ds])) => if f ≠ x ∧ x < e1.length ∧ ds.all (entO ds.length) = true ∧ ds.length < szl ∧ ((e1.set f .un).set x .un).all Sl.okS = true then some (.nx ((e1.set f .un).set x .un)) else none
      | _ => none
    | some (.rt (.sh (.bl b))) => some (.rt (.sh (.bl b)))
    | _ => none
  else none
section
variable {κ : Kx} {W : WX} {G H H' : Hp}
theorem hdI_cln : ∀ {vs : List V} {l : List D}, RpA κ G vs l → hdI l = true → clnO (.lst vs) = true
  | _, _, .nil, h => by cases h
  | _, d :: _, .cons r _, h => by
    cases r <;> first
      | rfl
      | cases h
mutual
theorem Rp.cln : ∀ {v : V} {d : D}, Rp κ G v d → d.okC = true → Rp κ (Vs.cln G) v d
  | _, _, .non, _ => .non
  | _, _, .bl b, _ => .bl b
  | _, _, .int i, _ => .int i
  | _, _, .str w, _ => .str w
  | _, _, .lst h t, o => by
    unfold D.okC at o
    obtain ⟨o1, o2⟩ := nos_and o
    exact .lst (cln_at h (hdI_cln t o1)) (RpA.cln t o2)
  | _, _, .tup h t, o => .tup (cln_at h rfl) (RpA.cln t (by unfold D.okC at o; exact o))
  | _, _, .scr h, _ => .scr (h.imp (fun ⟨od, h⟩ => ⟨od, cln_at h rfl⟩) id)
  | _, _, .xn (o := ob) (x := x) h, _ => .xn (by
    obtain ⟨h1, h2⟩ := h
    refine ⟨h1, ?_⟩
    revert h2
    cases κ.xf x.c <;> cases x.a <;> intro h2
    · exact h2
    · exact h2
    · exact h2
    · obtain ⟨b, e1, e2⟩ := h2
      exact ⟨b, e1, cln_at e2 rfl⟩)
  | _, _, .ob h1 h2 t, o => .ob (cln_at h1 rfl) h2 (RpA.cln t (by unfold D.okC at o; exact o))
theorem RpA.cln : ∀ {vs : List V} {ds : List D}, RpA κ G vs ds → okCA ds = true → RpA κ (Vs.cln G) vs ds
  | _, _, .nil, _ => .nil
  | _, _, .cons r t, o => by
    unfold okCA at o
    obtain ⟨o1, o2⟩ := nos_and o
    exact .cons (Rp.cln r o1) (RpA.cln t o2)
end
end
section
variable {κ : Kx} {W : WX} {H H' : Hp} {G : Gh} {σ : L2.St} {env : En}
theorem okS_at (h : env.all Sl.okS = true) {i : Nat} {s : Sl} (e : env[i]? = some s) : s.okS = true := List.all_eq_true.mp h s (List.mem_of_getElem? e)
theorem Rep.cln (r : Rep κ H G σ env) (h : env.all Sl.okS = true) : Rep κ H ⟨Vs.cln G.g, G.fp⟩ σ env where
  sub := ⟨fun a o e => r.sub.s a o (cln_of e).1, fun a o e => r.sub.n a o (cln_of e).1, r.sub.t⟩
  len := r.len
  slot := fun i s e => by
    have q := r.slot i s e
    have o := okS_at h e
    cases s with
    | un => exact q
    | sh d =>
      obtain ⟨h0, x, h1, h2⟩ := q
      exact ⟨h0, x, h1, h2.cln o⟩
    | ow l =>
      obtain ⟨x, e1, ro⟩ := q
      obtain ⟨a, xs, rfl, eF, h1, h2, t⟩ := ro.ls_inv
      refine ⟨_, e1, ?_⟩
      show RO κ H (Vs.cln G.g) (.ref a) (.ls l) (G.fp i)
      rw [eF]
      exact .ls h1 (cln_no h2) (t.cln o)
    | _ => cases o
  inj := fun i j a t ow e m => r.inj i j a t ow e m
end
/-! ### the raw end -/
def tTail (κ : Kx) (W : WX) (f x : Nat) (m1 m2 : Sm D) : TS := tSeq (tFor (iList κ.K (tOp (rIx κ.K) (tVar f) (tC (.int 1)))) (gName x) (tDrop (tBM κ.K "list" rAppend (tOp (rIx κ.K) (tVar x) (tC (.int 2))) (tCons (tX κ W (RP κ) m1) tNil)))) (tDrop (tBM κ.K "list" rAppend (tOp (rIx κ.K) (tVar f) (tC (.int 1))) (tCons (tX κ W (RP κ) m2) tNil)))
/-- an entry in the ghost -/
structure Ent (G : Hp) (n : Nat) (L : Addr) (v : V) (e s : Addr) : Prop where
  v : v = .ref e
  t : ∃ w1 w2, G e = some (.tup [.str w1, .str w2, .ref s])
  l : ∃ us, G s = some (.lst us) ∧ us.length + n < szl
  c : cln G s = none
  ne : s ≠ L
section
variable {κ : Kx} {W : WX} {H1 : Hp} {G1 : Gh} {σ1 : L2.St} {e1 : En} {f x : Nat} {d0 : D} {ds : List D} {m1 m2 : Sm D}
end
/-! ### a block, then a raw end -/
def tU (κ : Kx) (W : WX) (B : Ss) (T : TS) : TS := fun D σ H => ∃ G env, Rep κ H G σ env ∧ SPost κ W σ H G env (B env) { D with nx := T D }
section
variable {X : Cx} {κ : Kx} {W : WX} {st : Stmt} {sts : List Stmt} {m n : Ss} {T : TS}
end
end Vs


set_option Elab.async false
set_option linter.all false
set_option maxRecDepth 100000
set_option maxHeartbeats 2000000
/-! Vf: an exception that leaves a list comprehension: [f(x) for x in ..], f a def that may raise. -/
namespace Vs
open PySem PySem.Spec PyProof.Rows L2
/-- what the calls of a block may let out -/
def Lets (Y : Cx) (W : WX) : Prop := ∀ σ : L2.St, PassesAt (L2.CX Y.prog Y.w) Y σ (WE W σ)
/-- the wish of a comprehension's block -/
abbrev xeC (X : Cx) (ce : Env) : Value → Shared → Prop := notedBy (model X.prog X.w) X.A ce (CompFails (model X.prog X.w) X.A X.xe ce)
abbrev blkX (X : Cx) (s : Shared) (H : Hp) (scope : Scope) (ce : Env) (fp : List Addr) : Cx := (X.blk s H scope ce fp).wish (xeC X ce)
section
variable {X : Cx} {W : WX}
theorem block_lets {pins : List (Addr × Obj)} {σ : L2.St} {H3 : Hp} {s3 : Shared} {scope : Scope} {ce : Env} {fp : List Addr} (I3 : Inv X pins σ H3 s3) (tk : Takes X W) (hst : X.stack = X.env :: X.outer) (hfr : X.env.frame = some X.env.locals) (ef : ce.frame = X.env.frame) (eL : ce.locals = s3.heap.objs.size)
    (hfp : ∀ b ∈ fp, FpOk X pins H3 b) : Lets (blkX X s3 H3 scope ce fp) (fun c d _ H' => W c d σ H') := by
  intro σ5 pins5 H5 s5 u s' I c
  have x := XE.of_call (X := blkX X s3 H3 scope ce fp) (W := fun c d _ H' => W c d σ H') (E := WE (fun c d _ H' => W c d σ H') σ5) I (fun _ _ _ h => h) c
  obtain ⟨a1, B1, _, cls1, d1, rfl, fl1, _⟩ := id c
  obtain ⟨a, B, sI, pinsI, σI, H', cls, d, eu, I6, nb, up, sky, na, os, ag, w⟩ := x
  cases eu
  -- it flies
  have fl : HandSPX.FlyingZ B X.stack a1 (Zc cls d) s'.heap := by
    obtain ⟨_, _, _, oe, vs, T, oT, ts, g1, g2, g3, g4, g5, g6, g7, g8, g9⟩ := fl1
    rcases sky with ⟨_, _, _, oe', vs', k1, _, k2, k3⟩ | k | ⟨_, _, _, oe', vs', T', oT', ts', k1, k2, k3, k4, k5, k6, k7, k8, k9⟩
    · rw [g1] at k1
      cases k1
      rw [g3] at k2
      cases k2
      rw [g4] at k3
      cases k3
    · exact k
    · rw [g1] at k1
      cases k1
      rw [g3] at k3
      cases k3
      rw [g4] at k4
      cases k4
      rw [g7] at k7
      cases k7
      rw [g8] at k8
      cases k8
      rw [g9] at k9
      exact absurd k9 (by simp [rawInt])
  have I7 : Inv X pins σ H' sI := I3.call' (ch := fp) I6.os I6.base I6.hok I6.bare fun b hb =>
    ⟨(hfp b hb).2.2.2.1, (hfp b hb).2.1, (hfp b hb).2.2.2.2.1, (hfp b hb).2.2.2.2.2⟩
  have nC : H' ce.locals = none := I6.free
  obtain ⟨m, hn, _⟩ := I6.loc
  have hn : sI.heap.Ns ce.locals m := hn
  obtain ⟨f0, f1, f2, f3, f4, f5⟩ := (eL ▸ I3.fpOk (Nat.le_refl _) (by rw [← eL]; exact nC) : FpOk X pins H' ce.locals)
  -- the state without the block's names
  obtain ⟨hR, r1, r2⟩ := restrict sI.heap fun b => decide (b ≠ ce.locals)
  obtain ⟨B0, b1, b2⟩ := restrict B fun b => decide (b ≠ ce.locals)
  have I8 : Inv X pins σ H' { sI with heap := hR, toks := sI.toks } := I7.turned (t' := sI.toks) (it := ce.locals) (fun b o n e => by rw [r1 b (decide_eq_true n)]; exact e) f0 f1 f3 f4 f5
  have ofR : ∀ {b : Addr} {o : Obj}, hR.get? b = some o → b ≠ ce.locals ∧ sI.heap.get? b = some o := fun {b o} e => by
    by_cases n : b = ce.locals
    · rw [r2 b (decide_eq_false fun z => z n)] at e; cases e
    · rw [r1 b (decide_eq_true n)] at e; exact ⟨n, e⟩
  have ofB : ∀ {b : Addr} {o : Obj}, B0.get? b = some o → b ≠ ce.locals ∧ B.get? b = some o := fun {b o} e => by
    by_cases n : b = ce.locals
    · rw [b2 b (decide_eq_false fun z => z n)] at e; cases e
    · rw [b1 b (decide_eq_true n)] at e; exact ⟨n, e⟩
  have noB : ∀ {b : Addr}, B.get? b = none → B0.get? b = none := fun {b} e => by
    cases q : B0.get? b with
    | none => rfl
    | some o => rw [(ofB q).2] at e; cases e
  -- noted in the def's frame
  have hA : X.A.frames = some (X.env :: X.outer) := by rw [I3.ok.frames, hst]
  rw [hst] at fl
  show wpAny (model X.prog X.w) X.A (noteFrame (.ref a1) ce) _ _ s'
  rw [noteFrame_env _ ef]
  refine HandSPX.looks_onZ Zc.steady hA hfr fl fun h1 held up1 => ?_
  have upI : sI.heap.UpToSlots h1 := up.trans up1
  have hn1 : h1.Ns ce.locals m := hn.upToSlots upI
  refine ⟨m, hn1, fun h2 m2 hn2 sb => ?_⟩
  obtain ⟨s1, s2, s3', oe, vs, T, oT, ts, k1, k2, k3, k4, k5, k6, k7, k8, k9⟩ := held
  obtain ⟨oC, es, ep, hC, dC, _⟩ := id hn1
  have na1 : a1 ≠ ce.locals := fun z => by
    rw [z, hC] at k1
    cases k1
    rw [dC] at k3
    cases k3
  have nT : T ≠ ce.locals := fun z => by
    rw [z, hC] at k7
    cases k7
    rw [dC] at k8
    cases k8
  have g1 : h2.get? a1 = some oe := (sb.2 _ na1).trans k1
  have g7 : h2.get? T = some oT := (sb.2 _ nT).trans k7
  have st2 : B0.StaysIn h2 := fun b o e => by
    obtain ⟨n, e⟩ := ofB e
    exact (sb.2 b n).trans (s1 b o e)
  have fun2 : h2.FunFrames B0 (X.env :: X.outer) := funFrames_none (Heap.FunFrames.sameBut sb hn2 s3') fun L hL => noB (s3'.mem hL).1
  have tr2 : HandSPX.TracedZ h2 B0 a1 (Zc cls d) (rawInt X.env.locals) := ⟨oe, vs, T, oT, ts, g1, k2, k3, k4, noB k5, k6, g7, k8, k9⟩
  unfold PySem.passOn
  refine wpAny_bind (wpAny_field g1 k3 k4 ?_)
  rw [if_neg (show ¬ ((Value.ref T == Value.none) = true) by simp)]
  rw [ef, hfr]
  refine wpAny_bind (HandSPX.setFlight_anyZ (l := X.env :: X.outer) st2 fun2 tr2 fun h3 st3 fun3 tr3 up3 => wpAny_throw ?_)
  refine tk _ _ ⟨a1, B0, { sI with heap := hR, toks := sI.toks }, pins, σ, H', cls, d, rfl, I8, fun b o e hb => ?_, fun b o e hnf => ?_, .inr (.inr ⟨st3, noB s2, by rw [hst]; exact fun3, tr3⟩), na, os, ag, w⟩
  · obtain ⟨n, e⟩ := ofR e
    rw [b1 b (decide_eq_true n)]
    exact nb b o e hb
  · obtain ⟨n, e⟩ := ofR e
    obtain ⟨sl, q⟩ := upI b o e hnf
    obtain ⟨sl2, q2⟩ := up3 b _ ((sb.2 b n).trans q) hnf
    exact ⟨sl2, q2⟩
/-- the comprehension, its element's exceptions let out -/
theorem lcx_core {pins : List (Addr × Obj)} {s : Shared} {σ : L2.St} {H : Hp} {Q : VK} {elt tg iter : Expr} {ifs : List Expr} {scope : Scope} {own : List (Str × Nat)} {pos pos' : Pos} {wi : TI} {g : TG} {tt : TT} {te : WX → TE} {use : Option (Value → Sem Unit)} {Qf : Value → Shared → Prop}
    (hc : X.calm = true) (hN : X.N.Nodup) (tk : Takes X W) (hst : X.stack = X.env :: X.outer) (hfr : X.env.frame = some X.env.locals) (I : Inv X pins σ H s) (hi : PI X tg iter wi) (ok : BlkOk X.N X.env.scope scope own)
    (hg : ∀ (s : Shared) (H : Hp) (C : Addr) (cl : List (Str × Addr)) (fp : List Addr), PG (blkX X s H scope (compEnvC scope cl C X.env) fp) tg g) (ht : ∀ (s : Shared) (H : Hp) (C : Addr) (cl : List (Str × Addr)) (fp : List Addr), PTs (blkX X s H scope (compEnvC scope cl C X.env) fp) ifs tt)
    (he : ∀ (V : WX) (s : Shared) (H : Hp) (C : Addr) (cl : List (Str × Addr)) (fp : List Addr), Lets (blkX X s H scope (compEnvC scope cl C X.env) fp) V → PE (blkX X s H scope (compEnvC scope cl C X.env) fp) elt (te V)) (hs : ∀ x, foldedSetIterable iter X.env x = pure x)
    (h : tLc wi g tt (te fun c d _ H' => W c d σ H') (own.map (·.2)) σ H Q)
    (hRR : ∀ D ce s' m H', Inv X pins σ H' s' → Q (.ref D) H' → s'.heap.Ns ce.locals m → FpOk X pins H' ce.locals → compEnds (model X.prog X.w) X.A X.xe use Qf (.ref D) ce (.ok .next) s') :
    wpAny (model X.prog X.w) X.A (comprehension (.ListComp elt [⟨tg, iter, ifs, 0⟩] scope pos) scope X.env pos' (newList []) false (eval iter X.env) use) Qf X.xe s := by
  have hfree : ∀ y ∈ scope.names, y.2 = .free → ∃ c, X.env.cells.lookup y.1 = some c := fun y hy e => I.ok.has _ ((ok.free y hy e).imp id id)
  refine comprehension_at (use := use) rfl hs (closure_ok hfree) ok.kind (fun y hy e => by rw [ok.uniq y hy, e]) (thn (hi.run pins s σ H _ I h) fun _ s1 hx => thn hx fun itv s2 h2 => ?_)
  obtain ⟨it, fp, tn, J, H2, rfl, I2, T, st2, f2, q⟩ := h2
  refine wpAny_newObj_type (newEnv_comp ?_) (by show 0 ≤ sizeLine; decide)
  obtain ⟨D, hD⟩ : ∃ D, D = s2.heap.objs.size := ⟨_, rfl⟩
  rw [← hD]
  have hDn : H2 D = none := I2.hok.fresh (Nat.le_of_eq hD.symm)
  obtain ⟨Wn, ⟨m0, w0⟩, turn⟩ := q D hDn
  obtain ⟨s3, hs3⟩ : ∃ s3 : Shared, s3 = { s2 with heap := s2.heap.push { cls := .type "list", data := .seq ([] : List Value).toArray } } := ⟨_, rfl⟩
  rw [← hs3]
  have I3 : Inv X pins σ (upd H2 D (.lst [])) s3 := by
    rw [hs3]
    refine I2.laid (t' := s2.toks) (fun b o e => Heap.get?_push_of_some _ e) (Nat.le_of_eq hD.symm) ⟨Nat.zero_le _, [], 0, .nil, ?_⟩
    rw [hD]
    exact Heap.get?_push_size _ rfl
  have e3 : s3.heap = s2.heap.push { cls := .type "list", data := .seq ([] : List Value).toArray } := by rw [hs3]
  have f3 : ∀ b ∈ fp, FpOk X pins (upd H2 D (.lst [])) b ∧ b < s3.heap.objs.size := fun b hb => by
    obtain ⟨o, e, _⟩ := T.obj _ _ st2 b hb
    have hlt := Heap.lt_size e
    refine ⟨⟨?_, (f2 b hb).2⟩, by rw [e3, Heap.size_push]; exact Nat.lt_succ_of_lt hlt⟩
    rw [upd_ne (by rw [hD]; exact Nat.ne_of_lt hlt)]
    exact (f2 b hb).1
  have st3 : tn 0 s3.heap := T.keep _ _ _ st2 fun b _ o e => by rw [e3]; exact Heap.get?_push_of_some _ e
  have I4 := (block_start I3 ok hN f3).wish (xeC X (compEnvC scope (cellsFrom (s3.heap.objs.size + 1) scope.names (cloFrom X.env.cells scope.names [])) s3.heap.objs.size X.env))
  have lt := block_lets (scope := scope) (ce := compEnvC scope (cellsFrom (s3.heap.objs.size + 1) scope.names (cloFrom X.env.cells scope.names [])) s3.heap.objs.size X.env) I3 tk hst hfr rfl rfl fun b hb => (f3 b hb).1
  have pg := hg s3 (upd H2 D (.lst [])) s3.heap.objs.size (cellsFrom (s3.heap.objs.size + 1) scope.names (cloFrom X.env.cells scope.names [])) fp
  have pt := ht s3 (upd H2 D (.lst [])) s3.heap.objs.size (cellsFrom (s3.heap.objs.size + 1) scope.names (cloFrom X.env.cells scope.names [])) fp
  have pe := he _ s3 (upd H2 D (.lst [])) s3.heap.objs.size (cellsFrom (s3.heap.objs.size + 1) scope.names (cloFrom X.env.cells scope.names [])) fp lt
  show codeAny _ _ (.compStart (.ListComp elt [⟨tg, iter, ifs, 0⟩] scope pos) 0 (.ref it) (.ref D) (compEnvC scope (cellsFrom (s3.heap.objs.size + 1) scope.names (cloFrom X.env.cells scope.names [])) s3.heap.objs.size X.env))
    (compEnds (model X.prog X.w) X.A X.xe use Qf (.ref D) (compEnvC scope (cellsFrom (s3.heap.objs.size + 1) scope.names (cloFrom X.env.cells scope.names [])) s3.heap.objs.size X.env)) { s3 with heap := pushCells (s3.heap.push { cls := .type "dict", data := .dict #[] }) scope.names }
  have nfp : ∀ b ∈ fp, (upd H2 D (.lst [])) b = none := fun b hb => (f3 b hb).1.1
  obtain ⟨ce, hce⟩ : ∃ ce, ce = compEnvC scope (cellsFrom (s3.heap.objs.size + 1) scope.names (cloFrom X.env.cells scope.names [])) s3.heap.objs.size X.env := ⟨_, rfl⟩
  have cL : ce.locals = s3.heap.objs.size := by rw [hce]; rfl
  rw [← hce] at I4 pg pt pe ⊢
  obtain ⟨H3, hH3⟩ : ∃ H3, H3 = upd H2 D (.lst []) := ⟨_, rfl⟩
  rw [← hH3] at I3 I4 pg pt pe w0 nfp f3
  obtain ⟨s4, hs4⟩ : ∃ s4 : Shared, s4 = { s3 with heap := pushCells (s3.heap.push { cls := .type "dict", data := .dict #[] }) scope.names } := ⟨_, rfl⟩
  rw [← hs4] at I4 ⊢
  have st4 : tn 0 s4.heap := T.keep _ _ _ st3 fun b _ o e => by rw [hs4]; exact pushCells_keeps _ _ _ _ (Heap.get?_push_of_some _ e)
  have stat : ∀ {σ' : L2.St} {H' : Hp} {s' : Shared}, Inv (blkX X s3 H3 scope ce fp) [] σ' H' s' → (∀ b ∈ fp, H' b = none) → ∀ b ∈ fp, FpOk (blkX X s3 H3 scope ce fp) [] H' b := fun {σ' H' s'} I' hn b hb =>
    ⟨hn b hb, (I'.ok.exf b hb).1, I'.ok.exfs b hb, .inl hb, fun x c e => (I'.ok.exf b hb).2 x c e, fun p hp => absurd (show p ∈ ([] : List (Addr × Obj)) ++ [] from hp) (by simp)⟩
  have loop : codeAny (model X.prog X.w) X.A (.compLoop (.ListComp elt [⟨tg, iter, ifs, 0⟩] scope pos) 0 (.ref it) (.ref D) ce) (compEnds (model X.prog X.w) X.A X.xe use Qf (.ref D) ce) s4 := by
    have eE : (notedBy (model X.prog X.w) X.A ce fun e s' => compEnds (model X.prog X.w) X.A X.xe use Qf (.ref D) ce (.error e) s') = xeC X ce := by
      cases use <;> rfl
    refine compLoop_any (fun n s' => ∃ i H', Inv (blkX X s3 H3 scope ce fp) [] (wipe σ (own.map (·.2))) H' s' ∧ tn i s'.heap ∧ (∀ b ∈ fp, H' b = none) ∧ Wn i n H') ?_ m0 ⟨0, H3, I4, st4, nfp, w0⟩
    rw [eE]
    rintro n s5 ⟨i, H5, I5, st5, n5, w5⟩
    rcases turn i n H5 w5 with ⟨stop, qq⟩ | ⟨go, Nx, hNx, step⟩
    · have td := T.done (blkX X s3 H3 scope ce fp) rfl rfl rfl hc i [] s5 _ H5 (fun _ _ => False) I5 (stat I5 n5) st5 stop
      refine thnF td fun r s6 ⟨hr, I6⟩ => ?_
      subst hr
      have I7 : Inv X pins σ H5 s6 := I3.call' (ch := fp) I6.os I6.base I6.hok I6.bare fun b hb => ⟨(f3 b hb).1.2.2.2.1, (f3 b hb).1.2.1, (f3 b hb).1.2.2.2.2.1, (f3 b hb).1.2.2.2.2.2⟩
      have nC : H5 ce.locals = none := I6.free
      obtain ⟨m, hn, _⟩ := I6.loc
      exact hRR D ce s6 m H5 I7 qq hn (by rw [cL] at nC ⊢; exact I3.fpOk (Nat.le_refl _) nC)
    · have ti := T.item (blkX X s3 H3 scope ce fp) rfl rfl rfl hc i [] s5 _ H5 (fun _ _ => False) I5 (stat I5 n5) st5 go
      refine thnF ti fun r s6 ⟨u, hr, h6⟩ => ?_
      subst hr
      refine thnF h6 fun _ s7 ⟨x, H7, I7, r7, y7, st7, n7⟩ => ?_
      have I7' := I7.pinned (stat I7 n7) (T.obj _ _ st7)
      refine thn (pg.run _ s7 _ H7 x u _ I7' r7 (step x H7 y7)) fun _ s8 ⟨σ8, H8, I8, hw8, q8⟩ => ?_
      refine thn (pt.run _ s8 σ8 H8 _ I8 q8) fun b s9 ⟨H9, I9, q9⟩ => ?_
      have fin : ∀ {s' : Shared} {H' : Hp}, Inv (blkX X s3 H3 scope ce fp) ([] ++ pinsAt fp s7.heap) σ8 H' s' → Nx H' → ∃ m, m < n ∧ ∃ i H', Inv (blkX X s3 H3 scope ce fp) [] (wipe σ (own.map (·.2))) H' s' ∧ tn i s'.heap ∧ (∀ b ∈ fp, H' b = none) ∧ Wn i m H' := fun {s' H'} I' nx => by
        obtain ⟨m', hm, w'⟩ := hNx H' nx
        have pin' : ∀ b ∈ fp, ∀ o, s7.heap.get? b = some o → s'.heap.get? b = some o ∧ H' b = none := fun b hb o e =>
          let z := I'.pin (b, o) (List.mem_append_right _ (List.mem_append_right _ (mem_pinsAt hb e)))
          ⟨z.1, z.2.1⟩
        have hl : (wipe σ (own.map (·.2))).length = σ8.length := by rw [← hw8, wipe_length]
        refine ⟨m', hm, i + 1, H', (I'.unpinned (pins := [])).weak hl (fun j v e => ?_), T.keep _ _ _ st7 fun b hb o e => (pin' b hb o e).1, fun b hb => ?_, w'⟩
        · rw [← hw8] at e
          exact (wipe_some e).1
        · obtain ⟨o, e, _⟩ := T.obj _ _ st7 b hb
          exact (pin' b hb o e).2
      cases b with
      | false =>
        simp only [Bool.false_eq_true, if_false] at q9 ⊢
        exact fin I9 q9
      | true =>
        simp only [if_true] at q9 ⊢
        refine thn (pe.run _ s9 σ8 H9 _ I9 q9) fun z s10 ⟨yv, H10, I10, r10, acc, hD10, hz10, nx⟩ => ?_
        exact app_ok (X := blkX X s3 H3 scope ce fp) I10 hD10 hz10 r10 fun s11 I11 => fin I11 nx
  exact codeAny_compStart_list loop (T.self X.A 0 _ _ _ st4 loop)
/-- as a value -/
theorem pe_lcx {elt tg iter : Expr} {ifs : List Expr} {scope : Scope} {own : List (Str × Nat)} {pos : Pos} {wi : TI} {g : TG} {tt : TT} {te : WX → TE} (hc : X.calm = true) (hN : X.N.Nodup) (tk : Takes X W) (hst : X.stack = X.env :: X.outer) (hfr : X.env.frame = some X.env.locals) (hi : PI X tg iter wi) (ok : BlkOk X.N X.env.scope scope own)
    (hg : ∀ (s : Shared) (H : Hp) (C : Addr) (cl : List (Str × Addr)) (fp : List Addr), PG (blkX X s H scope (compEnvC scope cl C X.env) fp) tg g) (ht : ∀ (s : Shared) (H : Hp) (C : Addr) (cl : List (Str × Addr)) (fp : List Addr), PTs (blkX X s H scope (compEnvC scope cl C X.env) fp) ifs tt)
    (he : ∀ (V : WX) (s : Shared) (H : Hp) (C : Addr) (cl : List (Str × Addr)) (fp : List Addr), Lets (blkX X s H scope (compEnvC scope cl C X.env) fp) V → PE (blkX X s H scope (compEnvC scope cl C X.env) fp) elt (te V)) (hs : ∀ x, foldedSetIterable iter X.env x = pure x := by intro _; rfl) :
    PE X (.ListComp elt [⟨tg, iter, ifs, 0⟩] scope pos) (fun σ H Q => tLc wi g tt (te fun c d _ H' => W c d σ H') (own.map (·.2)) σ H Q) := by
  refine ⟨fun pins s σ H Q I h => ?_⟩
  rw [eval_ListComp]
  refine lcx_core hc hN tk hst hfr I hi ok hg ht he hs h fun D ce s' m H' I' q hn f => ⟨m, hn, fun h2 sb => ?_⟩
  obtain ⟨f0, f1, f2, f3, f4, f5⟩ := f
  exact ⟨.ref D, H', I'.turned (t' := s'.toks) (fun b o hb e => (sb.2 b hb).trans e) f0 f1 f3 f4 f5, rfl, q⟩
end
/-! ### the reading -/
def lcLX (f : D → En → Option En) (tt : Sm Bool) (te : Sm D) (vs : List Nat) : List D → List D → Sm Rs
  | [], acc, e => some (.ok (.ow acc) e)
  | d :: ds, acc, e => match f d e with
    | none => none
    | some e1 => match tt e1 with
      | some (.ok true e2) => match te e2 with
        | some (.ok y e3) => lcLX f tt te vs ds (acc ++ [y]) (unE vs e3)
        | some (.ex x e3) => some (.ex x (unE vs e3))
        | none => none
      | some (.ok false e2) => lcLX f tt te vs ds acc (unE vs e2)
      | _ => none
def fLcX (mi : Sm (List D)) (f : D → En → Option En) (tt : Sm Bool) (te : Sm D) (vs : List Nat) : Sm Rs := bnd mi fun ds e => if ds.length ≤ szl then lcLX f tt te vs ds [] (unE vs e) else none
section
variable {X : Cx} {κ : Kx} {W : WX}
theorem lcx_tr {wi : TI} {g : TG} {ttr : TT} {ter : TE} {vs : List Nat} {mi : Sm (List D)} {f : D → En → Option En} {tt : Sm Bool} {te : Sm D} {σ : L2.St} {H : Hp} {Q : VK}
    (hwi : ∀ σ H (P : It → Hp → Prop), tX κ W (RI κ) mi σ H P → wi σ H P) (hf : TgOff κ vs g f) (htt : ∀ σ H P, tX κ WF RT tt σ H P → ttr σ H P) (hte : ∀ τ H P, tX κ (fun c d _ H' => W c d σ H') (RP κ) te τ H P → ter τ H P) (h : tX κ W (RV κ) (fLcX mi f tt te vs) σ H Q) : tLc wi g ttr ter vs σ H Q := by
  obtain ⟨G, env, r, q⟩ := h
  refine hwi _ _ _ (bind_post r q fun ds e1 J H1 G1 em r1 rv s1 f1 q1 => ?_)
  obtain ⟨pr, hpr, yl⟩ := rv
  have hsz : ds.length ≤ szl := by
    by_cases hsz : ds.length ≤ szl
    · exact hsz
    · rw [if_neg hsz] at q1; exact q1.elim
  rw [if_pos hsz] at q1
  intro D hD
  have ow : Off vs σ (wipe σ vs) := off_wipe
  have lw : (wipe σ vs).length = σ.length := wipe_length σ vs
  let Inv0 : Nat → Hp → Prop := fun i H' => i ≤ ds.length ∧ ∃ G' env' acc xs, Rep κ H' G' (wipe σ vs) env' ∧ UnAt vs env' ∧ Fr H1 G1 σ e1 H' G' (wipe σ vs) env' ∧ DA κ H' G' env' D acc xs ∧ acc.length ≤ i ∧ Grw H1 H' ∧ EPost κ W (RV κ) σ H1 G1 e1 (lcLX f tt te vs (ds.drop i) acc env') Q
  refine ⟨fun i m H' => m = ds.length - i ∧ Inv0 i H', ⟨ds.length, by simp, Nat.zero_le _, ?_⟩, ?_⟩
  · obtain ⟨st, rv⟩ := new_ow (xs := []) (l := []) r1 hD .nil
    obtain ⟨a0, xs0, e0, d1, d2, d3, d4, _⟩ := rv
    cases e0
    have u := unE_at (env := e1) vs
    have fu : Fr (upd H1 D (.lst [])) G1 σ e1 (upd H1 D (.lst [])) (unG vs G1) (wipe σ vs) (unE vs e1) := (Fr.unE vs).offR u ow
    have ru := (st.rep.unE vs).off u ow lw
    exact ⟨unG vs G1, unE vs e1, [], [], ru, u, st.fr.trans fu, ⟨upd_same, by rw [unG_g]; exact d2, .nil, d4.keep st.rep ru fu upd_same d2⟩, Nat.le_refl _, st.same, q1⟩
  rintro i m H2 ⟨rfl, hi2, G2, env2, acc, xs, r2, u2, fr2, da, al, sm, q2⟩
  have y := yl H2 G2 (fun a o pa e n => fr2.at e (hpr a pa)) fr2.gk r2.sub i
  by_cases hlt : i < ds.length
  · right
    have ed : ds[i]? = some ds[i] := List.getElem?_eq_getElem hlt
    have dr : ds.drop i = ds[i] :: ds.drop (i + 1) := (List.drop_eq_getElem_cons hlt)
    obtain ⟨go, yy⟩ := y.1 _ ed
    refine ⟨go, Inv0 (i + 1), fun H' h => ⟨ds.length - (i + 1), by omega, rfl, h⟩, fun x H3 hy => ?_⟩
    rw [dr] at q2
    dsimp only [lcLX] at q2
    cases z : f ds[i] env2 with
    | none => rw [z] at q2; exact q2.elim
    | some e3 =>
      rw [z] at q2
      dsimp only at q2
      have item : ∃ G3 : Gh, Rep κ H3 G3 (wipe σ vs) env2 ∧ Fr H2 G2 (wipe σ vs) env2 H3 G3 (wipe σ vs) env2 ∧ Rp κ G3 x ds[i] ∧ Grw H2 H3 := by
        rcases yy x H3 hy with ⟨rfl, rx⟩ | ⟨T, ts, es, hT, rfl, rfl, e4, rx⟩
        · exact ⟨G2, r2, Fr.refl, rx, Grw.refl _⟩
        · have st := new_sh (o := .tup ts) r2 hT
          refine ⟨G2.up T (.tup ts), st.rep, st.fr, ?_, st.same⟩
          rw [e4]
          exact .tup upd_same (rx.mono (same_new (r2.sub.none hT)))
      obtain ⟨G3, r3, fr3, rx, s3⟩ := item
      refine hf x ds[i] (wipe σ vs) H3 G3 env2 e3 _ z r3 rx fun σ4 G4 r4 fr4 off4 len4 => ?_
      have off : Off vs σ σ4 := fun j n => (ow j n).trans (off4 j n)
      have len : σ4.length = σ.length := len4.trans lw
      refine ⟨wipe_eq off len, htt _ _ _ ⟨G4, e3, r4, ?_⟩⟩
      have da3 := (da.keep r2 r3 s3 fr3).keep r3 r4 (Grw.refl _) fr4
      have frA := (fr2.trans fr3).trans fr4
      have smA := sm.trans s3
      cases w : tt e3 with
      | none => rw [w] at q2; exact q2
      | some o => cases o with
        | ex x5 e5 => rw [w] at q2; exact q2.elim
        | ok b e5 =>
          rw [w] at q2
          intro b' H5 G5 r5 rb s5 fr5
          cases rb
          have da5 := da3.keep r4 r5 s5 fr5
          have frB := frA.trans fr5
          have back : ∀ {e : En}, Off vs σ4 (wipe σ vs) := fun {e} j n => (off j n).symm.trans (ow j n)
          cases b with
          | false =>
            rw [if_neg (by decide)]
            have u := unE_at (env := e5) vs
            have fu : Fr H5 G5 σ4 e5 H5 (unG vs G5) (wipe σ vs) (unE vs e5) := (Fr.unE vs).offR u (back (e := e5))
            have ru := (r5.unE vs).off u (back (e := e5)) (lw.trans len.symm)
            exact ⟨hlt, unG vs G5, unE vs e5, acc, xs, ru, u, frB.trans fu, da5.keep r5 ru (Grw.refl _) fu, by omega, smA.trans s5, q2⟩
          | true =>
            rw [if_pos rfl]
            dsimp only at q2
            refine hte _ _ _ ⟨G5, e5, r5, ?_⟩
            cases w6 : te e5 with
            | none => rw [w6] at q2; exact q2
            | some o6 => cases o6 with
              | ex x6 e6 =>
                rw [w6] at q2
                intro c d H6 G6 r6 xr s6 fr6
                have u := unE_at (env := e6) vs
                have o6 : Off vs σ4 σ := off.symm
                have fu : Fr H6 G6 σ4 e6 H6 (unG vs G6) σ (unE vs e6) := (Fr.unE vs).offR u o6
                have ru := (r6.unE vs).off u o6 len.symm
                exact q2 c d H6 (unG vs G6) ru (by rw [unG_g]; exact xr) ((smA.trans s5).trans s6) ((frB.trans fr6).trans fu)
              | ok yd e6 =>
                rw [w6] at q2
                intro v H6 G6 r6 rv6 s6 fr6
                have da6 := da5.keep r5 r6 s6 fr6
                have u := unE_at (env := e6) vs
                have fu : Fr H6 G6 σ4 e6 H6 (unG vs G6) (wipe σ vs) (unE vs e6) := (Fr.unE vs).offR u (back (e := e6))
                have ru := (r6.unE vs).off u (back (e := e6)) (lw.trans len.symm)
                have da7 := da6.keep r6 ru (Grw.refl _) fu
                have hxs : xs.length = acc.length := da.r.length
                refine ⟨xs, da6.h, szl_lt (by omega), hlt, unG vs G6, unE vs e6, acc ++ [yd], xs ++ [v], ru.updD da7, u, ((frB.trans fr6).trans fu).updD hD, ⟨upd_same, da7.g, by rw [unG_g]; exact da6.r.append (.cons rv6 .nil), da7.f⟩, ?_, ?_, q2⟩
                · rw [List.length_append, List.length_singleton]; omega
                · intro a o e
                  rw [upd_ne (ne_of_none e hD)]
                  exact ((smA.trans s5).trans s6) a o e
  · left
    have e : i = ds.length := by omega
    subst e
    refine ⟨y.2 (Nat.le_refl _), ?_⟩
    rw [List.drop_length] at q2
    have ob : Off vs (wipe σ vs) σ := ow.symm
    exact q2 (.ref D) H2 G2 (r2.off u2 ob lw.symm) ⟨D, xs, rfl, da.h, da.g, da.r, da.f, fun o h => by rw [hD] at h; cases h⟩ sm (fr2.offR u2 ob)
theorem v_callC {x : Str} {k : Nat} {ms : List Bool} {g : FSem} {mr : Sm (List D)} {p pos : Pos} {e : Expr} {es : List Expr} (F : VFn X.prog X.w κ X.mg X.base x k ms g) (hK : X.K = κ.K) (hr : Room k X.A) (lt : Lets X W) (hg : Gl X x) (ha : PA X (e :: es) (tX κ W (RA κ ms) mr)) (hdb : (x == ("__debug__" : Str)) = false := by decide)
    (he : starEach (e :: es) X.env = (false, eval e X.env) :: starEach es X.env := by rfl) (hpl : (backTo pos (starEach es X.env)).any (·.1) = false := by rfl) : PE X (.Call (.Name x p) (e :: es) [] pos) (tX κ W (RV κ) (fCall g mr)) := by
  obtain ⟨f, fd, ps, hm, hk, F1, hb⟩ := F.ex
  rw [← hK] at hk F1 hb
  refine PE.imp (pe_callS F1 hr hg hm hk hb lt ha hdb he hpl) fun σ H Q ⟨G, env, r, q⟩ => ?_
  exact bind_post r q fun d e1 vs H1 G1 em r1 rv s1 f1 q1 => call_post r1 rv q1
variable {elt tg iter : Expr} {ifs : List Expr} {scope : Scope} {own : List (Str × Nat)} {pos spos py : Pos} {g : TG} {mi : Sm (List D)} {f : D → En → Option En} {tt : Sm Bool} {te : Sm D} {vs : List Nat}
theorem v_lcX (hc : X.calm = true) (hN : X.N.Nodup) (tk : Takes X W) (hst : X.stack = X.env :: X.outer) (hfr : X.env.frame = some X.env.locals) (hv : vs = own.map (·.2)) (hi : PI X tg iter (tX κ W (RI κ) mi)) (ok : BlkOk X.N X.env.scope scope own)
    (hg : ∀ (s : Shared) (H : Hp) (C : Addr) (cl : List (Str × Addr)) (fp : List Addr), PG (blkX X s H scope (compEnvC scope cl C X.env) fp) tg g) (hf : TgOff κ vs g f) (ht : ∀ (s : Shared) (H : Hp) (C : Addr) (cl : List (Str × Addr)) (fp : List Addr), PTs (blkX X s H scope (compEnvC scope cl C X.env) fp) ifs (tX κ WF RT tt))
    (he : ∀ (V : WX) (s : Shared) (H : Hp) (C : Addr) (cl : List (Str × Addr)) (fp : List Addr), Lets (blkX X s H scope (compEnvC scope cl C X.env) fp) V → PE (blkX X s H scope (compEnvC scope cl C X.env) fp) elt (tX κ V (RP κ) te)) (hs : ∀ x, foldedSetIterable iter X.env x = pure x := by intro _; rfl) :
    PE X (.ListComp elt [⟨tg, iter, ifs, 0⟩] scope pos) (tX κ W (RV κ) (fLcX mi f tt te vs)) := by
  subst hv
  exact PE.imp (pe_lcx (te := fun V => tX κ V (RP κ) te) hc hN tk hst hfr hi ok hg ht he hs) fun σ H Q h => lcx_tr (fun _ _ _ h => h) hf (fun _ _ _ h => h) (fun _ _ _ h => h) h
end
/-! ### what it gives -/
theorem lcX_fun {α β : Type} {f : D → En → Option En} {te : Sm D} {vs : List Nat} (enc : β → En) (toD : α → D) (r : α → D) : ∀ (w : List α) (acc : List D) (j : β),
    (∀ a ∈ w, ∀ j, ∃ e1, f (toD a) (enc j) = some e1 ∧ ∃ e3, te e1 = some (.ok (r a) e3) ∧ ∃ j', unE vs e3 = enc j') → ∃ j', lcLX f tYs te vs (w.map toD) acc (enc j) = some (.ok (.ow (acc ++ w.map r)) (enc j'))
  | [], acc, j, _ => ⟨j, by simp [lcLX]⟩
  | a :: w, acc, j, h => by
    obtain ⟨e1, h1, e3, h2, j', h3⟩ := h a List.mem_cons_self j
    obtain ⟨j2, q⟩ := lcX_fun enc toD r w (acc ++ [r a]) j' fun b hb => h b (List.mem_cons_of_mem _ hb)
    refine ⟨j2, ?_⟩
    rw [List.map_cons, lcLX, h1]
    have ty : tYs e1 = some (.ok true e1) := rfl
    dsimp only
    rw [ty]
    dsimp only
    rw [h2]
    dsimp only
    rw [h3, q, List.map_cons, List.append_assoc]
    rfl
/-- the first that fails -/
theorem lcX_ex {α β : Type} {f : D → En → Option En} {te : Sm D} {vs : List Nat} (enc : β → En) (toD : α → D) (x : Ex) : ∀ (w : List α) (acc : List D) (j : β) (bad : α → Prop),
    (∀ a ∈ w, ¬ bad a → ∀ j, ∃ e1, f (toD a) (enc j) = some e1 ∧ ∃ y e3, te e1 = some (.ok y e3) ∧ ∃ j', unE vs e3 = enc j') → (∀ a ∈ w, bad a → ∀ j, ∃ e1, f (toD a) (enc j) = some e1 ∧ ∃ e3, te e1 = some (.ex x e3) ∧ ∃ j', unE vs e3 = enc j') → (∃ a ∈ w, bad a) → ∃ j', lcLX f tYs te vs (w.map toD) acc (enc j) = some (.ex x (enc j'))
  | [], acc, j, _, _, _, h => by obtain ⟨a, m, _⟩ := h; cases m
  | a :: w, acc, j, bad, h1, h2, h => by
    by_cases b : bad a
    · obtain ⟨e1, g1, e3, g2, j', g3⟩ := h2 a List.mem_cons_self b j
      refine ⟨j', ?_⟩
      rw [List.map_cons, lcLX, g1]
      have ty : tYs e1 = some (.ok true e1) := rfl
      dsimp only
      rw [ty]
      dsimp only
      rw [g2]
      dsimp only
      rw [g3]
    · obtain ⟨e1, g1, y, e3, g2, j', g3⟩ := h1 a List.mem_cons_self b j
      obtain ⟨c, m, hc⟩ := h
      have m' : c ∈ w := (List.mem_cons.mp m).resolve_left fun z => b (z ▸ hc)
      obtain ⟨j2, q⟩ := lcX_ex enc toD x w (acc ++ [y]) j' bad (fun a m => h1 a (List.mem_cons_of_mem _ m)) (fun a m => h2 a (List.mem_cons_of_mem _ m)) ⟨c, m', hc⟩
      refine ⟨j2, ?_⟩
      rw [List.map_cons, lcLX, g1]
      have ty : tYs e1 = some (.ok true e1) := rfl
      dsimp only
      rw [ty]
      dsimp only
      rw [g2]
      dsimp only
      rw [g3, q]
end Vs


set_option Elab.async false
set_option linter.all false
set_option maxRecDepth 100000
set_option maxHeartbeats 2000000
/-! Vh: text.replace("..", "..") of two written texts, in a branch of an if whose test compares with a written number (a token is out behind it). -/
namespace Vs
open PySem PySem.Spec PyProof.Rows L2
/-- a test behind which a token is out -/
def PTT (X : Cx) (c : Expr) (t : TT) : Prop :=
  ∀ (pins : List (Addr × Obj)) (s : Shared) (σ : L2.St) (H : Hp) (Q : Bool → Hp → Prop), Inv X pins σ H s → t σ H Q → wpAny (model X.prog X.w) X.A (isTrue c X.env (eval c X.env)) (fun b s' => 1 ≤ s'.toks ∧ TP X pins σ Q b s') X.xe s
theorem PST.imp {X : Cx} {st : Stmt} {t t' : TS} (h : PST X st t) (k : ∀ D σ H, t' D σ H → t D σ H) : PST X st t' := fun pins s σ H D h0 I q => h pins s σ H D h0 I (k D σ H q)
theorem PET.imp {X : Cx} {e : Expr} {t t' : TE} (h : PET X e t) (k : ∀ σ H Q, t' σ H Q → t σ H Q) : PET X e t' := fun pins s σ H Q h0 I q => h pins s σ H Q h0 I (k σ H Q q)
theorem ptt_int {X : Cx} {op : CmpOp} {r : R2} {a : Expr} {ta : TE} {i : Int} {j : Nat} {p pos : Pos} (ho : OpR X (compareOp op) r) (ha : PE X a ta) (hm : behindInMarks op (.Constant (.int i) j p) = false) : PTT X (.Compare a [op] [.Constant (.int i) j p] pos) (tB (tOp r ta (tC (.int i)))) := by
  intro pins s σ H Q I h
  refine wpAny_isTrue_Compare1 (thn (ha.run pins s σ H _ I h) fun v s1 ⟨x, H1, I1, r1, q1⟩ => wpAny_Constant_int ?_) hm
  refine wpAny_mono (wpAny_toks_of (n := 1) (by show 1 ≤ s1.toks + 1; omega) (ho pins _ σ H1 x (.int i) v _ _ (I1.tok (s1.toks + 1)) r1 ⟨_, rfl⟩ q1)) (fun c s3 q => ?_) fun _ _ z => z.2
  obtain ⟨hk, x, H3, I3, r3, d, rfl, q⟩ := q
  cases r3
  exact wpAny_truthy_bool ⟨hk, H3, I3, q⟩
theorem ps_ifT {X : Cx} {c : Expr} {a b : List Stmt} {tc : TT} {t u : TS} {pos : Pos} (hc : PTT X c tc) (ha : PSsT X a t) (hb : PSsT X b u) : PS X (.If c a b pos) (tIfS tc t u) := by
  refine ⟨fun pins s σ H D I h => ?_⟩
  refine wpAny_If (thn (hc pins s σ H _ I h) fun d s1 ⟨hk, H1, I1, q1⟩ => ?_)
  cases d with
  | true => exact ha pins s1 σ H1 D hk I1 q1
  | false => exact hb pins s1 σ H1 D hk I1 q1
theorem pst_asg {X : Cx} {tg e : Expr} {te : TE} {g : TG} {pos : Pos} (he : PET X e te) (hg : PG X tg g) (hs : swapsWithSole [tg] e pos.line X.env = pure false := by rfl) (hw : swappedStores [tg] e X.env = pure none := by rfl)
    (h1 : (assignEach [tg] X.env).map (·.2) = [assign tg X.env] := by rfl) : PST X (.Assign [tg] e pos) (tAsg te g) := by
  intro pins s σ H D h0 I h
  refine wpAny_Assign_stores (thn (he pins s σ H _ h0 I h) fun v s1 ⟨x, H1, I1, r1, q1⟩ => ?_) hs hw
  rw [h1]
  exact thn (hg.run pins s1 σ H1 x v _ I1 r1 q1) fun _ s2 q => q
/-- text.replace(y, z) -/
def fRepl (y z : List Nat) (m : Sm D) : Sm D := bnd m fun d e => match d with
  | .str w => if 1 ≤ y.length ∧ w.length + (w.length + 1) * z.length ≤ 1000000 then some (.ok (.str (PySem.StrLaws.replL y z w)) e) else none
  | _ => none
section
variable {X : Cx} {κ : Kx} {W : WX} {a c o e : Expr} {sts su : List Stmt} {m n : Ss} {ma mo md mj : Sm D} {mt : Sm Bool} {pos p p2 pos' apos : Pos} {i : Int} {j : Nat}
theorem t_cmpT {op : CmpOp} {r : R2} {f : D → D → Option Bool} (ho : OpR X (compareOp op) r) (hs : OpB κ r f) (ha : PE X a (tX κ W (RB κ) ma)) (hm : behindInMarks op (.Constant (.int i) j p) = false) : PTT X (.Compare a [op] [.Constant (.int i) j p] pos) (tX κ W RT (fOp f ma (eC (.int i)))) := fun pins s σ H Q I h => by
  refine ptt_int ho ha hm pins s σ H Q I ?_
  have t : tOp r (tX κ W (RB κ) ma) (tX κ W (RB κ) (eC (.int i))) σ H fun x H' => ∃ k, x = .bl k ∧ Q k H' := op_tr (Q := fun x H' => ∃ k, x = .bl k ∧ Q k H') (fun x y dx dy z H G env e r rx ry q => hs x y dx dy z H G _ e r.sub rx ry ⟨z, rfl, post_tt r q⟩) h
  exact t.mono fun v H1 ⟨G, env, rp, q⟩ => q (.int i) H1 G rp (.inl (.int i)) (Grw.refl _) Fr.refl
theorem s_ifT (ht : PTT X c (tX κ W RT mt)) (h1 : PSsT X sts (tS κ W m)) (h2 : PSsT X su (tS κ W n)) : PS X (.If c sts su pos) (tS κ W (sIf mt m n)) := PS.imp (ps_ifT ht h1 h2) fun D σ H ⟨G, env, r, q⟩ => tI.pu (sbind_post r q fun z e1 v H1 G1 _ r1 rv f1 q1 => by
  cases rv
  cases z with
  | true => exact ⟨G1, e1, r1, q1⟩
  | false => exact ⟨G1, e1, r1, q1⟩)
theorem repl_S {y z w : List Nat} (hy : 1 ≤ y.length) : Txt.replace (S w) (S y) (S z) = S (PySem.StrLaws.replL y z w) := by
  have h := PySem.StrLaws.replace_list (x := S w) (y := S y) (z := S z) (by rw [S_len]; exact hy)
  rw [← S_list (Txt.replace (S w) (S y) (S z))]
  congr 1
theorem repl_tr {to : TE} {y z : List Nat} (hto : ∀ σ H Q, tX κ W (RP κ) mo σ H Q → to σ H Q) {σ : L2.St} {H : Hp} {Q : VK} (h : tX κ W (RP κ) (fRepl y z mo) σ H Q) : CwR.tReplC to (S y) (S z) σ H Q := by
  obtain ⟨G, env, r, q⟩ := h
  refine hto _ _ _ (bind_post r q fun d e1 v H1 G1 _ r1 rv s1 f1 q1 => ?_)
  cases d with
  | str w =>
    cases rv
    by_cases hc : 1 ≤ y.length ∧ w.length + (w.length + 1) * z.length ≤ 1000000
    · dsimp only at q1
      rw [if_pos hc] at q1
      refine ⟨S w, rfl, by rw [S_len, S_len]; omega, ?_⟩
      rw [repl_S hc.1]
      exact q1 _ H1 G1 r1 (.str _) (Grw.refl _) Fr.refl
    · dsimp only at q1
      rw [if_neg hc] at q1
      exact q1.elim
  | _ => exact q1.elim
theorem v_repl {y z : List Nat} {k l : Nat} {c0 c1 : Pos} {sy sz : Str} (ey : sy = S y) (ez : sz = S z) (ho : PE X o (tX κ W (RP κ) mo)) (hyz : (sy == sz) = false := by decide)
    (hst : starEach [.Constant (.str sy) k c0, .Constant (.str sz) l c1] X.env = [(false, eval (.Constant (.str sy) k c0) X.env), (false, eval (.Constant (.str sz) l c1) X.env)] := by rfl)
    (hbase : attributeBase o "replace" X.env (eval o X.env) = eval o X.env := by rfl) (hline : (apos.endLine == pos.line) = true := by rfl) :
    PET X (.Call (.Attribute o "replace" apos) [.Constant (.str sy) k c0, .Constant (.str sz) l c1] [] pos) (tX κ W (RP κ) (fRepl y z mo)) := by
  subst ey ez
  exact PET.imp (CwR.pet_replC ho hyz hst hbase hline) fun σ H Q h => repl_tr (fun _ _ _ h => h) h
theorem v_replT {y z : List Nat} {k l : Nat} {c0 c1 : Pos} {sy sz : Str} (ey : sy = S y) (ez : sz = S z) (ho : PET X o (tX κ W (RP κ) mo)) (hyz : (sy == sz) = false := by decide)
    (hst : starEach [.Constant (.str sy) k c0, .Constant (.str sz) l c1] X.env = [(false, eval (.Constant (.str sy) k c0) X.env), (false, eval (.Constant (.str sz) l c1) X.env)] := by rfl)
    (hbase : attributeBase o "replace" X.env (eval o X.env) = eval o X.env := by rfl) (hline : (apos.endLine == pos.line) = true := by rfl) :
    PET X (.Call (.Attribute o "replace" apos) [.Constant (.str sy) k c0, .Constant (.str sz) l c1] [] pos) (tX κ W (RP κ) (fRepl y z mo)) := by
  subst ey ez
  exact PET.imp (CwR.pet_replT ho hyz hst hbase hline) fun σ H Q h => repl_tr (fun _ _ _ h => h) h
theorem s_setIT {x : Str} {i : Nat} {ei : Expr} (hx : PE X (.Name x pos') (tVar i)) (hi : PE X ei (tX κ W (RB κ) mj)) (he : PET X e (tX κ W (RP κ) md)) 
    (hg : PG X (.Subscript (.Name x pos') ei p2) (gSub (tVar i) (tI κ W (RB κ) mj) rSetL))
    (hs : swapsWithSole [.Subscript (.Name x pos') ei p2] e pos.line X.env = pure false := by rfl) (hw : swappedStores [.Subscript (.Name x pos') ei p2] e X.env = pure none := by rfl) :
    PST X (.Assign [.Subscript (.Name x pos') ei p2] e pos) (tS κ W (sSetI i mj md)) := PST.imp (pst_asg (te := tI κ W (RP κ) md) (PET.imp he fun _ _ _ q => q.pu) hg hs hw) fun D σ H ⟨G, env, r, q⟩ => by
  refine sbind_post r q fun d e1 v H1 G1 em r1 rv f1 q1 => ?_
  obtain ⟨t0, l0, e0, g0, q1⟩ := sOwn_of q1
  obtain ⟨a, xs, h1, h2, h3, _⟩ := lst_at r1 e0 g0
  refine ⟨_, h1, ?_⟩
  refine sbind_post r1 q1 fun j e2 u H2 G2 em2 r2 ru f2 q2 => ?_
  cases j with
  | int t =>
    obtain ⟨s, l, k2, z, hl, hk, q2⟩ := chL_of q2
    obtain ⟨b, ys, g1, g2, g3, _⟩ := lst_at r2 z hl
    rw [h1] at g1
    cases g1
    unfold opSetI at hk
    cases w2 : ixN l.length t with
    | none => rw [w2] at hk; cases hk
    | some n =>
      rw [w2] at hk
      cases hk
      obtain ⟨G3, eg, rep, fr⟩ := r2.chg z hl h1 (g3.set (rv.mono f2.gk) n)
      exact ⟨a, ys, t, n, rfl, RBq.int ru, g2, by rw [g3.length]; exact w2, q2 σ _ G3 rep fr⟩
  | _ => exact q2.elim
end
end Vs


set_option Elab.async false
set_option linter.all false
set_option maxRecDepth 100000
set_option maxHeartbeats 4000000
/-! Vm: plain lemmas about the functions that the reading gives. -/
namespace Vs
open PySem L2
theorem atI_of {α : Type} (l : List α) {i : Int} (h : 0 ≤ i) : atI l i = l[i.toNat]? := by
  unfold atI ixN
  rw [if_pos h]
  by_cases q : i < l.length
  · rw [if_pos q]
    rfl
  · rw [if_neg q]
    symm
    show l[i.toNat]? = none
    rw [List.getElem?_eq_none_iff]
    omega
theorem sIx_pos (n d : Nat) {i : Int} (h : 0 ≤ i) : HT.sIx n d (some i) = min i.toNat n := by
  show (if i < 0 then (i + (n : Int)).toNat else min i.toNat n) = min i.toNat n
  rw [if_neg (by omega)]
theorem cutL_take {α : Type} (l : List α) {i : Int} (h : 0 ≤ i) : cutL l none (some i) = l.take i.toNat := by
  unfold cutL
  rw [HT.sIx_none, sIx_pos _ _ h, List.drop_zero, Nat.sub_zero]
  by_cases q : i.toNat ≤ l.length
  · rw [Nat.min_eq_left q]
  · rw [Nat.min_eq_right (by omega), List.take_length, List.take_of_length_le (by omega)]
theorem cutL_drop {α : Type} (l : List α) {i : Int} (h : 0 ≤ i) : cutL l (some i) none = l.drop i.toNat := by
  unfold cutL
  rw [HT.sIx_none, sIx_pos _ _ h]
  by_cases q : i.toNat ≤ l.length
  · rw [Nat.min_eq_left q, List.take_of_length_le (by rw [List.length_drop]; omega)]
  · rw [Nat.min_eq_right (by omega), List.drop_length, List.drop_of_length_le (by omega)]
    simp
theorem cutL_mid {α : Type} (l : List α) {i j : Int} (h : 0 ≤ i) (h2 : 0 ≤ j) : cutL l (some i) (some j) = (l.drop i.toNat).take (j.toNat - i.toNat) := by
  unfold cutL
  rw [sIx_pos _ _ h, sIx_pos _ _ h2]
  by_cases q : i.toNat ≤ l.length
  · rw [Nat.min_eq_left q]
    by_cases q2 : j.toNat ≤ l.length
    · rw [Nat.min_eq_left q2]
    · rw [Nat.min_eq_right (show l.length ≤ j.toNat by omega), List.take_of_length_le (by rw [List.length_drop]; omega), List.take_of_length_le (by rw [List.length_drop]; omega)]
  · rw [Nat.min_eq_right (show l.length ≤ i.toNat by omega), List.drop_length, List.drop_of_length_le (by omega)]
    simp
mutual
theorem eqv_self : ∀ d : D, PyData.eqv d.toP d.toP = true
  | .non => by simp [D.toP, PyData.eqv]
  | .bl b => by simp [D.toP, PyData.eqv]
  | .int i => by simp [D.toP, PyData.eqv]
  | .str w => by simp [D.toP, PyData.eqv]
  | .lst l => by simp only [D.toP, PyData.eqv, eqvA_self l]
  | .tup l => by simp only [D.toP, PyData.eqv, eqvA_self l]
  | .ob _ _ => by simp [D.toP, PyData.eqv]
  | .scr _ => by simp [D.toP, PyData.eqv]
  | .xn _ _ => by simp [D.toP, PyData.eqv]
theorem eqvA_self : ∀ l : List D, PyData.eqvAll (toPA l) (toPA l) = true
  | [] => by simp [toPA, PyData.eqvAll]
  | d :: l => by simp only [toPA, PyData.eqvAll, eqv_self d, eqvA_self l, Bool.and_self]
end
/-- .. that raises at the first of some kind -/
theorem forL_findX {β J : Type} {tg : D → En → Option En} {body : Ss} (enc : J → En) (toD : β → D) (p : β → Bool) (res : β → Ex) : ∀ (w : List β) (j : J),
    (∀ b ∈ w, ∀ j, ∃ e1, tg (toD b) (enc j) = some e1 ∧ ((p b = true ∧ ∃ j', body e1 = some (.ex (res b) (enc j'))) ∨ (p b = false ∧ ∃ j', body e1 = some (.nx (enc j'))))) →
    (∃ b, w.find? p = some b ∧ b ∈ w ∧ ∃ j', forL tg body (w.map toD) (enc j) = some (.ex (res b) (enc j'))) ∨ (w.find? p = none ∧ ∃ j', forL tg body (w.map toD) (enc j) = some (.nx (enc j')))
  | [], j, _ => .inr ⟨rfl, j, rfl⟩
  | b :: w, j, hs => by
    obtain ⟨e1, h1, h2⟩ := hs b List.mem_cons_self j
    rcases h2 with ⟨hp, j1, h2⟩ | ⟨hp, j1, h2⟩
    · refine .inl ⟨b, by rw [List.find?_cons_of_pos hp], List.mem_cons_self, j1, ?_⟩
      rw [List.map_cons]
      dsimp only [forL]
      rw [h1]
      dsimp only
      rw [h2]
    · have step : ∀ o, forL tg body (w.map toD) (enc j1) = o → forL tg body ((b :: w).map toD) (enc j) = o := fun o q => by
        rw [List.map_cons]
        dsimp only [forL]
        rw [h1]
        dsimp only
        rw [h2]
        exact q
      rcases forL_findX enc toD p res w j1 fun b' m => hs b' (List.mem_cons_of_mem _ m) with ⟨b', q1, q2, j2, q3⟩ | ⟨q1, j2, q3⟩
      · exact .inl ⟨b', by rw [List.find?_cons_of_neg (by rw [hp]; exact Bool.false_ne_true)]; exact q1, List.mem_cons_of_mem _ q2, j2, step _ q3⟩
      · exact .inr ⟨by rw [List.find?_cons_of_neg (by rw [hp]; exact Bool.false_ne_true)]; exact q1, j2, step _ q3⟩
/-- a comprehension without a test -/
theorem lcL_fun {β J : Type} {f : D → En → Option En} {te : Sm D} {vs : List Nat} (enc : J → En) (toD : β → D) (g : β → D) : ∀ (w : List β) (acc : List D) (j : J),
    (∀ b ∈ w, ∀ j, ∃ e1, f (toD b) (enc j) = some e1 ∧ ∃ e3, te e1 = some (.ok (g b) e3) ∧ ∃ j', unE vs e3 = enc j') →
    ∃ j', lcL f tYs te vs (w.map toD) acc (enc j) = some (.ok (.ow (acc ++ w.map g)) (enc j'))
  | [], acc, j, _ => ⟨j, by simp [lcL]⟩
  | b :: w, acc, j, hs => by
    obtain ⟨e1, h1, e3, h2, j1, h3⟩ := hs b List.mem_cons_self j
    obtain ⟨j', h4⟩ := lcL_fun enc toD g w (acc ++ [g b]) j1 fun b' m => hs b' (List.mem_cons_of_mem _ m)
    refine ⟨j', ?_⟩
    rw [List.map_cons]
    dsimp only [lcL]
    rw [h1]
    dsimp only
    rw [show tYs e1 = some (.ok true e1) from rfl]
    dsimp only
    rw [h2]
    dsimp only
    rw [h3, h4, List.append_assoc]
    rfl
/-! step by step -/
def fin : Option SO → Option FO
  | some (.nx _) => some (.rt (.sh .non))
  | some (.rt r) => some (.rt r)
  | some (.ex x _) => some (.ex x)
  | _ => none
theorem run_fin {ms : List Bool} {k : Nat} {body : Ss} {ds : List D} {r : Option FO} (h : fin (body (inis ms ds ++ List.replicate k .un)) = r) : runDef ms k body ds = r := by
  unfold runDef
  rw [← h]
  unfold fin
  cases body (inis ms ds ++ List.replicate k .un) with
  | none => rfl
  | some o => cases o <;> rfl
theorem fin_seq {m n : Ss} {e e1 : En} {r : Option FO} (h : m e = some (.nx e1)) (k : fin (n e1) = r) : fin (sSeq m n e) = r := by
  unfold sSeq
  rw [h]
  exact k
theorem seq_nx {m n : Ss} {e e1 : En} {r : Option SO} (h : m e = some (.nx e1)) (k : n e1 = r) : sSeq m n e = r := by
  unfold sSeq
  rw [h]
  exact k
/-- a loop that only goes on -/
theorem forL_each {β J : Type} {tg : D → En → Option En} {body : Ss} (enc : J → En) (toD : β → D) : ∀ (w : List β) (j : J), (∀ b ∈ w, ∀ j, ∃ e1, tg (toD b) (enc j) = some e1 ∧ ∃ j', body e1 = some (.nx (enc j')) ∨ body e1 = some (.ct (enc j'))) → ∃ j', forL tg body (w.map toD) (enc j) = some (.nx (enc j'))
  | [], j, _ => ⟨j, rfl⟩
  | b :: w, j, h => by
    obtain ⟨e1, h1, j1, h2⟩ := h b List.mem_cons_self j
    obtain ⟨j', h3⟩ := forL_each enc toD w j1 fun c m => h c (List.mem_cons_of_mem _ m)
    refine ⟨j', ?_⟩
    rw [List.map_cons]
    dsimp only [forL]
    rw [h1]
    dsimp only
    rcases h2 with h2 | h2
    · rw [h2]
      exact h3
    · rw [h2]
      exact h3
end Vs


set_option Elab.async false
set_option linter.all false
set_option maxRecDepth 100000
set_option maxHeartbeats 4000000
namespace Lw
open PySem L2 Vs
noncomputable section
def c_FIGURES : List Nat := [48, 49, 50, 51, 52, 53, 54, 55, 56, 57]
abbrev fuel : Nat := 10000000000000000000000000000000000000000
abbrev x_LetterError : Nat := 0
abbrev x_NoWord : Nat := 1
abbrev x_NoPact : Nat := 2
abbrev x_NoStep : Nat := 3
abbrev x_NoUse : Nat := 4
abbrev x_NoRow : Nat := 5
def xs : Nat → Nat → Option Bool
  | 0, 3 => some false
  | 1, 3 => some false
  | 2, 3 => some false
  | 3, 3 => some true
  | 4, 3 => some false
  | 5, 3 => some false
  | _, _ => none
def ks : Nat → Nat → Option Bool
  | 0, 5 => some false
  | 0, 4 => some false
  | 0, 1 => some false
  | 0, 2 => some false
  | 0, 1000 => some true
  | 0, 0 => some true
  | 1, 5 => some false
  | 1, 4 => some false
  | 1, 1 => some true
  | 1, 2 => some false
  | 1, 1000 => some true
  | 1, 0 => some true
  | 2, 5 => some false
  | 2, 4 => some false
  | 2, 1 => some false
  | 2, 2 => some true
  | 2, 1000 => some true
  | 2, 0 => some true
  | 3, 5 => some false
  | 3, 4 => some false
  | 3, 1 => some false
  | 3, 2 => some false
  | 3, 1000 => some true
  | 3, 0 => some true
  | 4, 5 => some false
  | 4, 4 => some true
  | 4, 1 => some false
  | 4, 2 => some false
  | 4, 1000 => some true
  | 4, 0 => some true
  | 5, 5 => some true
  | 5, 4 => some false
  | 5, 1 => some false
  | 5, 2 => some false
  | 5, 1000 => some true
  | 5, 0 => some true
  | _, _ => none
def xf : Nat → Option Str
  | 1 => some "place"
  | 4 => some "at"
  | _ => none
def b_law_written : Ss := sSeq (sAsg 1 (fOp opMod (frz (fOp opMul (frz (fOp opAdd (frz (fOp opMod (eB 0) (eC (.int 2147483646)))) (eC (.int 1)))) (eC (.int 48271)))) (eC (.int 2147483647)))) (sSeq (sAsg 2 (fOp opMod (frz (fOp opMul (eB 1) (eC (.int 69621)))) (eC (.int 2147483647)))) (sSeq (sAsg 3 (shm (fOp opIx (frz (fLst (aCons (eC (.int 10)) (aCons (eC (.int 100)) (aCons (eC (.int 1000)) (aCons (eC (.int 10000)) (aNil))))))) (frz (fOp opMod (frz (fOp opDiv (eB 1) (eC (.int 3)))) (eC (.int 4))))))) (sRet (fOp opAdd (frz (fOp opAdd (frz (fCl opStr (aCons (frz (fOp opMod (frz (fOp opDiv (eB 1) (eC (.int 16)))) (eB 3))) (aNil)))) (fOp opIx (frz (fLst (aCons (eC (.str [60])) (aCons (eC (.str [62])) (aNil))))) (frz (fOp opMod (eB 2) (eC (.int 2))))))) (frz (fCl opStr (aCons (frz (fOp opMod (frz (fOp opDiv (eB 2) (eC (.int 16)))) (eB 3))) (aNil))))))))
def g_law_written : FSem := runDef [true] 3 b_law_written
def i1_law_cell_at : Ss := sIf (fOp cLtA (eB 1) (frz (fCl opLen (aCons (eB 0) (aNil))))) (sRet (shm (fOp opIx (eB 0) (eB 1)))) (sNil)
def b_law_cell_at : Ss := sSeq (i1_law_cell_at) (sRet (shm (eC (.int 0))))
def g_law_cell_at : FSem := runDef [true, true] 0 b_law_cell_at
def b_law_odd_text : Ss := sSeq (sAsg 1 (fLst (aCons (eC (.str [])) (aCons (eC (.str [32])) (aCons (eC (.str [46, 32])) (aCons (eC (.str [32, 46])) (aCons (eC (.str [46, 46])) (aCons (eC (.str [62])) (aCons (eC (.str [60])) (aCons (eC (.str [49, 62])) (aCons (eC (.str [62, 49])) (aCons (eC (.str [49, 32, 62, 32, 50])) (aCons (eC (.str [48, 48, 62, 49])) (aCons (eC (.str [49, 62, 48, 48])) (aCons (eC (.str [49, 48, 48, 48, 48, 62, 49])) (aCons (eC (.str [49, 62, 49, 48, 48, 48, 48])) (aNil))))))))))))))))) (sSeq (sAsg 1 (fOp opAdd (eB 1) (frz (fLst (aCons (eC (.str [45, 49, 62, 48])) (aCons (eC (.str [49, 62, 45, 48])) (aCons (eC (.str [43, 49, 62, 48])) (aCons (eC (.str [49, 95, 48, 62, 49])) (aCons (eC (.str [49, 62, 48, 32])) (aCons (eC (.str [32, 49, 62, 48])) (aCons (eC (.str [49, 62, 48, 32, 32, 50, 60, 49])) (aCons (eC (.str [49, 62, 48, 44, 32, 50, 60, 49])) (aNil))))))))))))) (sRet (shm (fOp opIx (eB 1) (frz (fOp opMod (eB 0) (eC (.int 22))))))))
def g_law_odd_text : FSem := runDef [true] 1 b_law_odd_text
def i1_law_text : Ss := sIf (fOp cEq (eB 2) (eC (.int 10))) (sSetI 1 (eB 6) (frz (fOp opAdd (eC (.str [48])) (fOp opIx (eB 1) (eB 6))))) (sSetI 1 (eB 6) (fRepl [62] [62, 48] (fRepl [60] [60, 48] (fOp opIx (eB 1) (eB 6)))))
def i2_law_text : Ss := sIf (fAnd (fOp cGt (eB 2) (eC (.int 9))) (fOp cGt (frz (fCl opLen (aCons (eB 1) (aNil)))) (eC (.int 0)))) (sSeq (sAsg 6 (fOp opMod (frz (fCall g_law_cell_at (aCons (eB 0) (aCons (eC (.int 1)) (aNil))))) (frz (fCl opLen (aCons (eB 1) (aNil)))))) (i1_law_text)) (sNil)
def i3_law_text : Ss := sIf (fOp cEq (eB 3) (eC (.str []))) (sAsg 3 (shm (eC (.str [46])))) (sNil)
def i4_law_text : Ss := sIf (fOr (fOp cEq (eB 2) (eC (.int 5))) (fOp cEq (eB 2) (eC (.int 6)))) (sRet (fOp opAdd (frz (fOp opAdd (frz (fSl (eB 3) (poN) (poS (eB 4)))) (eB 5))) (frz (fSl (eB 3) (poS (eB 4)) (poN))))) (sNil)
def i5_law_text : Ss := sIf (fOp cEq (eB 2) (eC (.int 7))) (sRet (fOp opAdd (frz (fSl (eB 3) (poN) (poS (eB 4)))) (frz (fSl (eB 3) (poS (frz (fOp opAdd (eB 4) (eC (.int 1))))) (poN))))) (sNil)
def i6_law_text : Ss := sIf (fOp cEq (eB 2) (eC (.int 8))) (sRet (fOp opAdd (frz (fOp opAdd (frz (fSl (eB 3) (poN) (poS (eB 4)))) (eB 5))) (frz (fSl (eB 3) (poS (frz (fOp opAdd (eB 4) (eC (.int 1))))) (poN))))) (sNil)
def i7_law_text : Ss := sIf (fOp cEq (eB 2) (eC (.int 9))) (sRet (fCall g_law_odd_text (aCons (frz (fCall g_law_cell_at (aCons (eB 0) (aCons (eC (.int 3)) (aNil))))) (aNil)))) (sNil)
def b_law_text : Ss := sSeq (sAsg 1 (fLc (fItA (frz (fSl (eB 0) (poS (eC (.int 5))) (poS (eC (.int 68)))))) (tgN 7) (tYs) (frz (fCall g_law_written (aCons (eB 7) (aNil)))) [7])) (sSeq (sAsg 2 (fOp opMod (frz (fCall g_law_cell_at (aCons (eB 0) (aCons (eC (.int 0)) (aNil))))) (eC (.int 12)))) (sSeq (i2_law_text) (sSeq (sAsg 3 (fM1 opJoin (eC (.str [32])) (eB 1))) (sSeq (i3_law_text) (sSeq (sAsg 4 (fOp opMod (frz (fCall g_law_cell_at (aCons (eB 0) (aCons (eC (.int 1)) (aNil))))) (frz (fCl opLen (aCons (eB 3) (aNil)))))) (sSeq (sAsg 5 (shm (fOp opIx (eC (.str [48, 49, 50, 51, 52, 53, 54, 55, 56, 57, 60, 62, 32, 46, 45, 61, 97])) (frz (fOp opMod (frz (fCall g_law_cell_at (aCons (eB 0) (aCons (eC (.int 2)) (aNil))))) (eC (.int 17))))))) (sSeq (i4_law_text) (sSeq (i5_law_text) (sSeq (i6_law_text) (sSeq (i7_law_text) (sRetV 3)))))))))))
def g_law_text : FSem := runDef [true] 7 b_law_text
def i1_law_number : Ss := sIf (fOr (fOp cLtA (frz (fCl opLen (aCons (eB 0) (aNil)))) (eC (.int 1))) (fOr (fOp cGt (frz (fCl opLen (aCons (eB 0) (aNil)))) (eC (.int 4))) (fAnd (fOp cGt (frz (fCl opLen (aCons (eB 0) (aNil)))) (eC (.int 1))) (fOp cEq (fOp opIx (eB 0) (eC (.int 0))) (eC (.str [48])))))) (sRet (shm (fNeg (eC (.int 1))))) (sNil)
def i2_law_number : Ss := sIf (fOp cLtA (eB 3) (eC (.int 0))) (sRet (shm (fNeg (eC (.int 1))))) (sNil)
def l1_law_number : Ss := sSeq (sAsg 3 (fM1 opFind (eC (.str [48, 49, 50, 51, 52, 53, 54, 55, 56, 57])) (eB 2))) (sSeq (i2_law_number) (sAsg 1 (fOp opAdd (frz (fOp opMul (eC (.int 10)) (eB 1))) (eB 3))))
def b_law_number : Ss := sSeq (i1_law_number) (sSeq (sAsg 1 (shm (eC (.int 0)))) (sSeq (sLock 0 (sFor (eItA 0) (tgN 2) l1_law_number)) (sRetV 1)))
def g_law_number : FSem := runDef [true] 3 b_law_number
def i1_law_step : Ss := sIf (fOr (fOp cLtA (eB 2) (eC (.int 0))) (fOp cLtA (eB 3) (eC (.int 0)))) (sRet (shm (eC .non))) (sNil)
def i2_law_step : Ss := sIf (fOr (fOp cEq (fOp opIx (eB 0) (eB 1)) (eC (.str [60]))) (fOp cEq (fOp opIx (eB 0) (eB 1)) (eC (.str [62])))) (sSeq (sAsg 2 (fCall g_law_number (aCons (frz (fSl (eB 0) (poN) (poS (eB 1)))) (aNil)))) (sSeq (sAsg 3 (fCall g_law_number (aCons (frz (fSl (eB 0) (poS (frz (fOp opAdd (eB 1) (eC (.int 1))))) (poN))) (aNil)))) (sSeq (i1_law_step) (sRet (shm (fTup (aCons (eV 2) (aCons (eV 3) (aCons (fOp (vB cEq) (fOp opIx (eB 0) (eB 1)) (eC (.str [62]))) (aNil)))))))))) (sNil)
def l1_law_step : Ss := i2_law_step
def b_law_step : Ss := sSeq (sFor (fRg1 (aCons (frz (fCl opLen (aCons (eB 0) (aNil)))) (aNil))) (tgN 1) l1_law_step) (sRet (shm (eC .non)))
def g_law_step : FSem := runDef [true] 3 b_law_step
def i1_law_due : Ss := sIf (fOp cEq (eB 0) (eC (.str [46]))) (sRetV 1) (sNil)
def i2_law_due : Ss := sIf (fOp cIsN (eB 4) (eC .non)) (sRet (shm (eC .non))) (sNil)
def i3_law_due : Ss := sIf (fOp cNe (eB 3) (eC (.str [32]))) (sAsg 2 (fOp opAdd (eB 2) (eB 3))) (sSeq (sAsg 4 (fCall g_law_step (aCons (eB 2) (aNil)))) (sSeq (i2_law_due) (sSeq (sApp 1 (eV 4)) (sAsg 2 (shm (eC (.str [])))))))
def l1_law_due : Ss := i3_law_due
def b_law_due : Ss := sSeq (sAsg 1 (fLst (aNil))) (sSeq (i1_law_due) (sSeq (sAsg 2 (shm (eC (.str [])))) (sSeq (sFor (fItA (frz (fOp opAdd (eB 0) (eC (.str [32]))))) (tgN 3) l1_law_due) (sRetV 1))))
def g_law_due : FSem := runDef [true] 4 b_law_due
def i1_number_of : Ss := sIf (fOr (fOp cLtA (frz (fCl opLen (aCons (eB 0) (aNil)))) (eC (.int 1))) (fOp cGt (frz (fCl opLen (aCons (eB 0) (aNil)))) (eC (.int 4)))) (fRaise0 x_NoStep) (sNil)
def i2_number_of : Ss := sIf (fOp cNinA (eB 1) (eC (.str c_FIGURES))) (fRaise0 x_NoStep) (sNil)
def l1_number_of : Ss := i2_number_of
def i3_number_of : Ss := sIf (fAnd (fOp cGt (frz (fCl opLen (aCons (eB 0) (aNil)))) (eC (.int 1))) (fOp cEq (fOp opIx (eB 0) (eC (.int 0))) (eC (.str [48])))) (fRaise0 x_NoStep) (sNil)
def b_number_of : Ss := sSeq (i1_number_of) (sSeq (sLock 0 (sFor (eItA 0) (tgN 1) l1_number_of)) (sSeq (i3_number_of) (sRet (fCl opInt (aCons (eB 0) (aNil))))))
def g_number_of : FSem := runDef [true] 1 b_number_of
def i1_read_step : Ss := sIf (fOp cNe (fOp opIx (eB 2) (eC (.int 1))) (eC (.str []))) (sRet (shm (fTup (aCons (frz (fCall g_number_of (aCons (fOp opIx (eB 2) (eC (.int 0))) (aNil)))) (aCons (frz (fCall g_number_of (aCons (fOp opIx (eB 2) (eC (.int 2))) (aNil)))) (aCons (fOp (vB cEq) (eB 1) (eC (.str [62]))) (aNil))))))) (sNil)
def l1_read_step : Ss := sSeq (sAsg 2 (fM1 opPart (eB 0) (eB 1))) (i1_read_step)
def b_read_step : Ss := sSeq (sFor (fItA (frz (fLst (aCons (eC (.str [62])) (aCons (eC (.str [60])) (aNil)))))) (tgN 1) l1_read_step) (fRaise0 x_NoStep)
def g_read_step : FSem := runDef [true] 2 b_read_step
def i1_read_steps : Ss := sIf (fOp cEq (eB 0) (eC (.str [46]))) (sRet (fLst (aNil))) (sNil)
def b_read_steps : Ss := sSeq (i1_read_steps) (sRet (fLcX (fItA (frz (fM1 opSplit (eB 0) (eC (.str [32]))))) (tgN 1) (tYs) (frz (fCall g_read_step (aCons (eB 1) (aNil)))) [1]))
def g_read_steps : FSem := runDef [true] 1 b_read_steps
def b_law_another : Xo → Ss := fun o => sSeq (sIf (fOr (fTru (fXi (fun c => ks c 2) o 0)) (fOr (fTru (fXi (fun c => ks c 1) o 0)) (fOr (fTru (fXi (fun c => ks c 4) o 0)) (fTru (fXi (fun c => ks c 5) o 0))))) (sRet (shm (eC (.bl true)))) (sNil)) (sRet (shm (fOrV (fNotV (fXi (fun c => ks c 0) o 0)) (fNotV (fXi (fun c => ks c 1000) o 0)))))
def g_law_another : Xo → FSem := fun o => runDef [false] 0 (b_law_another o)
def y1_law_asked : Ss := sAsg 1 (fCall g_read_steps (aCons (eB 0) (aNil)))
def z1_law_asked : Xo → Ss := fun o => sAsg 2 (shm (fNotV (frz (fCall (g_law_another o) (aCons (eV 3) (aNil))))))
def b_law_asked : Ss := sSeq (sAsg 1 (shm (eC .non))) (sSeq (sAsg 2 (shm (eC (.bl false)))) (sSeq (sTryAs xs 3 3 y1_law_asked z1_law_asked) (sRet (fSq true (aConsF (eO 1) (aConsF (eO 2) (aNilF)))))))
def g_law_asked : FSem := runDef [true] 3 b_law_asked
def b_law_whole : Ss := sRet (shm (fAndV (fIsi (eB 0) .int) (fNotV (fIsi (eB 0) .bool))))
def g_law_whole : FSem := runDef [true] 0 b_law_whole
def i1_law_alike : Ss := sIf (fOr (fNot (fTru (fIsi (eB 0) .list))) (fOp cNe (frz (fCl opLen (aCons (eB 0) (aNil)))) (frz (fCl opLen (aCons (eB 1) (aNil)))))) (sRet (shm (eC (.bl false)))) (sNil)
def i2_law_alike : Ss := sIf (fOr (fNot (fTru (fIsi (eB 3) .tuple))) (fOr (fOp cNe (frz (fCl opLen (aCons (eB 3) (aNil)))) (eC (.int 3))) (fNot (fTru (fIsi (fOp opIx (eB 3) (eC (.int 2))) .bool))))) (sRet (shm (eC (.bl false)))) (sNil)
def i3_law_alike : Ss := sIf (fOr (fNot (fTru (frz (fCall g_law_whole (aCons (fOp opIx (eB 3) (eC (.int 0))) (aNil)))))) (fOr (fNot (fTru (frz (fCall g_law_whole (aCons (fOp opIx (eB 3) (eC (.int 1))) (aNil)))))) (fOp cNe (eB 3) (fOp opIx (eB 1) (eB 2))))) (sRet (shm (eC (.bl false)))) (sNil)
def l1_law_alike : Ss := sSeq (sAsg 3 (shm (fOp opIx (eB 0) (eB 2)))) (sSeq (i2_law_alike) (i3_law_alike))
def b_law_alike : Ss := sSeq (i1_law_alike) (sSeq (sFor (fRg1 (aCons (frz (fCl opLen (aCons (eB 1) (aNil)))) (aNil))) (tgN 2) l1_law_alike) (sRet (shm (eC (.bl true)))))
def g_law_alike : FSem := runDef [true, true] 2 b_law_alike
def b_shown_step : Ss := sSeq (sAsg 1 (shm (fIf (fTru (fOp opIx (eB 0) (eC (.int 2)))) (eC (.str [62])) (eC (.str [60]))))) (sRet (fOp opAdd (frz (fOp opAdd (frz (fCl opStr (aCons (fOp opIx (eB 0) (eC (.int 0))) (aNil)))) (eB 1))) (frz (fCl opStr (aCons (fOp opIx (eB 0) (eC (.int 1))) (aNil))))))
def g_shown_step : FSem := runDef [true] 1 b_shown_step
def i1_shown_steps : Ss := sIf (fOp cEq (frz (fCl opLen (aCons (eB 0) (aNil)))) (eC (.int 0))) (sRet (shm (eC (.str [46])))) (sNil)
def b_shown_steps : Ss := sSeq (i1_shown_steps) (sRet (fM1 opJoin (eC (.str [32])) (frz (xLock 0 (fLc (eItA 0) (tgN 1) (tYs) (frz (fCall g_shown_step (aCons (eB 1) (aNil)))) [1])))))
def g_shown_steps : FSem := runDef [true] 1 b_shown_steps
def i1_law : Ss := sIf (fOr (fOp cNotN (eB 4) (eC .non)) (fNot (fTru (eB 5)))) (sRet (shm (eC (.bl false)))) (sNil)
def i2_law : Ss := sIf (fOr (fTru (eB 5)) (fOr (fNot (fTru (frz (fCall g_law_alike (aCons (eB 4) (aCons (eB 2) (aNil))))))) (fOp cNe (frz (fCall g_shown_steps (aCons (eB 4) (aNil)))) (eB 1)))) (sRet (shm (eC (.bl false)))) (sNil)
def i3_law : Ss := sIf (fOp cIsN (eB 2) (eC .non)) (i1_law) (sSeq (i2_law) (sApp 4 (fTup (aCons (eC (.int 7)) (aCons (eC (.int 7)) (aCons (eC (.bl true)) (aNil)))))))
def l1_law : Ss := sSeq (sTgF [4, 5] (fCall g_law_asked (aCons (eB 1) (aNil)))) (i3_law)
def b_law : Ss := sSeq (sAsg 1 (fCall g_law_text (aCons (eB 0) (aNil)))) (sSeq (sAsg 2 (fCall g_law_due (aCons (eB 1) (aNil)))) (sSeq (sFor (fRg1 (aCons (eC (.int 2)) (aNil))) (tgN 3) l1_law) (sRet (shm (eC (.bl true))))))
def g_law : FSem := runDef [true] 5 b_law
end
end Lw


set_option Elab.async false
set_option linter.all false
set_option maxRecDepth 100000
set_option maxHeartbeats 4000000
namespace Lw
open PySem L2 Vs
/-! pacts as data -/
def pD (p : List Nat × List Nat) : D := .tup [.str p.1, .str p.2]
def pctD (ps : List (List Nat × List Nat)) : List D := ps.map pD

/-! the cells of the script -/
def cell (ns : List Int) (k : Nat) : Int := ns.getD k 0
theorem e_cell (ns : List Int) (k : Nat) : g_law_cell_at [.scr ns, .int (k : Int)] = some (.rt (.sh (.int (cell ns k)))) := by
  unfold g_law_cell_at b_law_cell_at
  simp only [fLcX, fRepl, fMaxD, fEnS, sStuck, fLenS, cGtA, sAppQ, sSetQ, sForT, forTL, opSortT, fDItems, fDKeys, fLcO, D.key, fDNew, fDGet, sDPutV, fDSet, fRg3, fChV, fSortL, frL, frS, fSortB, sRem, sqAt, eIxI, fItm, fItV, chS, sItC, sItA, sItI, sItS, fTmp, Sl.mut, Sl.th, O.d, sqD, D.atm, sTryR, fSq, aConsF, aNilF, eO, sTgF, setFd, Fd.sl, opJoinRev, fLRev, runDef, runDefI, ioAt, insA, chL, getO, setO, getL, setL, obAt, eFd, eFV, eFB, fFld, fMeth, fMethI, fMake, fCallI, aHere, fIsO, sFldS, setF, Rs.fd, Fd.d, O.d, fMethD, chF, sAppF, fPopF, fPop0, fPop1, sIns, sRetI, sRetNI, fZip, fML, opAny, opAll, opSorted, opMaxL, opMinL, opRfind, opCount, List.map_cons, List.map_nil, cInA, cNinA, inD, itD, fItA, eItA, cLtA, cLeA, fRr1, fRr2, opInt, sPar, fCallD, fRaise0, fRaise1, sTryAs, sTry, aftr, noX, allEq_const, fXf, fXi, fLc, lcL, unE, tYs, Vs.ret, xLock, inis, bof, sNil, sSeq, sAsg, sRet, sRetV, sRetN, sIf, sDrop, sTg, sFor, sBrk, sCnt, sApp, sExt, sOwn, sSetI, opSetI, sLock, unlk, sbnd, bnd, fOp, fCh, fCl, fCall, fLst, fTup, fSl, fIf, fAnd, fOr, fNot, fTru, fAndV, fOrV, fNotV, fNeg, fIsi, fM1, fM2, fRg1, fRg2, fEn, fRev, fSg, fTp, fIt, eIt, eB, eV, eC, frz, shm, aCons, aNil, poN, poS, Rs.d, Rs.sl, vB, List.cons_append, List.nil_append, List.append_nil, List.replicate_zero, List.replicate_succ, List.getElem?_cons_zero, List.getElem?_cons_succ, List.set_cons_zero, List.set_cons_succ, List.length_cons, List.length_nil, opLen, lenD, opList, opAdd, opSub, opMul, opMod, opDiv, opPow, opMin, opMax, opIx, opSl, cmpB, cEq, cNe, cIsN, cNotN, truD, tgN, tgT, setAll, isKd, opFind, opFind3, opStarts, opStarts3, Nat.reduceLT, Nat.reduceAdd, Nat.reduceSub, Nat.reduceLeDiff, Int.reduceLT, Int.reduceLE, Int.reduceNeg, reduceIte, and_self, true_and, and_true, decide_true, decide_false, Int.toNat_natCast, i1_law_cell_at]
  by_cases h : k < ns.length
  · have h2 : (k : Int) < (ns.length : Int) := by omega
    simp only [decide_eq_true h2, atI_of ns (Int.natCast_nonneg k), Int.toNat_natCast, List.getElem?_eq_getElem h, cell, List.getD_eq_getElem?_getD, Option.getD_some]
  · have h2 : ¬ (k : Int) < (ns.length : Int) := by omega
    simp only [decide_eq_false h2, cell, List.getD_eq_getElem?_getD, List.getElem?_eq_none (show ns.length ≤ k by omega), Option.getD_none]
/-! steps: uses of pacts, plainly -/
abbrev Pct := List (List Nat × List Nat)
structure Stp where
  n : Nat
  at_ : Nat
  fo : Bool
def oldS (ps : Pct) (s : Stp) : List Nat := if s.fo then (ps.getD s.n ([], [])).1 else (ps.getD s.n ([], [])).2
def newS (ps : Pct) (s : Stp) : List Nat := if s.fo then (ps.getD s.n ([], [])).2 else (ps.getD s.n ([], [])).1
def usedW (ps : Pct) (w : List Nat) (s : Stp) : List Nat := w.take s.at_ ++ newS ps s ++ w.drop (s.at_ + (oldS ps s).length)
/-- the step fits the word -/
structure Fit (ps : Pct) (w : List Nat) (s : Stp) : Prop where
  n : s.n < ps.length
  room : s.at_ + (oldS ps s).length ≤ w.length
  there : (w.drop s.at_).take (oldS ps s).length = oldS ps s
/-- a chain of steps that fit -/
def Vld (ps : Pct) : List Nat → List Stp → Prop
  | _, [] => True
  | w, s :: ss => Fit ps w s ∧ Vld ps (usedW ps w s) ss
def endW (ps : Pct) (w : List Nat) (ss : List Stp) : List Nat := ss.foldl (usedW ps) w
def mvS (k : Nat) (s : Stp) : Stp := ⟨s.n, s.at_ + k, s.fo⟩
def flS (s : Stp) : Stp := ⟨s.n, s.at_, !s.fo⟩
def backL (ss : List Stp) : List Stp := (ss.map flS).reverse
/-- the steps of a use of an entry: forth, or back -/
def subS (es : List (List Stp)) (u : Stp) : List Stp := ((if u.fo then es.getD u.n [] else backL (es.getD u.n [])).map (mvS u.at_))
/-! steps: as data -/
def stD (s : Stp) : D := .tup [.int (s.n : Int), .int (s.at_ : Int), .bl s.fo]
def stL (ss : List Stp) : List D := ss.map stD
theorem stL_len (ss : List Stp) : (stL ss).length = ss.length := List.length_map ..
def SzP (ps : Pct) : Prop := ps.length ≤ 1000 ∧ ∀ p ∈ ps, p.1.length ≤ 1000 ∧ p.2.length ≤ 1000
/-! where a part stands -/
def stB (w p : List Nat) (i : Nat) : Bool := decide (i + p.length ≤ w.length) && ((w.drop i).take p.length == p)
theorem at_stB (w p : List Nat) (i : Nat) : PySem.StrLaws.At (S w) (S p) (S w).length i ↔ stB w p i = true := by
  unfold PySem.StrLaws.At stB
  rw [PySem.StrLaws.subAt_eq, S_len, S_len, S_cps, S_cps]
  simp
/-- the places from lo on, rising -/
def plc (w p : List Nat) (lo : Nat) : List Nat := (List.range' lo (w.length + 1 - lo)).filter (stB w p)
theorem plc_hit {w p : List Nat} {lo k : Nat} (h0 : lo ≤ k) (hk : k ≤ w.length) (h1 : stB w p k = true) (h2 : ∀ j, lo ≤ j → j < k → stB w p j = false) : plc w p lo = k :: plc w p (k + 1) := by
  unfold plc
  have e : List.range' lo (w.length + 1 - lo) = List.range' lo (k - lo) ++ k :: List.range' (k + 1) (w.length + 1 - (k + 1)) := by
    have : w.length + 1 - lo = (k - lo) + (1 + (w.length + 1 - (k + 1))) := by omega
    rw [this, ← List.range'_append_1, ← List.range'_append_1]
    rw [show lo + (k - lo) = k by omega]
    rfl
  rw [e, List.filter_append, List.filter_cons_of_pos h1]
  have : (List.range' lo (k - lo)).filter (stB w p) = [] := by
    rw [List.filter_eq_nil_iff]
    intro j hj
    rw [List.mem_range'_1] at hj
    rw [h2 j hj.1 (by omega)]
    exact Bool.false_ne_true
  rw [this, List.nil_append]
theorem plc_none {w p : List Nat} {lo : Nat} (h2 : ∀ j, lo ≤ j → stB w p j = false) : plc w p lo = [] := by
  unfold plc
  rw [List.filter_eq_nil_iff]
  intro j hj
  rw [List.mem_range'_1] at hj
  rw [h2 j hj.1]
  exact Bool.false_ne_true
theorem stB_le {w p : List Nat} {i : Nat} (h : stB w p i = true) : i ≤ w.length := by
  unfold stB at h
  rw [Bool.and_eq_true] at h
  have := of_decide_eq_true h.1
  omega
/-- the next place from lo on -/
theorem find_from (w p : List Nat) (lo : Nat) : (Txt.find3 (S w) (S p) (lo : Int) = -1 ∧ plc w p lo = []) ∨ ∃ k : Nat, Txt.find3 (S w) (S p) (lo : Int) = (k : Int) ∧ lo ≤ k ∧ k ≤ w.length ∧ plc w p lo = k :: plc w p (k + 1) := by
  unfold Txt.find3
  have e : PySem.fromIndex (S w).length (lo : Int) = lo := by
    unfold PySem.fromIndex
    rw [if_neg (by omega)]
    omega
  rw [e]
  rcases PySem.StrLaws.occ_head_from (S w) (S p) lo 1 (Nat.le_refl 1) with ⟨h0, hn⟩ | ⟨k, r, h0, hlo, hk, hn⟩
  · rw [h0]
    refine .inl ⟨rfl, plc_none fun j hj => ?_⟩
    have := hn j hj
    rw [at_stB] at this
    simpa using this
  · rw [h0]
    rw [at_stB] at hk
    refine .inr ⟨k, rfl, hlo, stB_le hk, plc_hit hlo (stB_le hk) hk fun j h1 h2 => ?_⟩
    have := hn j h1 h2
    rw [at_stB] at this
    simpa using this
theorem find_first (w p : List Nat) : Txt.find (S w) (S p) = Txt.find3 (S w) (S p) 0 := by
  unfold Txt.find Txt.find3
  have e : PySem.fromIndex (S w).length 0 = 0 := by
    unfold PySem.fromIndex
    rw [if_neg (by omega)]
    omega
  rw [e]
  cases Builtin.Str.occurrences (S w) (S p) 0 (S w).length 1 <;> rfl

/-! lists of small numbers, tables -/
def nD (l : List Nat) : List D := l.map fun (n : Nat) => D.int (n : Int)
def tabD (T : List (List Nat)) : List D := T.map fun r => D.lst (nD r)
/-- a table of n rows, m numbers below n each -/
structure Tb (T : List (List Nat)) (n m : Nat) : Prop where
  len : T.length = n
  row : ∀ r ∈ T, r.length = m ∧ ∀ x ∈ r, x < n
theorem find_idx {L : List Nat} {c : Nat} (hc : c ∈ L) : Txt.find (S L) (S [c]) = ((L.idxOf c : Nat) : Int) := by
  have hi : L.idxOf c < L.length := List.idxOf_lt_length_of_mem hc
  have at_ : ∀ j, stB L [c] j = true ↔ j < L.length ∧ L[j]? = some c := fun j => by
    unfold stB
    rw [Bool.and_eq_true, decide_eq_true_iff, List.length_singleton, beq_iff_eq]
    constructor
    · rintro ⟨h1, h2⟩
      have h3 : j < L.length := by omega
      rw [List.drop_eq_getElem_cons h3] at h2
      simp only [List.take_succ_cons, List.take_zero, List.cons.injEq, and_true] at h2
      exact ⟨h3, by rw [List.getElem?_eq_getElem h3, h2]⟩
    · rintro ⟨h1, h2⟩
      rw [List.getElem?_eq_getElem h1] at h2
      refine ⟨by omega, ?_⟩
      rw [List.drop_eq_getElem_cons h1, Option.some.inj h2]
      rfl
  have pl : plc L [c] 0 = L.idxOf c :: plc L [c] (L.idxOf c + 1) := by
    refine plc_hit (Nat.zero_le _) (Nat.le_of_lt hi) ((at_ _).mpr ⟨hi, ?_⟩) fun j _ hj => ?_
    · rw [List.getElem?_eq_getElem hi, List.getElem_idxOf]
    · rw [Bool.eq_false_iff]
      intro h
      obtain ⟨h1, h2⟩ := (at_ j).mp h
      rw [List.getElem?_eq_getElem h1] at h2
      have := List.not_of_lt_findIdx (xs := L) (p := (· == c)) hj
      rw [Option.some.inj h2] at this
      simp at this
  rw [find_first]
  rcases find_from L [c] 0 with ⟨_, h2⟩ | ⟨k, h1, _, _, h4⟩
  · have h2' : plc L [c] 0 = [] := h2
    rw [h2'] at pl; cases pl
  · have h4' : plc L [c] 0 = k :: plc L [c] (k + 1) := h4
    rw [pl] at h4'
    have := (List.cons.injEq ..  ▸ h4').1
    rw [show ((0 : Nat) : Int) = 0 from rfl] at h1
    rw [h1, ← this]
/-- one letter leads on -/
def stp (T : List (List Nat)) (L : List Nat) (r c : Nat) : Nat := (T.getD r []).getD (L.idxOf c) 0
def led (T : List (List Nat)) (L : List Nat) (r : Nat) (w : List Nat) : Nat := w.foldl (stp T L) r
/-! ''.join of texts -/
theorem join_eqS (y : Str) (parts : List Str) : Txt.join y parts = Str.join y parts := StrLaws.glued_eq_join y parts
theorem allStrs_map : ∀ ws : List (List Nat), allStrs (ws.map D.str) = some ws
  | [] => rfl
  | w :: ws => by
    show (match allStrs (ws.map D.str) with | some r => some (w :: r) | none => none) = _
    rw [allStrs_map ws]
/-! k08: steps written and read -/
theorem part_one (a b : List Nat) (c : Nat) (h : c ∉ a) : Txt.partition (S (a ++ [c] ++ b)) (S [c]) = (S a, S [c], S b) := by
  have sub : ∀ (w : List Nat) (i j : Nat), Builtin.Str.strSub (S w) i j = S ((w.drop i).take (j - i)) := fun w i j => by
    have e := PySem.StrLaws.strSub_toList (S w) i j
    rw [S_cps] at e
    rw [← e]
    show _ = S (Builtin.Str.strSub (S w) i j).cps.toList
    simp [S]
  have at0 : stB (a ++ [c] ++ b) [c] a.length = true := by
    unfold stB
    rw [List.append_assoc, List.drop_left]
    simp
  have no : ∀ j, j < a.length → stB (a ++ [c] ++ b) [c] j = false := fun j hj => by
    cases q : stB (a ++ [c] ++ b) [c] j with
    | false => rfl
    | true =>
      unfold stB at q
      rw [Bool.and_eq_true, beq_iff_eq] at q
      have q2 := q.2
      rw [List.append_assoc, List.drop_append_of_le_length (by omega)] at q2
      have e : a.drop j = a[j] :: a.drop (j + 1) := List.drop_eq_getElem_cons hj
      rw [e] at q2
      have q3 : a[j] :: List.take 0 (a.drop (j + 1) ++ ([c] ++ b)) = [c] := q2
      have : a[j] = c := (List.cons.inj q3).1
      exact absurd (this ▸ List.getElem_mem hj) h
  unfold Txt.partition
  rcases PySem.StrLaws.occ_head_from (S (a ++ [c] ++ b)) (S [c]) 0 1 (Nat.le_refl 1) with ⟨h0, hn⟩ | ⟨k, r, h0, hlo, hk, hn⟩
  · have := hn a.length (Nat.zero_le _)
    rw [at_stB] at this
    exact absurd at0 this
  · rw [h0]
    rw [at_stB] at hk
    have ek : k = a.length := by
      rcases Nat.lt_trichotomy k a.length with q | q | q
      · rw [no k q] at hk; cases hk
      · exact q
      · have := hn a.length (Nat.zero_le _) q
        rw [at_stB] at this
        exact absurd at0 this
    subst ek
    dsimp only
    rw [sub, sub]
    have e1 : ((a ++ [c] ++ b).drop 0).take (a.length - 0) = a := by simp
    have e2 : ((a ++ [c] ++ b).drop (a.length + (S [c]).length)).take ((S (a ++ [c] ++ b)).length - (a.length + (S [c]).length)) = b := by
      rw [S_len, S_len]
      have : a.length + [c].length = (a ++ [c]).length := by simp
      rw [this, List.drop_left, List.take_of_length_le (by simp; omega)]
    rw [e1, e2]
theorem part_non (w : List Nat) (c : Nat) (h : c ∉ w) : Txt.partition (S w) (S [c]) = (S w, S [], S []) := by
  unfold Txt.partition
  rcases PySem.StrLaws.occ_head_from (S w) (S [c]) 0 1 (Nat.le_refl 1) with ⟨h0, hn⟩ | ⟨k, r, h0, hlo, hk, hn⟩
  · rw [h0]
    rfl
  · rw [at_stB] at hk
    unfold stB at hk
    rw [Bool.and_eq_true, beq_iff_eq] at hk
    have : c ∈ w := List.mem_of_mem_drop (List.mem_of_mem_take (i := [c].length) (by rw [hk.2]; simp))
    exact absurd this h
theorem opPart_of {w : List Nat} (c : Nat) (hw : w.length ≤ 1000) {x y z : List Nat} (h : Txt.partition (S w) (S [c]) = (S x, S y, S z)) : opPart w (.str [c]) = some (.sh (.tup [.str x, .str y, .str z])) := by
  unfold opPart
  dsimp only
  rw [if_pos ⟨by simp, by show w.length ≤ 1000000; omega⟩, h]
  dsimp only
  rw [S_cps, S_cps, S_cps]
/-- figures -/
theorem num_len {n : Nat} (h : n < 10000) : 1 ≤ (TL.numL n).length ∧ (TL.numL n).length ≤ 4 := by
  refine ⟨?_, TL.numL_len (by decide) (by omega)⟩
  rcases Nat.eq_zero_or_pos (TL.numL n).length with q | q
  · exact absurd (List.eq_nil_of_length_eq_zero q) (TL.numL_ne n)
  · exact q
theorem num_str {n : Nat} (h : n < 10000) : opStr [.int (n : Int)] = some (.sh (.str (TL.numL n))) := by
  unfold opStr
  have h2 : (n : Int).natAbs.log2 < 1920 := by
    rw [Int.natAbs_natCast]
    rcases Nat.eq_zero_or_pos n with q | q
    · subst q; decide
    · have := (Nat.log2_lt (by omega : n ≠ 0)).mpr (show n < 2 ^ 14 by omega)
      omega
  dsimp only
  rw [if_pos h2]
  exact congrArg (fun l => some (Rs.sh (D.str l))) (TL.tl_num n)
theorem num_head : ∀ {n : Nat}, 1 ≤ n → (TL.numL n).head? ≠ some 48
  | n, h => by
    by_cases q : n < 10
    · rw [TL.numL_lt q]
      simp
      omega
    · rw [TL.numL_step (by omega), List.head?_append]
      have ih := num_head (n := n / 10) (by omega)
      cases e : (TL.numL (n / 10)).head? with
      | none => exact absurd (List.head?_eq_none_iff.mp e) (TL.numL_ne _)
      | some c =>
        rw [e] at ih
        exact ih
termination_by n => n
theorem fig_mem {c : Nat} : c ∈ c_FIGURES ↔ 48 ≤ c ∧ c ≤ 57 := by
  unfold c_FIGURES
  simp only [List.mem_cons, List.not_mem_nil, or_false]
  omega
theorem e_number_of {n : Nat} (h : n < 10000) : g_number_of [.str (TL.numL n)] = some (.rt (.sh (.int (n : Int)))) := by
  obtain ⟨h1, h4⟩ := num_len h
  have dg := TL.numL_digits n
  have hd : ∀ c ∈ TL.numL n, 48 ≤ c ∧ c ≤ 57 := fun c hc => dg c hc
  have hint : PySem.intText? (S (TL.numL n)) = some (n : Int) := by
    have e := SX.int_S (a := TL.numL n) (List.all_eq_true.mpr fun c hc => by rw [Bool.and_eq_true, decide_eq_true_iff, decide_eq_true_iff]; exact hd c hc) (TL.numL_ne n) (by omega)
    rw [TL.numL_val] at e
    exact e
  have hzero : ¬ ((TL.numL n).length > 1 ∧ (TL.numL n)[0]? = some 48) := fun ⟨q1, q2⟩ => by
    by_cases q : n < 10
    · rw [TL.numL_lt q] at q1
      simp at q1
    · have := num_head (n := n) (by omega)
      rw [List.head?_eq_getElem?] at this
      exact this q2
  obtain ⟨N, hN⟩ : ∃ N, N = TL.numL n := ⟨_, rfl⟩
  rw [← hN] at h1 h4 hd hint hzero ⊢
  obtain ⟨j, f1⟩ := forL_each (tg := tgN 1) (body := l1_number_of) (fun (q : Sl) => [.sh (.str N), q]) (fun c : Nat => D.str [c]) N .un fun c hc q => by
    have m : c ∈ c_FIGURES := fig_mem.mpr (hd c hc)
    refine ⟨_, rfl, .sh (.str [c]), .inl ?_⟩
    unfold l1_number_of i2_number_of
    simp (disch := first | omega | assumption) only [if_pos, if_neg, decide_eq_true, decide_eq_false, atI_of, cutL_take, cutL_drop, cutL_mid, ge_iff_le, gt_iff_lt, Int.reduceToNat, Int.toNat_zero, Int.toNat_one, Bool.not_true, Bool.not_false, szl, fLcX, fRepl, fMaxD, fEnS, sStuck, fLenS, cGtA, sAppQ, sSetQ, sForT, forTL, opSortT, fDItems, fDKeys, fLcO, D.key, fDNew, fDGet, sDPutV, fDSet, fRg3, fChV, fSortL, frL, frS, fSortB, sRem, sqAt, eIxI, fItm, fItV, chS, sItC, sItA, sItI, sItS, fTmp, Sl.mut, Sl.th, O.d, sqD, D.atm, sTryR, fSq, aConsF, aNilF, eO, sTgF, setFd, Fd.sl, opJoinRev, fLRev, runDef, runDefI, ioAt, insA, chL, getO, setO, getL, setL, obAt, eFd, eFV, eFB, fFld, fMeth, fMethI, fMake, fCallI, aHere, fIsO, sFldS, setF, Rs.fd, Fd.d, O.d, fMethD, chF, sAppF, fPopF, fPop0, fPop1, sIns, sRetI, sRetNI, fZip, fML, opAny, opAll, opSorted, opMaxL, opMinL, opRfind, opCount, List.map_cons, List.map_nil, cInA, cNinA, inD, itD, fItA, eItA, cLtA, cLeA, fRr1, fRr2, opInt, sPar, fCallD, fRaise0, fRaise1, sTryAs, sTry, aftr, noX, allEq_const, fXf, fXi, fLc, lcL, unE, tYs, Vs.ret, xLock, inis, bof, sNil, sSeq, sAsg, sRet, sRetV, sRetN, sIf, sDrop, sTg, sFor, sBrk, sCnt, sApp, sExt, sOwn, sSetI, opSetI, sLock, unlk, sbnd, bnd, fOp, fCh, fCl, fCall, fLst, fTup, fSl, fIf, fAnd, fOr, fNot, fTru, fAndV, fOrV, fNotV, fNeg, fIsi, fM1, fM2, fRg1, fRg2, fEn, fRev, fSg, fTp, fIt, eIt, eB, eV, eC, frz, shm, aCons, aNil, poN, poS, Rs.d, Rs.sl, vB, List.cons_append, List.nil_append, List.append_nil, List.replicate_zero, List.replicate_succ, List.getElem?_cons_zero, List.getElem?_cons_succ, List.set_cons_zero, List.set_cons_succ, List.length_cons, List.length_nil, opLen, lenD, opList, opAdd, opSub, opMul, opMod, opDiv, opPow, opMin, opMax, opIx, opSl, cmpB, cEq, cNe, cIsN, cNotN, truD, tgN, tgT, setAll, isKd, opFind, opFind3, opStarts, opStarts3, Nat.reduceLT, Nat.reduceAdd, Nat.reduceSub, Nat.reduceLeDiff, Int.reduceLT, Int.reduceLE, Int.reduceNeg, reduceIte, and_self, true_and, and_true, decide_true, decide_false, Int.toNat_natCast, cNinA, cInA, cNin, cIn, decide_eq_true m, Bool.not_true]
  have i1 : ∀ s, i1_number_of [.sh (.str N), s] = some (.nx [.sh (.str N), s]) := fun s => by
    unfold i1_number_of
    have g1 : ¬ (N.length : Int) < 1 := by omega
    have g2 : ¬ (N.length : Int) > 4 := by omega
    simp (disch := first | omega | assumption) only [if_pos, if_neg, decide_eq_true, decide_eq_false, atI_of, cutL_take, cutL_drop, cutL_mid, ge_iff_le, gt_iff_lt, Int.reduceToNat, Int.toNat_zero, Int.toNat_one, Bool.not_true, Bool.not_false, szl, fLcX, fRepl, fMaxD, fEnS, sStuck, fLenS, cGtA, sAppQ, sSetQ, sForT, forTL, opSortT, fDItems, fDKeys, fLcO, D.key, fDNew, fDGet, sDPutV, fDSet, fRg3, fChV, fSortL, frL, frS, fSortB, sRem, sqAt, eIxI, fItm, fItV, chS, sItC, sItA, sItI, sItS, fTmp, Sl.mut, Sl.th, O.d, sqD, D.atm, sTryR, fSq, aConsF, aNilF, eO, sTgF, setFd, Fd.sl, opJoinRev, fLRev, runDef, runDefI, ioAt, insA, chL, getO, setO, getL, setL, obAt, eFd, eFV, eFB, fFld, fMeth, fMethI, fMake, fCallI, aHere, fIsO, sFldS, setF, Rs.fd, Fd.d, O.d, fMethD, chF, sAppF, fPopF, fPop0, fPop1, sIns, sRetI, sRetNI, fZip, fML, opAny, opAll, opSorted, opMaxL, opMinL, opRfind, opCount, List.map_cons, List.map_nil, cInA, cNinA, inD, itD, fItA, eItA, cLtA, cLeA, fRr1, fRr2, opInt, sPar, fCallD, fRaise0, fRaise1, sTryAs, sTry, aftr, noX, allEq_const, fXf, fXi, fLc, lcL, unE, tYs, Vs.ret, xLock, inis, bof, sNil, sSeq, sAsg, sRet, sRetV, sRetN, sIf, sDrop, sTg, sFor, sBrk, sCnt, sApp, sExt, sOwn, sSetI, opSetI, sLock, unlk, sbnd, bnd, fOp, fCh, fCl, fCall, fLst, fTup, fSl, fIf, fAnd, fOr, fNot, fTru, fAndV, fOrV, fNotV, fNeg, fIsi, fM1, fM2, fRg1, fRg2, fEn, fRev, fSg, fTp, fIt, eIt, eB, eV, eC, frz, shm, aCons, aNil, poN, poS, Rs.d, Rs.sl, vB, List.cons_append, List.nil_append, List.append_nil, List.replicate_zero, List.replicate_succ, List.getElem?_cons_zero, List.getElem?_cons_succ, List.set_cons_zero, List.set_cons_succ, List.length_cons, List.length_nil, opLen, lenD, opList, opAdd, opSub, opMul, opMod, opDiv, opPow, opMin, opMax, opIx, opSl, cmpB, cEq, cNe, cIsN, cNotN, truD, tgN, tgT, setAll, isKd, opFind, opFind3, opStarts, opStarts3, Nat.reduceLT, Nat.reduceAdd, Nat.reduceSub, Nat.reduceLeDiff, Int.reduceLT, Int.reduceLE, Int.reduceNeg, reduceIte, and_self, true_and, and_true, decide_true, decide_false, Int.toNat_natCast, decide_eq_false g1, decide_eq_false g2]
  have i3 : ∀ s, i3_number_of [.sh (.str N), s] = some (.nx [.sh (.str N), s]) := fun s => by
    unfold i3_number_of
    by_cases q1 : N.length > 1
    · have g1 : (N.length : Int) > 1 := by omega
      have h0 : 0 < N.length := by omega
      have g2 : ¬ [N[0]] = [48] := fun z => hzero ⟨q1, by rw [List.getElem?_eq_getElem h0, (List.cons.inj z).1]⟩
      simp (disch := first | omega | assumption) only [if_pos, if_neg, decide_eq_true, decide_eq_false, atI_of, cutL_take, cutL_drop, cutL_mid, ge_iff_le, gt_iff_lt, Int.reduceToNat, Int.toNat_zero, Int.toNat_one, Bool.not_true, Bool.not_false, szl, fLcX, fRepl, fMaxD, fEnS, sStuck, fLenS, cGtA, sAppQ, sSetQ, sForT, forTL, opSortT, fDItems, fDKeys, fLcO, D.key, fDNew, fDGet, sDPutV, fDSet, fRg3, fChV, fSortL, frL, frS, fSortB, sRem, sqAt, eIxI, fItm, fItV, chS, sItC, sItA, sItI, sItS, fTmp, Sl.mut, Sl.th, O.d, sqD, D.atm, sTryR, fSq, aConsF, aNilF, eO, sTgF, setFd, Fd.sl, opJoinRev, fLRev, runDef, runDefI, ioAt, insA, chL, getO, setO, getL, setL, obAt, eFd, eFV, eFB, fFld, fMeth, fMethI, fMake, fCallI, aHere, fIsO, sFldS, setF, Rs.fd, Fd.d, O.d, fMethD, chF, sAppF, fPopF, fPop0, fPop1, sIns, sRetI, sRetNI, fZip, fML, opAny, opAll, opSorted, opMaxL, opMinL, opRfind, opCount, List.map_cons, List.map_nil, cInA, cNinA, inD, itD, fItA, eItA, cLtA, cLeA, fRr1, fRr2, opInt, sPar, fCallD, fRaise0, fRaise1, sTryAs, sTry, aftr, noX, allEq_const, fXf, fXi, fLc, lcL, unE, tYs, Vs.ret, xLock, inis, bof, sNil, sSeq, sAsg, sRet, sRetV, sRetN, sIf, sDrop, sTg, sFor, sBrk, sCnt, sApp, sExt, sOwn, sSetI, opSetI, sLock, unlk, sbnd, bnd, fOp, fCh, fCl, fCall, fLst, fTup, fSl, fIf, fAnd, fOr, fNot, fTru, fAndV, fOrV, fNotV, fNeg, fIsi, fM1, fM2, fRg1, fRg2, fEn, fRev, fSg, fTp, fIt, eIt, eB, eV, eC, frz, shm, aCons, aNil, poN, poS, Rs.d, Rs.sl, vB, List.cons_append, List.nil_append, List.append_nil, List.replicate_zero, List.replicate_succ, List.getElem?_cons_zero, List.getElem?_cons_succ, List.set_cons_zero, List.set_cons_succ, List.length_cons, List.length_nil, opLen, lenD, opList, opAdd, opSub, opMul, opMod, opDiv, opPow, opMin, opMax, opIx, opSl, cmpB, cEq, cNe, cIsN, cNotN, truD, tgN, tgT, setAll, isKd, opFind, opFind3, opStarts, opStarts3, Nat.reduceLT, Nat.reduceAdd, Nat.reduceSub, Nat.reduceLeDiff, Int.reduceLT, Int.reduceLE, Int.reduceNeg, reduceIte, and_self, true_and, and_true, decide_true, decide_false, Int.toNat_natCast, decide_eq_true g1, List.getElem?_eq_getElem h0, decide_eq_false g2]
    · have g1 : ¬ (N.length : Int) > 1 := by omega
      simp (disch := first | omega | assumption) only [if_pos, if_neg, decide_eq_true, decide_eq_false, atI_of, cutL_take, cutL_drop, cutL_mid, ge_iff_le, gt_iff_lt, Int.reduceToNat, Int.toNat_zero, Int.toNat_one, Bool.not_true, Bool.not_false, szl, fLcX, fRepl, fMaxD, fEnS, sStuck, fLenS, cGtA, sAppQ, sSetQ, sForT, forTL, opSortT, fDItems, fDKeys, fLcO, D.key, fDNew, fDGet, sDPutV, fDSet, fRg3, fChV, fSortL, frL, frS, fSortB, sRem, sqAt, eIxI, fItm, fItV, chS, sItC, sItA, sItI, sItS, fTmp, Sl.mut, Sl.th, O.d, sqD, D.atm, sTryR, fSq, aConsF, aNilF, eO, sTgF, setFd, Fd.sl, opJoinRev, fLRev, runDef, runDefI, ioAt, insA, chL, getO, setO, getL, setL, obAt, eFd, eFV, eFB, fFld, fMeth, fMethI, fMake, fCallI, aHere, fIsO, sFldS, setF, Rs.fd, Fd.d, O.d, fMethD, chF, sAppF, fPopF, fPop0, fPop1, sIns, sRetI, sRetNI, fZip, fML, opAny, opAll, opSorted, opMaxL, opMinL, opRfind, opCount, List.map_cons, List.map_nil, cInA, cNinA, inD, itD, fItA, eItA, cLtA, cLeA, fRr1, fRr2, opInt, sPar, fCallD, fRaise0, fRaise1, sTryAs, sTry, aftr, noX, allEq_const, fXf, fXi, fLc, lcL, unE, tYs, Vs.ret, xLock, inis, bof, sNil, sSeq, sAsg, sRet, sRetV, sRetN, sIf, sDrop, sTg, sFor, sBrk, sCnt, sApp, sExt, sOwn, sSetI, opSetI, sLock, unlk, sbnd, bnd, fOp, fCh, fCl, fCall, fLst, fTup, fSl, fIf, fAnd, fOr, fNot, fTru, fAndV, fOrV, fNotV, fNeg, fIsi, fM1, fM2, fRg1, fRg2, fEn, fRev, fSg, fTp, fIt, eIt, eB, eV, eC, frz, shm, aCons, aNil, poN, poS, Rs.d, Rs.sl, vB, List.cons_append, List.nil_append, List.append_nil, List.replicate_zero, List.replicate_succ, List.getElem?_cons_zero, List.getElem?_cons_succ, List.set_cons_zero, List.set_cons_succ, List.length_cons, List.length_nil, opLen, lenD, opList, opAdd, opSub, opMul, opMod, opDiv, opPow, opMin, opMax, opIx, opSl, cmpB, cEq, cNe, cIsN, cNotN, truD, tgN, tgT, setAll, isKd, opFind, opFind3, opStarts, opStarts3, Nat.reduceLT, Nat.reduceAdd, Nat.reduceSub, Nat.reduceLeDiff, Int.reduceLT, Int.reduceLE, Int.reduceNeg, reduceIte, and_self, true_and, and_true, decide_true, decide_false, Int.toNat_natCast, decide_eq_false g1]
  unfold g_number_of b_number_of
  simp (disch := first | omega | assumption) only [if_pos, if_neg, decide_eq_true, decide_eq_false, atI_of, cutL_take, cutL_drop, cutL_mid, ge_iff_le, gt_iff_lt, Int.reduceToNat, Int.toNat_zero, Int.toNat_one, Bool.not_true, Bool.not_false, szl, fLcX, fRepl, fMaxD, fEnS, sStuck, fLenS, cGtA, sAppQ, sSetQ, sForT, forTL, opSortT, fDItems, fDKeys, fLcO, D.key, fDNew, fDGet, sDPutV, fDSet, fRg3, fChV, fSortL, frL, frS, fSortB, sRem, sqAt, eIxI, fItm, fItV, chS, sItC, sItA, sItI, sItS, fTmp, Sl.mut, Sl.th, O.d, sqD, D.atm, sTryR, fSq, aConsF, aNilF, eO, sTgF, setFd, Fd.sl, opJoinRev, fLRev, runDef, runDefI, ioAt, insA, chL, getO, setO, getL, setL, obAt, eFd, eFV, eFB, fFld, fMeth, fMethI, fMake, fCallI, aHere, fIsO, sFldS, setF, Rs.fd, Fd.d, O.d, fMethD, chF, sAppF, fPopF, fPop0, fPop1, sIns, sRetI, sRetNI, fZip, fML, opAny, opAll, opSorted, opMaxL, opMinL, opRfind, opCount, List.map_cons, List.map_nil, cInA, cNinA, inD, itD, fItA, eItA, cLtA, cLeA, fRr1, fRr2, opInt, sPar, fCallD, fRaise0, fRaise1, sTryAs, sTry, aftr, noX, allEq_const, fXf, fXi, fLc, lcL, unE, tYs, Vs.ret, xLock, inis, bof, sNil, sSeq, sAsg, sRet, sRetV, sRetN, sIf, sDrop, sTg, sFor, sBrk, sCnt, sApp, sExt, sOwn, sSetI, opSetI, sLock, unlk, sbnd, bnd, fOp, fCh, fCl, fCall, fLst, fTup, fSl, fIf, fAnd, fOr, fNot, fTru, fAndV, fOrV, fNotV, fNeg, fIsi, fM1, fM2, fRg1, fRg2, fEn, fRev, fSg, fTp, fIt, eIt, eB, eV, eC, frz, shm, aCons, aNil, poN, poS, Rs.d, Rs.sl, vB, List.cons_append, List.nil_append, List.append_nil, List.replicate_zero, List.replicate_succ, List.getElem?_cons_zero, List.getElem?_cons_succ, List.set_cons_zero, List.set_cons_succ, List.length_cons, List.length_nil, opLen, lenD, opList, opAdd, opSub, opMul, opMod, opDiv, opPow, opMin, opMax, opIx, opSl, cmpB, cEq, cNe, cIsN, cNotN, truD, tgN, tgT, setAll, isKd, opFind, opFind3, opStarts, opStarts3, Nat.reduceLT, Nat.reduceAdd, Nat.reduceSub, Nat.reduceLeDiff, Int.reduceLT, Int.reduceLE, Int.reduceNeg, reduceIte, and_self, true_and, and_true, decide_true, decide_false, Int.toNat_natCast, i1, itD, f1, i3, hint]
/-- a step's text -/
def sgn (s : Stp) : Nat := if s.fo then 62 else 60
def shS (s : Stp) : List Nat := TL.numL s.n ++ [sgn s] ++ TL.numL s.at_
def Sm4 (s : Stp) : Prop := s.n < 10000 ∧ s.at_ < 10000
theorem shS_len {s : Stp} (h : Sm4 s) : 3 ≤ (shS s).length ∧ (shS s).length ≤ 9 := by
  have h1 := num_len h.1
  have h2 := num_len h.2
  unfold shS
  rw [List.length_append, List.length_append, List.length_singleton]
  omega
theorem shS_no {s : Stp} {c : Nat} (h : c < 48 ∨ 57 < c) (hs : c ≠ sgn s) : c ∉ shS s := fun m => by
  unfold shS at m
  rcases List.mem_append.mp m with m | m
  · rcases List.mem_append.mp m with m | m
    · exact TL.numL_free h m
    · exact hs (List.mem_singleton.mp m)
  · exact TL.numL_free h m
theorem e_shown_step {s : Stp} (h : Sm4 s) : g_shown_step [stD s] = some (.rt (.sh (.str (shS s)))) := by
  have n1 := num_str h.1
  have n2 := num_str h.2
  have l1 := num_len h.1
  have l2 := num_len h.2
  have l3 : (TL.numL s.n ++ [62]).length ≤ 10 := by simp; omega
  have l4 : (TL.numL s.n ++ [60]).length ≤ 10 := by simp; omega
  unfold g_shown_step b_shown_step stD shS sgn
  cases q : s.fo with
  | true => simp (disch := first | omega | assumption) only [if_pos, if_neg, decide_eq_true, decide_eq_false, atI_of, cutL_take, cutL_drop, cutL_mid, ge_iff_le, gt_iff_lt, Int.reduceToNat, Int.toNat_zero, Int.toNat_one, Bool.not_true, Bool.not_false, szl, fLcX, fRepl, fMaxD, fEnS, sStuck, fLenS, cGtA, sAppQ, sSetQ, sForT, forTL, opSortT, fDItems, fDKeys, fLcO, D.key, fDNew, fDGet, sDPutV, fDSet, fRg3, fChV, fSortL, frL, frS, fSortB, sRem, sqAt, eIxI, fItm, fItV, chS, sItC, sItA, sItI, sItS, fTmp, Sl.mut, Sl.th, O.d, sqD, D.atm, sTryR, fSq, aConsF, aNilF, eO, sTgF, setFd, Fd.sl, opJoinRev, fLRev, runDef, runDefI, ioAt, insA, chL, getO, setO, getL, setL, obAt, eFd, eFV, eFB, fFld, fMeth, fMethI, fMake, fCallI, aHere, fIsO, sFldS, setF, Rs.fd, Fd.d, O.d, fMethD, chF, sAppF, fPopF, fPop0, fPop1, sIns, sRetI, sRetNI, fZip, fML, opAny, opAll, opSorted, opMaxL, opMinL, opRfind, opCount, List.map_cons, List.map_nil, cInA, cNinA, inD, itD, fItA, eItA, cLtA, cLeA, fRr1, fRr2, opInt, sPar, fCallD, fRaise0, fRaise1, sTryAs, sTry, aftr, noX, allEq_const, fXf, fXi, fLc, lcL, unE, tYs, Vs.ret, xLock, inis, bof, sNil, sSeq, sAsg, sRet, sRetV, sRetN, sIf, sDrop, sTg, sFor, sBrk, sCnt, sApp, sExt, sOwn, sSetI, opSetI, sLock, unlk, sbnd, bnd, fOp, fCh, fCl, fCall, fLst, fTup, fSl, fIf, fAnd, fOr, fNot, fTru, fAndV, fOrV, fNotV, fNeg, fIsi, fM1, fM2, fRg1, fRg2, fEn, fRev, fSg, fTp, fIt, eIt, eB, eV, eC, frz, shm, aCons, aNil, poN, poS, Rs.d, Rs.sl, vB, List.cons_append, List.nil_append, List.append_nil, List.replicate_zero, List.replicate_succ, List.getElem?_cons_zero, List.getElem?_cons_succ, List.set_cons_zero, List.set_cons_succ, List.length_cons, List.length_nil, opLen, lenD, opList, opAdd, opSub, opMul, opMod, opDiv, opPow, opMin, opMax, opIx, opSl, cmpB, cEq, cNe, cIsN, cNotN, truD, tgN, tgT, setAll, isKd, opFind, opFind3, opStarts, opStarts3, Nat.reduceLT, Nat.reduceAdd, Nat.reduceSub, Nat.reduceLeDiff, Int.reduceLT, Int.reduceLE, Int.reduceNeg, reduceIte, and_self, true_and, and_true, decide_true, decide_false, Int.toNat_natCast, n1, n2] <;> rfl
  | false => simp (disch := first | omega | assumption) only [if_pos, if_neg, decide_eq_true, decide_eq_false, atI_of, cutL_take, cutL_drop, cutL_mid, ge_iff_le, gt_iff_lt, Int.reduceToNat, Int.toNat_zero, Int.toNat_one, Bool.not_true, Bool.not_false, szl, fLcX, fRepl, fMaxD, fEnS, sStuck, fLenS, cGtA, sAppQ, sSetQ, sForT, forTL, opSortT, fDItems, fDKeys, fLcO, D.key, fDNew, fDGet, sDPutV, fDSet, fRg3, fChV, fSortL, frL, frS, fSortB, sRem, sqAt, eIxI, fItm, fItV, chS, sItC, sItA, sItI, sItS, fTmp, Sl.mut, Sl.th, O.d, sqD, D.atm, sTryR, fSq, aConsF, aNilF, eO, sTgF, setFd, Fd.sl, opJoinRev, fLRev, runDef, runDefI, ioAt, insA, chL, getO, setO, getL, setL, obAt, eFd, eFV, eFB, fFld, fMeth, fMethI, fMake, fCallI, aHere, fIsO, sFldS, setF, Rs.fd, Fd.d, O.d, fMethD, chF, sAppF, fPopF, fPop0, fPop1, sIns, sRetI, sRetNI, fZip, fML, opAny, opAll, opSorted, opMaxL, opMinL, opRfind, opCount, List.map_cons, List.map_nil, cInA, cNinA, inD, itD, fItA, eItA, cLtA, cLeA, fRr1, fRr2, opInt, sPar, fCallD, fRaise0, fRaise1, sTryAs, sTry, aftr, noX, allEq_const, fXf, fXi, fLc, lcL, unE, tYs, Vs.ret, xLock, inis, bof, sNil, sSeq, sAsg, sRet, sRetV, sRetN, sIf, sDrop, sTg, sFor, sBrk, sCnt, sApp, sExt, sOwn, sSetI, opSetI, sLock, unlk, sbnd, bnd, fOp, fCh, fCl, fCall, fLst, fTup, fSl, fIf, fAnd, fOr, fNot, fTru, fAndV, fOrV, fNotV, fNeg, fIsi, fM1, fM2, fRg1, fRg2, fEn, fRev, fSg, fTp, fIt, eIt, eB, eV, eC, frz, shm, aCons, aNil, poN, poS, Rs.d, Rs.sl, vB, List.cons_append, List.nil_append, List.append_nil, List.replicate_zero, List.replicate_succ, List.getElem?_cons_zero, List.getElem?_cons_succ, List.set_cons_zero, List.set_cons_succ, List.length_cons, List.length_nil, opLen, lenD, opList, opAdd, opSub, opMul, opMod, opDiv, opPow, opMin, opMax, opIx, opSl, cmpB, cEq, cNe, cIsN, cNotN, truD, tgN, tgT, setAll, isKd, opFind, opFind3, opStarts, opStarts3, Nat.reduceLT, Nat.reduceAdd, Nat.reduceSub, Nat.reduceLeDiff, Int.reduceLT, Int.reduceLE, Int.reduceNeg, reduceIte, and_self, true_and, and_true, decide_true, decide_false, Int.toNat_natCast, n1, n2] <;> rfl
theorem e_read_step {s : Stp} (h : Sm4 s) : g_read_step [.str (shS s)] = some (.rt (.sh (stD s))) := by
  have n1 := e_number_of h.1
  have n2 := e_number_of h.2
  have hl := shS_len h
  have ne1 : ¬ ([62] : List Nat) = [] := by decide
  have ne2 : ¬ ([60] : List Nat) = [] := by decide
  have ne3 : ¬ ([60] : List Nat) = [62] := by decide
  unfold g_read_step b_read_step l1_read_step i1_read_step stD
  cases q : s.fo with
  | true =>
    have p : opPart (shS s) (.str [62]) = some (.sh (.tup [.str (TL.numL s.n), .str [62], .str (TL.numL s.at_)])) := opPart_of 62 (by omega) (by
      unfold shS sgn
      rw [q, if_pos rfl]
      exact part_one _ _ 62 (TL.numL_free (by omega)))
    simp (disch := first | omega | assumption) only [if_pos, if_neg, decide_eq_true, decide_eq_false, atI_of, cutL_take, cutL_drop, cutL_mid, ge_iff_le, gt_iff_lt, Int.reduceToNat, Int.toNat_zero, Int.toNat_one, Bool.not_true, Bool.not_false, szl, fLcX, fRepl, fMaxD, fEnS, sStuck, fLenS, cGtA, sAppQ, sSetQ, sForT, forTL, opSortT, fDItems, fDKeys, fLcO, D.key, fDNew, fDGet, sDPutV, fDSet, fRg3, fChV, fSortL, frL, frS, fSortB, sRem, sqAt, eIxI, fItm, fItV, chS, sItC, sItA, sItI, sItS, fTmp, Sl.mut, Sl.th, O.d, sqD, D.atm, sTryR, fSq, aConsF, aNilF, eO, sTgF, setFd, Fd.sl, opJoinRev, fLRev, runDef, runDefI, ioAt, insA, chL, getO, setO, getL, setL, obAt, eFd, eFV, eFB, fFld, fMeth, fMethI, fMake, fCallI, aHere, fIsO, sFldS, setF, Rs.fd, Fd.d, O.d, fMethD, chF, sAppF, fPopF, fPop0, fPop1, sIns, sRetI, sRetNI, fZip, fML, opAny, opAll, opSorted, opMaxL, opMinL, opRfind, opCount, List.map_cons, List.map_nil, cInA, cNinA, inD, itD, fItA, eItA, cLtA, cLeA, fRr1, fRr2, opInt, sPar, fCallD, fRaise0, fRaise1, sTryAs, sTry, aftr, noX, allEq_const, fXf, fXi, fLc, lcL, unE, tYs, Vs.ret, xLock, inis, bof, sNil, sSeq, sAsg, sRet, sRetV, sRetN, sIf, sDrop, sTg, sFor, sBrk, sCnt, sApp, sExt, sOwn, sSetI, opSetI, sLock, unlk, sbnd, bnd, fOp, fCh, fCl, fCall, fLst, fTup, fSl, fIf, fAnd, fOr, fNot, fTru, fAndV, fOrV, fNotV, fNeg, fIsi, fM1, fM2, fRg1, fRg2, fEn, fRev, fSg, fTp, fIt, eIt, eB, eV, eC, frz, shm, aCons, aNil, poN, poS, Rs.d, Rs.sl, vB, List.cons_append, List.nil_append, List.append_nil, List.replicate_zero, List.replicate_succ, List.getElem?_cons_zero, List.getElem?_cons_succ, List.set_cons_zero, List.set_cons_succ, List.length_cons, List.length_nil, opLen, lenD, opList, opAdd, opSub, opMul, opMod, opDiv, opPow, opMin, opMax, opIx, opSl, cmpB, cEq, cNe, cIsN, cNotN, truD, tgN, tgT, setAll, isKd, opFind, opFind3, opStarts, opStarts3, Nat.reduceLT, Nat.reduceAdd, Nat.reduceSub, Nat.reduceLeDiff, Int.reduceLT, Int.reduceLE, Int.reduceNeg, reduceIte, and_self, true_and, and_true, decide_true, decide_false, Int.toNat_natCast, forL, itD, p, decide_eq_false ne1, Bool.not_false, n1, n2, decide_true]
  | false =>
    have p0 : opPart (shS s) (.str [62]) = some (.sh (.tup [.str (shS s), .str [], .str []])) := opPart_of 62 (by omega) (part_non _ 62 (shS_no (by omega) (by unfold sgn; rw [q]; decide)))
    have p : opPart (shS s) (.str [60]) = some (.sh (.tup [.str (TL.numL s.n), .str [60], .str (TL.numL s.at_)])) := opPart_of 60 (by omega) (by
      unfold shS sgn
      rw [q, if_neg (by decide)]
      exact part_one _ _ 60 (TL.numL_free (by omega)))
    simp (disch := first | omega | assumption) only [if_pos, if_neg, decide_eq_true, decide_eq_false, atI_of, cutL_take, cutL_drop, cutL_mid, ge_iff_le, gt_iff_lt, Int.reduceToNat, Int.toNat_zero, Int.toNat_one, Bool.not_true, Bool.not_false, szl, fLcX, fRepl, fMaxD, fEnS, sStuck, fLenS, cGtA, sAppQ, sSetQ, sForT, forTL, opSortT, fDItems, fDKeys, fLcO, D.key, fDNew, fDGet, sDPutV, fDSet, fRg3, fChV, fSortL, frL, frS, fSortB, sRem, sqAt, eIxI, fItm, fItV, chS, sItC, sItA, sItI, sItS, fTmp, Sl.mut, Sl.th, O.d, sqD, D.atm, sTryR, fSq, aConsF, aNilF, eO, sTgF, setFd, Fd.sl, opJoinRev, fLRev, runDef, runDefI, ioAt, insA, chL, getO, setO, getL, setL, obAt, eFd, eFV, eFB, fFld, fMeth, fMethI, fMake, fCallI, aHere, fIsO, sFldS, setF, Rs.fd, Fd.d, O.d, fMethD, chF, sAppF, fPopF, fPop0, fPop1, sIns, sRetI, sRetNI, fZip, fML, opAny, opAll, opSorted, opMaxL, opMinL, opRfind, opCount, List.map_cons, List.map_nil, cInA, cNinA, inD, itD, fItA, eItA, cLtA, cLeA, fRr1, fRr2, opInt, sPar, fCallD, fRaise0, fRaise1, sTryAs, sTry, aftr, noX, allEq_const, fXf, fXi, fLc, lcL, unE, tYs, Vs.ret, xLock, inis, bof, sNil, sSeq, sAsg, sRet, sRetV, sRetN, sIf, sDrop, sTg, sFor, sBrk, sCnt, sApp, sExt, sOwn, sSetI, opSetI, sLock, unlk, sbnd, bnd, fOp, fCh, fCl, fCall, fLst, fTup, fSl, fIf, fAnd, fOr, fNot, fTru, fAndV, fOrV, fNotV, fNeg, fIsi, fM1, fM2, fRg1, fRg2, fEn, fRev, fSg, fTp, fIt, eIt, eB, eV, eC, frz, shm, aCons, aNil, poN, poS, Rs.d, Rs.sl, vB, List.cons_append, List.nil_append, List.append_nil, List.replicate_zero, List.replicate_succ, List.getElem?_cons_zero, List.getElem?_cons_succ, List.set_cons_zero, List.set_cons_succ, List.length_cons, List.length_nil, opLen, lenD, opList, opAdd, opSub, opMul, opMod, opDiv, opPow, opMin, opMax, opIx, opSl, cmpB, cEq, cNe, cIsN, cNotN, truD, tgN, tgT, setAll, isKd, opFind, opFind3, opStarts, opStarts3, Nat.reduceLT, Nat.reduceAdd, Nat.reduceSub, Nat.reduceLeDiff, Int.reduceLT, Int.reduceLE, Int.reduceNeg, reduceIte, and_self, true_and, and_true, decide_true, decide_false, Int.toNat_natCast, forL, itD, p0, p, decide_eq_false ne2, decide_eq_false ne3, decide_true, Bool.not_false, Bool.not_true, n1, n2]

/-! steps joined -/
def Jn (ss : List Stp) : List Nat := TL.joinL [32] (ss.map shS)
def Jt (ss : List Stp) : List Nat := if ss = [] then [46] else Jn ss
theorem sum_len {ss : List Stp} (hs : ∀ s ∈ ss, Sm4 s) : ((ss.map shS).map List.length).sum ≤ 9 * ss.length := by
  induction ss with
  | nil => exact Nat.le_refl _
  | cons s ss ih =>
    have h1 := (shS_len (hs s List.mem_cons_self)).2
    have ih := ih fun t ht => hs t (List.mem_cons_of_mem _ ht)
    rw [List.map_cons, List.map_cons, List.sum_cons, List.length_cons]
    omega
theorem opJoin_sp {ss : List Stp} (hs : ∀ s ∈ ss, Sm4 s) (hl : ss.length ≤ 1000) : opJoin [32] (.lst ((ss.map shS).map D.str)) = some (.sh (.str (Jn ss))) := by
  have h := sum_len hs
  unfold opJoin
  dsimp only
  rw [allStrs_map]
  dsimp only
  rw [if_pos (by rw [List.length_map]; show _ + ss.length * 1 ≤ 1000000; omega)]
  have e : (Txt.join (S [32]) ((ss.map shS).map S)).cps.toList = Jn ss := by
    rw [join_eqS]
    have := TL.tl_join (S [32]) ((ss.map shS).map S)
    have e2 : ((ss.map shS).map S).map TL.tl = ss.map shS := by
      rw [List.map_map]
      conv => rhs; rw [← List.map_id (ss.map shS)]
      exact List.map_congr_left fun x _ => S_cps x
    rw [e2] at this
    rw [show (Str.join (S [32]) ((ss.map shS).map S)).cps.toList = TL.tl (Str.join (S [32]) ((ss.map shS).map S)) from rfl, this]
    show TL.joinL (S [32]).cps.toList _ = _
    rw [S_cps]
    rfl
  rw [e]
theorem e_shown_steps {ss : List Stp} (hs : ∀ s ∈ ss, Sm4 s) (hl : ss.length ≤ 1000) : g_shown_steps [.lst (stL ss)] = some (.rt (.sh (.str (Jt ss)))) := by
  have sl := stL_len ss
  unfold g_shown_steps b_shown_steps i1_shown_steps Jt
  by_cases h : ss = []
  · subst h
    have n : ((stL []).length : Int) = 0 := rfl
    simp (disch := first | omega | assumption) only [if_pos, if_neg, decide_eq_true, decide_eq_false, atI_of, cutL_take, cutL_drop, cutL_mid, ge_iff_le, gt_iff_lt, Int.reduceToNat, Int.toNat_zero, Int.toNat_one, Bool.not_true, Bool.not_false, szl, fLcX, fRepl, fMaxD, fEnS, sStuck, fLenS, cGtA, sAppQ, sSetQ, sForT, forTL, opSortT, fDItems, fDKeys, fLcO, D.key, fDNew, fDGet, sDPutV, fDSet, fRg3, fChV, fSortL, frL, frS, fSortB, sRem, sqAt, eIxI, fItm, fItV, chS, sItC, sItA, sItI, sItS, fTmp, Sl.mut, Sl.th, O.d, sqD, D.atm, sTryR, fSq, aConsF, aNilF, eO, sTgF, setFd, Fd.sl, opJoinRev, fLRev, runDef, runDefI, ioAt, insA, chL, getO, setO, getL, setL, obAt, eFd, eFV, eFB, fFld, fMeth, fMethI, fMake, fCallI, aHere, fIsO, sFldS, setF, Rs.fd, Fd.d, O.d, fMethD, chF, sAppF, fPopF, fPop0, fPop1, sIns, sRetI, sRetNI, fZip, fML, opAny, opAll, opSorted, opMaxL, opMinL, opRfind, opCount, List.map_cons, List.map_nil, cInA, cNinA, inD, itD, fItA, eItA, cLtA, cLeA, fRr1, fRr2, opInt, sPar, fCallD, fRaise0, fRaise1, sTryAs, sTry, aftr, noX, allEq_const, fXf, fXi, fLc, lcL, unE, tYs, Vs.ret, xLock, inis, bof, sNil, sSeq, sAsg, sRet, sRetV, sRetN, sIf, sDrop, sTg, sFor, sBrk, sCnt, sApp, sExt, sOwn, sSetI, opSetI, sLock, unlk, sbnd, bnd, fOp, fCh, fCl, fCall, fLst, fTup, fSl, fIf, fAnd, fOr, fNot, fTru, fAndV, fOrV, fNotV, fNeg, fIsi, fM1, fM2, fRg1, fRg2, fEn, fRev, fSg, fTp, fIt, eIt, eB, eV, eC, frz, shm, aCons, aNil, poN, poS, Rs.d, Rs.sl, vB, List.cons_append, List.nil_append, List.append_nil, List.replicate_zero, List.replicate_succ, List.getElem?_cons_zero, List.getElem?_cons_succ, List.set_cons_zero, List.set_cons_succ, List.length_cons, List.length_nil, opLen, lenD, opList, opAdd, opSub, opMul, opMod, opDiv, opPow, opMin, opMax, opIx, opSl, cmpB, cEq, cNe, cIsN, cNotN, truD, tgN, tgT, setAll, isKd, opFind, opFind3, opStarts, opStarts3, Nat.reduceLT, Nat.reduceAdd, Nat.reduceSub, Nat.reduceLeDiff, Int.reduceLT, Int.reduceLE, Int.reduceNeg, reduceIte, and_self, true_and, and_true, decide_true, decide_false, Int.toNat_natCast, decide_eq_true n] <;> rfl
  · rw [if_neg h]
    have h0 : 0 < ss.length := List.length_pos_iff.mpr h
    have n : ¬ ((stL ss).length : Int) = 0 := by rw [sl]; omega
    obtain ⟨j, l0⟩ := lcL_fun (f := tgN 1) (te := frz (fCall g_shown_step (aCons (eB 1) (aNil)))) (vs := [1]) (fun (_ : Unit) => [.bo (stL ss), .un]) stD (fun s => D.str (shS s)) ss [] () fun s hm _ => by
      refine ⟨_, rfl, [.bo (stL ss), .sh (stD s)], ?_, (), rfl⟩
      have := e_shown_step (hs s hm)
      simp (disch := first | omega | assumption) only [if_pos, if_neg, decide_eq_true, decide_eq_false, atI_of, cutL_take, cutL_drop, cutL_mid, ge_iff_le, gt_iff_lt, Int.reduceToNat, Int.toNat_zero, Int.toNat_one, Bool.not_true, Bool.not_false, szl, fLcX, fRepl, fMaxD, fEnS, sStuck, fLenS, cGtA, sAppQ, sSetQ, sForT, forTL, opSortT, fDItems, fDKeys, fLcO, D.key, fDNew, fDGet, sDPutV, fDSet, fRg3, fChV, fSortL, frL, frS, fSortB, sRem, sqAt, eIxI, fItm, fItV, chS, sItC, sItA, sItI, sItS, fTmp, Sl.mut, Sl.th, O.d, sqD, D.atm, sTryR, fSq, aConsF, aNilF, eO, sTgF, setFd, Fd.sl, opJoinRev, fLRev, runDef, runDefI, ioAt, insA, chL, getO, setO, getL, setL, obAt, eFd, eFV, eFB, fFld, fMeth, fMethI, fMake, fCallI, aHere, fIsO, sFldS, setF, Rs.fd, Fd.d, O.d, fMethD, chF, sAppF, fPopF, fPop0, fPop1, sIns, sRetI, sRetNI, fZip, fML, opAny, opAll, opSorted, opMaxL, opMinL, opRfind, opCount, List.map_cons, List.map_nil, cInA, cNinA, inD, itD, fItA, eItA, cLtA, cLeA, fRr1, fRr2, opInt, sPar, fCallD, fRaise0, fRaise1, sTryAs, sTry, aftr, noX, allEq_const, fXf, fXi, fLc, lcL, unE, tYs, Vs.ret, xLock, inis, bof, sNil, sSeq, sAsg, sRet, sRetV, sRetN, sIf, sDrop, sTg, sFor, sBrk, sCnt, sApp, sExt, sOwn, sSetI, opSetI, sLock, unlk, sbnd, bnd, fOp, fCh, fCl, fCall, fLst, fTup, fSl, fIf, fAnd, fOr, fNot, fTru, fAndV, fOrV, fNotV, fNeg, fIsi, fM1, fM2, fRg1, fRg2, fEn, fRev, fSg, fTp, fIt, eIt, eB, eV, eC, frz, shm, aCons, aNil, poN, poS, Rs.d, Rs.sl, vB, List.cons_append, List.nil_append, List.append_nil, List.replicate_zero, List.replicate_succ, List.getElem?_cons_zero, List.getElem?_cons_succ, List.set_cons_zero, List.set_cons_succ, List.length_cons, List.length_nil, opLen, lenD, opList, opAdd, opSub, opMul, opMod, opDiv, opPow, opMin, opMax, opIx, opSl, cmpB, cEq, cNe, cIsN, cNotN, truD, tgN, tgT, setAll, isKd, opFind, opFind3, opStarts, opStarts3, Nat.reduceLT, Nat.reduceAdd, Nat.reduceSub, Nat.reduceLeDiff, Int.reduceLT, Int.reduceLE, Int.reduceNeg, reduceIte, and_self, true_and, and_true, decide_true, decide_false, Int.toNat_natCast, this]
    have e1 : ss.map (fun s => D.str (shS s)) = (ss.map shS).map D.str := by rw [List.map_map]; rfl
    rw [e1] at l0
    have l0' : lcL (tgN 1) tYs (frz (fCall g_shown_step (aCons (eB 1) (aNil)))) [1] (stL ss) [] [.bo (stL ss), .un] = some (.ok (.ow ((ss.map shS).map D.str)) [.bo (stL ss), .un]) := l0
    have oj := opJoin_sp hs hl
    have sl2 : (stL ss).length ≤ 1000 := by rw [sl]; exact hl
    simp (disch := first | omega | assumption) only [if_pos, if_neg, decide_eq_true, decide_eq_false, atI_of, cutL_take, cutL_drop, cutL_mid, ge_iff_le, gt_iff_lt, Int.reduceToNat, Int.toNat_zero, Int.toNat_one, Bool.not_true, Bool.not_false, szl, fLcX, fRepl, fMaxD, fEnS, sStuck, fLenS, cGtA, sAppQ, sSetQ, sForT, forTL, opSortT, fDItems, fDKeys, fLcO, D.key, fDNew, fDGet, sDPutV, fDSet, fRg3, fChV, fSortL, frL, frS, fSortB, sRem, sqAt, eIxI, fItm, fItV, chS, sItC, sItA, sItI, sItS, fTmp, Sl.mut, Sl.th, O.d, sqD, D.atm, sTryR, fSq, aConsF, aNilF, eO, sTgF, setFd, Fd.sl, opJoinRev, fLRev, runDef, runDefI, ioAt, insA, chL, getO, setO, getL, setL, obAt, eFd, eFV, eFB, fFld, fMeth, fMethI, fMake, fCallI, aHere, fIsO, sFldS, setF, Rs.fd, Fd.d, O.d, fMethD, chF, sAppF, fPopF, fPop0, fPop1, sIns, sRetI, sRetNI, fZip, fML, opAny, opAll, opSorted, opMaxL, opMinL, opRfind, opCount, List.map_cons, List.map_nil, cInA, cNinA, inD, itD, fItA, eItA, cLtA, cLeA, fRr1, fRr2, opInt, sPar, fCallD, fRaise0, fRaise1, sTryAs, sTry, aftr, noX, allEq_const, fXf, fXi, fLc, lcL, unE, tYs, Vs.ret, xLock, inis, bof, sNil, sSeq, sAsg, sRet, sRetV, sRetN, sIf, sDrop, sTg, sFor, sBrk, sCnt, sApp, sExt, sOwn, sSetI, opSetI, sLock, unlk, sbnd, bnd, fOp, fCh, fCl, fCall, fLst, fTup, fSl, fIf, fAnd, fOr, fNot, fTru, fAndV, fOrV, fNotV, fNeg, fIsi, fM1, fM2, fRg1, fRg2, fEn, fRev, fSg, fTp, fIt, eIt, eB, eV, eC, frz, shm, aCons, aNil, poN, poS, Rs.d, Rs.sl, vB, List.cons_append, List.nil_append, List.append_nil, List.replicate_zero, List.replicate_succ, List.getElem?_cons_zero, List.getElem?_cons_succ, List.set_cons_zero, List.set_cons_succ, List.length_cons, List.length_nil, opLen, lenD, opList, opAdd, opSub, opMul, opMod, opDiv, opPow, opMin, opMax, opIx, opSl, cmpB, cEq, cNe, cIsN, cNotN, truD, tgN, tgT, setAll, isKd, opFind, opFind3, opStarts, opStarts3, Nat.reduceLT, Nat.reduceAdd, Nat.reduceSub, Nat.reduceLeDiff, Int.reduceLT, Int.reduceLE, Int.reduceNeg, reduceIte, and_self, true_and, and_true, decide_true, decide_false, Int.toNat_natCast] at l0'
    simp (disch := first | omega | assumption) only [if_pos, if_neg, decide_eq_true, decide_eq_false, atI_of, cutL_take, cutL_drop, cutL_mid, ge_iff_le, gt_iff_lt, Int.reduceToNat, Int.toNat_zero, Int.toNat_one, Bool.not_true, Bool.not_false, szl, fLcX, fRepl, fMaxD, fEnS, sStuck, fLenS, cGtA, sAppQ, sSetQ, sForT, forTL, opSortT, fDItems, fDKeys, fLcO, D.key, fDNew, fDGet, sDPutV, fDSet, fRg3, fChV, fSortL, frL, frS, fSortB, sRem, sqAt, eIxI, fItm, fItV, chS, sItC, sItA, sItI, sItS, fTmp, Sl.mut, Sl.th, O.d, sqD, D.atm, sTryR, fSq, aConsF, aNilF, eO, sTgF, setFd, Fd.sl, opJoinRev, fLRev, runDef, runDefI, ioAt, insA, chL, getO, setO, getL, setL, obAt, eFd, eFV, eFB, fFld, fMeth, fMethI, fMake, fCallI, aHere, fIsO, sFldS, setF, Rs.fd, Fd.d, O.d, fMethD, chF, sAppF, fPopF, fPop0, fPop1, sIns, sRetI, sRetNI, fZip, fML, opAny, opAll, opSorted, opMaxL, opMinL, opRfind, opCount, List.map_cons, List.map_nil, cInA, cNinA, inD, itD, fItA, eItA, cLtA, cLeA, fRr1, fRr2, opInt, sPar, fCallD, fRaise0, fRaise1, sTryAs, sTry, aftr, noX, allEq_const, fXf, fXi, fLc, lcL, unE, tYs, Vs.ret, xLock, inis, bof, sNil, sSeq, sAsg, sRet, sRetV, sRetN, sIf, sDrop, sTg, sFor, sBrk, sCnt, sApp, sExt, sOwn, sSetI, opSetI, sLock, unlk, sbnd, bnd, fOp, fCh, fCl, fCall, fLst, fTup, fSl, fIf, fAnd, fOr, fNot, fTru, fAndV, fOrV, fNotV, fNeg, fIsi, fM1, fM2, fRg1, fRg2, fEn, fRev, fSg, fTp, fIt, eIt, eB, eV, eC, frz, shm, aCons, aNil, poN, poS, Rs.d, Rs.sl, vB, List.cons_append, List.nil_append, List.append_nil, List.replicate_zero, List.replicate_succ, List.getElem?_cons_zero, List.getElem?_cons_succ, List.set_cons_zero, List.set_cons_succ, List.length_cons, List.length_nil, opLen, lenD, opList, opAdd, opSub, opMul, opMod, opDiv, opPow, opMin, opMax, opIx, opSl, cmpB, cEq, cNe, cIsN, cNotN, truD, tgN, tgT, setAll, isKd, opFind, opFind3, opStarts, opStarts3, Nat.reduceLT, Nat.reduceAdd, Nat.reduceSub, Nat.reduceLeDiff, Int.reduceLT, Int.reduceLE, Int.reduceNeg, reduceIte, and_self, true_and, and_true, decide_true, decide_false, Int.toNat_natCast, decide_eq_false n, itD, l0', oj]

/-! k07: figures -/
theorem find_none {L : List Nat} {c : Nat} (hc : c ∉ L) : Txt.find (S L) (S [c]) = -1 := by
  rw [find_first]
  rcases find_from L [c] 0 with ⟨h, _⟩ | ⟨k, h, _, hk, e⟩
  · exact h
  · exfalso
    have m : k ∈ plc L [c] 0 := by rw [e]; exact List.mem_cons_self
    unfold plc at m
    have s : stB L [c] k = true := (List.mem_filter.mp m).2
    unfold stB at s
    rw [Bool.and_eq_true, beq_iff_eq] at s
    have : c ∈ (L.drop k).take [c].length := by rw [s.2]; exact List.mem_cons_self
    exact hc (List.mem_of_mem_drop (List.mem_of_mem_take this))
def vl (f : List Nat) : Nat := f.foldl (fun v c => 10 * v + (c - 48)) 0
theorem vl_snoc (f : List Nat) (c : Nat) : vl (f ++ [c]) = 10 * vl f + (c - 48) := by unfold vl; rw [List.foldl_append]; rfl
theorem vl_num : ∀ n : Nat, vl (TL.numL n) = n
  | n => by
    by_cases h : n < 10
    · rw [TL.numL_lt h]
      show 10 * 0 + (48 + n - 48) = n
      omega
    · have ih := vl_num (n / 10)
      rw [TL.numL_step (by omega), vl_snoc, ih]
      omega
termination_by n => n
theorem num_of : ∀ (k : Nat) (f : List Nat), f.length = k + 1 → (∀ c ∈ f, 48 ≤ c ∧ c ≤ 57) → (1 < f.length → f.head? ≠ some 48) → f = TL.numL (vl f) ∧ vl f < 10 ^ f.length ∧ (f.head? ≠ some 48 → 1 ≤ vl f)
  | 0, f, hl, hd, _ => by
    match f, hl, hd with
    | [c], _, hd =>
      obtain ⟨h1, h2⟩ := hd c List.mem_cons_self
      have e : vl [c] = c - 48 := by show 10 * 0 + (c - 48) = c - 48; omega
      rw [e]
      refine ⟨?_, ?_, fun h => ?_⟩
      · rw [TL.numL_lt (by omega)]
        congr 1
        omega
      · show c - 48 < 10 ^ 1
        omega
      · have : c ≠ 48 := fun z => h (by rw [z]; rfl)
        omega
  | k + 1, f, hl, hd, h0 => by
    have ne : f ≠ [] := fun z => by rw [z] at hl; cases hl
    obtain ⟨g, c, rfl⟩ : ∃ g c, f = g ++ [c] := ⟨f.dropLast, f.getLast ne, (List.dropLast_concat_getLast ne).symm⟩
    have gl : g.length = k + 1 := by rw [List.length_append, List.length_singleton] at hl; omega
    have gn : g ≠ [] := fun z => by rw [z] at gl; cases gl
    have hh : (g ++ [c]).head? = g.head? := by
      cases g with
      | nil => exact absurd rfl gn
      | cons a g => rfl
    have h0' := h0 (by omega)
    rw [hh] at h0'
    obtain ⟨i1, i2, i3⟩ := num_of k g gl (fun x hx => hd x (List.mem_append_left _ hx)) fun _ => h0'
    have v1 := i3 h0'
    obtain ⟨c1, c2⟩ := hd c (List.mem_append_right _ (List.mem_singleton_self c))
    have e := vl_snoc g c
    rw [e]
    refine ⟨?_, ?_, fun _ => by omega⟩
    · rw [TL.numL_step (by omega)]
      have e1 : (10 * vl g + (c - 48)) / 10 = vl g := by omega
      have e2 : 48 + (10 * vl g + (c - 48)) % 10 = c := by omega
      rw [e1, e2, ← i1]
    · rw [List.length_append, List.length_singleton, Nat.pow_succ]
      omega
def IsNum (f : List Nat) : Prop := ∃ n, n < 10000 ∧ f = TL.numL n
theorem isnum_of {f : List Nat} (h1 : 1 ≤ f.length) (h4 : f.length ≤ 4) (hd : ∀ c ∈ f, 48 ≤ c ∧ c ≤ 57) (h0 : 1 < f.length → f.head? ≠ some 48) : IsNum f := by
  obtain ⟨e, lt, _⟩ := num_of (f.length - 1) f (by omega) hd h0
  refine ⟨vl f, Nat.lt_of_lt_of_le lt ?_, e⟩
  exact Nat.le_trans (Nat.pow_le_pow_right (by decide) h4) (by decide)
theorem isnum_dig {f : List Nat} (h : IsNum f) {c : Nat} (hc : c ∈ f) : 48 ≤ c ∧ c ≤ 57 := by
  obtain ⟨n, _, rfl⟩ := h
  exact TL.numL_digits n c hc
theorem isnum_head {f : List Nat} (h : IsNum f) (hl : 1 < f.length) : f.head? ≠ some 48 := by
  obtain ⟨n, _, rfl⟩ := h
  by_cases q : n < 10
  · rw [TL.numL_lt q] at hl; exact absurd hl (by simp)
  · exact num_head (by omega)
theorem e_number_bad {f : List Nat} (h : ¬ IsNum f) (hl : f.length ≤ 1000) : g_number_of [.str f] = some (.ex ⟨x_NoStep, none⟩) := by
  unfold g_number_of b_number_of
  by_cases g1 : (f.length : Int) < 1
  · unfold i1_number_of fRaise0
    simp (disch := first | omega | assumption) only [if_pos, if_neg, decide_eq_true, decide_eq_false, atI_of, cutL_take, cutL_drop, cutL_mid, ge_iff_le, gt_iff_lt, Int.reduceToNat, Int.toNat_zero, Int.toNat_one, Bool.not_true, Bool.not_false, szl, fLcX, fRepl, fMaxD, fEnS, sStuck, fLenS, cGtA, sAppQ, sSetQ, sForT, forTL, opSortT, fDItems, fDKeys, fLcO, D.key, fDNew, fDGet, sDPutV, fDSet, fRg3, fChV, fSortL, frL, frS, fSortB, sRem, sqAt, eIxI, fItm, fItV, chS, sItC, sItA, sItI, sItS, fTmp, Sl.mut, Sl.th, O.d, sqD, D.atm, sTryR, fSq, aConsF, aNilF, eO, sTgF, setFd, Fd.sl, opJoinRev, fLRev, runDef, runDefI, ioAt, insA, chL, getO, setO, getL, setL, obAt, eFd, eFV, eFB, fFld, fMeth, fMethI, fMake, fCallI, aHere, fIsO, sFldS, setF, Rs.fd, Fd.d, O.d, fMethD, chF, sAppF, fPopF, fPop0, fPop1, sIns, sRetI, sRetNI, fZip, fML, opAny, opAll, opSorted, opMaxL, opMinL, opRfind, opCount, List.map_cons, List.map_nil, cInA, cNinA, inD, itD, fItA, eItA, cLtA, cLeA, fRr1, fRr2, opInt, sPar, fCallD, fRaise0, fRaise1, sTryAs, sTry, aftr, noX, allEq_const, fXf, fXi, fLc, lcL, unE, tYs, Vs.ret, xLock, inis, bof, sNil, sSeq, sAsg, sRet, sRetV, sRetN, sIf, sDrop, sTg, sFor, sBrk, sCnt, sApp, sExt, sOwn, sSetI, opSetI, sLock, unlk, sbnd, bnd, fOp, fCh, fCl, fCall, fLst, fTup, fSl, fIf, fAnd, fOr, fNot, fTru, fAndV, fOrV, fNotV, fNeg, fIsi, fM1, fM2, fRg1, fRg2, fEn, fRev, fSg, fTp, fIt, eIt, eB, eV, eC, frz, shm, aCons, aNil, poN, poS, Rs.d, Rs.sl, vB, List.cons_append, List.nil_append, List.append_nil, List.replicate_zero, List.replicate_succ, List.getElem?_cons_zero, List.getElem?_cons_succ, List.set_cons_zero, List.set_cons_succ, List.length_cons, List.length_nil, opLen, lenD, opList, opAdd, opSub, opMul, opMod, opDiv, opPow, opMin, opMax, opIx, opSl, cmpB, cEq, cNe, cIsN, cNotN, truD, tgN, tgT, setAll, isKd, opFind, opFind3, opStarts, opStarts3, Nat.reduceLT, Nat.reduceAdd, Nat.reduceSub, Nat.reduceLeDiff, Int.reduceLT, Int.reduceLE, Int.reduceNeg, reduceIte, and_self, true_and, and_true, decide_true, decide_false, Int.toNat_natCast, decide_eq_true g1]
  by_cases g2 : (f.length : Int) > 4
  · unfold i1_number_of fRaise0
    simp (disch := first | omega | assumption) only [if_pos, if_neg, decide_eq_true, decide_eq_false, atI_of, cutL_take, cutL_drop, cutL_mid, ge_iff_le, gt_iff_lt, Int.reduceToNat, Int.toNat_zero, Int.toNat_one, Bool.not_true, Bool.not_false, szl, fLcX, fRepl, fMaxD, fEnS, sStuck, fLenS, cGtA, sAppQ, sSetQ, sForT, forTL, opSortT, fDItems, fDKeys, fLcO, D.key, fDNew, fDGet, sDPutV, fDSet, fRg3, fChV, fSortL, frL, frS, fSortB, sRem, sqAt, eIxI, fItm, fItV, chS, sItC, sItA, sItI, sItS, fTmp, Sl.mut, Sl.th, O.d, sqD, D.atm, sTryR, fSq, aConsF, aNilF, eO, sTgF, setFd, Fd.sl, opJoinRev, fLRev, runDef, runDefI, ioAt, insA, chL, getO, setO, getL, setL, obAt, eFd, eFV, eFB, fFld, fMeth, fMethI, fMake, fCallI, aHere, fIsO, sFldS, setF, Rs.fd, Fd.d, O.d, fMethD, chF, sAppF, fPopF, fPop0, fPop1, sIns, sRetI, sRetNI, fZip, fML, opAny, opAll, opSorted, opMaxL, opMinL, opRfind, opCount, List.map_cons, List.map_nil, cInA, cNinA, inD, itD, fItA, eItA, cLtA, cLeA, fRr1, fRr2, opInt, sPar, fCallD, fRaise0, fRaise1, sTryAs, sTry, aftr, noX, allEq_const, fXf, fXi, fLc, lcL, unE, tYs, Vs.ret, xLock, inis, bof, sNil, sSeq, sAsg, sRet, sRetV, sRetN, sIf, sDrop, sTg, sFor, sBrk, sCnt, sApp, sExt, sOwn, sSetI, opSetI, sLock, unlk, sbnd, bnd, fOp, fCh, fCl, fCall, fLst, fTup, fSl, fIf, fAnd, fOr, fNot, fTru, fAndV, fOrV, fNotV, fNeg, fIsi, fM1, fM2, fRg1, fRg2, fEn, fRev, fSg, fTp, fIt, eIt, eB, eV, eC, frz, shm, aCons, aNil, poN, poS, Rs.d, Rs.sl, vB, List.cons_append, List.nil_append, List.append_nil, List.replicate_zero, List.replicate_succ, List.getElem?_cons_zero, List.getElem?_cons_succ, List.set_cons_zero, List.set_cons_succ, List.length_cons, List.length_nil, opLen, lenD, opList, opAdd, opSub, opMul, opMod, opDiv, opPow, opMin, opMax, opIx, opSl, cmpB, cEq, cNe, cIsN, cNotN, truD, tgN, tgT, setAll, isKd, opFind, opFind3, opStarts, opStarts3, Nat.reduceLT, Nat.reduceAdd, Nat.reduceSub, Nat.reduceLeDiff, Int.reduceLT, Int.reduceLE, Int.reduceNeg, reduceIte, and_self, true_and, and_true, decide_true, decide_false, Int.toNat_natCast, decide_eq_false g1, decide_eq_true g2]
  have i1 : i1_number_of [.sh (.str f), .un] = some (.nx [.sh (.str f), .un]) := by
    unfold i1_number_of
    simp (disch := first | omega | assumption) only [if_pos, if_neg, decide_eq_true, decide_eq_false, atI_of, cutL_take, cutL_drop, cutL_mid, ge_iff_le, gt_iff_lt, Int.reduceToNat, Int.toNat_zero, Int.toNat_one, Bool.not_true, Bool.not_false, szl, fLcX, fRepl, fMaxD, fEnS, sStuck, fLenS, cGtA, sAppQ, sSetQ, sForT, forTL, opSortT, fDItems, fDKeys, fLcO, D.key, fDNew, fDGet, sDPutV, fDSet, fRg3, fChV, fSortL, frL, frS, fSortB, sRem, sqAt, eIxI, fItm, fItV, chS, sItC, sItA, sItI, sItS, fTmp, Sl.mut, Sl.th, O.d, sqD, D.atm, sTryR, fSq, aConsF, aNilF, eO, sTgF, setFd, Fd.sl, opJoinRev, fLRev, runDef, runDefI, ioAt, insA, chL, getO, setO, getL, setL, obAt, eFd, eFV, eFB, fFld, fMeth, fMethI, fMake, fCallI, aHere, fIsO, sFldS, setF, Rs.fd, Fd.d, O.d, fMethD, chF, sAppF, fPopF, fPop0, fPop1, sIns, sRetI, sRetNI, fZip, fML, opAny, opAll, opSorted, opMaxL, opMinL, opRfind, opCount, List.map_cons, List.map_nil, cInA, cNinA, inD, itD, fItA, eItA, cLtA, cLeA, fRr1, fRr2, opInt, sPar, fCallD, fRaise0, fRaise1, sTryAs, sTry, aftr, noX, allEq_const, fXf, fXi, fLc, lcL, unE, tYs, Vs.ret, xLock, inis, bof, sNil, sSeq, sAsg, sRet, sRetV, sRetN, sIf, sDrop, sTg, sFor, sBrk, sCnt, sApp, sExt, sOwn, sSetI, opSetI, sLock, unlk, sbnd, bnd, fOp, fCh, fCl, fCall, fLst, fTup, fSl, fIf, fAnd, fOr, fNot, fTru, fAndV, fOrV, fNotV, fNeg, fIsi, fM1, fM2, fRg1, fRg2, fEn, fRev, fSg, fTp, fIt, eIt, eB, eV, eC, frz, shm, aCons, aNil, poN, poS, Rs.d, Rs.sl, vB, List.cons_append, List.nil_append, List.append_nil, List.replicate_zero, List.replicate_succ, List.getElem?_cons_zero, List.getElem?_cons_succ, List.set_cons_zero, List.set_cons_succ, List.length_cons, List.length_nil, opLen, lenD, opList, opAdd, opSub, opMul, opMod, opDiv, opPow, opMin, opMax, opIx, opSl, cmpB, cEq, cNe, cIsN, cNotN, truD, tgN, tgT, setAll, isKd, opFind, opFind3, opStarts, opStarts3, Nat.reduceLT, Nat.reduceAdd, Nat.reduceSub, Nat.reduceLeDiff, Int.reduceLT, Int.reduceLE, Int.reduceNeg, reduceIte, and_self, true_and, and_true, decide_true, decide_false, Int.toNat_natCast, decide_eq_false g1, decide_eq_false g2]
  rcases forL_findX (tg := tgN 1) (body := l1_number_of) (fun (q : Sl) => [.sh (.str f), q]) (fun c : Nat => D.str [c]) (fun c => !decide (c ∈ c_FIGURES)) (fun _ => ⟨x_NoStep, none⟩) f .un (fun c hc q => by
    refine ⟨_, rfl, ?_⟩
    unfold l1_number_of i2_number_of fRaise0
    by_cases m : c ∈ c_FIGURES
    · refine .inr ⟨by rw [decide_eq_true m]; rfl, .sh (.str [c]), ?_⟩
      simp (disch := first | omega | assumption) only [if_pos, if_neg, decide_eq_true, decide_eq_false, atI_of, cutL_take, cutL_drop, cutL_mid, ge_iff_le, gt_iff_lt, Int.reduceToNat, Int.toNat_zero, Int.toNat_one, Bool.not_true, Bool.not_false, szl, fLcX, fRepl, fMaxD, fEnS, sStuck, fLenS, cGtA, sAppQ, sSetQ, sForT, forTL, opSortT, fDItems, fDKeys, fLcO, D.key, fDNew, fDGet, sDPutV, fDSet, fRg3, fChV, fSortL, frL, frS, fSortB, sRem, sqAt, eIxI, fItm, fItV, chS, sItC, sItA, sItI, sItS, fTmp, Sl.mut, Sl.th, O.d, sqD, D.atm, sTryR, fSq, aConsF, aNilF, eO, sTgF, setFd, Fd.sl, opJoinRev, fLRev, runDef, runDefI, ioAt, insA, chL, getO, setO, getL, setL, obAt, eFd, eFV, eFB, fFld, fMeth, fMethI, fMake, fCallI, aHere, fIsO, sFldS, setF, Rs.fd, Fd.d, O.d, fMethD, chF, sAppF, fPopF, fPop0, fPop1, sIns, sRetI, sRetNI, fZip, fML, opAny, opAll, opSorted, opMaxL, opMinL, opRfind, opCount, List.map_cons, List.map_nil, cInA, cNinA, inD, itD, fItA, eItA, cLtA, cLeA, fRr1, fRr2, opInt, sPar, fCallD, fRaise0, fRaise1, sTryAs, sTry, aftr, noX, allEq_const, fXf, fXi, fLc, lcL, unE, tYs, Vs.ret, xLock, inis, bof, sNil, sSeq, sAsg, sRet, sRetV, sRetN, sIf, sDrop, sTg, sFor, sBrk, sCnt, sApp, sExt, sOwn, sSetI, opSetI, sLock, unlk, sbnd, bnd, fOp, fCh, fCl, fCall, fLst, fTup, fSl, fIf, fAnd, fOr, fNot, fTru, fAndV, fOrV, fNotV, fNeg, fIsi, fM1, fM2, fRg1, fRg2, fEn, fRev, fSg, fTp, fIt, eIt, eB, eV, eC, frz, shm, aCons, aNil, poN, poS, Rs.d, Rs.sl, vB, List.cons_append, List.nil_append, List.append_nil, List.replicate_zero, List.replicate_succ, List.getElem?_cons_zero, List.getElem?_cons_succ, List.set_cons_zero, List.set_cons_succ, List.length_cons, List.length_nil, opLen, lenD, opList, opAdd, opSub, opMul, opMod, opDiv, opPow, opMin, opMax, opIx, opSl, cmpB, cEq, cNe, cIsN, cNotN, truD, tgN, tgT, setAll, isKd, opFind, opFind3, opStarts, opStarts3, Nat.reduceLT, Nat.reduceAdd, Nat.reduceSub, Nat.reduceLeDiff, Int.reduceLT, Int.reduceLE, Int.reduceNeg, reduceIte, and_self, true_and, and_true, decide_true, decide_false, Int.toNat_natCast, cNinA, cInA, cNin, cIn, decide_eq_true m, Bool.not_true]
    · refine .inl ⟨by rw [decide_eq_false m]; rfl, .sh (.str [c]), ?_⟩
      simp (disch := first | omega | assumption) only [if_pos, if_neg, decide_eq_true, decide_eq_false, atI_of, cutL_take, cutL_drop, cutL_mid, ge_iff_le, gt_iff_lt, Int.reduceToNat, Int.toNat_zero, Int.toNat_one, Bool.not_true, Bool.not_false, szl, fLcX, fRepl, fMaxD, fEnS, sStuck, fLenS, cGtA, sAppQ, sSetQ, sForT, forTL, opSortT, fDItems, fDKeys, fLcO, D.key, fDNew, fDGet, sDPutV, fDSet, fRg3, fChV, fSortL, frL, frS, fSortB, sRem, sqAt, eIxI, fItm, fItV, chS, sItC, sItA, sItI, sItS, fTmp, Sl.mut, Sl.th, O.d, sqD, D.atm, sTryR, fSq, aConsF, aNilF, eO, sTgF, setFd, Fd.sl, opJoinRev, fLRev, runDef, runDefI, ioAt, insA, chL, getO, setO, getL, setL, obAt, eFd, eFV, eFB, fFld, fMeth, fMethI, fMake, fCallI, aHere, fIsO, sFldS, setF, Rs.fd, Fd.d, O.d, fMethD, chF, sAppF, fPopF, fPop0, fPop1, sIns, sRetI, sRetNI, fZip, fML, opAny, opAll, opSorted, opMaxL, opMinL, opRfind, opCount, List.map_cons, List.map_nil, cInA, cNinA, inD, itD, fItA, eItA, cLtA, cLeA, fRr1, fRr2, opInt, sPar, fCallD, fRaise0, fRaise1, sTryAs, sTry, aftr, noX, allEq_const, fXf, fXi, fLc, lcL, unE, tYs, Vs.ret, xLock, inis, bof, sNil, sSeq, sAsg, sRet, sRetV, sRetN, sIf, sDrop, sTg, sFor, sBrk, sCnt, sApp, sExt, sOwn, sSetI, opSetI, sLock, unlk, sbnd, bnd, fOp, fCh, fCl, fCall, fLst, fTup, fSl, fIf, fAnd, fOr, fNot, fTru, fAndV, fOrV, fNotV, fNeg, fIsi, fM1, fM2, fRg1, fRg2, fEn, fRev, fSg, fTp, fIt, eIt, eB, eV, eC, frz, shm, aCons, aNil, poN, poS, Rs.d, Rs.sl, vB, List.cons_append, List.nil_append, List.append_nil, List.replicate_zero, List.replicate_succ, List.getElem?_cons_zero, List.getElem?_cons_succ, List.set_cons_zero, List.set_cons_succ, List.length_cons, List.length_nil, opLen, lenD, opList, opAdd, opSub, opMul, opMod, opDiv, opPow, opMin, opMax, opIx, opSl, cmpB, cEq, cNe, cIsN, cNotN, truD, tgN, tgT, setAll, isKd, opFind, opFind3, opStarts, opStarts3, Nat.reduceLT, Nat.reduceAdd, Nat.reduceSub, Nat.reduceLeDiff, Int.reduceLT, Int.reduceLE, Int.reduceNeg, reduceIte, and_self, true_and, and_true, decide_true, decide_false, Int.toNat_natCast, cNinA, cInA, cNin, cIn, decide_eq_false m, Bool.not_false]) with ⟨b, hb, hm, j, f1⟩ | ⟨hn, j, f1⟩
  · simp (disch := first | omega | assumption) only [if_pos, if_neg, decide_eq_true, decide_eq_false, atI_of, cutL_take, cutL_drop, cutL_mid, ge_iff_le, gt_iff_lt, Int.reduceToNat, Int.toNat_zero, Int.toNat_one, Bool.not_true, Bool.not_false, szl, fLcX, fRepl, fMaxD, fEnS, sStuck, fLenS, cGtA, sAppQ, sSetQ, sForT, forTL, opSortT, fDItems, fDKeys, fLcO, D.key, fDNew, fDGet, sDPutV, fDSet, fRg3, fChV, fSortL, frL, frS, fSortB, sRem, sqAt, eIxI, fItm, fItV, chS, sItC, sItA, sItI, sItS, fTmp, Sl.mut, Sl.th, O.d, sqD, D.atm, sTryR, fSq, aConsF, aNilF, eO, sTgF, setFd, Fd.sl, opJoinRev, fLRev, runDef, runDefI, ioAt, insA, chL, getO, setO, getL, setL, obAt, eFd, eFV, eFB, fFld, fMeth, fMethI, fMake, fCallI, aHere, fIsO, sFldS, setF, Rs.fd, Fd.d, O.d, fMethD, chF, sAppF, fPopF, fPop0, fPop1, sIns, sRetI, sRetNI, fZip, fML, opAny, opAll, opSorted, opMaxL, opMinL, opRfind, opCount, List.map_cons, List.map_nil, cInA, cNinA, inD, itD, fItA, eItA, cLtA, cLeA, fRr1, fRr2, opInt, sPar, fCallD, fRaise0, fRaise1, sTryAs, sTry, aftr, noX, allEq_const, fXf, fXi, fLc, lcL, unE, tYs, Vs.ret, xLock, inis, bof, sNil, sSeq, sAsg, sRet, sRetV, sRetN, sIf, sDrop, sTg, sFor, sBrk, sCnt, sApp, sExt, sOwn, sSetI, opSetI, sLock, unlk, sbnd, bnd, fOp, fCh, fCl, fCall, fLst, fTup, fSl, fIf, fAnd, fOr, fNot, fTru, fAndV, fOrV, fNotV, fNeg, fIsi, fM1, fM2, fRg1, fRg2, fEn, fRev, fSg, fTp, fIt, eIt, eB, eV, eC, frz, shm, aCons, aNil, poN, poS, Rs.d, Rs.sl, vB, List.cons_append, List.nil_append, List.append_nil, List.replicate_zero, List.replicate_succ, List.getElem?_cons_zero, List.getElem?_cons_succ, List.set_cons_zero, List.set_cons_succ, List.length_cons, List.length_nil, opLen, lenD, opList, opAdd, opSub, opMul, opMod, opDiv, opPow, opMin, opMax, opIx, opSl, cmpB, cEq, cNe, cIsN, cNotN, truD, tgN, tgT, setAll, isKd, opFind, opFind3, opStarts, opStarts3, Nat.reduceLT, Nat.reduceAdd, Nat.reduceSub, Nat.reduceLeDiff, Int.reduceLT, Int.reduceLE, Int.reduceNeg, reduceIte, and_self, true_and, and_true, decide_true, decide_false, Int.toNat_natCast, i1, itD, f1]
  · have hd : ∀ c ∈ f, 48 ≤ c ∧ c ≤ 57 := fun c hc => by
      have := List.find?_eq_none.mp hn c hc
      have m : c ∈ c_FIGURES := by simpa using this
      exact fig_mem.mp m
    have q1 : f.length > 1 ∧ f.head? = some 48 := by
      by_cases q : 1 < f.length ∧ f.head? = some 48
      · exact q
      · exact absurd (isnum_of (by omega) (by omega) hd fun hl z => q ⟨hl, z⟩) h
    have g3 : (f.length : Int) > 1 := by omega
    have g4 : f[0]? = some 48 := by rw [← List.head?_eq_getElem?]; exact q1.2
    have i3 : i3_number_of [.sh (.str f), j] = some (.ex ⟨x_NoStep, none⟩ [.sh (.str f), j]) := by
      unfold i3_number_of fRaise0
      simp (disch := first | omega | assumption) only [if_pos, if_neg, decide_eq_true, decide_eq_false, atI_of, cutL_take, cutL_drop, cutL_mid, ge_iff_le, gt_iff_lt, Int.reduceToNat, Int.toNat_zero, Int.toNat_one, Bool.not_true, Bool.not_false, szl, fLcX, fRepl, fMaxD, fEnS, sStuck, fLenS, cGtA, sAppQ, sSetQ, sForT, forTL, opSortT, fDItems, fDKeys, fLcO, D.key, fDNew, fDGet, sDPutV, fDSet, fRg3, fChV, fSortL, frL, frS, fSortB, sRem, sqAt, eIxI, fItm, fItV, chS, sItC, sItA, sItI, sItS, fTmp, Sl.mut, Sl.th, O.d, sqD, D.atm, sTryR, fSq, aConsF, aNilF, eO, sTgF, setFd, Fd.sl, opJoinRev, fLRev, runDef, runDefI, ioAt, insA, chL, getO, setO, getL, setL, obAt, eFd, eFV, eFB, fFld, fMeth, fMethI, fMake, fCallI, aHere, fIsO, sFldS, setF, Rs.fd, Fd.d, O.d, fMethD, chF, sAppF, fPopF, fPop0, fPop1, sIns, sRetI, sRetNI, fZip, fML, opAny, opAll, opSorted, opMaxL, opMinL, opRfind, opCount, List.map_cons, List.map_nil, cInA, cNinA, inD, itD, fItA, eItA, cLtA, cLeA, fRr1, fRr2, opInt, sPar, fCallD, fRaise0, fRaise1, sTryAs, sTry, aftr, noX, allEq_const, fXf, fXi, fLc, lcL, unE, tYs, Vs.ret, xLock, inis, bof, sNil, sSeq, sAsg, sRet, sRetV, sRetN, sIf, sDrop, sTg, sFor, sBrk, sCnt, sApp, sExt, sOwn, sSetI, opSetI, sLock, unlk, sbnd, bnd, fOp, fCh, fCl, fCall, fLst, fTup, fSl, fIf, fAnd, fOr, fNot, fTru, fAndV, fOrV, fNotV, fNeg, fIsi, fM1, fM2, fRg1, fRg2, fEn, fRev, fSg, fTp, fIt, eIt, eB, eV, eC, frz, shm, aCons, aNil, poN, poS, Rs.d, Rs.sl, vB, List.cons_append, List.nil_append, List.append_nil, List.replicate_zero, List.replicate_succ, List.getElem?_cons_zero, List.getElem?_cons_succ, List.set_cons_zero, List.set_cons_succ, List.length_cons, List.length_nil, opLen, lenD, opList, opAdd, opSub, opMul, opMod, opDiv, opPow, opMin, opMax, opIx, opSl, cmpB, cEq, cNe, cIsN, cNotN, truD, tgN, tgT, setAll, isKd, opFind, opFind3, opStarts, opStarts3, Nat.reduceLT, Nat.reduceAdd, Nat.reduceSub, Nat.reduceLeDiff, Int.reduceLT, Int.reduceLE, Int.reduceNeg, reduceIte, and_self, true_and, and_true, decide_true, decide_false, Int.toNat_natCast, decide_eq_true g3, g4, decide_true]
    simp (disch := first | omega | assumption) only [if_pos, if_neg, decide_eq_true, decide_eq_false, atI_of, cutL_take, cutL_drop, cutL_mid, ge_iff_le, gt_iff_lt, Int.reduceToNat, Int.toNat_zero, Int.toNat_one, Bool.not_true, Bool.not_false, szl, fLcX, fRepl, fMaxD, fEnS, sStuck, fLenS, cGtA, sAppQ, sSetQ, sForT, forTL, opSortT, fDItems, fDKeys, fLcO, D.key, fDNew, fDGet, sDPutV, fDSet, fRg3, fChV, fSortL, frL, frS, fSortB, sRem, sqAt, eIxI, fItm, fItV, chS, sItC, sItA, sItI, sItS, fTmp, Sl.mut, Sl.th, O.d, sqD, D.atm, sTryR, fSq, aConsF, aNilF, eO, sTgF, setFd, Fd.sl, opJoinRev, fLRev, runDef, runDefI, ioAt, insA, chL, getO, setO, getL, setL, obAt, eFd, eFV, eFB, fFld, fMeth, fMethI, fMake, fCallI, aHere, fIsO, sFldS, setF, Rs.fd, Fd.d, O.d, fMethD, chF, sAppF, fPopF, fPop0, fPop1, sIns, sRetI, sRetNI, fZip, fML, opAny, opAll, opSorted, opMaxL, opMinL, opRfind, opCount, List.map_cons, List.map_nil, cInA, cNinA, inD, itD, fItA, eItA, cLtA, cLeA, fRr1, fRr2, opInt, sPar, fCallD, fRaise0, fRaise1, sTryAs, sTry, aftr, noX, allEq_const, fXf, fXi, fLc, lcL, unE, tYs, Vs.ret, xLock, inis, bof, sNil, sSeq, sAsg, sRet, sRetV, sRetN, sIf, sDrop, sTg, sFor, sBrk, sCnt, sApp, sExt, sOwn, sSetI, opSetI, sLock, unlk, sbnd, bnd, fOp, fCh, fCl, fCall, fLst, fTup, fSl, fIf, fAnd, fOr, fNot, fTru, fAndV, fOrV, fNotV, fNeg, fIsi, fM1, fM2, fRg1, fRg2, fEn, fRev, fSg, fTp, fIt, eIt, eB, eV, eC, frz, shm, aCons, aNil, poN, poS, Rs.d, Rs.sl, vB, List.cons_append, List.nil_append, List.append_nil, List.replicate_zero, List.replicate_succ, List.getElem?_cons_zero, List.getElem?_cons_succ, List.set_cons_zero, List.set_cons_succ, List.length_cons, List.length_nil, opLen, lenD, opList, opAdd, opSub, opMul, opMod, opDiv, opPow, opMin, opMax, opIx, opSl, cmpB, cEq, cNe, cIsN, cNotN, truD, tgN, tgT, setAll, isKd, opFind, opFind3, opStarts, opStarts3, Nat.reduceLT, Nat.reduceAdd, Nat.reduceSub, Nat.reduceLeDiff, Int.reduceLT, Int.reduceLE, Int.reduceNeg, reduceIte, and_self, true_and, and_true, decide_true, decide_false, Int.toNat_natCast, i1, itD, f1, i3]
theorem e_number_good {f : List Nat} (h : IsNum f) : g_number_of [.str f] = some (.rt (.sh (.int ((vl f : Nat) : Int)))) := by
  obtain ⟨n, hn, rfl⟩ := h
  rw [vl_num]
  exact e_number_of hn
theorem lnum_loop (f : List Nat) : ∀ (l : List Nat) (v : Nat) (s2 s3 : Sl), (v + 1) * 10 ^ l.length ≤ 100000 →
    ((∃ c ∈ l, ¬ (48 ≤ c ∧ c ≤ 57)) ∧ forL (tgN 2) l1_law_number (l.map fun c => D.str [c]) [.sh (.str f), .sh (.int (v : Int)), s2, s3] = some (.rt (.sh (.int (-1))))) ∨
    ((∀ c ∈ l, 48 ≤ c ∧ c ≤ 57) ∧ ∃ t2 t3, forL (tgN 2) l1_law_number (l.map fun c => D.str [c]) [.sh (.str f), .sh (.int (v : Int)), s2, s3] = some (.nx [.sh (.str f), .sh (.int ((l.foldl (fun v c => 10 * v + (c - 48)) v : Nat) : Int)), t2, t3]))
  | [], v, s2, s3, _ => .inr ⟨(fun _ m => nomatch m), s2, s3, rfl⟩
  | c :: l, v, s2, s3, hv => by
    have p : 0 < 10 ^ l.length := Nat.pow_pos (by decide)
    rw [List.length_cons, Nat.pow_succ] at hv
    have hv2 : (10 * v + 10) * 10 ^ l.length ≤ 100000 := by
      have e : (v + 1) * (10 ^ l.length * 10) = (10 * v + 10) * 10 ^ l.length := by
        rw [Nat.mul_comm (10 ^ l.length) 10, ← Nat.mul_assoc, Nat.add_mul, Nat.mul_comm v 10]
      rw [← e]; exact hv
    have vb : 10 * v + 10 ≤ 100000 := Nat.le_trans (Nat.le_mul_of_pos_right _ p) hv2
    have i1 : Builtin.Int.intBits 10 + Builtin.Int.intBits (v : Int) ≤ 134217728 := by
      have h1 : Builtin.Int.intBits (v : Int) ≤ 32 := PyProof.Rows.intBits_le (show (v : Int).natAbs < 2 ^ 32 by omega)
      have h2 : Builtin.Int.intBits 10 ≤ 100 := by decide
      omega
    by_cases d : 48 ≤ c ∧ c ≤ 57
    · have fi : Txt.find (S [48, 49, 50, 51, 52, 53, 54, 55, 56, 57]) (S [c]) = ((c - 48 : Nat) : Int) := by
        have : c = 48 ∨ c = 49 ∨ c = 50 ∨ c = 51 ∨ c = 52 ∨ c = 53 ∨ c = 54 ∨ c = 55 ∨ c = 56 ∨ c = 57 := by omega
        have q := find_idx (L := [48, 49, 50, 51, 52, 53, 54, 55, 56, 57]) (c := c) (by rcases this with rfl | rfl | rfl | rfl | rfl | rfl | rfl | rfl | rfl | rfl <;> simp)
        rw [q]
        rcases this with rfl | rfl | rfl | rfl | rfl | rfl | rfl | rfl | rfl | rfl <;> rfl
      have hc : ¬ ((c - 48 : Nat) : Int) < 0 := by omega
      have st : l1_law_number [.sh (.str f), .sh (.int (v : Int)), .sh (.str [c]), s3] = some (.nx [.sh (.str f), .sh (.int ((10 * v + (c - 48) : Nat) : Int)), .sh (.str [c]), .sh (.int ((c - 48 : Nat) : Int))]) := by
        have e : 10 * (v : Int) + ((c - 48 : Nat) : Int) = ((10 * v + (c - 48) : Nat) : Int) := by omega
        rw [← e]
        obtain ⟨K, hK⟩ : ∃ K : Int, K = ((c - 48 : Nat) : Int) := ⟨_, rfl⟩
        rw [← hK] at fi hc ⊢
        unfold l1_law_number i2_law_number
        simp (disch := first | omega | assumption) only [if_pos, if_neg, decide_eq_true, decide_eq_false, atI_of, cutL_take, cutL_drop, cutL_mid, ge_iff_le, gt_iff_lt, Int.reduceToNat, Int.toNat_zero, Int.toNat_one, Bool.not_true, Bool.not_false, szl, fLcX, fRepl, fMaxD, fEnS, sStuck, fLenS, cGtA, sAppQ, sSetQ, sForT, forTL, opSortT, fDItems, fDKeys, fLcO, D.key, fDNew, fDGet, sDPutV, fDSet, fRg3, fChV, fSortL, frL, frS, fSortB, sRem, sqAt, eIxI, fItm, fItV, chS, sItC, sItA, sItI, sItS, fTmp, Sl.mut, Sl.th, O.d, sqD, D.atm, sTryR, fSq, aConsF, aNilF, eO, sTgF, setFd, Fd.sl, opJoinRev, fLRev, runDef, runDefI, ioAt, insA, chL, getO, setO, getL, setL, obAt, eFd, eFV, eFB, fFld, fMeth, fMethI, fMake, fCallI, aHere, fIsO, sFldS, setF, Rs.fd, Fd.d, O.d, fMethD, chF, sAppF, fPopF, fPop0, fPop1, sIns, sRetI, sRetNI, fZip, fML, opAny, opAll, opSorted, opMaxL, opMinL, opRfind, opCount, List.map_cons, List.map_nil, cInA, cNinA, inD, itD, fItA, eItA, cLtA, cLeA, fRr1, fRr2, opInt, sPar, fCallD, fRaise0, fRaise1, sTryAs, sTry, aftr, noX, allEq_const, fXf, fXi, fLc, lcL, unE, tYs, Vs.ret, xLock, inis, bof, sNil, sSeq, sAsg, sRet, sRetV, sRetN, sIf, sDrop, sTg, sFor, sBrk, sCnt, sApp, sExt, sOwn, sSetI, opSetI, sLock, unlk, sbnd, bnd, fOp, fCh, fCl, fCall, fLst, fTup, fSl, fIf, fAnd, fOr, fNot, fTru, fAndV, fOrV, fNotV, fNeg, fIsi, fM1, fM2, fRg1, fRg2, fEn, fRev, fSg, fTp, fIt, eIt, eB, eV, eC, frz, shm, aCons, aNil, poN, poS, Rs.d, Rs.sl, vB, List.cons_append, List.nil_append, List.append_nil, List.replicate_zero, List.replicate_succ, List.getElem?_cons_zero, List.getElem?_cons_succ, List.set_cons_zero, List.set_cons_succ, List.length_cons, List.length_nil, opLen, lenD, opList, opAdd, opSub, opMul, opMod, opDiv, opPow, opMin, opMax, opIx, opSl, cmpB, cEq, cNe, cIsN, cNotN, truD, tgN, tgT, setAll, isKd, opFind, opFind3, opStarts, opStarts3, Nat.reduceLT, Nat.reduceAdd, Nat.reduceSub, Nat.reduceLeDiff, Int.reduceLT, Int.reduceLE, Int.reduceNeg, reduceIte, and_self, true_and, and_true, decide_true, decide_false, Int.toNat_natCast, fi, decide_eq_false hc]
      have go : forL (tgN 2) l1_law_number ((c :: l).map fun c => D.str [c]) [.sh (.str f), .sh (.int (v : Int)), s2, s3] = forL (tgN 2) l1_law_number (l.map fun c => D.str [c]) [.sh (.str f), .sh (.int ((10 * v + (c - 48) : Nat) : Int)), .sh (.str [c]), .sh (.int ((c - 48 : Nat) : Int))] := by
        rw [List.map_cons, forL]
        have t : tgN 2 (D.str [c]) [.sh (.str f), .sh (.int (v : Int)), s2, s3] = some [.sh (.str f), .sh (.int (v : Int)), .sh (.str [c]), s3] := rfl
        rw [t]
        dsimp only
        rw [st]
      rw [go]
      rcases lnum_loop f l (10 * v + (c - 48)) (.sh (.str [c])) (.sh (.int ((c - 48 : Nat) : Int))) (Nat.le_trans (Nat.mul_le_mul_right _ (by omega)) hv2) with ⟨⟨x, m, hx⟩, e⟩ | ⟨h, e⟩
      · exact .inl ⟨⟨x, List.mem_cons_of_mem _ m, hx⟩, e⟩
      · exact .inr ⟨fun x m => (List.mem_cons.mp m).elim (fun z => z ▸ d) (h x), e⟩
    · refine .inl ⟨⟨c, List.mem_cons_self, d⟩, ?_⟩
      have fi : Txt.find (S [48, 49, 50, 51, 52, 53, 54, 55, 56, 57]) (S [c]) = -1 := find_none (fun m => d (by
        simp only [List.mem_cons, List.not_mem_nil, or_false] at m
        omega))
      have st : l1_law_number [.sh (.str f), .sh (.int (v : Int)), .sh (.str [c]), s3] = some (.rt (.sh (.int (-1)))) := by
        have hc : (-1 : Int) < 0 := by decide
        unfold l1_law_number i2_law_number
        simp (disch := first | omega | assumption) only [if_pos, if_neg, decide_eq_true, decide_eq_false, atI_of, cutL_take, cutL_drop, cutL_mid, ge_iff_le, gt_iff_lt, Int.reduceToNat, Int.toNat_zero, Int.toNat_one, Bool.not_true, Bool.not_false, szl, fLcX, fRepl, fMaxD, fEnS, sStuck, fLenS, cGtA, sAppQ, sSetQ, sForT, forTL, opSortT, fDItems, fDKeys, fLcO, D.key, fDNew, fDGet, sDPutV, fDSet, fRg3, fChV, fSortL, frL, frS, fSortB, sRem, sqAt, eIxI, fItm, fItV, chS, sItC, sItA, sItI, sItS, fTmp, Sl.mut, Sl.th, O.d, sqD, D.atm, sTryR, fSq, aConsF, aNilF, eO, sTgF, setFd, Fd.sl, opJoinRev, fLRev, runDef, runDefI, ioAt, insA, chL, getO, setO, getL, setL, obAt, eFd, eFV, eFB, fFld, fMeth, fMethI, fMake, fCallI, aHere, fIsO, sFldS, setF, Rs.fd, Fd.d, O.d, fMethD, chF, sAppF, fPopF, fPop0, fPop1, sIns, sRetI, sRetNI, fZip, fML, opAny, opAll, opSorted, opMaxL, opMinL, opRfind, opCount, List.map_cons, List.map_nil, cInA, cNinA, inD, itD, fItA, eItA, cLtA, cLeA, fRr1, fRr2, opInt, sPar, fCallD, fRaise0, fRaise1, sTryAs, sTry, aftr, noX, allEq_const, fXf, fXi, fLc, lcL, unE, tYs, Vs.ret, xLock, inis, bof, sNil, sSeq, sAsg, sRet, sRetV, sRetN, sIf, sDrop, sTg, sFor, sBrk, sCnt, sApp, sExt, sOwn, sSetI, opSetI, sLock, unlk, sbnd, bnd, fOp, fCh, fCl, fCall, fLst, fTup, fSl, fIf, fAnd, fOr, fNot, fTru, fAndV, fOrV, fNotV, fNeg, fIsi, fM1, fM2, fRg1, fRg2, fEn, fRev, fSg, fTp, fIt, eIt, eB, eV, eC, frz, shm, aCons, aNil, poN, poS, Rs.d, Rs.sl, vB, List.cons_append, List.nil_append, List.append_nil, List.replicate_zero, List.replicate_succ, List.getElem?_cons_zero, List.getElem?_cons_succ, List.set_cons_zero, List.set_cons_succ, List.length_cons, List.length_nil, opLen, lenD, opList, opAdd, opSub, opMul, opMod, opDiv, opPow, opMin, opMax, opIx, opSl, cmpB, cEq, cNe, cIsN, cNotN, truD, tgN, tgT, setAll, isKd, opFind, opFind3, opStarts, opStarts3, Nat.reduceLT, Nat.reduceAdd, Nat.reduceSub, Nat.reduceLeDiff, Int.reduceLT, Int.reduceLE, Int.reduceNeg, reduceIte, and_self, true_and, and_true, decide_true, decide_false, Int.toNat_natCast, fi, decide_eq_true hc]
      rw [List.map_cons, forL]
      have t : tgN 2 (D.str [c]) [.sh (.str f), .sh (.int (v : Int)), s2, s3] = some [.sh (.str f), .sh (.int (v : Int)), .sh (.str [c]), s3] := rfl
      rw [t]
      dsimp only
      rw [st]
theorem e_lnumber {f : List Nat} (hl : f.length ≤ 1000) : (IsNum f ∧ g_law_number [.str f] = some (.rt (.sh (.int ((vl f : Nat) : Int))))) ∨ (¬ IsNum f ∧ g_law_number [.str f] = some (.rt (.sh (.int (-1))))) := by
  have neg : ∀ (P : ¬ IsNum f) (j : i1_law_number [.sh (.str f), .un, .un, .un] = some (.rt (.sh (.int (-1))))), (IsNum f ∧ g_law_number [.str f] = some (.rt (.sh (.int ((vl f : Nat) : Int))))) ∨ (¬ IsNum f ∧ g_law_number [.str f] = some (.rt (.sh (.int (-1))))) := fun P j => by
    refine .inr ⟨P, ?_⟩
    unfold g_law_number b_law_number
    simp (disch := first | omega | assumption) only [if_pos, if_neg, decide_eq_true, decide_eq_false, atI_of, cutL_take, cutL_drop, cutL_mid, ge_iff_le, gt_iff_lt, Int.reduceToNat, Int.toNat_zero, Int.toNat_one, Bool.not_true, Bool.not_false, szl, fLcX, fRepl, fMaxD, fEnS, sStuck, fLenS, cGtA, sAppQ, sSetQ, sForT, forTL, opSortT, fDItems, fDKeys, fLcO, D.key, fDNew, fDGet, sDPutV, fDSet, fRg3, fChV, fSortL, frL, frS, fSortB, sRem, sqAt, eIxI, fItm, fItV, chS, sItC, sItA, sItI, sItS, fTmp, Sl.mut, Sl.th, O.d, sqD, D.atm, sTryR, fSq, aConsF, aNilF, eO, sTgF, setFd, Fd.sl, opJoinRev, fLRev, runDef, runDefI, ioAt, insA, chL, getO, setO, getL, setL, obAt, eFd, eFV, eFB, fFld, fMeth, fMethI, fMake, fCallI, aHere, fIsO, sFldS, setF, Rs.fd, Fd.d, O.d, fMethD, chF, sAppF, fPopF, fPop0, fPop1, sIns, sRetI, sRetNI, fZip, fML, opAny, opAll, opSorted, opMaxL, opMinL, opRfind, opCount, List.map_cons, List.map_nil, cInA, cNinA, inD, itD, fItA, eItA, cLtA, cLeA, fRr1, fRr2, opInt, sPar, fCallD, fRaise0, fRaise1, sTryAs, sTry, aftr, noX, allEq_const, fXf, fXi, fLc, lcL, unE, tYs, Vs.ret, xLock, inis, bof, sNil, sSeq, sAsg, sRet, sRetV, sRetN, sIf, sDrop, sTg, sFor, sBrk, sCnt, sApp, sExt, sOwn, sSetI, opSetI, sLock, unlk, sbnd, bnd, fOp, fCh, fCl, fCall, fLst, fTup, fSl, fIf, fAnd, fOr, fNot, fTru, fAndV, fOrV, fNotV, fNeg, fIsi, fM1, fM2, fRg1, fRg2, fEn, fRev, fSg, fTp, fIt, eIt, eB, eV, eC, frz, shm, aCons, aNil, poN, poS, Rs.d, Rs.sl, vB, List.cons_append, List.nil_append, List.append_nil, List.replicate_zero, List.replicate_succ, List.getElem?_cons_zero, List.getElem?_cons_succ, List.set_cons_zero, List.set_cons_succ, List.length_cons, List.length_nil, opLen, lenD, opList, opAdd, opSub, opMul, opMod, opDiv, opPow, opMin, opMax, opIx, opSl, cmpB, cEq, cNe, cIsN, cNotN, truD, tgN, tgT, setAll, isKd, opFind, opFind3, opStarts, opStarts3, Nat.reduceLT, Nat.reduceAdd, Nat.reduceSub, Nat.reduceLeDiff, Int.reduceLT, Int.reduceLE, Int.reduceNeg, reduceIte, and_self, true_and, and_true, decide_true, decide_false, Int.toNat_natCast, j]
  have sz : ∀ n : Nat, n < 10000 → 1 ≤ (TL.numL n).length ∧ (TL.numL n).length ≤ 4 := fun n h => num_len h
  by_cases g1 : (f.length : Int) < 1
  · refine neg (fun ⟨n, hn, e⟩ => ?_) ?_
    · have := sz n hn
      rw [← e] at this
      omega
    · unfold i1_law_number
      simp (disch := first | omega | assumption) only [if_pos, if_neg, decide_eq_true, decide_eq_false, atI_of, cutL_take, cutL_drop, cutL_mid, ge_iff_le, gt_iff_lt, Int.reduceToNat, Int.toNat_zero, Int.toNat_one, Bool.not_true, Bool.not_false, szl, fLcX, fRepl, fMaxD, fEnS, sStuck, fLenS, cGtA, sAppQ, sSetQ, sForT, forTL, opSortT, fDItems, fDKeys, fLcO, D.key, fDNew, fDGet, sDPutV, fDSet, fRg3, fChV, fSortL, frL, frS, fSortB, sRem, sqAt, eIxI, fItm, fItV, chS, sItC, sItA, sItI, sItS, fTmp, Sl.mut, Sl.th, O.d, sqD, D.atm, sTryR, fSq, aConsF, aNilF, eO, sTgF, setFd, Fd.sl, opJoinRev, fLRev, runDef, runDefI, ioAt, insA, chL, getO, setO, getL, setL, obAt, eFd, eFV, eFB, fFld, fMeth, fMethI, fMake, fCallI, aHere, fIsO, sFldS, setF, Rs.fd, Fd.d, O.d, fMethD, chF, sAppF, fPopF, fPop0, fPop1, sIns, sRetI, sRetNI, fZip, fML, opAny, opAll, opSorted, opMaxL, opMinL, opRfind, opCount, List.map_cons, List.map_nil, cInA, cNinA, inD, itD, fItA, eItA, cLtA, cLeA, fRr1, fRr2, opInt, sPar, fCallD, fRaise0, fRaise1, sTryAs, sTry, aftr, noX, allEq_const, fXf, fXi, fLc, lcL, unE, tYs, Vs.ret, xLock, inis, bof, sNil, sSeq, sAsg, sRet, sRetV, sRetN, sIf, sDrop, sTg, sFor, sBrk, sCnt, sApp, sExt, sOwn, sSetI, opSetI, sLock, unlk, sbnd, bnd, fOp, fCh, fCl, fCall, fLst, fTup, fSl, fIf, fAnd, fOr, fNot, fTru, fAndV, fOrV, fNotV, fNeg, fIsi, fM1, fM2, fRg1, fRg2, fEn, fRev, fSg, fTp, fIt, eIt, eB, eV, eC, frz, shm, aCons, aNil, poN, poS, Rs.d, Rs.sl, vB, List.cons_append, List.nil_append, List.append_nil, List.replicate_zero, List.replicate_succ, List.getElem?_cons_zero, List.getElem?_cons_succ, List.set_cons_zero, List.set_cons_succ, List.length_cons, List.length_nil, opLen, lenD, opList, opAdd, opSub, opMul, opMod, opDiv, opPow, opMin, opMax, opIx, opSl, cmpB, cEq, cNe, cIsN, cNotN, truD, tgN, tgT, setAll, isKd, opFind, opFind3, opStarts, opStarts3, Nat.reduceLT, Nat.reduceAdd, Nat.reduceSub, Nat.reduceLeDiff, Int.reduceLT, Int.reduceLE, Int.reduceNeg, reduceIte, and_self, true_and, and_true, decide_true, decide_false, Int.toNat_natCast, decide_eq_true g1]
  by_cases g2 : (f.length : Int) > 4
  · refine neg (fun ⟨n, hn, e⟩ => ?_) ?_
    · have := sz n hn
      rw [← e] at this
      omega
    · unfold i1_law_number
      simp (disch := first | omega | assumption) only [if_pos, if_neg, decide_eq_true, decide_eq_false, atI_of, cutL_take, cutL_drop, cutL_mid, ge_iff_le, gt_iff_lt, Int.reduceToNat, Int.toNat_zero, Int.toNat_one, Bool.not_true, Bool.not_false, szl, fLcX, fRepl, fMaxD, fEnS, sStuck, fLenS, cGtA, sAppQ, sSetQ, sForT, forTL, opSortT, fDItems, fDKeys, fLcO, D.key, fDNew, fDGet, sDPutV, fDSet, fRg3, fChV, fSortL, frL, frS, fSortB, sRem, sqAt, eIxI, fItm, fItV, chS, sItC, sItA, sItI, sItS, fTmp, Sl.mut, Sl.th, O.d, sqD, D.atm, sTryR, fSq, aConsF, aNilF, eO, sTgF, setFd, Fd.sl, opJoinRev, fLRev, runDef, runDefI, ioAt, insA, chL, getO, setO, getL, setL, obAt, eFd, eFV, eFB, fFld, fMeth, fMethI, fMake, fCallI, aHere, fIsO, sFldS, setF, Rs.fd, Fd.d, O.d, fMethD, chF, sAppF, fPopF, fPop0, fPop1, sIns, sRetI, sRetNI, fZip, fML, opAny, opAll, opSorted, opMaxL, opMinL, opRfind, opCount, List.map_cons, List.map_nil, cInA, cNinA, inD, itD, fItA, eItA, cLtA, cLeA, fRr1, fRr2, opInt, sPar, fCallD, fRaise0, fRaise1, sTryAs, sTry, aftr, noX, allEq_const, fXf, fXi, fLc, lcL, unE, tYs, Vs.ret, xLock, inis, bof, sNil, sSeq, sAsg, sRet, sRetV, sRetN, sIf, sDrop, sTg, sFor, sBrk, sCnt, sApp, sExt, sOwn, sSetI, opSetI, sLock, unlk, sbnd, bnd, fOp, fCh, fCl, fCall, fLst, fTup, fSl, fIf, fAnd, fOr, fNot, fTru, fAndV, fOrV, fNotV, fNeg, fIsi, fM1, fM2, fRg1, fRg2, fEn, fRev, fSg, fTp, fIt, eIt, eB, eV, eC, frz, shm, aCons, aNil, poN, poS, Rs.d, Rs.sl, vB, List.cons_append, List.nil_append, List.append_nil, List.replicate_zero, List.replicate_succ, List.getElem?_cons_zero, List.getElem?_cons_succ, List.set_cons_zero, List.set_cons_succ, List.length_cons, List.length_nil, opLen, lenD, opList, opAdd, opSub, opMul, opMod, opDiv, opPow, opMin, opMax, opIx, opSl, cmpB, cEq, cNe, cIsN, cNotN, truD, tgN, tgT, setAll, isKd, opFind, opFind3, opStarts, opStarts3, Nat.reduceLT, Nat.reduceAdd, Nat.reduceSub, Nat.reduceLeDiff, Int.reduceLT, Int.reduceLE, Int.reduceNeg, reduceIte, and_self, true_and, and_true, decide_true, decide_false, Int.toNat_natCast, decide_eq_false g1, decide_eq_true g2]
  by_cases g3 : 1 < f.length ∧ f.head? = some 48
  · refine neg (fun h => isnum_head h g3.1 g3.2) ?_
    have g4 : (f.length : Int) > 1 := by omega
    have g5 : f[0]? = some 48 := by rw [← List.head?_eq_getElem?]; exact g3.2
    unfold i1_law_number
    simp (disch := first | omega | assumption) only [if_pos, if_neg, decide_eq_true, decide_eq_false, atI_of, cutL_take, cutL_drop, cutL_mid, ge_iff_le, gt_iff_lt, Int.reduceToNat, Int.toNat_zero, Int.toNat_one, Bool.not_true, Bool.not_false, szl, fLcX, fRepl, fMaxD, fEnS, sStuck, fLenS, cGtA, sAppQ, sSetQ, sForT, forTL, opSortT, fDItems, fDKeys, fLcO, D.key, fDNew, fDGet, sDPutV, fDSet, fRg3, fChV, fSortL, frL, frS, fSortB, sRem, sqAt, eIxI, fItm, fItV, chS, sItC, sItA, sItI, sItS, fTmp, Sl.mut, Sl.th, O.d, sqD, D.atm, sTryR, fSq, aConsF, aNilF, eO, sTgF, setFd, Fd.sl, opJoinRev, fLRev, runDef, runDefI, ioAt, insA, chL, getO, setO, getL, setL, obAt, eFd, eFV, eFB, fFld, fMeth, fMethI, fMake, fCallI, aHere, fIsO, sFldS, setF, Rs.fd, Fd.d, O.d, fMethD, chF, sAppF, fPopF, fPop0, fPop1, sIns, sRetI, sRetNI, fZip, fML, opAny, opAll, opSorted, opMaxL, opMinL, opRfind, opCount, List.map_cons, List.map_nil, cInA, cNinA, inD, itD, fItA, eItA, cLtA, cLeA, fRr1, fRr2, opInt, sPar, fCallD, fRaise0, fRaise1, sTryAs, sTry, aftr, noX, allEq_const, fXf, fXi, fLc, lcL, unE, tYs, Vs.ret, xLock, inis, bof, sNil, sSeq, sAsg, sRet, sRetV, sRetN, sIf, sDrop, sTg, sFor, sBrk, sCnt, sApp, sExt, sOwn, sSetI, opSetI, sLock, unlk, sbnd, bnd, fOp, fCh, fCl, fCall, fLst, fTup, fSl, fIf, fAnd, fOr, fNot, fTru, fAndV, fOrV, fNotV, fNeg, fIsi, fM1, fM2, fRg1, fRg2, fEn, fRev, fSg, fTp, fIt, eIt, eB, eV, eC, frz, shm, aCons, aNil, poN, poS, Rs.d, Rs.sl, vB, List.cons_append, List.nil_append, List.append_nil, List.replicate_zero, List.replicate_succ, List.getElem?_cons_zero, List.getElem?_cons_succ, List.set_cons_zero, List.set_cons_succ, List.length_cons, List.length_nil, opLen, lenD, opList, opAdd, opSub, opMul, opMod, opDiv, opPow, opMin, opMax, opIx, opSl, cmpB, cEq, cNe, cIsN, cNotN, truD, tgN, tgT, setAll, isKd, opFind, opFind3, opStarts, opStarts3, Nat.reduceLT, Nat.reduceAdd, Nat.reduceSub, Nat.reduceLeDiff, Int.reduceLT, Int.reduceLE, Int.reduceNeg, reduceIte, and_self, true_and, and_true, decide_true, decide_false, Int.toNat_natCast, decide_eq_false g1, decide_eq_false g2, decide_eq_true g4, g5, decide_true]
  have i1 : i1_law_number [.sh (.str f), .un, .un, .un] = some (.nx [.sh (.str f), .un, .un, .un]) := by
    unfold i1_law_number
    by_cases g4 : (f.length : Int) > 1
    · have h0 : 0 < f.length := by omega
      have g5 : ¬ [f[0]] = [48] := fun z => g3 ⟨by omega, by rw [List.head?_eq_getElem?, List.getElem?_eq_getElem h0, (List.cons.inj z).1]⟩
      simp (disch := first | omega | assumption) only [if_pos, if_neg, decide_eq_true, decide_eq_false, atI_of, cutL_take, cutL_drop, cutL_mid, ge_iff_le, gt_iff_lt, Int.reduceToNat, Int.toNat_zero, Int.toNat_one, Bool.not_true, Bool.not_false, szl, fLcX, fRepl, fMaxD, fEnS, sStuck, fLenS, cGtA, sAppQ, sSetQ, sForT, forTL, opSortT, fDItems, fDKeys, fLcO, D.key, fDNew, fDGet, sDPutV, fDSet, fRg3, fChV, fSortL, frL, frS, fSortB, sRem, sqAt, eIxI, fItm, fItV, chS, sItC, sItA, sItI, sItS, fTmp, Sl.mut, Sl.th, O.d, sqD, D.atm, sTryR, fSq, aConsF, aNilF, eO, sTgF, setFd, Fd.sl, opJoinRev, fLRev, runDef, runDefI, ioAt, insA, chL, getO, setO, getL, setL, obAt, eFd, eFV, eFB, fFld, fMeth, fMethI, fMake, fCallI, aHere, fIsO, sFldS, setF, Rs.fd, Fd.d, O.d, fMethD, chF, sAppF, fPopF, fPop0, fPop1, sIns, sRetI, sRetNI, fZip, fML, opAny, opAll, opSorted, opMaxL, opMinL, opRfind, opCount, List.map_cons, List.map_nil, cInA, cNinA, inD, itD, fItA, eItA, cLtA, cLeA, fRr1, fRr2, opInt, sPar, fCallD, fRaise0, fRaise1, sTryAs, sTry, aftr, noX, allEq_const, fXf, fXi, fLc, lcL, unE, tYs, Vs.ret, xLock, inis, bof, sNil, sSeq, sAsg, sRet, sRetV, sRetN, sIf, sDrop, sTg, sFor, sBrk, sCnt, sApp, sExt, sOwn, sSetI, opSetI, sLock, unlk, sbnd, bnd, fOp, fCh, fCl, fCall, fLst, fTup, fSl, fIf, fAnd, fOr, fNot, fTru, fAndV, fOrV, fNotV, fNeg, fIsi, fM1, fM2, fRg1, fRg2, fEn, fRev, fSg, fTp, fIt, eIt, eB, eV, eC, frz, shm, aCons, aNil, poN, poS, Rs.d, Rs.sl, vB, List.cons_append, List.nil_append, List.append_nil, List.replicate_zero, List.replicate_succ, List.getElem?_cons_zero, List.getElem?_cons_succ, List.set_cons_zero, List.set_cons_succ, List.length_cons, List.length_nil, opLen, lenD, opList, opAdd, opSub, opMul, opMod, opDiv, opPow, opMin, opMax, opIx, opSl, cmpB, cEq, cNe, cIsN, cNotN, truD, tgN, tgT, setAll, isKd, opFind, opFind3, opStarts, opStarts3, Nat.reduceLT, Nat.reduceAdd, Nat.reduceSub, Nat.reduceLeDiff, Int.reduceLT, Int.reduceLE, Int.reduceNeg, reduceIte, and_self, true_and, and_true, decide_true, decide_false, Int.toNat_natCast, decide_eq_false g1, decide_eq_false g2, decide_eq_true g4, List.getElem?_eq_getElem h0, decide_eq_false g5]
    · simp (disch := first | omega | assumption) only [if_pos, if_neg, decide_eq_true, decide_eq_false, atI_of, cutL_take, cutL_drop, cutL_mid, ge_iff_le, gt_iff_lt, Int.reduceToNat, Int.toNat_zero, Int.toNat_one, Bool.not_true, Bool.not_false, szl, fLcX, fRepl, fMaxD, fEnS, sStuck, fLenS, cGtA, sAppQ, sSetQ, sForT, forTL, opSortT, fDItems, fDKeys, fLcO, D.key, fDNew, fDGet, sDPutV, fDSet, fRg3, fChV, fSortL, frL, frS, fSortB, sRem, sqAt, eIxI, fItm, fItV, chS, sItC, sItA, sItI, sItS, fTmp, Sl.mut, Sl.th, O.d, sqD, D.atm, sTryR, fSq, aConsF, aNilF, eO, sTgF, setFd, Fd.sl, opJoinRev, fLRev, runDef, runDefI, ioAt, insA, chL, getO, setO, getL, setL, obAt, eFd, eFV, eFB, fFld, fMeth, fMethI, fMake, fCallI, aHere, fIsO, sFldS, setF, Rs.fd, Fd.d, O.d, fMethD, chF, sAppF, fPopF, fPop0, fPop1, sIns, sRetI, sRetNI, fZip, fML, opAny, opAll, opSorted, opMaxL, opMinL, opRfind, opCount, List.map_cons, List.map_nil, cInA, cNinA, inD, itD, fItA, eItA, cLtA, cLeA, fRr1, fRr2, opInt, sPar, fCallD, fRaise0, fRaise1, sTryAs, sTry, aftr, noX, allEq_const, fXf, fXi, fLc, lcL, unE, tYs, Vs.ret, xLock, inis, bof, sNil, sSeq, sAsg, sRet, sRetV, sRetN, sIf, sDrop, sTg, sFor, sBrk, sCnt, sApp, sExt, sOwn, sSetI, opSetI, sLock, unlk, sbnd, bnd, fOp, fCh, fCl, fCall, fLst, fTup, fSl, fIf, fAnd, fOr, fNot, fTru, fAndV, fOrV, fNotV, fNeg, fIsi, fM1, fM2, fRg1, fRg2, fEn, fRev, fSg, fTp, fIt, eIt, eB, eV, eC, frz, shm, aCons, aNil, poN, poS, Rs.d, Rs.sl, vB, List.cons_append, List.nil_append, List.append_nil, List.replicate_zero, List.replicate_succ, List.getElem?_cons_zero, List.getElem?_cons_succ, List.set_cons_zero, List.set_cons_succ, List.length_cons, List.length_nil, opLen, lenD, opList, opAdd, opSub, opMul, opMod, opDiv, opPow, opMin, opMax, opIx, opSl, cmpB, cEq, cNe, cIsN, cNotN, truD, tgN, tgT, setAll, isKd, opFind, opFind3, opStarts, opStarts3, Nat.reduceLT, Nat.reduceAdd, Nat.reduceSub, Nat.reduceLeDiff, Int.reduceLT, Int.reduceLE, Int.reduceNeg, reduceIte, and_self, true_and, and_true, decide_true, decide_false, Int.toNat_natCast, decide_eq_false g1, decide_eq_false g2, decide_eq_false g4]
  have p4 : 10 ^ f.length ≤ 10 ^ 4 := Nat.pow_le_pow_right (by decide) (by omega)
  rcases lnum_loop f f 0 .un .un (by rw [Nat.zero_add, Nat.one_mul]; exact Nat.le_trans p4 (by decide)) with ⟨⟨c, m, hc⟩, e⟩ | ⟨h, t2, t3, e⟩
  · refine .inr ⟨fun h => hc (isnum_dig h m), ?_⟩
    have e' : forL (tgN 2) l1_law_number (f.map fun c => D.str [c]) [.sh (.str f), .sh (.int 0), .un, .un] = some (.rt (.sh (.int (-1)))) := e
    unfold g_law_number b_law_number
    simp (disch := first | omega | assumption) only [if_pos, if_neg, decide_eq_true, decide_eq_false, atI_of, cutL_take, cutL_drop, cutL_mid, ge_iff_le, gt_iff_lt, Int.reduceToNat, Int.toNat_zero, Int.toNat_one, Bool.not_true, Bool.not_false, szl, fLcX, fRepl, fMaxD, fEnS, sStuck, fLenS, cGtA, sAppQ, sSetQ, sForT, forTL, opSortT, fDItems, fDKeys, fLcO, D.key, fDNew, fDGet, sDPutV, fDSet, fRg3, fChV, fSortL, frL, frS, fSortB, sRem, sqAt, eIxI, fItm, fItV, chS, sItC, sItA, sItI, sItS, fTmp, Sl.mut, Sl.th, O.d, sqD, D.atm, sTryR, fSq, aConsF, aNilF, eO, sTgF, setFd, Fd.sl, opJoinRev, fLRev, runDef, runDefI, ioAt, insA, chL, getO, setO, getL, setL, obAt, eFd, eFV, eFB, fFld, fMeth, fMethI, fMake, fCallI, aHere, fIsO, sFldS, setF, Rs.fd, Fd.d, O.d, fMethD, chF, sAppF, fPopF, fPop0, fPop1, sIns, sRetI, sRetNI, fZip, fML, opAny, opAll, opSorted, opMaxL, opMinL, opRfind, opCount, List.map_cons, List.map_nil, cInA, cNinA, inD, itD, fItA, eItA, cLtA, cLeA, fRr1, fRr2, opInt, sPar, fCallD, fRaise0, fRaise1, sTryAs, sTry, aftr, noX, allEq_const, fXf, fXi, fLc, lcL, unE, tYs, Vs.ret, xLock, inis, bof, sNil, sSeq, sAsg, sRet, sRetV, sRetN, sIf, sDrop, sTg, sFor, sBrk, sCnt, sApp, sExt, sOwn, sSetI, opSetI, sLock, unlk, sbnd, bnd, fOp, fCh, fCl, fCall, fLst, fTup, fSl, fIf, fAnd, fOr, fNot, fTru, fAndV, fOrV, fNotV, fNeg, fIsi, fM1, fM2, fRg1, fRg2, fEn, fRev, fSg, fTp, fIt, eIt, eB, eV, eC, frz, shm, aCons, aNil, poN, poS, Rs.d, Rs.sl, vB, List.cons_append, List.nil_append, List.append_nil, List.replicate_zero, List.replicate_succ, List.getElem?_cons_zero, List.getElem?_cons_succ, List.set_cons_zero, List.set_cons_succ, List.length_cons, List.length_nil, opLen, lenD, opList, opAdd, opSub, opMul, opMod, opDiv, opPow, opMin, opMax, opIx, opSl, cmpB, cEq, cNe, cIsN, cNotN, truD, tgN, tgT, setAll, isKd, opFind, opFind3, opStarts, opStarts3, Nat.reduceLT, Nat.reduceAdd, Nat.reduceSub, Nat.reduceLeDiff, Int.reduceLT, Int.reduceLE, Int.reduceNeg, reduceIte, and_self, true_and, and_true, decide_true, decide_false, Int.toNat_natCast, i1, itD, e']
  · refine .inl ⟨isnum_of (by omega) (by omega) h fun hl z => g3 ⟨hl, z⟩, ?_⟩
    have e' : forL (tgN 2) l1_law_number (f.map fun c => D.str [c]) [.sh (.str f), .sh (.int 0), .un, .un] = some (.nx [.sh (.str f), .sh (.int ((vl f : Nat) : Int)), t2, t3]) := e
    unfold g_law_number b_law_number
    simp (disch := first | omega | assumption) only [if_pos, if_neg, decide_eq_true, decide_eq_false, atI_of, cutL_take, cutL_drop, cutL_mid, ge_iff_le, gt_iff_lt, Int.reduceToNat, Int.toNat_zero, Int.toNat_one, Bool.not_true, Bool.not_false, szl, fLcX, fRepl, fMaxD, fEnS, sStuck, fLenS, cGtA, sAppQ, sSetQ, sForT, forTL, opSortT, fDItems, fDKeys, fLcO, D.key, fDNew, fDGet, sDPutV, fDSet, fRg3, fChV, fSortL, frL, frS, fSortB, sRem, sqAt, eIxI, fItm, fItV, chS, sItC, sItA, sItI, sItS, fTmp, Sl.mut, Sl.th, O.d, sqD, D.atm, sTryR, fSq, aConsF, aNilF, eO, sTgF, setFd, Fd.sl, opJoinRev, fLRev, runDef, runDefI, ioAt, insA, chL, getO, setO, getL, setL, obAt, eFd, eFV, eFB, fFld, fMeth, fMethI, fMake, fCallI, aHere, fIsO, sFldS, setF, Rs.fd, Fd.d, O.d, fMethD, chF, sAppF, fPopF, fPop0, fPop1, sIns, sRetI, sRetNI, fZip, fML, opAny, opAll, opSorted, opMaxL, opMinL, opRfind, opCount, List.map_cons, List.map_nil, cInA, cNinA, inD, itD, fItA, eItA, cLtA, cLeA, fRr1, fRr2, opInt, sPar, fCallD, fRaise0, fRaise1, sTryAs, sTry, aftr, noX, allEq_const, fXf, fXi, fLc, lcL, unE, tYs, Vs.ret, xLock, inis, bof, sNil, sSeq, sAsg, sRet, sRetV, sRetN, sIf, sDrop, sTg, sFor, sBrk, sCnt, sApp, sExt, sOwn, sSetI, opSetI, sLock, unlk, sbnd, bnd, fOp, fCh, fCl, fCall, fLst, fTup, fSl, fIf, fAnd, fOr, fNot, fTru, fAndV, fOrV, fNotV, fNeg, fIsi, fM1, fM2, fRg1, fRg2, fEn, fRev, fSg, fTp, fIt, eIt, eB, eV, eC, frz, shm, aCons, aNil, poN, poS, Rs.d, Rs.sl, vB, List.cons_append, List.nil_append, List.append_nil, List.replicate_zero, List.replicate_succ, List.getElem?_cons_zero, List.getElem?_cons_succ, List.set_cons_zero, List.set_cons_succ, List.length_cons, List.length_nil, opLen, lenD, opList, opAdd, opSub, opMul, opMod, opDiv, opPow, opMin, opMax, opIx, opSl, cmpB, cEq, cNe, cIsN, cNotN, truD, tgN, tgT, setAll, isKd, opFind, opFind3, opStarts, opStarts3, Nat.reduceLT, Nat.reduceAdd, Nat.reduceSub, Nat.reduceLeDiff, Int.reduceLT, Int.reduceLE, Int.reduceNeg, reduceIte, and_self, true_and, and_true, decide_true, decide_false, Int.toNat_natCast, i1, itD, e']

/-! k07: a step's text -/
def IsStp (w : List Nat) : Prop := ∃ s : Stp, Sm4 s ∧ w = shS s
theorem first_at {c : Nat} : ∀ {w : List Nat}, c ∈ w → ∃ a b, w = a ++ [c] ++ b ∧ c ∉ a
  | d :: w, h => by
    by_cases e : d = c
    · subst e
      exact ⟨[], w, rfl, (fun m => nomatch m)⟩
    · obtain ⟨a, b, rfl, n⟩ := first_at ((List.mem_cons.mp h).resolve_left fun z => e z.symm)
      exact ⟨d :: a, b, rfl, fun m => (List.mem_cons.mp m).elim (fun z => e z.symm) n⟩
theorem cut_one {c : Nat} {a b a' b' : List Nat} (e : a ++ [c] ++ b = a' ++ [c] ++ b') (h : c ∉ a) (h' : c ∉ a') : a = a' ∧ b = b' := by
  induction a generalizing a' with
  | nil =>
    cases a' with
    | nil => exact ⟨rfl, (List.cons.inj e).2⟩
    | cons d a' =>
      have := (List.cons.inj e).1
      exact absurd (this ▸ List.mem_cons_self) h'
  | cons d a ih =>
    cases a' with
    | nil =>
      have := (List.cons.inj e).1
      exact absurd (this ▸ List.mem_cons_self) h
    | cons d' a' =>
      obtain ⟨e1, e2⟩ := List.cons.inj e
      obtain ⟨r1, r2⟩ := ih e2 (fun m => h (List.mem_cons_of_mem _ m)) fun m => h' (List.mem_cons_of_mem _ m)
      exact ⟨by rw [e1, r1], r2⟩
theorem num_no {f : List Nat} (h : IsNum f) {c : Nat} (hc : c < 48 ∨ 57 < c) : c ∉ f := fun m => by
  have := isnum_dig h m
  omega
/-- a step's sign stands once, and no other -/
theorem stp_cut {w : List Nat} (h : IsStp w) : ∃ s : Stp, Sm4 s ∧ w = TL.numL s.n ++ [sgn s] ++ TL.numL s.at_ ∧ IsNum (TL.numL s.n) ∧ IsNum (TL.numL s.at_) := by
  obtain ⟨s, h1, rfl⟩ := h
  exact ⟨s, h1, rfl, ⟨_, h1.1, rfl⟩, ⟨_, h1.2, rfl⟩⟩
theorem stp_at {a b : List Nat} {c : Nat} (hc : c = 60 ∨ c = 62) (ha : c ∉ a) (h : IsStp (a ++ [c] ++ b)) : IsNum a ∧ IsNum b := by
  obtain ⟨s, h1, e, n1, n2⟩ := stp_cut h
  have e2 : sgn s = c := by
    have m : c ∈ TL.numL s.n ++ [sgn s] ++ TL.numL s.at_ := by rw [← e]; simp
    rcases List.mem_append.mp m with m | m
    · rcases List.mem_append.mp m with m | m
      · exact absurd m (num_no n1 (by omega))
      · exact (List.mem_singleton.mp m).symm
    · exact absurd m (num_no n2 (by omega))
  rw [e2] at e
  obtain ⟨rfl, rfl⟩ := cut_one e ha (num_no n1 (by omega))
  exact ⟨n1, n2⟩
theorem stp_of {a b : List Nat} {c : Nat} (hc : c = 60 ∨ c = 62) (ha : IsNum a) (hb : IsNum b) : Sm4 ⟨vl a, vl b, decide (c = 62)⟩ ∧ a ++ [c] ++ b = shS ⟨vl a, vl b, decide (c = 62)⟩ := by
  obtain ⟨n, hn, rfl⟩ := ha
  obtain ⟨m, hm, rfl⟩ := hb
  rw [vl_num, vl_num]
  refine ⟨⟨hn, hm⟩, ?_⟩
  unfold shS sgn
  rcases hc with rfl | rfl <;> rfl
/-- which sign comes first -/
theorem sign_cases (w : List Nat) : (60 ∉ w ∧ 62 ∉ w) ∨ ∃ a c b, w = a ++ [c] ++ b ∧ (c = 60 ∨ c = 62) ∧ 60 ∉ a ∧ 62 ∉ a := by
  induction w with
  | nil => exact .inl ⟨(fun m => nomatch m), fun m => nomatch m⟩
  | cons d w ih =>
    by_cases h : d = 60 ∨ d = 62
    · exact .inr ⟨[], d, w, rfl, h, (fun m => nomatch m), fun m => nomatch m⟩
    · rcases ih with ⟨h1, h2⟩ | ⟨a, c, b, rfl, hc, h1, h2⟩
      · exact .inl ⟨fun m => (List.mem_cons.mp m).elim (fun z => h (.inl z.symm)) h1, fun m => (List.mem_cons.mp m).elim (fun z => h (.inr z.symm)) h2⟩
      · exact .inr ⟨d :: a, c, b, rfl, hc, fun m => (List.mem_cons.mp m).elim (fun z => h (.inl z.symm)) h1, fun m => (List.mem_cons.mp m).elim (fun z => h (.inr z.symm)) h2⟩
theorem e_read_bad {w : List Nat} (h : ¬ IsStp w) (hl : w.length ≤ 1000) : g_read_step [.str w] = some (.ex ⟨x_NoStep, none⟩) := by
  have ne1 : ¬ ([62] : List Nat) = [] := by decide
  have ne2 : ¬ ([60] : List Nat) = [] := by decide
  have ne3 : ¬ ([60] : List Nat) = [62] := by decide
  by_cases m1 : 62 ∈ w
  · obtain ⟨a, b, rfl, na⟩ := first_at m1
    have p : opPart (a ++ [62] ++ b) (.str [62]) = some (.sh (.tup [.str a, .str [62], .str b])) := opPart_of 62 hl (part_one _ _ 62 na)
    have al : a.length ≤ 1000 ∧ b.length ≤ 1000 := by rw [List.length_append, List.length_append] at hl; omega
    by_cases ia : IsNum a
    · have ib : ¬ IsNum b := fun ib => h ⟨_, stp_of (.inr rfl) ia ib⟩
      have e1 := e_number_good ia
      have e2 := e_number_bad ib al.2
      unfold g_read_step b_read_step l1_read_step i1_read_step
      simp (disch := first | omega | assumption) only [if_pos, if_neg, decide_eq_true, decide_eq_false, atI_of, cutL_take, cutL_drop, cutL_mid, ge_iff_le, gt_iff_lt, Int.reduceToNat, Int.toNat_zero, Int.toNat_one, Bool.not_true, Bool.not_false, szl, fLcX, fRepl, fMaxD, fEnS, sStuck, fLenS, cGtA, sAppQ, sSetQ, sForT, forTL, opSortT, fDItems, fDKeys, fLcO, D.key, fDNew, fDGet, sDPutV, fDSet, fRg3, fChV, fSortL, frL, frS, fSortB, sRem, sqAt, eIxI, fItm, fItV, chS, sItC, sItA, sItI, sItS, fTmp, Sl.mut, Sl.th, O.d, sqD, D.atm, sTryR, fSq, aConsF, aNilF, eO, sTgF, setFd, Fd.sl, opJoinRev, fLRev, runDef, runDefI, ioAt, insA, chL, getO, setO, getL, setL, obAt, eFd, eFV, eFB, fFld, fMeth, fMethI, fMake, fCallI, aHere, fIsO, sFldS, setF, Rs.fd, Fd.d, O.d, fMethD, chF, sAppF, fPopF, fPop0, fPop1, sIns, sRetI, sRetNI, fZip, fML, opAny, opAll, opSorted, opMaxL, opMinL, opRfind, opCount, List.map_cons, List.map_nil, cInA, cNinA, inD, itD, fItA, eItA, cLtA, cLeA, fRr1, fRr2, opInt, sPar, fCallD, fRaise0, fRaise1, sTryAs, sTry, aftr, noX, allEq_const, fXf, fXi, fLc, lcL, unE, tYs, Vs.ret, xLock, inis, bof, sNil, sSeq, sAsg, sRet, sRetV, sRetN, sIf, sDrop, sTg, sFor, sBrk, sCnt, sApp, sExt, sOwn, sSetI, opSetI, sLock, unlk, sbnd, bnd, fOp, fCh, fCl, fCall, fLst, fTup, fSl, fIf, fAnd, fOr, fNot, fTru, fAndV, fOrV, fNotV, fNeg, fIsi, fM1, fM2, fRg1, fRg2, fEn, fRev, fSg, fTp, fIt, eIt, eB, eV, eC, frz, shm, aCons, aNil, poN, poS, Rs.d, Rs.sl, vB, List.cons_append, List.nil_append, List.append_nil, List.replicate_zero, List.replicate_succ, List.getElem?_cons_zero, List.getElem?_cons_succ, List.set_cons_zero, List.set_cons_succ, List.length_cons, List.length_nil, opLen, lenD, opList, opAdd, opSub, opMul, opMod, opDiv, opPow, opMin, opMax, opIx, opSl, cmpB, cEq, cNe, cIsN, cNotN, truD, tgN, tgT, setAll, isKd, opFind, opFind3, opStarts, opStarts3, Nat.reduceLT, Nat.reduceAdd, Nat.reduceSub, Nat.reduceLeDiff, Int.reduceLT, Int.reduceLE, Int.reduceNeg, reduceIte, and_self, true_and, and_true, decide_true, decide_false, Int.toNat_natCast, forL, itD, p, decide_eq_false ne1, Bool.not_false, e1, e2]
    · have e1 := e_number_bad ia al.1
      unfold g_read_step b_read_step l1_read_step i1_read_step
      simp (disch := first | omega | assumption) only [if_pos, if_neg, decide_eq_true, decide_eq_false, atI_of, cutL_take, cutL_drop, cutL_mid, ge_iff_le, gt_iff_lt, Int.reduceToNat, Int.toNat_zero, Int.toNat_one, Bool.not_true, Bool.not_false, szl, fLcX, fRepl, fMaxD, fEnS, sStuck, fLenS, cGtA, sAppQ, sSetQ, sForT, forTL, opSortT, fDItems, fDKeys, fLcO, D.key, fDNew, fDGet, sDPutV, fDSet, fRg3, fChV, fSortL, frL, frS, fSortB, sRem, sqAt, eIxI, fItm, fItV, chS, sItC, sItA, sItI, sItS, fTmp, Sl.mut, Sl.th, O.d, sqD, D.atm, sTryR, fSq, aConsF, aNilF, eO, sTgF, setFd, Fd.sl, opJoinRev, fLRev, runDef, runDefI, ioAt, insA, chL, getO, setO, getL, setL, obAt, eFd, eFV, eFB, fFld, fMeth, fMethI, fMake, fCallI, aHere, fIsO, sFldS, setF, Rs.fd, Fd.d, O.d, fMethD, chF, sAppF, fPopF, fPop0, fPop1, sIns, sRetI, sRetNI, fZip, fML, opAny, opAll, opSorted, opMaxL, opMinL, opRfind, opCount, List.map_cons, List.map_nil, cInA, cNinA, inD, itD, fItA, eItA, cLtA, cLeA, fRr1, fRr2, opInt, sPar, fCallD, fRaise0, fRaise1, sTryAs, sTry, aftr, noX, allEq_const, fXf, fXi, fLc, lcL, unE, tYs, Vs.ret, xLock, inis, bof, sNil, sSeq, sAsg, sRet, sRetV, sRetN, sIf, sDrop, sTg, sFor, sBrk, sCnt, sApp, sExt, sOwn, sSetI, opSetI, sLock, unlk, sbnd, bnd, fOp, fCh, fCl, fCall, fLst, fTup, fSl, fIf, fAnd, fOr, fNot, fTru, fAndV, fOrV, fNotV, fNeg, fIsi, fM1, fM2, fRg1, fRg2, fEn, fRev, fSg, fTp, fIt, eIt, eB, eV, eC, frz, shm, aCons, aNil, poN, poS, Rs.d, Rs.sl, vB, List.cons_append, List.nil_append, List.append_nil, List.replicate_zero, List.replicate_succ, List.getElem?_cons_zero, List.getElem?_cons_succ, List.set_cons_zero, List.set_cons_succ, List.length_cons, List.length_nil, opLen, lenD, opList, opAdd, opSub, opMul, opMod, opDiv, opPow, opMin, opMax, opIx, opSl, cmpB, cEq, cNe, cIsN, cNotN, truD, tgN, tgT, setAll, isKd, opFind, opFind3, opStarts, opStarts3, Nat.reduceLT, Nat.reduceAdd, Nat.reduceSub, Nat.reduceLeDiff, Int.reduceLT, Int.reduceLE, Int.reduceNeg, reduceIte, and_self, true_and, and_true, decide_true, decide_false, Int.toNat_natCast, forL, itD, p, decide_eq_false ne1, Bool.not_false, e1]
  · have p0 : opPart w (.str [62]) = some (.sh (.tup [.str w, .str [], .str []])) := opPart_of 62 hl (part_non _ 62 m1)
    by_cases m2 : 60 ∈ w
    · obtain ⟨a, b, rfl, na⟩ := first_at m2
      have p : opPart (a ++ [60] ++ b) (.str [60]) = some (.sh (.tup [.str a, .str [60], .str b])) := opPart_of 60 hl (part_one _ _ 60 na)
      have al : a.length ≤ 1000 ∧ b.length ≤ 1000 := by rw [List.length_append, List.length_append] at hl; omega
      by_cases ia : IsNum a
      · have ib : ¬ IsNum b := fun ib => h ⟨_, stp_of (.inl rfl) ia ib⟩
        have e1 := e_number_good ia
        have e2 := e_number_bad ib al.2
        unfold g_read_step b_read_step l1_read_step i1_read_step
        simp (disch := first | omega | assumption) only [if_pos, if_neg, decide_eq_true, decide_eq_false, atI_of, cutL_take, cutL_drop, cutL_mid, ge_iff_le, gt_iff_lt, Int.reduceToNat, Int.toNat_zero, Int.toNat_one, Bool.not_true, Bool.not_false, szl, fLcX, fRepl, fMaxD, fEnS, sStuck, fLenS, cGtA, sAppQ, sSetQ, sForT, forTL, opSortT, fDItems, fDKeys, fLcO, D.key, fDNew, fDGet, sDPutV, fDSet, fRg3, fChV, fSortL, frL, frS, fSortB, sRem, sqAt, eIxI, fItm, fItV, chS, sItC, sItA, sItI, sItS, fTmp, Sl.mut, Sl.th, O.d, sqD, D.atm, sTryR, fSq, aConsF, aNilF, eO, sTgF, setFd, Fd.sl, opJoinRev, fLRev, runDef, runDefI, ioAt, insA, chL, getO, setO, getL, setL, obAt, eFd, eFV, eFB, fFld, fMeth, fMethI, fMake, fCallI, aHere, fIsO, sFldS, setF, Rs.fd, Fd.d, O.d, fMethD, chF, sAppF, fPopF, fPop0, fPop1, sIns, sRetI, sRetNI, fZip, fML, opAny, opAll, opSorted, opMaxL, opMinL, opRfind, opCount, List.map_cons, List.map_nil, cInA, cNinA, inD, itD, fItA, eItA, cLtA, cLeA, fRr1, fRr2, opInt, sPar, fCallD, fRaise0, fRaise1, sTryAs, sTry, aftr, noX, allEq_const, fXf, fXi, fLc, lcL, unE, tYs, Vs.ret, xLock, inis, bof, sNil, sSeq, sAsg, sRet, sRetV, sRetN, sIf, sDrop, sTg, sFor, sBrk, sCnt, sApp, sExt, sOwn, sSetI, opSetI, sLock, unlk, sbnd, bnd, fOp, fCh, fCl, fCall, fLst, fTup, fSl, fIf, fAnd, fOr, fNot, fTru, fAndV, fOrV, fNotV, fNeg, fIsi, fM1, fM2, fRg1, fRg2, fEn, fRev, fSg, fTp, fIt, eIt, eB, eV, eC, frz, shm, aCons, aNil, poN, poS, Rs.d, Rs.sl, vB, List.cons_append, List.nil_append, List.append_nil, List.replicate_zero, List.replicate_succ, List.getElem?_cons_zero, List.getElem?_cons_succ, List.set_cons_zero, List.set_cons_succ, List.length_cons, List.length_nil, opLen, lenD, opList, opAdd, opSub, opMul, opMod, opDiv, opPow, opMin, opMax, opIx, opSl, cmpB, cEq, cNe, cIsN, cNotN, truD, tgN, tgT, setAll, isKd, opFind, opFind3, opStarts, opStarts3, Nat.reduceLT, Nat.reduceAdd, Nat.reduceSub, Nat.reduceLeDiff, Int.reduceLT, Int.reduceLE, Int.reduceNeg, reduceIte, and_self, true_and, and_true, decide_true, decide_false, Int.toNat_natCast, forL, itD, p0, p, decide_true, decide_eq_false ne2, Bool.not_false, Bool.not_true, e1, e2]
      · have e1 := e_number_bad ia al.1
        unfold g_read_step b_read_step l1_read_step i1_read_step
        simp (disch := first | omega | assumption) only [if_pos, if_neg, decide_eq_true, decide_eq_false, atI_of, cutL_take, cutL_drop, cutL_mid, ge_iff_le, gt_iff_lt, Int.reduceToNat, Int.toNat_zero, Int.toNat_one, Bool.not_true, Bool.not_false, szl, fLcX, fRepl, fMaxD, fEnS, sStuck, fLenS, cGtA, sAppQ, sSetQ, sForT, forTL, opSortT, fDItems, fDKeys, fLcO, D.key, fDNew, fDGet, sDPutV, fDSet, fRg3, fChV, fSortL, frL, frS, fSortB, sRem, sqAt, eIxI, fItm, fItV, chS, sItC, sItA, sItI, sItS, fTmp, Sl.mut, Sl.th, O.d, sqD, D.atm, sTryR, fSq, aConsF, aNilF, eO, sTgF, setFd, Fd.sl, opJoinRev, fLRev, runDef, runDefI, ioAt, insA, chL, getO, setO, getL, setL, obAt, eFd, eFV, eFB, fFld, fMeth, fMethI, fMake, fCallI, aHere, fIsO, sFldS, setF, Rs.fd, Fd.d, O.d, fMethD, chF, sAppF, fPopF, fPop0, fPop1, sIns, sRetI, sRetNI, fZip, fML, opAny, opAll, opSorted, opMaxL, opMinL, opRfind, opCount, List.map_cons, List.map_nil, cInA, cNinA, inD, itD, fItA, eItA, cLtA, cLeA, fRr1, fRr2, opInt, sPar, fCallD, fRaise0, fRaise1, sTryAs, sTry, aftr, noX, allEq_const, fXf, fXi, fLc, lcL, unE, tYs, Vs.ret, xLock, inis, bof, sNil, sSeq, sAsg, sRet, sRetV, sRetN, sIf, sDrop, sTg, sFor, sBrk, sCnt, sApp, sExt, sOwn, sSetI, opSetI, sLock, unlk, sbnd, bnd, fOp, fCh, fCl, fCall, fLst, fTup, fSl, fIf, fAnd, fOr, fNot, fTru, fAndV, fOrV, fNotV, fNeg, fIsi, fM1, fM2, fRg1, fRg2, fEn, fRev, fSg, fTp, fIt, eIt, eB, eV, eC, frz, shm, aCons, aNil, poN, poS, Rs.d, Rs.sl, vB, List.cons_append, List.nil_append, List.append_nil, List.replicate_zero, List.replicate_succ, List.getElem?_cons_zero, List.getElem?_cons_succ, List.set_cons_zero, List.set_cons_succ, List.length_cons, List.length_nil, opLen, lenD, opList, opAdd, opSub, opMul, opMod, opDiv, opPow, opMin, opMax, opIx, opSl, cmpB, cEq, cNe, cIsN, cNotN, truD, tgN, tgT, setAll, isKd, opFind, opFind3, opStarts, opStarts3, Nat.reduceLT, Nat.reduceAdd, Nat.reduceSub, Nat.reduceLeDiff, Int.reduceLT, Int.reduceLE, Int.reduceNeg, reduceIte, and_self, true_and, and_true, decide_true, decide_false, Int.toNat_natCast, forL, itD, p0, p, decide_true, decide_eq_false ne2, Bool.not_false, Bool.not_true, e1]
    · have p : opPart w (.str [60]) = some (.sh (.tup [.str w, .str [], .str []])) := opPart_of 60 hl (part_non _ 60 m2)
      unfold g_read_step b_read_step l1_read_step i1_read_step fRaise0
      simp (disch := first | omega | assumption) only [if_pos, if_neg, decide_eq_true, decide_eq_false, atI_of, cutL_take, cutL_drop, cutL_mid, ge_iff_le, gt_iff_lt, Int.reduceToNat, Int.toNat_zero, Int.toNat_one, Bool.not_true, Bool.not_false, szl, fLcX, fRepl, fMaxD, fEnS, sStuck, fLenS, cGtA, sAppQ, sSetQ, sForT, forTL, opSortT, fDItems, fDKeys, fLcO, D.key, fDNew, fDGet, sDPutV, fDSet, fRg3, fChV, fSortL, frL, frS, fSortB, sRem, sqAt, eIxI, fItm, fItV, chS, sItC, sItA, sItI, sItS, fTmp, Sl.mut, Sl.th, O.d, sqD, D.atm, sTryR, fSq, aConsF, aNilF, eO, sTgF, setFd, Fd.sl, opJoinRev, fLRev, runDef, runDefI, ioAt, insA, chL, getO, setO, getL, setL, obAt, eFd, eFV, eFB, fFld, fMeth, fMethI, fMake, fCallI, aHere, fIsO, sFldS, setF, Rs.fd, Fd.d, O.d, fMethD, chF, sAppF, fPopF, fPop0, fPop1, sIns, sRetI, sRetNI, fZip, fML, opAny, opAll, opSorted, opMaxL, opMinL, opRfind, opCount, List.map_cons, List.map_nil, cInA, cNinA, inD, itD, fItA, eItA, cLtA, cLeA, fRr1, fRr2, opInt, sPar, fCallD, fRaise0, fRaise1, sTryAs, sTry, aftr, noX, allEq_const, fXf, fXi, fLc, lcL, unE, tYs, Vs.ret, xLock, inis, bof, sNil, sSeq, sAsg, sRet, sRetV, sRetN, sIf, sDrop, sTg, sFor, sBrk, sCnt, sApp, sExt, sOwn, sSetI, opSetI, sLock, unlk, sbnd, bnd, fOp, fCh, fCl, fCall, fLst, fTup, fSl, fIf, fAnd, fOr, fNot, fTru, fAndV, fOrV, fNotV, fNeg, fIsi, fM1, fM2, fRg1, fRg2, fEn, fRev, fSg, fTp, fIt, eIt, eB, eV, eC, frz, shm, aCons, aNil, poN, poS, Rs.d, Rs.sl, vB, List.cons_append, List.nil_append, List.append_nil, List.replicate_zero, List.replicate_succ, List.getElem?_cons_zero, List.getElem?_cons_succ, List.set_cons_zero, List.set_cons_succ, List.length_cons, List.length_nil, opLen, lenD, opList, opAdd, opSub, opMul, opMod, opDiv, opPow, opMin, opMax, opIx, opSl, cmpB, cEq, cNe, cIsN, cNotN, truD, tgN, tgT, setAll, isKd, opFind, opFind3, opStarts, opStarts3, Nat.reduceLT, Nat.reduceAdd, Nat.reduceSub, Nat.reduceLeDiff, Int.reduceLT, Int.reduceLE, Int.reduceNeg, reduceIte, and_self, true_and, and_true, decide_true, decide_false, Int.toNat_natCast, forL, itD, p0, p, decide_true, Bool.not_true]
/-- the law's own reading -/
theorem e_lstep {w : List Nat} (hl : w.length ≤ 1000) : (∃ s, Sm4 s ∧ w = shS s ∧ g_law_step [.str w] = some (.rt (.sh (stD s)))) ∨ (¬ IsStp w ∧ g_law_step [.str w] = some (.rt (.sh .non))) := by
  have wl : w.length ≤ 1000000 := by omega
  have rn : ((w.length : Int) - 0).toNat = w.length := by omega
  have wb : (w.length : Int) ≤ 1000000 ∧ -1000000 ≤ (w.length : Int) := by omega
  -- a sign that is none
  have pass : ∀ (k : Nat) (hk : k < w.length), w[k] ≠ 60 → w[k] ≠ 62 → ∀ s2 s3 : Sl, l1_law_step [.sh (.str w), .sh (.int (k : Int)), s2, s3] = some (.nx [.sh (.str w), .sh (.int (k : Int)), s2, s3]) := fun k hk n1 n2 s2 s3 => by
    have q1 : ¬ [w[k]] = [60] := fun z => n1 (List.cons.inj z).1
    have q2 : ¬ [w[k]] = [62] := fun z => n2 (List.cons.inj z).1
    unfold l1_law_step i2_law_step
    simp (disch := first | omega | assumption) only [if_pos, if_neg, decide_eq_true, decide_eq_false, atI_of, cutL_take, cutL_drop, cutL_mid, ge_iff_le, gt_iff_lt, Int.reduceToNat, Int.toNat_zero, Int.toNat_one, Bool.not_true, Bool.not_false, szl, fLcX, fRepl, fMaxD, fEnS, sStuck, fLenS, cGtA, sAppQ, sSetQ, sForT, forTL, opSortT, fDItems, fDKeys, fLcO, D.key, fDNew, fDGet, sDPutV, fDSet, fRg3, fChV, fSortL, frL, frS, fSortB, sRem, sqAt, eIxI, fItm, fItV, chS, sItC, sItA, sItI, sItS, fTmp, Sl.mut, Sl.th, O.d, sqD, D.atm, sTryR, fSq, aConsF, aNilF, eO, sTgF, setFd, Fd.sl, opJoinRev, fLRev, runDef, runDefI, ioAt, insA, chL, getO, setO, getL, setL, obAt, eFd, eFV, eFB, fFld, fMeth, fMethI, fMake, fCallI, aHere, fIsO, sFldS, setF, Rs.fd, Fd.d, O.d, fMethD, chF, sAppF, fPopF, fPop0, fPop1, sIns, sRetI, sRetNI, fZip, fML, opAny, opAll, opSorted, opMaxL, opMinL, opRfind, opCount, List.map_cons, List.map_nil, cInA, cNinA, inD, itD, fItA, eItA, cLtA, cLeA, fRr1, fRr2, opInt, sPar, fCallD, fRaise0, fRaise1, sTryAs, sTry, aftr, noX, allEq_const, fXf, fXi, fLc, lcL, unE, tYs, Vs.ret, xLock, inis, bof, sNil, sSeq, sAsg, sRet, sRetV, sRetN, sIf, sDrop, sTg, sFor, sBrk, sCnt, sApp, sExt, sOwn, sSetI, opSetI, sLock, unlk, sbnd, bnd, fOp, fCh, fCl, fCall, fLst, fTup, fSl, fIf, fAnd, fOr, fNot, fTru, fAndV, fOrV, fNotV, fNeg, fIsi, fM1, fM2, fRg1, fRg2, fEn, fRev, fSg, fTp, fIt, eIt, eB, eV, eC, frz, shm, aCons, aNil, poN, poS, Rs.d, Rs.sl, vB, List.cons_append, List.nil_append, List.append_nil, List.replicate_zero, List.replicate_succ, List.getElem?_cons_zero, List.getElem?_cons_succ, List.set_cons_zero, List.set_cons_succ, List.length_cons, List.length_nil, opLen, lenD, opList, opAdd, opSub, opMul, opMod, opDiv, opPow, opMin, opMax, opIx, opSl, cmpB, cEq, cNe, cIsN, cNotN, truD, tgN, tgT, setAll, isKd, opFind, opFind3, opStarts, opStarts3, Nat.reduceLT, Nat.reduceAdd, Nat.reduceSub, Nat.reduceLeDiff, Int.reduceLT, Int.reduceLE, Int.reduceNeg, reduceIte, and_self, true_and, and_true, decide_true, decide_false, Int.toNat_natCast, List.getElem?_eq_getElem hk, decide_eq_false q1, decide_eq_false q2]
  have run : ∀ (n k : Nat) (s1 s2 s3 : Sl), k + n ≤ w.length → (∀ j, k ≤ j → j < k + n → ∀ hj : j < w.length, w[j] ≠ 60 ∧ w[j] ≠ 62) → ∀ R : List D, ∃ t1, forL (tgN 1) l1_law_step (((List.range' k n).map fun j : Nat => D.int (j : Int)) ++ R) [.sh (.str w), s1, s2, s3] = forL (tgN 1) l1_law_step R [.sh (.str w), t1, s2, s3] := fun n => by
    induction n with
    | zero => intro k s1 s2 s3 _ _ R; exact ⟨s1, rfl⟩
    | succ n ih =>
      intro k s1 s2 s3 hk hn R
      have hk' : k < w.length := by omega
      obtain ⟨n1, n2⟩ := hn k (Nat.le_refl _) (by omega) hk'
      obtain ⟨t1, e⟩ := ih (k + 1) (.sh (.int (k : Int))) s2 s3 (by omega) (fun j h1 h2 hj => hn j (by omega) (by omega) hj) R
      refine ⟨t1, ?_⟩
      rw [List.range'_succ, List.map_cons, List.cons_append, forL]
      have t : tgN 1 (D.int (k : Int)) [.sh (.str w), s1, s2, s3] = some [.sh (.str w), .sh (.int (k : Int)), s2, s3] := rfl
      rw [t]
      dsimp only
      rw [pass k hk' n1 n2 s2 s3]
      exact e
  have rg : ∀ n : Nat, rng 0 n = (List.range' 0 n).map fun j : Nat => D.int (j : Int) := fun n => by
    unfold rng
    rw [List.range_eq_range']
    refine List.map_congr_left fun j _ => ?_
    congr 1
    omega
  rcases sign_cases w with ⟨h1, h2⟩ | ⟨a, c, b, e, hc, h1, h2⟩
  · right
    refine ⟨fun ⟨s, _, e⟩ => ?_, ?_⟩
    · have m : sgn s ∈ w := by rw [e]; unfold shS; simp
      unfold sgn at m
      split at m
      · exact h2 m
      · exact h1 m
    · obtain ⟨t1, f1⟩ := run w.length 0 .un .un .un (by omega) (fun j _ _ hj => ⟨fun z => h1 (z ▸ List.getElem_mem hj), fun z => h2 (z ▸ List.getElem_mem hj)⟩) []
      rw [List.append_nil, ← rg] at f1
      unfold g_law_step b_law_step
      simp (disch := first | omega | assumption) only [if_pos, if_neg, decide_eq_true, decide_eq_false, atI_of, cutL_take, cutL_drop, cutL_mid, ge_iff_le, gt_iff_lt, Int.reduceToNat, Int.toNat_zero, Int.toNat_one, Bool.not_true, Bool.not_false, szl, fLcX, fRepl, fMaxD, fEnS, sStuck, fLenS, cGtA, sAppQ, sSetQ, sForT, forTL, opSortT, fDItems, fDKeys, fLcO, D.key, fDNew, fDGet, sDPutV, fDSet, fRg3, fChV, fSortL, frL, frS, fSortB, sRem, sqAt, eIxI, fItm, fItV, chS, sItC, sItA, sItI, sItS, fTmp, Sl.mut, Sl.th, O.d, sqD, D.atm, sTryR, fSq, aConsF, aNilF, eO, sTgF, setFd, Fd.sl, opJoinRev, fLRev, runDef, runDefI, ioAt, insA, chL, getO, setO, getL, setL, obAt, eFd, eFV, eFB, fFld, fMeth, fMethI, fMake, fCallI, aHere, fIsO, sFldS, setF, Rs.fd, Fd.d, O.d, fMethD, chF, sAppF, fPopF, fPop0, fPop1, sIns, sRetI, sRetNI, fZip, fML, opAny, opAll, opSorted, opMaxL, opMinL, opRfind, opCount, List.map_cons, List.map_nil, cInA, cNinA, inD, itD, fItA, eItA, cLtA, cLeA, fRr1, fRr2, opInt, sPar, fCallD, fRaise0, fRaise1, sTryAs, sTry, aftr, noX, allEq_const, fXf, fXi, fLc, lcL, unE, tYs, Vs.ret, xLock, inis, bof, sNil, sSeq, sAsg, sRet, sRetV, sRetN, sIf, sDrop, sTg, sFor, sBrk, sCnt, sApp, sExt, sOwn, sSetI, opSetI, sLock, unlk, sbnd, bnd, fOp, fCh, fCl, fCall, fLst, fTup, fSl, fIf, fAnd, fOr, fNot, fTru, fAndV, fOrV, fNotV, fNeg, fIsi, fM1, fM2, fRg1, fRg2, fEn, fRev, fSg, fTp, fIt, eIt, eB, eV, eC, frz, shm, aCons, aNil, poN, poS, Rs.d, Rs.sl, vB, List.cons_append, List.nil_append, List.append_nil, List.replicate_zero, List.replicate_succ, List.getElem?_cons_zero, List.getElem?_cons_succ, List.set_cons_zero, List.set_cons_succ, List.length_cons, List.length_nil, opLen, lenD, opList, opAdd, opSub, opMul, opMod, opDiv, opPow, opMin, opMax, opIx, opSl, cmpB, cEq, cNe, cIsN, cNotN, truD, tgN, tgT, setAll, isKd, opFind, opFind3, opStarts, opStarts3, Nat.reduceLT, Nat.reduceAdd, Nat.reduceSub, Nat.reduceLeDiff, Int.reduceLT, Int.reduceLE, Int.reduceNeg, reduceIte, and_self, true_and, and_true, decide_true, decide_false, Int.toNat_natCast, rn, f1, forL]
  · have al : a.length < w.length := by rw [e]; simp
    have wa : w[a.length]? = some c := by rw [e]; simp
    have nw : ∀ j, 0 ≤ j → j < 0 + a.length → ∀ hj : j < w.length, w[j] ≠ 60 ∧ w[j] ≠ 62 := fun j _ hj hw => by
      have ja : j < a.length := by omega
      have e2 : w[j]? = some a[j] := by
        rw [e, List.append_assoc, List.getElem?_append_left ja, List.getElem?_eq_getElem ja]
      rw [List.getElem?_eq_getElem hw] at e2
      rw [Option.some.inj e2]
      exact ⟨fun z => h1 (z ▸ List.getElem_mem ja), fun z => h2 (z ▸ List.getElem_mem ja)⟩
    obtain ⟨t1, f1⟩ := run a.length 0 .un .un .un (by omega) nw ((List.range' a.length (w.length - a.length)).map fun j : Nat => D.int (j : Int))
    have sp : rng 0 w.length = ((List.range' 0 a.length).map fun j : Nat => D.int (j : Int)) ++ ((List.range' a.length (w.length - a.length)).map fun j : Nat => D.int (j : Int)) := by
      rw [rg, ← List.map_append]
      congr 1
      rw [show w.length = a.length + (w.length - a.length) by omega, ← List.range'_append_1, Nat.zero_add]
      congr 2
      omega
    have hd : List.range' a.length (w.length - a.length) = a.length :: List.range' (a.length + 1) (w.length - a.length - 1) := by
      obtain ⟨m, hm⟩ : ∃ m, w.length - a.length = m + 1 := ⟨w.length - a.length - 1, by omega⟩
      rw [hm, List.range'_succ]
      rfl
    rw [← sp] at f1
    rw [hd, List.map_cons] at f1
    have ta : w.take a.length = a := by rw [e, List.append_assoc, List.take_left]
    have da : w.drop (a.length + 1) = b := by
      rw [e, show a.length + 1 = (a ++ [c]).length by simp, List.drop_left]
    have lb : a.length ≤ 1000 ∧ b.length ≤ 1000 := by rw [e] at hl; simp at hl; omega
    obtain ⟨A, hA⟩ : ∃ A : Int, A = (a.length : Int) := ⟨_, rfl⟩
    have A1 : A.toNat = a.length ∧ (A + 1).toNat = a.length + 1 := by omega
    have cc : (c = 60 ∧ decide ([c] = [60]) = true ∧ decide ([c] = [62]) = false) ∨ (c = 62 ∧ decide ([c] = [60]) = false ∧ decide ([c] = [62]) = true) := by
      rcases hc with rfl | rfl
      · exact .inl ⟨rfl, by decide, by decide⟩
      · exact .inr ⟨rfl, by decide, by decide⟩
    have body : (IsNum a ∧ IsNum b ∧ l1_law_step [.sh (.str w), .sh (.int (a.length : Int)), .un, .un] = some (.rt (.sh (.tup [.int ((vl a : Nat) : Int), .int ((vl b : Nat) : Int), .bl (decide ([c] = [62]))])))) ∨ (¬ (IsNum a ∧ IsNum b) ∧ l1_law_step [.sh (.str w), .sh (.int (a.length : Int)), .un, .un] = some (.rt (.sh .non))) := by
      have n1 := e_lnumber (f := a) lb.1
      have n2 := e_lnumber (f := b) lb.2
      have neg : (-1 : Int) < 0 := by decide
      have pa : ¬ ((vl a : Nat) : Int) < 0 := by omega
      have pb : ¬ ((vl b : Nat) : Int) < 0 := by omega
      obtain ⟨VA, hVA⟩ : ∃ z : Int, z = ((vl a : Nat) : Int) := ⟨_, rfl⟩
      obtain ⟨VB, hVB⟩ : ∃ z : Int, z = ((vl b : Nat) : Int) := ⟨_, rfl⟩
      rw [← hVA] at n1 pa ⊢
      rw [← hVB] at n2 pb ⊢
      rw [← hA]
      have wA : w[A.toNat]? = some c := by rw [A1.1]; exact wa
      have tA : w.take A.toNat = a := by rw [A1.1]; exact ta
      have dA : w.drop (A + 1).toNat = b := by rw [A1.2]; exact da
      have A0 : 0 ≤ A ∧ A < (w.length : Int) ∧ 0 ≤ A + 1 := by omega
      unfold l1_law_step i2_law_step i1_law_step
      rcases n1 with ⟨ia, n1⟩ | ⟨ia, n1⟩
      · rcases n2 with ⟨ib, n2⟩ | ⟨ib, n2⟩
        · refine .inl ⟨ia, ib, ?_⟩
          rcases cc with ⟨_, c1, c2⟩ | ⟨_, c1, c2⟩
          · simp (disch := first | omega | assumption) only [if_pos, if_neg, decide_eq_true, decide_eq_false, atI_of, cutL_take, cutL_drop, cutL_mid, ge_iff_le, gt_iff_lt, Int.reduceToNat, Int.toNat_zero, Int.toNat_one, Bool.not_true, Bool.not_false, szl, fLcX, fRepl, fMaxD, fEnS, sStuck, fLenS, cGtA, sAppQ, sSetQ, sForT, forTL, opSortT, fDItems, fDKeys, fLcO, D.key, fDNew, fDGet, sDPutV, fDSet, fRg3, fChV, fSortL, frL, frS, fSortB, sRem, sqAt, eIxI, fItm, fItV, chS, sItC, sItA, sItI, sItS, fTmp, Sl.mut, Sl.th, O.d, sqD, D.atm, sTryR, fSq, aConsF, aNilF, eO, sTgF, setFd, Fd.sl, opJoinRev, fLRev, runDef, runDefI, ioAt, insA, chL, getO, setO, getL, setL, obAt, eFd, eFV, eFB, fFld, fMeth, fMethI, fMake, fCallI, aHere, fIsO, sFldS, setF, Rs.fd, Fd.d, O.d, fMethD, chF, sAppF, fPopF, fPop0, fPop1, sIns, sRetI, sRetNI, fZip, fML, opAny, opAll, opSorted, opMaxL, opMinL, opRfind, opCount, List.map_cons, List.map_nil, cInA, cNinA, inD, itD, fItA, eItA, cLtA, cLeA, fRr1, fRr2, opInt, sPar, fCallD, fRaise0, fRaise1, sTryAs, sTry, aftr, noX, allEq_const, fXf, fXi, fLc, lcL, unE, tYs, Vs.ret, xLock, inis, bof, sNil, sSeq, sAsg, sRet, sRetV, sRetN, sIf, sDrop, sTg, sFor, sBrk, sCnt, sApp, sExt, sOwn, sSetI, opSetI, sLock, unlk, sbnd, bnd, fOp, fCh, fCl, fCall, fLst, fTup, fSl, fIf, fAnd, fOr, fNot, fTru, fAndV, fOrV, fNotV, fNeg, fIsi, fM1, fM2, fRg1, fRg2, fEn, fRev, fSg, fTp, fIt, eIt, eB, eV, eC, frz, shm, aCons, aNil, poN, poS, Rs.d, Rs.sl, vB, List.cons_append, List.nil_append, List.append_nil, List.replicate_zero, List.replicate_succ, List.getElem?_cons_zero, List.getElem?_cons_succ, List.set_cons_zero, List.set_cons_succ, List.length_cons, List.length_nil, opLen, lenD, opList, opAdd, opSub, opMul, opMod, opDiv, opPow, opMin, opMax, opIx, opSl, cmpB, cEq, cNe, cIsN, cNotN, truD, tgN, tgT, setAll, isKd, opFind, opFind3, opStarts, opStarts3, Nat.reduceLT, Nat.reduceAdd, Nat.reduceSub, Nat.reduceLeDiff, Int.reduceLT, Int.reduceLE, Int.reduceNeg, reduceIte, and_self, true_and, and_true, decide_true, decide_false, Int.toNat_natCast, wA, c1, c2, tA, dA, n1, n2, decide_eq_false pa, decide_eq_false pb]
          · simp (disch := first | omega | assumption) only [if_pos, if_neg, decide_eq_true, decide_eq_false, atI_of, cutL_take, cutL_drop, cutL_mid, ge_iff_le, gt_iff_lt, Int.reduceToNat, Int.toNat_zero, Int.toNat_one, Bool.not_true, Bool.not_false, szl, fLcX, fRepl, fMaxD, fEnS, sStuck, fLenS, cGtA, sAppQ, sSetQ, sForT, forTL, opSortT, fDItems, fDKeys, fLcO, D.key, fDNew, fDGet, sDPutV, fDSet, fRg3, fChV, fSortL, frL, frS, fSortB, sRem, sqAt, eIxI, fItm, fItV, chS, sItC, sItA, sItI, sItS, fTmp, Sl.mut, Sl.th, O.d, sqD, D.atm, sTryR, fSq, aConsF, aNilF, eO, sTgF, setFd, Fd.sl, opJoinRev, fLRev, runDef, runDefI, ioAt, insA, chL, getO, setO, getL, setL, obAt, eFd, eFV, eFB, fFld, fMeth, fMethI, fMake, fCallI, aHere, fIsO, sFldS, setF, Rs.fd, Fd.d, O.d, fMethD, chF, sAppF, fPopF, fPop0, fPop1, sIns, sRetI, sRetNI, fZip, fML, opAny, opAll, opSorted, opMaxL, opMinL, opRfind, opCount, List.map_cons, List.map_nil, cInA, cNinA, inD, itD, fItA, eItA, cLtA, cLeA, fRr1, fRr2, opInt, sPar, fCallD, fRaise0, fRaise1, sTryAs, sTry, aftr, noX, allEq_const, fXf, fXi, fLc, lcL, unE, tYs, Vs.ret, xLock, inis, bof, sNil, sSeq, sAsg, sRet, sRetV, sRetN, sIf, sDrop, sTg, sFor, sBrk, sCnt, sApp, sExt, sOwn, sSetI, opSetI, sLock, unlk, sbnd, bnd, fOp, fCh, fCl, fCall, fLst, fTup, fSl, fIf, fAnd, fOr, fNot, fTru, fAndV, fOrV, fNotV, fNeg, fIsi, fM1, fM2, fRg1, fRg2, fEn, fRev, fSg, fTp, fIt, eIt, eB, eV, eC, frz, shm, aCons, aNil, poN, poS, Rs.d, Rs.sl, vB, List.cons_append, List.nil_append, List.append_nil, List.replicate_zero, List.replicate_succ, List.getElem?_cons_zero, List.getElem?_cons_succ, List.set_cons_zero, List.set_cons_succ, List.length_cons, List.length_nil, opLen, lenD, opList, opAdd, opSub, opMul, opMod, opDiv, opPow, opMin, opMax, opIx, opSl, cmpB, cEq, cNe, cIsN, cNotN, truD, tgN, tgT, setAll, isKd, opFind, opFind3, opStarts, opStarts3, Nat.reduceLT, Nat.reduceAdd, Nat.reduceSub, Nat.reduceLeDiff, Int.reduceLT, Int.reduceLE, Int.reduceNeg, reduceIte, and_self, true_and, and_true, decide_true, decide_false, Int.toNat_natCast, wA, c1, c2, tA, dA, n1, n2, decide_eq_false pa, decide_eq_false pb]
        · refine .inr ⟨fun z => ib z.2, ?_⟩
          rcases cc with ⟨_, c1, c2⟩ | ⟨_, c1, c2⟩
          · simp (disch := first | omega | assumption) only [if_pos, if_neg, decide_eq_true, decide_eq_false, atI_of, cutL_take, cutL_drop, cutL_mid, ge_iff_le, gt_iff_lt, Int.reduceToNat, Int.toNat_zero, Int.toNat_one, Bool.not_true, Bool.not_false, szl, fLcX, fRepl, fMaxD, fEnS, sStuck, fLenS, cGtA, sAppQ, sSetQ, sForT, forTL, opSortT, fDItems, fDKeys, fLcO, D.key, fDNew, fDGet, sDPutV, fDSet, fRg3, fChV, fSortL, frL, frS, fSortB, sRem, sqAt, eIxI, fItm, fItV, chS, sItC, sItA, sItI, sItS, fTmp, Sl.mut, Sl.th, O.d, sqD, D.atm, sTryR, fSq, aConsF, aNilF, eO, sTgF, setFd, Fd.sl, opJoinRev, fLRev, runDef, runDefI, ioAt, insA, chL, getO, setO, getL, setL, obAt, eFd, eFV, eFB, fFld, fMeth, fMethI, fMake, fCallI, aHere, fIsO, sFldS, setF, Rs.fd, Fd.d, O.d, fMethD, chF, sAppF, fPopF, fPop0, fPop1, sIns, sRetI, sRetNI, fZip, fML, opAny, opAll, opSorted, opMaxL, opMinL, opRfind, opCount, List.map_cons, List.map_nil, cInA, cNinA, inD, itD, fItA, eItA, cLtA, cLeA, fRr1, fRr2, opInt, sPar, fCallD, fRaise0, fRaise1, sTryAs, sTry, aftr, noX, allEq_const, fXf, fXi, fLc, lcL, unE, tYs, Vs.ret, xLock, inis, bof, sNil, sSeq, sAsg, sRet, sRetV, sRetN, sIf, sDrop, sTg, sFor, sBrk, sCnt, sApp, sExt, sOwn, sSetI, opSetI, sLock, unlk, sbnd, bnd, fOp, fCh, fCl, fCall, fLst, fTup, fSl, fIf, fAnd, fOr, fNot, fTru, fAndV, fOrV, fNotV, fNeg, fIsi, fM1, fM2, fRg1, fRg2, fEn, fRev, fSg, fTp, fIt, eIt, eB, eV, eC, frz, shm, aCons, aNil, poN, poS, Rs.d, Rs.sl, vB, List.cons_append, List.nil_append, List.append_nil, List.replicate_zero, List.replicate_succ, List.getElem?_cons_zero, List.getElem?_cons_succ, List.set_cons_zero, List.set_cons_succ, List.length_cons, List.length_nil, opLen, lenD, opList, opAdd, opSub, opMul, opMod, opDiv, opPow, opMin, opMax, opIx, opSl, cmpB, cEq, cNe, cIsN, cNotN, truD, tgN, tgT, setAll, isKd, opFind, opFind3, opStarts, opStarts3, Nat.reduceLT, Nat.reduceAdd, Nat.reduceSub, Nat.reduceLeDiff, Int.reduceLT, Int.reduceLE, Int.reduceNeg, reduceIte, and_self, true_and, and_true, decide_true, decide_false, Int.toNat_natCast, wA, c1, c2, tA, dA, n1, n2, decide_eq_false pa, decide_eq_true neg]
          · simp (disch := first | omega | assumption) only [if_pos, if_neg, decide_eq_true, decide_eq_false, atI_of, cutL_take, cutL_drop, cutL_mid, ge_iff_le, gt_iff_lt, Int.reduceToNat, Int.toNat_zero, Int.toNat_one, Bool.not_true, Bool.not_false, szl, fLcX, fRepl, fMaxD, fEnS, sStuck, fLenS, cGtA, sAppQ, sSetQ, sForT, forTL, opSortT, fDItems, fDKeys, fLcO, D.key, fDNew, fDGet, sDPutV, fDSet, fRg3, fChV, fSortL, frL, frS, fSortB, sRem, sqAt, eIxI, fItm, fItV, chS, sItC, sItA, sItI, sItS, fTmp, Sl.mut, Sl.th, O.d, sqD, D.atm, sTryR, fSq, aConsF, aNilF, eO, sTgF, setFd, Fd.sl, opJoinRev, fLRev, runDef, runDefI, ioAt, insA, chL, getO, setO, getL, setL, obAt, eFd, eFV, eFB, fFld, fMeth, fMethI, fMake, fCallI, aHere, fIsO, sFldS, setF, Rs.fd, Fd.d, O.d, fMethD, chF, sAppF, fPopF, fPop0, fPop1, sIns, sRetI, sRetNI, fZip, fML, opAny, opAll, opSorted, opMaxL, opMinL, opRfind, opCount, List.map_cons, List.map_nil, cInA, cNinA, inD, itD, fItA, eItA, cLtA, cLeA, fRr1, fRr2, opInt, sPar, fCallD, fRaise0, fRaise1, sTryAs, sTry, aftr, noX, allEq_const, fXf, fXi, fLc, lcL, unE, tYs, Vs.ret, xLock, inis, bof, sNil, sSeq, sAsg, sRet, sRetV, sRetN, sIf, sDrop, sTg, sFor, sBrk, sCnt, sApp, sExt, sOwn, sSetI, opSetI, sLock, unlk, sbnd, bnd, fOp, fCh, fCl, fCall, fLst, fTup, fSl, fIf, fAnd, fOr, fNot, fTru, fAndV, fOrV, fNotV, fNeg, fIsi, fM1, fM2, fRg1, fRg2, fEn, fRev, fSg, fTp, fIt, eIt, eB, eV, eC, frz, shm, aCons, aNil, poN, poS, Rs.d, Rs.sl, vB, List.cons_append, List.nil_append, List.append_nil, List.replicate_zero, List.replicate_succ, List.getElem?_cons_zero, List.getElem?_cons_succ, List.set_cons_zero, List.set_cons_succ, List.length_cons, List.length_nil, opLen, lenD, opList, opAdd, opSub, opMul, opMod, opDiv, opPow, opMin, opMax, opIx, opSl, cmpB, cEq, cNe, cIsN, cNotN, truD, tgN, tgT, setAll, isKd, opFind, opFind3, opStarts, opStarts3, Nat.reduceLT, Nat.reduceAdd, Nat.reduceSub, Nat.reduceLeDiff, Int.reduceLT, Int.reduceLE, Int.reduceNeg, reduceIte, and_self, true_and, and_true, decide_true, decide_false, Int.toNat_natCast, wA, c1, c2, tA, dA, n1, n2, decide_eq_false pa, decide_eq_true neg]
      · refine .inr ⟨fun z => ia z.1, ?_⟩
        rcases n2 with ⟨ib, n2⟩ | ⟨ib, n2⟩ <;> rcases cc with ⟨_, c1, c2⟩ | ⟨_, c1, c2⟩
        · simp (disch := first | omega | assumption) only [if_pos, if_neg, decide_eq_true, decide_eq_false, atI_of, cutL_take, cutL_drop, cutL_mid, ge_iff_le, gt_iff_lt, Int.reduceToNat, Int.toNat_zero, Int.toNat_one, Bool.not_true, Bool.not_false, szl, fLcX, fRepl, fMaxD, fEnS, sStuck, fLenS, cGtA, sAppQ, sSetQ, sForT, forTL, opSortT, fDItems, fDKeys, fLcO, D.key, fDNew, fDGet, sDPutV, fDSet, fRg3, fChV, fSortL, frL, frS, fSortB, sRem, sqAt, eIxI, fItm, fItV, chS, sItC, sItA, sItI, sItS, fTmp, Sl.mut, Sl.th, O.d, sqD, D.atm, sTryR, fSq, aConsF, aNilF, eO, sTgF, setFd, Fd.sl, opJoinRev, fLRev, runDef, runDefI, ioAt, insA, chL, getO, setO, getL, setL, obAt, eFd, eFV, eFB, fFld, fMeth, fMethI, fMake, fCallI, aHere, fIsO, sFldS, setF, Rs.fd, Fd.d, O.d, fMethD, chF, sAppF, fPopF, fPop0, fPop1, sIns, sRetI, sRetNI, fZip, fML, opAny, opAll, opSorted, opMaxL, opMinL, opRfind, opCount, List.map_cons, List.map_nil, cInA, cNinA, inD, itD, fItA, eItA, cLtA, cLeA, fRr1, fRr2, opInt, sPar, fCallD, fRaise0, fRaise1, sTryAs, sTry, aftr, noX, allEq_const, fXf, fXi, fLc, lcL, unE, tYs, Vs.ret, xLock, inis, bof, sNil, sSeq, sAsg, sRet, sRetV, sRetN, sIf, sDrop, sTg, sFor, sBrk, sCnt, sApp, sExt, sOwn, sSetI, opSetI, sLock, unlk, sbnd, bnd, fOp, fCh, fCl, fCall, fLst, fTup, fSl, fIf, fAnd, fOr, fNot, fTru, fAndV, fOrV, fNotV, fNeg, fIsi, fM1, fM2, fRg1, fRg2, fEn, fRev, fSg, fTp, fIt, eIt, eB, eV, eC, frz, shm, aCons, aNil, poN, poS, Rs.d, Rs.sl, vB, List.cons_append, List.nil_append, List.append_nil, List.replicate_zero, List.replicate_succ, List.getElem?_cons_zero, List.getElem?_cons_succ, List.set_cons_zero, List.set_cons_succ, List.length_cons, List.length_nil, opLen, lenD, opList, opAdd, opSub, opMul, opMod, opDiv, opPow, opMin, opMax, opIx, opSl, cmpB, cEq, cNe, cIsN, cNotN, truD, tgN, tgT, setAll, isKd, opFind, opFind3, opStarts, opStarts3, Nat.reduceLT, Nat.reduceAdd, Nat.reduceSub, Nat.reduceLeDiff, Int.reduceLT, Int.reduceLE, Int.reduceNeg, reduceIte, and_self, true_and, and_true, decide_true, decide_false, Int.toNat_natCast, wA, c1, c2, tA, dA, n1, n2, decide_eq_true neg]
        · simp (disch := first | omega | assumption) only [if_pos, if_neg, decide_eq_true, decide_eq_false, atI_of, cutL_take, cutL_drop, cutL_mid, ge_iff_le, gt_iff_lt, Int.reduceToNat, Int.toNat_zero, Int.toNat_one, Bool.not_true, Bool.not_false, szl, fLcX, fRepl, fMaxD, fEnS, sStuck, fLenS, cGtA, sAppQ, sSetQ, sForT, forTL, opSortT, fDItems, fDKeys, fLcO, D.key, fDNew, fDGet, sDPutV, fDSet, fRg3, fChV, fSortL, frL, frS, fSortB, sRem, sqAt, eIxI, fItm, fItV, chS, sItC, sItA, sItI, sItS, fTmp, Sl.mut, Sl.th, O.d, sqD, D.atm, sTryR, fSq, aConsF, aNilF, eO, sTgF, setFd, Fd.sl, opJoinRev, fLRev, runDef, runDefI, ioAt, insA, chL, getO, setO, getL, setL, obAt, eFd, eFV, eFB, fFld, fMeth, fMethI, fMake, fCallI, aHere, fIsO, sFldS, setF, Rs.fd, Fd.d, O.d, fMethD, chF, sAppF, fPopF, fPop0, fPop1, sIns, sRetI, sRetNI, fZip, fML, opAny, opAll, opSorted, opMaxL, opMinL, opRfind, opCount, List.map_cons, List.map_nil, cInA, cNinA, inD, itD, fItA, eItA, cLtA, cLeA, fRr1, fRr2, opInt, sPar, fCallD, fRaise0, fRaise1, sTryAs, sTry, aftr, noX, allEq_const, fXf, fXi, fLc, lcL, unE, tYs, Vs.ret, xLock, inis, bof, sNil, sSeq, sAsg, sRet, sRetV, sRetN, sIf, sDrop, sTg, sFor, sBrk, sCnt, sApp, sExt, sOwn, sSetI, opSetI, sLock, unlk, sbnd, bnd, fOp, fCh, fCl, fCall, fLst, fTup, fSl, fIf, fAnd, fOr, fNot, fTru, fAndV, fOrV, fNotV, fNeg, fIsi, fM1, fM2, fRg1, fRg2, fEn, fRev, fSg, fTp, fIt, eIt, eB, eV, eC, frz, shm, aCons, aNil, poN, poS, Rs.d, Rs.sl, vB, List.cons_append, List.nil_append, List.append_nil, List.replicate_zero, List.replicate_succ, List.getElem?_cons_zero, List.getElem?_cons_succ, List.set_cons_zero, List.set_cons_succ, List.length_cons, List.length_nil, opLen, lenD, opList, opAdd, opSub, opMul, opMod, opDiv, opPow, opMin, opMax, opIx, opSl, cmpB, cEq, cNe, cIsN, cNotN, truD, tgN, tgT, setAll, isKd, opFind, opFind3, opStarts, opStarts3, Nat.reduceLT, Nat.reduceAdd, Nat.reduceSub, Nat.reduceLeDiff, Int.reduceLT, Int.reduceLE, Int.reduceNeg, reduceIte, and_self, true_and, and_true, decide_true, decide_false, Int.toNat_natCast, wA, c1, c2, tA, dA, n1, n2, decide_eq_true neg]
        · simp (disch := first | omega | assumption) only [if_pos, if_neg, decide_eq_true, decide_eq_false, atI_of, cutL_take, cutL_drop, cutL_mid, ge_iff_le, gt_iff_lt, Int.reduceToNat, Int.toNat_zero, Int.toNat_one, Bool.not_true, Bool.not_false, szl, fLcX, fRepl, fMaxD, fEnS, sStuck, fLenS, cGtA, sAppQ, sSetQ, sForT, forTL, opSortT, fDItems, fDKeys, fLcO, D.key, fDNew, fDGet, sDPutV, fDSet, fRg3, fChV, fSortL, frL, frS, fSortB, sRem, sqAt, eIxI, fItm, fItV, chS, sItC, sItA, sItI, sItS, fTmp, Sl.mut, Sl.th, O.d, sqD, D.atm, sTryR, fSq, aConsF, aNilF, eO, sTgF, setFd, Fd.sl, opJoinRev, fLRev, runDef, runDefI, ioAt, insA, chL, getO, setO, getL, setL, obAt, eFd, eFV, eFB, fFld, fMeth, fMethI, fMake, fCallI, aHere, fIsO, sFldS, setF, Rs.fd, Fd.d, O.d, fMethD, chF, sAppF, fPopF, fPop0, fPop1, sIns, sRetI, sRetNI, fZip, fML, opAny, opAll, opSorted, opMaxL, opMinL, opRfind, opCount, List.map_cons, List.map_nil, cInA, cNinA, inD, itD, fItA, eItA, cLtA, cLeA, fRr1, fRr2, opInt, sPar, fCallD, fRaise0, fRaise1, sTryAs, sTry, aftr, noX, allEq_const, fXf, fXi, fLc, lcL, unE, tYs, Vs.ret, xLock, inis, bof, sNil, sSeq, sAsg, sRet, sRetV, sRetN, sIf, sDrop, sTg, sFor, sBrk, sCnt, sApp, sExt, sOwn, sSetI, opSetI, sLock, unlk, sbnd, bnd, fOp, fCh, fCl, fCall, fLst, fTup, fSl, fIf, fAnd, fOr, fNot, fTru, fAndV, fOrV, fNotV, fNeg, fIsi, fM1, fM2, fRg1, fRg2, fEn, fRev, fSg, fTp, fIt, eIt, eB, eV, eC, frz, shm, aCons, aNil, poN, poS, Rs.d, Rs.sl, vB, List.cons_append, List.nil_append, List.append_nil, List.replicate_zero, List.replicate_succ, List.getElem?_cons_zero, List.getElem?_cons_succ, List.set_cons_zero, List.set_cons_succ, List.length_cons, List.length_nil, opLen, lenD, opList, opAdd, opSub, opMul, opMod, opDiv, opPow, opMin, opMax, opIx, opSl, cmpB, cEq, cNe, cIsN, cNotN, truD, tgN, tgT, setAll, isKd, opFind, opFind3, opStarts, opStarts3, Nat.reduceLT, Nat.reduceAdd, Nat.reduceSub, Nat.reduceLeDiff, Int.reduceLT, Int.reduceLE, Int.reduceNeg, reduceIte, and_self, true_and, and_true, decide_true, decide_false, Int.toNat_natCast, wA, c1, c2, tA, dA, n1, n2, decide_eq_true neg]
        · simp (disch := first | omega | assumption) only [if_pos, if_neg, decide_eq_true, decide_eq_false, atI_of, cutL_take, cutL_drop, cutL_mid, ge_iff_le, gt_iff_lt, Int.reduceToNat, Int.toNat_zero, Int.toNat_one, Bool.not_true, Bool.not_false, szl, fLcX, fRepl, fMaxD, fEnS, sStuck, fLenS, cGtA, sAppQ, sSetQ, sForT, forTL, opSortT, fDItems, fDKeys, fLcO, D.key, fDNew, fDGet, sDPutV, fDSet, fRg3, fChV, fSortL, frL, frS, fSortB, sRem, sqAt, eIxI, fItm, fItV, chS, sItC, sItA, sItI, sItS, fTmp, Sl.mut, Sl.th, O.d, sqD, D.atm, sTryR, fSq, aConsF, aNilF, eO, sTgF, setFd, Fd.sl, opJoinRev, fLRev, runDef, runDefI, ioAt, insA, chL, getO, setO, getL, setL, obAt, eFd, eFV, eFB, fFld, fMeth, fMethI, fMake, fCallI, aHere, fIsO, sFldS, setF, Rs.fd, Fd.d, O.d, fMethD, chF, sAppF, fPopF, fPop0, fPop1, sIns, sRetI, sRetNI, fZip, fML, opAny, opAll, opSorted, opMaxL, opMinL, opRfind, opCount, List.map_cons, List.map_nil, cInA, cNinA, inD, itD, fItA, eItA, cLtA, cLeA, fRr1, fRr2, opInt, sPar, fCallD, fRaise0, fRaise1, sTryAs, sTry, aftr, noX, allEq_const, fXf, fXi, fLc, lcL, unE, tYs, Vs.ret, xLock, inis, bof, sNil, sSeq, sAsg, sRet, sRetV, sRetN, sIf, sDrop, sTg, sFor, sBrk, sCnt, sApp, sExt, sOwn, sSetI, opSetI, sLock, unlk, sbnd, bnd, fOp, fCh, fCl, fCall, fLst, fTup, fSl, fIf, fAnd, fOr, fNot, fTru, fAndV, fOrV, fNotV, fNeg, fIsi, fM1, fM2, fRg1, fRg2, fEn, fRev, fSg, fTp, fIt, eIt, eB, eV, eC, frz, shm, aCons, aNil, poN, poS, Rs.d, Rs.sl, vB, List.cons_append, List.nil_append, List.append_nil, List.replicate_zero, List.replicate_succ, List.getElem?_cons_zero, List.getElem?_cons_succ, List.set_cons_zero, List.set_cons_succ, List.length_cons, List.length_nil, opLen, lenD, opList, opAdd, opSub, opMul, opMod, opDiv, opPow, opMin, opMax, opIx, opSl, cmpB, cEq, cNe, cIsN, cNotN, truD, tgN, tgT, setAll, isKd, opFind, opFind3, opStarts, opStarts3, Nat.reduceLT, Nat.reduceAdd, Nat.reduceSub, Nat.reduceLeDiff, Int.reduceLT, Int.reduceLE, Int.reduceNeg, reduceIte, and_self, true_and, and_true, decide_true, decide_false, Int.toNat_natCast, wA, c1, c2, tA, dA, n1, n2, decide_eq_true neg]
    have t : tgN 1 (D.int (a.length : Int)) [.sh (.str w), t1, .un, .un] = some [.sh (.str w), .sh (.int (a.length : Int)), .un, .un] := rfl
    rw [forL, t] at f1
    dsimp only at f1
    rcases body with ⟨ia, ib, bd⟩ | ⟨nab, bd⟩
    · left
      obtain ⟨q1, q2⟩ := stp_of hc ia ib
      refine ⟨_, q1, e.trans q2, ?_⟩
      rw [bd] at f1
      have eb : decide ([c] = [62]) = decide (c = 62) := by rcases hc with rfl | rfl <;> rfl
      unfold stD
      rw [← eb]
      unfold g_law_step b_law_step
      simp (disch := first | omega | assumption) only [if_pos, if_neg, decide_eq_true, decide_eq_false, atI_of, cutL_take, cutL_drop, cutL_mid, ge_iff_le, gt_iff_lt, Int.reduceToNat, Int.toNat_zero, Int.toNat_one, Bool.not_true, Bool.not_false, szl, fLcX, fRepl, fMaxD, fEnS, sStuck, fLenS, cGtA, sAppQ, sSetQ, sForT, forTL, opSortT, fDItems, fDKeys, fLcO, D.key, fDNew, fDGet, sDPutV, fDSet, fRg3, fChV, fSortL, frL, frS, fSortB, sRem, sqAt, eIxI, fItm, fItV, chS, sItC, sItA, sItI, sItS, fTmp, Sl.mut, Sl.th, O.d, sqD, D.atm, sTryR, fSq, aConsF, aNilF, eO, sTgF, setFd, Fd.sl, opJoinRev, fLRev, runDef, runDefI, ioAt, insA, chL, getO, setO, getL, setL, obAt, eFd, eFV, eFB, fFld, fMeth, fMethI, fMake, fCallI, aHere, fIsO, sFldS, setF, Rs.fd, Fd.d, O.d, fMethD, chF, sAppF, fPopF, fPop0, fPop1, sIns, sRetI, sRetNI, fZip, fML, opAny, opAll, opSorted, opMaxL, opMinL, opRfind, opCount, List.map_cons, List.map_nil, cInA, cNinA, inD, itD, fItA, eItA, cLtA, cLeA, fRr1, fRr2, opInt, sPar, fCallD, fRaise0, fRaise1, sTryAs, sTry, aftr, noX, allEq_const, fXf, fXi, fLc, lcL, unE, tYs, Vs.ret, xLock, inis, bof, sNil, sSeq, sAsg, sRet, sRetV, sRetN, sIf, sDrop, sTg, sFor, sBrk, sCnt, sApp, sExt, sOwn, sSetI, opSetI, sLock, unlk, sbnd, bnd, fOp, fCh, fCl, fCall, fLst, fTup, fSl, fIf, fAnd, fOr, fNot, fTru, fAndV, fOrV, fNotV, fNeg, fIsi, fM1, fM2, fRg1, fRg2, fEn, fRev, fSg, fTp, fIt, eIt, eB, eV, eC, frz, shm, aCons, aNil, poN, poS, Rs.d, Rs.sl, vB, List.cons_append, List.nil_append, List.append_nil, List.replicate_zero, List.replicate_succ, List.getElem?_cons_zero, List.getElem?_cons_succ, List.set_cons_zero, List.set_cons_succ, List.length_cons, List.length_nil, opLen, lenD, opList, opAdd, opSub, opMul, opMod, opDiv, opPow, opMin, opMax, opIx, opSl, cmpB, cEq, cNe, cIsN, cNotN, truD, tgN, tgT, setAll, isKd, opFind, opFind3, opStarts, opStarts3, Nat.reduceLT, Nat.reduceAdd, Nat.reduceSub, Nat.reduceLeDiff, Int.reduceLT, Int.reduceLE, Int.reduceNeg, reduceIte, and_self, true_and, and_true, decide_true, decide_false, Int.toNat_natCast, rn, f1]
    · right
      have nc : c ∉ a := by rcases hc with rfl | rfl <;> assumption
      refine ⟨fun h => nab (stp_at hc nc (e ▸ h)), ?_⟩
      rw [bd] at f1
      unfold g_law_step b_law_step
      simp (disch := first | omega | assumption) only [if_pos, if_neg, decide_eq_true, decide_eq_false, atI_of, cutL_take, cutL_drop, cutL_mid, ge_iff_le, gt_iff_lt, Int.reduceToNat, Int.toNat_zero, Int.toNat_one, Bool.not_true, Bool.not_false, szl, fLcX, fRepl, fMaxD, fEnS, sStuck, fLenS, cGtA, sAppQ, sSetQ, sForT, forTL, opSortT, fDItems, fDKeys, fLcO, D.key, fDNew, fDGet, sDPutV, fDSet, fRg3, fChV, fSortL, frL, frS, fSortB, sRem, sqAt, eIxI, fItm, fItV, chS, sItC, sItA, sItI, sItS, fTmp, Sl.mut, Sl.th, O.d, sqD, D.atm, sTryR, fSq, aConsF, aNilF, eO, sTgF, setFd, Fd.sl, opJoinRev, fLRev, runDef, runDefI, ioAt, insA, chL, getO, setO, getL, setL, obAt, eFd, eFV, eFB, fFld, fMeth, fMethI, fMake, fCallI, aHere, fIsO, sFldS, setF, Rs.fd, Fd.d, O.d, fMethD, chF, sAppF, fPopF, fPop0, fPop1, sIns, sRetI, sRetNI, fZip, fML, opAny, opAll, opSorted, opMaxL, opMinL, opRfind, opCount, List.map_cons, List.map_nil, cInA, cNinA, inD, itD, fItA, eItA, cLtA, cLeA, fRr1, fRr2, opInt, sPar, fCallD, fRaise0, fRaise1, sTryAs, sTry, aftr, noX, allEq_const, fXf, fXi, fLc, lcL, unE, tYs, Vs.ret, xLock, inis, bof, sNil, sSeq, sAsg, sRet, sRetV, sRetN, sIf, sDrop, sTg, sFor, sBrk, sCnt, sApp, sExt, sOwn, sSetI, opSetI, sLock, unlk, sbnd, bnd, fOp, fCh, fCl, fCall, fLst, fTup, fSl, fIf, fAnd, fOr, fNot, fTru, fAndV, fOrV, fNotV, fNeg, fIsi, fM1, fM2, fRg1, fRg2, fEn, fRev, fSg, fTp, fIt, eIt, eB, eV, eC, frz, shm, aCons, aNil, poN, poS, Rs.d, Rs.sl, vB, List.cons_append, List.nil_append, List.append_nil, List.replicate_zero, List.replicate_succ, List.getElem?_cons_zero, List.getElem?_cons_succ, List.set_cons_zero, List.set_cons_succ, List.length_cons, List.length_nil, opLen, lenD, opList, opAdd, opSub, opMul, opMod, opDiv, opPow, opMin, opMax, opIx, opSl, cmpB, cEq, cNe, cIsN, cNotN, truD, tgN, tgT, setAll, isKd, opFind, opFind3, opStarts, opStarts3, Nat.reduceLT, Nat.reduceAdd, Nat.reduceSub, Nat.reduceLeDiff, Int.reduceLT, Int.reduceLE, Int.reduceNeg, reduceIte, and_self, true_and, and_true, decide_true, decide_false, Int.toNat_natCast, rn, f1]

/-! k07: the text parted at blanks -/
theorem pre32 (c : Nat) (r : List Nat) : TL.pre [32] (c :: r) = decide (c = 32) := by
  by_cases h : c = 32
  · subst h
    rw [decide_eq_true rfl]
    rfl
  · rw [decide_eq_false h]
    exact TL.pre_of_head [] r h
theorem sp_hit (acc r : List Nat) : TL.spl [32] 0 acc (32 :: r) = acc :: TL.spl [32] 0 [] r := TL.spl_hit (by rw [pre32]; rfl)
theorem sp_miss {c : Nat} (h : c ≠ 32) (acc r : List Nat) : TL.spl [32] 0 acc (c :: r) = TL.spl [32] 0 (acc ++ [c]) r := TL.spl_miss (by rw [pre32]; exact decide_eq_false h)
theorem sp_ne (acc l : List Nat) : TL.spl [32] 0 acc l ≠ [] := by
  induction l generalizing acc with
  | nil => rw [TL.spl_nil]; exact fun z => nomatch z
  | cons c l ih =>
    by_cases h : c = 32
    · subst h; rw [sp_hit]; exact fun z => nomatch z
    · rw [sp_miss h]; exact ih _
theorem sp_join (acc l : List Nat) : TL.joinL [32] (TL.spl [32] 0 acc l) = acc ++ l := by
  induction l generalizing acc with
  | nil => rw [TL.spl_nil, List.append_nil]; rfl
  | cons c l ih =>
    by_cases h : c = 32
    · subst h
      rw [sp_hit]
      have := ih []
      have ne := sp_ne [] l
      cases e : TL.spl [32] 0 [] l with
      | nil => exact absurd e ne
      | cons p ps =>
        rw [e] at this
        show acc ++ ([32] ++ TL.joinL [32] (p :: ps)) = acc ++ 32 :: l
        rw [this]
        rfl
    · rw [sp_miss h, ih, List.append_assoc]
      rfl
theorem sp_len (acc l : List Nat) : (TL.spl [32] 0 acc l).length ≤ l.length + 1 ∧ ∀ p ∈ TL.spl [32] 0 acc l, p.length ≤ acc.length + l.length := by
  induction l generalizing acc with
  | nil => rw [TL.spl_nil]; exact ⟨Nat.le_refl _, fun p hp => by rw [List.mem_singleton.mp hp]; exact Nat.le_refl _⟩
  | cons c l ih =>
    by_cases h : c = 32
    · subst h
      rw [sp_hit]
      obtain ⟨h1, h2⟩ := ih []
      refine ⟨by rw [List.length_cons, List.length_cons]; omega, fun p hp => ?_⟩
      rcases List.mem_cons.mp hp with rfl | hp
      · omega
      · have := h2 p hp
        rw [List.length_cons]
        simp only [List.length_nil] at this
        omega
    · rw [sp_miss h]
      obtain ⟨h1, h2⟩ := ih (acc ++ [c])
      refine ⟨by rw [List.length_cons]; omega, fun p hp => ?_⟩
      have := h2 p hp
      rw [List.length_append, List.length_singleton] at this
      rw [List.length_cons]
      omega
theorem stL_snoc (ss : List Stp) (s : Stp) : stL (ss ++ [s]) = stL ss ++ [stD s] := by unfold stL; rw [List.map_append]; rfl
/-- a blank: the part so far is read -/
theorem due_blank {t part : List Nat} {ss : List Stp} {s4 : Sl} (hp : part.length ≤ 1000) (hs : ss.length ≤ 5000) : (∃ s, Sm4 s ∧ part = shS s ∧ l1_law_due [.sh (.str t), .ow (stL ss), .sh (.str part), .sh (.str [32]), s4] = some (.nx [.sh (.str t), .ow (stL (ss ++ [s])), .sh (.str []), .sh (.str [32]), .sh (stD s)])) ∨
    (¬ IsStp part ∧ l1_law_due [.sh (.str t), .ow (stL ss), .sh (.str part), .sh (.str [32]), s4] = some (.rt (.sh .non))) := by
  have sl : (stL ss).length < 1000000 := by rw [stL_len]; omega
  rcases e_lstep hp with ⟨s, h1, h2, e⟩ | ⟨h, e⟩
  · refine .inl ⟨s, h1, h2, ?_⟩
    rw [stL_snoc]
    unfold stD at e ⊢
    unfold l1_law_due i3_law_due i2_law_due
    simp (disch := first | omega | assumption) only [if_pos, if_neg, decide_eq_true, decide_eq_false, atI_of, cutL_take, cutL_drop, cutL_mid, ge_iff_le, gt_iff_lt, Int.reduceToNat, Int.toNat_zero, Int.toNat_one, Bool.not_true, Bool.not_false, szl, fLcX, fRepl, fMaxD, fEnS, sStuck, fLenS, cGtA, sAppQ, sSetQ, sForT, forTL, opSortT, fDItems, fDKeys, fLcO, D.key, fDNew, fDGet, sDPutV, fDSet, fRg3, fChV, fSortL, frL, frS, fSortB, sRem, sqAt, eIxI, fItm, fItV, chS, sItC, sItA, sItI, sItS, fTmp, Sl.mut, Sl.th, O.d, sqD, D.atm, sTryR, fSq, aConsF, aNilF, eO, sTgF, setFd, Fd.sl, opJoinRev, fLRev, runDef, runDefI, ioAt, insA, chL, getO, setO, getL, setL, obAt, eFd, eFV, eFB, fFld, fMeth, fMethI, fMake, fCallI, aHere, fIsO, sFldS, setF, Rs.fd, Fd.d, O.d, fMethD, chF, sAppF, fPopF, fPop0, fPop1, sIns, sRetI, sRetNI, fZip, fML, opAny, opAll, opSorted, opMaxL, opMinL, opRfind, opCount, List.map_cons, List.map_nil, cInA, cNinA, inD, itD, fItA, eItA, cLtA, cLeA, fRr1, fRr2, opInt, sPar, fCallD, fRaise0, fRaise1, sTryAs, sTry, aftr, noX, allEq_const, fXf, fXi, fLc, lcL, unE, tYs, Vs.ret, xLock, inis, bof, sNil, sSeq, sAsg, sRet, sRetV, sRetN, sIf, sDrop, sTg, sFor, sBrk, sCnt, sApp, sExt, sOwn, sSetI, opSetI, sLock, unlk, sbnd, bnd, fOp, fCh, fCl, fCall, fLst, fTup, fSl, fIf, fAnd, fOr, fNot, fTru, fAndV, fOrV, fNotV, fNeg, fIsi, fM1, fM2, fRg1, fRg2, fEn, fRev, fSg, fTp, fIt, eIt, eB, eV, eC, frz, shm, aCons, aNil, poN, poS, Rs.d, Rs.sl, vB, List.cons_append, List.nil_append, List.append_nil, List.replicate_zero, List.replicate_succ, List.getElem?_cons_zero, List.getElem?_cons_succ, List.set_cons_zero, List.set_cons_succ, List.length_cons, List.length_nil, opLen, lenD, opList, opAdd, opSub, opMul, opMod, opDiv, opPow, opMin, opMax, opIx, opSl, cmpB, cEq, cNe, cIsN, cNotN, truD, tgN, tgT, setAll, isKd, opFind, opFind3, opStarts, opStarts3, Nat.reduceLT, Nat.reduceAdd, Nat.reduceSub, Nat.reduceLeDiff, Int.reduceLT, Int.reduceLE, Int.reduceNeg, reduceIte, and_self, true_and, and_true, decide_true, decide_false, Int.toNat_natCast, decide_true, Bool.not_true, e]
  · refine .inr ⟨h, ?_⟩
    unfold l1_law_due i3_law_due i2_law_due
    simp (disch := first | omega | assumption) only [if_pos, if_neg, decide_eq_true, decide_eq_false, atI_of, cutL_take, cutL_drop, cutL_mid, ge_iff_le, gt_iff_lt, Int.reduceToNat, Int.toNat_zero, Int.toNat_one, Bool.not_true, Bool.not_false, szl, fLcX, fRepl, fMaxD, fEnS, sStuck, fLenS, cGtA, sAppQ, sSetQ, sForT, forTL, opSortT, fDItems, fDKeys, fLcO, D.key, fDNew, fDGet, sDPutV, fDSet, fRg3, fChV, fSortL, frL, frS, fSortB, sRem, sqAt, eIxI, fItm, fItV, chS, sItC, sItA, sItI, sItS, fTmp, Sl.mut, Sl.th, O.d, sqD, D.atm, sTryR, fSq, aConsF, aNilF, eO, sTgF, setFd, Fd.sl, opJoinRev, fLRev, runDef, runDefI, ioAt, insA, chL, getO, setO, getL, setL, obAt, eFd, eFV, eFB, fFld, fMeth, fMethI, fMake, fCallI, aHere, fIsO, sFldS, setF, Rs.fd, Fd.d, O.d, fMethD, chF, sAppF, fPopF, fPop0, fPop1, sIns, sRetI, sRetNI, fZip, fML, opAny, opAll, opSorted, opMaxL, opMinL, opRfind, opCount, List.map_cons, List.map_nil, cInA, cNinA, inD, itD, fItA, eItA, cLtA, cLeA, fRr1, fRr2, opInt, sPar, fCallD, fRaise0, fRaise1, sTryAs, sTry, aftr, noX, allEq_const, fXf, fXi, fLc, lcL, unE, tYs, Vs.ret, xLock, inis, bof, sNil, sSeq, sAsg, sRet, sRetV, sRetN, sIf, sDrop, sTg, sFor, sBrk, sCnt, sApp, sExt, sOwn, sSetI, opSetI, sLock, unlk, sbnd, bnd, fOp, fCh, fCl, fCall, fLst, fTup, fSl, fIf, fAnd, fOr, fNot, fTru, fAndV, fOrV, fNotV, fNeg, fIsi, fM1, fM2, fRg1, fRg2, fEn, fRev, fSg, fTp, fIt, eIt, eB, eV, eC, frz, shm, aCons, aNil, poN, poS, Rs.d, Rs.sl, vB, List.cons_append, List.nil_append, List.append_nil, List.replicate_zero, List.replicate_succ, List.getElem?_cons_zero, List.getElem?_cons_succ, List.set_cons_zero, List.set_cons_succ, List.length_cons, List.length_nil, opLen, lenD, opList, opAdd, opSub, opMul, opMod, opDiv, opPow, opMin, opMax, opIx, opSl, cmpB, cEq, cNe, cIsN, cNotN, truD, tgN, tgT, setAll, isKd, opFind, opFind3, opStarts, opStarts3, Nat.reduceLT, Nat.reduceAdd, Nat.reduceSub, Nat.reduceLeDiff, Int.reduceLT, Int.reduceLE, Int.reduceNeg, reduceIte, and_self, true_and, and_true, decide_true, decide_false, Int.toNat_natCast, decide_true, Bool.not_true, e]
theorem due_char {t part : List Nat} {ss : List Stp} {s4 : Sl} {c : Nat} (hc : c ≠ 32) (hp : part.length ≤ 2000) : l1_law_due [.sh (.str t), .ow (stL ss), .sh (.str part), .sh (.str [c]), s4] = some (.nx [.sh (.str t), .ow (stL ss), .sh (.str (part ++ [c])), .sh (.str [c]), s4]) := by
  have q : ¬ [c] = [32] := fun z => hc (List.cons.inj z).1
  unfold l1_law_due i3_law_due
  simp (disch := first | omega | assumption) only [if_pos, if_neg, decide_eq_true, decide_eq_false, atI_of, cutL_take, cutL_drop, cutL_mid, ge_iff_le, gt_iff_lt, Int.reduceToNat, Int.toNat_zero, Int.toNat_one, Bool.not_true, Bool.not_false, szl, fLcX, fRepl, fMaxD, fEnS, sStuck, fLenS, cGtA, sAppQ, sSetQ, sForT, forTL, opSortT, fDItems, fDKeys, fLcO, D.key, fDNew, fDGet, sDPutV, fDSet, fRg3, fChV, fSortL, frL, frS, fSortB, sRem, sqAt, eIxI, fItm, fItV, chS, sItC, sItA, sItI, sItS, fTmp, Sl.mut, Sl.th, O.d, sqD, D.atm, sTryR, fSq, aConsF, aNilF, eO, sTgF, setFd, Fd.sl, opJoinRev, fLRev, runDef, runDefI, ioAt, insA, chL, getO, setO, getL, setL, obAt, eFd, eFV, eFB, fFld, fMeth, fMethI, fMake, fCallI, aHere, fIsO, sFldS, setF, Rs.fd, Fd.d, O.d, fMethD, chF, sAppF, fPopF, fPop0, fPop1, sIns, sRetI, sRetNI, fZip, fML, opAny, opAll, opSorted, opMaxL, opMinL, opRfind, opCount, List.map_cons, List.map_nil, cInA, cNinA, inD, itD, fItA, eItA, cLtA, cLeA, fRr1, fRr2, opInt, sPar, fCallD, fRaise0, fRaise1, sTryAs, sTry, aftr, noX, allEq_const, fXf, fXi, fLc, lcL, unE, tYs, Vs.ret, xLock, inis, bof, sNil, sSeq, sAsg, sRet, sRetV, sRetN, sIf, sDrop, sTg, sFor, sBrk, sCnt, sApp, sExt, sOwn, sSetI, opSetI, sLock, unlk, sbnd, bnd, fOp, fCh, fCl, fCall, fLst, fTup, fSl, fIf, fAnd, fOr, fNot, fTru, fAndV, fOrV, fNotV, fNeg, fIsi, fM1, fM2, fRg1, fRg2, fEn, fRev, fSg, fTp, fIt, eIt, eB, eV, eC, frz, shm, aCons, aNil, poN, poS, Rs.d, Rs.sl, vB, List.cons_append, List.nil_append, List.append_nil, List.replicate_zero, List.replicate_succ, List.getElem?_cons_zero, List.getElem?_cons_succ, List.set_cons_zero, List.set_cons_succ, List.length_cons, List.length_nil, opLen, lenD, opList, opAdd, opSub, opMul, opMod, opDiv, opPow, opMin, opMax, opIx, opSl, cmpB, cEq, cNe, cIsN, cNotN, truD, tgN, tgT, setAll, isKd, opFind, opFind3, opStarts, opStarts3, Nat.reduceLT, Nat.reduceAdd, Nat.reduceSub, Nat.reduceLeDiff, Int.reduceLT, Int.reduceLE, Int.reduceNeg, reduceIte, and_self, true_and, and_true, decide_true, decide_false, Int.toNat_natCast, decide_eq_false q, Bool.not_false]
theorem due_loop (t : List Nat) : ∀ (l part : List Nat) (ss : List Stp) (s3 s4 : Sl), part.length + l.length ≤ 999 → ss.length + l.length ≤ 2000 →
    (∃ ts, (∀ s ∈ ts, Sm4 s) ∧ TL.spl [32] 0 part l = ts.map shS ∧ ∃ t2 t3 t4, forL (tgN 3) l1_law_due ((l ++ [32]).map fun c => D.str [c]) [.sh (.str t), .ow (stL ss), .sh (.str part), s3, s4] = some (.nx [.sh (.str t), .ow (stL (ss ++ ts)), t2, t3, t4])) ∨
    ((∃ p ∈ TL.spl [32] 0 part l, ¬ IsStp p) ∧ forL (tgN 3) l1_law_due ((l ++ [32]).map fun c => D.str [c]) [.sh (.str t), .ow (stL ss), .sh (.str part), s3, s4] = some (.rt (.sh .non)))
  | [], part, ss, s3, s4, h1, h2 => by
    have tg : tgN 3 (D.str [32]) [.sh (.str t), .ow (stL ss), .sh (.str part), s3, s4] = some [.sh (.str t), .ow (stL ss), .sh (.str part), .sh (.str [32]), s4] := rfl
    rw [TL.spl_nil]
    show (_ ∨ _)
    rcases due_blank (t := t) (part := part) (ss := ss) (s4 := s4) (by omega) (by omega) with ⟨s, a, b, e⟩ | ⟨a, e⟩
    · refine .inl ⟨[s], fun x hx => by rw [List.mem_singleton.mp hx]; exact a, by rw [b]; rfl, .sh (.str []), .sh (.str [32]), .sh (stD s), ?_⟩
      rw [List.nil_append, List.map_singleton, forL, tg]
      dsimp only
      rw [e]
      rfl
    · refine .inr ⟨⟨part, List.mem_singleton_self _, a⟩, ?_⟩
      rw [List.nil_append, List.map_singleton, forL, tg]
      dsimp only
      rw [e]
  | c :: l, part, ss, s3, s4, h1, h2 => by
    rw [List.length_cons] at h1 h2
    have tg : tgN 3 (D.str [c]) [.sh (.str t), .ow (stL ss), .sh (.str part), s3, s4] = some [.sh (.str t), .ow (stL ss), .sh (.str part), .sh (.str [c]), s4] := rfl
    by_cases hc : c = 32
    · subst hc
      rw [sp_hit]
      rcases due_blank (t := t) (part := part) (ss := ss) (s4 := s4) (by omega) (by omega) with ⟨s, a, b, e⟩ | ⟨a, e⟩
      · have go : forL (tgN 3) l1_law_due (((32 :: l) ++ [32]).map fun c => D.str [c]) [.sh (.str t), .ow (stL ss), .sh (.str part), s3, s4] = forL (tgN 3) l1_law_due ((l ++ [32]).map fun c => D.str [c]) [.sh (.str t), .ow (stL (ss ++ [s])), .sh (.str []), .sh (.str [32]), .sh (stD s)] := by
          rw [List.cons_append, List.map_cons, forL, tg]
          dsimp only
          rw [e]
        rw [go]
        rcases due_loop t l [] (ss ++ [s]) (.sh (.str [32])) (.sh (stD s)) (by simp only [List.length_nil]; omega) (by rw [List.length_append, List.length_singleton]; omega) with ⟨ts, q1, q2, t2, t3, t4, q3⟩ | ⟨⟨p, m, q⟩, q3⟩
        · refine .inl ⟨s :: ts, fun x hx => (List.mem_cons.mp hx).elim (fun z => z ▸ a) (q1 x), by rw [q2, List.map_cons, ← b], t2, t3, t4, ?_⟩
          rw [q3, List.append_assoc]
          rfl
        · exact .inr ⟨⟨p, List.mem_cons_of_mem _ m, q⟩, q3⟩
      · refine .inr ⟨⟨part, List.mem_cons_self, a⟩, ?_⟩
        rw [List.cons_append, List.map_cons, forL, tg]
        dsimp only
        rw [e]
    · rw [sp_miss hc]
      have e := due_char (t := t) (part := part) (ss := ss) (s4 := s4) hc (by omega)
      have go : forL (tgN 3) l1_law_due (((c :: l) ++ [32]).map fun c => D.str [c]) [.sh (.str t), .ow (stL ss), .sh (.str part), s3, s4] = forL (tgN 3) l1_law_due ((l ++ [32]).map fun c => D.str [c]) [.sh (.str t), .ow (stL ss), .sh (.str (part ++ [c])), .sh (.str [c]), s4] := by
        rw [List.cons_append, List.map_cons, forL, tg]
        dsimp only
        rw [e]
      rw [go]
      exact due_loop t l (part ++ [c]) ss _ _ (by rw [List.length_append, List.length_singleton]; omega) (by omega)
/-- both readings -/
theorem parse07 {t : List Nat} (hl : t.length ≤ 990) : (∃ ss, (∀ s ∈ ss, Sm4 s) ∧ ss.length ≤ 1000 ∧ t = Jt ss ∧ g_law_due [.str t] = some (.rt (.ow (stL ss))) ∧ g_read_steps [.str t] = some (.rt (.ow (stL ss)))) ∨
    (g_law_due [.str t] = some (.rt (.sh .non)) ∧ g_read_steps [.str t] = some (.ex ⟨x_NoStep, none⟩)) := by
  by_cases h46 : t = [46]
  · left
    refine ⟨[], (fun _ m => nomatch m), Nat.zero_le _, h46, ?_, ?_⟩
    · unfold g_law_due b_law_due i1_law_due
      simp (disch := first | omega | assumption) only [if_pos, if_neg, decide_eq_true, decide_eq_false, atI_of, cutL_take, cutL_drop, cutL_mid, ge_iff_le, gt_iff_lt, Int.reduceToNat, Int.toNat_zero, Int.toNat_one, Bool.not_true, Bool.not_false, szl, fLcX, fRepl, fMaxD, fEnS, sStuck, fLenS, cGtA, sAppQ, sSetQ, sForT, forTL, opSortT, fDItems, fDKeys, fLcO, D.key, fDNew, fDGet, sDPutV, fDSet, fRg3, fChV, fSortL, frL, frS, fSortB, sRem, sqAt, eIxI, fItm, fItV, chS, sItC, sItA, sItI, sItS, fTmp, Sl.mut, Sl.th, O.d, sqD, D.atm, sTryR, fSq, aConsF, aNilF, eO, sTgF, setFd, Fd.sl, opJoinRev, fLRev, runDef, runDefI, ioAt, insA, chL, getO, setO, getL, setL, obAt, eFd, eFV, eFB, fFld, fMeth, fMethI, fMake, fCallI, aHere, fIsO, sFldS, setF, Rs.fd, Fd.d, O.d, fMethD, chF, sAppF, fPopF, fPop0, fPop1, sIns, sRetI, sRetNI, fZip, fML, opAny, opAll, opSorted, opMaxL, opMinL, opRfind, opCount, List.map_cons, List.map_nil, cInA, cNinA, inD, itD, fItA, eItA, cLtA, cLeA, fRr1, fRr2, opInt, sPar, fCallD, fRaise0, fRaise1, sTryAs, sTry, aftr, noX, allEq_const, fXf, fXi, fLc, lcL, unE, tYs, Vs.ret, xLock, inis, bof, sNil, sSeq, sAsg, sRet, sRetV, sRetN, sIf, sDrop, sTg, sFor, sBrk, sCnt, sApp, sExt, sOwn, sSetI, opSetI, sLock, unlk, sbnd, bnd, fOp, fCh, fCl, fCall, fLst, fTup, fSl, fIf, fAnd, fOr, fNot, fTru, fAndV, fOrV, fNotV, fNeg, fIsi, fM1, fM2, fRg1, fRg2, fEn, fRev, fSg, fTp, fIt, eIt, eB, eV, eC, frz, shm, aCons, aNil, poN, poS, Rs.d, Rs.sl, vB, List.cons_append, List.nil_append, List.append_nil, List.replicate_zero, List.replicate_succ, List.getElem?_cons_zero, List.getElem?_cons_succ, List.set_cons_zero, List.set_cons_succ, List.length_cons, List.length_nil, opLen, lenD, opList, opAdd, opSub, opMul, opMod, opDiv, opPow, opMin, opMax, opIx, opSl, cmpB, cEq, cNe, cIsN, cNotN, truD, tgN, tgT, setAll, isKd, opFind, opFind3, opStarts, opStarts3, Nat.reduceLT, Nat.reduceAdd, Nat.reduceSub, Nat.reduceLeDiff, Int.reduceLT, Int.reduceLE, Int.reduceNeg, reduceIte, and_self, true_and, and_true, decide_true, decide_false, Int.toNat_natCast, decide_eq_true h46]
      rfl
    · unfold g_read_steps b_read_steps i1_read_steps
      simp (disch := first | omega | assumption) only [if_pos, if_neg, decide_eq_true, decide_eq_false, atI_of, cutL_take, cutL_drop, cutL_mid, ge_iff_le, gt_iff_lt, Int.reduceToNat, Int.toNat_zero, Int.toNat_one, Bool.not_true, Bool.not_false, szl, fLcX, fRepl, fMaxD, fEnS, sStuck, fLenS, cGtA, sAppQ, sSetQ, sForT, forTL, opSortT, fDItems, fDKeys, fLcO, D.key, fDNew, fDGet, sDPutV, fDSet, fRg3, fChV, fSortL, frL, frS, fSortB, sRem, sqAt, eIxI, fItm, fItV, chS, sItC, sItA, sItI, sItS, fTmp, Sl.mut, Sl.th, O.d, sqD, D.atm, sTryR, fSq, aConsF, aNilF, eO, sTgF, setFd, Fd.sl, opJoinRev, fLRev, runDef, runDefI, ioAt, insA, chL, getO, setO, getL, setL, obAt, eFd, eFV, eFB, fFld, fMeth, fMethI, fMake, fCallI, aHere, fIsO, sFldS, setF, Rs.fd, Fd.d, O.d, fMethD, chF, sAppF, fPopF, fPop0, fPop1, sIns, sRetI, sRetNI, fZip, fML, opAny, opAll, opSorted, opMaxL, opMinL, opRfind, opCount, List.map_cons, List.map_nil, cInA, cNinA, inD, itD, fItA, eItA, cLtA, cLeA, fRr1, fRr2, opInt, sPar, fCallD, fRaise0, fRaise1, sTryAs, sTry, aftr, noX, allEq_const, fXf, fXi, fLc, lcL, unE, tYs, Vs.ret, xLock, inis, bof, sNil, sSeq, sAsg, sRet, sRetV, sRetN, sIf, sDrop, sTg, sFor, sBrk, sCnt, sApp, sExt, sOwn, sSetI, opSetI, sLock, unlk, sbnd, bnd, fOp, fCh, fCl, fCall, fLst, fTup, fSl, fIf, fAnd, fOr, fNot, fTru, fAndV, fOrV, fNotV, fNeg, fIsi, fM1, fM2, fRg1, fRg2, fEn, fRev, fSg, fTp, fIt, eIt, eB, eV, eC, frz, shm, aCons, aNil, poN, poS, Rs.d, Rs.sl, vB, List.cons_append, List.nil_append, List.append_nil, List.replicate_zero, List.replicate_succ, List.getElem?_cons_zero, List.getElem?_cons_succ, List.set_cons_zero, List.set_cons_succ, List.length_cons, List.length_nil, opLen, lenD, opList, opAdd, opSub, opMul, opMod, opDiv, opPow, opMin, opMax, opIx, opSl, cmpB, cEq, cNe, cIsN, cNotN, truD, tgN, tgT, setAll, isKd, opFind, opFind3, opStarts, opStarts3, Nat.reduceLT, Nat.reduceAdd, Nat.reduceSub, Nat.reduceLeDiff, Int.reduceLT, Int.reduceLE, Int.reduceNeg, reduceIte, and_self, true_and, and_true, decide_true, decide_false, Int.toNat_natCast, decide_eq_true h46]
      rfl
  · have sp : opSplit t (.str [32]) = some (.ow ((TL.spl [32] 0 [] t).map D.str)) := by
      unfold opSplit
      dsimp only
      rw [if_pos ⟨by simp, by show t.length ≤ 1000000; omega⟩]
      have e1 : Txt.split (S t) (S [32]) = (TL.spl [32] 0 [] t).map S := SX.split_S (by simp) (by decide)
      rw [e1, List.map_map]
      exact congrArg (fun l => some (Rs.ow l)) (List.map_congr_left fun x _ => congrArg D.str (S_cps x))
    obtain ⟨s1, s2⟩ := sp_len [] t
    simp only [List.length_nil, Nat.zero_add] at s2
    have pl : ((TL.spl [32] 0 [] t).map D.str).length ≤ 1000 := by rw [List.length_map]; omega
    have tl : (t ++ [32]).length ≤ 1000 := by rw [List.length_append, List.length_singleton]; omega
    rcases due_loop t t [] [] .un .un (by simp only [List.length_nil]; omega) (by simp only [List.length_nil]; omega) with ⟨ts, q1, q2, t2, t3, t4, q3⟩ | ⟨⟨p, m, q⟩, q3⟩
    · left
      have ne : ts ≠ [] := fun z => sp_ne [] t (by rw [q2, z]; rfl)
      have et : t = Jt ts := by
        have := sp_join [] t
        rw [q2, List.nil_append] at this
        unfold Jt Jn
        rw [if_neg ne]
        exact this.symm
      refine ⟨ts, q1, ?_, et, ?_, ?_⟩
      · have := congrArg List.length q2
        rw [List.length_map] at this
        omega
      · have q3' : forL (tgN 3) l1_law_due ((t ++ [32]).map fun c => D.str [c]) [.sh (.str t), .ow [], .sh (.str []), .un, .un] = _ := q3
        unfold g_law_due b_law_due i1_law_due
        simp (disch := first | omega | assumption) only [if_pos, if_neg, decide_eq_true, decide_eq_false, atI_of, cutL_take, cutL_drop, cutL_mid, ge_iff_le, gt_iff_lt, Int.reduceToNat, Int.toNat_zero, Int.toNat_one, Bool.not_true, Bool.not_false, szl, fLcX, fRepl, fMaxD, fEnS, sStuck, fLenS, cGtA, sAppQ, sSetQ, sForT, forTL, opSortT, fDItems, fDKeys, fLcO, D.key, fDNew, fDGet, sDPutV, fDSet, fRg3, fChV, fSortL, frL, frS, fSortB, sRem, sqAt, eIxI, fItm, fItV, chS, sItC, sItA, sItI, sItS, fTmp, Sl.mut, Sl.th, O.d, sqD, D.atm, sTryR, fSq, aConsF, aNilF, eO, sTgF, setFd, Fd.sl, opJoinRev, fLRev, runDef, runDefI, ioAt, insA, chL, getO, setO, getL, setL, obAt, eFd, eFV, eFB, fFld, fMeth, fMethI, fMake, fCallI, aHere, fIsO, sFldS, setF, Rs.fd, Fd.d, O.d, fMethD, chF, sAppF, fPopF, fPop0, fPop1, sIns, sRetI, sRetNI, fZip, fML, opAny, opAll, opSorted, opMaxL, opMinL, opRfind, opCount, List.map_cons, List.map_nil, cInA, cNinA, inD, itD, fItA, eItA, cLtA, cLeA, fRr1, fRr2, opInt, sPar, fCallD, fRaise0, fRaise1, sTryAs, sTry, aftr, noX, allEq_const, fXf, fXi, fLc, lcL, unE, tYs, Vs.ret, xLock, inis, bof, sNil, sSeq, sAsg, sRet, sRetV, sRetN, sIf, sDrop, sTg, sFor, sBrk, sCnt, sApp, sExt, sOwn, sSetI, opSetI, sLock, unlk, sbnd, bnd, fOp, fCh, fCl, fCall, fLst, fTup, fSl, fIf, fAnd, fOr, fNot, fTru, fAndV, fOrV, fNotV, fNeg, fIsi, fM1, fM2, fRg1, fRg2, fEn, fRev, fSg, fTp, fIt, eIt, eB, eV, eC, frz, shm, aCons, aNil, poN, poS, Rs.d, Rs.sl, vB, List.cons_append, List.nil_append, List.append_nil, List.replicate_zero, List.replicate_succ, List.getElem?_cons_zero, List.getElem?_cons_succ, List.set_cons_zero, List.set_cons_succ, List.length_cons, List.length_nil, opLen, lenD, opList, opAdd, opSub, opMul, opMod, opDiv, opPow, opMin, opMax, opIx, opSl, cmpB, cEq, cNe, cIsN, cNotN, truD, tgN, tgT, setAll, isKd, opFind, opFind3, opStarts, opStarts3, Nat.reduceLT, Nat.reduceAdd, Nat.reduceSub, Nat.reduceLeDiff, Int.reduceLT, Int.reduceLE, Int.reduceNeg, reduceIte, and_self, true_and, and_true, decide_true, decide_false, Int.toNat_natCast, decide_eq_false h46, itD, q3']
      · obtain ⟨j, l0⟩ := lcX_fun (f := tgN 1) (te := frz (fCall g_read_step (aCons (eB 1) (aNil)))) (vs := [1]) (fun (_ : Unit) => [.sh (.str t), .un]) (fun s => D.str (shS s)) stD ts [] () fun s hm _ => by
          refine ⟨_, rfl, [.sh (.str t), .sh (.str (shS s))], ?_, (), rfl⟩
          have := e_read_step (q1 s hm)
          simp (disch := first | omega | assumption) only [if_pos, if_neg, decide_eq_true, decide_eq_false, atI_of, cutL_take, cutL_drop, cutL_mid, ge_iff_le, gt_iff_lt, Int.reduceToNat, Int.toNat_zero, Int.toNat_one, Bool.not_true, Bool.not_false, szl, fLcX, fRepl, fMaxD, fEnS, sStuck, fLenS, cGtA, sAppQ, sSetQ, sForT, forTL, opSortT, fDItems, fDKeys, fLcO, D.key, fDNew, fDGet, sDPutV, fDSet, fRg3, fChV, fSortL, frL, frS, fSortB, sRem, sqAt, eIxI, fItm, fItV, chS, sItC, sItA, sItI, sItS, fTmp, Sl.mut, Sl.th, O.d, sqD, D.atm, sTryR, fSq, aConsF, aNilF, eO, sTgF, setFd, Fd.sl, opJoinRev, fLRev, runDef, runDefI, ioAt, insA, chL, getO, setO, getL, setL, obAt, eFd, eFV, eFB, fFld, fMeth, fMethI, fMake, fCallI, aHere, fIsO, sFldS, setF, Rs.fd, Fd.d, O.d, fMethD, chF, sAppF, fPopF, fPop0, fPop1, sIns, sRetI, sRetNI, fZip, fML, opAny, opAll, opSorted, opMaxL, opMinL, opRfind, opCount, List.map_cons, List.map_nil, cInA, cNinA, inD, itD, fItA, eItA, cLtA, cLeA, fRr1, fRr2, opInt, sPar, fCallD, fRaise0, fRaise1, sTryAs, sTry, aftr, noX, allEq_const, fXf, fXi, fLc, lcL, unE, tYs, Vs.ret, xLock, inis, bof, sNil, sSeq, sAsg, sRet, sRetV, sRetN, sIf, sDrop, sTg, sFor, sBrk, sCnt, sApp, sExt, sOwn, sSetI, opSetI, sLock, unlk, sbnd, bnd, fOp, fCh, fCl, fCall, fLst, fTup, fSl, fIf, fAnd, fOr, fNot, fTru, fAndV, fOrV, fNotV, fNeg, fIsi, fM1, fM2, fRg1, fRg2, fEn, fRev, fSg, fTp, fIt, eIt, eB, eV, eC, frz, shm, aCons, aNil, poN, poS, Rs.d, Rs.sl, vB, List.cons_append, List.nil_append, List.append_nil, List.replicate_zero, List.replicate_succ, List.getElem?_cons_zero, List.getElem?_cons_succ, List.set_cons_zero, List.set_cons_succ, List.length_cons, List.length_nil, opLen, lenD, opList, opAdd, opSub, opMul, opMod, opDiv, opPow, opMin, opMax, opIx, opSl, cmpB, cEq, cNe, cIsN, cNotN, truD, tgN, tgT, setAll, isKd, opFind, opFind3, opStarts, opStarts3, Nat.reduceLT, Nat.reduceAdd, Nat.reduceSub, Nat.reduceLeDiff, Int.reduceLT, Int.reduceLE, Int.reduceNeg, reduceIte, and_self, true_and, and_true, decide_true, decide_false, Int.toNat_natCast, this]
        have e1 : ts.map (fun s => D.str (shS s)) = (TL.spl [32] 0 [] t).map D.str := by rw [q2, List.map_map]; rfl
        rw [e1] at l0
        have l0' : lcLX (tgN 1) tYs (frz (fCall g_read_step (aCons (eB 1) (aNil)))) [1] ((TL.spl [32] 0 [] t).map D.str) [] [.sh (.str t), .un] = some (.ok (.ow (stL ts)) [.sh (.str t), .un]) := l0
        unfold g_read_steps b_read_steps i1_read_steps
        simp (disch := first | omega | assumption) only [if_pos, if_neg, decide_eq_true, decide_eq_false, atI_of, cutL_take, cutL_drop, cutL_mid, ge_iff_le, gt_iff_lt, Int.reduceToNat, Int.toNat_zero, Int.toNat_one, Bool.not_true, Bool.not_false, szl, fLcX, fRepl, fMaxD, fEnS, sStuck, fLenS, cGtA, sAppQ, sSetQ, sForT, forTL, opSortT, fDItems, fDKeys, fLcO, D.key, fDNew, fDGet, sDPutV, fDSet, fRg3, fChV, fSortL, frL, frS, fSortB, sRem, sqAt, eIxI, fItm, fItV, chS, sItC, sItA, sItI, sItS, fTmp, Sl.mut, Sl.th, O.d, sqD, D.atm, sTryR, fSq, aConsF, aNilF, eO, sTgF, setFd, Fd.sl, opJoinRev, fLRev, runDef, runDefI, ioAt, insA, chL, getO, setO, getL, setL, obAt, eFd, eFV, eFB, fFld, fMeth, fMethI, fMake, fCallI, aHere, fIsO, sFldS, setF, Rs.fd, Fd.d, O.d, fMethD, chF, sAppF, fPopF, fPop0, fPop1, sIns, sRetI, sRetNI, fZip, fML, opAny, opAll, opSorted, opMaxL, opMinL, opRfind, opCount, List.map_cons, List.map_nil, cInA, cNinA, inD, itD, fItA, eItA, cLtA, cLeA, fRr1, fRr2, opInt, sPar, fCallD, fRaise0, fRaise1, sTryAs, sTry, aftr, noX, allEq_const, fXf, fXi, fLc, lcL, unE, tYs, Vs.ret, xLock, inis, bof, sNil, sSeq, sAsg, sRet, sRetV, sRetN, sIf, sDrop, sTg, sFor, sBrk, sCnt, sApp, sExt, sOwn, sSetI, opSetI, sLock, unlk, sbnd, bnd, fOp, fCh, fCl, fCall, fLst, fTup, fSl, fIf, fAnd, fOr, fNot, fTru, fAndV, fOrV, fNotV, fNeg, fIsi, fM1, fM2, fRg1, fRg2, fEn, fRev, fSg, fTp, fIt, eIt, eB, eV, eC, frz, shm, aCons, aNil, poN, poS, Rs.d, Rs.sl, vB, List.cons_append, List.nil_append, List.append_nil, List.replicate_zero, List.replicate_succ, List.getElem?_cons_zero, List.getElem?_cons_succ, List.set_cons_zero, List.set_cons_succ, List.length_cons, List.length_nil, opLen, lenD, opList, opAdd, opSub, opMul, opMod, opDiv, opPow, opMin, opMax, opIx, opSl, cmpB, cEq, cNe, cIsN, cNotN, truD, tgN, tgT, setAll, isKd, opFind, opFind3, opStarts, opStarts3, Nat.reduceLT, Nat.reduceAdd, Nat.reduceSub, Nat.reduceLeDiff, Int.reduceLT, Int.reduceLE, Int.reduceNeg, reduceIte, and_self, true_and, and_true, decide_true, decide_false, Int.toNat_natCast] at l0'
        simp (disch := first | omega | assumption) only [if_pos, if_neg, decide_eq_true, decide_eq_false, atI_of, cutL_take, cutL_drop, cutL_mid, ge_iff_le, gt_iff_lt, Int.reduceToNat, Int.toNat_zero, Int.toNat_one, Bool.not_true, Bool.not_false, szl, fLcX, fRepl, fMaxD, fEnS, sStuck, fLenS, cGtA, sAppQ, sSetQ, sForT, forTL, opSortT, fDItems, fDKeys, fLcO, D.key, fDNew, fDGet, sDPutV, fDSet, fRg3, fChV, fSortL, frL, frS, fSortB, sRem, sqAt, eIxI, fItm, fItV, chS, sItC, sItA, sItI, sItS, fTmp, Sl.mut, Sl.th, O.d, sqD, D.atm, sTryR, fSq, aConsF, aNilF, eO, sTgF, setFd, Fd.sl, opJoinRev, fLRev, runDef, runDefI, ioAt, insA, chL, getO, setO, getL, setL, obAt, eFd, eFV, eFB, fFld, fMeth, fMethI, fMake, fCallI, aHere, fIsO, sFldS, setF, Rs.fd, Fd.d, O.d, fMethD, chF, sAppF, fPopF, fPop0, fPop1, sIns, sRetI, sRetNI, fZip, fML, opAny, opAll, opSorted, opMaxL, opMinL, opRfind, opCount, List.map_cons, List.map_nil, cInA, cNinA, inD, itD, fItA, eItA, cLtA, cLeA, fRr1, fRr2, opInt, sPar, fCallD, fRaise0, fRaise1, sTryAs, sTry, aftr, noX, allEq_const, fXf, fXi, fLc, lcL, unE, tYs, Vs.ret, xLock, inis, bof, sNil, sSeq, sAsg, sRet, sRetV, sRetN, sIf, sDrop, sTg, sFor, sBrk, sCnt, sApp, sExt, sOwn, sSetI, opSetI, sLock, unlk, sbnd, bnd, fOp, fCh, fCl, fCall, fLst, fTup, fSl, fIf, fAnd, fOr, fNot, fTru, fAndV, fOrV, fNotV, fNeg, fIsi, fM1, fM2, fRg1, fRg2, fEn, fRev, fSg, fTp, fIt, eIt, eB, eV, eC, frz, shm, aCons, aNil, poN, poS, Rs.d, Rs.sl, vB, List.cons_append, List.nil_append, List.append_nil, List.replicate_zero, List.replicate_succ, List.getElem?_cons_zero, List.getElem?_cons_succ, List.set_cons_zero, List.set_cons_succ, List.length_cons, List.length_nil, opLen, lenD, opList, opAdd, opSub, opMul, opMod, opDiv, opPow, opMin, opMax, opIx, opSl, cmpB, cEq, cNe, cIsN, cNotN, truD, tgN, tgT, setAll, isKd, opFind, opFind3, opStarts, opStarts3, Nat.reduceLT, Nat.reduceAdd, Nat.reduceSub, Nat.reduceLeDiff, Int.reduceLT, Int.reduceLE, Int.reduceNeg, reduceIte, and_self, true_and, and_true, decide_true, decide_false, Int.toNat_natCast, decide_eq_false h46, sp, itD, l0']
    · right
      refine ⟨?_, ?_⟩
      · have q3' : forL (tgN 3) l1_law_due ((t ++ [32]).map fun c => D.str [c]) [.sh (.str t), .ow [], .sh (.str []), .un, .un] = _ := q3
        unfold g_law_due b_law_due i1_law_due
        simp (disch := first | omega | assumption) only [if_pos, if_neg, decide_eq_true, decide_eq_false, atI_of, cutL_take, cutL_drop, cutL_mid, ge_iff_le, gt_iff_lt, Int.reduceToNat, Int.toNat_zero, Int.toNat_one, Bool.not_true, Bool.not_false, szl, fLcX, fRepl, fMaxD, fEnS, sStuck, fLenS, cGtA, sAppQ, sSetQ, sForT, forTL, opSortT, fDItems, fDKeys, fLcO, D.key, fDNew, fDGet, sDPutV, fDSet, fRg3, fChV, fSortL, frL, frS, fSortB, sRem, sqAt, eIxI, fItm, fItV, chS, sItC, sItA, sItI, sItS, fTmp, Sl.mut, Sl.th, O.d, sqD, D.atm, sTryR, fSq, aConsF, aNilF, eO, sTgF, setFd, Fd.sl, opJoinRev, fLRev, runDef, runDefI, ioAt, insA, chL, getO, setO, getL, setL, obAt, eFd, eFV, eFB, fFld, fMeth, fMethI, fMake, fCallI, aHere, fIsO, sFldS, setF, Rs.fd, Fd.d, O.d, fMethD, chF, sAppF, fPopF, fPop0, fPop1, sIns, sRetI, sRetNI, fZip, fML, opAny, opAll, opSorted, opMaxL, opMinL, opRfind, opCount, List.map_cons, List.map_nil, cInA, cNinA, inD, itD, fItA, eItA, cLtA, cLeA, fRr1, fRr2, opInt, sPar, fCallD, fRaise0, fRaise1, sTryAs, sTry, aftr, noX, allEq_const, fXf, fXi, fLc, lcL, unE, tYs, Vs.ret, xLock, inis, bof, sNil, sSeq, sAsg, sRet, sRetV, sRetN, sIf, sDrop, sTg, sFor, sBrk, sCnt, sApp, sExt, sOwn, sSetI, opSetI, sLock, unlk, sbnd, bnd, fOp, fCh, fCl, fCall, fLst, fTup, fSl, fIf, fAnd, fOr, fNot, fTru, fAndV, fOrV, fNotV, fNeg, fIsi, fM1, fM2, fRg1, fRg2, fEn, fRev, fSg, fTp, fIt, eIt, eB, eV, eC, frz, shm, aCons, aNil, poN, poS, Rs.d, Rs.sl, vB, List.cons_append, List.nil_append, List.append_nil, List.replicate_zero, List.replicate_succ, List.getElem?_cons_zero, List.getElem?_cons_succ, List.set_cons_zero, List.set_cons_succ, List.length_cons, List.length_nil, opLen, lenD, opList, opAdd, opSub, opMul, opMod, opDiv, opPow, opMin, opMax, opIx, opSl, cmpB, cEq, cNe, cIsN, cNotN, truD, tgN, tgT, setAll, isKd, opFind, opFind3, opStarts, opStarts3, Nat.reduceLT, Nat.reduceAdd, Nat.reduceSub, Nat.reduceLeDiff, Int.reduceLT, Int.reduceLE, Int.reduceNeg, reduceIte, and_self, true_and, and_true, decide_true, decide_false, Int.toNat_natCast, decide_eq_false h46, itD, q3']
      · obtain ⟨j, l0⟩ := lcX_ex (f := tgN 1) (te := frz (fCall g_read_step (aCons (eB 1) (aNil)))) (vs := [1]) (fun (_ : Unit) => [.sh (.str t), .un]) D.str ⟨x_NoStep, none⟩ (TL.spl [32] 0 [] t) [] () (fun p => ¬ IsStp p) (fun p hm hn _ => by
          obtain ⟨s, h1, h2⟩ := Classical.not_not.mp hn
          refine ⟨_, rfl, stD s, [.sh (.str t), .sh (.str p)], ?_, (), rfl⟩
          have := e_read_step h1
          rw [h2]
          simp (disch := first | omega | assumption) only [if_pos, if_neg, decide_eq_true, decide_eq_false, atI_of, cutL_take, cutL_drop, cutL_mid, ge_iff_le, gt_iff_lt, Int.reduceToNat, Int.toNat_zero, Int.toNat_one, Bool.not_true, Bool.not_false, szl, fLcX, fRepl, fMaxD, fEnS, sStuck, fLenS, cGtA, sAppQ, sSetQ, sForT, forTL, opSortT, fDItems, fDKeys, fLcO, D.key, fDNew, fDGet, sDPutV, fDSet, fRg3, fChV, fSortL, frL, frS, fSortB, sRem, sqAt, eIxI, fItm, fItV, chS, sItC, sItA, sItI, sItS, fTmp, Sl.mut, Sl.th, O.d, sqD, D.atm, sTryR, fSq, aConsF, aNilF, eO, sTgF, setFd, Fd.sl, opJoinRev, fLRev, runDef, runDefI, ioAt, insA, chL, getO, setO, getL, setL, obAt, eFd, eFV, eFB, fFld, fMeth, fMethI, fMake, fCallI, aHere, fIsO, sFldS, setF, Rs.fd, Fd.d, O.d, fMethD, chF, sAppF, fPopF, fPop0, fPop1, sIns, sRetI, sRetNI, fZip, fML, opAny, opAll, opSorted, opMaxL, opMinL, opRfind, opCount, List.map_cons, List.map_nil, cInA, cNinA, inD, itD, fItA, eItA, cLtA, cLeA, fRr1, fRr2, opInt, sPar, fCallD, fRaise0, fRaise1, sTryAs, sTry, aftr, noX, allEq_const, fXf, fXi, fLc, lcL, unE, tYs, Vs.ret, xLock, inis, bof, sNil, sSeq, sAsg, sRet, sRetV, sRetN, sIf, sDrop, sTg, sFor, sBrk, sCnt, sApp, sExt, sOwn, sSetI, opSetI, sLock, unlk, sbnd, bnd, fOp, fCh, fCl, fCall, fLst, fTup, fSl, fIf, fAnd, fOr, fNot, fTru, fAndV, fOrV, fNotV, fNeg, fIsi, fM1, fM2, fRg1, fRg2, fEn, fRev, fSg, fTp, fIt, eIt, eB, eV, eC, frz, shm, aCons, aNil, poN, poS, Rs.d, Rs.sl, vB, List.cons_append, List.nil_append, List.append_nil, List.replicate_zero, List.replicate_succ, List.getElem?_cons_zero, List.getElem?_cons_succ, List.set_cons_zero, List.set_cons_succ, List.length_cons, List.length_nil, opLen, lenD, opList, opAdd, opSub, opMul, opMod, opDiv, opPow, opMin, opMax, opIx, opSl, cmpB, cEq, cNe, cIsN, cNotN, truD, tgN, tgT, setAll, isKd, opFind, opFind3, opStarts, opStarts3, Nat.reduceLT, Nat.reduceAdd, Nat.reduceSub, Nat.reduceLeDiff, Int.reduceLT, Int.reduceLE, Int.reduceNeg, reduceIte, and_self, true_and, and_true, decide_true, decide_false, Int.toNat_natCast, this]) (fun p hm hb _ => by
          refine ⟨_, rfl, [.sh (.str t), .sh (.str p)], ?_, (), rfl⟩
          have := e_read_bad hb (by have := s2 p hm; omega)
          simp (disch := first | omega | assumption) only [if_pos, if_neg, decide_eq_true, decide_eq_false, atI_of, cutL_take, cutL_drop, cutL_mid, ge_iff_le, gt_iff_lt, Int.reduceToNat, Int.toNat_zero, Int.toNat_one, Bool.not_true, Bool.not_false, szl, fLcX, fRepl, fMaxD, fEnS, sStuck, fLenS, cGtA, sAppQ, sSetQ, sForT, forTL, opSortT, fDItems, fDKeys, fLcO, D.key, fDNew, fDGet, sDPutV, fDSet, fRg3, fChV, fSortL, frL, frS, fSortB, sRem, sqAt, eIxI, fItm, fItV, chS, sItC, sItA, sItI, sItS, fTmp, Sl.mut, Sl.th, O.d, sqD, D.atm, sTryR, fSq, aConsF, aNilF, eO, sTgF, setFd, Fd.sl, opJoinRev, fLRev, runDef, runDefI, ioAt, insA, chL, getO, setO, getL, setL, obAt, eFd, eFV, eFB, fFld, fMeth, fMethI, fMake, fCallI, aHere, fIsO, sFldS, setF, Rs.fd, Fd.d, O.d, fMethD, chF, sAppF, fPopF, fPop0, fPop1, sIns, sRetI, sRetNI, fZip, fML, opAny, opAll, opSorted, opMaxL, opMinL, opRfind, opCount, List.map_cons, List.map_nil, cInA, cNinA, inD, itD, fItA, eItA, cLtA, cLeA, fRr1, fRr2, opInt, sPar, fCallD, fRaise0, fRaise1, sTryAs, sTry, aftr, noX, allEq_const, fXf, fXi, fLc, lcL, unE, tYs, Vs.ret, xLock, inis, bof, sNil, sSeq, sAsg, sRet, sRetV, sRetN, sIf, sDrop, sTg, sFor, sBrk, sCnt, sApp, sExt, sOwn, sSetI, opSetI, sLock, unlk, sbnd, bnd, fOp, fCh, fCl, fCall, fLst, fTup, fSl, fIf, fAnd, fOr, fNot, fTru, fAndV, fOrV, fNotV, fNeg, fIsi, fM1, fM2, fRg1, fRg2, fEn, fRev, fSg, fTp, fIt, eIt, eB, eV, eC, frz, shm, aCons, aNil, poN, poS, Rs.d, Rs.sl, vB, List.cons_append, List.nil_append, List.append_nil, List.replicate_zero, List.replicate_succ, List.getElem?_cons_zero, List.getElem?_cons_succ, List.set_cons_zero, List.set_cons_succ, List.length_cons, List.length_nil, opLen, lenD, opList, opAdd, opSub, opMul, opMod, opDiv, opPow, opMin, opMax, opIx, opSl, cmpB, cEq, cNe, cIsN, cNotN, truD, tgN, tgT, setAll, isKd, opFind, opFind3, opStarts, opStarts3, Nat.reduceLT, Nat.reduceAdd, Nat.reduceSub, Nat.reduceLeDiff, Int.reduceLT, Int.reduceLE, Int.reduceNeg, reduceIte, and_self, true_and, and_true, decide_true, decide_false, Int.toNat_natCast, this]) ⟨p, m, q⟩
        have l0' : lcLX (tgN 1) tYs (frz (fCall g_read_step (aCons (eB 1) (aNil)))) [1] ((TL.spl [32] 0 [] t).map D.str) [] [.sh (.str t), .un] = some (.ex ⟨x_NoStep, none⟩ [.sh (.str t), .un]) := l0
        unfold g_read_steps b_read_steps i1_read_steps
        simp (disch := first | omega | assumption) only [if_pos, if_neg, decide_eq_true, decide_eq_false, atI_of, cutL_take, cutL_drop, cutL_mid, ge_iff_le, gt_iff_lt, Int.reduceToNat, Int.toNat_zero, Int.toNat_one, Bool.not_true, Bool.not_false, szl, fLcX, fRepl, fMaxD, fEnS, sStuck, fLenS, cGtA, sAppQ, sSetQ, sForT, forTL, opSortT, fDItems, fDKeys, fLcO, D.key, fDNew, fDGet, sDPutV, fDSet, fRg3, fChV, fSortL, frL, frS, fSortB, sRem, sqAt, eIxI, fItm, fItV, chS, sItC, sItA, sItI, sItS, fTmp, Sl.mut, Sl.th, O.d, sqD, D.atm, sTryR, fSq, aConsF, aNilF, eO, sTgF, setFd, Fd.sl, opJoinRev, fLRev, runDef, runDefI, ioAt, insA, chL, getO, setO, getL, setL, obAt, eFd, eFV, eFB, fFld, fMeth, fMethI, fMake, fCallI, aHere, fIsO, sFldS, setF, Rs.fd, Fd.d, O.d, fMethD, chF, sAppF, fPopF, fPop0, fPop1, sIns, sRetI, sRetNI, fZip, fML, opAny, opAll, opSorted, opMaxL, opMinL, opRfind, opCount, List.map_cons, List.map_nil, cInA, cNinA, inD, itD, fItA, eItA, cLtA, cLeA, fRr1, fRr2, opInt, sPar, fCallD, fRaise0, fRaise1, sTryAs, sTry, aftr, noX, allEq_const, fXf, fXi, fLc, lcL, unE, tYs, Vs.ret, xLock, inis, bof, sNil, sSeq, sAsg, sRet, sRetV, sRetN, sIf, sDrop, sTg, sFor, sBrk, sCnt, sApp, sExt, sOwn, sSetI, opSetI, sLock, unlk, sbnd, bnd, fOp, fCh, fCl, fCall, fLst, fTup, fSl, fIf, fAnd, fOr, fNot, fTru, fAndV, fOrV, fNotV, fNeg, fIsi, fM1, fM2, fRg1, fRg2, fEn, fRev, fSg, fTp, fIt, eIt, eB, eV, eC, frz, shm, aCons, aNil, poN, poS, Rs.d, Rs.sl, vB, List.cons_append, List.nil_append, List.append_nil, List.replicate_zero, List.replicate_succ, List.getElem?_cons_zero, List.getElem?_cons_succ, List.set_cons_zero, List.set_cons_succ, List.length_cons, List.length_nil, opLen, lenD, opList, opAdd, opSub, opMul, opMod, opDiv, opPow, opMin, opMax, opIx, opSl, cmpB, cEq, cNe, cIsN, cNotN, truD, tgN, tgT, setAll, isKd, opFind, opFind3, opStarts, opStarts3, Nat.reduceLT, Nat.reduceAdd, Nat.reduceSub, Nat.reduceLeDiff, Int.reduceLT, Int.reduceLE, Int.reduceNeg, reduceIte, and_self, true_and, and_true, decide_true, decide_false, Int.toNat_natCast] at l0'
        simp (disch := first | omega | assumption) only [if_pos, if_neg, decide_eq_true, decide_eq_false, atI_of, cutL_take, cutL_drop, cutL_mid, ge_iff_le, gt_iff_lt, Int.reduceToNat, Int.toNat_zero, Int.toNat_one, Bool.not_true, Bool.not_false, szl, fLcX, fRepl, fMaxD, fEnS, sStuck, fLenS, cGtA, sAppQ, sSetQ, sForT, forTL, opSortT, fDItems, fDKeys, fLcO, D.key, fDNew, fDGet, sDPutV, fDSet, fRg3, fChV, fSortL, frL, frS, fSortB, sRem, sqAt, eIxI, fItm, fItV, chS, sItC, sItA, sItI, sItS, fTmp, Sl.mut, Sl.th, O.d, sqD, D.atm, sTryR, fSq, aConsF, aNilF, eO, sTgF, setFd, Fd.sl, opJoinRev, fLRev, runDef, runDefI, ioAt, insA, chL, getO, setO, getL, setL, obAt, eFd, eFV, eFB, fFld, fMeth, fMethI, fMake, fCallI, aHere, fIsO, sFldS, setF, Rs.fd, Fd.d, O.d, fMethD, chF, sAppF, fPopF, fPop0, fPop1, sIns, sRetI, sRetNI, fZip, fML, opAny, opAll, opSorted, opMaxL, opMinL, opRfind, opCount, List.map_cons, List.map_nil, cInA, cNinA, inD, itD, fItA, eItA, cLtA, cLeA, fRr1, fRr2, opInt, sPar, fCallD, fRaise0, fRaise1, sTryAs, sTry, aftr, noX, allEq_const, fXf, fXi, fLc, lcL, unE, tYs, Vs.ret, xLock, inis, bof, sNil, sSeq, sAsg, sRet, sRetV, sRetN, sIf, sDrop, sTg, sFor, sBrk, sCnt, sApp, sExt, sOwn, sSetI, opSetI, sLock, unlk, sbnd, bnd, fOp, fCh, fCl, fCall, fLst, fTup, fSl, fIf, fAnd, fOr, fNot, fTru, fAndV, fOrV, fNotV, fNeg, fIsi, fM1, fM2, fRg1, fRg2, fEn, fRev, fSg, fTp, fIt, eIt, eB, eV, eC, frz, shm, aCons, aNil, poN, poS, Rs.d, Rs.sl, vB, List.cons_append, List.nil_append, List.append_nil, List.replicate_zero, List.replicate_succ, List.getElem?_cons_zero, List.getElem?_cons_succ, List.set_cons_zero, List.set_cons_succ, List.length_cons, List.length_nil, opLen, lenD, opList, opAdd, opSub, opMul, opMod, opDiv, opPow, opMin, opMax, opIx, opSl, cmpB, cEq, cNe, cIsN, cNotN, truD, tgN, tgT, setAll, isKd, opFind, opFind3, opStarts, opStarts3, Nat.reduceLT, Nat.reduceAdd, Nat.reduceSub, Nat.reduceLeDiff, Int.reduceLT, Int.reduceLE, Int.reduceNeg, reduceIte, and_self, true_and, and_true, decide_true, decide_false, Int.toNat_natCast, decide_eq_false h46, sp, itD, l0']

/-! k07: the drawn text -/
theorem bits32 {n : Int} (h : n.natAbs < 2 ^ 32) (k : Int) (hk : Builtin.Int.intBits k ≤ 100) : Builtin.Int.intBits n + Builtin.Int.intBits k ≤ 134217728 := by
  have h1 : Builtin.Int.intBits n ≤ 32 := PyProof.Rows.intBits_le h
  omega
theorem e_written (c : Int) : ∃ w : List Nat, g_law_written [.int c] = some (.rt (.sh (.str w))) ∧ w.length ≤ 9 := by
  have pick : ∀ x : Nat, x < 4 → ∃ B : Nat, [D.int 10, D.int 100, D.int 1000, D.int 10000][x]? = some (D.int (B : Int)) ∧ 0 < B ∧ B ≤ 10000 := fun x hx => by
    match x, hx with
    | 0, _ => exact ⟨10, rfl, by decide, by decide⟩
    | 1, _ => exact ⟨100, rfl, by decide, by decide⟩
    | 2, _ => exact ⟨1000, rfl, by decide, by decide⟩
    | 3, _ => exact ⟨10000, rfl, by decide, by decide⟩
  have sg : ∀ x : Nat, x < 2 → ∃ s : Nat, [D.str [60], D.str [62]][x]? = some (D.str [s]) := fun x hx => by
    match x, hx with
    | 0, _ => exact ⟨60, rfl⟩
    | 1, _ => exact ⟨62, rfl⟩
  have red : ∀ (B : Nat) (z : Int), 0 < B → B ≤ 10000 → ∃ n : Nat, z % (B : Int) = (n : Int) ∧ n < 10000 := fun B z h1 h2 => by
    have p1 := Int.emod_nonneg z (show (B : Int) ≠ 0 by omega)
    have p2 := Int.emod_lt_of_pos z (show (0 : Int) < (B : Int) by omega)
    exact ⟨(z % (B : Int)).toNat, by omega, by omega⟩
  have q1 := Int.emod_nonneg c (show (2147483646 : Int) ≠ 0 by decide)
  have q2 := Int.emod_lt_of_pos c (show (0 : Int) < 2147483646 by decide)
  have bb1 := bits32 (n := c % 2147483646 + 1) (by omega) 48271 (by decide)
  obtain ⟨N, hN⟩ : ∃ N : Int, N = (c % 2147483646 + 1) * 48271 % 2147483647 := ⟨_, rfl⟩
  have N0 : 0 ≤ N ∧ N < 2147483647 := by omega
  have bb2 := bits32 (n := N) (by omega) 69621 (by decide)
  obtain ⟨P, hP⟩ : ∃ P : Int, P = N * 69621 % 2147483647 := ⟨_, rfl⟩
  obtain ⟨x, hx⟩ : ∃ x : Nat, N / 3 % 4 = (x : Int) := ⟨(N / 3 % 4).toNat, by omega⟩
  obtain ⟨y, hy⟩ : ∃ y : Nat, P % 2 = (y : Int) := ⟨(P % 2).toNat, by omega⟩
  obtain ⟨B, b1, b2, b3⟩ := pick x (by omega)
  obtain ⟨s, s1⟩ := sg y (by omega)
  obtain ⟨n, n1, n2⟩ := red B (N / 16) b2 b3
  obtain ⟨m, m1, m2⟩ := red B (P / 16) b2 b3
  have b2' : (0 : Int) < (B : Int) := by omega
  have t1 := num_str n2
  have t2 := num_str m2
  have l1 := num_len n2
  have l2 := num_len m2
  refine ⟨TL.numL n ++ [s] ++ TL.numL m, ?_, by simp only [List.length_append, List.length_singleton]; omega⟩
  have a1 : (TL.numL n ++ [s]).length ≤ 10 := by rw [List.length_append, List.length_singleton]; omega
  unfold g_law_written b_law_written
  simp (disch := first | omega | assumption) only [if_pos, if_neg, decide_eq_true, decide_eq_false, atI_of, cutL_take, cutL_drop, cutL_mid, ge_iff_le, gt_iff_lt, Int.reduceToNat, Int.toNat_zero, Int.toNat_one, Bool.not_true, Bool.not_false, szl, fLcX, fRepl, fMaxD, fEnS, sStuck, fLenS, cGtA, sAppQ, sSetQ, sForT, forTL, opSortT, fDItems, fDKeys, fLcO, D.key, fDNew, fDGet, sDPutV, fDSet, fRg3, fChV, fSortL, frL, frS, fSortB, sRem, sqAt, eIxI, fItm, fItV, chS, sItC, sItA, sItI, sItS, fTmp, Sl.mut, Sl.th, O.d, sqD, D.atm, sTryR, fSq, aConsF, aNilF, eO, sTgF, setFd, Fd.sl, opJoinRev, fLRev, runDef, runDefI, ioAt, insA, chL, getO, setO, getL, setL, obAt, eFd, eFV, eFB, fFld, fMeth, fMethI, fMake, fCallI, aHere, fIsO, sFldS, setF, Rs.fd, Fd.d, O.d, fMethD, chF, sAppF, fPopF, fPop0, fPop1, sIns, sRetI, sRetNI, fZip, fML, opAny, opAll, opSorted, opMaxL, opMinL, opRfind, opCount, List.map_cons, List.map_nil, cInA, cNinA, inD, itD, fItA, eItA, cLtA, cLeA, fRr1, fRr2, opInt, sPar, fCallD, fRaise0, fRaise1, sTryAs, sTry, aftr, noX, allEq_const, fXf, fXi, fLc, lcL, unE, tYs, Vs.ret, xLock, inis, bof, sNil, sSeq, sAsg, sRet, sRetV, sRetN, sIf, sDrop, sTg, sFor, sBrk, sCnt, sApp, sExt, sOwn, sSetI, opSetI, sLock, unlk, sbnd, bnd, fOp, fCh, fCl, fCall, fLst, fTup, fSl, fIf, fAnd, fOr, fNot, fTru, fAndV, fOrV, fNotV, fNeg, fIsi, fM1, fM2, fRg1, fRg2, fEn, fRev, fSg, fTp, fIt, eIt, eB, eV, eC, frz, shm, aCons, aNil, poN, poS, Rs.d, Rs.sl, vB, List.cons_append, List.nil_append, List.append_nil, List.replicate_zero, List.replicate_succ, List.getElem?_cons_zero, List.getElem?_cons_succ, List.set_cons_zero, List.set_cons_succ, List.length_cons, List.length_nil, opLen, lenD, opList, opAdd, opSub, opMul, opMod, opDiv, opPow, opMin, opMax, opIx, opSl, cmpB, cEq, cNe, cIsN, cNotN, truD, tgN, tgT, setAll, isKd, opFind, opFind3, opStarts, opStarts3, Nat.reduceLT, Nat.reduceAdd, Nat.reduceSub, Nat.reduceLeDiff, Int.reduceLT, Int.reduceLE, Int.reduceNeg, reduceIte, and_self, true_and, and_true, decide_true, decide_false, Int.toNat_natCast, ← hN, ← hP, hx, hy, b1, s1, n1, m1, t1, t2]
def odd22 : List (List Nat) := [[], [32], [46, 32], [32, 46], [46, 46], [62], [60], [49, 62], [62, 49], [49, 32, 62, 32, 50], [48, 48, 62, 49], [49, 62, 48, 48], [49, 48, 48, 48, 48, 62, 49], [49, 62, 49, 48, 48, 48, 48], [45, 49, 62, 48], [49, 62, 45, 48], [43, 49, 62, 48], [49, 95, 48, 62, 49], [49, 62, 48, 32], [32, 49, 62, 48], [49, 62, 48, 32, 32, 50, 60, 49], [49, 62, 48, 44, 32, 50, 60, 49]]
theorem e_odd (c : Int) : ∃ w : List Nat, g_law_odd_text [.int c] = some (.rt (.sh (.str w))) ∧ w.length ≤ 30 := by
  obtain ⟨x, hx, hx2⟩ : ∃ x : Nat, c % 22 = (x : Int) ∧ x < 22 := ⟨(c % 22).toNat, by omega, by omega⟩
  have hl : x < odd22.length := hx2
  have at_ : (odd22.map D.str)[x]? = some (D.str odd22[x]) := by rw [List.getElem?_map, List.getElem?_eq_getElem hl]; rfl
  have sz : ∀ w ∈ odd22, w.length ≤ 30 := by decide
  have wl := sz _ (List.getElem_mem hl)
  refine ⟨odd22[x], ?_, wl⟩
  obtain ⟨Z, hZ⟩ : ∃ Z, Z = odd22[x] := ⟨_, rfl⟩
  rw [← hZ] at at_ ⊢
  have at2 : [D.str [], .str [32], .str [46, 32], .str [32, 46], .str [46, 46], .str [62], .str [60], .str [49, 62], .str [62, 49], .str [49, 32, 62, 32, 50], .str [48, 48, 62, 49], .str [49, 62, 48, 48], .str [49, 48, 48, 48, 48, 62, 49], .str [49, 62, 49, 48, 48, 48, 48], .str [45, 49, 62, 48], .str [49, 62, 45, 48], .str [43, 49, 62, 48], .str [49, 95, 48, 62, 49], .str [49, 62, 48, 32], .str [32, 49, 62, 48], .str [49, 62, 48, 32, 32, 50, 60, 49], .str [49, 62, 48, 44, 32, 50, 60, 49]][x]? = some (D.str Z) := at_
  unfold g_law_odd_text b_law_odd_text
  simp (disch := first | omega | assumption) only [if_pos, if_neg, decide_eq_true, decide_eq_false, atI_of, cutL_take, cutL_drop, cutL_mid, ge_iff_le, gt_iff_lt, Int.reduceToNat, Int.toNat_zero, Int.toNat_one, Bool.not_true, Bool.not_false, szl, fLcX, fRepl, fMaxD, fEnS, sStuck, fLenS, cGtA, sAppQ, sSetQ, sForT, forTL, opSortT, fDItems, fDKeys, fLcO, D.key, fDNew, fDGet, sDPutV, fDSet, fRg3, fChV, fSortL, frL, frS, fSortB, sRem, sqAt, eIxI, fItm, fItV, chS, sItC, sItA, sItI, sItS, fTmp, Sl.mut, Sl.th, O.d, sqD, D.atm, sTryR, fSq, aConsF, aNilF, eO, sTgF, setFd, Fd.sl, opJoinRev, fLRev, runDef, runDefI, ioAt, insA, chL, getO, setO, getL, setL, obAt, eFd, eFV, eFB, fFld, fMeth, fMethI, fMake, fCallI, aHere, fIsO, sFldS, setF, Rs.fd, Fd.d, O.d, fMethD, chF, sAppF, fPopF, fPop0, fPop1, sIns, sRetI, sRetNI, fZip, fML, opAny, opAll, opSorted, opMaxL, opMinL, opRfind, opCount, List.map_cons, List.map_nil, cInA, cNinA, inD, itD, fItA, eItA, cLtA, cLeA, fRr1, fRr2, opInt, sPar, fCallD, fRaise0, fRaise1, sTryAs, sTry, aftr, noX, allEq_const, fXf, fXi, fLc, lcL, unE, tYs, Vs.ret, xLock, inis, bof, sNil, sSeq, sAsg, sRet, sRetV, sRetN, sIf, sDrop, sTg, sFor, sBrk, sCnt, sApp, sExt, sOwn, sSetI, opSetI, sLock, unlk, sbnd, bnd, fOp, fCh, fCl, fCall, fLst, fTup, fSl, fIf, fAnd, fOr, fNot, fTru, fAndV, fOrV, fNotV, fNeg, fIsi, fM1, fM2, fRg1, fRg2, fEn, fRev, fSg, fTp, fIt, eIt, eB, eV, eC, frz, shm, aCons, aNil, poN, poS, Rs.d, Rs.sl, vB, List.cons_append, List.nil_append, List.append_nil, List.replicate_zero, List.replicate_succ, List.getElem?_cons_zero, List.getElem?_cons_succ, List.set_cons_zero, List.set_cons_succ, List.length_cons, List.length_nil, opLen, lenD, opList, opAdd, opSub, opMul, opMod, opDiv, opPow, opMin, opMax, opIx, opSl, cmpB, cEq, cNe, cIsN, cNotN, truD, tgN, tgT, setAll, isKd, opFind, opFind3, opStarts, opStarts3, Nat.reduceLT, Nat.reduceAdd, Nat.reduceSub, Nat.reduceLeDiff, Int.reduceLT, Int.reduceLE, Int.reduceNeg, reduceIte, and_self, true_and, and_true, decide_true, decide_false, Int.toNat_natCast, hx, at2]
theorem repl_len {y z w : List Nat} (hy : 1 ≤ y.length) : (PySem.StrLaws.replL y z w).length ≤ w.length + (w.length + 1) * z.length := by
  have h := TK.replace_len (S w) (S y) (S z)
  rw [repl_S hy, S_len, S_len, S_len] at h
  exact h
theorem sum_set (x : List Nat) : ∀ (P : List (List Nat)) (k : Nat), ((P.set k x).map List.length).sum ≤ (P.map List.length).sum + x.length
  | [], _ => Nat.zero_le _
  | p :: P, 0 => by rw [List.set_cons_zero, List.map_cons, List.map_cons, List.sum_cons, List.sum_cons]; omega
  | p :: P, k + 1 => by
    have := sum_set x P k
    rw [List.set_cons_succ, List.map_cons, List.map_cons, List.sum_cons, List.sum_cons]
    omega
theorem sum_le {P : List (List Nat)} {b : Nat} (h : ∀ p ∈ P, p.length ≤ b) : (P.map List.length).sum ≤ b * P.length := by
  induction P with
  | nil => exact Nat.zero_le _
  | cons p P ih =>
    have := ih fun q hq => h q (List.mem_cons_of_mem _ hq)
    have := h p List.mem_cons_self
    rw [List.map_cons, List.sum_cons, List.length_cons, Nat.mul_succ]
    omega
theorem joinL_len : ∀ P : List (List Nat), (TL.joinL [32] P).length ≤ (P.map List.length).sum + P.length
  | [] => Nat.le_refl _
  | [p] => by
    rw [List.map_singleton, List.sum_singleton]
    exact Nat.le_add_right _ _
  | p :: q :: P => by
    have := joinL_len (q :: P)
    rw [List.map_cons, List.sum_cons, List.length_cons]
    show (p ++ ([32] ++ TL.joinL [32] (q :: P))).length ≤ _
    rw [List.length_append, List.length_append, List.length_singleton]
    omega
theorem opJoin_l {P : List (List Nat)} (h : (P.map List.length).sum + P.length ≤ 1000000) : opJoin [32] (.lst (P.map D.str)) = some (.sh (.str (TL.joinL [32] P))) := by
  unfold opJoin
  dsimp only
  rw [allStrs_map]
  dsimp only
  rw [if_pos (by show _ + P.length * 1 ≤ 1000000; omega)]
  have e : (Txt.join (S [32]) (P.map S)).cps.toList = TL.joinL [32] P := by
    rw [join_eqS]
    have := TL.tl_join (S [32]) (P.map S)
    have e2 : (P.map S).map TL.tl = P := by
      rw [List.map_map]
      conv => rhs; rw [← List.map_id P]
      exact List.map_congr_left fun x _ => S_cps x
    rw [e2] at this
    rw [show (Str.join (S [32]) (P.map S)).cps.toList = TL.tl (Str.join (S [32]) (P.map S)) from rfl, this]
    show TL.joinL (S [32]).cps.toList _ = _
    rw [S_cps]
  rw [e]
/-- one piece changed -/
theorem odd_piece {ns : List Int} {P : List (List Nat)} {W C : Int} (h9 : ∀ p ∈ P, p.length ≤ 9) (hl : P.length ≤ 63) (c1 : g_law_cell_at [.scr ns, .int 1] = some (.rt (.sh (.int C)))) : ∃ (P' : List (List Nat)) (t6 : Sl), i2_law_text [.sh (.scr ns), .ow (P.map D.str), .sh (.int W), .un, .un, .un, .un, .un] = some (.nx [.sh (.scr ns), .ow (P'.map D.str), .sh (.int W), .un, .un, .un, t6, .un]) ∧ P'.length ≤ 63 ∧ (P'.map List.length).sum ≤ 700 := by
  have s0 := sum_le h9
  have pl : (P.map D.str).length = P.length := List.length_map ..
  by_cases g1 : W > 9
  · by_cases g2 : (P.length : Int) > 0
    · have hp : 0 < (P.length : Int) := g2
      have p1 := Int.emod_nonneg C (show (P.length : Int) ≠ 0 by omega)
      have p2 := Int.emod_lt_of_pos C hp
      obtain ⟨k, hk, hk2⟩ : ∃ k : Nat, C % (P.length : Int) = (k : Int) ∧ k < P.length := ⟨(C % (P.length : Int)).toNat, by omega, by omega⟩
      obtain ⟨w, hw⟩ : ∃ w, P[k]? = some w := ⟨_, List.getElem?_eq_getElem hk2⟩
      have w9 := h9 w (List.mem_of_getElem? hw)
      have at_ : (P.map D.str)[k]? = some (D.str w) := by rw [List.getElem?_map, hw]; rfl
      have ix : ixN (P.map D.str).length (k : Int) = some k := by
        unfold ixN
        rw [pl, if_pos (by omega), if_pos (by omega), Int.toNat_natCast]
      have setm : ∀ x : List Nat, (P.map D.str).set k (D.str x) = (P.set k x).map D.str := fun x => by rw [List.map_set]
      obtain ⟨LN, hLN⟩ : ∃ z : Int, z = (P.length : Int) := ⟨_, rfl⟩
      rw [← hLN] at hk g2 hp
      by_cases g3 : W = 10
      · refine ⟨P.set k ([48] ++ w), .sh (.int (k : Int)), ?_, by rw [List.length_set]; exact hl, ?_⟩
        · have i1 : i1_law_text [.sh (.scr ns), .ow (P.map D.str), .sh (.int W), .un, .un, .un, .sh (.int (k : Int)), .un] = some (.nx [.sh (.scr ns), .ow ((P.set k ([48] ++ w)).map D.str), .sh (.int W), .un, .un, .un, .sh (.int (k : Int)), .un]) := by
            rw [← setm]
            unfold i1_law_text
            simp (disch := first | omega | assumption) only [if_pos, if_neg, decide_eq_true, decide_eq_false, atI_of, cutL_take, cutL_drop, cutL_mid, ge_iff_le, gt_iff_lt, Int.reduceToNat, Int.toNat_zero, Int.toNat_one, Bool.not_true, Bool.not_false, szl, fLcX, fRepl, fMaxD, fEnS, sStuck, fLenS, cGtA, sAppQ, sSetQ, sForT, forTL, opSortT, fDItems, fDKeys, fLcO, D.key, fDNew, fDGet, sDPutV, fDSet, fRg3, fChV, fSortL, frL, frS, fSortB, sRem, sqAt, eIxI, fItm, fItV, chS, sItC, sItA, sItI, sItS, fTmp, Sl.mut, Sl.th, O.d, sqD, D.atm, sTryR, fSq, aConsF, aNilF, eO, sTgF, setFd, Fd.sl, opJoinRev, fLRev, runDef, runDefI, ioAt, insA, chL, getO, setO, getL, setL, obAt, eFd, eFV, eFB, fFld, fMeth, fMethI, fMake, fCallI, aHere, fIsO, sFldS, setF, Rs.fd, Fd.d, O.d, fMethD, chF, sAppF, fPopF, fPop0, fPop1, sIns, sRetI, sRetNI, fZip, fML, opAny, opAll, opSorted, opMaxL, opMinL, opRfind, opCount, List.map_cons, List.map_nil, cInA, cNinA, inD, itD, fItA, eItA, cLtA, cLeA, fRr1, fRr2, opInt, sPar, fCallD, fRaise0, fRaise1, sTryAs, sTry, aftr, noX, allEq_const, fXf, fXi, fLc, lcL, unE, tYs, Vs.ret, xLock, inis, bof, sNil, sSeq, sAsg, sRet, sRetV, sRetN, sIf, sDrop, sTg, sFor, sBrk, sCnt, sApp, sExt, sOwn, sSetI, opSetI, sLock, unlk, sbnd, bnd, fOp, fCh, fCl, fCall, fLst, fTup, fSl, fIf, fAnd, fOr, fNot, fTru, fAndV, fOrV, fNotV, fNeg, fIsi, fM1, fM2, fRg1, fRg2, fEn, fRev, fSg, fTp, fIt, eIt, eB, eV, eC, frz, shm, aCons, aNil, poN, poS, Rs.d, Rs.sl, vB, List.cons_append, List.nil_append, List.append_nil, List.replicate_zero, List.replicate_succ, List.getElem?_cons_zero, List.getElem?_cons_succ, List.set_cons_zero, List.set_cons_succ, List.length_cons, List.length_nil, opLen, lenD, opList, opAdd, opSub, opMul, opMod, opDiv, opPow, opMin, opMax, opIx, opSl, cmpB, cEq, cNe, cIsN, cNotN, truD, tgN, tgT, setAll, isKd, opFind, opFind3, opStarts, opStarts3, Nat.reduceLT, Nat.reduceAdd, Nat.reduceSub, Nat.reduceLeDiff, Int.reduceLT, Int.reduceLE, Int.reduceNeg, reduceIte, and_self, true_and, and_true, decide_true, decide_false, Int.toNat_natCast, decide_eq_true g3, at_, ix]
          unfold i2_law_text
          simp (disch := first | omega | assumption) only [if_pos, if_neg, decide_eq_true, decide_eq_false, atI_of, cutL_take, cutL_drop, cutL_mid, ge_iff_le, gt_iff_lt, Int.reduceToNat, Int.toNat_zero, Int.toNat_one, Bool.not_true, Bool.not_false, szl, fLcX, fRepl, fMaxD, fEnS, sStuck, fLenS, cGtA, sAppQ, sSetQ, sForT, forTL, opSortT, fDItems, fDKeys, fLcO, D.key, fDNew, fDGet, sDPutV, fDSet, fRg3, fChV, fSortL, frL, frS, fSortB, sRem, sqAt, eIxI, fItm, fItV, chS, sItC, sItA, sItI, sItS, fTmp, Sl.mut, Sl.th, O.d, sqD, D.atm, sTryR, fSq, aConsF, aNilF, eO, sTgF, setFd, Fd.sl, opJoinRev, fLRev, runDef, runDefI, ioAt, insA, chL, getO, setO, getL, setL, obAt, eFd, eFV, eFB, fFld, fMeth, fMethI, fMake, fCallI, aHere, fIsO, sFldS, setF, Rs.fd, Fd.d, O.d, fMethD, chF, sAppF, fPopF, fPop0, fPop1, sIns, sRetI, sRetNI, fZip, fML, opAny, opAll, opSorted, opMaxL, opMinL, opRfind, opCount, List.map_cons, List.map_nil, cInA, cNinA, inD, itD, fItA, eItA, cLtA, cLeA, fRr1, fRr2, opInt, sPar, fCallD, fRaise0, fRaise1, sTryAs, sTry, aftr, noX, allEq_const, fXf, fXi, fLc, lcL, unE, tYs, Vs.ret, xLock, inis, bof, sNil, sSeq, sAsg, sRet, sRetV, sRetN, sIf, sDrop, sTg, sFor, sBrk, sCnt, sApp, sExt, sOwn, sSetI, opSetI, sLock, unlk, sbnd, bnd, fOp, fCh, fCl, fCall, fLst, fTup, fSl, fIf, fAnd, fOr, fNot, fTru, fAndV, fOrV, fNotV, fNeg, fIsi, fM1, fM2, fRg1, fRg2, fEn, fRev, fSg, fTp, fIt, eIt, eB, eV, eC, frz, shm, aCons, aNil, poN, poS, Rs.d, Rs.sl, vB, List.cons_append, List.nil_append, List.append_nil, List.replicate_zero, List.replicate_succ, List.getElem?_cons_zero, List.getElem?_cons_succ, List.set_cons_zero, List.set_cons_succ, List.length_cons, List.length_nil, opLen, lenD, opList, opAdd, opSub, opMul, opMod, opDiv, opPow, opMin, opMax, opIx, opSl, cmpB, cEq, cNe, cIsN, cNotN, truD, tgN, tgT, setAll, isKd, opFind, opFind3, opStarts, opStarts3, Nat.reduceLT, Nat.reduceAdd, Nat.reduceSub, Nat.reduceLeDiff, Int.reduceLT, Int.reduceLE, Int.reduceNeg, reduceIte, and_self, true_and, and_true, decide_true, decide_false, Int.toNat_natCast, decide_eq_true g1, pl, ← hLN, decide_eq_true g2, c1, hk, i1]
        · have := sum_set ([48] ++ w) P k
          have l : ([48] ++ w).length ≤ 10 := by rw [List.length_append]; show 1 + _ ≤ 10; omega
          omega
      · obtain ⟨w1, hw1⟩ : ∃ w1, w1 = PySem.StrLaws.replL [60] [60, 48] w := ⟨_, rfl⟩
        obtain ⟨w2, hw2⟩ : ∃ w2, w2 = PySem.StrLaws.replL [62] [62, 48] w1 := ⟨_, rfl⟩
        have l1 : w1.length ≤ 29 := by
          have := repl_len (y := [60]) (z := [60, 48]) (w := w) (by decide)
          rw [← hw1] at this
          have e : ([60, 48] : List Nat).length = 2 := rfl
          rw [e] at this
          omega
        have l2 : w2.length ≤ 89 := by
          have := repl_len (y := [62]) (z := [62, 48]) (w := w1) (by decide)
          rw [← hw2] at this
          have e : ([62, 48] : List Nat).length = 2 := rfl
          rw [e] at this
          omega
        have b1 : 1 ≤ ([60] : List Nat).length ∧ w.length + (w.length + 1) * ([60, 48] : List Nat).length ≤ 1000000 := ⟨by decide, by show w.length + (w.length + 1) * 2 ≤ 1000000; omega⟩
        have b2 : 1 ≤ ([62] : List Nat).length ∧ w1.length + (w1.length + 1) * ([62, 48] : List Nat).length ≤ 1000000 := ⟨by decide, by show w1.length + (w1.length + 1) * 2 ≤ 1000000; omega⟩
        have r1 : ∀ e : En, fRepl [62] [62, 48] (fRepl [60] [60, 48] (fun e => some (.ok (.str w) e))) e = some (.ok (.str w2) e) := fun e => by
          unfold fRepl bnd
          dsimp only
          rw [if_pos b1]
          dsimp only
          rw [← hw1, if_pos b2, ← hw2]
        refine ⟨P.set k w2, .sh (.int (k : Int)), ?_, by rw [List.length_set]; exact hl, ?_⟩
        · have i1 : i1_law_text [.sh (.scr ns), .ow (P.map D.str), .sh (.int W), .un, .un, .un, .sh (.int (k : Int)), .un] = some (.nx [.sh (.scr ns), .ow ((P.set k w2).map D.str), .sh (.int W), .un, .un, .un, .sh (.int (k : Int)), .un]) := by
            rw [← setm]
            unfold i1_law_text
            simp (disch := first | omega | assumption) only [if_pos, if_neg, decide_eq_true, decide_eq_false, atI_of, cutL_take, cutL_drop, cutL_mid, ge_iff_le, gt_iff_lt, Int.reduceToNat, Int.toNat_zero, Int.toNat_one, Bool.not_true, Bool.not_false, szl, fLcX, fRepl, fMaxD, fEnS, sStuck, fLenS, cGtA, sAppQ, sSetQ, sForT, forTL, opSortT, fDItems, fDKeys, fLcO, D.key, fDNew, fDGet, sDPutV, fDSet, fRg3, fChV, fSortL, frL, frS, fSortB, sRem, sqAt, eIxI, fItm, fItV, chS, sItC, sItA, sItI, sItS, fTmp, Sl.mut, Sl.th, O.d, sqD, D.atm, sTryR, fSq, aConsF, aNilF, eO, sTgF, setFd, Fd.sl, opJoinRev, fLRev, runDef, runDefI, ioAt, insA, chL, getO, setO, getL, setL, obAt, eFd, eFV, eFB, fFld, fMeth, fMethI, fMake, fCallI, aHere, fIsO, sFldS, setF, Rs.fd, Fd.d, O.d, fMethD, chF, sAppF, fPopF, fPop0, fPop1, sIns, sRetI, sRetNI, fZip, fML, opAny, opAll, opSorted, opMaxL, opMinL, opRfind, opCount, List.map_cons, List.map_nil, cInA, cNinA, inD, itD, fItA, eItA, cLtA, cLeA, fRr1, fRr2, opInt, sPar, fCallD, fRaise0, fRaise1, sTryAs, sTry, aftr, noX, allEq_const, fXf, fXi, fLc, lcL, unE, tYs, Vs.ret, xLock, inis, bof, sNil, sSeq, sAsg, sRet, sRetV, sRetN, sIf, sDrop, sTg, sFor, sBrk, sCnt, sApp, sExt, sOwn, sSetI, opSetI, sLock, unlk, sbnd, bnd, fOp, fCh, fCl, fCall, fLst, fTup, fSl, fIf, fAnd, fOr, fNot, fTru, fAndV, fOrV, fNotV, fNeg, fIsi, fM1, fM2, fRg1, fRg2, fEn, fRev, fSg, fTp, fIt, eIt, eB, eV, eC, frz, shm, aCons, aNil, poN, poS, Rs.d, Rs.sl, vB, List.cons_append, List.nil_append, List.append_nil, List.replicate_zero, List.replicate_succ, List.getElem?_cons_zero, List.getElem?_cons_succ, List.set_cons_zero, List.set_cons_succ, List.length_cons, List.length_nil, opLen, lenD, opList, opAdd, opSub, opMul, opMod, opDiv, opPow, opMin, opMax, opIx, opSl, cmpB, cEq, cNe, cIsN, cNotN, truD, tgN, tgT, setAll, isKd, opFind, opFind3, opStarts, opStarts3, Nat.reduceLT, Nat.reduceAdd, Nat.reduceSub, Nat.reduceLeDiff, Int.reduceLT, Int.reduceLE, Int.reduceNeg, reduceIte, and_self, true_and, and_true, decide_true, decide_false, Int.toNat_natCast, decide_eq_false g3, at_, ix, ← hw1, ← hw2]
          unfold i2_law_text
          simp (disch := first | omega | assumption) only [if_pos, if_neg, decide_eq_true, decide_eq_false, atI_of, cutL_take, cutL_drop, cutL_mid, ge_iff_le, gt_iff_lt, Int.reduceToNat, Int.toNat_zero, Int.toNat_one, Bool.not_true, Bool.not_false, szl, fLcX, fRepl, fMaxD, fEnS, sStuck, fLenS, cGtA, sAppQ, sSetQ, sForT, forTL, opSortT, fDItems, fDKeys, fLcO, D.key, fDNew, fDGet, sDPutV, fDSet, fRg3, fChV, fSortL, frL, frS, fSortB, sRem, sqAt, eIxI, fItm, fItV, chS, sItC, sItA, sItI, sItS, fTmp, Sl.mut, Sl.th, O.d, sqD, D.atm, sTryR, fSq, aConsF, aNilF, eO, sTgF, setFd, Fd.sl, opJoinRev, fLRev, runDef, runDefI, ioAt, insA, chL, getO, setO, getL, setL, obAt, eFd, eFV, eFB, fFld, fMeth, fMethI, fMake, fCallI, aHere, fIsO, sFldS, setF, Rs.fd, Fd.d, O.d, fMethD, chF, sAppF, fPopF, fPop0, fPop1, sIns, sRetI, sRetNI, fZip, fML, opAny, opAll, opSorted, opMaxL, opMinL, opRfind, opCount, List.map_cons, List.map_nil, cInA, cNinA, inD, itD, fItA, eItA, cLtA, cLeA, fRr1, fRr2, opInt, sPar, fCallD, fRaise0, fRaise1, sTryAs, sTry, aftr, noX, allEq_const, fXf, fXi, fLc, lcL, unE, tYs, Vs.ret, xLock, inis, bof, sNil, sSeq, sAsg, sRet, sRetV, sRetN, sIf, sDrop, sTg, sFor, sBrk, sCnt, sApp, sExt, sOwn, sSetI, opSetI, sLock, unlk, sbnd, bnd, fOp, fCh, fCl, fCall, fLst, fTup, fSl, fIf, fAnd, fOr, fNot, fTru, fAndV, fOrV, fNotV, fNeg, fIsi, fM1, fM2, fRg1, fRg2, fEn, fRev, fSg, fTp, fIt, eIt, eB, eV, eC, frz, shm, aCons, aNil, poN, poS, Rs.d, Rs.sl, vB, List.cons_append, List.nil_append, List.append_nil, List.replicate_zero, List.replicate_succ, List.getElem?_cons_zero, List.getElem?_cons_succ, List.set_cons_zero, List.set_cons_succ, List.length_cons, List.length_nil, opLen, lenD, opList, opAdd, opSub, opMul, opMod, opDiv, opPow, opMin, opMax, opIx, opSl, cmpB, cEq, cNe, cIsN, cNotN, truD, tgN, tgT, setAll, isKd, opFind, opFind3, opStarts, opStarts3, Nat.reduceLT, Nat.reduceAdd, Nat.reduceSub, Nat.reduceLeDiff, Int.reduceLT, Int.reduceLE, Int.reduceNeg, reduceIte, and_self, true_and, and_true, decide_true, decide_false, Int.toNat_natCast, decide_eq_true g1, pl, ← hLN, decide_eq_true g2, c1, hk, i1]
        · have := sum_set w2 P k
          omega
    · refine ⟨P, .un, ?_, hl, by omega⟩
      unfold i2_law_text
      simp (disch := first | omega | assumption) only [if_pos, if_neg, decide_eq_true, decide_eq_false, atI_of, cutL_take, cutL_drop, cutL_mid, ge_iff_le, gt_iff_lt, Int.reduceToNat, Int.toNat_zero, Int.toNat_one, Bool.not_true, Bool.not_false, szl, fLcX, fRepl, fMaxD, fEnS, sStuck, fLenS, cGtA, sAppQ, sSetQ, sForT, forTL, opSortT, fDItems, fDKeys, fLcO, D.key, fDNew, fDGet, sDPutV, fDSet, fRg3, fChV, fSortL, frL, frS, fSortB, sRem, sqAt, eIxI, fItm, fItV, chS, sItC, sItA, sItI, sItS, fTmp, Sl.mut, Sl.th, O.d, sqD, D.atm, sTryR, fSq, aConsF, aNilF, eO, sTgF, setFd, Fd.sl, opJoinRev, fLRev, runDef, runDefI, ioAt, insA, chL, getO, setO, getL, setL, obAt, eFd, eFV, eFB, fFld, fMeth, fMethI, fMake, fCallI, aHere, fIsO, sFldS, setF, Rs.fd, Fd.d, O.d, fMethD, chF, sAppF, fPopF, fPop0, fPop1, sIns, sRetI, sRetNI, fZip, fML, opAny, opAll, opSorted, opMaxL, opMinL, opRfind, opCount, List.map_cons, List.map_nil, cInA, cNinA, inD, itD, fItA, eItA, cLtA, cLeA, fRr1, fRr2, opInt, sPar, fCallD, fRaise0, fRaise1, sTryAs, sTry, aftr, noX, allEq_const, fXf, fXi, fLc, lcL, unE, tYs, Vs.ret, xLock, inis, bof, sNil, sSeq, sAsg, sRet, sRetV, sRetN, sIf, sDrop, sTg, sFor, sBrk, sCnt, sApp, sExt, sOwn, sSetI, opSetI, sLock, unlk, sbnd, bnd, fOp, fCh, fCl, fCall, fLst, fTup, fSl, fIf, fAnd, fOr, fNot, fTru, fAndV, fOrV, fNotV, fNeg, fIsi, fM1, fM2, fRg1, fRg2, fEn, fRev, fSg, fTp, fIt, eIt, eB, eV, eC, frz, shm, aCons, aNil, poN, poS, Rs.d, Rs.sl, vB, List.cons_append, List.nil_append, List.append_nil, List.replicate_zero, List.replicate_succ, List.getElem?_cons_zero, List.getElem?_cons_succ, List.set_cons_zero, List.set_cons_succ, List.length_cons, List.length_nil, opLen, lenD, opList, opAdd, opSub, opMul, opMod, opDiv, opPow, opMin, opMax, opIx, opSl, cmpB, cEq, cNe, cIsN, cNotN, truD, tgN, tgT, setAll, isKd, opFind, opFind3, opStarts, opStarts3, Nat.reduceLT, Nat.reduceAdd, Nat.reduceSub, Nat.reduceLeDiff, Int.reduceLT, Int.reduceLE, Int.reduceNeg, reduceIte, and_self, true_and, and_true, decide_true, decide_false, Int.toNat_natCast, decide_eq_true g1, pl, decide_eq_false g2]
  · refine ⟨P, .un, ?_, hl, by omega⟩
    unfold i2_law_text
    simp (disch := first | omega | assumption) only [if_pos, if_neg, decide_eq_true, decide_eq_false, atI_of, cutL_take, cutL_drop, cutL_mid, ge_iff_le, gt_iff_lt, Int.reduceToNat, Int.toNat_zero, Int.toNat_one, Bool.not_true, Bool.not_false, szl, fLcX, fRepl, fMaxD, fEnS, sStuck, fLenS, cGtA, sAppQ, sSetQ, sForT, forTL, opSortT, fDItems, fDKeys, fLcO, D.key, fDNew, fDGet, sDPutV, fDSet, fRg3, fChV, fSortL, frL, frS, fSortB, sRem, sqAt, eIxI, fItm, fItV, chS, sItC, sItA, sItI, sItS, fTmp, Sl.mut, Sl.th, O.d, sqD, D.atm, sTryR, fSq, aConsF, aNilF, eO, sTgF, setFd, Fd.sl, opJoinRev, fLRev, runDef, runDefI, ioAt, insA, chL, getO, setO, getL, setL, obAt, eFd, eFV, eFB, fFld, fMeth, fMethI, fMake, fCallI, aHere, fIsO, sFldS, setF, Rs.fd, Fd.d, O.d, fMethD, chF, sAppF, fPopF, fPop0, fPop1, sIns, sRetI, sRetNI, fZip, fML, opAny, opAll, opSorted, opMaxL, opMinL, opRfind, opCount, List.map_cons, List.map_nil, cInA, cNinA, inD, itD, fItA, eItA, cLtA, cLeA, fRr1, fRr2, opInt, sPar, fCallD, fRaise0, fRaise1, sTryAs, sTry, aftr, noX, allEq_const, fXf, fXi, fLc, lcL, unE, tYs, Vs.ret, xLock, inis, bof, sNil, sSeq, sAsg, sRet, sRetV, sRetN, sIf, sDrop, sTg, sFor, sBrk, sCnt, sApp, sExt, sOwn, sSetI, opSetI, sLock, unlk, sbnd, bnd, fOp, fCh, fCl, fCall, fLst, fTup, fSl, fIf, fAnd, fOr, fNot, fTru, fAndV, fOrV, fNotV, fNeg, fIsi, fM1, fM2, fRg1, fRg2, fEn, fRev, fSg, fTp, fIt, eIt, eB, eV, eC, frz, shm, aCons, aNil, poN, poS, Rs.d, Rs.sl, vB, List.cons_append, List.nil_append, List.append_nil, List.replicate_zero, List.replicate_succ, List.getElem?_cons_zero, List.getElem?_cons_succ, List.set_cons_zero, List.set_cons_succ, List.length_cons, List.length_nil, opLen, lenD, opList, opAdd, opSub, opMul, opMod, opDiv, opPow, opMin, opMax, opIx, opSl, cmpB, cEq, cNe, cIsN, cNotN, truD, tgN, tgT, setAll, isKd, opFind, opFind3, opStarts, opStarts3, Nat.reduceLT, Nat.reduceAdd, Nat.reduceSub, Nat.reduceLeDiff, Int.reduceLT, Int.reduceLE, Int.reduceNeg, reduceIte, and_self, true_and, and_true, decide_true, decide_false, Int.toNat_natCast, decide_eq_false g1]

/-! k07: the drawn text, all of it -/
theorem e_text {ns : List Int} : ∃ t : List Nat, g_law_text [.scr ns] = some (.rt (.sh (.str t))) ∧ t.length ≤ 990 := by
  have c0 := e_cell ns 0
  have c1 := e_cell ns 1
  have c2 := e_cell ns 2
  have c3 := e_cell ns 3
  simp only [Int.cast_ofNat_Int] at c0 c1 c2 c3
  obtain ⟨f, hf⟩ := Classical.axiomOfChoice e_written
  obtain ⟨cs, hcs⟩ : ∃ cs, cs = List.take 63 (List.drop 5 ns) := ⟨_, rfl⟩
  have hcl : cs.length ≤ 63 := by rw [hcs, List.length_take]; omega
  obtain ⟨P, hP⟩ : ∃ P, P = cs.map f := ⟨_, rfl⟩
  obtain ⟨j, l0⟩ := lcL_fun (f := tgN 7) (te := frz (fCall g_law_written (aCons (eB 7) (aNil)))) (vs := [7]) (fun (_ : Unit) => [.sh (.scr ns), .un, .un, .un, .un, .un, .un, .un]) D.int (fun c => D.str (f c)) cs [] () fun c _ _ => by
    refine ⟨_, rfl, [.sh (.scr ns), .un, .un, .un, .un, .un, .un, .sh (.int c)], ?_, (), rfl⟩
    have := (hf c).1
    simp (disch := first | omega | assumption) only [if_pos, if_neg, decide_eq_true, decide_eq_false, atI_of, cutL_take, cutL_drop, cutL_mid, ge_iff_le, gt_iff_lt, Int.reduceToNat, Int.toNat_zero, Int.toNat_one, Bool.not_true, Bool.not_false, szl, fLcX, fRepl, fMaxD, fEnS, sStuck, fLenS, cGtA, sAppQ, sSetQ, sForT, forTL, opSortT, fDItems, fDKeys, fLcO, D.key, fDNew, fDGet, sDPutV, fDSet, fRg3, fChV, fSortL, frL, frS, fSortB, sRem, sqAt, eIxI, fItm, fItV, chS, sItC, sItA, sItI, sItS, fTmp, Sl.mut, Sl.th, O.d, sqD, D.atm, sTryR, fSq, aConsF, aNilF, eO, sTgF, setFd, Fd.sl, opJoinRev, fLRev, runDef, runDefI, ioAt, insA, chL, getO, setO, getL, setL, obAt, eFd, eFV, eFB, fFld, fMeth, fMethI, fMake, fCallI, aHere, fIsO, sFldS, setF, Rs.fd, Fd.d, O.d, fMethD, chF, sAppF, fPopF, fPop0, fPop1, sIns, sRetI, sRetNI, fZip, fML, opAny, opAll, opSorted, opMaxL, opMinL, opRfind, opCount, List.map_cons, List.map_nil, cInA, cNinA, inD, itD, fItA, eItA, cLtA, cLeA, fRr1, fRr2, opInt, sPar, fCallD, fRaise0, fRaise1, sTryAs, sTry, aftr, noX, allEq_const, fXf, fXi, fLc, lcL, unE, tYs, Vs.ret, xLock, inis, bof, sNil, sSeq, sAsg, sRet, sRetV, sRetN, sIf, sDrop, sTg, sFor, sBrk, sCnt, sApp, sExt, sOwn, sSetI, opSetI, sLock, unlk, sbnd, bnd, fOp, fCh, fCl, fCall, fLst, fTup, fSl, fIf, fAnd, fOr, fNot, fTru, fAndV, fOrV, fNotV, fNeg, fIsi, fM1, fM2, fRg1, fRg2, fEn, fRev, fSg, fTp, fIt, eIt, eB, eV, eC, frz, shm, aCons, aNil, poN, poS, Rs.d, Rs.sl, vB, List.cons_append, List.nil_append, List.append_nil, List.replicate_zero, List.replicate_succ, List.getElem?_cons_zero, List.getElem?_cons_succ, List.set_cons_zero, List.set_cons_succ, List.length_cons, List.length_nil, opLen, lenD, opList, opAdd, opSub, opMul, opMod, opDiv, opPow, opMin, opMax, opIx, opSl, cmpB, cEq, cNe, cIsN, cNotN, truD, tgN, tgT, setAll, isKd, opFind, opFind3, opStarts, opStarts3, Nat.reduceLT, Nat.reduceAdd, Nat.reduceSub, Nat.reduceLeDiff, Int.reduceLT, Int.reduceLE, Int.reduceNeg, reduceIte, and_self, true_and, and_true, decide_true, decide_false, Int.toNat_natCast, this]
  have e1 : cs.map (fun c => D.str (f c)) = P.map D.str := by rw [hP, List.map_map]; rfl
  rw [e1, List.nil_append] at l0
  have l0' : lcL (tgN 7) tYs (frz (fCall g_law_written (aCons (eB 7) (aNil)))) [7] (cs.map D.int) [] [.sh (.scr ns), .un, .un, .un, .un, .un, .un, .un] = some (.ok (.ow (P.map D.str)) [.sh (.scr ns), .un, .un, .un, .un, .un, .un, .un]) := l0
  have hcl2 : (cs.map D.int).length ≤ 100 := by rw [List.length_map]; omega
  have h9 : ∀ p ∈ P, p.length ≤ 9 := fun p hp => by
    rw [hP] at hp
    obtain ⟨c, _, rfl⟩ := List.mem_map.mp hp
    exact (hf c).2
  obtain ⟨W, hW⟩ : ∃ W, W = cell ns 0 % 12 := ⟨_, rfl⟩
  obtain ⟨P', t6, i2, p1, p2⟩ := odd_piece (ns := ns) (W := W) h9 (by rw [hP, List.length_map]; exact hcl) c1
  obtain ⟨J, hJ⟩ : ∃ J, J = TL.joinL [32] P' := ⟨_, rfl⟩
  have Jl : J.length ≤ 800 := by have := joinL_len P'; rw [hJ]; omega
  have oj := opJoin_l (P := P') (by omega)
  rw [← hJ] at oj
  obtain ⟨PD, hPD⟩ : ∃ PD, PD = P'.map D.str := ⟨_, rfl⟩
  rw [← hPD] at oj i2
  obtain ⟨T, hT, Tl, T1, i3⟩ : ∃ T : List Nat, (T = if J = [] then [46] else J) ∧ T.length ≤ 800 ∧ 1 ≤ T.length ∧ i3_law_text [.sh (.scr ns), .ow PD, .sh (.int W), .sh (.str J), .un, .un, t6, .un] = some (.nx [.sh (.scr ns), .ow PD, .sh (.int W), .sh (.str T), .un, .un, t6, .un]) := by
    by_cases h : J = []
    · refine ⟨[46], by rw [if_pos h], by decide, by decide, ?_⟩
      unfold i3_law_text
      simp (disch := first | omega | assumption) only [if_pos, if_neg, decide_eq_true, decide_eq_false, atI_of, cutL_take, cutL_drop, cutL_mid, ge_iff_le, gt_iff_lt, Int.reduceToNat, Int.toNat_zero, Int.toNat_one, Bool.not_true, Bool.not_false, szl, fLcX, fRepl, fMaxD, fEnS, sStuck, fLenS, cGtA, sAppQ, sSetQ, sForT, forTL, opSortT, fDItems, fDKeys, fLcO, D.key, fDNew, fDGet, sDPutV, fDSet, fRg3, fChV, fSortL, frL, frS, fSortB, sRem, sqAt, eIxI, fItm, fItV, chS, sItC, sItA, sItI, sItS, fTmp, Sl.mut, Sl.th, O.d, sqD, D.atm, sTryR, fSq, aConsF, aNilF, eO, sTgF, setFd, Fd.sl, opJoinRev, fLRev, runDef, runDefI, ioAt, insA, chL, getO, setO, getL, setL, obAt, eFd, eFV, eFB, fFld, fMeth, fMethI, fMake, fCallI, aHere, fIsO, sFldS, setF, Rs.fd, Fd.d, O.d, fMethD, chF, sAppF, fPopF, fPop0, fPop1, sIns, sRetI, sRetNI, fZip, fML, opAny, opAll, opSorted, opMaxL, opMinL, opRfind, opCount, List.map_cons, List.map_nil, cInA, cNinA, inD, itD, fItA, eItA, cLtA, cLeA, fRr1, fRr2, opInt, sPar, fCallD, fRaise0, fRaise1, sTryAs, sTry, aftr, noX, allEq_const, fXf, fXi, fLc, lcL, unE, tYs, Vs.ret, xLock, inis, bof, sNil, sSeq, sAsg, sRet, sRetV, sRetN, sIf, sDrop, sTg, sFor, sBrk, sCnt, sApp, sExt, sOwn, sSetI, opSetI, sLock, unlk, sbnd, bnd, fOp, fCh, fCl, fCall, fLst, fTup, fSl, fIf, fAnd, fOr, fNot, fTru, fAndV, fOrV, fNotV, fNeg, fIsi, fM1, fM2, fRg1, fRg2, fEn, fRev, fSg, fTp, fIt, eIt, eB, eV, eC, frz, shm, aCons, aNil, poN, poS, Rs.d, Rs.sl, vB, List.cons_append, List.nil_append, List.append_nil, List.replicate_zero, List.replicate_succ, List.getElem?_cons_zero, List.getElem?_cons_succ, List.set_cons_zero, List.set_cons_succ, List.length_cons, List.length_nil, opLen, lenD, opList, opAdd, opSub, opMul, opMod, opDiv, opPow, opMin, opMax, opIx, opSl, cmpB, cEq, cNe, cIsN, cNotN, truD, tgN, tgT, setAll, isKd, opFind, opFind3, opStarts, opStarts3, Nat.reduceLT, Nat.reduceAdd, Nat.reduceSub, Nat.reduceLeDiff, Int.reduceLT, Int.reduceLE, Int.reduceNeg, reduceIte, and_self, true_and, and_true, decide_true, decide_false, Int.toNat_natCast, decide_eq_true h]
    · refine ⟨J, by rw [if_neg h], Jl, List.length_pos_iff.mpr h, ?_⟩
      unfold i3_law_text
      simp (disch := first | omega | assumption) only [if_pos, if_neg, decide_eq_true, decide_eq_false, atI_of, cutL_take, cutL_drop, cutL_mid, ge_iff_le, gt_iff_lt, Int.reduceToNat, Int.toNat_zero, Int.toNat_one, Bool.not_true, Bool.not_false, szl, fLcX, fRepl, fMaxD, fEnS, sStuck, fLenS, cGtA, sAppQ, sSetQ, sForT, forTL, opSortT, fDItems, fDKeys, fLcO, D.key, fDNew, fDGet, sDPutV, fDSet, fRg3, fChV, fSortL, frL, frS, fSortB, sRem, sqAt, eIxI, fItm, fItV, chS, sItC, sItA, sItI, sItS, fTmp, Sl.mut, Sl.th, O.d, sqD, D.atm, sTryR, fSq, aConsF, aNilF, eO, sTgF, setFd, Fd.sl, opJoinRev, fLRev, runDef, runDefI, ioAt, insA, chL, getO, setO, getL, setL, obAt, eFd, eFV, eFB, fFld, fMeth, fMethI, fMake, fCallI, aHere, fIsO, sFldS, setF, Rs.fd, Fd.d, O.d, fMethD, chF, sAppF, fPopF, fPop0, fPop1, sIns, sRetI, sRetNI, fZip, fML, opAny, opAll, opSorted, opMaxL, opMinL, opRfind, opCount, List.map_cons, List.map_nil, cInA, cNinA, inD, itD, fItA, eItA, cLtA, cLeA, fRr1, fRr2, opInt, sPar, fCallD, fRaise0, fRaise1, sTryAs, sTry, aftr, noX, allEq_const, fXf, fXi, fLc, lcL, unE, tYs, Vs.ret, xLock, inis, bof, sNil, sSeq, sAsg, sRet, sRetV, sRetN, sIf, sDrop, sTg, sFor, sBrk, sCnt, sApp, sExt, sOwn, sSetI, opSetI, sLock, unlk, sbnd, bnd, fOp, fCh, fCl, fCall, fLst, fTup, fSl, fIf, fAnd, fOr, fNot, fTru, fAndV, fOrV, fNotV, fNeg, fIsi, fM1, fM2, fRg1, fRg2, fEn, fRev, fSg, fTp, fIt, eIt, eB, eV, eC, frz, shm, aCons, aNil, poN, poS, Rs.d, Rs.sl, vB, List.cons_append, List.nil_append, List.append_nil, List.replicate_zero, List.replicate_succ, List.getElem?_cons_zero, List.getElem?_cons_succ, List.set_cons_zero, List.set_cons_succ, List.length_cons, List.length_nil, opLen, lenD, opList, opAdd, opSub, opMul, opMod, opDiv, opPow, opMin, opMax, opIx, opSl, cmpB, cEq, cNe, cIsN, cNotN, truD, tgN, tgT, setAll, isKd, opFind, opFind3, opStarts, opStarts3, Nat.reduceLT, Nat.reduceAdd, Nat.reduceSub, Nat.reduceLeDiff, Int.reduceLT, Int.reduceLE, Int.reduceNeg, reduceIte, and_self, true_and, and_true, decide_true, decide_false, Int.toNat_natCast, decide_eq_false h]
  have q1 := Int.emod_nonneg (cell ns 1) (show (T.length : Int) ≠ 0 by omega)
  have q2 := Int.emod_lt_of_pos (cell ns 1) (show (0 : Int) < (T.length : Int) by omega)
  obtain ⟨A, hA⟩ : ∃ A : Int, A = cell ns 1 % (T.length : Int) := ⟨_, rfl⟩
  rw [← hA] at q1 q2
  obtain ⟨x, hx, hx2⟩ : ∃ x : Nat, cell ns 2 % 17 = (x : Int) ∧ x < 17 := ⟨(cell ns 2 % 17).toNat, by omega, by omega⟩
  obtain ⟨g, hg⟩ : ∃ g, [48, 49, 50, 51, 52, 53, 54, 55, 56, 57, 60, 62, 32, 46, 45, 61, 97][x]? = some g := ⟨_, List.getElem?_eq_getElem (show x < 17 from hx2)⟩
  obtain ⟨o, ho, ol⟩ := e_odd (cell ns 3)
  have Tpos : (0 : Int) < (T.length : Int) := by omega
  obtain ⟨TN, hTN⟩ : ∃ z : Int, z = (T.length : Int) := ⟨_, rfl⟩
  rw [← hTN] at hA q2 Tpos
  have tl : (T.take A.toNat).length ≤ 800 := by rw [List.length_take]; omega
  have dl : (T.drop A.toNat).length ≤ 800 ∧ (T.drop (A + 1).toNat).length ≤ 800 := by rw [List.length_drop, List.length_drop]; omega
  have A0 : 0 ≤ A + 1 := by omega
  have sl : (T.take A.toNat).length + (T.drop (A + 1).toNat).length ≤ 801 ∧ (T.take A.toNat).length + (T.drop A.toNat).length ≤ 801 := by
    rw [List.length_take, List.length_drop, List.length_drop]; omega
  have sl1 : (T.take A.toNat ++ [g]).length ≤ 900 := by rw [List.length_append, List.length_singleton]; omega
  obtain ⟨X, hX⟩ : ∃ X, X = T.take A.toNat := ⟨_, rfl⟩
  obtain ⟨Y, hY⟩ : ∃ Y, Y = T.drop A.toNat := ⟨_, rfl⟩
  obtain ⟨Z, hZ⟩ : ∃ Z, Z = T.drop (A + 1).toNat := ⟨_, rfl⟩
  rw [← hX] at tl sl sl1
  rw [← hY] at dl sl
  rw [← hZ] at dl sl
  have fr : [.sh (.scr ns), .ow PD, .sh (.int W), .sh (.str T), .sh (.int A), .sh (.str [g]), t6, .un] = ([.sh (.scr ns), .ow PD, .sh (.int W), .sh (.str T), .sh (.int A), .sh (.str [g]), t6, .un] : En) := rfl
  have pre : ∀ (R : List Nat), (sSeq (i4_law_text) (sSeq (i5_law_text) (sSeq (i6_law_text) (sSeq (i7_law_text) (sRetV 3))))) [.sh (.scr ns), .ow PD, .sh (.int W), .sh (.str T), .sh (.int A), .sh (.str [g]), t6, .un] = some (.rt (.sh (.str R))) → g_law_text [.scr ns] = some (.rt (.sh (.str R))) := fun R hR => by
    unfold g_law_text
    refine run_fin ?_
    unfold b_law_text
    simp (disch := first | omega | assumption) only [if_pos, if_neg, decide_eq_true, decide_eq_false, atI_of, cutL_take, cutL_drop, cutL_mid, ge_iff_le, gt_iff_lt, Int.reduceToNat, Int.toNat_zero, Int.toNat_one, Bool.not_true, Bool.not_false, szl, fLcX, fRepl, fMaxD, fEnS, sStuck, fLenS, cGtA, sAppQ, sSetQ, sForT, forTL, opSortT, fDItems, fDKeys, fLcO, D.key, fDNew, fDGet, sDPutV, fDSet, fRg3, fChV, fSortL, frL, frS, fSortB, sRem, sqAt, eIxI, fItm, fItV, chS, sItC, sItA, sItI, sItS, fTmp, Sl.mut, Sl.th, O.d, sqD, D.atm, sTryR, fSq, aConsF, aNilF, eO, sTgF, setFd, Fd.sl, opJoinRev, fLRev, runDef, runDefI, ioAt, insA, chL, getO, setO, getL, setL, obAt, eFd, eFV, eFB, fFld, fMeth, fMethI, fMake, fCallI, aHere, fIsO, sFldS, setF, Rs.fd, Fd.d, O.d, fMethD, chF, sAppF, fPopF, fPop0, fPop1, sIns, sRetI, sRetNI, fZip, fML, opAny, opAll, opSorted, opMaxL, opMinL, opRfind, opCount, List.map_cons, List.map_nil, cInA, cNinA, inD, itD, fItA, eItA, cLtA, cLeA, fRr1, fRr2, opInt, sPar, fCallD, fRaise0, fRaise1, sTryAs, sTry, aftr, noX, allEq_const, fXf, fXi, fLc, lcL, unE, tYs, Vs.ret, xLock, inis, bof, sNil, sSeq, sAsg, sRet, sRetV, sRetN, sIf, sDrop, sTg, sFor, sBrk, sCnt, sApp, sExt, sOwn, sSetI, opSetI, sLock, unlk, sbnd, bnd, fOp, fCh, fCl, fCall, fLst, fTup, fSl, fIf, fAnd, fOr, fNot, fTru, fAndV, fOrV, fNotV, fNeg, fIsi, fM1, fM2, fRg1, fRg2, fEn, fRev, fSg, fTp, fIt, eIt, eB, eV, eC, frz, shm, aCons, aNil, poN, poS, Rs.d, Rs.sl, vB, List.cons_append, List.nil_append, List.append_nil, List.replicate_zero, List.replicate_succ, List.getElem?_cons_zero, List.getElem?_cons_succ, List.set_cons_zero, List.set_cons_succ, List.length_cons, List.length_nil, opLen, lenD, opList, opAdd, opSub, opMul, opMod, opDiv, opPow, opMin, opMax, opIx, opSl, cmpB, cEq, cNe, cIsN, cNotN, truD, tgN, tgT, setAll, isKd, opFind, opFind3, opStarts, opStarts3, Nat.reduceLT, Nat.reduceAdd, Nat.reduceSub, Nat.reduceLeDiff, Int.reduceLT, Int.reduceLE, Int.reduceNeg, reduceIte, and_self, true_and, and_true, decide_true, decide_false, Int.toNat_natCast] at l0'
    refine fin_seq (by simp (disch := first | omega | assumption) only [if_pos, if_neg, decide_eq_true, decide_eq_false, atI_of, cutL_take, cutL_drop, cutL_mid, ge_iff_le, gt_iff_lt, Int.reduceToNat, Int.toNat_zero, Int.toNat_one, Bool.not_true, Bool.not_false, szl, fLcX, fRepl, fMaxD, fEnS, sStuck, fLenS, cGtA, sAppQ, sSetQ, sForT, forTL, opSortT, fDItems, fDKeys, fLcO, D.key, fDNew, fDGet, sDPutV, fDSet, fRg3, fChV, fSortL, frL, frS, fSortB, sRem, sqAt, eIxI, fItm, fItV, chS, sItC, sItA, sItI, sItS, fTmp, Sl.mut, Sl.th, O.d, sqD, D.atm, sTryR, fSq, aConsF, aNilF, eO, sTgF, setFd, Fd.sl, opJoinRev, fLRev, runDef, runDefI, ioAt, insA, chL, getO, setO, getL, setL, obAt, eFd, eFV, eFB, fFld, fMeth, fMethI, fMake, fCallI, aHere, fIsO, sFldS, setF, Rs.fd, Fd.d, O.d, fMethD, chF, sAppF, fPopF, fPop0, fPop1, sIns, sRetI, sRetNI, fZip, fML, opAny, opAll, opSorted, opMaxL, opMinL, opRfind, opCount, List.map_cons, List.map_nil, cInA, cNinA, inD, itD, fItA, eItA, cLtA, cLeA, fRr1, fRr2, opInt, sPar, fCallD, fRaise0, fRaise1, sTryAs, sTry, aftr, noX, allEq_const, fXf, fXi, fLc, lcL, unE, tYs, Vs.ret, xLock, inis, bof, sNil, sSeq, sAsg, sRet, sRetV, sRetN, sIf, sDrop, sTg, sFor, sBrk, sCnt, sApp, sExt, sOwn, sSetI, opSetI, sLock, unlk, sbnd, bnd, fOp, fCh, fCl, fCall, fLst, fTup, fSl, fIf, fAnd, fOr, fNot, fTru, fAndV, fOrV, fNotV, fNeg, fIsi, fM1, fM2, fRg1, fRg2, fEn, fRev, fSg, fTp, fIt, eIt, eB, eV, eC, frz, shm, aCons, aNil, poN, poS, Rs.d, Rs.sl, vB, List.cons_append, List.nil_append, List.append_nil, List.replicate_zero, List.replicate_succ, List.getElem?_cons_zero, List.getElem?_cons_succ, List.set_cons_zero, List.set_cons_succ, List.length_cons, List.length_nil, opLen, lenD, opList, opAdd, opSub, opMul, opMod, opDiv, opPow, opMin, opMax, opIx, opSl, cmpB, cEq, cNe, cIsN, cNotN, truD, tgN, tgT, setAll, isKd, opFind, opFind3, opStarts, opStarts3, Nat.reduceLT, Nat.reduceAdd, Nat.reduceSub, Nat.reduceLeDiff, Int.reduceLT, Int.reduceLE, Int.reduceNeg, reduceIte, and_self, true_and, and_true, decide_true, decide_false, Int.toNat_natCast, ← hcs, itD, l0']; exact rfl) ?_
    refine fin_seq (by simp (disch := first | omega | assumption) only [if_pos, if_neg, decide_eq_true, decide_eq_false, atI_of, cutL_take, cutL_drop, cutL_mid, ge_iff_le, gt_iff_lt, Int.reduceToNat, Int.toNat_zero, Int.toNat_one, Bool.not_true, Bool.not_false, szl, fLcX, fRepl, fMaxD, fEnS, sStuck, fLenS, cGtA, sAppQ, sSetQ, sForT, forTL, opSortT, fDItems, fDKeys, fLcO, D.key, fDNew, fDGet, sDPutV, fDSet, fRg3, fChV, fSortL, frL, frS, fSortB, sRem, sqAt, eIxI, fItm, fItV, chS, sItC, sItA, sItI, sItS, fTmp, Sl.mut, Sl.th, O.d, sqD, D.atm, sTryR, fSq, aConsF, aNilF, eO, sTgF, setFd, Fd.sl, opJoinRev, fLRev, runDef, runDefI, ioAt, insA, chL, getO, setO, getL, setL, obAt, eFd, eFV, eFB, fFld, fMeth, fMethI, fMake, fCallI, aHere, fIsO, sFldS, setF, Rs.fd, Fd.d, O.d, fMethD, chF, sAppF, fPopF, fPop0, fPop1, sIns, sRetI, sRetNI, fZip, fML, opAny, opAll, opSorted, opMaxL, opMinL, opRfind, opCount, List.map_cons, List.map_nil, cInA, cNinA, inD, itD, fItA, eItA, cLtA, cLeA, fRr1, fRr2, opInt, sPar, fCallD, fRaise0, fRaise1, sTryAs, sTry, aftr, noX, allEq_const, fXf, fXi, fLc, lcL, unE, tYs, Vs.ret, xLock, inis, bof, sNil, sSeq, sAsg, sRet, sRetV, sRetN, sIf, sDrop, sTg, sFor, sBrk, sCnt, sApp, sExt, sOwn, sSetI, opSetI, sLock, unlk, sbnd, bnd, fOp, fCh, fCl, fCall, fLst, fTup, fSl, fIf, fAnd, fOr, fNot, fTru, fAndV, fOrV, fNotV, fNeg, fIsi, fM1, fM2, fRg1, fRg2, fEn, fRev, fSg, fTp, fIt, eIt, eB, eV, eC, frz, shm, aCons, aNil, poN, poS, Rs.d, Rs.sl, vB, List.cons_append, List.nil_append, List.append_nil, List.replicate_zero, List.replicate_succ, List.getElem?_cons_zero, List.getElem?_cons_succ, List.set_cons_zero, List.set_cons_succ, List.length_cons, List.length_nil, opLen, lenD, opList, opAdd, opSub, opMul, opMod, opDiv, opPow, opMin, opMax, opIx, opSl, cmpB, cEq, cNe, cIsN, cNotN, truD, tgN, tgT, setAll, isKd, opFind, opFind3, opStarts, opStarts3, Nat.reduceLT, Nat.reduceAdd, Nat.reduceSub, Nat.reduceLeDiff, Int.reduceLT, Int.reduceLE, Int.reduceNeg, reduceIte, and_self, true_and, and_true, decide_true, decide_false, Int.toNat_natCast, c0, ← hW]; exact rfl) ?_
    refine fin_seq i2 ?_
    refine fin_seq (by simp (disch := first | omega | assumption) only [if_pos, if_neg, decide_eq_true, decide_eq_false, atI_of, cutL_take, cutL_drop, cutL_mid, ge_iff_le, gt_iff_lt, Int.reduceToNat, Int.toNat_zero, Int.toNat_one, Bool.not_true, Bool.not_false, szl, fLcX, fRepl, fMaxD, fEnS, sStuck, fLenS, cGtA, sAppQ, sSetQ, sForT, forTL, opSortT, fDItems, fDKeys, fLcO, D.key, fDNew, fDGet, sDPutV, fDSet, fRg3, fChV, fSortL, frL, frS, fSortB, sRem, sqAt, eIxI, fItm, fItV, chS, sItC, sItA, sItI, sItS, fTmp, Sl.mut, Sl.th, O.d, sqD, D.atm, sTryR, fSq, aConsF, aNilF, eO, sTgF, setFd, Fd.sl, opJoinRev, fLRev, runDef, runDefI, ioAt, insA, chL, getO, setO, getL, setL, obAt, eFd, eFV, eFB, fFld, fMeth, fMethI, fMake, fCallI, aHere, fIsO, sFldS, setF, Rs.fd, Fd.d, O.d, fMethD, chF, sAppF, fPopF, fPop0, fPop1, sIns, sRetI, sRetNI, fZip, fML, opAny, opAll, opSorted, opMaxL, opMinL, opRfind, opCount, List.map_cons, List.map_nil, cInA, cNinA, inD, itD, fItA, eItA, cLtA, cLeA, fRr1, fRr2, opInt, sPar, fCallD, fRaise0, fRaise1, sTryAs, sTry, aftr, noX, allEq_const, fXf, fXi, fLc, lcL, unE, tYs, Vs.ret, xLock, inis, bof, sNil, sSeq, sAsg, sRet, sRetV, sRetN, sIf, sDrop, sTg, sFor, sBrk, sCnt, sApp, sExt, sOwn, sSetI, opSetI, sLock, unlk, sbnd, bnd, fOp, fCh, fCl, fCall, fLst, fTup, fSl, fIf, fAnd, fOr, fNot, fTru, fAndV, fOrV, fNotV, fNeg, fIsi, fM1, fM2, fRg1, fRg2, fEn, fRev, fSg, fTp, fIt, eIt, eB, eV, eC, frz, shm, aCons, aNil, poN, poS, Rs.d, Rs.sl, vB, List.cons_append, List.nil_append, List.append_nil, List.replicate_zero, List.replicate_succ, List.getElem?_cons_zero, List.getElem?_cons_succ, List.set_cons_zero, List.set_cons_succ, List.length_cons, List.length_nil, opLen, lenD, opList, opAdd, opSub, opMul, opMod, opDiv, opPow, opMin, opMax, opIx, opSl, cmpB, cEq, cNe, cIsN, cNotN, truD, tgN, tgT, setAll, isKd, opFind, opFind3, opStarts, opStarts3, Nat.reduceLT, Nat.reduceAdd, Nat.reduceSub, Nat.reduceLeDiff, Int.reduceLT, Int.reduceLE, Int.reduceNeg, reduceIte, and_self, true_and, and_true, decide_true, decide_false, Int.toNat_natCast, oj]; exact rfl) ?_
    refine fin_seq i3 ?_
    refine fin_seq (by simp (disch := first | omega | assumption) only [if_pos, if_neg, decide_eq_true, decide_eq_false, atI_of, cutL_take, cutL_drop, cutL_mid, ge_iff_le, gt_iff_lt, Int.reduceToNat, Int.toNat_zero, Int.toNat_one, Bool.not_true, Bool.not_false, szl, fLcX, fRepl, fMaxD, fEnS, sStuck, fLenS, cGtA, sAppQ, sSetQ, sForT, forTL, opSortT, fDItems, fDKeys, fLcO, D.key, fDNew, fDGet, sDPutV, fDSet, fRg3, fChV, fSortL, frL, frS, fSortB, sRem, sqAt, eIxI, fItm, fItV, chS, sItC, sItA, sItI, sItS, fTmp, Sl.mut, Sl.th, O.d, sqD, D.atm, sTryR, fSq, aConsF, aNilF, eO, sTgF, setFd, Fd.sl, opJoinRev, fLRev, runDef, runDefI, ioAt, insA, chL, getO, setO, getL, setL, obAt, eFd, eFV, eFB, fFld, fMeth, fMethI, fMake, fCallI, aHere, fIsO, sFldS, setF, Rs.fd, Fd.d, O.d, fMethD, chF, sAppF, fPopF, fPop0, fPop1, sIns, sRetI, sRetNI, fZip, fML, opAny, opAll, opSorted, opMaxL, opMinL, opRfind, opCount, List.map_cons, List.map_nil, cInA, cNinA, inD, itD, fItA, eItA, cLtA, cLeA, fRr1, fRr2, opInt, sPar, fCallD, fRaise0, fRaise1, sTryAs, sTry, aftr, noX, allEq_const, fXf, fXi, fLc, lcL, unE, tYs, Vs.ret, xLock, inis, bof, sNil, sSeq, sAsg, sRet, sRetV, sRetN, sIf, sDrop, sTg, sFor, sBrk, sCnt, sApp, sExt, sOwn, sSetI, opSetI, sLock, unlk, sbnd, bnd, fOp, fCh, fCl, fCall, fLst, fTup, fSl, fIf, fAnd, fOr, fNot, fTru, fAndV, fOrV, fNotV, fNeg, fIsi, fM1, fM2, fRg1, fRg2, fEn, fRev, fSg, fTp, fIt, eIt, eB, eV, eC, frz, shm, aCons, aNil, poN, poS, Rs.d, Rs.sl, vB, List.cons_append, List.nil_append, List.append_nil, List.replicate_zero, List.replicate_succ, List.getElem?_cons_zero, List.getElem?_cons_succ, List.set_cons_zero, List.set_cons_succ, List.length_cons, List.length_nil, opLen, lenD, opList, opAdd, opSub, opMul, opMod, opDiv, opPow, opMin, opMax, opIx, opSl, cmpB, cEq, cNe, cIsN, cNotN, truD, tgN, tgT, setAll, isKd, opFind, opFind3, opStarts, opStarts3, Nat.reduceLT, Nat.reduceAdd, Nat.reduceSub, Nat.reduceLeDiff, Int.reduceLT, Int.reduceLE, Int.reduceNeg, reduceIte, and_self, true_and, and_true, decide_true, decide_false, Int.toNat_natCast, c1, ← hTN, ← hA]; exact rfl) ?_
    refine fin_seq (by simp (disch := first | omega | assumption) only [if_pos, if_neg, decide_eq_true, decide_eq_false, atI_of, cutL_take, cutL_drop, cutL_mid, ge_iff_le, gt_iff_lt, Int.reduceToNat, Int.toNat_zero, Int.toNat_one, Bool.not_true, Bool.not_false, szl, fLcX, fRepl, fMaxD, fEnS, sStuck, fLenS, cGtA, sAppQ, sSetQ, sForT, forTL, opSortT, fDItems, fDKeys, fLcO, D.key, fDNew, fDGet, sDPutV, fDSet, fRg3, fChV, fSortL, frL, frS, fSortB, sRem, sqAt, eIxI, fItm, fItV, chS, sItC, sItA, sItI, sItS, fTmp, Sl.mut, Sl.th, O.d, sqD, D.atm, sTryR, fSq, aConsF, aNilF, eO, sTgF, setFd, Fd.sl, opJoinRev, fLRev, runDef, runDefI, ioAt, insA, chL, getO, setO, getL, setL, obAt, eFd, eFV, eFB, fFld, fMeth, fMethI, fMake, fCallI, aHere, fIsO, sFldS, setF, Rs.fd, Fd.d, O.d, fMethD, chF, sAppF, fPopF, fPop0, fPop1, sIns, sRetI, sRetNI, fZip, fML, opAny, opAll, opSorted, opMaxL, opMinL, opRfind, opCount, List.map_cons, List.map_nil, cInA, cNinA, inD, itD, fItA, eItA, cLtA, cLeA, fRr1, fRr2, opInt, sPar, fCallD, fRaise0, fRaise1, sTryAs, sTry, aftr, noX, allEq_const, fXf, fXi, fLc, lcL, unE, tYs, Vs.ret, xLock, inis, bof, sNil, sSeq, sAsg, sRet, sRetV, sRetN, sIf, sDrop, sTg, sFor, sBrk, sCnt, sApp, sExt, sOwn, sSetI, opSetI, sLock, unlk, sbnd, bnd, fOp, fCh, fCl, fCall, fLst, fTup, fSl, fIf, fAnd, fOr, fNot, fTru, fAndV, fOrV, fNotV, fNeg, fIsi, fM1, fM2, fRg1, fRg2, fEn, fRev, fSg, fTp, fIt, eIt, eB, eV, eC, frz, shm, aCons, aNil, poN, poS, Rs.d, Rs.sl, vB, List.cons_append, List.nil_append, List.append_nil, List.replicate_zero, List.replicate_succ, List.getElem?_cons_zero, List.getElem?_cons_succ, List.set_cons_zero, List.set_cons_succ, List.length_cons, List.length_nil, opLen, lenD, opList, opAdd, opSub, opMul, opMod, opDiv, opPow, opMin, opMax, opIx, opSl, cmpB, cEq, cNe, cIsN, cNotN, truD, tgN, tgT, setAll, isKd, opFind, opFind3, opStarts, opStarts3, Nat.reduceLT, Nat.reduceAdd, Nat.reduceSub, Nat.reduceLeDiff, Int.reduceLT, Int.reduceLE, Int.reduceNeg, reduceIte, and_self, true_and, and_true, decide_true, decide_false, Int.toNat_natCast, c2, hx, hg]; exact rfl) ?_
    rw [hR]
    rfl
  by_cases w5 : W = 5
  · refine ⟨X ++ [g] ++ Y, pre _ ?_, by rw [List.length_append, List.length_append, List.length_singleton]; omega⟩
    unfold i4_law_text
    simp (disch := first | omega | assumption) only [if_pos, if_neg, decide_eq_true, decide_eq_false, atI_of, cutL_take, cutL_drop, cutL_mid, ge_iff_le, gt_iff_lt, Int.reduceToNat, Int.toNat_zero, Int.toNat_one, Bool.not_true, Bool.not_false, szl, fLcX, fRepl, fMaxD, fEnS, sStuck, fLenS, cGtA, sAppQ, sSetQ, sForT, forTL, opSortT, fDItems, fDKeys, fLcO, D.key, fDNew, fDGet, sDPutV, fDSet, fRg3, fChV, fSortL, frL, frS, fSortB, sRem, sqAt, eIxI, fItm, fItV, chS, sItC, sItA, sItI, sItS, fTmp, Sl.mut, Sl.th, O.d, sqD, D.atm, sTryR, fSq, aConsF, aNilF, eO, sTgF, setFd, Fd.sl, opJoinRev, fLRev, runDef, runDefI, ioAt, insA, chL, getO, setO, getL, setL, obAt, eFd, eFV, eFB, fFld, fMeth, fMethI, fMake, fCallI, aHere, fIsO, sFldS, setF, Rs.fd, Fd.d, O.d, fMethD, chF, sAppF, fPopF, fPop0, fPop1, sIns, sRetI, sRetNI, fZip, fML, opAny, opAll, opSorted, opMaxL, opMinL, opRfind, opCount, List.map_cons, List.map_nil, cInA, cNinA, inD, itD, fItA, eItA, cLtA, cLeA, fRr1, fRr2, opInt, sPar, fCallD, fRaise0, fRaise1, sTryAs, sTry, aftr, noX, allEq_const, fXf, fXi, fLc, lcL, unE, tYs, Vs.ret, xLock, inis, bof, sNil, sSeq, sAsg, sRet, sRetV, sRetN, sIf, sDrop, sTg, sFor, sBrk, sCnt, sApp, sExt, sOwn, sSetI, opSetI, sLock, unlk, sbnd, bnd, fOp, fCh, fCl, fCall, fLst, fTup, fSl, fIf, fAnd, fOr, fNot, fTru, fAndV, fOrV, fNotV, fNeg, fIsi, fM1, fM2, fRg1, fRg2, fEn, fRev, fSg, fTp, fIt, eIt, eB, eV, eC, frz, shm, aCons, aNil, poN, poS, Rs.d, Rs.sl, vB, List.cons_append, List.nil_append, List.append_nil, List.replicate_zero, List.replicate_succ, List.getElem?_cons_zero, List.getElem?_cons_succ, List.set_cons_zero, List.set_cons_succ, List.length_cons, List.length_nil, opLen, lenD, opList, opAdd, opSub, opMul, opMod, opDiv, opPow, opMin, opMax, opIx, opSl, cmpB, cEq, cNe, cIsN, cNotN, truD, tgN, tgT, setAll, isKd, opFind, opFind3, opStarts, opStarts3, Nat.reduceLT, Nat.reduceAdd, Nat.reduceSub, Nat.reduceLeDiff, Int.reduceLT, Int.reduceLE, Int.reduceNeg, reduceIte, and_self, true_and, and_true, decide_true, decide_false, Int.toNat_natCast, decide_eq_true w5, ← hX, ← hY]
  by_cases w6 : W = 6
  · refine ⟨X ++ [g] ++ Y, pre _ ?_, by rw [List.length_append, List.length_append, List.length_singleton]; omega⟩
    unfold i4_law_text
    simp (disch := first | omega | assumption) only [if_pos, if_neg, decide_eq_true, decide_eq_false, atI_of, cutL_take, cutL_drop, cutL_mid, ge_iff_le, gt_iff_lt, Int.reduceToNat, Int.toNat_zero, Int.toNat_one, Bool.not_true, Bool.not_false, szl, fLcX, fRepl, fMaxD, fEnS, sStuck, fLenS, cGtA, sAppQ, sSetQ, sForT, forTL, opSortT, fDItems, fDKeys, fLcO, D.key, fDNew, fDGet, sDPutV, fDSet, fRg3, fChV, fSortL, frL, frS, fSortB, sRem, sqAt, eIxI, fItm, fItV, chS, sItC, sItA, sItI, sItS, fTmp, Sl.mut, Sl.th, O.d, sqD, D.atm, sTryR, fSq, aConsF, aNilF, eO, sTgF, setFd, Fd.sl, opJoinRev, fLRev, runDef, runDefI, ioAt, insA, chL, getO, setO, getL, setL, obAt, eFd, eFV, eFB, fFld, fMeth, fMethI, fMake, fCallI, aHere, fIsO, sFldS, setF, Rs.fd, Fd.d, O.d, fMethD, chF, sAppF, fPopF, fPop0, fPop1, sIns, sRetI, sRetNI, fZip, fML, opAny, opAll, opSorted, opMaxL, opMinL, opRfind, opCount, List.map_cons, List.map_nil, cInA, cNinA, inD, itD, fItA, eItA, cLtA, cLeA, fRr1, fRr2, opInt, sPar, fCallD, fRaise0, fRaise1, sTryAs, sTry, aftr, noX, allEq_const, fXf, fXi, fLc, lcL, unE, tYs, Vs.ret, xLock, inis, bof, sNil, sSeq, sAsg, sRet, sRetV, sRetN, sIf, sDrop, sTg, sFor, sBrk, sCnt, sApp, sExt, sOwn, sSetI, opSetI, sLock, unlk, sbnd, bnd, fOp, fCh, fCl, fCall, fLst, fTup, fSl, fIf, fAnd, fOr, fNot, fTru, fAndV, fOrV, fNotV, fNeg, fIsi, fM1, fM2, fRg1, fRg2, fEn, fRev, fSg, fTp, fIt, eIt, eB, eV, eC, frz, shm, aCons, aNil, poN, poS, Rs.d, Rs.sl, vB, List.cons_append, List.nil_append, List.append_nil, List.replicate_zero, List.replicate_succ, List.getElem?_cons_zero, List.getElem?_cons_succ, List.set_cons_zero, List.set_cons_succ, List.length_cons, List.length_nil, opLen, lenD, opList, opAdd, opSub, opMul, opMod, opDiv, opPow, opMin, opMax, opIx, opSl, cmpB, cEq, cNe, cIsN, cNotN, truD, tgN, tgT, setAll, isKd, opFind, opFind3, opStarts, opStarts3, Nat.reduceLT, Nat.reduceAdd, Nat.reduceSub, Nat.reduceLeDiff, Int.reduceLT, Int.reduceLE, Int.reduceNeg, reduceIte, and_self, true_and, and_true, decide_true, decide_false, Int.toNat_natCast, decide_eq_false w5, decide_eq_true w6, ← hX, ← hY]
  have j4 : i4_law_text [.sh (.scr ns), .ow PD, .sh (.int W), .sh (.str T), .sh (.int A), .sh (.str [g]), t6, .un] = some (.nx [.sh (.scr ns), .ow PD, .sh (.int W), .sh (.str T), .sh (.int A), .sh (.str [g]), t6, .un]) := by
    unfold i4_law_text
    simp (disch := first | omega | assumption) only [if_pos, if_neg, decide_eq_true, decide_eq_false, atI_of, cutL_take, cutL_drop, cutL_mid, ge_iff_le, gt_iff_lt, Int.reduceToNat, Int.toNat_zero, Int.toNat_one, Bool.not_true, Bool.not_false, szl, fLcX, fRepl, fMaxD, fEnS, sStuck, fLenS, cGtA, sAppQ, sSetQ, sForT, forTL, opSortT, fDItems, fDKeys, fLcO, D.key, fDNew, fDGet, sDPutV, fDSet, fRg3, fChV, fSortL, frL, frS, fSortB, sRem, sqAt, eIxI, fItm, fItV, chS, sItC, sItA, sItI, sItS, fTmp, Sl.mut, Sl.th, O.d, sqD, D.atm, sTryR, fSq, aConsF, aNilF, eO, sTgF, setFd, Fd.sl, opJoinRev, fLRev, runDef, runDefI, ioAt, insA, chL, getO, setO, getL, setL, obAt, eFd, eFV, eFB, fFld, fMeth, fMethI, fMake, fCallI, aHere, fIsO, sFldS, setF, Rs.fd, Fd.d, O.d, fMethD, chF, sAppF, fPopF, fPop0, fPop1, sIns, sRetI, sRetNI, fZip, fML, opAny, opAll, opSorted, opMaxL, opMinL, opRfind, opCount, List.map_cons, List.map_nil, cInA, cNinA, inD, itD, fItA, eItA, cLtA, cLeA, fRr1, fRr2, opInt, sPar, fCallD, fRaise0, fRaise1, sTryAs, sTry, aftr, noX, allEq_const, fXf, fXi, fLc, lcL, unE, tYs, Vs.ret, xLock, inis, bof, sNil, sSeq, sAsg, sRet, sRetV, sRetN, sIf, sDrop, sTg, sFor, sBrk, sCnt, sApp, sExt, sOwn, sSetI, opSetI, sLock, unlk, sbnd, bnd, fOp, fCh, fCl, fCall, fLst, fTup, fSl, fIf, fAnd, fOr, fNot, fTru, fAndV, fOrV, fNotV, fNeg, fIsi, fM1, fM2, fRg1, fRg2, fEn, fRev, fSg, fTp, fIt, eIt, eB, eV, eC, frz, shm, aCons, aNil, poN, poS, Rs.d, Rs.sl, vB, List.cons_append, List.nil_append, List.append_nil, List.replicate_zero, List.replicate_succ, List.getElem?_cons_zero, List.getElem?_cons_succ, List.set_cons_zero, List.set_cons_succ, List.length_cons, List.length_nil, opLen, lenD, opList, opAdd, opSub, opMul, opMod, opDiv, opPow, opMin, opMax, opIx, opSl, cmpB, cEq, cNe, cIsN, cNotN, truD, tgN, tgT, setAll, isKd, opFind, opFind3, opStarts, opStarts3, Nat.reduceLT, Nat.reduceAdd, Nat.reduceSub, Nat.reduceLeDiff, Int.reduceLT, Int.reduceLE, Int.reduceNeg, reduceIte, and_self, true_and, and_true, decide_true, decide_false, Int.toNat_natCast, decide_eq_false w5, decide_eq_false w6]
  by_cases w7 : W = 7
  · refine ⟨X ++ Z, pre _ (seq_nx j4 ?_), by rw [List.length_append]; omega⟩
    unfold i5_law_text
    simp (disch := first | omega | assumption) only [if_pos, if_neg, decide_eq_true, decide_eq_false, atI_of, cutL_take, cutL_drop, cutL_mid, ge_iff_le, gt_iff_lt, Int.reduceToNat, Int.toNat_zero, Int.toNat_one, Bool.not_true, Bool.not_false, szl, fLcX, fRepl, fMaxD, fEnS, sStuck, fLenS, cGtA, sAppQ, sSetQ, sForT, forTL, opSortT, fDItems, fDKeys, fLcO, D.key, fDNew, fDGet, sDPutV, fDSet, fRg3, fChV, fSortL, frL, frS, fSortB, sRem, sqAt, eIxI, fItm, fItV, chS, sItC, sItA, sItI, sItS, fTmp, Sl.mut, Sl.th, O.d, sqD, D.atm, sTryR, fSq, aConsF, aNilF, eO, sTgF, setFd, Fd.sl, opJoinRev, fLRev, runDef, runDefI, ioAt, insA, chL, getO, setO, getL, setL, obAt, eFd, eFV, eFB, fFld, fMeth, fMethI, fMake, fCallI, aHere, fIsO, sFldS, setF, Rs.fd, Fd.d, O.d, fMethD, chF, sAppF, fPopF, fPop0, fPop1, sIns, sRetI, sRetNI, fZip, fML, opAny, opAll, opSorted, opMaxL, opMinL, opRfind, opCount, List.map_cons, List.map_nil, cInA, cNinA, inD, itD, fItA, eItA, cLtA, cLeA, fRr1, fRr2, opInt, sPar, fCallD, fRaise0, fRaise1, sTryAs, sTry, aftr, noX, allEq_const, fXf, fXi, fLc, lcL, unE, tYs, Vs.ret, xLock, inis, bof, sNil, sSeq, sAsg, sRet, sRetV, sRetN, sIf, sDrop, sTg, sFor, sBrk, sCnt, sApp, sExt, sOwn, sSetI, opSetI, sLock, unlk, sbnd, bnd, fOp, fCh, fCl, fCall, fLst, fTup, fSl, fIf, fAnd, fOr, fNot, fTru, fAndV, fOrV, fNotV, fNeg, fIsi, fM1, fM2, fRg1, fRg2, fEn, fRev, fSg, fTp, fIt, eIt, eB, eV, eC, frz, shm, aCons, aNil, poN, poS, Rs.d, Rs.sl, vB, List.cons_append, List.nil_append, List.append_nil, List.replicate_zero, List.replicate_succ, List.getElem?_cons_zero, List.getElem?_cons_succ, List.set_cons_zero, List.set_cons_succ, List.length_cons, List.length_nil, opLen, lenD, opList, opAdd, opSub, opMul, opMod, opDiv, opPow, opMin, opMax, opIx, opSl, cmpB, cEq, cNe, cIsN, cNotN, truD, tgN, tgT, setAll, isKd, opFind, opFind3, opStarts, opStarts3, Nat.reduceLT, Nat.reduceAdd, Nat.reduceSub, Nat.reduceLeDiff, Int.reduceLT, Int.reduceLE, Int.reduceNeg, reduceIte, and_self, true_and, and_true, decide_true, decide_false, Int.toNat_natCast, decide_eq_true w7, ← hX, ← hZ]
  have j5 : i5_law_text [.sh (.scr ns), .ow PD, .sh (.int W), .sh (.str T), .sh (.int A), .sh (.str [g]), t6, .un] = some (.nx [.sh (.scr ns), .ow PD, .sh (.int W), .sh (.str T), .sh (.int A), .sh (.str [g]), t6, .un]) := by
    unfold i5_law_text
    simp (disch := first | omega | assumption) only [if_pos, if_neg, decide_eq_true, decide_eq_false, atI_of, cutL_take, cutL_drop, cutL_mid, ge_iff_le, gt_iff_lt, Int.reduceToNat, Int.toNat_zero, Int.toNat_one, Bool.not_true, Bool.not_false, szl, fLcX, fRepl, fMaxD, fEnS, sStuck, fLenS, cGtA, sAppQ, sSetQ, sForT, forTL, opSortT, fDItems, fDKeys, fLcO, D.key, fDNew, fDGet, sDPutV, fDSet, fRg3, fChV, fSortL, frL, frS, fSortB, sRem, sqAt, eIxI, fItm, fItV, chS, sItC, sItA, sItI, sItS, fTmp, Sl.mut, Sl.th, O.d, sqD, D.atm, sTryR, fSq, aConsF, aNilF, eO, sTgF, setFd, Fd.sl, opJoinRev, fLRev, runDef, runDefI, ioAt, insA, chL, getO, setO, getL, setL, obAt, eFd, eFV, eFB, fFld, fMeth, fMethI, fMake, fCallI, aHere, fIsO, sFldS, setF, Rs.fd, Fd.d, O.d, fMethD, chF, sAppF, fPopF, fPop0, fPop1, sIns, sRetI, sRetNI, fZip, fML, opAny, opAll, opSorted, opMaxL, opMinL, opRfind, opCount, List.map_cons, List.map_nil, cInA, cNinA, inD, itD, fItA, eItA, cLtA, cLeA, fRr1, fRr2, opInt, sPar, fCallD, fRaise0, fRaise1, sTryAs, sTry, aftr, noX, allEq_const, fXf, fXi, fLc, lcL, unE, tYs, Vs.ret, xLock, inis, bof, sNil, sSeq, sAsg, sRet, sRetV, sRetN, sIf, sDrop, sTg, sFor, sBrk, sCnt, sApp, sExt, sOwn, sSetI, opSetI, sLock, unlk, sbnd, bnd, fOp, fCh, fCl, fCall, fLst, fTup, fSl, fIf, fAnd, fOr, fNot, fTru, fAndV, fOrV, fNotV, fNeg, fIsi, fM1, fM2, fRg1, fRg2, fEn, fRev, fSg, fTp, fIt, eIt, eB, eV, eC, frz, shm, aCons, aNil, poN, poS, Rs.d, Rs.sl, vB, List.cons_append, List.nil_append, List.append_nil, List.replicate_zero, List.replicate_succ, List.getElem?_cons_zero, List.getElem?_cons_succ, List.set_cons_zero, List.set_cons_succ, List.length_cons, List.length_nil, opLen, lenD, opList, opAdd, opSub, opMul, opMod, opDiv, opPow, opMin, opMax, opIx, opSl, cmpB, cEq, cNe, cIsN, cNotN, truD, tgN, tgT, setAll, isKd, opFind, opFind3, opStarts, opStarts3, Nat.reduceLT, Nat.reduceAdd, Nat.reduceSub, Nat.reduceLeDiff, Int.reduceLT, Int.reduceLE, Int.reduceNeg, reduceIte, and_self, true_and, and_true, decide_true, decide_false, Int.toNat_natCast, decide_eq_false w7]
  by_cases w8 : W = 8
  · refine ⟨X ++ [g] ++ Z, pre _ (seq_nx j4 (seq_nx j5 ?_)), by rw [List.length_append, List.length_append, List.length_singleton]; omega⟩
    unfold i6_law_text
    simp (disch := first | omega | assumption) only [if_pos, if_neg, decide_eq_true, decide_eq_false, atI_of, cutL_take, cutL_drop, cutL_mid, ge_iff_le, gt_iff_lt, Int.reduceToNat, Int.toNat_zero, Int.toNat_one, Bool.not_true, Bool.not_false, szl, fLcX, fRepl, fMaxD, fEnS, sStuck, fLenS, cGtA, sAppQ, sSetQ, sForT, forTL, opSortT, fDItems, fDKeys, fLcO, D.key, fDNew, fDGet, sDPutV, fDSet, fRg3, fChV, fSortL, frL, frS, fSortB, sRem, sqAt, eIxI, fItm, fItV, chS, sItC, sItA, sItI, sItS, fTmp, Sl.mut, Sl.th, O.d, sqD, D.atm, sTryR, fSq, aConsF, aNilF, eO, sTgF, setFd, Fd.sl, opJoinRev, fLRev, runDef, runDefI, ioAt, insA, chL, getO, setO, getL, setL, obAt, eFd, eFV, eFB, fFld, fMeth, fMethI, fMake, fCallI, aHere, fIsO, sFldS, setF, Rs.fd, Fd.d, O.d, fMethD, chF, sAppF, fPopF, fPop0, fPop1, sIns, sRetI, sRetNI, fZip, fML, opAny, opAll, opSorted, opMaxL, opMinL, opRfind, opCount, List.map_cons, List.map_nil, cInA, cNinA, inD, itD, fItA, eItA, cLtA, cLeA, fRr1, fRr2, opInt, sPar, fCallD, fRaise0, fRaise1, sTryAs, sTry, aftr, noX, allEq_const, fXf, fXi, fLc, lcL, unE, tYs, Vs.ret, xLock, inis, bof, sNil, sSeq, sAsg, sRet, sRetV, sRetN, sIf, sDrop, sTg, sFor, sBrk, sCnt, sApp, sExt, sOwn, sSetI, opSetI, sLock, unlk, sbnd, bnd, fOp, fCh, fCl, fCall, fLst, fTup, fSl, fIf, fAnd, fOr, fNot, fTru, fAndV, fOrV, fNotV, fNeg, fIsi, fM1, fM2, fRg1, fRg2, fEn, fRev, fSg, fTp, fIt, eIt, eB, eV, eC, frz, shm, aCons, aNil, poN, poS, Rs.d, Rs.sl, vB, List.cons_append, List.nil_append, List.append_nil, List.replicate_zero, List.replicate_succ, List.getElem?_cons_zero, List.getElem?_cons_succ, List.set_cons_zero, List.set_cons_succ, List.length_cons, List.length_nil, opLen, lenD, opList, opAdd, opSub, opMul, opMod, opDiv, opPow, opMin, opMax, opIx, opSl, cmpB, cEq, cNe, cIsN, cNotN, truD, tgN, tgT, setAll, isKd, opFind, opFind3, opStarts, opStarts3, Nat.reduceLT, Nat.reduceAdd, Nat.reduceSub, Nat.reduceLeDiff, Int.reduceLT, Int.reduceLE, Int.reduceNeg, reduceIte, and_self, true_and, and_true, decide_true, decide_false, Int.toNat_natCast, decide_eq_true w8, ← hX, ← hZ]
  have j6 : i6_law_text [.sh (.scr ns), .ow PD, .sh (.int W), .sh (.str T), .sh (.int A), .sh (.str [g]), t6, .un] = some (.nx [.sh (.scr ns), .ow PD, .sh (.int W), .sh (.str T), .sh (.int A), .sh (.str [g]), t6, .un]) := by
    unfold i6_law_text
    simp (disch := first | omega | assumption) only [if_pos, if_neg, decide_eq_true, decide_eq_false, atI_of, cutL_take, cutL_drop, cutL_mid, ge_iff_le, gt_iff_lt, Int.reduceToNat, Int.toNat_zero, Int.toNat_one, Bool.not_true, Bool.not_false, szl, fLcX, fRepl, fMaxD, fEnS, sStuck, fLenS, cGtA, sAppQ, sSetQ, sForT, forTL, opSortT, fDItems, fDKeys, fLcO, D.key, fDNew, fDGet, sDPutV, fDSet, fRg3, fChV, fSortL, frL, frS, fSortB, sRem, sqAt, eIxI, fItm, fItV, chS, sItC, sItA, sItI, sItS, fTmp, Sl.mut, Sl.th, O.d, sqD, D.atm, sTryR, fSq, aConsF, aNilF, eO, sTgF, setFd, Fd.sl, opJoinRev, fLRev, runDef, runDefI, ioAt, insA, chL, getO, setO, getL, setL, obAt, eFd, eFV, eFB, fFld, fMeth, fMethI, fMake, fCallI, aHere, fIsO, sFldS, setF, Rs.fd, Fd.d, O.d, fMethD, chF, sAppF, fPopF, fPop0, fPop1, sIns, sRetI, sRetNI, fZip, fML, opAny, opAll, opSorted, opMaxL, opMinL, opRfind, opCount, List.map_cons, List.map_nil, cInA, cNinA, inD, itD, fItA, eItA, cLtA, cLeA, fRr1, fRr2, opInt, sPar, fCallD, fRaise0, fRaise1, sTryAs, sTry, aftr, noX, allEq_const, fXf, fXi, fLc, lcL, unE, tYs, Vs.ret, xLock, inis, bof, sNil, sSeq, sAsg, sRet, sRetV, sRetN, sIf, sDrop, sTg, sFor, sBrk, sCnt, sApp, sExt, sOwn, sSetI, opSetI, sLock, unlk, sbnd, bnd, fOp, fCh, fCl, fCall, fLst, fTup, fSl, fIf, fAnd, fOr, fNot, fTru, fAndV, fOrV, fNotV, fNeg, fIsi, fM1, fM2, fRg1, fRg2, fEn, fRev, fSg, fTp, fIt, eIt, eB, eV, eC, frz, shm, aCons, aNil, poN, poS, Rs.d, Rs.sl, vB, List.cons_append, List.nil_append, List.append_nil, List.replicate_zero, List.replicate_succ, List.getElem?_cons_zero, List.getElem?_cons_succ, List.set_cons_zero, List.set_cons_succ, List.length_cons, List.length_nil, opLen, lenD, opList, opAdd, opSub, opMul, opMod, opDiv, opPow, opMin, opMax, opIx, opSl, cmpB, cEq, cNe, cIsN, cNotN, truD, tgN, tgT, setAll, isKd, opFind, opFind3, opStarts, opStarts3, Nat.reduceLT, Nat.reduceAdd, Nat.reduceSub, Nat.reduceLeDiff, Int.reduceLT, Int.reduceLE, Int.reduceNeg, reduceIte, and_self, true_and, and_true, decide_true, decide_false, Int.toNat_natCast, decide_eq_false w8]
  by_cases w9 : W = 9
  · refine ⟨o, pre _ (seq_nx j4 (seq_nx j5 (seq_nx j6 ?_))), by omega⟩
    unfold i7_law_text
    simp (disch := first | omega | assumption) only [if_pos, if_neg, decide_eq_true, decide_eq_false, atI_of, cutL_take, cutL_drop, cutL_mid, ge_iff_le, gt_iff_lt, Int.reduceToNat, Int.toNat_zero, Int.toNat_one, Bool.not_true, Bool.not_false, szl, fLcX, fRepl, fMaxD, fEnS, sStuck, fLenS, cGtA, sAppQ, sSetQ, sForT, forTL, opSortT, fDItems, fDKeys, fLcO, D.key, fDNew, fDGet, sDPutV, fDSet, fRg3, fChV, fSortL, frL, frS, fSortB, sRem, sqAt, eIxI, fItm, fItV, chS, sItC, sItA, sItI, sItS, fTmp, Sl.mut, Sl.th, O.d, sqD, D.atm, sTryR, fSq, aConsF, aNilF, eO, sTgF, setFd, Fd.sl, opJoinRev, fLRev, runDef, runDefI, ioAt, insA, chL, getO, setO, getL, setL, obAt, eFd, eFV, eFB, fFld, fMeth, fMethI, fMake, fCallI, aHere, fIsO, sFldS, setF, Rs.fd, Fd.d, O.d, fMethD, chF, sAppF, fPopF, fPop0, fPop1, sIns, sRetI, sRetNI, fZip, fML, opAny, opAll, opSorted, opMaxL, opMinL, opRfind, opCount, List.map_cons, List.map_nil, cInA, cNinA, inD, itD, fItA, eItA, cLtA, cLeA, fRr1, fRr2, opInt, sPar, fCallD, fRaise0, fRaise1, sTryAs, sTry, aftr, noX, allEq_const, fXf, fXi, fLc, lcL, unE, tYs, Vs.ret, xLock, inis, bof, sNil, sSeq, sAsg, sRet, sRetV, sRetN, sIf, sDrop, sTg, sFor, sBrk, sCnt, sApp, sExt, sOwn, sSetI, opSetI, sLock, unlk, sbnd, bnd, fOp, fCh, fCl, fCall, fLst, fTup, fSl, fIf, fAnd, fOr, fNot, fTru, fAndV, fOrV, fNotV, fNeg, fIsi, fM1, fM2, fRg1, fRg2, fEn, fRev, fSg, fTp, fIt, eIt, eB, eV, eC, frz, shm, aCons, aNil, poN, poS, Rs.d, Rs.sl, vB, List.cons_append, List.nil_append, List.append_nil, List.replicate_zero, List.replicate_succ, List.getElem?_cons_zero, List.getElem?_cons_succ, List.set_cons_zero, List.set_cons_succ, List.length_cons, List.length_nil, opLen, lenD, opList, opAdd, opSub, opMul, opMod, opDiv, opPow, opMin, opMax, opIx, opSl, cmpB, cEq, cNe, cIsN, cNotN, truD, tgN, tgT, setAll, isKd, opFind, opFind3, opStarts, opStarts3, Nat.reduceLT, Nat.reduceAdd, Nat.reduceSub, Nat.reduceLeDiff, Int.reduceLT, Int.reduceLE, Int.reduceNeg, reduceIte, and_self, true_and, and_true, decide_true, decide_false, Int.toNat_natCast, decide_eq_true w9, c3, ho]
  · refine ⟨T, pre _ (seq_nx j4 (seq_nx j5 (seq_nx j6 ?_))), by omega⟩
    unfold i7_law_text
    simp (disch := first | omega | assumption) only [if_pos, if_neg, decide_eq_true, decide_eq_false, atI_of, cutL_take, cutL_drop, cutL_mid, ge_iff_le, gt_iff_lt, Int.reduceToNat, Int.toNat_zero, Int.toNat_one, Bool.not_true, Bool.not_false, szl, fLcX, fRepl, fMaxD, fEnS, sStuck, fLenS, cGtA, sAppQ, sSetQ, sForT, forTL, opSortT, fDItems, fDKeys, fLcO, D.key, fDNew, fDGet, sDPutV, fDSet, fRg3, fChV, fSortL, frL, frS, fSortB, sRem, sqAt, eIxI, fItm, fItV, chS, sItC, sItA, sItI, sItS, fTmp, Sl.mut, Sl.th, O.d, sqD, D.atm, sTryR, fSq, aConsF, aNilF, eO, sTgF, setFd, Fd.sl, opJoinRev, fLRev, runDef, runDefI, ioAt, insA, chL, getO, setO, getL, setL, obAt, eFd, eFV, eFB, fFld, fMeth, fMethI, fMake, fCallI, aHere, fIsO, sFldS, setF, Rs.fd, Fd.d, O.d, fMethD, chF, sAppF, fPopF, fPop0, fPop1, sIns, sRetI, sRetNI, fZip, fML, opAny, opAll, opSorted, opMaxL, opMinL, opRfind, opCount, List.map_cons, List.map_nil, cInA, cNinA, inD, itD, fItA, eItA, cLtA, cLeA, fRr1, fRr2, opInt, sPar, fCallD, fRaise0, fRaise1, sTryAs, sTry, aftr, noX, allEq_const, fXf, fXi, fLc, lcL, unE, tYs, Vs.ret, xLock, inis, bof, sNil, sSeq, sAsg, sRet, sRetV, sRetN, sIf, sDrop, sTg, sFor, sBrk, sCnt, sApp, sExt, sOwn, sSetI, opSetI, sLock, unlk, sbnd, bnd, fOp, fCh, fCl, fCall, fLst, fTup, fSl, fIf, fAnd, fOr, fNot, fTru, fAndV, fOrV, fNotV, fNeg, fIsi, fM1, fM2, fRg1, fRg2, fEn, fRev, fSg, fTp, fIt, eIt, eB, eV, eC, frz, shm, aCons, aNil, poN, poS, Rs.d, Rs.sl, vB, List.cons_append, List.nil_append, List.append_nil, List.replicate_zero, List.replicate_succ, List.getElem?_cons_zero, List.getElem?_cons_succ, List.set_cons_zero, List.set_cons_succ, List.length_cons, List.length_nil, opLen, lenD, opList, opAdd, opSub, opMul, opMod, opDiv, opPow, opMin, opMax, opIx, opSl, cmpB, cEq, cNe, cIsN, cNotN, truD, tgN, tgT, setAll, isKd, opFind, opFind3, opStarts, opStarts3, Nat.reduceLT, Nat.reduceAdd, Nat.reduceSub, Nat.reduceLeDiff, Int.reduceLT, Int.reduceLE, Int.reduceNeg, reduceIte, and_self, true_and, and_true, decide_true, decide_false, Int.toNat_natCast, decide_eq_false w9]

/-! k07 -/
theorem okE_st (s : Stp) : (stD s).okE = true := by
  unfold D.okE stD
  simp [D.pl, plA, D.toP, toPA, PyData.depth, PyData.depthAll]
theorem e_another (o : Xo) : g_law_another o [.xn o ⟨x_NoStep, none⟩] = some (.rt (.sh (.bl false))) := by
  have k1 : ks 3 1 = some false := rfl
  have k2 : ks 3 2 = some false := rfl
  have k4 : ks 3 4 = some false := rfl
  have k5 : ks 3 5 = some false := rfl
  have k6 : ks 3 0 = some true := rfl
  have k7 : ks 3 1000 = some true := rfl
  unfold g_law_another b_law_another
  simp (disch := first | omega | assumption) only [if_pos, if_neg, decide_eq_true, decide_eq_false, atI_of, cutL_take, cutL_drop, cutL_mid, ge_iff_le, gt_iff_lt, Int.reduceToNat, Int.toNat_zero, Int.toNat_one, Bool.not_true, Bool.not_false, szl, fLcX, fRepl, fMaxD, fEnS, sStuck, fLenS, cGtA, sAppQ, sSetQ, sForT, forTL, opSortT, fDItems, fDKeys, fLcO, D.key, fDNew, fDGet, sDPutV, fDSet, fRg3, fChV, fSortL, frL, frS, fSortB, sRem, sqAt, eIxI, fItm, fItV, chS, sItC, sItA, sItI, sItS, fTmp, Sl.mut, Sl.th, O.d, sqD, D.atm, sTryR, fSq, aConsF, aNilF, eO, sTgF, setFd, Fd.sl, opJoinRev, fLRev, runDef, runDefI, ioAt, insA, chL, getO, setO, getL, setL, obAt, eFd, eFV, eFB, fFld, fMeth, fMethI, fMake, fCallI, aHere, fIsO, sFldS, setF, Rs.fd, Fd.d, O.d, fMethD, chF, sAppF, fPopF, fPop0, fPop1, sIns, sRetI, sRetNI, fZip, fML, opAny, opAll, opSorted, opMaxL, opMinL, opRfind, opCount, List.map_cons, List.map_nil, cInA, cNinA, inD, itD, fItA, eItA, cLtA, cLeA, fRr1, fRr2, opInt, sPar, fCallD, fRaise0, fRaise1, sTryAs, sTry, aftr, noX, allEq_const, fXf, fXi, fLc, lcL, unE, tYs, Vs.ret, xLock, inis, bof, sNil, sSeq, sAsg, sRet, sRetV, sRetN, sIf, sDrop, sTg, sFor, sBrk, sCnt, sApp, sExt, sOwn, sSetI, opSetI, sLock, unlk, sbnd, bnd, fOp, fCh, fCl, fCall, fLst, fTup, fSl, fIf, fAnd, fOr, fNot, fTru, fAndV, fOrV, fNotV, fNeg, fIsi, fM1, fM2, fRg1, fRg2, fEn, fRev, fSg, fTp, fIt, eIt, eB, eV, eC, frz, shm, aCons, aNil, poN, poS, Rs.d, Rs.sl, vB, List.cons_append, List.nil_append, List.append_nil, List.replicate_zero, List.replicate_succ, List.getElem?_cons_zero, List.getElem?_cons_succ, List.set_cons_zero, List.set_cons_succ, List.length_cons, List.length_nil, opLen, lenD, opList, opAdd, opSub, opMul, opMod, opDiv, opPow, opMin, opMax, opIx, opSl, cmpB, cEq, cNe, cIsN, cNotN, truD, tgN, tgT, setAll, isKd, opFind, opFind3, opStarts, opStarts3, Nat.reduceLT, Nat.reduceAdd, Nat.reduceSub, Nat.reduceLeDiff, Int.reduceLT, Int.reduceLE, Int.reduceNeg, reduceIte, and_self, true_and, and_true, decide_true, decide_false, Int.toNat_natCast, k1, k2, k4, k5, k6, k7, Bool.not_true, Bool.or_self]
theorem e_asked_good {t : List Nat} {ss : List Stp} (h : g_read_steps [.str t] = some (.rt (.ow (stL ss)))) : g_law_asked [.str t] = some (.rt (.tr (.sq true [.ow (stL ss), .sh (.bl false)]))) := by
  unfold g_law_asked b_law_asked y1_law_asked z1_law_asked
  simp (disch := first | omega | assumption) only [if_pos, if_neg, decide_eq_true, decide_eq_false, atI_of, cutL_take, cutL_drop, cutL_mid, ge_iff_le, gt_iff_lt, Int.reduceToNat, Int.toNat_zero, Int.toNat_one, Bool.not_true, Bool.not_false, szl, fLcX, fRepl, fMaxD, fEnS, sStuck, fLenS, cGtA, sAppQ, sSetQ, sForT, forTL, opSortT, fDItems, fDKeys, fLcO, D.key, fDNew, fDGet, sDPutV, fDSet, fRg3, fChV, fSortL, frL, frS, fSortB, sRem, sqAt, eIxI, fItm, fItV, chS, sItC, sItA, sItI, sItS, fTmp, Sl.mut, Sl.th, O.d, sqD, D.atm, sTryR, fSq, aConsF, aNilF, eO, sTgF, setFd, Fd.sl, opJoinRev, fLRev, runDef, runDefI, ioAt, insA, chL, getO, setO, getL, setL, obAt, eFd, eFV, eFB, fFld, fMeth, fMethI, fMake, fCallI, aHere, fIsO, sFldS, setF, Rs.fd, Fd.d, O.d, fMethD, chF, sAppF, fPopF, fPop0, fPop1, sIns, sRetI, sRetNI, fZip, fML, opAny, opAll, opSorted, opMaxL, opMinL, opRfind, opCount, List.map_cons, List.map_nil, cInA, cNinA, inD, itD, fItA, eItA, cLtA, cLeA, fRr1, fRr2, opInt, sPar, fCallD, fRaise0, fRaise1, sTryAs, sTry, aftr, noX, allEq_const, fXf, fXi, fLc, lcL, unE, tYs, Vs.ret, xLock, inis, bof, sNil, sSeq, sAsg, sRet, sRetV, sRetN, sIf, sDrop, sTg, sFor, sBrk, sCnt, sApp, sExt, sOwn, sSetI, opSetI, sLock, unlk, sbnd, bnd, fOp, fCh, fCl, fCall, fLst, fTup, fSl, fIf, fAnd, fOr, fNot, fTru, fAndV, fOrV, fNotV, fNeg, fIsi, fM1, fM2, fRg1, fRg2, fEn, fRev, fSg, fTp, fIt, eIt, eB, eV, eC, frz, shm, aCons, aNil, poN, poS, Rs.d, Rs.sl, vB, List.cons_append, List.nil_append, List.append_nil, List.replicate_zero, List.replicate_succ, List.getElem?_cons_zero, List.getElem?_cons_succ, List.set_cons_zero, List.set_cons_succ, List.length_cons, List.length_nil, opLen, lenD, opList, opAdd, opSub, opMul, opMod, opDiv, opPow, opMin, opMax, opIx, opSl, cmpB, cEq, cNe, cIsN, cNotN, truD, tgN, tgT, setAll, isKd, opFind, opFind3, opStarts, opStarts3, Nat.reduceLT, Nat.reduceAdd, Nat.reduceSub, Nat.reduceLeDiff, Int.reduceLT, Int.reduceLE, Int.reduceNeg, reduceIte, and_self, true_and, and_true, decide_true, decide_false, Int.toNat_natCast, h]
  try rfl
theorem e_asked_bad {t : List Nat} (h : g_read_steps [.str t] = some (.ex ⟨x_NoStep, none⟩)) : g_law_asked [.str t] = some (.rt (.tr (.sq true [.sh .non, .sh (.bl true)]))) := by
  have x1 : xs 3 3 = some true := rfl
  unfold g_law_asked b_law_asked y1_law_asked z1_law_asked
  simp (disch := first | omega | assumption) only [if_pos, if_neg, decide_eq_true, decide_eq_false, atI_of, cutL_take, cutL_drop, cutL_mid, ge_iff_le, gt_iff_lt, Int.reduceToNat, Int.toNat_zero, Int.toNat_one, Bool.not_true, Bool.not_false, szl, fLcX, fRepl, fMaxD, fEnS, sStuck, fLenS, cGtA, sAppQ, sSetQ, sForT, forTL, opSortT, fDItems, fDKeys, fLcO, D.key, fDNew, fDGet, sDPutV, fDSet, fRg3, fChV, fSortL, frL, frS, fSortB, sRem, sqAt, eIxI, fItm, fItV, chS, sItC, sItA, sItI, sItS, fTmp, Sl.mut, Sl.th, O.d, sqD, D.atm, sTryR, fSq, aConsF, aNilF, eO, sTgF, setFd, Fd.sl, opJoinRev, fLRev, runDef, runDefI, ioAt, insA, chL, getO, setO, getL, setL, obAt, eFd, eFV, eFB, fFld, fMeth, fMethI, fMake, fCallI, aHere, fIsO, sFldS, setF, Rs.fd, Fd.d, O.d, fMethD, chF, sAppF, fPopF, fPop0, fPop1, sIns, sRetI, sRetNI, fZip, fML, opAny, opAll, opSorted, opMaxL, opMinL, opRfind, opCount, List.map_cons, List.map_nil, cInA, cNinA, inD, itD, fItA, eItA, cLtA, cLeA, fRr1, fRr2, opInt, sPar, fCallD, fRaise0, fRaise1, sTryAs, sTry, aftr, noX, allEq_const, fXf, fXi, fLc, lcL, unE, tYs, Vs.ret, xLock, inis, bof, sNil, sSeq, sAsg, sRet, sRetV, sRetN, sIf, sDrop, sTg, sFor, sBrk, sCnt, sApp, sExt, sOwn, sSetI, opSetI, sLock, unlk, sbnd, bnd, fOp, fCh, fCl, fCall, fLst, fTup, fSl, fIf, fAnd, fOr, fNot, fTru, fAndV, fOrV, fNotV, fNeg, fIsi, fM1, fM2, fRg1, fRg2, fEn, fRev, fSg, fTp, fIt, eIt, eB, eV, eC, frz, shm, aCons, aNil, poN, poS, Rs.d, Rs.sl, vB, List.cons_append, List.nil_append, List.append_nil, List.replicate_zero, List.replicate_succ, List.getElem?_cons_zero, List.getElem?_cons_succ, List.set_cons_zero, List.set_cons_succ, List.length_cons, List.length_nil, opLen, lenD, opList, opAdd, opSub, opMul, opMod, opDiv, opPow, opMin, opMax, opIx, opSl, cmpB, cEq, cNe, cIsN, cNotN, truD, tgN, tgT, setAll, isKd, opFind, opFind3, opStarts, opStarts3, Nat.reduceLT, Nat.reduceAdd, Nat.reduceSub, Nat.reduceLeDiff, Int.reduceLT, Int.reduceLE, Int.reduceNeg, reduceIte, and_self, true_and, and_true, decide_true, decide_false, Int.toNat_natCast, h, x1, e_another, Bool.not_false]
  try rfl
theorem e_alike {ss : List Stp} (hl : ss.length ≤ 1000) : g_law_alike [.lst (stL ss), .lst (stL ss)] = some (.rt (.sh (.bl true))) := by
  have sl := stL_len ss
  obtain ⟨j, f1⟩ := forL_each (tg := tgN 2) (body := l1_law_alike) (fun (q : Sl × Sl) => [.bo (stL ss), .bo (stL ss), q.1, q.2]) (fun k : Nat => D.int (0 + (k : Int))) (List.range ss.length) (.un, .un) fun k hk q => by
    have hk := List.mem_range.mp hk
    have e0 : (0 : Int) + (k : Int) = (k : Int) := by omega
    have at_ : (stL ss)[k]? = some (stD ss[k]) := by unfold stL; rw [List.getElem?_map, List.getElem?_eq_getElem hk]; rfl
    obtain ⟨s, hs⟩ : ∃ s, s = ss[k] := ⟨_, rfl⟩
    rw [← hs] at at_
    have ok := okE_st s
    have w1 : g_law_whole [.int (s.n : Int)] = some (.rt (.sh (.bl true))) := by
      unfold g_law_whole b_law_whole
      simp (disch := first | omega | assumption) only [if_pos, if_neg, decide_eq_true, decide_eq_false, atI_of, cutL_take, cutL_drop, cutL_mid, ge_iff_le, gt_iff_lt, Int.reduceToNat, Int.toNat_zero, Int.toNat_one, Bool.not_true, Bool.not_false, szl, fLcX, fRepl, fMaxD, fEnS, sStuck, fLenS, cGtA, sAppQ, sSetQ, sForT, forTL, opSortT, fDItems, fDKeys, fLcO, D.key, fDNew, fDGet, sDPutV, fDSet, fRg3, fChV, fSortL, frL, frS, fSortB, sRem, sqAt, eIxI, fItm, fItV, chS, sItC, sItA, sItI, sItS, fTmp, Sl.mut, Sl.th, O.d, sqD, D.atm, sTryR, fSq, aConsF, aNilF, eO, sTgF, setFd, Fd.sl, opJoinRev, fLRev, runDef, runDefI, ioAt, insA, chL, getO, setO, getL, setL, obAt, eFd, eFV, eFB, fFld, fMeth, fMethI, fMake, fCallI, aHere, fIsO, sFldS, setF, Rs.fd, Fd.d, O.d, fMethD, chF, sAppF, fPopF, fPop0, fPop1, sIns, sRetI, sRetNI, fZip, fML, opAny, opAll, opSorted, opMaxL, opMinL, opRfind, opCount, List.map_cons, List.map_nil, cInA, cNinA, inD, itD, fItA, eItA, cLtA, cLeA, fRr1, fRr2, opInt, sPar, fCallD, fRaise0, fRaise1, sTryAs, sTry, aftr, noX, allEq_const, fXf, fXi, fLc, lcL, unE, tYs, Vs.ret, xLock, inis, bof, sNil, sSeq, sAsg, sRet, sRetV, sRetN, sIf, sDrop, sTg, sFor, sBrk, sCnt, sApp, sExt, sOwn, sSetI, opSetI, sLock, unlk, sbnd, bnd, fOp, fCh, fCl, fCall, fLst, fTup, fSl, fIf, fAnd, fOr, fNot, fTru, fAndV, fOrV, fNotV, fNeg, fIsi, fM1, fM2, fRg1, fRg2, fEn, fRev, fSg, fTp, fIt, eIt, eB, eV, eC, frz, shm, aCons, aNil, poN, poS, Rs.d, Rs.sl, vB, List.cons_append, List.nil_append, List.append_nil, List.replicate_zero, List.replicate_succ, List.getElem?_cons_zero, List.getElem?_cons_succ, List.set_cons_zero, List.set_cons_succ, List.length_cons, List.length_nil, opLen, lenD, opList, opAdd, opSub, opMul, opMod, opDiv, opPow, opMin, opMax, opIx, opSl, cmpB, cEq, cNe, cIsN, cNotN, truD, tgN, tgT, setAll, isKd, opFind, opFind3, opStarts, opStarts3, Nat.reduceLT, Nat.reduceAdd, Nat.reduceSub, Nat.reduceLeDiff, Int.reduceLT, Int.reduceLE, Int.reduceNeg, reduceIte, and_self, true_and, and_true, decide_true, decide_false, Int.toNat_natCast]
    have w2 : g_law_whole [.int (s.at_ : Int)] = some (.rt (.sh (.bl true))) := by
      unfold g_law_whole b_law_whole
      simp (disch := first | omega | assumption) only [if_pos, if_neg, decide_eq_true, decide_eq_false, atI_of, cutL_take, cutL_drop, cutL_mid, ge_iff_le, gt_iff_lt, Int.reduceToNat, Int.toNat_zero, Int.toNat_one, Bool.not_true, Bool.not_false, szl, fLcX, fRepl, fMaxD, fEnS, sStuck, fLenS, cGtA, sAppQ, sSetQ, sForT, forTL, opSortT, fDItems, fDKeys, fLcO, D.key, fDNew, fDGet, sDPutV, fDSet, fRg3, fChV, fSortL, frL, frS, fSortB, sRem, sqAt, eIxI, fItm, fItV, chS, sItC, sItA, sItI, sItS, fTmp, Sl.mut, Sl.th, O.d, sqD, D.atm, sTryR, fSq, aConsF, aNilF, eO, sTgF, setFd, Fd.sl, opJoinRev, fLRev, runDef, runDefI, ioAt, insA, chL, getO, setO, getL, setL, obAt, eFd, eFV, eFB, fFld, fMeth, fMethI, fMake, fCallI, aHere, fIsO, sFldS, setF, Rs.fd, Fd.d, O.d, fMethD, chF, sAppF, fPopF, fPop0, fPop1, sIns, sRetI, sRetNI, fZip, fML, opAny, opAll, opSorted, opMaxL, opMinL, opRfind, opCount, List.map_cons, List.map_nil, cInA, cNinA, inD, itD, fItA, eItA, cLtA, cLeA, fRr1, fRr2, opInt, sPar, fCallD, fRaise0, fRaise1, sTryAs, sTry, aftr, noX, allEq_const, fXf, fXi, fLc, lcL, unE, tYs, Vs.ret, xLock, inis, bof, sNil, sSeq, sAsg, sRet, sRetV, sRetN, sIf, sDrop, sTg, sFor, sBrk, sCnt, sApp, sExt, sOwn, sSetI, opSetI, sLock, unlk, sbnd, bnd, fOp, fCh, fCl, fCall, fLst, fTup, fSl, fIf, fAnd, fOr, fNot, fTru, fAndV, fOrV, fNotV, fNeg, fIsi, fM1, fM2, fRg1, fRg2, fEn, fRev, fSg, fTp, fIt, eIt, eB, eV, eC, frz, shm, aCons, aNil, poN, poS, Rs.d, Rs.sl, vB, List.cons_append, List.nil_append, List.append_nil, List.replicate_zero, List.replicate_succ, List.getElem?_cons_zero, List.getElem?_cons_succ, List.set_cons_zero, List.set_cons_succ, List.length_cons, List.length_nil, opLen, lenD, opList, opAdd, opSub, opMul, opMod, opDiv, opPow, opMin, opMax, opIx, opSl, cmpB, cEq, cNe, cIsN, cNotN, truD, tgN, tgT, setAll, isKd, opFind, opFind3, opStarts, opStarts3, Nat.reduceLT, Nat.reduceAdd, Nat.reduceSub, Nat.reduceLeDiff, Int.reduceLT, Int.reduceLE, Int.reduceNeg, reduceIte, and_self, true_and, and_true, decide_true, decide_false, Int.toNat_natCast]
    refine ⟨_, rfl, (.sh (.int (k : Int)), .sh (stD s)), .inl ?_⟩
    rw [e0]
    unfold stD at ok at_ ⊢
    unfold l1_law_alike i2_law_alike i3_law_alike
    simp (disch := first | omega | assumption) only [if_pos, if_neg, decide_eq_true, decide_eq_false, atI_of, cutL_take, cutL_drop, cutL_mid, ge_iff_le, gt_iff_lt, Int.reduceToNat, Int.toNat_zero, Int.toNat_one, Bool.not_true, Bool.not_false, szl, fLcX, fRepl, fMaxD, fEnS, sStuck, fLenS, cGtA, sAppQ, sSetQ, sForT, forTL, opSortT, fDItems, fDKeys, fLcO, D.key, fDNew, fDGet, sDPutV, fDSet, fRg3, fChV, fSortL, frL, frS, fSortB, sRem, sqAt, eIxI, fItm, fItV, chS, sItC, sItA, sItI, sItS, fTmp, Sl.mut, Sl.th, O.d, sqD, D.atm, sTryR, fSq, aConsF, aNilF, eO, sTgF, setFd, Fd.sl, opJoinRev, fLRev, runDef, runDefI, ioAt, insA, chL, getO, setO, getL, setL, obAt, eFd, eFV, eFB, fFld, fMeth, fMethI, fMake, fCallI, aHere, fIsO, sFldS, setF, Rs.fd, Fd.d, O.d, fMethD, chF, sAppF, fPopF, fPop0, fPop1, sIns, sRetI, sRetNI, fZip, fML, opAny, opAll, opSorted, opMaxL, opMinL, opRfind, opCount, List.map_cons, List.map_nil, cInA, cNinA, inD, itD, fItA, eItA, cLtA, cLeA, fRr1, fRr2, opInt, sPar, fCallD, fRaise0, fRaise1, sTryAs, sTry, aftr, noX, allEq_const, fXf, fXi, fLc, lcL, unE, tYs, Vs.ret, xLock, inis, bof, sNil, sSeq, sAsg, sRet, sRetV, sRetN, sIf, sDrop, sTg, sFor, sBrk, sCnt, sApp, sExt, sOwn, sSetI, opSetI, sLock, unlk, sbnd, bnd, fOp, fCh, fCl, fCall, fLst, fTup, fSl, fIf, fAnd, fOr, fNot, fTru, fAndV, fOrV, fNotV, fNeg, fIsi, fM1, fM2, fRg1, fRg2, fEn, fRev, fSg, fTp, fIt, eIt, eB, eV, eC, frz, shm, aCons, aNil, poN, poS, Rs.d, Rs.sl, vB, List.cons_append, List.nil_append, List.append_nil, List.replicate_zero, List.replicate_succ, List.getElem?_cons_zero, List.getElem?_cons_succ, List.set_cons_zero, List.set_cons_succ, List.length_cons, List.length_nil, opLen, lenD, opList, opAdd, opSub, opMul, opMod, opDiv, opPow, opMin, opMax, opIx, opSl, cmpB, cEq, cNe, cIsN, cNotN, truD, tgN, tgT, setAll, isKd, opFind, opFind3, opStarts, opStarts3, Nat.reduceLT, Nat.reduceAdd, Nat.reduceSub, Nat.reduceLeDiff, Int.reduceLT, Int.reduceLE, Int.reduceNeg, reduceIte, and_self, true_and, and_true, decide_true, decide_false, Int.toNat_natCast, at_, w1, w2, ok, eqv_self, Bool.not_true, Bool.not_false]
  have f1' : forL (tgN 2) l1_law_alike (rng 0 ss.length) [.bo (stL ss), .bo (stL ss), .un, .un] = some (.nx [.bo (stL ss), .bo (stL ss), j.1, j.2]) := f1
  have sl2 : (stL ss).length ≤ 1000000 := by omega
  have rn : ((ss.length : Int) - 0).toNat = ss.length := by omega
  unfold g_law_alike b_law_alike i1_law_alike
  simp (disch := first | omega | assumption) only [if_pos, if_neg, decide_eq_true, decide_eq_false, atI_of, cutL_take, cutL_drop, cutL_mid, ge_iff_le, gt_iff_lt, Int.reduceToNat, Int.toNat_zero, Int.toNat_one, Bool.not_true, Bool.not_false, szl, fLcX, fRepl, fMaxD, fEnS, sStuck, fLenS, cGtA, sAppQ, sSetQ, sForT, forTL, opSortT, fDItems, fDKeys, fLcO, D.key, fDNew, fDGet, sDPutV, fDSet, fRg3, fChV, fSortL, frL, frS, fSortB, sRem, sqAt, eIxI, fItm, fItV, chS, sItC, sItA, sItI, sItS, fTmp, Sl.mut, Sl.th, O.d, sqD, D.atm, sTryR, fSq, aConsF, aNilF, eO, sTgF, setFd, Fd.sl, opJoinRev, fLRev, runDef, runDefI, ioAt, insA, chL, getO, setO, getL, setL, obAt, eFd, eFV, eFB, fFld, fMeth, fMethI, fMake, fCallI, aHere, fIsO, sFldS, setF, Rs.fd, Fd.d, O.d, fMethD, chF, sAppF, fPopF, fPop0, fPop1, sIns, sRetI, sRetNI, fZip, fML, opAny, opAll, opSorted, opMaxL, opMinL, opRfind, opCount, List.map_cons, List.map_nil, cInA, cNinA, inD, itD, fItA, eItA, cLtA, cLeA, fRr1, fRr2, opInt, sPar, fCallD, fRaise0, fRaise1, sTryAs, sTry, aftr, noX, allEq_const, fXf, fXi, fLc, lcL, unE, tYs, Vs.ret, xLock, inis, bof, sNil, sSeq, sAsg, sRet, sRetV, sRetN, sIf, sDrop, sTg, sFor, sBrk, sCnt, sApp, sExt, sOwn, sSetI, opSetI, sLock, unlk, sbnd, bnd, fOp, fCh, fCl, fCall, fLst, fTup, fSl, fIf, fAnd, fOr, fNot, fTru, fAndV, fOrV, fNotV, fNeg, fIsi, fM1, fM2, fRg1, fRg2, fEn, fRev, fSg, fTp, fIt, eIt, eB, eV, eC, frz, shm, aCons, aNil, poN, poS, Rs.d, Rs.sl, vB, List.cons_append, List.nil_append, List.append_nil, List.replicate_zero, List.replicate_succ, List.getElem?_cons_zero, List.getElem?_cons_succ, List.set_cons_zero, List.set_cons_succ, List.length_cons, List.length_nil, opLen, lenD, opList, opAdd, opSub, opMul, opMod, opDiv, opPow, opMin, opMax, opIx, opSl, cmpB, cEq, cNe, cIsN, cNotN, truD, tgN, tgT, setAll, isKd, opFind, opFind3, opStarts, opStarts3, Nat.reduceLT, Nat.reduceAdd, Nat.reduceSub, Nat.reduceLeDiff, Int.reduceLT, Int.reduceLE, Int.reduceNeg, reduceIte, and_self, true_and, and_true, decide_true, decide_false, Int.toNat_natCast, sl, rn, f1', Bool.not_true]
theorem law_true : LawTrue g_law := fun ns hn hb => by
  obtain ⟨t, ht, tl⟩ := e_text (ns := ns)
  have r2 : rng 0 2 = [.int 0, .int 1] := rfl
  rcases parse07 tl with ⟨ss, h4, sl, et, du, re⟩ | ⟨du, re⟩
  · have as := e_asked_good re
    have al := e_alike (ss := ss) sl
    have sh := e_shown_steps h4 sl
    rw [← et] at sh
    have sz : (stL ss).length < 1000000 := by rw [stL_len]; omega
    obtain ⟨Q, hQ⟩ : ∃ Q, Q = stL ss := ⟨_, rfl⟩
    rw [← hQ] at as al sh du sz
    have turn : ∀ (u : Int) (s4 s5 : Sl), ∃ t4 t5, l1_law [.sh (.scr ns), .sh (.str t), .ow Q, .sh (.int u), s4, s5] = some (.nx [.sh (.scr ns), .sh (.str t), .ow Q, .sh (.int u), t4, t5]) := fun u s4 s5 => by
      refine ⟨.ow (Q ++ [.tup [.int 7, .int 7, .bl true]]), .sh (.bl false), ?_⟩
      unfold l1_law i3_law i2_law
      simp (disch := first | omega | assumption) only [if_pos, if_neg, decide_eq_true, decide_eq_false, atI_of, cutL_take, cutL_drop, cutL_mid, ge_iff_le, gt_iff_lt, Int.reduceToNat, Int.toNat_zero, Int.toNat_one, Bool.not_true, Bool.not_false, szl, fLcX, fRepl, fMaxD, fEnS, sStuck, fLenS, cGtA, sAppQ, sSetQ, sForT, forTL, opSortT, fDItems, fDKeys, fLcO, D.key, fDNew, fDGet, sDPutV, fDSet, fRg3, fChV, fSortL, frL, frS, fSortB, sRem, sqAt, eIxI, fItm, fItV, chS, sItC, sItA, sItI, sItS, fTmp, Sl.mut, Sl.th, O.d, sqD, D.atm, sTryR, fSq, aConsF, aNilF, eO, sTgF, setFd, Fd.sl, opJoinRev, fLRev, runDef, runDefI, ioAt, insA, chL, getO, setO, getL, setL, obAt, eFd, eFV, eFB, fFld, fMeth, fMethI, fMake, fCallI, aHere, fIsO, sFldS, setF, Rs.fd, Fd.d, O.d, fMethD, chF, sAppF, fPopF, fPop0, fPop1, sIns, sRetI, sRetNI, fZip, fML, opAny, opAll, opSorted, opMaxL, opMinL, opRfind, opCount, List.map_cons, List.map_nil, cInA, cNinA, inD, itD, fItA, eItA, cLtA, cLeA, fRr1, fRr2, opInt, sPar, fCallD, fRaise0, fRaise1, sTryAs, sTry, aftr, noX, allEq_const, fXf, fXi, fLc, lcL, unE, tYs, Vs.ret, xLock, inis, bof, sNil, sSeq, sAsg, sRet, sRetV, sRetN, sIf, sDrop, sTg, sFor, sBrk, sCnt, sApp, sExt, sOwn, sSetI, opSetI, sLock, unlk, sbnd, bnd, fOp, fCh, fCl, fCall, fLst, fTup, fSl, fIf, fAnd, fOr, fNot, fTru, fAndV, fOrV, fNotV, fNeg, fIsi, fM1, fM2, fRg1, fRg2, fEn, fRev, fSg, fTp, fIt, eIt, eB, eV, eC, frz, shm, aCons, aNil, poN, poS, Rs.d, Rs.sl, vB, List.cons_append, List.nil_append, List.append_nil, List.replicate_zero, List.replicate_succ, List.getElem?_cons_zero, List.getElem?_cons_succ, List.set_cons_zero, List.set_cons_succ, List.length_cons, List.length_nil, opLen, lenD, opList, opAdd, opSub, opMul, opMod, opDiv, opPow, opMin, opMax, opIx, opSl, cmpB, cEq, cNe, cIsN, cNotN, truD, tgN, tgT, setAll, isKd, opFind, opFind3, opStarts, opStarts3, Nat.reduceLT, Nat.reduceAdd, Nat.reduceSub, Nat.reduceLeDiff, Int.reduceLT, Int.reduceLE, Int.reduceNeg, reduceIte, and_self, true_and, and_true, decide_true, decide_false, Int.toNat_natCast, as, al, sh, decide_true, Bool.not_true]
    obtain ⟨a4, a5, q1⟩ := turn 0 .un .un
    obtain ⟨b4, b5, q2⟩ := turn 1 a4 a5
    unfold g_law
    refine run_fin ?_
    unfold b_law
    refine fin_seq (by simp (disch := first | omega | assumption) only [if_pos, if_neg, decide_eq_true, decide_eq_false, atI_of, cutL_take, cutL_drop, cutL_mid, ge_iff_le, gt_iff_lt, Int.reduceToNat, Int.toNat_zero, Int.toNat_one, Bool.not_true, Bool.not_false, szl, fLcX, fRepl, fMaxD, fEnS, sStuck, fLenS, cGtA, sAppQ, sSetQ, sForT, forTL, opSortT, fDItems, fDKeys, fLcO, D.key, fDNew, fDGet, sDPutV, fDSet, fRg3, fChV, fSortL, frL, frS, fSortB, sRem, sqAt, eIxI, fItm, fItV, chS, sItC, sItA, sItI, sItS, fTmp, Sl.mut, Sl.th, O.d, sqD, D.atm, sTryR, fSq, aConsF, aNilF, eO, sTgF, setFd, Fd.sl, opJoinRev, fLRev, runDef, runDefI, ioAt, insA, chL, getO, setO, getL, setL, obAt, eFd, eFV, eFB, fFld, fMeth, fMethI, fMake, fCallI, aHere, fIsO, sFldS, setF, Rs.fd, Fd.d, O.d, fMethD, chF, sAppF, fPopF, fPop0, fPop1, sIns, sRetI, sRetNI, fZip, fML, opAny, opAll, opSorted, opMaxL, opMinL, opRfind, opCount, List.map_cons, List.map_nil, cInA, cNinA, inD, itD, fItA, eItA, cLtA, cLeA, fRr1, fRr2, opInt, sPar, fCallD, fRaise0, fRaise1, sTryAs, sTry, aftr, noX, allEq_const, fXf, fXi, fLc, lcL, unE, tYs, Vs.ret, xLock, inis, bof, sNil, sSeq, sAsg, sRet, sRetV, sRetN, sIf, sDrop, sTg, sFor, sBrk, sCnt, sApp, sExt, sOwn, sSetI, opSetI, sLock, unlk, sbnd, bnd, fOp, fCh, fCl, fCall, fLst, fTup, fSl, fIf, fAnd, fOr, fNot, fTru, fAndV, fOrV, fNotV, fNeg, fIsi, fM1, fM2, fRg1, fRg2, fEn, fRev, fSg, fTp, fIt, eIt, eB, eV, eC, frz, shm, aCons, aNil, poN, poS, Rs.d, Rs.sl, vB, List.cons_append, List.nil_append, List.append_nil, List.replicate_zero, List.replicate_succ, List.getElem?_cons_zero, List.getElem?_cons_succ, List.set_cons_zero, List.set_cons_succ, List.length_cons, List.length_nil, opLen, lenD, opList, opAdd, opSub, opMul, opMod, opDiv, opPow, opMin, opMax, opIx, opSl, cmpB, cEq, cNe, cIsN, cNotN, truD, tgN, tgT, setAll, isKd, opFind, opFind3, opStarts, opStarts3, Nat.reduceLT, Nat.reduceAdd, Nat.reduceSub, Nat.reduceLeDiff, Int.reduceLT, Int.reduceLE, Int.reduceNeg, reduceIte, and_self, true_and, and_true, decide_true, decide_false, Int.toNat_natCast, ht]; exact rfl) ?_
    refine fin_seq (by simp (disch := first | omega | assumption) only [if_pos, if_neg, decide_eq_true, decide_eq_false, atI_of, cutL_take, cutL_drop, cutL_mid, ge_iff_le, gt_iff_lt, Int.reduceToNat, Int.toNat_zero, Int.toNat_one, Bool.not_true, Bool.not_false, szl, fLcX, fRepl, fMaxD, fEnS, sStuck, fLenS, cGtA, sAppQ, sSetQ, sForT, forTL, opSortT, fDItems, fDKeys, fLcO, D.key, fDNew, fDGet, sDPutV, fDSet, fRg3, fChV, fSortL, frL, frS, fSortB, sRem, sqAt, eIxI, fItm, fItV, chS, sItC, sItA, sItI, sItS, fTmp, Sl.mut, Sl.th, O.d, sqD, D.atm, sTryR, fSq, aConsF, aNilF, eO, sTgF, setFd, Fd.sl, opJoinRev, fLRev, runDef, runDefI, ioAt, insA, chL, getO, setO, getL, setL, obAt, eFd, eFV, eFB, fFld, fMeth, fMethI, fMake, fCallI, aHere, fIsO, sFldS, setF, Rs.fd, Fd.d, O.d, fMethD, chF, sAppF, fPopF, fPop0, fPop1, sIns, sRetI, sRetNI, fZip, fML, opAny, opAll, opSorted, opMaxL, opMinL, opRfind, opCount, List.map_cons, List.map_nil, cInA, cNinA, inD, itD, fItA, eItA, cLtA, cLeA, fRr1, fRr2, opInt, sPar, fCallD, fRaise0, fRaise1, sTryAs, sTry, aftr, noX, allEq_const, fXf, fXi, fLc, lcL, unE, tYs, Vs.ret, xLock, inis, bof, sNil, sSeq, sAsg, sRet, sRetV, sRetN, sIf, sDrop, sTg, sFor, sBrk, sCnt, sApp, sExt, sOwn, sSetI, opSetI, sLock, unlk, sbnd, bnd, fOp, fCh, fCl, fCall, fLst, fTup, fSl, fIf, fAnd, fOr, fNot, fTru, fAndV, fOrV, fNotV, fNeg, fIsi, fM1, fM2, fRg1, fRg2, fEn, fRev, fSg, fTp, fIt, eIt, eB, eV, eC, frz, shm, aCons, aNil, poN, poS, Rs.d, Rs.sl, vB, List.cons_append, List.nil_append, List.append_nil, List.replicate_zero, List.replicate_succ, List.getElem?_cons_zero, List.getElem?_cons_succ, List.set_cons_zero, List.set_cons_succ, List.length_cons, List.length_nil, opLen, lenD, opList, opAdd, opSub, opMul, opMod, opDiv, opPow, opMin, opMax, opIx, opSl, cmpB, cEq, cNe, cIsN, cNotN, truD, tgN, tgT, setAll, isKd, opFind, opFind3, opStarts, opStarts3, Nat.reduceLT, Nat.reduceAdd, Nat.reduceSub, Nat.reduceLeDiff, Int.reduceLT, Int.reduceLE, Int.reduceNeg, reduceIte, and_self, true_and, and_true, decide_true, decide_false, Int.toNat_natCast, du]; exact rfl) ?_
    refine fin_seq (e1 := [.sh (.scr ns), .sh (.str t), .ow Q, .sh (.int 1), b4, b5]) (by simp (disch := first | omega | assumption) only [if_pos, if_neg, decide_eq_true, decide_eq_false, atI_of, cutL_take, cutL_drop, cutL_mid, ge_iff_le, gt_iff_lt, Int.reduceToNat, Int.toNat_zero, Int.toNat_one, Bool.not_true, Bool.not_false, szl, fLcX, fRepl, fMaxD, fEnS, sStuck, fLenS, cGtA, sAppQ, sSetQ, sForT, forTL, opSortT, fDItems, fDKeys, fLcO, D.key, fDNew, fDGet, sDPutV, fDSet, fRg3, fChV, fSortL, frL, frS, fSortB, sRem, sqAt, eIxI, fItm, fItV, chS, sItC, sItA, sItI, sItS, fTmp, Sl.mut, Sl.th, O.d, sqD, D.atm, sTryR, fSq, aConsF, aNilF, eO, sTgF, setFd, Fd.sl, opJoinRev, fLRev, runDef, runDefI, ioAt, insA, chL, getO, setO, getL, setL, obAt, eFd, eFV, eFB, fFld, fMeth, fMethI, fMake, fCallI, aHere, fIsO, sFldS, setF, Rs.fd, Fd.d, O.d, fMethD, chF, sAppF, fPopF, fPop0, fPop1, sIns, sRetI, sRetNI, fZip, fML, opAny, opAll, opSorted, opMaxL, opMinL, opRfind, opCount, List.map_cons, List.map_nil, cInA, cNinA, inD, itD, fItA, eItA, cLtA, cLeA, fRr1, fRr2, opInt, sPar, fCallD, fRaise0, fRaise1, sTryAs, sTry, aftr, noX, allEq_const, fXf, fXi, fLc, lcL, unE, tYs, Vs.ret, xLock, inis, bof, sNil, sSeq, sAsg, sRet, sRetV, sRetN, sIf, sDrop, sTg, sFor, sBrk, sCnt, sApp, sExt, sOwn, sSetI, opSetI, sLock, unlk, sbnd, bnd, fOp, fCh, fCl, fCall, fLst, fTup, fSl, fIf, fAnd, fOr, fNot, fTru, fAndV, fOrV, fNotV, fNeg, fIsi, fM1, fM2, fRg1, fRg2, fEn, fRev, fSg, fTp, fIt, eIt, eB, eV, eC, frz, shm, aCons, aNil, poN, poS, Rs.d, Rs.sl, vB, List.cons_append, List.nil_append, List.append_nil, List.replicate_zero, List.replicate_succ, List.getElem?_cons_zero, List.getElem?_cons_succ, List.set_cons_zero, List.set_cons_succ, List.length_cons, List.length_nil, opLen, lenD, opList, opAdd, opSub, opMul, opMod, opDiv, opPow, opMin, opMax, opIx, opSl, cmpB, cEq, cNe, cIsN, cNotN, truD, tgN, tgT, setAll, isKd, opFind, opFind3, opStarts, opStarts3, Nat.reduceLT, Nat.reduceAdd, Nat.reduceSub, Nat.reduceLeDiff, Int.reduceLT, Int.reduceLE, Int.reduceNeg, reduceIte, and_self, true_and, and_true, decide_true, decide_false, Int.toNat_natCast, r2, forL, q1, q2]) ?_
    simp (disch := first | omega | assumption) only [if_pos, if_neg, decide_eq_true, decide_eq_false, atI_of, cutL_take, cutL_drop, cutL_mid, ge_iff_le, gt_iff_lt, Int.reduceToNat, Int.toNat_zero, Int.toNat_one, Bool.not_true, Bool.not_false, szl, fLcX, fRepl, fMaxD, fEnS, sStuck, fLenS, cGtA, sAppQ, sSetQ, sForT, forTL, opSortT, fDItems, fDKeys, fLcO, D.key, fDNew, fDGet, sDPutV, fDSet, fRg3, fChV, fSortL, frL, frS, fSortB, sRem, sqAt, eIxI, fItm, fItV, chS, sItC, sItA, sItI, sItS, fTmp, Sl.mut, Sl.th, O.d, sqD, D.atm, sTryR, fSq, aConsF, aNilF, eO, sTgF, setFd, Fd.sl, opJoinRev, fLRev, runDef, runDefI, ioAt, insA, chL, getO, setO, getL, setL, obAt, eFd, eFV, eFB, fFld, fMeth, fMethI, fMake, fCallI, aHere, fIsO, sFldS, setF, Rs.fd, Fd.d, O.d, fMethD, chF, sAppF, fPopF, fPop0, fPop1, sIns, sRetI, sRetNI, fZip, fML, opAny, opAll, opSorted, opMaxL, opMinL, opRfind, opCount, List.map_cons, List.map_nil, cInA, cNinA, inD, itD, fItA, eItA, cLtA, cLeA, fRr1, fRr2, opInt, sPar, fCallD, fRaise0, fRaise1, sTryAs, sTry, aftr, noX, allEq_const, fXf, fXi, fLc, lcL, unE, tYs, Vs.ret, xLock, inis, bof, sNil, sSeq, sAsg, sRet, sRetV, sRetN, sIf, sDrop, sTg, sFor, sBrk, sCnt, sApp, sExt, sOwn, sSetI, opSetI, sLock, unlk, sbnd, bnd, fOp, fCh, fCl, fCall, fLst, fTup, fSl, fIf, fAnd, fOr, fNot, fTru, fAndV, fOrV, fNotV, fNeg, fIsi, fM1, fM2, fRg1, fRg2, fEn, fRev, fSg, fTp, fIt, eIt, eB, eV, eC, frz, shm, aCons, aNil, poN, poS, Rs.d, Rs.sl, vB, List.cons_append, List.nil_append, List.append_nil, List.replicate_zero, List.replicate_succ, List.getElem?_cons_zero, List.getElem?_cons_succ, List.set_cons_zero, List.set_cons_succ, List.length_cons, List.length_nil, opLen, lenD, opList, opAdd, opSub, opMul, opMod, opDiv, opPow, opMin, opMax, opIx, opSl, cmpB, cEq, cNe, cIsN, cNotN, truD, tgN, tgT, setAll, isKd, opFind, opFind3, opStarts, opStarts3, Nat.reduceLT, Nat.reduceAdd, Nat.reduceSub, Nat.reduceLeDiff, Int.reduceLT, Int.reduceLE, Int.reduceNeg, reduceIte, and_self, true_and, and_true, decide_true, decide_false, Int.toNat_natCast]
    rfl
  · have as := e_asked_bad re
    have turn : ∀ (u : Int) (s4 s5 : Sl), l1_law [.sh (.scr ns), .sh (.str t), .sh .non, .sh (.int u), s4, s5] = some (.nx [.sh (.scr ns), .sh (.str t), .sh .non, .sh (.int u), .sh .non, .sh (.bl true)]) := fun u s4 s5 => by
      unfold l1_law i3_law i1_law
      simp (disch := first | omega | assumption) only [if_pos, if_neg, decide_eq_true, decide_eq_false, atI_of, cutL_take, cutL_drop, cutL_mid, ge_iff_le, gt_iff_lt, Int.reduceToNat, Int.toNat_zero, Int.toNat_one, Bool.not_true, Bool.not_false, szl, fLcX, fRepl, fMaxD, fEnS, sStuck, fLenS, cGtA, sAppQ, sSetQ, sForT, forTL, opSortT, fDItems, fDKeys, fLcO, D.key, fDNew, fDGet, sDPutV, fDSet, fRg3, fChV, fSortL, frL, frS, fSortB, sRem, sqAt, eIxI, fItm, fItV, chS, sItC, sItA, sItI, sItS, fTmp, Sl.mut, Sl.th, O.d, sqD, D.atm, sTryR, fSq, aConsF, aNilF, eO, sTgF, setFd, Fd.sl, opJoinRev, fLRev, runDef, runDefI, ioAt, insA, chL, getO, setO, getL, setL, obAt, eFd, eFV, eFB, fFld, fMeth, fMethI, fMake, fCallI, aHere, fIsO, sFldS, setF, Rs.fd, Fd.d, O.d, fMethD, chF, sAppF, fPopF, fPop0, fPop1, sIns, sRetI, sRetNI, fZip, fML, opAny, opAll, opSorted, opMaxL, opMinL, opRfind, opCount, List.map_cons, List.map_nil, cInA, cNinA, inD, itD, fItA, eItA, cLtA, cLeA, fRr1, fRr2, opInt, sPar, fCallD, fRaise0, fRaise1, sTryAs, sTry, aftr, noX, allEq_const, fXf, fXi, fLc, lcL, unE, tYs, Vs.ret, xLock, inis, bof, sNil, sSeq, sAsg, sRet, sRetV, sRetN, sIf, sDrop, sTg, sFor, sBrk, sCnt, sApp, sExt, sOwn, sSetI, opSetI, sLock, unlk, sbnd, bnd, fOp, fCh, fCl, fCall, fLst, fTup, fSl, fIf, fAnd, fOr, fNot, fTru, fAndV, fOrV, fNotV, fNeg, fIsi, fM1, fM2, fRg1, fRg2, fEn, fRev, fSg, fTp, fIt, eIt, eB, eV, eC, frz, shm, aCons, aNil, poN, poS, Rs.d, Rs.sl, vB, List.cons_append, List.nil_append, List.append_nil, List.replicate_zero, List.replicate_succ, List.getElem?_cons_zero, List.getElem?_cons_succ, List.set_cons_zero, List.set_cons_succ, List.length_cons, List.length_nil, opLen, lenD, opList, opAdd, opSub, opMul, opMod, opDiv, opPow, opMin, opMax, opIx, opSl, cmpB, cEq, cNe, cIsN, cNotN, truD, tgN, tgT, setAll, isKd, opFind, opFind3, opStarts, opStarts3, Nat.reduceLT, Nat.reduceAdd, Nat.reduceSub, Nat.reduceLeDiff, Int.reduceLT, Int.reduceLE, Int.reduceNeg, reduceIte, and_self, true_and, and_true, decide_true, decide_false, Int.toNat_natCast, as, Bool.not_true]
    unfold g_law
    refine run_fin ?_
    unfold b_law
    refine fin_seq (by simp (disch := first | omega | assumption) only [if_pos, if_neg, decide_eq_true, decide_eq_false, atI_of, cutL_take, cutL_drop, cutL_mid, ge_iff_le, gt_iff_lt, Int.reduceToNat, Int.toNat_zero, Int.toNat_one, Bool.not_true, Bool.not_false, szl, fLcX, fRepl, fMaxD, fEnS, sStuck, fLenS, cGtA, sAppQ, sSetQ, sForT, forTL, opSortT, fDItems, fDKeys, fLcO, D.key, fDNew, fDGet, sDPutV, fDSet, fRg3, fChV, fSortL, frL, frS, fSortB, sRem, sqAt, eIxI, fItm, fItV, chS, sItC, sItA, sItI, sItS, fTmp, Sl.mut, Sl.th, O.d, sqD, D.atm, sTryR, fSq, aConsF, aNilF, eO, sTgF, setFd, Fd.sl, opJoinRev, fLRev, runDef, runDefI, ioAt, insA, chL, getO, setO, getL, setL, obAt, eFd, eFV, eFB, fFld, fMeth, fMethI, fMake, fCallI, aHere, fIsO, sFldS, setF, Rs.fd, Fd.d, O.d, fMethD, chF, sAppF, fPopF, fPop0, fPop1, sIns, sRetI, sRetNI, fZip, fML, opAny, opAll, opSorted, opMaxL, opMinL, opRfind, opCount, List.map_cons, List.map_nil, cInA, cNinA, inD, itD, fItA, eItA, cLtA, cLeA, fRr1, fRr2, opInt, sPar, fCallD, fRaise0, fRaise1, sTryAs, sTry, aftr, noX, allEq_const, fXf, fXi, fLc, lcL, unE, tYs, Vs.ret, xLock, inis, bof, sNil, sSeq, sAsg, sRet, sRetV, sRetN, sIf, sDrop, sTg, sFor, sBrk, sCnt, sApp, sExt, sOwn, sSetI, opSetI, sLock, unlk, sbnd, bnd, fOp, fCh, fCl, fCall, fLst, fTup, fSl, fIf, fAnd, fOr, fNot, fTru, fAndV, fOrV, fNotV, fNeg, fIsi, fM1, fM2, fRg1, fRg2, fEn, fRev, fSg, fTp, fIt, eIt, eB, eV, eC, frz, shm, aCons, aNil, poN, poS, Rs.d, Rs.sl, vB, List.cons_append, List.nil_append, List.append_nil, List.replicate_zero, List.replicate_succ, List.getElem?_cons_zero, List.getElem?_cons_succ, List.set_cons_zero, List.set_cons_succ, List.length_cons, List.length_nil, opLen, lenD, opList, opAdd, opSub, opMul, opMod, opDiv, opPow, opMin, opMax, opIx, opSl, cmpB, cEq, cNe, cIsN, cNotN, truD, tgN, tgT, setAll, isKd, opFind, opFind3, opStarts, opStarts3, Nat.reduceLT, Nat.reduceAdd, Nat.reduceSub, Nat.reduceLeDiff, Int.reduceLT, Int.reduceLE, Int.reduceNeg, reduceIte, and_self, true_and, and_true, decide_true, decide_false, Int.toNat_natCast, ht]; exact rfl) ?_
    refine fin_seq (by simp (disch := first | omega | assumption) only [if_pos, if_neg, decide_eq_true, decide_eq_false, atI_of, cutL_take, cutL_drop, cutL_mid, ge_iff_le, gt_iff_lt, Int.reduceToNat, Int.toNat_zero, Int.toNat_one, Bool.not_true, Bool.not_false, szl, fLcX, fRepl, fMaxD, fEnS, sStuck, fLenS, cGtA, sAppQ, sSetQ, sForT, forTL, opSortT, fDItems, fDKeys, fLcO, D.key, fDNew, fDGet, sDPutV, fDSet, fRg3, fChV, fSortL, frL, frS, fSortB, sRem, sqAt, eIxI, fItm, fItV, chS, sItC, sItA, sItI, sItS, fTmp, Sl.mut, Sl.th, O.d, sqD, D.atm, sTryR, fSq, aConsF, aNilF, eO, sTgF, setFd, Fd.sl, opJoinRev, fLRev, runDef, runDefI, ioAt, insA, chL, getO, setO, getL, setL, obAt, eFd, eFV, eFB, fFld, fMeth, fMethI, fMake, fCallI, aHere, fIsO, sFldS, setF, Rs.fd, Fd.d, O.d, fMethD, chF, sAppF, fPopF, fPop0, fPop1, sIns, sRetI, sRetNI, fZip, fML, opAny, opAll, opSorted, opMaxL, opMinL, opRfind, opCount, List.map_cons, List.map_nil, cInA, cNinA, inD, itD, fItA, eItA, cLtA, cLeA, fRr1, fRr2, opInt, sPar, fCallD, fRaise0, fRaise1, sTryAs, sTry, aftr, noX, allEq_const, fXf, fXi, fLc, lcL, unE, tYs, Vs.ret, xLock, inis, bof, sNil, sSeq, sAsg, sRet, sRetV, sRetN, sIf, sDrop, sTg, sFor, sBrk, sCnt, sApp, sExt, sOwn, sSetI, opSetI, sLock, unlk, sbnd, bnd, fOp, fCh, fCl, fCall, fLst, fTup, fSl, fIf, fAnd, fOr, fNot, fTru, fAndV, fOrV, fNotV, fNeg, fIsi, fM1, fM2, fRg1, fRg2, fEn, fRev, fSg, fTp, fIt, eIt, eB, eV, eC, frz, shm, aCons, aNil, poN, poS, Rs.d, Rs.sl, vB, List.cons_append, List.nil_append, List.append_nil, List.replicate_zero, List.replicate_succ, List.getElem?_cons_zero, List.getElem?_cons_succ, List.set_cons_zero, List.set_cons_succ, List.length_cons, List.length_nil, opLen, lenD, opList, opAdd, opSub, opMul, opMod, opDiv, opPow, opMin, opMax, opIx, opSl, cmpB, cEq, cNe, cIsN, cNotN, truD, tgN, tgT, setAll, isKd, opFind, opFind3, opStarts, opStarts3, Nat.reduceLT, Nat.reduceAdd, Nat.reduceSub, Nat.reduceLeDiff, Int.reduceLT, Int.reduceLE, Int.reduceNeg, reduceIte, and_self, true_and, and_true, decide_true, decide_false, Int.toNat_natCast, du]; exact rfl) ?_
    refine fin_seq (e1 := [.sh (.scr ns), .sh (.str t), .sh .non, .sh (.int 1), .sh .non, .sh (.bl true)]) (by simp (disch := first | omega | assumption) only [if_pos, if_neg, decide_eq_true, decide_eq_false, atI_of, cutL_take, cutL_drop, cutL_mid, ge_iff_le, gt_iff_lt, Int.reduceToNat, Int.toNat_zero, Int.toNat_one, Bool.not_true, Bool.not_false, szl, fLcX, fRepl, fMaxD, fEnS, sStuck, fLenS, cGtA, sAppQ, sSetQ, sForT, forTL, opSortT, fDItems, fDKeys, fLcO, D.key, fDNew, fDGet, sDPutV, fDSet, fRg3, fChV, fSortL, frL, frS, fSortB, sRem, sqAt, eIxI, fItm, fItV, chS, sItC, sItA, sItI, sItS, fTmp, Sl.mut, Sl.th, O.d, sqD, D.atm, sTryR, fSq, aConsF, aNilF, eO, sTgF, setFd, Fd.sl, opJoinRev, fLRev, runDef, runDefI, ioAt, insA, chL, getO, setO, getL, setL, obAt, eFd, eFV, eFB, fFld, fMeth, fMethI, fMake, fCallI, aHere, fIsO, sFldS, setF, Rs.fd, Fd.d, O.d, fMethD, chF, sAppF, fPopF, fPop0, fPop1, sIns, sRetI, sRetNI, fZip, fML, opAny, opAll, opSorted, opMaxL, opMinL, opRfind, opCount, List.map_cons, List.map_nil, cInA, cNinA, inD, itD, fItA, eItA, cLtA, cLeA, fRr1, fRr2, opInt, sPar, fCallD, fRaise0, fRaise1, sTryAs, sTry, aftr, noX, allEq_const, fXf, fXi, fLc, lcL, unE, tYs, Vs.ret, xLock, inis, bof, sNil, sSeq, sAsg, sRet, sRetV, sRetN, sIf, sDrop, sTg, sFor, sBrk, sCnt, sApp, sExt, sOwn, sSetI, opSetI, sLock, unlk, sbnd, bnd, fOp, fCh, fCl, fCall, fLst, fTup, fSl, fIf, fAnd, fOr, fNot, fTru, fAndV, fOrV, fNotV, fNeg, fIsi, fM1, fM2, fRg1, fRg2, fEn, fRev, fSg, fTp, fIt, eIt, eB, eV, eC, frz, shm, aCons, aNil, poN, poS, Rs.d, Rs.sl, vB, List.cons_append, List.nil_append, List.append_nil, List.replicate_zero, List.replicate_succ, List.getElem?_cons_zero, List.getElem?_cons_succ, List.set_cons_zero, List.set_cons_succ, List.length_cons, List.length_nil, opLen, lenD, opList, opAdd, opSub, opMul, opMod, opDiv, opPow, opMin, opMax, opIx, opSl, cmpB, cEq, cNe, cIsN, cNotN, truD, tgN, tgT, setAll, isKd, opFind, opFind3, opStarts, opStarts3, Nat.reduceLT, Nat.reduceAdd, Nat.reduceSub, Nat.reduceLeDiff, Int.reduceLT, Int.reduceLE, Int.reduceNeg, reduceIte, and_self, true_and, and_true, decide_true, decide_false, Int.toNat_natCast, r2, forL, turn]) ?_
    simp (disch := first | omega | assumption) only [if_pos, if_neg, decide_eq_true, decide_eq_false, atI_of, cutL_take, cutL_drop, cutL_mid, ge_iff_le, gt_iff_lt, Int.reduceToNat, Int.toNat_zero, Int.toNat_one, Bool.not_true, Bool.not_false, szl, fLcX, fRepl, fMaxD, fEnS, sStuck, fLenS, cGtA, sAppQ, sSetQ, sForT, forTL, opSortT, fDItems, fDKeys, fLcO, D.key, fDNew, fDGet, sDPutV, fDSet, fRg3, fChV, fSortL, frL, frS, fSortB, sRem, sqAt, eIxI, fItm, fItV, chS, sItC, sItA, sItI, sItS, fTmp, Sl.mut, Sl.th, O.d, sqD, D.atm, sTryR, fSq, aConsF, aNilF, eO, sTgF, setFd, Fd.sl, opJoinRev, fLRev, runDef, runDefI, ioAt, insA, chL, getO, setO, getL, setL, obAt, eFd, eFV, eFB, fFld, fMeth, fMethI, fMake, fCallI, aHere, fIsO, sFldS, setF, Rs.fd, Fd.d, O.d, fMethD, chF, sAppF, fPopF, fPop0, fPop1, sIns, sRetI, sRetNI, fZip, fML, opAny, opAll, opSorted, opMaxL, opMinL, opRfind, opCount, List.map_cons, List.map_nil, cInA, cNinA, inD, itD, fItA, eItA, cLtA, cLeA, fRr1, fRr2, opInt, sPar, fCallD, fRaise0, fRaise1, sTryAs, sTry, aftr, noX, allEq_const, fXf, fXi, fLc, lcL, unE, tYs, Vs.ret, xLock, inis, bof, sNil, sSeq, sAsg, sRet, sRetV, sRetN, sIf, sDrop, sTg, sFor, sBrk, sCnt, sApp, sExt, sOwn, sSetI, opSetI, sLock, unlk, sbnd, bnd, fOp, fCh, fCl, fCall, fLst, fTup, fSl, fIf, fAnd, fOr, fNot, fTru, fAndV, fOrV, fNotV, fNeg, fIsi, fM1, fM2, fRg1, fRg2, fEn, fRev, fSg, fTp, fIt, eIt, eB, eV, eC, frz, shm, aCons, aNil, poN, poS, Rs.d, Rs.sl, vB, List.cons_append, List.nil_append, List.append_nil, List.replicate_zero, List.replicate_succ, List.getElem?_cons_zero, List.getElem?_cons_succ, List.set_cons_zero, List.set_cons_succ, List.length_cons, List.length_nil, opLen, lenD, opList, opAdd, opSub, opMul, opMod, opDiv, opPow, opMin, opMax, opIx, opSl, cmpB, cEq, cNe, cIsN, cNotN, truD, tgN, tgT, setAll, isKd, opFind, opFind3, opStarts, opStarts3, Nat.reduceLT, Nat.reduceAdd, Nat.reduceSub, Nat.reduceLeDiff, Int.reduceLT, Int.reduceLE, Int.reduceNeg, reduceIte, and_self, true_and, and_true, decide_true, decide_false, Int.toNat_natCast]
    rfl

end Lw


set_option Elab.async false
set_option linter.all false
set_option maxRecDepth 100000
set_option maxHeartbeats 4000000
namespace Lw
open PySem L2 Vs
def topS (i : Nat) : Stmt := PySem.Challenge.pw_letterlaw_k07_steps_read.main.body.getD i (.Pass ⟨0, 0, 0, 0⟩)
structure Txt (κ : Kx) (mg : Str → Option Value) : Prop where
  xf : κ.xf = xf
  g_LetterError : mg "LetterError" = some (.ref (κ.xc 0))
  g_NoWord : mg "NoWord" = some (.ref (κ.xc 1))
  g_NoPact : mg "NoPact" = some (.ref (κ.xc 2))
  g_NoStep : mg "NoStep" = some (.ref (κ.xc 3))
  g_NoUse : mg "NoUse" = some (.ref (κ.xc 4))
  g_NoRow : mg "NoRow" = some (.ref (κ.xc 5))
  e_NoStep : PySem.W.excIn κ.K (κ.xc 3) veB "ValueError.__new__" = true
  k_NoStep : PySem.W.keepIn κ.K (.ref (κ.xc 3)) = true
  b_NoStep : PySem.W.subIn κ.K (.ref (κ.xc 3)) (.type "BaseException") = some true
  t_NoStep : PySem.W.typeIn κ.K (.ref (κ.xc 3)) = some (.type "type")
  isB : IsB κ.K
  i_NoRow : KsOk κ [.ref (κ.xc 5)] (fun c => ks c 5)
  i_NoUse : KsOk κ [.ref (κ.xc 4)] (fun c => ks c 4)
  i_NoWord : KsOk κ [.ref (κ.xc 1)] (fun c => ks c 1)
  i_NoPact : KsOk κ [.ref (κ.xc 2)] (fun c => ks c 2)
  i_ValueError : KsOk κ [.type "ValueError"] (fun c => ks c 1000)
  i_LetterError : KsOk κ [.ref (κ.xc 0)] (fun c => ks c 0)
  x_NoStep : XsOk κ xs 3
  d_law_written : ∃ (f : Addr) (fd : FuncData), Fun κ.K "_law_written" "_law_written" (topS 17) f fd ∧ mg "_law_written" = some (.ref f)
  d_law_cell_at : ∃ (f : Addr) (fd : FuncData), Fun κ.K "_law_cell_at" "_law_cell_at" (topS 15) f fd ∧ mg "_law_cell_at" = some (.ref f)
  d_law_odd_text : ∃ (f : Addr) (fd : FuncData), Fun κ.K "_law_odd_text" "_law_odd_text" (topS 18) f fd ∧ mg "_law_odd_text" = some (.ref f)
  d_law_text : ∃ (f : Addr) (fd : FuncData), Fun κ.K "_law_text" "_law_text" (topS 19) f fd ∧ mg "_law_text" = some (.ref f)
  d_law_number : ∃ (f : Addr) (fd : FuncData), Fun κ.K "_law_number" "_law_number" (topS 20) f fd ∧ mg "_law_number" = some (.ref f)
  d_law_step : ∃ (f : Addr) (fd : FuncData), Fun κ.K "_law_step" "_law_step" (topS 21) f fd ∧ mg "_law_step" = some (.ref f)
  d_law_due : ∃ (f : Addr) (fd : FuncData), Fun κ.K "_law_due" "_law_due" (topS 22) f fd ∧ mg "_law_due" = some (.ref f)
  d_number_of : ∃ (f : Addr) (fd : FuncData), Fun κ.K "number_of" "number_of" (topS 11) f fd ∧ mg "number_of" = some (.ref f)
  d_read_step : ∃ (f : Addr) (fd : FuncData), Fun κ.K "read_step" "read_step" (topS 12) f fd ∧ mg "read_step" = some (.ref f)
  d_read_steps : ∃ (f : Addr) (fd : FuncData), Fun κ.K "read_steps" "read_steps" (topS 13) f fd ∧ mg "read_steps" = some (.ref f)
  d_law_another : ∃ (f : Addr) (fd : FuncData), Fun κ.K "_law_another" "_law_another" (topS 23) f fd ∧ mg "_law_another" = some (.ref f)
  d_law_asked : ∃ (f : Addr) (fd : FuncData), Fun κ.K "_law_asked" "_law_asked" (topS 24) f fd ∧ mg "_law_asked" = some (.ref f)
  d_law_whole : ∃ (f : Addr) (fd : FuncData), Fun κ.K "_law_whole" "_law_whole" (topS 16) f fd ∧ mg "_law_whole" = some (.ref f)
  d_law_alike : ∃ (f : Addr) (fd : FuncData), Fun κ.K "_law_alike" "_law_alike" (topS 25) f fd ∧ mg "_law_alike" = some (.ref f)
  d_shown_step : ∃ (f : Addr) (fd : FuncData), Fun κ.K "shown_step" "shown_step" (topS 9) f fd ∧ mg "shown_step" = some (.ref f)
  d_shown_steps : ∃ (f : Addr) (fd : FuncData), Fun κ.K "shown_steps" "shown_steps" (topS 10) f fd ∧ mg "shown_steps" = some (.ref f)
  d_law : ∃ (f : Addr) (fd : FuncData), Fun κ.K "law" "law" (topS 26) f fd ∧ mg "law" = some (.ref f)
  z_str : mg "str" = none
  z_len : mg "len" = none
  z_range : mg "range" = none
  m_FIGURES : ∃ t, mg "FIGURES" = some (.str (S c_FIGURES) t)
  z_int : mg "int" = none
  z_isinstance : mg "isinstance" = none
  z_ValueError : mg "ValueError" = none
  z_bool : mg "bool" = none
  z_list : mg "list" = none
  z_tuple : mg "tuple" = none
section
variable {P : Program} {w : World} {κ : Kx} {mg : Str → Option Value} {base : Heap}
abbrev s_law_written : Stmt := topS 17
theorem sc_law_written : FnScope ["_law_cell", "_law_number_here", "_law_place", "_law_size"] ["_law_cell"] (defScope s_law_written) := ⟨rfl, rfl, rfl, by decide +kernel, rfl, by decide +kernel, by decide +kernel⟩
theorem fn_law_written {f : Addr} {fd : FuncData} (F : Fun κ.K "_law_written" "_law_written" s_law_written f fd) (T : Txt κ mg) : FnOk P w κ.K mg base (L2.CX P w) 1 f fd ["_law_cell"] (spV κ [true] g_law_written) := by
  have sc := sc_law_written
  refine F.okX sc (fun vs H Q E h => spV_len h) fun cdv A outer s H vs Q E hr h => ⟨tS κ (fun c d _ H' => E c d H') b_law_written, ?_, v_end (k := 3) rfl h⟩
  have tk : Takes (cxOf (L2.CX P w) P w κ.K mg base ["_law_cell", "_law_number_here", "_law_place", "_law_size"] "_law_written" (defScope s_law_written) f cdv A outer s H E) (fun c d _ H' => E c d H') := takes_of rfl rfl rfl rfl
  have hp := passes_of (X := cxOf (L2.CX P w) P w κ.K mg base ["_law_cell", "_law_number_here", "_law_place", "_law_size"] "_law_written" (defScope s_law_written) f cdv A outer s H E) rfl
  exact s_cons (s_asg (i := 1) sc.nd rfl (by first | exact Or.inl rfl | exact Or.inr rfl) (v_op op_mod s_mod (v_bo (v_frz (v_op o_mul s_mul (v_bo (v_frz (v_op o_add s_add (v_bo (v_frz (v_op op_mod s_mod (b_var (pv 0)) (v_bo (v_int))))) (v_bo (v_int))))) (v_bo (v_int))))) (v_bo (v_int)))) (s_cons (s_asg (i := 2) sc.nd rfl (by first | exact Or.inl rfl | exact Or.inr rfl) (v_op op_mod s_mod (v_bo (v_frz (v_op o_mul s_mul (b_var (pv 1)) (v_bo (v_int))))) (v_bo (v_int)))) (s_cons (s_asg (i := 3) sc.nd rfl (by first | exact Or.inl rfl | exact Or.inr rfl) (v_sh (v_ix rfl (v_bo (v_frz (v_lst (ms := [false, false, false, false]) rfl (a_sh (v_int) (a_sh (v_int) (a_sh (v_int) (a_sh (v_int) (a_nil)))))))) (v_bo (v_frz (v_op op_mod s_mod (v_bo (v_frz (v_op op_fdivW s_div (b_var (pv 1)) (v_bo (v_int))))) (v_bo (v_int))))) (fun _ _ => rfl)))) (s_one (s_ret (v_op o_add s_add (v_bo (v_frz (v_op o_add s_add (v_bo (v_frz (v_callTy call_str_int s_str rfl T.z_str (by decide +kernel) (a_bo (v_bo (v_frz (v_op op_mod s_mod (v_bo (v_frz (v_op op_fdivW s_div (b_var (pv 1)) (v_bo (v_int))))) (b_var (pv 3))))) (a_nil))))) (v_bo (v_ix rfl (v_bo (v_frz (v_lst (ms := [false, false]) rfl (a_sh (v_str (by rfl)) (a_sh (v_str (by rfl)) (a_nil)))))) (v_bo (v_frz (v_op op_mod s_mod (b_var (pv 2)) (v_bo (v_int))))) (fun _ _ => rfl)))))) (v_bo (v_frz (v_callTy call_str_int s_str rfl T.z_str (by decide +kernel) (a_bo (v_bo (v_frz (v_op op_mod s_mod (v_bo (v_frz (v_op op_fdivW s_div (b_var (pv 2)) (v_bo (v_int))))) (b_var (pv 3))))) (a_nil))))))))))
theorem ok_law_written (T : Txt κ mg) : VFn P w κ mg base "_law_written" 1 [true] g_law_written := by
  obtain ⟨f, fd, F, hm⟩ := T.d_law_written
  exact ⟨f, fd, ["_law_cell"], hm, F.kp, fn_law_written F T, F.binds (ps := ["_law_cell"]) fun _ _ _ _ _ _ us hl => match us, hl with | [_], _ => rfl⟩
abbrev s_law_cell_at : Stmt := topS 15
theorem sc_law_cell_at : FnScope ["_law_script", "_law_k"] ["_law_script", "_law_k"] (defScope s_law_cell_at) := ⟨rfl, rfl, rfl, by decide +kernel, rfl, by decide +kernel, by decide +kernel⟩
theorem fn_law_cell_at {f : Addr} {fd : FuncData} (F : Fun κ.K "_law_cell_at" "_law_cell_at" s_law_cell_at f fd) (T : Txt κ mg) : FnOk P w κ.K mg base (L2.CX P w) 1 f fd ["_law_script", "_law_k"] (spV κ [true, true] g_law_cell_at) := by
  have sc := sc_law_cell_at
  refine F.okX sc (fun vs H Q E h => spV_len h) fun cdv A outer s H vs Q E hr h => ⟨tS κ (fun c d _ H' => E c d H') b_law_cell_at, ?_, v_end (k := 0) rfl h⟩
  have tk : Takes (cxOf (L2.CX P w) P w κ.K mg base ["_law_script", "_law_k"] "_law_cell_at" (defScope s_law_cell_at) f cdv A outer s H E) (fun c d _ H' => E c d H') := takes_of rfl rfl rfl rfl
  have hp := passes_of (X := cxOf (L2.CX P w) P w κ.K mg base ["_law_script", "_law_k"] "_law_cell_at" (defScope s_law_cell_at) f cdv A outer s H E) rfl
  exact s_cons (s_if (t_cmp (o_ltA rfl hr.units) s_ltA (b_var (pv 1)) (v_bo (v_frz (v_callB call_len s_len rfl T.z_len PySem.boot_len (a_bo (b_var (pv 0)) (a_nil))))) (nomark _)) (s_one (s_ret (v_sh (v_ix rfl (b_var (pv 0)) (b_var (pv 1)) (fun _ _ => rfl))))) (s_nil)) (s_one (s_ret (v_sh (v_int))))
theorem ok_law_cell_at (T : Txt κ mg) : VFn P w κ mg base "_law_cell_at" 1 [true, true] g_law_cell_at := by
  obtain ⟨f, fd, F, hm⟩ := T.d_law_cell_at
  exact ⟨f, fd, ["_law_script", "_law_k"], hm, F.kp, fn_law_cell_at F T, F.binds (ps := ["_law_script", "_law_k"]) fun _ _ _ _ _ _ us hl => match us, hl with | [_, _], _ => rfl⟩
abbrev s_law_odd_text : Stmt := topS 18
theorem sc_law_odd_text : FnScope ["_law_cell", "_law_some"] ["_law_cell"] (defScope s_law_odd_text) := ⟨rfl, rfl, rfl, by decide +kernel, rfl, by decide +kernel, by decide +kernel⟩
theorem fn_law_odd_text {f : Addr} {fd : FuncData} (F : Fun κ.K "_law_odd_text" "_law_odd_text" s_law_odd_text f fd) (T : Txt κ mg) : FnOk P w κ.K mg base (L2.CX P w) 1 f fd ["_law_cell"] (spV κ [true] g_law_odd_text) := by
  have sc := sc_law_odd_text
  refine F.okX sc (fun vs H Q E h => spV_len h) fun cdv A outer s H vs Q E hr h => ⟨tS κ (fun c d _ H' => E c d H') b_law_odd_text, ?_, v_end (k := 1) rfl h⟩
  have tk : Takes (cxOf (L2.CX P w) P w κ.K mg base ["_law_cell", "_law_some"] "_law_odd_text" (defScope s_law_odd_text) f cdv A outer s H E) (fun c d _ H' => E c d H') := takes_of rfl rfl rfl rfl
  have hp := passes_of (X := cxOf (L2.CX P w) P w κ.K mg base ["_law_cell", "_law_some"] "_law_odd_text" (defScope s_law_odd_text) f cdv A outer s H E) rfl
  exact s_cons (s_asg (i := 1) sc.nd rfl (by first | exact Or.inl rfl | exact Or.inr rfl) (v_lst (ms := [false, false, false, false, false, false, false, false, false, false, false, false, false, false]) rfl (a_sh (v_str (by rfl)) (a_sh (v_str (by rfl)) (a_sh (v_str (by rfl)) (a_sh (v_str (by rfl)) (a_sh (v_str (by rfl)) (a_sh (v_str (by rfl)) (a_sh (v_str (by rfl)) (a_sh (v_str (by rfl)) (a_sh (v_str (by rfl)) (a_sh (v_str (by rfl)) (a_sh (v_str (by rfl)) (a_sh (v_str (by rfl)) (a_sh (v_str (by rfl)) (a_sh (v_str (by rfl)) (a_nil))))))))))))))))) (s_cons (s_asg (i := 1) sc.nd rfl (by first | exact Or.inl rfl | exact Or.inr rfl) (v_op o_add s_add (b_var (pv 1)) (v_bo (v_frz (v_lst (ms := [false, false, false, false, false, false, false, false]) rfl (a_sh (v_str (by rfl)) (a_sh (v_str (by rfl)) (a_sh (v_str (by rfl)) (a_sh (v_str (by rfl)) (a_sh (v_str (by rfl)) (a_sh (v_str (by rfl)) (a_sh (v_str (by rfl)) (a_sh (v_str (by rfl)) (a_nil)))))))))))))) (s_one (s_ret (v_sh (v_ix rfl (b_var (pv 1)) (v_bo (v_frz (v_op op_mod s_mod (b_var (pv 0)) (v_bo (v_int))))) (fun _ _ => rfl))))))
theorem ok_law_odd_text (T : Txt κ mg) : VFn P w κ mg base "_law_odd_text" 1 [true] g_law_odd_text := by
  obtain ⟨f, fd, F, hm⟩ := T.d_law_odd_text
  exact ⟨f, fd, ["_law_cell"], hm, F.kp, fn_law_odd_text F T, F.binds (ps := ["_law_cell"]) fun _ _ _ _ _ _ us hl => match us, hl with | [_], _ => rfl⟩
abbrev s_law_text : Stmt := topS 19
theorem sc_law_text : FnScope ["_law_script", "_law_pieces", "_law_way", "_law_text_here", "_law_at", "_law_sign", "_law_k", "_law_cell"] ["_law_script"] (defScope s_law_text) := ⟨rfl, rfl, rfl, by decide +kernel, rfl, by decide +kernel, by decide +kernel⟩
theorem fn_law_text {f : Addr} {fd : FuncData} (F : Fun κ.K "_law_text" "_law_text" s_law_text f fd) (T : Txt κ mg) (K_law_written : VFn P w κ mg base "_law_written" 1 [true] g_law_written) (K_law_cell_at : VFn P w κ mg base "_law_cell_at" 1 [true, true] g_law_cell_at) (K_law_odd_text : VFn P w κ mg base "_law_odd_text" 1 [true] g_law_odd_text) : FnOk P w κ.K mg base (L2.CX P w) 2 f fd ["_law_script"] (spV κ [true] g_law_text) := by
  have sc := sc_law_text
  refine F.okX sc (fun vs H Q E h => spV_len h) fun cdv A outer s H vs Q E hr h => ⟨tS κ (fun c d _ H' => E c d H') b_law_text, ?_, v_end (k := 7) rfl h⟩
  have tk : Takes (cxOf (L2.CX P w) P w κ.K mg base ["_law_script", "_law_pieces", "_law_way", "_law_text_here", "_law_at", "_law_sign", "_law_k", "_law_cell"] "_law_text" (defScope s_law_text) f cdv A outer s H E) (fun c d _ H' => E c d H') := takes_of rfl rfl rfl rfl
  have hp := passes_of (X := cxOf (L2.CX P w) P w κ.K mg base ["_law_script", "_law_pieces", "_law_way", "_law_text_here", "_law_at", "_law_sign", "_law_k", "_law_cell"] "_law_text" (defScope s_law_text) f cdv A outer s H E) rfl
  exact s_cons (s_lc (i := 1) (own := [("_law_cell", 7)]) (vs := [7]) rfl sc.nd rfl rfl rfl (sw_true rfl rfl rfl (by decide +kernel)) (i_any rfl (v_frz (v_sl rfl (b_var (pv 0)) (o_some (v_bo (v_int))) (o_some (v_bo (v_int)))))) (blkOk_by (own := [("_law_cell", 7)]) (N := ["_law_script", "_law_pieces", "_law_way", "_law_text_here", "_law_at", "_law_sign", "_law_k", "_law_cell"]) (sc := defScope s_law_text) (by decide +kernel)) (fun _ _ _ _ _ => pg_name (i := 7) sc.nd rfl (by first | exact Or.inl rfl | exact Or.inr rfl)) (to_name 7 rfl) (fun _ _ _ _ _ => pts_yes) (fun _ _ _ _ _ => v_frz (v_call K_law_written rfl (hr.mono (by decide)) takes0 rfl (a_bo (b_var (pv 7)) (a_nil))))) (s_cons (s_asg (i := 2) sc.nd rfl (by first | exact Or.inl rfl | exact Or.inr rfl) (v_op op_mod s_mod (v_bo (v_frz (v_call K_law_cell_at rfl (hr.mono (by decide)) tk rfl (a_bo (b_var (pv 0)) (a_bo (v_bo (v_int)) (a_nil)))))) (v_bo (v_int)))) (s_cons (s_if (PW.pt (w_and (t_cmp o_gt s_cm (b_var (pv 2)) (v_bo (v_int)) (nomark _)) (w_and1 (t_cmp o_gt s_cm (v_bo (v_frz (v_callB call_len s_len rfl T.z_len PySem.boot_len (a_bo (b_var (pv 1)) (a_nil))))) (v_bo (v_int)) (nomark _))))) (s_cons (s_asg (i := 6) sc.nd rfl (by first | exact Or.inl rfl | exact Or.inr rfl) (v_op op_mod s_mod (v_bo (v_frz (v_call K_law_cell_at rfl (hr.mono (by decide)) tk rfl (a_bo (b_var (pv 0)) (a_bo (v_bo (v_int)) (a_nil)))))) (v_bo (v_frz (v_callB call_len s_len rfl T.z_len PySem.boot_len (a_bo (b_var (pv 1)) (a_nil))))))) (s_one (s_ifT (t_cmpT (o_eq rfl hr.units) s_eq (b_var (pv 2)) (nomark _)) (PSsT.of (s_one (s_setI (i := 1) (pv 1) (b_var (pv 6)) (v_frz (v_op o_add s_add (v_bo (v_str (by rfl))) (v_bo (v_ix rfl (b_var (pv 1)) (b_var (pv 6)) (fun _ _ => rfl))))) (pg_sub (pv 1) (im (b_var (pv 6))) set_list)))) (CwR.psst_one (s_setIT (i := 1) (pv 1) (b_var (pv 6)) (v_replT (by rfl) (by rfl) (v_repl (by rfl) (by rfl) (v_ix rfl (b_var (pv 1)) (b_var (pv 6)) (fun _ _ => rfl)))) (pg_sub (pv 1) (im (b_var (pv 6))) set_list)))))) (s_nil)) (s_cons (s_asg (i := 3) sc.nd rfl (by first | exact Or.inl rfl | exact Or.inr rfl) (v_join (v_bo (v_str (by rfl))) (b_var (pv 1)))) (s_cons (s_if (t_cmp (o_eq rfl hr.units) s_eq (b_var (pv 3)) (v_bo (v_str (by rfl))) (nomark _)) (s_one (s_asg (i := 3) sc.nd rfl (by first | exact Or.inl rfl | exact Or.inr rfl) (v_sh (v_str (by rfl))))) (s_nil)) (s_cons (s_asg (i := 4) sc.nd rfl (by first | exact Or.inl rfl | exact Or.inr rfl) (v_op op_mod s_mod (v_bo (v_frz (v_call K_law_cell_at rfl (hr.mono (by decide)) tk rfl (a_bo (b_var (pv 0)) (a_bo (v_bo (v_int)) (a_nil)))))) (v_bo (v_frz (v_callB call_len s_len rfl T.z_len PySem.boot_len (a_bo (b_var (pv 3)) (a_nil))))))) (s_cons (s_asg (i := 5) sc.nd rfl (by first | exact Or.inl rfl | exact Or.inr rfl) (v_sh (v_ix rfl (v_bo (v_str (by rfl))) (v_bo (v_frz (v_op op_mod s_mod (v_bo (v_frz (v_call K_law_cell_at rfl (hr.mono (by decide)) tk rfl (a_bo (b_var (pv 0)) (a_bo (v_bo (v_int)) (a_nil)))))) (v_bo (v_int))))) (fun _ _ => rfl)))) (s_cons (s_if (PW.pt (w_or (t_cmp (o_eq rfl hr.units) s_eq (b_var (pv 2)) (v_bo (v_int)) (nomark _)) (w_or1 (t_cmp (o_eq rfl hr.units) s_eq (b_var (pv 2)) (v_bo (v_int)) (nomark _))))) (s_one (s_ret (v_op o_add s_add (v_bo (v_frz (v_op o_add s_add (v_bo (v_frz (v_sl rfl (b_var (pv 3)) (o_none) (o_some (b_var (pv 4)))))) (b_var (pv 5))))) (v_bo (v_frz (v_sl rfl (b_var (pv 3)) (o_some (b_var (pv 4))) (o_none))))))) (s_nil)) (s_cons (s_if (t_cmp (o_eq rfl hr.units) s_eq (b_var (pv 2)) (v_bo (v_int)) (nomark _)) (s_one (s_ret (v_op o_add s_add (v_bo (v_frz (v_sl rfl (b_var (pv 3)) (o_none) (o_some (b_var (pv 4)))))) (v_bo (v_frz (v_sl rfl (b_var (pv 3)) (o_some (v_bo (v_frz (v_op o_add s_add (b_var (pv 4)) (v_bo (v_int)))))) (o_none))))))) (s_nil)) (s_cons (s_if (t_cmp (o_eq rfl hr.units) s_eq (b_var (pv 2)) (v_bo (v_int)) (nomark _)) (s_one (s_ret (v_op o_add s_add (v_bo (v_frz (v_op o_add s_add (v_bo (v_frz (v_sl rfl (b_var (pv 3)) (o_none) (o_some (b_var (pv 4)))))) (b_var (pv 5))))) (v_bo (v_frz (v_sl rfl (b_var (pv 3)) (o_some (v_bo (v_frz (v_op o_add s_add (b_var (pv 4)) (v_bo (v_int)))))) (o_none))))))) (s_nil)) (s_cons (s_if (t_cmp (o_eq rfl hr.units) s_eq (b_var (pv 2)) (v_bo (v_int)) (nomark _)) (s_one (s_ret (v_call K_law_odd_text rfl (hr.mono (by decide)) tk rfl (a_bo (v_bo (v_frz (v_call K_law_cell_at rfl (hr.mono (by decide)) tk rfl (a_bo (b_var (pv 0)) (a_bo (v_bo (v_int)) (a_nil)))))) (a_nil))))) (s_nil)) (s_one (s_retV (pv 3)))))))))))))
theorem ok_law_text (T : Txt κ mg) (K_law_written : VFn P w κ mg base "_law_written" 1 [true] g_law_written) (K_law_cell_at : VFn P w κ mg base "_law_cell_at" 1 [true, true] g_law_cell_at) (K_law_odd_text : VFn P w κ mg base "_law_odd_text" 1 [true] g_law_odd_text) : VFn P w κ mg base "_law_text" 2 [true] g_law_text := by
  obtain ⟨f, fd, F, hm⟩ := T.d_law_text
  exact ⟨f, fd, ["_law_script"], hm, F.kp, fn_law_text F T K_law_written K_law_cell_at K_law_odd_text, F.binds (ps := ["_law_script"]) fun _ _ _ _ _ _ us hl => match us, hl with | [_], _ => rfl⟩
abbrev s_law_number : Stmt := topS 20
theorem sc_law_number : FnScope ["_law_figures", "_law_number_here", "_law_sign", "_law_at"] ["_law_figures"] (defScope s_law_number) := ⟨rfl, rfl, rfl, by decide +kernel, rfl, by decide +kernel, by decide +kernel⟩
theorem fn_law_number {f : Addr} {fd : FuncData} (F : Fun κ.K "_law_number" "_law_number" s_law_number f fd) (T : Txt κ mg) : FnOk P w κ.K mg base (L2.CX P w) 1 f fd ["_law_figures"] (spV κ [true] g_law_number) := by
  have sc := sc_law_number
  refine F.okX sc (fun vs H Q E h => spV_len h) fun cdv A outer s H vs Q E hr h => ⟨tS κ (fun c d _ H' => E c d H') b_law_number, ?_, v_end (k := 3) rfl h⟩
  have tk : Takes (cxOf (L2.CX P w) P w κ.K mg base ["_law_figures", "_law_number_here", "_law_sign", "_law_at"] "_law_number" (defScope s_law_number) f cdv A outer s H E) (fun c d _ H' => E c d H') := takes_of rfl rfl rfl rfl
  have hp := passes_of (X := cxOf (L2.CX P w) P w κ.K mg base ["_law_figures", "_law_number_here", "_law_sign", "_law_at"] "_law_number" (defScope s_law_number) f cdv A outer s H E) rfl
  exact s_cons (s_if (PW.pt (w_or (t_cmp (o_ltA rfl hr.units) s_ltA (v_bo (v_frz (v_callB call_len s_len rfl T.z_len PySem.boot_len (a_bo (b_var (pv 0)) (a_nil))))) (v_bo (v_int)) (nomark _)) (w_or (t_cmp o_gt s_cm (v_bo (v_frz (v_callB call_len s_len rfl T.z_len PySem.boot_len (a_bo (b_var (pv 0)) (a_nil))))) (v_bo (v_int)) (nomark _)) (w_or1 (PW.pt (w_and (t_cmp o_gt s_cm (v_bo (v_frz (v_callB call_len s_len rfl T.z_len PySem.boot_len (a_bo (b_var (pv 0)) (a_nil))))) (v_bo (v_int)) (nomark _)) (w_and1 (t_cmp (o_eq rfl hr.units) s_eq (v_bo (v_ix rfl (b_var (pv 0)) (v_bo (v_int)) (fun _ _ => rfl))) (v_bo (v_str (by rfl))) (nomark _))))))))) (s_one (s_ret (v_sh (v_neg (v_int))))) (s_nil)) (s_cons (s_asg (i := 1) sc.nd rfl (by first | exact Or.inl rfl | exact Or.inr rfl) (v_sh (v_int))) (s_cons (s_lock (i := 0) (s_for hp rfl (i_anyN rfl (pv 0)) (pg_name (i := 2) sc.nd rfl (by first | exact Or.inl rfl | exact Or.inr rfl)) (tg_name 2) (s_cons (s_asg (i := 3) sc.nd rfl (by first | exact Or.inl rfl | exact Or.inr rfl) (v_find (v_bo (v_str (by rfl))) (b_var (pv 2)))) (s_cons (s_if (t_cmp (o_ltA rfl hr.units) s_ltA (b_var (pv 3)) (v_bo (v_int)) (nomark _)) (s_one (s_ret (v_sh (v_neg (v_int))))) (s_nil)) (s_one (s_asg (i := 1) sc.nd rfl (by first | exact Or.inl rfl | exact Or.inr rfl) (v_op o_add s_add (v_bo (v_frz (v_op o_mul s_mul (v_bo (v_int)) (b_var (pv 1))))) (b_var (pv 3))))))))) (s_one (s_retV (pv 1)))))
theorem ok_law_number (T : Txt κ mg) : VFn P w κ mg base "_law_number" 1 [true] g_law_number := by
  obtain ⟨f, fd, F, hm⟩ := T.d_law_number
  exact ⟨f, fd, ["_law_figures"], hm, F.kp, fn_law_number F T, F.binds (ps := ["_law_figures"]) fun _ _ _ _ _ _ us hl => match us, hl with | [_], _ => rfl⟩
abbrev s_law_step : Stmt := topS 21
theorem sc_law_step : FnScope ["_law_text_here", "_law_k", "_law_number_here", "_law_place"] ["_law_text_here"] (defScope s_law_step) := ⟨rfl, rfl, rfl, by decide +kernel, rfl, by decide +kernel, by decide +kernel⟩
theorem fn_law_step {f : Addr} {fd : FuncData} (F : Fun κ.K "_law_step" "_law_step" s_law_step f fd) (T : Txt κ mg) (K_law_number : VFn P w κ mg base "_law_number" 1 [true] g_law_number) : FnOk P w κ.K mg base (L2.CX P w) 2 f fd ["_law_text_here"] (spV κ [true] g_law_step) := by
  have sc := sc_law_step
  refine F.okX sc (fun vs H Q E h => spV_len h) fun cdv A outer s H vs Q E hr h => ⟨tS κ (fun c d _ H' => E c d H') b_law_step, ?_, v_end (k := 3) rfl h⟩
  have tk : Takes (cxOf (L2.CX P w) P w κ.K mg base ["_law_text_here", "_law_k", "_law_number_here", "_law_place"] "_law_step" (defScope s_law_step) f cdv A outer s H E) (fun c d _ H' => E c d H') := takes_of rfl rfl rfl rfl
  have hp := passes_of (X := cxOf (L2.CX P w) P w κ.K mg base ["_law_text_here", "_law_k", "_law_number_here", "_law_place"] "_law_step" (defScope s_law_step) f cdv A outer s H E) rfl
  exact s_cons (s_for hp rfl (i_rg1 rfl rfl T.z_range (a_bo (v_bo (v_frz (v_callB call_len s_len rfl T.z_len PySem.boot_len (a_bo (b_var (pv 0)) (a_nil))))) (a_nil))) (pg_name (i := 1) sc.nd rfl (by first | exact Or.inl rfl | exact Or.inr rfl)) (tg_name 1) (s_one (s_if (PW.pt (w_or (t_cmp (o_eq rfl hr.units) s_eq (v_bo (v_ix rfl (b_var (pv 0)) (b_var (pv 1)) (fun _ _ => rfl))) (v_bo (v_str (by rfl))) (nomark _)) (w_or1 (t_cmp (o_eq rfl hr.units) s_eq (v_bo (v_ix rfl (b_var (pv 0)) (b_var (pv 1)) (fun _ _ => rfl))) (v_bo (v_str (by rfl))) (nomark _))))) (s_cons (s_asg (i := 2) sc.nd rfl (by first | exact Or.inl rfl | exact Or.inr rfl) (v_call K_law_number rfl (hr.mono (by decide)) tk rfl (a_bo (v_bo (v_frz (v_sl rfl (b_var (pv 0)) (o_none) (o_some (b_var (pv 1)))))) (a_nil)))) (s_cons (s_asg (i := 3) sc.nd rfl (by first | exact Or.inl rfl | exact Or.inr rfl) (v_call K_law_number rfl (hr.mono (by decide)) tk rfl (a_bo (v_bo (v_frz (v_sl rfl (b_var (pv 0)) (o_some (v_bo (v_frz (v_op o_add s_add (b_var (pv 1)) (v_bo (v_int)))))) (o_none)))) (a_nil)))) (s_cons (s_if (PW.pt (w_or (t_cmp (o_ltA rfl hr.units) s_ltA (b_var (pv 2)) (v_bo (v_int)) (nomark _)) (w_or1 (t_cmp (o_ltA rfl hr.units) s_ltA (b_var (pv 3)) (v_bo (v_int)) (nomark _))))) (s_one (s_ret (v_sh (v_non)))) (s_nil)) (s_one (s_ret (v_sh (v_tup (ms := [false, false, false]) rfl (a_sh (v_var (pv 2)) (a_sh (v_var (pv 3)) (a_sh (v_cmp (o_eq rfl hr.units) s_eq (v_bo (v_ix rfl (b_var (pv 0)) (b_var (pv 1)) (fun _ _ => rfl))) (v_bo (v_str (by rfl))) (nomark _)) (a_nil))))))))))) (s_nil)))) (s_one (s_ret (v_sh (v_non))))
theorem ok_law_step (T : Txt κ mg) (K_law_number : VFn P w κ mg base "_law_number" 1 [true] g_law_number) : VFn P w κ mg base "_law_step" 2 [true] g_law_step := by
  obtain ⟨f, fd, F, hm⟩ := T.d_law_step
  exact ⟨f, fd, ["_law_text_here"], hm, F.kp, fn_law_step F T K_law_number, F.binds (ps := ["_law_text_here"]) fun _ _ _ _ _ _ us hl => match us, hl with | [_], _ => rfl⟩
abbrev s_law_due : Stmt := topS 22
theorem sc_law_due : FnScope ["_law_text_here", "_law_steps", "_law_part", "_law_sign", "_law_step_here"] ["_law_text_here"] (defScope s_law_due) := ⟨rfl, rfl, rfl, by decide +kernel, rfl, by decide +kernel, by decide +kernel⟩
theorem fn_law_due {f : Addr} {fd : FuncData} (F : Fun κ.K "_law_due" "_law_due" s_law_due f fd) (T : Txt κ mg) (K_law_step : VFn P w κ mg base "_law_step" 2 [true] g_law_step) : FnOk P w κ.K mg base (L2.CX P w) 3 f fd ["_law_text_here"] (spV κ [true] g_law_due) := by
  have sc := sc_law_due
  refine F.okX sc (fun vs H Q E h => spV_len h) fun cdv A outer s H vs Q E hr h => ⟨tS κ (fun c d _ H' => E c d H') b_law_due, ?_, v_end (k := 4) rfl h⟩
  have tk : Takes (cxOf (L2.CX P w) P w κ.K mg base ["_law_text_here", "_law_steps", "_law_part", "_law_sign", "_law_step_here"] "_law_due" (defScope s_law_due) f cdv A outer s H E) (fun c d _ H' => E c d H') := takes_of rfl rfl rfl rfl
  have hp := passes_of (X := cxOf (L2.CX P w) P w κ.K mg base ["_law_text_here", "_law_steps", "_law_part", "_law_sign", "_law_step_here"] "_law_due" (defScope s_law_due) f cdv A outer s H E) rfl
  exact s_cons (s_asg (i := 1) sc.nd rfl (by first | exact Or.inl rfl | exact Or.inr rfl) (v_lst (ms := []) rfl (a_nil))) (s_cons (s_if (t_cmp (o_eq rfl hr.units) s_eq (b_var (pv 0)) (v_bo (v_str (by rfl))) (nomark _)) (s_one (s_retV (pv 1))) (s_nil)) (s_cons (s_asg (i := 2) sc.nd rfl (by first | exact Or.inl rfl | exact Or.inr rfl) (v_sh (v_str (by rfl)))) (s_cons (s_for hp rfl (i_any rfl (v_frz (v_op o_add s_add (b_var (pv 0)) (v_bo (v_str (by rfl)))))) (pg_name (i := 3) sc.nd rfl (by first | exact Or.inl rfl | exact Or.inr rfl)) (tg_name 3) (s_one (s_if (t_cmp (o_ne rfl hr.units) s_ne (b_var (pv 3)) (v_bo (v_str (by rfl))) (nomark _)) (s_one (s_asg (i := 2) sc.nd rfl (by first | exact Or.inl rfl | exact Or.inr rfl) (v_op o_add s_add (b_var (pv 2)) (b_var (pv 3))))) (s_cons (s_asg (i := 4) sc.nd rfl (by first | exact Or.inl rfl | exact Or.inr rfl) (v_call K_law_step rfl (hr.mono (by decide)) tk rfl (a_bo (b_var (pv 2)) (a_nil)))) (s_cons (s_if (t_cmp op_isN s_isN (b_var (pv 4)) (v_bo (v_non)) (nomark _)) (s_one (s_ret (v_sh (v_non)))) (s_nil)) (s_cons (s_app (i := 1) rfl (pv 1) (v_var (pv 4))) (s_one (s_asg (i := 2) sc.nd rfl (by first | exact Or.inl rfl | exact Or.inr rfl) (v_sh (v_str (by rfl))))))))))) (s_one (s_retV (pv 1))))))
theorem ok_law_due (T : Txt κ mg) (K_law_step : VFn P w κ mg base "_law_step" 2 [true] g_law_step) : VFn P w κ mg base "_law_due" 3 [true] g_law_due := by
  obtain ⟨f, fd, F, hm⟩ := T.d_law_due
  exact ⟨f, fd, ["_law_text_here"], hm, F.kp, fn_law_due F T K_law_step, F.binds (ps := ["_law_text_here"]) fun _ _ _ _ _ _ us hl => match us, hl with | [_], _ => rfl⟩
abbrev s_number_of : Stmt := topS 11
theorem sc_number_of : FnScope ["figures", "sign"] ["figures"] (defScope s_number_of) := ⟨rfl, rfl, rfl, by decide +kernel, rfl, by decide +kernel, by decide +kernel⟩
theorem fn_number_of {f : Addr} {fd : FuncData} (F : Fun κ.K "number_of" "number_of" s_number_of f fd) (T : Txt κ mg) : FnOk P w κ.K mg base (L2.CX P w) 1 f fd ["figures"] (spV κ [true] g_number_of) := by
  have sc := sc_number_of
  refine F.okX sc (fun vs H Q E h => spV_len h) fun cdv A outer s H vs Q E hr h => ⟨tS κ (fun c d _ H' => E c d H') b_number_of, ?_, v_end (k := 1) rfl h⟩
  have tk : Takes (cxOf (L2.CX P w) P w κ.K mg base ["figures", "sign"] "number_of" (defScope s_number_of) f cdv A outer s H E) (fun c d _ H' => E c d H') := takes_of rfl rfl rfl rfl
  have hp := passes_of (X := cxOf (L2.CX P w) P w κ.K mg base ["figures", "sign"] "number_of" (defScope s_number_of) f cdv A outer s H E) rfl
  exact s_cons (s_if (PW.pt (w_or (t_cmp (o_ltA rfl hr.units) s_ltA (v_bo (v_frz (v_callB call_len s_len rfl T.z_len PySem.boot_len (a_bo (b_var (pv 0)) (a_nil))))) (v_bo (v_int)) (nomark _)) (w_or1 (t_cmp o_gt s_cm (v_bo (v_frz (v_callB call_len s_len rfl T.z_len PySem.boot_len (a_bo (b_var (pv 0)) (a_nil))))) (v_bo (v_int)) (nomark _))))) (s_one (s_raise0 (c := 3) rfl rfl (congrFun T.xf 3) tk T.g_NoStep T.e_NoStep T.k_NoStep T.b_NoStep T.t_NoStep rfl)) (s_nil)) (s_cons (s_lock (i := 0) (s_for hp rfl (i_anyN rfl (pv 0)) (pg_name (i := 1) sc.nd rfl (by first | exact Or.inl rfl | exact Or.inr rfl)) (tg_name 1) (s_one (s_if (t_cmp (o_ninA rfl (units65 hr)) s_ninA (b_var (pv 1)) (v_bo (v_const (pe_glob (v := .str (S c_FIGURES)) rfl T.m_FIGURES.choose_spec ⟨_, rfl⟩) (fun _ => .str _))) (by rfl)) (s_one (s_raise0 (c := 3) rfl rfl (congrFun T.xf 3) tk T.g_NoStep T.e_NoStep T.k_NoStep T.b_NoStep T.t_NoStep rfl)) (s_nil))))) (s_cons (s_if (PW.pt (w_and (t_cmp o_gt s_cm (v_bo (v_frz (v_callB call_len s_len rfl T.z_len PySem.boot_len (a_bo (b_var (pv 0)) (a_nil))))) (v_bo (v_int)) (nomark _)) (w_and1 (t_cmp (o_eq rfl hr.units) s_eq (v_bo (v_ix rfl (b_var (pv 0)) (v_bo (v_int)) (fun _ _ => rfl))) (v_bo (v_str (by rfl))) (nomark _))))) (s_one (s_raise0 (c := 3) rfl rfl (congrFun T.xf 3) tk T.g_NoStep T.e_NoStep T.k_NoStep T.b_NoStep T.t_NoStep rfl)) (s_nil)) (s_one (s_ret (v_callTy call_intA s_int rfl T.z_int (by decide +kernel) (a_bo (b_var (pv 0)) (a_nil)))))))
theorem ok_number_of (T : Txt κ mg) : VFn P w κ mg base "number_of" 1 [true] g_number_of := by
  obtain ⟨f, fd, F, hm⟩ := T.d_number_of
  exact ⟨f, fd, ["figures"], hm, F.kp, fn_number_of F T, F.binds (ps := ["figures"]) fun _ _ _ _ _ _ us hl => match us, hl with | [_], _ => rfl⟩
abbrev s_read_step : Stmt := topS 12
theorem sc_read_step : FnScope ["text", "sign", "parts"] ["text"] (defScope s_read_step) := ⟨rfl, rfl, rfl, by decide +kernel, rfl, by decide +kernel, by decide +kernel⟩
theorem fn_read_step {f : Addr} {fd : FuncData} (F : Fun κ.K "read_step" "read_step" s_read_step f fd) (T : Txt κ mg) (K_number_of : VFn P w κ mg base "number_of" 1 [true] g_number_of) : FnOk P w κ.K mg base (L2.CX P w) 2 f fd ["text"] (spV κ [true] g_read_step) := by
  have sc := sc_read_step
  refine F.okX sc (fun vs H Q E h => spV_len h) fun cdv A outer s H vs Q E hr h => ⟨tS κ (fun c d _ H' => E c d H') b_read_step, ?_, v_end (k := 2) rfl h⟩
  have tk : Takes (cxOf (L2.CX P w) P w κ.K mg base ["text", "sign", "parts"] "read_step" (defScope s_read_step) f cdv A outer s H E) (fun c d _ H' => E c d H') := takes_of rfl rfl rfl rfl
  have hp := passes_of (X := cxOf (L2.CX P w) P w κ.K mg base ["text", "sign", "parts"] "read_step" (defScope s_read_step) f cdv A outer s H E) rfl
  exact s_cons (s_for hp rfl (i_any rfl (v_frz (v_lst (ms := [false, false]) rfl (a_sh (v_str (by rfl)) (a_sh (v_str (by rfl)) (a_nil)))))) (pg_name (i := 1) sc.nd rfl (by first | exact Or.inl rfl | exact Or.inr rfl)) (tg_name 1) (s_cons (s_asg (i := 2) sc.nd rfl (by first | exact Or.inl rfl | exact Or.inr rfl) (v_part (b_var (pv 0)) (b_var (pv 1)))) (s_one (s_if (t_cmp (o_ne rfl hr.units) s_ne (v_bo (v_ix rfl (b_var (pv 2)) (v_bo (v_int)) (fun _ _ => rfl))) (v_bo (v_str (by rfl))) (nomark _)) (s_one (s_ret (v_sh (v_tup (ms := [false, false, false]) rfl (a_sh (v_frz (v_call K_number_of rfl (hr.mono (by decide)) tk rfl (a_bo (v_bo (v_ix rfl (b_var (pv 2)) (v_bo (v_int)) (fun _ _ => rfl))) (a_nil)))) (a_sh (v_frz (v_call K_number_of rfl (hr.mono (by decide)) tk rfl (a_bo (v_bo (v_ix rfl (b_var (pv 2)) (v_bo (v_int)) (fun _ _ => rfl))) (a_nil)))) (a_sh (v_cmp (o_eq rfl hr.units) s_eq (b_var (pv 1)) (v_bo (v_str (by rfl))) (nomark _)) (a_nil)))))))) (s_nil))))) (s_one (s_raise0 (c := 3) rfl rfl (congrFun T.xf 3) tk T.g_NoStep T.e_NoStep T.k_NoStep T.b_NoStep T.t_NoStep rfl))
theorem ok_read_step (T : Txt κ mg) (K_number_of : VFn P w κ mg base "number_of" 1 [true] g_number_of) : VFn P w κ mg base "read_step" 2 [true] g_read_step := by
  obtain ⟨f, fd, F, hm⟩ := T.d_read_step
  exact ⟨f, fd, ["text"], hm, F.kp, fn_read_step F T K_number_of, F.binds (ps := ["text"]) fun _ _ _ _ _ _ us hl => match us, hl with | [_], _ => rfl⟩
abbrev s_read_steps : Stmt := topS 13
theorem sc_read_steps : FnScope ["text", "part"] ["text"] (defScope s_read_steps) := ⟨rfl, rfl, rfl, by decide +kernel, rfl, by decide +kernel, by decide +kernel⟩
theorem fn_read_steps {f : Addr} {fd : FuncData} (F : Fun κ.K "read_steps" "read_steps" s_read_steps f fd) (T : Txt κ mg) (K_read_step : VFn P w κ mg base "read_step" 2 [true] g_read_step) : FnOk P w κ.K mg base (L2.CX P w) 3 f fd ["text"] (spV κ [true] g_read_steps) := by
  have sc := sc_read_steps
  refine F.okX sc (fun vs H Q E h => spV_len h) fun cdv A outer s H vs Q E hr h => ⟨tS κ (fun c d _ H' => E c d H') b_read_steps, ?_, v_end (k := 1) rfl h⟩
  have tk : Takes (cxOf (L2.CX P w) P w κ.K mg base ["text", "part"] "read_steps" (defScope s_read_steps) f cdv A outer s H E) (fun c d _ H' => E c d H') := takes_of rfl rfl rfl rfl
  have hp := passes_of (X := cxOf (L2.CX P w) P w κ.K mg base ["text", "part"] "read_steps" (defScope s_read_steps) f cdv A outer s H E) rfl
  exact s_cons (s_if (t_cmp (o_eq rfl hr.units) s_eq (b_var (pv 0)) (v_bo (v_str (by rfl))) (nomark _)) (s_one (s_ret (v_lst (ms := []) rfl (a_nil)))) (s_nil)) (s_one (s_ret (v_lcX (own := [("part", 1)]) (vs := [1]) rfl sc.nd tk rfl rfl rfl (i_any rfl (v_frz (v_split (b_var (pv 0)) (v_bo (v_str (by rfl)))))) (blkOk_by (own := [("part", 1)]) (N := ["text", "part"]) (sc := defScope s_read_steps) (by decide +kernel)) (fun _ _ _ _ _ => pg_name (i := 1) sc.nd rfl (by first | exact Or.inl rfl | exact Or.inr rfl)) (to_name 1 rfl) (fun _ _ _ _ _ => pts_yes) (fun _ _ _ _ _ _ lt => v_frz (v_callC K_read_step rfl (hr.mono (by decide)) lt rfl (a_bo (b_var (pv 1)) (a_nil)))))))
theorem ok_read_steps (T : Txt κ mg) (K_read_step : VFn P w κ mg base "read_step" 2 [true] g_read_step) : VFn P w κ mg base "read_steps" 3 [true] g_read_steps := by
  obtain ⟨f, fd, F, hm⟩ := T.d_read_steps
  exact ⟨f, fd, ["text"], hm, F.kp, fn_read_steps F T K_read_step, F.binds (ps := ["text"]) fun _ _ _ _ _ _ us hl => match us, hl with | [_], _ => rfl⟩
abbrev s_law_another : Stmt := topS 23
theorem sc_law_another : FnScope ["_law_e"] ["_law_e"] (defScope s_law_another) := ⟨rfl, rfl, rfl, by decide +kernel, rfl, by decide +kernel, by decide +kernel⟩
theorem fn_law_another {f : Addr} {fd : FuncData} (F : Fun κ.K "_law_another" "_law_another" s_law_another f fd) (T : Txt κ mg) {a : Addr} {oe : Obj} {cls : Value} {d : Option Addr} (hz : Zc cls d oe) (hf : ∃ vs, oe.data = .fields vs) : FnP P w κ.K mg base (L2.CX P w) 1 f fd ["_law_e"] (a, oe) (spV κ [false] (g_law_another ⟨a, cls, d⟩)) := by
  have sc := sc_law_another
  refine fun_okP F sc (fun vs H Q E h => spV_len h) fun cdv A outer s H vs Q E hr h => ⟨tS κ (fun c d _ H' => E c d H') (b_law_another ⟨a, cls, d⟩), ?_, v_end (k := 0) rfl h⟩
  exact s_cons (s_if (PW.pt (w_or (t_tru rfl (v_bo (v_isXp List.mem_cons_self rfl T.isB T.i_NoPact hz hf rfl T.z_isinstance (.own _) (pe_glob rfl T.g_NoPact rfl) (pv 0)))) (w_or (t_tru rfl (v_bo (v_isXp List.mem_cons_self rfl T.isB T.i_NoWord hz hf rfl T.z_isinstance (.own _) (pe_glob rfl T.g_NoWord rfl) (pv 0)))) (w_or (t_tru rfl (v_bo (v_isXp List.mem_cons_self rfl T.isB T.i_NoUse hz hf rfl T.z_isinstance (.own _) (pe_glob rfl T.g_NoUse rfl) (pv 0)))) (w_or1 (t_tru rfl (v_bo (v_isXp List.mem_cons_self rfl T.isB T.i_NoRow hz hf rfl T.z_isinstance (.own _) (pe_glob rfl T.g_NoRow rfl) (pv 0))))))))) (s_one (s_ret (v_sh (v_bl)))) (s_nil)) (s_one (s_ret (v_sh (v_or (v_not (v_isXp List.mem_cons_self rfl T.isB T.i_LetterError hz hf rfl T.z_isinstance (.own _) (pe_glob rfl T.g_LetterError rfl) (pv 0))) (v_one (v_not (v_isXp List.mem_cons_self rfl T.isB T.i_ValueError hz hf rfl T.z_isinstance (.ty _) (pe_bltn (v := .ty "ValueError") rfl T.z_ValueError (by decide +kernel) rfl) (pv 0))))))))
theorem ok_law_another (T : Txt κ mg) : VFnP P w κ mg base "_law_another" 1 [false] g_law_another := by
  obtain ⟨f, fd, F, hm⟩ := T.d_law_another
  exact ⟨f, fd, ["_law_e"], hm, F.kp, fun a oe cls d hz hf => fn_law_another F T hz hf, F.binds (ps := ["_law_e"]) fun _ _ _ _ _ _ us hl => match us, hl with | [_], _ => rfl⟩
abbrev s_law_asked : Stmt := topS 24
theorem sc_law_asked : FnScope ["_law_text_here", "_law_found", "_law_refused", "_law_e"] ["_law_text_here"] (defScope s_law_asked) := ⟨rfl, rfl, rfl, by decide +kernel, rfl, by decide +kernel, by decide +kernel⟩
theorem fn_law_asked {f : Addr} {fd : FuncData} (F : Fun κ.K "_law_asked" "_law_asked" s_law_asked f fd) (T : Txt κ mg) (K_read_steps : VFn P w κ mg base "read_steps" 3 [true] g_read_steps) (K_law_another : VFnP P w κ mg base "_law_another" 1 [false] g_law_another) : FnOk P w κ.K mg base (L2.CX P w) 4 f fd ["_law_text_here"] (spV κ [true] g_law_asked) := by
  have sc := sc_law_asked
  refine F.okX sc (fun vs H Q E h => spV_len h) fun cdv A outer s H vs Q E hr h => ⟨tS κ (fun c d _ H' => E c d H') b_law_asked, ?_, v_end (k := 3) rfl h⟩
  have tk : Takes (cxOf (L2.CX P w) P w κ.K mg base ["_law_text_here", "_law_found", "_law_refused", "_law_e"] "_law_asked" (defScope s_law_asked) f cdv A outer s H E) (fun c d _ H' => E c d H') := takes_of rfl rfl rfl rfl
  have hp := passes_of (X := cxOf (L2.CX P w) P w κ.K mg base ["_law_text_here", "_law_found", "_law_refused", "_law_e"] "_law_asked" (defScope s_law_asked) f cdv A outer s H E) rfl
  exact s_cons (s_asg (i := 1) sc.nd rfl (by first | exact Or.inl rfl | exact Or.inr rfl) (v_sh (v_non))) (s_cons (s_asg (i := 2) sc.nd rfl (by first | exact Or.inl rfl | exact Or.inr rfl) (v_sh (v_bl))) (s_cons (s_tryAs (h := 3) (i := 3) (xs := xs) (mb := y1_law_asked) (ms := z1_law_asked) rfl rfl sc.nd rfl rfl rfl ⟨rfl, by decide, Or.inl T.g_NoStep⟩ T.x_NoStep tk (fun W pn xe tk hp => s_one (s_asg (i := 1) sc.nd rfl (by first | exact Or.inl rfl | exact Or.inr rfl) (v_call K_read_steps rfl (hr.mono (by decide)) tk rfl (a_bo (b_var (pv 0)) (a_nil))))) (fun a oe cls d pn hz hf => s_one (s_asg (i := 2) sc.nd rfl (by first | exact Or.inl rfl | exact Or.inr rfl) (v_sh (v_not (v_frz (v_callP K_law_another hz hf rfl (hr.mono (by decide)) takes0 rfl (a_sh (v_var (pv 3)) (a_nil))))))))) (s_one (s_ret (v_tupF (a_f (v_own (pv 1)) (a_f (v_own (pv 2)) (a_nilF))))))))
theorem ok_law_asked (T : Txt κ mg) (K_read_steps : VFn P w κ mg base "read_steps" 3 [true] g_read_steps) (K_law_another : VFnP P w κ mg base "_law_another" 1 [false] g_law_another) : VFn P w κ mg base "_law_asked" 4 [true] g_law_asked := by
  obtain ⟨f, fd, F, hm⟩ := T.d_law_asked
  exact ⟨f, fd, ["_law_text_here"], hm, F.kp, fn_law_asked F T K_read_steps K_law_another, F.binds (ps := ["_law_text_here"]) fun _ _ _ _ _ _ us hl => match us, hl with | [_], _ => rfl⟩
abbrev s_law_whole : Stmt := topS 16
theorem sc_law_whole : FnScope ["_law_found"] ["_law_found"] (defScope s_law_whole) := ⟨rfl, rfl, rfl, by decide +kernel, rfl, by decide +kernel, by decide +kernel⟩
theorem fn_law_whole {f : Addr} {fd : FuncData} (F : Fun κ.K "_law_whole" "_law_whole" s_law_whole f fd) (T : Txt κ mg) : FnOk P w κ.K mg base (L2.CX P w) 1 f fd ["_law_found"] (spV κ [true] g_law_whole) := by
  have sc := sc_law_whole
  refine F.okX sc (fun vs H Q E h => spV_len h) fun cdv A outer s H vs Q E hr h => ⟨tS κ (fun c d _ H' => E c d H') b_law_whole, ?_, v_end (k := 0) rfl h⟩
  have tk : Takes (cxOf (L2.CX P w) P w κ.K mg base ["_law_found"] "_law_whole" (defScope s_law_whole) f cdv A outer s H E) (fun c d _ H' => E c d H') := takes_of rfl rfl rfl rfl
  have hp := passes_of (X := cxOf (L2.CX P w) P w κ.K mg base ["_law_found"] "_law_whole" (defScope s_law_whole) f cdv A outer s H E) rfl
  exact s_one (s_ret (v_sh (v_and (v_isi .int rfl rfl T.z_isinstance (pe_bltn (v := .ty "int") rfl T.z_int (by decide +kernel) rfl) (b_var (pv 0))) (v_one (v_not (v_isi .bool rfl rfl T.z_isinstance (pe_bltn (v := .ty "bool") rfl T.z_bool (by decide +kernel) rfl) (b_var (pv 0))))))))
theorem ok_law_whole (T : Txt κ mg) : VFn P w κ mg base "_law_whole" 1 [true] g_law_whole := by
  obtain ⟨f, fd, F, hm⟩ := T.d_law_whole
  exact ⟨f, fd, ["_law_found"], hm, F.kp, fn_law_whole F T, F.binds (ps := ["_law_found"]) fun _ _ _ _ _ _ us hl => match us, hl with | [_], _ => rfl⟩
abbrev s_law_alike : Stmt := topS 25
theorem sc_law_alike : FnScope ["_law_found", "_law_due_here", "_law_k", "_law_step_here"] ["_law_found", "_law_due_here"] (defScope s_law_alike) := ⟨rfl, rfl, rfl, by decide +kernel, rfl, by decide +kernel, by decide +kernel⟩
theorem fn_law_alike {f : Addr} {fd : FuncData} (F : Fun κ.K "_law_alike" "_law_alike" s_law_alike f fd) (T : Txt κ mg) (K_law_whole : VFn P w κ mg base "_law_whole" 1 [true] g_law_whole) : FnOk P w κ.K mg base (L2.CX P w) 2 f fd ["_law_found", "_law_due_here"] (spV κ [true, true] g_law_alike) := by
  have sc := sc_law_alike
  refine F.okX sc (fun vs H Q E h => spV_len h) fun cdv A outer s H vs Q E hr h => ⟨tS κ (fun c d _ H' => E c d H') b_law_alike, ?_, v_end (k := 2) rfl h⟩
  have tk : Takes (cxOf (L2.CX P w) P w κ.K mg base ["_law_found", "_law_due_here", "_law_k", "_law_step_here"] "_law_alike" (defScope s_law_alike) f cdv A outer s H E) (fun c d _ H' => E c d H') := takes_of rfl rfl rfl rfl
  have hp := passes_of (X := cxOf (L2.CX P w) P w κ.K mg base ["_law_found", "_law_due_here", "_law_k", "_law_step_here"] "_law_alike" (defScope s_law_alike) f cdv A outer s H E) rfl
  exact s_cons (s_if (PW.pt (w_or (t_not (t_tru rfl (v_bo (v_isi .list rfl rfl T.z_isinstance (pe_bltn (v := .ty "list") rfl T.z_list (by decide +kernel) rfl) (b_var (pv 0)))))) (w_or1 (t_cmp (o_ne rfl hr.units) s_ne (v_bo (v_frz (v_callB call_len s_len rfl T.z_len PySem.boot_len (a_bo (b_var (pv 0)) (a_nil))))) (v_bo (v_frz (v_callB call_len s_len rfl T.z_len PySem.boot_len (a_bo (b_var (pv 1)) (a_nil))))) (nomark _))))) (s_one (s_ret (v_sh (v_bl)))) (s_nil)) (s_cons (s_for hp rfl (i_rg1 rfl rfl T.z_range (a_bo (v_bo (v_frz (v_callB call_len s_len rfl T.z_len PySem.boot_len (a_bo (b_var (pv 1)) (a_nil))))) (a_nil))) (pg_name (i := 2) sc.nd rfl (by first | exact Or.inl rfl | exact Or.inr rfl)) (tg_name 2) (s_cons (s_asg (i := 3) sc.nd rfl (by first | exact Or.inl rfl | exact Or.inr rfl) (v_sh (v_ix rfl (b_var (pv 0)) (b_var (pv 2)) (fun _ _ => rfl)))) (s_cons (s_if (PW.pt (w_or (t_not (t_tru rfl (v_bo (v_isi .tuple rfl rfl T.z_isinstance (pe_bltn (v := .ty "tuple") rfl T.z_tuple (by decide +kernel) rfl) (b_var (pv 3)))))) (w_or (t_cmp (o_ne rfl hr.units) s_ne (v_bo (v_frz (v_callB call_len s_len rfl T.z_len PySem.boot_len (a_bo (b_var (pv 3)) (a_nil))))) (v_bo (v_int)) (nomark _)) (w_or1 (t_not (t_tru rfl (v_bo (v_isi .bool rfl rfl T.z_isinstance (pe_bltn (v := .ty "bool") rfl T.z_bool (by decide +kernel) rfl) (v_bo (v_ix rfl (b_var (pv 3)) (v_bo (v_int)) (fun _ _ => rfl))))))))))) (s_one (s_ret (v_sh (v_bl)))) (s_nil)) (s_one (s_if (PW.pt (w_or (t_not (t_tru rfl (v_bo (v_frz (v_call K_law_whole rfl (hr.mono (by decide)) tk rfl (a_bo (v_bo (v_ix rfl (b_var (pv 3)) (v_bo (v_int)) (fun _ _ => rfl))) (a_nil))))))) (w_or (t_not (t_tru rfl (v_bo (v_frz (v_call K_law_whole rfl (hr.mono (by decide)) tk rfl (a_bo (v_bo (v_ix rfl (b_var (pv 3)) (v_bo (v_int)) (fun _ _ => rfl))) (a_nil))))))) (w_or1 (t_cmp (o_ne rfl hr.units) s_ne (b_var (pv 3)) (v_bo (v_ix rfl (b_var (pv 1)) (b_var (pv 2)) (fun _ _ => rfl))) (nomark _)))))) (s_one (s_ret (v_sh (v_bl)))) (s_nil)))))) (s_one (s_ret (v_sh (v_bl)))))
theorem ok_law_alike (T : Txt κ mg) (K_law_whole : VFn P w κ mg base "_law_whole" 1 [true] g_law_whole) : VFn P w κ mg base "_law_alike" 2 [true, true] g_law_alike := by
  obtain ⟨f, fd, F, hm⟩ := T.d_law_alike
  exact ⟨f, fd, ["_law_found", "_law_due_here"], hm, F.kp, fn_law_alike F T K_law_whole, F.binds (ps := ["_law_found", "_law_due_here"]) fun _ _ _ _ _ _ us hl => match us, hl with | [_, _], _ => rfl⟩
abbrev s_shown_step : Stmt := topS 9
theorem sc_shown_step : FnScope ["step", "sign"] ["step"] (defScope s_shown_step) := ⟨rfl, rfl, rfl, by decide +kernel, rfl, by decide +kernel, by decide +kernel⟩
theorem fn_shown_step {f : Addr} {fd : FuncData} (F : Fun κ.K "shown_step" "shown_step" s_shown_step f fd) (T : Txt κ mg) : FnOk P w κ.K mg base (L2.CX P w) 1 f fd ["step"] (spV κ [true] g_shown_step) := by
  have sc := sc_shown_step
  refine F.okX sc (fun vs H Q E h => spV_len h) fun cdv A outer s H vs Q E hr h => ⟨tS κ (fun c d _ H' => E c d H') b_shown_step, ?_, v_end (k := 1) rfl h⟩
  have tk : Takes (cxOf (L2.CX P w) P w κ.K mg base ["step", "sign"] "shown_step" (defScope s_shown_step) f cdv A outer s H E) (fun c d _ H' => E c d H') := takes_of rfl rfl rfl rfl
  have hp := passes_of (X := cxOf (L2.CX P w) P w κ.K mg base ["step", "sign"] "shown_step" (defScope s_shown_step) f cdv A outer s H E) rfl
  exact s_cons (s_asg (i := 1) sc.nd rfl (by first | exact Or.inl rfl | exact Or.inr rfl) (v_sh (v_if (t_tru rfl (v_bo (v_ix rfl (b_var (pv 0)) (v_bo (v_int)) (fun _ _ => rfl)))) (v_str (by rfl)) (v_str (by rfl))))) (s_one (s_ret (v_op o_add s_add (v_bo (v_frz (v_op o_add s_add (v_bo (v_frz (v_callTy call_str_int s_str rfl T.z_str (by decide +kernel) (a_bo (v_bo (v_ix rfl (b_var (pv 0)) (v_bo (v_int)) (fun _ _ => rfl))) (a_nil))))) (b_var (pv 1))))) (v_bo (v_frz (v_callTy call_str_int s_str rfl T.z_str (by decide +kernel) (a_bo (v_bo (v_ix rfl (b_var (pv 0)) (v_bo (v_int)) (fun _ _ => rfl))) (a_nil))))))))
theorem ok_shown_step (T : Txt κ mg) : VFn P w κ mg base "shown_step" 1 [true] g_shown_step := by
  obtain ⟨f, fd, F, hm⟩ := T.d_shown_step
  exact ⟨f, fd, ["step"], hm, F.kp, fn_shown_step F T, F.binds (ps := ["step"]) fun _ _ _ _ _ _ us hl => match us, hl with | [_], _ => rfl⟩
abbrev s_shown_steps : Stmt := topS 10
theorem sc_shown_steps : FnScope ["steps", "step"] ["steps"] (defScope s_shown_steps) := ⟨rfl, rfl, rfl, by decide +kernel, rfl, by decide +kernel, by decide +kernel⟩
theorem fn_shown_steps {f : Addr} {fd : FuncData} (F : Fun κ.K "shown_steps" "shown_steps" s_shown_steps f fd) (T : Txt κ mg) (K_shown_step : VFn P w κ mg base "shown_step" 1 [true] g_shown_step) : FnOk P w κ.K mg base (L2.CX P w) 2 f fd ["steps"] (spV κ [true] g_shown_steps) := by
  have sc := sc_shown_steps
  refine F.okX sc (fun vs H Q E h => spV_len h) fun cdv A outer s H vs Q E hr h => ⟨tS κ (fun c d _ H' => E c d H') b_shown_steps, ?_, v_end (k := 1) rfl h⟩
  have tk : Takes (cxOf (L2.CX P w) P w κ.K mg base ["steps", "step"] "shown_steps" (defScope s_shown_steps) f cdv A outer s H E) (fun c d _ H' => E c d H') := takes_of rfl rfl rfl rfl
  have hp := passes_of (X := cxOf (L2.CX P w) P w κ.K mg base ["steps", "step"] "shown_steps" (defScope s_shown_steps) f cdv A outer s H E) rfl
  exact s_cons (s_if (t_cmp (o_eq rfl hr.units) s_eq (v_bo (v_frz (v_callB call_len s_len rfl T.z_len PySem.boot_len (a_bo (b_var (pv 0)) (a_nil))))) (v_bo (v_int)) (nomark _)) (s_one (s_ret (v_sh (v_str (by rfl))))) (s_nil)) (s_one (s_ret (v_join (v_bo (v_str (by rfl))) (v_bo (v_frz (v_lock (i := 0) (v_lc (own := [("step", 1)]) (vs := [1]) rfl sc.nd rfl (i_anyN rfl (pv 0)) (blkOk_by (own := [("step", 1)]) (N := ["steps", "step"]) (sc := defScope s_shown_steps) (by decide +kernel)) (fun _ _ _ _ _ => pg_name (i := 1) sc.nd rfl (by first | exact Or.inl rfl | exact Or.inr rfl)) (to_name 1 rfl) (fun _ _ _ _ _ => pts_yes) (fun _ _ _ _ _ => v_frz (v_call K_shown_step rfl (hr.mono (by decide)) takes0 rfl (a_bo (b_var (pv 1)) (a_nil)))))))))))
theorem ok_shown_steps (T : Txt κ mg) (K_shown_step : VFn P w κ mg base "shown_step" 1 [true] g_shown_step) : VFn P w κ mg base "shown_steps" 2 [true] g_shown_steps := by
  obtain ⟨f, fd, F, hm⟩ := T.d_shown_steps
  exact ⟨f, fd, ["steps"], hm, F.kp, fn_shown_steps F T K_shown_step, F.binds (ps := ["steps"]) fun _ _ _ _ _ _ us hl => match us, hl with | [_], _ => rfl⟩
abbrev s_law : Stmt := topS 26
theorem sc_law : FnScope ["_law_script", "_law_text_here", "_law_due_here", "_law_turn", "_law_found", "_law_refused"] ["_law_script"] (defScope s_law) := ⟨rfl, rfl, rfl, by decide +kernel, rfl, by decide +kernel, by decide +kernel⟩
theorem fn_law {f : Addr} {fd : FuncData} (F : Fun κ.K "law" "law" s_law f fd) (T : Txt κ mg) (K_law_text : VFn P w κ mg base "_law_text" 2 [true] g_law_text) (K_law_due : VFn P w κ mg base "_law_due" 3 [true] g_law_due) (K_law_asked : VFn P w κ mg base "_law_asked" 4 [true] g_law_asked) (K_shown_steps : VFn P w κ mg base "shown_steps" 2 [true] g_shown_steps) (K_law_alike : VFn P w κ mg base "_law_alike" 2 [true, true] g_law_alike) : FnOk P w κ.K mg base (L2.CX P w) 5 f fd ["_law_script"] (spV κ [true] g_law) := by
  have sc := sc_law
  refine F.okX sc (fun vs H Q E h => spV_len h) fun cdv A outer s H vs Q E hr h => ⟨tS κ (fun c d _ H' => E c d H') b_law, ?_, v_end (k := 5) rfl h⟩
  have tk : Takes (cxOf (L2.CX P w) P w κ.K mg base ["_law_script", "_law_text_here", "_law_due_here", "_law_turn", "_law_found", "_law_refused"] "law" (defScope s_law) f cdv A outer s H E) (fun c d _ H' => E c d H') := takes_of rfl rfl rfl rfl
  have hp := passes_of (X := cxOf (L2.CX P w) P w κ.K mg base ["_law_script", "_law_text_here", "_law_due_here", "_law_turn", "_law_found", "_law_refused"] "law" (defScope s_law) f cdv A outer s H E) rfl
  exact s_cons (s_asg (i := 1) sc.nd rfl (by first | exact Or.inl rfl | exact Or.inr rfl) (v_call K_law_text rfl (hr.mono (by decide)) tk rfl (a_bo (b_var (pv 0)) (a_nil)))) (s_cons (s_asg (i := 2) sc.nd rfl (by first | exact Or.inl rfl | exact Or.inr rfl) (v_call K_law_due rfl (hr.mono (by decide)) tk rfl (a_bo (b_var (pv 1)) (a_nil)))) (s_cons (s_for hp rfl (i_rg1 rfl rfl T.z_range (a_bo (v_bo (v_int)) (a_nil))) (pg_name (i := 3) sc.nd rfl (by first | exact Or.inl rfl | exact Or.inr rfl)) (tg_name 3) (s_cons (s_tgF (is := [4, 5]) rfl (pg_tup rfl (pgs_cons (pg_name (i := 4) sc.nd rfl (by first | exact Or.inl rfl | exact Or.inr rfl)) (pgs_cons (pg_name (i := 5) sc.nd rfl (by first | exact Or.inl rfl | exact Or.inr rfl)) (pgs_nil)))) (im (v_call K_law_asked rfl (hr.mono (by decide)) tk rfl (a_bo (b_var (pv 1)) (a_nil))))) (s_one (s_if (t_cmp op_isN s_isN (b_var (pv 2)) (v_bo (v_non)) (nomark _)) (s_one (s_if (PW.pt (w_or (t_cmp op_notN s_notN (b_var (pv 4)) (v_bo (v_non)) (nomark _)) (w_or1 (t_not (t_tru rfl (b_var (pv 5))))))) (s_one (s_ret (v_sh (v_bl)))) (s_nil))) (s_cons (s_if (PW.pt (w_or (t_tru rfl (b_var (pv 5))) (w_or (t_not (t_tru rfl (v_bo (v_frz (v_call K_law_alike rfl (hr.mono (by decide)) tk rfl (a_bo (b_var (pv 4)) (a_bo (b_var (pv 2)) (a_nil)))))))) (w_or1 (t_cmp (o_ne rfl hr.units) s_ne (v_bo (v_frz (v_call K_shown_steps rfl (hr.mono (by decide)) tk rfl (a_bo (b_var (pv 4)) (a_nil))))) (b_var (pv 1)) (nomark _)))))) (s_one (s_ret (v_sh (v_bl)))) (s_nil)) (s_one (s_app (i := 4) rfl (pv 4) (v_tup (ms := [false, false, false]) rfl (a_sh (v_int) (a_sh (v_int) (a_sh (v_bl) (a_nil)))))))))))) (s_one (s_ret (v_sh (v_bl))))))
end
end Lw


set_option Elab.async false
set_option linter.all false
set_option maxRecDepth 100000
set_option maxHeartbeats 4000000
namespace Lw
open PySem L2 Vs
def kx (K : PySem.W.Frag) (C_LetterError C_NoWord C_NoPact C_NoStep C_NoUse C_NoRow : Addr) : Kx := ⟨K, fun _ => 0, fun _ => [], fun i => match i with | 0 => C_LetterError | 1 => C_NoWord | 2 => C_NoPact | 3 => C_NoStep | 4 => C_NoUse | 5 => C_NoRow | _ => 0, xf, []⟩
theorem all_mk {l : PySem.W.OpenLaw} {w : World} {K : PySem.W.Frag} {h : Heap} {mg : Str → Option Value} {fa : Addr} (X : K.In h) (G : h.Ns mainGlobals mg) (hfa : mg "law" = some (.ref fa))
    {C_LetterError : Addr}
    {C_NoWord : Addr}
    {C_NoPact : Addr}
    {C_NoStep : Addr}
    {C_NoUse : Addr}
    {C_NoRow : Addr}
    (xg_LetterError : PySem.W.nsIn K mainGlobals "LetterError" = some (some (.ref C_LetterError)))
    (xg_NoWord : PySem.W.nsIn K mainGlobals "NoWord" = some (some (.ref C_NoWord)))
    (xg_NoPact : PySem.W.nsIn K mainGlobals "NoPact" = some (some (.ref C_NoPact)))
    (xg_NoStep : PySem.W.nsIn K mainGlobals "NoStep" = some (some (.ref C_NoStep)))
    (xg_NoUse : PySem.W.nsIn K mainGlobals "NoUse" = some (some (.ref C_NoUse)))
    (xg_NoRow : PySem.W.nsIn K mainGlobals "NoRow" = some (some (.ref C_NoRow)))
    (xe_NoStep : PySem.W.excIn K C_NoStep veB "ValueError.__new__" = true)
    (kp_NoStep : PySem.W.keepIn K (.ref C_NoStep) = true)
    (sb_NoStep : PySem.W.subIn K (.ref C_NoStep) (.type "BaseException") = some true)
    (ty_NoStep : PySem.W.typeIn K (.ref C_NoStep) = some (.type "type"))
    (xhn : PySem.W.specialIn K (.builtin "object.__class__") "__get__" = some (some (.builtin "getset_descriptor.__get__")))
    (xht : PySem.W.takesIn K (.builtin "object.__class__") = some true)
    (ic_LetterError : PySem.W.isClsIn K C_LetterError = true)
    (ga_LetterError : PySem.W.findIn K (.ref C_LetterError) "__getattribute__" = some (some (.builtin "BaseException.__getattribute__")))
    (gg_LetterError : PySem.W.findIn K (.ref C_LetterError) "__getattr__" = some none)
    (sb_LetterError : PySem.W.subIn K (.ref C_LetterError) (.type "BaseException") = some true)
    (hc_LetterError : PySem.W.findIn K (.ref C_LetterError) "__class__" = some (some (.builtin "object.__class__")))
    (mo_LetterError : PySem.W.mroIn K C_LetterError (.type "object") = some true)
    (ic_NoRow : PySem.W.isClsIn K C_NoRow = true)
    (ty_NoRow : PySem.W.typeIn K (.ref C_NoRow) = some (.type "type"))
    (su_LetterError_NoRow : PySem.W.subIn K (.ref C_LetterError) (.ref C_NoRow) = some false)
    (ne_LetterError_NoRow : (Value.ref C_LetterError == Value.ref C_NoRow) = false)
    (ic_NoWord : PySem.W.isClsIn K C_NoWord = true)
    (ga_NoWord : PySem.W.findIn K (.ref C_NoWord) "__getattribute__" = some (some (.builtin "BaseException.__getattribute__")))
    (gg_NoWord : PySem.W.findIn K (.ref C_NoWord) "__getattr__" = some none)
    (sb_NoWord : PySem.W.subIn K (.ref C_NoWord) (.type "BaseException") = some true)
    (hc_NoWord : PySem.W.findIn K (.ref C_NoWord) "__class__" = some (some (.builtin "object.__class__")))
    (mo_NoWord : PySem.W.mroIn K C_NoWord (.type "object") = some true)
    (su_NoWord_NoRow : PySem.W.subIn K (.ref C_NoWord) (.ref C_NoRow) = some false)
    (ne_NoWord_NoRow : (Value.ref C_NoWord == Value.ref C_NoRow) = false)
    (ic_NoPact : PySem.W.isClsIn K C_NoPact = true)
    (ga_NoPact : PySem.W.findIn K (.ref C_NoPact) "__getattribute__" = some (some (.builtin "BaseException.__getattribute__")))
    (gg_NoPact : PySem.W.findIn K (.ref C_NoPact) "__getattr__" = some none)
    (sb_NoPact : PySem.W.subIn K (.ref C_NoPact) (.type "BaseException") = some true)
    (hc_NoPact : PySem.W.findIn K (.ref C_NoPact) "__class__" = some (some (.builtin "object.__class__")))
    (mo_NoPact : PySem.W.mroIn K C_NoPact (.type "object") = some true)
    (su_NoPact_NoRow : PySem.W.subIn K (.ref C_NoPact) (.ref C_NoRow) = some false)
    (ne_NoPact_NoRow : (Value.ref C_NoPact == Value.ref C_NoRow) = false)
    (ic_NoStep : PySem.W.isClsIn K C_NoStep = true)
    (ga_NoStep : PySem.W.findIn K (.ref C_NoStep) "__getattribute__" = some (some (.builtin "BaseException.__getattribute__")))
    (gg_NoStep : PySem.W.findIn K (.ref C_NoStep) "__getattr__" = some none)
    (hc_NoStep : PySem.W.findIn K (.ref C_NoStep) "__class__" = some (some (.builtin "object.__class__")))
    (mo_NoStep : PySem.W.mroIn K C_NoStep (.type "object") = some true)
    (su_NoStep_NoRow : PySem.W.subIn K (.ref C_NoStep) (.ref C_NoRow) = some false)
    (ne_NoStep_NoRow : (Value.ref C_NoStep == Value.ref C_NoRow) = false)
    (ic_NoUse : PySem.W.isClsIn K C_NoUse = true)
    (ga_NoUse : PySem.W.findIn K (.ref C_NoUse) "__getattribute__" = some (some (.builtin "BaseException.__getattribute__")))
    (gg_NoUse : PySem.W.findIn K (.ref C_NoUse) "__getattr__" = some none)
    (sb_NoUse : PySem.W.subIn K (.ref C_NoUse) (.type "BaseException") = some true)
    (hc_NoUse : PySem.W.findIn K (.ref C_NoUse) "__class__" = some (some (.builtin "object.__class__")))
    (mo_NoUse : PySem.W.mroIn K C_NoUse (.type "object") = some true)
    (su_NoUse_NoRow : PySem.W.subIn K (.ref C_NoUse) (.ref C_NoRow) = some false)
    (ne_NoUse_NoRow : (Value.ref C_NoUse == Value.ref C_NoRow) = false)
    (ga_NoRow : PySem.W.findIn K (.ref C_NoRow) "__getattribute__" = some (some (.builtin "BaseException.__getattribute__")))
    (gg_NoRow : PySem.W.findIn K (.ref C_NoRow) "__getattr__" = some none)
    (sb_NoRow : PySem.W.subIn K (.ref C_NoRow) (.type "BaseException") = some true)
    (hc_NoRow : PySem.W.findIn K (.ref C_NoRow) "__class__" = some (some (.builtin "object.__class__")))
    (mo_NoRow : PySem.W.mroIn K C_NoRow (.type "object") = some true)
    (ty_NoUse : PySem.W.typeIn K (.ref C_NoUse) = some (.type "type"))
    (su_LetterError_NoUse : PySem.W.subIn K (.ref C_LetterError) (.ref C_NoUse) = some false)
    (ne_LetterError_NoUse : (Value.ref C_LetterError == Value.ref C_NoUse) = false)
    (su_NoWord_NoUse : PySem.W.subIn K (.ref C_NoWord) (.ref C_NoUse) = some false)
    (ne_NoWord_NoUse : (Value.ref C_NoWord == Value.ref C_NoUse) = false)
    (su_NoPact_NoUse : PySem.W.subIn K (.ref C_NoPact) (.ref C_NoUse) = some false)
    (ne_NoPact_NoUse : (Value.ref C_NoPact == Value.ref C_NoUse) = false)
    (su_NoStep_NoUse : PySem.W.subIn K (.ref C_NoStep) (.ref C_NoUse) = some false)
    (ne_NoStep_NoUse : (Value.ref C_NoStep == Value.ref C_NoUse) = false)
    (su_NoRow_NoUse : PySem.W.subIn K (.ref C_NoRow) (.ref C_NoUse) = some false)
    (ne_NoRow_NoUse : (Value.ref C_NoRow == Value.ref C_NoUse) = false)
    (ty_NoWord : PySem.W.typeIn K (.ref C_NoWord) = some (.type "type"))
    (su_LetterError_NoWord : PySem.W.subIn K (.ref C_LetterError) (.ref C_NoWord) = some false)
    (ne_LetterError_NoWord : (Value.ref C_LetterError == Value.ref C_NoWord) = false)
    (su_NoPact_NoWord : PySem.W.subIn K (.ref C_NoPact) (.ref C_NoWord) = some false)
    (ne_NoPact_NoWord : (Value.ref C_NoPact == Value.ref C_NoWord) = false)
    (su_NoStep_NoWord : PySem.W.subIn K (.ref C_NoStep) (.ref C_NoWord) = some false)
    (ne_NoStep_NoWord : (Value.ref C_NoStep == Value.ref C_NoWord) = false)
    (su_NoUse_NoWord : PySem.W.subIn K (.ref C_NoUse) (.ref C_NoWord) = some false)
    (ne_NoUse_NoWord : (Value.ref C_NoUse == Value.ref C_NoWord) = false)
    (su_NoRow_NoWord : PySem.W.subIn K (.ref C_NoRow) (.ref C_NoWord) = some false)
    (ne_NoRow_NoWord : (Value.ref C_NoRow == Value.ref C_NoWord) = false)
    (ty_NoPact : PySem.W.typeIn K (.ref C_NoPact) = some (.type "type"))
    (su_LetterError_NoPact : PySem.W.subIn K (.ref C_LetterError) (.ref C_NoPact) = some false)
    (ne_LetterError_NoPact : (Value.ref C_LetterError == Value.ref C_NoPact) = false)
    (su_NoWord_NoPact : PySem.W.subIn K (.ref C_NoWord) (.ref C_NoPact) = some false)
    (ne_NoWord_NoPact : (Value.ref C_NoWord == Value.ref C_NoPact) = false)
    (su_NoStep_NoPact : PySem.W.subIn K (.ref C_NoStep) (.ref C_NoPact) = some false)
    (ne_NoStep_NoPact : (Value.ref C_NoStep == Value.ref C_NoPact) = false)
    (su_NoUse_NoPact : PySem.W.subIn K (.ref C_NoUse) (.ref C_NoPact) = some false)
    (ne_NoUse_NoPact : (Value.ref C_NoUse == Value.ref C_NoPact) = false)
    (su_NoRow_NoPact : PySem.W.subIn K (.ref C_NoRow) (.ref C_NoPact) = some false)
    (ne_NoRow_NoPact : (Value.ref C_NoRow == Value.ref C_NoPact) = false)
    (sv_LetterError : PySem.W.subIn K (.ref C_LetterError) (.type "ValueError") = some true)
    (sv_NoWord : PySem.W.subIn K (.ref C_NoWord) (.type "ValueError") = some true)
    (sv_NoPact : PySem.W.subIn K (.ref C_NoPact) (.type "ValueError") = some true)
    (sv_NoStep : PySem.W.subIn K (.ref C_NoStep) (.type "ValueError") = some true)
    (sv_NoUse : PySem.W.subIn K (.ref C_NoUse) (.type "ValueError") = some true)
    (sv_NoRow : PySem.W.subIn K (.ref C_NoRow) (.type "ValueError") = some true)
    (ty_LetterError : PySem.W.typeIn K (.ref C_LetterError) = some (.type "type"))
    (su_NoWord_LetterError : PySem.W.subIn K (.ref C_NoWord) (.ref C_LetterError) = some true)
    (ne_NoWord_LetterError : (Value.ref C_NoWord == Value.ref C_LetterError) = false)
    (su_NoPact_LetterError : PySem.W.subIn K (.ref C_NoPact) (.ref C_LetterError) = some true)
    (ne_NoPact_LetterError : (Value.ref C_NoPact == Value.ref C_LetterError) = false)
    (su_NoStep_LetterError : PySem.W.subIn K (.ref C_NoStep) (.ref C_LetterError) = some true)
    (ne_NoStep_LetterError : (Value.ref C_NoStep == Value.ref C_LetterError) = false)
    (su_NoUse_LetterError : PySem.W.subIn K (.ref C_NoUse) (.ref C_LetterError) = some true)
    (ne_NoUse_LetterError : (Value.ref C_NoUse == Value.ref C_LetterError) = false)
    (su_NoRow_LetterError : PySem.W.subIn K (.ref C_NoRow) (.ref C_LetterError) = some true)
    (ne_NoRow_LetterError : (Value.ref C_NoRow == Value.ref C_LetterError) = false)
    (su_LetterError_NoStep : PySem.W.subIn K (.ref C_LetterError) (.ref C_NoStep) = some false)
    (su_NoWord_NoStep : PySem.W.subIn K (.ref C_NoWord) (.ref C_NoStep) = some false)
    (su_NoPact_NoStep : PySem.W.subIn K (.ref C_NoPact) (.ref C_NoStep) = some false)
    (su_NoStep_NoStep : PySem.W.subIn K (.ref C_NoStep) (.ref C_NoStep) = some true)
    (su_NoUse_NoStep : PySem.W.subIn K (.ref C_NoUse) (.ref C_NoStep) = some false)
    (su_NoRow_NoStep : PySem.W.subIn K (.ref C_NoRow) (.ref C_NoStep) = some false)
    {f1 : Addr} {od1 an1 : Option Addr} {sl1 : Array (Option Value)} {oc1 kV1 dc1 pm1 cd1 ct1 : Value}
    {f2 : Addr} {od2 an2 : Option Addr} {sl2 : Array (Option Value)} {oc2 kV2 dc2 pm2 cd2 ct2 : Value}
    {f3 : Addr} {od3 an3 : Option Addr} {sl3 : Array (Option Value)} {oc3 kV3 dc3 pm3 cd3 ct3 : Value}
    {f4 : Addr} {od4 an4 : Option Addr} {sl4 : Array (Option Value)} {oc4 kV4 dc4 pm4 cd4 ct4 : Value}
    {f5 : Addr} {od5 an5 : Option Addr} {sl5 : Array (Option Value)} {oc5 kV5 dc5 pm5 cd5 ct5 : Value}
    {f6 : Addr} {od6 an6 : Option Addr} {sl6 : Array (Option Value)} {oc6 kV6 dc6 pm6 cd6 ct6 : Value}
    {f7 : Addr} {od7 an7 : Option Addr} {sl7 : Array (Option Value)} {oc7 kV7 dc7 pm7 cd7 ct7 : Value}
    {f8 : Addr} {od8 an8 : Option Addr} {sl8 : Array (Option Value)} {oc8 kV8 dc8 pm8 cd8 ct8 : Value}
    {f9 : Addr} {od9 an9 : Option Addr} {sl9 : Array (Option Value)} {oc9 kV9 dc9 pm9 cd9 ct9 : Value}
    {f10 : Addr} {od10 an10 : Option Addr} {sl10 : Array (Option Value)} {oc10 kV10 dc10 pm10 cd10 ct10 : Value}
    {f11 : Addr} {od11 an11 : Option Addr} {sl11 : Array (Option Value)} {oc11 kV11 dc11 pm11 cd11 ct11 : Value}
    {f12 : Addr} {od12 an12 : Option Addr} {sl12 : Array (Option Value)} {oc12 kV12 dc12 pm12 cd12 ct12 : Value}
    {f13 : Addr} {od13 an13 : Option Addr} {sl13 : Array (Option Value)} {oc13 kV13 dc13 pm13 cd13 ct13 : Value}
    {f14 : Addr} {od14 an14 : Option Addr} {sl14 : Array (Option Value)} {oc14 kV14 dc14 pm14 cd14 ct14 : Value}
    {f15 : Addr} {od15 an15 : Option Addr} {sl15 : Array (Option Value)} {oc15 kV15 dc15 pm15 cd15 ct15 : Value}
    {f16 : Addr} {od16 an16 : Option Addr} {sl16 : Array (Option Value)} {oc16 kV16 dc16 pm16 cd16 ct16 : Value}
    {f17 : Addr} {od17 an17 : Option Addr} {sl17 : Array (Option Value)} {oc17 kV17 dc17 pm17 cd17 ct17 : Value}
    (a1 : PySem.W.nsIn K mainGlobals "_law_written" = some (some (.ref f1)))
    (l1 : K.lookup f1 = some ⟨oc1, od1, .func (PySem.W.fnOf "_law_written" "_law_written" (defArgs (topS 17)) (defBody (topS 17)) (defScope (topS 17)) .none kV1 dc1 pm1 an1 cd1 ct1), sl1⟩)
    (c1 : PySem.W.codeIn K cd1 "_law_written" = true)
    (k1 : PySem.W.keepIn K (.ref f1) = true)
    (a2 : PySem.W.nsIn K mainGlobals "_law_cell_at" = some (some (.ref f2)))
    (l2 : K.lookup f2 = some ⟨oc2, od2, .func (PySem.W.fnOf "_law_cell_at" "_law_cell_at" (defArgs (topS 15)) (defBody (topS 15)) (defScope (topS 15)) .none kV2 dc2 pm2 an2 cd2 ct2), sl2⟩)
    (c2 : PySem.W.codeIn K cd2 "_law_cell_at" = true)
    (k2 : PySem.W.keepIn K (.ref f2) = true)
    (a3 : PySem.W.nsIn K mainGlobals "_law_odd_text" = some (some (.ref f3)))
    (l3 : K.lookup f3 = some ⟨oc3, od3, .func (PySem.W.fnOf "_law_odd_text" "_law_odd_text" (defArgs (topS 18)) (defBody (topS 18)) (defScope (topS 18)) .none kV3 dc3 pm3 an3 cd3 ct3), sl3⟩)
    (c3 : PySem.W.codeIn K cd3 "_law_odd_text" = true)
    (k3 : PySem.W.keepIn K (.ref f3) = true)
    (a4 : PySem.W.nsIn K mainGlobals "_law_text" = some (some (.ref f4)))
    (l4 : K.lookup f4 = some ⟨oc4, od4, .func (PySem.W.fnOf "_law_text" "_law_text" (defArgs (topS 19)) (defBody (topS 19)) (defScope (topS 19)) .none kV4 dc4 pm4 an4 cd4 ct4), sl4⟩)
    (c4 : PySem.W.codeIn K cd4 "_law_text" = true)
    (k4 : PySem.W.keepIn K (.ref f4) = true)
    (a5 : PySem.W.nsIn K mainGlobals "_law_number" = some (some (.ref f5)))
    (l5 : K.lookup f5 = some ⟨oc5, od5, .func (PySem.W.fnOf "_law_number" "_law_number" (defArgs (topS 20)) (defBody (topS 20)) (defScope (topS 20)) .none kV5 dc5 pm5 an5 cd5 ct5), sl5⟩)
    (c5 : PySem.W.codeIn K cd5 "_law_number" = true)
    (k5 : PySem.W.keepIn K (.ref f5) = true)
    (a6 : PySem.W.nsIn K mainGlobals "_law_step" = some (some (.ref f6)))
    (l6 : K.lookup f6 = some ⟨oc6, od6, .func (PySem.W.fnOf "_law_step" "_law_step" (defArgs (topS 21)) (defBody (topS 21)) (defScope (topS 21)) .none kV6 dc6 pm6 an6 cd6 ct6), sl6⟩)
    (c6 : PySem.W.codeIn K cd6 "_law_step" = true)
    (k6 : PySem.W.keepIn K (.ref f6) = true)
    (a7 : PySem.W.nsIn K mainGlobals "_law_due" = some (some (.ref f7)))
    (l7 : K.lookup f7 = some ⟨oc7, od7, .func (PySem.W.fnOf "_law_due" "_law_due" (defArgs (topS 22)) (defBody (topS 22)) (defScope (topS 22)) .none kV7 dc7 pm7 an7 cd7 ct7), sl7⟩)
    (c7 : PySem.W.codeIn K cd7 "_law_due" = true)
    (k7 : PySem.W.keepIn K (.ref f7) = true)
    (a8 : PySem.W.nsIn K mainGlobals "number_of" = some (some (.ref f8)))
    (l8 : K.lookup f8 = some ⟨oc8, od8, .func (PySem.W.fnOf "number_of" "number_of" (defArgs (topS 11)) (defBody (topS 11)) (defScope (topS 11)) .none kV8 dc8 pm8 an8 cd8 ct8), sl8⟩)
    (c8 : PySem.W.codeIn K cd8 "number_of" = true)
    (k8 : PySem.W.keepIn K (.ref f8) = true)
    (a9 : PySem.W.nsIn K mainGlobals "read_step" = some (some (.ref f9)))
    (l9 : K.lookup f9 = some ⟨oc9, od9, .func (PySem.W.fnOf "read_step" "read_step" (defArgs (topS 12)) (defBody (topS 12)) (defScope (topS 12)) .none kV9 dc9 pm9 an9 cd9 ct9), sl9⟩)
    (c9 : PySem.W.codeIn K cd9 "read_step" = true)
    (k9 : PySem.W.keepIn K (.ref f9) = true)
    (a10 : PySem.W.nsIn K mainGlobals "read_steps" = some (some (.ref f10)))
    (l10 : K.lookup f10 = some ⟨oc10, od10, .func (PySem.W.fnOf "read_steps" "read_steps" (defArgs (topS 13)) (defBody (topS 13)) (defScope (topS 13)) .none kV10 dc10 pm10 an10 cd10 ct10), sl10⟩)
    (c10 : PySem.W.codeIn K cd10 "read_steps" = true)
    (k10 : PySem.W.keepIn K (.ref f10) = true)
    (a11 : PySem.W.nsIn K mainGlobals "_law_another" = some (some (.ref f11)))
    (l11 : K.lookup f11 = some ⟨oc11, od11, .func (PySem.W.fnOf "_law_another" "_law_another" (defArgs (topS 23)) (defBody (topS 23)) (defScope (topS 23)) .none kV11 dc11 pm11 an11 cd11 ct11), sl11⟩)
    (c11 : PySem.W.codeIn K cd11 "_law_another" = true)
    (k11 : PySem.W.keepIn K (.ref f11) = true)
    (a12 : PySem.W.nsIn K mainGlobals "_law_asked" = some (some (.ref f12)))
    (l12 : K.lookup f12 = some ⟨oc12, od12, .func (PySem.W.fnOf "_law_asked" "_law_asked" (defArgs (topS 24)) (defBody (topS 24)) (defScope (topS 24)) .none kV12 dc12 pm12 an12 cd12 ct12), sl12⟩)
    (c12 : PySem.W.codeIn K cd12 "_law_asked" = true)
    (k12 : PySem.W.keepIn K (.ref f12) = true)
    (a13 : PySem.W.nsIn K mainGlobals "_law_whole" = some (some (.ref f13)))
    (l13 : K.lookup f13 = some ⟨oc13, od13, .func (PySem.W.fnOf "_law_whole" "_law_whole" (defArgs (topS 16)) (defBody (topS 16)) (defScope (topS 16)) .none kV13 dc13 pm13 an13 cd13 ct13), sl13⟩)
    (c13 : PySem.W.codeIn K cd13 "_law_whole" = true)
    (k13 : PySem.W.keepIn K (.ref f13) = true)
    (a14 : PySem.W.nsIn K mainGlobals "_law_alike" = some (some (.ref f14)))
    (l14 : K.lookup f14 = some ⟨oc14, od14, .func (PySem.W.fnOf "_law_alike" "_law_alike" (defArgs (topS 25)) (defBody (topS 25)) (defScope (topS 25)) .none kV14 dc14 pm14 an14 cd14 ct14), sl14⟩)
    (c14 : PySem.W.codeIn K cd14 "_law_alike" = true)
    (k14 : PySem.W.keepIn K (.ref f14) = true)
    (a15 : PySem.W.nsIn K mainGlobals "shown_step" = some (some (.ref f15)))
    (l15 : K.lookup f15 = some ⟨oc15, od15, .func (PySem.W.fnOf "shown_step" "shown_step" (defArgs (topS 9)) (defBody (topS 9)) (defScope (topS 9)) .none kV15 dc15 pm15 an15 cd15 ct15), sl15⟩)
    (c15 : PySem.W.codeIn K cd15 "shown_step" = true)
    (k15 : PySem.W.keepIn K (.ref f15) = true)
    (a16 : PySem.W.nsIn K mainGlobals "shown_steps" = some (some (.ref f16)))
    (l16 : K.lookup f16 = some ⟨oc16, od16, .func (PySem.W.fnOf "shown_steps" "shown_steps" (defArgs (topS 10)) (defBody (topS 10)) (defScope (topS 10)) .none kV16 dc16 pm16 an16 cd16 ct16), sl16⟩)
    (c16 : PySem.W.codeIn K cd16 "shown_steps" = true)
    (k16 : PySem.W.keepIn K (.ref f16) = true)
    (a17 : PySem.W.nsIn K mainGlobals "law" = some (some (.ref f17)))
    (l17 : K.lookup f17 = some ⟨oc17, od17, .func (PySem.W.fnOf "law" "law" (defArgs (topS 26)) (defBody (topS 26)) (defScope (topS 26)) .none kV17 dc17 pm17 an17 cd17 ct17), sl17⟩)
    (c17 : PySem.W.codeIn K cd17 "law" = true)
    (k17 : PySem.W.keepIn K (.ref f17) = true)
    (z_str : PySem.W.nsIn K mainGlobals "str" = some none)
    (z_len : PySem.W.nsIn K mainGlobals "len" = some none)
    (z_range : PySem.W.nsIn K mainGlobals "range" = some none)
    {t_m_FIGURES : Tok} (m_FIGURES : PySem.W.nsIn K mainGlobals "FIGURES" = some (some (.str (S c_FIGURES) t_m_FIGURES)))
    (z_int : PySem.W.nsIn K mainGlobals "int" = some none)
    (z_isinstance : PySem.W.nsIn K mainGlobals "isinstance" = some none)
    (z_ValueError : PySem.W.nsIn K mainGlobals "ValueError" = some none)
    (z_bool : PySem.W.nsIn K mainGlobals "bool" = some none)
    (z_list : PySem.W.nsIn K mainGlobals "list" = some none)
    (z_tuple : PySem.W.nsIn K mainGlobals "tuple" = some none) :
    ∃ fd : FuncData, (∀ (s : Shared) (v : Value), BindsTo s fd ⟨[v], []⟩ [("_law_script", v)]) ∧ ∀ base : Heap, K.In base → base.Ns mainGlobals mg → FnOk l.prog w K mg base (L2.CX l.prog w) 5 fa fd ["_law_script"] (spLaw K) := by
  have T : Txt (kx K C_LetterError C_NoWord C_NoPact C_NoStep C_NoUse C_NoRow) mg := ⟨rfl,
    PySem.W.mg_of X G xg_LetterError,
    PySem.W.mg_of X G xg_NoWord,
    PySem.W.mg_of X G xg_NoPact,
    PySem.W.mg_of X G xg_NoStep,
    PySem.W.mg_of X G xg_NoUse,
    PySem.W.mg_of X G xg_NoRow,
    xe_NoStep,
    kp_NoStep,
    sb_NoStep,
    ty_NoStep,
    ⟨xhn, xht⟩,
    (fun c b e => match c, e with | 0, e => by have e : some false = some b := e; cases e; exact ⟨⟨ic_LetterError, ga_LetterError, gg_LetterError, sb_LetterError, hc_LetterError, mo_LetterError⟩, kit_ofs ne_LetterError_NoRow ic_NoRow ty_NoRow su_LetterError_NoRow⟩ | 1, e => by have e : some false = some b := e; cases e; exact ⟨⟨ic_NoWord, ga_NoWord, gg_NoWord, sb_NoWord, hc_NoWord, mo_NoWord⟩, kit_ofs ne_NoWord_NoRow ic_NoRow ty_NoRow su_NoWord_NoRow⟩ | 2, e => by have e : some false = some b := e; cases e; exact ⟨⟨ic_NoPact, ga_NoPact, gg_NoPact, sb_NoPact, hc_NoPact, mo_NoPact⟩, kit_ofs ne_NoPact_NoRow ic_NoRow ty_NoRow su_NoPact_NoRow⟩ | 3, e => by have e : some false = some b := e; cases e; exact ⟨⟨ic_NoStep, ga_NoStep, gg_NoStep, sb_NoStep, hc_NoStep, mo_NoStep⟩, kit_ofs ne_NoStep_NoRow ic_NoRow ty_NoRow su_NoStep_NoRow⟩ | 4, e => by have e : some false = some b := e; cases e; exact ⟨⟨ic_NoUse, ga_NoUse, gg_NoUse, sb_NoUse, hc_NoUse, mo_NoUse⟩, kit_ofs ne_NoUse_NoRow ic_NoRow ty_NoRow su_NoUse_NoRow⟩ | 5, e => by have e : some true = some b := e; cases e; exact ⟨⟨ic_NoRow, ga_NoRow, gg_NoRow, sb_NoRow, hc_NoRow, mo_NoRow⟩, kit_self⟩ | n + 6, e => by have e : none = some b := e; cases e),
    (fun c b e => match c, e with | 0, e => by have e : some false = some b := e; cases e; exact ⟨⟨ic_LetterError, ga_LetterError, gg_LetterError, sb_LetterError, hc_LetterError, mo_LetterError⟩, kit_ofs ne_LetterError_NoUse ic_NoUse ty_NoUse su_LetterError_NoUse⟩ | 1, e => by have e : some false = some b := e; cases e; exact ⟨⟨ic_NoWord, ga_NoWord, gg_NoWord, sb_NoWord, hc_NoWord, mo_NoWord⟩, kit_ofs ne_NoWord_NoUse ic_NoUse ty_NoUse su_NoWord_NoUse⟩ | 2, e => by have e : some false = some b := e; cases e; exact ⟨⟨ic_NoPact, ga_NoPact, gg_NoPact, sb_NoPact, hc_NoPact, mo_NoPact⟩, kit_ofs ne_NoPact_NoUse ic_NoUse ty_NoUse su_NoPact_NoUse⟩ | 3, e => by have e : some false = some b := e; cases e; exact ⟨⟨ic_NoStep, ga_NoStep, gg_NoStep, sb_NoStep, hc_NoStep, mo_NoStep⟩, kit_ofs ne_NoStep_NoUse ic_NoUse ty_NoUse su_NoStep_NoUse⟩ | 4, e => by have e : some true = some b := e; cases e; exact ⟨⟨ic_NoUse, ga_NoUse, gg_NoUse, sb_NoUse, hc_NoUse, mo_NoUse⟩, kit_self⟩ | 5, e => by have e : some false = some b := e; cases e; exact ⟨⟨ic_NoRow, ga_NoRow, gg_NoRow, sb_NoRow, hc_NoRow, mo_NoRow⟩, kit_ofs ne_NoRow_NoUse ic_NoUse ty_NoUse su_NoRow_NoUse⟩ | n + 6, e => by have e : none = some b := e; cases e),
    (fun c b e => match c, e with | 0, e => by have e : some false = some b := e; cases e; exact ⟨⟨ic_LetterError, ga_LetterError, gg_LetterError, sb_LetterError, hc_LetterError, mo_LetterError⟩, kit_ofs ne_LetterError_NoWord ic_NoWord ty_NoWord su_LetterError_NoWord⟩ | 1, e => by have e : some true = some b := e; cases e; exact ⟨⟨ic_NoWord, ga_NoWord, gg_NoWord, sb_NoWord, hc_NoWord, mo_NoWord⟩, kit_self⟩ | 2, e => by have e : some false = some b := e; cases e; exact ⟨⟨ic_NoPact, ga_NoPact, gg_NoPact, sb_NoPact, hc_NoPact, mo_NoPact⟩, kit_ofs ne_NoPact_NoWord ic_NoWord ty_NoWord su_NoPact_NoWord⟩ | 3, e => by have e : some false = some b := e; cases e; exact ⟨⟨ic_NoStep, ga_NoStep, gg_NoStep, sb_NoStep, hc_NoStep, mo_NoStep⟩, kit_ofs ne_NoStep_NoWord ic_NoWord ty_NoWord su_NoStep_NoWord⟩ | 4, e => by have e : some false = some b := e; cases e; exact ⟨⟨ic_NoUse, ga_NoUse, gg_NoUse, sb_NoUse, hc_NoUse, mo_NoUse⟩, kit_ofs ne_NoUse_NoWord ic_NoWord ty_NoWord su_NoUse_NoWord⟩ | 5, e => by have e : some false = some b := e; cases e; exact ⟨⟨ic_NoRow, ga_NoRow, gg_NoRow, sb_NoRow, hc_NoRow, mo_NoRow⟩, kit_ofs ne_NoRow_NoWord ic_NoWord ty_NoWord su_NoRow_NoWord⟩ | n + 6, e => by have e : none = some b := e; cases e),
    (fun c b e => match c, e with | 0, e => by have e : some false = some b := e; cases e; exact ⟨⟨ic_LetterError, ga_LetterError, gg_LetterError, sb_LetterError, hc_LetterError, mo_LetterError⟩, kit_ofs ne_LetterError_NoPact ic_NoPact ty_NoPact su_LetterError_NoPact⟩ | 1, e => by have e : some false = some b := e; cases e; exact ⟨⟨ic_NoWord, ga_NoWord, gg_NoWord, sb_NoWord, hc_NoWord, mo_NoWord⟩, kit_ofs ne_NoWord_NoPact ic_NoPact ty_NoPact su_NoWord_NoPact⟩ | 2, e => by have e : some true = some b := e; cases e; exact ⟨⟨ic_NoPact, ga_NoPact, gg_NoPact, sb_NoPact, hc_NoPact, mo_NoPact⟩, kit_self⟩ | 3, e => by have e : some false = some b := e; cases e; exact ⟨⟨ic_NoStep, ga_NoStep, gg_NoStep, sb_NoStep, hc_NoStep, mo_NoStep⟩, kit_ofs ne_NoStep_NoPact ic_NoPact ty_NoPact su_NoStep_NoPact⟩ | 4, e => by have e : some false = some b := e; cases e; exact ⟨⟨ic_NoUse, ga_NoUse, gg_NoUse, sb_NoUse, hc_NoUse, mo_NoUse⟩, kit_ofs ne_NoUse_NoPact ic_NoPact ty_NoPact su_NoUse_NoPact⟩ | 5, e => by have e : some false = some b := e; cases e; exact ⟨⟨ic_NoRow, ga_NoRow, gg_NoRow, sb_NoRow, hc_NoRow, mo_NoRow⟩, kit_ofs ne_NoRow_NoPact ic_NoPact ty_NoPact su_NoRow_NoPact⟩ | n + 6, e => by have e : none = some b := e; cases e),
    (fun c b e => match c, e with | 0, e => by have e : some true = some b := e; cases e; exact ⟨⟨ic_LetterError, ga_LetterError, gg_LetterError, sb_LetterError, hc_LetterError, mo_LetterError⟩, kit_VE sv_LetterError⟩ | 1, e => by have e : some true = some b := e; cases e; exact ⟨⟨ic_NoWord, ga_NoWord, gg_NoWord, sb_NoWord, hc_NoWord, mo_NoWord⟩, kit_VE sv_NoWord⟩ | 2, e => by have e : some true = some b := e; cases e; exact ⟨⟨ic_NoPact, ga_NoPact, gg_NoPact, sb_NoPact, hc_NoPact, mo_NoPact⟩, kit_VE sv_NoPact⟩ | 3, e => by have e : some true = some b := e; cases e; exact ⟨⟨ic_NoStep, ga_NoStep, gg_NoStep, sb_NoStep, hc_NoStep, mo_NoStep⟩, kit_VE sv_NoStep⟩ | 4, e => by have e : some true = some b := e; cases e; exact ⟨⟨ic_NoUse, ga_NoUse, gg_NoUse, sb_NoUse, hc_NoUse, mo_NoUse⟩, kit_VE sv_NoUse⟩ | 5, e => by have e : some true = some b := e; cases e; exact ⟨⟨ic_NoRow, ga_NoRow, gg_NoRow, sb_NoRow, hc_NoRow, mo_NoRow⟩, kit_VE sv_NoRow⟩ | n + 6, e => by have e : none = some b := e; cases e),
    (fun c b e => match c, e with | 0, e => by have e : some true = some b := e; cases e; exact ⟨⟨ic_LetterError, ga_LetterError, gg_LetterError, sb_LetterError, hc_LetterError, mo_LetterError⟩, kit_self⟩ | 1, e => by have e : some true = some b := e; cases e; exact ⟨⟨ic_NoWord, ga_NoWord, gg_NoWord, sb_NoWord, hc_NoWord, mo_NoWord⟩, kit_ofs ne_NoWord_LetterError ic_LetterError ty_LetterError su_NoWord_LetterError⟩ | 2, e => by have e : some true = some b := e; cases e; exact ⟨⟨ic_NoPact, ga_NoPact, gg_NoPact, sb_NoPact, hc_NoPact, mo_NoPact⟩, kit_ofs ne_NoPact_LetterError ic_LetterError ty_LetterError su_NoPact_LetterError⟩ | 3, e => by have e : some true = some b := e; cases e; exact ⟨⟨ic_NoStep, ga_NoStep, gg_NoStep, sb_NoStep, hc_NoStep, mo_NoStep⟩, kit_ofs ne_NoStep_LetterError ic_LetterError ty_LetterError su_NoStep_LetterError⟩ | 4, e => by have e : some true = some b := e; cases e; exact ⟨⟨ic_NoUse, ga_NoUse, gg_NoUse, sb_NoUse, hc_NoUse, mo_NoUse⟩, kit_ofs ne_NoUse_LetterError ic_LetterError ty_LetterError su_NoUse_LetterError⟩ | 5, e => by have e : some true = some b := e; cases e; exact ⟨⟨ic_NoRow, ga_NoRow, gg_NoRow, sb_NoRow, hc_NoRow, mo_NoRow⟩, kit_ofs ne_NoRow_LetterError ic_LetterError ty_LetterError su_NoRow_LetterError⟩ | n + 6, e => by have e : none = some b := e; cases e),
    (fun c b e => match c, e with | 0, e => by have e : some false = some b := e; cases e; exact exm_ofs sb_NoStep ic_NoStep ty_NoStep su_LetterError_NoStep | 1, e => by have e : some false = some b := e; cases e; exact exm_ofs sb_NoStep ic_NoStep ty_NoStep su_NoWord_NoStep | 2, e => by have e : some false = some b := e; cases e; exact exm_ofs sb_NoStep ic_NoStep ty_NoStep su_NoPact_NoStep | 3, e => by have e : some true = some b := e; cases e; exact exm_ofs sb_NoStep ic_NoStep ty_NoStep su_NoStep_NoStep | 4, e => by have e : some false = some b := e; cases e; exact exm_ofs sb_NoStep ic_NoStep ty_NoStep su_NoUse_NoStep | 5, e => by have e : some false = some b := e; cases e; exact exm_ofs sb_NoStep ic_NoStep ty_NoStep su_NoRow_NoStep | n + 6, e => by have e : none = some b := e; cases e),
    ⟨_, _, fun_mk (st := topS 17) l1 c1 k1, PySem.W.mg_of X G a1⟩,
    ⟨_, _, fun_mk (st := topS 15) l2 c2 k2, PySem.W.mg_of X G a2⟩,
    ⟨_, _, fun_mk (st := topS 18) l3 c3 k3, PySem.W.mg_of X G a3⟩,
    ⟨_, _, fun_mk (st := topS 19) l4 c4 k4, PySem.W.mg_of X G a4⟩,
    ⟨_, _, fun_mk (st := topS 20) l5 c5 k5, PySem.W.mg_of X G a5⟩,
    ⟨_, _, fun_mk (st := topS 21) l6 c6 k6, PySem.W.mg_of X G a6⟩,
    ⟨_, _, fun_mk (st := topS 22) l7 c7 k7, PySem.W.mg_of X G a7⟩,
    ⟨_, _, fun_mk (st := topS 11) l8 c8 k8, PySem.W.mg_of X G a8⟩,
    ⟨_, _, fun_mk (st := topS 12) l9 c9 k9, PySem.W.mg_of X G a9⟩,
    ⟨_, _, fun_mk (st := topS 13) l10 c10 k10, PySem.W.mg_of X G a10⟩,
    ⟨_, _, fun_mk (st := topS 23) l11 c11 k11, PySem.W.mg_of X G a11⟩,
    ⟨_, _, fun_mk (st := topS 24) l12 c12 k12, PySem.W.mg_of X G a12⟩,
    ⟨_, _, fun_mk (st := topS 16) l13 c13 k13, PySem.W.mg_of X G a13⟩,
    ⟨_, _, fun_mk (st := topS 25) l14 c14 k14, PySem.W.mg_of X G a14⟩,
    ⟨_, _, fun_mk (st := topS 9) l15 c15 k15, PySem.W.mg_of X G a15⟩,
    ⟨_, _, fun_mk (st := topS 10) l16 c16 k16, PySem.W.mg_of X G a16⟩,
    ⟨_, _, fun_mk (st := topS 26) l17 c17 k17, PySem.W.mg_of X G a17⟩,
    PySem.W.mg_none_of X G z_str,
    PySem.W.mg_none_of X G z_len,
    PySem.W.mg_none_of X G z_range,
    ⟨_, PySem.W.mg_of X G m_FIGURES⟩,
    PySem.W.mg_none_of X G z_int,
    PySem.W.mg_none_of X G z_isinstance,
    PySem.W.mg_none_of X G z_ValueError,
    PySem.W.mg_none_of X G z_bool,
    PySem.W.mg_none_of X G z_list,
    PySem.W.mg_none_of X G z_tuple⟩
  have e := hfa.symm.trans (PySem.W.mg_of X G a17)
  cases e
  have F := fun_mk (st := topS 26) l17 c17 k17
  refine ⟨PySem.W.fnOf "law" "law" (defArgs (topS 26)) (defBody (topS 26)) (defScope (topS 26)) .none kV17 dc17 pm17 an17 cd17 ct17, fun s v => ?_, fun base hb hg => ?_⟩
  · exact .of_eq rfl
  · have K_law_written : VFn l.prog w (kx K C_LetterError C_NoWord C_NoPact C_NoStep C_NoUse C_NoRow) mg base "_law_written" 1 [true] g_law_written := ok_law_written T
    have K_law_cell_at : VFn l.prog w (kx K C_LetterError C_NoWord C_NoPact C_NoStep C_NoUse C_NoRow) mg base "_law_cell_at" 1 [true, true] g_law_cell_at := ok_law_cell_at T
    have K_law_odd_text : VFn l.prog w (kx K C_LetterError C_NoWord C_NoPact C_NoStep C_NoUse C_NoRow) mg base "_law_odd_text" 1 [true] g_law_odd_text := ok_law_odd_text T
    have K_law_text : VFn l.prog w (kx K C_LetterError C_NoWord C_NoPact C_NoStep C_NoUse C_NoRow) mg base "_law_text" 2 [true] g_law_text := ok_law_text T K_law_written K_law_cell_at K_law_odd_text
    have K_law_number : VFn l.prog w (kx K C_LetterError C_NoWord C_NoPact C_NoStep C_NoUse C_NoRow) mg base "_law_number" 1 [true] g_law_number := ok_law_number T
    have K_law_step : VFn l.prog w (kx K C_LetterError C_NoWord C_NoPact C_NoStep C_NoUse C_NoRow) mg base "_law_step" 2 [true] g_law_step := ok_law_step T K_law_number
    have K_law_due : VFn l.prog w (kx K C_LetterError C_NoWord C_NoPact C_NoStep C_NoUse C_NoRow) mg base "_law_due" 3 [true] g_law_due := ok_law_due T K_law_step
    have K_number_of : VFn l.prog w (kx K C_LetterError C_NoWord C_NoPact C_NoStep C_NoUse C_NoRow) mg base "number_of" 1 [true] g_number_of := ok_number_of T
    have K_read_step : VFn l.prog w (kx K C_LetterError C_NoWord C_NoPact C_NoStep C_NoUse C_NoRow) mg base "read_step" 2 [true] g_read_step := ok_read_step T K_number_of
    have K_read_steps : VFn l.prog w (kx K C_LetterError C_NoWord C_NoPact C_NoStep C_NoUse C_NoRow) mg base "read_steps" 3 [true] g_read_steps := ok_read_steps T K_read_step
    have K_law_another : VFnP l.prog w (kx K C_LetterError C_NoWord C_NoPact C_NoStep C_NoUse C_NoRow) mg base "_law_another" 1 [false] g_law_another := ok_law_another T
    have K_law_asked : VFn l.prog w (kx K C_LetterError C_NoWord C_NoPact C_NoStep C_NoUse C_NoRow) mg base "_law_asked" 4 [true] g_law_asked := ok_law_asked T K_read_steps K_law_another
    have K_law_whole : VFn l.prog w (kx K C_LetterError C_NoWord C_NoPact C_NoStep C_NoUse C_NoRow) mg base "_law_whole" 1 [true] g_law_whole := ok_law_whole T
    have K_law_alike : VFn l.prog w (kx K C_LetterError C_NoWord C_NoPact C_NoStep C_NoUse C_NoRow) mg base "_law_alike" 2 [true, true] g_law_alike := ok_law_alike T K_law_whole
    have K_shown_step : VFn l.prog w (kx K C_LetterError C_NoWord C_NoPact C_NoStep C_NoUse C_NoRow) mg base "shown_step" 1 [true] g_shown_step := ok_shown_step T
    have K_shown_steps : VFn l.prog w (kx K C_LetterError C_NoWord C_NoPact C_NoStep C_NoUse C_NoRow) mg base "shown_steps" 2 [true] g_shown_steps := ok_shown_steps T K_shown_step
    exact (fn_lock (fn_law F T K_law_text K_law_due K_law_asked K_shown_steps K_law_alike)).imp (law_sp (κ := (kx K C_LetterError C_NoWord C_NoPact C_NoStep C_NoUse C_NoRow)) law_true)
end Lw
open PySem PySem.W PyProof.Rows
set_option maxRecDepth 100000 in
set_option maxHeartbeats 0 in
theorem PySem.Challenge.cw_letterlaw_k07_steps_read_holds : PySem.Challenge.rw_letterlaw_k07_steps_read.Holds := by
  w_on; o_law; k_head; (case hw => w_witness2)
  k_fill
  refine Vs.walk_law (l := PySem.Challenge.rw_letterlaw_k07_steps_read) (x := "_law_script") (k := 5) rfl rfl ⟨rfl, by decide, by decide⟩ (fun w h Y => by first | exact PySem.W.kIn_of Y | exact PySem.W.km_in_of Y) ?F
  case F =>
    intro w mg fa h KX G hmg
    refine' Lw.all_mk KX G hmg ?xg_LetterError ?xg_NoWord ?xg_NoPact ?xg_NoStep ?xg_NoUse ?xg_NoRow ?xe_NoStep ?kp_NoStep ?sb_NoStep ?ty_NoStep ?xhn ?xht ?ic_LetterError ?ga_LetterError ?gg_LetterError ?sb_LetterError ?hc_LetterError ?mo_LetterError ?ic_NoRow ?ty_NoRow ?su_LetterError_NoRow ?ne_LetterError_NoRow ?ic_NoWord ?ga_NoWord ?gg_NoWord ?sb_NoWord ?hc_NoWord ?mo_NoWord ?su_NoWord_NoRow ?ne_NoWord_NoRow ?ic_NoPact ?ga_NoPact ?gg_NoPact ?sb_NoPact ?hc_NoPact ?mo_NoPact ?su_NoPact_NoRow ?ne_NoPact_NoRow ?ic_NoStep ?ga_NoStep ?gg_NoStep ?hc_NoStep ?mo_NoStep ?su_NoStep_NoRow ?ne_NoStep_NoRow ?ic_NoUse ?ga_NoUse ?gg_NoUse ?sb_NoUse ?hc_NoUse ?mo_NoUse ?su_NoUse_NoRow ?ne_NoUse_NoRow ?ga_NoRow ?gg_NoRow ?sb_NoRow ?hc_NoRow ?mo_NoRow ?ty_NoUse ?su_LetterError_NoUse ?ne_LetterError_NoUse ?su_NoWord_NoUse ?ne_NoWord_NoUse ?su_NoPact_NoUse ?ne_NoPact_NoUse ?su_NoStep_NoUse ?ne_NoStep_NoUse ?su_NoRow_NoUse ?ne_NoRow_NoUse ?ty_NoWord ?su_LetterError_NoWord ?ne_LetterError_NoWord ?su_NoPact_NoWord ?ne_NoPact_NoWord ?su_NoStep_NoWord ?ne_NoStep_NoWord ?su_NoUse_NoWord ?ne_NoUse_NoWord ?su_NoRow_NoWord ?ne_NoRow_NoWord ?ty_NoPact ?su_LetterError_NoPact ?ne_LetterError_NoPact ?su_NoWord_NoPact ?ne_NoWord_NoPact ?su_NoStep_NoPact ?ne_NoStep_NoPact ?su_NoUse_NoPact ?ne_NoUse_NoPact ?su_NoRow_NoPact ?ne_NoRow_NoPact ?sv_LetterError ?sv_NoWord ?sv_NoPact ?sv_NoStep ?sv_NoUse ?sv_NoRow ?ty_LetterError ?su_NoWord_LetterError ?ne_NoWord_LetterError ?su_NoPact_LetterError ?ne_NoPact_LetterError ?su_NoStep_LetterError ?ne_NoStep_LetterError ?su_NoUse_LetterError ?ne_NoUse_LetterError ?su_NoRow_LetterError ?ne_NoRow_LetterError ?su_LetterError_NoStep ?su_NoWord_NoStep ?su_NoPact_NoStep ?su_NoStep_NoStep ?su_NoUse_NoStep ?su_NoRow_NoStep ?a1 ?l1 ?c1 ?k1 ?a2 ?l2 ?c2 ?k2 ?a3 ?l3 ?c3 ?k3 ?a4 ?l4 ?c4 ?k4 ?a5 ?l5 ?c5 ?k5 ?a6 ?l6 ?c6 ?k6 ?a7 ?l7 ?c7 ?k7 ?a8 ?l8 ?c8 ?k8 ?a9 ?l9 ?c9 ?k9 ?a10 ?l10 ?c10 ?k10 ?a11 ?l11 ?c11 ?k11 ?a12 ?l12 ?c12 ?k12 ?a13 ?l13 ?c13 ?k13 ?a14 ?l14 ?c14 ?k14 ?a15 ?l15 ?c15 ?k15 ?a16 ?l16 ?c16 ?k16 ?a17 ?l17 ?c17 ?k17 ?z_str ?z_len ?z_range ?m_FIGURES ?z_int ?z_isinstance ?z_ValueError ?z_bool ?z_list ?z_tuple
    (case xg_LetterError => k_is)
    (case xg_NoWord => k_is)
    (case xg_NoPact => k_is)
    (case xg_NoStep => k_is)
    (case xg_NoUse => k_is)
    (case xg_NoRow => k_is)
    (case xe_NoStep => k_exc)
    (case kp_NoStep => k_is)
    (case sb_NoStep => k_is)
    (case ty_NoStep => k_is)
    (case xhn => k_is)
    (case xht => k_is)
    (case ic_LetterError => k_is)
    (case ga_LetterError => k_is)
    (case gg_LetterError => k_is)
    (case sb_LetterError => k_is)
    (case hc_LetterError => k_is)
    (case mo_LetterError => k_is)
    (case ic_NoRow => k_is)
    (case ty_NoRow => k_is)
    (case su_LetterError_NoRow => first | rfl | k_is)
    (case ne_LetterError_NoRow => first | rfl | decide +kernel)
    (case ic_NoWord => k_is)
    (case ga_NoWord => k_is)
    (case gg_NoWord => k_is)
    (case sb_NoWord => k_is)
    (case hc_NoWord => k_is)
    (case mo_NoWord => k_is)
    (case su_NoWord_NoRow => first | rfl | k_is)
    (case ne_NoWord_NoRow => first | rfl | decide +kernel)
    (case ic_NoPact => k_is)
    (case ga_NoPact => k_is)
    (case gg_NoPact => k_is)
    (case sb_NoPact => k_is)
    (case hc_NoPact => k_is)
    (case mo_NoPact => k_is)
    (case su_NoPact_NoRow => first | rfl | k_is)
    (case ne_NoPact_NoRow => first | rfl | decide +kernel)
    (case ic_NoStep => k_is)
    (case ga_NoStep => k_is)
    (case gg_NoStep => k_is)
    (case hc_NoStep => k_is)
    (case mo_NoStep => k_is)
    (case su_NoStep_NoRow => first | rfl | k_is)
    (case ne_NoStep_NoRow => first | rfl | decide +kernel)
    (case ic_NoUse => k_is)
    (case ga_NoUse => k_is)
    (case gg_NoUse => k_is)
    (case sb_NoUse => k_is)
    (case hc_NoUse => k_is)
    (case mo_NoUse => k_is)
    (case su_NoUse_NoRow => first | rfl | k_is)
    (case ne_NoUse_NoRow => first | rfl | decide +kernel)
    (case ga_NoRow => k_is)
    (case gg_NoRow => k_is)
    (case sb_NoRow => k_is)
    (case hc_NoRow => k_is)
    (case mo_NoRow => k_is)
    (case ty_NoUse => k_is)
    (case su_LetterError_NoUse => first | rfl | k_is)
    (case ne_LetterError_NoUse => first | rfl | decide +kernel)
    (case su_NoWord_NoUse => first | rfl | k_is)
    (case ne_NoWord_NoUse => first | rfl | decide +kernel)
    (case su_NoPact_NoUse => first | rfl | k_is)
    (case ne_NoPact_NoUse => first | rfl | decide +kernel)
    (case su_NoStep_NoUse => first | rfl | k_is)
    (case ne_NoStep_NoUse => first | rfl | decide +kernel)
    (case su_NoRow_NoUse => first | rfl | k_is)
    (case ne_NoRow_NoUse => first | rfl | decide +kernel)
    (case ty_NoWord => k_is)
    (case su_LetterError_NoWord => first | rfl | k_is)
    (case ne_LetterError_NoWord => first | rfl | decide +kernel)
    (case su_NoPact_NoWord => first | rfl | k_is)
    (case ne_NoPact_NoWord => first | rfl | decide +kernel)
    (case su_NoStep_NoWord => first | rfl | k_is)
    (case ne_NoStep_NoWord => first | rfl | decide +kernel)
    (case su_NoUse_NoWord => first | rfl | k_is)
    (case ne_NoUse_NoWord => first | rfl | decide +kernel)
    (case su_NoRow_NoWord => first | rfl | k_is)
    (case ne_NoRow_NoWord => first | rfl | decide +kernel)
    (case ty_NoPact => k_is)
    (case su_LetterError_NoPact => first | rfl | k_is)
    (case ne_LetterError_NoPact => first | rfl | decide +kernel)
    (case su_NoWord_NoPact => first | rfl | k_is)
    (case ne_NoWord_NoPact => first | rfl | decide +kernel)
    (case su_NoStep_NoPact => first | rfl | k_is)
    (case ne_NoStep_NoPact => first | rfl | decide +kernel)
    (case su_NoUse_NoPact => first | rfl | k_is)
    (case ne_NoUse_NoPact => first | rfl | decide +kernel)
    (case su_NoRow_NoPact => first | rfl | k_is)
    (case ne_NoRow_NoPact => first | rfl | decide +kernel)
    (case sv_LetterError => k_is)
    (case sv_NoWord => k_is)
    (case sv_NoPact => k_is)
    (case sv_NoStep => k_is)
    (case sv_NoUse => k_is)
    (case sv_NoRow => k_is)
    (case ty_LetterError => k_is)
    (case su_NoWord_LetterError => first | rfl | k_is)
    (case ne_NoWord_LetterError => first | rfl | decide +kernel)
    (case su_NoPact_LetterError => first | rfl | k_is)
    (case ne_NoPact_LetterError => first | rfl | decide +kernel)
    (case su_NoStep_LetterError => first | rfl | k_is)
    (case ne_NoStep_LetterError => first | rfl | decide +kernel)
    (case su_NoUse_LetterError => first | rfl | k_is)
    (case ne_NoUse_LetterError => first | rfl | decide +kernel)
    (case su_NoRow_LetterError => first | rfl | k_is)
    (case ne_NoRow_LetterError => first | rfl | decide +kernel)
    (case su_LetterError_NoStep => first | rfl | k_is)
    (case su_NoWord_NoStep => first | rfl | k_is)
    (case su_NoPact_NoStep => first | rfl | k_is)
    (case su_NoStep_NoStep => first | rfl | k_is)
    (case su_NoUse_NoStep => first | rfl | k_is)
    (case su_NoRow_NoStep => first | rfl | k_is)
    (case a1 => k_is)
    (case l1 => k_is)
    (case c1 => k_is)
    (case k1 => k_is)
    (case a2 => k_is)
    (case l2 => k_is)
    (case c2 => k_is)
    (case k2 => k_is)
    (case a3 => k_is)
    (case l3 => k_is)
    (case c3 => k_is)
    (case k3 => k_is)
    (case a4 => k_is)
    (case l4 => k_is)
    (case c4 => k_is)
    (case k4 => k_is)
    (case a5 => k_is)
    (case l5 => k_is)
    (case c5 => k_is)
    (case k5 => k_is)
    (case a6 => k_is)
    (case l6 => k_is)
    (case c6 => k_is)
    (case k6 => k_is)
    (case a7 => k_is)
    (case l7 => k_is)
    (case c7 => k_is)
    (case k7 => k_is)
    (case a8 => k_is)
    (case l8 => k_is)
    (case c8 => k_is)
    (case k8 => k_is)
    (case a9 => k_is)
    (case l9 => k_is)
    (case c9 => k_is)
    (case k9 => k_is)
    (case a10 => k_is)
    (case l10 => k_is)
    (case c10 => k_is)
    (case k10 => k_is)
    (case a11 => k_is)
    (case l11 => k_is)
    (case c11 => k_is)
    (case k11 => k_is)
    (case a12 => k_is)
    (case l12 => k_is)
    (case c12 => k_is)
    (case k12 => k_is)
    (case a13 => k_is)
    (case l13 => k_is)
    (case c13 => k_is)
    (case k13 => k_is)
    (case a14 => k_is)
    (case l14 => k_is)
    (case c14 => k_is)
    (case k14 => k_is)
    (case a15 => k_is)
    (case l15 => k_is)
    (case c15 => k_is)
    (case k15 => k_is)
    (case a16 => k_is)
    (case l16 => k_is)
    (case c16 => k_is)
    (case k16 => k_is)
    (case a17 => k_is)
    (case l17 => k_is)
    (case c17 => k_is)
    (case k17 => k_is)
    (case z_str => k_is)
    (case z_len => k_is)
    (case z_range => k_is)
    (case m_FIGURES => k_is)
    (case z_int => k_is)
    (case z_isinstance => k_is)
    (case z_ValueError => k_is)
    (case z_bool => k_is)
    (case z_list => k_is)
    (case z_tuple => k_is)
